import PyProof.Rows.All
import Wide.All
import OpenK.AllK
import Wide.FinOn
import PySem.Challenge.RW_uf010010_07
section
open PySem.W.S
name_quick tw8044864981585461184 for modZ by modZ_eq
name_quick tw6520642898635845624 for modZ by modZ_eq
name_quick tw16894644501113301061 for modZ by modZ_eq
name_quick tw10532282187432871040 for modZ by modZ_eq
name_quick tw13430700769655835171 for modZ by modZ_eq
name_quick tw10176830198496441464 for modZ by modZ_eq
name_quick tw10787179336659852210 for modZ by modZ_eq
name_quick tw5201621001048347986 for modZ by modZ_eq
name_quick tw2214723502015627793 for modZ by modZ_eq
name_quick tw10670576474614021976 for modZ by modZ_eq
name_quick tw7412655187707968215 for modZ by modZ_eq
name_quick tw15950771880461499122 for modZ by modZ_eq
name_quick tw16575300430627097278 for modZ by modZ_eq
name_quick tw16603817076153247882 for modZ by modZ_eq
name_quick tw2463670111129863212 for modZ by modZ_eq
name_quick tw1929232637625609445 for modZ by modZ_eq
name_quick tw17817202984211506709 for modZ by modZ_eq
name_quick tw5449263355263212382 for modZ by modZ_eq
name_quick tw13317116101658911619 for modZ by modZ_eq
name_quick tw18288498126533140414 for modZ by modZ_eq
name_quick tw6905383366758362305 for modZ by modZ_eq
name_quick tw3333265752000926416 for modZ by modZ_eq
name_quick tw6369843711959920621 for modZ by modZ_eq
name_quick tw13537275799051352004 for modZ by modZ_eq
name_quick tw9304835914284079162 for modZ by modZ_eq
name_quick tw9520495277413826082 for modZ by modZ_eq
name_quick tw10969523476786470881 for modZ by modZ_eq
name_quick tw1131265676120233028 for modZ by modZ_eq
name_quick tw18399964303782974557 for modZ by modZ_eq
name_quick tw1077746535819890404 for modZ by modZ_eq
name_quick tw11384995618938681309 for modZ by modZ_eq
name_quick tw49018071998385011 for modZ by modZ_eq
name_quick tw12644441984304920158 for modZ by modZ_eq
name_quick tw11171953097418536697 for modZ by modZ_eq
name_quick tw5290527753111238575 for modZ by modZ_eq
name_quick tw6532779127254821724 for modZ by modZ_eq
name_quick tw16418788056316794922 for modZ by modZ_eq
name_quick tw4501677045451810042 for modZ by modZ_eq
name_quick tw11193197157398931155 for modZ by modZ_eq
name_quick tw16470611212394323507 for modZ by modZ_eq
name_quick tw9996039252504451848 for modZ by modZ_eq
name_quick tw299816145945939016 for modZ by modZ_eq
name_quick tw15161625555433049510 for modZ by modZ_eq
name_quick tw16798561772474814313 for modZ by modZ_eq
name_quick tw13145098053303969569 for modZ by modZ_eq
name_quick tw9865399577322550164 for modZ by modZ_eq
name_quick tw201784924697738228 for modZ by modZ_eq
name_quick tw7498869387106367045 for modZ by modZ_eq
name_quick tw2899284983889158985 for modZ by modZ_eq
name_quick tw16092423681146599307 for modZ by modZ_eq
name_quick tw3194246926345489421 for modZ by modZ_eq
name_quick tw11009555647603228588 for modZ by modZ_eq
name_quick tw11220803738268391450 for modZ by modZ_eq
name_quick tw16547266763082398247 for modZ by modZ_eq
name_quick tw3645927754634506945 for modZ by modZ_eq
name_quick tw8999655056955539721 for modZ by modZ_eq
name_quick tw7679032753983804777 for modZ by modZ_eq
name_quick tw4961260087222477738 for modZ by modZ_eq
name_quick tw13932682679328233012 for modZ by modZ_eq
name_quick tw2040764992221570906 for modZ by modZ_eq
name_quick tw11625841236546227591 for modZ by modZ_eq
name_quick tw5957084621210162732 for modZ by modZ_eq
name_quick tw16542389263513188023 for modZ by modZ_eq
name_quick tw5888116039446590191 for modZ by modZ_eq
name_quick tw9830681186958311511 for modZ by modZ_eq
name_quick tw13046693985768562825 for modZ by modZ_eq
name_quick tw3639872605897121619 for modZ by modZ_eq
name_quick tw14090152605151813582 for modZ by modZ_eq
name_quick tw14054547281239964326 for modZ by modZ_eq
name_quick tw12610401980782823739 for modZ by modZ_eq
name_quick tw8239151647906424891 for modZ by modZ_eq
name_quick tw1110844233406390153 for modZ by modZ_eq
name_quick tw13787588971679177812 for modZ by modZ_eq
name_quick tw2731725649751206521 for modZ by modZ_eq
name_quick tw16308901890717487701 for modZ by modZ_eq
name_quick tw17678330692121818 for modZ by modZ_eq
name_quick tw9644633110138586243 for modZ by modZ_eq
name_quick tw8175293358696609551 for modZ by modZ_eq
name_quick tw1526826001673324452 for modZ by modZ_eq
name_quick tw11112642358722144502 for modZ by modZ_eq
name_quick tw14893398646462565860 for modZ by modZ_eq
name_quick tw2706464295685981545 for modZ by modZ_eq
name_quick tw3212253577689893045 for modZ by modZ_eq
name_quick tw7762808109197695412 for modZ by modZ_eq
name_quick tw319652357951794921 for modZ by modZ_eq
name_quick tw7471732262718809755 for modZ by modZ_eq
name_quick tw2675133304669550310 for modZ by modZ_eq
name_quick tw17749558710052370620 for modZ by modZ_eq
name_quick tw5915666244095090732 for modZ by modZ_eq
name_quick tw8689808021819991299 for modZ by modZ_eq
name_quick tw5709085847789288843 for modZ by modZ_eq
name_quick tw10708525794791418100 for modZ by modZ_eq
name_quick tw6136879672317900810 for modZ by modZ_eq
name_quick tw11866953558316665313 for modZ by modZ_eq
name_quick tw15148984573996162842 for modZ by modZ_eq
name_quick tw18037472972925029975 for modZ by modZ_eq
name_quick tw16886872909128775944 for modZ by modZ_eq
name_quick tw16164749237653002613 for modZ by modZ_eq
name_quick tw3505488348207940341 for modZ by modZ_eq
name_quick tw9079225145543394725 for modZ by modZ_eq
name_quick tw10521814415692147525 for modZ by modZ_eq
name_quick tw17331624445311975476 for modZ by modZ_eq
name_quick tw8160041855171879081 for modZ by modZ_eq
name_quick tw9245401248196006035 for modZ by modZ_eq
name_quick tw13902483121051939493 for modZ by modZ_eq
name_quick tw17328158299522696693 for modZ by modZ_eq
name_quick tw9406485933414124537 for modZ by modZ_eq
name_quick tw15099991870419717557 for modZ by modZ_eq
name_quick tw6592824125270955260 for modZ by modZ_eq
name_quick tw14836791558678861712 for modZ by modZ_eq
name_quick tw10495858132344226885 for modZ by modZ_eq
name_quick tw15468545918031477667 for modZ by modZ_eq
name_quick tw11111022380507210716 for modZ by modZ_eq
name_quick tw864648238845330924 for modZ by modZ_eq
name_quick tw9318025452055343549 for modZ by modZ_eq
name_quick tw7925916328892271731 for modZ by modZ_eq
name_quick tw759777441636189883 for modZ by modZ_eq
name_quick tw6427673121831887885 for modZ by modZ_eq
name_quick tw13715941926119508840 for modZ by modZ_eq
name_quick tw15571269284016163153 for modZ by modZ_eq
name_quick tw11870776447983130124 for modZ by modZ_eq
name_quick tw2086323356375118054 for modZ by modZ_eq
name_quick tw17939783707670378024 for modZ by modZ_eq
name_quick tw16664633548193325771 for modZ by modZ_eq
name_quick tw3700641551740220914 for modZ by modZ_eq
name_quick tw1763374265478066965 for modZ by modZ_eq
name_quick tw15875456283099092818 for modZ by modZ_eq
name_quick tw8983220787917900820 for modZ by modZ_eq
name_quick tw14913017383006815342 for modZ by modZ_eq
name_quick tw14393950699845406196 for modZ by modZ_eq
name_quick tw9285947197575023546 for modZ by modZ_eq
name_quick tw13941468688060675700 for modZ by modZ_eq
name_quick tw773200698831849230 for modZ by modZ_eq
name_quick tw2435205656677621935 for modZ by modZ_eq
name_quick tw13567434387028759757 for modZ by modZ_eq
name_quick tw6918704305761499021 for modZ by modZ_eq
name_quick tw4833518335422428071 for modZ by modZ_eq
name_quick tw5300482893862961031 for modZ by modZ_eq
name_quick tw14235814421339450174 for modZ by modZ_eq
name_quick tw16573517578908266828 for modZ by modZ_eq
name_quick tw7104711841816374998 for modZ by modZ_eq
name_quick tw506757080192080002 for modZ by modZ_eq
name_quick tw7510790618964649461 for modZ by modZ_eq
name_quick tw2655181031685773206 for modZ by modZ_eq
name_quick tw11788839697998116698 for modZ by modZ_eq
name_quick tw8315640473112493972 for modZ by modZ_eq
name_quick tw1223728572156235731 for modZ by modZ_eq
name_quick tw1704678641949568823 for modZ by modZ_eq
name_quick tw15630805595569533275 for modZ by modZ_eq
name_quick tw1939908661650985791 for modZ by modZ_eq
name_quick tw4348384120097639742 for modZ by modZ_eq
name_quick tw2369892758485455613 for modZ by modZ_eq
name_quick tw8485129556664562052 for modZ by modZ_eq
name_quick tw14178375882664808736 for modZ by modZ_eq
name_quick tw2455098604189358432 for modZ by modZ_eq
name_quick tw17327702645795819948 for modZ by modZ_eq
name_quick tw11718527398104888598 for modZ by modZ_eq
name_quick tw17508126529014025803 for modZ by modZ_eq
name_quick tw1179075109379890921 for modZ by modZ_eq
name_quick tw2261778612940600448 for modZ by modZ_eq
name_quick tw18147020756378299192 for modZ by modZ_eq
name_quick tw15348091146019652226 for modZ by modZ_eq
name_quick tw9131034904405103042 for modZ by modZ_eq
name_quick tw13895701157718180452 for modZ by modZ_eq
name_quick tw9915185177241189765 for modZ by modZ_eq
name_quick tw9042349120176898356 for modZ by modZ_eq
name_quick tw11419610484377964905 for modZ by modZ_eq
name_quick tw9061971720262985271 for modZ by modZ_eq
name_quick tw18099597066064020683 for modZ by modZ_eq
name_quick tw12151017973211932359 for modZ by modZ_eq
name_quick tw10847874086176663311 for modZ by modZ_eq
name_quick tw8848494690672784638 for modZ by modZ_eq
name_quick tw13526842837696727657 for modZ by modZ_eq
name_quick tw11179581141163408205 for modZ by modZ_eq
name_quick tw10661382617964687435 for modZ by modZ_eq
name_quick tw18306891221393328791 for modZ by modZ_eq
name_quick tw9889795213379218042 for modZ by modZ_eq
name_quick tw785286350164699550 for modZ by modZ_eq
name_quick tw7795399605939355359 for modZ by modZ_eq
name_quick tw7128446535089342103 for modZ by modZ_eq
name_quick tw16009228104410498857 for modZ by modZ_eq
name_quick tw14002220126022253133 for modZ by modZ_eq
name_quick tw1234437774292865403 for modZ by modZ_eq
name_quick tw734623885329100137 for modZ by modZ_eq
name_quick tw3084075049492770034 for modZ by modZ_eq
name_quick tw14216429837229074659 for modZ by modZ_eq
name_quick tw4831555990472189419 for modZ by modZ_eq
name_quick tw11390432008675169655 for modZ by modZ_eq
name_quick tw12447912766166280815 for modZ by modZ_eq
name_quick tw3513272962699124050 for modZ by modZ_eq
name_quick tw17773466939946859645 for modZ by modZ_eq
name_quick tw12603791392549583312 for modZ by modZ_eq
name_quick tw11560200361851894588 for modZ by modZ_eq
name_quick tw8715053612311120497 for modZ by modZ_eq
end
set_option Elab.async false
set_option tactic.hygienic false
set_option linter.unusedVariables false
set_option maxRecDepth 100000
set_option maxHeartbeats 8000000
namespace Mine
open PySem PySem.W PyProof.Rows
open_top hd07 for PySem.Challenge.rw_uf010010_07
end Mine
namespace Mine
open PySem PySem.Calls PyProof.Rows PySem.SeqAt
theorem Za:type_of% @Nat.le_trans:=@Nat.le_trans
theorem Zb:type_of% @List.getElem?_eq_some_iff:=@List.getElem?_eq_some_iff
theorem Zc:type_of% @List.length_map:=@List.length_map
theorem Zd:type_of% @List.mem_cons_of_mem:=@List.mem_cons_of_mem
theorem Ze:type_of% @List.append_assoc:=@List.append_assoc
theorem Zf:type_of% @List.length_append:=@List.length_append
theorem Zg:type_of% @List.mem_cons:=@List.mem_cons
theorem Zh:type_of% @Exists.elim:=@Exists.elim
theorem Zi:type_of% @List.getElem?_set_ne:=@List.getElem?_set_ne
theorem Zj:type_of% @List.mem_singleton:=@List.mem_singleton
theorem Zk:type_of% @Nat.lt_of_le_of_lt:=@Nat.lt_of_le_of_lt
theorem Zl:type_of% @Nat.le_refl:=@Nat.le_refl
theorem Zm:type_of% @List.mem_append:=@List.mem_append
theorem Zn:type_of% @List.mem_of_getElem?:=@List.mem_of_getElem?
theorem Zo:type_of% @Nat.not_lt:=@Nat.not_lt
theorem Zp:type_of% @List.getElem?_eq_getElem:=@List.getElem?_eq_getElem
theorem Zq:type_of% @Nat.le_of_lt:=@Nat.le_of_lt
theorem Zr:type_of% @Nat.le_of_eq:=@Nat.le_of_eq
theorem Zs:type_of% @Nat.lt_succ_self:=@Nat.lt_succ_self
theorem Zt:type_of% @List.mem_cons_self:=@List.mem_cons_self
theorem Zu:type_of% @Heap.lt_size:=@Heap.lt_size
theorem Zv:type_of% @Bool.false_ne_true:=@Bool.false_ne_true
theorem Zw:type_of% @List.getElem?_set_self:=@List.getElem?_set_self
theorem Zx:type_of% @Heap.get?_push_of_some:=@Heap.get?_push_of_some
theorem Zy:type_of% @Nat.le_add_right:=@Nat.le_add_right
theorem Zz:type_of% @Nat.lt_of_lt_of_le:=@Nat.lt_of_lt_of_le
theorem Zab:type_of% @Option.some.inj:=@Option.some.inj
theorem Zbb:type_of% @List.getElem?_append_left:=@List.getElem?_append_left
theorem Zdb:type_of% @List.getElem?_map:=@List.getElem?_map
theorem Zeb:type_of% @Nat.le_succ_of_le:=@Nat.le_succ_of_le
theorem Zfb:type_of% @Int.ofNat_lt:=@Int.ofNat_lt
theorem Zgb:type_of% @of_decide_eq_true:=@of_decide_eq_true
theorem Zhb:type_of% @wpAny_bind:=@wpAny_bind
theorem Zib:type_of% @wpAny_mono:=@wpAny_mono
theorem Zjb:type_of% @wpAny_pure:=@wpAny_pure
theorem Zkb:type_of% @Nat.zero_le:=@Nat.zero_le
theorem Zmb:type_of% @decide_eq_true:=@decide_eq_true
theorem Zob:type_of% @Bool.and_eq_true:=@Bool.and_eq_true
theorem Zpb:type_of% @Option.map_eq_some_iff:=@Option.map_eq_some_iff
theorem Zqb:type_of% @Heap.size_push:=@Heap.size_push
theorem Zsb:type_of% @List.mem_map:=@List.mem_map
theorem Zub:type_of% @Nat.lt_irrefl:=@Nat.lt_irrefl
theorem Zvb:type_of% @Nat.mul_le_mul_right:=@Nat.mul_le_mul_right
theorem Zwb:type_of% @Nat.succ_le_succ:=@Nat.succ_le_succ
theorem Zxb:type_of% @List.mem_append_left:=@List.mem_append_left
theorem Zyb:type_of% @List.mem_append_right:=@List.mem_append_right
theorem Zdc:type_of% @List.not_mem_nil:=@List.not_mem_nil
theorem Zfc:type_of% @List.map_append:=@List.map_append
theorem Zgc:type_of% @List.take_length:=@List.take_length
theorem Zhc:type_of% @Int.ofNat_le:=@Int.ofNat_le
theorem Zic:type_of% @List.length_take_le':=@List.length_take_le'
theorem Zkc:type_of% @Nat.le_of_succ_le:=@Nat.le_of_succ_le
theorem Zlc:type_of% @List.append_nil:=@List.append_nil
theorem Zmc:type_of% @beq_eq_false_iff_ne:=@beq_eq_false_iff_ne
theorem Znc:type_of% @Nat.ne_of_lt:=@Nat.ne_of_lt
theorem Zoc:type_of% @Nat.ne_of_gt:=@Nat.ne_of_gt
theorem Zrc:type_of% @decide_eq_false:=@decide_eq_false
theorem Zsc:type_of% @Heap.get?_push_size:=@Heap.get?_push_size
theorem Ztc:type_of% @List.getElem?_append_right:=@List.getElem?_append_right
theorem Zvc:type_of% @Int.natCast_nonneg:=@Int.natCast_nonneg
theorem Zxc:type_of% @List.nodup_cons:=@List.nodup_cons
theorem Zzc:type_of% @Int.toNat_natCast:=@Int.toNat_natCast
set_option genSizeOf false
section
inductive V where
 | none
 | bool (b:Bool)
 | int (i:Int)
 | str (s:Str)
 | tup (vs:List V)
 | ref (l:Nat)
 | glob (x:Str)
 | mth (c x:Str)
 | type (n:String)
 | bi (id:String)
 | rng (n:Int)
 | exc (c:Str)
 | scr (xs:List Int)
 | rev (l n:Nat)
inductive MObj where
 | list (vs:List V)
 | sdict (kvs:List (Str × V))
 | tdict (kvs:List ((Str × Int) × V))
 | inst (c:Str) (fs:List (Str × V))
theorem ex2 {α:Sort _} {β:Sort _} {p:α → β → Prop} {P:Prop} (h:∃ a b,p a b) (k:∀ a b,p a b → P):P:=by
 obtain ⟨a,b,h⟩:=h
 exact k _ _ h
theorem ex3 {α:Sort _} {β:Sort _} {γ:Sort _} {p:α → β → γ → Prop} {P:Prop} (h:∃ a b c,p a b c) (k:∀ a b c,p a b c → P):P:=by
 obtain ⟨a,b,c,h⟩:=h
 exact k _ _ _ h
theorem ex4 {α:Sort _} {β:Sort _} {γ:Sort _} {δ:Sort _} {p:α → β → γ → δ → Prop} {P:Prop} (h:∃ a b c d,p a b c d) (k:∀ a b c d,p a b c d → P):P:=by
 obtain ⟨a,b,c,d,h⟩:=h
 exact k _ _ _ _ h
theorem ex7 {α:Sort _} {β:Sort _} {γ:Sort _} {δ:Sort _} {ε:Sort _} {ζ:Sort _} {η:Sort _} {p:α → β → γ → δ → ε → ζ → η → Prop} {P:Prop} (h:∃ a b c d e f g,p a b c d e f g) (k:∀ a b c d e f g,p a b c d e f g → P):P:=by
 obtain ⟨a,b,c,d,e,f,g,h⟩:=h
 exact k _ _ _ _ _ _ _ h
theorem and3 {a1 a2 a3 P:Prop} (h:a1 ∧ a2 ∧ a3) (k:a1 → a2 → a3 → P):P:=by
 obtain ⟨h0,h1,h2⟩:=h
 exact k h0 h1 h2
theorem and4 {a1 a2 a3 a4 P:Prop} (h:a1 ∧ a2 ∧ a3 ∧ a4) (k:a1 → a2 → a3 → a4 → P):P:=by
 obtain ⟨h0,h1,h2,h3⟩:=h
 exact k h0 h1 h2 h3
theorem and5 {a1 a2 a3 a4 a5 P:Prop} (h:a1 ∧ a2 ∧ a3 ∧ a4 ∧ a5) (k:a1 → a2 → a3 → a4 → a5 → P):P:=by
 obtain ⟨h0,h1,h2,h3,h4⟩:=h
 exact k h0 h1 h2 h3 h4
theorem and7 {a1 a2 a3 a4 a5 a6 a7 P:Prop} (h:a1 ∧ a2 ∧ a3 ∧ a4 ∧ a5 ∧ a6 ∧ a7) (k:a1 → a2 → a3 → a4 → a5 → a6 → a7 → P):P:=by
 obtain ⟨h0,h1,h2,h3,h4,h5,h6⟩:=h
 exact k h0 h1 h2 h3 h4 h5 h6
theorem and11 {a1 a2 a3 a4 a5 a6 a7 a8 a9 a10 a11 P:Prop} (h:a1 ∧ a2 ∧ a3 ∧ a4 ∧ a5 ∧ a6 ∧ a7 ∧ a8 ∧ a9 ∧ a10 ∧ a11) (k:a1 → a2 → a3 → a4 → a5 → a6 → a7 → a8 → a9 → a10 → a11 → P):P:=by
 obtain ⟨h0,h1,h2,h3,h4,h5,h6,h7,h8,h9,h10⟩:=h
 exact k h0 h1 h2 h3 h4 h5 h6 h7 h8 h9 h10
inductive All2 {α β:Type} (R:α → β → Prop):List α → List β → Prop where
 | nil:All2 R [] []
 | cons {a:α} {b:β} {as:List α} {bs:List β} (h:R a b) (t:All2 R as bs):All2 R (a :: as) (b :: bs)
section
variable {α β:Type} {R R':α → β → Prop} {as cs:List α} {bs ds:List β}
theorem All2.imp (k:∀ a b,R a b → R' a b) (h:All2 R as bs):All2 R' as bs:=h.rec .nil fun h zz ih => .cons (k _ _ h) ih
theorem All2.length (h:All2 R as bs):bs.length = as.length:=h.rec rfl fun zz zz ih => congrArg Nat.succ ih
theorem All2.append (h:All2 R as bs) (g:All2 R cs ds):All2 R (as ++ cs) (bs ++ ds):=h.rec g fun h zz ih => .cons h ih
theorem All2.get (h:All2 R as bs):∀ (i:Nat) (v:α),as[i]? = some v → ∃ x,bs[i]? = some x ∧ R v x:=h.rec (fun zz zz e => (by cases e)) fun h zz ih i => i.rec (fun v e => ⟨_,rfl,Zab e ▸ h⟩) fun i zz => ih i
theorem All2.take (h:All2 R as bs):∀ n:Nat,All2 R (as.take n) (bs.take n):=h.rec (fun n => n.rec .nil fun zz zz => .nil) fun h zz ih n => n.rec .nil fun n zz => .cons h (ih n)
theorem All2.drop (h:All2 R as bs):∀ n:Nat,All2 R (as.drop n) (bs.drop n):=h.rec (fun n => n.rec .nil fun zz zz => .nil) fun h t ih n => n.rec (.cons h t) fun n zz => ih n
end
theorem no_some {α:Type} {a:α} (h:(none:Option α) = some a):False:=(by cases h)
noncomputable def atL {α:Type} (f:List V → Option α):Option MObj → Option α
 | some (.list vs) => f vs
 | z1 => none
theorem atL_out {α:Type} {f:List V → Option α} {o:Option MObj} {x:α} (h:atL f o = some x):∃ vs,o = some (.list vs) ∧ f vs = some x:=by
 rcases o with zz | o
 · exact (no_some h).elim
 · cases o <;> first | exact ⟨_,rfl,h⟩ | exact (no_some h).elim
theorem atL_of {α:Type} {f:List V → Option α} {o:Option MObj} {vs:List V} (h:o = some (.list vs)):atL f o = f vs:=h ▸ rfl
theorem ite_some {α:Type} {c:Prop} [Decidable c] {a x:α} (h:(if c then some a else none) = some x):c ∧ a = x:=by
 by_cases q:c
 · rw [if_pos q] at h; exact ⟨q,Zab h⟩
 · rw [if_neg q] at h; exact (no_some h).elim
theorem sm_inj {α:Type} {a b:α} (h:some a = some b):a = b:=Zab h
noncomputable abbrev Hp:=List MObj
noncomputable abbrev Inj:=List (Addr × Addr)
noncomputable def own (ι:Inj):List Addr:=ι.flatMap fun p => [p.1,p.2]
theorem mem_own {ι:Inj} {a:Addr}:a ∈ own ι ↔ ∃ p ∈ ι,a = p.1 ∨ a = p.2:=by
 simp [own]
theorem own_append (ι κ:Inj):own (ι ++ κ) = own ι ++ own κ:=by simp [own]
structure Tp where
 prog:Program
 w:World
 b0:Heap
 os:OsState
 K:PySem.W.Frag
 gv:Str → Option V
 hd:Bool
noncomputable def Tp.g (T:Tp) (x:Str):Option Value:=(PySem.W.nsIn T.K mainGlobals x).join
noncomputable def refO:Option Value → Option Addr
 | some (.ref a) => some a
 | z1 => none
theorem refO_out {o:Option Value} {a:Addr} (h:refO o = some a):o = some (.ref a):=by
 rcases o with zz | o
 · exact (no_some h).elim
 · cases o <;> first | exact (no_some h).elim | exact congrArg (some <| Value.ref ·) (sm_inj h)
noncomputable def Tp.c (T:Tp) (x:Str):Option Addr:=refO (T.g x)
noncomputable def Tp.m (T:Tp) (c x:Str):Option Value:=(T.c c).bind fun C => (PySem.W.findIn T.K (.ref C) x).join
noncomputable def frozen (o:Obj):Bool:=o.cls == .type "tuple" || o.cls == .type "range"
noncomputable def itTypes:List String:=["list_iterator", "tuple_iterator", "range_iterator", "longrange_iterator", "str_iterator", "str_ascii_iterator", "dict_keyiterator", "list_reverseiterator"]
noncomputable def iterish (o:Obj):Bool:=itTypes.any fun n => o.cls == .type n
theorem iterish_out {o:Obj} (h:iterish o = true):∃ n ∈ itTypes,o.cls = .type n:=(List.any_eq_true.mp h).elim fun n h => ⟨n,h.1,beq_iff_eq.mp h.2⟩
theorem iterish_of {o:Obj} {n:String} (h:o.cls = .type n) (m:n ∈ itTypes):iterish o = true:=List.any_eq_true.mpr ⟨n,m,beq_iff_eq.mpr h⟩
theorem iterish_no {o:Obj} {n:String} (h:o.cls = .type n) (m:n ∉ itTypes):iterish o = false:=Bool.eq_false_iff.mpr fun q => (iterish_out q).elim fun k g => m (Value.type.inj (h.symm.trans g.2) ▸ g.1)
noncomputable def loose (o:Obj):Bool:=match o.cls with
 | .type n => n != "frame"
 | z1 => false
theorem loose_ref {o:Obj} {C:Addr} (h:o.cls = .ref C):loose o = false:=by simp [loose,h]
theorem loose_eq {o o':Obj} (h:o'.cls = o.cls):loose o' = loose o:=by simp [loose,h]
theorem iterish_loose {o:Obj} (h:iterish o = true):loose o = true:=(iterish_out h).elim fun n g => by
 unfold loose; rw [g.2]; exact (by decide:∀ n ∈ itTypes,(n != "frame") = true) n g.1
noncomputable def itr (o:Obj):Bool:=o.cls.ctorIdx != Value.ctorIdx (.type "") || iterish o
theorem iterish_ref {o:Obj} {C:Addr} (h:o.cls = .ref C):iterish o = false:=Bool.eq_false_iff.mpr fun q => (iterish_out q).elim fun k g => nomatch h.symm.trans g.2
theorem iterish_eq {o o':Obj} (h:o'.cls = o.cls):iterish o' = iterish o:=by unfold iterish; rw [h]
theorem itr_eq {o o':Obj} (h:o'.cls = o.cls):itr o' = itr o:=by unfold itr; rw [iterish_eq h,h]
theorem itr_iterish {o:Obj} (h:itr o = false):iterish o = false:=(Bool.or_eq_false_iff.mp h).2
theorem itr_ref {o:Obj} {C:Addr} (h:itr o = false) (c:o.cls = .ref C):False:=by
 unfold itr at h; rw [c] at h; cases h
theorem itr_no {o:Obj} {n:String} (h:o.cls = .type n) (m:n ∉ itTypes):itr o = false:=by unfold itr; rw [iterish_no h m,h]; rfl
mutual
noncomputable def VRel (T:Tp) (ι:Inj) (h:Heap):V → Value → Prop
 | .none,v => v = .none
 | .bool b,v => v = .bool b
 | .int i,v => ∃ t,v = .int i t
 | .str s,v => ∃ t,v = .str s t
 | .tup vs,v => ∃ a items n,v = .ref a ∧ IsT h a items n ∧ VRels T ι h vs items.toList
 | .ref l,v => ∃ a d,v = .ref a ∧ ι[l]? = some (a,d)
 | .glob x,v => T.g x = some v
 | .mth c x,v => T.m c x = some v
 | .type n,v => v = .type n
 | .bi id,v => v = .builtin id
 | .rng n,v => ∃ a t1 t2 t3,v = .ref a ∧ IsRange h a 0 n 1 t1 t2 t3
 | .exc c,v => ∃ a o C,v = .ref a ∧ h.get? a = some o ∧ T.c c = some C ∧ o.cls = .ref C
 | .scr xs,v => ∃ a o items n,v = .ref a ∧ T.b0.get? a = some o ∧ o.cls = .type "list" ∧ o.data = .seq items n ∧ ∃ l:List (Int × Tok),items.toList = l.map (fun p => Value.int p.1 p.2) ∧ l.map (·.1) = xs
 | .rev z1 z2,z3 => False
noncomputable def VRels (T:Tp) (ι:Inj) (h:Heap):List V → List Value → Prop
 | [],[] => True
 | v :: vs,x :: xs => VRel T ι h v x ∧ VRels T ι h vs xs
 | [],z1 :: z2 => False
 | z1 :: z2,[] => False
end
inductive OptR {α β:Type} (R:α → β → Prop):Option α → Option β → Prop where
 | none:OptR R none none
 | some {a:α} {b:β} (h:R a b):OptR R (some a) (some b)
theorem OptR.imp {α β:Type} {R R':α → β → Prop} (k:∀ a b,R a b → R' a b) {x:Option α} {y:Option β} (h:OptR R x y):OptR R' x y:=h.rec .none fun h => .some (k _ _ h)
theorem OptR.isSome {α β:Type} {R:α → β → Prop} {x:Option α} {y:Option β} (h:OptR R x y):y.isSome = x.isSome:=h.rec rfl fun zz => rfl
noncomputable abbrev ORelV (T:Tp) (ι:Inj) (h:Heap):Option V → Option Value → Prop:=OptR (VRel T ι h)
inductive KRel {α β γ:Type} (R:β → γ → Prop):List (α × β) → List (α × γ) → Prop where
 | nil:KRel R [] []
 | cons {k:α} {v:β} {x:γ} {r:List (α × β)} {q:List (α × γ)} (h:R v x) (t:KRel R r q):KRel R ((k,v) :: r) ((k,x) :: q)
section
variable {α β γ:Type} {R R':β → γ → Prop} {a:List (α × β)} {b:List (α × γ)}
theorem KRel.imp (k:∀ a b,R a b → R' a b) (h:KRel R a b):KRel R' a b:=h.rec .nil fun h zz ih => .cons (k _ _ h) ih
theorem KRel.length (h:KRel R a b):b.length = a.length:=h.rec rfl fun zz zz ih => congrArg Nat.succ ih
theorem KRel.push {k:α} {v:β} {x:γ} (h:KRel R a b) (r:R v x):KRel R (a ++ [(k,v)]) (b ++ [(k,x)]):=h.rec (.cons r .nil) fun h zz ih => .cons h ih
variable [DecidableEq α] {k:α}
theorem KRel.find (h:KRel R a b):OptR R ((a.find? fun kv => decide (kv.1 = k)).map (·.2)) ((b.find? fun kv => decide (kv.1 = k)).map (·.2)):=by
 induction h with
 | nil => exact .none
 | @cons k' z1 z2 z3 z4 h z5 ih =>
   by_cases e:k' = k
   · rw [List.find?_cons,List.find?_cons,Zmb e]; exact .some h
   · rw [List.find?_cons,List.find?_cons,Zrc e]; exact ih
theorem KRel.any (h:KRel R a b):(b.any fun kv => decide (kv.1 = k)) = a.any fun kv => decide (kv.1 = k):=h.rec rfl fun zz zz ih => congrArg (_ || ·) ih
theorem KRel.put {v:β} {x:γ} {f:α × γ → α × γ} (hf:∀ p,f p = if p.1 = k then (p.1,x) else p) (h:KRel R a b) (r:R v x):KRel R (a.map fun kv => if kv.1 = k then (kv.1,v) else kv) (b.map f):=by
 induction h with
 | nil => exact .nil
 | @cons k' z1 z2 z3 z4 h z5 ih =>
   rw [List.map_cons,List.map_cons,hf]
   by_cases e:k' = k
   · rw [if_pos e,if_pos e]; exact .cons r ih
   · rw [if_neg e,if_neg e]; exact .cons h ih
end
theorem find_some {α β:Type} [DecidableEq α] {a:List (α × β)} {k:α}:((a.find? fun kv => decide (kv.1 = k)).map (·.2)).isSome = a.any fun kv => decide (kv.1 = k):=by
 rw [Option.isSome_map,Bool.eq_iff_iff,List.find?_isSome,List.any_eq_true]
structure Mono (ι:Inj) (h:Heap) (ι':Inj) (h':Heap):Prop where
 pre:∃ κ,ι' = ι ++ κ
 cls:∀ a o,h.get? a = some o → loose o = false → ∃ o',h'.get? a = some o' ∧ o'.cls = o.cls
 frz:∀ a o,h.get? a = some o → frozen o = true → h'.get? a = some o
theorem Mono.get {ι ι':Inj} {h h':Heap} (x:Mono ι h ι' h') {l:Nat} {p:Addr × Addr} (e:ι[l]? = some p):ι'[l]? = some p:=by
 obtain ⟨κ,rfl⟩:=x.pre
 rw [Zbb]
 · exact e
 · exact (Zb.mp e).1
theorem VRels.all {T:Tp} {ι:Inj} {h:Heap} {vs:List V}:∀ {xs:List Value},VRels T ι h vs xs → All2 (VRel T ι h) vs xs:=by
 induction vs with
 | nil => intro xs e; cases xs; exact .nil; exact (show False from e).elim
 | cons v vs ih => intro xs e; cases xs; exact (show False from e).elim; exact .cons e.1 (ih e.2)
theorem All2.vrels {T:Tp} {ι:Inj} {h:Heap} {vs:List V} {xs:List Value} (e:All2 (VRel T ι h) vs xs):VRels T ι h vs xs:=e.rec trivial fun h zz ih => ⟨h,ih⟩
theorem VRel.mono {T:Tp} {ι ι':Inj} {h h':Heap} (m:Mono ι h ι' h') {v:V}:∀ {x:Value},VRel T ι h v x → VRel T ι' h' v x :=
 V.rec (motive_1:=fun v => ∀ {x},VRel T ι h v x → VRel T ι' h' v x) (motive_2:=fun vs => ∀ {xs},VRels T ι h vs xs → VRels T ι' h' vs xs)
   (fun e => e) (fun zz {_} e => e) (fun zz {_} e => e) (fun zz {_} e => e) (fun zz ih {_} e => ex3 e fun a items n e => ⟨a,items,n,e.1,m.frz a _ e.2.1 (by simp [frozen]),ih e.2.2⟩) (fun zz {_} e => ex2 e fun a d e => ⟨a,d,e.1,m.get e.2⟩) (fun zz {_} e => e) (fun zz zz {_} e => e) (fun zz {_} e => e) (fun zz {_} e => e)
   (fun zz {_} e => ex4 e fun a t1 t2 t3 e => ⟨a,t1,t2,t3,e.1,m.frz a _ e.2 (by simp [frozen])⟩) (fun zz {_} e => ex3 e fun a o C e => (m.cls a o e.2.1 (loose_ref e.2.2.2)).elim fun o' q => ⟨a,o',C,e.1,q.1,e.2.2.1,q.2.trans e.2.2.2⟩) (fun zz {_} e => e) (fun zz zz {_} e => e)
   (fun {xs} e => by cases xs; exact e; exact (show False from e).elim) (fun v vs i1 i2 {xs} e => by cases xs; exact (show False from e).elim; exact ⟨i1 e.1,i2 e.2⟩) v
theorem VRels.mono {T:Tp} {ι ι':Inj} {h h':Heap} (m:Mono ι h ι' h') {vs:List V} {xs:List Value} (e:VRels T ι h vs xs):VRels T ι' h' vs xs:=(e.all.imp fun zz zz r => r.mono m).vrels
theorem ORelV.mono {T:Tp} {ι ι':Inj} {h h':Heap} (m:Mono ι h ι' h') {v:Option V} {x:Option Value} (r:ORelV T ι h v x):ORelV T ι' h' v x:=r.imp fun zz zz r => r.mono m
theorem VRels.length {T:Tp} {ι:Inj} {h:Heap} {vs:List V} {xs:List Value} (e:VRels T ι h vs xs):xs.length = vs.length:=e.all.length
theorem VRels.nil_iff {T:Tp} {ι:Inj} {h:Heap} {xs:List Value}:VRels T ι h [] xs ↔ xs = []:=by
 cases xs
 · exact ⟨fun zz => rfl,fun zz => trivial⟩
 · exact ⟨fun h => (show False from h).elim,fun h => (by cases h)⟩
theorem VRels.cons_iff {T:Tp} {ι:Inj} {h:Heap} {v:V} {vs:List V} {xs:List Value}:VRels T ι h (v :: vs) xs ↔ ∃ x r,xs = x :: r ∧ VRel T ι h v x ∧ VRels T ι h vs r:=by
 cases xs with
 | nil => exact ⟨fun h => (show False from h).elim,fun h => ex2 h fun zz zz h => (by cases h.1)⟩
 | cons x r => exact ⟨fun h => ⟨x,r,rfl,h.1,h.2⟩,fun h => ex2 h fun x' r' h => ⟨(List.cons.inj h.1).1 ▸ h.2.1,(List.cons.inj h.1).2 ▸ h.2.2⟩⟩
theorem VRels.append {T:Tp} {ι:Inj} {h:Heap} {vs us:List V} {xs ys:List Value} (d:VRels T ι h vs xs) (e:VRels T ι h us ys):VRels T ι h (vs ++ us) (xs ++ ys):=(d.all.append e.all).vrels
theorem VRels.get {T:Tp} {ι:Inj} {h:Heap} {vs:List V} {xs:List Value} {i:Nat} {v:V} (d:VRels T ι h vs xs) (e:vs[i]? = some v):∃ x,xs[i]? = some x ∧ VRel T ι h v x:=d.all.get i v e
structure Ext (T:Tp) (F:List Addr) (ι:Inj) (h:Heap) (ι':Inj) (h':Heap):Prop where
 pre:∃ κ,ι' = ι ++ κ ∧ ∀ p ∈ κ,h.objs.size ≤ p.1 ∧ h.objs.size ≤ p.2
 size:h.objs.size ≤ h'.objs.size
 cls:∀ a o,h.get? a = some o → loose o = false → ∃ o',h'.get? a = some o' ∧ o'.cls = o.cls
 frz:∀ a o,h.get? a = some o → frozen o = true → h'.get? a = some o
 keep:∀ a o,h.get? a = some o → a ∉ own ι → a ∉ F → o.cls ≠ .type "frame" → h'.get? a = some o
 frm:∀ a o,h.get? a = some o → a ∉ own ι → a ∉ F → ∃ sl,h'.get? a = some { o with slots:=sl }
theorem Ext.refl (T:Tp) (F:List Addr) (ι:Inj) (h:Heap):Ext T F ι h ι h :=
 ⟨⟨[],by simp,by simp⟩,Zl _,fun zz o e zz => ⟨o,e,rfl⟩,fun zz zz e zz => e,fun zz zz e zz zz zz => e,fun zz o e zz zz => ⟨o.slots,e⟩⟩
theorem Ext.mono {T:Tp} {F:List Addr} {ι ι':Inj} {h h':Heap} (x:Ext T F ι h ι' h'):Mono ι h ι' h' :=
 ⟨(by obtain ⟨κ,e,_⟩:=x.pre; exact ⟨κ,e⟩),x.cls,x.frz⟩
theorem Ext.not_own {T:Tp} {F:List Addr} {ι ι':Inj} {h h':Heap} (x:Ext T F ι h ι' h') {a:Addr} (hn:a ∉ own ι) (hl:a < h.objs.size):a ∉ own ι':=by
 obtain ⟨κ,rfl,hk⟩:=x.pre
 rw [own_append,Zm,not_or]
 refine ⟨hn,fun hm => ?_⟩
 obtain ⟨p,hp,e⟩:=mem_own.mp hm
 have:=hk p hp
 rcases e with rfl | rfl
 · exact absurd this.1 (Nat.not_le.mpr hl)
 · exact absurd this.2 (Nat.not_le.mpr hl)
theorem Ext.trans {T:Tp} {F:List Addr} {ι ι₁ ι₂:Inj} {h h₁ h₂:Heap} (x:Ext T F ι h ι₁ h₁) (y:Ext T F ι₁ h₁ ι₂ h₂):Ext T F ι h ι₂ h₂:=by
 refine ⟨?_,Za x.size y.size,fun a o e i => ?_,fun a o e f => y.frz a o (x.frz a o e f) f,fun a o e n f c => ?_,fun a o e n f => ?_⟩
 · obtain ⟨κ,rfl,hk⟩:=x.pre
   obtain ⟨κ',rfl,hk'⟩:=y.pre
   refine ⟨κ ++ κ',by simp,fun p hp => ?_⟩
   rcases Zm.mp hp with hp | hp
   · exact hk p hp
   · exact ⟨Za x.size (hk' p hp).1,Za x.size (hk' p hp).2⟩
 · obtain ⟨o₁,e₁,c₁⟩:=x.cls a o e i
   obtain ⟨o₂,e₂,c₂⟩:=y.cls a o₁ e₁ ((loose_eq c₁).trans i)
   exact ⟨o₂,e₂,c₂.trans c₁⟩
 · exact y.keep a o (x.keep a o e n f c) (x.not_own n (Zu e)) f c
 · obtain ⟨sl,e₁⟩:=x.frm a o e n f
   obtain ⟨sl',e₂⟩:=y.frm a _ e₁ (x.not_own n (Zu e)) f
   exact ⟨sl',e₂⟩
theorem Ext.weaken {T:Tp} {F G:List Addr} {ι ι':Inj} {h h':Heap} (x:Ext T F ι h ι' h') (hFG:∀ a ∈ F,a < h.objs.size → a ∈ G):Ext T G ι h ι' h' :=
 ⟨x.pre,x.size,x.cls,x.frz,fun a o e n f c => x.keep a o e n (fun q => f (hFG a q (Zu e))) c,fun a o e n f => x.frm a o e n (fun q => f (hFG a q (Zu e)))⟩
theorem Ext.push (T:Tp) (F:List Addr) (ι:Inj) (h:Heap) (o:Obj):Ext T F ι h ι (h.push o) :=
 ⟨⟨[],by simp,by simp⟩,by rw [Zqb]; exact Zq (Zs h.objs.size),fun zz o e zz => ⟨o,Zx _ e,rfl⟩,fun zz zz e zz => Zx _ e,fun zz zz e zz zz zz => Zx _ e,
   fun zz o e zz zz => ⟨o.slots,Zx _ e⟩⟩
theorem Ext.of_keeps {T:Tp} {F:List Addr} {ι:Inj} {h h':Heap} (hs:h.objs.size ≤ h'.objs.size) (k:∀ b o,h.get? b = some o → h'.get? b = some o):Ext T F ι h ι h' :=
 ⟨⟨[],by simp,by simp⟩,hs,fun zz o e zz => ⟨o,k _ _ e,rfl⟩,fun zz zz e zz => k _ _ e,fun zz zz e zz zz zz => k _ _ e,fun zz o e zz zz => ⟨o.slots,k _ _ e⟩⟩
theorem Ext.of_sameBut {T:Tp} {F:List Addr} {ι:Inj} {h h':Heap} {a:Addr} {o o':Obj} (hs:Heap.SameBut a h h') (ho:h.get? a = some o) (ho':h'.get? a = some o') (hc:o'.cls = o.cls)
   (hf:frozen o = false) (hin:a ∈ own ι ∨ a ∈ F):Ext T F ι h ι h':=by
 refine ⟨⟨[],by simp,by simp⟩,Zr hs.1.symm,fun b x e zz => ?_,fun b x e f => ?_,fun b x e n f zz => ?_,fun b x e n f => ⟨x.slots,?_⟩⟩
 · by_cases q:b = a
   · subst q; rw [ho] at e; cases e; exact ⟨o',ho',hc⟩
   · exact ⟨x,(hs.2 b q).trans e,rfl⟩
 · by_cases q:b = a
   · subst q; rw [ho] at e; cases e; rw [hf] at f; cases f
   · exact (hs.2 b q).trans e
 · by_cases q:b = a
   · subst q; rcases hin with q | q
     · exact absurd q n
     · exact absurd q f
   · exact (hs.2 b q).trans e
 · by_cases q:b = a
   · subst q; rcases hin with q | q
     · exact absurd q n
     · exact absurd q f
   · exact (hs.2 b q).trans e
end
section
section
variable {prog:Program} {w:World} {A:Around} {E:Value → Shared → Prop} {s:Shared}
noncomputable def IsPair (h:Heap) (k:Str × Int) (a:Addr):Prop:=∃ o t u n,h.get? a = some o ∧ (o.cls = .type "tuple" ∧ o.dict = none ∧ o.slots = #[]) ∧ o.data = .seq #[.str k.1 t,.int k.2 u] n
theorem IsPair.typeIs {k:Str × Int} {a:Addr} (x:IsPair s.heap k a):s.TypeIs (.ref a) "tuple":=(by obtain ⟨o,_,_,_,ho,hc,_⟩:=x; exact ⟨o,ho,hc.1⟩)
theorem IsPair.inj {h:Heap} {a:Addr} {x y:Str × Int} (hx:IsPair h x a) (hy:IsPair h y a):x = y:=by
 obtain ⟨o,t,u,n,ho,zz,hd⟩:=hx
 obtain ⟨o',t',u',n',ho',zz,hd'⟩:=hy
 obtain rfl:o = o':=Zab (ho.symm.trans ho')
 rw [hd] at hd'
 injection hd' with h1 _
 simp only [Array.mk.injEq,List.cons.injEq,Value.str.injEq,Value.int.injEq] at h1
 exact Prod.ext h1.1.1 h1.2.1.1
theorem IsPair.keeps {h h':Heap} {k:Str × Int} {a d:Addr} {o:Obj} {es ep} (x:IsPair h k a) (ho:h.get? d = some o) (hd:o.data = .dict es ep) (hs:Heap.SameBut d h h'):IsPair h' k a:=by
 obtain ⟨o',t,u,n,ho',hc,hd'⟩:=x
 have hne:a ≠ d:=by
   rintro rfl
   obtain rfl:o' = o:=Zab (ho'.symm.trans ho)
   rw [hd] at hd'; exact (by cases hd')
 exact ⟨o',t,u,n,(hs.2 a hne).trans ho',hc,hd'⟩
noncomputable def stepQ {β:Type} (Y D:β → Shared → Prop) (r:ForInStep β) (s:Shared):Prop:=match r with
 | .done b => D b s
 | .yield b => Y b s
theorem forIn_two {M:Model} {α β:Type} {x y:α} {b:β} {f:α → β → Sem (ForInStep β)} {Q:β → Shared → Prop} (h:wpAny M A (f x b) (stepQ (fun b s => wpAny M A (f y b) (stepQ Q Q) E s) Q) E s):wpAny M A (forIn [x,y] b f) Q E s:=by
 rw [List.forIn_cons]
 refine Zhb (Zib h (fun r s₁ p => ?_) fun zz zz p => p)
 cases r
 · exact Zjb p
 · show wpAny M A (forIn [y] _ f) Q E s₁
   rw [List.forIn_cons]
   refine Zhb (Zib p (fun r s₂ p => ?_) fun zz zz p => p)
   cases r
   · exact Zjb p
   · show wpAny M A (forIn [] _ f) Q E s₂
     rw [List.forIn_nil]; exact Zjb p
noncomputable def pairHash (w:World) (k:Str × Int):Int:=reduceHash (Builtin.Tuple.tupleHashOf [hashStr w k.1,hashInt k.2])
theorem IsPair.pyHash {k:Str × Int} {a:Addr} {Q:Int → Shared → Prop} (hu:A.units < cLine) (hk:IsPair s.heap k a) (h:Q (pairHash w k) { s with toks:=s.toks + 3 }):wpAny (model prog w) A (PySem.pyHash (.ref a)) Q E s:=by
 have hT:=hk.typeIs
 obtain ⟨o,t,u,n,ho,zz,hd⟩:=hk
 unfold PySem.pyHash
 first | unfold pyHashByItsType | skip
 first | refine Zhb (wpAny_cRoomFor_or (.inr hu) ?_) | skip
 refine Zhb (wpAny_specialOf hT F.slot_tuple_hash.lookup ?_)
 show wpAny _ _ (if (some (Value.builtin "tuple.__hash__") == some Value.none) = true then _ else _) Q E s
 rw [if_neg (by rw [beq_builtin_none]; exact Zv)]
 refine Zhb (wpAny_specialOf hT F.slot_tuple_hash.lookup ?_)
 show wpAny _ _ (callSpecialIfBoundUnlessNone? (.ref a) "__hash__" _ >>= _) Q E s
 refine Zhb (wpAny_callSpecialIfBoundUnlessNone?_slot hT F.slot_tuple_hash (wpAny_call_entry F.slot_tuple_hash hT F.entry_tuple_hash ?_ (F.args_tuple_hash_1 _)))
 show wpAny _ _ (Builtin.Tuple.tupleItemsOf (.ref a) >>= _) _ _ s
 refine Zhb (wpAny_tupleItemsOf ho hd ?_)
 refine Zhb ?_
 rw [← Array.forIn_toList]
 refine forIn_two (Zhb (wpAny_pyHash_str (Zjb ?_)))
 refine Zhb (wpAny_pyHash_int (Zjb ?_))
 · show wpAny _ _ (retInt (Builtin.Tuple.tupleHashOf [hashStr w k.1,hashInt k.2])) _ _ _
   refine wpAny_ret_mkInt ?_
   show wpAny _ _ (if (decide (-(2:Int) ^ 63 ≤ Builtin.Tuple.tupleHashOf [hashStr w k.1,hashInt k.2]) && decide (Builtin.Tuple.tupleHashOf [hashStr w k.1,hashInt k.2] < 2 ^ 63)) = true then _ else _) Q E _
   unfold pairHash reduceHash at h
   by_cases hr:(decide (-(2:Int) ^ 63 ≤ Builtin.Tuple.tupleHashOf [hashStr w k.1,hashInt k.2]) && decide (Builtin.Tuple.tupleHashOf [hashStr w k.1,hashInt k.2] < 2 ^ 63)) = true
   · rw [if_pos hr]
     rw [if_pos hr] at h
     exact Zjb h
   · rw [if_neg hr]
     rw [if_neg hr] at h
     exact Zhb (wpAny_rule (Zjb h))
theorem IsPair.quiet {k:Str × Int} {a:Addr} {Q:Bool → Shared → Prop} (hk:IsPair s.heap k a) (h:Q true s):wpAny (model prog w) A (eqIsQuiet 8 (.ref a)) Q E s:=by
 have hT:=hk.typeIs
 obtain ⟨o,t,u,n,ho,zz,hd⟩:=hk
 unfold eqIsQuiet
 refine Zhb (wpAny_specialOf hT F.slot_tuple_eq.lookup ?_)
 show wpAny _ _ (isInstance (.ref a) (.type "tuple") >>= _) _ _ s
 refine Zhb (wpAny_isInstance hT isSubtype_tuple_tuple ?_)
 simp only [Bool.not_true,Bool.false_eq_true,if_false]
 refine Zhb (wpAny_seqItems ho hd ?_)
 refine Zhb ?_
 show wpAny _ _ (forIn _ _ _) _ _ s
 rw [← Array.forIn_toList]
 refine wpAny_forIn_list _ (fun rest r s' => r.1 = none ∧ s' = s ∧ ∀ v ∈ rest,carriedByValue v = true) _ ?_ ?_ _ _ ⟨rfl,rfl,by simp [carriedByValue]⟩
 · rintro v rest r s' ⟨hr,rfl,hall⟩
   rw [eqIsQuiet_byValue _ (hall v Zt)]
   refine Zhb (Zjb ?_)
   simp only [Bool.not_true,Bool.false_eq_true,if_false]
   exact Zjb ⟨rfl,rfl,fun u hu' => hall u (Zd _ hu')⟩
 · rintro ⟨r1,r2⟩ s' ⟨hr,rfl,zz⟩
   simp only at hr
   subst hr
   exact Zjb h
theorem IsPair.eqTree {x y:Str × Int} {a b:Addr} {P:Fin → Shared → Prop} (hx:IsPair s.heap x a) (hy:IsPair s.heap y b) (h:P (.done (.ret (.bool (decide (x = y))))) s) :
   wpAny (model prog w) A (Builtin.«tuple.__eq__» ⟨[.ref a,.ref b],[]⟩) P E s:=by
 have hTb:=hy.typeIs
 obtain ⟨oa,t,u,na,hoa,zz,hda⟩:=hx
 obtain ⟨ob,t',u',nb,hob,zz,hdb⟩:=hy
 show wpAny _ _ (isInstance (.ref b) (.type "tuple") >>= _) _ _ s
 refine Zhb (wpAny_isInstance hTb isSubtype_tuple_tuple ?_)
 simp only [Bool.not_true,Bool.false_eq_true,if_false]
 refine Zhb (wpAny_tupleItemsOf hoa hda ?_)
 refine Zhb (wpAny_tupleItemsOf hob hdb ?_)
 refine Zhb ?_
 refine forIn_two (Zhb (wpAny_eqBool_str ?_))
 by_cases h1:x.1 = y.1
 · rw [Zmb h1]
   refine Zjb (Zhb (wpAny_eqBool_int ?_))
   by_cases h2:x.2 = y.2
   · rw [beq_iff_eq.mpr h2]
     rw [Zmb (Prod.ext h1 h2)] at h
     exact Zjb (Zjb h)
   · rw [Zmc.mpr h2]
     rw [Zrc fun e => h2 (congrArg (·.2) e)] at h
     exact Zhb (Zjb (Zjb (Zjb h)))
 · rw [Zrc h1]
   rw [Zrc fun e => h1 (congrArg (·.1) e)] at h
   exact Zhb (Zjb (Zjb (Zjb h)))
theorem IsPair.eqBool {x y:Str × Int} {a b:Addr} {Q:Bool → Shared → Prop} (hu:A.units < cLine) (hx:IsPair s.heap x a) (hy:IsPair s.heap y b) (h:Q (decide (x = y)) s) :
   wpAny (model prog w) A (PySem.eqBool (.ref a) (.ref b)) Q E s:=by
 unfold PySem.eqBool
 try with_reducible refine wpAny_holding ?_
 show wpAny _ _ (if (Value.ref a == Value.ref b) = true then _ else _) Q E s
 by_cases hab:(Value.ref a == Value.ref b) = true
 · rw [if_pos hab]
   have e:a = b:=by have:=eq_of_beq hab; injection this
   subst e
   obtain rfl:=hx.inj hy
   exact Zhb (wpAny_rule (Zjb (by simpa using h)))
 · rw [if_neg hab]
   exact Zhb (wpAny_richCompare_same_room (op:=.Eq) hx.typeIs hy.typeIs F.slot_tuple_eq
     (wpAny_call_entry F.slot_tuple_eq hx.typeIs F.entry_tuple_eq (hx.eqTree hy ⟨_,rfl,(fun e => (by cases e)),wpAny_truthy_bool h⟩) (F.args_tuple_eq_2 _ _)) hu)
end
noncomputable def pairKind (prog:Program) (w:World):HeapKind prog w (Str × Int) where
 is:=IsPair
 hash:=pairHash w
 draws:=fun zz => 3
 room:=fun A => A.units < cLine
 inj:=fun hx hy => hx.inj hy
 keeps:=fun x ho hd hs => x.keeps ho hd hs
 pyHash:=fun hu hk h => hk.pyHash hu h
 eqBool:=fun hu hx hy h => hx.eqBool hu hy h
 quiet:=fun hk h => hk.quiet h
end
section
inductive NsC (h:Heap) (a:Addr) (c:String) (m:Str → Option Value):Prop where
 | mk (o:Obj) (es:Array DictEntry) (ep:Nat) (h1:h.get? a = some o) (h2:o.cls = .type c) (h3:o.dict = none) (h4:o.data = .dict es ep) (h5:StrKeys es) (h6:UniqKeys es) (h7:∀ name,nsFind es name = m name):NsC h a c m
theorem NsC.ns {h:Heap} {a:Addr} {c:String} {m} (x:NsC h a c m):h.Ns a m:=x.rec fun o es ep h1 zz zz h4 h5 zz h7 => ⟨o,es,ep,h1,h4,h5,h7⟩
theorem NsC.of_slots {h h':Heap} {a:Addr} {c:String} {m} (x:NsC h a c m) (k:∀ o,h.get? a = some o → ∃ sl,h'.get? a = some { o with slots:=sl }):NsC h' a c m :=
 x.rec fun o es ep h1 h2 h3 h4 h5 h6 h7 => Zh (k o h1) fun zz e => ⟨_,es,ep,e,h2,h3,h4,h5,h6,h7⟩
theorem NsC.sameBut {h h':Heap} {a b:Addr} {c:String} {m} (x:NsC h a c m) (hs:Heap.SameBut b h h') (hab:a ≠ b):NsC h' a c m :=
 x.rec fun o es ep h1 h2 h3 h4 h5 h6 h7 => ⟨o,es,ep,(hs.2 a hab).trans h1,h2,h3,h4,h5,h6,h7⟩
theorem NsC.ns1 {h:Heap} {a:Addr} {c:String} {m} (x:NsC h a c m):h.Ns1 a m:=x.rec fun o es ep h1 zz zz h4 h5 h6 h7 => ⟨o,es,ep,h1,h4,h5,h6,h7⟩
theorem NsC.of1 {h h':Heap} {a:Addr} {c:String} {m m'} (x:NsC h a c m) (y:h'.Ns1 a m') (k:∀ o,h.get? a = some o → ∃ o',h'.get? a = some o' ∧ o'.cls = o.cls ∧ o'.dict = o.dict):NsC h' a c m' :=
 x.rec fun o zz zz h1 h2 h3 zz zz zz zz => Zh (k o h1) fun o' q => ex3 y fun o2 es ep y => have e:o' = o2:=sm_inj (q.1.symm.trans y.1); ⟨o2,es,ep,y.1,(congrArg Obj.cls e).symm.trans (q.2.1.trans h2),(congrArg Obj.dict e).symm.trans (q.2.2.trans h3),y.2.1,y.2.2.1,y.2.2.2.1,y.2.2.2.2⟩
theorem nsSetC {M:Model} {A:Around} {E:Value → Shared → Prop} {s:Shared} {a:Addr} {c:String} {m} {name:Str} {v:Value} {Q:Unit → Shared → Prop} (hn:NsC s.heap a c m)
   (hQ:∀ h',NsC h' a c (fun x => if x = name then some v else m x) → Heap.SameBut a s.heap h' → Q () { s with heap:=h',toks:=s.toks + 1 }):wpAny M A (nsSet a name v) Q E s :=
 wpAny_nsSet1EFk hn.ns1 fun h' y hs k => hQ h' (hn.of1 y k) hs
noncomputable def ListAt (h:Heap) (a:Addr) (items:List Value):Prop:=∃ n,h.get? a = some ⟨.type "list",none,.seq items.toArray n,#[]⟩
noncomputable abbrev KVRel (T:Tp) (ι:Inj) (h:Heap):List (Str × V) → List (Str × Value) → Prop:=KRel (VRel T ι h)
noncomputable abbrev TKRel (T:Tp) (ι:Inj) (h:Heap):List ((Str × Int) × V) → List ((Str × Int) × Addr × Value) → Prop:=KRel fun v p => VRel T ι h v p.2
noncomputable def ORel (T:Tp) (ι:Inj) (h:Heap):MObj → Addr × Addr → Prop
 | .list vs,p => p.1 = p.2 ∧ ∃ items,ListAt h p.1 items ∧ VRels T ι h vs items
 | .sdict kvs,p => p.1 = p.2 ∧ ∃ rvs,h.DictOf (strKind T.prog T.w) p.1 rvs ∧ KVRel T ι h kvs rvs
 | .tdict kvs,p => p.1 = p.2 ∧ ∃ xs,h.DictOfH (pairKind T.prog T.w) p.1 xs ∧ TKRel T ι h kvs xs
 | .inst c fs,p => ∃ C m sl,T.c c = some C ∧ h.get? p.1 = some ⟨.ref C,some p.2,.plain,sl⟩ ∧ NsC h p.2 "dict" m ∧ (∀ x,ORelV T ι h (fs.lookup x) (m x))
structure Rep (T:Tp) (ι:Inj) (σ:Hp) (h:Heap):Prop where
 len:ι.length = σ.length
 big:10 ≤ T.b0.objs.size
 size:T.b0.objs.size ≤ h.objs.size
 base:∀ a o,T.b0.get? a = some o → h.get? a = some o
 objs:∀ (l:Nat) (o:MObj) (p:Addr × Addr),σ[l]? = some o → ι[l]? = some p → ORel T ι h o p
 fresh:∀ p ∈ ι,T.b0.objs.size ≤ p.1 ∧ T.b0.objs.size ≤ p.2
 apart:∀ (i j:Nat) (p q:Addr × Addr),ι[i]? = some p → ι[j]? = some q → i ≠ j → p.1 ≠ q.1 ∧ p.1 ≠ q.2 ∧ p.2 ≠ q.1 ∧ p.2 ≠ q.2
theorem IsPair.mono {ι ι':Inj} {h h':Heap} {k:Str × Int} {a:Addr} (m:Mono ι h ι' h') (x:IsPair h k a):IsPair h' k a:=by
 refine ex4 x fun o t u n h9 => and3 h9 fun ho hc hd => ?_
 exact ⟨o,t,u,n,m.frz _ _ ho (by simp [frozen,hc]),hc,hd⟩
theorem ORel.cls {T:Tp} {ι:Inj} {h:Heap} {o:MObj} {p:Addr × Addr} (e:ORel T ι h o p) {a:Addr} (ha:a = p.1 ∨ a = p.2):∃ x,h.get? a = some x ∧ ((∃ C,x.cls = .ref C) ∨ x.cls = .type "list" ∨ x.cls = .type "dict"):=by
 have one:∀ {x},p.1 = p.2 → h.get? p.1 = some x → h.get? a = some x:=fun e g => by rcases ha with q | q <;> rw [q] <;> first | exact g | exact e ▸ g
 cases o
 · obtain ⟨e,zz,⟨zz,x⟩,zz⟩:=e; exact ⟨_,one e x,.inr (.inl rfl)⟩
 · obtain ⟨e,zz,⟨zz,zz,zz,x,ex,zz⟩,zz⟩:=e; exact ⟨_,one e x,.inr (.inr ex.1)⟩
 · obtain ⟨e,zz,⟨zz,zz,zz,x,ex,zz⟩,zz⟩:=e; exact ⟨_,one e x,.inr (.inr ex.1)⟩
 · refine ex3 e fun C zz zz h9 => and4 h9 fun zz x y zz => ?_
   rcases ha with q | q <;> rw [q]
   · exact ⟨_,x,.inl ⟨C,rfl⟩⟩
   · obtain ⟨o,zz,zz,y,yc,zz⟩:=y; exact ⟨o,y,.inr (.inr yc)⟩
theorem ORel.lt {T:Tp} {ι:Inj} {h:Heap} {o:MObj} {p:Addr × Addr} (e:ORel T ι h o p):p.1 < h.objs.size ∧ p.2 < h.objs.size :=
 ⟨Zh (e.cls (.inl rfl)) fun zz g => Zu g.1,Zh (e.cls (.inr rfl)) fun zz g => Zu g.1⟩
theorem Rep.lt {T:Tp} {ι:Inj} {σ:Hp} {h:Heap} (r:Rep T ι σ h) {p:Addr × Addr} (hp:p ∈ ι):p.1 < h.objs.size ∧ p.2 < h.objs.size:=by
 obtain ⟨l,hl,rfl⟩:=List.getElem_of_mem hp
 have hl':l < σ.length:=by rw [← r.len]; exact hl
 exact (r.objs l σ[l] ι[l] (Zp hl') (Zp hl)).lt
theorem Rep.own_lt {T:Tp} {ι:Inj} {σ:Hp} {h:Heap} (r:Rep T ι σ h) {a:Addr} (ha:a ∈ own ι):a < h.objs.size:=by
 obtain ⟨p,hp,e⟩:=mem_own.mp ha
 rcases e with rfl | rfl
 · exact (r.lt hp).1
 · exact (r.lt hp).2
theorem ORel.keeps {T:Tp} {ι ι':Inj} {h h':Heap} (m:Mono ι h ι' h') {o:MObj} {p:Addr × Addr} (k:∀ x,h.get? p.1 = some x → h'.get? p.1 = some x) (k':∀ x,h.get? p.2 = some x → h'.get? p.2 = some x) (e:ORel T ι h o p):ORel T ι' h' o p:=by
 cases o
 · obtain ⟨e,items,⟨n,x⟩,r⟩:=e; exact ⟨e,items,⟨n,k _ x⟩,r.mono m⟩
 · obtain ⟨e,rvs,⟨o,es,ep,x,r⟩,q⟩:=e; exact ⟨e,rvs,⟨o,es,ep,k _ x,r⟩,q.imp fun zz zz r => r.mono m⟩
 · obtain ⟨e,rvs,⟨o,es,ep,x,c,dd,ee,y,r⟩,q⟩:=e; exact ⟨e,rvs,⟨o,es,ep,k _ x,c,dd,ee,fun z hz => IsPair.mono m (y z hz),r⟩,q.imp fun zz zz r => r.mono m⟩
 · exact ex3 e fun C mm sl e => ⟨C,mm,sl,e.1,k _ e.2.1,e.2.2.1.rec fun o' es' ep' e' z1 z2 z3 z4 z5 z6 => ⟨o',es',ep',k' _ e',z1,z2,z3,z4,z5,z6⟩,fun z => ORelV.mono m (e.2.2.2 z)⟩
theorem Rep.keeps {T:Tp} {ι:Inj} {σ:Hp} {h h':Heap} (r:Rep T ι σ h) (m:Mono ι h ι h') (hs:h.objs.size ≤ h'.objs.size) (hb:∀ a o,T.b0.get? a = some o → h'.get? a = some o) (k:∀ a ∈ own ι,∀ o,h.get? a = some o → h'.get? a = some o):Rep T ι σ h' where
 len:=r.len
 big:=r.big
 size:=Za r.size hs
 base:=hb
 objs:=fun l o p e q => (r.objs l o p e q).keeps m (k _ (mem_own.mpr ⟨p,Zn q,.inl rfl⟩)) (k _ (mem_own.mpr ⟨p,Zn q,.inr rfl⟩))
 fresh:=r.fresh
 apart:=r.apart
theorem Rep.grow {T:Tp} {ι:Inj} {σ:Hp} {h h':Heap} (r:Rep T ι σ h) (hs:h.objs.size ≤ h'.objs.size) (k:∀ a o,h.get? a = some o → h'.get? a = some o):Rep T ι σ h' :=
 r.keeps ⟨⟨[],by simp⟩,fun zz o e zz => ⟨o,k _ _ e,rfl⟩,fun zz zz e zz => k _ _ e⟩ hs (fun a o e => k _ _ (r.base a o e)) fun a zz o e => k a o e
theorem Rep.push {T:Tp} {ι:Inj} {σ:Hp} {h:Heap} (r:Rep T ι σ h) (o:Obj):Rep T ι σ (h.push o) :=
 r.grow (by rw [Zqb]; exact Zq (Zs h.objs.size)) fun zz zz e => Zx _ e
theorem Rep.more {T:Tp} {ι:Inj} {σ:Hp} {h:Heap} (r:Rep T ι σ h) {o:MObj} {p:Addr × Addr} (ho:ORel T (ι ++ [p]) h o p) (h1:T.b0.objs.size ≤ p.1) (h2:T.b0.objs.size ≤ p.2) (n1:p.1 ∉ own ι) (n2:p.2 ∉ own ι) :
   Rep T (ι ++ [p]) (σ ++ [o]) h where
 len:=by simp [r.len]
 big:=r.big
 size:=r.size
 base:=r.base
 objs:=fun l x q e e' => by
   have m:Mono ι h (ι ++ [p]) h:=⟨⟨[p],rfl⟩,fun zz o e zz => ⟨o,e,rfl⟩,fun zz zz e zz => e⟩
   rcases Nat.lt_or_ge l σ.length with hl | hl
   · rw [Zbb hl] at e
     rw [Zbb (by rw [r.len]; exact hl)] at e'
     exact (r.objs l x q e e').keeps m (fun zz z => z) fun zz z => z
   · rw [Ztc hl] at e
     rw [Ztc (by rw [r.len]; exact hl),r.len] at e'
     rcases Nat.eq_zero_or_pos (l - σ.length) with z | z
     · rw [z] at e e'
       simp only [List.getElem?_cons_zero,Option.some.injEq] at e e'
       subst e e'; exact ho
     · rw [List.getElem?_eq_none (by simp; (clear hl e' h1 h2 e; exact z))] at e; cases e
 fresh:=fun q hq => by
   rcases Zm.mp hq with hq | hq
   · exact r.fresh q hq
   · cases Zj.mp hq; exact ⟨h1,h2⟩
 apart:=fun i j q q' e e' hij => by
   have key:∀ (k:Nat) (x:Addr × Addr),(ι ++ [p])[k]? = some x → (k < ι.length ∧ ι[k]? = some x) ∨ (k = ι.length ∧ x = p):=fun k x e => by
     rcases Nat.lt_or_ge k ι.length with hl | hl
     · rw [Zbb hl] at e; exact .inl ⟨hl,e⟩
     · rw [Ztc hl] at e
       rcases Nat.eq_zero_or_pos (k - ι.length) with z | z
       · rw [z] at e; simp only [List.getElem?_cons_zero,Option.some.injEq] at e; exact .inr ⟨by (clear hij h1 h2 e'; lia),e.symm⟩
       · rw [List.getElem?_eq_none (by simp; (clear hl hij e h1 h2 e'; exact z))] at e; cases e
   have no:∀ x:Addr × Addr,x ∈ ι → p.1 ≠ x.1 ∧ p.1 ≠ x.2 ∧ p.2 ≠ x.1 ∧ p.2 ≠ x.2:=fun x hx =>
     ⟨fun z => n1 (mem_own.mpr ⟨x,hx,.inl z⟩),fun z => n1 (mem_own.mpr ⟨x,hx,.inr z⟩),fun z => n2 (mem_own.mpr ⟨x,hx,.inl z⟩),fun z => n2 (mem_own.mpr ⟨x,hx,.inr z⟩)⟩
   rcases key i q e with ⟨hi,ei⟩ | ⟨hi,rfl⟩ <;> rcases key j q' e' with ⟨hj,ej⟩ | ⟨hj,rfl⟩
   · exact r.apart i j q q' ei ej hij
   · refine (no q (Zn ei)).elim fun a h9 => and3 h9 fun b c d => ?_
     exact ⟨a.symm,c.symm,b.symm,d.symm⟩
   · exact no q' (Zn ej)
   · (clear h2 e e' key h1; lia)
theorem Rep.turn {T:Tp} {ι:Inj} {σ:Hp} {h h':Heap} (r:Rep T ι σ h) {l:Nat} {p:Addr × Addr} {o:MObj} {a:Addr} (hp:ι[l]? = some p) (m:Mono ι h ι h') (hs:Heap.SameBut a h h') (ha:a = p.1 ∨ a = p.2)
   (ho:ORel T ι h' o p):Rep T ι (σ.set l o) h' where
 len:=by simp [r.len]
 big:=r.big
 size:=Za r.size (Zr hs.1.symm)
 base:=fun b x e => by
   have hne:b ≠ a:=fun q => by
     have h1:=Zu e
     have h2:=r.fresh p (Zn hp)
     rw [q] at h1
     rcases ha with ha | ha <;> rw [ha] at h1
     · exact absurd h2.1 (Nat.not_le.mpr h1)
     · exact absurd h2.2 (Nat.not_le.mpr h1)
   exact (hs.2 b hne).trans (r.base b x e)
 objs:=fun k x q e e' => by
   by_cases hk:k = l
   · subst hk
     rw [hp] at e'; cases e'
     rw [Zw (by rw [← r.len]; exact (Zb.mp hp).1)] at e
     cases e; exact ho
   · rw [Zi (fun z => hk z.symm)] at e
     have:=r.apart k l q p e' hp hk
     have keep:∀ b,b = q.1 ∨ b = q.2 → ∀ z,h.get? b = some z → h'.get? b = some z:=fun b hb z hz => (hs.2 b (fun y => by
       rcases ha with rfl | rfl <;> rcases hb with rfl | rfl <;> simp_all)).trans hz
     exact (r.objs k x q e e').keeps m (keep _ (.inl rfl)) (keep _ (.inr rfl))
 fresh:=r.fresh
 apart:=r.apart
end
section
noncomputable abbrev Loc:=Str → Option V
noncomputable def upd (ρ:Loc) (x:Str) (v:Option V):Loc:=fun y => if y = x then v else ρ y
inductive HandV (ι:Inj) (h:Heap) (v:Value):Prop where
 | mk (ea:Addr) (o:Obj) (C:Addr) (vs:Array Value) (e1:v = .ref ea) (e2:h.get? ea = some o) (e3:o.cls = .ref C) (e4:o.data = .fields vs) (e5:vs[2]? = some .none) (e6:ea ∉ own ι):HandV ι h v
noncomputable def HandAt (A:Around) (ι:Inj) (h:Heap):Prop:=∀ v,A.handled = some v → HandV ι h v
theorem HandAt.none {A:Around} {ι:Inj} {h:Heap} (e:A.handled = .none):HandAt A ι h:=fun v q => by rw [e] at q; cases q
theorem HandAt.keep {A:Around} {ι ι':Inj} {h h':Heap} (x:HandAt A ι h) (k:∀ a o C,h.get? a = some o → o.cls = .ref C → a ∉ own ι → h'.get? a = some o ∧ a ∉ own ι'):HandAt A ι' h':=fun v q =>
 (x v q).rec fun ea o C vs e1 e2 e3 e4 e5 e6 => ⟨ea,o,C,vs,e1,(k ea o C e2 e3 e6).1,e3,e4,e5,(k ea o C e2 e3 e6).2⟩
theorem ne_type {c:Value} {C:Addr} {n:String} (e:c = .ref C):c ≠ .type n:=fun q => nomatch e.symm.trans q
theorem HandAt.ext {T:Tp} {F:List Addr} {A:Around} {ι ι':Inj} {h h':Heap} (x:HandAt A ι h) (e:Ext T F ι h ι' h') (hF:∀ a ∈ F,∃ o,h.get? a = some o ∧ itr o = false):HandAt A ι' h' :=
 x.keep fun a o C e1 e2 e3 => ⟨e.keep a o e1 e3 (fun q => Zh (hF a q) fun o' g => itr_ref g.2 ((sm_inj (g.1.symm.trans e1)).symm ▸ e2)) (ne_type e2),e.not_own e3 (Zu e1)⟩
inductive FunAt (T:Tp) (ι:Inj) (h:Heap) (e:Env):Prop where
 | mk (k:e.scope.kind = .function) (L:Addr) (o:Obj) (es:Array DictEntry) (ep:Nat) (f:e.frame = some L) (n:L ∉ own ι) (b:T.b0.objs.size ≤ L) (g:h.get? L = some o) (c:o.cls = .type "frame") (dd:o.data = .dict es ep):FunAt T ι h e
structure AOk (T:Tp) (A:Around) (fs:List Env) (d:Nat) (ι:Inj) (h:Heap):Prop where
 frames:A.frames = some fs
 funs:∀ e ∈ fs,FunAt T ι h e
 depth:A.depth + d ≤ recursionLimit
 units:A.units + 10 * d + 50 ≤ cLine
 hd:T.hd = false → A.handled = none
 hx:HandAt A ι h
noncomputable def nsCls (env:Env) (c:String):Prop:=(c = "frame" ∨ c = "dict") ∧ (env.frame ≠ some env.locals → c = "dict")
inductive NsAt (T:Tp) (env:Env) (ρ:Loc) (ι:Inj) (h:Heap):Prop where
 | mk (c:String) (m:Str → Option Value) (hc:nsCls env c) (hn:NsC h env.locals c m) (r:∀ x,env.kindOf x = some .local → ORelV T ι h (ρ x) (m x)):NsAt T env ρ ι h
inductive CellAt (T:Tp) (env:Env) (ρ:Loc) (ι:Inj) (h:Heap) (x:Str):Prop where
 | mk (c:Addr) (o:Obj) (v:Option Value) (e1:env.cells.lookup x = some c) (e2:h.get? c = some o) (e3:o.cls = .type "cell") (e4:o.data = .cell v) (e5:ORelV T ι h (ρ x) v) (e6:c ∉ own ι):CellAt T env ρ ι h x
inductive There (h:Heap) (a:Addr):Prop where
 | mk (o:Obj) (h1:h.get? a = some o) (h2:frozen o = false) (h3:itr o = false):There h a
theorem There.lt {h:Heap} {a:Addr} (x:There h a):a < h.objs.size:=x.rec fun zz h1 zz zz => Zu h1
theorem There.at {h:Heap} {a:Addr} {o:Obj} (x:There h a) (ho:h.get? a = some o):frozen o = false ∧ itr o = false:=x.rec fun zz h1 h2 h3 => sm_inj (h1.symm.trans ho) ▸ ⟨h2,h3⟩
structure Frm (T:Tp) (env:Env) (F:List Addr) (ρ:Loc) (ι:Inj) (h:Heap):Prop where
 kind:env.scope.kind = .function
 glb:env.globals = mainGlobals
 blt:env.builtins = builtinsNs
 ns:NsAt T env ρ ι h
 cells:∀ x,env.kindOf x = some .cell ∨ env.kindOf x = some .free → CellAt T env ρ ι h x
 inj:∀ x y c,(env.kindOf x = some .cell ∨ env.kindOf x = some .free) → (env.kindOf y = some .cell ∨ env.kindOf y = some .free) → env.cells.lookup x = some c → env.cells.lookup y = some c → x = y
 loc:env.locals ∈ F
 cin:∀ x c,env.kindOf x = some .cell → env.cells.lookup x = some c → c ∈ F
 apart:∀ a ∈ F,a ∉ own ι ∧ T.b0.objs.size ≤ a
 there:∀ a ∈ F,There h a
inductive TopAt (fs:List Env) (env:Env):Prop where
 | mk (e:Env) (r:List Env) (L:Addr) (h1:fs = e :: r) (h2:e.frame = some L) (h3:env.frame = some L):TopAt fs env
structure Inv (T:Tp) (A:Around) (fs:List Env) (d:Nat) (env:Env) (F:List Addr) (ρ:Loc) (ι:Inj) (σ:Hp) (s:Shared):Prop where
 rep:Rep T ι σ s.heap
 aok:AOk T A fs d ι s.heap
 frm:Frm T env F ρ ι s.heap
 top:TopAt fs env
 gens:s.gens = #[]
 os:s.os = T.os
theorem AOk.keeps {T:Tp} {A:Around} {fs:List Env} {d:Nat} {ι ι':Inj} {h h':Heap} (x:AOk T A fs d ι h) (no:∀ a,a ∉ own ι → a < h.objs.size → a ∉ own ι') (k:∀ a o,h.get? a = some o → a ∉ own ι → o.cls = .type "frame" → ∃ sl,h'.get? a = some { o with slots:=sl }) (hx:HandAt A ι' h'):AOk T A fs d ι' h' :=
 ⟨x.frames,fun e he => (x.funs e he).rec fun k1 L o es ep f n b g c dd => Zh (k L o g n c) fun zz g' => ⟨k1,L,_,es,ep,f,no L n (Zu g),b,g',c,dd⟩,x.depth,x.units,x.hd,hx⟩
theorem frozen_eq {o o':Obj} (h:o'.cls = o.cls):frozen o' = frozen o:=by unfold frozen; rw [h]
noncomputable def nsO (o:Obj):Prop:=∃ n,o.cls = .type n ∧ (n = "frame" ∨ n = "dict" ∨ n = "cell")
theorem nsO.itr {o:Obj} (h:nsO o):itr o = false:=Zh h fun n h => itr_no h.1 (by rcases h.2 with e | e | e <;> rw [e] <;> decide)
theorem nsO.tb {o:Obj} (h:nsO o):o.cls ≠ .type "traceback":=Zh h fun n h q => by
 have e:=Value.type.inj (h.1.symm.trans q)
 rcases h.2 with e' | e' | e' <;> rw [e'] at e <;> exact absurd e (by decide)
theorem Frm.keeps {T:Tp} {env:Env} {F:List Addr} {ρ:Loc} {ι ι':Inj} {h h':Heap} (x:Frm T env F ρ ι h) (m:Mono ι h ι' h') (no:∀ a,a ∉ own ι → a < h.objs.size → a ∉ own ι')
   (kf:∀ a o,h.get? a = some o → a ∈ F → itr o = false → ∃ o',h'.get? a = some o' ∧ o'.cls = o.cls)
   (k:∀ a o,h.get? a = some o → a ∉ own ι → nsO o → (a ∈ F ∨ o.cls = .type "cell") → ∃ sl,h'.get? a = some { o with slots:=sl }):Frm T env F ρ ι' h' where
 kind:=x.kind
 glb:=x.glb
 blt:=x.blt
 ns:=x.ns.rec fun c mm hc hn r => ⟨c,mm,hc,hn.of_slots fun o ho => k _ o ho (x.apart _ x.loc).1 ⟨c,hn.rec fun o' zz zz h1 h2 zz zz zz zz zz => sm_inj (h1.symm.trans ho) ▸ h2,hc.1.imp id .inl⟩ (.inl x.loc),fun y hy => (r y hy).mono m⟩
 cells:=fun y hy => (x.cells y hy).rec fun c o v e1 e2 e3 e4 e5 e6 => Zh (k c o e2 e6 ⟨_,e3,.inr (.inr rfl)⟩ (.inr e3)) fun zz g => ⟨c,_,v,e1,g,e3,e4,e5.mono m,no c e6 (Zu e2)⟩
 inj:=x.inj
 loc:=x.loc
 cin:=x.cin
 apart:=fun a ha => ⟨no a (x.apart a ha).1 (x.there a ha).lt,(x.apart a ha).2⟩
 there:=fun a ha => (x.there a ha).rec fun o h1 h2 h3 => Zh (kf a o h1 ha h3) fun zz g => ⟨_,g.1,(frozen_eq g.2).trans h2,(itr_eq g.2).trans h3⟩
theorem AOk.ext {T:Tp} {A:Around} {fs:List Env} {d:Nat} {ι ι':Inj} {h h':Heap} {F:List Addr} (x:AOk T A fs d ι h) (e:Ext T F ι h ι' h')
   (hF:∀ en ∈ fs,∀ L,en.frame = some L → L ∈ F → ∃ o es ep,h'.get? L = some o ∧ o.data = .dict es ep) (hG:∀ a ∈ F,∃ o,h.get? a = some o ∧ itr o = false):AOk T A fs d ι' h' where
 frames:=x.frames
 funs:=fun en hen => by
   obtain ⟨k,L,o,es,ep,f,n,b,g,c,dd⟩:=x.funs en hen
   have n':=e.not_own n (Zu g)
   by_cases q:L ∈ F
   · refine ex3 (hF en hen L f q) fun o' es' ep' h9 => h9.elim fun g' d' => ?_
     refine (e.cls L o g (by simp [loose,c])).elim fun o₂ h9 => h9.elim fun g₂ c₂ => ?_
     exact ⟨k,L,o',es',ep',f,n',b,g',sm_inj (g₂.symm.trans g') ▸ c₂.trans c,d'⟩
   · obtain ⟨sl,g'⟩:=e.frm L o g n q
     exact ⟨k,L,_,es,ep,f,n',b,g',c,dd⟩
 depth:=x.depth
 units:=x.units
 hd:=x.hd
 hx:=x.hx.ext e hG
theorem AOk.ext0 {T:Tp} {A:Around} {fs:List Env} {d:Nat} {ι ι':Inj} {h h':Heap} (x:AOk T A fs d ι h) (e:Ext T [] ι h ι' h'):AOk T A fs d ι' h' :=
 x.keeps (fun zz n l => e.not_own n l) (fun a o g n zz => e.frm a o g n Zdc) (x.hx.ext e fun zz q => nomatch q)
theorem Frm.ext {T:Tp} {env:Env} {F:List Addr} {ρ:Loc} {ι ι':Inj} {h h':Heap} (x:Frm T env F ρ ι h) (e:Ext T [] ι h ι' h'):Frm T env F ρ ι' h' :=
 x.keeps e.mono (fun zz n l => e.not_own n l) (fun a o g ha zz => Zh (e.frm a o g (x.apart a ha).1 Zdc) fun zz g => ⟨_,g,rfl⟩) fun a o g n zz zz => e.frm a o g n Zdc
theorem Inv.ext {T:Tp} {A:Around} {fs:List Env} {d:Nat} {env:Env} {F:List Addr} {ρ:Loc} {ι ι':Inj} {σ σ':Hp} {s s':Shared} (x:Inv T A fs d env F ρ ι σ s) (e:Ext T [] ι s.heap ι' s'.heap) (r:Rep T ι' σ' s'.heap)
   (hg:s'.gens = #[]) (ho:s'.os = T.os):Inv T A fs d env F ρ ι' σ' s' :=
 ⟨r,x.aok.ext0 e,x.frm.ext e,x.top,hg,ho⟩
noncomputable abbrev QE:=V → Hp → Prop
noncomputable abbrev QX:=Str → Hp → Prop
inductive TbAt (lo:Nat) (ea:Addr) (h:Heap) (v:Value):Prop where
 | mk (tb:Addr) (ot:Obj) (ts:Array Value) (h0:v = .ref tb) (h1:lo ≤ tb) (h2:tb ≠ ea) (h3:h.get? tb = some ot) (h4:ot.cls = .type "traceback") (h5:ot.data = .fields ts) (h6:3 < ts.size):TbAt lo ea h v
inductive Fly (T:Tp) (lo:Nat) (ea:Addr) (c:Str) (h:Heap):Prop where
 | mk (C:Addr) (oe:Obj) (vs:Array Value) (v:Value) (h0:T.hd = false ∧ T.c c = some C) (h1:lo ≤ ea) (h2:h.get? ea = some oe) (h3:oe.cls = .ref C) (h4:oe.data = .fields vs) (h5:5 < vs.size) (h6:vs[2]? = some .none) (h7:vs[1]? = some v) (h8:(v = .none ∨ TbAt lo ea h v)):Fly T lo ea c h
inductive FlyT (T:Tp) (lo:Nat) (ea:Addr) (c:Str) (h:Heap):Prop where
 | mk (C:Addr) (oe:Obj) (vs:Array Value) (v:Value) (h0:T.hd = false ∧ T.c c = some C) (h1:lo ≤ ea) (h2:h.get? ea = some oe) (h3:oe.cls = .ref C) (h4:oe.data = .fields vs) (h5:5 < vs.size) (h6:vs[2]? = some .none) (h7:vs[1]? = some v) (h8:TbAt lo ea h v):FlyT T lo ea c h
theorem FlyT.fly {T:Tp} {lo:Nat} {ea:Addr} {c:Str} {h:Heap} (x:FlyT T lo ea c h):Fly T lo ea c h :=
 by obtain ⟨C,oe,vs,v,a,b,d,e,f,g,i,j,k⟩:=x; exact ⟨C,oe,vs,v,a,b,d,e,f,g,i,j,.inr k⟩
inductive PostE (T:Tp) (F:List Addr) (Q:QE) (ι:Inj) (h:Heap) (x:Value) (s':Shared):Prop where
 | mk (v:V) (σ':Hp) (ι':Inj) (h0:Q v σ') (h1:VRel T ι' s'.heap v x) (h2:Rep T ι' σ' s'.heap) (h3:Ext T F ι h ι' s'.heap) (h4:s'.gens = #[]) (h5:s'.os = T.os):PostE T F Q ι h x s'
inductive PostX (T:Tp) (F:List Addr) (X:QX) (ι:Inj) (h:Heap) (x:Value) (s':Shared):Prop where
 | mk (ea:Addr) (c:Str) (σ':Hp) (ι':Inj) (h0:x = .ref ea) (h1:X c σ') (h2:Fly T h.objs.size ea c s'.heap) (h3:ea ∉ own ι') (h4:Rep T ι' σ' s'.heap) (h5:Ext T F ι h ι' s'.heap) (h6:s'.gens = #[]) (h7:s'.os = T.os):PostX T F X ι h x s'
theorem PostE.trans {T:Tp} {F:List Addr} {Q:QE} {ι ι₁:Inj} {h h₁:Heap} {x:Value} {s':Shared} (e:Ext T F ι h ι₁ h₁) (p:PostE T F Q ι₁ h₁ x s'):PostE T F Q ι h x s' :=
 by obtain ⟨v,σ',ι',q,r,rp,e',g,o⟩:=p; exact ⟨v,σ',ι',q,r,rp,e.trans e',g,o⟩
theorem TbAt.lo {lo lo':Nat} {ea:Addr} {h:Heap} {v:Value} (x:TbAt lo ea h v) (hl:lo' ≤ lo):TbAt lo' ea h v :=
 by obtain ⟨tb,ot,ts,a,b,r1,r2,r3,r4,r5⟩:=x; exact ⟨tb,ot,ts,a,Za hl b,r1,r2,r3,r4,r5⟩
theorem Fly.lo {T:Tp} {lo lo':Nat} {ea:Addr} {c:Str} {h:Heap} (x:Fly T lo ea c h) (hl:lo' ≤ lo):Fly T lo' ea c h:=by
 obtain ⟨C,oe,vs,v,a,b,d,e,f,g,i,j,k⟩:=x
 exact ⟨C,oe,vs,v,a,Za hl b,d,e,f,g,i,j,k.imp id (·.lo hl)⟩
theorem PostX.trans {T:Tp} {F:List Addr} {X:QX} {ι ι₁:Inj} {h h₁:Heap} {x:Value} {s':Shared} (e:Ext T F ι h ι₁ h₁) (p:PostX T F X ι₁ h₁ x s'):PostX T F X ι h x s' :=
 by obtain ⟨ea,c,σ',ι',a,b,f,n,rp,e',g,o⟩:=p; exact ⟨ea,c,σ',ι',a,b,f.lo e.size,n,rp,e.trans e',g,o⟩
theorem PostE.mono {T:Tp} {F:List Addr} {Q Q':QE} {ι:Inj} {h:Heap} {x:Value} {s':Shared} (p:PostE T F Q ι h x s') (k:∀ v σ,Q v σ → Q' v σ):PostE T F Q' ι h x s' :=
 by obtain ⟨v,σ',ι',q,r,rp,e',g,o⟩:=p; exact ⟨v,σ',ι',k _ _ q,r,rp,e',g,o⟩
theorem PostX.mono {T:Tp} {F:List Addr} {X X':QX} {ι:Inj} {h:Heap} {x:Value} {s':Shared} (p:PostX T F X ι h x s') (k:∀ c σ,X c σ → X' c σ):PostX T F X' ι h x s' :=
 by obtain ⟨ea,c,σ',ι',a,b,f,n,rp,e',g,o⟩:=p; exact ⟨ea,c,σ',ι',a,k _ _ b,f,n,rp,e',g,o⟩
structure St (T:Tp) (A:Around) (fs:List Env) (d:Nat) (ι:Inj) (σ:Hp) (s:Shared):Prop where
 rep:Rep T ι σ s.heap
 aok:AOk T A fs d ι s.heap
 gens:s.gens = #[]
 os:s.os = T.os
theorem Inv.st {T:Tp} {A:Around} {fs:List Env} {d:Nat} {env:Env} {F:List Addr} {ρ:Loc} {ι:Inj} {σ:Hp} {s:Shared} (x:Inv T A fs d env F ρ ι σ s):St T A fs d ι σ s:=⟨x.rep,x.aok,x.gens,x.os⟩
theorem St.ext {T:Tp} {A:Around} {fs:List Env} {d:Nat} {ι ι':Inj} {σ σ':Hp} {s s':Shared} (x:St T A fs d ι σ s) (e:Ext T [] ι s.heap ι' s'.heap) (r:Rep T ι' σ' s'.heap) (hg:s'.gens = #[]) (ho:s'.os = T.os):St T A fs d ι' σ' s' :=
 ⟨r,x.aok.ext0 e,hg,ho⟩
section
variable {T:Tp} {A:Around} {fs:List Env} {d:Nat} {ι:Inj} {σ:Hp} {s:Shared} {F:List Addr}
theorem St.post {Q:QE} {v:V} {x:Value} (S:St T A fs d ι σ s) (q:Q v σ) (r:VRel T ι s.heap v x) (t:Nat):PostE T F Q ι s.heap x { s with toks:=t } :=
 ⟨v,σ,ι,q,r,S.rep,.refl ..,S.gens,S.os⟩
theorem St.post0 {Q:QE} {v:V} {x:Value} (S:St T A fs d ι σ s) (q:Q v σ) (r:VRel T ι s.heap v x):PostE T F Q ι s.heap x s :=
 ⟨v,σ,ι,q,r,S.rep,.refl ..,S.gens,S.os⟩
theorem St.grown {Q:QE} {v:V} {x:Value} {h':Heap} {t:Nat} (S:St T A fs d ι σ s) (hs:s.heap.objs.size ≤ h'.objs.size) (k:∀ b o,s.heap.get? b = some o → h'.get? b = some o) (q:Q v σ) (r:VRel T ι h' v x) :
   PostE T F Q ι s.heap x { s with heap:=h',toks:=t } :=
 ⟨v,σ,ι,q,r,S.rep.grow hs k,.of_keeps hs k,S.gens,S.os⟩
end
noncomputable def EvOk (T:Tp) (d:Nat) (sc:Scope) (ρ:Loc) (X:QX) (e:Expr) (Q:QE) (σ:Hp):Prop :=
 ∀ env A fs F ι s,env.scope = sc → Inv T A fs d env F ρ ι σ s → wpAny (model T.prog T.w) A (eval e env) (PostE T [] Q ι s.heap) (PostX T [] X ι s.heap) s
inductive PostB (T:Tp) (Q:Bool → Hp → Prop) (ι:Inj) (h:Heap) (b:Bool) (s':Shared):Prop where
 | mk (σ':Hp) (ι':Inj) (h0:Q b σ') (h1:Rep T ι' σ' s'.heap) (h2:Ext T [] ι h ι' s'.heap) (h3:s'.gens = #[]) (h4:s'.os = T.os):PostB T Q ι h b s'
theorem PostB.trans {T:Tp} {Q:Bool → Hp → Prop} {ι ι₁:Inj} {h h₁:Heap} {b:Bool} {s':Shared} (e:Ext T [] ι h ι₁ h₁) (p:PostB T Q ι₁ h₁ b s'):PostB T Q ι h b s' :=
 by obtain ⟨σ',ι',q,rp,e',g,o⟩:=p; exact ⟨σ',ι',q,rp,e.trans e',g,o⟩
noncomputable def TsOk (T:Tp) (d:Nat) (sc:Scope) (ρ:Loc) (X:QX) (e:Expr) (Q:Bool → Hp → Prop) (σ:Hp):Prop :=
 ∀ env A fs F ι s,env.scope = sc → Inv T A fs d env F ρ ι σ s → wpAny (model T.prog T.w) A (isTrue e env (eval e env)) (PostB T Q ι s.heap) (PostX T [] X ι s.heap) s
inductive PostL (T:Tp) (Q:List V → Hp → Prop) (ι:Inj) (h:Heap) (xs:List Value) (s':Shared):Prop where
 | mk (vs:List V) (σ':Hp) (ι':Inj) (h0:Q vs σ') (h1:VRels T ι' s'.heap vs xs) (h2:Rep T ι' σ' s'.heap) (h3:Ext T [] ι h ι' s'.heap) (h4:s'.gens = #[]) (h5:s'.os = T.os):PostL T Q ι h xs s'
noncomputable def EvsOk (T:Tp) (d:Nat) (sc:Scope) (ρ:Loc) (X:QX) (es:List Expr) (Q:List V → Hp → Prop) (σ:Hp):Prop :=
 ∀ env A fs F ι s,env.scope = sc → Inv T A fs d env F ρ ι σ s → wpAny (model T.prog T.w) A (spliced (es.map fun e => (false,eval e env))) (PostL T Q ι s.heap) (PostX T [] X ι s.heap) s
noncomputable def CallOk (T:Tp) (d:Nat) (X:QX) (f:V) (args:List V) (Q:QE) (σ:Hp):Prop :=
 ∀ A fs ι s fv xs,St T A fs d ι σ s → VRel T ι s.heap f fv → VRels T ι s.heap args xs → wpAny (model T.prog T.w) A (call fv xs) (PostE T [] Q ι s.heap) (PostX T [] X ι s.heap) s
theorem CallOk.mono {T:Tp} {d:Nat} {X X':QX} {f:V} {args:List V} {Q Q':QE} {σ:Hp} (h:CallOk T d X f args Q σ) (k:∀ v σ,Q v σ → Q' v σ) (kx:∀ c σ,X c σ → X' c σ):CallOk T d X' f args Q' σ :=
 fun A fs ι s fv xs S hf hx => Zib (h A fs ι s fv xs S hf hx) (fun zz zz p => p.mono k) fun zz zz p => p.mono kx
end
section
noncomputable def BinOk (T:Tp) (d:Nat) (X:QX) (t:Value → Value → Sem Value) (a b:V) (Q:QE) (σ:Hp):Prop :=
 ∀ A fs ι s x y,St T A fs d ι σ s → VRel T ι s.heap a x → VRel T ι s.heap b y → wpAny (model T.prog T.w) A (t x y) (PostE T [] Q ι s.heap) (PostX T [] X ι s.heap) s
noncomputable def small64 (a:Int):Prop:=-(2 ^ 64) < a ∧ a < 2 ^ 64
section
variable {T:Tp} {A:Around} {fs:List Env} {d:Nat} {ι:Inj} {σ:Hp} {s:Shared} {F:List Addr}
theorem VRel.int_inv {i:Int} {x:Value} {h:Heap} (e:VRel T ι h (.int i) x):∃ t,x = .int i t:=e
theorem VRel.str_inv {i:Str} {x:Value} {h:Heap} (e:VRel T ι h (.str i) x):∃ t,x = .str i t:=e
theorem VRel.bool_inv {i:Bool} {x:Value} {h:Heap} (e:VRel T ι h (.bool i) x):x = .bool i:=e
theorem VRel.none_inv {x:Value} {h:Heap} (e:VRel T ι h .none x):x = .none:=e
theorem VRel.tup_inv {vs:List V} {x:Value} {h:Heap} (e:VRel T ι h (.tup vs) x):∃ a items n,x = .ref a ∧ IsT h a items n ∧ VRels T ι h vs items.toList:=e
theorem VRel.ref_inv {l:Nat} {x:Value} {h:Heap} (e:VRel T ι h (.ref l) x):∃ a d,x = .ref a ∧ ι[l]? = some (a,d):=e
theorem VRel.int_mk {i:Int} {t:Tok} {h:Heap}:VRel T ι h (.int i) (.int i t):=by exact ⟨t,rfl⟩
theorem VRel.str_mk {i:Str} {t:Tok} {h:Heap}:VRel T ι h (.str i) (.str i t):=by exact ⟨t,rfl⟩
theorem VRel.bool_mk {i:Bool} {h:Heap}:VRel T ι h (.bool i) (.bool i):=rfl
theorem VRel.none_mk {h:Heap}:VRel T ι h .none .none:=rfl
theorem Rep.list_at {h:Heap} (r:Rep T ι σ h) {l:Nat} {vs:List V} {a:Addr} {d:Addr} (e:σ[l]? = some (.list vs)) (q:ι[l]? = some (a,d)) :
   ∃ items n,IsL h a items n ∧ VRels T ι h vs items.toList:=by
 obtain ⟨zz,items,⟨n,hl⟩,hv⟩:=r.objs l _ _ e q
 exact ⟨items.toArray,n,hl,by simpa using hv⟩
theorem Rep.newList {h:Heap} (r:Rep T ι σ h) {vs:List V} {items:Array Value} (hv:VRels T ι h vs items.toList) :
   Rep T (ι ++ [(h.objs.size,h.objs.size)]) (σ ++ [.list vs]) (h.push { cls:=.type "list",data:=.seq items }) ∧ Ext T F ι h (ι ++ [(h.objs.size,h.objs.size)]) (h.push { cls:=.type "list",data:=.seq items }) ∧
     VRel T (ι ++ [(h.objs.size,h.objs.size)]) (h.push { cls:=.type "list",data:=.seq items }) (.ref σ.length) (.ref h.objs.size):=by
 have m:Mono ι h (ι ++ [(h.objs.size,h.objs.size)]) (h.push { cls:=.type "list",data:=.seq items }):=⟨⟨_,rfl⟩,(Ext.push T F ι h _).cls,(Ext.push T F ι h _).frz⟩
 have no:h.objs.size ∉ own ι:=fun q => absurd (r.own_lt q) (Zub _)
 refine ⟨(r.push _).more (p:=(h.objs.size,h.objs.size)) ⟨rfl,items.toList,⟨0,by simpa using IsL.new h items⟩,hv.mono m⟩ r.size r.size no no,?_,?_⟩
 · have e:=Ext.push T F ι h { cls:=.type "list",data:=.seq items }
   exact ⟨⟨[(h.objs.size,h.objs.size)],rfl,by simp⟩,e.size,e.cls,e.frz,e.keep,e.frm⟩
 · exact ⟨h.objs.size,h.objs.size,rfl,by rw [← r.len]; simp⟩
theorem St.newList {Q:QE} {vs:List V} {items:Array Value} (S:St T A fs d ι σ s) (hv:VRels T ι s.heap vs items.toList) (q:Q (.ref σ.length) (σ ++ [.list vs])) {t:Nat} :
   PostE T F Q ι s.heap (.ref s.heap.objs.size) { s with heap:=s.heap.push { cls:=.type "list",data:=.seq items },toks:=t } :=
 let ⟨a,b,c⟩:=S.rep.newList (F:=F) hv
 ⟨_,_,_,q,c,a,b,S.gens,S.os⟩
theorem St.newTup {Q:QE} {vs:List V} {items:Array Value} (S:St T A fs d ι σ s) (hv:VRels T ι s.heap vs items.toList) (q:Q (.tup vs) σ) {t:Nat} :
   PostE T F Q ι s.heap (.ref s.heap.objs.size) { s with heap:=s.heap.push { cls:=.type "tuple",data:=.seq items },toks:=t }:=by
 refine ⟨_,_,_,q,?_,S.rep.push _,.push ..,S.gens,S.os⟩
 exact ⟨_,items,0,rfl,IsT.new _ _,hv.mono (Ext.push T [] ι s.heap _).mono⟩
end
theorem BinOk.ints {T:Tp} {d:Nat} {X:QX} {t:Value → Value → Sem Value} {x y:Int} {Q:QE} {σ:Hp}
   (k:∀ {A fs ι s u v},St T A fs d ι σ s → wpAny (model T.prog T.w) A (t (.int x u) (.int y v)) (PostE T [] Q ι s.heap) (PostX T [] X ι s.heap) s):BinOk T d X t (.int x) (.int y) Q σ :=
 fun zz zz zz zz zz zz S hx hy => Zh hx fun zz e => Zh hy fun zz e' => e ▸ e' ▸ k S
theorem BinOk.strs {T:Tp} {d:Nat} {X:QX} {t:Value → Value → Sem Value} {x y:Str} {Q:QE} {σ:Hp}
   (k:∀ {A fs ι s u v},St T A fs d ι σ s → wpAny (model T.prog T.w) A (t (.str x u) (.str y v)) (PostE T [] Q ι s.heap) (PostX T [] X ι s.heap) s):BinOk T d X t (.str x) (.str y) Q σ :=
 fun zz zz zz zz zz zz S hx hy => Zh hx fun zz e => Zh hy fun zz e' => e ▸ e' ▸ k S
theorem BinOk.strInt {T:Tp} {d:Nat} {X:QX} {t:Value → Value → Sem Value} {x:Str} {y:Int} {Q:QE} {σ:Hp}
   (k:∀ {A fs ι s u v},St T A fs d ι σ s → wpAny (model T.prog T.w) A (t (.str x u) (.int y v)) (PostE T [] Q ι s.heap) (PostX T [] X ι s.heap) s):BinOk T d X t (.str x) (.int y) Q σ :=
 fun zz zz zz zz zz zz S hx hy => Zh hx fun zz e => Zh hy fun zz e' => e ▸ e' ▸ k S
theorem BinOk.lists {T:Tp} {d:Nat} {X:QX} {t:Value → Value → Sem Value} {l m:Nat} {xs ys:List V} {Q:QE} {σ:Hp} (h1:σ[l]? = some (.list xs)) (h2:σ[m]? = some (.list ys))
   (k:∀ {A fs ι s u v i1 i2 n1 n2},St T A fs d ι σ s → IsL s.heap u i1 n1 → VRels T ι s.heap xs i1.toList → IsL s.heap v i2 n2 → VRels T ι s.heap ys i2.toList → wpAny (model T.prog T.w) A (t (.ref u) (.ref v)) (PostE T [] Q ι s.heap) (PostX T [] X ι s.heap) s):BinOk T d X t (.ref l) (.ref m) Q σ :=
 fun zz zz zz zz zz zz S hx hy => Zh hx fun zz hx => Zh hx fun zz hx => Zh hy fun zz hy => Zh hy fun zz hy => Zh (S.rep.list_at h1 hx.2) fun zz l1 => Zh l1 fun zz l1 => Zh (S.rep.list_at h2 hy.2) fun zz l2 => Zh l2 fun zz l2 => hx.1 ▸ hy.1 ▸ k S l1.1 l1.2 l2.1 l2.2
inductive BinR (σ:Hp):Operator → V → V → V → Hp → Prop where
 | add (x y:Int):BinR σ .Add (.int x) (.int y) (.int (x + y)) σ
 | cat (x y:Str) (h:x.length + y.length ≤ sizeLine):BinR σ .Add (.str x) (.str y) (.str (x ++ y)) σ
 | lists (l m:Nat) (xs ys:List V) (h1:σ[l]? = some (.list xs)) (h2:σ[m]? = some (.list ys)) (h3:xs.length + ys.length ≤ sizeLine):BinR σ .Add (.ref l) (.ref m) (.ref σ.length) (σ ++ [.list (xs ++ ys)])
 | mul (x y:Int) (h:small64 x ∨ small64 y):BinR σ .Mult (.int x) (.int y) (.int (x * y)) σ
 | rep (x:Str) (n:Int) (h:MulOk x n):BinR σ .Mult (.str x) (.int n) (.str (Txt.mul x n)) σ
 | sub (x y:Int):BinR σ .Sub (.int x) (.int y) (.int (x - y)) σ
 | fdiv (x y:Int) (h:y ≠ 0) (h2:y.natAbs < 1073741824):BinR σ .FloorDiv (.int x) (.int y) (.int (x.fdiv y)) σ
 | mod (x y:Int) (h:y ≠ 0):BinR σ .Mod (.int x) (.int y) (.int (x.fmod y)) σ
inductive binVC (op:Operator) (a b:V) (Q:QE) (σ:Hp):Prop where
 | mk (v:V) (σ':Hp) (r:BinR σ op a b v σ') (q:Q v σ'):binVC op a b Q σ
theorem bin_lists {T:Tp} {d:Nat} {X:QX} {l m:Nat} {xs ys:List V} {Q:QE} {σ:Hp} (h1:σ[l]? = some (.list xs)) (h2:σ[m]? = some (.list ys)) (h3:xs.length + ys.length ≤ sizeLine) (q:Q (.ref σ.length) (σ ++ [.list (xs ++ ys)])):BinOk T d X (binaryOp .Add) (.ref l) (.ref m) Q σ :=
 .lists h1 h2 fun {A fs ι s u v i1 i2 n1 n2} S l1 v1 l2 v2 => P.add_list l1 l2 (S.newList (items:=i1 ++ i2) (Array.toList_append (xs:=i1) (ys:=i2) ▸ v1.append v2) q) (show i1.size + i2.size ≤ sizeLine by
   rw [← Array.length_toList,← Array.length_toList,v1.length,v2.length]; exact h3)
theorem BinR.ok {T:Tp} {d:Nat} {X:QX} {Q:QE} {σ:Hp} {op:Operator} {a b v:V} {σ':Hp} (r:BinR σ op a b v σ'):Q v σ' → BinOk T d X (binaryOp op) a b Q σ:=by
 induction r with
 | add => exact fun q => .ints fun S => PyProof.Rows.add_int (S.post q .int_mk _)
 | cat z1 z2 h => exact fun q => .strs fun S => PyProof.Rows.add_str (fun t' tk => S.post q .str_mk _) h
 | lists z1 z2 z3 z4 h1 h2 h3 => exact fun q => bin_lists h1 h2 h3 q
 | mul z1 z2 h => exact fun q => .ints fun S => PyProof.Rows.mul_int (S.post q .int_mk _) (h.elim (fun q => .of_left (intBits_le_64 q.1 q.2)) fun q => .of_right (intBits_le_64 q.1 q.2))
 | rep z1 z2 h => exact fun q => .strInt fun S => SB.mul h fun t' k => S.post q .str_mk _
 | sub => exact fun q => .ints fun S => sub_int' (S.post q .int_mk _)
 | fdiv z1 z2 h h2 => exact fun q => .ints fun S => floordiv_int h (S.post q .int_mk _) (.inl (PyProof.noPylong_small h2))
 | mod z1 z2 h => exact fun q => .ints fun S => mod_int' h (S.post q .int_mk _)
theorem bin_ok {T:Tp} {d:Nat} {X:QX} {op:Operator} {a b:V} {Q:QE} {σ:Hp} (h:binVC op a b Q σ):BinOk T d X (binaryOp op) a b Q σ:=h.rec fun zz zz r q => r.ok q
end
section
mutual
inductive Deep (σ:Hp):PyData → V → Prop where
 | none:Deep σ .none .none
 | bool (b:Bool):Deep σ (.bool b) (.bool b)
 | int (i:Int):Deep σ (.int i) (.int i)
 | str {s:Str} (h:PyData.strOk s = true):Deep σ (.str s) (.str s)
 | tup {ds:List PyData} {vs:List V} (h:Deeps σ ds vs):Deep σ (.tuple ds) (.tup vs)
 | list {ds:List PyData} {vs:List V} {l:Nat} (e:σ[l]? = some (.list vs)) (h:Deeps σ ds vs):Deep σ (.list ds) (.ref l)
inductive Deeps (σ:Hp):List PyData → List V → Prop where
 | nil:Deeps σ [] []
 | cons {d:PyData} {v:V} {ds:List PyData} {vs:List V} (h:Deep σ d v) (t:Deeps σ ds vs):Deeps σ (d :: ds) (v :: vs)
end
theorem Deep.lay {σ:Hp} {d:PyData} {v:V} (h:Deep σ d v):d.canLay0 = true:=by
 refine Deep.rec (motive_1:=fun d v zz => d.canLay0 = true) (motive_2:=fun ds vs zz => PyData.canLayAll0 ds = true) ?_ ?_ ?_ ?_ ?_ ?_ ?_ ?_ h
 · unfold PyData.canLay0; rfl
 · intro b; unfold PyData.canLay0; rfl
 · intro b; unfold PyData.canLay0; rfl
 · intro s h; unfold PyData.canLay0; exact h
 · intro ds vs h ih; unfold PyData.canLay0; exact ih
 · intro ds vs l e h ih; unfold PyData.canLay0; exact ih
 · unfold PyData.canLayAll0; rfl
 · intro d v ds vs h t ih1 ih2; unfold PyData.canLayAll0; rw [ih1,ih2]; rfl
theorem Deeps.lay {σ:Hp} {ds:List PyData} {vs:List V} (h:Deeps σ ds vs):PyData.canLayAll0 ds = true:=by have:=(Deep.tup h).lay; unfold PyData.canLay0 at this; exact this
section
variable {T:Tp} {ι:Inj} {σ:Hp} {h:Heap}
noncomputable abbrev RdOne (T:Tp) (ι:Inj) (h:Heap) (d:PyData) (v:V):Prop:=∀ {x:Value},VRel T ι h v x → ∃ as,Reads h x d as
noncomputable abbrev RdAll (T:Tp) (ι:Inj) (h:Heap) (ds:List PyData) (vs:List V):Prop:=∀ {xs:List Value},VRels T ι h vs xs → ∃ as,ReadsAll h xs ds as
theorem rd_none:RdOne T ι h .none .none:=fun r => r.none_inv ▸ ⟨_,.none⟩
theorem rd_bool (b:Bool):RdOne T ι h (.bool b) (.bool b):=fun r => r.bool_inv ▸ ⟨_,.bool b⟩
theorem rd_int (i:Int):RdOne T ι h (.int i) (.int i):=fun r => r.int_inv.elim fun t e => e ▸ ⟨_,.int i t⟩
theorem rd_str {s:Str} (zz:PyData.strOk s = true):RdOne T ι h (.str s) (.str s):=fun r => r.str_inv.elim fun t e => e ▸ ⟨_,.str s t⟩
theorem rd_tup {ds:List PyData} {vs:List V} (zz:Deeps σ ds vs) (ih:RdAll T ι h ds vs):RdOne T ι h (.tuple ds) (.tup vs):=fun r => ex3 r.tup_inv fun a items n e => (ih e.2.2).elim fun as ra => e.1 ▸ ⟨as,.tuple e.2.1 rfl rfl ra⟩
theorem rd_list (R:Rep T ι σ h) {ds:List PyData} {vs:List V} {l:Nat} (e1:σ[l]? = some (.list vs)) (zz:Deeps σ ds vs) (ih:RdAll T ι h ds vs):RdOne T ι h (.list ds) (.ref l):=fun r => ex2 r.ref_inv fun a d e => ex2 (R.list_at e1 e.2) fun items n q => (ih q.2).elim fun as ra => e.1 ▸ ⟨a :: as,.list q.1 rfl rfl ra⟩
theorem rd_nil:RdAll T ι h [] []:=fun r => VRels.nil_iff.mp r ▸ ⟨[],.nil⟩
theorem rd_cons {d:PyData} {v:V} {ds:List PyData} {vs:List V} (zz:Deep σ d v) (zz:Deeps σ ds vs) (i1:RdOne T ι h d v) (i2:RdAll T ι h ds vs):RdAll T ι h (d :: ds) (v :: vs):=fun r => ex2 (VRels.cons_iff.mp r) fun x ys e => (i1 e.2.1).elim fun as h1 => (i2 e.2.2).elim fun bs h2 => e.1 ▸ ⟨as ++ bs,.cons h1 h2⟩
theorem Deep.reads (R:Rep T ι σ h) {d:PyData} {v:V} {x:Value} (e:Deep σ d v) (r:VRel T ι h v x):∃ as,Reads h x d as :=
 Deep.rec (motive_1:=fun d v zz => RdOne T ι h d v) (motive_2:=fun ds vs zz => RdAll T ι h ds vs) rd_none rd_bool rd_int rd_str rd_tup (rd_list R) rd_nil rd_cons e r
theorem Deeps.reads (R:Rep T ι σ h) {ds:List PyData} {vs:List V} {xs:List Value} (e:Deeps σ ds vs) (r:VRels T ι h vs xs):∃ as,ReadsAll h xs ds as :=
 Deeps.rec (motive_1:=fun d v zz => RdOne T ι h d v) (motive_2:=fun ds vs zz => RdAll T ι h ds vs) rd_none rd_bool rd_int rd_str rd_tup (rd_list R) rd_nil rd_cons e r
end
end
section
theorem notIn_of {M:Model} {A:Around} {E:Value → Shared → Prop} {s:Shared} {x y:Value} {Q:Value → Shared → Prop} (h:wpAny M A (compareOp .In x y) (fun v s' => ∀ b,v = .bool b → Q (.bool (!b)) s') E s) :
   wpAny M A (compareOp .NotIn x y) Q E s:=fun Γ p hΓ => by
 have h':=h Γ p hΓ
 change Sem.wp M Γ (contains y x >>= fun r => pure (Value.bool r)) _ _ p s at h'
 show Sem.wp M Γ (contains y x >>= fun r => pure (Value.bool !r)) _ _ p s
 rw [Sem.wp_bind'] at h' ⊢
 exact Sem.wp_mono M Γ _ (fun r zz zz q => q r rfl) (fun zz zz zz q => q) _ _ h'
theorem room40 {u d x:Nat} (h:u + 10 * d + 50 ≤ cLine) (hx:x ≤ 40):u + x < cLine:=by lia
theorem room41 {u d x:Nat} (h:u + 10 * d + 50 ≤ cLine) (hx:x ≤ 40):u + 1 + x < cLine:=by lia
noncomputable def isNoneV (vv:V):Option Bool:=vv.casesOn (some true) (fun _ => some false) (fun _ => some false) (fun _ => some false) (fun _ => some false) (fun _ => some false) (fun _ => none) (fun _ _ => none) (fun _ => none) (fun _ => none) (fun _ => none) (fun _ => some false) (fun _ => none) (fun _ _ => none)
noncomputable def isBoolV (b:Bool) (vv:V):Option Bool:=vv.casesOn (some false) (fun c => some (c == b)) (fun _ => some false) (fun _ => some false) (fun _ => some false) (fun _ => some false) (fun _ => none) (fun _ _ => none) (fun _ => none) (fun _ => none) (fun _ => none) (fun _ => some false) (fun _ => none) (fun _ _ => none)
noncomputable def strIn (x y:Str):Bool:=!(Builtin.Str.occurrences y x 0 y.length 1).isEmpty
inductive InR (σ:Hp):V → V → Bool → Prop where
 | str (x y:Str):InR σ (.str x) (.str y) (strIn x y)
 | list (a:V) (l:Nat) (vs:List V) (ds:List PyData) (d:PyData) (h:σ[l]? = some (.list vs)) (h1:Deeps σ ds vs) (h2:Deep σ d a) (h3:PyData.depthAll ds ≤ 40):InR σ a (.ref l) (ds.any fun y => PyData.eqv y d)
 | dict (k:Str) (l:Nat) (kvs:List (Str × V)) (h:σ[l]? = some (.sdict kvs)):InR σ (.str k) (.ref l) (kvs.any fun kv => kv.1 = k)
 | tdict (k:Str × Int) (l:Nat) (kvs:List ((Str × Int) × V)) (h:σ[l]? = some (.tdict kvs)):InR σ (.tup [.str k.1,.int k.2]) (.ref l) (kvs.any fun kv => kv.1 = k)
inductive CmpR (σ:Hp):CmpOp → V → V → Bool → Prop where
 | lt (x y:Int):CmpR σ .Lt (.int x) (.int y) (decide (x < y))
 | le (x y:Int):CmpR σ .LtE (.int x) (.int y) (decide (x ≤ y))
 | gt (x y:Int):CmpR σ .Gt (.int x) (.int y) (decide (y < x))
 | ge (x y:Int):CmpR σ .GtE (.int x) (.int y) (decide (y ≤ x))
 | eqi (x y:Int):CmpR σ .Eq (.int x) (.int y) (x == y)
 | nei (x y:Int):CmpR σ .NotEq (.int x) (.int y) (x != y)
 | eqs (x y:Str):CmpR σ .Eq (.str x) (.str y) (x == y)
 | nes (x y:Str):CmpR σ .NotEq (.str x) (.str y) (x != y)
 | eq (a b:V) (da db:PyData) (h1:Deep σ da a) (h2:Deep σ db b) (h3:da.depth ≤ 40):CmpR σ .Eq a b (PyData.eqv da db)
 | ne (a b:V) (da db:PyData) (h1:Deep σ da a) (h2:Deep σ db b) (h3:da.depth ≤ 40):CmpR σ .NotEq a b (!PyData.eqv da db)
 | isN (a:V) (r:Bool) (h:isNoneV a = some r):CmpR σ .Is a .none r
 | notN (a:V) (r:Bool) (h:isNoneV a = some r):CmpR σ .IsNot a .none (!r)
 | isB (a:V) (c r:Bool) (h:isBoolV c a = some r):CmpR σ .Is a (.bool c) r
 | notB (a:V) (c r:Bool) (h:isBoolV c a = some r):CmpR σ .IsNot a (.bool c) (!r)
 | isin (a b:V) (r:Bool) (h:InR σ a b r):CmpR σ .In a b r
 | nin (a b:V) (r:Bool) (h:InR σ a b r):CmpR σ .NotIn a b (!r)
 | own (op:CmpOp) (a b:V) (r:Bool) (h:∀ {T:Tp} {d:Nat} {X:QX} {Q:QE},Q (.bool r) σ → BinOk T d X (compareOp op) a b Q σ):CmpR σ op a b r
inductive cmpVC (op:CmpOp) (a b:V) (Q:QE) (σ:Hp):Prop where
 | mk (r:Bool) (c:CmpR σ op a b r) (q:Q (.bool r) σ):cmpVC op a b Q σ
section
variable {T:Tp} {A:Around} {fs:List Env} {d:Nat} {ι:Inj} {σ:Hp} {s:Shared}
theorem is_none {a:V} {x:Value} {h:Heap} {r:Bool} (e:isNoneV a = some r) (v:VRel T ι h a x):plainIs x .none = true ∧ (x == .none) = r:=by
 cases a <;> first | (cases (show (Option.none:Option Bool) = some r from e); done) | (obtain rfl:=Zab (show some _ = some r from e))
 · cases v.none_inv; exact ⟨rfl,rfl⟩
 · cases v.bool_inv; exact ⟨rfl,rfl⟩
 · obtain ⟨t,rfl⟩:=v.int_inv; exact ⟨rfl,rfl⟩
 · obtain ⟨t,rfl⟩:=v.str_inv; exact ⟨rfl,rfl⟩
 · obtain ⟨a,zz,zz,rfl,zz⟩:=v.tup_inv; exact ⟨rfl,rfl⟩
 · obtain ⟨a,zz,rfl,zz⟩:=v.ref_inv; exact ⟨rfl,rfl⟩
 · obtain ⟨a,zz,zz,rfl,zz⟩:=v; exact ⟨rfl,rfl⟩
set_option tactic.hygienic true in
theorem is_bool {a:V} {x:Value} {h:Heap} {b r:Bool} (e:isBoolV b a = some r) (v:VRel T ι h a x):plainIs x (.bool b) = true ∧ (x == .bool b) = r:=by
 cases a <;> first | (cases (show (Option.none:Option Bool) = some r from e); done) | (obtain rfl:=Zab (show some _ = some r from e))
 · cases v.none_inv; exact ⟨rfl,rfl⟩
 · cases v.bool_inv; refine ⟨rfl,?_⟩; rename_i c; cases b <;> cases c <;> rfl
 · obtain ⟨t,rfl⟩:=v.int_inv; exact ⟨rfl,rfl⟩
 · obtain ⟨t,rfl⟩:=v.str_inv; exact ⟨rfl,rfl⟩
 · obtain ⟨a,zz,zz,rfl,zz⟩:=v.tup_inv; exact ⟨rfl,rfl⟩
 · obtain ⟨a,zz,rfl,zz⟩:=v.ref_inv; exact ⟨rfl,rfl⟩
 · obtain ⟨a,zz,zz,rfl,zz⟩:=v; exact ⟨rfl,rfl⟩
theorem KVRel.isSome {h:Heap} {kvs:List (Str × V)} {rvs:List (Str × Value)} {k:Str} (e:KVRel T ι h kvs rvs):(valueAt rvs k).isSome = kvs.any fun kv => kv.1 = k:=e.find.isSome.trans find_some
theorem TKRel.isSome {h:Heap} {kvs:List ((Str × Int) × V)} {xs:List ((Str × Int) × Addr × Value)} {k:Str × Int} (e:TKRel T ι h kvs xs):(atKey xs k).isSome = kvs.any fun kv => kv.1 = k:=e.find.isSome.trans find_some
theorem VRels.two {h:Heap} {v w:V} {xs:List Value} (e:VRels T ι h [v,w] xs):∃ x y,xs = [x,y] ∧ VRel T ι h v x ∧ VRel T ι h w y:=by
 obtain ⟨x,r,rfl,h1,h2⟩:=VRels.cons_iff.mp e
 obtain ⟨y,r,rfl,h3,h4⟩:=VRels.cons_iff.mp h2
 cases VRels.nil_iff.mp h4
 exact ⟨x,y,rfl,h1,h3⟩
theorem VRel.pair {h:Heap} {k:Str × Int} {v:Value} (e:VRel T ι h (.tup [.str k.1,.int k.2]) v):∃ a,v = .ref a ∧ IsPair h k a:=by
 obtain ⟨a,⟨xs⟩,n,e1,ht,hv⟩:=e.tup_inv
 obtain ⟨x,y,e2,⟨t,e3⟩,⟨u,e4⟩⟩:=hv.two
 cases e2; cases e3; cases e4
 exact ⟨a,e1,_,t,u,n,ht,⟨rfl,rfl,rfl⟩,rfl⟩
theorem Rep.tdict_at {h:Heap} (r:Rep T ι σ h) {l:Nat} {kvs:List ((Str × Int) × V)} {a d:Addr} (e:σ[l]? = some (.tdict kvs)) (q:ι[l]? = some (a,d)) :
   ∃ xs,h.DictOfH (pairKind T.prog T.w) a xs ∧ TKRel T ι h kvs xs ∧ (a == sysModules) = false:=by
 obtain ⟨zz,rvs,hd,hv⟩:=r.objs l _ _ e q
 refine ⟨rvs,hd,hv,?_⟩
 have h1:=(r.fresh _ (Zn q)).1
 have h2:=r.big
 simp only [Zmc,ne_eq]
 intro hq
 have:(sysModules:Nat) = 1:=rfl
 rw [hq] at h1
 have h3:T.b0.objs.size ≤ 1:=h1
 (clear h1 e q; lia)
theorem Rep.sdict_at {h:Heap} (r:Rep T ι σ h) {l:Nat} {kvs:List (Str × V)} {a d:Addr} (e:σ[l]? = some (.sdict kvs)) (q:ι[l]? = some (a,d)) :
   ∃ rvs,h.DictOf (strKind T.prog T.w) a rvs ∧ KVRel T ι h kvs rvs ∧ (a == sysModules) = false:=by
 obtain ⟨zz,rvs,hd,hv⟩:=r.objs l _ _ e q
 refine ⟨rvs,hd,hv,?_⟩
 have h1:=(r.fresh _ (Zn q)).1
 have h2:=r.big
 simp only [Zmc,ne_eq]
 intro hq
 have:(sysModules:Nat) = 1:=rfl
 rw [hq] at h1
 have h3:T.b0.objs.size ≤ 1:=h1
 (clear h1 e q; lia)
end
theorem BinOk.eqR {T:Tp} {d:Nat} {X:QX} {t:Value → Value → Sem Value} {a b:V} {da db:PyData} {Q:QE} {σ:Hp} (h1:Deep σ da a) (h2:Deep σ db b) (h3:da.depth ≤ 40)
   (k:∀ {A fs ι s x y as bs},St T A fs d ι σ s → Reads s.heap x da as → Reads s.heap y db bs → A.units + min da.depth db.depth < cLine → wpAny (model T.prog T.w) A (t x y) (PostE T [] Q ι s.heap) (PostX T [] X ι s.heap) s):BinOk T d X t a b Q σ :=
 fun A zz zz zz zz zz S hx hy => Zh (h1.reads S.rep hx) fun zz ra => Zh (h2.reads S.rep hy) fun zz rb => k S ra rb (room40 S.aok.units (Za (Nat.min_le_left ..) h3))
theorem in_list_ok {T:Tp} {d:Nat} {X:QX} {a:V} {l:Nat} {vs:List V} {ds:List PyData} {dd:PyData} {Q:QE} {σ:Hp} (h:σ[l]? = some (.list vs)) (h1:Deeps σ ds vs) (h2:Deep σ dd a) (h3:PyData.depthAll ds ≤ 40) (q:Q (.bool (ds.any fun y => PyData.eqv y dd)) σ) :
   BinOk T d X (compareOp .In) a (.ref l) Q σ :=
 fun A zz zz zz zz zz S hx hy => Zh hy fun zz hy => Zh hy fun zz hy => hy.1 ▸ Zh (S.rep.list_at h hy.2) fun zz l1 => Zh l1 fun zz l1 => Zh (h1.reads S.rep l1.2) fun zz ra => Zh (h2.reads S.rep hx) fun zz rx =>
   in_list_reads (.list l1.1 rfl rfl ra) rx h1.lay h2.lay (room41 S.aok.units (Za (Nat.min_le_left ..) h3)) (S.post0 (v:=.bool _) q .bool_mk)
theorem in_dict_ok {T:Tp} {d:Nat} {X:QX} {k:Str} {l:Nat} {kvs:List (Str × V)} {Q:QE} {σ:Hp} (h:σ[l]? = some (.sdict kvs)) (q:Q (.bool (kvs.any fun kv => kv.1 = k)) σ):BinOk T d X (compareOp .In) (.str k) (.ref l) Q σ :=
 fun A zz zz zz zz zz S hx hy => Zh hx fun zz hx => Zh hy fun zz hy => Zh hy fun zz hy => hx ▸ hy.1 ▸ Zh (S.rep.sdict_at h hy.2) fun zz hd =>
   wpAny_in_of (knd:=strKind T.prog T.w) (k:=k) (by simp [PySem.strKind,Value.isStrOf]) hd.2.2 hd.1.mapOf (S.post (hd.2.1.isSome ▸ q) .bool_mk _)
theorem in_tdict_ok {T:Tp} {d:Nat} {X:QX} {k:Str × Int} {l:Nat} {kvs:List ((Str × Int) × V)} {Q:QE} {σ:Hp} (h:σ[l]? = some (.tdict kvs)) (q:Q (.bool (kvs.any fun kv => kv.1 = k)) σ):BinOk T d X (compareOp .In) (.tup [.str k.1,.int k.2]) (.ref l) Q σ :=
 fun A zz zz zz zz zz S hx hy => Zh hx.pair fun zz hx => Zh hy fun zz hy => Zh hy fun zz hy => hx.1 ▸ hy.1 ▸ Zh (S.rep.tdict_at h hy.2) fun zz hd =>
   wpAny_in_heap (knd:=pairKind T.prog T.w) (k:=k) (show A.units + 1 < cLine from room41 (x:=0) S.aok.units (by decide)) hx.2 hd.2.2 hd.1 (S.post (hd.2.1.isSome ▸ q) .bool_mk _)
theorem BinOk.nin {T:Tp} {d:Nat} {X:QX} {a b:V} {r:Bool} {Q:QE} {σ:Hp} (q:Q (.bool (!r)) σ) (h:BinOk T d X (compareOp .In) a b (fun v σ' => v = .bool r ∧ σ' = σ) σ):BinOk T d X (compareOp .NotIn) a b Q σ :=
 fun A fs ι s x y S hx hy => notIn_of (Zib (h A fs ι s x y S hx hy) (fun v s' p b e => by
   obtain ⟨v,σ',ι',h0,h1,h2,h3,h4,h5⟩:=p
   cases h0.1; cases h0.2; cases e
   cases VRel.bool_inv h1
   exact ⟨_,_,_,q,.bool_mk,h2,h3,h4,h5⟩) fun zz zz p => p)
theorem InR.ok {T:Tp} {d:Nat} {X:QX} {σ:Hp} {a b:V} {r:Bool} (c:InR σ a b r):∀ {Q:QE},Q (.bool r) σ → BinOk T d X (compareOp .In) a b Q σ:=by
 induction c with
 | str => exact fun q => .strs fun S => in_str (S.post0 q .bool_mk)
 | list z1 z2 z3 z4 z5 h h1 h2 h3 => exact fun q => in_list_ok h h1 h2 h3 q
 | dict z1 z2 z3 h => exact fun q => in_dict_ok h q
 | tdict z1 z2 z3 h => exact fun q => in_tdict_ok h q
theorem CmpR.ok {T:Tp} {d:Nat} {X:QX} {σ:Hp} {op:CmpOp} {a b:V} {r:Bool} (c:CmpR σ op a b r):∀ {Q:QE},Q (.bool r) σ → BinOk T d X (compareOp op) a b Q σ:=by
 induction c with
 | lt => exact fun q => .ints fun S => lt_int (S.post0 q .bool_mk)
 | le => exact fun q => .ints fun S => le_int (S.post0 q .bool_mk)
 | gt => exact fun q => .ints fun S => gt_int (S.post0 q .bool_mk)
 | ge => exact fun q => .ints fun S => ge_int (S.post0 q .bool_mk)
 | eqi => exact fun q => .ints fun S => PyProof.Rows.eq_int (S.post0 q .bool_mk)
 | nei => exact fun q => .ints fun S => ne_int (S.post0 q .bool_mk)
 | eqs => exact fun q => .strs fun S => PyProof.Rows.eq_str (S.post0 q .bool_mk)
 | nes => exact fun q => .strs fun S => ne_str (S.post0 q .bool_mk)
 | eq z1 z2 z3 z4 h1 h2 h3 => exact fun q => .eqR h1 h2 h3 fun S ra rb hr => compareEq_reads ra rb h1.lay h2.lay hr (S.post0 q .bool_mk)
 | ne z1 z2 z3 z4 h1 h2 h3 => exact fun q => .eqR h1 h2 h3 fun S ra rb hr => compareNe_reads ra rb h1.lay h2.lay hr (S.post0 q .bool_mk)
 | isN z1 z2 e => exact fun q zz zz zz zz zz zz S hx hy => hy.none_inv ▸ wpAny_is_plain (is_none e hx).1 (S.post0 ((is_none e hx).2 ▸ q) .bool_mk)
 | notN z1 z2 e => exact fun q zz zz zz zz zz zz S hx hy => hy.none_inv ▸ wpAny_isNot_plain (is_none e hx).1 (S.post0 ((is_none e hx).2 ▸ q) .bool_mk)
 | isB z1 z2 z3 e => exact fun q zz zz zz zz zz zz S hx hy => hy.bool_inv ▸ wpAny_is_plain (is_bool e hx).1 (S.post0 ((is_bool e hx).2 ▸ q) .bool_mk)
 | notB z1 z2 z3 e => exact fun q zz zz zz zz zz zz S hx hy => hy.bool_inv ▸ wpAny_isNot_plain (is_bool e hx).1 (S.post0 ((is_bool e hx).2 ▸ q) .bool_mk)
 | isin z1 z2 z3 h => exact fun q => h.ok q
 | nin z1 z2 z3 h => exact fun q => .nin q (h.ok ⟨rfl,rfl⟩)
 | own z1 z2 z3 z4 h => exact fun q => h q
theorem cmp_ok {T:Tp} {d:Nat} {X:QX} {op:CmpOp} {a b:V} {Q:QE} {σ:Hp} (h:cmpVC op a b Q σ):BinOk T d X (compareOp op) a b Q σ:=h.rec fun zz c q => c.ok q
end
section
structure TopOk (T:Tp):Prop where
 X0:T.K.In T.b0
 lim:T.b0.NoLimit
 own:∀ x C bmB newId,PySem.W.nsIn T.K mainGlobals x = some (some (.ref C)) → PySem.W.excIn T.K C bmB newId = true → ∃ mg,PyProof.Rows.OwnCls x C bmB newId mg T.b0
 gl:∀ x v,T.gv x = some v → ∃ V mg mb,T.b0.Ns mainGlobals mg ∧ T.b0.Ns builtinsNs mb ∧ (mg x = some V ∨ (mg x = none ∧ mb x = some V)) ∧ VRel T [] T.b0 v V
noncomputable def isVar (sc:Scope) (x:Str):Bool:=match sc.names.lookup x with
 | some .local | some .cell | some .free => true
 | z1 => false
theorem isVar_out {sc:Scope} {x:Str} (h:isVar sc x = true):sc.names.lookup x = some .local ∨ sc.names.lookup x = some .cell ∨ sc.names.lookup x = some .free:=by
 unfold isVar at h
 generalize sc.names.lookup x = o at h ⊢
 rcases o with zz | k
 · exact (Zv h).elim
 · cases k <;> first | exact .inl rfl | exact .inr (.inl rfl) | exact .inr (.inr rfl) | exact (Zv h).elim
noncomputable def scOk (sc:Scope):Bool:=sc.names.all fun p => !(p.1 == ("__debug__" : Str)) && !(p.1 == ("__classdict__" : Str))
theorem not_debug {sc:Scope} {x:Str} {k:NameKind} (h:scOk sc = true) (e:sc.names.lookup x = some k):(x == ("__debug__" : Str)) = false ∧ (x == ("__classdict__" : Str)) = false:=by
 unfold scOk at h
 have:∀ l:List (Str × NameKind),(l.all fun p => !(p.1 == ("__debug__" : Str)) && !(p.1 == ("__classdict__" : Str))) = true → l.lookup x = some k → (x == ("__debug__" : Str)) = false ∧ (x == ("__classdict__" : Str)) = false:=by
   intro l
   induction l with
   | nil => intro zz e; cases e
   | cons p r ih =>
     intro h e
     simp only [List.all_cons,Zob,Bool.not_eq_true'] at h
     rw [List.lookup_cons] at e
     by_cases q:(x == p.1) = true
     · rw [beq_iff_eq.mp q]; exact h.1
     · rw [Bool.not_eq_true] at q; rw [q] at e
       exact ih (by simpa using h.2) e
 exact this _ h e
noncomputable def noStar (es:List Expr):Bool:=es.all fun e => e.ctorIdx != 22
theorem starEach_one {env:Env} {e:Expr} {r:List Expr} (h:(e.ctorIdx != 22) = true):starEach (e :: r) env = (false,eval e env) :: starEach r env:=by
 cases e <;> first | rfl | cases h
theorem starEach_eq {env:Env} {pos:Pos} {es:List Expr} (h:noStar es = true):backTo pos (starEach es env) = es.map fun e => (false,eval e env):=by
 induction es with
 | nil => rfl
 | cons e r ih =>
   have h:=Bool.and_eq_true_iff.mp h
   rw [starEach_one h.1]
   exact congrArg (_ :: ·) (ih h.2)
section
variable {T:Tp} {d:Nat} {sc:Scope} {ρ:Loc} {X:QX} {Q:QE} {σ:Hp}
theorem EvOk.mono {e:Expr} {Q':QE} {X':QX} (h:EvOk T d sc ρ X e Q σ) (k:∀ v σ,Q v σ → Q' v σ) (kx:∀ c σ,X c σ → X' c σ):EvOk T d sc ρ X' e Q' σ :=
 fun env A fs F ι s hsc I => Zib (h env A fs F ι s hsc I) (fun zz zz p => p.mono k) fun zz zz p => p.mono kx
theorem EvOk.none {k pos} (h:Q .none σ):EvOk T d sc ρ X (.Constant .none k pos) Q σ:=fun zz zz zz zz zz zz zz I => wpAny_Constant_none (I.st.post0 h .none_mk)
theorem EvOk.bool {b k pos} (h:Q (.bool b) σ):EvOk T d sc ρ X (.Constant (.bool b) k pos) Q σ:=fun zz zz zz zz zz zz zz I => wpAny_Constant_bool (I.st.post0 h .bool_mk)
theorem EvOk.int {i k pos} (h:Q (.int i) σ):EvOk T d sc ρ X (.Constant (.int i) k pos) Q σ:=fun zz zz zz zz zz zz zz I => wpAny_Constant_int (I.st.post h .int_mk _)
theorem EvOk.str {i k pos} (h:Q (.str i) σ):EvOk T d sc ρ X (.Constant (.str i) k pos) Q σ:=fun zz zz zz zz zz zz zz I => wpAny_Constant_str (I.st.post h .str_mk _)
theorem OptR.at {α β:Type} {R:α → β → Prop} {x:Option α} {y:Option β} (h:OptR R x y):∀ {a:α},x = Option.some a → ∃ b,y = Option.some b ∧ R a b:=h.rec (fun e => (by cases e)) fun h e => ⟨_,rfl,Zab e ▸ h⟩
theorem EvOk.local {x:Str} {pos:Pos} {v:V} (h:Q v σ) (hv:ρ x = some v) (hk:sc.names.lookup x = some .local) (ho:scOk sc = true):EvOk T d sc ρ X (.Name x pos) Q σ:=by
 intro env A fs F ι s hsc I
 obtain ⟨c,m,zz,hn,hr⟩:=I.frm.ns
 have hk':env.kindOf x = some .local:=(congrArg (fun z => z.names.lookup x) hsc).trans hk
 refine ((hr x hk').at hv).elim fun y h9 => h9.elim fun hm r => ?_
 exact wpAny_Name (wpAny_loadName_local I.frm.kind hk' hn.ns hm (I.st.post0 h r)) (not_debug ho hk).1
theorem EvOk.cell {x:Str} {pos:Pos} {v:V} {k:NameKind} (h:Q v σ) (hv:ρ x = some v) (hk:sc.names.lookup x = some k) (hk':k = .cell ∨ k = .free) (ho:scOk sc = true):EvOk T d sc ρ X (.Name x pos) Q σ:=by
 intro env A fs F ι s hsc I
 have hkk:env.kindOf x = some k:=(congrArg (fun z => z.names.lookup x) hsc).trans hk
 obtain ⟨c,o,y,e1,e2,zz,e4,r,zz⟩:=I.frm.cells x (hk'.imp (fun e => hkk.trans (congrArg some e)) fun e => hkk.trans (congrArg some e))
 refine (r.at hv).elim fun y h9 => h9.elim fun e r => ?_
 have hc:s.heap.IsCell c (some y):=⟨o,e2,e ▸ e4⟩
 refine wpAny_Name ?_ (not_debug ho hk).1
 rcases hk' with e | e
 · exact wpAny_loadName_cell I.frm.kind (e ▸ hkk) e1 hc (I.st.post0 h r)
 · exact wpAny_loadName_free I.frm.kind (e ▸ hkk) e1 hc (I.st.post0 h r) (not_debug ho hk).2
theorem EvOk.var {x:Str} {pos:Pos} {v:V} (h:Q v σ) (hv:ρ x = some v) (hk:isVar sc x = true) (ho:scOk sc = true):EvOk T d sc ρ X (.Name x pos) Q σ :=
 (isVar_out hk).elim (fun e => .local h hv e ho) fun e => e.elim (fun e => .cell h hv e (.inl rfl) ho) fun e => .cell h hv e (.inr rfl) ho
theorem VRel.up {ι:Inj} {h:Heap} {v:V} {x:Value} (R:Rep T ι σ h) (r:VRel T [] T.b0 v x):VRel T ι h v x :=
 r.mono ⟨⟨ι,rfl⟩,fun zz o e zz => ⟨o,R.base _ _ e,rfl⟩,fun zz zz e zz => R.base _ _ e⟩
theorem EvOk.glob {x:Str} {pos:Pos} {v:V} (TO:TopOk T) (h:Q v σ) (hv:T.gv x = some v) (hk:sc.names.lookup x = some .globalImplicit) (ho:scOk sc = true):EvOk T d sc ρ X (.Name x pos) Q σ:=by
 intro env A fs F ι s hsc I
 subst hsc
 refine ex3 (TO.gl x v hv) fun V mg mb h9 => and4 h9 fun n1 n2 hm r => ?_
 have N1:=n1.keeps I.rep.base
 have N2:=n2.keeps I.rep.base
 have p:=I.st.post0 (F:=[]) h (r.up I.rep)
 refine Name_function_global I.frm.kind hk ?_ (not_debug ho hk).1
 rw [← I.frm.glb] at N1
 rw [← I.frm.blt] at N2
 rcases hm with hm | ⟨hm,hb⟩
 · exact loadGlobal_global N1 hm p
 · exact loadGlobal_builtin N1 hm N2 hb p
theorem EvOk.two {l r:Expr} {t:Value → Value → Sem Value} {P:V → V → Hp → Prop} {env:Env} {A:Around} {fs:List Env} {F:List Addr} {ι:Inj} {s:Shared} (hk:∀ {a b σ},P a b σ → BinOk T d X t a b Q σ)
   (h:EvOk T d sc ρ X l (fun a σ₁ => EvOk T d sc ρ X r (fun b σ₂ => P a b σ₂) σ₁) σ) (hsc:env.scope = sc) (I:Inv T A fs d env F ρ ι σ s) :
   wpAny (model T.prog T.w) A (eval l env) (fun x s₁ => wpAny (model T.prog T.w) A (eval r env) (fun y s₂ => wpAny (model T.prog T.w) A (t x y) (PostE T [] Q ι s.heap) (PostX T [] X ι s.heap) s₂) (PostX T [] X ι s.heap) s₁) (PostX T [] X ι s.heap) s:=by
 refine Zib (h env A fs F ι s hsc I) (fun x s₁ p => ?_) fun zz zz p => p
 obtain ⟨v,σ₁,ι₁,q,rv,rp,ex,g,o⟩:=p
 have I₁:=I.ext ex rp g o
 refine Zib (q env A fs F ι₁ s₁ hsc I₁) (fun y s₂ p => ?_) fun zz zz p => p.trans ex
 obtain ⟨v₂,σ₂,ι₂,q₂,rv₂,rp₂,ex₂,g₂,o₂⟩:=p
 exact Zib (hk q₂ A fs ι₂ s₂ x y (I₁.ext ex₂ rp₂ g₂ o₂).st (rv.mono ex₂.mono) rv₂) (fun zz zz p => p.trans (ex.trans ex₂)) fun zz zz p => p.trans (ex.trans ex₂)
theorem EvOk.bin {l r:Expr} {op:Operator} {pos:Pos} (h:EvOk T d sc ρ X l (fun a σ₁ => EvOk T d sc ρ X r (fun b σ₂ => binVC op a b Q σ₂) σ₁) σ):EvOk T d sc ρ X (.BinOp l op r pos) Q σ :=
 fun zz zz zz zz zz zz hsc I => wpAny_BinOp (EvOk.two bin_ok h hsc I)
theorem EvOk.cmp {l r:Expr} {op:CmpOp} {pos:Pos} (h:EvOk T d sc ρ X l (fun a σ₁ => EvOk T d sc ρ X r (fun b σ₂ => cmpVC op a b Q σ₂) σ₁) σ) (hm:behindInMarks op r = false):EvOk T d sc ρ X (.Compare l [op] [r] pos) Q σ :=
 fun zz zz zz zz zz zz hsc I => wpAny_Compare1 (EvOk.two cmp_ok h hsc I) hm
noncomputable def truthV (v:V) (σ:Hp):Option Bool:=match v with
 | .bool b => some b
 | .none => some false
 | .int i => some (i != 0)
 | .ref l => atL (fun vs => if vs.length < 1000000000 then some (!vs.isEmpty) else none) σ[l]?
 | z1 => none
theorem truth_ok {A:Around} {fs:List Env} {ι:Inj} {s:Shared} {v:V} {x:Value} {b:Bool} {Q:Bool → Hp → Prop} (S:St T A fs d ι σ s) (r:VRel T ι s.heap v x) (e:truthV v σ = some b) (q:Q b σ) :
   wpAny (model T.prog T.w) A (truthy x) (PostB T Q ι s.heap) (PostX T [] X ι s.heap) s:=by
 have fin:∀ t,PostB T Q ι s.heap b { s with toks:=t }:=fun t => ⟨σ,ι,q,S.rep,.refl ..,S.gens,S.os⟩
 cases v <;> first | exact (no_some e).elim | skip
 · cases r.none_inv; cases sm_inj e; exact Zjb (fin s.toks)
 · cases r.bool_inv; cases sm_inj e; exact wpAny_truthy_bool (fin s.toks)
 · obtain ⟨t,rfl⟩:=r.int_inv; cases sm_inj e; exact P.truthy_int (fin s.toks)
 · obtain ⟨a,d',rfl,hl⟩:=r.ref_inv
   obtain ⟨vs,hvs,e⟩:=atL_out e
   · split at e
     · rename_i hlt
       simp only [Option.some.injEq] at e
       refine ex2 (S.rep.list_at hvs hl) fun items n h9 => h9.elim fun hL hv => ?_
       have hlen:=hv.length
       simp only [Array.length_toList] at hlen
       refine wpAny_truthy_list hL.isList (by (clear hvs fin hl; lia)) ?_
       have:(!items.isEmpty) = b:=by
         rw [← e]; congr 1
         rw [Bool.eq_iff_iff,Array.isEmpty_iff_size_eq_zero,List.isEmpty_iff_length_eq_zero,hlen]
       rw [this]; exact fin _
     · cases e
end
end
section
section
variable {T:Tp} {d:Nat} {sc:Scope} {ρ:Loc} {X:QX} {Q:QE} {B:Bool → Hp → Prop} {σ:Hp}
theorem TsOk.cmp {l r:Expr} {op:CmpOp} {pos:Pos} (h:EvOk T d sc ρ X l (fun a σ₁ => EvOk T d sc ρ X r (fun b σ₂ => cmpVC op a b (fun v σ₃ => ∃ c,v = .bool c ∧ B c σ₃) σ₂) σ₁) σ) (hm:behindInMarks op r = false):TsOk T d sc ρ X (.Compare l [op] [r] pos) B σ:=by
 intro env A fs F ι s hsc I
 refine wpAny_isTrue_Compare1 (Zib (h env A fs F ι s hsc I) (fun x s₁ p => ?_) fun zz zz p => p) hm
 obtain ⟨v,σ₁,ι₁,q,rv,rp,ex,g,o⟩:=p
 have I₁:=I.ext ex rp g o
 refine Zib (q env A fs F ι₁ s₁ hsc I₁) (fun y s₂ p => ?_) fun zz zz p => p.trans ex
 obtain ⟨v₂,σ₂,ι₂,q₂,rv₂,rp₂,ex₂,g₂,o₂⟩:=p
 have I₂:=I₁.ext ex₂ rp₂ g₂ o₂
 refine Zib (cmp_ok q₂ A fs ι₂ s₂ x y I₂.st (rv.mono ex₂.mono) rv₂) (fun z s₃ p => ?_) fun zz zz p => p.trans (ex.trans ex₂)
 obtain ⟨v₃,σ₃,ι₃,⟨c,rfl,q₃⟩,rv₃,rp₃,ex₃,g₃,o₃⟩:=p
 cases rv₃.bool_inv
 exact wpAny_truthy_bool ⟨σ₃,ι₃,q₃,rp₃,(ex.trans ex₂).trans ex₃,g₃,o₃⟩
theorem TsOk.not {x:Expr} {pos:Pos} (h:TsOk T d sc ρ X x (fun b σ₁ => B (!b) σ₁) σ):TsOk T d sc ρ X (.UnaryOp .Not x pos) B σ:=by
 intro env A fs F ι s hsc I
 exact wpAny_isTrue_Not (Zib (h env A fs F ι s hsc I) (fun b s₁ p => by obtain ⟨σ₁,ι₁,q,rp,ex,g,o⟩:=p; exact ⟨σ₁,ι₁,q,rp,ex,g,o⟩) fun zz zz p => p)
noncomputable def AllOk (T:Tp) (d:Nat) (sc:Scope) (ρ:Loc) (X:QX) (op:BoolOp) (es:List Expr) (B:Bool → Hp → Prop) (σ:Hp):Prop :=
 ∀ env A fs F ι s,env.scope = sc → Inv T A fs d env F ρ ι σ s → wpAny (model T.prog T.w) A (allTrue op es env) (PostB T B ι s.heap) (PostX T [] X ι s.heap) s
theorem TsOk.bool {op:BoolOp} {es:List Expr} {pos:Pos} (h:AllOk T d sc ρ X op es B σ):TsOk T d sc ρ X (.BoolOp op es pos) B σ :=
 fun env A fs F ι s hsc I => wpAny_isTrue_BoolOp (h env A fs F ι s hsc I)
theorem PostB.here {A:Around} {fs:List Env} {ι:Inj} {s:Shared} {b:Bool} (S:St T A fs d ι σ s) (q:B b σ):PostB T B ι s.heap b s:=⟨σ,ι,q,S.rep,.refl ..,S.gens,S.os⟩
theorem AllOk.and_nil (q:B true σ):AllOk T d sc ρ X .And [] B σ:=fun zz zz zz zz zz zz zz I => wpAny_allTrue_And_nil (.here I.st q)
theorem AllOk.or_nil (q:B false σ):AllOk T d sc ρ X .Or [] B σ:=fun zz zz zz zz zz zz zz I => wpAny_allTrue_Or_nil (.here I.st q)
theorem AllOk.and_cons {x:Expr} {r:List Expr} (h:TsOk T d sc ρ X x (fun b σ₁ => if b then AllOk T d sc ρ X .And r B σ₁ else B false σ₁) σ):AllOk T d sc ρ X .And (x :: r) B σ:=by
 intro env A fs F ι s hsc I
 refine wpAny_allTrue_And_cons (Zib (h env A fs F ι s hsc I) (fun b s₁ p => ?_) fun zz zz p => p)
 obtain ⟨σ₁,ι₁,q,rp,ex,g,o⟩:=p
 cases b
 · exact ⟨σ₁,ι₁,q,rp,ex,g,o⟩
 · exact Zib (q env A fs F ι₁ s₁ hsc (I.ext ex rp g o)) (fun zz zz p => p.trans ex) fun zz zz p => p.trans ex
theorem AllOk.or_cons {x:Expr} {r:List Expr} (h:TsOk T d sc ρ X x (fun b σ₁ => if b then B true σ₁ else AllOk T d sc ρ X .Or r B σ₁) σ):AllOk T d sc ρ X .Or (x :: r) B σ:=by
 intro env A fs F ι s hsc I
 refine wpAny_allTrue_Or_cons (Zib (h env A fs F ι s hsc I) (fun b s₁ p => ?_) fun zz zz p => p)
 obtain ⟨σ₁,ι₁,q,rp,ex,g,o⟩:=p
 cases b
 · exact Zib (q env A fs F ι₁ s₁ hsc (I.ext ex rp g o)) (fun zz zz p => p.trans ex) fun zz zz p => p.trans ex
 · exact ⟨σ₁,ι₁,q,rp,ex,g,o⟩
noncomputable def plainTest (e:Expr):Bool:=!(Nat.beq e.ctorIdx 0 || Nat.beq e.ctorIdx 3 || Nat.beq e.ctorIdx 5 || Nat.beq e.ctorIdx 15)
theorem TsOk.val {e:Expr} (h:EvOk T d sc ρ X e (fun v σ₁ => ∃ b,truthV v σ₁ = some b ∧ B b σ₁) σ) (hp:plainTest e = true):TsOk T d sc ρ X e B σ:=by
 intro env A fs F ι s hsc I
 refine wpAny_isTrue_value (Zib (h env A fs F ι s hsc I) (fun x s₁ p => ?_) fun zz zz p => p) ?_
 · obtain ⟨v,σ₁,ι₁,⟨b,e1,q⟩,rv,rp,ex,g,o⟩:=p
   exact Zib (truth_ok (I.ext ex rp g o).st rv e1 q) (fun zz zz p => p.trans ex) fun zz zz p => p.trans ex
 · cases e <;> first | rfl | exact (Zv hp).elim
theorem TsOk.cmp2 {l m r:Expr} {op1 op2:CmpOp} {pos:Pos} (h:EvOk T d sc ρ X l (fun a σ₁ => EvOk T d sc ρ X m (fun b σ₂ => cmpVC op1 a b (fun v σ₃ => ∃ c,v = .bool c ∧ (if c then EvOk T d sc ρ X r (fun w σ₄ => cmpVC op2 b w (fun v σ₅ => ∃ c,v = .bool c ∧ B c σ₅) σ₄) σ₃ else B false σ₃)) σ₂) σ₁) σ)
   (hm:behindInMarks op2 r = false):TsOk T d sc ρ X (.Compare l [op1,op2] [m,r] pos) B σ:=by
 intro env A fs F ι s hsc I
 show wpAny _ _ (eval l env >>= fun a => testChain pos a [op1,op2] [eval m env,markedBehindIn op2 r (eval r env)]) _ _ _
 rw [markedBehindIn_of_false hm]
 refine Zhb (Zib (h env A fs F ι s hsc I) (fun x s₁ p => ?_) fun zz zz p => p)
 obtain ⟨v,σ₁,ι₁,q,rv,rp,ex,g,o⟩:=p
 have I₁:=I.ext ex rp g o
 refine Zhb (wpAny_holding (Zib (q env A fs F ι₁ s₁ hsc I₁) (fun y s₂ p => ?_) fun zz zz p => p.trans ex))
 obtain ⟨v₂,σ₂,ι₂,q₂,rv₂,rp₂,ex₂,g₂,o₂⟩:=p
 have I₂:=I₁.ext ex₂ rp₂ g₂ o₂
 refine Zhb (wpAny_standAt (Zhb (wpAny_holding (Zib (cmp_ok q₂ A fs ι₂ s₂ x y I₂.st (rv.mono ex₂.mono) rv₂) (fun z s₃ p => ?_) fun zz zz p => p.trans (ex.trans ex₂)))))
 obtain ⟨v₃,σ₃,ι₃,⟨c,rfl,q₃⟩,rv₃,rp₃,ex₃,g₃,o₃⟩:=p
 cases rv₃.bool_inv
 have I₃:=I₂.ext ex₃ rp₃ g₃ o₃
 have ex123:=(ex.trans ex₂).trans ex₃
 refine Zhb (wpAny_release (Zhb (wpAny_holding (wpAny_truthy_bool ?_))))
 cases c
 · exact Zjb ⟨σ₃,ι₃,q₃,rp₃,ex123,g₃,o₃⟩
 · show wpAny _ _ (testChain pos y [op2] [eval r env]) _ _ _
   refine Zhb (wpAny_holding (Zib (q₃ env A fs F ι₃ s₃ hsc I₃) (fun u s₄ p => ?_) fun zz zz p => p.trans ex123))
   obtain ⟨v₄,σ₄,ι₄,q₄,rv₄,rp₄,ex₄,g₄,o₄⟩:=p
   have I₄:=I₃.ext ex₄ rp₄ g₄ o₄
   have ex1234:=ex123.trans ex₄
   refine Zhb (wpAny_standAt (Zhb (wpAny_operateT (Zib (cmp_ok q₄ A fs ι₄ s₄ y u I₄.st (rv₂.mono (ex₃.trans ex₄).mono) rv₄) (fun z s₅ p => ?_) fun zz zz p => p.trans ex1234))))
   obtain ⟨v₅,σ₅,ι₅,⟨c,rfl,q₅⟩,rv₅,rp₅,ex₅,g₅,o₅⟩:=p
   cases rv₅.bool_inv
   exact wpAny_holding (wpAny_truthy_bool ⟨σ₅,ι₅,q₅,rp₅,ex1234.trans ex₅,g₅,o₅⟩)
theorem EvOk.cmp2 {l m r:Expr} {op1 op2:CmpOp} {pos:Pos} (h:EvOk T d sc ρ X l (fun a σ₁ => EvOk T d sc ρ X m (fun b σ₂ => cmpVC op1 a b (fun v σ₃ => ∃ c,v = .bool c ∧ (if c then EvOk T d sc ρ X r (fun w σ₄ => cmpVC op2 b w Q σ₄) σ₃ else Q (.bool false) σ₃)) σ₂) σ₁) σ)
   (hm:behindInMarks op2 r = false):EvOk T d sc ρ X (.Compare l [op1,op2] [m,r] pos) Q σ:=by
 intro env A fs F ι s hsc I
 show wpAny _ _ (eval l env >>= fun a => compareChain pos a [op1,op2] [eval m env,markedBehindIn op2 r (eval r env)]) _ _ _
 rw [markedBehindIn_of_false hm]
 refine Zhb (Zib (h env A fs F ι s hsc I) (fun x s₁ p => ?_) fun zz zz p => p)
 obtain ⟨v,σ₁,ι₁,q,rv,rp,ex,g,o⟩:=p
 have I₁:=I.ext ex rp g o
 refine Zhb (wpAny_holding (Zib (q env A fs F ι₁ s₁ hsc I₁) (fun y s₂ p => ?_) fun zz zz p => p.trans ex))
 obtain ⟨v₂,σ₂,ι₂,q₂,rv₂,rp₂,ex₂,g₂,o₂⟩:=p
 have I₂:=I₁.ext ex₂ rp₂ g₂ o₂
 refine Zhb (wpAny_standAt (Zhb (wpAny_holding (Zib (cmp_ok q₂ A fs ι₂ s₂ x y I₂.st (rv.mono ex₂.mono) rv₂) (fun z s₃ p => ?_) fun zz zz p => p.trans (ex.trans ex₂)))))
 obtain ⟨v₃,σ₃,ι₃,⟨c,rfl,q₃⟩,rv₃,rp₃,ex₃,g₃,o₃⟩:=p
 cases rv₃.bool_inv
 have I₃:=I₂.ext ex₃ rp₃ g₃ o₃
 have ex123:=(ex.trans ex₂).trans ex₃
 refine Zhb (wpAny_release (Zhb (wpAny_holding (wpAny_truthy_bool ?_))))
 cases c
 · exact Zjb ⟨_,σ₃,ι₃,q₃,.bool_mk,rp₃,ex123,g₃,o₃⟩
 · show wpAny _ _ (compareChain pos y [op2] [eval r env]) _ _ _
   refine Zhb (wpAny_holding (Zib (q₃ env A fs F ι₃ s₃ hsc I₃) (fun u s₄ p => ?_) fun zz zz p => p.trans ex123))
   obtain ⟨v₄,σ₄,ι₄,q₄,rv₄,rp₄,ex₄,g₄,o₄⟩:=p
   have I₄:=I₃.ext ex₄ rp₄ g₄ o₄
   have ex1234:=ex123.trans ex₄
   exact Zhb (wpAny_standAt (wpAny_operateT (Zib (cmp_ok q₄ A fs ι₄ s₄ y u I₄.st (rv₂.mono (ex₃.trans ex₄).mono) rv₄) (fun z s₅ p => p.trans ex1234) fun zz zz p => p.trans ex1234)))
theorem EvOk.not {x:Expr} {pos:Pos} (h:EvOk T d sc ρ X x (fun v σ₁ => ∃ b,truthV v σ₁ = some b ∧ Q (.bool (!b)) σ₁) σ):EvOk T d sc ρ X (.UnaryOp .Not x pos) Q σ:=by
 intro env A fs F ι s hsc I
 refine wpAny_UnaryOp (Zib (h env A fs F ι s hsc I) (fun x s₁ p => ?_) fun zz zz p => p)
 obtain ⟨v,σ₁,ι₁,⟨b,e1,q⟩,rv,rp,ex,g,o⟩:=p
 refine not_value (Zib (truth_ok (Q:=fun c σ' => Q (.bool (!c)) σ') (I.ext ex rp g o).st rv e1 q) (fun c s₂ p => ?_) fun zz zz p => p.trans ex)
 obtain ⟨σ₂,ι₂,q₂,rp₂,ex₂,g₂,o₂⟩:=p
 exact ⟨_,σ₂,ι₂,q₂,.bool_mk,rp₂,ex.trans ex₂,g₂,o₂⟩
theorem EvOk.neg {x:Expr} {pos:Pos} (h:EvOk T d sc ρ X x (fun v σ₁ => ∃ i,v = .int i ∧ Q (.int (-i)) σ₁) σ):EvOk T d sc ρ X (.UnaryOp .USub x pos) Q σ:=by
 intro env A fs F ι s hsc I
 refine wpAny_UnaryOp (Zib (h env A fs F ι s hsc I) (fun x s₁ p => ?_) fun zz zz p => p)
 obtain ⟨v,σ₁,ι₁,⟨i,rfl,q⟩,rv,rp,ex,g,o⟩:=p
 obtain ⟨t,rfl⟩:=rv.int_inv
 exact P.neg_int (((I.ext ex rp g o).st.post q .int_mk _).trans ex)
noncomputable def BoolsOk (T:Tp) (d:Nat) (sc:Scope) (ρ:Loc) (X:QX) (op:BoolOp) (es:List Expr) (Q:QE) (σ:Hp):Prop :=
 ∀ env A fs F ι s pos,env.scope = sc → Inv T A fs d env F ρ ι σ s → wpAny (model T.prog T.w) A (boolOp pos op (evalEach es env)) (PostE T [] Q ι s.heap) (PostX T [] X ι s.heap) s
theorem EvOk.bools {op:BoolOp} {es:List Expr} {pos:Pos} (h:BoolsOk T d sc ρ X op es Q σ):EvOk T d sc ρ X (.BoolOp op es pos) Q σ :=
 fun env A fs F ι s hsc I => h env A fs F ι s pos hsc I
theorem BoolsOk.one {op:BoolOp} {x:Expr} (h:EvOk T d sc ρ X x Q σ):BoolsOk T d sc ρ X op [x] Q σ :=
 fun env A fs F ι s zz hsc I => h env A fs F ι s hsc I
theorem BoolsOk.and {x y:Expr} {r:List Expr} (h:EvOk T d sc ρ X x (fun v σ₁ => ∃ b,truthV v σ₁ = some b ∧ (if b then BoolsOk T d sc ρ X .And (y :: r) Q σ₁ else Q v σ₁)) σ):BoolsOk T d sc ρ X .And (x :: y :: r) Q σ:=by
 intro env A fs F ι s pos hsc I
 show wpAny _ _ (eval x env >>= fun v => standAt pos >>= fun zz => holding [v] (truthy v) >>= fun t => match BoolOp.And,t with
   | .And,false | .Or,true => pure v
   | z1,z2 => boolOp pos .And (evalEach (y :: r) env)) _ _ _
 refine Zhb (Zib (h env A fs F ι s hsc I) (fun x s₁ p => ?_) fun zz zz p => p)
 obtain ⟨v,σ₁,ι₁,⟨b,e1,q⟩,rv,rp,ex,g,o⟩:=p
 have I₁:=I.ext ex rp g o
 refine Zhb (wpAny_standAt (Zhb (wpAny_holding (Zib (truth_ok (Q:=fun c σ' => c = b ∧ σ' = σ₁) I₁.st rv e1 ⟨rfl,rfl⟩) (fun c s₂ p => ?_) fun zz zz p => p.trans ex))))
 obtain ⟨σ₂,ι₂,⟨rfl,rfl⟩,rp₂,ex₂,g₂,o₂⟩:=p
 cases c
 · exact Zjb ⟨v,σ₂,ι₂,q,rv.mono ex₂.mono,rp₂,ex.trans ex₂,g₂,o₂⟩
 · exact Zib (q env A fs F ι₂ s₂ pos hsc (I₁.ext ex₂ rp₂ g₂ o₂)) (fun zz zz p => p.trans (ex.trans ex₂)) fun zz zz p => p.trans (ex.trans ex₂)
theorem BoolsOk.or {x y:Expr} {r:List Expr} (h:EvOk T d sc ρ X x (fun v σ₁ => ∃ b,truthV v σ₁ = some b ∧ (if b then Q v σ₁ else BoolsOk T d sc ρ X .Or (y :: r) Q σ₁)) σ):BoolsOk T d sc ρ X .Or (x :: y :: r) Q σ:=by
 intro env A fs F ι s pos hsc I
 show wpAny _ _ (eval x env >>= fun v => standAt pos >>= fun zz => holding [v] (truthy v) >>= fun t => match BoolOp.Or,t with
   | .And,false | .Or,true => pure v
   | z1,z2 => boolOp pos .Or (evalEach (y :: r) env)) _ _ _
 refine Zhb (Zib (h env A fs F ι s hsc I) (fun x s₁ p => ?_) fun zz zz p => p)
 obtain ⟨v,σ₁,ι₁,⟨b,e1,q⟩,rv,rp,ex,g,o⟩:=p
 have I₁:=I.ext ex rp g o
 refine Zhb (wpAny_standAt (Zhb (wpAny_holding (Zib (truth_ok (Q:=fun c σ' => c = b ∧ σ' = σ₁) I₁.st rv e1 ⟨rfl,rfl⟩) (fun c s₂ p => ?_) fun zz zz p => p.trans ex))))
 obtain ⟨σ₂,ι₂,⟨rfl,rfl⟩,rp₂,ex₂,g₂,o₂⟩:=p
 cases c
 · exact Zib (q env A fs F ι₂ s₂ pos hsc (I₁.ext ex₂ rp₂ g₂ o₂)) (fun zz zz p => p.trans (ex.trans ex₂)) fun zz zz p => p.trans (ex.trans ex₂)
 · exact Zjb ⟨v,σ₂,ι₂,q,rv.mono ex₂.mono,rp₂,ex.trans ex₂,g₂,o₂⟩
theorem EvsOk.nil {L:List V → Hp → Prop} (q:L [] σ):EvsOk T d sc ρ X [] L σ:=fun zz zz zz zz ι zz zz I => Zjb ⟨[],σ,ι,q,VRels.nil_iff.mpr rfl,I.rep,.refl ..,I.gens,I.os⟩
theorem EvsOk.cons {L:List V → Hp → Prop} {e:Expr} {r:List Expr} (h:EvOk T d sc ρ X e (fun v σ₁ => EvsOk T d sc ρ X r (fun vs σ₂ => L (v :: vs) σ₂) σ₁) σ):EvsOk T d sc ρ X (e :: r) L σ:=by
 intro env A fs F ι s hsc I
 refine spliced_cons (Zib (h env A fs F ι s hsc I) (fun x s₁ p => ?_) fun zz zz p => p)
 obtain ⟨v,σ₁,ι₁,q,rv,rp,ex,g,o⟩:=p
 refine Zib (q env A fs F ι₁ s₁ hsc (I.ext ex rp g o)) (fun xs s₂ p => ?_) fun zz zz p => p.trans ex
 obtain ⟨vs,σ₂,ι₂,q₂,rvs,rp₂,ex₂,g₂,o₂⟩:=p
 exact ⟨v :: vs,σ₂,ι₂,q₂,VRels.cons_iff.mpr ⟨_,_,rfl,rv.mono ex₂.mono,rvs⟩,rp₂,ex.trans ex₂,g₂,o₂⟩
theorem EvOk.tup {es:List Expr} {k:Nat} {pos:Pos} (h:EvsOk T d sc ρ X es (fun vs σ₁ => vs.length ≤ sizeLine ∧ Q (.tup vs) σ₁) σ) (ns:noStar es = true):EvOk T d sc ρ X (.Tuple es k pos) Q σ:=by
 intro env A fs F ι s hsc I
 refine wpAny_Tuple ?_
 rw [starEach_eq ns]
 refine Zib (h env A fs F ι s hsc I) (fun xs s₁ p => ?_) fun zz zz p => p
 obtain ⟨vs,σ₁,ι₁,⟨hl,q⟩,rv,rp,ex,g,o⟩:=p
 exact ⟨by rw [rv.length]; exact hl,((I.ext ex rp g o).st.newTup (items:=xs.toArray) (by simpa using rv) q (t:=s₁.toks)).trans ex⟩
theorem EvOk.list {es:List Expr} {pos:Pos} (h:EvsOk T d sc ρ X es (fun vs σ₁ => vs.length ≤ sizeLine ∧ Q (.ref σ₁.length) (σ₁ ++ [.list vs])) σ) (ns:noStar es = true):EvOk T d sc ρ X (.List es pos) Q σ:=by
 intro env A fs F ι s hsc I
 refine wpAny_List ?_
 rw [starEach_eq ns]
 refine Zib (h env A fs F ι s hsc I) (fun xs s₁ p => ?_) fun zz zz p => p
 obtain ⟨vs,σ₁,ι₁,⟨hl,q⟩,rv,rp,ex,g,o⟩:=p
 exact ⟨by rw [rv.length]; exact hl,((I.ext ex rp g o).st.newList (items:=xs.toArray) (by simpa using rv) q (t:=s₁.toks)).trans ex⟩
end
end
section
noncomputable def sm63 (k:Int):Prop:=-(2 ^ 63) ≤ k ∧ k < 2 ^ 63
inductive ItemR (σ:Hp):V → V → V → Prop where
 | tup (vs:List V) (k:Int) (j:Nat) (v:V) (e1:seqIndex? k vs.length = some j) (e2:vs[j]? = some v) (e3:sm63 k):ItemR σ (.tup vs) (.int k) v
 | list (l:Nat) (vs:List V) (k:Int) (j:Nat) (v:V) (e0:σ[l]? = some (.list vs)) (e1:seqIndex? k vs.length = some j) (e2:vs[j]? = some v) (e3:sm63 k):ItemR σ (.ref l) (.int k) v
 | str (s:Str) (k:Int) (c:Nat) (e1:(seqIndex? k s.length).bind (s.cps[·]?) = some c) (e3:sm63 k):ItemR σ (.str s) (.int k) (.str ⟨#[c]⟩)
 | scr (xs:List Int) (k i:Int) (h0:0 ≤ k) (h1:k < 2 ^ 63) (h2:xs[k.toNat]? = some i):ItemR σ (.scr xs) (.int k) (.int i)
 | dict (l:Nat) (x:Str) (kvs:List (Str × V)) (v:V) (e0:σ[l]? = some (.sdict kvs)) (e1:(kvs.find? fun kv => kv.1 = x).map (·.2) = some v):ItemR σ (.ref l) (.str x) v
 | tdict (l:Nat) (k:Str × Int) (kvs:List ((Str × Int) × V)) (v:V) (e0:σ[l]? = some (.tdict kvs)) (e1:(kvs.find? fun kv => kv.1 = k).map (·.2) = some v):ItemR σ (.ref l) (.tup [.str k.1,.int k.2]) v
inductive itemVC (o i:V) (Q:QE) (σ:Hp):Prop where
 | mk (v:V) (r:ItemR σ o i v) (q:Q v σ):itemVC o i Q σ
noncomputable def notSlice (e:Expr):Bool:=e.ctorIdx != 26
theorem subscripted_eq {slice:Expr} {o i:Value} (h:notSlice slice = true):subscripted slice false o i = operate [o,i] (getItem o i):=by
 cases slice <;> first | rfl | cases h
section
variable {T:Tp} {d:Nat} {sc:Scope} {ρ:Loc} {X:QX} {Q:QE} {σ:Hp}
theorem seqIndex_inv {k:Int} {n j:Nat} (h:seqIndex? k n = some j):(0 ≤ k ∧ j = k.toNat) ∨ (k < 0 ∧ -(n:Int) ≤ k ∧ j = (k + n).toNat):=by
 unfold seqIndex? at h
 by_cases hk:k < 0
 · right
   simp only [hk,if_true] at h
   split at h
   · rename_i hb
     simp only [Zob,decide_eq_true_eq] at hb
     simp only [Option.some.injEq] at h
     exact ⟨hk,by (clear h hk; lia),h.symm⟩
   · cases h
 · left
   simp only [hk,if_false] at h
   split at h
   · simp only [Option.some.injEq] at h; exact ⟨by (clear h; lia),h.symm⟩
   · cases h
noncomputable def ItemOk (T:Tp) (d:Nat) (X:QX) (o i:V) (Q:QE) (σ:Hp):Prop:=∀ A fs ι s x y,St T A fs d ι σ s → VRel T ι s.heap o x → VRel T ι s.heap i y → ∃ ty id,s.TypeIs x ty ∧ typeLookup (.type ty) "__getitem__" = pure (some (.builtin id)) ∧ wpAny (model T.prog T.w) A (getItem x y) (PostE T [] Q ι s.heap) (PostX T [] X ι s.heap) s
theorem size_eq {T:Tp} {ι:Inj} {h:Heap} {vs:List V} {items:Array Value} (hv:VRels T ι h vs items.toList):items.size = vs.length:=Array.length_toList.symm.trans hv.length
theorem sm_big {k:Int} (h:sm63 k):(decide (k < -(2 ^ 63)) || decide (2 ^ 63 ≤ k)) = false:=by
 rw [Zrc (Int.not_lt.mpr h.1),Zrc (Int.not_le.mpr h.2)]; rfl
theorem item_tup {vs:List V} {k:Int} {j:Nat} {v:V} (e1:seqIndex? k vs.length = some j) (e2:vs[j]? = some v) (e3:sm63 k) (q:Q v σ):ItemOk T d X (.tup vs) (.int k) Q σ:=fun A fs ι s x y S rx ry => by
 obtain ⟨a,items,n,rfl,ht,hv⟩:=rx.tup_inv
 obtain ⟨t,rfl⟩:=ry.int_inv
 obtain ⟨z,hz,rz⟩:=hv.get e2
 exact ⟨_,_,⟨_,ht,rfl⟩,PySem.F.slot_tuple_getitem.lookup,P.getItem_tuple ht e3.1 e3.2 ((size_eq hv).symm ▸ e1) (Array.getElem?_toList ▸ hz) (S.post0 q rz)⟩
theorem item_list {l:Nat} {vs:List V} {k:Int} {j:Nat} {v:V} (e0:σ[l]? = some (.list vs)) (e1:seqIndex? k vs.length = some j) (e2:vs[j]? = some v) (e3:sm63 k) (q:Q v σ):ItemOk T d X (.ref l) (.int k) Q σ:=fun A fs ι s x y S rx ry => by
 obtain ⟨a,d',rfl,hl⟩:=rx.ref_inv
 obtain ⟨t,rfl⟩:=ry.int_inv
 refine ex2 (S.rep.list_at e0 hl) fun items n h9 => h9.elim fun hL hv => ?_
 obtain ⟨z,hz,rz⟩:=hv.get e2
 refine ⟨_,_,⟨_,hL,rfl⟩,PySem.F.slot_list_getitem.lookup,?_⟩
 rcases seqIndex_inv e1 with ⟨k0,rfl⟩ | ⟨k0,k1,rfl⟩
 · exact wpAny_getItem_list hL.isList k0 e3.2 (Array.getElem?_toList ▸ hz) (S.post0 q rz)
 · rw [← size_eq hv] at k1 hz
   exact wpAny_getItem_list_neg hL.isList k0 k1 e3.1 (Array.getElem?_toList ▸ hz) (S.post0 q rz)
theorem item_dict {l:Nat} {k:Str} {kvs:List (Str × V)} {v:V} (e0:σ[l]? = some (.sdict kvs)) (e1:(kvs.find? fun kv => kv.1 = k).map (·.2) = some v) (q:Q v σ):ItemOk T d X (.ref l) (.str k) Q σ:=fun A fs ι s x y S rx ry => by
 obtain ⟨a,d',rfl,hl⟩:=rx.ref_inv
 obtain ⟨t,rfl⟩:=ry.str_inv
 refine (S.rep.sdict_at e0 hl).elim fun rvs h9 => and3 h9 fun hd hv zz => ?_
 refine (hv.find.at e1).elim fun z h9 => h9.elim fun hm r => ?_
 exact ⟨_,_,hd.mapOf.typeIs,PySem.F.slot_dict_getitem.lookup,wpAny_getItem_of (knd:=strKind T.prog T.w) (k:=k) (by simp [PySem.strKind,Value.isStrOf]) hd.mapOf hm (S.post q r _)⟩
theorem item_tdict {l:Nat} {k:Str × Int} {kvs:List ((Str × Int) × V)} {v:V} (e0:σ[l]? = some (.tdict kvs)) (e1:(kvs.find? fun kv => kv.1 = k).map (·.2) = some v) (q:Q v σ):ItemOk T d X (.ref l) (.tup [.str k.1,.int k.2]) Q σ:=fun A fs ι s x y S rx ry => by
 obtain ⟨a,d',rfl,hl⟩:=rx.ref_inv
 obtain ⟨a',rfl,hk⟩:=ry.pair
 refine (S.rep.tdict_at e0 hl).elim fun xs h9 => and3 h9 fun hd hv zz => ?_
 obtain ⟨z,hm,r⟩:=hv.find.at e1
 exact ⟨_,_,hd.typeIs,PySem.F.slot_dict_getitem.lookup,wpAny_getItem_heap (knd:=pairKind T.prog T.w) (k:=k) (show A.units + 1 < cLine from room41 (x:=0) S.aok.units (by decide)) hk hd hm (S.post q r _)⟩
theorem item_scr {xs:List Int} {k i:Int} (k0:0 ≤ k) (k1:k < 2 ^ 63) (e1:xs[k.toNat]? = some i) (q:Q (.int i) σ):ItemOk T d X (.scr xs) (.int k) Q σ:=fun A fs ι s x y S rx ry => by
 obtain ⟨a,ob,items,n,rfl,ho,hc,hd,l,hl,rfl⟩:=rx
 obtain ⟨t,rfl⟩:=ry.int_inv
 have ho':=S.rep.base _ _ ho
 rw [Zdb] at e1
 obtain ⟨p,hp,rfl⟩:=Zpb.mp e1
 refine ⟨_,_,⟨_,ho',hc⟩,PySem.F.slot_list_getitem.lookup,wpAny_getItem_list (x:=.int p.1 p.2) ⟨_,ho',hc,n,hd⟩ k0 k1 ?_ (S.post0 q .int_mk)⟩
 rw [← Array.getElem?_toList,hl,Zdb,hp]; rfl
theorem ItemR.ok {o i v:V} (r:ItemR σ o i v):∀ {Q:QE},Q v σ → ItemOk T d X o i Q σ:=by
 induction r with
 | tup z1 z2 z3 z4 e1 e2 e3 => exact fun q => item_tup e1 e2 e3 q
 | list z1 z2 z3 z4 z5 e0 e1 e2 e3 => exact fun q => item_list e0 e1 e2 e3 q
 | str z1 z2 z3 e1 e3 => exact fun q A fs ι s x y S rx ry => Zh rx fun zz h => Zh ry fun zz h' => h ▸ h' ▸ ⟨"str",_,rfl,PySem.F.slot_str_getitem.lookup,PyProof.Rows.getItem_str (sm_big e3) e1 (S.post q .str_mk _)⟩
 | scr z1 z2 z3 h0 h1 h2 => exact fun q => item_scr h0 h1 h2 q
 | dict z1 z2 z3 z4 e0 e1 => exact fun q => item_dict e0 e1 q
 | tdict z1 z2 z3 z4 e0 e1 => exact fun q => item_tdict e0 e1 q
theorem item_ok {o i:V} {value slice:Expr} (ns:notSlice slice = true) (h:itemVC o i Q σ):BinOk T d X (subscriptTail value slice) o i Q σ:=fun A fs ι s x y S rx ry =>
 h.rec fun zz r q => Zh (r.ok q A fs ι s x y S rx ry) fun zz h => Zh h fun zz h => tail_any h.1 h.2.1 h.2.2 (subscripted_eq ns)
theorem EvOk.item {value slice:Expr} {pos:Pos} (h:EvOk T d sc ρ X value (fun o σ₁ => EvOk T d sc ρ X slice (fun i σ₂ => itemVC o i Q σ₂) σ₁) σ) (ns:notSlice slice = true):EvOk T d sc ρ X (.Subscript value slice pos) Q σ :=
 fun zz zz zz zz zz zz hsc I => Subscript_ (EvOk.two (item_ok ns) h hsc I)
noncomputable def callable (vv:V):Bool:=vv.casesOn (false) (fun _ => false) (fun _ => false) (fun _ => false) (fun _ => false) (fun _ => false) (fun _ => false) (fun _ _ => false) (fun _ => true) (fun _ => true) (fun _ => false) (fun _ => false) (fun _ => false) (fun _ _ => false)
noncomputable def KeepsIn (T:Tp) (f:V):Prop:=callable f = true ∨ ∀ v,(∃ x,f = .glob x ∧ T.g x = some v) ∨ (∃ c x,f = .mth c x ∧ T.m c x = some v) → PySem.W.keepIn T.K v = true
theorem keeps_any {f:V} {fv:Value} {ι:Inj} {h:Heap} {M:Model} (hk:KeepsIn T f) (r:VRel T ι h f fv) (hc:callable f = true ∨ (∃ x,f = .glob x) ∨ (∃ c x,f = .mth c x)) :
   ∀ h',T.K.In h' → ∃ k,(k = Keeper.frame ∨ k = Keeper.machine ∨ k = Keeper.boundFrame) ∧ PySem.W.Looks M h' (keeperOf fv) k:=by
 intro h' X'
 have triv:(∀ a,fv ≠ .ref a) → ∃ k,(k = Keeper.frame ∨ k = Keeper.machine ∨ k = Keeper.boundFrame) ∧ PySem.W.Looks M h' (keeperOf fv) k:=fun ne =>
   ⟨.machine,.inr (.inl rfl),PySem.W.Looks.of_pure (by cases fv <;> first | rfl | exact absurd rfl (ne _))⟩
 have key:PySem.W.keepIn T.K fv = true → ∃ k,(k = Keeper.frame ∨ k = Keeper.machine ∨ k = Keeper.boundFrame) ∧ PySem.W.Looks M h' (keeperOf fv) k:=fun e => PySem.W.keeps_K e h' X'
 rcases hc with hc | ⟨x,rfl⟩ | ⟨c,x,rfl⟩
 · cases f <;> first | (cases hc; done) | skip
   · subst r; exact triv fun a e => by cases e
   · subst r; exact triv fun a e => by cases e
 · rcases hk with hk | hk
   · cases hk
   · exact key (hk fv (.inl ⟨x,rfl,r⟩))
 · rcases hk with hk | hk
   · cases hk
   · exact key (hk fv (.inr ⟨c,x,rfl,r⟩))
theorem evalArgs_list {M:Model} {A:Around} {E:Value → Shared → Prop} {s:Shared} {f:Value} {env:Env} {es:List Expr} {Q:Args → Shared → Prop}
   (h:wpAny M A (spliced (es.map fun e => (false,eval e env))) (fun vs s' => Q ⟨vs,[]⟩ s') E s):wpAny M A (evalArgs f true (es.map fun e => (false,eval e env)) []) Q E s:=by
 cases es with
 | nil =>
   unfold evalArgs
   show wpAny M A (spliced [] >>= _) Q E s
   refine Zhb (Zib h (fun vs s' h' => ?_) fun zz zz x => x)
   refine wpAny_holding ?_
   exact Zhb (Zjb (Zhb (Zjb (Zjb h'))))
 | cons e r => exact evalArgs_plain h
theorem EvOk.call {x:Str} {np pos:Pos} {args:List Expr} (TO:TopOk T) (ns:noStar args = true)
   (h:EvOk T d sc ρ X (.Name x np) (fun f σ₁ => (callable f = true ∨ (∃ x,f = .glob x) ∨ (∃ c x,f = .mth c x)) ∧ KeepsIn T f ∧ EvsOk T d sc ρ X args (fun vs σ₂ => CallOk T d X f vs Q σ₂) σ₁) σ) :
   EvOk T d sc ρ X (.Call (.Name x np) args [] pos) Q σ:=by
 intro env A fs F ι s hsc I
 rw [arm_eval_Call_Name']
 refine Zhb (Zib (h env A fs F ι s hsc I) (fun fv s₁ p => ?_) fun zz zz p => p)
 obtain ⟨f,σ₁,ι₁,⟨hc,hk,q⟩,rv,rp,ex,g,o⟩:=p
 have I₁:=I.ext ex rp g o
 rw [starEach_eq ns]
 refine PySem.W.callWith_of (P:=T.K.In) (by rw [show backToKw pos (keywordEach [] env) = [] from rfl]; simp) (keeps_any hk rv hc) (evalArgs_list (Zib (q env A fs F ι₁ s₁ hsc I₁) (fun xs s₂ p => ?_) fun zz zz p => p.trans ex))
 obtain ⟨vs,σ₂,ι₂,q₂,rvs,rp₂,ex₂,g₂,o₂⟩:=p
 have I₂:=I₁.ext ex₂ rp₂ g₂ o₂
 refine ⟨TO.X0.keeps I₂.rep.base,?_⟩
 exact Zib (q₂ A fs ι₂ s₂ fv xs I₂.st (rv.mono ex₂.mono) rvs) (fun zz zz p => p.trans (ex.trans ex₂)) fun zz zz p => p.trans (ex.trans ex₂)
end
end
section
structure Touch (S:List Addr) (lo:Nat) (ea:Addr) (h h':Heap):Prop where
 size:h.objs.size ≤ h'.objs.size
 cls:∀ a o,h.get? a = some o → ∃ o',h'.get? a = some o' ∧ o'.cls = o.cls
 keep:∀ a o,h.get? a = some o → a ≠ ea → (a < lo ∨ o.cls ≠ .type "traceback") → a ∉ S → h'.get? a = some o
 frm:∀ a o,h.get? a = some o → a ≠ ea → (a < lo ∨ o.cls ≠ .type "traceback") → ∃ sl,h'.get? a = some { o with slots:=sl }
theorem Touch.refl {S lo ea} (h:Heap):Touch S lo ea h h:=⟨Zl _,fun zz o e => ⟨o,e,rfl⟩,fun zz zz e zz zz zz => e,fun zz o e zz zz => ⟨o.slots,e⟩⟩
theorem Touch.trans {S lo ea} {h h₁ h₂:Heap} (x:Touch S lo ea h h₁) (y:Touch S lo ea h₁ h₂):Touch S lo ea h h₂ where
 size:=Za x.size y.size
 cls:=fun a o e => (by obtain ⟨o₁,e₁,c₁⟩:=x.cls a o e; obtain ⟨o₂,e₂,c₂⟩:=y.cls a o₁ e₁; exact ⟨o₂,e₂,c₂.trans c₁⟩)
 keep:=fun a o e n c s => y.keep a o (x.keep a o e n c s) n c s
 frm:=fun a o e n c => (by obtain ⟨_,e₁⟩:=x.frm a o e n c; obtain ⟨sl,e₂⟩:=y.frm a _ e₁ n c; exact ⟨sl,e₂⟩)
theorem Touch.of_slots {S lo ea} {h h':Heap} (x:Heap.SlotsOnly S h h'):Touch S lo ea h h' where
 size:=Zr x.1.symm
 cls:=fun a o e => (by obtain ⟨_,e₁⟩:=x.2.2 a o e; exact ⟨_,e₁,rfl⟩)
 keep:=fun a o e zz zz s => (x.2.1 a s).trans e
 frm:=fun a o e zz zz => x.2.2 a o e
theorem Touch.of_push {S lo ea} (h:Heap) (o:Obj):Touch S lo ea h (h.push o) :=
 ⟨by rw [Zqb]; exact Zq (Zs h.objs.size),fun zz o e => ⟨o,Zx _ e,rfl⟩,fun zz zz e zz zz zz => Zx _ e,fun zz o e zz zz => ⟨o.slots,Zx _ e⟩⟩
theorem Touch.of_set {S} {lo:Nat} {ea:Addr} {h:Heap} {a:Addr} {o:Obj} {vs:Array Value} (ho:h.get? a = some o) (hd:o.data = .fields vs) (f:Array Value → Array Value) (ha:a = ea ∨ (lo ≤ a ∧ o.cls = .type "traceback")) :
   Touch S lo ea h (h.update a (Obj.mapFields f)):=by
 have hself:=Heap.get?_update_self (Obj.mapFields f) ho (Obj.isFreed_of_fields (Obj.data_mapFields hd f))
 have ne:∀ b x,h.get? b = some x → b ≠ ea → (b < lo ∨ x.cls ≠ .type "traceback") → b ≠ a:=fun b x hb n c q => by
   subst q
   rcases ha with ha | ⟨ha,hc⟩
   · exact n ha
   · rw [ho] at hb; cases hb
     rcases c with c | c
     · exact absurd c (Zo.mpr ha)
     · exact c hc
 refine ⟨Zr (Heap.size_after_update ..).symm,fun b x hb => ?_,fun b x hb n c zz => ?_,fun b x hb n c => ⟨x.slots,?_⟩⟩
 · by_cases q:b = a
   · subst q; rw [ho] at hb; cases hb; exact ⟨_,hself,Obj.cls_mapFields _ _⟩
   · exact ⟨x,(Heap.get?_update_other h _ (Ne.symm q)).trans hb,rfl⟩
 · exact (Heap.get?_update_other h _ (Ne.symm (ne b x hb n c))).trans hb
 · exact (Heap.get?_update_other h _ (Ne.symm (ne b x hb n c))).trans hb
noncomputable def frs (fs:List Env):List Addr:=fs.filterMap (·.frame)
section
variable {T:Tp} {A:Around} {fs:List Env} {d:Nat} {ι:Inj} {σ:Hp} {s:Shared} {F:List Addr} {env:Env} {ρ:Loc} {lo:Nat} {ea:Addr} {c:Str}
theorem AOk.mem {h:Heap} (x:AOk T A fs d ι h) {a:Addr} (ha:a ∈ frs fs):a ∉ own ι ∧ T.b0.objs.size ≤ a ∧ ∃ o es ep,h.get? a = some o ∧ o.cls = .type "frame" ∧ o.data = .dict es ep:=by
 refine (List.mem_filterMap.mp ha).elim fun e h9 => h9.elim fun he hf => ?_
 obtain ⟨zz,L,o,es,ep,f,n,b,g,c,dd⟩:=x.funs e he
 rw [hf] at f; cases f
 exact ⟨n,b,o,es,ep,g,c,dd⟩
theorem Rep.own_cls {h:Heap} (r:Rep T ι σ h) {a:Addr} (ha:a ∈ own ι) {o:Obj} (ho:h.get? a = some o):o.cls ≠ .type "traceback" ∧ o.cls ≠ .type "frame":=by
 obtain ⟨p,hp,e⟩:=mem_own.mp ha
 obtain ⟨l,hl,rfl⟩:=List.getElem_of_mem hp
 have hl':l < σ.length:=r.len ▸ hl
 refine ((r.objs l σ[l] ι[l] (Zp hl') (Zp hl)).cls e).elim fun o' h9 => h9.elim fun ho' hc => ?_
 rw [ho] at ho'
 rw [sm_inj ho']
 rcases hc with ⟨C,hc⟩ | hc | hc <;> rw [hc]
 · exact ⟨nofun,nofun⟩
 · exact ⟨fun q => absurd (Value.type.inj q) (by decide),fun q => absurd (Value.type.inj q) (by decide)⟩
 · exact ⟨fun q => absurd (Value.type.inj q) (by decide),fun q => absurd (Value.type.inj q) (by decide)⟩
theorem Touch.mono {S:List Addr} {h h':Heap} (t:Touch S lo ea h h') (hS:∀ a ∈ S,∃ o,h.get? a = some o ∧ o.cls = .type "frame") (he:∃ o C,h.get? ea = some o ∧ o.cls = .ref C) (ι:Inj):Mono ι h ι h' where
 pre:=⟨[],by simp⟩
 cls:=fun a o e zz => t.cls a o e
 frz:=fun a o ho hf => t.keep a o ho (fun q => by
     obtain ⟨o',C,g,gc⟩:=he
     subst q; rw [ho] at g; cases g
     simp [frozen,gc] at hf) (.inr fun q => by simp [frozen,q] at hf) fun q => by
     obtain ⟨o',g,gc⟩:=hS a q
     rw [ho] at g; cases g
     simp [frozen,gc] at hf
theorem Rep.touch {S:List Addr} {h h':Heap} (r:Rep T ι σ h) (t:Touch S lo ea h h') (hS:∀ a ∈ S,a ∉ own ι ∧ T.b0.objs.size ≤ a ∧ ∃ o,h.get? a = some o ∧ o.cls = .type "frame") (he:∃ o C,h.get? ea = some o ∧ o.cls = .ref C)
   (hn:ea ∉ own ι) (hl:T.b0.objs.size ≤ lo) (hle:lo ≤ ea):Rep T ι σ h' :=
 r.keeps (t.mono (fun a ha => (hS a ha).2.2) he ι) t.size
   (fun a o e => t.keep a o (r.base a o e) (fun q => by
     have:=Zu e; rw [q] at this
     exact absurd (Za hl hle) (Nat.not_le.mpr this)) (.inl (Zz (Zu e) hl)) fun q => absurd (hS a q).2.1 (Nat.not_le.mpr (Zu e)))
   fun a ha o e => t.keep a o e (fun q => hn (q ▸ ha)) (.inr (r.own_cls ha e).1) fun q => (hS a q).1 ha
theorem Ext.touch {S:List Addr} {ι':Inj} {h₀ h h':Heap} (x:Ext T F ι h₀ ι' h) (t:Touch S h₀.objs.size ea h h') (hS:∀ a ∈ S,∃ o,h.get? a = some o ∧ o.cls = .type "frame") (hle:h₀.objs.size ≤ ea):Ext T F ι h₀ ι' h' where
 pre:=x.pre
 size:=Za x.size t.size
 cls:=fun a o e i => (by obtain ⟨o₁,e₁,c₁⟩:=x.cls a o e i; obtain ⟨o₂,e₂,c₂⟩:=t.cls a o₁ e₁; exact ⟨o₂,e₂,c₂.trans c₁⟩)
 frz:=fun a o e f => t.keep a o (x.frz a o e f) (fun q => absurd (Zu e) (Zo.mpr (q ▸ hle))) (.inl (Zu e)) fun q => by
   obtain ⟨o',g,gc⟩:=hS a q
   rw [x.frz a o e f] at g; cases g
   simp [frozen,gc] at f
 keep:=fun a o e n f c => t.keep a o (x.keep a o e n f c) (fun q => absurd (Zu e) (Zo.mpr (q ▸ hle))) (.inl (Zu e)) fun q => by
   obtain ⟨o',g,gc⟩:=hS a q
   rw [x.keep a o e n f c] at g; cases g
   exact c gc
 frm:=fun a o e n f => by
   obtain ⟨sl,e₁⟩:=x.frm a o e n f
   obtain ⟨sl',e₂⟩:=t.frm a _ e₁ (fun q => absurd (Zu e) (Zo.mpr (q ▸ hle))) (.inl (Zu e))
   exact ⟨sl',e₂⟩
theorem AOk.touch {S:List Addr} {h h':Heap} (x:AOk T A fs d ι h) (hT:T.hd = false) (t:Touch S lo ea h h') (he:∃ o C,h.get? ea = some o ∧ o.cls = .ref C):AOk T A fs d ι h' :=
 x.keeps (fun zz n zz => n) (fun a o g zz c => t.frm a o g (fun q => Zh he fun zz he => Zh he fun zz he => ne_type he.2 (sm_inj ((q ▸ g).symm.trans he.1) ▸ c)) (.inr fun q => absurd (Value.type.inj (c.symm.trans q)) (by decide))) (.none (x.hd hT))
theorem Frm.touch {S:List Addr} {h h':Heap} (x:Frm T env F ρ ι h) (t:Touch S lo ea h h') (he:∃ o C,h.get? ea = some o ∧ o.cls = .ref C) (hS:∀ a ∈ S,∃ o,h.get? a = some o ∧ o.cls = .type "frame"):Frm T env F ρ ι h' :=
 x.keeps (t.mono hS he ι) (fun zz n zz => n) (fun a o g zz zz => t.cls a o g) fun a o g zz hc zz => t.frm a o g (fun q => Zh he fun zz he => Zh he fun zz he => itr_ref hc.itr ((sm_inj (he.1.symm.trans (q ▸ g))) ▸ he.2)) (.inr hc.tb)
theorem Fly.hd {h:Heap} (x:Fly T lo ea c h):T.hd = false:=by obtain ⟨zz,zz,zz,zz,a,zz⟩:=x; exact a.1
theorem Fly.there {h:Heap} (x:Fly T lo ea c h):∃ o C vs,h.get? ea = some o ∧ o.cls = .ref C ∧ o.data = .fields vs:=by obtain ⟨C,oe,vs,zz,zz,zz,d,e,f,zz⟩:=x; exact ⟨oe,C,vs,d,e,f⟩
theorem Inv.touch {h':Heap} (I:Inv T A fs d env F ρ ι σ s) (t:Touch (frs fs) lo ea s.heap h') (f:Fly T lo ea c s.heap) (hn:ea ∉ own ι) (hl:T.b0.objs.size ≤ lo) (hle:lo ≤ ea):Inv T A fs d env F ρ ι σ { s with heap:=h' }:=by
 have hS:∀ a ∈ frs fs,a ∉ own ι ∧ T.b0.objs.size ≤ a ∧ ∃ o,s.heap.get? a = some o ∧ o.cls = .type "frame":=fun a ha => (by obtain ⟨a1,a2,o,_,_,a3,a4,_⟩:=I.aok.mem ha; exact ⟨a1,a2,o,a3,a4⟩)
 refine ex3 f.there fun o C vs h9 => and3 h9 fun e1 e2 e3 => ?_
 exact ⟨I.rep.touch t hS ⟨o,C,e1,e2⟩ hn hl hle,I.aok.touch f.hd t ⟨o,C,e1,e2⟩,I.frm.touch t ⟨o,C,e1,e2⟩ fun a ha => (hS a ha).2.2,I.top,I.gens,I.os⟩
theorem AOk.funFrames {h:Heap} (x:AOk T A fs d ι h):h.FunFrames T.b0 fs:=by
 have:∀ l:List Env,(∀ e ∈ l,e ∈ fs) → h.FunFrames T.b0 l:=by
   intro l
   induction l with
   | nil => intro zz; trivial
   | cons e r ih =>
     intro hl
     obtain ⟨k,L,o,es,ep,f,n,b,g,c,dd⟩:=x.funs e (hl e Zt)
     exact ⟨by rw [k]; decide,⟨L,o,f,Heap.get?_none_of_le b,g,fun vs q => by rw [dd] at q; cases q⟩,ih fun y hy => hl y (Zd _ hy)⟩
 exact this fs fun zz h => h
theorem frameOf_top {M:Model} {E:Value → Shared → Prop} {e:Env} {r:List Env} {L:Addr} {base:Heap} {Q:Value → Shared → Prop} (hfr:A.frames = some (e :: r)) (hl:s.heap.FunFrames base (e :: r)) (hf:e.frame = some L) (hv:env.frame = some L)
   (h:∀ h',Heap.SlotsOnly (frs (e :: r)) s.heap h' → Q (.ref L) { s with heap:=h' }):wpAny M A (PySem.frameOf env) Q E s:=by
 unfold PySem.frameOf
 refine Zhb (wpAny_frameEnvs hfr ?_)
 have hdw:((e :: r).dropWhile fun x => x.frame != env.frame) = e :: r:=by simp [List.dropWhile,hf,hv]
 rw [hdw]
 unfold frameObject
 refine Zhb (Zhb (wpAny_readyFrames_fun hl fun h₁ hs₁ => Zjb ?_))
 rw [hf]
 exact Zjb (h h₁ hs₁)
theorem entry_ok {M:Model} {E:Value → Shared → Prop} {e:Env} {r:List Env} {L:Addr} {base:Heap} {head:Value} {hadNext:Bool} {Q:Unit → Shared → Prop} {oe:Obj} {vs:Array Value} (hfr:A.frames = some (e :: r)) (hl:s.heap.FunFrames base (e :: r))
   (hf:e.frame = some L) (hv:env.frame = some L) (he:s.heap.get? ea = some oe) (hd:oe.data = .fields vs) (hsz:1 < vs.size) (hlo:lo ≤ s.heap.objs.size)
   (h:∀ h' tb,Touch (frs (e :: r)) lo ea s.heap h' → (∃ oe',h'.get? ea = some oe' ∧ oe'.cls = oe.cls ∧ oe'.data = .fields (vs.setIfInBounds 1 (.ref tb))) → TbAt lo ea h' (.ref tb) → Q () { s with heap:=h' }) :
   wpAny M A (do let a ← PySem.frameOf env; let pl ← entryPlaceOf L hadNext; let b ← EntryCells.newEntry head a .none (rawInt L) .none pl; setField (.ref ea) 1 b) Q E s:=by
 have hene:ea ∉ frs (e :: r):=fun hm => by
   obtain ⟨zz,o,ho,hnf⟩:=hl.mem hm
   rw [he] at ho; injection ho with ho; subst ho; exact hnf vs hd
 refine Zhb (frameOf_top hfr hl hf hv fun h₁ hs₁ => ?_)
 refine Zhb (wpAny_entryPlaceOf fun pl hpl => ?_)
 unfold EntryCells.newEntry newFields
 refine Zhb (wpAny_newObj_type ?_ (hpl.sizeOk5 _ _ _ _ _))
 have he₁:h₁.get? ea = some oe:=(hs₁.2.1 ea hene).trans he
 have he₂:=Zx (h:=h₁) { cls:=.type "traceback",dict:=none,data:=.fields ([head,.ref L,.none,rawInt L,.none] ++ (if pl.isEmpty then List.replicate 6 Value.none else pl)).toArray } he₁
 refine wpAny_setField he₂ hd hsz ?_
 have hTe:h₁.objs.size ≠ ea:=Zoc (Zu he₁)
 have hd₃:=Obj.data_mapFields hd (·.setIfInBounds 1 (Value.ref h₁.objs.size))
 have he₃:=Heap.get?_update_self (Obj.mapFields (·.setIfInBounds 1 (Value.ref h₁.objs.size))) he₂ (Obj.isFreed_of_fields hd₃)
 have hT₃:=(Heap.get?_update_other (h₁.push { cls:=.type "traceback",dict:=none,data:=.fields ([head,.ref L,.none,rawInt L,.none] ++ (if pl.isEmpty then List.replicate 6 Value.none else pl)).toArray })
   (Obj.mapFields (·.setIfInBounds 1 (Value.ref h₁.objs.size))) (Ne.symm hTe)).trans (Zsc h₁ rfl)
 refine h _ h₁.objs.size (((Touch.of_slots hs₁).trans (.of_push ..)).trans (.of_set he₂ hd _ (.inl rfl))) ⟨_,he₃,Obj.cls_mapFields _ _,hd₃⟩ ⟨_,_,_,rfl,?_,hTe,hT₃,rfl,rfl,?_⟩
 · rw [hs₁.1]; exact hlo
 · simp only [List.size_toArray,Zf,List.length_cons,List.length_nil]; (clear hsz hlo h he₂ hTe hd₃ he₃ hT₃; lia)
theorem note_ok {M:Model} {E:Value → Shared → Prop} {Q:Unit → Shared → Prop} (I:Inv T A fs d env F ρ ι σ s) (f:Fly T lo ea c s.heap) (hlo:lo ≤ s.heap.objs.size)
   (h:∀ h',Touch (frs fs) lo ea s.heap h' → FlyT T lo ea c h' → Q () { s with heap:=h' }):wpAny M A (noteFrame (.ref ea) env) Q E s:=by
 obtain ⟨e,r,L,rfl,hf,hv⟩:=I.top
 obtain ⟨C,oe,vs,v,f1,f2,f3,f4,f5,f6,f7,f8,f9⟩:=f
 unfold noteFrame
 simp only [hv]
 refine Zhb (wpAny_field f3 f5 f8 ?_)
 have fin:∀ (s':Shared) (head:Value) (hn:Bool),s'.heap.get? ea = some oe → s'.heap.FunFrames T.b0 (e :: r) → lo ≤ s'.heap.objs.size → (∀ h',Touch (frs (e :: r)) lo ea s'.heap h' → FlyT T lo ea c h' → Q () { s' with heap:=h' }) →
     wpAny M A (do let a ← PySem.frameOf env; let pl ← entryPlaceOf L hn; let b ← EntryCells.newEntry head a .none (rawInt L) .none pl; setField (.ref ea) 1 b) Q E s':=fun s' head hn g1 g2 g3 k =>
   entry_ok I.aok.frames g2 hf hv g1 f5 (by (clear f7 f8 g3 f2 hlo; lia)) g3 fun h' tb t o tb' => k h' t (by
     refine o.elim fun oe' h9 => and3 h9 fun o1 o2 o3 => ?_
     refine ⟨C,oe',_,.ref tb,f1,f2,o1,o2.trans f4,o3,by simpa using f6,?_,?_,tb'⟩
     · rw [Array.getElem?_setIfInBounds_ne (by decide)]; exact f7
     · rw [Array.getElem?_setIfInBounds_self_of_lt (by (clear f7 f8 g3 o3 f2 hlo; lia))])
 rcases f9 with rfl | ⟨tb,ot,ts,rfl,t2,t3,t4,t5,t6,t7⟩
 · rw [if_neg (by decide)]
   exact fin s _ _ f3 I.aok.funFrames hlo h
 · rw [if_pos (show (Value.ref tb != Value.none) = true from by simp)]
   have t8:ts[3]? = some ts[3]:=Array.getElem?_eq_getElem t7
   refine Zhb (wpAny_field t4 t6 t8 ?_)
   by_cases q:(ts[3] == rawInt L) = true
   · rw [if_pos q]
     exact Zjb (h _ (.refl _) ⟨C,oe,vs,_,f1,f2,f3,f4,f5,f6,f7,f8,⟨tb,ot,ts,rfl,t2,t3,t4,t5,t6,t7⟩⟩)
   · rw [if_neg q]
     refine Zhb (wpAny_setField t4 t6 t7 ?_)
     have other:∀ b,b ≠ tb → (s.heap.update tb (Obj.mapFields (·.setIfInBounds 3 Value.none))).get? b = s.heap.get? b:=fun b hb => Heap.get?_update_other _ _ (Ne.symm hb)
     have tt:Touch (frs (e :: r)) lo ea s.heap (s.heap.update tb (Obj.mapFields (·.setIfInBounds 3 Value.none))):=.of_set t4 t6 _ (.inr ⟨t2,t5⟩)
     refine fin _ _ _ ((other ea (Ne.symm t3)).trans f3) (I.aok.touch f1.1 tt ⟨oe,C,f3,f4⟩).funFrames ?_ fun h' t k => h h' (tt.trans t) k
     rw [Heap.size_after_update]; exact hlo
theorem flight_ok {M:Model} {E:Value → Shared → Prop} {Q:Unit → Shared → Prop} {fr:Option Addr} {S:List Addr} (f:FlyT T lo ea c s.heap)
   (h:∀ h',Touch S lo ea s.heap h' → FlyT T lo ea c h' → Q () { s with heap:=h' }):wpAny M A (setFlight (.ref ea) fr) Q E s:=by
 obtain ⟨C,oe,vs,v,f1,f2,f3,f4,f5,f6,f7,f8,tb,ot,ts,rfl,t2,t3,t4,t5,t6,t7⟩:=f
 unfold setFlight
 refine Zhb (wpAny_field f3 f5 f8 ?_)
 rw [if_pos (show (Value.ref tb != Value.none) = true from by simp)]
 refine wpAny_setField t4 t6 t7 (h _ (.of_set t4 t6 _ (.inr ⟨t2,t5⟩)) ⟨C,oe,vs,_,f1,f2,(Heap.get?_update_other _ _ t3).trans f3,f4,f5,f6,f7,f8,tb,_,_,rfl,t2,t3,Heap.get?_update_self _ t4 (Obj.isFreed_of_fields (Obj.data_mapFields t6 _)),(Obj.cls_mapFields _ _).trans t5,Obj.data_mapFields t6 _,by simpa using t7⟩)
end
end
set_option genSizeOf false
section
set_option genCtorIdx false in
inductive Fl where
 | next | brk | cont
 | ret (v:V)
inductive FlRel (T:Tp) (ι:Inj) (h:Heap):Fl → Flow → Prop where
 | next:FlRel T ι h .next .next
 | brk:FlRel T ι h .brk .brk
 | cont:FlRel T ι h .cont .cont
 | ret {v:V} {x:Value} (r:VRel T ι h v x):FlRel T ι h (.ret v) (.ret x)
theorem FlRel.imp {T T':Tp} {ι ι':Inj} {h h':Heap} {fl:Fl} {f:Flow} (r:FlRel T ι h fl f) (k:∀ v x,VRel T ι h v x → VRel T' ι' h' v x):FlRel T' ι' h' fl f:=r.rec .next .brk .cont fun r => .ret (k _ _ r)
noncomputable abbrev QS:=Fl → Loc → Hp → Prop
noncomputable abbrev XS:=Str → Hp → Prop
inductive PostS (T:Tp) (A:Around) (fs:List Env) (d:Nat) (env:Env) (F:List Addr) (Q:QS) (ι:Inj) (h:Heap) (f:Flow) (s':Shared):Prop where
 | mk (fl:Fl) (ρ':Loc) (σ':Hp) (ι':Inj) (h0:Q fl ρ' σ') (h1:FlRel T ι' s'.heap fl f) (h2:Inv T A fs d env F ρ' ι' σ' s') (h3:Ext T F ι h ι' s'.heap):PostS T A fs d env F Q ι h f s'
inductive PostSX (T:Tp) (A:Around) (fs:List Env) (d:Nat) (env:Env) (F:List Addr) (X:XS) (ι:Inj) (h:Heap) (x:Value) (s':Shared):Prop where
 | mk (ea:Addr) (c:Str) (ρ':Loc) (σ':Hp) (ι':Inj) (h0:x = .ref ea) (h1:X c σ') (h2:Fly T h.objs.size ea c s'.heap) (h3:ea ∉ own ι') (h4:Inv T A fs d env F ρ' ι' σ' s') (h5:Ext T F ι h ι' s'.heap):PostSX T A fs d env F X ι h x s'
noncomputable def ExOk (T:Tp) (d:Nat) (sc:Scope) (ρ:Loc) (X:XS) (ss:List Stmt) (Q:QS) (σ:Hp):Prop :=
 ∀ env A fs F ι s,env.scope = sc → Inv T A fs d env F ρ ι σ s → wpAny (model T.prog T.w) A (execs ss env) (PostS T A fs d env F Q ι s.heap) (PostSX T A fs d env F X ι s.heap) s
noncomputable def StOk (T:Tp) (d:Nat) (sc:Scope) (ρ:Loc) (X:XS) (st:Stmt) (Q:QS) (σ:Hp):Prop :=
 ∀ env A fs F ι s,env.scope = sc → Inv T A fs d env F ρ ι σ s → wpAny (model T.prog T.w) A (exec st env) (PostS T A fs d env F Q ι s.heap) (PostSX T A fs d env F X ι s.heap) s
section
variable {T:Tp} {A:Around} {fs:List Env} {d:Nat} {env:Env} {F:List Addr} {ι ι₁:Inj} {h h₁:Heap} {s s':Shared} {ρ:Loc} {σ:Hp} {sc:Scope}
theorem PostS.trans {Q:QS} {f:Flow} (e:Ext T F ι h ι₁ h₁) (p:PostS T A fs d env F Q ι₁ h₁ f s'):PostS T A fs d env F Q ι h f s' :=
 by obtain ⟨fl,ρ',σ',ι',q,r,i,e'⟩:=p; exact ⟨fl,ρ',σ',ι',q,r,i,e.trans e'⟩
theorem PostSX.trans {X:XS} {x:Value} (e:Ext T F ι h ι₁ h₁) (p:PostSX T A fs d env F X ι₁ h₁ x s'):PostSX T A fs d env F X ι h x s' :=
 by obtain ⟨ea,c,ρ',σ',ι',a,b,f,n,i,e'⟩:=p; exact ⟨ea,c,ρ',σ',ι',a,b,f.lo e.size,n,i,e.trans e'⟩
theorem PostS.mono {Q Q':QS} {f:Flow} (p:PostS T A fs d env F Q ι h f s') (k:∀ fl ρ σ,Q fl ρ σ → Q' fl ρ σ):PostS T A fs d env F Q' ι h f s' :=
 by obtain ⟨fl,ρ',σ',ι',q,r,i,e'⟩:=p; exact ⟨fl,ρ',σ',ι',k _ _ _ q,r,i,e'⟩
theorem PostSX.mono {X X':XS} {x:Value} (p:PostSX T A fs d env F X ι h x s') (k:∀ c σ,X c σ → X' c σ):PostSX T A fs d env F X' ι h x s' :=
 by obtain ⟨ea,c,ρ',σ',ι',a,b,f,n,i,e'⟩:=p; exact ⟨ea,c,ρ',σ',ι',a,k _ _ b,f,n,i,e'⟩
theorem Ext.up (e:Ext T [] ι h ι₁ h₁):Ext T F ι h ι₁ h₁:=e.weaken fun a ha => by simp at ha
theorem PostX.sx {X:QX} {XX:XS} {x:Value} (I:Inv T A fs d env F ρ ι σ s) (p:PostX T [] X ι s.heap x s') (k:∀ c σ,X c σ → XX c σ):PostSX T A fs d env F XX ι s.heap x s' :=
 by obtain ⟨ea,c,σ',ι',a,b,f,n,rp,e',g,o⟩:=p; exact ⟨ea,c,ρ,σ',ι',a,k _ _ b,f,n,I.ext e' rp g o,e'.up⟩
theorem StOk.mono {X X':XS} {st:Stmt} {Q Q':QS} (x:StOk T d sc ρ X st Q σ) (k:∀ fl ρ σ,Q fl ρ σ → Q' fl ρ σ) (kx:∀ c σ,X c σ → X' c σ):StOk T d sc ρ X' st Q' σ :=
 fun env A fs F ι s hsc I => Zib (x env A fs F ι s hsc I) (fun zz zz p => p.mono k) fun zz zz p => p.mono kx
theorem ExOk.mono {X X':XS} {st:List Stmt} {Q Q':QS} (x:ExOk T d sc ρ X st Q σ) (k:∀ fl ρ σ,Q fl ρ σ → Q' fl ρ σ) (kx:∀ c σ,X c σ → X' c σ):ExOk T d sc ρ X' st Q' σ :=
 fun env A fs F ι s hsc I => Zib (x env A fs F ι s hsc I) (fun zz zz p => p.mono k) fun zz zz p => p.mono kx
theorem ExOk.nil {X:XS} {Q:QS} (q:Q .next ρ σ):ExOk T d sc ρ X [] Q σ:=fun env A fs F ι s zz I => wpAny_execs_nil ⟨.next,ρ,σ,ι,q,.next,I,.refl ..⟩
theorem ExOk.cons {X:XS} {Q:QS} {st:Stmt} {r:List Stmt} (x:StOk T d sc ρ X st (fun fl ρ' σ' => match fl with | .next => ExOk T d sc ρ' X r Q σ' | fl => Q fl ρ' σ') σ):ExOk T d sc ρ X (st :: r) Q σ:=by
 intro env A fs F ι s hsc I
 refine wpAny_execs_cons (Zib (x env A fs F ι s hsc I) (fun f s₁ p => ?_) fun zz zz p => p)
 obtain ⟨fl,ρ',σ',ι',q,r,i,e⟩:=p
 induction r with
 | next => exact Zib (q env A fs F ι' s₁ hsc i) (fun zz zz p => p.trans e) fun zz zz p => p.trans e
 | brk => exact ⟨_,ρ',σ',ι',q,.brk,i,e⟩
 | cont => exact ⟨_,ρ',σ',ι',q,.cont,i,e⟩
 | ret r => exact ⟨_,ρ',σ',ι',q,.ret r,i,e⟩
theorem StOk.pass {X:XS} {Q:QS} {pos} (q:Q .next ρ σ):StOk T d sc ρ X (.Pass pos) Q σ:=fun env A fs F ι s zz I => wpAny_Pass ⟨.next,ρ,σ,ι,q,.next,I,.refl ..⟩
theorem StOk.brk {X:XS} {Q:QS} {pos} (q:Q .brk ρ σ):StOk T d sc ρ X (.Break pos) Q σ:=fun env A fs F ι s zz I => wpAny_Break ⟨.brk,ρ,σ,ι,q,.brk,I,.refl ..⟩
theorem StOk.cont {X:XS} {Q:QS} {pos} (q:Q .cont ρ σ):StOk T d sc ρ X (.Continue pos) Q σ:=fun env A fs F ι s zz I => wpAny_Continue ⟨.cont,ρ,σ,ι,q,.cont,I,.refl ..⟩
theorem StOk.retNone {X:XS} {Q:QS} {pos} (q:Q (.ret .none) ρ σ):StOk T d sc ρ X (.Return none pos) Q σ:=fun env A fs F ι s zz I => wpAny_Return_none ⟨.ret .none,ρ,σ,ι,q,.ret (VRel.none_mk (T:=T) (ι:=ι) (h:=s.heap)),I,.refl ..⟩
theorem StOk.ret {X:XS} {Q:QS} {e:Expr} {pos} (q:EvOk T d sc ρ X e (fun v σ' => Q (.ret v) ρ σ') σ):StOk T d sc ρ X (.Return (some e) pos) Q σ:=by
 intro env A fs F ι s hsc I
 refine wpAny_Return_some (Zib (q env A fs F ι s hsc I) (fun x s₁ p => ?_) fun zz zz p => p.sx I fun zz zz k => k)
 obtain ⟨v,σ₁,ι₁,q,rv,rp,ex,g,o⟩:=p
 exact ⟨.ret v,ρ,σ₁,ι₁,q,.ret rv,I.ext ex rp g o,ex.up⟩
noncomputable def noComp (e:Expr):Bool:=!(Nat.beq e.ctorIdx 8 || Nat.beq e.ctorIdx 9 || Nat.beq e.ctorIdx 10)
theorem swaps_no {e:Expr} {t:Option Expr} {l:Nat} (h:noComp e = true):swapsWith e t l env = pure false:=by
 cases e <;> first | rfl | exact (Zv h).elim
theorem Inv.inter (I:Inv T A fs d env F ρ ι σ s):interactive env = false:=by simp [interactive,I.frm.kind]
theorem StOk.expr {X:XS} {Q:QS} {e:Expr} {pos} (q:EvOk T d sc ρ X e (fun zz σ' => Q .next ρ σ') σ) (hc:noComp e = true):StOk T d sc ρ X (.Expr e pos) Q σ:=by
 intro env A fs F ι s hsc I
 refine wpAny_Expr_any (Zib (q env A fs F ι s hsc I) (fun x s₁ p => ?_) fun zz zz p => p.sx I fun zz zz k => k) I.inter (swaps_no hc)
 obtain ⟨v,σ₁,ι₁,q,rv,rp,ex,g,o⟩:=p
 exact ⟨.next,ρ,σ₁,ι₁,q,.next,I.ext ex rp g o,ex.up⟩
theorem StOk.ite {X:XS} {Q:QS} {e:Expr} {b o:List Stmt} {pos} (q:TsOk T d sc ρ X e (fun t σ' => if t then ExOk T d sc ρ X b Q σ' else ExOk T d sc ρ X o Q σ') σ):StOk T d sc ρ X (.If e b o pos) Q σ:=by
 intro env A fs F ι s hsc I
 refine wpAny_If (Zib (q env A fs F ι s hsc I) (fun t s₁ p => ?_) fun zz zz p => p.sx I fun zz zz k => k)
 obtain ⟨σ₁,ι₁,q,rp,ex,g,o⟩:=p
 have I₁:=I.ext ex rp g o
 cases t
 · exact Zib (q env A fs F ι₁ s₁ hsc I₁) (fun zz zz p => p.trans ex.up) fun zz zz p => p.trans ex.up
 · exact Zib (q env A fs F ι₁ s₁ hsc I₁) (fun zz zz p => p.trans ex.up) fun zz zz p => p.trans ex.up
noncomputable def DStay (h h':Heap):Prop:=∀ a o es ep,h.get? a = some o → o.data = .dict es ep → ∃ o' es' ep',h'.get? a = some o' ∧ o'.data = .dict es' ep'
noncomputable def isStore (sc:Scope) (x:Str):Bool:=match sc.names.lookup x with
 | some .local | some .cell => true
 | z1 => false
theorem isStore_out {sc:Scope} {x:Str} (h:isStore sc x = true):sc.names.lookup x = some .local ∨ sc.names.lookup x = some .cell:=by
 unfold isStore at h
 generalize sc.names.lookup x = o at h ⊢
 rcases o with zz | k
 · exact (Zv h).elim
 · cases k <;> first | exact .inl rfl | exact .inr rfl | exact (Zv h).elim
theorem isStore_of {sc:Scope} {x:Str} (h:sc.names.lookup x = some .local ∨ sc.names.lookup x = some .cell):isStore sc x = true:=by
 unfold isStore; rcases h with h | h <;> rw [h]
theorem storeCell {M:Model} {A:Around} {E:Value → Shared → Prop} {x:Str} {c:Addr} {o:Obj} {v₀:Option Value} {y:Value} {Q:Unit → Shared → Prop} (hk:env.scope.kind = .function) (hl:env.kindOf x = some .cell) (hc:env.cells.lookup x = some c)
   (ho:s.heap.get? c = some o) (hd:o.data = .cell v₀) (k:∀ h',h'.get? c = some { o with data:=.cell (some y) } → Heap.SameBut c s.heap h' → Q () { s with heap:=h' }):wpAny M A (storeName env x y) Q E s:=by
 unfold storeName
 rw [hl,hk]
 refine Zhb (wpAny_cellOf hc ?_)
 unfold cellSet
 refine Zhb (wpAny_load ho ?_)
 rw [hd]
 exact wpAny_update ho (k _ (Heap.get?_update_self _ ho rfl) (Heap.SameBut.update ..))
theorem Frm.at1 {a:Addr} {o:Obj} (H:Frm T env F ρ ι h) (ha:a ∈ F) (ho:h.get? a = some o):frozen o = false ∧ itr o = false:=(H.there a ha).at ho
structure Turn (F:List Addr) (h h':Heap) (a:Addr) (o o':Obj):Prop where
 mem:a ∈ F
 get:h.get? a = some o
 get':h'.get? a = some o'
 cls:o'.cls = o.cls
 same:Heap.SameBut a h h'
section
variable {h':Heap} {a:Addr} {o o':Obj}
theorem Turn.ext (x:Turn F h h' a o o') (H:Frm T env F ρ ι h):Ext T F ι h ι h':=.of_sameBut x.same x.get x.get' x.cls (H.at1 x.mem x.get).1 (.inr x.mem)
theorem Turn.rep (x:Turn F h h' a o o') (R:Rep T ι σ h) (H:Frm T env F ρ ι h):Rep T ι σ h' :=
 R.keeps (x.ext H).mono (x.ext H).size (fun b z hz => (x.same.2 b fun q => absurd (Zu hz) (Zo.mpr (q ▸ (H.apart a x.mem).2))).trans (R.base b z hz)) fun b hb z hz => (x.same.2 b fun q => (H.apart a x.mem).1 (q ▸ hb)).trans hz
theorem Turn.there (x:Turn F h h' a o o') (H:Frm T env F ρ ι h):∀ b ∈ F,There h' b:=fun b hb =>
 if q:b = a then ⟨o',q ▸ x.get',(frozen_eq x.cls).trans (H.at1 x.mem x.get).1,(itr_eq x.cls).trans (H.at1 x.mem x.get).2⟩ else (H.there b hb).rec fun z g1 g2 g3 => ⟨z,(x.same.2 b q).trans g1,g2,g3⟩
theorem Turn.stay (x:Turn F h h' a o o') (hd:∀ es ep,o.data = .dict es ep → ∃ es' ep',o'.data = .dict es' ep'):DStay h h':=fun b z es ep hz hzd =>
 if q:b = a then Zh (hd es ep (Zab (x.get.symm.trans (q ▸ hz)) ▸ hzd)) fun es' g => Zh g fun ep' g => ⟨o',es',ep',q ▸ x.get',g⟩ else ⟨z,es,ep,(x.same.2 b q).trans hz,hzd⟩
end
theorem upd_at {x:Str} {v:Option V}:upd ρ x v x = v:=if_pos rfl
theorem upd_ne {x z:Str} {v:Option V} (h:z ≠ x):upd ρ x v z = ρ z:=if_neg h
theorem ORelV.upd {x z:Str} {v:V} {y:Value} {m:Option Value} (r:VRel T ι h v y) (k:ORelV T ι h (ρ z) m):ORelV T ι h (Mine.upd ρ x (some v) z) (if z = x then some y else m) :=
 if q:z = x then by rw [q,upd_at,if_pos rfl]; exact .some r else by rw [upd_ne q,if_neg q]; exact k
theorem Frm.locTurn {h':Heap} {x:Str} {v:Option V} {c:String} {m m':Str → Option Value} (R:Rep T ι σ h) (H:Frm T env F ρ ι h) (hk:env.kindOf x = some .local) (hc:nsCls env c) (hn:NsC h env.locals c m) (hn':NsC h' env.locals c m') (hs:Heap.SameBut env.locals h h')
   (hm:∀ z,env.kindOf z = some .local → Mono ι h ι h' → ORelV T ι h' (upd ρ x v z) (m' z)):Rep T ι σ h' ∧ Frm T env F (upd ρ x v) ι h' ∧ Ext T F ι h ι h' ∧ DStay h h':=by
 obtain ⟨o,es,ep,ho,ocl,zz⟩:=hn
 obtain ⟨o',es',ep',ho',ocl',zz,od',zz⟩:=id hn'
 have tn:Turn F h h' env.locals o o':=⟨H.loc,ho,ho',ocl'.trans ocl.symm,hs⟩
 have e:=tn.ext H
 refine ⟨tn.rep R H,⟨H.kind,H.glb,H.blt,⟨c,_,hc,hn',fun z hz => hm z hz e.mono⟩,fun z hz => ?_,H.inj,H.loc,H.cin,H.apart,tn.there H⟩,e,tn.stay fun zz zz zz => ⟨_,_,od'⟩⟩
 obtain ⟨cc,oc,vc,e1,e2,e3,e4,e5,e6⟩:=H.cells z hz
 have ne:cc ≠ env.locals:=fun q => by
   rw [q,ho] at e2; rw [← sm_inj e2,ocl] at e3
   rcases hc.1 with q | q <;> rw [q] at e3 <;> exact absurd (Value.type.inj e3) (by decide)
 have ne2:z ≠ x:=fun q => by rw [q,hk] at hz; rcases hz with hz | hz <;> cases hz
 exact ⟨cc,oc,vc,e1,(hs.2 cc ne).trans e2,e3,e4,upd_ne ne2 ▸ e5.mono e.mono,e6⟩
theorem store_local {M:Model} {A:Around} {E:Value → Shared → Prop} {x:Str} {v:V} {y:Value} {Q:Unit → Shared → Prop} (R:Rep T ι σ s.heap) (H:Frm T env F ρ ι s.heap) (hk:env.kindOf x = some .local) (r:VRel T ι s.heap v y)
   (k:∀ h' t,Rep T ι σ h' → Frm T env F (upd ρ x (some v)) ι h' → Ext T F ι s.heap ι h' → DStay s.heap h' → (∃ a,Heap.SameBut a s.heap h' ∧ (a = env.locals ∨ (env.kindOf x = some .cell ∧ env.cells.lookup x = some a))) → Q () { s with heap:=h',toks:=t }):wpAny M A (storeName env x y) Q E s:=by
 obtain ⟨c,m,hc,hn,hr⟩:=H.ns
 rw [storeName_local hk (by rw [H.kind]; rfl)]
 refine nsSetC hn fun h' hn' hs => ?_
 refine (H.locTurn R hk hc hn hn' hs fun z hz mo => .upd (r.mono mo) ((hr z hz).mono mo)).elim fun R' h9 => and3 h9 fun H' e ds => ?_
 exact k h' _ R' H' e ds ⟨env.locals,hs,.inl rfl⟩
theorem store_cell {M:Model} {A:Around} {E:Value → Shared → Prop} {x:Str} {v:V} {y:Value} {Q:Unit → Shared → Prop} (R:Rep T ι σ s.heap) (H:Frm T env F ρ ι s.heap) (hk:env.kindOf x = some .cell) (r:VRel T ι s.heap v y)
   (k:∀ h' t,Rep T ι σ h' → Frm T env F (upd ρ x (some v)) ι h' → Ext T F ι s.heap ι h' → DStay s.heap h' → (∃ a,Heap.SameBut a s.heap h' ∧ (a = env.locals ∨ (env.kindOf x = some .cell ∧ env.cells.lookup x = some a))) → Q () { s with heap:=h',toks:=t }):wpAny M A (storeName env x y) Q E s:=by
 obtain ⟨c,m,hc,hn,hr⟩:=H.ns
 obtain ⟨cc,oc,vc,e1,e2,e3,e4,e5,e6⟩:=H.cells x (.inl hk)
 refine storeCell H.kind hk e1 e2 e4 fun h' ho' hs => ?_
 have tn:Turn F s.heap h' cc oc { oc with data:=.cell (some y) }:=⟨H.cin x cc hk e1,e2,ho',rfl,hs⟩
 have e:=tn.ext H
 have lne:env.locals ≠ cc:=fun q => by
   obtain ⟨o,es,ep,ho,zz,zz,od,zz⟩:=id hn
   rw [q,e2] at ho; rw [← sm_inj ho,e4] at od; cases od
 refine k h' _ (tn.rep R H) ⟨H.kind,H.glb,H.blt,⟨c,m,hc,hn.sameBut hs lne,fun z hz => ?_⟩,fun z hz => ?_,H.inj,H.loc,H.cin,H.apart,tn.there H⟩ e (tn.stay fun zz zz q => by rw [e4] at q; cases q) ⟨cc,hs,.inr ⟨hk,e1⟩⟩
 · have ne:z ≠ x:=fun q => by rw [q,hk] at hz; cases hz
   exact upd_ne ne ▸ (hr z hz).mono e.mono
 · by_cases q:z = x
   · exact ⟨cc,_,some y,q ▸ e1,ho',e3,rfl,by rw [q,upd_at]; exact .some (r.mono e.mono),e6⟩
   · obtain ⟨c2,o2,v2,f1,f2,f3,f4,f5,f6⟩:=H.cells z hz
     have ne:c2 ≠ cc:=fun p => q (H.inj z x c2 hz (.inl hk) f1 (p ▸ e1))
     exact ⟨c2,o2,v2,f1,(hs.2 c2 ne).trans f2,f3,f4,upd_ne q ▸ f5.mono e.mono,f6⟩
theorem store_at {M:Model} {A:Around} {E:Value → Shared → Prop} {x:Str} {v:V} {y:Value} {Q:Unit → Shared → Prop} (R:Rep T ι σ s.heap) (H:Frm T env F ρ ι s.heap) (hk:isStore env.scope x = true) (r:VRel T ι s.heap v y)
   (k:∀ h' t,Rep T ι σ h' → Frm T env F (upd ρ x (some v)) ι h' → Ext T F ι s.heap ι h' → DStay s.heap h' → (∃ a,Heap.SameBut a s.heap h' ∧ (a = env.locals ∨ (env.kindOf x = some .cell ∧ env.cells.lookup x = some a))) → Q () { s with heap:=h',toks:=t }):wpAny M A (storeName env x y) Q E s :=
 (isStore_out hk).elim (fun e => store_local R H e r k) fun e => store_cell R H e r k
theorem store_ok {M:Model} {A:Around} {E:Value → Shared → Prop} {x:Str} {v:V} {y:Value} {Q:Unit → Shared → Prop} (R:Rep T ι σ s.heap) (H:Frm T env F ρ ι s.heap) (hk:isStore env.scope x = true) (r:VRel T ι s.heap v y)
   (k:∀ h' t,Rep T ι σ h' → Frm T env F (upd ρ x (some v)) ι h' → Ext T F ι s.heap ι h' → DStay s.heap h' → Q () { s with heap:=h',toks:=t }):wpAny M A (storeName env x y) Q E s :=
 store_at R H hk r fun h' t R' H' e ds zz => k h' t R' H' e ds
theorem Inv.stored {ρ':Loc} {h':Heap} {t:Nat} (I:Inv T A fs d env F ρ ι σ s) (R:Rep T ι σ h') (H:Frm T env F ρ' ι h') (e:Ext T F ι s.heap ι h') (ds:DStay s.heap h'):Inv T A fs d env F ρ' ι σ { s with heap:=h',toks:=t } :=
 ⟨R,I.aok.ext e (fun en hen L hf zz => by
   obtain ⟨zz,L',o,es,ep,f,zz,zz,g,zz,dd⟩:=I.aok.funs en hen
   rw [hf] at f; cases f
   exact ds L o es ep g dd) (fun a ha => (by obtain ⟨o,g,_,gi⟩:=I.frm.there a ha; exact ⟨o,g,gi⟩)),H,I.top,I.gens,I.os⟩
theorem StOk.assign {X:XS} {Q:QS} {x:Str} {pos' pos:Pos} {e:Expr} (q:EvOk T d sc ρ X e (fun v σ' => Q .next (upd ρ x (some v)) σ') σ) (hc:noComp e = true) (hk:isStore sc x = true) :
   StOk T d sc ρ X (.Assign [.Name x pos'] e pos) Q σ:=by
 intro env A fs F ι s hsc I
 refine wpAny_Assign_Name (Zib (q env A fs F ι s hsc I) (fun y s₁ p => ?_) fun zz zz p => p.sx I fun zz zz k => k) (swaps_no hc)
 obtain ⟨v,σ₁,ι₁,q,rv,rp,ex,g,o⟩:=p
 have I₁:=I.ext ex rp g o
 refine store_ok I₁.rep I₁.frm (hsc ▸ hk) rv fun h' t R' H' e' ds => ?_
 exact ⟨.next,_,σ₁,ι₁,q,.next,I₁.stored R' H' e' ds,ex.up.trans e'⟩
end
end
section
noncomputable def bindLoc (ρ:Loc):List Str → List V → Loc
 | p :: ps,v :: vs => bindLoc (upd ρ p (some v)) ps vs
 | z1,z2 => ρ
noncomputable def noFree (sc:Scope):Bool:=sc.names.all fun p => p.2 != .free
inductive FnAt (T:Tp) (v:Value) (ps:List Str) (body:List Stmt) (sc:Scope):Prop where
 | mk (f:Addr) (o:Obj) (fd:FuncData) (h0:v = .ref f) (ho:T.K.lookup f = some o) (hd:o.data = .func fd) (hs:fd.scope = sc) (hbody:fd.body = .stmts body) (hclo:fd.closure = []) (hg:fd.globals = mainGlobals) (hbu:fd.builtins = builtinsNs) (hcd:PySem.W.codeIn T.K fd.code fd.qualname = true)
     (hbind:∀ vals:List Value,vals.length = ps.length → bindArgs fd ⟨vals,[]⟩ = pure (ps.zip vals)) (co:sc.isCoroutine = false) (gen:sc.isGenerator = false) (kind:sc.kind = .function) (par:(ps.all fun p => isStore sc p) = true) (free:noFree sc = true):FnAt T v ps body sc
noncomputable def nodupS:List Str → Bool
 | [] => true
 | x :: r => !r.contains x && nodupS r
theorem zip_lookup {n:Str}:∀ {ps:List Str} {vs:List Value},vs.length = ps.length → n ∈ ps → ((ps.zip vs).lookup n).isNone = false
 | p :: ps,v :: vs,hl,hn => by
   rw [List.zip_cons_cons,List.lookup_cons]
   cases h:n == p
   · exact zip_lookup (Nat.succ.inj hl) ((Zg.mp hn).resolve_left fun e => by rw [e,beq_self_eq_true] at h; cases h)
   · rfl
 | p :: ps,[],hl,z1 => (by cases hl)
theorem fmap_eq {α β:Type} {f g:α → Option β}:∀ {l:List α},(∀ x ∈ l,f x = g x) → l.filterMap f = l.filterMap g:=by
 intro xx
 induction xx with
 | nil =>
   intro z1
   exact rfl
 | cons x r ih =>
   intro h
   rw [List.filterMap_cons,List.filterMap_cons,h x Zt,ih fun y hy => h y (Zd _ hy)]
theorem zip_keys:∀ {ps:List Str} {vs:List Value},vs.length = ps.length → nodupS ps = true → ps.filterMap (fun n => ((ps.zip vs).lookup n).map (n,·)) = ps.zip vs
 | [],z1,z2,z3 => rfl
 | p :: ps,[],hl,z1 => (by cases hl)
 | p :: ps,v :: vs,hl,hn => by
   have h:=Bool.and_eq_true_iff.mp hn
   have hp:p ∉ ps:=fun q => by have:=h.1; rw [List.contains_iff_mem.mpr q] at this; cases this
   rw [List.zip_cons_cons,List.filterMap_cons_some (b:=(p,v)) (by rw [List.lookup_cons,beq_self_eq_true]; rfl)]
   refine congrArg ((p,v) :: ·) (.trans (fmap_eq fun n hn => ?_) (zip_keys (Nat.succ.inj hl) h.2))
   have ne:(n == p) = false:=Zmc.mpr fun e => hp (e ▸ hn)
   rw [List.lookup_cons,ne]
theorem bind_plain {fd:FuncData} {as:List Arg} {kd:List (Option Expr)} {df:List Expr} {vals:List Value} (hp:fd.params = ⟨[],as,none,[],kd,none,df⟩) (hd:fd.defaults = .none) (hn:nodupS (as.map Arg.arg) = true) (hl:vals.length = (as.map Arg.arg).length) :
   bindArgs fd ⟨vals,[]⟩ = pure ((as.map Arg.arg).zip vals):=by
 have e1:((as.map Arg.arg).filter fun n => (((as.map Arg.arg).zip vals).lookup n).isNone) = []:=List.filter_eq_nil_iff.mpr fun n h => by rw [zip_lookup hl h]; exact Zv
 have e2:=zip_keys hl hn
 obtain ⟨nm,qn,pr,bd,sc,g,clo,dfl,kdf,doc,pm,an,code,ct,bu⟩:=fd
 cases hp; cases hd
 have n1:¬ (decide (vals.length > (as.map Arg.arg).length) && (none:Option Arg).isNone) = true:=by rw [hl,Zrc (Zub _)]; exact Zv
 have n2:¬ (!(List.filter (fun n => (List.lookup n ((as.map Arg.arg).zip vals)).isNone) (List.take ((as.map Arg.arg).length - (List.drop (([]:List Value).length - (as.map Arg.arg).length) ([]:List Value)).length) (as.map Arg.arg))).isEmpty) = true:=by
   rw [List.drop_nil]; show ¬ (!(List.filter _ (List.take (as.map Arg.arg).length (as.map Arg.arg))).isEmpty) = true; rw [Zgc,e1]; exact Zv
 have n3:∀ {α:Type} {f:List (Str × Value) → Sem α} {g:Str × Value → List (Str × Value) → Sem (ForInStep (List (Str × Value)))} {k m:Nat},((forIn ((List.drop k (as.map Arg.arg)).zip (List.drop m ([]:List Value))) ((as.map Arg.arg).zip vals) g:Sem _) >>= f) = f ((as.map Arg.arg).zip vals):=fun {zz f g k m} => by rw [List.drop_nil,List.zip_nil_right]; rfl
 show (if (decide (vals.length > (as.map Arg.arg).length) && (none:Option Arg).isNone) = true then _ else _) = _
 refine (if_neg n1).trans ?_
 show (if (!(List.filter (fun n => (List.lookup n ((as.map Arg.arg).zip vals)).isNone) (List.take ((as.map Arg.arg).length - (List.drop (([]:List Value).length - (as.map Arg.arg).length) ([]:List Value)).length) (as.map Arg.arg))).isEmpty) = true then _ else _) = _
 refine (if_neg n2).trans ?_
 show ((forIn ((List.drop _ (as.map Arg.arg)).zip (List.drop _ ([]:List Value))) ((as.map Arg.arg).zip vals) _:Sem _) >>= _) = _
 refine n3.trans ?_
 show (pure (((as.map Arg.arg) ++ []).filterMap fun n => (((as.map Arg.arg).zip vals).lookup n).map (n,·)):Sem _) = _
 rw [Zlc,e2]
noncomputable def scFine (ps:List Str) (sc:Scope):Bool:=(!sc.isCoroutine && !sc.isGenerator) && ((sc.kind == .function && (ps.all fun p => isStore sc p)) && (noFree sc && scOk sc))
noncomputable def plainPr (p:Arguments):Bool:=(p.posonlyargs.isEmpty && p.vararg.isNone) && (p.kwonlyargs.isEmpty && p.kwarg.isNone)
noncomputable def bodyIn:FuncBody → Option (List Stmt)
 | .stmts b => some b
 | z1 => none
noncomputable def fdIn (K:PySem.W.Frag):FuncData → Option (List Str × List Stmt × Scope)
 | ⟨z1,qual,pr,bd,sc,g,clo,dfl,z2,z3,z4,z5,code,z6,bu⟩ =>
   (bodyIn bd).bind fun body => bif ((g == mainGlobals && bu == builtinsNs) && ((clo.isEmpty && dfl == .none) && plainPr pr)) && (PySem.W.codeIn K code qual && (nodupS (pr.args.map (·.arg)) && scFine (pr.args.map (·.arg)) sc)) then some (pr.args.map (·.arg),body,sc) else none
theorem plainPr_out {p:Arguments} (h:plainPr p = true):p = ⟨[],p.args,none,[],p.kw_defaults,none,p.defaults⟩:=by
 obtain ⟨po,as,va,ko,kd,kw,df⟩:=p
 have h:=Bool.and_eq_true_iff.mp h
 cases List.isEmpty_iff.mp (Bool.and_eq_true_iff.mp h.1).1; cases Option.isNone_iff_eq_none.mp (Bool.and_eq_true_iff.mp h.1).2
 cases List.isEmpty_iff.mp (Bool.and_eq_true_iff.mp h.2).1; cases Option.isNone_iff_eq_none.mp (Bool.and_eq_true_iff.mp h.2).2
 rfl
theorem bodyIn_out {b:FuncBody} {x:List Stmt} (h:bodyIn b = some x):b = .stmts x:=by
 cases b <;> first | exact (no_some h).elim | exact congrArg _ (sm_inj h)
theorem cond_some {α:Type} {c:Bool} {a x:α} (h:(bif c then some a else none) = some x):c = true ∧ a = x:=by
 cases c
 · exact (no_some h).elim
 · exact ⟨rfl,sm_inj h⟩
noncomputable def dataIn (K:PySem.W.Frag):Data → Option (List Str × List Stmt × Scope)
 | .func fd => fdIn K fd
 | z1 => none
noncomputable def fnIn (K:PySem.W.Frag):Value → Option (List Str × List Stmt × Scope)
 | .ref f => (K.lookup f).bind fun o => dataIn K o.data
 | z1 => none
theorem fdIn_out {T:Tp} {f:Addr} {o:Obj} {fd:FuncData} {r:List Str × List Stmt × Scope} (ho:T.K.lookup f = some o) (hd:o.data = .func fd) (h:fdIn T.K fd = some r):FnAt T (.ref f) r.1 r.2.1 r.2.2 ∧ scOk r.2.2 = true:=by
 refine (Option.bind_eq_some_iff.mp h).elim fun body h9 => h9.elim fun h0 h => ?_
 obtain ⟨hb,h⟩:=cond_some h
 rw [← h]
 unfold scFine at hb
 simp only [Zob,Bool.not_eq_true',beq_iff_eq] at hb
 obtain ⟨⟨⟨h1,h2⟩,⟨hc,hn⟩,hp⟩,h3,h4,⟨h5,h6⟩,⟨h7,h8⟩,h9,h10⟩:=hb
 exact ⟨⟨_,o,fd,rfl,ho,hd,rfl,bodyIn_out h0,List.isEmpty_iff.mp hc,h1,h2,h3,fun vals hl => bind_plain (plainPr_out hp) hn h4 hl,h5,h6,h7,h8,h9⟩,h10⟩
theorem fnIn_out {T:Tp} {v:Value} {ps:List Str} {body:List Stmt} {sc:Scope} (h:fnIn T.K v = some (ps,body,sc)):FnAt T v ps body sc ∧ scOk sc = true:=by
 cases v <;> first | exact (no_some h).elim | skip
 obtain ⟨o,ho,h⟩:=Option.bind_eq_some_iff.mp h
 generalize hd:o.data = dt at h
 cases dt <;> first | exact (no_some h).elim | exact fdIn_out ho hd h
noncomputable def FnV (T:Tp) (f:V) (ps:List Str) (body:List Stmt) (sc:Scope):Prop:=∀ ι h fv,VRel T ι h f fv → FnAt T fv ps body sc
theorem FnV.glob {T:Tp} {x:Str} {v:Value} {ps body sc} (e:T.g x = some v) (h:FnAt T v ps body sc):FnV T (.glob x) ps body sc:=fun zz zz fv r => by
 cases e.symm.trans r; exact h
theorem FnV.mth {T:Tp} {c x:Str} {v:Value} {ps body sc} (e:T.m c x = some v) (h:FnAt T v ps body sc):FnV T (.mth c x) ps body sc:=fun zz zz fv r => by
 cases e.symm.trans r; exact h
noncomputable def retQ (Q:QE):QS:=fun fl zz σ => match fl with | .ret v => Q v σ | _ => Q .none σ
theorem pushCells_cls:∀ (names:List (Str × NameKind)) (h:Heap) (c:Addr) (o:Obj),(pushCells h names).get? c = some o → h.objs.size ≤ c → o.cls = .type "cell":=by
 intro xx
 induction xx with
 | nil =>
   intro h c o e hl
   exact absurd (Zu e) (Zo.mpr hl)
 | cons pp r ih =>
   obtain ⟨z1,kind⟩:=pp
   intro h c o e hl
   unfold pushCells at e
   split at e
   · by_cases q:c = h.objs.size
     · subst q
       rw [pushCells_keeps r _ _ _ (Zsc h rfl)] at e
       cases e; rfl
     · exact ih _ c o e (by rw [Zqb]; exact Nat.lt_of_le_of_ne hl (Ne.symm q))
   · exact ih h c o e hl
theorem pushCells_size:∀ (names:List (Str × NameKind)) (h:Heap),h.objs.size ≤ (pushCells h names).objs.size:=by
 intro xx
 induction xx with
 | nil =>
   intro z1
   exact Zl _
 | cons pp r ih =>
   obtain ⟨z1,kind⟩:=pp
   intro h
   unfold pushCells
   split
   · exact Za (by rw [Zqb]; exact Zq (Zs h.objs.size)) (ih _)
   · exact ih h
theorem cellsFrom_acc:∀ (names:List (Str × NameKind)) (n:Nat) (acc:List (Str × Addr)) (x:Str × Addr),x ∈ acc → x ∈ cellsFrom n names acc:=by
 intro xx
 induction xx with
 | nil =>
   intro z1 z2 z3 h
   exact h
 | cons pp r ih =>
   obtain ⟨z1,kind⟩:=pp
   intro n acc x h
   unfold cellsFrom
   split
   · exact ih _ _ x (Zd _ h)
   · exact ih _ _ x h
theorem cellsFrom_mem:∀ (names:List (Str × NameKind)) (n:Nat) (acc:List (Str × Addr)) (x:Str),(x,NameKind.cell) ∈ names → ∃ c,(x,c) ∈ cellsFrom n names acc:=by
 intro xx
 induction xx with
 | nil => intros; contradiction
 | cons pp r ih =>
   obtain ⟨y,kind⟩:=pp
   intro n acc x h
   unfold cellsFrom
   rcases Zg.mp h with e | h
   · cases e
     exact ⟨n,cellsFrom_acc r _ _ _ (by simp)⟩
   · split
     · exact ih _ _ x h
     · exact ih _ _ x h
theorem lookup_of_mem {α:Type}:∀ {l:List (Str × α)} {x:Str} {c:α},(x,c) ∈ l → ∃ c',l.lookup x = some c':=by
 intro xx
 induction xx with
 | nil => intros; contradiction
 | cons pp r ih =>
   obtain ⟨k,v⟩:=pp
   intro x c h
   rw [List.lookup_cons]
   cases hb:x == k with
   | true => exact ⟨v,rfl⟩
   | false =>
     rcases Zg.mp h with e | h
     · cases e; simp at hb
     · exact ih h
section
variable {T:Tp} {A:Around} {fs:List Env} {d:Nat} {ι:Inj} {σ:Hp} {s:Shared} {sc:Scope}
theorem binds_ok {M:Model} {A:Around} {E:Value → Shared → Prop} {env:Env} {F:List Addr} (f:Str × Value → PUnit → Sem (ForInStep PUnit)) (hf:∀ n v u,f (n,v) u = (do storeName env n v; pure (.yield ⟨⟩))) :
   ∀ (ps:List Str) (vs:List V) (xs:List Value) (ρ:Loc) (s:Shared) (Q:PUnit → Shared → Prop),Rep T ι σ s.heap → Frm T env F ρ ι s.heap → VRels T ι s.heap vs xs → xs.length = ps.length → (ps.all fun p => isStore env.scope p) = true →
     (∀ h' t,Rep T ι σ h' → Frm T env F (bindLoc ρ ps vs) ι h' → Ext T F ι s.heap ι h' → DStay s.heap h' → Q ⟨⟩ { s with heap:=h',toks:=t }) → wpAny M A (forIn (ps.zip xs) ⟨⟩ f) Q E s
 | [],vs,xs,ρ,s,Q,R,H,r,hl,z1,k => by
   cases xs with
   | nil =>
     cases vs with
     | nil => rw [List.zip_nil_left,List.forIn_nil]; exact Zjb (k s.heap s.toks R H (.refl ..) fun a o es ep e q => ⟨o,es,ep,e,q⟩)
     | cons => exact (show False from r).elim
   | cons => simp at hl
 | p :: ps,vs,xs,ρ,s,Q,R,H,r,hl,ha,k => by
   cases xs with
   | nil => simp at hl
   | cons x xs =>
     cases vs with
     | nil => exact (show False from r).elim
     | cons v vs =>
       rw [List.zip_cons_cons,List.forIn_cons,hf]
       simp only [List.all_cons,Zob] at ha
       refine Zhb (Zhb (store_ok R H ha.1 r.1 fun h' t R' H' e' ds => Zjb ?_))
       refine binds_ok f hf ps vs xs _ _ Q R' H' (r.2.mono e'.mono) (by simpa using hl) (by simpa using ha.2) fun h'' t' R'' H'' e'' ds' => ?_
       exact k h'' t' R'' H'' (e'.trans e'') fun a o es ep e q => by
         refine ex3 (ds a o es ep e q) fun o₁ es₁ ep₁ h9 => h9.elim fun g gd => ?_
         exact ds' a o₁ es₁ ep₁ g gd
theorem frame_new {L:Addr} {qual:Str} {func:Option Addr} {code:Value} (R:Rep T ι σ s.heap) (hL:L = s.heap.objs.size) (hk:sc.kind = .function) (hf:noFree sc = true) (h₁:Heap) (hh:h₁ = pushCells (s.heap.push { cls:=.type "frame",data:=.dict #[] }) sc.names)
   (env:Env) (he:env = newEnv sc L mainGlobals (cellsFrom (L + 1) sc.names []) qual func code none builtinsNs) :
   ∃ F,(∀ a ∈ F,s.heap.objs.size ≤ a) ∧ Rep T ι σ h₁ ∧ Frm T env F (fun zz => none) ι h₁ ∧ Ext T F ι s.heap ι h₁ ∧ (∃ o,h₁.get? L = some o ∧ o.cls = .type "frame" ∧ o.data = .dict #[] 0):=by
 subst hh he hL
 have ok:=cellsFrom_ok sc.names (s.heap.push { cls:=.type "frame",data:=.dict #[] }) (s.heap.objs.size + 1) [] ⟨fun zz zz hm => ((by cases hm)),List.Pairwise.nil⟩ (by rw [Zqb]; exact Zl _)
 rw [Zqb] at ok
 have keep:∀ b o,s.heap.get? b = some o → (pushCells (s.heap.push { cls:=.type "frame",data:=.dict #[] }) sc.names).get? b = some o:=fun b o e => pushCells_keeps _ _ b o (Zx _ e)
 have hsz:s.heap.objs.size ≤ (pushCells (s.heap.push { cls:=.type "frame",data:=.dict #[] }) sc.names).objs.size:=Za (by rw [Zqb]; (clear ok keep; exact Zq (Zs s.heap.objs.size))) (pushCells_size _ _)
 have hL:=pushCells_keeps sc.names (s.heap.push { cls:=.type "frame",data:=.dict #[] }) _ _ (Zsc s.heap rfl)
 have no:∀ a,s.heap.objs.size ≤ a → a ∉ own ι:=fun a ha q => absurd (R.own_lt q) (Zo.mpr ha)
 have cellAt:∀ x c,(x,c) ∈ cellsFrom (s.heap.objs.size + 1) sc.names [] → s.heap.objs.size + 1 ≤ c ∧ ∃ o,(pushCells (s.heap.push { cls:=.type "frame",data:=.dict #[] }) sc.names).get? c = some o ∧ o.cls = .type "cell" ∧ o.data = .cell none:=fun x c hm => by
   obtain ⟨⟨o,g,gd⟩,hc⟩:=ok.empty x c hm
   exact ⟨hc,o,g,pushCells_cls _ _ c o g (by rw [Zqb]; exact hc),gd⟩
 refine ⟨s.heap.objs.size :: (cellsFrom (s.heap.objs.size + 1) sc.names []).map (·.2),fun a ha => ?_,R.grow hsz keep,?_,.of_keeps hsz keep,⟨_,hL,rfl,rfl⟩⟩
 · rcases Zg.mp ha with rfl | ha
   · exact Zl _
   · obtain ⟨⟨x,c⟩,hm,rfl⟩:=Zsb.mp ha
     exact Zkc (cellAt x c hm).1
 · refine ⟨hk,rfl,rfl,⟨"frame",fun zz => none,⟨.inl rfl,fun q => absurd rfl q⟩,⟨_,#[],0,hL,rfl,rfl,rfl,fun e he => by simp at he,List.Pairwise.nil,fun zz => rfl⟩,fun x zz => .none⟩,fun x hx => ?_,fun x y c hx hy h1 h2 => name_of_addr ok.apart (mem_of_lookup h1) (mem_of_lookup h2),Zt,fun x c zz h => Zd _ (Zsb.mpr ⟨(x,c),mem_of_lookup h,rfl⟩),fun a ha => ?_,fun a ha => ?_⟩
   · have hx':sc.names.lookup x = some .cell:=by
       rcases hx with hx | hx
       · exact hx
       · have:=List.all_eq_true.mp hf _ (mem_of_lookup (show sc.names.lookup x = some .free from hx))
         simp at this
     obtain ⟨c,hc⟩:=cellsFrom_mem sc.names (s.heap.objs.size + 1) [] x (mem_of_lookup hx')
     obtain ⟨c',hc'⟩:=lookup_of_mem hc
     obtain ⟨g1,o,g2,g3,g4⟩:=cellAt x c' (mem_of_lookup hc')
     exact ⟨c',o,none,hc',g2,g3,g4,.none,no c' (Zkc g1)⟩
   · have hs:s.heap.objs.size ≤ a:=by
       rcases Zg.mp ha with rfl | ha
       · exact Zl _
       · obtain ⟨⟨x,c⟩,hm,rfl⟩:=Zsb.mp ha
         exact Zkc (cellAt x c hm).1
     exact ⟨no a hs,Za R.size hs⟩
   · rcases Zg.mp ha with rfl | ha
     · exact ⟨_,hL,rfl,rfl⟩
     · obtain ⟨⟨x,c⟩,hm,rfl⟩:=Zsb.mp ha
       obtain ⟨zz,o,g2,g3,zz⟩:=cellAt x c hm
       exact ⟨o,g2,by simp [frozen,g3],itr_no g3 (by decide)⟩
end
end
section
section
variable {T:Tp} {A:Around} {fs:List Env} {d:Nat} {ι:Inj} {σ:Hp} {s:Shared} {sc:Scope}
theorem PostSX.touched {env:Env} {F:List Addr} {X:XS} {h:Heap} {ρ':Loc} {σ':Hp} {ι':Inj} {ea:Addr} {c:Str} {h':Heap} (x:X c σ') (hn:ea ∉ own ι') (I:Inv T A fs d env F ρ' ι' σ' s) (e:Ext T F ι h ι' s.heap) (f:Fly T h.objs.size ea c s.heap) (hb:T.b0.objs.size ≤ h.objs.size)
   (t:Touch (frs fs) h.objs.size ea s.heap h'):Inv T A fs d env F ρ' ι' σ' { s with heap:=h' } ∧ Ext T F ι h ι' h':=by
 have hle:h.objs.size ≤ ea:=by obtain ⟨zz,zz,zz,zz,zz,q,zz⟩:=f; exact q
 exact ⟨I.touch t f hn hb hle,e.touch t (fun a ha => (by obtain ⟨_,_,o,_,_,g,gc,_⟩:=I.aok.mem ha; exact ⟨o,g,gc⟩)) hle⟩
theorem noted_ok {env:Env} {F:List Addr} {X:XS} {h:Heap} {x:Value} {E:Value → Shared → Prop} {Q:Unit → Shared → Prop} (hb:T.b0.objs.size ≤ h.objs.size) (p:PostSX T A fs d env F X ι h x s)
   (k:∀ ea c ρ' σ' ι' h',x = .ref ea → X c σ' → FlyT T h.objs.size ea c h' → ea ∉ own ι' → Inv T A fs d env F ρ' ι' σ' { s with heap:=h' } → Ext T F ι h ι' h' → Q () { s with heap:=h' }) :
   wpAny (model T.prog T.w) A (noteFrame x env) Q E s:=by
 obtain ⟨ea,c,ρ',σ',ι',rfl,b,f,n,I,e⟩:=p
 refine note_ok I f e.size fun h' t f' => ?_
 obtain ⟨I',e'⟩:=PostSX.touched b n I e f hb t
 exact k ea c ρ' σ' ι' h' rfl b f' n I' e'
theorem leaving_ok {env:Env} {F:List Addr} {X:XS} {h:Heap} {x:Value} {E:Value → Shared → Prop} {Q:Unit → Shared → Prop} (hb:T.b0.objs.size ≤ h.objs.size) (p:PostSX T A fs d env F X ι h x s)
   (k:∀ s',PostSX T A fs d env F X ι h x s' → Q () s'):wpAny (model T.prog T.w) A (leaving env x) Q E s:=by
 unfold leaving
 refine Zhb (noted_ok hb p fun ea c ρ' σ' ι' h' hx b f n I e => ?_)
 subst hx
 refine flight_ok (S:=frs fs) f fun h'' t f' => ?_
 obtain ⟨I',e'⟩:=PostSX.touched b n I e f.fly hb t
 exact k _ ⟨ea,c,ρ',σ',ι',rfl,b,f'.fly,n,I',e'⟩
theorem loop_ok {env:Env} {F:List Addr} {X:XS} {h:Heap} {x:Value} (hb:T.b0.objs.size ≤ h.objs.size) (p:PostSX T A fs d env F X ι h x s) :
   notedBy (model T.prog T.w) A env (fun e s' => cameBackBy (model T.prog T.w) A env (PostSX T A fs d env F X ι h) e s') x s:=by
 unfold notedBy
 refine noted_ok hb p fun ea c ρ' σ' ι' h' hx b f n I e => ?_
 subst hx
 unfold cameBackBy
 have f₀:=f
 obtain ⟨C,oe,vs,v,f1,f2,f3,f4,f5,f6,f7,f8,tb,ot,ts,rfl,zz⟩:=f
 refine Zhb (wpAny_field f3 f5 f8 ?_)
 rw [if_neg (by simp)]
 refine flight_ok (S:=frs fs) f₀ fun h'' t f' => ?_
 obtain ⟨I',e'⟩:=PostSX.touched b n I e f₀.fly hb t
 exact ⟨ea,c,ρ',σ',ι',rfl,b,f'.fly,n,I',e'⟩
noncomputable def CodeOk (T:Tp) (d:Nat) (X:QX) (f:V) (args:List V) (Q:QE) (σ:Hp):Prop :=
 ∀ A fs ι s fv xs,St T A fs d ι σ s → VRel T ι s.heap f fv → VRels T ι s.heap args xs → codeAny (model T.prog T.w) A (.call fv ⟨xs,[]⟩)
   (fun r s' => match r with | .ok (.ret v) => PostE T [] Q ι s.heap v s' | .ok _ => False | .error e => PostX T [] X ι s.heap e s') s
theorem CodeOk.call {f:V} {args:List V} {Q:QE} {X:QX} (h:CodeOk T d X f args Q σ):CallOk T d X f args Q σ:=fun A fs ι s fv xs S rf rxs => wpAny_call (h A fs ι s fv xs S rf rxs)
set_option tactic.hygienic true in
theorem CodeOk.fn {f:V} {ps:List Str} {body:List Stmt} {args:List V} {Q:QE} {X:QX} (TO:TopOk T) (hf:FnV T f ps body sc) (hl:args.length = ps.length)
   (hb:ExOk T d sc (bindLoc (fun _ => none) ps args) X body (retQ Q) σ):CodeOk T (d + 1) X f args Q σ:=by
 intro A fs ι s fv xs S rf rxs
 obtain ⟨fa,o,fd,rfl,ho,hd,rfl,hbody,hclo,hg,hbu,hcd,hbind,co,gen,kind,par,free⟩:=hf ι s.heap fv rf
 have X₁:=TO.X0.keeps S.rep.base
 refine codeAny_call_function (by have:=S.aok.depth; (clear hbind hl S; lia)) (X₁ _ _ ho) hd co gen hbody (PySem.W.codeRec_of X₁ hcd) ?_
 have hlen:xs.length = ps.length:=rxs.length.trans hl
 rw [hbind xs hlen,hclo,hg,hbu]
 refine Zjb ?_
 simp only [newFunctionEnv,Option.isSome_none,Bool.false_eq_true,if_false]
 refine Zhb (wpAny_alloc ?_)
 refine Zhb (wpAny_layCells _ (fun name kind cells => by cases hkc:kind == NameKind.cell <;> simp [hkc]) _ _ _ _ ?_)
 rw [show ({ s with heap:=s.heap.push { cls:=.type "frame",data:=.dict #[] } }:Shared).heap.objs.size = s.heap.objs.size + 1 from Zqb ..]
 refine (frame_new (T:=T) (L:=s.heap.objs.size) (sc:=fd.scope) (qual:=fd.qualname ++ ".<locals>.") (func:=some fa) (code:=fd.code) S.rep rfl kind free _ rfl _ rfl).elim fun F h => and5 h fun hF R₁ H₁ e₁ h => h.elim fun oL h => and3 h fun hoL hcL hdL => ?_
 have d0:A.depth + 1 + d ≤ recursionLimit:=Za (Zr (Nat.succ_add_eq_add_succ A.depth d)) S.aok.depth
 have u0:A.units + 3 + 10 * d + 50 ≤ cLine:=by have:=S.aok.units; clear hbind hl hlen hF R₁ H₁ e₁ hoL hdL; lia
 unfold newEnv at H₁
 generalize hE:({ scope:=fd.scope,locals:=s.heap.objs.size,globals:=mainGlobals,cells:=cellsFrom (s.heap.objs.size + 1) fd.scope.names [],qual:=fd.qualname ++ ".<locals>.",func:=some fa,code:=fd.code,frame:=some s.heap.objs.size,builtins:=builtinsNs }:Env) = env at H₁ ⊢
 have fE:env.frame = some s.heap.objs.size:=hE ▸ rfl
 have sE:env.scope = fd.scope:=hE ▸ rfl
 refine Zhb (binds_ok (T:=T) (ι:=ι) (σ:=σ) (env:=env) (F:=F) _ (fun _ _ _ => rfl) ps args xs (fun _ => none) _ _ R₁ H₁ (rxs.mono e₁.mono) hlen (sE ▸ par) fun h₂ t R₂ H₂ e₂ ds => Zjb ⟨?_,codeAny_func ?_⟩)
 · exact TO.lim.keeps R₂.base
 have e₃:=e₁.trans e₂
 clear e₁ H₁ R₁
 refine ex3 (ds _ _ _ _ hoL hdL) fun oL₂ es ep hL2 => (e₂.cls _ _ hoL (by simp [loose,hcL])).elim fun oL' hL' => ?_
 have hcL₂:oL₂.cls = .type "frame":=(congrArg Obj.cls (sm_inj (hL2.1.symm.trans hL'.1))).trans (hL'.2.trans hcL)
 clear hL' ds e₂ hoL hdL
 have no:∀ a,s.heap.objs.size ≤ a → a ∉ own ι:=fun a ha q => absurd (S.rep.own_lt q) (Zo.mpr ha)
 have aok:AOk T (A.deeper env) (env :: fs) d ι h₂ :=
   ⟨Around.frames_deeper S.aok.frames,fun e he => (Zg.mp he).elim (fun q => q ▸ ⟨sE ▸ kind,s.heap.objs.size,oL₂,es,ep,fE,no _ (Zl _),S.rep.size,hL2.1,hcL₂,hL2.2⟩) fun he => (S.aok.funs e he).rec fun k1 L' o' es' ep' f1 n1 b1 g1 c1 d1 => (e₃.frm L' o' g1 n1 fun q => absurd (Zu g1) (Zo.mpr (hF L' q))).elim fun sl g2 => ⟨k1,L',_,es',ep',f1,n1,b1,g2,c1,d1⟩,
     d0,u0,S.aok.hd,S.aok.hx.keep fun a o C e1 e2 e3 => ⟨e₃.keep a o e1 e3 (fun q => absurd (Zu e1) (Zo.mpr (hF a q))) (by rw [e2]; simp),e3⟩⟩
 have I:Inv T (A.deeper env) (env :: fs) d _ F (bindLoc (fun _ => none) ps args) ι σ { s with heap:=h₂,toks:=t }:=⟨R₂,aok,H₂,⟨env,fs,s.heap.objs.size,rfl,fE,fE⟩,S.gens,S.os⟩
 have dn:∀ {ι':Inj} {h':Heap},Ext T F ι s.heap ι' h' → Ext T [] ι s.heap ι' h':=fun e => e.weaken fun a ha hlt => absurd hlt (Zo.mpr (hF a ha))
 refine Zib (hb _ _ _ F ι _ sE I) (fun fl s' p => ?_) fun e s' p => ?_
 · exact p.rec fun fl' ρ' σ' ι' q r i ex => by
     have ex':=dn (e₃.trans ex)
     induction r with
     | ret r => exact ⟨_,σ',ι',q,r,i.rep,ex',i.gens,i.os⟩
     | _ => exact ⟨.none,σ',ι',q,.none_mk,i.rep,ex',i.gens,i.os⟩
 · refine leaving_ok R₂.size p fun s'' p' => ?_
   obtain ⟨ea,c,ρ',σ',ι',rfl,b,f,n,i,ex⟩:=p'
   exact ⟨ea,c,σ',ι',rfl,b,f.lo e₃.size,n,i.rep,dn (e₃.trans ex),i.gens,i.os⟩
theorem CallOk.fn {f:V} {ps:List Str} {body:List Stmt} {args:List V} {Q:QE} {X:QX} (TO:TopOk T) (hf:FnV T f ps body sc) (hl:args.length = ps.length)
 (hb:ExOk T d sc (bindLoc (fun zz => none) ps args) X body (retQ Q) σ):CallOk T (d + 1) X f args Q σ:=(CodeOk.fn TO hf hl hb).call
end
end
section
structure Kept (P:Heap → Prop):Prop where
 upd:∀ h a f,(h.get? a).isSome = true → P h → P (h.update a f)
 new:∀ h o,P h → P (h.push o)
set_option tactic.hygienic true in
theorem runs_keep {P:Heap → Prop} (K:Kept P) {M:Model} {Γ:Ctx} {p:Pos} {t:Sem Fin} {fs:List Frame} {s s':Shared} {e:End} (h:Runs M Γ p t fs s e s'):P s.heap → P s'.heap:=by
 induction h with
 | done | raise | yield => exact id
 | update ho _ ih => exact fun x => ih (K.upd _ _ _ ho x)
 | alloc _ ih => exact fun x => ih (K.new _ _ x)
 | call _ _ i1 i2 => exact fun x => i2 (i1 x)
 | resumeFresh _ _ _ _ i1 i2 => exact fun x => i2 (i1 x)
 | resumeSuspended _ _ _ _ i1 i2 => exact fun x => i2 (i1 x)
 | segRet _ _ i1 i2 => exact fun x => i2 (i1 x)
 | segGen _ _ i1 i2 => exact fun x => i2 (i1 x)
 | segSuspGen _ _ _ _ i1 i2 => exact fun x => i2 (i1 x)
 | _ => assumption
set_option tactic.hygienic true in
theorem wp_keep {P:Heap → Prop} (K:Kept P) {α:Type} {M:Model} {Γ:Ctx}:∀ (m:Sem α) (Q:α → Pos → Shared → Prop) (E:Value → Pos → Shared → Prop) (p:Pos) (s:Shared),P s.heap → Sem.wp M Γ m Q E p s →
   Sem.wp M Γ m (fun a p' s' => Q a p' s' ∧ P s'.heap) (fun a p' s' => E a p' s' ∧ P s'.heap) p s:=by
 intro m
 induction m with
 | pure a => intro Q E p s hn h; exact ⟨h,hn⟩
 | raise e => intro Q E p s hn h; exact ⟨h,hn⟩
 | unsupported => intro Q E p s hn h; exact h
 | finish => intro Q E p s hn h; exact h
 | update a part f k ih => intro Q E p s hn h; exact ⟨h.1,ih () Q E p _ (K.upd _ _ _ h.1 hn) h.2⟩
 | alloc o k ih => intro Q E p s hn h; exact ih _ Q E p _ (K.new _ _ hn) h
 | load a part k ih => intro Q E p s hn h; obtain ⟨o,ho,h⟩:=h; exact ⟨o,ho,ih o Q E p s hn h⟩
 | call c hh g l k ih => intro Q E p s hn h; obtain ⟨r,s',hr,h⟩:=h; exact ⟨r,s',hr,ih r Q E p s' (runs_keep K hr hn) h⟩
 | choose src m k ih => intro Q E p s hn h; exact ⟨h.1,ih _ Q E p _ hn h.2⟩
 | genState g k ih => intro Q E p s hn h; obtain ⟨st,hs,h⟩:=h; exact ⟨st,hs,ih _ Q E p s hn h⟩
 | resume g r l k ih =>
   intro Q E p s hn h
   obtain ⟨res,s',hw,h⟩:=h
   refine ⟨res,s',hw,ih _ Q E p s' ?_ h⟩
   unfold Wakes at hw
   split at hw
   · exact hw.elim
   · split at hw
     · obtain ⟨e₁,s₁,hr,_,_,rfl⟩:=hw; exact (runs_keep K hr hn :)
     · rw [hw.2]; exact hn
     · rw [hw.2]; exact hn
   · obtain ⟨e₁,s₁,hr,_,_,rfl⟩:=hw; exact (runs_keep K hr hn :)
   · rw [hw.2]; exact hn
   · rw [hw.2]; exact hn
 | await => intro Q E p s hn h; exact h.elim
 | register => intro Q E p s hn h; exact h
 | yield => intro Q E p s hn h; exact h
 | fork => intro Q E p s hn h; exact h
 | _ => rename_i ih; intro Q E p s hn h; exact ih _ Q E _ _ hn h
theorem wpAny_keep {P:Heap → Prop} (K:Kept P) {α:Type} {M:Model} {A:Around} {m:Sem α} {Q:α → Shared → Prop} {E:Value → Shared → Prop} {s:Shared} (hn:P s.heap) (h:wpAny M A m Q E s) :
 wpAny M A m (fun a s' => Q a s' ∧ P s'.heap) (fun a s' => E a s' ∧ P s'.heap) s:=fun Γ p hΓ => wp_keep K m _ _ p s hn (h Γ p hΓ)
theorem wpAny_size {α:Type} {M:Model} {A:Around} {m:Sem α} {Q:α → Shared → Prop} {E:Value → Shared → Prop} {s:Shared} (h:wpAny M A m Q E s) :
   wpAny M A m (fun a s' => Q a s' ∧ s.heap.objs.size ≤ s'.heap.objs.size) (fun a s' => E a s' ∧ s.heap.objs.size ≤ s'.heap.objs.size) s :=
 wpAny_keep (P:=fun h => s.heap.objs.size ≤ h.objs.size) ⟨fun zz zz zz zz x => by rw [Heap.size_after_update]; exact x,fun zz zz x => by rw [Zqb]; exact Zeb x⟩ (Zl _) h
end
section
noncomputable def iterV (σ:Hp) (vv:V):Option (List V):=vv.casesOn (none) (fun _ => none) (fun _ => none) (fun x => some (x.cps.toList.map fun c => .str ⟨#[c]⟩)) (fun vs => some vs) (fun l => atL some σ[l]?) (fun _ => none) (fun _ _ => none) (fun _ => none) (fun _ => none) (fun n => if -(2 ^ 62) ≤ n ∧ n < 2 ^ 62 then some ((List.range n.toNat).map fun (k:Nat) => .int k) else none) (fun _ => none) (fun _ => none) (fun l n => atL (fun vs => if vs.length = n then some vs.reverse else none) σ[l]?)
inductive ItI (T:Tp) (ι:Inj) (h:Heap) (I:Addr) (i:Nat):V → Prop where
 | asc (x:Str) (t:Tok) (it:h.IsStrIter I "str_ascii_iterator" x t i):ItI T ι h I i (.str x)
 | wide (x:Str) (t:Tok) (it:h.IsStrIter I "str_iterator" x t i):ItI T ι h I i (.str x)
 | tup (vs:List V) (a:Addr) (items:Array Value) (n:Nat) (ht:IsT h a items n) (hv:VRels T ι h vs items.toList) (it:h.IsTupleIter I a i):ItI T ι h I i (.tup vs)
 | lst (l:Nat) (a d:Addr) (e:ι[l]? = some (a,d)) (it:h.IsListIter I a i):ItI T ι h I i (.ref l)
 | rng (n:Int) (it:IsRangeIter h I i ((n.toNat:Int) - i) 1):ItI T ι h I i (.rng n)
 | rev (l n:Nat) (a d:Addr) (hi:i ≤ n) (e:ι[l]? = some (a,d)) (it:h.IsRevIter I a ((n:Int) - 1 - i)):ItI T ι h I i (.rev l n)
noncomputable abbrev ItAt (T:Tp) (ι:Inj) (h:Heap) (v:V) (I:Addr) (i:Nat):Prop:=ItI T ι h I i v
section
variable {T:Tp} {A:Around} {fs:List Env} {d:Nat} {env:Env} {F:List Addr} {ι ι':Inj} {h h':Heap} {s:Shared} {ρ:Loc} {σ:Hp} {sc:Scope} {v:V} {I:Addr} {i:Nat}
inductive ItO (h:Heap) (I:Addr):Prop where
 | mk (o:Obj) (n:String) (vs:Array Value) (ho:h.get? I = some o) (hc:o.cls = .type n) (hn:n ∈ itTypes) (hd:o.data = .fields vs):ItO h I
theorem ItO.of {n:String} {P:Obj → Prop} (hn:n ∈ itTypes) (x:∃ o,h.get? I = some o ∧ o.cls = .type n ∧ P o) (k:∀ o,P o → ∃ vs,o.data = .fields vs):ItO h I :=
 Zh x fun o x => Zh (k o x.2.2) fun vs hd => ⟨o,n,vs,x.1,x.2.1,hn,hd⟩
theorem ItI.obj (x:ItAt T ι h v I i):ItO h I:=by
 induction x with
 | asc x t it => exact .of (by decide) it fun zz hd => ⟨_,hd⟩
 | wide x t it => exact .of (by decide) it fun zz hd => ⟨_,hd⟩
 | tup vs a items n ht hv it => exact .of (by decide) it fun zz hd => ⟨_,hd⟩
 | lst l a d e it => exact .of (by decide) it fun zz hd => ⟨_,hd⟩
 | rng n it => exact ⟨_,_,_,it,rfl,by decide,rfl⟩
 | rev l n a d hi e it => exact .of (by decide) it fun zz hd => ⟨_,hd⟩
theorem ItI.iterish (x:ItAt T ι h v I i):∃ o,h.get? I = some o ∧ iterish o = true:=x.obj.rec fun o n zz ho hc hn zz => ⟨o,ho,iterish_of hc hn⟩
theorem keep_it {P:Obj → Prop} (k:∀ o,h.get? I = some o → h'.get? I = some o) (x:∃ o,h.get? I = some o ∧ P o):∃ o,h'.get? I = some o ∧ P o:=Zh x fun o x => ⟨o,k o x.1,x.2⟩
theorem ItI.keep (x:ItAt T ι h v I i) (m:Mono ι h ι' h') (k:∀ o,h.get? I = some o → h'.get? I = some o):ItAt T ι' h' v I i:=by
 induction x with
 | asc x t it => exact .asc x t (keep_it k it)
 | wide x t it => exact .wide x t (keep_it k it)
 | tup vs a items n ht hv it => exact .tup vs a items n (m.frz a _ ht (by simp [frozen])) (hv.mono m) (keep_it k it)
 | lst l a d e it => exact .lst l a d (m.get e) (keep_it k it)
 | rng n it => exact .rng n (k _ it)
 | rev l n a d hi e it => exact .rev l n a d hi (m.get e) (keep_it k it)
theorem Mono.but (hs:∀ b o,b ≠ I → h.get? b = some o → h'.get? b = some o) (ho:∃ o,h.get? I = some o ∧ loose o = true ∧ frozen o = false) (ι:Inj):Mono ι h ι h' where
 pre:=⟨[],by simp⟩
 cls:=fun b o e i => ⟨o,hs b o (fun q => by obtain ⟨o',g,gi,zz⟩:=ho; subst q; rw [e] at g; cases g; rw [i] at gi; cases gi) e,rfl⟩
 frz:=fun b o e f => hs b o (fun q => by
   obtain ⟨o',g,zz,gi⟩:=ho; subst q; rw [e] at g; cases g
   rw [f] at gi; cases gi) e
theorem iterish_frozen {o:Obj} (h:iterish o = true):frozen o = false:=by
 cases f:frozen o with
 | false => rfl
 | true =>
   simp only [frozen,Bool.or_eq_true,beq_iff_eq] at f
   rcases f with f | f <;> rw [iterish_no f (by decide)] at h <;> cases h
theorem Mono.free (hs:∀ b o,b ≠ I → h.get? b = some o → h'.get? b = some o) (ho:∃ o,h.get? I = some o ∧ iterish o = true) (ι:Inj):Mono ι h ι h' :=
 .but hs ((by obtain ⟨o,a,b⟩:=ho; exact ⟨o,a,iterish_loose b,iterish_frozen b⟩)) ι
theorem Inv.free {t:Nat} (I0:Inv T A fs d env F ρ ι σ s) (hs:∀ b o,b ≠ I → s.heap.get? b = some o → h'.get? b = some o) (hz:s.heap.objs.size ≤ h'.objs.size) (ho:∃ o,s.heap.get? I = some o ∧ iterish o = true) (hn:I ∉ own ι) (hb:T.b0.objs.size ≤ I) :
   Inv T A fs d env F ρ ι σ { s with heap:=h',toks:=t }:=by
 have m:Mono ι s.heap ι h':=.free hs ho ι
 have ne:∀ b o,s.heap.get? b = some o → iterish o = false → b ≠ I:=fun b o e i q => Zh ho fun o' g => Zv (i.symm.trans (sm_inj (g.1.symm.trans (q ▸ e)) ▸ g.2))
 exact ⟨I0.rep.keeps m hz (fun a o e => hs a o (fun q => absurd (Zu e) (Zo.mpr (q ▸ hb))) (I0.rep.base a o e)) fun a ha o e => hs a o (fun q => hn (q ▸ ha)) e,
   I0.aok.keeps (fun zz n zz => n) (fun a o g zz c => ⟨o.slots,hs a o (ne a o g (itr_iterish (nsO.itr ⟨_,c,.inl rfl⟩))) g⟩) (I0.aok.hx.keep fun a o C e1 e2 e3 => ⟨hs a o (ne a o e1 (iterish_ref e2)) e1,e3⟩),
   I0.frm.keeps m (fun zz n zz => n) (fun a o g zz i => ⟨o,hs a o (ne a o g (itr_iterish i)) g,rfl⟩) fun a o g zz c zz => ⟨o.slots,hs a o (ne a o g (itr_iterish c.itr)) g⟩,I0.top,I0.gens,I0.os⟩
theorem Ext.free {h₀:Heap} (x:Ext T F ι h₀ ι' h) (hs:∀ b o,b ≠ I → h.get? b = some o → h'.get? b = some o) (hz:h.objs.size ≤ h'.objs.size) (hI:h₀.objs.size ≤ I):Ext T F ι h₀ ι' h':=by
 have ne:∀ b o,h₀.get? b = some o → b ≠ I:=fun b o e q => absurd (Zu e) (Zo.mpr (q ▸ hI))
 refine ⟨x.pre,Za x.size hz,fun a o e i => ?_,fun a o e f => hs a o (ne a o e) (x.frz a o e f),fun a o e n f c => hs a o (ne a o e) (x.keep a o e n f c),fun a o e n f => ?_⟩
 · obtain ⟨o',g,gc⟩:=x.cls a o e i
   exact ⟨o',hs a o' (ne a o e) g,gc⟩
 · obtain ⟨sl,g⟩:=x.frm a o e n f
   exact ⟨sl,hs a _ (ne a o e) g⟩
set_option tactic.hygienic true in
theorem iter_ok {E:Value → Shared → Prop} {x:Value} {items:List V} {Q:Value → Shared → Prop} (R:Rep T ι σ s.heap) (r:VRel T ι s.heap v x) (hi:iterV σ v = some items)
   (k:∀ o,ItAt T ι (s.heap.push o) v s.heap.objs.size 0 → Q (.ref s.heap.objs.size) { s with heap:=s.heap.push o }):wpAny (model T.prog T.w) A (pyIter x) Q E s:=by
 cases v <;> first | exact (no_some hi).elim | skip
 · obtain ⟨t,rfl⟩:=r.str_inv
   rename_i x
   cases ha:x.cps.all (· < 128)
   · exact wpAny_pyIter_wide ha (k _ (.wide _ t ⟨_,Zsc _ rfl,rfl,rfl⟩))
   · exact wpAny_pyIter_ascii ha (k _ (.asc _ t ⟨_,Zsc _ rfl,rfl,rfl⟩))
 · obtain ⟨a,its,n,rfl,ht,hv⟩:=r.tup_inv
   exact wpAny_pyIter_tuple ⟨_,ht,rfl,n,rfl⟩ (k _ (.tup _ a its n (Zx _ ht) (hv.mono (Ext.push T [] ι s.heap _).mono) ⟨_,Zsc _ rfl,rfl,rfl⟩))
 · obtain ⟨a,dd,rfl,e⟩:=r.ref_inv
   obtain ⟨vs,hvs,hi⟩:=atL_out hi
   obtain ⟨its,n,hL,hv⟩:=R.list_at hvs e
   exact wpAny_pyIter_list hL.isList (k _ (.lst _ a dd e ⟨_,Zsc _ rfl,rfl,rfl⟩))
 · rename_i n
   obtain ⟨hn,hi⟩:=ite_some hi
   obtain ⟨a,t1,t2,t3,rfl,hr⟩:=r
   refine wpAny_pyIter_range hr (small_one (by decide) (by decide) hn.1 hn.2) (k _ (.rng n ?_))
   have:Builtin.Range.rangeSize 0 n 1 = (n.toNat:Int):=by unfold Builtin.Range.rangeSize; simp; split <;> (clear k hn hi hr; lia)
   rw [this]
   show _ = _
   rw [Zsc _ rfl]; simp [rawInt]
 · exact r.elim
theorem next_str {x:Str} {i:Nat} {y:V} (hy:(x.cps.toList.map fun c => V.str ⟨#[c]⟩)[i]? = some y):∃ c,x.cps[i]? = some c ∧ y = .str ⟨#[c]⟩:=by
 rw [Zdb] at hy
 obtain ⟨c,hc,e⟩:=Zpb.mp hy
 exact ⟨c,Array.getElem?_toList ▸ hc,e.symm⟩
theorem next_ok {E:Value → Shared → Prop} {items:List V} {y:V} {Q:Option Value → Shared → Prop} (R:Rep T ι σ s.heap) (it:ItAt T ι s.heap v I i) (hn:I ∉ own ι) (hi:iterV σ v = some items) (hy:items[i]? = some y)
   (k:∀ h' t x,Heap.SameBut I s.heap h' → VRel T ι h' y x → ItAt T ι h' v I (i + 1) → Q (some x) { s with heap:=h',toks:=t }):wpAny (model T.prog T.w) A (pyNext (.ref I)) Q E s:=by
 have hit:=it.iterish
 have mono:∀ {h'},Heap.SameBut I s.heap h' → Mono ι s.heap ι h':=fun hs => .free (fun b o hb e => (hs.2 b hb).trans e) hit ι
 induction it with
 | asc x t it =>
   obtain ⟨c,hc,rfl⟩:=next_str (sm_inj hi ▸ hy)
   exact wpAny_pyNext_ascii_item it hc fun h' it' hs => k h' _ _ hs .str_mk (.asc x t it')
 | wide x t it =>
   obtain ⟨c,hc,rfl⟩:=next_str (sm_inj hi ▸ hy)
   exact wpAny_pyNext_wide_item it hc fun h' it' hs => k h' _ _ hs .str_mk (.wide x t it')
 | tup vs a its n ht hv it =>
   obtain ⟨x,hx,rx⟩:=hv.get (sm_inj hi ▸ hy)
   exact wpAny_pyNext_tuple_item it ⟨_,ht,rfl,n,rfl⟩ (Array.getElem?_toList ▸ hx) fun h' it' hs => k h' s.toks x hs (rx.mono (mono hs)) (.tup vs a its n ((mono hs).frz a _ ht (by simp [frozen])) (hv.mono (mono hs)) it')
 | lst l a dd e it =>
   obtain ⟨vs,hvs,hi⟩:=atL_out hi
   obtain ⟨its,n,hL,hv⟩:=R.list_at hvs e
   obtain ⟨x,hx,rx⟩:=hv.get (sm_inj hi ▸ hy)
   exact wpAny_pyNext_list_item it hL.isList (Array.getElem?_toList ▸ hx) fun h' it' hs => k h' s.toks x hs (rx.mono (mono hs)) (.lst l a dd e it')
 | rng n it =>
   obtain ⟨zz,rfl⟩:=ite_some hi
   rw [Zdb] at hy
   obtain ⟨j,hj,rfl⟩:=Zpb.mp hy
   obtain ⟨hlt,hj⟩:=Zb.mp hj
   rw [List.getElem_range] at hj
   rw [List.length_range] at hlt
   subst hj
   refine wpAny_pyNext_range_item it (by (clear k it; lia)) fun h' it' hs => k h' _ _ hs .int_mk (.rng n ?_)
   rw [show ((n.toNat:Int) - ((i + 1:Nat):Int)) = (n.toNat:Int) - i - 1 by (clear it hlt k it'; lia)]
   exact it'
 | rev l n a dd hin e it =>
   obtain ⟨vs,hvs,hi⟩:=atL_out hi
   obtain ⟨hl,rfl⟩:=ite_some hi
   subst hl
   obtain ⟨its,m,hL,hv⟩:=R.list_at hvs e
   have hlt:i < vs.length:=by have:=(Zb.mp hy).1; rwa [List.length_reverse] at this
   rw [List.getElem?_reverse hlt] at hy
   obtain ⟨x,hx,rx⟩:=hv.get hy
   have e1:(vs.length:Int) - 1 - i = ((vs.length - 1 - i:Nat):Int):=by clear k hv it rx; lia
   rw [e1] at it
   refine wpAny_pyNext_rev_item it hL.isList (Array.getElem?_toList ▸ hx) fun h' it' hs => k h' s.toks x hs (rx.mono (mono hs)) (.rev l _ a dd hlt e ?_)
   rw [show (vs.length:Int) - 1 - ((i + 1:Nat):Int) = ((vs.length - 1 - i:Nat):Int) - 1 by clear k hv it rx it'; lia]; exact it'
theorem entry_unchain:entryFor table "proto.unchain" = some Builtin.«proto.unchain»:=entryFor_of_fast (by kernel_rfl)
theorem raiseNew_h {α:Type} {E:Value → Shared → Prop} {e:Addr} {oe:Obj} {vs:Array Value} {Q:α → Shared → Prop} (hx:HandAt A ι s.heap) (he:s.heap.get? e = some oe) (hd:oe.data = .fields vs) (h2:2 < vs.size)
   (k:∀ h',Heap.SameBut e s.heap h' → (∃ oe',h'.get? e = some oe' ∧ oe'.cls = oe.cls) → E (.ref e) { s with heap:=h' }) :
   wpAny (model T.prog T.w) A (raiseNew (.ref e):Sem α) Q E s:=by
 unfold raiseNew
 refine Zhb (wpAny_handled ?_)
 cases hA:A.handled with
 | none => exact Zhb (Zjb (wpAny_throw (k _ (.refl ..) ⟨_,he,rfl⟩)))
 | some v =>
   obtain ⟨ea,o,C,ws,rfl,g1,g2,g3,g4,g5⟩:=hx v hA
   dsimp only
   by_cases q:(Value.ref ea != Value.ref e) = true
   · rw [if_pos q]
     refine Zhb (wpAny_holding (runValue_entry entry_unchain ?_))
     unfold Builtin.«proto.unchain»
     dsimp only
     refine Zhb (wpAny_field g1 g3 g4 ?_)
     rw [if_pos (by decide)]
     refine Zhb (Zjb (Zjb ⟨_,rfl,?_⟩))
     refine Zhb (show wpAny _ _ (setField (.ref e) 2 (.ref ea)) _ _ _ from wpAny_setField he hd h2 (wpAny_throw (k _ (Heap.SameBut.update ..) ⟨_,Heap.get?_update_self _ he (Obj.isFreed_of_fields (Obj.data_mapFields hd _)),Obj.cls_mapFields _ _⟩)))
   · rw [if_neg q]
     exact Zhb (Zjb (wpAny_throw (k _ (.refl ..) ⟨_,he,rfl⟩)))
theorem range_end_h {E:Value → Shared → Prop} {it:Addr} {x left step:Int} {Q:Option Value → Shared → Prop} (hx:HandAt A ι s.heap) (hit:IsRangeIter s.heap it x left step) (hleft:left ≤ 0)
   (hQ:∀ h',Heap.ExtBut it s.heap h' → Q none { s with heap:=h' }):wpAny (model T.prog T.w) A (pyNext (.ref it)) Q E s:=by
 have hT:s.TypeIs (.ref it) "range_iterator":=⟨_,hit,rfl⟩
 unfold pyNext
 refine Zhb (wpAny_attempt (wpAny_callSpecial?_slot (name:=Str.ofString "__next__") hT F.slot_range_iterator_next
   (wpAny_call_entry F.slot_range_iterator_next hT F.entry_range_iterator_next ?_ (F.args_range_iterator_next_1 _))))
 show wpAny _ _ (field (.ref it) 0 >>= _) _ _ s
 refine Zhb (wpAny_field hit rfl (x:=rawInt x) rfl ?_)
 show wpAny _ _ (field (.ref it) 1 >>= _) _ _ s
 refine Zhb (wpAny_field hit rfl (x:=rawInt left) rfl ?_)
 show wpAny _ _ (field (.ref it) 2 >>= _) _ _ s
 refine Zhb (wpAny_field hit rfl (x:=rawInt step) rfl ?_)
 show wpAny _ _ (if left ≤ 0 then _ else _) _ _ s
 rw [if_pos hleft]
 refine Zhb (wpAny_rule ?_)
 refine Zhb ?_
 show wpAny _ _ (newExc (.type "StopIteration") [] >>= _) _ _ _
 refine Zhb ?_
 simp only [newExc,newTuple]
 refine Zhb (wpAny_newObj_type ?_ (by size_fits))
 refine Zhb (m:=firstArgMember _ _) (wpAny_of_eq (a:=Value.none) (by first | rfl | (simp only [firstArgMember]; rfl)) ?_)
 refine wpAny_newObj_type ?_ (by size_fits)
 have kp:∀ (o₁ o₂:Obj) b o,s.heap.get? b = some o → ((s.heap.push o₁).push o₂).get? b = some o:=fun zz zz b o e => Zx _ (Zx _ e)
 have hx1:HandAt A.in1 ι s.heap:=hx
 refine raiseNew_h (ι:=ι) (hx1.keep fun a o C e1 e2 e3 => ⟨kp _ _ _ _ e1,e3⟩) (Zsc _ rfl) rfl (by simp; (clear hleft; exact Zq (Nat.le_add_left (Nat.succ 2).succ 2))) fun h' hs ho => ?_
 obtain ⟨oe',ho1,ho2⟩:=ho
 refine Zhb (wpAny_isInstance (T:="StopIteration") (b:=true) ⟨_,ho1,ho2⟩ isSubtype_stop ?_)
 refine Zjb (hQ _ fun b o hb e => (hs.2 b (fun q => ?_)).trans (kp _ _ _ _ e))
 have:=Zu e
 rw [q,Zqb] at this
 exact absurd this (Zo.mpr (Nat.le_succ _))
theorem end_ok {E:Value → Shared → Prop} {items:List V} {Q:Option Value → Shared → Prop} (hh:A.handled = none ∨ (HandAt A ι s.heap ∧ ∃ n,v = .rng n)) (R:Rep T ι σ s.heap) (it:ItAt T ι s.heap v I i) (hi:iterV σ v = some items) (hy:items.length ≤ i)
   (k:∀ h',Heap.ExtBut I s.heap h' → s.heap.objs.size ≤ h'.objs.size → Q none { s with heap:=h' }):wpAny (model T.prog T.w) A (pyNext (.ref I)) Q E s:=by
 have hN:(∀ n,v ≠ .rng n) → A.handled = none:=fun q => hh.elim id fun p => p.2.elim fun n e => absurd e (q n)
 have fin:wpAny (model T.prog T.w) A (pyNext (.ref I)) (fun r s' => r = none ∧ ∃ h',s' = { s with heap:=h' } ∧ Heap.ExtBut I s.heap h') E s:=by
   clear k
   induction it with
   | asc x t it => exact wpAny_pyNext_ascii_end (hN nofun) it (by cases sm_inj hi; simpa using hy) fun h' e => ⟨rfl,h',rfl,e⟩
   | wide x t it => exact wpAny_pyNext_wide_end (hN nofun) it (by cases sm_inj hi; simpa using hy) fun h' e => ⟨rfl,h',rfl,e⟩
   | tup vs a its n ht hv it => exact wpAny_pyNext_tuple_end (hN nofun) it ⟨_,ht,rfl,n,rfl⟩ (Array.getElem?_eq_none (by rw [size_eq hv,sm_inj hi]; exact hy)) fun h' e => ⟨rfl,h',rfl,e⟩
   | lst l a dd e it =>
     obtain ⟨vs,hvs,hi⟩:=atL_out hi
     obtain ⟨its,n,hL,hv⟩:=R.list_at hvs e
     exact wpAny_pyNext_list_end (hN nofun) it hL.isList (Array.getElem?_eq_none (by rw [size_eq hv,sm_inj hi]; exact hy)) fun h' e => ⟨rfl,h',rfl,e⟩
   | rng n it =>
     obtain ⟨zz,rfl⟩:=ite_some hi
     simp only [Zc,List.length_range] at hy
     exact hh.elim (fun hh => wpAny_pyNext_range_end hh it (by (clear hN it; lia)) fun h' e => ⟨rfl,h',rfl,e⟩) fun hh => range_end_h hh.1 it (by (clear hh hN it; lia)) fun h' e => ⟨rfl,h',rfl,e⟩
   | rev l n a dd hin e it =>
     obtain ⟨vs,hvs,hi⟩:=atL_out hi
     obtain ⟨hl,rfl⟩:=ite_some hi
     rw [List.length_reverse,hl] at hy
     rw [show (n:Int) - 1 - (i:Int) = -1 from by rw [Nat.le_antisymm hin hy]; clear hN it; lia] at it
     exact wpAny_pyNext_rev_end (hN nofun) it fun h' e => ⟨rfl,h',rfl,e⟩
 refine Zib (wpAny_size fin) (fun r s' p => ?_) fun zz zz p => p.1
 obtain ⟨⟨rfl,h',rfl,e⟩,hz⟩:=p
 exact k h' e hz
theorem letOwned_ok {E:Value → Shared → Prop} {target:Expr} {x:Value} {Q:Unit → Shared → Prop} (it:ItAt T ι s.heap v I i) (k:Q () s):wpAny (model T.prog T.w) A (letOwnedTupleGo target (.ref I) x) Q E s:=by
 obtain ⟨o,n,vs,ho,hc,hn,hd⟩:=it.obj
 have no:["enumerate", "zip", "dict_itemiterator", "dict_reverseitemiterator", "odict_iterator", "itertools.zip_longest", "itertools.pairwise"].contains n = false:=(by decide:∀ n ∈ itTypes,["enumerate", "zip", "dict_itemiterator", "dict_reverseitemiterator", "odict_iterator", "itertools.zip_longest", "itertools.pairwise"].contains n = false) n hn
 have main:∀ a,wpAny (model T.prog T.w) A (do
     let o ← load I
     match o.cls,o.data with
     | .type n,.fields vs =>
       if ["enumerate", "zip", "dict_itemiterator", "dict_reverseitemiterator", "odict_iterator", "itertools.zip_longest", "itertools.pairwise"].contains n && vs[0]? == some (rawInt a) then
         rule "for.unpacks-the-owned-tuple"
         updateField I 0 .none
     | z1,z2 => pure ()) Q E s:=fun a => by
   refine Zhb (wpAny_load ho ?_)
   rw [hc,hd]
   simp only [no,Bool.false_and,Bool.false_eq_true,if_false]
   exact Zjb k
 cases target <;> first | exact Zjb k | (cases x <;> first | exact main _ | exact Zjb k)
end
end
section
noncomputable def nx1 (x:Str) (v:V) (ρ:Loc):Option Loc:=some (upd ρ x (some v))
noncomputable def nx2 (a b:Str) (v:V) (ρ:Loc):Option Loc:=match v with
 | .tup [p,q] => some (upd (upd ρ a (some p)) b (some q))
 | z1 => none
set_option tactic.hygienic true in
theorem nx2_out {a b:Str} {v:V} {ρ ρ':Loc} (h:nx2 a b v ρ = some ρ'):∃ p q,v = .tup [p,q] ∧ upd (upd ρ a (some p)) b (some q) = ρ':=by
 cases v <;> first | exact (no_some h).elim | skip
 rename_i vs
 rcases vs with zz | ⟨p,zz | ⟨q,zz | zz⟩⟩ <;> first | exact (no_some h).elim | exact ⟨p,q,rfl,sm_inj h⟩
noncomputable def loopQ (Q:QS) (N:Loc → Hp → Prop):QS:=fun fl ρ σ => match fl with
 | .next | .cont => N ρ σ
 | .brk => Q .next ρ σ
 | .ret v => Q (.ret v) ρ σ
section
variable {T:Tp} {A:Around} {fs:List Env} {d:Nat} {env:Env} {F:List Addr} {ι ι':Inj} {h h':Heap} {s:Shared} {ρ:Loc} {σ:Hp} {sc:Scope} {v:V} {I:Addr} {i:Nat}
theorem storeI {M:Model} {A':Around} {E:Value → Shared → Prop} {x:Str} {v:V} {y:Value} {Q:Unit → Shared → Prop} (I:Inv T A fs d env F ρ ι σ s) (hk:isStore env.scope x = true) (r:VRel T ι s.heap v y)
   (k:∀ h' t,Inv T A fs d env F (upd ρ x (some v)) ι σ { s with heap:=h',toks:=t } → Ext T F ι s.heap ι h' → Q () { s with heap:=h',toks:=t }):wpAny M A' (storeName env x y) Q E s :=
 store_ok I.rep I.frm hk r fun h' t R' H' e' ds => k h' t (I.stored R' H' e' ds) e'
theorem Inv.grown {h':Heap} (I0:Inv T A fs d env F ρ ι σ s) (hz:s.heap.objs.size ≤ h'.objs.size) (k:∀ b o,s.heap.get? b = some o → h'.get? b = some o):Inv T A fs d env F ρ ι σ { s with heap:=h' } :=
 I0.ext (.of_keeps hz k) (I0.rep.grow hz k) I0.gens I0.os
theorem tupItems {E:Value → Shared → Prop} {a:Addr} {items:Array Value} {n:Nat} {Q:List Value → Shared → Prop} (hh:A.handled = none) (ht:IsT s.heap a items n)
   (k:∀ h',s.heap.objs.size ≤ h'.objs.size → (∀ b o,s.heap.get? b = some o → h'.get? b = some o) → Q items.toList { s with heap:=h' }):wpAny (model T.prog T.w) A (unpackItems (.ref a) items.size none) Q E s:=by
 have fin:wpAny (model T.prog T.w) A (unpackItems (.ref a) items.size none) (fun r s' => r = items.toList ∧ ∃ h',s' = { s with heap:=h' } ∧ Heap.ExtBut s.heap.objs.size s.heap h') E s :=
   unpackItems_tuple hh ⟨_,ht,rfl,n,rfl⟩ fun h' e => ⟨rfl,h',rfl,e⟩
 refine Zib (wpAny_size fin) (fun r s' p => ?_) fun zz zz p => p.1
 obtain ⟨⟨rfl,h',rfl,e⟩,hz⟩:=p
 exact k h' hz fun b o hb => e b o (Znc (Zu hb)) hb
noncomputable def AsgOk (T:Tp) (d:Nat) (sc:Scope) (t:Expr) (nx:V → Loc → Option Loc):Prop :=
 ∀ {E:Value → Shared → Prop} {Q:Unit → Shared → Prop} {env:Env} {A:Around} {fs:List Env} {F:List Addr} {ρ ρ':Loc} {ι:Inj} {σ:Hp} {s:Shared} {v:V} {x:Value},env.scope = sc → Inv T A fs d env F ρ ι σ s → VRel T ι s.heap v x → nx v ρ = some ρ' →
   (∀ h' tk,Inv T A fs d env F ρ' ι σ { s with heap:=h',toks:=tk } → Ext T F ι s.heap ι h' → Q () { s with heap:=h',toks:=tk }) → wpAny (model T.prog T.w) A (assign t env x) Q E s
theorem asg_nm {x:Str} {p:Pos} (ht:isStore sc x = true):AsgOk T d sc (.Name x p) (nx1 x):=fun hsc I r hl k => by
 cases hl; exact wpAny_assign_Name (storeI I (hsc ▸ ht) r k)
theorem asg_two {na nb:Str} {pa pb pp:Pos} {kk:Nat} (hd:T.hd = false) (ha:isStore sc na = true) (hb:isStore sc nb = true):AsgOk T d sc (.Tuple [.Name na pa,.Name nb pb] kk pp) (nx2 na nb):=by
 intro E Q env A fs F ρ ρ' ι σ s v x hsc I r hl k
 subst hsc
 obtain ⟨p,q,rfl,rfl⟩:=nx2_out hl
 · obtain ⟨a,items,n,rfl,hT,hv⟩:=r.tup_inv
   refine ex2 (VRels.cons_iff.mp hv) fun y₁ r₁ h9 => and3 h9 fun e₁ v₁ hv => ?_
   obtain ⟨y₂,r₂,rfl,v₂,hv⟩:=VRels.cons_iff.mp hv
   cases VRels.nil_iff.mp hv
   have hsz:items.size = 2:=by rw [← Array.length_toList,e₁]; rfl
   rw [arm_assign_Tuple]
   refine Zhb (wpAny_standAt ?_)
   unfold unpack
   show wpAny _ _ (do assignInOrder [assign (.Name na _) env,assign (.Name nb _) env] (← holding [.ref a] (unpackItems (.ref a) 2 none))) _ _ _
   refine Zhb (wpAny_holding (hsz ▸ tupItems (I.aok.hd hd) hT fun h' hz hk => ?_))
   have e0:Ext T F ι s.heap ι h':=.of_keeps hz hk
   rw [e₁]
   refine assignInOrder_cons (wpAny_assign_Name (storeI (I.grown hz hk) ha (v₁.mono e0.mono) fun h₂ t₂ I₂ e₂ => ?_))
   refine assignInOrder_cons (wpAny_assign_Name (storeI I₂ hb (v₂.mono (e0.trans e₂).mono) fun h₃ t₃ I₃ e₃ => ?_))
   exact assignInOrder_nil (k h₃ t₃ I₃ (e0.trans (e₂.trans e₃)))
theorem StOk.while {X:XS} {Q:QS} {test:Expr} {body:List Stmt} {pos:Pos} (J:Nat → Loc → Hp → Prop) (n:Nat) (h0:J n ρ σ)
   (turn:∀ n ρ σ,J n ρ σ → TsOk T d sc ρ X test (fun b σ₁ => if b then ExOk T d sc ρ X body (loopQ Q fun ρ₂ σ₂ => ∃ m,m < n ∧ J m ρ₂ σ₂) σ₁ else Q .next ρ σ₁) σ):StOk T d sc ρ X (.While test body [] pos) Q σ:=by
 intro env A fs F ι s hsc I
 have hb:=I.rep.size
 refine wpAny_While (codeAny_whileLoop (fun n s' => ∃ ρ' σ' ι',J n ρ' σ' ∧ Inv T A fs d env F ρ' ι' σ' s' ∧ Ext T F ι s.heap ι' s'.heap) (fun n s' hJ => ?_) n ⟨ρ,σ,ι,h0,I,.refl ..⟩)
 refine ex3 hJ fun ρ' σ' ι' h => and3 h fun j I' e' => ?_
 refine Zib (turn n ρ' σ' j env A fs F ι' s' hsc I') (fun b s₁ p => ?_) fun x s₁ p => loop_ok hb ((p.sx I' fun zz zz k => k).trans e')
 obtain ⟨σ₁,ι₁,q,rp,ex,g,o⟩:=p
 have I₁:=I'.ext ex rp g o
 have e₁:=e'.trans ex.up
 cases b
 · exact wpAny_execs_nil ⟨.next,ρ',σ₁,ι₁,q,.next,I₁,e₁⟩
 · refine Zib (q env A fs F ι₁ s₁ hsc I₁) (fun f s₂ p => ?_) fun x s₂ p => loop_ok hb (p.trans e₁)
   obtain ⟨fl,ρ₂,σ₂,ι₂,q₂,r₂,I₂,e₂⟩:=p
   induction r₂ with
   | next => obtain ⟨m,hm,jm⟩:=q₂; exact ⟨m,hm,ρ₂,σ₂,ι₂,jm,I₂,e₁.trans e₂⟩
   | brk => exact ⟨.next,ρ₂,σ₂,ι₂,q₂,.next,I₂,e₁.trans e₂⟩
   | cont => obtain ⟨m,hm,jm⟩:=q₂; exact ⟨m,hm,ρ₂,σ₂,ι₂,jm,I₂,e₁.trans e₂⟩
   | ret r₂ => exact ⟨.ret _,ρ₂,σ₂,ι₂,q₂,.ret r₂,I₂,e₁.trans e₂⟩
theorem forLoop_any {prog:Program} {w:World} {R:Result → Shared → Prop} {target:Expr} {it:Value} {body orelse:List Stmt} (J:Nat → Shared → Prop)
   (turn:∀ n s,J n s → wpAny (model prog w) A (pyNext it) (fun r s₁ => match r with
     | none => wpAny (model prog w) A (execs orelse env) (fun f s₃ => R (.ok f) s₃) (notedBy (model prog w) A env fun e s' => R (.error e) s') s₁
     | some v => wpAny (model prog w) A (letOwnedTupleGo target it v) (fun zz s₁ => wpAny (model prog w) A (assign target env v) (fun zz s₂ => wpAny (model prog w) A (execs body env) (fun f s₃ => match f with
         | .next | .cont => ∃ m,m < n ∧ J m s₃
         | .brk => R (.ok .next) s₃
         | .ret v => R (.ok (.ret v)) s₃) (notedBy (model prog w) A env fun e s' => R (.error e) s') s₂) (notedBy (model prog w) A env fun e s' => R (.error e) s') s₁) (notedBy (model prog w) A env fun e s' => R (.error e) s') s₁)
     (notedBy (model prog w) A env fun e s' => R (.error e) s') s)
   (n:Nat) (h:J n s):codeAny (model prog w) A (.forLoop target it body orelse env) R s:=by
 refine codeAny_loop' rfl J (fun n s hJ => ?_) n h
 show wpAny _ _ ((forTurn target it body orelse env).onRaise (fun x => do noteFrame x env; theTreesLotGoes x)) _ _ s
 refine wpAny_noted ?_
 simp only [forTurn]
 refine Zhb (wpAny_standAt (Zhb (wpAny_onRaise (Zib (turn n s hJ) (fun r s₁ h₁ => ?_) fun zz zz h' => wpAny_standAt h'))))
 cases r with
 | none => exact Zjb (.inr ⟨rfl,codeAny_block h₁⟩)
 | some v =>
   refine Zhb (Zib h₁ (fun zz s₁ h₁ => ?_) fun zz zz h' => h')
   refine Zhb (Zib h₁ (fun zz s₂ h₂ => Zhb (Zib h₂ (fun f s₃ h₃ => ?_) fun zz zz h' => h')) fun zz zz h' => h')
   cases f with
   | next => exact Zjb (.inl ⟨rfl,h₃⟩)
   | cont => exact Zjb (.inl ⟨rfl,h₃⟩)
   | brk => exact Zjb h₃
   | ret v => exact Zjb h₃
noncomputable def noSet (e:Expr):Bool:=!Nat.beq e.ctorIdx 7
theorem folded_no {e:Expr} {x:Value} (h:noSet e = true):foldedSetIterable e env x = pure x:=by cases e <;> first | rfl | exact (Zv h).elim
inductive ForOk (T:Tp) (d:Nat) (sc:Scope) (X:XS) (nx:V → Loc → Option Loc) (body:List Stmt) (Q:QS) (v:V) (ρ:Loc) (σ₁:Hp):Prop where
 | mk (items:List V) (J:Nat → Loc → Hp → Prop) (h0:J 0 ρ σ₁) (h1:∀ i ρ σ,J i ρ σ → iterV σ v = some items) (h2:∀ ρ σ,J items.length ρ σ → Q .next ρ σ)
     (h3:∀ i x ρ σ,J i ρ σ → items[i]? = some x → ∃ ρ',nx x ρ = some ρ' ∧ ExOk T d sc ρ' X body (loopQ Q (J (i + 1))) σ):ForOk T d sc X nx body Q v ρ σ₁
inductive ItR (T:Tp) (K:V → Hp → Prop) (ι:Inj) (h:Heap) (x:Value) (s':Shared):Prop where
 | of (v:V) (σ':Hp) (ι':Inj) (h0:K v σ') (h1:VRel T ι' s'.heap v x) (h2:Rep T ι' σ' s'.heap) (h3:Ext T [] ι h ι' s'.heap) (h4:s'.gens = #[]) (h5:s'.os = T.os):ItR T K ι h x s'
 | rev (l n:Nat) (I:Addr) (σ':Hp) (ι':Inj) (h0:K (.rev l n) σ') (h1:x = .ref I) (hI:ItAt T ι' s'.heap (.rev l n) I 0) (hn:h.objs.size ≤ I) (ho:I ∉ own ι') (h2:Rep T ι' σ' s'.heap) (h3:Ext T [] ι h ι' s'.heap) (h4:s'.gens = #[]) (h5:s'.os = T.os):ItR T K ι h x s'
noncomputable def ItOk (T:Tp) (d:Nat) (sc:Scope) (ρ:Loc) (X:QX) (e:Expr) (K:V → Hp → Prop) (σ:Hp):Prop :=
 ∀ env A fs F ι s,env.scope = sc → Inv T A fs d env F ρ ι σ s → wpAny (model T.prog T.w) A (eval e env) (ItR T K ι s.heap) (PostX T [] X ι s.heap) s
theorem EvOk.it {X:QX} {e:Expr} {K:V → Hp → Prop} (h:EvOk T d sc ρ X e K σ):ItOk T d sc ρ X e K σ:=fun env A fs F ι s hsc I =>
 Zib (h env A fs F ι s hsc I) (fun zz zz p => (by obtain ⟨v,σ',ι',a,b,c,e,f,g⟩:=p; exact .of v σ' ι' a b c e f g)) fun zz zz p => p
theorem ItOk.reversed {X:QX} {x:Str} {np pos:Pos} {e:Expr} {K:V → Hp → Prop} (TO:TopOk T) (hg:EvOk T d sc ρ X (.Name x np) (fun f σ₁ => f = .type "reversed" ∧ σ₁ = σ) σ) (ns:noStar [e] = true)
   (h:EvOk T d sc ρ X e (fun v σ₁ => ∃ l vs,v = .ref l ∧ σ₁[l]? = some (.list vs) ∧ K (.rev l vs.length) σ₁) σ):ItOk T d sc ρ X (.Call (.Name x np) [e] [] pos) K σ:=by
 have h':EvsOk T d sc ρ X [e] (fun us σ₁ => ∃ v,us = [v] ∧ ∃ l vs,v = .ref l ∧ σ₁[l]? = some (.list vs) ∧ K (.rev l vs.length) σ₁) σ:=EvsOk.cons (h.mono (fun v σ₁ q => EvsOk.nil ⟨v,rfl,q⟩) fun zz zz k => k)
 intro env A fs F ι s hsc I
 rw [arm_eval_Call_Name']
 refine Zhb (Zib (hg env A fs F ι s hsc I) (fun fv s₁ p => ?_) fun zz zz p => p)
 obtain ⟨f,σ₁,ι₁,⟨rfl,rfl⟩,rv,rp,ex,g,o⟩:=p
 subst rv
 have I₁:=I.ext ex rp g o
 rw [starEach_eq ns]
 refine PySem.W.callWith_of (P:=T.K.In) (by rw [show backToKw pos (keywordEach [] env) = [] from rfl]; simp) (keeps_any (f:=.type "reversed") (ι:=ι₁) (h:=s₁.heap) (.inl rfl) (rfl) (.inl rfl)) (evalArgs_list (Zib (h' env A fs F ι₁ s₁ hsc I₁) (fun xs s₂ p => ?_) fun zz zz p => p.trans ex))
 obtain ⟨vs,σ₂,ι₂,⟨v,rfl,l,ls,rfl,hl,q⟩,rvs,rp₂,ex₂,g₂,o₂⟩:=p
 have I₂:=I₁.ext ex₂ rp₂ g₂ o₂
 refine ⟨TO.X0.keeps I₂.rep.base,?_⟩
 obtain ⟨y,r',rfl,ry,rr⟩:=VRels.cons_iff.mp rvs
 cases VRels.nil_iff.mp rr
 obtain ⟨a,dd,rfl,e1⟩:=ry.ref_inv
 refine ex2 (rp₂.list_at hl e1) fun its n h9 => h9.elim fun hL hv => ?_
 refine call_reversed_list hL.isList ?_
 have hz:(its.size:Int) = ls.length:=by have:=hv.length; simp only [Array.length_toList] at this; rw [this]
 have e2:Ext T [] ι₂ s₂.heap ι₂ (s₂.heap.push (revObj a ((its.size:Int) - 1))):=.push ..
 refine .rev l ls.length s₂.heap.objs.size σ₂ ι₂ q rfl (.rev l ls.length a dd (Zkb _) e1 ⟨_,Zsc _ rfl,rfl,?_⟩) (Za ex.size ex₂.size) (fun h => absurd (rp₂.own_lt h) (Zub _)) (rp₂.grow e2.size fun b o e => Zx _ e) (ex.trans (ex₂.trans e2)) g₂ o₂
 simp only [revObj,hz]; simp
theorem iter_go {K:V → Hp → Prop} {E:Value → Shared → Prop} {x:Value} {Q:Value → Shared → Prop} {s₁:Shared} (I:Inv T A fs d env F ρ ι σ s) (p:ItR T K ι s.heap x s₁) (hi:∀ v σ,K v σ → ∃ items,iterV σ v = some items)
   (k:∀ v σ₁ ι₁ I h₂,K v σ₁ → Inv T A fs d env F ρ ι₁ σ₁ { s₁ with heap:=h₂ } → Ext T [] ι s.heap ι₁ h₂ → ItAt T ι₁ h₂ v I 0 → I ∉ own ι₁ → s.heap.objs.size ≤ I → Q (.ref I) { s₁ with heap:=h₂ }):wpAny (model T.prog T.w) A (pyIter x) Q E s₁:=by
 cases p with
 | of v σ₁ ι₁ q rv rp ex g o =>
   have I₁:=I.ext ex rp g o
   obtain ⟨items,hit⟩:=hi v σ₁ q
   refine iter_ok I₁.rep rv hit fun ob it0 => ?_
   have e1:Ext T [] ι₁ s₁.heap ι₁ (s₁.heap.push ob):=.push ..
   exact k v σ₁ ι₁ _ _ q (I₁.grown (h':=s₁.heap.push ob) e1.size fun b o e => Zx _ e) (ex.trans e1) it0 (fun q => absurd (I₁.rep.own_lt q) (Zub _)) ex.size
 | rev l n J σ₁ ι₁ q e hI hn ho rp ex g o =>
   subst e
   have hr:∃ a j,s₁.heap.IsRevIter J a j:=by cases hI; exact ⟨_,_,by assumption⟩
   refine ex2 hr fun a zz hr => ?_
   exact wpAny_pyIter_revIter hr (k _ σ₁ ι₁ J s₁.heap q (I.ext ex rp g o) ex hI ho hn)
theorem StOk.forG {X:XS} {Q:QS} {target iter:Expr} {body:List Stmt} {pos:Pos} {nx:V → Loc → Option Loc}
   (he:ItOk T d sc ρ X iter (fun v σ₁ => ForOk T d sc X nx body Q v ρ σ₁) σ)
   (ha:AsgOk T d sc target nx) (hs:noSet iter = true) (hd:T.hd = false):StOk T d sc ρ X (.For target iter body [] pos) Q σ:=by
 intro env A fs F ι s hsc I
 have hb:=I.rep.size
 refine wpAny_For (Zib (he env A fs F ι s hsc I) (fun x s₁ p => ?_) fun zz zz p => p.sx I fun zz zz k => k) fun zz => folded_no hs
 refine iter_go I p (fun v σ ⟨items,J,h0,h1,_,_⟩ => ⟨items,h1 0 _ _ h0⟩) fun v σ₁ ι₁ Ia h₂ ⟨items,J,j0,jit,jend,jturn⟩ I₂ e1 it0 hn0 hI0 => ?_
 have hbI:T.b0.objs.size ≤ Ia:=Za hb hI0
 obtain ⟨JJ,hJJ⟩:∃ JJ:Nat → Shared → Prop,∀ n s',JJ n s' ↔ ∃ i ρ' σ' ι',n = items.length - i ∧ i ≤ items.length ∧ J i ρ' σ' ∧ Inv T A fs d env F ρ' ι' σ' s' ∧ Ext T F ι s.heap ι' s'.heap ∧ ItAt T ι' s'.heap v Ia i ∧ Ia ∉ own ι':=⟨_,fun zz zz => Iff.rfl⟩
 refine forLoop_any JJ (fun n s' hJ => ?_) items.length ((hJJ _ _).mpr ⟨0,ρ,σ₁,ι₁,rfl,Zkb _,j0,I₂,e1.up,it0,hn0⟩)
 refine ex4 ((hJJ _ _).mp hJ) fun i ρ' σ' ι' h => and7 h fun hn0 hi j I' e' it hn => ?_
 clear h
 subst hn0
 have isit:=it.iterish
 have hF:Ia ∉ F:=fun q => by
   obtain ⟨o1,g1,zz,g3⟩:=I'.frm.there _ q
   obtain ⟨o2,g4,g5⟩:=isit
   rw [g1] at g4; cases g4; rw [itr_iterish g3] at g5; cases g5
 by_cases hlt:i < items.length
 · have hx:items[i]? = some items[i]:=Zp hlt
   refine next_ok I'.rep it hn (jit i ρ' σ' j) hx fun h' t y hs' ry it' => ?_
   have hk:∀ b o,b ≠ Ia → s'.heap.get? b = some o → h'.get? b = some o:=fun b o hb e => (hs'.2 b hb).trans e
   have I₃:Inv T A fs d env F ρ' ι' σ' { s' with heap:=h',toks:=t }:=I'.free hk (Zr hs'.1.symm) isit hn hbI
   have e₃:Ext T F ι s.heap ι' h':=e'.free hk (Zr hs'.1.symm) hI0
   refine letOwned_ok (s:={ s' with heap:=h',toks:=t }) it' ?_
   refine (jturn i _ ρ' σ' j hx).elim fun ρ'' h9 => h9.elim fun hl hbody => ?_
   refine ha hsc I₃ ry hl fun h₄ t₄ I₄ e₄ => ?_
   refine Zib (hbody env A fs F ι' _ hsc I₄) (fun f s₅ p => ?_) fun x s₅ p => loop_ok hb (p.trans (e₃.trans e₄))
   obtain ⟨fl,ρ₅,σ₅,ι₅,q₅,r₅,I₅,e₅⟩:=p
   have e₆:=e₃.trans (e₄.trans e₅)
   have e45:=e₄.trans e₅
   have next:J (i + 1) ρ₅ σ₅ → ∃ m,m < items.length - i ∧ JJ m s₅:=fun q => by
     refine ⟨items.length - (i + 1),Nat.sub_lt_sub_left hlt (Zs i),(hJJ _ _).mpr ⟨i + 1,ρ₅,σ₅,ι₅,rfl,hlt,q,I₅,e₆,?_,?_⟩⟩
     · refine it'.keep e45.mono fun o ho => ?_
       obtain ⟨o',g,gi⟩:=it'.iterish
       rw [ho] at g; cases g
       exact e45.keep _ o ho hn hF fun q => Zv ((iterish_no q (by decide)).symm.trans gi)
     · obtain ⟨o',g,gi⟩:=it'.iterish
       exact e45.not_own hn (Zu g)
   induction r₅ with
   | next => exact next q₅
   | brk => exact ⟨.next,ρ₅,σ₅,ι₅,q₅,.next,I₅,e₆⟩
   | cont => exact next q₅
   | ret r₅ => exact ⟨.ret _,ρ₅,σ₅,ι₅,q₅,.ret r₅,I₅,e₆⟩
 · have:i = items.length:=Nat.le_antisymm hi (Zo.mp hlt)
   subst this
   refine end_ok (.inl (I'.aok.hd hd)) I'.rep it (jit _ ρ' σ' j) (Zl _) fun h' he hz => ?_
   have I₃:Inv T A fs d env F ρ' ι' σ' { s' with heap:=h' }:=I'.free (t:=s'.toks) (fun b o hb e => he b o hb e) hz isit hn hbI
   exact wpAny_execs_nil ⟨.next,ρ',σ',ι',jend ρ' σ' j,.next,I₃,e'.free (fun b o hb e => he b o hb e) hz hI0⟩
end
end
section
structure ClsAt (T:Tp) (c:Str) (C:Addr):Prop where
 addr:T.c c = some C
 ga:PySem.W.findIn T.K (.ref C) "__getattribute__" = some (some (.builtin "object.__getattribute__"))
 gx:PySem.W.findIn T.K (.ref C) "__getattr__" = some none
 sa:PySem.W.findIn T.K (.ref C) "__setattr__" = some (some (.builtin "object.__setattr__"))
 dict:((PySem.W.clsIn T.K C).any (·.hasDict)) = true
 over:PySem.W.plainOver T.K C = true
noncomputable def handV (vv:V):Bool:=vv.casesOn (true) (fun _ => true) (fun _ => true) (fun _ => true) (fun _ => true) (fun _ => true) (fun _ => false) (fun _ _ => false) (fun _ => false) (fun _ => false) (fun _ => true) (fun _ => true) (fun _ => false) (fun _ _ => false)
theorem handed {T:Tp} {ι:Inj} {h:Heap} {v:V} {x:Value} (e:handV v = true) (r:VRel T ι h v x):PySem.W.handedIn x = true:=by
 cases v <;> first | (cases e; done) | skip
 · cases r.none_inv; rfl
 · cases r.bool_inv; rfl
 · obtain ⟨zz,rfl⟩:=r.int_inv; rfl
 · obtain ⟨zz,rfl⟩:=r.str_inv; rfl
 · obtain ⟨zz,zz,zz,rfl,zz⟩:=r.tup_inv; rfl
 · obtain ⟨zz,zz,rfl,zz⟩:=r.ref_inv; rfl
 · obtain ⟨zz,zz,zz,zz,rfl,zz⟩:=r; rfl
 · obtain ⟨zz,zz,zz,rfl,zz⟩:=r; rfl
theorem any_inv {α:Type} {o:Option α} {f:α → Bool} (h:o.any f = true):∃ x,o = some x ∧ f x = true:=by
 cases o with
 | none => cases h
 | some x => exact ⟨x,rfl,h⟩
theorem lookIn_of {o:Obj} {es:Array DictEntry} {ep:Nat} (hd:o.data = .dict es ep) (hk:StrKeys es) (name:Str):PySem.W.lookIn name o = some (nsFind es name):=by
 unfold PySem.W.lookIn
 rw [hd]
 dsimp only
 have hn:nsFind es name = (es.toList.find? (·.key.isStr name)).map (·.val):=by
   rw [Array.find?_toList]; rfl
 rw [hn]
 cases hf:es.toList.find? (·.key.isStr name) with
 | some e => rfl
 | none =>
   have:es.toList.any (·.refKey) = false:=by
     rw [Array.any_toList,Array.any_eq_false']
     intro e he
     refine ex2 (hk e he) fun n t h => ?_
     simp [DictEntry.refKey,h]
   simp [this]
section
variable {T:Tp} {A:Around} {fs:List Env} {d:Nat} {env:Env} {F:List Addr} {ι ι':Inj} {h h':Heap} {s:Shared} {ρ:Loc} {σ:Hp} {sc:Scope} {X:QX} {Q:QE}
inductive InstA (T:Tp) (ι:Inj) (h:Heap) (a dx C:Addr) (fs:List (Str × V)):Prop where
 | mk (sl:Array (Option Value)) (o:Obj) (es:Array DictEntry) (ep:Nat) (h1:h.get? a = some ⟨.ref C,some dx,.plain,sl⟩) (h2:h.get? dx = some o) (h3:PySem.W.InstAt h a ⟨.ref C,some dx,.plain,sl⟩ C (some o)) (h4:o.cls = .type "dict") (h5:o.data = .dict es ep) (h6:StrKeys es) (h7:∀ x,ORelV T ι h (fs.lookup x) (nsFind es x)):InstA T ι h a dx C fs
theorem Rep.inst_at (r:Rep T ι σ h) {l:Nat} {c:Str} {fs:List (Str × V)} {a dx:Addr} {C:Addr} (e:σ[l]? = some (.inst c fs)) (q:ι[l]? = some (a,dx)) (hc:T.c c = some C):InstA T ι h a dx C fs:=by
 obtain ⟨C',m,sl,c1,c2,⟨o,es,ep,d1,d2,d3,d4,d5,d6,d7⟩,c4⟩:=r.objs l _ _ e q
 cases sm_inj (hc.symm.trans c1)
 exact ⟨sl,o,es,ep,c2,d1,⟨c2,rfl,rfl,d1⟩,d2,d4,d5,fun x => d7 x ▸ c4 x⟩
theorem find_own {K:PySem.W.Frag} {C:Addr} {attr:Str} {o:Obj} {es:Array DictEntry} {ep:Nat} {y:Value} (hd:((PySem.W.clsIn K C).any (·.hasDict)) = true) (hf:PySem.W.findIn K (.ref C) attr = some none) (h4:o.data = .dict es ep) (h5:StrKeys es) (hm:nsFind es attr = some y) :
   PySem.W.findObj K C (some o) attr = some (.value y):=by
 refine (any_inv hd).elim fun cd h9 => h9.elim fun hcd hdict => ?_
 unfold PySem.W.findObj
 rw [hcd,Option.bind_some,hf,Option.bind_some]
 have ow:PySem.W.ownOf cd (some o) attr = some (some y):=by
   unfold PySem.W.ownOf
   rw [hdict,if_pos rfl]
   exact (lookIn_of h4 h5 attr).trans (congrArg some hm)
 show (PySem.W.ownOf cd (some o) attr).bind _ = _
 rw [ow]
 rfl
theorem attr_ok {ov v:V} {x:Value} {attr:Str} {l:Nat} {c:Str} {gs:List (Str × V)} {C:Addr} {e:Bool} (TO:TopOk T) (S:St T A fs d ι σ s) (r:VRel T ι s.heap (.ref l) x) (hl:σ[l]? = some (.inst c gs)) (hv:gs.lookup attr = some v) (hh:handV v = true)
   (hc:ClsAt T c C) (hf:PySem.W.findIn T.K (.ref C) attr = some none) (q:Q v σ):wpAny (model T.prog T.w) A (getAttr x attr e) (PostE T [] Q ι s.heap) (PostX T [] X ι s.heap) s:=by
 obtain ⟨a,dx,rfl,hι⟩:=r.ref_inv
 obtain ⟨sl,o,es,ep,h1,h2,IA,h3,h4,h5,h6⟩:=S.rep.inst_at hl hι hc.addr
 obtain ⟨y,hm,rv⟩:=(h6 attr).at hv
 exact PySem.W.get_value (TO.X0.keeps S.rep.base) IA hc.ga (find_own hc.dict hf h4 h5 hm) (handed hh rv) (S.post q rv _)
noncomputable def plainBase (o:Expr):Bool:=o.casesOn (fun _ _ _ => true) (fun _ _ _ => true) (fun _ _ _ _ => true) (fun _ _ _ => true) (fun _ _ _ _ => true) (fun _ _ _ _ => true) (fun _ _ _ => true) (fun _ _ _ => true) (fun _ _ _ _ => true) (fun _ _ _ _ => true) (fun _ _ _ _ _ => true) (fun _ _ _ _ => true) (fun _ _ => true) (fun _ _ => true) (fun _ _ => true) (fun _ _ _ _ => true) (fun f _ _ _ => Nat.beq f.ctorIdx 20) (fun _ _ _ _ => true) (fun _ _ => true) (fun _ _ _ => true) (fun _ _ _ => true) (fun _ _ _ => true) (fun _ _ => true) (fun _ _ => true) (fun _ _ => true) (fun _ _ _ => true) (fun _ _ _ _ => true)
theorem base_plain {o:Expr} {attr:Str} {whole:Sem Value} (h:plainBase o = true):attributeBase o attr env whole = whole:=by
 cases o <;> first | rfl | skip
 cases func <;> first | exact (Zv h).elim | rfl
inductive AttrOk (T:Tp) (attr:Str) (Q:QE) (o:V) (σ₁:Hp):Prop where
 | mk (l:Nat) (c:Str) (gs:List (Str × V)) (v:V) (C:Addr) (h0:o = .ref l) (h1:σ₁[l]? = some (.inst c gs)) (h2:gs.lookup attr = some v) (h3:handV v = true) (h4:ClsAt T c C) (h5:PySem.W.findIn T.K (.ref C) attr = some Option.none) (h6:Q v σ₁):AttrOk T attr Q o σ₁
theorem EvOk.attr {value:Expr} {attr:Str} {pos:Pos} (TO:TopOk T) (hp:plainBase value = true)
   (he:EvOk T d sc ρ X value (fun o σ₁ => AttrOk T attr Q o σ₁) σ) :
   EvOk T d sc ρ X (.Attribute value attr pos) Q σ:=by
 intro env A fs F ι s hsc I
 rw [arm_eval_Attribute,base_plain hp]
 refine Zhb (Zib (he env A fs F ι s hsc I) (fun x s₁ p => ?_) fun zz zz p => p)
 obtain ⟨o,σ₁,ι₁,⟨l,c,gs,v,C,rfl,h1,h2,h3,h4,h5,q⟩,rv,rp,ex,g,oo⟩:=p
 have I₁:=I.ext ex rp g oo
 refine Zhb (wpAny_standAt (Zhb (wpAny_holding (Zib (attr_ok (ov:=.none) TO I₁.st rv h1 h2 h3 h4 h5 q) (fun r s₂ p => ?_) fun zz zz p => p.trans ex))))
 exact Zhb (wpAny_letTemporaryGo (Zjb (p.trans ex)))
structure MethFacts (ty:String) (name:Str) (id:String):Prop where
 pa:PlainAttrs ty
 slot:Slot ty name id
 ty:typeOf (.builtin id) = pure (.type "method_descriptor")
noncomputable def kindO:Option MObj → Option String
 | some (.list z1) => some "list"
 | some (.sdict z1) => some "dict"
 | z1 => none
theorem kindO_out {o:Option MObj} {ty:String} (h:kindO o = some ty):("list" = ty ∧ ∃ vs,o = some (.list vs)) ∨ ("dict" = ty ∧ ∃ vs,o = some (.sdict vs)):=by
 rcases o with zz | o
 · exact (no_some h).elim
 · cases o <;> first | exact .inl ⟨sm_inj h,_,rfl⟩ | exact .inr ⟨sm_inj h,_,rfl⟩ | exact (no_some h).elim
noncomputable def kindV (σ:Hp) (vv:V):Option String:=vv.casesOn (none) (fun _ => none) (fun _ => none) (fun z1 => some "str") (fun _ => none) (fun l => kindO σ[l]?) (fun _ => none) (fun _ _ => none) (fun _ => none) (fun _ => none) (fun _ => none) (fun _ => none) (fun _ => none) (fun _ _ => none)
inductive Resolves (T:Tp) (σ:Hp) (name:Str):V → V → Prop where
 | mth (l:Nat) (c:Str) (gs:List (Str × V)) (C fa:Addr) (h1:σ[l]? = some (.inst c gs)) (h2:gs.lookup name = none) (h3:ClsAt T c C) (h4:PySem.W.findIn T.K (.ref C) name = some (some (.ref fa))) (h5:PySem.W.typeIn T.K (.ref fa) = some (.type "function")) (h6:PySem.W.keepIn T.K (.ref fa) = true):Resolves T σ name (.ref l) (.mth c name)
 | bi {ov:V} {ty id:String} (h1:kindV σ ov = some ty) (h2:MethFacts ty name id):Resolves T σ name ov (.bi id)
noncomputable def Keeps3 (T:Tp) (fv:Value):Prop:=∀ h',T.K.In h' → ∃ k,(k = Keeper.frame ∨ k = Keeper.machine ∨ k = Keeper.boundFrame) ∧ PySem.W.Looks (model T.prog T.w) h' (keeperOf fv) k
theorem kind_type {ov:V} {x:Value} {ty:String} (R:Rep T ι σ s.heap) (r:VRel T ι s.heap ov x) (h1:kindV σ ov = some ty):s.TypeIs x ty ∧ ∀ a,x = .ref a → ∃ o,s.heap.get? a = some o ∧ o.dict = none:=by
 cases ov <;> first | exact (no_some h1).elim | skip
 · obtain ⟨t,rfl⟩:=r.str_inv
   cases sm_inj h1
   exact ⟨rfl,fun zz e => (by cases e)⟩
 · obtain ⟨a,dx,rfl,hι⟩:=r.ref_inv
   rcases kindO_out h1 with ⟨rfl,vs,hvs⟩ | ⟨rfl,kvs,hvs⟩
   · refine ex2 (R.list_at hvs hι) fun items n h9 => h9.elim fun hL hv => ?_
     exact ⟨⟨_,hL,rfl⟩,fun zz e => Value.ref.inj e ▸ ⟨_,hL,rfl⟩⟩
   · refine (R.sdict_at hvs hι).elim fun rvs h9 => and3 h9 fun hd hv zz => ?_
     exact ⟨hd.mapOf.typeIs,hd.mapOf.noDict⟩
set_option maxRecDepth 20000 in
theorem meth_bi {ov:V} {id ty:String} {x:Value} {name:Str} {pl:Sem Bool} {E:Value → Shared → Prop} {R:Value × List Value → Shared → Prop} (S:St T A fs d ι σ s) (r:VRel T ι s.heap ov x) (h1:kindV σ ov = some ty) (h2:MethFacts ty name id) (k:R (.builtin id,[x]) s):wpAny (model T.prog T.w) A (getMethod x name pl) R E s :=
 getMethod_builtin (kind_type S.rep r h1).1 h2.pa h2.slot h2.ty (kind_type S.rep r h1).2 k
theorem meth_ok {ov f:V} {x:Value} {name:Str} {pl:Sem Bool} {E:Value → Shared → Prop} {R:Value × List Value → Shared → Prop} (TO:TopOk T) (S:St T A fs d ι σ s) (r:VRel T ι s.heap ov x) (hr:Resolves T σ name ov f)
   (k:∀ fv,VRel T ι s.heap f fv → Keeps3 T fv → R (fv,[x]) s):wpAny (model T.prog T.w) A (getMethod x name pl) R E s:=by
 revert r k
 induction hr with
 | mth l c gs C fa h1 h2 h3 h4 h5 h6 =>
   intro r k
   obtain ⟨a,dx,rfl,hι⟩:=r.ref_inv
   obtain ⟨sl,o,es,ep,g1,g2,IA,g3,g4,g5,g6⟩:=S.rep.inst_at h1 hι h3.addr
   have hm:nsFind es name = none:=by
     have e:=(g6 name).isSome
     rw [h2] at e
     exact Option.not_isSome_iff_eq_none.mp fun q => Zv (e.symm.trans q)
   refine PySem.W.method_fn (TO.X0.keeps S.rep.base) IA h3.ga h3.gx h4 h5 (by unfold PySem.W.shadowIn; simp only [lookIn_of g4 g5,hm]; rfl) (k _ ?_ fun h' X' => PySem.W.keeps_K h6 h' X')
   show Tp.m _ _ _ = _; unfold Tp.m
   rw [h3.addr,Option.bind_some,h4]; rfl
 | bi h1 h2 => exact fun r k => meth_bi S r h1 h2 (k _ rfl fun h' zz => ⟨.machine,.inr (.inl rfl),PySem.W.Looks.of_pure (by unfold keeperOf; rfl)⟩)
theorem EvOk.meth {o:Expr} {name:Str} {apos pos:Pos} {args:List Expr} (TO:TopOk T) (hp:plainBase o = true) (ns:noStar args = true) (hl:(apos.endLine == pos.line) = true) (hn:args.length < 30)
   (he:EvOk T d sc ρ X o (fun ov σ₁ => ∃ f,Resolves T σ₁ name ov f ∧ EvsOk T d sc ρ X args (fun vs σ₂ => CallOk T d X f (ov :: vs) Q σ₂) σ₁) σ) :
   EvOk T d sc ρ X (.Call (.Attribute o name apos) args [] pos) Q σ:=by
 intro env A fs F ι s hsc I
 rw [arm_eval_Call,base_plain hp]
 refine Zhb (Zib (he env A fs F ι s hsc I) (fun x s₁ p => ?_) fun zz zz p => p)
 obtain ⟨ov,σ₁,ι₁,⟨f,hr,q⟩,rv,rp,ex,g,oo⟩:=p
 have I₁:=I.ext ex rp g oo
 refine Zhb (wpAny_standAt ?_)
 rw [starEach_eq ns]
 have hform:methodCallForm (args.length + ([]:List Keyword).length) (args.map fun e => (false,eval e env)) (backToKw pos (keywordEach [] env)) = true:=by
   show ((args.map fun e => (false,eval e env)).all (fun x => !x.1) && (backToKw pos (keywordEach [] env)).all (fun x => x.1.isSome) && decide (args.length + ([]:List Keyword).length + (if ([]:List Keyword).isEmpty then 0 else 1) < 30)) = true
   rw [show backToKw pos (keywordEach [] env) = [] from rfl]
   simp; (clear hl; omega)
 have hpos:methodCallPos true o env apos pos = pure pos:=by unfold methodCallPos; simp [hl]
 unfold methodCall
 rw [hform]
 refine Zhb (wpAny_holding (meth_ok TO I₁.st rv hr fun fv rf hk => ?_))
 refine Zhb (wpAny_of_eq hpos ?_)
 refine PySem.W.callWith_of (P:=T.K.In) (by rw [show backToKw pos (keywordEach [] env) = [] from rfl]; simp) hk (evalArgs_list (Zib (q env A fs F ι₁ s₁ hsc I₁) (fun xs s₂ p => ?_) fun zz zz p => p.trans ex))
 obtain ⟨vs,σ₂,ι₂,q₂,rvs,rp₂,ex₂,g₂,o₂⟩:=p
 have I₂:=I₁.ext ex₂ rp₂ g₂ o₂
 refine ⟨TO.X0.keeps I₂.rep.base,?_⟩
 refine Zib (q₂ A fs ι₂ s₂ fv (x :: xs) I₂.st (rf.mono ex₂.mono) ?_) (fun zz zz p => p.trans (ex.trans ex₂)) fun zz zz p => p.trans (ex.trans ex₂)
 show VRels T ι₂ s₂.heap (ov :: vs) (x :: xs)
 exact ⟨rv.mono ex₂.mono,rvs⟩
end
end
section
noncomputable def setKV (kvs:List (Str × V)) (k:Str) (v:V):List (Str × V) :=
 if kvs.any (fun kv => kv.1 = k) then kvs.map (fun kv => if kv.1 = k then (kv.1,v) else kv) else kvs ++ [(k,v)]
theorem lookup_any {α:Type}:∀ (kvs:List (Str × α)) (k:Str),(kvs.lookup k).isSome = kvs.any fun kv => kv.1 = k:=by
 intro xx
 induction xx with
 | nil =>
   intro z1
   exact rfl
 | cons pp r ih =>
   obtain ⟨k',v⟩:=pp
   intro k
   rw [List.lookup_cons,List.any_cons]
   by_cases h:k = k'
   · subst h; simp
   · have h1:(k == k') = false:=Zmc.mpr h
     have h2:decide (k' = k) = false:=Zrc (Ne.symm h)
     rw [h1,h2]; simpa using ih k
theorem lookup_append {α:Type}:∀ (a b:List (Str × α)) (k:Str),(a ++ b).lookup k = (a.lookup k).or (b.lookup k):=by
 intro xx
 induction xx with
 | nil =>
   intro b k
   simp
 | cons pp r ih =>
   obtain ⟨k',v⟩:=pp
   intro b k
   rw [List.cons_append,List.lookup_cons,List.lookup_cons]
   cases (k == k')
   · exact ih b k
   · simp
theorem lookup_map {v:V} {k:Str}:∀ (kvs:List (Str × V)) (x:Str),(kvs.map fun kv => if kv.1 = k then (kv.1,v) else kv).lookup x = if x = k then (kvs.lookup k).map fun zz => v else kvs.lookup x:=by
 intro xx
 induction xx with
 | nil =>
   intro x
   simp
 | cons pp r ih =>
   obtain ⟨k',w⟩:=pp
   intro x
   rw [List.map_cons]
   by_cases h:k' = k
   · subst h
     simp only [if_true,List.lookup_cons]
     by_cases hx:x = k'
     · subst hx; simp
     · rw [Zmc.mpr hx,if_neg hx,ih x,if_neg hx]
   · simp only [h,if_false,List.lookup_cons]
     by_cases hx:x = k'
     · subst hx; simp [h]
     · rw [Zmc.mpr hx,ih x,Zmc.mpr (Ne.symm h)]
theorem setKV_lookup (kvs:List (Str × V)) (k x:Str) (v:V):(setKV kvs k v).lookup x = if x = k then some v else kvs.lookup x:=by
 unfold setKV
 have ha:=lookup_any kvs k
 split
 · rename_i h
   rw [h] at ha
   rw [lookup_map]
   by_cases hx:x = k
   · rw [if_pos hx,if_pos hx]
     obtain ⟨w,hw⟩:=Option.isSome_iff_exists.mp ha
     rw [hw]; rfl
   · rw [if_neg hx,if_neg hx]
 · rename_i h
   rw [Bool.not_eq_true] at h
   rw [h] at ha
   have hn:kvs.lookup k = none:=by cases q:kvs.lookup k with | none => rfl | some _ => rw [q] at ha; cases ha
   rw [lookup_append]
   by_cases hx:x = k
   · subst hx; rw [hn,if_pos rfl]; simp
   · rw [if_neg hx]
     have:([(k,v)]:List (Str × V)).lookup x = none:=by rw [List.lookup_cons,Zmc.mpr hx]; rfl
     rw [this]; simp
theorem setKV_length (kvs:List (Str × V)) (k:Str) (v:V):(setKV kvs k v).length = if (kvs.lookup k).isSome then kvs.length else kvs.length + 1:=by
 rw [lookup_any]; unfold setKV; split <;> simp
section
variable {T:Tp} {A:Around} {fs:List Env} {d:Nat} {env:Env} {F:List Addr} {ι ι':Inj} {h h':Heap} {s:Shared} {ρ:Loc} {σ:Hp} {sc:Scope} {X:XS} {Q:QS}
theorem KVRel.set {rvs:List (Str × Value)} {kvs:List (Str × V)} {k:Str} {v:V} {x:Value} (e:KVRel T ι h kvs rvs) (r:VRel T ι h v x):KVRel T ι h (setKV kvs k v) (stored rvs k x):=by
 unfold setKV stored
 rw [e.any (k:=k)]
 cases (kvs.any fun kv => decide (kv.1 = k))
 · exact e.push r
 · exact e.put (fun zz => rfl) r
noncomputable def setTK (kvs:List ((Str × Int) × V)) (k:Str × Int) (v:V):List ((Str × Int) × V) :=
 if kvs.any (fun kv => kv.1 = k) then kvs.map (fun kv => if kv.1 = k then (kv.1,v) else kv) else kvs ++ [(k,v)]
theorem KRel.putA {R:V → Value → Prop} {xs:List ((Str × Int) × Addr × Value)} {kvs:List ((Str × Int) × V)} {k:Str × Int} {v:V} {x:Value} (e:KRel (fun v p => R v p.2) kvs xs) (r:R v x):KRel (fun v p => R v p.2) (kvs.map fun kv => if kv.1 = k then (kv.1,v) else kv) (xs.map (putAt k x)):=by
 induction e with
 | nil => exact .nil
 | @cons k' z1 y z2 z3 h z4 ih =>
   rw [List.map_cons,List.map_cons,putAt]
   by_cases e:k' = k
   · rw [if_pos e,if_pos e]; exact .cons (x:=(y.1,x)) r ih
   · rw [if_neg e,if_neg e]; exact .cons h ih
theorem TKRel.set {xs:List ((Str × Int) × Addr × Value)} {kvs:List ((Str × Int) × V)} {k:Str × Int} {v:V} {x:Value} {a:Addr} (e:TKRel T ι h kvs xs) (r:VRel T ι h v x):TKRel T ι h (setTK kvs k v) (storedH xs k a x):=by
 unfold setTK storedH
 rw [e.isSome (k:=k)]
 cases (kvs.any fun kv => decide (kv.1 = k))
 · exact KRel.push (x:=(a,x)) e r
 · exact KRel.putA e r
theorem St.turned {l:Nat} {p:Addr × Addr} {o:MObj} {a:Addr} {ob ob':Obj} {t:Nat} (I:St T A fs d ι σ s) (hp:ι[l]? = some p) (hs:Heap.SameBut a s.heap h') (ha:a = p.1 ∨ a = p.2)
   (h1:s.heap.get? a = some ob) (h2:h'.get? a = some ob') (hc:ob'.cls = ob.cls) (hf:frozen ob = false) (ho:Mono ι s.heap ι h' → ORel T ι h' o p) :
   St T A fs d ι (σ.set l o) { s with heap:=h',toks:=t } ∧ Ext T [] ι s.heap ι h':=by
 have hin:a ∈ own ι:=mem_own.mpr ⟨p,Zn hp,ha⟩
 have e:Ext T [] ι s.heap ι h':=.of_sameBut hs h1 h2 hc hf (.inl hin)
 exact ⟨I.ext (s':={ s with heap:=h',toks:=t }) e (I.rep.turn hp e.mono hs ha (ho e.mono)) I.gens I.os,e⟩
theorem szo1 {n:Nat} (h:n < 1000):n + 1 ≤ sizeLine:=Za h (by decide)
theorem lookup_mem {z:Str} {u:V}:∀ {gs:List (Str × V)},gs.lookup z = some u → z ∈ gs.map (·.1):=by
 intro xx
 induction xx with
 | nil => intros; contradiction
 | cons pp r ih =>
   obtain ⟨k,v⟩:=pp
   intro h
   rw [List.lookup_cons] at h
   rw [List.map_cons]
   by_cases e:z = k
   · rw [e]; exact Zt
   · rw [Zmc.mpr e] at h; exact Zd _ (ih h)
theorem setAttr_ok {E:Value → Shared → Prop} {v:V} {x y:Value} {attr:Str} {l:Nat} {c:Str} {gs:List (Str × V)} {C:Addr} {R:Unit → Shared → Prop} (TO:TopOk T) (I:St T A fs d ι σ s) (r:VRel T ι s.heap (.ref l) x) (rv:VRel T ι s.heap v y)
   (hl:σ[l]? = some (.inst c gs)) (hc:ClsAt T c C) (ht:PySem.W.takerIn T.K C attr = some none) (hsz:gs.length < 1000)
   (k:∀ h' t,St T A fs d ι (σ.set l (.inst c (setKV gs attr v))) { s with heap:=h',toks:=t } → Ext T [] ι s.heap ι h' → R () { s with heap:=h',toks:=t }):wpAny (model T.prog T.w) A (setAttr x attr y) R E s:=by
 obtain ⟨a,dx,rfl,hι⟩:=r.ref_inv
 refine ex3 (I.rep.objs l _ _ hl hι) fun C' m sl h9 => and4 h9 fun c1 c2 hns c4 => ?_
 rw [hc.addr] at c1; cases c1
 have hns0:=hns
 obtain ⟨o,es,ep,d1,d2,d3,d4,d5,d6,d7⟩:=hns0
 have IA:PySem.W.InstAt s.heap a ⟨.ref C,some dx,.plain,sl⟩ C (some o):=⟨c2,rfl,rfl,d1⟩
 have X₁:=TO.X0.keeps I.rep.base
 refine PySem.W.set_plain X₁ IA hc.sa ?_
 refine PySem.W.osa_open (s:={ s with toks:=s.toks + 1 }) X₁ IA hc.over ht fun b => ?_
 obtain ⟨cd,hcd,hdict⟩:=any_inv hc.dict
 refine Zhb (Zjb (Zhb (Zhb (wpAny_loadPart c2 (Zhb ((PySem.W.looks_clsIn (M:=model T.prog T.w) X₁ hcd).here (s:={ s with toks:=s.toks + 1 }) ?_))))))
 rw [hdict]
 refine Zjb (a:=some dx) (Zhb (Zjb (Zhb ?_)))
 refine nsSetC (s:={ s with toks:=s.toks + 1 }) hns fun h' hn' hs => ?_
 have wi:Within (fun x => if x = attr then some y else m x) (attr :: gs.map (·.1)):=Within.cons attr y fun z hz => by
   have c4:=c4 z
   cases hg:gs.lookup z with
   | none => rw [hg] at c4; exact (hz (Option.isNone_iff_eq_none.mp (by rw [← Option.not_isSome,c4.isSome]; rfl))).elim
   | some u => exact lookup_mem hg
 refine ex3 (hn'.ns1.count wi) fun o' es' ep' e' => ?_
 have e1:=e'.1
 refine Zhb (wpAny_lookBehind (s:={ s with heap:=h',toks:=s.toks + 1 + 1 }) e1 (by rw [e'.2.1]; exact pastItsLine_dict (Za e'.2.2 (by rw [List.length_cons,Zc]; exact Zeb (szo1 hsz)))) ?_)
 refine Zjb ?_
 have hne:a ≠ dx:=fun q => by rw [q,d1] at c2; cases c2; cases d4
 have e2:o'.cls = o.cls:=hn'.rec fun o2 zz zz f1 f2 zz zz zz zz zz => (congrArg Obj.cls (sm_inj (e1.symm.trans f1))).trans (f2.trans d2.symm)
 obtain ⟨S',ex⟩:=St.turned (t:=s.toks + 1 + 1) (o:=.inst c (setKV gs attr v)) I hι hs (.inr rfl) d1 e1 e2 (by simp [frozen,d2]) fun mo =>
   ⟨C,_,sl,hc.addr,(hs.2 a hne).trans c2,hn',fun z => by
     rw [setKV_lookup]
     by_cases q:z = attr
     · rw [if_pos q,if_pos q]; exact .some (rv.mono mo)
     · rw [if_neg q,if_neg q]; exact (c4 z).mono mo⟩
 exact k h' _ S' ex
inductive SetAttrOk (T:Tp) (attr:Str) (ρ:Loc) (Q:QS) (v ov:V) (σ₂:Hp):Prop where
 | mk (l:Nat) (c:Str) (gs:List (Str × V)) (C:Addr) (h0:ov = .ref l) (h1:σ₂[l]? = some (.inst c gs)) (h2:ClsAt T c C) (h3:PySem.W.takerIn T.K C attr = some none) (h4:gs.length < 1000) (h5:Q .next ρ (σ₂.set l (.inst c (setKV gs attr v)))):SetAttrOk T attr ρ Q v ov σ₂
inductive SetItemOk (ρ:Loc) (Q:QS) (v ov iv:V) (σ₃:Hp):Prop where
 | mk (l:Nat) (k:Str) (kvs:List (Str × V)) (h0:ov = .ref l) (h1:iv = .str k) (h2:σ₃[l]? = some (.sdict kvs)) (h3:kvs.length ≤ sizeLine) (h4:Q .next ρ (σ₃.set l (.sdict (setKV kvs k v)))):SetItemOk ρ Q v ov iv σ₃
 | pr (l:Nat) (k:Str × Int) (kvs:List ((Str × Int) × V)) (h0:ov = .ref l) (h1:iv = .tup [.str k.1,.int k.2]) (h2:σ₃[l]? = some (.tdict kvs)) (h3:kvs.length ≤ sizeLine) (h4:Q .next ρ (σ₃.set l (.tdict (setTK kvs k v)))):SetItemOk ρ Q v ov iv σ₃
 | ls (l k:Nat) (vs:List V) (h0:ov = .ref l) (h1:iv = .int k) (h2:σ₃[l]? = some (.list vs)) (h3:k < vs.length) (h3':vs.length ≤ 1000) (h4:Q .next ρ (σ₃.set l (.list (vs.set k v)))):SetItemOk ρ Q v ov iv σ₃
theorem StOk.setAttr {o value:Expr} {attr:Str} {pos' pos:Pos} (TO:TopOk T)
   (q:EvOk T d sc ρ X value (fun v σ₁ => EvOk T d sc ρ X o (fun ov σ₂ => SetAttrOk T attr ρ Q v ov σ₂) σ₁) σ) (hc:noComp value = true ) :
   StOk T d sc ρ X (.Assign [.Attribute o attr pos'] value pos) Q σ:=by
 intro env A fs F ι s hsc I
 refine plainObj_wpAny_Assign_Attribute (Zib (q env A fs F ι s hsc I) (fun y s₁ p => ?_) fun zz zz p => p.sx I fun zz zz k => k) (swaps_no hc)
 obtain ⟨v,σ₁,ι₁,q,rv,rp,ex,g,oo⟩:=p
 have I₁:=I.ext ex rp g oo
 refine Zib (q env A fs F ι₁ s₁ hsc I₁) (fun x s₂ p => ?_) fun zz zz p => (p.sx I₁ fun zz zz k => k).trans ex.up
 obtain ⟨ov,σ₂,ι₂,⟨l,c,gs,C,rfl,h1,h2,h3,h4,q⟩,ro,rp₂,ex₂,g₂,o₂⟩:=p
 have I₂:=I₁.ext ex₂ rp₂ g₂ o₂
 refine setAttr_ok TO I₂.st ro (rv.mono ex₂.mono) h1 h2 h3 h4 fun h' t S' e' => ?_
 exact ⟨.next,ρ,_,ι₂,q,.next,I₂.ext (s':={ s₂ with heap:=h',toks:=t }) e' S'.rep S'.gens S'.os,(ex.trans (ex₂.trans e')).up⟩
theorem dict_obj {a:Addr} {rvs:List (Str × Value)} (hd:h.DictOf (strKind T.prog T.w) a rvs):∃ o,h.get? a = some o ∧ o.cls = .type "dict":=by obtain ⟨o,zz,zz,b1,b2,zz⟩:=hd; exact ⟨o,b1,b2.1⟩
theorem dictH_obj {a:Addr} {rvs:List ((Str × Int) × Addr × Value)} (hd:h.DictOfH (pairKind T.prog T.w) a rvs):∃ o,h.get? a = some o ∧ o.cls = .type "dict":=by obtain ⟨o,zz,zz,b1,b2,zz⟩:=hd; exact ⟨o,b1,b2.1⟩
theorem dict_frozen {o:Obj} (h:o.cls = .type "dict"):frozen o = false:=by unfold frozen; rw [h]; decide
theorem setItem_str {E:Value → Shared → Prop} {v:V} {x z y:Value} {l:Nat} {k:Str} {kvs:List (Str × V)} {R:Unit → Shared → Prop} (S:St T A fs d ι σ s) (ro:VRel T ι s.heap (.ref l) x) (ri:VRel T ι s.heap (.str k) z) (rv:VRel T ι s.heap v y) (h1:σ[l]? = some (.sdict kvs)) (h2:kvs.length ≤ sizeLine)
   (kk:∀ h' t,St T A fs d ι (σ.set l (.sdict (setKV kvs k v))) { s with heap:=h',toks:=t } → Ext T [] ι s.heap ι h' → R () { s with heap:=h',toks:=t }):wpAny (model T.prog T.w) A (setItem x z y) R E s:=by
 obtain ⟨a,dx,rfl,hι⟩:=ro.ref_inv
 obtain ⟨t,rfl⟩:=ri.str_inv
 obtain ⟨hp,rvs,hd,hv⟩:=S.rep.objs l _ _ h1 hι
 refine wpAny_setItem_pairs (knd:=PySem.strKind T.prog T.w) (k:=k) (by simp [PySem.strKind,Value.isStrOf]) hd (fun h' hd' hs => ?_) (hv.length ▸ h2)
 obtain ⟨ob,b1,b2⟩:=dict_obj hd
 obtain ⟨ob',b1',b2'⟩:=dict_obj hd'
 obtain ⟨S',ex⟩:=St.turned (t:=s.toks + 1) (o:=.sdict (setKV kvs k v)) S hι hs (.inl rfl) b1 b1' (b2'.trans b2.symm) (dict_frozen b2) fun mo =>
   ⟨hp,_,hd',KVRel.set (hv.imp fun zz zz r => r.mono mo) (rv.mono mo)⟩
 exact kk h' _ S' ex
theorem setItem_pr {E:Value → Shared → Prop} {v:V} {x z y:Value} {l:Nat} {k:Str × Int} {kvs:List ((Str × Int) × V)} {R:Unit → Shared → Prop} (S:St T A fs d ι σ s) (ro:VRel T ι s.heap (.ref l) x) (ri:VRel T ι s.heap (.tup [.str k.1,.int k.2]) z) (rv:VRel T ι s.heap v y) (h1:σ[l]? = some (.tdict kvs)) (h2:kvs.length ≤ sizeLine)
   (kk:∀ h' t,St T A fs d ι (σ.set l (.tdict (setTK kvs k v))) { s with heap:=h',toks:=t } → Ext T [] ι s.heap ι h' → R () { s with heap:=h',toks:=t }):wpAny (model T.prog T.w) A (setItem x z y) R E s:=by
 obtain ⟨a,dx,rfl,hι⟩:=ro.ref_inv
 obtain ⟨a',rfl,hk⟩:=ri.pair
 obtain ⟨hp,rvs,hd,hv⟩:=S.rep.objs l _ _ h1 hι
 refine wpAny_setItem_heap (knd:=pairKind T.prog T.w) (k:=k) (show A.units + 1 < cLine from room41 (x:=0) S.aok.units (by decide)) hk hd (fun h' hd' hs => ?_) (hv.length ▸ h2)
 obtain ⟨ob,b1,b2⟩:=dictH_obj hd
 obtain ⟨ob',b1',b2'⟩:=dictH_obj hd'
 obtain ⟨S',ex⟩:=St.turned (t:=s.toks + 3) (o:=.tdict (setTK kvs k v)) S hι hs (.inl rfl) b1 b1' (b2'.trans b2.symm) (dict_frozen b2) fun mo =>
   ⟨hp,_,hd',TKRel.set (hv.imp fun zz zz r => r.mono mo) (rv.mono mo)⟩
 exact kk h' _ S' ex
theorem All2.set {α β:Type} {R:α → β → Prop} {as:List α} {bs:List β} {a:α} {b:β} (h:All2 R as bs):∀ k:Nat,R a b → All2 R (as.set k a) (bs.set k b):=h.rec (fun zz zz => .nil) fun h t ih k => k.rec (fun r => .cons r t) fun k zz r => .cons h (ih k r)
theorem setItem_ls {E:Value → Shared → Prop} {v:V} {x z y:Value} {l k:Nat} {vs:List V} {R:Unit → Shared → Prop} (S:St T A fs d ι σ s) (ro:VRel T ι s.heap (.ref l) x) (ri:VRel T ι s.heap (.int k) z) (rv:VRel T ι s.heap v y) (h1:σ[l]? = some (.list vs)) (h2:k < vs.length) (h3:vs.length ≤ 1000)
   (kk:∀ h' t,St T A fs d ι (σ.set l (.list (vs.set k v))) { s with heap:=h',toks:=t } → Ext T [] ι s.heap ι h' → R () { s with heap:=h',toks:=t }):wpAny (model T.prog T.w) A (setItem x z y) R E s:=by
 obtain ⟨a,dx,rfl,hι⟩:=ro.ref_inv
 obtain ⟨t,rfl⟩:=ri.int_inv
 obtain ⟨items,n,hL,hv⟩:=S.rep.list_at h1 hι
 have hz:items.size = vs.length:=by rw [← hv.length,Array.length_toList]
 have g:(s.heap.update a (Obj.mapSeq fun z => z.setIfInBounds k y)).get? a = some ⟨.type "list",Option.none,.seq (items.setIfInBounds k y) (if (items.setIfInBounds k y).size == items.size then n else n + 1),#[]⟩:=Heap.get?_update_self _ hL rfl
 refine PySem.W.ki_setAt (k:=(k:Int)) hL (Zvc k) (by omega) (by omega) ?_
 obtain ⟨e1,zz⟩:=S.rep.objs l _ _ h1 hι
 cases e1
 obtain ⟨S',e⟩:=St.turned (t:=s.toks) (o:=.list (vs.set k v)) S hι (Heap.SameBut.update ..) (.inl rfl) hL g rfl rfl fun m => ⟨rfl,(items.setIfInBounds k y).toList,⟨_,by rw [Array.toArray_toList]; exact g⟩,by
   rw [Array.toList_setIfInBounds]
   exact ((hv.mono m).all.set k (rv.mono m)).vrels⟩
 exact kk _ _ S' e
theorem StOk.setItem {o i value:Expr} {pos' pos:Pos}
   (q:EvOk T d sc ρ X value (fun v σ₁ => EvOk T d sc ρ X o (fun ov σ₂ => EvOk T d sc ρ X i (fun iv σ₃ => SetItemOk ρ Q v ov iv σ₃) σ₂) σ₁) σ) (hc:noComp value = true ) :
   StOk T d sc ρ X (.Assign [.Subscript o i pos'] value pos) Q σ:=by
 intro env A fs F ι s hsc I
 refine wpAny_Assign_Subscript (Zib (q env A fs F ι s hsc I) (fun y s₁ p => ?_) fun zz zz p => p.sx I fun zz zz k => k) (swaps_no hc)
 obtain ⟨v,σ₁,ι₁,q,rv,rp,ex,g,oo⟩:=p
 have I₁:=I.ext ex rp g oo
 refine Zib (q env A fs F ι₁ s₁ hsc I₁) (fun x s₂ p => ?_) fun zz zz p => (p.sx I₁ fun zz zz k => k).trans ex.up
 obtain ⟨ov,σ₂,ι₂,q,ro,rp₂,ex₂,g₂,o₂⟩:=p
 have I₂:=I₁.ext ex₂ rp₂ g₂ o₂
 refine Zib (q env A fs F ι₂ s₂ hsc I₂) (fun z s₃ p => ?_) fun zz zz p => (p.sx I₂ fun zz zz k => k).trans (ex.trans ex₂).up
 obtain ⟨iv,σ₃,ι₃,so,ri,rp₃,ex₃,g₃,o₃⟩:=p
 have I₃:=I₂.ext ex₃ rp₃ g₃ o₃
 have ro:=ro.mono ex₃.mono
 have rv:=rv.mono (ex₂.trans ex₃).mono
 have fin:∀ {σ₄:Hp} {h':Heap} {t:Nat},Q .next ρ σ₄ → St T A fs d ι₃ σ₄ { s₃ with heap:=h',toks:=t } → Ext T [] ι₃ s₃.heap ι₃ h' → PostS T A fs d env F Q ι s.heap .next { s₃ with heap:=h',toks:=t }:=fun {zz h' t} q S' e' =>
   ⟨.next,ρ,_,ι₃,q,.next,I₃.ext (s':={ s₃ with heap:=h',toks:=t }) e' S'.rep S'.gens S'.os,(ex.trans (ex₂.trans (ex₃.trans e'))).up⟩
 rcases so with ⟨l,k,kvs,rfl,rfl,h1,h2,qq⟩ | ⟨l,k,kvs,rfl,rfl,h1,h2,qq⟩ | ⟨l,k,vs,rfl,rfl,h1,h2,h3,qq⟩
 · exact setItem_str I₃.st ro ri rv h1 h2 fun h' t S' e' => fin qq S' e'
 · exact setItem_pr I₃.st ro ri rv h1 h2 fun h' t S' e' => fin qq S' e'
 · exact setItem_ls I₃.st ro ri rv h1 h2 h3 fun h' t S' e' => fin qq S' e'
end
section
variable {T:Tp} {A:Around} {fs:List Env} {d:Nat} {env:Env} {F:List Addr} {ι ι':Inj} {h h':Heap} {s:Shared} {ρ:Loc} {σ:Hp} {sc:Scope} {X:QX} {Q:QE}
theorem EvOk.dict {pos:Pos} (q:Q (.ref σ.length) (σ ++ [.sdict []])):EvOk T d sc ρ X (.Dict [] [] pos) Q σ:=by
 intro env A fs F ι s hsc I
 refine wpAny_Dict_empty ?_
 have hget:(s.heap.push { cls:=.type "dict",data:=.dict #[] }).get? s.heap.objs.size = some { cls:=.type "dict",data:=.dict #[] }:=Zsc _ rfl
 have no:s.heap.objs.size ∉ own ι:=fun z => absurd (I.rep.own_lt z) (Zub _)
 have e:=Ext.push T [] ι s.heap { cls:=.type "dict",data:=.dict #[] }
 refine ⟨_,_,ι ++ [(s.heap.objs.size,s.heap.objs.size)],q,?_,(I.rep.push _).more (p:=(s.heap.objs.size,s.heap.objs.size)) ⟨rfl,[],?_,.nil⟩ I.rep.size I.rep.size no no,⟨⟨[(s.heap.objs.size,s.heap.objs.size)],rfl,by simp⟩,e.size,e.cls,e.frz,e.keep,e.frm⟩,I.gens,I.os⟩
 · exact ⟨s.heap.objs.size,s.heap.objs.size,rfl,by rw [← I.rep.len]; simp⟩
 · exact ⟨_,#[],0,hget,⟨rfl,rfl,rfl⟩,rfl,fun zz h => by simp at h,.nil,by simp⟩
theorem CallOk.make {c:Str} {C fI:Addr} {args:List V} (TO:TopOk T) (hc:T.c c = some C) (hm:PySem.W.makesIn T.K C = true) (hi:PySem.W.findIn T.K (.ref C) "__init__" = some (some (.ref fI))) (ht:PySem.W.typeIn T.K (.ref fI) = some (.type "function"))
   (hb:CodeOk T d X (.mth c "__init__") (.ref σ.length :: args) (fun v σ' => v = .none ∧ Q (.ref σ.length) σ') (σ ++ [.inst c []])):CallOk T (d + 1) X (.glob c) args Q σ:=by
 intro A fs ι s fv xs S rf rxs
 have hg:T.g c = some (.ref C):=by
   exact refO_out hc
 cases hg.symm.trans rf
 have X₁:=TO.X0.keeps S.rep.base
 refine wpAny_call ?_
 obtain ⟨hh,gn,dr,tk,os⟩:=s
 refine PySem.W.make_core (PySem.W.makes_of X₁ hm) (PySem.W.looks_findIn X₁ hi) (fun self => PySem.W.bind_fn X₁ self ht) (.inl rfl) ?_
 have no:∀ a,hh.objs.size ≤ a → a ∉ own ι:=fun a ha q => absurd (S.rep.own_lt q) (Zo.mpr ha)
 have e1:=Ext.push T [] ι hh PySem.W.emptyDict
 have e2:=Ext.push T [] ι (hh.push PySem.W.emptyDict) (PySem.W.instObj C hh.objs.size)
 have e0:=e1.trans e2
 have hd:((hh.push PySem.W.emptyDict).push (PySem.W.instObj C hh.objs.size)).get? hh.objs.size = some PySem.W.emptyDict:=Zx _ (Zsc _ rfl)
 have hx:((hh.push PySem.W.emptyDict).push (PySem.W.instObj C hh.objs.size)).get? (hh.objs.size + 1) = some (PySem.W.instObj C hh.objs.size):=by
   have:=Zsc (hh.push PySem.W.emptyDict) (o:=PySem.W.instObj C hh.objs.size) rfl
   rwa [Zqb] at this
 have hsz:hh.objs.size ≤ hh.objs.size + 1:=by (clear S no hx; exact Zq (Zs hh.objs.size))
 have R':Rep T (ι ++ [(hh.objs.size + 1,hh.objs.size)]) (σ ++ [.inst c []]) ((hh.push PySem.W.emptyDict).push (PySem.W.instObj C hh.objs.size)):=by
   have R0:Rep T ι σ hh:=S.rep
   exact ((R0.push _).push _).more (p:=(hh.objs.size + 1,hh.objs.size)) ⟨C,fun zz => none,#[],hc,hx,⟨_,#[],0,hd,rfl,rfl,rfl,fun e he => by simp at he,List.Pairwise.nil,fun zz => rfl⟩,fun zz => .none⟩ (Za R0.size hsz) R0.size (no _ hsz) (no _ (Zl _))
 have eX:Ext T [] ι hh (ι ++ [(hh.objs.size + 1,hh.objs.size)]) ((hh.push PySem.W.emptyDict).push (PySem.W.instObj C hh.objs.size)) :=
   ⟨⟨[(hh.objs.size + 1,hh.objs.size)],rfl,by simp⟩,e0.size,e0.cls,e0.frz,e0.keep,e0.frm⟩
 have aok:AOk T (A.under (.builtin "type.__call__" ⟨.ref C :: xs,[]⟩)) fs d (ι ++ [(hh.objs.size + 1,hh.objs.size)]) ((hh.push PySem.W.emptyDict).push (PySem.W.instObj C hh.objs.size)):=by
   have a0:=S.aok.ext eX (fun zz zz zz zz q => by simp at q) (fun zz q => by simp at q)
   refine ⟨a0.frames,a0.funs,?_,?_,a0.hd,a0.hx⟩
   · have:=S.aok.depth
     show A.depth + 1 + d ≤ _
     (clear a0 R' eX S no hx hsz; lia)
   · have:=S.aok.units
     show A.units + 1 + 10 * d + 50 ≤ _
     (clear a0 R' eX S no hx hsz; lia)
 have rI:VRel T (ι ++ [(hh.objs.size + 1,hh.objs.size)]) ((hh.push PySem.W.emptyDict).push (PySem.W.instObj C hh.objs.size)) (.mth c "__init__") (.ref fI):=by
   show Tp.m _ _ _ = _; unfold Tp.m; rw [hc,Option.bind_some,hi]; rfl
 have rS:VRel T (ι ++ [(hh.objs.size + 1,hh.objs.size)]) ((hh.push PySem.W.emptyDict).push (PySem.W.instObj C hh.objs.size)) (.ref σ.length) (.ref (hh.objs.size + 1)):=by
   exact ⟨hh.objs.size + 1,hh.objs.size,rfl,by rw [← S.rep.len]; simp⟩
 refine codeAny_mono (hb _ fs _ ⟨(hh.push PySem.W.emptyDict).push (PySem.W.instObj C hh.objs.size),gn,dr,tk,os⟩ (.ref fI) (.ref (hh.objs.size + 1) :: xs) ⟨R',aok,S.gens,S.os⟩ rI ?_) fun r s' z => ?_
 · show VRels T _ _ (_ :: _) (_ :: _)
   exact ⟨rS,rxs.mono eX.mono⟩
 · rcases r with e | (zz | zz | zz | v)
   · exact PostX.trans (T:=T) (F:=[]) (X:=X) eX z
   · exact z.elim
   · exact z.elim
   · exact z.elim
   · obtain ⟨w,σ',ι',⟨rfl,q⟩,rw',rp,ex,g,o⟩:=z
     cases rw'.none_inv
     exact ⟨rfl,.ref σ.length,σ',ι',q,rS.mono ex.mono,rp,eX.trans ex,g,o⟩
end
end
section
noncomputable def relab (scope sc:Scope):Scope :=
 { scope with names:=scope.names.map fun (n,k) => if (k == .free && sc.kind == .function && sc.names.lookup n == some .cell) then (n,.cell) else (n,k) }
noncomputable def compLoc (scope:Scope) (ρ:Loc):Loc:=fun x => if scope.names.lookup x = some .free then ρ x else none
noncomputable def relK (sc:Scope) (n:Str) (k:NameKind):NameKind:=if (k == .free && sc.kind == .function && sc.names.lookup n == some .cell) then .cell else k
theorem relab_lookup {sc:Scope}:∀ (names:List (Str × NameKind)) (x:Str),
   (names.map fun (n,k) => if (k == NameKind.free && sc.kind == .function && sc.names.lookup n == some .cell) then (n,NameKind.cell) else (n,k)).lookup x = (names.lookup x).map (relK sc x)
 | [],z1 => rfl
 | (n,k) :: r,x => by
   have ih:=relab_lookup (sc:=sc) r x
   rw [List.map_cons,List.lookup_cons]
   have e:(if (k == NameKind.free && sc.kind == .function && sc.names.lookup n == some .cell) then (n,NameKind.cell) else (n,k)) = (n,relK sc n k):=by
     unfold relK; split <;> rfl
   dsimp only
   rw [e,List.lookup_cons]
   cases hx:x == n with
   | true => rw [beq_iff_eq.mp hx]; rfl
   | false => exact ih
noncomputable def clStep (env:Env) (acc:List (Str × Addr)) (p:Str × NameKind):List (Str × Addr):=if p.2 == .free then (p.1,(env.cells.lookup p.1).getD 0) :: acc else acc
noncomputable def closeFrom (env:Env) (names:List (Str × NameKind)) (acc:List (Str × Addr)):List (Str × Addr):=names.foldl (clStep env) acc
theorem closeFrom_iff {env:Env} {q:Str × Addr} (names:List (Str × NameKind)):∀ acc,q ∈ closeFrom env names acc ↔ q ∈ acc ∨ ((q.1,NameKind.free) ∈ names ∧ q.2 = (env.cells.lookup q.1).getD 0) :=
 names.rec (fun acc => ⟨.inl,fun h => h.elim id fun h => (by cases h.1)⟩) fun p r ih acc => (ih (clStep env acc p)).trans (by
   unfold clStep
   by_cases hk:(p.2 == NameKind.free) = true
   · rw [if_pos hk,Zg,Zg]
     have e:=beq_iff_eq.mp hk
     exact ⟨fun h => h.elim (fun h => h.elim (fun h => .inr ⟨.inl (by rw [h,← e]),by rw [h]⟩) .inl) fun h => .inr ⟨.inr h.1,h.2⟩,
       fun h => h.elim (fun h => .inl (.inr h)) fun h => h.1.elim (fun g => .inl (.inl (by rw [← show (q.1,NameKind.free) = p from g,← h.2]))) fun g => .inr ⟨g,h.2⟩⟩
   · rw [if_neg hk,Zg]
     exact ⟨fun h => h.imp_right fun h => ⟨.inr h.1,h.2⟩,fun h => h.imp_right fun h => ⟨h.1.resolve_left fun g => hk (g ▸ rfl),h.2⟩⟩)
theorem closure_eq {env:Env} {scope:Scope} (h:∀ x ∈ scope.names,x.2 = .free → (env.cells.lookup x.1).isSome = true):closureFor scope env = pure (closeFrom env scope.names []):=by
 have:∀ (names:List (Str × NameKind)) (acc:List (Str × Addr)),(∀ x ∈ names,x.2 = .free → (env.cells.lookup x.1).isSome = true) →
     (forIn names acc fun (x:Str × NameKind) (cs:List (Str × Addr)) => (if x.2 == NameKind.free then (do let a ← cellOf env x.1; pure (ForInStep.yield ((x.1,a) :: cs))) else pure (ForInStep.yield cs):Sem (ForInStep (List (Str × Addr))))) = pure (closeFrom env names acc):=by
   intro names
   induction names with
   | nil => intro acc zz; rfl
   | cons p r ih =>
     intro acc hp
     obtain ⟨n,k⟩:=p
     rw [List.forIn_cons]
     have hr:∀ x ∈ r,x.2 = .free → (env.cells.lookup x.1).isSome = true:=fun x hx => hp x (Zd _ hx)
     by_cases hk:(k == NameKind.free) = true
     · obtain ⟨c,hc⟩:=Option.isSome_iff_exists.mp (hp (n,k) Zt (beq_iff_eq.mp hk))
       have hc':env.cells.lookup n = some c:=hc
       have e:clStep env acc (n,k) = (n,c) :: acc:=(if_pos hk).trans (by rw [hc']; rfl)
       rw [if_pos hk,show cellOf env n = pure c by unfold cellOf; rw [hc']]
       show (forIn r ((n,c) :: acc) _:Sem _) = pure (closeFrom env r (clStep env acc (n,k)))
       rw [e]; exact ih _ hr
     · rw [if_neg hk]
       show (forIn r acc _:Sem _) = pure (closeFrom env r (clStep env acc (n,k)))
       rw [show clStep env acc (n,k) = acc from if_neg hk]; exact ih _ hr
 unfold closureFor
 have e:=this scope.names [] h
 show (forIn scope.names [] _ >>= fun cs => pure cs) = _
 have e2:(forIn scope.names ([]:List (Str × Addr)) fun (x:Str × NameKind) (cs:List (Str × Addr)) => (match x with | (name,kind) => if (kind == NameKind.free) = true then do let __do_lift ← cellOf env name; pure (ForInStep.yield ((name,__do_lift) :: cs)) else pure (ForInStep.yield cs):Sem (ForInStep (List (Str × Addr))))) = pure (closeFrom env scope.names []):=e
 first
   | (rw [e2]; rfl)
   | (simp only [bind_pure]; exact e2)
   | (simp only [bind_pure_comp,id_map']; exact e2)
theorem cellsFrom_append:∀ (names:List (Str × NameKind)) (n:Nat) (acc cl:List (Str × Addr)),cellsFrom n names (acc ++ cl) = cellsFrom n names acc ++ cl:=by
 intro xx
 induction xx with
 | nil =>
   intro z1 z2 z3
   exact rfl
 | cons pp r ih =>
   obtain ⟨z1,kind⟩:=pp
   intro n acc cl
   unfold cellsFrom
   split
   · rw [← List.cons_append]; exact ih _ _ _
   · exact ih _ _ _
theorem cellsFrom_names:∀ (names:List (Str × NameKind)) (n:Nat) (acc:List (Str × Addr)) (p:Str × Addr),p ∈ cellsFrom n names acc → p ∈ acc ∨ (p.1,NameKind.cell) ∈ names:=by
 intro xx
 induction xx with
 | nil =>
   intro z1 z2 z3 h
   exact .inl h
 | cons pp r ih =>
   obtain ⟨x,kind⟩:=pp
   intro n acc p h
   unfold cellsFrom at h
   split at h
   · rename_i hk
     rcases ih _ _ p h with h | h
     · rcases Zg.mp h with e | h
       · subst e; exact .inr (by rw [beq_iff_eq.mp hk]; exact Zt)
       · exact .inl h
     · exact .inr (Zd _ h)
   · rcases ih _ _ p h with h | h
     · exact .inl h
     · exact .inr (Zd _ h)
noncomputable def compOk (scope sc:Scope):Bool :=
 scope.kind == .function && decide ((scope.names.map (·.1)).Nodup) && scope.names.all fun p => p.2 != .free || (sc.names.lookup p.1 == some .cell || sc.names.lookup p.1 == some .free)
theorem nodup_kind {names:List (Str × NameKind)} (hn:(names.map (·.1)).Nodup) {x:Str} {k k':NameKind} (h:(x,k) ∈ names) (h':(x,k') ∈ names):k = k':=by
 induction names with
 | nil => cases h
 | cons p r ih =>
   rw [List.map_cons,Zxc] at hn
   rcases Zg.mp h with e | h <;> rcases Zg.mp h' with e' | h'
   · rw [← e'] at e; exact (Prod.mk.inj e).2
   · exact absurd (Zsb.mpr ⟨(x,k'),h',by rw [← e]⟩) hn.1
   · exact absurd (Zsb.mpr ⟨(x,k),h,by rw [← e']⟩) hn.1
   · exact ih hn.2 h h'
section
variable {T:Tp} {A:Around} {fs:List Env} {d:Nat} {ι:Inj} {σ:Hp} {s:Shared} {sc:Scope} {env:Env} {F:List Addr} {ρ:Loc}
noncomputable def cenvOf (scope:Scope) (env:Env) (L:Addr):Env :=
 { scope:=relab scope env.scope,locals:=L,globals:=env.globals,cells:=cellsFrom (L + 1) scope.names (closeFrom env scope.names []),qual:=env.qual,func:=none,code:=env.code,frame:=env.frame,builtins:=env.builtins }
theorem relK_fr {sc:Scope} {n:Str}:relK sc n .free = .cell ∧ sc.names.lookup n = some .cell ∨ relK sc n .free = .free:=by
 unfold relK
 by_cases h:(NameKind.free == .free && sc.kind == .function && sc.names.lookup n == some .cell) = true
 · rw [if_pos h]; rw [Zob,beq_iff_eq] at h; exact .inl ⟨rfl,h.2⟩
 · exact .inr (if_neg h)
theorem rel_orig {sc:Scope} {n:Str} {o:Option NameKind} (h:o.map (relK sc n) = some .cell ∨ o.map (relK sc n) = some .free):o = some .cell ∨ o = some .free:=by
 cases o with
 | none => exact h.elim (by intros; contradiction) (by intros; contradiction)
 | some k =>
   by_cases q:k = .free
   · exact .inr (congrArg some q)
   · have e:relK sc n k = k:=by unfold relK; rw [Zmc.mpr q]; rfl
     exact e ▸ h
theorem rel_loc {sc:Scope} {n:Str} (h:(some NameKind.free).map (relK sc n) = some .local):False :=
 relK_fr (sc:=sc) (n:=n).elim (fun e => nomatch e.1.symm.trans (sm_inj h)) fun e => nomatch e.symm.trans (sm_inj h)
theorem rel_cell {sc:Scope} {n:Str} (h:(some NameKind.free).map (relK sc n) = some .cell):sc.names.lookup n = some .cell :=
 relK_fr.elim (fun e => e.2) fun e => nomatch e.symm.trans (sm_inj h)
theorem comp_frame {scope:Scope} (I:Inv T A fs d env F ρ ι σ s) (ok:compOk scope env.scope = true) (h₁:Heap) (hh:h₁ = pushCells (s.heap.push { cls:=.type "dict",data:=.dict #[] }) scope.names) :
   closureFor scope env = pure (closeFrom env scope.names []) ∧ ∃ Fn,(∀ a ∈ Fn,s.heap.objs.size ≤ a) ∧ Inv T A fs d (cenvOf scope env s.heap.objs.size) (Fn ++ F) (compLoc scope ρ) ι σ { s with heap:=h₁ } ∧ Ext T [] ι s.heap ι h₁ ∧
     (∀ x c,scope.names.lookup x = some .local ∨ scope.names.lookup x = some .cell → (cenvOf scope env s.heap.objs.size).cells.lookup x = some c → scope.names.lookup x = some .cell → c ∈ Fn) ∧ s.heap.objs.size ∈ Fn:=by
 simp only [compOk,Zob,beq_iff_eq,decide_eq_true_eq] at ok
 obtain ⟨⟨hk,hnd⟩,hfr⟩:=ok
 have outer:∀ x,(x,NameKind.free) ∈ scope.names → env.kindOf x = some .cell ∨ env.kindOf x = some .free:=fun x hx => by
   have:=List.all_eq_true.mp hfr _ hx
   rw [bne_self_eq_false,Bool.false_or,Bool.or_eq_true,beq_iff_eq,beq_iff_eq] at this
   exact this
 have hcl:∀ x ∈ scope.names,x.2 = .free → (env.cells.lookup x.1).isSome = true:=fun x hx hf => by
   obtain ⟨x,k⟩:=x
   cases hf
   obtain ⟨c,zz,zz,e1,zz⟩:=I.frm.cells x (outer x hx)
   show (env.cells.lookup x).isSome = true
   rw [e1]; rfl
 refine ⟨closure_eq hcl,?_⟩
 have ok:=cellsFrom_ok scope.names (s.heap.push { cls:=.type "dict",data:=.dict #[] }) (s.heap.objs.size + 1) [] ⟨fun zz zz hm => ((by cases hm)),List.Pairwise.nil⟩ (by rw [Zqb]; exact Zl _)
 rw [Zqb,← hh] at ok
 have keep:∀ b o,s.heap.get? b = some o → h₁.get? b = some o:=fun b o e => hh ▸ pushCells_keeps _ _ b o (Zx _ e)
 have hsz:s.heap.objs.size ≤ h₁.objs.size:=hh ▸ Za (by rw [Zqb]; exact Zq (Zs s.heap.objs.size)) (pushCells_size _ _)
 have hL:h₁.get? s.heap.objs.size = some { cls:=.type "dict",data:=.dict #[] }:=hh ▸ pushCells_keeps scope.names (s.heap.push { cls:=.type "dict",data:=.dict #[] }) _ _ (Zsc s.heap rfl)
 have cc:∀ c o,h₁.get? c = some o → s.heap.objs.size + 1 ≤ c → o.cls = .type "cell":=fun c o g h => pushCells_cls scope.names (s.heap.push { cls:=.type "dict",data:=.dict #[] }) c o (hh ▸ g) (by rw [Zqb]; exact h)
 clear hh
 have no:∀ a,s.heap.objs.size ≤ a → a ∉ own ι:=fun a ha q => absurd (I.rep.own_lt q) (Zo.mpr ha)
 have csEq:(cenvOf scope env s.heap.objs.size).cells = cellsFrom (s.heap.objs.size + 1) scope.names [] ++ closeFrom env scope.names []:=cellsFrom_append scope.names _ [] _
 have cm:∀ x,(x,NameKind.cell) ∈ scope.names → ∃ c,(x,c) ∈ cellsFrom (s.heap.objs.size + 1) scope.names []:=fun x hx => cellsFrom_mem scope.names (s.heap.objs.size + 1) [] x hx
 have cn:∀ x c,(x,c) ∈ cellsFrom (s.heap.objs.size + 1) scope.names [] → (x,NameKind.cell) ∈ scope.names:=fun x c h => (cellsFrom_names _ _ _ _ h).elim (fun z => (by cases z)) id
 generalize cellsFrom (s.heap.objs.size + 1) scope.names [] = cl at ok csEq cm cn
 have cellAt:∀ x c,(x,c) ∈ cl → s.heap.objs.size + 1 ≤ c ∧ ∃ o,h₁.get? c = some o ∧ o.cls = .type "cell" ∧ o.data = .cell none:=fun x c hm => by
   have e:=ok.empty x c hm
   exact ⟨e.2,e.1.elim fun o g => ⟨o,g.1,cc c o g.1 e.2,g.2⟩⟩
 have kd:∀ x,(cenvOf scope env s.heap.objs.size).kindOf x = (scope.names.lookup x).map (relK env.scope x):=fun x => relab_lookup scope.names x
 have ownL:∀ x,scope.names.lookup x = some .cell → ∃ c,(cenvOf scope env s.heap.objs.size).cells.lookup x = some c ∧ (x,c) ∈ cl:=fun x hx =>
   (cm x (mem_of_lookup hx)).elim fun c hc => (lookup_of_mem hc).elim fun c' hc' => ⟨c',by rw [csEq,lookup_append,hc']; rfl,mem_of_lookup hc'⟩
 have freeL:∀ x,scope.names.lookup x = some .free → (cenvOf scope env s.heap.objs.size).cells.lookup x = env.cells.lookup x:=fun x hx => by
   have hm:=mem_of_lookup hx
   have h1:cl.lookup x = none:=by
     cases q:cl.lookup x with
     | none => rfl
     | some c => cases nodup_kind hnd hm (cn x c (mem_of_lookup q))
   refine (lookup_of_mem ((closeFrom_iff (env:=env) (q:=(x,(env.cells.lookup x).getD 0)) scope.names []).mpr (.inr ⟨hm,rfl⟩))).elim fun c' hc' => ?_
   rw [csEq,lookup_append,h1,hc']
   obtain ⟨c,hc⟩:=Option.isSome_iff_exists.mp (hcl _ hm rfl)
   have e:=((closeFrom_iff scope.names []).mp (mem_of_lookup hc')).elim (fun z => (by cases z)) fun z => z.2
   have hc:env.cells.lookup x = some c:=hc
   rw [hc] at e ⊢; rw [show c' = c from e]; rfl
 have orig:∀ x,((cenvOf scope env s.heap.objs.size).kindOf x = some .cell ∨ (cenvOf scope env s.heap.objs.size).kindOf x = some .free) → scope.names.lookup x = some .cell ∨ scope.names.lookup x = some .free:=fun x hx => rel_orig (kd x ▸ hx)
 have e0:Ext T [] ι s.heap ι h₁:=.of_keeps hsz keep
 have I0:=I.grown hsz keep
 have Fge:∀ a ∈ (s.heap.objs.size :: cl.map (·.2)),s.heap.objs.size ≤ a:=fun a ha => by
   rcases Zg.mp ha with rfl | ha
   · exact Zl _
   · obtain ⟨⟨x,c⟩,hm,rfl⟩:=Zsb.mp ha
     exact Zkc (cellAt x c hm).1
 refine ⟨s.heap.objs.size :: cl.map (·.2),Fge,⟨I0.rep,I0.aok,?_,I0.top.rec fun e r L a b c => ⟨e,r,L,a,b,c⟩,I0.gens,I0.os⟩,e0,fun x c zz hc hx => ?_,Zt⟩
 · refine ⟨hk,I.frm.glb,I.frm.blt,⟨"dict",fun zz => none,⟨.inr rfl,fun zz => rfl⟩,⟨_,#[],0,hL,rfl,rfl,rfl,fun e he => by simp at he,List.Pairwise.nil,fun zz => rfl⟩,fun x hx => ?_⟩,fun x hx => ?_,fun x y c hx hy h1 h2 => ?_,Zxb _ Zt,fun x c hx hc => ?_,fun a ha => ?_,fun a ha => ?_⟩
   · have:compLoc scope ρ x = none:=by
       exact if_neg fun q => rel_loc (q ▸ kd x ▸ hx)
     rw [this]; exact .none
   · rcases orig x hx with q | q
     · obtain ⟨c,hc,hm⟩:=ownL x q
       obtain ⟨g1,o,g2,g3,g4⟩:=cellAt x c hm
       refine ⟨c,o,none,hc,g2,g3,g4,?_,no c (Zkc g1)⟩
       have:compLoc scope ρ x = none:=by unfold compLoc; rw [if_neg (by rw [q]; simp)]
       rw [this]; exact .none
     · obtain ⟨c,o,v,f1,f2,f3,f4,f5,f6⟩:=I0.frm.cells x (outer x (mem_of_lookup q))
       refine ⟨c,o,v,(freeL x q).trans f1,f2,f3,f4,?_,f6⟩
       unfold compLoc; rw [if_pos q]; exact f5
   · have cross:∀ {x y:Str},scope.names.lookup x = some .cell → scope.names.lookup y = some .free → (cenvOf scope env s.heap.objs.size).cells.lookup x = some c → (cenvOf scope env s.heap.objs.size).cells.lookup y = some c → False:=fun {x y} q q' h1 h2 =>
       (ownL x q).elim fun c1 e => (I.frm.cells y (outer y (mem_of_lookup q'))).rec fun c' o v f1 f2 zz zz zz zz => by
         have e1:c1 = c:=sm_inj (e.1.symm.trans h1)
         have e2:c' = c:=sm_inj (f1.symm.trans ((freeL y q').symm.trans h2))
         exact absurd (Zu f2) (Zo.mpr (e2 ▸ e1 ▸ Zkc (cellAt x _ e.2).1))
     rcases orig x hx with q | q <;> rcases orig y hy with q' | q'
     · exact (ownL x q).elim fun c1 e1 => (ownL y q').elim fun c2 e2 => name_of_addr ok.apart (sm_inj (e1.1.symm.trans h1) ▸ e1.2) (sm_inj (e2.1.symm.trans h2) ▸ e2.2)
     · exact (cross q q' h1 h2).elim
     · exact (cross q' q h2 h1).elim
     · rw [freeL x q] at h1; rw [freeL y q'] at h2
       exact I.frm.inj x y c (outer x (mem_of_lookup q)) (outer y (mem_of_lookup q')) h1 h2
   · rcases orig x (.inl hx) with q | q
     · obtain ⟨c1,e1,m1⟩:=ownL x q
       rw [hc] at e1; cases e1
       exact Zxb _ (Zd _ (Zsb.mpr ⟨_,m1,rfl⟩))
     · rw [freeL x q] at hc
       exact Zyb _ (I.frm.cin x c (rel_cell (q ▸ kd x ▸ hx)) hc)
   · rcases Zm.mp ha with ha | ha
     · exact ⟨no a (Fge a ha),Za I.rep.size (Fge a ha)⟩
     · exact I0.frm.apart a ha
   · rcases Zm.mp ha with ha | ha
     · rcases Zg.mp ha with rfl | ha
       · exact ⟨_,hL,rfl,rfl⟩
       · obtain ⟨⟨x,c⟩,hm,rfl⟩:=Zsb.mp ha
         obtain ⟨zz,o,g2,g3,zz⟩:=cellAt x c hm
         exact ⟨o,g2,by simp [frozen,g3],itr_no g3 (by decide)⟩
     · exact I0.frm.there a ha
 · obtain ⟨c1,e1,m1⟩:=ownL x hx
   rw [hc] at e1; cases e1
   exact Zd _ (Zsb.mpr ⟨_,m1,rfl⟩)
end
end
section
noncomputable def IfsOk (T:Tp) (d:Nat) (sc:Scope) (ρ:Loc) (X:QX):List Expr → (Bool → Hp → Prop) → Hp → Prop
 | [],Q,σ => Q true σ
 | [c],Q,σ => TsOk T d sc ρ X c Q σ
 | z1,z2,z3 => False
theorem lookup_nodup {names:List (Str × NameKind)} (hn:(names.map (·.1)).Nodup) {x:Str} {k:NameKind} (h:(x,k) ∈ names):names.lookup x = some k:=by
 obtain ⟨k',hk'⟩:=lookup_of_mem h
 rw [hk',nodup_kind hn (mem_of_lookup hk') h]
theorem isStore_relab {scope sc:Scope} {x:Str} (h:isStore scope x = true):isStore (relab scope sc) x = true:=by
 refine isStore_of ?_
 have e:(relab scope sc).names.lookup x = (scope.names.lookup x).map (relK sc x):=relab_lookup scope.names x
 rw [e]
 rcases isStore_out h with q | q <;> rw [q]
 · exact .inl rfl
 · exact .inr rfl
section
variable {T:Tp} {A:Around} {fs:List Env} {d:Nat} {env:Env} {F:List Addr} {ι ι':Inj} {h h':Heap} {s:Shared} {ρ:Loc} {σ:Hp} {sc:Scope} {X:QX} {Q:QE}
theorem Inv.side {a:Addr} {o:Obj} {t:Nat} (I:Inv T A fs d env F ρ ι σ s) (hs:Heap.SameBut a s.heap h') (ho:s.heap.get? a = some o) (hl:loose o = true) (hf:frozen o = false) (hc:o.cls ≠ .type "cell") (hn:a ∉ own ι) (hF:a ∉ F) (hb:T.b0.objs.size ≤ a) :
   Inv T A fs d env F ρ ι σ { s with heap:=h',toks:=t }:=by
 have hk:∀ b o,b ≠ a → s.heap.get? b = some o → h'.get? b = some o:=fun b o q e => (hs.2 b q).trans e
 have m:Mono ι s.heap ι h':=.but hk ⟨o,ho,hl,hf⟩ ι
 have ne:∀ b z,s.heap.get? b = some z → loose z = false → b ≠ a:=fun b z e i q => Zv (i.symm.trans (sm_inj (ho.symm.trans (q ▸ e)) ▸ hl))
 exact ⟨I.rep.keeps m (Zr hs.1.symm) (fun b z e => hk b z (fun q => absurd (Zu e) (Zo.mpr (q ▸ hb))) (I.rep.base b z e)) fun b hb z e => hk b z (fun q => hn (q ▸ hb)) e,
   I.aok.keeps (fun zz n zz => n) (fun b z g zz c => ⟨z.slots,hk b z (ne b z g (by simp [loose,c])) g⟩) (I.aok.hx.keep fun b z C e1 e2 e3 => ⟨hk b z (ne b z e1 (loose_ref e2)) e1,e3⟩),
   I.frm.keeps m (fun zz n zz => n) (fun b z g hb zz => ⟨z,hk b z (fun q => hF (q ▸ hb)) g,rfl⟩) fun b z g zz zz c => ⟨z.slots,hk b z (c.elim (fun hb q => hF (q ▸ hb)) fun c q => hc (sm_inj (ho.symm.trans (q ▸ g)) ▸ c)) g⟩,I.top,I.gens,I.os⟩
theorem appendL {E:Value → Shared → Prop} {D:Addr} {items:Array Value} {n:Nat} {x:Value} {R:Value → Shared → Prop} (hL:IsL s.heap D items n) (hsz:items.size ≤ sizeLine)
   (k:∀ h' m,IsL h' D (items.push x) m → Heap.SameBut D s.heap h' → R .none { s with heap:=h' }):wpAny (model T.prog T.w) A (call (.builtin "list.append") [.ref D,x]) R E s:=by
 refine call_meets F.slot_list_append ⟨_,hL,rfl⟩ F.entry_list_append (F.args_list_append_2 _ _) (list_append D items n x hsz) ⟨hL,?_⟩
 refine k _ _ (Heap.get?_update_self _ hL rfl) (Heap.SameBut.update ..)
theorem iterSelf {E:Value → Shared → Prop} {v:V} {It:Addr} {i:Nat} {R:Value → Shared → Prop} (it:ItAt T ι s.heap v It i) (k:R (.ref It) s):wpAny (model T.prog T.w) A (pyIter (.ref It)) R E s:=by
 induction it with
 | asc x t it => exact wpAny_pyIter_striter_ascii it k
 | wide x t it => exact wpAny_pyIter_striter_wide it k
 | tup vs a items n ht hv it => exact wpAny_pyIter_tupleiter it k
 | lst l a d e it => exact wpAny_pyIter_listiter it k
 | rng n it => exact wpAny_pyIter_rangeiter it k
 | rev l n a d hi e it => exact wpAny_pyIter_revIter it k
theorem passOn_ok {L:Addr} {ea:Addr} {c:Str} {σ':Hp} {s':Shared} {cenv cenv':Env} {Fc:List Addr} {ρ':Loc} (hb:T.b0.objs.size ≤ h.objs.size) (f:FlyT T h.objs.size ea c s'.heap) (hn:ea ∉ own ι') (I:Inv T A fs d cenv Fc ρ' ι' σ' s') (e:Ext T [] ι h ι' s'.heap) (x:X c σ')
   (hL:cenv.locals = L) (hs:Heap.SameBut L s'.heap h') (hd:L ∉ frs fs) (hl:h.objs.size ≤ L) (hnf:cenv.frame ≠ some cenv.locals):wpAny (model T.prog T.w) A (PySem.passOn "comprehension.variables-let-go" (.ref ea) cenv':Sem Value) (fun zz zz => False) (PostX T [] X ι h) { s' with heap:=h' }:=by
 subst hL
 obtain ⟨cl,mm,hc,hN,zz⟩:=I.frm.ns
 obtain ⟨oL,es,ep,l1,l2,l3,l4,zz⟩:=hN
 have hk:∀ b o,b ≠ cenv.locals → s'.heap.get? b = some o → h'.get? b = some o:=fun b o q e => (hs.2 b q).trans e
 have f₀:=f
 obtain ⟨C,oe,vs,v,f1,f2,f3,f4,f5,f6,f7,f8,tb,ot,ts,rfl,t2,t3,t4,t5,t6,t7⟩:=f
 have ne1:ea ≠ cenv.locals:=fun q => by rw [q,l1] at f3; cases f3; rw [l4] at f5; cases f5
 have ne2:tb ≠ cenv.locals:=fun q => by rw [q,l1] at t4; cases t4; rw [l4] at t6; cases t6
 have f':FlyT T h.objs.size ea c h':=⟨C,oe,vs,_,f1,f2,hk _ _ ne1 f3,f4,f5,f6,f7,f8,tb,ot,ts,rfl,t2,t3,hk _ _ ne2 t4,t5,t6,t7⟩
 have ap:=I.frm.apart _ I.frm.loc
 obtain ⟨o₂,q1,q2,zz⟩:=I.frm.there _ I.frm.loc
 rw [l1] at q1; cases q1
 have S:∀ a ∈ frs fs,a ∉ own ι' ∧ T.b0.objs.size ≤ a ∧ ∃ o,h'.get? a = some o ∧ o.cls = .type "frame":=fun a ha => by
   obtain ⟨a1,a2,o,zz,zz,a3,a4,zz⟩:=I.aok.mem ha
   exact ⟨a1,a2,o,hk a o (fun q => hd (q ▸ ha)) a3,a4⟩
 have hns:∀ b,b ≠ cenv.locals → h'.get? b = s'.heap.get? b:=fun b q => hs.2 b q
 have q:=hc.2 hnf
 have m:Mono ι' s'.heap ι' h':=.but hk ⟨_,l1,by simp [loose,l2,q],q2⟩ ι'
 unfold PySem.passOn
 refine Zhb (wpAny_field (s:={ s' with heap:=h' }) (hk _ _ ne1 f3) f5 f8 ?_)
 rw [if_neg (by simp)]
 refine Zhb (flight_ok (S:=frs fs) (s:={ s' with heap:=h' }) f' fun h'' t f'' => wpAny_throw ?_)
 have R':Rep T ι' σ' h':=I.rep.keeps m (Zr hs.1.symm) (fun b z e => hk b z (fun q => absurd (Zu e) (Zo.mpr (q ▸ ap.2))) (I.rep.base b z e)) fun b hb z e => hk b z (fun q => ap.1 (q ▸ hb)) e
 have e':Ext T [] ι h ι' h':=e.free hk (Zr hs.1.symm) hl
 exact ⟨ea,c,σ',ι',rfl,x,f''.fly,hn,R'.touch t S ⟨oe,C,hk _ _ ne1 f3,f4⟩ hn hb f2,e'.touch t (fun a ha => (S a ha).2.2) f2,I.gens,I.os⟩
end
end
section
section
variable {T:Tp} {A:Around} {fs:List Env} {d:Nat} {env:Env} {F:List Addr} {ι ι':Inj} {h h':Heap} {s:Shared} {ρ:Loc} {σ:Hp} {sc:Scope} {X:QX} {Q:QE}
theorem comp_raise {cenv:Env} {Fc:List Addr} {ρ':Loc} {ι₂:Inj} {σ₂:Hp} {s₂ s₃:Shared} {x acc:Value} {R:Value → Shared → Prop} {use:Option (Value → Sem Unit)} {EE:Value → Shared → Prop} (hE:∀ x s',PostX T [] X ι h x s' → EE x s') (hb:T.b0.objs.size ≤ h.objs.size) (I₂:Inv T A fs d cenv Fc ρ' ι₂ σ₂ s₂) (e₂:Ext T [] ι h ι₂ s₂.heap) (p:PostX T [] X ι₂ s₂.heap x s₃)
   (hd:cenv.locals ∉ frs fs) (hl:h.objs.size ≤ cenv.locals) (hnf:cenv.frame ≠ some cenv.locals) :
   notedBy (model T.prog T.w) A cenv (fun e s' => compPost (model T.prog T.w) A EE use R acc cenv.locals (.error e) s') x s₃:=by
 obtain ⟨ea,c,σ₃,ι₃,rfl,hx,f,n,rp,e',g,o⟩:=p
 have I₃:=I₂.ext e' rp g o
 have e₃:=e₂.trans e'
 have f₃:=f.lo e₂.size
 have hle:h.objs.size ≤ ea:=by obtain ⟨zz,zz,zz,zz,zz,q,zz⟩:=f₃; exact q
 unfold notedBy
 refine note_ok I₃ f₃ e₃.size fun h₄ t f₄ => ?_
 have I₄:=I₃.touch t f₃ n hb hle
 have e₄:=e₃.touch t (fun a ha => (by obtain ⟨_,_,o,_,_,g,gc,_⟩:=I₃.aok.mem ha; exact ⟨o,g,gc⟩)) hle
 obtain ⟨cl,mm,hc,hN,zz⟩:=I₄.frm.ns
 have key:∃ m,h₄.Ns cenv.locals m ∧ ∀ h',Heap.SameBut cenv.locals h₄ h' → ∀ cenv':Env,cenv'.locals = cenv.locals → wpAny (model T.prog T.w) A (PySem.passOn "comprehension.variables-let-go" (.ref ea) cenv':Sem Value) (fun zz zz => False) EE { s₃ with heap:=h' } :=
   ⟨mm,hN.ns,fun h₅ hs cenv' zz => Zib (passOn_ok (s':={ s₃ with heap:=h₄ }) hb f₄ n I₄ e₄ hx rfl hs hd hl hnf) (fun zz zz f => f) fun x s' p => hE x s' p⟩
 cases use <;> exact key
theorem ifs_ok {E:Value → Shared → Prop} {cenv:Env} {Fc:List Addr} {ifs:List Expr} {Q':Bool → Hp → Prop} {R:Bool → Shared → Prop} (hsc:cenv.scope = sc) (I:Inv T A fs d cenv Fc ρ ι σ s) (hi:IfsOk T d sc ρ X ifs Q' σ)
   (k:∀ b s',PostB T Q' ι s.heap b s' → R b s') (kx:∀ x s',PostX T [] X ι s.heap x s' → E x s') :
   wpAny (model T.prog T.w) A (forIn ifs true fun c r => if r = true then do let ok ← isTrue c cenv (eval c cenv); pure (ForInStep.yield ok) else pure (ForInStep.yield r)) R E s:=by
 rcases ifs with zz | ⟨c,zz | zz⟩
 · rw [List.forIn_nil]; exact Zjb (k _ _ ⟨σ,ι,hi,I.rep,.refl ..,I.gens,I.os⟩)
 · rw [List.forIn_cons,if_pos rfl]
   refine Zhb (Zhb (Zib (hi cenv A fs Fc ι s hsc I) (fun b s' p => Zjb ?_) fun x s' p => kx x s' p))
   show wpAny _ _ (forIn [] b _) _ _ _
   rw [List.forIn_nil]; exact Zjb (k _ _ p)
 · exact (show False from hi).elim
theorem upd_upd {ρ ρ':Loc} {x:Str} {v:Option V} (h:∀ y,y ≠ x → ρ' y = ρ y):upd ρ' x v = upd ρ x v:=by
 funext y; unfold upd; split
 · rfl
 · rename_i q; exact h y q
structure LetGo (T:Tp) (F:List Addr) (ι:Inj) (h₀ h:Heap) (L:Addr):Prop where
 no:L ∉ own ι
 nF:L ∉ F
 b:T.b0.objs.size ≤ L
 lo:h₀.objs.size ≤ L
 dict:∃ m,NsC h L "dict" m
inductive CompOk (T:Tp) (d:Nat) (sc:Scope) (ρ:Loc) (X:QX) (scope:Scope) (x:Str) (ifs:List Expr) (elt:Expr) (Q:QE) (v:V) (σ₁:Hp):Prop where
 | mk (items:List V) (J:Nat → List V → Hp → Prop) (h0:J 0 [] σ₁) (h1:∀ i acc σ,J i acc σ → iterV σ v = some items ∧ acc.length ≤ sizeLine) (h2:∀ acc σ,J items.length acc σ → Q (.ref σ.length) (σ ++ [.list acc]))
     (h3:∀ i y acc σ,J i acc σ → items[i]? = some y → IfsOk T d (relab scope sc) (upd (compLoc scope ρ) x (some y)) X ifs (fun b σ' => if b then EvOk T d (relab scope sc) (upd (compLoc scope ρ) x (some y)) X elt (fun z σ'' => J (i + 1) (acc ++ [z]) σ'') σ' else J (i + 1) acc σ') σ):CompOk T d sc ρ X scope x ifs elt Q v σ₁
theorem comp_core {elt iter:Expr} {x:Str} {px pos:Pos} {ifs:List Expr} {scope:Scope} {use:Option (Value → Sem Unit)} {RR:Value → Shared → Prop} {EE:Value → Shared → Prop} (I:Inv T A fs d env F ρ ι σ s) (hok:compOk scope env.scope = true) (hx:isStore scope x = true) (hs:noSet iter = true)
   (he:ItOk T d env.scope ρ X iter (fun v σ₁ => (T.hd = false ∨ ∃ n,v = .rng n) ∧ CompOk T d env.scope ρ X scope x ifs elt Q v σ₁) σ)
   (hfin:∀ v σ₂ ι₂ s₂ D L,Q v σ₂ → Inv T A fs d env F ρ ι₂ σ₂ s₂ → VRel T ι₂ s₂.heap v (.ref D) → Ext T [] ι s.heap ι₂ s₂.heap → LetGo T F ι₂ s.heap s₂.heap L → compPost (model T.prog T.w) A EE use RR (.ref D) L (.ok .next) s₂)
   (hE:∀ x s',PostX T [] X ι s.heap x s' → EE x s') :
   wpAny (model T.prog T.w) A (comprehension (.ListComp elt [⟨.Name x px,iter,ifs,0⟩] scope pos) scope env (firstIterPos [⟨.Name x px,iter,ifs,0⟩] pos) (newList []) (firstAsync [⟨.Name x px,iter,ifs,0⟩]) (firstIter [⟨.Name x px,iter,ifs,0⟩] env) use) RR EE s:=by
 have hclos:=(comp_frame I hok _ rfl).1
 have hok':=hok
 simp only [compOk,Zob,beq_iff_eq,decide_eq_true_eq] at hok'
 have hkind:=hok'.1.1
 have hnd:=hok'.1.2
 refine wpAny_comprehension_free (use:=use) (cl:=closeFrom env scope.names []) rfl (fun zz => folded_no hs) hclos hkind (fun y hy hl => by obtain ⟨n,k⟩:=y; cases hl; exact lookup_nodup hnd hy) ?_
 show wpAny _ A (eval iter env) _ _ s
 refine Zib (he env A fs F ι s rfl I) (fun xv s₁ p => ?_) fun zz zz p => hE _ _ p
 refine iter_go I p (fun v σ hQ => hQ.2.rec fun items J j0 jit z1 z2 => ⟨items,(jit 0 [] _ j0).1⟩) fun v σ₁ ι₁ Ia H2 hQ I₁ ex it0 nI0 hI0 => ?_
 have hRn:=hQ.1
 refine hQ.2.rec fun items J j0 jit jend jturn => ?_
 refine wpAny_newList ?_
 dsimp only
 generalize hH3:H2.push { cls:=.type "list",data:=.seq ([]:List Value).toArray } = H3
 have sz3:H3.objs.size = H2.objs.size + 1:=by rw [← hH3,Zqb]
 have l12:Ia < H2.objs.size:=it0.iterish.elim fun o h => Zu h.1
 have l23:H2.objs.size < H3.objs.size:=sz3 ▸ Zs _
 have l13:=Nat.lt_trans l12 l23
 have k23:∀ b o,H2.get? b = some o → H3.get? b = some o:=fun b o e => by rw [← hH3]; exact Zx _ e
 have hD:IsL H3 H2.objs.size #[] 0:=by rw [← hH3]; exact IsL.new H2 #[]
 have I₃:Inv T A fs d env F ρ ι₁ σ₁ { s₁ with heap:=H3 }:=I₁.grown (h':=H3) (Zq l23) k23
 have e13:Ext T [] ι₁ H2 ι₁ H3:=.of_keeps (Zq l23) k23
 simp only [newFunctionEnv,Option.isSome_some,if_true]
 refine Zhb (wpAny_alloc ?_)
 refine Zhb (wpAny_layCells _ (fun name kind cells => by cases hkc:kind == NameKind.cell <;> simp [hkc]) _ _ _ _ ?_)
 refine (comp_frame I₃ hok _ rfl).2.elim fun Fn h => and5 h fun hFn I₄ e34 hcell hLF => ?_
 refine Zhb ?_
 rw [List.forIn_nil]
 refine Zjb (Zjb ?_)
 dsimp only
 rw [show ({ s₁ with heap:=H3.push { cls:=.type "dict",data:=.dict #[] } }:Shared).heap.objs.size = H3.objs.size + 1 from Zqb ..]
 show codeAny _ A (.compStart _ 0 (.ref Ia) (.ref H2.objs.size) (cenvOf scope env H3.objs.size)) _ _
 generalize hh4:pushCells (H3.push { cls:=.type "dict",data:=.dict #[] }) scope.names = h4 at I₄ e34 ⊢
 have Lc:(cenvOf scope env H3.objs.size).locals = H3.objs.size:=rfl
 generalize hce:cenvOf scope env H3.objs.size = cenv at I₄ hcell Lc ⊢
 have cfr:cenv.frame = env.frame:=by rw [← hce]; rfl
 have csc:cenv.scope = relab scope env.scope:=by rw [← hce]; rfl
 have hb:=I.rep.size
 have hb1:=I₁.rep.size
 have hd:cenv.locals ∉ frs fs:=fun q => by
   obtain ⟨zz,zz,ofr,zz,zz,a3,zz⟩:=I₁.aok.mem q
   rw [Lc] at a3
   have z:H3.objs.size < H2.objs.size:=Zu a3
   exact Nat.lt_asymm l23 z
 have hnf:cenv.frame ≠ some cenv.locals:=fun q => hd (by
   obtain ⟨te,tr,tL,tfs,tf1,tf2⟩:=I₁.top
   rw [cfr,tf2] at q; rw [← Zab q,tfs]
   unfold frs; rw [List.filterMap_cons,tf1]; exact Zt)
 have hl:s.heap.objs.size ≤ cenv.locals:=by rw [Lc]; exact Za ex.size (Zq l23)
 have hFF:∀ a ∈ F,a < H2.objs.size:=fun a ha => (I₁.frm.there a ha).lt
 have hDF:H2.objs.size ∉ Fn ++ F:=fun q => by
   rcases Zm.mp q with q | q
   · have z:H3.objs.size ≤ H2.objs.size:=hFn _ q
     exact Zo.mpr z l23
   · exact Zub _ (hFF _ q)
 have no1:∀ a,H2.objs.size ≤ a → a ∉ own ι₁:=fun a ha q => absurd (I₁.rep.own_lt q) (Zo.mpr ha)
 have k34:∀ b o,H3.get? b = some o → h4.get? b = some o:=fun b o e => by rw [← hh4]; exact pushCells_keeps _ _ _ _ (Zx _ e)
 have it4:ItAt T ι₁ h4 v Ia 0:=it0.keep ⟨⟨[],by simp⟩,fun a o e zz => ⟨o,k34 a o (k23 a o e),rfl⟩,fun a o e zz => k34 a o (k23 a o e)⟩ fun o e => k34 _ o (k23 _ o e)
 have hD4:IsL h4 H2.objs.size #[] 0:=k34 _ _ hD
 have e4:Ext T [] ι s.heap ι₁ h4:=ex.trans (e13.trans e34)
 have hD0:s.heap.objs.size ≤ H2.objs.size:=ex.size
 have hbI:T.b0.objs.size ≤ Ia:=Za hb hI0
 have loop:codeAny (model T.prog T.w) A (.compLoop (.ListComp elt [⟨.Name x px,iter,ifs,0⟩] scope pos) 0 (.ref Ia) (.ref H2.objs.size) cenv)
     (compPost (model T.prog T.w) A EE use RR (.ref H2.objs.size) cenv.locals) { s₁ with heap:=h4 }:=by
   obtain ⟨JJ,hJJ⟩:∃ JJ:Nat → Shared → Prop,∀ n s',JJ n s' ↔ ∃ i acc σ' ι' ρ' its m,n = items.length - i ∧ i ≤ items.length ∧ J i acc σ' ∧ Inv T A fs d cenv (Fn ++ F) ρ' ι' σ' s' ∧ (∀ y,y ≠ x → ρ' y = compLoc scope ρ y) ∧ Ext T [] ι s.heap ι' s'.heap ∧
     ItAt T ι' s'.heap v Ia i ∧ Ia ∉ own ι' ∧ H2.objs.size ∉ own ι' ∧ IsL s'.heap H2.objs.size its m ∧ VRels T ι' s'.heap acc its.toList:=⟨_,fun zz zz => Iff.rfl⟩
   refine codeAny_loop rfl JJ (fun n s' hJ => ?_) items.length ((hJJ _ _).mpr ⟨0,[],σ₁,ι₁,compLoc scope ρ,#[],0,rfl,Zkb _,j0,I₄,fun zz zz => rfl,e4,it4,nI0,no1 _ (Zl _),hD4,trivial⟩)
   refine ex7 ((hJJ _ _).mp hJ) fun i acc σ' ι' ρ' its m h => and11 h fun hn0 hi j I' hρ e' it nI nD hL hv => ?_
   clear h
   show wpAny _ _ ((compTurn (.ListComp elt [⟨.Name x px,iter,ifs,0⟩] scope pos) 0 (.ref Ia) (.ref H2.objs.size) cenv).onRaise (fun x => do noteFrame x cenv; theTreesLotGoes x)) _ _ s'
   refine wpAny_noted ?_
   rw [compTurn_list]
   have isit:=it.iterish
   have ji:=jit i acc σ' j
   by_cases hlt:i < items.length
   · have hy:items[i]? = some items[i]:=Zp hlt
     refine Zhb (wpAny_standAt (Zhb (next_ok I'.rep it nI ji.1 hy fun h5 t5 y5 hs5 ry it5 => ?_)))
     have k5:∀ b o,b ≠ Ia → s'.heap.get? b = some o → h5.get? b = some o:=fun b o q e => (hs5.2 b q).trans e
     have I5:Inv T A fs d cenv (Fn ++ F) ρ' ι' σ' { s' with heap:=h5,toks:=t5 }:=I'.free k5 (Zr hs5.1.symm) isit nI hbI
     have e5:Ext T [] ι s.heap ι' h5:=e'.free k5 (Zr hs5.1.symm) hI0
     have m5:Mono ι' s'.heap ι' h5:=.free k5 isit ι'
     have hDI:H2.objs.size ≠ Ia:=Zoc l12
     have hL5:IsL h5 H2.objs.size its m:=k5 _ _ hDI hL
     refine Zhb (letOwned_ok (s:={ s' with heap:=h5,toks:=t5 }) it5 ?_)
     refine Zhb (wpAny_assign_Name (store_at I5.rep I5.frm (by rw [csc]; exact isStore_relab hx) ry fun h6 t6 R6 H6 e6 ds6 a6 => ?_))
     have I6:=I5.stored (t:=t6) R6 H6 e6 ds6
     rw [upd_upd hρ] at I6
     refine a6.elim fun a ha6 => ?_
     have hs6:=ha6.1
     have ha:=ha6.2
     have aF:a ∈ Fn:=by
       rcases ha with rfl | ⟨ka,ca⟩
       · rw [Lc]; exact hLF
       · have hxs:scope.names.lookup x = some .local ∨ scope.names.lookup x = some .cell:=by
           exact isStore_out hx
         have hxc:scope.names.lookup x = some .cell:=by
           rcases hxs with q | q
           · exfalso
             have:cenv.kindOf x = (scope.names.lookup x).map (relK env.scope x):=by rw [← hce]; exact relab_lookup scope.names x
             rw [ka,q] at this; simp [relK] at this
           · exact q
         exact hcell x a hxs ca hxc
     have aL:H3.objs.size ≤ a:=hFn a aF
     have k6:∀ b o,b ≠ a → h5.get? b = some o → h6.get? b = some o:=fun b o q e => (hs6.2 b q).trans e
     have e6':Ext T [] ι s.heap ι' h6:=e5.free k6 (Zr hs6.1.symm) (Za (Za hD0 (Zq l23)) aL)
     have itne:Ia ≠ a:=Znc (Zz l13 aL)
     have Dne:H2.objs.size ≠ a:=Znc (Zz l23 aL)
     have it6:ItAt T ι' h6 v Ia (i + 1):=it5.keep e6.mono fun o e => k6 _ o itne e
     have hL6:IsL h6 H2.objs.size its m:=k6 _ _ Dne hL5
     have hv6:VRels T ι' h6 acc its.toList:=(hv.mono m5).mono e6.mono
     have hv':=hv6.length
     simp only [Array.length_toList] at hv'
     have next:∀ (s7:Shared) (σ7:Hp) (ι7:Inj),J (i + 1) acc σ7 → Inv T A fs d cenv (Fn ++ F) (upd (compLoc scope ρ) x (some items[i])) ι7 σ7 s7 → Ext T [] ι' h6 ι7 s7.heap → ∃ m,m < n ∧ JJ m s7:=fun s7 σ7 ι7 j7 I7 e7 => by
       obtain ⟨oi,gi,gii⟩:=it6.iterish
       refine ⟨items.length - (i + 1),hn0 ▸ Nat.sub_lt_sub_left hlt (Zs i),(hJJ _ _).mpr ⟨i + 1,acc,σ7,ι7,_,its,m,rfl,hlt,j7,I7,fun y hy => by unfold upd; rw [if_neg hy],e6'.trans e7,it6.keep e7.mono fun o ho => e7.keep _ o ho nI (by simp) fun q => ?_,e7.not_own nI (Zu gi),e7.not_own nD (Zu hL6),e7.keep _ _ hL6 nD (by simp) (by simp),hv6.mono e7.mono⟩⟩
       rw [gi] at ho; cases ho; exact Zv ((iterish_no q (by decide)).symm.trans gii)
     show wpAny _ _ (forIn ifs true (fun c r => if r = true then do let ok ← isTrue c cenv (eval c cenv); pure (ForInStep.yield ok) else pure (ForInStep.yield r)) >>= _) _ _ _
     refine Zhb (ifs_ok csc I6 (jturn i items[i] acc σ' j hy) (fun b s7 p => ?_) fun z s7 p => comp_raise hE hb I6 e6' p hd hl hnf)
     refine p.rec fun σ7 ι7 q7 rp7 e7 g7 o7 => ?_
     have I7:=I6.ext e7 rp7 g7 o7
     cases b with
     | false => exact Zjb ⟨rfl,next s7 σ7 ι7 q7 I7 e7⟩
     | true =>
       have e67:=e6'.trans e7
       refine Zhb (Zhb (Zib (q7 cenv A fs (Fn ++ F) ι7 s7 csc I7) (fun z s8 p => ?_) fun z s8 p => comp_raise hE hb I7 e67 p hd hl hnf))
       refine p.rec fun zv σ8 ι8 j8 rz rp8 e8 g8 o8 => ?_
       have I8:=I7.ext e8 rp8 g8 o8
       have e78:=e7.trans e8
       have hL8:IsL s8.heap H2.objs.size its m:=e78.keep _ _ hL6 nD (by simp) (by simp)
       have nD8:=e78.not_own nD (Zu hL6)
       obtain ⟨oi,gi,gii⟩:=it6.iterish
       have nI8:=e78.not_own nI (Zu gi)
       have it8:ItAt T ι8 s8.heap v Ia (i + 1):=it6.keep e78.mono fun o ho => e78.keep _ o ho nI (by simp) fun q => by rw [gi] at ho; cases ho; exact Zv ((iterish_no q (by decide)).symm.trans gii)
       refine Zhb (appendL hL8 (by rw [hv']; exact ji.2) fun h9 m9 hL9 hs9 => Zjb (Zjb ⟨rfl,?_⟩))
       have I9:Inv T A fs d cenv (Fn ++ F) (upd (compLoc scope ρ) x (some items[i])) ι8 σ8 { s8 with heap:=h9 }:=I8.side (t:=s8.toks) hs9 hL8 rfl rfl (by simp) nD8 hDF hb1
       have k9:∀ b o,b ≠ H2.objs.size → s8.heap.get? b = some o → h9.get? b = some o:=fun b o q e => (hs9.2 b q).trans e
       have m9':Mono ι8 s8.heap ι8 h9:=.but k9 ⟨_,hL8,rfl,rfl⟩ ι8
       refine ⟨items.length - (i + 1),hn0 ▸ Nat.sub_lt_sub_left hlt (Zs i),(hJJ _ _).mpr ⟨i + 1,acc ++ [zv],σ8,ι8,_,its.push z,m9,rfl,hlt,j8,I9,fun y hy => by unfold upd; rw [if_neg hy],(e6'.trans e78).free k9 (Zr hs9.1.symm) hD0,it8.keep m9' fun o ho => k9 _ o (Ne.symm hDI) ho,nI8,nD8,hL9,?_⟩⟩
       rw [Array.toList_push]
       refine ((hv6.mono e78.mono).mono m9').append ?_
       exact ⟨rz.mono m9',trivial⟩
   · have hil:i = items.length:=Nat.le_antisymm hi (Zo.mp hlt)
     refine Zhb (wpAny_standAt (Zhb (end_ok (hRn.imp I'.aok.hd fun q => ⟨I'.aok.hx,q⟩) I'.rep it ji.1 (Zo.mp hlt) fun h5 he5 hz5 => Zjb ?_)))
     have I5:Inv T A fs d cenv (Fn ++ F) ρ' ι' σ' { s' with heap:=h5 }:=I'.free (t:=s'.toks) (fun b o q e => he5 b o q e) hz5 isit nI hbI
     have m5:Mono ι' s'.heap ι' h5:=.free (fun b o q e => he5 b o q e) isit ι'
     have e5:Ext T [] ι s.heap ι' h5:=e'.free (fun b o q e => he5 b o q e) hz5 hI0
     have hDI:H2.objs.size ≠ Ia:=Zoc l12
     have hL5:IsL h5 H2.objs.size its m:=he5 _ _ hDI hL
     refine I5.frm.ns.rec fun cl mm hc hN zz => ?_
     rw [hc.2 hnf] at hN
     have mz:Mono ι' h5 (ι' ++ [(H2.objs.size,H2.objs.size)]) h5:=⟨⟨_,rfl⟩,fun zz o e zz => ⟨o,e,rfl⟩,fun zz zz e zz => e⟩
     have R5:Rep T (ι' ++ [(H2.objs.size,H2.objs.size)]) (σ' ++ [.list acc]) h5:=I5.rep.more (o:=.list acc) (p:=(H2.objs.size,H2.objs.size)) ⟨rfl,its.toList,⟨m,by simpa using hL5⟩,(hv.mono m5).mono mz⟩ hb1 hb1 nD nD
     have moreX:∀ {ι₀:Inj} {h₀:Heap},Ext T [] ι₀ h₀ ι' h5 → h₀.objs.size ≤ H2.objs.size → Ext T [] ι₀ h₀ (ι' ++ [(H2.objs.size,H2.objs.size)]) h5:=fun e6 hz => by
       obtain ⟨κ,hκ,hκ'⟩:=e6.pre
       exact ⟨⟨κ ++ [(H2.objs.size,H2.objs.size)],by rw [hκ]; simp,fun p hp => by
         rcases Zm.mp hp with hp | hp
         · exact hκ' p hp
         · cases Zj.mp hp; exact ⟨hz,hz⟩⟩,e6.size,e6.cls,e6.frz,e6.keep,e6.frm⟩
     have ap:=I5.frm.apart _ I5.frm.loc
     have nL:cenv.locals ∉ own (ι' ++ [(H2.objs.size,H2.objs.size)]):=fun q => by
       rw [own_append,Zm] at q
       rcases q with q | q
       · exact ap.1 q
       · have:cenv.locals = H2.objs.size:=by simpa [own] using q
         rw [Lc,sz3] at this; exact absurd this (Nat.succ_ne_self _)
     have lF:cenv.locals ∉ F:=fun q => by
       have z:=hFF _ q
       rw [Lc] at z
       exact Nat.lt_asymm l23 z
     have Iout:Inv T A fs d env F ρ (ι' ++ [(H2.objs.size,H2.objs.size)]) (σ' ++ [.list acc]) { s' with heap:=h5 }:=I.ext (s':={ s' with heap:=h5 }) (moreX e5 hD0) R5 I'.gens I'.os
     refine hfin (.ref σ'.length) (σ' ++ [.list acc]) (ι' ++ [(H2.objs.size,H2.objs.size)]) { s' with heap:=h5 } H2.objs.size cenv.locals (jend acc σ' (hil ▸ j)) Iout ?_ (moreX e5 hD0) ⟨nL,lF,ap.2,hl,mm,hN⟩
     exact ⟨H2.objs.size,H2.objs.size,rfl,by rw [← I5.rep.len]; simp⟩
 rw [Lc] at loop
 exact codeAny_compStart_list loop (iterSelf it4 loop)
theorem EvOk.compI {elt iter:Expr} {x:Str} {px pos:Pos} {ifs:List Expr} {scope:Scope} (hok:compOk scope sc = true) (hx:isStore scope x = true) (hs:noSet iter = true)
   (he:ItOk T d sc ρ X iter (fun v σ₁ => (T.hd = false ∨ ∃ n,v = .rng n) ∧ CompOk T d sc ρ X scope x ifs elt Q v σ₁) σ) :
   EvOk T d sc ρ X (.ListComp elt [⟨.Name x px,iter,ifs,0⟩] scope pos) Q σ:=by
 intro env A fs F ι s hsc I
 subst hsc
 rw [eval_ListComp]
 refine comp_core I hok hx hs he (fun v σ₂ ι₂ s₂ D L q I₂ rv e₂ lg => ?_) fun zz zz p => p
 obtain ⟨no,nF,hb,lo,m,hN⟩:=lg
 refine ⟨m,hN.ns,fun h' hs' => ?_⟩
 obtain ⟨o,es,ep,g1,g2,zz⟩:=hN
 have I₃:Inv T A fs d env F ρ ι₂ σ₂ { s₂ with heap:=h' }:=I₂.side (t:=s₂.toks) hs' g1 (by simp [loose,g2]) (by simp [frozen,g2]) (by rw [g2]; simp) no nF hb
 have k:∀ b o,b ≠ L → s₂.heap.get? b = some o → h'.get? b = some o:=fun b o q e => (hs'.2 b q).trans e
 exact ⟨v,σ₂,ι₂,q,rv.mono (.but k ⟨o,g1,by simp [loose,g2],by simp [frozen,g2]⟩ ι₂),I₃.rep,e₂.free k (Zr hs'.1.symm) lo,I₃.gens,I₃.os⟩
theorem EvOk.compR {elt iter:Expr} {x:Str} {px pos:Pos} {ifs:List Expr} {scope:Scope} (hok:compOk scope sc = true) (hx:isStore scope x = true) (hs:noSet iter = true)
 (he:EvOk T d sc ρ X iter (fun v σ₁ => (T.hd = false ∨ ∃ n,v = .rng n) ∧ CompOk T d sc ρ X scope x ifs elt Q v σ₁) σ) :
 EvOk T d sc ρ X (.ListComp elt [⟨.Name x px,iter,ifs,0⟩] scope pos) Q σ:=.compI hok hx hs he.it
theorem EvOk.comp {elt iter:Expr} {x:Str} {px pos:Pos} {ifs:List Expr} {scope:Scope} (hok:compOk scope sc = true) (hx:isStore scope x = true) (hs:noSet iter = true)
 (he:EvOk T d sc ρ X iter (fun v σ₁ => CompOk T d sc ρ X scope x ifs elt Q v σ₁) σ) (hT:T.hd = false:=by rfl) :
 EvOk T d sc ρ X (.ListComp elt [⟨.Name x px,iter,ifs,0⟩] scope pos) Q σ:=.compR hok hx hs (he.mono (fun zz zz p => ⟨.inl hT,p⟩) fun zz zz p => p)
end
end
section
section
variable {T:Tp} {A:Around} {fs:List Env} {d:Nat} {env:Env} {F:List Addr} {ι ι':Inj} {h h':Heap} {s:Shared} {ρ:Loc} {σ:Hp} {sc:Scope} {X:XS} {Q:QS}
theorem swaps_yes {elt:Expr} {gens:List Comprehension} {y:Str} {py pos:Pos} {scope:Scope} {l:Nat} (hkind:env.scope.kind = .function) (hy:env.kindOf y = some .local) (hsw:(py.line == pos.line && !(scope.names.any fun (n,k) => n == y && (k == .local || k == .cell))) = true) :
   swapsWith (.ListComp elt gens scope pos) (some (.Name y py)) l env = pure true:=by
 have:swapsWith (.ListComp elt gens scope pos) (some (.Name y py)) l env = (pure (env.blockKind == .function && env.kindOf y == some .local && py.line == pos.line && !(scope.names.any fun (n,k) => n == y && (k == .local || k == .cell))):Sem Bool):=rfl
 rw [this]
 simp only [Zob] at hsw
 rw [hsw.1,hsw.2,hy,show env.blockKind = .function by unfold Env.blockKind; rw [hkind]; rfl]; rfl
theorem usedComp_ok {RR:Value → Shared → Prop} {EE:Value → Shared → Prop} {y:Str} {py:Pos} {v:V} {σ₂:Hp} {ι₂:Inj} {s₂:Shared} {D L:Addr} (hy:isStore env.scope y = true) (I₂:Inv T A fs d env F ρ ι₂ σ₂ s₂) (rv:VRel T ι₂ s₂.heap v (.ref D)) (e₂:Ext T [] ι s.heap ι₂ s₂.heap) (lg:LetGo T F ι₂ s.heap s₂.heap L)
   (k:∀ s',Inv T A fs d env F (upd ρ y (some v)) ι₂ σ₂ s' → Ext T F ι s.heap ι₂ s'.heap → RR .none s') :
   compPost (model T.prog T.w) A EE (some (assign (.Name y py) env)) RR (.ref D) L (.ok .next) s₂:=by
 obtain ⟨no,nF,hb,lo,m,hN⟩:=lg
 show wpAny _ A (assign (.Name y py) env (.ref D)) _ _ s₂
 refine wpAny_assign_Name (store_at I₂.rep I₂.frm hy rv fun h₃ t₃ R₃ H₃ e₃ ds₃ a₃ => ?_)
 have I₃:=I₂.stored (t:=t₃) R₃ H₃ e₃ ds₃
 obtain ⟨a,hs₃,ha⟩:=a₃
 have aF:a ∈ F:=by
   rcases ha with rfl | ⟨ka,ca⟩
   · exact I₂.frm.loc
   · exact I₂.frm.cin y a ka ca
 have hLa:L ≠ a:=fun q => nF (q ▸ aF)
 have hN₃:=hN.sameBut hs₃ hLa
 refine ⟨m,hN₃.ns,fun h₄ hs₄ => ?_⟩
 obtain ⟨o,es,ep,g1,g2,zz⟩:=hN₃
 have I₄:Inv T A fs d env F _ ι₂ σ₂ { s₂ with heap:=h₄,toks:=t₃ }:=I₃.side (t:=t₃) hs₄ g1 (by simp [loose,g2]) (by simp [frozen,g2]) (by rw [g2]; simp) no nF hb
 have kk:∀ b o,b ≠ L → h₃.get? b = some o → h₄.get? b = some o:=fun b o q e => (hs₄.2 b q).trans e
 exact k _ I₄ ((e₂.up.trans e₃).free kk (Zr hs₄.1.symm) lo)
theorem StOk.assignComp {elt iter:Expr} {y x:Str} {py px pos pos':Pos} {ifs:List Expr} {scope:Scope} (hok:compOk scope sc = true) (hx:isStore scope x = true) (hs:noSet iter = true) (hy:sc.names.lookup y = some .local)
   (hsw:(py.line == pos.line && !(scope.names.any fun (n,k) => n == y && (k == .local || k == .cell))) = true)
   (he:EvOk T d sc ρ X iter (fun v σ₁ => CompOk T d sc ρ X scope x ifs elt (fun w σ => Q .next (upd ρ y (some w)) σ) v σ₁) σ) (hT:T.hd = false:=by rfl) :
   StOk T d sc ρ X (.Assign [.Name y py] (.ListComp elt [⟨.Name x px,iter,ifs,0⟩] scope pos) pos') Q σ:=by
 intro env A fs F ι s hsc I
 subst hsc
 rw [exec_Assign_Name_used _ _ _ _ (swaps_yes I.frm.kind hy hsw)]
 refine Zhb (wpAny_standAt (Zhb ?_))
 show wpAny _ A (do let _ ← comprehension (.ListComp elt [⟨.Name x px,iter,ifs,0⟩] scope pos) scope env _ (newList []) false (eval iter env) (some (PySem.assign (.Name y py) env))) _ _ s
 have core:=comp_core (use:=some (PySem.assign (.Name y py) env)) (RR:=fun zz s' => PostS T A fs d env F Q ι s.heap .next s') (EE:=PostSX T A fs d env F X ι s.heap) (Q:=fun v σ₁ => Q .next (upd ρ y (some v)) σ₁) (pos:=pos) (px:=px) I hok hx hs (he.mono (fun zz zz p => ⟨.inl hT,p⟩) fun zz zz p => p).it
   (fun v σ₂ ι₂ s₂ D L q I₂ rv e₂ lg => usedComp_ok (py:=py) (by unfold isStore; rw [hy]) I₂ rv e₂ lg fun s' I' e' => ⟨.next,_,σ₂,ι₂,q,.next,I',e'⟩) fun zz zz p => p.sx I fun zz zz k => k
 exact Zhb (Zib core (fun zz s' hq => Zjb (Zjb hq)) fun zz zz e => e)
theorem StOk.assignCell {x:Str} {pos' pos:Pos} {e:Expr} (q:EvOk T d sc ρ X e (fun v σ' => Q .next (upd ρ x (some v)) σ') σ) (hk:sc.names.lookup x = some .cell) :
   StOk T d sc ρ X (.Assign [.Name x pos'] e pos) Q σ:=by
 intro env A fs F ι s hsc I
 subst hsc
 have hsw:swapsWith e (some (.Name x pos')) pos.line env = pure false:=by
   have kx:env.kindOf x = some .cell:=hk
   cases e <;> first | rfl | skip
   all_goals
     show (pure (env.blockKind == .function && env.kindOf x == some .local && _ && _):Sem Bool) = pure false
     rw [kx,show (some NameKind.cell == some NameKind.local) = false from rfl,Bool.and_false,Bool.false_and,Bool.false_and]
 refine wpAny_Assign_Name (Zib (q env A fs F ι s rfl I) (fun y s₁ p => ?_) fun zz zz p => p.sx I fun zz zz k => k) hsw
 obtain ⟨v,σ₁,ι₁,q,rv,rp,ex,g,o⟩:=p
 have I₁:=I.ext ex rp g o
 refine store_ok I₁.rep I₁.frm (by unfold isStore; rw [hk]) rv fun h' t R' H' e' ds => ?_
 exact ⟨.next,_,σ₁,ι₁,q,.next,I₁.stored R' H' e' ds,ex.up.trans e'⟩
end
end
section
section
variable {T:Tp} {d:Nat} {X:QX} {Q:QE} {σ:Hp} {A:Around} {fs:List Env} {ι:Inj} {s:Shared} {h':Heap}
theorem VRels.one {v:V} {xs:List Value} {h:Heap} (r:VRels T ι h [v] xs):∃ x,xs = [x] ∧ VRel T ι h v x:=by
 obtain ⟨x,r',rfl,a,b⟩:=VRels.cons_iff.mp r; cases VRels.nil_iff.mp b; exact ⟨x,rfl,a⟩
theorem VRel.bi_inv {id:String} {x:Value} {h:Heap} (r:VRel T ι h (.bi id) x):x = .builtin id:=r
theorem VRel.type_inv {id:String} {x:Value} {h:Heap} (r:VRel T ι h (.type id) x):x = .type id:=r
noncomputable def fvV (vv:V):Value:=vv.casesOn (.none) (fun _ => .none) (fun _ => .none) (fun _ => .none) (fun _ => .none) (fun _ => .none) (fun _ => .none) (fun _ _ => .none) (fun n => .type n) (fun id => .builtin id) (fun _ => .none) (fun _ => .none) (fun _ => .none) (fun _ _ => .none)
theorem callee {f:V} {fv:Value} {h:Heap} (hf:callable f = true) (r:VRel T ι h f fv):fv = fvV f:=by
 cases f <;> first | exact (Zv hf).elim | exact r
theorem CallOk.b1 {f v:V} (hf:callable f = true) (k:∀ {A fs ι s x},St T A fs d ι σ s → VRel T ι s.heap v x → wpAny (model T.prog T.w) A (call (fvV f) [x]) (PostE T [] Q ι s.heap) (PostX T [] X ι s.heap) s):CallOk T d X f [v] Q σ:=fun A fs ι s fv xs S rf rxs => by
 obtain ⟨x,rfl,r⟩:=rxs.one
 rw [callee hf rf]; exact k S r
theorem CallOk.b2 {f v w:V} (hf:callable f = true) (k:∀ {A fs ι s x y},St T A fs d ι σ s → VRel T ι s.heap v x → VRel T ι s.heap w y → wpAny (model T.prog T.w) A (call (fvV f) [x,y]) (PostE T [] Q ι s.heap) (PostX T [] X ι s.heap) s):CallOk T d X f [v,w] Q σ:=fun A fs ι s fv xs S rf rxs => by
 obtain ⟨x,y,rfl,r,r2⟩:=rxs.two
 rw [callee hf rf]; exact k S r r2
inductive LstAt (T:Tp) (ι:Inj) (l:Nat) (vs:List V) (h:Heap) (x:Value):Prop where
 | mk (a dx:Addr) (items:Array Value) (m:Nat) (e:x = .ref a) (hι:ι[l]? = some (a,dx)) (hL:IsL h a items m) (hv:VRels T ι h vs items.toList) (hs:items.size = vs.length):LstAt T ι l vs h x
theorem Rep.lst {h:Heap} {l:Nat} {vs:List V} {x:Value} (R:Rep T ι σ h) (hl:σ[l]? = some (.list vs)) (r:VRel T ι h (.ref l) x):LstAt T ι l vs h x:=by
 obtain ⟨a,dx,rfl,hι⟩:=r.ref_inv
 refine ex2 (R.list_at hl hι) fun items m h9 => h9.elim fun hL hv => ?_
 exact ⟨a,dx,items,m,rfl,hι,hL,hv,size_eq hv⟩
noncomputable def lenO:Option MObj → Option Nat
 | some (.list vs) => some vs.length
 | some (.sdict kvs) => some kvs.length
 | z1 => none
theorem lenO_out {o:Option MObj} {n:Nat} (h:lenO o = some n):(∃ vs,o = some (.list vs) ∧ vs.length = n) ∨ ∃ kvs,o = some (.sdict kvs) ∧ kvs.length = n:=by
 rcases o with zz | o
 · exact (no_some h).elim
 · cases o <;> first | exact .inl ⟨_,rfl,sm_inj h⟩ | exact .inr ⟨_,rfl,sm_inj h⟩ | exact (no_some h).elim
noncomputable def lenV (σ:Hp) (vv:V):Option Nat:=vv.casesOn (none) (fun _ => none) (fun _ => none) (fun x => some x.length) (fun vs => some vs.length) (fun l => lenO σ[l]?) (fun _ => none) (fun _ _ => none) (fun _ => none) (fun _ => none) (fun _ => none) (fun _ => none) (fun xs => some xs.length) (fun _ _ => none)
theorem len_list {l:Nat} {vs:List V} (h:σ[l]? = some (.list vs)):lenV σ (.ref l) = some vs.length:=congrArg lenO h
theorem n63 {n m:Nat} (hn:n < 2 ^ 62) (e:m = n):(m:Int) < 2 ^ 63:=by lia
theorem n63' {n m:Nat} (hn:n < 2 ^ 62) (e:m = n):¬ (m:Int) ≥ 2 ^ 63:=Int.not_le.mpr (n63 hn e)
theorem CallOk.len {v:V} {n:Nat} (e:lenV σ v = some n) (hn:n < 2 ^ 62) (q:Q (.int n) σ):CallOk T d X (.bi "len") [v] Q σ:=.b1 rfl fun S r => by
 cases v <;> first | exact (no_some e).elim | skip
 · obtain ⟨t,rfl⟩:=r.str_inv
   exact len_str (n63' hn (sm_inj e)) (S.post (sm_inj e ▸ q) .int_mk _)
 · obtain ⟨a,items,m,rfl,ht,hv⟩:=r.tup_inv
   have e:=(size_eq hv).trans (sm_inj e)
   exact P.len_tuple ht (n63' hn e) (S.post (e ▸ q) .int_mk _)
 · rcases lenO_out e with ⟨vs,hvs,e⟩ | ⟨kvs,hvs,e⟩
   · obtain ⟨a,dx,items,m,rfl,hι,hL,hv,hs⟩:=S.rep.lst hvs r
     have e:=hs.trans e
     exact Calls.call_len_list hL.isList (n63 hn e) (S.post (e ▸ q) .int_mk _)
   · obtain ⟨a,dx,rfl,hι⟩:=r.ref_inv
     refine (S.rep.sdict_at hvs hι).elim fun rvs h9 => and3 h9 fun hd hv hs => ?_
     have e:=hv.length.trans e
     exact call_len_dict hs hd (n63 hn e) (S.post (e ▸ q) .int_mk _)
 · obtain ⟨a,ob,items,n,rfl,ho,hc,hd,l,hl,rfl⟩:=r
   have e:items.size = _:=(by rw [← Array.length_toList,hl,Zc,Zc]:items.size = (l.map (·.1)).length).trans (sm_inj e)
   exact Calls.call_len_list ⟨_,S.rep.base _ _ ho,hc,n,hd⟩ (n63 hn e) (S.post (e ▸ q) .int_mk _)
noncomputable def kindName (σ:Hp) (vv:V):Option String:=vv.casesOn (some "NoneType") (fun z1 => some "bool") (fun z1 => some "int") (fun z1 => some "str") (fun z1 => some "tuple") (fun l => atL (fun zz => some "list") σ[l]?) (fun _ => none) (fun _ _ => none) (fun _ => none) (fun _ => none) (fun _ => none) (fun _ => none) (fun _ => none) (fun _ _ => none)
noncomputable def isiV (σ:Hp) (v:V) (ty:String):Option Bool:=(kindName σ v).bind fun k => if ["list", "str", "tuple"].contains ty then some (k == ty) else none
theorem isi_k {k:String} {ty:String} {b:Bool} (hb:(k == ty) = b) (hty:ty = "list" ∨ ty = "str" ∨ ty = "tuple") {P:String → Bool → Prop} (h1:P "list" (k == "list")) (h2:P "str" (k == "str")) (h3:P "tuple" (k == "tuple")):P ty b:=by
 subst hb
 rcases hty with rfl | rfl | rfl
 · exact h1
 · exact h2
 · exact h3
theorem isi_go {v:V} {ty k:String} {b:Bool} (hty:ty = "list" ∨ ty = "str" ∨ ty = "tuple") (hk:kindName σ v = some k) (hb:(k == ty) = b) (q:Q (.bool b) σ):CallOk T d X (.bi "isinstance") [v,.type ty] Q σ:=.b2 rfl fun {A fs ι s x y} S r r2 => by
 rw [VRel.type_inv r2]
 have go:∀ {P:String → Bool → Prop},P "list" (k == "list") → P "str" (k == "str") → P "tuple" (k == "tuple") → P ty b:=fun h1 h2 h3 => isi_k hb hty h1 h2 h3
 revert q
 cases v <;> first | exact (no_some hk).elim | skip
 · cases sm_inj hk; cases r.none_inv
   refine go (P:=fun ty b => Q (.bool b) σ → wpAny (model T.prog T.w) A (call (.builtin "isinstance") [_,.type ty]) (PostE T [] Q ι s.heap) (PostX T [] X ι s.heap) s) ?_ ?_ ?_
   · exact fun q => IsiPair.NoneType_list (S.post q .bool_mk _)
   · exact fun q => IsiPair.NoneType_str (S.post q .bool_mk _)
   · exact fun q => IsiPair.NoneType_tuple (S.post q .bool_mk _)
 · cases sm_inj hk; cases r.bool_inv
   refine go (P:=fun ty b => Q (.bool b) σ → wpAny (model T.prog T.w) A (call (.builtin "isinstance") [_,.type ty]) (PostE T [] Q ι s.heap) (PostX T [] X ι s.heap) s) ?_ ?_ ?_
   · exact fun q => IsiPair.bool_list (S.post q .bool_mk _)
   · exact fun q => IsiPair.bool_str (S.post q .bool_mk _)
   · exact fun q => IsiPair.bool_tuple (S.post q .bool_mk _)
 · cases sm_inj hk; obtain ⟨t,rfl⟩:=r.int_inv
   refine go (P:=fun ty b => Q (.bool b) σ → wpAny (model T.prog T.w) A (call (.builtin "isinstance") [_,.type ty]) (PostE T [] Q ι s.heap) (PostX T [] X ι s.heap) s) ?_ ?_ ?_
   · exact fun q => IsiPair.int_list (S.post q .bool_mk _)
   · exact fun q => IsiPair.int_str (S.post q .bool_mk _)
   · exact fun q => IsiPair.int_tuple (S.post q .bool_mk _)
 · cases sm_inj hk; obtain ⟨t,rfl⟩:=r.str_inv
   refine go (P:=fun ty b => Q (.bool b) σ → wpAny (model T.prog T.w) A (call (.builtin "isinstance") [_,.type ty]) (PostE T [] Q ι s.heap) (PostX T [] X ι s.heap) s) ?_ ?_ ?_
   · exact fun q => IsiPair.str_list (S.post q .bool_mk _)
   · exact fun q => IsiPair.str_str (S.post0 q .bool_mk)
   · exact fun q => IsiPair.str_tuple (S.post q .bool_mk _)
 · cases sm_inj hk; obtain ⟨a,items,m,rfl,ht,hv⟩:=r.tup_inv
   refine go (P:=fun ty b => Q (.bool b) σ → wpAny (model T.prog T.w) A (call (.builtin "isinstance") [_,.type ty]) (PostE T [] Q ι s.heap) (PostX T [] X ι s.heap) s) ?_ ?_ ?_
   · exact fun q => IsiPair.tuple_list ht rfl (S.post q .bool_mk _)
   · exact fun q => IsiPair.tuple_str ht rfl (S.post q .bool_mk _)
   · exact fun q => IsiPair.tuple_tuple ht rfl (S.post0 q .bool_mk)
 · obtain ⟨vs,hvs,hk⟩:=atL_out hk
   cases sm_inj hk
   obtain ⟨a,dx,items,m,rfl,hι,hL,hv,hs⟩:=S.rep.lst hvs r
   refine go (P:=fun ty b => Q (.bool b) σ → wpAny (model T.prog T.w) A (call (.builtin "isinstance") [_,.type ty]) (PostE T [] Q ι s.heap) (PostX T [] X ι s.heap) s) ?_ ?_ ?_
   · exact fun q => IsiPair.list_list hL rfl (S.post0 q .bool_mk)
   · exact fun q => IsiPair.list_str hL rfl (S.post q .bool_mk _)
   · exact fun q => IsiPair.list_tuple hL rfl (S.post q .bool_mk _)
theorem CallOk.isi {v:V} {ty:String} {b:Bool} (e:isiV σ v ty = some b) (q:Q (.bool b) σ):CallOk T d X (.bi "isinstance") [v,.type ty] Q σ:=by
 obtain ⟨k,hk,e⟩:=Option.bind_eq_some_iff.mp e
 obtain ⟨hty,e⟩:=ite_some e
 simp only [List.contains_iff_mem,Zg,Zdc,or_false] at hty
 exact isi_go hty hk e q
theorem CallOk.ord {c:Nat} (q:Q (.int c) σ):CallOk T d X (.bi "ord") [.str ⟨#[c]⟩] Q σ:=.b1 rfl fun S r => Zh r fun zz e => e ▸ P.ord_of_char (S.post q .int_mk _)
theorem CallOk.range {n:Int} (q:Q (.rng n) σ):CallOk T d X (.type "range") [.int n] Q σ:=.b1 rfl fun S r => Zh r fun zz e => e ▸ call_range_1 ⟨.rng n,σ,_,q,⟨_,_,_,_,rfl,Zsc _ rfl⟩,S.rep.push _,.push ..,S.gens,S.os⟩
noncomputable def seqV (σ:Hp) (vv:V):Option (List V):=vv.casesOn (none) (fun _ => none) (fun _ => none) (fun _ => none) (fun vs => some vs) (fun l => atL some σ[l]?) (fun _ => none) (fun _ _ => none) (fun _ => none) (fun _ => none) (fun _ => none) (fun _ => none) (fun _ => none) (fun _ _ => none)
theorem St.madeList {vs:List V} {items:Array Value} {h':Heap} {c' t:Nat} (S:St T A fs d ι σ s) (hz:s.heap.objs.size ≤ h'.objs.size) (k:∀ b o',s.heap.get? b = some o' → h'.get? b = some o') (g:h'.get? s.heap.objs.size = some ⟨.type "list",Option.none,.seq items c',#[]⟩) (hv:VRels T ι s.heap vs items.toList) (q:Q (.ref σ.length) (σ ++ [.list vs])):PostE T [] Q ι s.heap (.ref s.heap.objs.size) { s with heap:=h',toks:=t }:=by
 have no:s.heap.objs.size ∉ own ι:=fun z => absurd (S.rep.own_lt z) (Zub _)
 have e0:Ext T [] ι s.heap ι h':=.of_keeps hz k
 have mz:Mono ι s.heap (ι ++ [(s.heap.objs.size,s.heap.objs.size)]) h':=⟨⟨_,rfl⟩,e0.cls,e0.frz⟩
 exact ⟨.ref σ.length,_,ι ++ [(s.heap.objs.size,s.heap.objs.size)],q,⟨s.heap.objs.size,s.heap.objs.size,rfl,by rw [← S.rep.len]; simp⟩,(S.rep.grow hz k).more (o:=.list vs) (p:=(s.heap.objs.size,s.heap.objs.size)) ⟨rfl,items.toList,⟨c',g⟩,hv.mono mz⟩ S.rep.size S.rep.size no no,⟨⟨_,rfl,by simp⟩,e0.size,e0.cls,e0.frz,e0.keep,e0.frm⟩,S.gens,S.os⟩
theorem list_go {vs:List V} {a:Addr} {ty:String} {items:Array Value} {m:Nat} (S:St T A fs d ι σ s) (hn:vs.length ≤ sizeLine) (q:Q (.ref σ.length) (σ ++ [.list vs])) (hty:ty = "list" ∨ ty = "tuple") (ho:s.heap.get? a = some ⟨.type ty,Option.none,.seq items m,#[]⟩) (hv:VRels T ι s.heap vs items.toList) :
   wpAny (model T.prog T.w) A (call (.type "list") [.ref a]) (PostE T [] Q ι s.heap) (PostX T [] X ι s.heap) s:=by
 have fin:wpAny (model T.prog T.w) A (call (.type "list") [.ref a]) (fun y s' => y = .ref s.heap.objs.size ∧ ∃ h' c',s' = { s with heap:=h' } ∧ (∀ b o',s.heap.get? b = some o' → h'.get? b = some o') ∧ h'.get? s.heap.objs.size = some { cls:=.type "list",dict:=Option.none,data:=.seq items c',slots:=#[] }) (PostX T [] X ι s.heap) s :=
   call_list_seq a hty ho rfl rfl (fun h' c' k g => ⟨rfl,h',c',rfl,k,g⟩) (Za (Zr (size_eq hv)) hn)
 refine Zib (wpAny_size fin) (fun y s' p => ?_) fun zz zz p => p.1
 obtain ⟨⟨rfl,h',c',rfl,k,g⟩,hz⟩:=p
 exact S.madeList (t:=s.toks) hz k g hv q
theorem CallOk.list {v:V} {vs:List V} (e:seqV σ v = some vs) (hn:vs.length ≤ sizeLine) (q:Q (.ref σ.length) (σ ++ [.list vs])):CallOk T d X (.type "list") [v] Q σ:=.b1 rfl fun S r => by
 cases v <;> first | exact (no_some e).elim | skip
 · obtain ⟨a,items,m,rfl,ht,hv⟩:=r.tup_inv
   exact list_go S hn q (.inr rfl) ht (sm_inj e ▸ hv)
 · obtain ⟨vs',hvs,e⟩:=atL_out e
   obtain ⟨a,dx,items,m,rfl,hι,hL,hv,hs⟩:=S.rep.lst hvs r
   exact list_go S hn q (.inl rfl) hL (sm_inj e ▸ hv)
theorem CallOk.min2 {a b:Int} (q:Q (.int (if b < a then b else a)) σ) (hT:T.hd = false:=by rfl):CallOk T d X (.bi "min") [.int a,.int b] Q σ:=.b2 rfl fun {A fs ι s x y} S r1 r2 => by
 obtain ⟨t,rfl⟩:=r1.int_inv
 obtain ⟨u,rfl⟩:=r2.int_inv
 have fin:wpAny (model T.prog T.w) A (call (.builtin "min") [.int a t,.int b u]) (fun y s' => y = (if b < a then .int b u else .int a t) ∧ ∃ h' c',s' = { s with heap:=h',toks:=c' } ∧ (∀ b o',s.heap.get? b = some o' → h'.get? b = some o')) (PostX T [] X ι s.heap) s :=
   min_two_ints (S.aok.hd hT) fun h' tk k => ⟨rfl,h',tk,rfl,k⟩
 refine Zib (wpAny_size fin) (fun y s' p => ?_) fun zz zz p => p.1
 obtain ⟨⟨rfl,h',c',rfl,k⟩,hz⟩:=p
 refine S.grown hz k q ?_
 split
 · exact .int_mk
 · exact .int_mk
end
end
section
section
variable {T:Tp} {d:Nat} {X:QX} {Q:QE} {σ:Hp} {A:Around} {fs:List Env} {ι:Inj} {s:Shared} {h':Heap}
theorem St.setList {l:Nat} {vs vs':List V} {a dx:Addr} {items:Array Value} {n t:Nat} {g:Array Value → Array Value} {v:V} {x:Value} (S:St T A fs d ι σ s) (hl:σ[l]? = some (.list vs)) (hι:ι[l]? = some (a,dx)) (hL:IsL s.heap a items n) (hv:VRels T ι s.heap vs' (g items).toList)
   (q:Q v (σ.set l (.list vs'))) (r:VRel T ι s.heap v x):PostE T [] Q ι s.heap x { s with heap:=s.heap.update a (Obj.mapSeq g),toks:=t }:=by
 have h2:(s.heap.update a (Obj.mapSeq g)).get? a = some ⟨.type "list",Option.none,.seq (g items) (if (g items).size == items.size then n else n + 1),#[]⟩:=Heap.get?_update_self _ hL rfl
 obtain ⟨e1,zz⟩:=S.rep.objs l _ _ hl hι
 cases e1
 obtain ⟨S',e⟩:=St.turned (t:=t) (o:=.list vs') S hι (Heap.SameBut.update ..) (.inl rfl) hL h2 rfl rfl fun m => ⟨rfl,(g items).toList,⟨_,by simpa using h2⟩,hv.mono m⟩
 exact ⟨v,_,ι,q,r.mono e.mono,S'.rep,e,S.gens,S.os⟩
theorem CallOk.append {l:Nat} {v:V} {vs:List V} (hl:σ[l]? = some (.list vs)) (hn:vs.length ≤ sizeLine) (q:Q .none (σ.set l (.list (vs ++ [v])))):CallOk T d X (.bi "list.append") [.ref l,v] Q σ:=.b2 rfl fun {A fs ι s x y} S r ry => by
 obtain ⟨a,dx,items,m,rfl,hι,hL,hv,hlen⟩:=S.rep.lst hl r
 refine call_meets F.slot_list_append ⟨_,hL,rfl⟩ F.entry_list_append (F.args_list_append_2 _ _) (list_append a items m y (by (clear hι hl; lia))) ⟨hL,?_⟩
 refine S.setList (g:=fun z => z.push y) hl hι hL ?_ q .none_mk
 rw [Array.toList_push]
 exact hv.append (by exact ⟨ry,trivial⟩)
theorem VRels.snoc {h:Heap} {v:V} {vs:List V}:∀ {xs:List Value},VRels T ι h (vs ++ [v]) xs → ∃ ys y,xs = ys ++ [y] ∧ VRels T ι h vs ys ∧ VRel T ι h v y:=by
 induction vs with
 | nil => exact fun r => (VRels.one r).elim fun x e => ⟨[],x,e.1,trivial,e.2⟩
 | cons w vs ih => exact fun r => ex2 (VRels.cons_iff.mp r) fun x r' e => ex2 (ih e.2.2) fun ys y q => ⟨x :: ys,y,e.1.trans (congrArg (x :: ·) q.1),⟨e.2.1,q.2.1⟩,q.2.2⟩
theorem CallOk.pop {l:Nat} {v:V} {vs:List V} (hl:σ[l]? = some (.list (vs ++ [v]))) (hn:vs.length < sizeLine) (q:Q v (σ.set l (.list vs))):CallOk T d X (.bi "list.pop") [.ref l] Q σ:=.b1 rfl fun {A fs ι s x} S r => by
 obtain ⟨a,dx,items,m,rfl,hι,hL,hv,hlen0⟩:=S.rep.lst hl r
 refine ex2 hv.snoc fun ys y h9 => and3 h9 fun hi hy ry => ?_
 have hlen:=hv.length
 simp only [Array.length_toList,Zf,List.length_cons,List.length_nil] at hlen
 have hsz:items.size - 1 = ys.length:=by
   have:items.size = ys.length + 1:=by rw [← Array.length_toList,hi]; simp
   rw [this]; rfl
 have hlast:items[items.size - 1]? = some y:=by
   rw [← Array.getElem?_toList,hi,hsz]; simp
 refine call_meets F.slot_list_pop ⟨_,hL,rfl⟩ F.entry_list_pop (F.args_list_pop_1 _) (MeetsSeq.list_pop_last a items m y hlast (by (clear hsz hlast hι hl; lia))) ⟨hL,?_⟩
 refine S.setList (t:=s.toks) (g:=fun z => z.eraseIdxIfInBounds (items.size - 1)) hl hι hL ?_ q ry
 have e2:(items.eraseIdxIfInBounds (items.size - 1)).toList = ys:=by
   rw [Array.toList_eraseIdxIfInBounds,hi,hsz]
   simp [List.eraseIdx_append_of_length_le]
 rw [e2]; exact hy
theorem CallOk.extend {l k:Nat} {vs us:List V} (hl:σ[l]? = some (.list vs)) (hk:σ[k]? = some (.list us)) (hn:vs.length + us.length ≤ sizeLine) (q:Q .none (σ.set l (.list (vs ++ us)))):CallOk T d X (.bi "list.extend") [.ref l,.ref k] Q σ:=.b2 rfl fun {A fs ι s x y} S r ry => by
 obtain ⟨a,dx,items,m,rfl,hι,hL,hv,hlen⟩:=S.rep.lst hl r
 obtain ⟨b,dy,items2,m2,rfl,hιb,hL2,hv2,hlen2⟩:=S.rep.lst hk ry
 refine call_meets F.slot_list_extend ⟨_,hL,rfl⟩ F.entry_list_extend (F.args_list_extend_2 _ _) (AutoSeq1.list_extend_list_list_0 a items m b items2 m2 (fun z => by
   rw [Zob] at z
   have z2:=z.2
   unfold Builtin.List.listTooLong at z2
   rw [decide_eq_true_eq] at z2; (clear z hιb hι hl hk; lia)) (by (clear hlen2 hι hιb hk hl; lia)) (by (clear hι hιb hk hl; lia))) ⟨hL,hL2,?_⟩
 refine S.setList (g:=fun z => z ++ items2) hl hι hL ?_ q .none_mk
 rw [Array.toList_append]; exact hv.append hv2
theorem allB_at {h:Heap} {bs:List Bool}:∀ {xs:List Value},VRels T ι h (bs.map V.bool) xs → xs = bs.map Value.bool:=by
 induction bs with
 | nil => exact fun r => VRels.nil_iff.mp r
 | cons b bs ih => exact fun r => ex2 (VRels.cons_iff.mp r) fun x r' e => e.1.trans (e.2.1.bool_inv ▸ congrArg _ (ih e.2.2))
theorem truthsOk {prog:Program} {w:World} {A:Around} (bs:List Bool):TruthOf prog w A (fun i v => ((bs.map Value.bool).toArray)[i]? = some v) (fun i => bs.getD i false):=fun i v s Q E hP hQ => by
 simp only [List.getElem?_toArray,Zdb,Zpb] at hP
 obtain ⟨b,hb,rfl⟩:=hP
 refine wpAny_truthy_bool ?_
 have hQ':Q (bs.getD i false) s:=hQ
 rw [List.getD_eq_getElem?_getD,hb] at hQ'
 exact hQ'
theorem range_all (bs:List Bool):((List.range bs.length).all fun i => bs.getD i false) = bs.all id:=by
 rw [Bool.eq_iff_iff,List.all_eq_true,List.all_eq_true]
 constructor
 · intro h x hx
   obtain ⟨i,hi,rfl⟩:=List.getElem_of_mem hx
   have:=h i (by simpa using hi)
   simpa [List.getD_eq_getElem?_getD,hi] using this
 · intro h i hi
   have hi':i < bs.length:=by simpa using hi
   simpa [List.getD_eq_getElem?_getD,hi'] using h bs[i] (List.getElem_mem hi')
theorem range_any (bs:List Bool):((List.range bs.length).any fun i => bs.getD i false) = bs.any id:=by
 rw [Bool.eq_iff_iff,List.any_eq_true,List.any_eq_true]
 constructor
 · rintro ⟨i,hi,h⟩
   have hi':i < bs.length:=by simpa using hi
   exact ⟨bs[i],List.getElem_mem hi',by simpa [List.getD_eq_getElem?_getD,hi'] using h⟩
 · rintro ⟨x,hx,h⟩
   obtain ⟨i,hi,rfl⟩:=List.getElem_of_mem hx
   exact ⟨i,by simpa using hi,by simpa [List.getD_eq_getElem?_getD,hi] using h⟩
theorem CallOk.all {l:Nat} {bs:List Bool} (hl:σ[l]? = some (.list (bs.map V.bool))) (q:Q (.bool (bs.all id)) σ) (hT:T.hd = false:=by rfl):CallOk T d X (.bi "all") [.ref l] Q σ:=.b1 rfl fun {A fs ι s x} S r => by
 obtain ⟨a,dx,items,m,rfl,hι,hL,hv,hlen0⟩:=S.rep.lst hl r
 have hitems:items = (bs.map Value.bool).toArray:=by rw [← allB_at hv]
 subst hitems
 have hne:a ≠ s.heap.objs.size:=Znc (Zu hL)
 have fin:wpAny (model T.prog T.w) A (call (.builtin "all") [.ref a]) (fun y s' => y = .bool (bs.all id) ∧ ∃ h' c',s' = { s with heap:=h',toks:=c' } ∧ (∀ b o',s.heap.get? b = some o' → h'.get? b = some o')) (PostX T [] X ι s.heap) s:=by
   refine call_all_walk (wpAny_pyIter_list hL.isList ?_)
   refine ⟨s.heap.objs.size,_,_,_,_,_,_,rfl,Walks.list (A:=A.in1) (S.aok.hd hT) s.heap.objs.size a hne _,⟨⟨_,Zsc _ rfl,rfl,rfl⟩,hL.isList.push _⟩,truthsOk bs,fun h' tk k => ⟨?_,h',tk,rfl,fun b o hb => k b o (by simpa using Znc (Zu hb)) (Zx _ hb)⟩⟩
   rw [List.size_toArray,Zc,range_all]
 refine Zib (wpAny_size fin) (fun y s' p => ?_) fun zz zz p => p.1
 obtain ⟨⟨rfl,h',c',rfl,k⟩,hz⟩:=p
 exact S.grown hz k q .bool_mk
theorem CallOk.any {l:Nat} {bs:List Bool} (hl:σ[l]? = some (.list (bs.map V.bool))) (q:Q (.bool (bs.any id)) σ) (hT:T.hd = false:=by rfl):CallOk T d X (.bi "any") [.ref l] Q σ:=.b1 rfl fun {A fs ι s x} S r => by
 obtain ⟨a,dx,items,m,rfl,hι,hL,hv,hlen0⟩:=S.rep.lst hl r
 have hitems:items = (bs.map Value.bool).toArray:=by rw [← allB_at hv]
 subst hitems
 have hne:a ≠ s.heap.objs.size:=Znc (Zu hL)
 have fin:wpAny (model T.prog T.w) A (call (.builtin "any") [.ref a]) (fun y s' => y = .bool (bs.any id) ∧ ∃ h' c',s' = { s with heap:=h',toks:=c' } ∧ (∀ b o',s.heap.get? b = some o' → h'.get? b = some o')) (PostX T [] X ι s.heap) s:=by
   refine call_any_walk (wpAny_pyIter_list hL.isList ?_)
   refine ⟨s.heap.objs.size,_,_,_,_,_,_,rfl,Walks.list (A:=A.in1) (S.aok.hd hT) s.heap.objs.size a hne _,⟨⟨_,Zsc _ rfl,rfl,rfl⟩,hL.isList.push _⟩,truthsOk bs,fun h' tk k => ⟨?_,h',tk,rfl,fun b o hb => k b o (by simpa using Znc (Zu hb)) (Zx _ hb)⟩⟩
   rw [List.size_toArray,Zc,range_any]
 refine Zib (wpAny_size fin) (fun y s' p => ?_) fun zz zz p => p.1
 obtain ⟨⟨rfl,h',c',rfl,k⟩,hz⟩:=p
 exact S.grown hz k q .bool_mk
theorem allS_at {h:Heap} {bs:List Str}:∀ {xs:List Value},VRels T ι h (bs.map V.str) xs → ∃ l:List (Str × Tok),xs = strValues l ∧ l.map (·.1) = bs ∧ StrsAre xs bs:=by
 induction bs with
 | nil => exact fun r => VRels.nil_iff.mp r ▸ ⟨[],rfl,rfl,.nil⟩
 | cons b bs ih => exact fun r => ex2 (VRels.cons_iff.mp r) fun x r' e => e.2.1.str_inv.elim fun t q => (ih e.2.2).elim fun l k => e.1 ▸ q ▸ ⟨(b,t) :: l,congrArg _ k.1,congrArg _ k.2.1,.cons _ _ k.2.2⟩
theorem CallOk.join {sep:Str} {l:Nat} {bs:List Str} (hl:σ[l]? = some (.list (bs.map V.str))) (hw:(bs.map (·.length)).sum + bs.length ≤ 1048576) (hs:sep.length ≤ 16) (q:Q (.str (Txt.join sep bs)) σ):CallOk T d X (.bi "str.join") [.str sep,.ref l] Q σ:=.b2 rfl fun {A fs ι s x y} S r ry => by
 obtain ⟨t,rfl⟩:=r.str_inv
 obtain ⟨a,dx,items,m,rfl,hι,hL,hv,hlen0⟩:=S.rep.lst hl ry
 obtain ⟨ll,h1,h2,zz⟩:=allS_at hv
 have:items = (strValues ll).toArray:=by rw [← h1]
 subst this
 exact SC.join hL.isList h2 (joinOk_of_weight hw hs) fun t' k => S.post q .str_mk _
end
end
section
section
variable {T:Tp} {A:Around} {fs:List Env} {d:Nat} {env:Env} {F:List Addr} {ι:Inj} {s:Shared} {ρ:Loc} {σ:Hp} {sc:Scope} {X:QX} {Q:QE}
end
end
section
noncomputable def biTab:List (Str × V):=[("len",.bi "len"),("isinstance",.bi "isinstance"),("ord",.bi "ord"),("all",.bi "all"),("any",.bi "any"),("min",.bi "min"),("sorted",.bi "sorted"),("reversed",.type "reversed"),
 ("list",.type "list"),("tuple",.type "tuple"),("str",.type "str"),("int",.type "int"),("range",.type "range"),("bool",.type "bool"),("ValueError",.type "ValueError")]
noncomputable def gvV (x:Str):Value → Option V
 | .int i z1 => some (.int i)
 | .str s z1 => some (.str s)
 | .ref z1 => some (.glob x)
 | z1 => none
noncomputable def gvO (x:Str):Option (Option Value) → Option V
 | some (some y) => gvV x y
 | some none => biTab.lookup x
 | none => none
noncomputable def gvOf (K:PySem.W.Frag) (x:Str):Option V:=gvO x (PySem.W.nsIn K mainGlobals x)
theorem biTab_boot:(biTab.all fun p => match p.2 with
 | .bi id => bootBuiltins p.1 == some (.builtin id)
 | .type n => bootBuiltins p.1 == some (.type n)
 | z1 => false) = true:=by decide +kernel
theorem biTab_name:(biTab.all fun p => !(p.1 == ("__name__" : Str))) = true:=by decide +kernel
noncomputable def tpOf (prog:Program) (w:World) (s:Shared) (K:PySem.W.Frag):Tp:=⟨prog,w,s.heap,s.os,K,gvOf K,false⟩
theorem topOk_of {prog p:Program} {w:World} {s:Shared} {K:PySem.W.Frag} {loose:List Str} {mg mb:Str → Option Value} (TR:PySem.W.TopRead p loose mg mb s.heap) (X:K.In s.heap):TopOk (tpOf prog w s K) where
 X0:=X
 lim:=TR.nolimit
 own:=fun x C bmB newId e q => ⟨mg,PySem.W.own_of_in X TR e q⟩
 gl:=fun x v e => by
   have e':gvOf K x = some v:=e
   unfold gvOf at e'
   rcases hn:PySem.W.nsIn K mainGlobals x with zz | zz | y <;> rw [hn] at e'
   · cases e'
   rotate_left
   · have hb:=PySem.W.mg_of X TR.g hn
     refine ⟨_,mg,mb,TR.g,TR.b,.inl hb,?_⟩
     cases y <;> first | exact (no_some e').elim | skip
     · cases e'; exact .int_mk
     · cases e'; exact .str_mk
     · cases e'
       show Tp.g _ _ = _; unfold Tp.g
       show (PySem.W.nsIn K mainGlobals x).join = _
       rw [hn]; rfl
   · have hm:=mem_of_lookup e'
     have h1:=List.all_eq_true.mp biTab_boot _ hm
     have h2:=List.all_eq_true.mp biTab_name _ hm
     have hx:x ≠ "__name__":=by simpa using h2
     cases v <;> first | (cases h1; done) | skip
     · refine ⟨_,mg,mb,TR.g,TR.b,.inr ⟨PySem.W.mg_none_of X TR.g hn,(TR.builtins x hx).trans (beq_iff_eq.mp h1)⟩,?_⟩
       rfl
     · refine ⟨_,mg,mb,TR.g,TR.b,.inr ⟨PySem.W.mg_none_of X TR.g hn,(TR.builtins x hx).trans (beq_iff_eq.mp h1)⟩,?_⟩
       rfl
theorem start {prog p:Program} {w:World} {s:Shared} {K:PySem.W.Frag} {loose:List Str} {mg mb:Str → Option Value} {fa a la:Addr} {xs:List Int} {l:List (Int × Tok)} {o:Obj} {items:Array Value} {n:Nat} {name:Str}
   (TR:PySem.W.TopRead p loose mg mb s.heap) (X:K.In s.heap) (hg:s.gens = #[]) (hb:∃ b o,K.lookup b = some o ∧ 10 ≤ b) (hmg:mg name = some (.ref fa)) (hK:PySem.W.nsIn K mainGlobals name = some (some (.ref a)))
   (ho:s.heap.get? la = some o) (hc:o.cls = .type "list") (hd:o.data = .seq items n) (hl:items.toList = l.map (fun p => Value.int p.1 p.2)) (hx:l.map (·.1) = xs)
   (h:CallOk (tpOf prog w s K) 690 (fun zz zz => False) (.glob name) [.scr xs] (fun v zz => v = .bool true) []) :
   wpAny (model prog w) callerA (call (.ref fa) [.ref la]) (fun v s' => v = .bool true ∧ (∀ b o,s.heap.get? b = some o → s'.heap.get? b = some o) ∧ s'.os = s.os ∧ s'.gens = #[]) (fun zz zz => False) s:=by
 have hfa:=PySem.W.mg_of X TR.g hK
 rw [hmg] at hfa; cases hfa
 have hbig:10 ≤ s.heap.objs.size:=by
   refine ex2 hb fun b o h9 => h9.elim fun e h10 => ?_
   exact Zq (Zk h10 (Zu (X _ _ e)))
 have S:St (tpOf prog w s K) callerA [] 690 [] [] s:=by
   have R:Rep (tpOf prog w s K) [] [] s.heap:={ len:=rfl,big:=hbig,size:=Zl _,base:=fun zz zz e => e,objs:=fun l o p e => by simp at e,fresh:=fun p hp => (by cases hp),apart:=fun i j p q e => by simp at e }
   exact ⟨R,⟨rfl,fun e he => (by cases he),by decide,by decide,fun zz => rfl,.none rfl⟩,hg,rfl⟩
 have rf:VRel (tpOf prog w s K) [] s.heap (.glob name) (.ref fa):=by
   show Tp.g _ _ = _; unfold Tp.g
   show (PySem.W.nsIn K mainGlobals name).join = _
   rw [hK]; rfl
 have rx:VRels (tpOf prog w s K) [] s.heap [.scr xs] [.ref la]:=by
   refine ⟨?_,trivial⟩
   exact ⟨la,o,items,n,rfl,ho,hc,hd,l,hl,hx⟩
 refine Zib (h callerA [] [] s (.ref fa) [.ref la] S rf rx) (fun v s' p => ?_) fun e s' p => ?_
 · obtain ⟨v',σ',ι',rfl,rv,rp,ex,g,oo⟩:=p
   cases rv.bool_inv
   exact ⟨rfl,rp.base,oo,g⟩
 · obtain ⟨zz,zz,zz,zz,zz,f,zz⟩:=p
   exact f.elim
theorem finish {M:Model} {A:Around} {t:Sem Value} {c:PySem.W.ClaimW} {cl:Str → Option Addr} {mean:ExcName → Option Value} {args:List PySem.W.WData} {s:Shared} (hn:∀ cls,c.raises args cls = false) (hp:c.post args (.bool true) args = true)
   (h:wpAny M A t (fun v s' => v = .bool true ∧ (∀ b o,s.heap.get? b = some o → s'.heap.get? b = some o) ∧ s'.os = s.os ∧ s'.gens = #[]) (fun zz zz => False) s) :
   wpAny M A t (fun v s' => PySem.W.GoodWG c cl mean args s (.ok (.ret v)) s') (fun e s' => PySem.W.GoodWG c cl mean args s (.error e) s') s:=by
 refine Zib h (fun v s' p => ?_) fun e s' p => p.elim
 obtain ⟨rfl,k,o,g⟩:=p
 exact PySem.W.GoodW.toG ⟨.inl ⟨_,.bool true,[],rfl,hn,.bool true,hp,fun zz => ⟨List.nodup_nil,fun a ha => by cases ha⟩⟩,k,o,g⟩
theorem ints_pairs {vs:List Value} {xs:List Int} (h:IntsAre vs xs):∃ l:List (Int × Tok),vs = l.map (fun p => Value.int p.1 p.2) ∧ l.map (·.1) = xs:=by
 induction h with
 | nil => exact ⟨[],rfl,rfl⟩
 | cons n t z1 ih => obtain ⟨l,rfl,rfl⟩:=ih; exact ⟨(n,t) :: l,rfl,rfl⟩
end
section
section
variable {T:Tp} {d:Nat} {sc:Scope} {ρ:Loc} {X:QX} {Q:QE} {σ:Hp} {x y:Int} {a b:V} {s t:Str}
end
end
section
section
variable {T:Tp} {d:Nat} {X:QX} {Q:QE} {σ:Hp}
theorem m_join:MethFacts "str" "join" "str.join":=⟨F.plainAttrs_str,F.slot_str_join,F.type_str_join⟩
theorem m_append:MethFacts "list" "append" "list.append":=⟨F.plainAttrs_list,F.slot_list_append,F.type_list_append⟩
theorem m_pop:MethFacts "list" "pop" "list.pop":=⟨F.plainAttrs_list,F.slot_list_pop,F.type_list_pop⟩
theorem m_extend:MethFacts "list" "extend" "list.extend":=⟨F.plainAttrs_list,F.slot_list_extend,F.type_list_extend⟩
end
section
variable {T:Tp} {d:Nat} {sc:Scope} {ρ:Loc} {X:XS} {Q:QS} {σ:Hp}
theorem VRel.pair_use {T:Tp} {ι:Inj} {h:Heap} {p q:V} {x:Value} {P:Prop} (r:VRel T ι h (.tup [p,q]) x) (k:∀ (ad:Addr) (items:Array Value) (n:Nat) (y₁ y₂:Value),x = .ref ad → IsT h ad items n → items.toList = [y₁,y₂] → VRel T ι h p y₁ → VRel T ι h q y₂ → P):P:=by
 refine ex3 r.tup_inv fun ad items n h9 => and3 h9 fun hx hT hv => ?_
 obtain ⟨y₁,r₁,e₁,v₁,hv⟩:=VRels.cons_iff.mp hv
 obtain ⟨y₂,r₂,rfl,v₂,hv⟩:=VRels.cons_iff.mp hv
 cases VRels.nil_iff.mp hv
 exact k _ _ _ _ _ hx hT e₁ v₁ v₂
theorem StOk.swap {a b:Str} {pa pb tp pos:Pos} {k:Nat} {value:Expr} (hs:∀ env:Env,swapsWithSole [.Tuple [.Name a pa,.Name b pb] k tp] value pos.line env = pure false)
   (hw:∀ env:Env,env.scope = sc → swappedStores [.Tuple [.Name a pa,.Name b pb] k tp] value env = pure (some [a,b])) (ha:isStore sc a = true) (hb:isStore sc b = true)
   (h:EvOk T d sc ρ X value (fun v σ' => ∃ p q,v = .tup [p,q] ∧ Q .next (upd (upd ρ b (some q)) a (some p)) σ') σ) (hd:T.hd = false:=by rfl):StOk T d sc ρ X (.Assign [.Tuple [.Name a pa,.Name b pb] k tp] value pos) Q σ:=by
 intro env A fs F ι s hsc I
 refine Assign_Tuple_swapped (Zib (h env A fs F ι s hsc I) (fun x s₁ p => ?_) fun zz zz p => p.sx I fun zz zz k => k) (hs env) (hw env hsc)
 obtain ⟨v,σ₁,ι₁,hq,rv,rp,ex,g,o⟩:=p
 refine ex2 hq fun p q h => ?_
 have qq:=h.2
 have hv:=h.1
 clear hq h
 subst hv
 have I₁:=I.ext ex rp g o
 subst hsc
 refine rv.pair_use fun ad items n y₁ y₂ hx hT e₁ v₁ v₂ => ?_
 subst hx
 have hsz:items.size = 2:=by rw [← Array.length_toList,e₁]; rfl
 show wpAny _ A (unpackItems (.ref ad) 2 none) _ _ s₁
 refine hsz ▸ tupItems (I₁.aok.hd hd) hT fun h' hz hk => ?_
 have e0:Ext T F ι₁ s₁.heap ι₁ h':=.of_keeps hz hk
 have I₂:=I₁.grown hz hk
 rw [e₁]
 refine assignInOrder_cons (t:=fun v => bindName env b v) (wpAny_bindName (storeI I₂ hb (v₂.mono e0.mono) fun h₂ t₂ I₃ e₃ => ?_))
 refine assignInOrder_cons (t:=fun v => bindName env a v) (wpAny_bindName (storeI I₃ ha (v₁.mono (e0.trans e₃).mono) fun h₃ t₃ I₄ e₄ => ?_))
 exact assignInOrder_nil ⟨.next,_,σ₁,ι₁,qq,.next,I₄,ex.up.trans (e0.trans (e₃.trans e₄))⟩
end
end
section
section
variable {T:Tp} {d:Nat} {sc:Scope} {ρ:Loc} {X:QX} {Q:QE} {σ:Hp}
theorem EvOk.nm {x:Str} {pos:Pos} {v:V} (hv:ρ x = some v) (hk:isVar sc x = true) (ho:scOk sc = true) (h:Q v σ):EvOk T d sc ρ X (.Name x pos) Q σ:=EvOk.var h hv hk ho
theorem EvOk.ix {value slice:Expr} {pos:Pos} (ns:notSlice slice = true) (h:EvOk T d sc ρ X value (fun o σ₁ => EvOk T d sc ρ X slice (fun i σ₂ => itemVC o i Q σ₂) σ₁) σ):EvOk T d sc ρ X (.Subscript value slice pos) Q σ:=EvOk.item h ns
theorem i_tup {vs:List V} {k:Int} {j:Nat} {v:V} (e1:seqIndex? k vs.length = some j) (e2:vs[j]? = some v) (e3:decide (-(2 ^ 63) ≤ k ∧ k < 2 ^ 63) = true) (q:Q v σ):itemVC (.tup vs) (.int k) Q σ:=⟨v,.tup _ _ j v e1 e2 (Zgb e3:-(2 ^ 63) ≤ k ∧ k < 2 ^ 63),q⟩
theorem i_list {l:Nat} {vs:List V} {k:Int} {j:Nat} {v:V} (e0:σ[l]? = some (.list vs)) (e1:seqIndex? k vs.length = some j) (e2:vs[j]? = some v) (e3:sm63 k) (q:Q v σ):itemVC (.ref l) (.int k) Q σ:=⟨v,.list _ vs _ j v e0 e1 e2 e3,q⟩
end
section
variable {T:Tp} {d:Nat} {sc:Scope} {ρ:Loc} {X:XS} {Q:QS} {σ:Hp}
end
end
section
noncomputable def Dead (b:Addr) (h:Heap):Prop:=b < h.objs.size ∧ h.get? b = none
theorem Dead.update {b a:Addr} {h:Heap} {f:Obj → Obj} (x:Dead b h) (e:(h.get? a).isSome = true):Dead b (h.update a f):=by
 refine ⟨by rw [Heap.size_after_update]; exact x.1,?_⟩
 have:a ≠ b:=fun q => by rw [q,x.2] at e; cases e
 rw [Heap.get?_update_other _ _ this]; exact x.2
theorem Dead.push {b:Addr} {h:Heap} {o:Obj} (x:Dead b h):Dead b (h.push o):=by
 refine ⟨by rw [Zqb]; exact Nat.lt_succ_of_lt x.1,?_⟩
 rw [Heap.get?_push_ne _ _ _ (Znc x.1)]; exact x.2
theorem wpAny_dead {α:Type} {M:Model} {A:Around} {m:Sem α} {Q:α → Shared → Prop} {E:Value → Shared → Prop} {s:Shared} (h:wpAny M A m Q E s) :
   wpAny M A m (fun a s' => Q a s' ∧ ∀ b,Dead b s.heap → Dead b s'.heap) (fun a s' => E a s' ∧ ∀ b,Dead b s.heap → Dead b s'.heap) s :=
 wpAny_keep (P:=fun h => ∀ b,Dead b s.heap → Dead b h) ⟨fun zz zz zz e x b hb => (x b hb).update e,fun zz zz x b hb => (x b hb).push⟩ (fun zz hb => hb) h
end
section
section
variable {T:Tp} {d:Nat} {sc:Scope} {ρ:Loc} {X:XS} {Q:QS} {σ:Hp}
inductive ExcO (h:Heap) (C:Addr):Prop where
 | mk (bm:List Value) (N:Addr) (nm q:Str) (bs:List Value) (hdct:Bool) (sn:List Str) (sub:List Value) (ab:Bool) (col:Option Bool) (dd:Option Addr) (k0 k1 k2 k3 k5:Option Value) (mN:Str → Option Value) (hC:h.get? C = some (excClassObj nm q C N bs bm hdct sn sub ab col dd k0 k1 k2 k3 k5 "ValueError.__new__")) (hN:h.Ns N mN) (hni:mN "__init__" = none) (tl:OwnTail h [.type "ValueError",.type "Exception",.type "BaseException",.type "object"] bm):ExcO h C
theorem ExcO.of {h:Heap} {x:Str} {C:Addr} {mg:Str → Option Value} (O:OwnCls x C [.type "ValueError",.type "Exception",.type "BaseException",.type "object"] "ValueError.__new__" mg h):ExcO h C:=by
 obtain ⟨bm,N,nm,q,bs,hdct,sn,sub,ab,col,dd,k0,k1,k2,k3,k5,mN,hC,hN,hni,tl⟩:=O.obj
 exact ⟨bm,N,nm,q,bs,hdct,sn,sub,ab,col,dd,k0,k1,k2,k3,k5,mN,hC,hN,hni,tl⟩
inductive Made (T:Tp) (C:Addr) (h:Heap) (v:Value) (s':Shared):Prop where
 | mk (e:Addr) (vs:List Value) (h0:v = .ref e) (m:Heap.MadeExcOf h s'.heap e (.ref C) vs) (g:s'.gens = #[]) (o:s'.os = T.os):Made T C h v s'
theorem StOk.raise {x txt:Str} {np cpos pos apos:Pos} {kk:Nat} {C:Addr} (TO:TopOk T) (hg:T.gv x = some (.glob x)) (hk:sc.names.lookup x = some .globalImplicit) (ho:scOk sc = true)
   (hn:PySem.W.nsIn T.K mainGlobals x = some (some (.ref C))) (hc:T.c x = some C) (hx:PySem.W.excIn T.K C [.type "ValueError",.type "Exception",.type "BaseException",.type "object"] "ValueError.__new__" = true)
   (hX:X x σ) (hT:T.hd = false:=by rfl):StOk T d sc ρ X (.Raise (some (.Call (.Name x np) [.Constant (.str txt) kk apos] [] cpos)) Option.none pos) Q σ:=by
 intro env A fs F ι s hsc I
 have kb:=I.rep.base
 have core:wpAny (model T.prog T.w) A (exec (.Raise (some (.Call (.Name x np) [.Constant (.str txt) kk apos] [] cpos)) Option.none pos) env) (PostS T A fs d env F Q ι s.heap) (Made T C s.heap) s:=by
   have ns:noStar [Expr.Constant (.str txt) kk apos] = true:=rfl
   have NN:∀ {R:Value → Shared → Prop} {E:Value → Shared → Prop},R (.ref C) s → wpAny (model T.prog T.w) A (eval (.Name x np) env) R E s:=fun {R E} k => by
     refine ex3 (TO.gl x _ hg) fun V mg mb h9 => and4 h9 fun n1 n2 hm r => ?_
     rw [← show V = .ref C from sm_inj (r.symm.trans (refO_out hc))] at k
     refine Name_function_global I.frm.kind ((congrArg (fun z => z.names.lookup x) hsc).trans hk) ?_ (not_debug ho hk).1
     have N1:=n1.keeps kb
     rw [← I.frm.glb] at N1
     rcases hm with hm | ⟨hm,hb⟩
     · exact loadGlobal_global N1 hm k
     · have N2:=n2.keeps kb
       rw [← I.frm.blt] at N2
       exact loadGlobal_builtin N1 hm N2 hb k
   obtain ⟨bm,N,nm,q,bs,hdct,sn,sub,ab,col,dd,k0,k1,k2,k3,k5,mN,hC,hN,hni,tl⟩:=Zh (TO.own x C _ _ hn hx) fun zz O => ExcO.of O
   refine wpAny_Raise_call_subT (C:=C) (N:=N) (nm:=nm) (q:=q) (bs:=bs) (hdct:=hdct) (sn:=sn) (sub:=sub) (ab:=ab) (col:=col) (dd:=dd) (k0:=k0) (k1:=k1) (k2:=k2) (k3:=k3) (k5:=k5) PySem.F.excBase_ValueError (mN:=mN) (tl.hasType (by decide +kernel)) (I.aok.hd hT) (by rw [starEach_eq ns]; rfl) hni (NN ⟨rfl,?_⟩)
   rw [starEach_eq ns]
   refine evalArgs_list (spliced_cons (wpAny_Constant_str ?_))
   exact spliced_nil ⟨rfl,by simp [sizeLine_eq],kb _ _ hC,hN.keeps kb,tl.keeps kb,fun h' e m => ⟨e,_,rfl,m,I.gens,I.os⟩⟩
 refine Zib (wpAny_dead core) (fun zz zz p => p.1) fun v s' p => ?_
 obtain ⟨⟨e,vs,rfl,m,g,o⟩,dead⟩:=p
 refine m.there.elim fun tt h9 => and3 h9 fun he htn ht => ?_
 have hge:s.heap.objs.size ≤ e:=Zo.mp fun hlt => by
   have:=(dead e ⟨hlt,m.new⟩).2
   rw [he] at this; cases this
 have hz:s.heap.objs.size ≤ s'.heap.objs.size:=Za hge (Zq (Zu he))
 have e0:Ext T F ι s.heap ι s'.heap:=.of_keeps hz m.keeps
 have I₃:=I.grown hz m.keeps
 have hno:e ∉ own ι:=fun q => absurd (I.rep.own_lt q) (Zo.mpr hge)
 exact ⟨e,x,ρ,σ,ι,rfl,hX,⟨C,_,_,_,⟨hT,hc⟩,hge,he,rfl,rfl,by simp,rfl,rfl,.inl rfl⟩,hno,⟨I₃.rep,I₃.aok,I₃.frm,I₃.top,g,o⟩,e0⟩
end
end
section
open PySem PySem.Calls PyProof.Rows PySem.SeqAt PySem.W PySem.Spec Builtin Builtin.ObjectAttr Builtin.Getset_descriptor
noncomputable def excK (K:Frag) (C:Addr):Bool:=(clsIn K C).isSome && findIn K (.ref C) "__getattribute__" == some (some (.builtin "BaseException.__getattribute__")) && findIn K (.ref C) "__getattr__" == some none &&
 findIn K (.ref C) "__class__" == some (some (.builtin "object.__class__")) && mroIn K C (.type "BaseException") == some true && mroIn K C (.type "object") == some true
section
variable {prog:Program} {w:World} {A:Around} {E:Value → Shared → Prop} {h:Heap} {g:Array GenState} {d:Drawn} {t:Nat} {os:OsState} {K:Frag} {a C:Addr} {o:Obj}
theorem excK.of (e:excK K C = true):(clsIn K C).isSome = true ∧ findIn K (.ref C) "__getattribute__" = some (some (.builtin "BaseException.__getattribute__")) ∧ findIn K (.ref C) "__getattr__" = some none ∧
   findIn K (.ref C) "__class__" = some (some (.builtin "object.__class__")) ∧ mroIn K C (.type "BaseException") = some true ∧ mroIn K C (.type "object") = some true:=by
 simp only [excK,Zob,beq_iff_eq] at e
 obtain ⟨⟨⟨⟨⟨a,b⟩,c⟩,d⟩,e⟩,f⟩:=e
 exact ⟨a,b,c,d,e,f⟩
theorem looks_ty {M:Model} (hx:h.get? a = some o) (hc:o.cls = .ref C):Looks M h (typeOf (.ref a)) (.ref C):=by
 intro A Q E s k q
 unfold typeOf
 refine Zhb (wpAny_loadPart (k _ _ hx) (Zjb ?_))
 rw [hc]; exact q
theorem exc_get {R:Result → Shared → Prop} {tp:Value} (X:K.In h) (hx:h.get? a = some o) (hc:o.cls = .ref C) (hm:mroIn K C (.type "object") = some true) (hq:R (.ok (.ret (.ref C))) ⟨h,g,d,t,os⟩) :
   codeAny (model prog w) A (.call (.builtin "getset_descriptor.__get__") ⟨[.builtin "object.__class__",.ref a,tp],[]⟩) R ⟨h,g,d,t,os⟩:=by
 have L0:=looks_ty (M:=model prog w) hx hc
 have L1:=looks_mroIn (M:=model prog w) X hm
 refine codeAny_call_builtin KF.slot_gs.plain KF.entry_gs (KF.slot_gs.check _ _ _ _ _ _ _ _ KF.type_class (KF.args_gs _ _ _) ?_)
 unfold Builtin.«getset_descriptor.__get__» descrGet
 rw [dga_obj]
 refine Zhb (Zjb ?_)
 unfold descrGetter descrCheckInstance descrNameAndClass isInstance
 simp only [KF.owner_class]
 repeat lk
 refine ⟨Code.quiet_builtin _ (by decide +kernel),codeAny_builtin KF.entry_class ?_⟩
 unfold Builtin.«object.__class__» shownTypeOf
 repeat lk
 exact hq
theorem exc_check {M:Model} {nameV:Value} {Q:Unit → Shared → Prop} (X:K.In h) (e:excK K C = true) (hx:h.get? a = some o) (hc:o.cls = .ref C) (hq:Q () ⟨h,g,d,t,os⟩) :
   wpAny M A (checkBuiltinCall "BaseException.__getattribute__" ⟨[.ref a,nameV],[]⟩) Q E ⟨h,g,d,t,os⟩:=by
 have hk:builtinKind "BaseException.__getattribute__" = some .slot:=by decide +kernel
 have hsplit:splitId "BaseException.__getattribute__" = some ("BaseException", "__getattribute__"):=by decide +kernel
 have L0:=looks_ty (M:=M) hx hc
 have L1:=looks_mroIn (M:=M) X (excK.of e).2.2.2.2.1
 have ha:=F.args_bexc_ga (.ref a) nameV
 simp only [checkBuiltinCall,hk,hsplit]
 refine Zhb ?_
 unfold isInstance
 refine Zhb (L0.at (L1.at ?_))
 repeat (first | assumption | wp_step)
theorem exc_entry {tk:Tok} {Q:Fin → Shared → Prop} (X:K.In h) (e:excK K C = true) (hx:h.get? a = some o) (hc:o.cls = .ref C) (hq:Q (.done (.ret (.ref C))) ⟨h,g,d,t,os⟩) :
   wpAny (model prog w) A (Builtin.«object.__getattribute__» ⟨[.ref a,.str "__class__" tk],[]⟩) Q E ⟨h,g,d,t,os⟩:=by
 have hT5:(⟨h,g,d,t,os⟩:Shared).TypeIs (.builtin "object.__class__") "getset_descriptor":=F.typeOf_object_class
 have f5:=F.typeOf_object_class
 have f6:=F.slot_gs_get.lookup
 have f7:=F.slot_gs_set.lookup
 have L2:=looks_findIn (M:=model prog w) X (excK.of e).2.2.2.1
 repeat (any_goals (first | assumption | (with_reducible refine wpAny_loadPart_at hx ?_; rw [hc]) | with_reducible refine L2.at ?_ | wp_step))
 refine exc_get X hx hc (excK.of e).2.2.2.2.2 ?_
 repeat (any_goals (first | assumption | wp_step))
theorem exc_call {tk:Tok} {R:Result → Shared → Prop} (X:K.In h) (e:excK K C = true) (hx:h.get? a = some o) (hc:o.cls = .ref C) (hq:R (.ok (.ret (.ref C))) ⟨h,g,d,t,os⟩) :
   codeAny (model prog w) A (.call (.builtin "BaseException.__getattribute__") ⟨[.ref a,.str "__class__" tk],[]⟩) R ⟨h,g,d,t,os⟩ :=
 codeAny_call_builtin F.attrBase_ValueError.ga.plain F.entry_bexc_ga (exc_check X e hx hc (exc_entry X e hx hc hq))
theorem exc_by {tk:Tok} {Q:Value → Shared → Prop} (X:K.In h) (e:excK K C = true) (hx:h.get? a = some o) (hc:o.cls = .ref C) (hq:Q (.ref C) ⟨h,g,d,t,os⟩) :
   wpAny (model prog w) A (getAttrBy (.ref a) (.str "__class__" tk) false) Q E ⟨h,g,d,t,os⟩:=by
 have f3:=F.attrBase_ValueError.ga.bind (.ref a)
 have hx2:(Value.builtin "BaseException.__getattribute__" == Value.builtin "object.__getattribute__") = false:=by decide +kernel
 have hx1:(onTheHeap (Value.ref C) && Value.builtin "BaseException.__getattribute__" == Value.builtin "object.__getattribute__") = false:=by rw [hx2]; rfl
 have L1:=looks_findIn (M:=model prog w) X (excK.of e).2.1
 have L2:=looks_findIn (M:=model prog w) X (excK.of e).2.2.1
 repeat (any_goals (first | assumption | (with_reducible refine wpAny_loadPart_at hx ?_; rw [hc]) | with_reducible refine L1.at ?_ | with_reducible refine L2.at ?_ | wp_step))
 refine exc_call X e hx hc ?_
 repeat (any_goals (first | assumption | wp_step))
theorem exc_attr {Q:Option Value → Shared → Prop} (X:K.In h) (e:excK K C = true) (hx:h.get? a = some o) (hc:o.cls = .ref C) (hq:Q (some (.ref C)) ⟨h,g,d,t + 1,os⟩) :
   wpAny (model prog w) A (getAttr? (.ref a) "__class__") Q E ⟨h,g,d,t,os⟩:=by
 unfold getAttr? getAttrBy?
 repeat (any_goals (first | assumption | with_reducible apply exc_by X e hx hc | wp_step))
theorem clsIn_out {K:Frag} {C:Addr} {cd:ClassData} (e:clsIn K C = some cd):∃ c d sl,K.lookup C = some ⟨c,d,.cls cd,sl⟩:=by
 unfold clsIn at e
 generalize K.lookup C = o at e ⊢
 rcases o with zz | ⟨c,d,dt,sl⟩
 · exact (no_some e).elim
 · cases dt <;> first | exact (no_some e).elim | exact ⟨c,d,sl,by cases e; rfl⟩
theorem isT_in {K:Frag} {M:Model} {h:Heap} {C:Addr} (X:K.In h) (e:(clsIn K C).isSome = true):Looks M h (isType (.ref C)) true:=Zh (Option.isSome_iff_exists.mp e) fun cd e => ex3 (clsIn_out e) fun zz zz zz ho A' Q' E' s' k q => by
 unfold isType loadHead
 exact Zhb (wpAny_loadPart (k _ _ (X _ _ ho)) (Zjb q))
theorem exc_kit (e:excK K C = true):KitX K (.ref a) (.ref C) (fun h => ∃ o,h.get? a = some o ∧ o.cls = .ref C) where
 ty:=fun zz zz zz p => (by obtain ⟨_,hx,hc⟩:=p; exact looks_ty hx hc)
 it:=fun zz zz X zz => isT_in X (excK.of e).1
 ne:=fun h tp dd its n sl X htp => Bool.eq_false_iff.mpr fun q => Zh (Option.isSome_iff_exists.mp (excK.of e).1) fun cd e => ex3 (clsIn_out e) fun zz zz zz ho => by
   have e:C = tp:=Value.ref.inj (beq_iff_eq.mp q)
   have z:=congrArg Obj.data (sm_inj ((X _ _ ho).symm.trans (e ▸ htp)))
   cases z
 ca:=fun {zz zz zz zz zz s} X p k => by
   obtain ⟨h,g,d,t,os⟩:=s
   obtain ⟨o,hx,hc⟩:=p
   exact exc_attr X e hx hc k
end
section
variable {T:Tp} {d:Nat} {X:QX} {Q:QE} {σ:Hp}
theorem CallOk.isiX {c x:Str} {C D:Addr} {b:Bool} (TO:TopOk T) (hc:T.c c = some C) (hx:T.g x = some (.ref D)) (ek:excK T.K C = true) (e:kitOne T.K (.ref C) (.ref D) = some b) (q:Q (.bool b) σ) :
   CallOk T d X (.bi "isinstance") [.exc c,.glob x] Q σ:=by
 intro A fs ι s fv xs S rf rxs
 cases rf.bi_inv
 obtain ⟨y,z,rfl,r,r2⟩:=rxs.two
 obtain ⟨a,o,C',rfl,ho,hc',ho'⟩:=r
 rw [hc] at hc'; cases hc'
 cases hx.symm.trans r2
 exact kia_one (exc_kit ek) (TO.X0.keeps S.rep.base) ⟨o,ho,ho'⟩ e (by intro q; cases q) fun tk => S.post q .bool_mk tk
theorem CallOk.isiXT {c:Str} {C:Addr} {ty:String} {b:Bool} (TO:TopOk T) (hc:T.c c = some C) (ek:excK T.K C = true) (e:kitOne T.K (.ref C) (.type ty) = some b) (q:Q (.bool b) σ) :
   CallOk T d X (.bi "isinstance") [.exc c,.type ty] Q σ:=by
 intro A fs ι s fv xs S rf rxs
 cases rf.bi_inv
 obtain ⟨y,z,rfl,r,r2⟩:=rxs.two
 cases r2.type_inv
 obtain ⟨a,o,C',rfl,ho,hc',ho'⟩:=r
 rw [hc] at hc'; cases hc'
 exact kia_one (exc_kit ek) (TO.X0.keeps S.rep.base) ⟨o,ho,ho'⟩ e (by intro q; cases q) fun tk => S.post q .bool_mk tk
end
end
section
open PySem PySem.Calls PyProof.Rows PySem.SeqAt PySem.W
noncomputable def Tp.at (T:Tp) (b:Bool):Tp:={ T with hd:=b }
section
variable {T:Tp} {b:Bool} {ι ι':Inj} {h h':Heap}
theorem VRel.at_eq:VRel (T.at b) = VRel T:=by kernel_rfl
theorem ORel.at_eq:ORel (T.at b) = ORel T:=by kernel_rfl
theorem ORelV.at_eq:ORelV (T.at b) = ORelV T:=by kernel_rfl
theorem VRel.at {v:V} {x:Value} (e:VRel T ι h v x):VRel (T.at b) ι h v x:=by rw [VRel.at_eq]; exact e
theorem ORelV.at {v:Option V} {x:Option Value} (e:ORelV T ι h v x):ORelV (T.at b) ι h v x:=by rw [ORelV.at_eq]; exact e
theorem ORel.at {o:MObj} {p:Addr × Addr} (e:ORel T ι h o p):ORel (T.at b) ι h o p:=by rw [ORel.at_eq]; exact e
theorem Rep.at {σ:Hp} (r:Rep T ι σ h):Rep (T.at b) ι σ h:=⟨r.len,r.big,r.size,r.base,fun l o p e q => (r.objs l o p e q).at,r.fresh,r.apart⟩
theorem Ext.at {F:List Addr} (x:Ext T F ι h ι' h'):Ext (T.at b) F ι h ι' h':=⟨x.pre,x.size,x.cls,x.frz,x.keep,x.frm⟩
theorem Frm.at {env:Env} {F:List Addr} {ρ:Loc} (x:Frm T env F ρ ι h):Frm (T.at b) env F ρ ι h :=
 ⟨x.kind,x.glb,x.blt,(by obtain ⟨c,m,a,b,r⟩:=x.ns; exact ⟨c,m,a,b,fun z hz => (r z hz).at⟩),fun z hz => (by obtain ⟨c,o,v,a1,a2,a3,a4,a5,a6⟩:=x.cells z hz; exact ⟨c,o,v,a1,a2,a3,a4,a5.at,a6⟩),x.inj,x.loc,x.cin,x.apart,x.there⟩
theorem FunAt.at {e:Env} (x:FunAt T ι h e):FunAt (T.at b) ι h e:=x.rec fun k L o es ep f n b g c dd => ⟨k,L,o,es,ep,f,n,b,g,c,dd⟩
theorem TopOk.at (TO:TopOk T):TopOk (T.at b):=⟨TO.X0,TO.lim,TO.own,fun x v e => by obtain ⟨V,mg,mb,a1,a2,a3,a4⟩:=TO.gl x v e; exact ⟨V,mg,mb,a1,a2,a3,a4.at⟩⟩
end
theorem nsDelC {M:Model} {A:Around} {E:Value → Shared → Prop} {s:Shared} {a:Addr} {c:String} {m} {name:Str} {Q:Bool → Shared → Prop} (hn:NsC s.heap a c m) (hs:(m name).isSome = true)
   (hQ:∀ h',NsC h' a c (fun x => if x = name then none else m x) → Heap.SameBut a s.heap h' → Q true { s with heap:=h' }):wpAny M A (nsDel a name) Q E s:=by
 obtain ⟨o,es,ep,ho,hc,hdi,hd,hk,hu,hm⟩:=hn
 have hany:es.any (·.refKey) = false:=by
   rw [Array.any_eq_false']; intro e he; obtain ⟨n,t,h⟩:=hk e he; simp [DictEntry.refKey,h]
 have hsome:(m name).isSome = es.any (·.key.isStr name):=by
   rw [← hm name]; simp only [nsFind,findBy,Option.isSome_map]
   rw [Bool.eq_iff_iff]; simp only [Array.find?_isSome,Array.any_eq_true]
   constructor
   · rintro ⟨x,hx,hp⟩; obtain ⟨i,hi,rfl⟩:=Array.mem_iff_getElem.mp hx; exact ⟨i,hi,hp⟩
   · rintro ⟨i,hi,hp⟩; exact ⟨_,Array.getElem_mem hi,hp⟩
 have hhas:nsHas name o = pure true:=by
   rw [nsHas_eq]; unfold nsHasByArray; rw [hd]
   show (if (es.any fun x => x.key.isStr name) = true then _ else _) = _
   rw [← hsome,hs]; rfl
 unfold nsDel
 refine Zhb (wpAny_loadPart ho ?_)
 rw [hhas]
 refine Zhb (Zjb (Zhb (wpAny_updatePart ho (Zjb (hQ _ ?_ (Heap.SameBut.update ..))))))
 obtain ⟨cl,d,dt,sl⟩:=o
 subst hd
 cases hi:es.findIdx? (·.key.isStr name) with
 | some i =>
   refine ⟨_,_,ep + 1,Heap.get?_update_self _ ho (by simp only [Obj.dropName_eq,Obj.dropNameByArray,hi] <;> rfl),(by simp only [Obj.dropName_eq,Obj.dropNameByArray,hi]; exact hc),(by simp only [Obj.dropName_eq,Obj.dropNameByArray,hi]; exact hdi),(by simp only [Obj.dropName_eq,Obj.dropNameByArray,hi] <;> rfl),hk.erase i,hu.erase i,fun x => ?_⟩
   rw [nsFind_erase hu hi,hm]
 | none =>
   exfalso
   rw [hs] at hsome
   rw [Array.findIdx?_eq_none_iff] at hi
   obtain ⟨i,hl,hp⟩:=Array.any_eq_true.mp hsome.symm
   rw [hi _ (Array.getElem_mem hl)] at hp; cases hp
section
variable {T:Tp} {A:Around} {fs:List Env} {d:Nat} {env:Env} {F:List Addr} {ι:Inj} {s:Shared} {ρ:Loc} {σ:Hp}
theorem del_at {M:Model} {A':Around} {E:Value → Shared → Prop} {x:Str} {v:V} {Q:Bool → Shared → Prop} (I:Inv T A fs d env F ρ ι σ s) (hl:env.kindOf x = some .local) (hv:ρ x = some v)
   (k:∀ h',Inv T A fs d env F (upd ρ x none) ι σ { s with heap:=h' } → Ext T F ι s.heap ι h' → Q true { s with heap:=h' }):wpAny M A' (nsDel env.locals x) Q E s:=by
 obtain ⟨c,m,hc,hn,hr⟩:=I.frm.ns
 refine nsDelC hn ((hr x hl).isSome.trans (congrArg Option.isSome hv)) fun h' hn' hs => ?_
 obtain ⟨R',H',e,ds⟩:=I.frm.locTurn (v:=none) I.rep hl hc hn hn' hs fun z hz mo => by
   by_cases q:z = x
   · rw [q,upd_at,if_pos rfl]; exact .none
   · rw [upd_ne q,if_neg q]; exact (hr z hz).mono mo
 exact k h' (I.stored (t:=s.toks) R' H' e ds) e
theorem goes_ok {M:Model} {A':Around} {E:Value → Shared → Prop} {n:Str} {pos:Pos} {Q:Unit → Shared → Prop} (I:Inv T A fs d env F ρ ι σ s) (hl:env.kindOf n = some .local)
   (k:∀ h' t ρ',Inv T A fs d env F ρ' ι σ { s with heap:=h',toks:=t } → Ext T F ι s.heap ι h' → Q () { s with heap:=h',toks:=t }) :
   wpAny M A' (do bindName env n .none; unbindBehindTheSuite env n pos) Q E s:=by
 refine Zhb (wpAny_bindName (storeI (v:=.none) I (by unfold isStore; rw [show env.scope.names.lookup n = _ from hl]) .none_mk fun h₁ t₁ I₁ e₁ => ?_))
 unfold unbindBehindTheSuite
 refine wpAny_onRaise ?_
 unfold unbindName
 refine Zhb (wpAny_point (Zhb ?_))
 unfold deleteName
 simp only [hl]
 rw [if_neg (by rw [I.frm.kind]; simp)]
 refine Zhb (del_at (v:=.none) I₁ hl (by simp [upd]) fun h₂ I₂ e₂ => ?_)
 simp only [Bool.not_true,Bool.false_eq_true,if_false]
 exact Zjb (wpAny_point (k h₂ t₁ _ I₂ (e₁.trans e₂)))
end
end
section
open PySem PySem.Calls PyProof.Rows PySem.SeqAt PySem.W
noncomputable def matchK (K:Frag) (C D:Addr) (b:Bool):Bool:=(clsIn K D).isSome && typeIn K (.ref D) == some (.type "type") && mroIn K D (.type "BaseException") == some true && mroIn K C (.ref D) == some b
set_option tactic.hygienic true in
theorem exc_matches {M:Model} {A:Around} {E:Value → Shared → Prop} {h:Heap} {g:Array GenState} {dr:Drawn} {t:Nat} {os:OsState} {K:Frag} {e C D:Addr} {o:Obj} {b:Bool} {Q:Bool → Shared → Prop} (X:K.In h) (k:matchK K C D b = true) (he:h.get? e = some o) (hc:o.cls = .ref C)
   (hq:Q b ⟨h,g,dr,t,os⟩):wpAny M A (excMatches (.ref e) (.ref D)) Q E ⟨h,g,dr,t,os⟩:=by
 simp only [matchK,Zob,beq_iff_eq] at k
 obtain ⟨⟨⟨k1,k2⟩,k3⟩,k4⟩:=k
 have L0:=looks_ty (M:=M) he hc
 have L1:=looks_typeIn (M:=M) X k2
 have L2:=looks_mroIn (M:=M) X k3
 have L3:=looks_mroIn (M:=M) X k4
 have L4:Looks M h (isType (.ref D)) true:=isT_in X k1
 unfold excMatches
 refine Zhb ?_
 unfold isInstance
 refine Zhb (L1.at ?_)
 rw [tc_notTuple]
 refine Zjb ?_
 rw [if_neg (by decide)]
 dsimp only
 refine Zhb (Zjb ?_)
 simp only [List.forIn_cons,List.forIn_nil]
 refine Zhb (Zhb (Zhb ?_))
 unfold isExcClass
 refine Zhb (L4.at ?_)
 rw [if_pos rfl]
 refine L2.at ?_
 simp only [Bool.not_true,Bool.false_eq_true,if_false]
 refine Zjb (Zjb (Zhb (L0.at ?_)))
 refine Zhb (Zhb (Zhb (L3.at ?_)))
 cases b
 · exact Zjb (Zjb (Zjb hq))
 · exact Zjb (Zjb (Zjb hq))
noncomputable def HandOk (T:Tp) (d:Nat) (sc:Scope) (X:XS) (hs:List ExceptHandler) (c:Str) (Q:QS) (σ:Hp):Prop :=
 ∀ env A fs F ρ ι s ea ι₀ h₀,env.scope = sc → Inv T A fs d env F ρ ι σ s → FlyT T h₀.objs.size ea c s.heap → ea ∉ own ι → T.b0.objs.size ≤ h₀.objs.size → Ext T F ι₀ h₀ ι s.heap →
   wpAny (model T.prog T.w) A (handleBy (.ref ea) env hs) (PostS T A fs d env F Q ι₀ h₀) (PostSX T A fs d env F X ι₀ h₀) s
section
variable {T:Tp} {d:Nat} {sc:Scope} {ρ:Loc} {X:XS} {Q:QS} {σ:Hp}
set_option tactic.hygienic true in
theorem StOk.try {body:List Stmt} {h₀:ExceptHandler} {hs:List ExceptHandler} {pos:Pos} (h:ExOk T d sc ρ (fun c σ' => HandOk T d sc X (h₀ :: hs) c Q σ') body Q σ):StOk T d sc ρ X (.Try body (h₀ :: hs) [] [] pos) Q σ:=by
 intro env A fs F ι s hsc I
 have hb:=I.rep.size
 refine wpAny_Try_except (Zib (h env A fs F ι s hsc I) (fun f s₁ p => ?_) fun x s₁ p => ?_)
 · cases f with
   | next => exact wpAny_execs_nil p
   | _ => exact p
 · refine noted_ok hb p fun ea c ρ' σ' ι' h' hx hX f n I' e' => ?_
   subst hx
   refine flight_ok (S:=frs fs) f fun h'' t f' => ?_
   obtain ⟨I₂,e₂⟩:=PostSX.touched (X:=fun c σ' => HandOk T d sc X (h₀ :: hs) c Q σ') hX n I' e' f.fly hb t
   exact hX env A fs F ρ' ι' _ ea ι s.heap hsc I₂ f' n hb e₂
theorem hname_at {M:Model} {A':Around} {E:Value → Shared → Prop} {x:Str} {np:Pos} {D:Addr} {A:Around} {fs:List Env} {env:Env} {F:List Addr} {ι:Inj} {s:Shared} {R:Value → Shared → Prop} (I:Inv T A fs d env F ρ ι σ s) (TO:TopOk T)
   (hg:T.gv x = some (.glob x)) (hk:env.scope.names.lookup x = some .globalImplicit) (ho:scOk env.scope = true) (hc:T.c x = some D) (q:R (.ref D) s):wpAny M A' (eval (.Name x np) env) R E s:=by
 refine ex3 (TO.gl x _ hg) fun V mg mb h9 => and4 h9 fun n1 n2 hm r => ?_
 have N1:=n1.keeps I.rep.base
 have N2:=n2.keeps I.rep.base
 have hV:V = .ref D:=by
   exact sm_inj (r.symm.trans (refO_out hc))
 subst hV
 refine Name_function_global I.frm.kind hk ?_ (not_debug ho hk).1
 rw [← I.frm.glb] at N1
 rw [← I.frm.blt] at N2
 rcases hm with hm | ⟨hm,hb⟩
 · exact loadGlobal_global N1 hm q
 · exact loadGlobal_builtin N1 hm N2 hb q
theorem Fly.at {T:Tp} {lo:Nat} {ea:Addr} {c:Str} {h:Heap} {C:Addr} {P:Prop} (f:Fly T lo ea c h) (hc:T.c c = some C) (k:∀ (oe:Obj) (vs:Array Value),T.hd = false → lo ≤ ea → h.get? ea = some oe → oe.cls = .ref C → oe.data = .fields vs → vs[2]? = some .none → P):P:=by
 obtain ⟨C',oe,vs,v,f1,f2,f3,f4,f5,f6,f7,f8,f9⟩:=f
 have e1:=f1.2
 rw [hc] at e1; cases e1
 exact k oe vs f1.1 f2 f3 f4 f5 f7
theorem HandOk.miss {c x:Str} {np pos:Pos} {n:Option Str} {body:List Stmt} {rest:List ExceptHandler} {C D:Addr} (TO:TopOk T) (hg:T.gv x = some (.glob x)) (hk:sc.names.lookup x = some .globalImplicit) (ho:scOk sc = true) (hc:T.c c = some C) (hd:T.c x = some D)
   (hm:matchK T.K C D false = true) (h:HandOk T d sc X rest c Q σ):HandOk T d sc X (.ExceptHandler (some (.Name x np)) n body pos :: rest) c Q σ:=by
 intro env A fs F ρ ι s ea ι₀ h₀ hsc I f hn hb e
 subst hsc
 refine wpAny_handleBy_cons (codeAny_handlers_test (hname_at I TO hg hk ho hd ?_)) (by intro q; cases q)
 refine f.fly.at hc fun oe vs f1 f2 f3 f4 f5 f7 => ?_
 obtain ⟨hh,g,dr,t,os⟩:=s
 refine exc_matches (TO.X0.keeps I.rep.base) hm f3 f4 ?_
 exact h env A fs F ρ ι _ ea ι₀ h₀ rfl I f hn hb e
theorem HandOk.hit {c x n:Str} {np pos:Pos} {b₀:Stmt} {body:List Stmt} {rest:List ExceptHandler} {C D:Addr} (TO:TopOk T) (hg:T.gv x = some (.glob x)) (hk:sc.names.lookup x = some .globalImplicit) (ho:scOk sc = true) (hc:T.c c = some C) (hd:T.c x = some D)
   (hm:matchK T.K C D true = true) (hl:sc.names.lookup n = some .local) (h:∀ ρ,ExOk (T.at true) d sc (upd ρ n (some (.exc c))) (fun zz zz => False) (b₀ :: body) (fun fl zz σ' => ∀ ρ',Q fl ρ' σ') σ) :
   HandOk T d sc X (.ExceptHandler (some (.Name x np)) (some n) (b₀ :: body) pos :: rest) c Q σ:=by
 intro env A fs F ρ ι s ea ι₀ h₀ hsc I f hn hb e
 subst hsc
 refine wpAny_handleBy_cons (codeAny_handlers_test (hname_at I TO hg hk ho hd ?_)) (by intro q; cases q)
 refine f.fly.at hc fun oe vs f1 f2 f3 f4 f5 f7 => ?_
 obtain ⟨hh,g,dr,t,os⟩:=s
 refine exc_matches (TO.X0.keeps I.rep.base) hm f3 f4 ?_
 refine codeAny_handlers_suite_as ?_
 refine flight_ok (S:=frs fs) f fun h'' tt f' => ?_
 have hle:h₀.objs.size ≤ ea:=f2
 have I₂:=I.touch tt f.fly hn hb hle
 have e₂:Ext T F ι₀ h₀ ι h'':=e.touch tt (fun a ha => (by obtain ⟨_,_,o,_,_,g,gc,_⟩:=I.aok.mem ha; exact ⟨o,g,gc⟩)) hle
 refine f'.fly.at hc fun oe vs g1 g2 g3 g4 g5 g7 => ?_
 have hx:HandAt (A.mark (some (.ref ea))) ι h'':=fun v q => by
   have:v = .ref ea:=(Zab q).symm
   subst this
   exact ⟨ea,oe,C,vs,rfl,g3,g4,g5,g7,hn⟩
 have I₃:Inv (T.at true) (A.mark (some (.ref ea))) fs d env F ρ ι σ ⟨h'',g,dr,t,os⟩:=⟨I₂.rep.at,⟨I₂.aok.frames,fun e he => (I₂.aok.funs e he).at,I₂.aok.depth,I₂.aok.units,fun q => (by cases q),hx⟩,I₂.frm.at,I₂.top,I₂.gens,I₂.os⟩
 refine storeI (v:=.exc c) I₃ (by unfold isStore; rw [hl]) ?_ fun h₃ t₃ I₄ e₃ => ?_
 · exact ⟨ea,oe,C,rfl,g3,hc,g4⟩
 refine Zib (h ρ env _ fs F ι _ rfl I₄) (fun fl s₅ p => ?_) fun z s₅ p => ?_
 · obtain ⟨fl',ρ',σ',ι',q,r,I₅,e₅⟩:=p
   refine goes_ok (A:=A.mark (some (.ref ea))) I₅ hl fun h₆ t₆ ρ₆ I₆ e₆ => ?_
   have hA:A.handled = none:=I.aok.hd f1
   have eb:T.at true = T.at true:=rfl
   have back:∀ {P:Tp → Prop},P ((T.at true).at T.hd) → P T:=fun h => h
   have IT:Inv T A fs d env F ρ₆ ι' σ' { s₅ with heap:=h₆,toks:=t₆ } :=
     ⟨I₆.rep.at (b:=T.hd),⟨I₆.aok.frames,fun e he => (I₆.aok.funs e he).at (b:=T.hd),I₆.aok.depth,I₆.aok.units,fun zz => hA,.none hA⟩,I₆.frm.at (b:=T.hd),I₆.top,I₆.gens,I₆.os⟩
   exact ⟨fl',ρ₆,σ',ι',q ρ₆,(show FlRel ((T.at true).at T.hd) ι' h₆ fl' fl from r.imp fun zz zz r => (r.mono e₆.mono).at),IT,e₂.trans ((e₃.at (b:=T.hd)).trans ((e₅.at (b:=T.hd)).trans (e₆.at (b:=T.hd))))⟩
 · obtain ⟨zz,zz,zz,zz,zz,zz,q,zz⟩:=p
   exact q.elim
end
end
section
noncomputable def Br (b:Bool) (P R:Prop):Prop:=@Bool.rec (fun zz => Prop) R P b
theorem Br.mk {b:Bool} {P R:Prop} (h1:b = true → P) (h2:b = false → R):Br b P R:=by
 cases b
 · exact h2 rfl
 · exact h1 rfl
theorem Br.t {b:Bool} {P R:Prop} (h:b = true) (p:P):Br b P R:=by subst h; exact p
theorem Br.f {b:Bool} {P R:Prop} (h:b = false) (p:R):Br b P R:=by subst h; exact p
inductive Cal (T:Tp) (d:Nat) (X:QX) (f:V) (args:List V) (Q:QE) (σ:Hp):Prop where
 | mk (h:CallOk T d X f args Q σ):Cal T d X f args Q σ
inductive Evx (T:Tp) (d:Nat) (sc:Scope) (ρ:Loc) (X:QX) (e:Expr) (Q:QE) (σ:Hp):Prop where
 | mk (h:EvOk T d sc ρ X e Q σ):Evx T d sc ρ X e Q σ
inductive Tsx (T:Tp) (d:Nat) (sc:Scope) (ρ:Loc) (X:QX) (e:Expr) (B:Bool → Hp → Prop) (σ:Hp):Prop where
 | mk (h:TsOk T d sc ρ X e B σ):Tsx T d sc ρ X e B σ
inductive Stx (T:Tp) (d:Nat) (sc:Scope) (ρ:Loc) (X:XS) (st:Stmt) (Q:QS) (σ:Hp):Prop where
 | mk (h:StOk T d sc ρ X st Q σ):Stx T d sc ρ X st Q σ
inductive Itm (o i:V) (Q:QE) (σ:Hp):Prop where
 | mk (h:itemVC o i Q σ):Itm o i Q σ
inductive Bin (op:Operator) (a b:V) (Q:QE) (σ:Hp):Prop where
 | mk (h:binVC op a b Q σ):Bin op a b Q σ
inductive Cmp (op:CmpOp) (a b:V) (Q:QE) (σ:Hp):Prop where
 | mk (h:cmpVC op a b Q σ):Cmp op a b Q σ
theorem Cal.out {T:Tp} {d:Nat} {X:QX} {f:V} {args:List V} {Q:QE} {σ:Hp} (h:Cal T d X f args Q σ):CallOk T d X f args Q σ:=by cases h; assumption
theorem Evx.out {T:Tp} {d:Nat} {sc:Scope} {ρ:Loc} {X:QX} {e:Expr} {Q:QE} {σ:Hp} (h:Evx T d sc ρ X e Q σ):EvOk T d sc ρ X e Q σ:=by cases h; assumption
theorem Tsx.out {T:Tp} {d:Nat} {sc:Scope} {ρ:Loc} {X:QX} {e:Expr} {B:Bool → Hp → Prop} {σ:Hp} (h:Tsx T d sc ρ X e B σ):TsOk T d sc ρ X e B σ:=by cases h; assumption
theorem Stx.out {T:Tp} {d:Nat} {sc:Scope} {ρ:Loc} {X:XS} {st:Stmt} {Q:QS} {σ:Hp} (h:Stx T d sc ρ X st Q σ):StOk T d sc ρ X st Q σ:=by cases h; assumption
noncomputable def gd (b:Bool) (P:Prop):Prop:=@Bool.rec (fun zz => Prop) False P b
theorem gd.of {b:Bool} {P:Prop} (h:b = true) (p:P):gd b P:=by subst h; exact p
theorem gd.out {b:Bool} {P:Prop} (h:gd b P):b = true ∧ P:=by
 cases b
 · exact h.elim
 · exact ⟨rfl,h⟩
noncomputable def short:List V → Nat → Bool
 | [],z1 => true
 | z1 :: r,n + 1 => short r n
 | z1 :: z2,0 => false
theorem short_le:∀ {vs:List V} {n:Nat},short vs n = true → vs.length ≤ n
 | [],z1,z2 => Zkb _
 | z1 :: z2,z3 + 1,h => Zwb (short_le h)
noncomputable def tvc (v:V) (σ:Hp) (K:Bool → Prop):Prop:=match truthV v σ with | some b => K b | none => False
theorem tvc.of {v:V} {σ:Hp} {K:Bool → Prop} {b:Bool} (h:truthV v σ = some b) (k:K b):tvc v σ K:=by unfold tvc; rw [h]; exact k
theorem tvc.out {v:V} {σ:Hp} {K:Bool → Prop} (h:tvc v σ K):∃ b,truthV v σ = some b ∧ K b:=by
 unfold tvc at h
 generalize truthV v σ = o at h ⊢
 cases o
 · exact (show False from h).elim
 · exact ⟨_,rfl,h⟩
noncomputable def bvc (v:V) (K:Bool → Prop):Prop:=match v with | .bool b => K b | _ => False
theorem bvc.out {v:V} {K:Bool → Prop} (h:bvc v K):∃ b,v = .bool b ∧ K b:=by
 cases v <;> first | exact h.elim | exact ⟨_,rfl,h⟩
noncomputable def binG (op:Operator) (a b:V) (Q:QE) (σ:Hp):Prop:=match a,b with
 | .int x,.int y => (match op with
   | .Add => Q (.int (x + y)) σ
   | .Sub => Q (.int (x - y)) σ
   | .FloorDiv => gd (y != 0 && decide (y.natAbs < 1073741824)) (Q (.int (x.fdiv y)) σ)
   | .Mod => gd (y != 0) (Q (.int (x.fmod y)) σ)
   | op => Bin op a b Q σ)
 | a,b => Bin op a b Q σ
theorem binG.out {op:Operator} {a b:V} {Q:QE} {σ:Hp} (h:binG op a b Q σ):binVC op a b Q σ:=by
 have key:Bin op a b Q σ → binVC op a b Q σ:=fun h => h.rec id
 cases a <;> first | exact key h | skip
 cases b <;> first | exact key h | skip
 cases op <;> first | exact key h | skip
 · exact ⟨_,_,.add ..,h⟩
 · exact ⟨_,_,.sub ..,h⟩
 · exact ⟨_,_,.mod _ _ (bne_iff_ne.mp (gd.out h).1),(gd.out h).2⟩
 · exact ⟨_,_,.fdiv _ _ (bne_iff_ne.mp (Bool.and_eq_true_iff.mp (gd.out h).1).1) (Zgb (Bool.and_eq_true_iff.mp (gd.out h).1).2),(gd.out h).2⟩
noncomputable def cmpG (op:CmpOp) (a b:V) (Q:QE) (σ:Hp):Prop:=match a,b with
 | .int x,.int y => (match op with
   | .Lt => Q (.bool (decide (x < y))) σ
   | .LtE => Q (.bool (decide (x ≤ y))) σ
   | .Gt => Q (.bool (decide (y < x))) σ
   | .GtE => Q (.bool (decide (y ≤ x))) σ
   | .Eq => Q (.bool (x == y)) σ
   | .NotEq => Q (.bool (x != y)) σ
   | op => Cmp op a b Q σ)
 | .str x,.str y => (match op with
   | .Eq => Q (.bool (x == y)) σ
   | .NotEq => Q (.bool (x != y)) σ
   | op => Cmp op a b Q σ)
 | a,b => Cmp op a b Q σ
theorem cmpG.out {op:CmpOp} {a b:V} {Q:QE} {σ:Hp} (h:cmpG op a b Q σ):cmpVC op a b Q σ:=by
 have key:Cmp op a b Q σ → cmpVC op a b Q σ:=fun h => h.rec id
 cases a <;> first | exact key h | skip
 · cases b <;> first | exact key h | skip
   cases op <;> first | exact key h | exact ⟨_,.eqi ..,h⟩ | exact ⟨_,.nei ..,h⟩ | exact ⟨_,.lt ..,h⟩ | exact ⟨_,.le ..,h⟩ | exact ⟨_,.gt ..,h⟩ | exact ⟨_,.ge ..,h⟩
 · cases b <;> first | exact key h | skip
   cases op <;> first | exact key h | exact ⟨_,.eqs ..,h⟩ | exact ⟨_,.nes ..,h⟩
noncomputable def pick (vs:List V) (k:Int):Option V:=match k with
 | .ofNat n => bif Nat.ble n 1000 then vs[n]? else none
 | .negSucc n => bif Nat.ble n 1000 then (seqIndex? (.negSucc n) vs.length).bind (vs[·]?) else none
set_option tactic.hygienic true in
theorem pick_out {vs:List V} {k:Int} {v:V} (h:pick vs k = some v):∃ j,seqIndex? k vs.length = some j ∧ vs[j]? = some v ∧ decide (-(2 ^ 63) ≤ k ∧ k < 2 ^ 63) = true:=by
 unfold pick at h
 split at h
 · rename_i n
   cases hn:Nat.ble n 1000 <;> rw [hn] at h
   · cases h
   · have hl:=(Zb.mp h).1
     have:=Nat.le_of_ble_eq_true hn
     refine ⟨n,?_,h,Zmb ?_⟩
     · unfold seqIndex?
       simp only [show ¬ ((Int.ofNat n:Int) < 0) by simp,if_false]
       rw [if_pos (by simp only [Zob,decide_eq_true_eq]; clear h; simp only [Int.ofNat_eq_natCast]; lia)]
       simp
     · clear h; simp only [Int.ofNat_eq_natCast]; lia
 · rename_i n
   cases hn:Nat.ble n 1000 <;> rw [hn] at h
   · cases h
   · obtain ⟨j,h1,h2⟩:=Option.bind_eq_some_iff.mp h
     have:=Nat.le_of_ble_eq_true hn
     exact ⟨j,h1,h2,Zmb (by clear h h1 h2; lia)⟩
noncomputable def opP {α:Type} (o:Option α) (P:α → Prop):Prop:=match o with
 | some v => P v
 | none => False
theorem opP_out {α:Type} {o:Option α} {P:α → Prop} (h:opP o P):∃ v,o = some v ∧ P v:=by
 cases o
 · exact (show False from h).elim
 · exact ⟨_,rfl,h⟩
noncomputable def itemG (o i:V) (Q:QE) (σ:Hp):Prop:=match o,i with
 | .tup vs,.int k => opP (pick vs k) fun v => Q v σ
 | o,i => Itm o i Q σ
set_option tactic.hygienic true in
theorem itemG.out {o i:V} {Q:QE} {σ:Hp} (h:itemG o i Q σ):itemVC o i Q σ:=by
 have key:Itm o i Q σ → itemVC o i Q σ:=fun h => h.rec id
 cases o <;> first | exact key h | skip
 cases i <;> first | exact key h | skip
 rename_i vs k
 obtain ⟨v,hv,h⟩:=opP_out h
 refine (pick_out hv).elim fun j h9 => and3 h9 fun h1 h2 h3 => ?_
 exact i_tup h1 h2 h3 h
theorem cmpVC_mono {op:CmpOp} {a b:V} {Q Q':QE} {σ:Hp} (h:cmpVC op a b Q σ) (k:∀ v σ,Q v σ → Q' v σ):cmpVC op a b Q' σ:=h.rec fun r c q => ⟨r,c,k _ _ q⟩
inductive MethOk (T:Tp) (ov:V) (name:Str) (σ:Hp) (K:V → Prop):Prop where
 | mk (f:V) (h:Resolves T σ name ov f) (k:K f):MethOk T ov name σ K
noncomputable def intV (v:V) (K:Int → Prop):Prop:=match v with | .int i => K i | _ => False
theorem intV.out {v:V} {K:Int → Prop} (h:intV v K):∃ i,v = .int i ∧ K i:=by
 cases v <;> first | exact h.elim | exact ⟨_,rfl,h⟩
noncomputable def nmG (o:Option V) (Q:QE) (σ:Hp):Prop:=@Option.rec V (fun zz => Prop) False (fun v => Q v σ) o
theorem nmG.of {o:Option V} {v:V} {Q:QE} {σ:Hp} (h:o = some v) (q:Q v σ):nmG o Q σ:=by subst h; exact q
theorem nmG.out {o:Option V} {Q:QE} {σ:Hp} (h:nmG o Q σ):∃ v,o = some v ∧ Q v σ:=by
 cases o with
 | none => exact h.elim
 | some v => exact ⟨v,rfl,h⟩
set_option genCtorIdx false in
inductive Tg where
 | nm (x:Str) (p:Pos)
 | at (o:Expr) (a:Str) (p:Pos)
 | ix (o i:Expr) (p:Pos)
 | tp (es:List Expr) (k:Nat) (p:Pos)
 | cl (f:Expr) (args:List Expr) (kws:List Keyword) (p:Pos)
 | lc (elt:Expr) (gens:List Comprehension) (scope:Scope) (p:Pos)
 | no
noncomputable def tg (e:Expr):Tg:=e.casesOn (fun _ _ _ => .no) (fun _ _ _ => .no) (fun _ _ _ _ => .no) (fun _ _ _ => .no) (fun _ _ _ _ => .no) (fun _ _ _ _ => .no) (fun _ _ _ => .no) (fun _ _ _ => .no) .lc (fun _ _ _ _ => .no) (fun _ _ _ _ _ => .no) (fun _ _ _ _ => .no) (fun _ _ => .no) (fun _ _ => .no) (fun _ _ => .no) (fun _ _ _ _ => .no) .cl (fun _ _ _ _ => .no) (fun _ _ => .no) (fun _ _ _ => .no) .at .ix (fun _ _ => .no) .nm (fun _ _ => .no) .tp (fun _ _ _ _ => .no)
noncomputable def Tg.back:Tg → Expr
 | .nm x p => .Name x p
 | .at o a p => .Attribute o a p
 | .ix o i p => .Subscript o i p
 | .tp es k p => .Tuple es k p
 | .cl f args kws p => .Call f args kws p
 | .lc elt gens scope p => .ListComp elt gens scope p
 | .no => .Starred (.Name "" default) default
noncomputable def Tg.ok:Tg → Bool
 | .no => false
 | .nm z1 z2 => true
 | .at z1 z2 z3 => true
 | .ix z1 z2 z3 => true
 | .tp z1 z2 z3 => true
 | .cl z1 z2 z3 z4 => true
 | .lc z1 z2 z3 z4 => true
theorem tg_back (e:Expr) (h:(tg e).ok = true):e = (tg e).back:=by
 cases e <;> first | rfl | exact (Zv h).elim
theorem tg_out {e:Expr} {t:Tg} (h:tg e = t) (hk:t.ok = true):e = t.back:=(tg_back e (h ▸ hk)).trans (congrArg Tg.back h)
set_option genInjectivity false
set_option genCtorIdx false in
inductive Wh where
 | tup
 | list
 | callG (x:Str)
 | callM (f ov:V)
set_option genCtorIdx false in
inductive Ko where
 | binR (op:Operator) (e:Expr)
 | binA (op:Operator) (a:V)
 | cmpR (op:CmpOp) (e:Expr)
 | cmpA (op:CmpOp) (a:V)
 | chnR (op op2:CmpOp) (e e2:Expr)
 | chnA (op op2:CmpOp) (a:V) (e2:Expr)
 | chnB (op2:CmpOp) (b:V) (e2:Expr)
 | arg (acc:List V) (es:List Expr) (w:Wh)
 | ixR (i:Expr)
 | ixA (o:V)
 | attr (a:Str)
 | not
 | neg
 | bo (op:BoolOp) (es:List Expr)
 | meth (name:Str) (args:List Expr)
 | comp (scope:Scope) (x:Str) (ifs:List Expr) (elt:Expr)
 | tst
 | tsb
 | rev
 | asgN (x:Str) (rest:List (List Stmt))
 | asgA (o:Expr) (a:Str) (rest:List (List Stmt))
 | asgB (a:Str) (v:V) (rest:List (List Stmt))
 | asgS (o i:Expr) (rest:List (List Stmt))
 | asgI (i:Expr) (v:V) (rest:List (List Stmt))
 | asgV (v ov:V) (rest:List (List Stmt))
 | expr (rest:List (List Stmt))
 | for1 (x:Str) (body:List Stmt) (rest:List (List Stmt))
 | for2 (a b:Str) (body:List Stmt) (rest:List (List Stmt))
 | bnot
 | bal (op:BoolOp) (es:List Expr)
 | ite (b o:List Stmt) (rest:List (List Stmt))
set_option genCtorIdx false in
inductive Cf where
 | ev (e:Expr) (k:List Ko) (ρ:Loc) (σ:Hp)
 | rt (v:V) (k:List Ko) (ρ:Loc) (σ:Hp)
 | ag (es:List Expr) (acc:List V) (w:Wh) (k:List Ko) (ρ:Loc) (σ:Hp)
 | bo (op:BoolOp) (es:List Expr) (k:List Ko) (ρ:Loc) (σ:Hp)
 | ts (e:Expr) (k:List Ko) (ρ:Loc) (σ:Hp)
 | al (op:BoolOp) (es:List Expr) (k:List Ko) (ρ:Loc) (σ:Hp)
 | bl (b:Bool) (k:List Ko) (ρ:Loc) (σ:Hp)
 | st (sss:List (List Stmt)) (ρ:Loc) (σ:Hp)
noncomputable def high (a b:V) (Q:QE) (σ:Hp):Prop:=binG .Add a b Q σ ∧ cmpG .Eq a b Q σ ∧ itemG a b Q σ ∧ tvc a σ (fun zz => True) ∧ nmG none Q σ ∧ gd true True
section
variable (r:Cf → Prop)
noncomputable def rtQ (k:List Ko) (ρ:Loc):QE:=fun v σ => let _h:=high; r (.rt v k ρ σ)
noncomputable def blQ (k:List Ko) (ρ:Loc):Bool → Hp → Prop:=fun b σ => let _h:=high; r (.bl b k ρ σ)
noncomputable def blK (k:List Ko) (ρ:Loc) (σ:Hp) (b:Bool):Prop:=let _h:=high; r (.bl b k ρ σ)
noncomputable def notK (k:List Ko) (ρ:Loc) (σ:Hp) (b:Bool):Prop:=r (.rt (.bool (!b)) k ρ σ)
noncomputable def negK (k:List Ko) (ρ:Loc) (σ:Hp) (i:Int):Prop:=r (.rt (.int (-i)) k ρ σ)
noncomputable def boK (op:BoolOp) (es:List Expr) (v:V) (k:List Ko) (ρ:Loc) (σ:Hp) (b:Bool):Prop:=match op with
 | .And => Br b (r (.bo .And es k ρ σ)) (r (.rt v k ρ σ))
 | .Or => Br b (r (.rt v k ρ σ)) (r (.bo .Or es k ρ σ))
noncomputable def chK (op2:CmpOp) (b:V) (e:Expr) (k:List Ko) (ρ:Loc) (σ:Hp) (c:Bool):Prop:=Br c (r (.ev e (.cmpA op2 b :: k) ρ σ)) (r (.rt (.bool false) k ρ σ))
noncomputable def mtK (args:List Expr) (ov:V) (k:List Ko) (ρ:Loc) (σ:Hp) (f:V):Prop:=r (.ag args [] (.callM f ov) k ρ σ)
noncomputable def revK:List V → List V → (List V → Prop) → Prop
 | [],out,P => P out
 | v :: acc,out,P => revK acc (v :: out) P
noncomputable def aftQ (Q:QS) (rest:List (List Stmt)):QS:=fun fl ρ σ => match fl with
 | .next => r (.st rest ρ σ)
 | fl => Q fl ρ σ
end
section
variable (T:Tp) (sc:Scope)
noncomputable def isGlob (x:Str):Bool:=match sc.names.lookup x with | some .globalImplicit => true | _ => false
noncomputable def keepV (v:V):Bool:=v.casesOn (callable v) (fun _ => callable v) (fun _ => callable v) (fun _ => callable v) (fun _ => callable v) (fun _ => callable v) (fun x => (T.g x).any fun v => PySem.W.keepIn T.K v) (fun _ _ => callable v) (fun _ => callable v) (fun _ => callable v) (fun _ => callable v) (fun _ => callable v) (fun _ => callable v) (fun _ _ => callable v)
noncomputable def keepO:Option V → Bool
 | some v => keepV T v
 | none => false
end
noncomputable def nmO:Tg → Option Str
 | .nm x z1 => some x
 | z1 => none
theorem nmO_out {e:Expr} {x:Str} (h:nmO (tg e) = some x):∃ p,e = .Name x p:=by
 cases ht:tg e <;> rw [ht] at h <;> first | exact (no_some h).elim | exact ⟨_,sm_inj h ▸ tg_out ht rfl⟩
noncomputable def revA:Tg → Option (Str × Expr)
 | .cl f [a] [] z1 => (nmO (tg f)).map fun x => (x,a)
 | z1 => none
noncomputable def revIs (sc:Scope) (x:Str) (a:Expr):Bool:=x == ("reversed" : Str) && (isGlob sc x && noStar [a])
noncomputable def isRevT:Option V → Bool
 | some (.type n) => n == "reversed"
 | z1 => false
theorem isRevT_out {o:Option V} (h:isRevT o = true):o = some (.type "reversed"):=by
 rcases o with zz | v
 · exact (Zv h).elim
 · cases v <;> first | exact (Zv h).elim | exact congrArg (some <| V.type ·) (eq_of_beq h)
inductive RevOk (K:V → Hp → Prop) (v:V) (σ:Hp):Prop where
 | mk (l:Nat) (vs:List V) (h:v = .ref l) (h1:σ[l]? = some (.list vs)) (k:K (.rev l vs.length) σ):RevOk K v σ
noncomputable def isCell (sc:Scope) (x:Str):Bool:=match sc.names.lookup x with | some .cell => true | _ => false
noncomputable def isLocal (sc:Scope) (x:Str):Bool:=match sc.names.lookup x with | some .local => true | _ => false
noncomputable def noRev (sc:Scope) (e:Expr):Bool:=match revA (tg e) with
 | some (x,a) => !revIs sc x a
 | none => true
section
variable (T:Tp) (d:Nat) (sc:Scope) (X:QX) (Q:QS) (r:Cf → Prop)
noncomputable def compOn (scope:Scope) (c:Comprehension) (x:Str):Bool:=compOk scope sc && isStore scope x && noSet c.iter && !T.hd && c.is_async == 0 && noRev sc c.iter
noncomputable def compG (elt:Expr) (gens:List Comprehension) (scope:Scope) (P:Prop) (k:List Ko) (ρ:Loc) (σ:Hp):Prop:=match gens with
 | [c] => (match nmO (tg c.target) with
   | some x => bif compOn T sc scope c x then r (.ev c.iter (.comp scope x c.ifs elt :: k) ρ σ) else P
   | none => P)
 | z1 => P
noncomputable def stE (e:Expr) (k:List Ko) (ρ:Loc) (σ:Hp):Prop:=e.casesOn
 (fun op es z1 => r (.bo op es k ρ σ)) (fun _ _ _ => Evx T d sc ρ X e (rtQ r k ρ) σ)
 (fun l op e2 z1 => r (.ev l (.binR op e2 :: k) ρ σ))
 (fun op x z1 => (match op with
   | .Not => r (.ev x (.not :: k) ρ σ)
   | .USub => r (.ev x (.neg :: k) ρ σ)
   | z1 => Evx T d sc ρ X e (rtQ r k ρ) σ)) (fun _ _ _ _ => Evx T d sc ρ X e (rtQ r k ρ) σ) (fun _ _ _ _ => Evx T d sc ρ X e (rtQ r k ρ) σ)
 (fun ks vs z1 => bif ks.isEmpty && vs.isEmpty then r (.rt (.ref σ.length) k ρ (σ ++ [.sdict []])) else Evx T d sc ρ X e (rtQ r k ρ) σ) (fun _ _ _ => Evx T d sc ρ X e (rtQ r k ρ) σ)
 (fun elt gens scope z1 => compG T sc r elt gens scope (Evx T d sc ρ X e (rtQ r k ρ) σ) k ρ σ) (fun _ _ _ _ => Evx T d sc ρ X e (rtQ r k ρ) σ) (fun _ _ _ _ _ => Evx T d sc ρ X e (rtQ r k ρ) σ) (fun _ _ _ _ => Evx T d sc ρ X e (rtQ r k ρ) σ) (fun _ _ => Evx T d sc ρ X e (rtQ r k ρ) σ) (fun _ _ => Evx T d sc ρ X e (rtQ r k ρ) σ) (fun _ _ => Evx T d sc ρ X e (rtQ r k ρ) σ)
 (fun l ops rs z1 => (match ops,rs with
   | [op],[e2] => bif behindInMarks op e2 then Evx T d sc ρ X e (rtQ r k ρ) σ else r (.ev l (.cmpR op e2 :: k) ρ σ)
   | [op,op2],[m,e2] => bif behindInMarks op2 e2 then Evx T d sc ρ X e (rtQ r k ρ) σ else r (.ev l (.chnR op op2 m e2 :: k) ρ σ)
   | z1,z2 => Evx T d sc ρ X e (rtQ r k ρ) σ))
 (fun f args kws pos => (match kws with | _ :: _ => Evx T d sc ρ X e (rtQ r k ρ) σ | [] => match tg f with
   | .nm x z1 => bif noStar args && isGlob sc x then gd (keepO T (T.gv x)) (r (.ag args [] (.callG x) k ρ σ)) else Evx T d sc ρ X e (rtQ r k ρ) σ
   | .at o name apos => bif plainBase o && noStar args && (apos.endLine == pos.line) && Nat.ble args.length 20 then r (.ev o (.meth name args :: k) ρ σ)
     else Evx T d sc ρ X e (rtQ r k ρ) σ
   | z1 => Evx T d sc ρ X e (rtQ r k ρ) σ)) (fun _ _ _ _ => Evx T d sc ρ X e (rtQ r k ρ) σ) (fun _ _ => Evx T d sc ρ X e (rtQ r k ρ) σ)
 (fun c z1 z2 => (match c with
   | .none => r (.rt .none k ρ σ)
   | .bool b => r (.rt (.bool b) k ρ σ)
   | .int i => r (.rt (.int i) k ρ σ)
   | .str t => r (.rt (.str t) k ρ σ)
   | z1 => Evx T d sc ρ X e (rtQ r k ρ) σ))
 (fun v a z1 => bif plainBase v then r (.ev v (.attr a :: k) ρ σ) else Evx T d sc ρ X e (rtQ r k ρ) σ)
 (fun v i z1 => bif notSlice i then r (.ev v (.ixR i :: k) ρ σ) else Evx T d sc ρ X e (rtQ r k ρ) σ) (fun _ _ => Evx T d sc ρ X e (rtQ r k ρ) σ)
 (fun x z1 => bif isVar sc x then nmG (ρ x) (rtQ r k ρ) σ else gd (isGlob sc x) (nmG (T.gv x) (rtQ r k ρ) σ))
 (fun es z1 => bif noStar es then r (.ag es [] .list k ρ σ) else Evx T d sc ρ X e (rtQ r k ρ) σ)
 (fun es z1 z2 => bif noStar es then r (.ag es [] .tup k ρ σ) else Evx T d sc ρ X e (rtQ r k ρ) σ) (fun _ _ _ _ => Evx T d sc ρ X e (rtQ r k ρ) σ)
noncomputable def finA (w:Wh) (k:List Ko) (ρ:Loc) (σ:Hp) (vs:List V):Prop:=match w with
 | .tup => gd (short vs 100) (r (.rt (.tup vs) k ρ σ))
 | .list => gd (short vs 100) (r (.rt (.ref σ.length) k ρ (σ ++ [.list vs])))
 | .callG x => nmG (T.gv x) (fun v σ => Cal T d X v vs (rtQ r k ρ) σ) σ
 | .callM f ov => Cal T d X f (ov :: vs) (rtQ r k ρ) σ
noncomputable def stR (v:V) (k:List Ko) (ρ:Loc) (σ:Hp):Prop:=match k with
 | [] => Q (.ret v) ρ σ
 | f :: k => match f with
   | .binR op e => r (.ev e (.binA op v :: k) ρ σ)
   | .binA op a => binG op a v (rtQ r k ρ) σ
   | .cmpR op e => r (.ev e (.cmpA op v :: k) ρ σ)
   | .cmpA op a => cmpG op a v (rtQ r k ρ) σ
   | .chnR op op2 e e2 => r (.ev e (.chnA op op2 v e2 :: k) ρ σ)
   | .chnA op op2 a e2 => cmpG op a v (rtQ r (.chnB op2 v e2 :: k) ρ) σ
   | .chnB op2 b e2 => bvc v (chK r op2 b e2 k ρ σ)
   | .arg acc es w => r (.ag es (v :: acc) w k ρ σ)
   | .ixR i => r (.ev i (.ixA v :: k) ρ σ)
   | .ixA o => itemG o v (rtQ r k ρ) σ
   | .attr a => AttrOk T a (rtQ r k ρ) v σ
   | .not => tvc v σ (notK r k ρ σ)
   | .neg => intV v (negK r k ρ σ)
   | .bo op es => tvc v σ (boK r op es v k ρ σ)
   | .meth name args => MethOk T v name σ (mtK r args v k ρ σ)
   | .comp scope x ifs elt => CompOk T d sc ρ X scope x ifs elt (rtQ r k ρ) v σ
   | .tst => tvc v σ (blK r k ρ σ)
   | .tsb => bvc v (blK r k ρ σ)
   | .rev => RevOk (rtQ r k ρ) v σ
   | .asgN x rest => r (.st rest (upd ρ x (some v)) σ)
   | .asgA o a rest => r (.ev o (.asgB a v rest :: k) ρ σ)
   | .asgB a u rest => SetAttrOk T a ρ (aftQ r Q rest) u v σ
   | .asgS o i rest => r (.ev o (.asgI i v rest :: k) ρ σ)
   | .asgI i u rest => r (.ev i (.asgV u v rest :: k) ρ σ)
   | .asgV u ov rest => SetItemOk ρ (aftQ r Q rest) u ov v σ
   | .expr rest => r (.st rest ρ σ)
   | .for1 x body rest => ForOk T d sc X (nx1 x) body (aftQ r Q rest) v ρ σ
   | .for2 a b body rest => ForOk T d sc X (nx2 a b) body (aftQ r Q rest) v ρ σ
   | .bnot => False
   | .bal z1 z2 => False
   | .ite z1 z2 z3 => False
noncomputable def stT (e:Expr) (k:List Ko) (ρ:Loc) (σ:Hp):Prop:=e.casesOn
 (fun op es z1 => r (.al op es k ρ σ)) (fun _ _ _ => r (.ev e (.tst :: k) ρ σ)) (fun _ _ _ _ => r (.ev e (.tst :: k) ρ σ))
 (fun op x z1 => (match op with
   | .Not => r (.ts x (.bnot :: k) ρ σ)
   | z1 => Tsx T d sc ρ X e (blQ r k ρ) σ)) (fun _ _ _ _ => r (.ev e (.tst :: k) ρ σ))
 (fun _ _ _ _ => Tsx T d sc ρ X e (blQ r k ρ) σ) (fun _ _ _ => r (.ev e (.tst :: k) ρ σ)) (fun _ _ _ => r (.ev e (.tst :: k) ρ σ)) (fun _ _ _ _ => r (.ev e (.tst :: k) ρ σ)) (fun _ _ _ _ => r (.ev e (.tst :: k) ρ σ)) (fun _ _ _ _ _ => r (.ev e (.tst :: k) ρ σ)) (fun _ _ _ _ => r (.ev e (.tst :: k) ρ σ)) (fun _ _ => r (.ev e (.tst :: k) ρ σ)) (fun _ _ => r (.ev e (.tst :: k) ρ σ)) (fun _ _ => r (.ev e (.tst :: k) ρ σ))
 (fun l ops rs z1 => (match ops,rs with
   | [op],[e2] => bif behindInMarks op e2 then Tsx T d sc ρ X e (blQ r k ρ) σ else r (.ev l (.cmpR op e2 :: .tsb :: k) ρ σ)
   | [op,op2],[m,e2] => bif behindInMarks op2 e2 then Tsx T d sc ρ X e (blQ r k ρ) σ else r (.ev l (.chnR op op2 m e2 :: .tsb :: k) ρ σ)
   | z1,z2 => Tsx T d sc ρ X e (blQ r k ρ) σ)) (fun _ _ _ _ => r (.ev e (.tst :: k) ρ σ)) (fun _ _ _ _ => r (.ev e (.tst :: k) ρ σ)) (fun _ _ => r (.ev e (.tst :: k) ρ σ)) (fun _ _ _ => r (.ev e (.tst :: k) ρ σ)) (fun _ _ _ => r (.ev e (.tst :: k) ρ σ)) (fun _ _ _ => r (.ev e (.tst :: k) ρ σ)) (fun _ _ => r (.ev e (.tst :: k) ρ σ)) (fun _ _ => r (.ev e (.tst :: k) ρ σ)) (fun _ _ => r (.ev e (.tst :: k) ρ σ)) (fun _ _ _ => r (.ev e (.tst :: k) ρ σ)) (fun _ _ _ _ => r (.ev e (.tst :: k) ρ σ))
noncomputable def stL (b:Bool) (k:List Ko) (ρ:Loc) (σ:Hp):Prop:=match k with
 | [] => Q (.ret (.bool b)) ρ σ
 | f :: k => f.casesOn (fun _ _ => False) (fun _ _ => False) (fun _ _ => False) (fun _ _ => False) (fun _ _ _ _ => False) (fun _ _ _ _ => False) (fun _ _ _ => False) (fun _ _ _ => False) (fun _ => False) (fun _ => False) (fun _ => False) False False (fun _ _ => False) (fun _ _ => False) (fun _ _ _ _ => False) False False False (fun _ _ => False) (fun _ _ _ => False) (fun _ _ _ => False) (fun _ _ _ => False) (fun _ _ _ => False) (fun _ _ _ => False) (fun _ => False) (fun _ _ _ => False) (fun _ _ _ _ => False) (r (.bl (!b) k ρ σ)) (fun op es => match op with
     | .And => Br b (r (.al .And es k ρ σ)) (r (.bl false k ρ σ))
     | .Or => Br b (r (.bl true k ρ σ)) (r (.al .Or es k ρ σ))) (fun t o rest => Br b (r (.st (t :: rest) ρ σ)) (r (.st (o :: rest) ρ σ)))
noncomputable def itG (iter:Expr) (k:List Ko) (ρ:Loc) (σ:Hp):Prop:=match revA (tg iter) with
 | some (x,a) => bif revIs sc x a then gd (isRevT (T.gv x)) (r (.ev a (.rev :: k) ρ σ)) else r (.ev iter k ρ σ)
 | none => r (.ev iter k ρ σ)
noncomputable def forT (a b:Option Str) (iter:Expr) (body:List Stmt) (P:Prop) (rest:List (List Stmt)) (ρ:Loc) (σ:Hp):Prop:=match a,b with
 | some a,some b => bif isStore sc a && isStore sc b && noSet iter && !T.hd then itG T sc r iter [.for2 a b body rest] ρ σ else P
 | z1,z2 => P
noncomputable def forG (t:Tg) (iter:Expr) (body:List Stmt) (P:Prop) (rest:List (List Stmt)) (ρ:Loc) (σ:Hp):Prop:=match t with
 | .nm x z1 => bif isStore sc x && noSet iter && !T.hd then itG T sc r iter [.for1 x body rest] ρ σ else P
 | .tp es z1 z2 => (match es with
   | [a,b] => forT T sc r (nmO (tg a)) (nmO (tg b)) iter body P rest ρ σ
   | z1 => P)
 | z1 => P
noncomputable def asgG (t:Tg) (value:Expr) (P:Prop) (rest:List (List Stmt)) (ρ:Loc) (σ:Hp):Prop:=match t with
 | .nm x z1 => bif isStore sc x then r (.ev value [.asgN x rest] ρ σ) else P
 | .at o a z1 => r (.ev value [.asgA o a rest] ρ σ)
 | .ix o i z1 => r (.ev value [.asgS o i rest] ρ σ)
 | z1 => P
noncomputable def asgC (t u:Tg) (value:Expr) (P:Prop) (rest:List (List Stmt)) (ρ:Loc) (σ:Hp):Prop:=match t with
 | .nm y py => bif isCell sc y then r (.ev value [.asgN y rest] ρ σ) else
   match u with
   | .lc elt gens scope pos => bif isLocal sc y && (py.line == pos.line && !(scope.names.any fun (n,k) => n == y && (k == .local || k == .cell))) then compG T sc r elt gens scope P [.asgN y rest] ρ σ else P
   | z1 => P
 | z1 => P
noncomputable def stM (st:Stmt) (rest:List (List Stmt)) (ρ:Loc) (σ:Hp):Prop:=st.casesOn (fun _ _ _ _ _ _ _ _ _ _ => Stx T d sc ρ X st (aftQ r Q rest) σ) (fun _ _ _ _ _ _ _ _ _ _ => Stx T d sc ρ X st (aftQ r Q rest) σ) (fun _ _ _ _ _ _ _ _ _ _ _ => Stx T d sc ρ X st (aftQ r Q rest) σ) (fun v _ => match v with | some e => r (.ev e [] ρ σ) | none => Q (.ret .none) ρ σ) (fun _ _ => Stx T d sc ρ X st (aftQ r Q rest) σ) (fun ts value _ => match ts with | [t] => bif noComp value then asgG sc r (tg t) value (Stx T d sc ρ X st (aftQ r Q rest) σ) rest ρ σ else asgC T sc r (tg t) (tg value) value (Stx T d sc ρ X st (aftQ r Q rest) σ) rest ρ σ | _ => Stx T d sc ρ X st (aftQ r Q rest) σ) (fun _ _ _ _ _ _ _ => Stx T d sc ρ X st (aftQ r Q rest) σ) (fun _ _ _ _ => Stx T d sc ρ X st (aftQ r Q rest) σ) (fun _ _ _ _ _ => Stx T d sc ρ X st (aftQ r Q rest) σ) (fun t iter body el _ => match el with | [] => forG T sc r (tg t) iter body (Stx T d sc ρ X st (aftQ r Q rest) σ) rest ρ σ | _ :: _ => Stx T d sc ρ X st (aftQ r Q rest) σ) (fun _ _ _ _ _ => Stx T d sc ρ X st (aftQ r Q rest) σ) (fun _ _ _ _ => Stx T d sc ρ X st (aftQ r Q rest) σ) (fun e b o _ => r (.ts e [.ite b o rest] ρ σ)) (fun _ _ _ => Stx T d sc ρ X st (aftQ r Q rest) σ) (fun _ _ _ => Stx T d sc ρ X st (aftQ r Q rest) σ) (fun _ _ _ => Stx T d sc ρ X st (aftQ r Q rest) σ) (fun _ _ _ => Stx T d sc ρ X st (aftQ r Q rest) σ) (fun _ _ _ _ _ => Stx T d sc ρ X st (aftQ r Q rest) σ) (fun _ _ _ _ _ => Stx T d sc ρ X st (aftQ r Q rest) σ) (fun _ _ _ => Stx T d sc ρ X st (aftQ r Q rest) σ) (fun _ _ => Stx T d sc ρ X st (aftQ r Q rest) σ) (fun _ _ _ _ => Stx T d sc ρ X st (aftQ r Q rest) σ) (fun _ _ => Stx T d sc ρ X st (aftQ r Q rest) σ) (fun _ _ => Stx T d sc ρ X st (aftQ r Q rest) σ) (fun e _ => bif noComp e then r (.ev e [.expr rest] ρ σ) else Stx T d sc ρ X st (aftQ r Q rest) σ) (fun _ => r (.st rest ρ σ)) (fun _ => Q .brk ρ σ) (fun _ => Q .cont ρ σ)
noncomputable def stepC (c:Cf):Prop:=match c with
 | .ev e k ρ σ => stE T d sc X r e k ρ σ
 | .rt v k ρ σ => stR T d sc X Q r v k ρ σ
 | .ag es acc w k ρ σ => (match es with
   | e :: es => r (.ev e (.arg acc es w :: k) ρ σ)
   | [] => revK acc [] (finA T d X r w k ρ σ))
 | .bo op es k ρ σ => (match es with
   | [] => False
   | [x] => r (.ev x k ρ σ)
   | x :: y :: t => r (.ev x (.bo op (y :: t) :: k) ρ σ))
 | .ts e k ρ σ => stT T d sc X r e k ρ σ
 | .al op es k ρ σ => (match es with
   | x :: es => r (.ts x (.bal op es :: k) ρ σ)
   | [] => r (.bl (match op with | .And => true | .Or => false) k ρ σ))
 | .bl b k ρ σ => stL Q r b k ρ σ
 | .st sss ρ σ => (match sss with
   | [] => Q .next ρ σ
   | [] :: rest => r (.st rest ρ σ)
   | (st :: b) :: rest => stM T d sc X Q r st (b :: rest) ρ σ)
noncomputable def gw:Nat → Cf → Prop
 | 0,z1 => False
 | n + 1,c => stepC T d sc X Q (gw n) c
end
theorem bif_out {b:Bool} {P R:Prop} (h:bif b then P else R):(b = true ∧ P) ∨ (b = false ∧ R):=by
 cases b
 · exact .inr ⟨rfl,h⟩
 · exact .inl ⟨rfl,h⟩
theorem bif_el {b:Bool} {P Rn C:Prop} (h:bif b then P else Rn) (h1:b = true → P → C) (h2:Rn → C):C:=by
 cases b
 · exact h2 h
 · exact h1 rfl h
theorem gd_el {b:Bool} {P C:Prop} (h:gd b P) (k:b = true → P → C):C:=by
 cases b
 · exact h.elim
 · exact k rfl h
theorem nmG_el {o:Option V} {Q:QE} {σ:Hp} {C:Prop} (h:nmG o Q σ) (k:∀ v,o = some v → Q v σ → C):C:=by
 cases o
 · exact h.elim
 · exact k _ rfl h
theorem and2 {a b:Bool} (h:(a && b) = true):a = true ∧ b = true:=Bool.and_eq_true_iff.mp h
theorem no_t {b:Bool} (h:(!b) = true):b = false:=by cases b <;> first | rfl | cases h
theorem dr {x y m:Nat} (h:x + y < m):x < m:=Zk (Zy ..) h
theorem dl {x y m:Nat} (h:x + y < m):y < m:=Zk (Nat.le_add_left ..) h
theorem z1 {a m:Nat} (h:1 + a < m + 1):a < m:=by rw [Nat.add_comm] at h; exact Nat.lt_of_succ_lt_succ h
theorem z2 {a b m:Nat} (h:1 + a + b < m + 1):b < m:=dl (z1 (Nat.add_assoc 1 a b ▸ h))
theorem z3 {a b c m:Nat} (h:1 + a + b + c < m + 1):c < m:=z2 (a:=a + b) (Nat.add_assoc 1 a b ▸ h)
theorem zBool {op:BoolOp} {es:List Expr} {p:Pos} {m:Nat} (h:sizeOf (Expr.BoolOp op es p) < m + 1):sizeOf es < m:=by rw [Expr.BoolOp.sizeOf_spec] at h; exact z2 (dr h)
theorem zBin {l e:Expr} {op:Operator} {p:Pos} {m:Nat} (h:sizeOf (Expr.BinOp l op e p) < m + 1):sizeOf l < m ∧ sizeOf e < m:=by rw [Expr.BinOp.sizeOf_spec] at h; exact ⟨z1 (dr (dr (dr h))),z3 (dr h)⟩
theorem zUn {e:Expr} {op:UnaryOp} {p:Pos} {m:Nat} (h:sizeOf (Expr.UnaryOp op e p) < m + 1):sizeOf e < m:=by rw [Expr.UnaryOp.sizeOf_spec] at h; exact z2 (dr h)
theorem zCons {α:Type} [SizeOf α] {e:α} {es:List α} {m:Nat} (h:sizeOf (e :: es) < m):sizeOf e < m ∧ sizeOf es < m:=by rw [List.cons.sizeOf_spec] at h; exact ⟨dl (dr h),dl h⟩
theorem zCmp {l:Expr} {ops:List CmpOp} {es:List Expr} {p:Pos} {m:Nat} (h:sizeOf (Expr.Compare l ops es p) < m + 1):sizeOf l < m ∧ sizeOf es < m:=by rw [Expr.Compare.sizeOf_spec] at h; exact ⟨z1 (dr (dr (dr h))),z3 (dr h)⟩
theorem zCall {f:Expr} {es:List Expr} {ks:List Keyword} {p:Pos} {m:Nat} (h:sizeOf (Expr.Call f es ks p) < m + 1):sizeOf f < m ∧ sizeOf es < m:=by rw [Expr.Call.sizeOf_spec] at h; exact ⟨z1 (dr (dr (dr h))),z2 (dr (dr h))⟩
theorem zAtt {o:Expr} {a:Str} {p:Pos} {m:Nat} (h:sizeOf (Expr.Attribute o a p) < m):sizeOf o < m:=by rw [Expr.Attribute.sizeOf_spec] at h; exact dl (dr (dr h))
theorem zAt1 {o:Expr} {a:Str} {p:Pos} {m:Nat} (h:sizeOf (Expr.Attribute o a p) < m + 1):sizeOf o < m:=by rw [Expr.Attribute.sizeOf_spec] at h; exact z1 (dr (dr h))
theorem zSub {o i:Expr} {p:Pos} {m:Nat} (h:sizeOf (Expr.Subscript o i p) < m + 1):sizeOf o < m ∧ sizeOf i < m:=by rw [Expr.Subscript.sizeOf_spec] at h; exact ⟨z1 (dr (dr h)),z2 (dr h)⟩
theorem zList {es:List Expr} {p:Pos} {m:Nat} (h:sizeOf (Expr.List es p) < m + 1):sizeOf es < m:=by rw [Expr.List.sizeOf_spec] at h; exact z1 (dr h)
theorem zTup {es:List Expr} {k:Nat} {p:Pos} {m:Nat} (h:sizeOf (Expr.Tuple es k p) < m + 1):sizeOf es < m:=by rw [Expr.Tuple.sizeOf_spec] at h; exact z1 (dr (dr h))
theorem zComp {e:Expr} {c:Comprehension} {sc:Scope} {p:Pos} {m:Nat} (h:sizeOf (Expr.ListComp e [c] sc p) < m + 1):sizeOf c.iter < m:=by
 rw [Expr.ListComp.sizeOf_spec] at h
 have h:=(zCons (z2 (dr (dr h)))).1
 cases c; rw [Comprehension.mk.sizeOf_spec] at h; exact dl (dr (dr h))
theorem zSt {st:Stmt} {b:List Stmt} {m:Nat} (h:sizeOf (st :: b) < m + 1):sizeOf st < m ∧ sizeOf b < m:=by rw [List.cons.sizeOf_spec] at h; exact ⟨z1 (dr h),z2 h⟩
theorem zIf {e:Expr} {b o:List Stmt} {p:Pos} {m:Nat} (h:sizeOf (Stmt.If e b o p) < m):sizeOf b < m ∧ sizeOf o < m:=by rw [Stmt.If.sizeOf_spec] at h; exact ⟨dl (dr (dr h)),dl (dr h)⟩
theorem isGlob_out {sc:Scope} {x:Str} (h:isGlob sc x = true):sc.names.lookup x = some .globalImplicit:=by
 unfold isGlob at h
 generalize sc.names.lookup x = o at h ⊢
 rcases o with zz | k
 · exact (Zv h).elim
 · cases k <;> first | exact (Zv h).elim | rfl
theorem isCell_out {sc:Scope} {x:Str} (h:isCell sc x = true):sc.names.lookup x = some .cell:=by
 unfold isCell at h
 generalize sc.names.lookup x = o at h ⊢
 rcases o with zz | k
 · exact (Zv h).elim
 · cases k <;> first | exact (Zv h).elim | rfl
theorem isLocal_out {sc:Scope} {x:Str} (h:isLocal sc x = true):sc.names.lookup x = some .local:=by
 unfold isLocal at h
 generalize sc.names.lookup x = o at h ⊢
 rcases o with zz | k
 · exact (Zv h).elim
 · cases k <;> first | exact (Zv h).elim | rfl
theorem revK_out {P:List V → Prop}:∀ {acc out:List V},revK acc out P → P (acc.reverse ++ out)
 | [],z1,h => h
 | v :: acc,out,h => by rw [List.reverse_cons,Ze]; exact revK_out (acc:=acc) (out:=v :: out) h
section
variable {T:Tp} {d:Nat} {sc:Scope} {X:QX} {Q:QS} {ρ:Loc} {σ:Hp}
theorem PostB.mono {Q Q':Bool → Hp → Prop} {ι:Inj} {h:Heap} {b:Bool} {s':Shared} (p:PostB T Q ι h b s') (k:∀ b σ,Q b σ → Q' b σ):PostB T Q' ι h b s' :=
 by obtain ⟨σ',ι',q,rp,e',g,o⟩:=p; exact ⟨σ',ι',k _ _ q,rp,e',g,o⟩
theorem TsOk.mono {e:Expr} {B B':Bool → Hp → Prop} (h:TsOk T d sc ρ X e B σ) (k:∀ b σ,B b σ → B' b σ):TsOk T d sc ρ X e B' σ :=
 fun env A fs F ι s hsc I => Zib (h env A fs F ι s hsc I) (fun zz zz p => p.mono k) fun zz zz p => p
theorem EvsOk.mono {es:List Expr} {L L':List V → Hp → Prop} (h:EvsOk T d sc ρ X es L σ) (k:∀ vs σ,L vs σ → L' vs σ):EvsOk T d sc ρ X es L' σ :=
 fun env A fs F ι s hsc I => Zib (h env A fs F ι s hsc I) (fun zz zz p => by obtain ⟨vs,σ',ι',q,r,rp,e',g,o⟩:=p; exact ⟨vs,σ',ι',k _ _ q,r,rp,e',g,o⟩) fun zz zz p => p
theorem EvOk.mon {e:Expr} {Q Q':QE} (h:EvOk T d sc ρ X e Q σ) (k:∀ v σ,Q v σ → Q' v σ):EvOk T d sc ρ X e Q' σ:=h.mono k fun zz zz h => h
theorem ForOk.mono {nx:V → Loc → Option Loc} {body:List Stmt} {Q Q':QS} {v:V} (h:ForOk T d sc X nx body Q v ρ σ) (k:∀ fl ρ σ,Q fl ρ σ → Q' fl ρ σ):ForOk T d sc X nx body Q' v ρ σ :=
 h.rec fun items J h0 h1 h2 h3 => ⟨items,J,h0,h1,fun ρ σ j => k _ _ _ (h2 ρ σ j),fun i x ρ σ j e => Zh (h3 i x ρ σ j e) fun ρ' h => ⟨ρ',h.1,h.2.mono (fun fl ρ σ q => by cases fl <;> first | exact q | exact k _ _ _ q) fun zz zz q => q⟩⟩
noncomputable def Rn (T:Tp) (d:Nat) (sc:Scope) (X:QX) (Q:QS) (c:Cf):Prop:=∃ n,gw T d sc X Q n c
theorem Rn.of {n:Nat} {c:Cf} (h:gw T d sc X Q n c):Rn T d sc X Q c:=⟨n,h⟩
theorem Rn.un {c:Cf} {P:Prop} (h:Rn T d sc X Q c) (k:∀ n,stepC T d sc X Q (gw T d sc X Q n) c → P):P:=Zh h fun n h => by
 cases n
 · exact (show False from h).elim
 · exact k _ h
theorem aft_up {n:Nat} {rest:List (List Stmt)} (fl:Fl) (ρ:Loc) (σ:Hp) (h:aftQ (gw T d sc X Q n) Q rest fl ρ σ):aftQ (Rn T d sc X Q) Q rest fl ρ σ:=by
 cases fl <;> first | exact h | exact ⟨_,h⟩
theorem fin_up {n:Nat} {w:Wh} {k:List Ko} {vs:List V} (h:finA T d X (gw T d sc X Q n) w k ρ σ vs):finA T d X (Rn T d sc X Q) w k ρ σ vs:=by
 cases w
 · exact gd.of (gd.out h).1 ⟨_,(gd.out h).2⟩
 · exact gd.of (gd.out h).1 ⟨_,(gd.out h).2⟩
 · exact Zh (nmG.out h) fun v h => nmG.of h.1 ⟨h.2.out.mono (fun zz zz h => ⟨_,h⟩) fun zz zz h => h⟩
 · exact ⟨(Cal.out h).mono (fun zz zz h => ⟨_,h⟩) fun zz zz h => h⟩
theorem evx_up {n:Nat} {e:Expr} {k:List Ko} (h:Evx T d sc ρ X e (rtQ (gw T d sc X Q n) k ρ) σ):EvOk T d sc ρ X e (rtQ (Rn T d sc X Q) k ρ) σ:=h.out.mon fun zz zz h => Rn.of h
theorem tsx_up {n:Nat} {e:Expr} {k:List Ko} (h:Tsx T d sc ρ X e (blQ (gw T d sc X Q n) k ρ) σ):TsOk T d sc ρ X e (blQ (Rn T d sc X Q) k ρ) σ:=h.out.mono fun zz zz h => Rn.of h
theorem stx_up {n:Nat} {st:Stmt} {rest:List (List Stmt)} (h:Stx T d sc ρ X st (aftQ (gw T d sc X Q n) Q rest) σ):StOk T d sc ρ X st (aftQ (Rn T d sc X Q) Q rest) σ:=h.out.mono aft_up fun zz zz h => h
noncomputable abbrev EvAll (T:Tp) (d:Nat) (sc:Scope) (X:QX) (Q:QS) (m:Nat):Prop:=∀ (e:Expr),sizeOf e < m → ∀ k ρ σ,Rn T d sc X Q (.ev e k ρ σ) → EvOk T d sc ρ X e (rtQ (Rn T d sc X Q) k ρ) σ
theorem ag_ok {m:Nat} (ih:EvAll T d sc X Q m):∀ {es:List Expr} {acc:List V} {w:Wh} {k:List Ko} {ρ:Loc} {σ:Hp},sizeOf es < m → Rn T d sc X Q (.ag es acc w k ρ σ) → EvsOk T d sc ρ X es (fun vs σ => finA T d X (Rn T d sc X Q) w k ρ σ (acc.reverse ++ vs)) σ
 | [],z1,z2,z3,z4,z5,z6,h => h.un fun zz h => EvsOk.nil (fin_up (revK_out h))
 | e :: es,acc,w,k,ρ,σ,hm,h => h.un fun n h =>
   EvsOk.cons ((ih e (zCons hm).1 _ _ _ (Rn.of h)).mon fun v σ h => Rn.un h fun n h => (ag_ok ih (zCons hm).2 (Rn.of h)).mono fun vs σ h => by rw [List.reverse_cons,Ze] at h; exact h)
theorem bo_ok {m:Nat} (ih:EvAll T d sc X Q m) {op:BoolOp}:∀ {es:List Expr} {k:List Ko} {ρ:Loc} {σ:Hp},sizeOf es < m → Rn T d sc X Q (.bo op es k ρ σ) → BoolsOk T d sc ρ X op es (rtQ (Rn T d sc X Q) k ρ) σ
 | [],z1,z2,z3,z4,h => h.un fun zz h => (show False from h).elim
 | [x],z1,z2,z3,hm,h => h.un fun zz h => BoolsOk.one (ih x (zCons hm).1 _ _ _ (Rn.of h))
 | x :: y :: t,k,ρ,σ,hm,h => h.un fun n h => by
   have h:=ih x (zCons hm).1 _ _ _ (Rn.of h)
   cases op
   · exact BoolsOk.and (h.mon fun v σ h => Rn.un h fun n h => Zh (tvc.out h) fun b h => ⟨b,h.1,by
       cases b
       · exact Rn.of h.2
       · exact bo_ok ih (zCons hm).2 (Rn.of h.2)⟩)
   · exact BoolsOk.or (h.mon fun v σ h => Rn.un h fun n h => Zh (tvc.out h) fun b h => ⟨b,h.1,by
       cases b
       · exact bo_ok ih (zCons hm).2 (Rn.of h.2)
       · exact Rn.of h.2⟩)
theorem cmpA_ok {op:CmpOp} {a v:V} {k:List Ko} (h:Rn T d sc X Q (.rt v (.cmpA op a :: k) ρ σ)):cmpVC op a v (rtQ (Rn T d sc X Q) k ρ) σ:=h.un fun zz h => cmpVC_mono (cmpG.out h) fun zz zz h => Rn.of h
theorem cmp_go {m:Nat} (ih:EvAll T d sc X Q m) {l e:Expr} {op:CmpOp} {k:List Ko} (hl:sizeOf l < m) (he:sizeOf e < m) (h:Rn T d sc X Q (.ev l (.cmpR op e :: k) ρ σ)):EvOk T d sc ρ X l (fun a σ => EvOk T d sc ρ X e (fun b σ => cmpVC op a b (rtQ (Rn T d sc X Q) k ρ) σ) σ) σ :=
 (ih l hl _ _ _ h).mon fun zz zz h => Rn.un h fun zz h => (ih e he _ _ _ (Rn.of h)).mon fun zz zz h => cmpA_ok h
theorem chn_go {m:Nat} (ih:EvAll T d sc X Q m) {l e e2:Expr} {op op2:CmpOp} {k:List Ko} (hl:sizeOf l < m) (he:sizeOf e < m) (he2:sizeOf e2 < m) (h:Rn T d sc X Q (.ev l (.chnR op op2 e e2 :: k) ρ σ)) :
   EvOk T d sc ρ X l (fun a σ => EvOk T d sc ρ X e (fun b σ => cmpVC op a b (fun v σ => ∃ c,v = .bool c ∧ (if c then EvOk T d sc ρ X e2 (fun w σ => cmpVC op2 b w (rtQ (Rn T d sc X Q) k ρ) σ) σ else rtQ (Rn T d sc X Q) k ρ (.bool false) σ)) σ) σ) σ :=
 (ih l hl _ _ _ h).mon fun zz zz h => Rn.un h fun zz h => (ih e he _ _ _ (Rn.of h)).mon fun b zz h => Rn.un h fun zz h => cmpVC_mono (cmpG.out h) fun v σ h => Rn.un (Rn.of h) fun zz h => Zh (bvc.out h) fun c h => ⟨c,h.1,by
   cases c
   · exact Rn.of h.2
   · exact (ih e2 he2 _ _ _ (Rn.of h.2)).mon fun zz zz h => cmpA_ok h⟩
theorem comp_go {m:Nat} (ih:EvAll T d sc X Q m) {iter elt:Expr} {ifs:List Expr} {scope:Scope} {x:Str} {k:List Ko} (hi:sizeOf iter < m) (h:Rn T d sc X Q (.ev iter (.comp scope x ifs elt :: k) ρ σ)):EvOk T d sc ρ X iter (fun v σ => CompOk T d sc ρ X scope x ifs elt (rtQ (Rn T d sc X Q) k ρ) v σ) σ :=
 (ih iter hi _ _ _ h).mon fun zz zz h => Rn.un h fun zz h => (show CompOk _ _ _ _ _ _ _ _ _ _ _ _ from h).rec fun items J h0 h1 h2 h3 => ⟨items,J,h0,h1,fun acc σ j => Rn.of (h2 acc σ j),h3⟩
theorem compOn_out {scope:Scope} {c:Comprehension} {x:Str} (h:compOn T sc scope c x = true):compOk scope sc = true ∧ isStore scope x = true ∧ noSet c.iter = true ∧ T.hd = false ∧ c.is_async = 0 :=
 have h:=(and2 h).1; ⟨(and2 (and2 (and2 (and2 h).1).1).1).1,(and2 (and2 (and2 (and2 h).1).1).1).2,(and2 (and2 (and2 h).1).1).2,no_t (and2 (and2 h).1).2,eq_of_beq (and2 h).2⟩
theorem comp_el {n:Nat} {elt:Expr} {gens:List Comprehension} {scope:Scope} {P C:Prop} {k:List Ko} (h:compG T sc (gw T d sc X Q n) elt gens scope P k ρ σ) (h1:P → C)
   (h2:∀ x p iter ifs,gens = [⟨.Name x p,iter,ifs,0⟩] → compOk scope sc = true → isStore scope x = true → noSet iter = true → T.hd = false → Rn T d sc X Q (.ev iter (.comp scope x ifs elt :: k) ρ σ) → C):C:=by
 rcases gens with zz | ⟨c,zz | ⟨zz,zz⟩⟩
 · exact h1 h
 · have h:(match nmO (tg c.target) with
     | some x => bif compOn T sc scope c x then gw T d sc X Q n (.ev c.iter (.comp scope x c.ifs elt :: k) ρ σ) else P
     | none => P):=h
   cases hx:nmO (tg c.target) with
   | none => rw [hx] at h; exact h1 h
   | some x =>
     rw [hx] at h
     exact bif_el h (fun hb h => Zh (nmO_out hx) fun p e => h2 x p c.iter c.ifs (by
       have:=(compOn_out hb).2.2.2.2
       cases c; cases this; cases e; rfl) (compOn_out hb).1 (compOn_out hb).2.1 (compOn_out hb).2.2.1 (compOn_out hb).2.2.2.1 (Rn.of h)) h1
 · exact h1 h
set_option tactic.hygienic true in
theorem call_ok {m:Nat} (TO:TopOk T) (ho:scOk sc = true) (ih:EvAll T d sc X Q m) {n:Nat} {x:Str} {np pos:Pos} {args:List Expr} {k:List Ko} (hm:sizeOf args < m) (ns:noStar args = true) (hg:isGlob sc x = true) (h:gd (keepO T (T.gv x)) (gw T d sc X Q n (.ag args [] (.callG x) k ρ σ))):EvOk T d sc ρ X (.Call (.Name x np) args [] pos) (rtQ (Rn T d sc X Q) k ρ) σ :=
 gd_el h fun h0 h => by
   cases hv:T.gv x with
   | none => rw [hv] at h0; exact (Zv h0).elim
   | some v =>
     rw [hv] at h0
     have h4:=(ag_ok ih hm (Rn.of h)).mono (L':=fun vs σ => CallOk T d X v vs (rtQ (Rn T d sc X Q) k ρ) σ) fun vs σ h => nmG_el h fun u h1 h2 => sm_inj (hv.symm.trans h1) ▸ h2.out
     refine EvOk.call TO ns (EvOk.glob TO ?_ hv (isGlob_out hg) ho)
     cases v <;> first | exact ⟨.inl h0,.inl h0,h4⟩ | skip
     rename_i y
     refine ⟨.inr (.inl ⟨y,rfl⟩),.inr fun v hv => ?_,h4⟩
     rcases hv with ⟨y,e,hv⟩ | ⟨c,y,e,zz⟩
     · cases e
       have h0:(T.g y).any (fun v => PySem.W.keepIn T.K v) = true:=h0
       rw [hv] at h0; exact h0
     · cases e
set_option tactic.hygienic true in
theorem ev_ok (TO:TopOk T) (ho:scOk sc = true):∀ m,EvAll T d sc X Q m
 | 0,z1,hm,z2,z3,z4,z5 => absurd hm (Nat.not_lt_zero _)
 | m + 1,e,hm,k,ρ,σ,g => g.un fun n h => by
   clear g
   have ih:=ev_ok TO ho m
   cases e <;> first | exact evx_up h | skip
   · exact EvOk.bools (bo_ok ih (zBool hm) (Rn.of h))
   · exact EvOk.bin ((ih _ (zBin hm).1 _ _ _ (Rn.of h)).mon fun zz zz h => Rn.un h fun zz h => (ih _ (zBin hm).2 _ _ _ (Rn.of h)).mon fun zz zz h => Rn.un h fun zz h => (binG.out h).rec fun v σ r q => ⟨v,σ,r,Rn.of q⟩)
   · rename_i op _ _
     cases op <;> first | exact evx_up h | skip
     · exact EvOk.not ((ih _ (zUn hm) _ _ _ (Rn.of h)).mon fun zz zz h => Rn.un h fun zz h => Zh (tvc.out h) fun b h => ⟨b,h.1,Rn.of h.2⟩)
     · exact EvOk.neg ((ih _ (zUn hm) _ _ _ (Rn.of h)).mon fun zz zz h => Rn.un h fun zz h => Zh (intV.out h) fun b h => ⟨b,h.1,Rn.of h.2⟩)
   · rename_i ks vs _
     cases ks <;> first | exact evx_up h | skip
     cases vs <;> first | exact evx_up h | skip
     exact EvOk.dict (Rn.of h)
   · exact comp_el h evx_up fun x p iter ifs e h1 h2 h3 h4 h5 => by subst e; exact EvOk.comp h1 h2 h3 (comp_go ih (zComp hm) h5) h4
   · rename_i l ops rs _
     have hz:=zCmp hm
     clear hm
     rcases ops with zz | ⟨op,zz | ⟨op2,zz | ⟨zz,zz⟩⟩⟩ <;> rcases rs with zz | ⟨r,zz | ⟨r2,zz | ⟨zz,zz⟩⟩⟩ <;> first | exact evx_up h | skip
     · rcases bif_out h with ⟨zz,h⟩ | ⟨hb,h⟩
       · exact evx_up h
       · exact EvOk.cmp (cmp_go ih hz.1 (zCons hz.2).1 (Rn.of h)) hb
     · rcases bif_out h with ⟨zz,h⟩ | ⟨hb,h⟩
       · exact evx_up h
       · exact EvOk.cmp2 (chn_go ih hz.1 (zCons hz.2).1 (zCons (zCons hz.2).2).1 (Rn.of h)) hb
   · rename_i f args kws pos
     have hz:=zCall hm
     clear hm
     cases kws <;> first | exact evx_up h | skip
     have h:(match tg f with
       | .nm x z1 => bif noStar args && isGlob sc x then gd (keepO T (T.gv x)) (gw T d sc X Q n (.ag args [] (.callG x) k ρ σ)) else Evx T d sc ρ X (.Call f args [] pos) (rtQ (gw T d sc X Q n) k ρ) σ
       | .at o name apos => bif plainBase o && noStar args && (apos.endLine == pos.line) && Nat.ble args.length 20 then gw T d sc X Q n (.ev o (.meth name args :: k) ρ σ)
         else Evx T d sc ρ X (.Call f args [] pos) (rtQ (gw T d sc X Q n) k ρ) σ
       | z1 => Evx T d sc ρ X (.Call f args [] pos) (rtQ (gw T d sc X Q n) k ρ) σ):=h
     cases ht:tg f <;> rw [ht] at h <;> first | exact evx_up h | skip
     · exact bif_el h (fun hb h => by rw [tg_out ht rfl]; exact call_ok TO ho ih hz.2 (and2 hb).1 (and2 hb).2 h) evx_up
     · exact bif_el h (fun hb h => by
         have e:=tg_out ht rfl
         rw [e] at hz ⊢
         exact EvOk.meth TO (and2 (and2 (and2 hb).1).1).1 (and2 (and2 (and2 hb).1).1).2 (and2 (and2 hb).1).2 (Zk (Nat.le_of_ble_eq_true (and2 hb).2) (by decide)) ((ih _ (zAtt hz.1) _ _ _ (Rn.of h)).mon fun zz zz h => Rn.un h fun zz h => (show MethOk _ _ _ _ _ from h).rec fun f h1 h2 => ⟨f,h1,(ag_ok ih hz.2 (Rn.of h2)).mono fun zz zz h => Cal.out h⟩)) evx_up
   · rename_i c _ _
     cases c <;> first | exact evx_up h | skip
     · exact EvOk.none (Rn.of h)
     · exact EvOk.bool (Rn.of h)
     · exact EvOk.int (Rn.of h)
     · exact EvOk.str (Rn.of h)
   · exact bif_el h (fun hb h => EvOk.attr TO hb ((ih _ (zAt1 hm) _ _ _ (Rn.of h)).mon fun zz zz h => Rn.un h fun zz h => (show AttrOk _ _ _ _ _ from h).rec fun l c gs v C h0 h1 h2 h3 h4 h5 h6 => ⟨l,c,gs,v,C,h0,h1,h2,h3,h4,h5,Rn.of h6⟩)) evx_up
   · exact bif_el h (fun hb h => EvOk.ix hb ((ih _ (zSub hm).1 _ _ _ (Rn.of h)).mon fun zz zz h => Rn.un h fun zz h => (ih _ (zSub hm).2 _ _ _ (Rn.of h)).mon fun zz zz h => Rn.un h fun zz h => (itemG.out h).rec fun v r q => ⟨v,r,Rn.of q⟩)) evx_up
   · exact bif_el h (fun hb h => nmG_el h fun v h1 h2 => EvOk.nm h1 hb ho (Rn.of h2)) fun h => gd_el h fun h0 h => nmG_el h fun v h1 h2 => EvOk.glob TO (Rn.of h2) h1 (isGlob_out h0) ho
   · exact bif_el h (fun hb h => EvOk.list ((ag_ok ih (zList hm) (Rn.of h)).mono fun vs σ h => ⟨Za (short_le (gd.out h).1) (by decide),(gd.out h).2⟩) hb) evx_up
   · exact bif_el h (fun hb h => EvOk.tup ((ag_ok ih (zTup hm) (Rn.of h)).mono fun vs σ h => ⟨Za (short_le (gd.out h).1) (by decide),(gd.out h).2⟩) hb) evx_up
theorem ev_all (TO:TopOk T) (ho:scOk sc = true) {e:Expr} {k:List Ko} (h:Rn T d sc X Q (.ev e k ρ σ)):EvOk T d sc ρ X e (rtQ (Rn T d sc X Q) k ρ) σ:=ev_ok TO ho _ e (Zs _) k ρ σ h
noncomputable abbrev TsAll (T:Tp) (d:Nat) (sc:Scope) (X:QX) (Q:QS) (m:Nat):Prop:=∀ (e:Expr),sizeOf e < m → ∀ k ρ σ,Rn T d sc X Q (.ts e k ρ σ) → TsOk T d sc ρ X e (blQ (Rn T d sc X Q) k ρ) σ
theorem al_ok {m:Nat} (ih:TsAll T d sc X Q m) {op:BoolOp}:∀ {es:List Expr} {k:List Ko} {ρ:Loc} {σ:Hp},sizeOf es < m → Rn T d sc X Q (.al op es k ρ σ) → AllOk T d sc ρ X op es (blQ (Rn T d sc X Q) k ρ) σ
 | [],z1,z2,z3,z4,h => h.un fun zz h => by
   cases op
   · exact AllOk.and_nil (Rn.of h)
   · exact AllOk.or_nil (Rn.of h)
 | x :: es,k,ρ,σ,hm,h => h.un fun zz h => by
   have h:=ih x (zCons hm).1 _ _ _ (Rn.of h)
   cases op
   · exact AllOk.and_cons (h.mono fun b σ h => Rn.un h fun zz h => by
       cases b
       · exact Rn.of h
       · exact al_ok ih (zCons hm).2 (Rn.of h))
   · exact AllOk.or_cons (h.mono fun b σ h => Rn.un h fun zz h => by
       cases b
       · exact al_ok ih (zCons hm).2 (Rn.of h)
       · exact Rn.of h)
theorem bvc_up {n:Nat} {v:V} {k:List Ko} (h:bvc v (blK (gw T d sc X Q n) k ρ σ)):∃ c,v = .bool c ∧ blQ (Rn T d sc X Q) k ρ c σ:=Zh (bvc.out h) fun c h => ⟨c,h.1,Rn.of h.2⟩
theorem ts_val {n:Nat} {e:Expr} {k:List Ko} (TO:TopOk T) (ho:scOk sc = true) (h:gw T d sc X Q n (.ev e (.tst :: k) ρ σ)) (hp:plainTest e = true):TsOk T d sc ρ X e (blQ (Rn T d sc X Q) k ρ) σ:=TsOk.val ((ev_all TO ho (Rn.of h)).mon fun zz zz h => Rn.un h fun zz h => Zh (tvc.out h) fun b h => ⟨b,h.1,Rn.of h.2⟩) hp
set_option tactic.hygienic true in
theorem ts_ok (TO:TopOk T) (ho:scOk sc = true):∀ m,TsAll T d sc X Q m
 | 0,z1,hm,z2,z3,z4,z5 => absurd hm (Nat.not_lt_zero _)
 | m + 1,e,hm,k,ρ,σ,g => g.un fun n h => by
   clear g
   have ih:=ts_ok TO ho m
   cases e <;> first | exact ts_val TO ho h rfl | exact tsx_up h | skip
   · exact TsOk.bool (al_ok ih (zBool hm) (Rn.of h))
   · rename_i op _ _
     cases op <;> first | exact tsx_up h | skip
     exact TsOk.not ((ih _ (zUn hm) _ _ _ (Rn.of h)).mono fun b σ h => Rn.un h fun zz h => Rn.of h)
   · rename_i l ops rs _
     have hz:=zCmp hm
     clear hm
     rcases ops with zz | ⟨op,zz | ⟨op2,zz | ⟨zz,zz⟩⟩⟩ <;> rcases rs with zz | ⟨r,zz | ⟨r2,zz | ⟨zz,zz⟩⟩⟩ <;> first | exact tsx_up h | skip
     · rcases bif_out h with ⟨zz,h⟩ | ⟨hb,h⟩
       · exact tsx_up h
       · exact TsOk.cmp ((cmp_go (ev_ok TO ho m) hz.1 (zCons hz.2).1 (Rn.of h)).mon fun zz zz h => h.mon fun zz zz h => cmpVC_mono h fun zz zz h => Rn.un h fun zz h => bvc_up h) hb
     · rcases bif_out h with ⟨zz,h⟩ | ⟨hb,h⟩
       · exact tsx_up h
       · exact TsOk.cmp2 ((chn_go (ev_ok TO ho m) hz.1 (zCons hz.2).1 (zCons (zCons hz.2).2).1 (Rn.of h)).mon fun zz zz h => h.mon fun zz zz h => cmpVC_mono h fun zz zz h => Zh h fun c h => ⟨c,h.1,by
           cases c
           · exact Rn.un h.2 fun zz h => Zh (bvc_up (v:=.bool false) h) fun c h => by cases h.1; exact h.2
           · exact (show EvOk _ _ _ _ _ _ _ _ from h.2).mon fun zz zz h => cmpVC_mono h fun zz zz h => Rn.un h fun zz h => bvc_up h⟩) hb
theorem ts_all (TO:TopOk T) (ho:scOk sc = true) {e:Expr} {k:List Ko} (h:Rn T d sc X Q (.ts e k ρ σ)):TsOk T d sc ρ X e (blQ (Rn T d sc X Q) k ρ) σ:=ts_ok TO ho _ e (Zs _) k ρ σ h
theorem rev_ok {n:Nat} {x:Str} {np pos:Pos} {a:Expr} {k:List Ko} (TO:TopOk T) (ho:scOk sc = true) (hb:revIs sc x a = true) (h:gd (isRevT (T.gv x)) (gw T d sc X Q n (.ev a (.rev :: k) ρ σ))):ItOk T d sc ρ X (.Call (.Name x np) [a] [] pos) (rtQ (Rn T d sc X Q) k ρ) σ :=
 gd_el h fun h0 h => ItOk.reversed TO (EvOk.glob TO ⟨rfl,rfl⟩ (isRevT_out h0) (isGlob_out (and2 (and2 hb).2).1) ho) (and2 (and2 hb).2).2 ((ev_all TO ho (Rn.of h)).mon fun zz zz h => Rn.un h fun zz h => (show RevOk _ _ _ from h).rec fun l vs a b c => ⟨l,vs,a,b,Rn.of c⟩)
set_option tactic.hygienic true in
theorem revA_out {e:Expr} {x:Str} {a:Expr} (h:revA (tg e) = some (x,a)):∃ np pos,e = .Call (.Name x np) [a] [] pos:=by
 cases ht:tg e <;> rw [ht] at h <;> first | exact (no_some h).elim | skip
 rename_i f args kws p
 rcases args with zz | ⟨b,zz | ⟨zz,zz⟩⟩ <;> first | exact (no_some h).elim | skip
 cases kws <;> first | exact (no_some h).elim | skip
 obtain ⟨y,h1,h2⟩:=Zpb.mp h
 cases h2
 obtain ⟨np,h3⟩:=nmO_out h1
 exact ⟨np,p,h3 ▸ tg_out ht rfl⟩
theorem itG_ok {n:Nat} {iter:Expr} {k:List Ko} (TO:TopOk T) (ho:scOk sc = true) (h:itG T sc (gw T d sc X Q n) iter k ρ σ):ItOk T d sc ρ X iter (rtQ (Rn T d sc X Q) k ρ) σ:=by
 have pl:gw T d sc X Q n (.ev iter k ρ σ) → ItOk T d sc ρ X iter (rtQ (Rn T d sc X Q) k ρ) σ:=fun h => (ev_all TO ho (Rn.of h)).it
 unfold itG at h
 cases hv:revA (tg iter) with
 | none => rw [hv] at h; exact pl h
 | some p =>
   rw [hv] at h
   exact bif_el h (fun hb h => ex2 (revA_out hv) fun np pos e => by rw [e]; exact rev_ok TO ho hb h) pl
theorem ItOk.mono {e:Expr} {K K':V → Hp → Prop} (h:ItOk T d sc ρ X e K σ) (k:∀ v σ,K v σ → K' v σ):ItOk T d sc ρ X e K' σ:=fun env A fs F ι s hsc I =>
 Zib (h env A fs F ι s hsc I) (fun zz zz p => p.rec (fun v σ' ι' a b c e f g => .of v σ' ι' (k _ _ a) b c e f g) fun l n I σ' ι' a b c e f g i j m => .rev l n I σ' ι' (k _ _ a) b c e f g i j m) fun zz zz p => p
set_option tactic.hygienic true in
theorem forG_ok {n:Nat} {t iter:Expr} {u:Tg} {body:List Stmt} {pos:Pos} {rest:List (List Stmt)} {P:Prop} (TO:TopOk T) (ho:scOk sc = true) (vx:P → StOk T d sc ρ X (.For t iter body [] pos) (aftQ (Rn T d sc X Q) Q rest) σ) (ht:tg t = u)
   (h:forG T sc (gw T d sc X Q n) u iter body P rest ρ σ):StOk T d sc ρ X (.For t iter body [] pos) (aftQ (Rn T d sc X Q) Q rest) σ:=by
 cases u <;> first | exact vx h | skip
 · cases tg_out ht rfl
   exact bif_el h (fun hb h => StOk.forG ((itG_ok TO ho h).mono fun zz zz h => Rn.un h fun zz h => ForOk.mono h aft_up) (asg_nm (and2 (and2 hb).1).1) (and2 (and2 hb).1).2 (no_t (and2 hb).2)) vx
 · rename_i es _ _
   rcases es with zz | ⟨a,zz | ⟨b,zz | ⟨zz,zz⟩⟩⟩ <;> first | exact vx h | skip
   have h:forT T sc (gw T d sc X Q n) (nmO (tg a)) (nmO (tg b)) iter body P rest ρ σ:=h
   cases ha:nmO (tg a) with
   | none => rw [ha] at h; exact vx h
   | some x =>
     rw [ha] at h
     cases hb:nmO (tg b) with
     | none => rw [hb] at h; exact vx h
     | some y =>
       rw [hb] at h
       obtain ⟨pa,rfl⟩:=nmO_out ha
       obtain ⟨pb,rfl⟩:=nmO_out hb
       cases tg_out ht rfl
       exact bif_el h (fun hb h => StOk.forG ((itG_ok TO ho h).mono fun zz zz h => Rn.un h fun zz h => ForOk.mono h aft_up) (asg_two (no_t (and2 hb).2) (and2 (and2 (and2 hb).1).1).1 (and2 (and2 (and2 hb).1).1).2) (and2 (and2 hb).1).2 (no_t (and2 hb).2)) vx
theorem asgN_up {v:V} {x:Str} {rest:List (List Stmt)} {ρ:Loc} {σ:Hp} (h:Rn T d sc X Q (.rt v [.asgN x rest] ρ σ)):aftQ (Rn T d sc X Q) Q rest .next (upd ρ x (some v)) σ:=h.un fun zz h => Rn.of h
theorem asg_ok {n:Nat} {t value:Expr} {u:Tg} {pos:Pos} {rest:List (List Stmt)} {P:Prop} (TO:TopOk T) (ho:scOk sc = true) (hc:noComp value = true) (vx:P → StOk T d sc ρ X (.Assign [t] value pos) (aftQ (Rn T d sc X Q) Q rest) σ) (ht:tg t = u)
   (h:asgG sc (gw T d sc X Q n) u value P rest ρ σ):StOk T d sc ρ X (.Assign [t] value pos) (aftQ (Rn T d sc X Q) Q rest) σ:=by
 cases u <;> first | exact vx h | cases tg_out ht rfl
 · exact bif_el h (fun hb h => StOk.assign ((ev_all TO ho (Rn.of h)).mon fun zz zz h => asgN_up h) hc hb) vx
 · exact StOk.setAttr TO ((ev_all TO ho (Rn.of h)).mon fun zz zz h => Rn.un h fun zz h => (ev_all TO ho (Rn.of h)).mon fun zz zz h => Rn.un h fun zz h => (show SetAttrOk _ _ _ _ _ _ _ from h).rec fun l c gs C h0 h1 h2 h3 h4 h5 => ⟨l,c,gs,C,h0,h1,h2,h3,h4,aft_up _ _ _ h5⟩) hc
 · exact StOk.setItem ((ev_all TO ho (Rn.of h)).mon fun zz zz h => Rn.un h fun zz h => (ev_all TO ho (Rn.of h)).mon fun zz zz h => Rn.un h fun zz h => (ev_all TO ho (Rn.of h)).mon fun zz zz h => Rn.un h fun zz h => (show SetItemOk _ _ _ _ _ _ from h).rec (fun l k kvs h0 h1 h2 h3 h4 => .mk l k kvs h0 h1 h2 h3 (aft_up _ _ _ h4)) (fun l k kvs h0 h1 h2 h3 h4 => .pr l k kvs h0 h1 h2 h3 (aft_up _ _ _ h4)) fun l k vs h0 h1 h2 h3 h3' h4 => .ls l k vs h0 h1 h2 h3 h3' (aft_up _ _ _ h4)) hc
theorem asgC_ok {n:Nat} {t value:Expr} {u v:Tg} {pos:Pos} {rest:List (List Stmt)} {P:Prop} (TO:TopOk T) (ho:scOk sc = true) (vx:P → StOk T d sc ρ X (.Assign [t] value pos) (aftQ (Rn T d sc X Q) Q rest) σ) (ht:tg t = u) (hu:tg value = v)
   (h:asgC T sc (gw T d sc X Q n) u v value P rest ρ σ):StOk T d sc ρ X (.Assign [t] value pos) (aftQ (Rn T d sc X Q) Q rest) σ:=by
 cases u <;> first | exact vx h | skip
 cases tg_out ht rfl
 refine bif_el h (fun hb h => StOk.assignCell ((ev_all TO ho (Rn.of h)).mon fun zz zz h => asgN_up h) (isCell_out hb)) fun g => ?_
 clear h
 cases v <;> first | exact vx g | skip
 cases tg_out hu rfl
 refine bif_el g (fun hb h => ?_) vx
 exact comp_el h vx fun x p iter ifs e h1 h2 h3 h4 h5 => by
   subst e
   exact StOk.assignComp h1 h2 h3 (isLocal_out (and2 hb).1) (and2 hb).2 ((comp_go (ev_ok TO ho _) (Zs _) h5).mon fun zz zz h => h.rec fun items J h0 h1 h2 h3 => ⟨items,J,h0,h1,fun acc σ j => asgN_up (h2 acc σ j),h3⟩) h4
set_option tactic.hygienic true in
theorem sb_ok (TO:TopOk T) (ho:scOk sc = true):∀ (m:Nat) (b:List Stmt),sizeOf b < m → ∀ rest ρ σ,Rn T d sc X Q (.st (b :: rest) ρ σ) → ExOk T d sc ρ X b (aftQ (Rn T d sc X Q) Q rest) σ
 | 0,z1,hm,z2,z3,z4,z5 => absurd hm (Nat.not_lt_zero _)
 | m + 1,[],z1,rest,ρ,σ,h => h.un fun zz h => ExOk.nil (Rn.of h)
 | m + 1,st :: b,hm,rest,ρ,σ,g => g.un fun n h => by
   clear g
   have ih:=sb_ok TO ho m
   have hz:=zSt hm
   clear hm
   refine ExOk.cons (StOk.mono (Q:=aftQ (Rn T d sc X Q) Q (b :: rest)) ?_ (fun fl ρ' σ' h => ?_) fun zz zz h => h)
   rotate_left
   · cases fl <;> first | exact h | exact ih b hz.2 _ _ _ h
   cases st <;> first | exact stx_up h | skip
   · rename_i e _
     cases e
     · exact StOk.retNone h
     · exact StOk.ret ((ev_all TO ho (Rn.of h)).mon fun zz zz h => Rn.un h fun zz h => h)
   · rename_i ts value _
     rcases ts with zz | ⟨t,zz | ⟨zz,zz⟩⟩ <;> first | exact stx_up h | skip
     rcases bif_out h with ⟨hc,h⟩ | ⟨zz,h⟩
     · exact asg_ok TO ho hc stx_up rfl h
     · exact asgC_ok TO ho stx_up rfl rfl h
   · rename_i t iter body orelse _
     cases orelse <;> first | exact stx_up h | skip
     exact forG_ok TO ho stx_up rfl h
   · exact StOk.ite ((ts_all TO ho (Rn.of h)).mono fun t σ h => Rn.un h fun zz h => by
       cases t
       · exact ih _ (zIf hz.1).2 _ _ _ (Rn.of h)
       · exact ih _ (zIf hz.1).1 _ _ _ (Rn.of h))
   · rcases bif_out h with ⟨hc,h⟩ | ⟨zz,h⟩
     · exact StOk.expr ((ev_all TO ho (Rn.of h)).mon fun zz zz h => Rn.un h fun zz h => Rn.of h) hc
     · exact stx_up h
   · exact StOk.pass (Rn.of h)
   · exact StOk.brk h
   · exact StOk.cont h
end
noncomputable def tsQ (B:Bool → Hp → Prop):QS:=fun fl zz σ => match fl with
 | .ret v => bvc v fun b => B b σ
 | z1 => False
section
variable {T:Tp} {d:Nat} {sc:Scope} {X:QX} {ρ:Loc}
theorem vE_ok (TO:TopOk T) (ho:scOk sc = true) (_:Nat) (e:Expr) (Q:QE) (σ:Hp) (h:gw T d sc X (retQ Q) 4000 (.ev e [] ρ σ)):EvOk T d sc ρ X e Q σ:=(ev_all TO ho (Rn.of h)).mon fun zz zz h => Rn.un h fun zz h => h
theorem vT_ok (TO:TopOk T) (ho:scOk sc = true) (_ _:Nat) (e:Expr) (B:Bool → Hp → Prop) (σ:Hp) (h:gw T d sc X (tsQ B) 4000 (.ts e [] ρ σ)):TsOk T d sc ρ X e B σ:=(ts_all TO ho (Rn.of h)).mono fun zz zz h => Rn.un h fun zz h => h
theorem vB_ok (TO:TopOk T) (ho:scOk sc = true) (_:Nat) (ss:List Stmt) (Q:QS) (ρ:Loc) (σ:Hp) (h:gw T d sc X Q 4000 (.st [ss] ρ σ)):ExOk T d sc ρ X ss Q σ:=(sb_ok TO ho _ ss (Zs _) [] ρ σ (Rn.of h)).mono (fun fl ρ σ h => by
 cases fl <;> first | exact h | exact Rn.un h fun zz h => h) fun zz zz h => h
end
end
section
noncomputable def Has (ρ:Loc):List (Str × V) → Prop
 | [] => True
 | (k,v) :: r => ρ k = some v ∧ Has ρ r
noncomputable def locs (ρ:Loc):List (Str × V) → Loc
 | [] => ρ
 | (k,v) :: r => upd (locs ρ r) k (some v)
theorem Has.eq {ρ:Loc}:∀ {kvs:List (Str × V)},Has ρ kvs → locs ρ kvs = ρ:=by
 intro xx
 induction xx with
 | nil =>
   intro z1
   exact rfl
 | cons pp r ih =>
   obtain ⟨k,v⟩:=pp
   intro h
   show upd (locs ρ r) k (some v) = ρ
   rw [ih h.2]
   funext y
   unfold upd
   split
   · next e => rw [e]; exact h.1.symm
   · rfl
theorem ite_no {T:Tp} {d n:Nat} {sc:Scope} {X:QX} {ρ:Loc} {σ:Hp} {b:Bool} {A B:Hp → Prop} (h:¬ b = true) (q:B σ):blK (gw T d sc X (tsQ fun b σ => if b then A σ else B σ) (n + 1)) [] ρ σ b:=show (if b then A σ else B σ) by rw [if_neg h]; exact q
theorem ite_yes {T:Tp} {d n:Nat} {sc:Scope} {X:QX} {ρ:Loc} {σ:Hp} {b:Bool} {A B:Hp → Prop} (h:b = true) (q:A σ):blK (gw T d sc X (tsQ fun b σ => if b then A σ else B σ) (n + 1)) [] ρ σ b:=show (if b then A σ else B σ) by rw [if_pos h]; exact q
theorem Has.on {P:Loc → Prop} {ρ:Loc} {kvs:List (Str × V)} (h:Has ρ kvs) (k:P (locs ρ kvs)):P ρ:=h.eq ▸ k
section
variable {T:Tp} {d:Nat} {sc:Scope} {X:QX} {Q:QE} {σ:Hp}
theorem CallOk.go {x:Str} {ps:List Str} {body:List Stmt} {args:List V} (TO:TopOk T) (e:(T.g x).bind (fnIn T.K) = some (ps,body,sc)) (hl:args.length = ps.length)
 (hb:gw T d sc X (retQ Q) 4000 (.st [body] (bindLoc (fun zz => none) ps args) σ)):CallOk T (d + 1) X (.glob x) args Q σ:=Zh (Option.bind_eq_some_iff.mp e) fun zz e => CallOk.fn TO (FnV.glob e.1 (fnIn_out e.2).1) hl (vB_ok TO (fnIn_out e.2).2 0 _ _ _ _ hb)
theorem CodeOk.goM {c x:Str} {ps:List Str} {body:List Stmt} {args:List V} (TO:TopOk T) (e:(T.m c x).bind (fnIn T.K) = some (ps,body,sc)) (hl:args.length = ps.length)
 (hb:gw T d sc X (retQ Q) 4000 (.st [body] (bindLoc (fun zz => none) ps args) σ)):CodeOk T (d + 1) X (.mth c x) args Q σ:=Zh (Option.bind_eq_some_iff.mp e) fun zz e => CodeOk.fn TO (FnV.mth e.1 (fnIn_out e.2).1) hl (vB_ok TO (fnIn_out e.2).2 0 _ _ _ _ hb)
theorem CallOk.goM {c x:Str} {ps:List Str} {body:List Stmt} {args:List V} (TO:TopOk T) (e:(T.m c x).bind (fnIn T.K) = some (ps,body,sc)) (hl:args.length = ps.length)
 (hb:gw T d sc X (retQ Q) 4000 (.st [body] (bindLoc (fun zz => none) ps args) σ)):CallOk T (d + 1) X (.mth c x) args Q σ:=(CodeOk.goM TO e hl hb).call
theorem CallOk.goX {x:Str} {ps:List Str} {body:List Stmt} {args:List V} (TO:TopOk T) (e:(T.g x).bind (fnIn T.K) = some (ps,body,sc)) (hl:args.length = ps.length)
 (hb:ExOk T d sc (bindLoc (fun zz => none) ps args) X body (retQ Q) σ):CallOk T (d + 1) X (.glob x) args Q σ:=Zh (Option.bind_eq_some_iff.mp e) fun zz e => CallOk.fn TO (FnV.glob e.1 (fnIn_out e.2).1) hl hb
theorem Cal.len {v:V} {n:Nat} (e:lenV σ v = some n) (hn:n < 2 ^ 62) (q:Q (.int n) σ):Cal T d X (.bi "len") [v] Q σ:=⟨CallOk.len e hn q⟩
theorem Cal.lenT {vs:List V} (h:short vs 100 = true) (q:Q (.int vs.length) σ):Cal T d X (.bi "len") [.tup vs] Q σ:=.len rfl (Zk (short_le h) (by decide)) q
theorem Cal.isi {v:V} {ty:String} {b:Bool} (e:isiV σ v ty = some b) (q:Q (.bool b) σ):Cal T d X (.bi "isinstance") [v,.type ty] Q σ:=⟨CallOk.isi e q⟩
theorem Cal.ord {c:Nat} (q:Q (.int c) σ):Cal T d X (.bi "ord") [.str ⟨#[c]⟩] Q σ:=⟨CallOk.ord q⟩
theorem Cal.range {n:Int} (q:Q (.rng n) σ):Cal T d X (.type "range") [.int n] Q σ:=⟨CallOk.range q⟩
theorem Cal.list {v:V} {vs:List V} (e:seqV σ v = some vs) (hn:vs.length ≤ sizeLine) (q:Q (.ref σ.length) (σ ++ [.list vs])):Cal T d X (.type "list") [v] Q σ:=⟨CallOk.list e hn q⟩
theorem iter_list {l:Nat} {vs:List V} (h:σ[l]? = some (.list vs)):iterV σ (.ref l) = some vs:=atL_of h
theorem seq_list {l:Nat} {vs:List V} (h:σ[l]? = some (.list vs)):seqV σ (.ref l) = some vs:=atL_of h
theorem kn_list {l:Nat} {vs:List V} (h:σ[l]? = some (.list vs)):kindName σ (.ref l) = some "list":=atL_of h
theorem isi_list {l:Nat} {vs:List V} (h:σ[l]? = some (.list vs)):isiV σ (.ref l) "list" = some true:=by unfold isiV; rw [kn_list h]; rfl
theorem truth_list {l:Nat} {vs:List V} (h:σ[l]? = some (.list vs)) (hl:vs.length < 1000000000):truthV (.ref l) σ = some (!vs.isEmpty):=(atL_of h).trans (if_pos hl)
theorem truth_cons {l:Nat} {vs:List V} (h:σ[l]? = some (.list vs)) (hl:vs.length < 1000000000) (h0:vs.isEmpty = false):truthV (.ref l) σ = some true:=(truth_list h hl).trans (congrArg (fun b => some (!b)) h0)
theorem len_tup {vs:List V} {n:Nat} (h:vs.length = n):lenV σ (.tup vs) = some n:=congrArg some h
theorem len_at {l n:Nat} {vs:List V} (h:σ[l]? = some (.list vs)) (hn:vs.length = n):lenV σ (.ref l) = some n:=(len_list h).trans (congrArg some hn)
theorem kind_list {l:Nat} {vs:List V} (h:σ[l]? = some (.list vs)):kindV σ (.ref l) = some "list":=congrArg kindO h
theorem MethOk.bi {ov:V} {name:Str} {id ty:String} {K:V → Prop} (h1:kindV σ ov = some ty) (h2:MethFacts ty name id) (k:K (.bi id)):MethOk T ov name σ K:=⟨.bi id,.bi h1 h2,k⟩
theorem MethOk.append {l:Nat} {vs:List V} {K:V → Prop} (h:σ[l]? = some (.list vs)) (k:K (.bi "list.append")):MethOk T (.ref l) "append" σ K:=.bi (kind_list h) m_append k
theorem MethOk.pop {l:Nat} {vs:List V} {K:V → Prop} (h:σ[l]? = some (.list vs)) (k:K (.bi "list.pop")):MethOk T (.ref l) "pop" σ K:=.bi (kind_list h) m_pop k
theorem MethOk.extend {l:Nat} {vs:List V} {K:V → Prop} (h:σ[l]? = some (.list vs)) (k:K (.bi "list.extend")):MethOk T (.ref l) "extend" σ K:=.bi (kind_list h) m_extend k
theorem MethOk.join {x:Str} {K:V → Prop} (k:K (.bi "str.join")):MethOk T (.str x) "join" σ K:=.bi (ty:="str") rfl m_join k
theorem Itm.list {l:Nat} {vs:List V} {k:Int} {j:Nat} {v:V} (e0:σ[l]? = some (.list vs)) (e1:seqIndex? k vs.length = some j) (e2:vs[j]? = some v) (e3:sm63 k) (q:Q v σ):Itm (.ref l) (.int k) Q σ:=⟨i_list e0 e1 e2 e3 q⟩
theorem Cmp.inR {neg r:Bool} {a b:V} (h:InR σ a b r) (q:Q (.bool (neg != r)) σ):Cmp (if neg then .NotIn else .In) a b Q σ:=by
 cases neg
 · exact ⟨r,.isin _ _ _ h,Bool.false_bne r ▸ q⟩
 · exact ⟨!r,.nin _ _ _ h,Bool.true_bne r ▸ q⟩
theorem Cmp.inD {k:Str} {l:Nat} {kvs:List (Str × V)} {r:Bool} (h:σ[l]? = some (.sdict kvs)) (e:(kvs.any fun kv => kv.1 = k) = r) (q:Q (.bool r) σ):Cmp .In (.str k) (.ref l) Q σ:=⟨r,.isin _ _ _ (e ▸ .dict _ _ _ h),q⟩
theorem Cmp.ninD {k:Str} {l:Nat} {kvs:List (Str × V)} {r:Bool} (h:σ[l]? = some (.sdict kvs)) (e:(kvs.any fun kv => kv.1 = k) = r) (q:Q (.bool (!r)) σ):Cmp .NotIn (.str k) (.ref l) Q σ:=⟨_,.nin _ _ _ (e ▸ .dict _ _ _ h),q⟩
theorem Cmp.eqR {a b:V} {da db:PyData} {r:Bool} (h1:Deep σ da a) (h2:Deep σ db b) (h3:da.depth ≤ 40) (e:PyData.eqv da db = r) (q:Q (.bool r) σ):Cmp .Eq a b Q σ:=⟨r,e ▸ .eq _ _ _ _ h1 h2 h3,q⟩
theorem Cmp.isN {v:V} {r:Bool} (h:isNoneV v = some r) (q:Q (.bool r) σ):Cmp .Is v .none Q σ:=⟨r,.isN _ _ h,q⟩
theorem Bin.cat {s t:Str} (k:s.length + t.length ≤ sizeLine) (h:Q (.str (s ++ t)) σ):Bin .Add (.str s) (.str t) Q σ:=⟨_,_,.cat _ _ k,h⟩
theorem Bin.lists {l m:Nat} {xs ys:List V} (h1:σ[l]? = some (.list xs)) (h2:σ[m]? = some (.list ys)) (h3:xs.length + ys.length ≤ sizeLine) (h:Q (.ref σ.length) (σ ++ [.list (xs ++ ys)])):Bin .Add (.ref l) (.ref m) Q σ:=⟨_,_,.lists _ _ _ _ h1 h2 h3,h⟩
end
end
section
theorem VRels.take {T:Tp} {ι:Inj} {h:Heap} {vs:List V} {xs:List Value} (k:Nat) (e:VRels T ι h vs xs):VRels T ι h (vs.take k) (xs.take k):=(e.all.take k).vrels
theorem VRels.drop {T:Tp} {ι:Inj} {h:Heap} {vs:List V} {xs:List Value} (k:Nat) (e:VRels T ι h vs xs):VRels T ι h (vs.drop k) (xs.drop k):=(e.all.drop k).vrels
inductive Slc (f:List V → Nat → List V) (o i:V) (Q:QE) (σ:Hp):Prop where
 | mk (m:Nat) (vs:List V) (k:Nat) (h0:o = .ref m) (h1:i = .int k) (h2:σ[m]? = some (.list vs)) (h3:vs.length ≤ sizeLine) (q:Q (.ref σ.length) (σ ++ [.list (f vs k)])):Slc f o i Q σ
section
variable {T:Tp} {d:Nat} {sc:Scope} {ρ:Loc} {X:QX} {Q:QE} {σ:Hp}
theorem EvOk.sliceTo {x:Str} {np p pos:Pos} {e:Expr} (h:EvOk T d sc ρ X (.Name x np) (fun o σ₁ => EvOk T d sc ρ X e (fun i σ₂ => Slc (fun vs k => vs.take k) o i Q σ₂) σ₁) σ) :
   EvOk T d sc ρ X (.Subscript (.Name x np) (.Slice Option.none (some e) Option.none p) pos) Q σ:=by
 intro env A fs F ι s hsc I
 refine wpAny_Subscript_list_slice (Zib (h env A fs F ι s hsc I) (fun o s₁ p => ?_) fun zz zz p => p) (fun zz zz => rfl)
 obtain ⟨v,σ₁,ι₁,q,rv,rp,ex,g,oo⟩:=p
 rw [evalPart_none]
 refine Zjb ?_
 rw [evalPart_some]
 have I₁:=I.ext ex rp g oo
 refine Zib (q env A fs F ι₁ s₁ hsc I₁) (fun y s₂ p => ?_) fun zz zz p => p.trans ex
 obtain ⟨v₂,σ₂,ι₂,⟨m,vs,k,rfl,rfl,h2,h3,q2⟩,rv₂,rp₂,ex₂,g₂,o₂⟩:=p
 have I₂:=I₁.ext ex₂ rp₂ g₂ o₂
 obtain ⟨a,d',rfl,hl⟩:=(rv.mono ex₂.mono).ref_inv
 obtain ⟨t,rfl⟩:=rv₂.int_inv
 obtain ⟨items,n,hL,hv⟩:=rp₂.list_at h2 hl
 have hlen:=hv.length
 rw [Array.length_toList] at hlen
 refine ⟨a,items,Option.none,some (k:Int),rfl,hL.isList,by rw [hlen]; exact h3,.none,.int k t,?_⟩
 rw [slicePick_upto' items k]
 have ep:=Ext.push T [] ι₂ s₂.heap { cls:=.type "slice",data:=.fields #[.none,.int k t,.none] }
 have I₃:Inv T A fs d env F ρ ι₂ σ₂ { s₂ with heap:=s₂.heap.push { cls:=.type "slice",data:=.fields #[.none,.int k t,.none] } }:=I₂.ext ep (rp₂.push _) I₂.gens I₂.os
 have:=(I₃.st.newList (Q:=Q) (items:=(items.toList.take k).toArray) (F:=[]) (by simpa using (hv.mono ep.mono).take k) q2 (t:=s₂.toks)).trans (ex.trans (ex₂.trans ep))
 rw [Zqb] at this
 exact this
theorem EvOk.sliceFrom {x:Str} {np p pos:Pos} {e:Expr} (h:EvOk T d sc ρ X (.Name x np) (fun o σ₁ => EvOk T d sc ρ X e (fun i σ₂ => Slc (fun vs k => vs.drop k) o i Q σ₂) σ₁) σ) :
   EvOk T d sc ρ X (.Subscript (.Name x np) (.Slice (some e) Option.none Option.none p) pos) Q σ:=by
 intro env A fs F ι s hsc I
 refine wpAny_Subscript_list_slice (Zib (h env A fs F ι s hsc I) (fun o s₁ p => ?_) fun zz zz p => p) (fun zz zz => rfl)
 obtain ⟨v,σ₁,ι₁,q,rv,rp,ex,g,oo⟩:=p
 rw [evalPart_some]
 have I₁:=I.ext ex rp g oo
 refine Zib (q env A fs F ι₁ s₁ hsc I₁) (fun y s₂ p => ?_) fun zz zz p => p.trans ex
 obtain ⟨v₂,σ₂,ι₂,⟨m,vs,k,rfl,rfl,h2,h3,q2⟩,rv₂,rp₂,ex₂,g₂,o₂⟩:=p
 rw [evalPart_none]
 refine Zjb ?_
 have I₂:=I₁.ext ex₂ rp₂ g₂ o₂
 obtain ⟨a,d',rfl,hl⟩:=(rv.mono ex₂.mono).ref_inv
 obtain ⟨t,rfl⟩:=rv₂.int_inv
 obtain ⟨items,n,hL,hv⟩:=rp₂.list_at h2 hl
 have hlen:=hv.length
 rw [Array.length_toList] at hlen
 refine ⟨a,items,some (k:Int),Option.none,rfl,hL.isList,by rw [hlen]; exact h3,.int k t,.none,?_⟩
 rw [slicePick_from' items k]
 have ep:=Ext.push T [] ι₂ s₂.heap { cls:=.type "slice",data:=.fields #[.int k t,.none,.none] }
 have I₃:Inv T A fs d env F ρ ι₂ σ₂ { s₂ with heap:=s₂.heap.push { cls:=.type "slice",data:=.fields #[.int k t,.none,.none] } }:=I₂.ext ep (rp₂.push _) I₂.gens I₂.os
 have:=(I₃.st.newList (Q:=Q) (items:=(items.toList.drop k).toArray) (F:=[]) (by simpa using (hv.mono ep.mono).drop k) q2 (t:=s₂.toks)).trans (ex.trans (ex₂.trans ep))
 rw [Zqb] at this
 exact this
end
theorem execs_append (env:Env) (r:List Stmt):∀ ss:List Stmt,execs (ss ++ r) env = (execs ss env >>= fun f => match f with | .next => execs r env | f => pure f)
 | [] => by
   rw [List.nil_append,show execs [] env = pure Flow.next from rfl,pure_bind]
 | st :: ss => by
   rw [List.cons_append,execs_cons,execs_cons,bind_assoc]
   congr 1
   funext f
   cases f
   · exact execs_append env r ss
   · exact (pure_bind _ _).symm
   · exact (pure_bind _ _).symm
   · exact (pure_bind _ _).symm
theorem ExOk.cutAt {T:Tp} {d:Nat} {sc:Scope} {ρ:Loc} {X:XS} {Q:QS} {σ:Hp} {ss:List Stmt} (k:Nat) (P:Loc → Hp → Prop) (h1:ExOk T d sc ρ X (ss.take k) (fun fl ρ' σ' => match fl with | .next => P ρ' σ' | fl => Q fl ρ' σ') σ) (h2:∀ ρ' σ',P ρ' σ' → ExOk T d sc ρ' X (ss.drop k) Q σ'):ExOk T d sc ρ X ss Q σ:=by
 intro env A fs F ι s hsc I
 rw [← List.take_append_drop k ss,execs_append]
 refine Zhb (Zib (h1 env A fs F ι s hsc I) (fun f s₁ p => ?_) fun zz zz p => p)
 obtain ⟨fl,ρ',σ',ι',q,r,i,e⟩:=p
 induction r with
 | next => exact Zib (h2 _ _ q env A fs F ι' s₁ hsc i) (fun zz zz p => p.trans e) fun zz zz p => p.trans e
 | brk => exact Zjb ⟨_,ρ',σ',ι',q,.brk,i,e⟩
 | cont => exact Zjb ⟨_,ρ',σ',ι',q,.cont,i,e⟩
 | ret r => exact Zjb ⟨_,ρ',σ',ι',q,.ret r,i,e⟩
end
section
section
variable {T:Tp} {d:Nat} {X:QX} {Q:QE} {σ:Hp}
end
end
section
section
variable {T:Tp} {d:Nat} {sc:Scope} {ρ:Loc} {X:QX} {Q:QE} {σ:Hp}
end
section
variable {T:Tp} {A:Around} {fs:List Env} {d:Nat} {env:Env} {F:List Addr} {ι:Inj} {s:Shared} {ρ:Loc} {σ:Hp} {sc:Scope} {X:QX} {Q:QE}
end
end
section
section
variable {prog:Program} {w:World} {A:Around} {E:Value → Shared → Prop} {s:Shared}
end
section
variable {T:Tp} {d:Nat} {sc:Scope} {ρ:Loc} {X:QX} {Q:QE} {σ:Hp}
end
end
section
section
variable {T:Tp} {d:Nat} {X:QX} {Q:QE} {σ:Hp}
theorem Cal.intB {b:Bool} (q:Q (.int (if b then 1 else 0)) σ):Cal T d X (.type "int") [.bool b] Q σ:=⟨.b1 rfl fun S r => by
 rw [r.bool_inv]
 exact call_int_bool (S.post q .int_mk _)⟩
end
section
variable {prog:Program} {w:World} {K:Type} [DecidableEq K] {knd:HeapKind prog w K} {A:Around} {E:Value → Shared → Prop} {s:Shared}
end
section
variable {T:Tp} {d:Nat} {X:QX} {Q:QE} {σ:Hp}
end
end
section
section
variable {T:Tp} {d:Nat} {X:QX} {Q:QE} {σ:Hp} {A:Around} {fs:List Env} {ι:Inj} {s:Shared}
theorem Cal.intS {x:Str} {n:Int} (h:PySem.intText? x = some n) (hl:x.length ≤ 640) (q:Q (.int n) σ):Cal T d X (.type "int") [.str x] Q σ:=⟨.b1 rfl fun S r => by
 obtain ⟨t,rfl⟩:=r.str_inv
 exact PySem.W.KIN.call_text h hl (S.post q .int_mk _)⟩
theorem Cal.strI {n:Int} (h:n.natAbs.log2 < 1920) (q:Q (.str (Str.ofString (toString n))) σ):Cal T d X (.type "str") [.int n] Q σ:=⟨.b1 rfl fun S r => by
 obtain ⟨t,rfl⟩:=r.int_inv
 exact P.str_of_int h (S.post q .str_mk _)⟩
theorem Cal.tuple {l:Nat} {vs:List V} (hl:σ[l]? = some (.list vs)) (hn:vs.length ≤ sizeLine) (q:Q (.tup vs) σ):Cal T d X (.type "tuple") [.ref l] Q σ:=⟨.b1 rfl fun {A fs ι s x} S r => by
 obtain ⟨a,dx,items,m,rfl,hι,hL,hv,hs⟩:=S.rep.lst hl r
 have fin:wpAny (model T.prog T.w) A (call (.type "tuple") [.ref a]) (fun y s' => ∃ h':Heap,y = .ref h'.objs.size ∧ s' = { s with heap:=h'.push { cls:=.type "tuple",data:=.seq items } } ∧ ∀ b o',s.heap.get? b = some o' → h'.get? b = some o') (PostX T [] X ι s.heap) s :=
   call_tuple_list hL.isList (fun h' k => ⟨h',rfl,rfl,k⟩) (by rw [hs]; exact hn)
 refine Zib (wpAny_size fin) (fun y s' p => ?_) fun zz zz p => p.1
 obtain ⟨⟨h',rfl,rfl,k⟩,hz⟩:=p
 have k2:∀ b o',s.heap.get? b = some o' → (h'.push { cls:=.type "tuple",data:=.seq items }).get? b = some o':=fun b o' e => Zx _ (k b o' e)
 exact S.grown (t:=s.toks) hz k2 q ⟨_,items,_,rfl,Zsc _ rfl,hv.mono (Ext.of_keeps (T:=T) (F:=[]) (ι:=ι) hz k2).mono⟩⟩
theorem strs_rel {h:Heap} (l:List (Str × Tok)):VRels T ι h ((l.map (·.1)).map V.str) (strValues l):=by
 induction l with
 | nil => trivial
 | cons p r ih => exact ⟨.str_mk,ih⟩
theorem CallOk.split {x y:Str} (hy:(y.length == 0) = false) (hx:x.length ≤ 1000000) (q:Q (.ref σ.length) (σ ++ [.list ((Txt.split x y).map V.str)])):CallOk T d X (.bi "str.split") [.str x,.str y] Q σ:=.b2 rfl fun {A fs ι s x' y'} S r r2 => by
 obtain ⟨t,rfl⟩:=r.str_inv
 obtain ⟨u,rfl⟩:=r2.str_inv
 have hsz:x.length ≤ sizeLine:=Za hx (by decide)
 have fin:∀ {l:List (Str × Tok)} {tk:Nat},l.map (·.1) = Txt.split x y → PostE T [] Q ι s.heap (.ref s.heap.objs.size) { s with heap:=s.heap.push { cls:=.type "list",data:=.seq (strValues l).toArray },toks:=tk }:=fun {l tk} e =>
   S.newList (items:=(strValues l).toArray) (by rw [← e]; exact strs_rel l) q
 cases h1:(decide (x.length < y.length) || decide (Builtin.Str.strKind x < Builtin.Str.strKind y))
 · cases hf:(Builtin.Str.occurrences x y 0 x.length (x.length + 1)).isEmpty
   · have es:Txt.split x y = Builtin.Str.partsBetween x (Builtin.Str.occurrences x y 0 x.length (x.length + 1)) y.length:=(if_neg (ne_true_of_eq_false h1)).trans (if_neg (ne_true_of_eq_false hf))
     refine call_meets F.slot_str_split (typeIs_str _ _ _) F.entry_str_split (F.args_str_split_2 _ _) (meets_str_split_sep x y t u h1 hy hf hsz (by rw [← es]; exact Za (split_le x y) (Za (Nat.add_le_add_right hx 2) (by decide)))) ?_
     rw [strsFrom_eq]
     exact fin ((numbered_texts _ _).trans es.symm)
   · exact call_meets F.slot_str_split (typeIs_str _ _ _) F.entry_str_split (F.args_str_split_2 _ _) (meets_str_split_not_found x y t u h1 hy hf) (fin (l:=[(x,t)]) (tk:=s.toks) ((if_neg (ne_true_of_eq_false h1)).trans (if_pos hf)).symm)
 · exact call_meets F.slot_str_split (typeIs_str _ _ _) F.entry_str_split (F.args_str_split_2 _ _) (meets_str_split_cannot_occur x y t u h1) (fin (l:=[(x,t)]) (tk:=s.toks) (if_pos h1).symm)
theorem m_split:MethFacts "str" "split" "str.split":=⟨F.plainAttrs_str,F.slot_str_split,F.type_str_split⟩
theorem MethOk.split {x:Str} {K:V → Prop} (k:K (.bi "str.split")):MethOk T (.str x) "split" σ K:=.bi (ty:="str") rfl m_split k
end
section
variable {T:Tp} {d:Nat} {sc:Scope} {ρ:Loc} {X:QX} {Q:QE} {σ:Hp}
theorem EvOk.sliceBut {x:Str} {np p pos:Pos} {e:Expr} (h:EvOk T d sc ρ X (.Name x np) (fun o σ₁ => EvOk T d sc ρ X e (fun i σ₂ => i = .int (-1) ∧ ∃ m vs,o = .ref m ∧ σ₂[m]? = some (.list vs) ∧ vs.length ≤ sizeLine ∧ Q (.ref σ₂.length) (σ₂ ++ [.list (vs.take (vs.length - 1))])) σ₁) σ) :
   EvOk T d sc ρ X (.Subscript (.Name x np) (.Slice Option.none (some e) Option.none p) pos) Q σ:=by
 intro env A fs F ι s hsc I
 refine wpAny_Subscript_list_slice (Zib (h env A fs F ι s hsc I) (fun o s₁ p => ?_) fun zz zz p => p) (fun zz zz => rfl)
 obtain ⟨v,σ₁,ι₁,q,rv,rp,ex,g,oo⟩:=p
 rw [evalPart_none]
 refine Zjb ?_
 rw [evalPart_some]
 have I₁:=I.ext ex rp g oo
 refine Zib (q env A fs F ι₁ s₁ hsc I₁) (fun y s₂ p => ?_) fun zz zz p => p.trans ex
 obtain ⟨v₂,σ₂,ι₂,⟨rfl,m,vs,rfl,h2,h3,q2⟩,rv₂,rp₂,ex₂,g₂,o₂⟩:=p
 have I₂:=I₁.ext ex₂ rp₂ g₂ o₂
 obtain ⟨a,d',rfl,hl⟩:=(rv.mono ex₂.mono).ref_inv
 obtain ⟨t,rfl⟩:=rv₂.int_inv
 obtain ⟨items,n,hL,hv⟩:=rp₂.list_at h2 hl
 have hlen:=hv.length
 rw [Array.length_toList] at hlen
 refine ⟨a,items,Option.none,some (-1),rfl,hL.isList,by rw [hlen]; exact h3,.none,.int (-1) t,?_⟩
 rw [show slicePick items Option.none (some (-1)) Option.none = (items.toList.take (items.size - 1)).toArray from slicePick_butLast items 1 (Zl 1),hlen]
 have ep:=Ext.push T [] ι₂ s₂.heap { cls:=.type "slice",data:=.fields #[.none,.int (-1) t,.none] }
 have I₃:Inv T A fs d env F ρ ι₂ σ₂ { s₂ with heap:=s₂.heap.push { cls:=.type "slice",data:=.fields #[.none,.int (-1) t,.none] } }:=I₂.ext ep (rp₂.push _) I₂.gens I₂.os
 have:=(I₃.st.newList (Q:=Q) (items:=(items.toList.take (vs.length - 1)).toArray) (F:=[]) (by simpa using (hv.mono ep.mono).take (vs.length - 1)) q2 (t:=s₂.toks)).trans (ex.trans (ex₂.trans ep))
 rw [Zqb] at this
 exact this
end
end
section
noncomputable def isSignC (c:Nat):Bool:=c == 10 || c == 9 || (decide (32 ≤ c) && decide (c ≤ 126) && c != 37)
theorem sz (n:Nat) (h:Nat.ble n 1000 = true):n ≤ sizeLine:=Za (Nat.le_of_ble_eq_true h) (by decide)
theorem szo {n:Nat} (h:n ≤ 16777216):n ≤ sizeLine:=sizeLine_eq ▸ h
theorem beq_ch {a b:Nat}:((⟨#[a]⟩:Str) == ⟨#[b]⟩) = (a == b):=by
 by_cases e:a = b
 · subst e; simp
 · have e2:(⟨#[a]⟩:Str) ≠ ⟨#[b]⟩:=fun q => e (by injection q with q; simpa using q)
   rw [Zmc.mpr e2,Zmc.mpr e]
set_option tactic.hygienic true in
end
section
set_option genSizeOf false
set_option genInjectivity false
inductive Pt where
 | sign (c:Nat)
 | span (a b:Nat)
 | any
 | rule (n:Str)
 | row (ps:List Pt)
 | alt (ps:List Pt)
 | many (p:Pt)
 | nt (p:Pt)
mutual
noncomputable def Pt.v:Pt → V
 | .sign c => .tup [.str "sign",.str ⟨#[c]⟩]
 | .span a b => .tup [.str "span",.str ⟨#[a]⟩,.str ⟨#[b]⟩]
 | .any => .tup [.str "any"]
 | .rule n => .tup [.str "rule",.str n]
 | .row ps => .tup [.str "row",.tup (Pt.vs ps)]
 | .alt ps => .tup [.str "or",.tup (Pt.vs ps)]
 | .many p => .tup [.str "many",p.v]
 | .nt p => .tup [.str "not",p.v]
noncomputable def Pt.vs:List Pt → List V
 | [] => []
 | p :: r => p.v :: Pt.vs r
end
theorem Pt.v1 (c:Nat):(Pt.sign c).v = V.tup [V.str (Str.ofString "sign"),V.str { cps:=#[c] }]:=rfl
theorem Pt.v2 (a b:Nat):(Pt.span a b).v = V.tup [V.str (Str.ofString "span"),V.str { cps:=#[a] },V.str { cps:=#[b] }]:=rfl
theorem Pt.v3:Pt.any.v = V.tup [V.str (Str.ofString "any")]:=rfl
theorem Pt.v4 (n:Str):(Pt.rule n).v = V.tup [V.str (Str.ofString "rule"),V.str n]:=rfl
theorem Pt.v5 (ps:List Pt):(Pt.row ps).v = V.tup [V.str (Str.ofString "row"),V.tup (Pt.vs ps)]:=rfl
theorem Pt.v6 (ps:List Pt):(Pt.alt ps).v = V.tup [V.str (Str.ofString "or"),V.tup (Pt.vs ps)]:=rfl
theorem Pt.v7 (p:Pt):p.many.v = V.tup [V.str (Str.ofString "many"),p.v]:=rfl
theorem Pt.v8 (p:Pt):p.nt.v = V.tup [V.str (Str.ofString "not"),p.v]:=rfl
theorem Pt.vs1:Pt.vs [] = []:=rfl
theorem Pt.vs2 (p:Pt) (r:List Pt):Pt.vs (p :: r) = p.v :: Pt.vs r:=rfl
theorem Pt.vs_map:∀ ps:List Pt,Pt.vs ps = ps.map Pt.v:=by
 intro xx
 induction xx with
 | nil =>
   simp [Pt.vs1]
 | cons p r ih =>
   simp [Pt.vs2,ih]
noncomputable def Pt.kids:Pt → List Pt
 | .row ps | .alt ps => ps
 | .many p | .nt p => [p]
 | .sign _ | .span _ _ | .any | .rule _ => []
theorem Pt.kids1 (ps:List Pt):(Pt.row ps).kids = ps:=rfl
theorem Pt.kids2 (ps:List Pt):(Pt.alt ps).kids = ps:=rfl
theorem Pt.kids3 (p:Pt):p.many.kids = [p]:=rfl
theorem Pt.kids4 (p:Pt):p.nt.kids = [p]:=rfl
theorem Pt.kids5 (c:Nat):(Pt.sign c).kids = []:=rfl
theorem Pt.kids6 (a b:Nat):(Pt.span a b).kids = []:=rfl
theorem Pt.kids7:Pt.any.kids = []:=rfl
theorem Pt.kids8 (n:Str):(Pt.rule n).kids = []:=rfl
noncomputable def Pt.word:Pt → Str
 | .sign z1 => "sign" | .span _ _ => "span" | .any => "any" | .rule _ => "rule" | .row _ => "row" | .alt _ => "or" | .many _ => "many" | .nt _ => "not"
theorem Pt.word1 (c:Nat):(Pt.sign c).word = Str.ofString "sign":=rfl
theorem Pt.word2 (a b:Nat):(Pt.span a b).word = Str.ofString "span":=rfl
theorem Pt.word3:Pt.any.word = Str.ofString "any":=rfl
theorem Pt.word4 (n:Str):(Pt.rule n).word = Str.ofString "rule":=rfl
theorem Pt.word5 (ps:List Pt):(Pt.row ps).word = Str.ofString "row":=rfl
theorem Pt.word6 (ps:List Pt):(Pt.alt ps).word = Str.ofString "or":=rfl
theorem Pt.word7 (p:Pt):p.many.word = Str.ofString "many":=rfl
theorem Pt.word8 (p:Pt):p.nt.word = Str.ofString "not":=rfl
mutual
noncomputable def Pt.deep:Pt → Nat
 | .row ps | .alt ps => Pt.deeps ps + 1
 | .many p | .nt p => p.deep + 1
 | .sign _ | .span _ _ | .any | .rule _ => 1
noncomputable def Pt.deeps:List Pt → Nat
 | [] => 0
 | p :: r => max p.deep (Pt.deeps r)
end
theorem Pt.deep1 (ps:List Pt):(Pt.row ps).deep = Pt.deeps ps + 1:=rfl
theorem Pt.deep2 (ps:List Pt):(Pt.alt ps).deep = Pt.deeps ps + 1:=rfl
theorem Pt.deep3 (p:Pt):p.many.deep = p.deep + 1:=rfl
theorem Pt.deep4 (p:Pt):p.nt.deep = p.deep + 1:=rfl
theorem Pt.deep5 (c:Nat):(Pt.sign c).deep = 1:=rfl
theorem Pt.deep6 (a b:Nat):(Pt.span a b).deep = 1:=rfl
theorem Pt.deep7:Pt.any.deep = 1:=rfl
theorem Pt.deep8 (n:Str):(Pt.rule n).deep = 1:=rfl
theorem Pt.deeps1:Pt.deeps [] = 0:=rfl
theorem Pt.deeps2 (p:Pt) (r:List Pt):Pt.deeps (p :: r) = max p.deep (Pt.deeps r):=rfl
mutual
noncomputable def Pt.size:Pt → Nat
 | .row ps | .alt ps => Pt.sizes ps + 1
 | .many p | .nt p => p.size + 1
 | .sign _ | .span _ _ | .any | .rule _ => 1
noncomputable def Pt.sizes:List Pt → Nat
 | [] => 0
 | p :: r => p.size + Pt.sizes r
end
theorem Pt.size1 (ps:List Pt):(Pt.row ps).size = Pt.sizes ps + 1:=rfl
theorem Pt.size2 (ps:List Pt):(Pt.alt ps).size = Pt.sizes ps + 1:=rfl
theorem Pt.size3 (p:Pt):p.many.size = p.size + 1:=rfl
theorem Pt.size4 (p:Pt):p.nt.size = p.size + 1:=rfl
theorem Pt.size5 (c:Nat):(Pt.sign c).size = 1:=rfl
theorem Pt.size6 (a b:Nat):(Pt.span a b).size = 1:=rfl
theorem Pt.size7:Pt.any.size = 1:=rfl
theorem Pt.size8 (n:Str):(Pt.rule n).size = 1:=rfl
theorem Pt.sizes1:Pt.sizes [] = 0:=rfl
theorem Pt.sizes2 (p:Pt) (r:List Pt):Pt.sizes (p :: r) = p.size + Pt.sizes r:=rfl
mutual
noncomputable def Pt.good:Pt → Bool
 | .sign c => isSignC c
 | .span a b => isSignC a && isSignC b && decide (a ≤ b)
 | .any => true
 | .rule z1 => true
 | .row ps => Pt.goods ps
 | .alt ps => !ps.isEmpty && Pt.goods ps
 | .many p | .nt p => p.good
noncomputable def Pt.goods:List Pt → Bool
 | [] => true
 | p :: r => p.good && Pt.goods r
end
theorem Pt.good1 (c:Nat):(Pt.sign c).good = isSignC c:=rfl
theorem Pt.good2 (a b:Nat):(Pt.span a b).good = (isSignC a && isSignC b && decide (a ≤ b)):=rfl
theorem Pt.good3:Pt.any.good = true:=rfl
theorem Pt.good4 (n:Str):(Pt.rule n).good = true:=rfl
theorem Pt.good5 (ps:List Pt):(Pt.row ps).good = Pt.goods ps:=rfl
theorem Pt.good6 (ps:List Pt):(Pt.alt ps).good = (!ps.isEmpty && Pt.goods ps):=rfl
theorem Pt.good7 (p:Pt):p.many.good = p.good:=rfl
theorem Pt.good8 (p:Pt):p.nt.good = p.good:=rfl
theorem Pt.goods1:Pt.goods [] = true:=rfl
theorem Pt.goods2 (p:Pt) (r:List Pt):Pt.goods (p :: r) = (p.good && Pt.goods r):=rfl
end
section
section
variable {σ r:Hp} {a b a':MObj}
theorem get0:(σ ++ a :: r)[σ.length]? = some a:=by simp
theorem set0:(σ ++ a :: r).set σ.length a' = σ ++ a' :: r:=by simp
theorem get1:(σ ++ a :: b :: r)[σ.length + 1]? = some b:=by
 rw [Ztc (by exact Zq (Zs (List.length σ)))]; simp
theorem set1:(σ ++ a :: b :: r).set (σ.length + 1) a' = σ ++ a :: a' :: r:=by
 rw [List.set_append_right _ _ (by exact Zq (Zs (List.length σ)))]; simp
end
inductive Pt.Asks:Pt → Str → Prop where
 | here {n:Str}:Pt.Asks (.rule n) n
 | deep {p q:Pt} {n:Str}:q ∈ p.kids → Pt.Asks q n → Pt.Asks p n
theorem Pt.size_pos (p:Pt):1 ≤ p.size:=by cases p <;> simp [Pt.size1,Pt.size2,Pt.size3,Pt.size4,Pt.size5,Pt.size6,Pt.size7,Pt.size8]
theorem Pt.sizes_append:∀ a b:List Pt,Pt.sizes (a ++ b) = Pt.sizes a + Pt.sizes b:=by
 intro xx
 induction xx with
 | nil =>
   intro b
   simp [Pt.sizes1]
 | cons p r ih =>
   intro b
   simp [Pt.sizes2,ih b]; lia
theorem Pt.kids_size (p:Pt):Pt.sizes p.kids + 1 ≤ p.size:=by
 cases p <;> simp [Pt.kids1,Pt.kids2,Pt.kids3,Pt.kids4,Pt.kids5,Pt.kids6,Pt.kids7,Pt.kids8,Pt.size1,Pt.size2,Pt.size3,Pt.size4,Pt.size5,Pt.size6,Pt.size7,Pt.size8,Pt.sizes1,Pt.sizes2]
theorem Pt.deep_pos (p:Pt):1 ≤ p.deep:=by cases p <;> simp [Pt.deep1,Pt.deep2,Pt.deep3,Pt.deep4,Pt.deep5,Pt.deep6,Pt.deep7,Pt.deep8]
theorem Pt.deeps_mem {ps:List Pt} {p:Pt} (h:p ∈ ps):p.deep ≤ Pt.deeps ps:=by
 induction ps with
 | nil => cases h
 | cons a r ih =>
   rw [Pt.deeps2]
   rcases Zg.mp h with rfl | h
   · exact Nat.le_max_left ..
   · exact Za (ih h) (Nat.le_max_right ..)
theorem Pt.goods_mem {ps:List Pt} {p:Pt} (hg:Pt.goods ps = true) (h:p ∈ ps):p.good = true:=by
 induction ps with
 | nil => cases h
 | cons a r ih =>
   rw [Pt.goods2,Zob] at hg
   rcases Zg.mp h with rfl | h
   · exact hg.1
   · exact ih hg.2 h
theorem Pt.kids_deep {p q:Pt} (h:q ∈ p.kids):q.deep + 1 ≤ p.deep:=by
 cases p <;> simp only [Pt.kids1,Pt.kids2,Pt.kids3,Pt.kids4,Pt.kids5,Pt.kids6,Pt.kids7,Pt.kids8,Zdc,Zj] at h
 · rw [Pt.deep1]; exact Zwb (Pt.deeps_mem h)
 · rw [Pt.deep2]; exact Zwb (Pt.deeps_mem h)
 · subst h; rw [Pt.deep3]; exact Zl _
 · subst h; rw [Pt.deep4]; exact Zl _
noncomputable def Pt.few:Pt → Prop:=fun p => p.kids.length < 1000
inductive Pt.All (P:Pt → Prop):Pt → Prop where
 | mk {p:Pt}:P p → (∀ q ∈ p.kids,Pt.All P q) → Pt.All P p
noncomputable def Pt.rest:Pt → List V
 | .sign c => [.str ⟨#[c]⟩] | .span a b => [.str ⟨#[a]⟩,.str ⟨#[b]⟩] | .any => [] | .rule n => [.str n] | .row ps => [.tup (Pt.vs ps)] | .alt ps => [.tup (Pt.vs ps)] | .many p => [p.v] | .nt p => [p.v]
theorem Pt.head (p:Pt):p.v = .tup (.str p.word :: p.rest):=by
 cases p <;> simp only [Pt.v1,Pt.v2,Pt.v3,Pt.v4,Pt.v5,Pt.v6,Pt.v7,Pt.v8,Pt.word1,Pt.word2,Pt.word3,Pt.word4,Pt.word5,Pt.word6,Pt.word7,Pt.word8,Pt.rest]
theorem Pt.word_rule {p:Pt} (h:p.word = "rule"):∃ n,p = .rule n:=by
 cases p <;> first | exact ⟨_,rfl⟩ | (have h':=h; simp only [Pt.word1,Pt.word2,Pt.word3,Pt.word5,Pt.word6,Pt.word7,Pt.word8] at h'; exact absurd h' (by decide +kernel))
noncomputable def isLetter (c:Nat):Bool:=decide (97 ≤ c) && decide (c ≤ 122)
noncomputable def isName (x:Str):Bool:=decide (1 ≤ x.length) && decide (x.length ≤ 12) && x.cps.toList.all isLetter
noncomputable abbrev ruleV (r:Str × Pt):V:=.tup [.str r.1,r.2.v]
structure GoodRule (names:List Str) (r:Str × Pt):Prop where
 name:isName r.1 = true
 good:r.2.good = true
 deep:r.2.deep ≤ 12
 few:Pt.All Pt.few r.2
 size:r.2.size < 100000
 asks:∀ n,r.2.Asks n → n ∈ names
structure GoodRules (rs:List (Str × Pt)):Prop where
 one:1 ≤ rs.length
 most:rs.length ≤ 40
 nodup:(rs.map (·.1)).Nodup
 all:∀ r ∈ rs,GoodRule (rs.map (·.1)) r
noncomputable def metKV (ns:List Str):List (Str × V):=ns.map fun n => (n,.bool true)
theorem metKV_any {ns:List Str} {n:Str}:((metKV ns).any fun kv => decide (kv.1 = n)) = decide (n ∈ ns):=by
 rw [Bool.eq_iff_iff]; simp [metKV]
theorem metKV_set {ns:List Str} {n:Str} (h:n ∉ ns):setKV (metKV ns) n (.bool true) = metKV (ns ++ [n]):=by
 unfold setKV; rw [metKV_any,if_neg (by simpa using h)]; simp [metKV]
theorem nodup_take {α:Type} {rs:List α} {f:α → Str} {i:Nat} {r:α} (h:(rs.map f).Nodup) (hr:rs[i]? = some r):f r ∉ (rs.take i).map f:=fun hmem => by
 obtain ⟨r',hr',e⟩:=Zsb.mp hmem
 obtain ⟨j,hj,e2⟩:=List.getElem_of_mem hr'
 simp only [List.length_take] at hj
 rw [List.getElem_take] at e2
 obtain ⟨hi1,hi2⟩:=Zb.mp hr
 have:=List.pairwise_iff_getElem.mp h j i (by simp; (clear hi1 hi2 hr e2; lia)) (by simpa using hi1) (by (clear hi1 hi2 hr e2; lia))
 simp [e2,hi2,e] at this
theorem take_next {α:Type} {rs:List α} {i:Nat} {r:α} (hr:rs[i]? = some r):rs.take (i + 1) = rs.take i ++ [r]:=by
 rw [List.take_add_one,hr]; rfl
end
section
mutual
noncomputable def Pt.may (B:Str → Bool):Pt → Bool
 | .many _ | .nt _ => true
 | .rule n => B n
 | .row ps => Pt.mayAll B ps
 | .alt ps => Pt.mayAny B ps
 | .sign _ | .span _ _ | .any => false
noncomputable def Pt.mayAll (B:Str → Bool):List Pt → Bool
 | [] => true
 | p :: r => p.may B && Pt.mayAll B r
noncomputable def Pt.mayAny (B:Str → Bool):List Pt → Bool
 | [] => false
 | p :: r => p.may B || Pt.mayAny B r
end
theorem Pt.may1 (B:Str → Bool) (p:Pt):Pt.may B p.many = true:=rfl
theorem Pt.may2 (B:Str → Bool) (p:Pt):Pt.may B p.nt = true:=rfl
theorem Pt.may3 (B:Str → Bool) (n:Str):Pt.may B (Pt.rule n) = B n:=rfl
theorem Pt.may4 (B:Str → Bool) (ps:List Pt):Pt.may B (Pt.row ps) = Pt.mayAll B ps:=rfl
theorem Pt.may5 (B:Str → Bool) (ps:List Pt):Pt.may B (Pt.alt ps) = Pt.mayAny B ps:=rfl
theorem Pt.may6 (B:Str → Bool) (c:Nat):Pt.may B (Pt.sign c) = false:=rfl
theorem Pt.may7 (B:Str → Bool) (a b:Nat):Pt.may B (Pt.span a b) = false:=rfl
theorem Pt.may8 (B:Str → Bool):Pt.may B Pt.any = false:=rfl
theorem Pt.mayAll1 (B:Str → Bool):Pt.mayAll B [] = true:=rfl
theorem Pt.mayAll2 (B:Str → Bool) (p:Pt) (r:List Pt):Pt.mayAll B (p :: r) = (Pt.may B p && Pt.mayAll B r):=rfl
theorem Pt.mayAny1 (B:Str → Bool):Pt.mayAny B [] = false:=rfl
theorem Pt.mayAny2 (B:Str → Bool) (p:Pt) (r:List Pt):Pt.mayAny B (p :: r) = (Pt.may B p || Pt.mayAny B r):=rfl
theorem Pt.mayAll_eq (B:Str → Bool):∀ ps,Pt.mayAll B ps = ps.all (Pt.may B)
 | [] => by simp [Pt.mayAll1]
 | p :: r => by simp [Pt.mayAll2,Pt.mayAll_eq B r]
theorem Pt.mayAny_eq (B:Str → Bool):∀ ps,Pt.mayAny B ps = ps.any (Pt.may B)
 | [] => by simp [Pt.mayAny1]
 | p :: r => by simp [Pt.mayAny2,Pt.mayAny_eq B r]
mutual
theorem Pt.may_mono {B C:Str → Bool} (h:∀ x,B x = true → C x = true):∀ p:Pt,p.may B = true → p.may C = true
 | .sign _,q | .span _ _,q | .any,q => by simp [Pt.may6,Pt.may7,Pt.may8] at q
 | .rule n,q => by simp only [Pt.may3] at q ⊢; exact h n q
 | .row ps,q => by simp only [Pt.may4] at q ⊢; exact Pt.mayAll_mono h ps q
 | .alt ps,q => by simp only [Pt.may5] at q ⊢; exact Pt.mayAny_mono h ps q
 | .many _,_ | .nt _,_ => by simp [Pt.may1,Pt.may2]
theorem Pt.mayAll_mono {B C:Str → Bool} (h:∀ x,B x = true → C x = true):∀ ps:List Pt,Pt.mayAll B ps = true → Pt.mayAll C ps = true
 | [],z1 => by simp [Pt.mayAll1]
 | p :: r,q => by
   simp only [Pt.mayAll2,Zob] at q ⊢
   exact ⟨Pt.may_mono h p q.1,Pt.mayAll_mono h r q.2⟩
theorem Pt.mayAny_mono {B C:Str → Bool} (h:∀ x,B x = true → C x = true):∀ ps:List Pt,Pt.mayAny B ps = true → Pt.mayAny C ps = true
 | [],q => by simp [Pt.mayAny1] at q
 | p :: r,q => by
   simp only [Pt.mayAny2,Bool.or_eq_true] at q ⊢
   rcases q with q | q
   · exact .inl (Pt.may_mono h p q)
   · exact .inr (Pt.mayAny_mono h r q)
end
noncomputable def inB (bs:List Str):Str → Bool:=fun x => decide (x ∈ bs)
theorem inB_iff {bs:List Str} {x:Str}:inB bs x = true ↔ x ∈ bs:=by simp [inB]
structure Bare (rs:List (Str × Pt)) (bs:List Str):Prop where
 sub:∀ x ∈ bs,x ∈ rs.map (·.1)
 closed:∀ r ∈ rs,r.2.may (inB bs) = true → r.1 ∈ bs
 least:∀ S:Str → Bool,(∀ r ∈ rs,r.2.may S = true → S r.1 = true) → ∀ x ∈ bs,S x = true
section
variable {rs:List (Str × Pt)}
end
end
section
mutual
noncomputable def Pt.ahd (B:Str → Bool):Pt → List Str
 | .rule n => [n]
 | .row ps => Pt.ahdRow B ps
 | .alt ps => Pt.ahdAlt B ps
 | .many p | .nt p => p.ahd B
 | .sign _ | .span _ _ | .any => []
noncomputable def Pt.ahdRow (B:Str → Bool):List Pt → List Str
 | [] => []
 | p :: r => p.ahd B ++ if p.may B then Pt.ahdRow B r else []
noncomputable def Pt.ahdAlt (B:Str → Bool):List Pt → List Str
 | [] => []
 | p :: r => p.ahd B ++ Pt.ahdAlt B r
end
theorem Pt.ahd1 (B:Str → Bool) (n:Str):Pt.ahd B (Pt.rule n) = [n]:=rfl
theorem Pt.ahd2 (B:Str → Bool) (ps:List Pt):Pt.ahd B (Pt.row ps) = Pt.ahdRow B ps:=rfl
theorem Pt.ahd3 (B:Str → Bool) (ps:List Pt):Pt.ahd B (Pt.alt ps) = Pt.ahdAlt B ps:=rfl
theorem Pt.ahd4 (B:Str → Bool) (p:Pt):Pt.ahd B p.many = Pt.ahd B p:=rfl
theorem Pt.ahd5 (B:Str → Bool) (p:Pt):Pt.ahd B p.nt = Pt.ahd B p:=rfl
theorem Pt.ahd6 (B:Str → Bool) (c:Nat):Pt.ahd B (Pt.sign c) = []:=rfl
theorem Pt.ahd7 (B:Str → Bool) (a b:Nat):Pt.ahd B (Pt.span a b) = []:=rfl
theorem Pt.ahd8 (B:Str → Bool):Pt.ahd B Pt.any = []:=rfl
theorem Pt.ahdRow1 (B:Str → Bool):Pt.ahdRow B [] = []:=rfl
theorem Pt.ahdRow2 (B:Str → Bool) (p:Pt) (r:List Pt):Pt.ahdRow B (p :: r) = Pt.ahd B p ++ if Pt.may B p = true then Pt.ahdRow B r else []:=rfl
theorem Pt.ahdAlt1 (B:Str → Bool):Pt.ahdAlt B [] = []:=rfl
theorem Pt.ahdAlt2 (B:Str → Bool) (p:Pt) (r:List Pt):Pt.ahdAlt B (p :: r) = Pt.ahd B p ++ Pt.ahdAlt B r:=rfl
mutual
theorem Pt.ahd_size (B:Str → Bool):∀ p:Pt,(p.ahd B).length ≤ p.size
 | .sign _ | .span _ _ | .any | .rule _ => by simp [Pt.ahd1,Pt.ahd6,Pt.ahd7,Pt.ahd8,Pt.size5,Pt.size6,Pt.size7,Pt.size8]
 | .row ps => by have:=Pt.ahdRow_size B ps; simp only [Pt.ahd2,Pt.size1]; exact Zeb this
 | .alt ps => by have:=Pt.ahdAlt_size B ps; simp only [Pt.ahd3,Pt.size2]; exact Zeb this
 | .many p | .nt p => by have:=Pt.ahd_size B p; simp only [Pt.ahd4,Pt.ahd5,Pt.size3,Pt.size4]; exact Zeb this
theorem Pt.ahdRow_size (B:Str → Bool):∀ ps:List Pt,(Pt.ahdRow B ps).length ≤ Pt.sizes ps
 | [] => by simp [Pt.ahdRow1]
 | p :: r => by
   have h1:=Pt.ahd_size B p
   have h2:=Pt.ahdRow_size B r
   simp only [Pt.ahdRow2,Pt.sizes2,Zf]
   split
   · lia
   · simp; (clear h2; lia)
theorem Pt.ahdAlt_size (B:Str → Bool):∀ ps:List Pt,(Pt.ahdAlt B ps).length ≤ Pt.sizes ps
 | [] => by simp [Pt.ahdAlt1]
 | p :: r => by
   have h1:=Pt.ahd_size B p
   have h2:=Pt.ahdAlt_size B r
   simp only [Pt.ahdAlt2,Pt.sizes2,Zf]; lia
end
mutual
noncomputable def Pt.ok (P:Str → Prop):Pt → Prop
 | .sign c => isSignC c = true
 | .span a b => isSignC a = true ∧ isSignC b = true ∧ a ≤ b
 | .any => True
 | .rule n => P n
 | .row ps => ps.length < 1000 ∧ Pt.oks P ps
 | .alt ps => ps ≠ [] ∧ ps.length < 1000 ∧ Pt.oks P ps
 | .many p | .nt p => p.ok P
noncomputable def Pt.oks (P:Str → Prop):List Pt → Prop
 | [] => True
 | p :: r => p.ok P ∧ Pt.oks P r
end
theorem Pt.ok1 (P:Str → Prop) (c:Nat):Pt.ok P (Pt.sign c) = (isSignC c = true):=rfl
theorem Pt.ok2 (P:Str → Prop) (a b:Nat):Pt.ok P (Pt.span a b) = (isSignC a = true ∧ isSignC b = true ∧ a ≤ b):=rfl
theorem Pt.ok3 (P:Str → Prop):Pt.ok P Pt.any = True:=rfl
theorem Pt.ok4 (P:Str → Prop) (n:Str):Pt.ok P (Pt.rule n) = P n:=rfl
theorem Pt.ok5 (P:Str → Prop) (ps:List Pt):Pt.ok P (Pt.row ps) = (ps.length < 1000 ∧ Pt.oks P ps):=rfl
theorem Pt.ok6 (P:Str → Prop) (ps:List Pt):Pt.ok P (Pt.alt ps) = (ps ≠ [] ∧ ps.length < 1000 ∧ Pt.oks P ps):=rfl
theorem Pt.ok7 (P:Str → Prop) (p:Pt):Pt.ok P p.many = Pt.ok P p:=rfl
theorem Pt.ok8 (P:Str → Prop) (p:Pt):Pt.ok P p.nt = Pt.ok P p:=rfl
theorem Pt.oks1 (P:Str → Prop):Pt.oks P [] = True:=rfl
theorem Pt.oks2 (P:Str → Prop) (p:Pt) (r:List Pt):Pt.oks P (p :: r) = (Pt.ok P p ∧ Pt.oks P r):=rfl
noncomputable def Lead (rs:List (Str × Pt)) (B:Str → Bool) (x y:Str):Prop:=∃ r ∈ rs,r.1 = x ∧ y ∈ r.2.ahd B
inductive Rch (rs:List (Str × Pt)) (B:Str → Bool) (x:Str):Str → Prop where
 | one {y:Str}:Lead rs B x y → Rch rs B x y
 | more {y z:Str}:Rch rs B x y → Lead rs B y z → Rch rs B x z
theorem name_at {rs:List (Str × Pt)} (hn:(rs.map (·.1)).Nodup) {i j:Nat} {r r':Str × Pt} (h:rs[i]? = some r) (h':rs[j]? = some r') (e:r.1 = r'.1):i = j:=by
 obtain ⟨h1,rfl⟩:=Zb.mp h
 obtain ⟨h2,rfl⟩:=Zb.mp h'
 rcases Nat.lt_trichotomy i j with g | g | g
 · have:=List.pairwise_iff_getElem.mp hn i j (by simpa using h1) (by simpa using h2) g
   simp [e] at this
 · exact g
 · have:=List.pairwise_iff_getElem.mp hn j i (by simpa using h2) (by simpa using h1) g
   simp [e] at this
end
section
section
variable {P:Str → Prop} {s n c k c' k' l:Nat} {p:Pt} {ps:List Pt}
end
inductive AllP (C:Pt → Prop):List Pt → Prop where
 | nil:AllP C []
 | cons {p:Pt} {ps:List Pt} (h:C p) (t:AllP C ps):AllP C (p :: ps)
section
variable {P:Str → Prop} {n s:Nat} {p a b:Pt}
end
end
section
section
variable {p:Pt} {B:Str → Bool}
noncomputable def ahdK (B:Str → Bool) (row:Bool):List Pt → List Str
 | [] => []
 | p :: r => p.ahd B ++ if row && !p.may B then [] else ahdK B row r
theorem ahdK1 (B:Str → Bool) (row:Bool):ahdK B row [] = []:=rfl
theorem ahdK2 (B:Str → Bool) (row:Bool) (p:Pt) (r:List Pt):ahdK B row (p :: r) = Pt.ahd B p ++ if (row && !Pt.may B p) = true then [] else ahdK B row r:=rfl
theorem ahdK_row:∀ ps:List Pt,Pt.ahdRow B ps = ahdK B true ps:=by
 intro xx
 induction xx with
 | nil =>
   simp [Pt.ahdRow1,ahdK1]
 | cons p r ih =>
   rw [Pt.ahdRow2,ahdK2,ih]
   cases p.may B <;> simp
theorem ahdK_alt:∀ ps:List Pt,Pt.ahdAlt B ps = ahdK B false ps:=by
 intro xx
 induction xx with
 | nil =>
   simp [Pt.ahdAlt1,ahdK1]
 | cons p r ih =>
   rw [Pt.ahdAlt2,ahdK2,ih]; simp
theorem Pt.ahd_kids (h:p.word ≠ "rule"):p.ahd B = ahdK B (p.word == "row") p.kids:=by
 have e1:((Str.ofString "row" : Str) == "row") = true:=by decide +kernel
 have e2:((Str.ofString "or" : Str) == "row") = false:=by decide +kernel
 have e3:((Str.ofString "many" : Str) == "row") = false:=by decide +kernel
 have e4:((Str.ofString "not" : Str) == "row") = false:=by decide +kernel
 cases p with
 | rule n => exact absurd rfl h
 | row ps => simp only [Pt.ahd2,Pt.kids1,Pt.word5,e1,ahdK_row]
 | alt ps => simp only [Pt.ahd3,Pt.kids2,Pt.word6,e2,ahdK_alt]
 | many q => simp only [Pt.ahd4,Pt.kids3,Pt.word7,e3,ahdK1,ahdK2]; simp
 | nt q => simp only [Pt.ahd5,Pt.kids4,Pt.word8,e4,ahdK1,ahdK2]; simp
 | sign z1 => simp only [Pt.ahd6,Pt.kids5,ahdK1]
 | span z1 z2 => simp only [Pt.ahd7,Pt.kids6,ahdK1]
 | any => simp only [Pt.ahd8,Pt.kids7,ahdK1]
end
theorem allB_map {α:Type} (f:α → Bool) (l:List α):(l.map fun k => V.bool (f k)) = (l.map f).map V.bool:=List.map_map.symm
theorem Pt.size_mem {p q:Pt} (h:q ∈ p.kids):q.size < p.size:=by
 have h1:=Pt.kids_size p
 have:∀ ps:List Pt,q ∈ ps → q.size ≤ Pt.sizes ps:=by
   intro ps
   induction ps with
   | nil => intro h; cases h
   | cons a r ih =>
     intro h
     rw [Pt.sizes2]
     rcases Zg.mp h with rfl | h
     · (clear h1 ih; exact Zy q.size (sizes r))
     · have:=ih h; (clear ih h1; lia)
 have:=this _ h
 lia
noncomputable def hasK (kvs:List (Str × V)) (x:Str):Bool:=kvs.any fun kv => decide (kv.1 = x)
theorem hasK_met {bs:List Str}:hasK (metKV bs) = inB bs:=by
 funext x; exact metKV_any
section
variable {σ:Hp} {a b:Nat} {o o':MObj} {junk:Hp}
theorem eq_to {α:Type} {P:α → Prop} {a b:α} (e:a = b) (h:P b):P a:=e ▸ h
theorem get_up (h:σ[a]? = some o):(σ ++ junk)[a]? = some o:=by
 rw [Zbb (Zb.mp h).1]; exact h
theorem get_lt (h:σ[a]? = some o):a < σ.length:=(Zb.mp h).1
theorem get_set (h:σ[a]? = some o):(σ.set a o')[a]? = some o':=by
 rw [Zw (get_lt h)]
theorem get_set_ne (hn:b ≠ a):(σ.set b o')[a]? = σ[a]?:=Zi hn
theorem get_new:(σ ++ [o])[σ.length]? = some o:=by simp
theorem set_up (h:σ.length ≤ a):∃ jk,(σ ++ junk).set a o = σ ++ jk:=⟨_,List.set_append_right _ _ h⟩
end
end
section
mutual
theorem Pt.ahd_asks {B:Str → Bool} {n:Str}:∀ p:Pt,n ∈ p.ahd B → p.Asks n
 | .sign _,h | .span _ _,h | .any,h => by simp [Pt.ahd6,Pt.ahd7,Pt.ahd8] at h
 | .rule m,h => by simp only [Pt.ahd1,Zj] at h; subst h; exact .here
 | .row ps,h => by
   simp only [Pt.ahd2] at h
   obtain ⟨q,hq,ha⟩:=Pt.ahdRow_asks ps h
   exact .deep (p:=.row ps) hq ha
 | .alt ps,h => by
   simp only [Pt.ahd3] at h
   obtain ⟨q,hq,ha⟩:=Pt.ahdAlt_asks ps h
   exact .deep (p:=.alt ps) hq ha
 | .many p,h => by simp only [Pt.ahd4] at h; exact .deep (p:=.many p) (Zj.mpr rfl) (Pt.ahd_asks p h)
 | .nt p,h => by simp only [Pt.ahd5] at h; exact .deep (p:=.nt p) (Zj.mpr rfl) (Pt.ahd_asks p h)
theorem Pt.ahdRow_asks {B:Str → Bool} {n:Str}:∀ ps:List Pt,n ∈ Pt.ahdRow B ps → ∃ q ∈ ps,q.Asks n
 | [],h => by simp [Pt.ahdRow1] at h
 | p :: r,h => by
   simp only [Pt.ahdRow2,Zm] at h
   rcases h with h | h
   · exact ⟨p,by simp,Pt.ahd_asks p h⟩
   · split at h
     · obtain ⟨q,hq,ha⟩:=Pt.ahdRow_asks r h
       exact ⟨q,Zd _ hq,ha⟩
     · cases h
theorem Pt.ahdAlt_asks {B:Str → Bool} {n:Str}:∀ ps:List Pt,n ∈ Pt.ahdAlt B ps → ∃ q ∈ ps,q.Asks n
 | [],h => by simp [Pt.ahdAlt1] at h
 | p :: r,h => by
   simp only [Pt.ahdAlt2,Zm] at h
   rcases h with h | h
   · exact ⟨p,by simp,Pt.ahd_asks p h⟩
   · obtain ⟨q,hq,ha⟩:=Pt.ahdAlt_asks r h
     exact ⟨q,Zd _ hq,ha⟩
end
noncomputable def getKV (kvs:List (Str × V)) (x:Str):Option V:=(kvs.find? fun kv => decide (kv.1 = x)).map (·.2)
theorem getKV_lookup:∀ (kvs:List (Str × V)) (x:Str),getKV kvs x = kvs.lookup x
 | [],z1 => rfl
 | (k,v) :: r,x => by
   unfold getKV
   rw [List.find?_cons,List.lookup_cons]
   by_cases e:k = x
   · subst e; simp
   · have e2:¬ x = k:=fun q => e q.symm
     simp only [e,decide_false,Zmc.mpr e2]
     exact getKV_lookup r x
theorem getKV_set (kvs:List (Str × V)) (k x:Str) (v:V):getKV (setKV kvs k v) x = if x = k then some v else getKV kvs x:=by
 rw [getKV_lookup,getKV_lookup,setKV_lookup]
noncomputable def tabKV (rs:List (Str × Pt)):List (Str × V):=rs.map fun r => (r.1,r.2.v)
theorem tabKV_any {rs:List (Str × Pt)} {n:Str}:((tabKV rs).any fun kv => decide (kv.1 = n)) = decide (n ∈ rs.map (·.1)):=by
 rw [Bool.eq_iff_iff]; simp [tabKV]
theorem tabKV_set {rs:List (Str × Pt)} {r:Str × Pt} (h:r.1 ∉ rs.map (·.1)):setKV (tabKV rs) r.1 r.2.v = tabKV (rs ++ [r]):=by
 unfold setKV; rw [tabKV_any,if_neg (by simpa using h)]; simp [tabKV]
theorem tabKV_get {rs:List (Str × Pt)} (hn:(rs.map (·.1)).Nodup) {r:Str × Pt} (hr:r ∈ rs):getKV (tabKV rs) r.1 = some r.2.v:=by
 induction rs with
 | nil => cases hr
 | cons a t ih =>
   rw [List.map_cons,Zxc] at hn
   unfold getKV tabKV
   rw [List.map_cons,List.find?_cons]
   rcases Zg.mp hr with rfl | hr
   · simp
   · have:¬ a.1 = r.1:=fun e => hn.1 (e ▸ Zsb.mpr ⟨r,hr,rfl⟩)
     simp only [this,decide_false]
     exact ih hn.2 hr
noncomputable def LeadsAt (rs:List (Str × Pt)) (B:Str → Bool) (kl:List (Str × V)) (lo:Nat) (σ:Hp):Prop:=∀ r ∈ rs,∃ j,lo < j ∧ getKV kl r.1 = some (.ref j) ∧ σ[j]? = some (.list ((r.2.ahd B).map V.str))
theorem LeadsAt.up {rs:List (Str × Pt)} {B:Str → Bool} {kl:List (Str × V)} {lo:Nat} {σ junk:Hp} (h:LeadsAt rs B kl lo σ):LeadsAt rs B kl lo (σ ++ junk):=fun r hr => by
 obtain ⟨j,h0,h1,h2⟩:=h r hr
 exact ⟨j,h0,h1,get_up h2⟩
inductive GrAt (rs:List (Str × Pt)) (bs:List Str) (g:Nat) (σ:Hp):Prop where
 | mk (a b c e:Nat) (kl:List (Str × V)) (h0:g < a) (h1:a < b) (h2:b < c) (h3:c < e) (h4:σ[g]? = some (.inst "Grammar" [("pairs",.ref a),("table",.ref b),("bare",.ref c),("leads",.ref e)])) (h5:σ[a]? = some (.list (rs.map ruleV))) (h6:σ[b]? = some (.sdict (tabKV rs))) (h7:σ[c]? = some (.sdict (metKV bs))) (h8:σ[e]? = some (.sdict kl)) (h9:LeadsAt rs (inB bs) kl g σ):GrAt rs bs g σ
theorem GrAt.up {rs:List (Str × Pt)} {bs:List Str} {g:Nat} {σ junk:Hp} (h:GrAt rs bs g σ):GrAt rs bs g (σ ++ junk):=by
 obtain ⟨a,b,c,e,kl,h1,h2,h3,h4,h5,h6,h7,h8,h9,h10⟩:=h
 exact ⟨a,b,c,e,kl,h1,h2,h3,h4,get_up h5,get_up h6,get_up h7,get_up h8,get_up h9,h10.up⟩
structure Seek (rs:List (Str × Pt)) (B:Str → Bool) (x:Str) (ms ws:List Str):Prop where
 nodup:ms.Nodup
 mr:∀ y ∈ ms,Rch rs B x y
 wr:∀ y ∈ ws,Rch rs B x y
 x0:∀ y,Lead rs B x y → y ∈ ms ∨ y ∈ ws
 cl:∀ y ∈ ms,∀ z,Lead rs B y z → z ∈ ms ∨ z ∈ ws
theorem Seek.end {rs:List (Str × Pt)} {B:Str → Bool} {x:Str} {ms:List Str} (h:Seek rs B x ms []):decide (x ∈ ms) = true ↔ Rch rs B x x:=by
 rw [decide_eq_true_iff]
 refine ⟨h.mr x,fun hr => ?_⟩
 have:∀ y,Rch rs B x y → y ∈ ms:=by
   intro y hy
   induction hy with
   | one h1 => exact (h.x0 _ h1).resolve_right (by simp)
   | more z1 h1 ih => exact (h.cl _ ih _ h1).resolve_right (by simp)
 exact this x hr
theorem Seek.old {rs:List (Str × Pt)} {B:Str → Bool} {x y:Str} {ms ws:List Str} (h:Seek rs B x ms (ws ++ [y])) (hy:y ∈ ms):Seek rs B x ms ws where
 nodup:=h.nodup
 mr:=h.mr
 wr:=fun z hz => h.wr z (Zxb _ hz)
 x0:=fun z hz => by
   rcases h.x0 z hz with g | g
   · exact .inl g
   · rcases Zm.mp g with g | g
     · exact .inr g
     · cases Zj.mp g; exact .inl hy
 cl:=fun a ha z hz => by
   rcases h.cl a ha z hz with g | g
   · exact .inl g
   · rcases Zm.mp g with g | g
     · exact .inr g
     · cases Zj.mp g; exact .inl hy
theorem Lead.uniq {rs:List (Str × Pt)} {B:Str → Bool} (hn:(rs.map (·.1)).Nodup) {r:Str × Pt} (hr:r ∈ rs) {z:Str} (h:Lead rs B r.1 z):z ∈ r.2.ahd B:=by
 obtain ⟨r',hr',e,hz⟩:=h
 obtain ⟨i,hi⟩:=List.mem_iff_getElem?.mp hr
 obtain ⟨j,hj⟩:=List.mem_iff_getElem?.mp hr'
 have:=name_at hn hi hj e.symm
 subst this
 rw [hi] at hj; cases hj; exact hz
theorem Seek.new {rs:List (Str × Pt)} {B:Str → Bool} {x:Str} {ms ws:List Str} {r:Str × Pt} (hn:(rs.map (·.1)).Nodup) (hr:r ∈ rs) (h:Seek rs B x ms (ws ++ [r.1])) (hy:r.1 ∉ ms):Seek rs B x (ms ++ [r.1]) (ws ++ r.2.ahd B) where
 nodup:=by
   rw [List.nodup_append]
   exact ⟨h.nodup,by simp,fun a ha b hb => by cases Zj.mp hb; exact fun e => hy (e ▸ ha)⟩
 mr:=fun z hz => by
   rcases Zm.mp hz with g | g
   · exact h.mr z g
   · cases Zj.mp g; exact h.wr _ (by simp)
 wr:=fun z hz => by
   rcases Zm.mp hz with g | g
   · exact h.wr z (Zxb _ g)
   · exact .more (h.wr r.1 (by simp)) ⟨r,hr,rfl,g⟩
 x0:=fun z hz => by
   rcases h.x0 z hz with g | g
   · exact .inl (Zxb _ g)
   · rcases Zm.mp g with g | g
     · exact .inr (Zxb _ g)
     · exact .inl (Zyb _ g)
 cl:=fun a ha z hz => by
   rcases Zm.mp ha with g | g
   · rcases h.cl a g z hz with g | g
     · exact .inl (Zxb _ g)
     · rcases Zm.mp g with g | g
       · exact .inr (Zxb _ g)
       · exact .inl (Zyb _ g)
   · cases Zj.mp g
     exact .inr (Zyb _ (Lead.uniq hn hr hz))
theorem Rch.last {rs:List (Str × Pt)} {B:Str → Bool} {x y:Str} (h:Rch rs B x y):∃ r ∈ rs,y ∈ r.2.ahd B:=by
 cases h with
 | one h => obtain ⟨r,h1,zz,h2⟩:=h; exact ⟨r,h1,h2⟩
 | more z1 h => obtain ⟨r,h1,zz,h2⟩:=h; exact ⟨r,h1,h2⟩
theorem GoodRules.lead {rs:List (Str × Pt)} (hg:GoodRules rs) {B:Str → Bool} {x y:Str} (h:Rch rs B x y):∃ r ∈ rs,r.1 = y:=by
 obtain ⟨r,h1,h2⟩:=h.last
 have:=(hg.all r h1).asks y (Pt.ahd_asks _ h2)
 obtain ⟨r',h3,h4⟩:=Zsb.mp this
 exact ⟨r',h3,h4⟩
theorem len_sub {α:Type} [BEq α] [LawfulBEq α] {ms ns:List α} (h:ms.Nodup) (hs:∀ x ∈ ms,x ∈ ns):ms.length ≤ ns.length:=by
 induction ms generalizing ns with
 | nil => simp
 | cons a r ih =>
   rw [Zxc] at h
   have ha:=hs a (by simp)
   have:=ih (ns:=ns.erase a) h.2 fun x hx => by
     have hne:x ≠ a:=fun e => h.1 (e ▸ hx)
     exact (List.mem_erase_of_ne hne).mpr (hs x (Zd _ hx))
   rw [List.length_erase_of_mem ha] at this
   have:=List.length_pos_of_mem ha
   simp only [List.length_cons]
   (clear ih; lia)
end
section
structure Mk (σ:Hp) (l:Nat) (fs:List (Str × V)) (ρ':Loc) (σ':Hp):Prop where
 self:ρ' "self" = some (.ref σ.length)
 ru:ρ' "rules" = some (.ref l)
 pre:∃ junk,σ' = σ ++ junk
 obj:σ'[σ.length]? = some (.inst "Grammar" fs)
section
variable {σ σ':Hp} {l:Nat} {fs fs':List (Str × V)} {ρ':Loc} {o o':MObj} {a:Nat}
theorem Mk.up {jk:Hp} (h:Mk σ l fs ρ' σ'):Mk σ l fs ρ' (σ' ++ jk):=by
 obtain ⟨h1,h2,⟨junk,rfl⟩,h4⟩:=h
 exact ⟨h1,h2,⟨junk ++ jk,by rw [Ze]⟩,get_up h4⟩
theorem Mk.put (h:Mk σ l fs ρ' σ') (ha:σ.length < a):Mk σ l fs ρ' (σ'.set a o):=by
 obtain ⟨h1,h2,⟨junk,rfl⟩,h4⟩:=h
 exact ⟨h1,h2,set_up (by (clear h4; exact Zq ha)),by rw [get_set_ne (by (clear h4; exact Zoc ha))]; exact h4⟩
theorem Mk.field (h:Mk σ l fs ρ' σ'):Mk σ l fs' ρ' ((σ' ++ [o]).set σ.length (.inst "Grammar" fs')) ∧ ((σ' ++ [o]).set σ.length (.inst "Grammar" fs'))[σ'.length]? = some o ∧ σ.length < σ'.length ∧ ∀ a o',a ≠ σ.length → σ'[a]? = some o' → ((σ' ++ [o]).set σ.length (.inst "Grammar" fs'))[a]? = some o':=by
 obtain ⟨h1,h2,⟨junk,rfl⟩,h4⟩:=h
 have hlt:=get_lt h4
 refine ⟨⟨h1,h2,?_,get_set (get_up h4)⟩,?_,hlt,fun a o' hn e => ?_⟩
 · rw [Ze]; exact set_up (Zl _)
 · rw [get_set_ne (by (clear h4; exact Znc hlt))]; exact get_new
 · rw [get_set_ne (Ne.symm hn)]; exact get_up e
theorem Mk.rules {rs:List (Str × Pt)} (h:Mk σ l fs ρ' σ') (hl:σ[l]? = some (.list (rs.map ruleV))):σ'[l]? = some (.list (rs.map ruleV)):=by
 obtain ⟨h1,h2,⟨junk,rfl⟩,h4⟩:=h
 exact get_up hl
end
structure Grow (rs:List (Str × Pt)) (bs:List Str):Prop where
 nodup:bs.Nodup
 sub:∀ x ∈ bs,x ∈ rs.map (·.1)
 least:∀ S:Str → Bool,(∀ r ∈ rs,r.2.may S = true → S r.1 = true) → ∀ x ∈ bs,S x = true
theorem Grow.nil (rs:List (Str × Pt)):Grow rs []:=⟨by simp,by simp,fun zz zz zz h => by cases h⟩
theorem Grow.len {rs:List (Str × Pt)} {bs:List Str} (h:Grow rs bs):bs.length ≤ rs.length:=by
 simpa using len_sub h.nodup h.sub
theorem Grow.add {rs:List (Str × Pt)} {bs:List Str} {r:Str × Pt} (h:Grow rs bs) (hr:r ∈ rs) (hn:r.1 ∉ bs) (hm:r.2.may (inB bs) = true):Grow rs (bs ++ [r.1]) where
 nodup:=by
   rw [List.nodup_append]
   exact ⟨h.nodup,by simp,fun a ha b hb => by cases Zj.mp hb; exact fun e => hn (e ▸ ha)⟩
 sub:=fun x hx => by
   rcases Zm.mp hx with g | g
   · exact h.sub x g
   · cases Zj.mp g; exact Zsb.mpr ⟨r,hr,rfl⟩
 least:=fun S hS x hx => by
   rcases Zm.mp hx with g | g
   · exact h.least S hS x g
   · cases Zj.mp g
     exact hS r hr (Pt.may_mono (fun y hy => h.least S hS y (inB_iff.mp hy)) _ hm)
theorem Grow.bare {rs:List (Str × Pt)} {bs:List Str} (h:Grow rs bs) (hc:∀ r ∈ rs,r.2.may (inB bs) = true → r.1 ∈ bs):Bare rs bs:=⟨h.sub,hc,h.least⟩
theorem LeadsAt.snoc {rs:List (Str × Pt)} {B:Str → Bool} {kl:List (Str × V)} {σ σ':Hp} {r:Str × Pt} {j lo:Nat} (h:LeadsAt rs B kl lo σ) (hn:r.1 ∉ rs.map (·.1)) (hk:∀ (a:Nat) (vs:List V),σ[a]? = some (.list vs) → σ'[a]? = some (.list vs)) (hlo:lo < j) (hj:σ'[j]? = some (.list ((r.2.ahd B).map V.str))):LeadsAt (rs ++ [r]) B (setKV kl r.1 (.ref j)) lo σ':=fun r' hr' => by
 rcases Zm.mp hr' with g | g
 · obtain ⟨i,h0,h1,h2⟩:=h r' g
   refine ⟨i,h0,?_,hk _ _ h2⟩
   rw [getKV_set,if_neg (fun e:r'.1 = r.1 => hn (e ▸ Zsb.mpr ⟨r',g,rfl⟩))]
   exact h1
 · cases Zj.mp g
   exact ⟨j,hlo,by rw [getKV_set,if_pos rfl],hj⟩
end
section
open PySem PySem.Calls PyProof.Rows PySem.SeqAt PySem.Builtin PySem.Builtin.Str
noncomputable def S (l:List Nat):Str:=⟨l.toArray⟩
end
section
mutual
noncomputable def Pt.data:Pt → PyData
 | .sign c => .tuple [.str "sign",.str ⟨#[c]⟩]
 | .span a b => .tuple [.str "span",.str ⟨#[a]⟩,.str ⟨#[b]⟩]
 | .any => .tuple [.str "any"]
 | .rule n => .tuple [.str "rule",.str n]
 | .row ps => .tuple [.str "row",.tuple (Pt.datas ps)]
 | .alt ps => .tuple [.str "or",.tuple (Pt.datas ps)]
 | .many p => .tuple [.str "many",p.data]
 | .nt p => .tuple [.str "not",p.data]
noncomputable def Pt.datas:List Pt → List PyData
 | [] => []
 | p :: r => p.data :: Pt.datas r
end
noncomputable def sOk (n:Str):Prop:=PyData.strOk n = true
theorem sOk_sign {c:Nat} (h:isSignC c = true):PyData.strOk ⟨#[c]⟩ = true:=by
 have:c < 0x110000:=by
   simp only [isSignC,Bool.or_eq_true,Zob,beq_iff_eq,decide_eq_true_eq] at h
   rcases h with (h | h) | ⟨⟨zz,h⟩,zz⟩ <;> lia
 simp [PyData.strOk,this]
theorem sOk_name {n:Str} (h:isName n = true):sOk n:=by
 simp only [isName,Zob,List.all_eq_true] at h
 unfold sOk PyData.strOk
 rw [Array.all_eq_true_iff_forall_mem]
 intro c hc
 have:=h.2 c (by simpa using hc)
 simp only [isLetter,Zob,decide_eq_true_eq] at this
 simp; (clear hc h; lia)
theorem Pt.oks_of {P:Str → Prop}:∀ ps:List Pt,(∀ q ∈ ps,q.ok P) → Pt.oks P ps
 | [],z1 => by simp [Pt.oks1]
 | p :: r,h => by rw [Pt.oks2]; exact ⟨h p (by simp),Pt.oks_of r fun q hq => h q (Zd _ hq)⟩
theorem Pt.ok_of {P:Str → Prop}:∀ (n:Nat) (p:Pt),p.deep ≤ n → p.good = true → Pt.All Pt.few p → (∀ m,p.Asks m → P m) → p.ok P:=by
 intro n
 induction n with
 | zero => intro p hn; exact absurd (Pt.deep_pos p) (by lia)
 | succ n ih =>
   intro p hn hg hf ha
   obtain ⟨hfk,hfc⟩:=hf
   have kids:(∀ q ∈ p.kids,q.good = true) → ∀ q ∈ p.kids,q.ok P:=fun hgk q hq => ih q (by have:=Pt.kids_deep hq; (clear ih; lia)) (hgk q hq) (hfc q hq) fun m hm => ha m (.deep hq hm)
   cases p with
   | sign c => simpa only [Pt.ok1,Pt.ok2,Pt.ok3,Pt.ok4,Pt.ok5,Pt.ok6,Pt.ok7,Pt.ok8,Pt.good1,Pt.good2,Pt.good3,Pt.good4,Pt.good5,Pt.good6,Pt.good7,Pt.good8] using hg
   | span a b =>
     simp only [Pt.good2,Zob,decide_eq_true_eq] at hg
     rw [Pt.ok2]; exact ⟨hg.1.1,hg.1.2,hg.2⟩
   | any => simp [Pt.ok3]
   | rule m => rw [Pt.ok4]; exact ha m .here
   | row ps => rw [Pt.ok5]; rw [Pt.good5] at hg; exact ⟨hfk,Pt.oks_of ps (kids fun q hq => Pt.goods_mem hg hq)⟩
   | alt ps =>
     rw [Pt.good6,Zob] at hg
     rw [Pt.ok6]; exact ⟨by simpa using hg.1,hfk,Pt.oks_of ps (kids fun q hq => Pt.goods_mem hg.2 hq)⟩
   | many q => rw [Pt.ok7]; rw [Pt.good7] at hg; exact kids (fun q' hq => by cases Zj.mp hq; exact hg) q (Zj.mpr rfl)
   | nt q => rw [Pt.ok8]; rw [Pt.good8] at hg; exact kids (fun q' hq => by cases Zj.mp hq; exact hg) q (Zj.mpr rfl)
theorem GoodRules.sok {rs:List (Str × Pt)} (hg:GoodRules rs) {n:Str} (h:n ∈ rs.map (·.1)):sOk n:=by
 obtain ⟨r,hr,rfl⟩:=Zsb.mp h
 exact sOk_name (hg.all r hr).name
theorem GoodRules.ok {rs:List (Str × Pt)} (hg:GoodRules rs) {r:Str × Pt} (h:r ∈ rs):r.2.ok sOk :=
 Pt.ok_of _ r.2 (Zl _) (hg.all r h).good (hg.all r h).few fun m hm => hg.sok ((hg.all r h).asks m hm)
theorem Pt.data_deep (σ:Hp) (p:Pt):p.ok sOk → Deep σ p.data p.v :=
 Pt.rec (motive_1:=fun p => p.ok sOk → Deep σ p.data p.v) (motive_2:=fun ps => Pt.oks sOk ps → Deeps σ (Pt.datas ps) (Pt.vs ps))
   (fun c h => .tup (.cons (.str (by decide +kernel)) <| .cons (.str (sOk_sign h)) .nil)) (fun a b h => .tup (.cons (.str (by decide +kernel)) <| .cons (.str (sOk_sign h.1)) <| .cons (.str (sOk_sign h.2.1)) .nil)) (fun zz => .tup (.cons (.str (by decide +kernel)) .nil)) (fun n h => .tup (.cons (.str (by decide +kernel)) <| .cons (.str h) .nil))
   (fun ps ih h => .tup (.cons (.str (by decide +kernel)) <| .cons (.tup (ih h.2)) .nil)) (fun ps ih h => .tup (.cons (.str (by decide +kernel)) <| .cons (.tup (ih h.2.2)) .nil)) (fun p ih h => .tup (.cons (.str (by decide +kernel)) <| .cons (ih h) .nil)) (fun p ih h => .tup (.cons (.str (by decide +kernel)) <| .cons (ih h) .nil))
   (fun zz => .nil) (fun p ps i1 i2 h => .cons (i1 h.1) (i2 h.2)) p
mutual
theorem Pt.data_depth:∀ p:Pt,p.data.depth ≤ 2 * p.deep
 | .sign _ | .span _ _ | .any | .rule _ => by simp [Pt.data,Pt.deep5,Pt.deep6,Pt.deep7,Pt.deep8,PyData.depth,PyData.depthAll]
 | .row ps | .alt ps => by
   have:=Pt.datas_depth ps
   simp [Pt.data,Pt.deep1,Pt.deep2,PyData.depth,PyData.depthAll]; lia
 | .many p | .nt p => by
   have:=Pt.data_depth p
   simp [Pt.data,Pt.deep3,Pt.deep4,PyData.depth,PyData.depthAll]; lia
theorem Pt.datas_depth:∀ ps:List Pt,PyData.depthAll (Pt.datas ps) ≤ 2 * Pt.deeps ps
 | [] => by simp [Pt.datas,PyData.depthAll]
 | p :: r => by
   have h1:=Pt.data_depth p
   have h2:=Pt.datas_depth r
   simp [Pt.datas,Pt.deeps2,PyData.depthAll]; lia
end
noncomputable def ruleD (r:Str × Pt):PyData:=.tuple [.str r.1,r.2.data]
theorem rules_deep (σ:Hp) (rs:List (Str × Pt)):(∀ r ∈ rs,sOk r.1 ∧ r.2.ok sOk) → Deeps σ (rs.map ruleD) (rs.map ruleV) :=
 rs.rec (fun zz => .nil) fun r t ih h => .cons (.tup (.cons (.str (h r (.head _)).1) <| .cons (Pt.data_deep σ r.2 (h r (.head _)).2) .nil)) (ih fun x hx => h x (.tail _ hx))
theorem rules_depth:∀ (rs:List (Str × Pt)),(∀ r ∈ rs,r.2.deep ≤ 12) → PyData.depthAll (rs.map ruleD) ≤ 25
 | [],z1 => by simp [PyData.depthAll]
 | r :: t,h => by
   have h1:=Pt.data_depth r.2
   have h2:=rules_depth t fun x hx => h x (Zd _ hx)
   have h3:=h r (by simp)
   simp [PyData.depthAll,PyData.depth,ruleD]; (clear h; lia)
theorem strs_deep (σ:Hp) (ns:List Str):(∀ n ∈ ns,sOk n) → Deeps σ (ns.map PyData.str) (ns.map V.str):=ns.rec (fun zz => .nil) fun r t ih h => .cons (.str (h r (.head _))) (ih fun x hx => h x (.tail _ hx))
theorem strs_depth:∀ ns:List Str,PyData.depthAll (ns.map PyData.str) ≤ 1
 | [] => by simp [PyData.depthAll]
 | r :: t => by
   have h2:=strs_depth t
   simp [PyData.depthAll,PyData.depth]; lia
theorem strs_any {x:Str}:∀ ns:List Str,((ns.map PyData.str).any fun y => PyData.eqv y (.str x)) = decide (x ∈ ns)
 | [] => by simp
 | r :: t => by
   have h2:=strs_any (x:=x) t
   rw [List.map_cons,List.any_cons,h2]
   have:PyData.eqv (.str r) (.str x) = decide (x = r):=by
     simp only [PyData.eqv]
     by_cases e:r = x
     · subst e; simp
     · have e2:¬ x = r:=fun q => e q.symm
       simp [e,e2]
   rw [this]
   by_cases e:x = r <;> simp [e]
theorem in_strs {x:Str} {l:Nat} {ns:List Str} {σ:Hp} (hx:sOk x) (hns:∀ n ∈ ns,sOk n) (hl:σ[l]? = some (.list (ns.map V.str))):InR σ (.str x) (.ref l) (decide (x ∈ ns)) :=
 strs_any (ns:=ns) (x:=x) ▸ .list _ _ _ _ (.str x) hl (strs_deep σ ns hns) (.str hx) (Za (strs_depth ns) (by decide))
end
section
theorem cut_eq {c:Nat} {A B:List Nat} (hA:∀ a r,A = a :: r → a = c) (hB:∀ a r,B = a :: r → a = c):∀ {w w':List Nat},c ∉ w → c ∉ w' → w ++ A = w' ++ B → w = w' ∧ A = B:=by
 intro w
 induction w with
 | nil =>
   intro w' z1 h' e
   cases w' with
   | nil => exact ⟨rfl,e⟩
   | cons a r => exact absurd (.head _) ((hA a _ e) ▸ h')
 | cons a r ih =>
   intro w' h h' e
   cases w' with
   | nil => exact absurd (.head _) ((hB a _ e.symm) ▸ h)
   | cons b r' =>
     have e1:=(List.cons.inj e).1
     have e2:=ih (fun q => h (.tail _ q)) (fun q => h' (.tail _ q)) (List.cons.inj e).2
     exact ⟨by rw [e1,e2.1],e2.2⟩
noncomputable def tls (c:Nat) (ws:List Str):List Nat:=ws.flatMap fun w => c :: w.cps.toList
theorem tls_hd {c:Nat} {ws:List Str}:∀ a r,tls c ws = a :: r → a = c:=by
 cases ws with
 | nil => intro a r e; cases e
 | cons w ws => intro a r e; exact ((List.cons.inj e).1).symm
theorem str_ext {x y:Str} (h:x.cps.toList = y.cps.toList):x = y:=by
 obtain ⟨a⟩:=x
 obtain ⟨b⟩:=y
 exact congrArg Str.mk (Array.toList_inj.mp h)
theorem tls_inj {c:Nat}:∀ {ws us:List Str},(∀ w ∈ ws,c ∉ w.cps.toList) → (∀ w ∈ us,c ∉ w.cps.toList) → tls c ws = tls c us → ws = us:=by
 intro ws
 induction ws with
 | nil =>
   intro us z1 z2 e
   cases us with
   | nil => rfl
   | cons u us => cases e
 | cons w ws ih =>
   intro us h h' e
   cases us with
   | nil => cases e
   | cons u us =>
     have e1:=cut_eq (A:=tls c ws) (B:=tls c us) tls_hd tls_hd (h w (.head _)) (h' u (.head _)) (List.cons.inj e).2
     rw [str_ext e1.1,ih (fun w hw => h w (.tail _ hw)) (fun w hw => h' w (.tail _ hw)) e1.2]
theorem join_cps {c:Nat}:∀ (w:Str) (ws:List Str),(Str.join ⟨#[c]⟩ (w :: ws)).cps.toList = w.cps.toList ++ tls c ws:=by
 intro w ws
 induction ws generalizing w with
 | nil => exact (Zlc _).symm
 | cons u ws ih =>
   show ((w ++ (⟨#[c]⟩:Str)) ++ Str.join ⟨#[c]⟩ (u :: ws)).cps.toList = _
   have e:∀ a b:Str,(a ++ b).cps.toList = a.cps.toList ++ b.cps.toList:=fun a b => Array.toList_append
   rw [e,e,ih u,Ze]
   rfl
theorem txt_join (sep:Str) (l:List Str):Txt.join sep l = Str.join sep l:=eq_of_beq (join_plain_closes sep l)
theorem split_join {c:Nat} {ws:List Str} (h0:ws ≠ []) (h:∀ w ∈ ws,c ∉ w.cps.toList):Txt.split (Txt.join ⟨#[c]⟩ ws) ⟨#[c]⟩ = ws:=by
 have e:=StrLaws.join_split (Txt.join ⟨#[c]⟩ ws) ⟨#[c]⟩
 have f:=StrLaws.split_free (Txt.join ⟨#[c]⟩ ws) c
 have p:=split_pos (Txt.join ⟨#[c]⟩ ws) ⟨#[c]⟩
 generalize Txt.split (Txt.join ⟨#[c]⟩ ws) ⟨#[c]⟩ = us at e f p
 rw [txt_join] at e
 cases us with
 | nil => exact absurd p (by decide)
 | cons u us =>
   cases ws with
   | nil => exact absurd rfl h0
   | cons w ws =>
     have e:=congrArg (fun x:Str => x.cps.toList) e
     simp only [join_cps] at e
     have e1:=cut_eq (A:=tls c us) (B:=tls c ws) tls_hd tls_hd (f u (.head _)) (h w (.head _)) e
     rw [str_ext e1.1,tls_inj (fun w hw => f w (.tail _ hw)) (fun u hu => h u (.tail _ hu)) e1.2]
theorem join_mem {c a:Nat} {ws:List Str} (h:a ∈ (Txt.join ⟨#[c]⟩ ws).cps.toList):a = c ∨ ∃ w ∈ ws,a ∈ w.cps.toList:=by
 rw [txt_join] at h
 cases ws with
 | nil => exact absurd h (by intro q; cases q)
 | cons w ws =>
   rw [join_cps] at h
   rcases Zm.mp h with h | h
   · exact .inr ⟨w,.head _,h⟩
   · obtain ⟨u,hu,q⟩:=List.mem_flatMap.mp h
     rcases Zg.mp q with q | q
     · exact .inl q
     · exact .inr ⟨u,.tail _ hu,q⟩
theorem join_len {c:Nat} (ws:List Str):(Txt.join ⟨#[c]⟩ ws).length ≤ (ws.map (·.length)).sum + ws.length:=by
 rw [txt_join]
 cases ws with
 | nil => exact Zkb _
 | cons w ws =>
   have h:∀ x:Str,x.length = x.cps.toList.length:=fun x => (Array.length_toList).symm
   rw [h,join_cps,Zf,← h,List.map_cons,List.sum_cons,List.length_cons]
   have k:(tls c ws).length = (ws.map (·.length)).sum + ws.length:=by
     induction ws with
     | nil => rfl
     | cons u ws ih =>
       show ((c :: u.cps.toList) ++ tls c ws).length = _
       rw [Zf,ih,List.length_cons,← h,List.map_cons,List.sum_cons,List.length_cons]; omega
   omega
structure WdOk (w:Str):Prop where
 len:w.length ≤ 100
 asc:∀ c ∈ w.cps.toList,c < 128 ∧ c ≠ 32 ∧ c ≠ 10
structure WsOk (ws:List Str):Prop where
 ne:ws ≠ []
 len:ws.length ≤ 100
 all:∀ w ∈ ws,WdOk w
noncomputable abbrev jn (ws:List Str):Str:=Txt.join ⟨#[32]⟩ ws
theorem sum_le {B:Nat}:∀ {ls:List Nat},(∀ l ∈ ls,l ≤ B) → ls.sum ≤ ls.length * B:=by
 intro ls
 induction ls with
 | nil => intro z1; exact Zkb _
 | cons l ls ih =>
   intro h
   rw [List.sum_cons,List.length_cons,Nat.succ_mul,Nat.add_comm]
   exact Nat.add_le_add (ih fun x hx => h x (.tail _ hx)) (h l (.head _))
theorem WsOk.split {ws:List Str} (h:WsOk ws):Txt.split (jn ws) ⟨#[32]⟩ = ws:=split_join h.ne fun w hw q => ((h.all w hw).asc _ q).2.1 rfl
theorem WsOk.jlen {ws:List Str} (h:WsOk ws):(jn ws).length ≤ 10100:=by
 have e:=join_len (c:=32) ws
 have s:=sum_le (B:=100) (ls:=ws.map (·.length)) fun l hl => by
   obtain ⟨w,hw,rfl⟩:=Zsb.mp hl
   exact (h.all w hw).len
 rw [Zc] at s
 have:=h.len
 have:ws.length * 100 ≤ 100 * 100:=Zvb _ this
 unfold jn
 omega
theorem WsOk.free {ws:List Str} (h:WsOk ws):10 ∉ (jn ws).cps.toList:=fun q => by
 rcases join_mem q with e | ⟨w,hw,e⟩
 · exact absurd e (by decide)
 · exact ((h.all w hw).asc _ e).2.2 rfl
theorem rows_split {wss:List (List Str)} (h0:wss ≠ []) (h:∀ ws ∈ wss,WsOk ws):Txt.split (Txt.join ⟨#[10]⟩ (wss.map jn)) ⟨#[10]⟩ = wss.map jn:=split_join (by cases wss; exact absurd rfl h0; exact List.cons_ne_nil _ _) fun w hw => by
 obtain ⟨ws,hws,rfl⟩:=Zsb.mp hw
 exact (h ws hws).free
theorem rows_len {wss:List (List Str)} (hl:wss.length ≤ 60) (h:∀ ws ∈ wss,WsOk ws):((wss.map jn).map (·.length)).sum + (wss.map jn).length ≤ 1000000:=by
 have s:=sum_le (B:=10100) (ls:=(wss.map jn).map (·.length)) fun l hl => by
   obtain ⟨w,hw,rfl⟩:=Zsb.mp hl
   obtain ⟨ws,hws,rfl⟩:=Zsb.mp hw
   exact (h ws hws).jlen
 rw [Zc,Zc] at s
 rw [Zc]
 have:wss.length * 10100 ≤ 60 * 10100:=Zvb _ hl
 omega
end
section
inductive Kw where
 | any | sign | span | rule | row | alt | many | nt | no
noncomputable def kwS:Kw → Str
 | .any => "any" | .sign => "sign" | .span => "span" | .rule => "rule" | .row => "row" | .alt => "or" | .many => "many" | .nt => "not" | .no => ""
noncomputable def kw (w:Str):Kw:=if w = "any" then .any else if w = "sign" then .sign else if w = "span" then .span else if w = "rule" then .rule else if w = "row" then .row else if w = "or" then .alt else if w = "many" then .many else if w = "not" then .nt else .no
noncomputable def isDig (c:Nat):Bool:=decide (48 ≤ c) && decide (c ≤ 57)
noncomputable def num (w:Str):Option Nat:=if 1 ≤ w.length ∧ w.length ≤ 4 ∧ ¬ (1 < w.length ∧ w.cps.toList.head? = some 48) ∧ w.cps.toList.all isDig = true then some (NumText.digitsVal w.cps.toList) else none
noncomputable def sgn (w:Str):Option Nat:=(num w).bind fun n => if isSignC n then some n else none
structure Tk where
 w:Str
 k:Kw
 n:Option Nat
 g:Option Nat
noncomputable def tk (w:Str):Tk:=⟨w,kw w,num w,sgn w⟩
structure Fr where
 k:Kw
 m:Nat
 ps:List Pt
noncomputable def mkP (k:Kw) (ps:List Pt):Pt:=match k with
 | .row => .row ps
 | .alt => .alt ps
 | .many => .many (ps.headD .any)
 | _ => .nt (ps.headD .any)
inductive Gv where
 | more (W:List Fr)
 | fin (p:Pt)
noncomputable def give:List Fr → Pt → Gv
 | [],p => .fin p
 | f :: r,p => if (f.ps ++ [p]).length = f.m then give r (mkP f.k (f.ps ++ [p])) else .more (⟨f.k,f.m,f.ps ++ [p]⟩ :: r)
noncomputable def push (k:Kw) (m:Nat) (W:List Fr):Gv:=if 0 = m then give W (mkP k []) else .more (⟨k,m,[]⟩ :: W)
noncomputable def nxt (p:List Fr → Option Pt) (r:List Tk):Gv → Option Pt
 | .more W => p W
 | .fin q => if r.isEmpty then some q else none
noncomputable def parse:List Tk → List Fr → Option Pt
 | [],_ => none
 | t :: r,W => match t.k with
   | .any => nxt (parse r) r (give W .any)
   | .sign => (match r with
     | [] => none
     | a :: r => (match a.g with | some c => nxt (parse r) r (give W (.sign c)) | none => none))
   | .span => (match r with
     | [] => none
     | a :: r => (match a.g with
       | some c => (match r with
         | [] => none
         | b :: r => (match b.g with | some e => nxt (parse r) r (give W (.span c e)) | none => none))
       | none => none))
   | .rule => (match r with
     | [] => none
     | a :: r => nxt (parse r) r (give W (.rule a.w)))
   | .row => (match r with
     | [] => none
     | a :: r => (match a.n with | some m => nxt (parse r) r (push .row m W) | none => none))
   | .alt => (match r with
     | [] => none
     | a :: r => (match a.n with | some m => nxt (parse r) r (push .alt m W) | none => none))
   | .many => nxt (parse r) r (push .many 1 W)
   | .nt => nxt (parse r) r (push .nt 1 W)
   | .no => none
noncomputable def rowOut (ws:List Str):Option (Str × Pt):=match ws with
 | a :: b :: c :: r => if (Str.ofString "") ∈ ws ∨ b ≠ "=" then none else (parse ((c :: r).map tk) []).map (a,·)
 | _ => none
noncomputable def Pt.sgB:Pt → Prop
 | .sign c => isSignC c = true
 | .span a b => isSignC a = true ∧ isSignC b = true
 | .any | .rule _ | .row _ | .alt _ | .many _ | .nt _ => True
noncomputable abbrev Pt.Tame (p:Pt):Prop:=Pt.All (fun p => p.sgB ∧ p.few) p
noncomputable def RuOk (r:Str × Pt):Bool:=isName r.1 && (r.2.good && decide (r.2.deep ≤ 12))
structure Shp (r:Str × Pt):Prop where
 asc:∀ c ∈ r.1.cps.toList,c < 128
 len:r.1.length < 1000
 tame:r.2.Tame
 size:r.2.size < 100000
structure Fine7 (rs:List (Str × Pt)):Prop where
 most:rs.length ≤ 40
 nodup:(rs.map (·.1)).Nodup
 all:∀ r ∈ rs,RuOk r = true
end
section
section
variable {t a b:Tk} {r:List Tk} {W:List Fr}
theorem parse_any (h:t.k = .any):parse (t :: r) W = nxt (parse r) r (give W .any):=by cases t; cases h; rfl
theorem parse_sign {c:Nat} (h:t.k = .sign) (hg:a.g = some c):parse (t :: a :: r) W = nxt (parse r) r (give W (.sign c)):=by cases t; cases a; cases h; cases hg; rfl
theorem parse_span {c e:Nat} (h:t.k = .span) (hg:a.g = some c) (hh:b.g = some e):parse (t :: a :: b :: r) W = nxt (parse r) r (give W (.span c e)):=by cases t; cases a; cases b; cases h; cases hg; cases hh; rfl
theorem parse_rule (h:t.k = .rule):parse (t :: a :: r) W = nxt (parse r) r (give W (.rule a.w)):=by cases t; cases h; rfl
theorem parse_num {m:Nat} (h:t.k = .row ∨ t.k = .alt) (hg:a.n = some m):parse (t :: a :: r) W = nxt (parse r) r (push t.k m W):=by cases t; cases a; cases hg; rcases h with h | h <;> cases h <;> rfl
theorem parse_one (h:t.k = .many ∨ t.k = .nt):parse (t :: r) W = nxt (parse r) r (push t.k 1 W):=by cases t; rcases h with h | h <;> cases h <;> rfl
theorem parse_no (h:t.k = .no):parse (t :: r) W = none:=by cases t; cases h; rfl
theorem parse_x1 (h:t.k = .sign ∨ t.k = .span) (hr:r.head?.bind (·.g) = none):parse (t :: r) W = none:=by
 cases t; cases r with
 | nil => rcases h with h | h <;> cases h <;> rfl
 | cons a r => cases a; rcases h with h | h <;> cases h <;> cases hr <;> rfl
theorem parse_x2 (h:t.k = .span) (hr:r.head?.bind (·.g) = none):parse (t :: a :: r) W = none:=by
 obtain ⟨w1,k1,n1,g1⟩:=t
 obtain ⟨w2,k2,n2,g2⟩:=a
 cases h
 cases g2 with
 | none => rfl
 | some c => cases r with
   | nil => rfl
   | cons b r => cases b; cases hr; rfl
theorem parse_x3 (h:t.k = .rule):parse [t] W = none:=by cases t; cases h; rfl
theorem parse_x4 (h:t.k = .row ∨ t.k = .alt) (hr:r.head?.bind (·.n) = none):parse (t :: r) W = none:=by
 cases t; cases r with
 | nil => rcases h with h | h <;> cases h <;> rfl
 | cons a r => cases a; rcases h with h | h <;> cases h <;> cases hr <;> rfl
end
noncomputable abbrev wN (c:Nat):Str:=Str.ofString (toString (c:Int))
noncomputable def wD (c:Nat):Str:=⟨((Nat.toDigits 10 c).map Char.toNat).toArray⟩
theorem wN_eq (c:Nat):wN c = wD c:=str_ext (by rw [PySem.W.KIN.signs_num]; rfl)
noncomputable def noK:Kw → Bool
 | .no => true
 | .any | .sign | .span | .rule | .row | .alt | .many | .nt => false
theorem noK_eq {k:Kw} (h:noK k = true):k = .no:=by cases k <;> first | rfl | cases h
theorem wD_all:((List.range 127).all fun c => num (wD c) == some c && (noK (kw (wD c)) && (decide ((wD c).length ≤ 100) && (wD c).cps.toList.all fun a => decide (a < 128) && (a != 32 && a != 10)))) = true:=by decide +kernel
theorem sign_lt {c:Nat} (h:isSignC c = true):c < 127:=by
 unfold isSignC at h
 simp only [Bool.or_eq_true,Zob,beq_iff_eq,decide_eq_true_eq] at h
 omega
theorem wdOk_of {x:Str} (h:(decide (x.length ≤ 100) && x.cps.toList.all fun a => decide (a < 128) && (a != 32 && a != 10)) = true):WdOk x:=by
 have h:=Bool.and_eq_true_iff.mp h
 refine ⟨Zgb h.1,fun c hc => ?_⟩
 have k:=Bool.and_eq_true_iff.mp (List.all_eq_true.mp h.2 c hc)
 have k2:=Bool.and_eq_true_iff.mp k.2
 exact ⟨Zgb k.1,bne_iff_ne.mp k2.1,bne_iff_ne.mp k2.2⟩
structure NW (w:Str) (c:Nat):Prop where
 t:tk w = ⟨w,.no,some c,some c⟩
 ok:WdOk w
 ne:w ≠ Str.ofString ""
theorem nw_sign {c:Nat} (h:isSignC c = true):NW (wN c) c:=by
 have k:=List.all_eq_true.mp wD_all c (List.mem_range.mpr (sign_lt h))
 rw [← wN_eq] at k
 have k1:=Bool.and_eq_true_iff.mp k
 have k2:=Bool.and_eq_true_iff.mp k1.2
 have hn:num (wN c) = some c:=eq_of_beq k1.1
 have hs:sgn (wN c) = some c:=by unfold sgn; rw [hn]; exact if_pos h
 refine ⟨?_,wdOk_of k2.2,fun e => ?_⟩
 · unfold tk; rw [hn,hs,noK_eq k2.1]
 · rw [e,show num (Str.ofString "") = none by decide +kernel] at hn; cases hn
theorem wd_lit {x:Str} (h:(decide (x.length ≤ 100) && x.cps.toList.all fun a => decide (a < 128) && (a != 32 && a != 10)) = true):WdOk x:=wdOk_of h
section
theorem tk_row:tk "row" = ⟨"row",.row,none,none⟩:=by rfl
theorem tk_or:tk "or" = ⟨"or",.alt,none,none⟩:=by rfl
theorem tk_many:tk "many" = ⟨"many",.many,none,none⟩:=by rfl
theorem tk_not:tk "not" = ⟨"not",.nt,none,none⟩:=by rfl
theorem tk_any:tk "any" = ⟨"any",.any,none,none⟩:=by rfl
theorem tk_sign:tk "sign" = ⟨"sign",.sign,none,none⟩:=by rfl
theorem tk_span:tk "span" = ⟨"span",.span,none,none⟩:=by rfl
theorem tk_rule:tk "rule" = ⟨"rule",.rule,none,none⟩:=by rfl
theorem tk_0:tk "0" = ⟨"0",.no,some 0,none⟩:=by rfl
theorem tk_2:tk "2" = ⟨"2",.no,some 2,none⟩:=by rfl
theorem tk_3:tk "3" = ⟨"3",.no,some 3,none⟩:=by rfl
theorem tk_4:tk "4" = ⟨"4",.no,some 4,none⟩:=by rfl
end
theorem rowOut_none {ws:List Str} (h:ws.length < 3 ∨ Str.ofString "" ∈ ws ∨ ws[1]? ≠ some (Str.ofString "=") ∨ parse ((ws.drop 2).map tk) [] = none):rowOut ws = none:=by
 rcases ws with zz | ⟨a,zz | ⟨b,zz | ⟨c,r⟩⟩⟩
 · rfl
 · rfl
 · rfl
 · show (if _ then _ else _) = none
   by_cases hc:(Str.ofString "") ∈ (a :: b :: c :: r) ∨ b ≠ "="
   · rw [if_pos hc]
   · rw [if_neg hc]
     rcases h with h | h | h | h
     · exact absurd h (by simp only [List.length_cons]; omega)
     · exact absurd (.inl h) hc
     · exact absurd (.inr fun e => h (by rw [e]; rfl)) hc
     · show Option.map _ (parse ((c :: r).map tk) []) = none
       rw [show parse ((c :: r).map tk) [] = none from h]; rfl
theorem rowOut_some {a c:Str} {r:List Str} {p:Pt} (h1:Str.ofString "" ∉ (a :: Str.ofString "=" :: c :: r)) (h:parse ((c :: r).map tk) [] = some p):rowOut (a :: Str.ofString "=" :: c :: r) = some (a,p):=by
 show (if _ then _ else _) = _
 rw [if_neg (fun k => k.elim h1 fun k => k rfl),h]; rfl
noncomputable def wZ (s l h:Str):List Str:=["zz", "=", "row", "3", "sign",s, "many", "span",l,h, "or", "2", "not", "any", "row", "0"]
noncomputable def zzP (c a b:Nat):Pt:=.row [.sign c,.many (.span a b),.alt [.nt .any,.row []]]
section
variable {s l h:Str} {c a b:Nat}
theorem wZ_out (hs:NW s c) (hl:NW l a) (hh:NW h b):rowOut (wZ s l h) = some (Str.ofString "zz",zzP c a b):=by
 refine rowOut_some ?_ ?_
 · intro k
   simp only [Zg,Zdc,or_false] at k
   have:=hs.ne; have:=hl.ne; have:=hh.ne
   rcases k with k | k | k | k | k | k | k | k | k | k | k | k | k | k | k | k <;> first | exact absurd k.symm (by assumption) | exact absurd k (by decide +kernel)
 · simp only [List.map_cons,List.map_nil,tk_row,tk_3,tk_sign,hs.t,tk_many,tk_span,hl.t,hh.t,tk_or,tk_2,tk_not,tk_any,tk_0]
   rfl
theorem wZ_ok (hs:NW s c) (hl:NW l a) (hh:NW h b):WsOk (wZ s l h):=by
 refine ⟨List.cons_ne_nil _ _,by show 16 ≤ 100; decide,fun w hw => ?_⟩
 simp only [wZ,Zg,Zdc,or_false] at hw
 rcases hw with rfl | rfl | rfl | rfl | rfl | rfl | rfl | rfl | rfl | rfl | rfl | rfl | rfl | rfl | rfl | rfl <;> first | exact hs.ok | exact hl.ok | exact hh.ok | exact wd_lit (by decide +kernel)
end
structure BadW (ws:List Str):Prop where
 len:ws.length ≤ 100
 wd:∀ w ∈ ws,w.length ≤ 100
 bad:∃ us,jn ws = jn us ∧ WsOk us ∧ rowOut us = none
theorem BadW.of {ws:List Str} (h:WsOk ws) (e:rowOut ws = none):BadW ws:=⟨h.len,fun w hw => (h.all w hw).len,ws,rfl,h,e⟩
end
section
set_option linter.unusedSimpArgs false
theorem WsOk.of {ws us:List Str} (h:WsOk ws) (hne:us ≠ []) (hlen:us.length ≤ 100) (hm:∀ w ∈ us,w ∈ ws ∨ WdOk w):WsOk us:=⟨hne,hlen,fun w hw => (hm w hw).elim (h.all w) id⟩
noncomputable def rplW (ws:List Str) (p q:Nat) (bs:List Str):List Str:=ws.take p ++ bs ++ ws.drop q
theorem rpl_mem {ws bs:List Str} {p q:Nat} {w:Str} (h:w ∈ rplW ws p q bs):w ∈ ws ∨ w ∈ bs:=by
 unfold rplW at h
 rcases Zm.mp h with h | h
 · rcases Zm.mp h with h | h
   · exact .inl (List.mem_of_mem_take h)
   · exact .inr h
 · exact .inl (List.mem_of_mem_drop h)
theorem rpl_len (ws bs:List Str) (p q:Nat):(rplW ws p q bs).length ≤ ws.length + bs.length + ws.length:=by
 unfold rplW
 rw [Zf,Zf,List.length_take,List.length_drop]
 omega
theorem WsOk.rpl {ws bs:List Str} {p q:Nat} (h:WsOk ws) (hl:ws.length ≤ 40) (hb:∀ b ∈ bs,WdOk b) (hb2:bs.length ≤ 2) (hne:rplW ws p q bs ≠ []):WsOk (rplW ws p q bs) :=
 h.of hne (Za (rpl_len ..) (by omega)) fun w hw => (rpl_mem hw).imp id (hb w)
section
variable {s l h:Str} {c a b:Nat} (hs:NW s c) (hl:NW l a) (hh:NW h b)
include hs hl hh
theorem z_rpl {p q:Nat} {bs:List Str} (hb:∀ b ∈ bs,WdOk b) (hb2:bs.length ≤ 2) (hne:rplW (wZ s l h) p q bs ≠ []) (e:rowOut (rplW (wZ s l h) p q bs) = none):BadW (rplW (wZ s l h) p q bs) :=
 .of ((wZ_ok hs hl hh).rpl (show 16 ≤ 40 by decide) hb hb2 hne) e
theorem rpl_g {p:Nat} {x:Str} {k:Kw} {n:Option Nat} (hp:p = 5 ∨ p = 8 ∨ p = 9) (hb:tk x = ⟨x,k,n,none⟩) (hw:WdOk x):BadW (rplW (wZ s l h) p (p + 1) [x]):=by
 refine z_rpl hs hl hh (fun y hy => Zj.mp hy ▸ hw) (by show 1 ≤ 2; decide) (by rcases hp with rfl | rfl | rfl <;> exact List.cons_ne_nil _ _) (rowOut_none (.inr (.inr (.inr ?_))))
 rcases hp with rfl | rfl | rfl <;> simp only [rplW,wZ,List.take_succ_cons,List.take_zero,List.drop_succ_cons,List.drop_zero,List.cons_append,List.nil_append,List.map_cons,List.map_nil,tk_row,tk_3,tk_sign,hs.t,tk_many,tk_span,hl.t,hh.t,tk_or,tk_2,tk_not,tk_any,tk_0,hb] <;> rfl
theorem rpl_n {p:Nat} {x:Str} {k:Kw} (hp:p = 3 ∨ p = 5 ∨ p = 8 ∨ p = 9 ∨ p = 11 ∨ p = 15) (hb:tk x = ⟨x,k,none,none⟩) (hw:WdOk x):BadW (rplW (wZ s l h) p (p + 1) [x]):=by
 refine z_rpl hs hl hh (fun y hy => Zj.mp hy ▸ hw) (by show 1 ≤ 2; decide) (by rcases hp with rfl | rfl | rfl | rfl | rfl | rfl <;> exact List.cons_ne_nil _ _) (rowOut_none (.inr (.inr (.inr ?_))))
 rcases hp with rfl | rfl | rfl | rfl | rfl | rfl <;> simp only [rplW,wZ,List.take_succ_cons,List.take_zero,List.drop_succ_cons,List.drop_zero,List.cons_append,List.nil_append,List.map_cons,List.map_nil,tk_row,tk_3,tk_sign,hs.t,tk_many,tk_span,hl.t,hh.t,tk_or,tk_2,tk_not,tk_any,tk_0,hb] <;> rfl
theorem z_cut:BadW ((wZ s l h).take 15):=by
 refine .of ((wZ_ok hs hl hh).of (List.cons_ne_nil _ _) (by show 15 ≤ 100; decide) fun w hw => .inl (List.mem_of_mem_take hw)) (rowOut_none (.inr (.inr (.inr ?_))))
 simp only [wZ,List.take_succ_cons,List.take_zero,List.drop_succ_cons,List.drop_zero,List.map_cons,List.map_nil,tk_row,tk_3,tk_sign,hs.t,tk_many,tk_span,hl.t,hh.t,tk_or,tk_2,tk_not,tk_any,tk_0] <;> rfl
theorem z_blank {p:Nat}:BadW (rplW (wZ s l h) p p [Str.ofString ""]):=by
 have hm:Str.ofString "" ∈ rplW (wZ s l h) p p [Str.ofString ""]:=Zxb _ (Zyb _ (.head _))
 exact z_rpl hs hl hh (fun y hy => Zj.mp hy ▸ wd_lit (by decide +kernel)) (by show 1 ≤ 2; decide) (List.ne_nil_of_mem hm) (rowOut_none (.inr (.inl hm)))
theorem z_more:BadW (wZ s l h ++ [Str.ofString "any"]):=by
 refine .of ((wZ_ok hs hl hh).of (List.cons_ne_nil _ _) (by show 17 ≤ 100; decide) fun w hw => (Zm.mp hw).imp id fun k => (show w = _ from Zj.mp k) ▸ wd_lit (by decide +kernel)) (rowOut_none (.inr (.inr (.inr ?_))))
 simp only [wZ,List.cons_append,List.nil_append,List.drop_succ_cons,List.drop_zero,List.map_cons,List.map_nil,tk_row,tk_3,tk_sign,hs.t,tk_many,tk_span,hl.t,hh.t,tk_or,tk_2,tk_not,tk_any,tk_0] <;> rfl
theorem z_end:BadW (wZ s l h ++ [Str.ofString ""]) :=
 .of ((wZ_ok hs hl hh).of (List.cons_ne_nil _ _) (by show 17 ≤ 100; decide) fun w hw => (Zm.mp hw).imp id fun k => (show w = _ from Zj.mp k) ▸ wd_lit (by decide +kernel)) (rowOut_none (.inr (.inl (Zyb _ (.head _)))))
theorem z_count {x:Str} (hx:x = "2" ∨ x = "4" ∨ x = "3 " ∨ x = "03"):BadW (rplW (wZ s l h) 3 4 [x]):=by
 rcases hx with rfl | rfl | rfl | rfl
 · refine z_rpl hs hl hh (fun y hy => Zj.mp hy ▸ wd_lit (by decide +kernel)) (by show 1 ≤ 2; decide) (List.cons_ne_nil _ _) (rowOut_none (.inr (.inr (.inr ?_))))
   simp only [rplW,wZ,List.take_succ_cons,List.take_zero,List.drop_succ_cons,List.drop_zero,List.cons_append,List.nil_append,List.map_cons,List.map_nil,tk_row,tk_3,tk_sign,hs.t,tk_many,tk_span,hl.t,hh.t,tk_or,tk_2,tk_not,tk_any,tk_0] <;> rfl
 · refine z_rpl hs hl hh (fun y hy => Zj.mp hy ▸ wd_lit (by decide +kernel)) (by show 1 ≤ 2; decide) (List.cons_ne_nil _ _) (rowOut_none (.inr (.inr (.inr ?_))))
   simp only [rplW,wZ,List.take_succ_cons,List.take_zero,List.drop_succ_cons,List.drop_zero,List.cons_append,List.nil_append,List.map_cons,List.map_nil,tk_row,tk_4,tk_sign,hs.t,tk_many,tk_span,hl.t,hh.t,tk_or,tk_2,tk_not,tk_any,tk_0] <;> rfl
 · have hm:Str.ofString "" ∈ rplW (wZ s l h) 3 4 ["3", ""]:=Zxb _ (Zyb _ (.tail _ (.head _)))
   refine ⟨by show 16 ≤ 100; decide,fun w hw => (rpl_mem hw).elim (fun k => ((wZ_ok hs hl hh).all w k).len) fun k => Zj.mp k ▸ (by decide +kernel),rplW (wZ s l h) 3 4 ["3", ""],?_,(wZ_ok hs hl hh).rpl (show 16 ≤ 40 by decide) (fun y hy => ?_) (by show 2 ≤ 2; decide) (List.cons_ne_nil _ _),rowOut_none (.inr (.inl hm))⟩
   · unfold jn
     rw [txt_join,txt_join]
     refine str_ext ?_
     simp only [rplW,wZ,List.take_succ_cons,List.take_zero,List.drop_succ_cons,List.drop_zero,List.cons_append,List.nil_append]
     rw [join_cps,join_cps]
     rfl
   · rcases Zg.mp hy with rfl | hy
     · exact wd_lit (by decide +kernel)
     · exact Zj.mp hy ▸ wd_lit (by decide +kernel)
 · exact rpl_n hs hl hh (p:=3) (k:=.no) (.inl rfl) rfl (wd_lit (by decide +kernel))
theorem z_noeq:BadW ((wZ s l h).take 1 ++ (wZ s l h).drop 2) :=
 .of ((wZ_ok hs hl hh).of (List.cons_ne_nil _ _) (by show 15 ≤ 100; decide) fun w hw => .inl ((Zm.mp hw).elim List.mem_of_mem_take List.mem_of_mem_drop)) (rowOut_none (.inr (.inr (.inl (by show some (Str.ofString "row") ≠ _; decide +kernel)))))
theorem z_colon:BadW (rplW (wZ s l h) 1 2 [Str.ofString ":"]) :=
 z_rpl hs hl hh (fun y hy => Zj.mp hy ▸ wd_lit (by decide +kernel)) (by show 1 ≤ 2; decide) (List.cons_ne_nil _ _) (rowOut_none (.inr (.inr (.inl (by show some (Str.ofString ":") ≠ _; decide +kernel)))))
theorem z_first:BadW ([Str.ofString ""] ++ (wZ s l h).drop 1) :=
 .of ((wZ_ok hs hl hh).of (List.cons_ne_nil _ _) (by show 16 ≤ 100; decide) fun w hw => (Zm.mp hw).elim (fun k => .inr (Zj.mp k ▸ wd_lit (by decide +kernel))) fun k => .inl (List.mem_of_mem_drop k)) (rowOut_none (.inr (.inl (.head _))))
theorem z_Sign:BadW (rplW (wZ s l h) 4 5 [Str.ofString "Sign"]):=by
 refine z_rpl hs hl hh (fun y hy => Zj.mp hy ▸ wd_lit (by decide +kernel)) (by show 1 ≤ 2; decide) (List.cons_ne_nil _ _) (rowOut_none (.inr (.inr (.inr ?_))))
 simp only [rplW,wZ,List.take_succ_cons,List.take_zero,List.drop_succ_cons,List.drop_zero,List.cons_append,List.nil_append,List.map_cons,List.map_nil,tk_row,tk_3]
 rfl
end
theorem z_two:BadW ["zz", "="]:=.of ⟨List.cons_ne_nil _ _,by decide,fun w hw => by
 rcases Zg.mp hw with rfl | hw
 · exact wd_lit (by decide +kernel)
 · exact Zj.mp hw ▸ wd_lit (by decide +kernel)⟩ rfl
theorem z_rule:BadW ["zz", "=", "rule"]:=.of ⟨List.cons_ne_nil _ _,by decide,fun w hw => by
 rcases Zg.mp hw with rfl | hw
 · exact wd_lit (by decide +kernel)
 rcases Zg.mp hw with rfl | hw
 · exact wd_lit (by decide +kernel)
 · exact Zj.mp hw ▸ wd_lit (by decide +kernel)⟩ (rowOut_none (.inr (.inr (.inr rfl))))
theorem tk_tab {x:Str} (h:9 ∈ x.cps.toList):tk x = ⟨x,.no,none,none⟩:=by
 have hn:num x = none:=if_neg fun k => by
   have:=List.all_eq_true.mp k.2.2.2 9 h
   exact absurd this (by decide)
 have hk:kw x = .no:=by
   unfold kw
   have ne:∀ y:Str,y.cps.toList.contains 9 = false → x ≠ y:=fun y hy e => by
     subst e
     exact Zv (hy.symm.trans (List.contains_iff_mem.mpr h))
   rw [if_neg (ne _ (by decide +kernel)),if_neg (ne _ (by decide +kernel)),if_neg (ne _ (by decide +kernel)),if_neg (ne _ (by decide +kernel)),if_neg (ne _ (by decide +kernel)),if_neg (ne _ (by decide +kernel)),if_neg (ne _ (by decide +kernel)),if_neg (ne _ (by decide +kernel))]
 unfold tk sgn
 rw [hn,hk]; rfl
theorem cat_cps (a b:Str):(a ++ b).cps.toList = a.cps.toList ++ b.cps.toList:=Array.toList_append
theorem wd_tab {x y:Str} (hx:WdOk x) (hy:WdOk y) (h1:x.length ≤ 10) (h2:y.length ≤ 10):WdOk (x ++ Str.ofString "\t" ++ y) ∧ 9 ∈ (x ++ Str.ofString "\t" ++ y).cps.toList:=by
 have e:(x ++ Str.ofString "\t" ++ y).cps.toList = x.cps.toList ++ [9] ++ y.cps.toList:=by rw [cat_cps,cat_cps]; rfl
 refine ⟨⟨?_,fun c hc => ?_⟩,?_⟩
 · have hz:∀ x:Str,x.length = x.cps.toList.length:=fun x => (Array.length_toList).symm
   rw [hz,e,Zf,Zf,← hz,← hz]
   show x.length + 1 + y.length ≤ 100
   omega
 · rw [e] at hc
   rcases Zm.mp hc with hc | hc
   · rcases Zm.mp hc with hc | hc
     · exact hx.asc c hc
     · cases Zj.mp hc; decide
   · exact hy.asc c hc
 · rw [e]; exact Zxb _ (Zyb _ (.head _))
section
variable {s l h:Str} {c a b:Nat} (hs:NW s c) (hl:NW l a) (hh:NW h b)
include hs hl hh
theorem z_tab {p:Nat} (hp:p < 15) {x:Str} (hx:WdOk x) (h9:9 ∈ x.cps.toList):BadW (rplW (wZ s l h) p (p + 2) [x]):=by
 have hb:=tk_tab h9
 have hne:x ≠ Str.ofString "=":=fun e => by subst e; exact absurd h9 (by decide +kernel)
 refine z_rpl hs hl hh (fun y hy => Zj.mp hy ▸ hx) (by show 1 ≤ 2; decide) (fun e => by
   have:x ∈ rplW (wZ s l h) p (p + 2) [x]:=Zxb _ (Zyb _ (.head _))
   rw [e] at this; cases this) ?_
 match p,hp with
 | 0,_ => exact rowOut_none (.inr (.inr (.inl (by show some (Str.ofString "row") ≠ _; decide +kernel))))
 | 1,_ => exact rowOut_none (.inr (.inr (.inl (by show some x ≠ _; exact fun e => hne (Zab e)))))
 | 2,_ | 3,_ | 4,_ | 5,_ | 6,_ | 7,_ | 8,_ | 9,_ | 10,_ | 11,_ | 12,_ | 13,_ | 14,_ =>
   refine rowOut_none (.inr (.inr (.inr ?_)))
   simp only [rplW,wZ,List.take_succ_cons,List.take_zero,List.drop_succ_cons,List.drop_zero,List.cons_append,List.nil_append,List.map_cons,List.map_nil,tk_row,tk_3,tk_sign,hs.t,tk_many,tk_span,hl.t,hh.t,tk_or,tk_2,tk_not,tk_any,tk_0,hb] <;> rfl
end
end
section
theorem row_txt {x lit:Str} {ws:List Str} (h:lit.cps.toList = tls 32 ws):x ++ lit = jn (x :: ws):=by
 unfold jn
 rw [txt_join]
 exact str_ext (by rw [join_cps,cat_cps,h])
theorem mem1 {α:Type} {P:α → Prop} {a:α} (h:P a):∀ x ∈ [a],P x:=fun x hx => Zj.mp hx ▸ h
theorem mem2 {α:Type} {P:α → Prop} {a:α} {r:List α} (h:P a) (k:∀ x ∈ r,P x):∀ x ∈ a :: r,P x:=fun x hx => (Zg.mp hx).elim (fun e => e ▸ h) (k x)
theorem mem0 {α:Type} {P:α → Prop}:∀ x ∈ ([]:List α),P x:=fun x hx => absurd hx Zdc
noncomputable def abN (k:Nat):Str:=⟨#[97 + k]⟩
theorem ab_wd {k:Nat} (h:k < 4):WdOk (abN k):=by
 match k,h with
 | 0,_ | 1,_ | 2,_ | 3,_ => exact wd_lit (by decide +kernel)
theorem ab_ne (k:Nat):abN k ≠ Str.ofString "":=fun e => by
 have:=congrArg Str.length e
 exact absurd this (by show (1:Nat) ≠ 0; decide)
noncomputable def rA (k:Nat):Str × Pt:=(abN k,.alt [.rule "zz",.any])
noncomputable def wA (k:Nat):List Str:=[abN k, "=", "or", "2", "rule", "zz", "any"]
theorem wA_txt (k:Nat):abN k ++ Str.ofString " = or 2 rule zz any" = jn (wA k):=row_txt (by decide +kernel)
theorem wA_ok {k:Nat} (h:k < 4):WsOk (wA k):=⟨List.cons_ne_nil _ _,by show 7 ≤ 100; decide,mem2 (ab_wd h) <| mem2 (wd_lit (by decide +kernel)) <| mem2 (wd_lit (by decide +kernel)) <| mem2 (wd_lit (by decide +kernel)) <| mem2 (wd_lit (by decide +kernel)) <| mem2 (wd_lit (by decide +kernel)) <| mem1 (wd_lit (by decide +kernel))⟩
theorem not_in {x a:Str} {r:List Str} (h:a ≠ x) (k:x ∉ r):x ∉ a :: r:=fun hx => (Zg.mp hx).elim (fun e => h e.symm) k
theorem wA_out (k:Nat):rowOut (wA k) = some (rA k):=rowOut_some (not_in (ab_ne k) (by decide +kernel)) (by
 simp only [List.map_cons,List.map_nil,tk_or,tk_2,tk_rule,tk_any]; rfl)
noncomputable def strangers:List Str:=["stranger", "A1", "=", "ruleofthirteen", "1", "any"]
noncomputable def oddW (own st:Str) (j:Nat):List Str:=match j with
 | 0 => [own, "=", "rule",st]
 | 1 => [own, "=", "or", "2", "not", "any", "rule",own]
 | 2 => [own, "=", "or", "0"]
 | 3 => [own, "=", "span", "98", "97"]
 | _ => [own ++ Str.ofString "A", "=", "any"]
noncomputable def oddP (own st:Str) (j:Nat):Str × Pt:=match j with
 | 0 => (own,.rule st)
 | 1 => (own,.alt [.nt .any,.rule own])
 | 2 => (own,.alt [])
 | 3 => (own,.span 98 97)
 | _ => (own ++ Str.ofString "A",.any)
theorem st_wd {st:Str} (h:st ∈ strangers):WdOk st ∧ st ≠ Str.ofString "":=by
 have key:∀ st ∈ strangers,WdOk st ∧ st ≠ Str.ofString "":=mem2 ⟨wd_lit (by decide +kernel),by decide +kernel⟩ <| mem2 ⟨wd_lit (by decide +kernel),by decide +kernel⟩ <| mem2 ⟨wd_lit (by decide +kernel),by decide +kernel⟩ <| mem2 ⟨wd_lit (by decide +kernel),by decide +kernel⟩ <| mem2 ⟨wd_lit (by decide +kernel),by decide +kernel⟩ <| mem1 ⟨wd_lit (by decide +kernel),by decide +kernel⟩
 exact key st h
theorem abA_wd {k:Nat} (h:k < 4):WdOk (abN k ++ Str.ofString "A"):=by
 match k,h with
 | 0,_ | 1,_ | 2,_ | 3,_ => exact wd_lit (by decide +kernel)
theorem abA_ne (k:Nat):abN k ++ Str.ofString "A" ≠ Str.ofString "":=fun e => by
 have:=congrArg (fun x:Str => x.cps.toList.length) e
 simp only [cat_cps,Zf] at this
 exact absurd this (by show (1 + 1:Nat) ≠ 0; decide)
theorem oddW_ok {k j:Nat} {st:Str} (h:k < 4) (hs:st ∈ strangers) (hj:j < 5):WsOk (oddW (abN k) st j):=by
 match j,hj with
 | 0,_ => exact ⟨List.cons_ne_nil _ _,by show 4 ≤ 100; decide,mem2 (ab_wd h) <| mem2 (wd_lit (by decide +kernel)) <| mem2 (wd_lit (by decide +kernel)) <| mem1 (st_wd hs).1⟩
 | 1,_ => exact ⟨List.cons_ne_nil _ _,by show 8 ≤ 100; decide,mem2 (ab_wd h) <| mem2 (wd_lit (by decide +kernel)) <| mem2 (wd_lit (by decide +kernel)) <| mem2 (wd_lit (by decide +kernel)) <| mem2 (wd_lit (by decide +kernel)) <| mem2 (wd_lit (by decide +kernel)) <| mem2 (wd_lit (by decide +kernel)) <| mem1 (ab_wd h)⟩
 | 2,_ => exact ⟨List.cons_ne_nil _ _,by show 4 ≤ 100; decide,mem2 (ab_wd h) <| mem2 (wd_lit (by decide +kernel)) <| mem2 (wd_lit (by decide +kernel)) <| mem1 (wd_lit (by decide +kernel))⟩
 | 3,_ => exact ⟨List.cons_ne_nil _ _,by show 5 ≤ 100; decide,mem2 (ab_wd h) <| mem2 (wd_lit (by decide +kernel)) <| mem2 (wd_lit (by decide +kernel)) <| mem2 (wd_lit (by decide +kernel)) <| mem1 (wd_lit (by decide +kernel))⟩
 | 4,_ => exact ⟨List.cons_ne_nil _ _,by show 3 ≤ 100; decide,mem2 (abA_wd h) <| mem2 (wd_lit (by decide +kernel)) <| mem1 (wd_lit (by decide +kernel))⟩
theorem tk_98:tk "98" = ⟨"98",.no,some 98,some 98⟩:=by rfl
theorem tk_97:tk "97" = ⟨"97",.no,some 97,some 97⟩:=by rfl
theorem oddW_out {k j:Nat} {st:Str} (hs:st ∈ strangers) (hj:j < 5):rowOut (oddW (abN k) st j) = some (oddP (abN k) st j):=by
 have n0:Str.ofString "" ∉ ([]:List Str):=Zdc
 match j,hj with
 | 0,_ => exact rowOut_some (not_in (ab_ne k) <| not_in (by decide +kernel) <| not_in (by decide +kernel) <| not_in (st_wd hs).2 n0) (by simp only [List.map_cons,List.map_nil,tk_rule]; rfl)
 | 1,_ => exact rowOut_some (not_in (ab_ne k) <| not_in (by decide +kernel) <| not_in (by decide +kernel) <| not_in (by decide +kernel) <| not_in (by decide +kernel) <| not_in (by decide +kernel) <| not_in (by decide +kernel) <| not_in (ab_ne k) n0) (by simp only [List.map_cons,List.map_nil,tk_rule,tk_or,tk_2,tk_not,tk_any]; rfl)
 | 2,_ => exact rowOut_some (not_in (ab_ne k) (by decide +kernel)) (by simp only [List.map_cons,List.map_nil,tk_or,tk_0]; rfl)
 | 3,_ => exact rowOut_some (not_in (ab_ne k) (by decide +kernel)) (by simp only [List.map_cons,List.map_nil,tk_span,tk_98,tk_97]; rfl)
 | 4,_ => exact rowOut_some (not_in (abA_ne k) (by decide +kernel)) (by simp only [List.map_cons,List.map_nil,tk_any]; rfl)
noncomputable def ntN:Nat → Pt
 | 0 => .any
 | n + 1 => .nt (ntN n)
noncomputable def wDp (n:Nat):List Str:="deep" :: "=" :: (List.replicate n (Str.ofString "not") ++ [Str.ofString "any"])
theorem parse_nots (n:Nat):∀ W:List Fr,parse ((List.replicate n (Str.ofString "not") ++ [Str.ofString "any"]).map tk) W = nxt (parse []) [] (give (List.replicate n ⟨.nt,1,[]⟩ ++ W) .any):=by
 induction n with
 | zero => intro W; show parse [tk "any"] W = _; rw [tk_any]; rfl
 | succ n ih =>
   intro W
   show parse (tk "not" :: (List.replicate n (Str.ofString "not") ++ [Str.ofString "any"]).map tk) W = _
   rw [parse_one (.inr (by rw [tk_not]))]
   show parse ((List.replicate n (Str.ofString "not") ++ [Str.ofString "any"]).map tk) (⟨(tk "not").k,1,[]⟩ :: W) = _
   rw [ih,tk_not,List.replicate_succ',Ze]; rfl
theorem ntN_in (n:Nat) (p:Pt):(Nat.rec (.nt p) (fun _ q => .nt q) n:Pt) = .nt (Nat.rec p (fun _ q => .nt q) n):=by
 induction n with
 | zero => rfl
 | succ n ih => exact congrArg Pt.nt ih
theorem give_nots (n:Nat):∀ p:Pt,give (List.replicate n ⟨.nt,1,[]⟩) p = .fin (Nat.rec p (fun _ q => .nt q) n):=by
 induction n with
 | zero => intro p; rfl
 | succ n ih =>
   intro p
   show give (List.replicate n ⟨.nt,1,[]⟩) (.nt p) = _
   rw [ih,ntN_in]
theorem ntN_rec (n:Nat):(Nat.rec Pt.any (fun _ q => .nt q) n:Pt) = ntN n:=by
 induction n with
 | zero => rfl
 | succ n ih => exact congrArg Pt.nt ih
theorem wDp_out (n:Nat):rowOut (wDp n) = some (Str.ofString "deep",ntN n):=by
 have hp:parse ((List.replicate n (Str.ofString "not") ++ [Str.ofString "any"]).map tk) [] = some (ntN n):=by
   rw [parse_nots,Zlc,give_nots,ntN_rec]; rfl
 have hm:Str.ofString "" ∉ (List.replicate n (Str.ofString "not") ++ [Str.ofString "any"]):=fun k => by
   rcases Zm.mp k with k | k
   · exact absurd (List.eq_of_mem_replicate k) (by decide +kernel)
   · exact absurd (Zj.mp k) (by decide +kernel)
 unfold wDp
 cases n with
 | zero => exact rowOut_some (not_in (by decide +kernel) <| not_in (by decide +kernel) hm) hp
 | succ n => exact rowOut_some (not_in (by decide +kernel) <| not_in (by decide +kernel) hm) hp
theorem wDp_ok {n:Nat} (h:n ≤ 41):WsOk (wDp n):=⟨List.cons_ne_nil _ _,by
 unfold wDp
 simp only [List.length_cons,Zf,List.length_replicate,List.length_nil]
 omega,mem2 (wd_lit (by decide +kernel)) <| mem2 (wd_lit (by decide +kernel)) fun x hx => by
 rcases Zm.mp hx with k | k
 · exact List.eq_of_mem_replicate k ▸ wd_lit (by decide +kernel)
 · exact Zj.mp k ▸ wd_lit (by decide +kernel)⟩
theorem wDp_txt (n:Nat):Str.ofString "deep = " ++ Txt.mul (Str.ofString "not ") (n:Int) ++ Str.ofString "any" = jn (wDp n):=by
 unfold jn wDp
 rw [txt_join]
 refine str_ext ?_
 rw [join_cps,cat_cps,cat_cps]
 have e:∀ n:Nat,(Txt.mul (Str.ofString "not ") (n:Int)).cps.toList = (List.replicate n [110,111,116,32]).flatten:=fun n => by
   have fo:∀ (n:Nat) (acc:Array Nat),((List.replicate n (Str.ofString "not ").cps).foldl (· ++ ·) acc).toList = acc.toList ++ (List.replicate n [110,111,116,32]).flatten:=fun n => by
     induction n with
     | zero => intro acc; exact (Zlc _).symm
     | succ n ih =>
       intro acc
       show ((List.replicate n (Str.ofString "not ").cps).foldl (· ++ ·) (acc ++ (Str.ofString "not ").cps)).toList = acc.toList ++ ([110,111,116,32] ++ (List.replicate n [110,111,116,32]).flatten)
       rw [ih,Array.toList_append,Ze,show (Str.ofString "not ").cps.toList = [110,111,116,32] by decide +kernel]
   match n with
   | 0 => rfl
   | 1 => decide +kernel
   | n + 2 =>
     unfold Txt.mul
     rw [if_neg (by omega),if_neg (by
       intro k
       rw [Bool.or_eq_true,beq_iff_eq,beq_iff_eq] at k
       rcases k with k | k
       · omega
       · exact absurd k (by decide +kernel))]
     exact (fo _ _).trans (by rw [Zzc]; rfl)
 have k:∀ n:Nat,[32] ++ (List.replicate n [110,111,116,32]).flatten ++ [97,110,121] = tls 32 (List.replicate n (Str.ofString "not") ++ [Str.ofString "any"]):=fun n => by
   induction n with
   | zero => decide +kernel
   | succ n ih =>
     show [32] ++ ([110,111,116,32] ++ (List.replicate n [110,111,116,32]).flatten) ++ [97,110,121] = (32 :: (Str.ofString "not").cps.toList) ++ tls 32 (List.replicate n (Str.ofString "not") ++ [Str.ofString "any"])
     rw [← ih,show (Str.ofString "not").cps.toList = [110,111,116] by decide +kernel]
     simp
 rw [e]
 show _ = (Str.ofString "deep").cps.toList ++ ((32 :: (Str.ofString "=").cps.toList) ++ tls 32 (List.replicate n (Str.ofString "not") ++ [Str.ofString "any"]))
 rw [← k,show (Str.ofString "deep = ").cps.toList = (Str.ofString "deep").cps.toList ++ (32 :: (Str.ofString "=").cps.toList) ++ [32] by decide +kernel,show (Str.ofString "any").cps.toList = [97,110,121] by decide +kernel]
 simp
noncomputable def yN (k:Nat):Str:=⟨#[121,97 + k % 26,97 + k / 26]⟩
noncomputable def wY (k:Nat):List Str:=[yN k, "=", "any"]
theorem wY_txt (k:Nat):yN k ++ Str.ofString " = any" = jn (wY k):=row_txt (by decide +kernel)
theorem yN_wd {k:Nat} (h:k < 60):WdOk (yN k):=by
 refine ⟨by show 3 ≤ 100; decide,fun c hc => ?_⟩
 simp only [yN,Zg,Zdc,or_false] at hc
 omega
theorem yN_ne (k:Nat):yN k ≠ Str.ofString "":=fun e => by
 have:=congrArg Str.length e
 exact absurd this (by show (3:Nat) ≠ 0; decide)
theorem wY_ok {k:Nat} (h:k < 60):WsOk (wY k):=⟨List.cons_ne_nil _ _,by show 3 ≤ 100; decide,mem2 (yN_wd h) <| mem2 (wd_lit (by decide +kernel)) <| mem1 (wd_lit (by decide +kernel))⟩
theorem wY_out (k:Nat):rowOut (wY k) = some (yN k,.any):=rowOut_some (not_in (yN_ne k) (by decide +kernel)) (by simp only [List.map_cons,List.map_nil,tk_any]; rfl)
noncomputable abbrev RowsR (wss:List (List Str)) (rs:List (Str × Pt)):Prop:=All2 (fun ws r => rowOut ws = some r) wss rs
inductive Out7 (rs:List (Str × Pt)):Nat → Prop where
 | good (h:GoodRules rs) (k:∀ B,∀ r ∈ rs,¬ Rch rs B r.1 r.1):Out7 rs 0
 | bad (h:¬ Fine7 rs):Out7 rs 2
 | rule (h:Fine7 rs) (k:∃ r ∈ rs,∃ n,r.2.Asks n ∧ n ∉ rs.map (·.1)):Out7 rs 3
 | ring (h:GoodRules rs) (k:∀ B,∃ r ∈ rs,Rch rs B r.1 r.1):Out7 rs 4
end
section
theorem Pt.All.leaf {P:Pt → Prop} {p:Pt} (h:P p) (k:p.kids = []):Pt.All P p:=⟨h,fun q hq => by rw [k] at hq; exact absurd hq Zdc⟩
theorem tame_ntN (n:Nat):(ntN n).Tame:=by
 induction n with
 | zero => exact Pt.All.leaf ⟨trivial,by show 0 < 1000; decide⟩ rfl
 | succ n ih => exact ⟨⟨trivial,by show 1 < 1000; decide⟩,mem1 ih⟩
theorem ntN_good (n:Nat):(ntN n).good = true:=by
 induction n with
 | zero => rfl
 | succ n ih => exact ih
theorem ntN_deep (n:Nat):(ntN n).deep = n + 1:=by
 induction n with
 | zero => rfl
 | succ n ih => exact congrArg Nat.succ ih
theorem ntN_size (n:Nat):(ntN n).size = n + 1:=by
 induction n with
 | zero => rfl
 | succ n ih => exact congrArg Nat.succ ih
theorem ntN_asks (n:Nat) {x:Str}:¬ (ntN n).Asks x:=by
 induction n with
 | zero => intro h; cases h with
   | deep hm hk => exact absurd hm Zdc
 | succ n ih => intro h; cases h with
   | deep hm hk => exact ih (Zj.mp hm ▸ hk)
theorem ntN_ahd (B:Str → Bool) (n:Nat):(ntN n).ahd B = []:=by
 induction n with
 | zero => rfl
 | succ n ih => exact ih
theorem asks_leaf {p:Pt} {x:Str} (k:p.kids = []) (hr:∀ n,p ≠ .rule n):¬ p.Asks x:=fun h => by
 cases h with
 | here => exact hr _ rfl
 | deep hm hk => rw [k] at hm; exact absurd hm Zdc
theorem asks_rule {n x:Str} (h:(Pt.rule n).Asks x):x = n:=by
 cases h with
 | here => rfl
 | deep hm hk => exact absurd hm Zdc
theorem asks_kid {p:Pt} {x:Str} (h:p.Asks x) (hr:∀ n,p ≠ .rule n):∃ q ∈ p.kids,q.Asks x:=by
 cases h with
 | here => exact absurd rfl (hr _)
 | deep hm hk => exact ⟨_,hm,hk⟩
theorem no_any {x:Str}:¬ Pt.any.Asks x:=asks_leaf rfl (by intros; intro e; cases e)
theorem no_zz {c a b:Nat} {x:Str}:¬ (zzP c a b).Asks x:=fun h => by
 obtain ⟨q,hq,h⟩:=asks_kid h (by intros; intro e; cases e)
 revert h
 refine mem2 (P:=fun q:Pt => ¬ q.Asks x) (asks_leaf rfl (by intros; intro e; cases e)) (mem2 (fun h => ?_) (mem1 fun h => ?_)) q hq
 · obtain ⟨q,hq,h⟩:=asks_kid h (by intros; intro e; cases e)
   exact asks_leaf (p:=.span a b) rfl (by intros; intro e; cases e) (Zj.mp hq ▸ h)
 · obtain ⟨q,hq,h⟩:=asks_kid h (by intros; intro e; cases e)
   revert h
   refine mem2 (P:=fun q:Pt => ¬ q.Asks x) (fun h => ?_) (mem1 (asks_leaf rfl (by intros; intro e; cases e))) q hq
   obtain ⟨q,hq,h⟩:=asks_kid h (by intros; intro e; cases e)
   exact no_any (Zj.mp hq ▸ h)
theorem asks_A {x:Str} (h:(Pt.alt [.rule "zz",.any]).Asks x):x = "zz":=by
 obtain ⟨q,hq,h⟩:=asks_kid h (by intros; intro e; cases e)
 exact mem2 (P:=fun q:Pt => q.Asks x → x = "zz") asks_rule (mem1 fun h => absurd h no_any) q hq h
theorem asks_ring {x n:Str} (h:(Pt.alt [.nt .any,.rule n]).Asks x):x = n:=by
 obtain ⟨q,hq,h⟩:=asks_kid h (by intros; intro e; cases e)
 refine mem2 (P:=fun q:Pt => q.Asks x → x = n) (fun h => ?_) (mem1 asks_rule) q hq h
 obtain ⟨q,hq,h⟩:=asks_kid h (by intros; intro e; cases e)
 exact absurd (Zj.mp hq ▸ h) no_any
theorem tame_zz {c a b:Nat} (hc:isSignC c = true) (ha:isSignC a = true) (hb:isSignC b = true):(zzP c a b).Tame :=
 ⟨⟨trivial,by show 3 < 1000; decide⟩,mem2 (Pt.All.leaf ⟨hc,by show 0 < 1000; decide⟩ rfl) <| mem2 ⟨⟨trivial,by show 1 < 1000; decide⟩,mem1 (Pt.All.leaf ⟨⟨ha,hb⟩,by show 0 < 1000; decide⟩ rfl)⟩ <| mem1 ⟨⟨trivial,by show 2 < 1000; decide⟩,mem2 ⟨⟨trivial,by show 1 < 1000; decide⟩,mem1 (Pt.All.leaf ⟨trivial,by show 0 < 1000; decide⟩ rfl)⟩ <| mem1 (Pt.All.leaf ⟨trivial,by show 0 < 1000; decide⟩ rfl)⟩⟩
theorem tame_A:(Pt.alt [.rule "zz",.any]).Tame:=⟨⟨trivial,by show 2 < 1000; decide⟩,mem2 (Pt.All.leaf ⟨trivial,by show 0 < 1000; decide⟩ rfl) <| mem1 (Pt.All.leaf ⟨trivial,by show 0 < 1000; decide⟩ rfl)⟩
theorem tame_any:Pt.any.Tame:=Pt.All.leaf ⟨trivial,by show 0 < 1000; decide⟩ rfl
theorem tame_odd (own st:Str) {j:Nat} (hj:j < 5):(oddP own st j).2.Tame:=by
 match j,hj with
 | 0,_ => exact Pt.All.leaf ⟨trivial,by show 0 < 1000; decide⟩ rfl
 | 1,_ => exact ⟨⟨trivial,by show 2 < 1000; decide⟩,mem2 ⟨⟨trivial,by show 1 < 1000; decide⟩,mem1 tame_any⟩ <| mem1 (Pt.All.leaf ⟨trivial,by show 0 < 1000; decide⟩ rfl)⟩
 | 2,_ => exact Pt.All.leaf ⟨trivial,by show 0 < 1000; decide⟩ rfl
 | 3,_ => exact Pt.All.leaf ⟨⟨rfl,rfl⟩,by show 0 < 1000; decide⟩ rfl
 | 4,_ => exact tame_any
inductive RA (m:Nat):Nat → List (Str × Pt) → Prop where
 | plain:RA m 0 ((List.range m).map rA)
 | odd (k j:Nat) (st:Str) (hk:k < m) (hj:j < 5) (hs:st ∈ strangers):RA m ([3,4,2,2,2].getD j 0) (((List.range m).map rA).set k (oddP (abN k) st j))
 | twice (x:Str × Pt) (r:List (Str × Pt)) (hl:r.length + 2 = m) (h:∀ y ∈ x :: r,(∃ k,k < m ∧ y = rA k) ∨ ∃ k st,k < m ∧ st ∈ strangers ∧ y = oddP (abN k) st 4):RA m 2 (x :: x :: r)
noncomputable abbrev ins {α:Type} (A:List α) (i:Nat) (z:α):List α:=A.take i ++ [z] ++ A.drop i
theorem ins_mem {α:Type} {A:List α} {i:Nat} {z x:α}:x ∈ ins A i z ↔ x ∈ A ∨ x = z:=by
 unfold ins
 rw [Zm,Zm,Zj]
 conv => rhs; rw [← List.take_append_drop i A,Zm]
 constructor
 · rintro ((h | h) | h)
   · exact .inl (.inl h)
   · exact .inr h
   · exact .inl (.inr h)
 · rintro ((h | h) | h)
   · exact .inl (.inl h)
   · exact .inr h
   · exact .inl (.inr h)
theorem ins_len {α:Type} (A:List α) (i:Nat) (z:α):(ins A i z).length = A.length + 1:=by
 unfold ins
 rw [Zf,Zf,List.length_take,List.length_drop,List.length_cons,List.length_nil]; omega
theorem ins_map {α β:Type} (f:α → β) (A:List α) (i:Nat) (z:α):(ins A i z).map f = ins (A.map f) i (f z):=by
 unfold ins
 rw [Zfc,Zfc,List.map_take,List.map_drop]; rfl
theorem ins_all2 {α β:Type} {R:α → β → Prop} {A:List α} {B:List β} {z:α} {y:β} (h:All2 R A B) (i:Nat) (k:R z y):All2 R (ins A i z) (ins B i y):=((h.take i).append (.cons k .nil)).append (h.drop i)
theorem ins_sub {α:Type} (A:List α) (i:Nat) (z:α):A.Sublist (ins A i z):=by
 conv => lhs; rw [← List.take_append_drop i A]
 exact List.Sublist.append (List.sublist_append_left ..) (List.Sublist.refl _)
noncomputable def nms (m i:Nat) (dp:Bool):List Str:=ins ((List.range m).map abN) i "zz" ++ if dp then [Str.ofString "deep"] else []
theorem nms_all:((List.range 5).all fun m => (List.range (m + 1)).all fun i => [false,true].all fun dp => decide (nms m i dp).Nodup && ((nms m i dp).all isName && strangers.all fun s => !(nms m i dp).contains s)) = true:=by decide +kernel
theorem nms_ok {m i:Nat} (hm:m < 5) (hi:i ≤ m) (dp:Bool):(nms m i dp).Nodup ∧ (∀ n ∈ nms m i dp,isName n = true) ∧ ∀ s ∈ strangers,s ∉ nms m i dp:=by
 have h:=List.all_eq_true.mp (List.all_eq_true.mp (List.all_eq_true.mp nms_all m (List.mem_range.mpr hm)) i (List.mem_range.mpr (Nat.lt_succ_of_le hi))) dp (by cases dp <;> simp)
 rw [Zob,Zob] at h
 refine ⟨Zgb h.1,fun n hn => List.all_eq_true.mp h.2.1 n hn,fun s hs k => ?_⟩
 have:=List.all_eq_true.mp h.2.2 s hs
 rw [List.contains_iff_mem.mpr k] at this
 cases this
theorem rA_map (m:Nat):((List.range m).map rA).map (·.1) = (List.range m).map abN:=by rw [List.map_map]; rfl
theorem set_names {m k:Nat} {y:Str × Pt} (hk:k < m) (hy:y.1 = abN k):(((List.range m).map rA).set k y).map (·.1) = (List.range m).map abN:=by
 rw [List.map_set,rA_map,hy]
 refine List.ext_getElem? fun i => ?_
 by_cases e:k = i
 · subst e
   rw [Zw (by rw [Zc,List.length_range]; exact hk),Zdb,List.getElem?_range hk]; rfl
 · rw [Zi e]
theorem mem_set {m k:Nat} {y x:Str × Pt} (h:x ∈ ((List.range m).map rA).set k y):x = y ∨ ∃ j,j < m ∧ x = rA j:=by
 rcases List.mem_or_eq_of_mem_set h with h | h
 · obtain ⟨j,hj,rfl⟩:=Zsb.mp h
   exact .inr ⟨j,List.mem_range.mp hj,rfl⟩
 · exact .inl h
theorem in_set {m k:Nat} {y:Str × Pt} (hk:k < m):y ∈ ((List.range m).map rA).set k y:=List.mem_set (by rw [Zc,List.length_range]; exact hk) y
end
section
theorem goodR {rs:List (Str × Pt)} (F:Fine7 rs) (h1:1 ≤ rs.length) (hs:∀ r ∈ rs,Shp r) (ha:∀ r ∈ rs,∀ n,r.2.Asks n → n ∈ rs.map (·.1)):GoodRules rs :=
 ⟨h1,F.most,F.nodup,fun r hr => by
   have k:=Bool.and_eq_true_iff.mp (F.all r hr)
   have k2:=Bool.and_eq_true_iff.mp k.2
   exact ⟨k.1,k2.1,Zgb k2.2,(hs r hr).tame.rec fun a _ ih => ⟨a.2,ih⟩,(hs r hr).size,ha r hr⟩⟩
theorem wd_shp {x:Str} {p:Pt} (h:WdOk x) (ht:p.Tame) (hz:p.size < 100000):Shp (x,p):=⟨fun c hc => (h.asc c hc).1,Zk h.len (by decide),ht,hz⟩
section
variable {c a b:Nat} (hc:isSignC c = true) (ha:isSignC a = true) (hb:isSignC b = true)
noncomputable abbrev zR (c a b:Nat):Str × Pt:=(Str.ofString "zz",zzP c a b)
noncomputable abbrev dR (n:Nat):Str × Pt:=(Str.ofString "deep",ntN n)
include hc ha hb in
theorem shp_z:Shp (zR c a b):=wd_shp (wd_lit (by decide +kernel)) (tame_zz hc ha hb) (by show 8 < 100000; decide)
theorem shp_d {n:Nat} (h:n ≤ 41):Shp (dR n):=wd_shp (wd_lit (by decide +kernel)) (tame_ntN n) (by rw [ntN_size]; omega)
theorem shp_y {k:Nat} (h:k < 60):Shp (yN k,Pt.any):=wd_shp (yN_wd h) tame_any (by decide)
theorem shp_A {k:Nat} (h:k < 4):Shp (rA k):=wd_shp (ab_wd h) tame_A (by decide)
theorem shp_o {k j:Nat} {st:Str} (h:k < 4) (hj:j < 5):Shp (oddP (abN k) st j):=by
 have t:=tame_odd (abN k) st hj
 match j,hj with
 | 0,_ => exact wd_shp (ab_wd h) t (by show 1 < 100000; decide)
 | 1,_ => exact wd_shp (ab_wd h) t (by show 4 < 100000; decide)
 | 2,_ => exact wd_shp (ab_wd h) t (by show 1 < 100000; decide)
 | 3,_ => exact wd_shp (ab_wd h) t (by show 1 < 100000; decide)
 | 4,_ => exact wd_shp (abA_wd h) t (by show 1 < 100000; decide)
theorem RA.shp {m due:Nat} {A:List (Str × Pt)} (h:RA m due A) (hm:m < 5):∀ r ∈ A,Shp r:=by
 cases h with
 | plain => intro r hr; obtain ⟨k,hk,rfl⟩:=Zsb.mp hr; exact shp_A (by have:=List.mem_range.mp hk; omega)
 | odd k j st hk hj hs =>
   intro r hr
   rcases mem_set hr with rfl | ⟨j,hj,rfl⟩
   · exact shp_o (by omega) hj
   · exact shp_A (by omega)
 | twice x r hl h =>
   have key:∀ y ∈ x :: r,Shp y:=fun y hy => by
     rcases h y hy with ⟨k,hk,rfl⟩ | ⟨k,st,hk,hs,rfl⟩
     · exact shp_A (by omega)
     · exact shp_o (by omega) (by decide)
   exact mem2 (key x (.head _)) key
theorem RA.len {m due:Nat} {A:List (Str × Pt)} (h:RA m due A):A.length = m:=by
 cases h with
 | plain => rw [Zc,List.length_range]
 | odd k j st hk hj hs => rw [List.length_set,Zc,List.length_range]
 | twice x r hl h => exact hl
noncomputable abbrev allR (A:List (Str × Pt)) (i:Nat) (c a b:Nat) (dp:Bool):List (Str × Pt):=ins A i (zR c a b) ++ if dp then [dR 11] else []
theorem allR_mem {A:List (Str × Pt)} {i:Nat} {dp:Bool} {r:Str × Pt} (h:r ∈ allR A i c a b dp):r ∈ A ∨ r = zR c a b ∨ r = dR 11:=by
 rcases Zm.mp h with h | h
 · exact (ins_mem.mp h).imp id .inl
 · cases dp
   · exact absurd h Zdc
   · exact .inr (.inr (Zj.mp h))
theorem allR_in {A:List (Str × Pt)} {i:Nat} {dp:Bool} {r:Str × Pt} (h:r ∈ A):r ∈ allR A i c a b dp:=Zxb _ (ins_mem.mpr (.inl h))
theorem allR_z {A:List (Str × Pt)} {i:Nat} {dp:Bool}:zR c a b ∈ allR A i c a b dp:=Zxb _ (ins_mem.mpr (.inr rfl))
theorem allR_names {m i:Nat} {A:List (Str × Pt)} {dp:Bool} (hA:A.map (·.1) = (List.range m).map abN):(allR A i c a b dp).map (·.1) = nms m i dp:=by
 unfold allR nms
 rw [Zfc,ins_map,hA]
 cases dp <;> rfl
theorem allR_len {A:List (Str × Pt)} {i:Nat} {dp:Bool}:1 ≤ (allR A i c a b dp).length ∧ (allR A i c a b dp).length ≤ A.length + 2:=by
 unfold allR
 rw [Zf,ins_len]
 cases dp
 · exact ⟨by show 1 ≤ _ + 0; omega,by show _ + 0 ≤ _; omega⟩
 · exact ⟨by show 1 ≤ _ + 1; omega,by show _ + 1 ≤ _; omega⟩
include hc ha hb in
theorem allR_shp {m due i:Nat} {A:List (Str × Pt)} {dp:Bool} (h:RA m due A) (hm:m < 5):∀ r ∈ allR A i c a b dp,Shp r:=fun r hr => by
 rcases allR_mem hr with hr | rfl | rfl
 · exact h.shp hm r hr
 · exact shp_z hc ha hb
 · exact shp_d (by decide)
variable (hab:a ≤ b)
include hc ha hb hab in
theorem allR_fine {m i:Nat} {A:List (Str × Pt)} {dp:Bool} (hm:m < 5) (hi:i ≤ m) (hA:A.map (·.1) = (List.range m).map abN) (hg:∀ r ∈ A,(r.2.good && decide (r.2.deep ≤ 12)) = true):Fine7 (allR A i c a b dp):=by
 have hn:=allR_names (c:=c) (a:=a) (b:=b) (i:=i) (dp:=dp) hA
 have k:=nms_ok hm hi dp
 have hl:A.length = m:=by have:=congrArg List.length hA; rw [Zc,Zc,List.length_range] at this; exact this
 refine ⟨Za allR_len.2 (by omega),hn ▸ k.1,fun r hr => ?_⟩
 have h1:isName r.1 = true:=k.2.1 _ (hn ▸ Zsb.mpr ⟨r,hr,rfl⟩)
 unfold RuOk
 rw [h1,Bool.true_and]
 rcases allR_mem hr with hr | rfl | rfl
 · exact hg r hr
 · show ((isSignC c && ((isSignC a && isSignC b && decide (a ≤ b)) && (true && (true && true && true)))) && _) = true
   rw [hc,ha,hb,Zmb hab]; rfl
 · show ((ntN 11).good && _) = true
   rw [ntN_good,ntN_deep]; rfl
theorem good_A:((Pt.alt [.rule "zz",.any]).good && decide ((Pt.alt [.rule "zz",.any]).deep ≤ 12)) = true:=rfl
theorem zz_in {m i:Nat} {dp:Bool}:Str.ofString "zz" ∈ nms m i dp:=Zxb _ (ins_mem.mpr (.inr rfl))
theorem Rch.first {rs:List (Str × Pt)} {B:Str → Bool} {x y:Str} (h:Rch rs B x y):∃ z,Lead rs B x z:=by
 induction h with
 | one h => exact ⟨_,h⟩
 | more h k ih => exact ih
theorem ab_zz (k:Nat):abN k ≠ Str.ofString "zz":=fun e => by
 have:=congrArg Str.length e
 exact absurd this (by show (1:Nat) ≠ 2; decide)
theorem no_ring {rs:List (Str × Pt)} {c a b:Nat} (h:∀ r ∈ rs,(∃ k,r = rA k) ∨ r = zR c a b ∨ r = dR 11) (B:Str → Bool) (x:Str):¬ Rch rs B x x:=fun hR => by
 have hl:∃ r ∈ rs,x ∈ r.2.ahd B:=hR.last
 obtain ⟨r,hr,hx⟩:=hl
 have hz:x = Str.ofString "zz":=by
   rcases h r hr with ⟨k,rfl⟩ | rfl | rfl
   · exact Zj.mp hx
   · exact absurd hx Zdc
   · exact absurd hx (by rw [ntN_ahd]; exact Zdc)
 obtain ⟨z,r',hr',e,hz'⟩:=hR.first
 rcases h r' hr' with ⟨k,rfl⟩ | rfl | rfl
 · exact ab_zz k (e.trans hz)
 · exact absurd hz' Zdc
 · exact absurd hz' (by rw [ntN_ahd]; exact Zdc)
theorem not_fine {rs:List (Str × Pt)} {r:Str × Pt} (hr:r ∈ rs) (h:RuOk r = false):¬ Fine7 rs:=fun F => Zv (h.symm.trans (F.all r hr))
theorem odd_bad {k j:Nat} {st:Str} (hk:k < 4) (hj:j < 5) (h2:2 ≤ j):RuOk (oddP (abN k) st j) = false:=by
 match j,hj,h2 with
 | 2,_,_ => exact Bool.and_false _
 | 3,_,_ => exact Bool.and_false _
 | 4,_,_ =>
   show (isName (abN k ++ Str.ofString "A") && _) = false
   rw [show isName (abN k ++ Str.ofString "A") = false from by
     match k,hk with
     | 0,_ | 1,_ | 2,_ | 3,_ => decide +kernel]
   rfl
include hc ha hb hab in
theorem out_all {m due i:Nat} {A:List (Str × Pt)} {dp:Bool} (hm:m < 5) (hi:i ≤ m) (h:RA m due A):Out7 (allR A i c a b dp) due:=by
 have hs:=allR_shp hc ha hb (i:=i) (dp:=dp) h hm
 cases h with
 | plain =>
   have hn:=rA_map m
   have hg:∀ r ∈ (List.range m).map rA,(r.2.good && decide (r.2.deep ≤ 12)) = true:=fun r hr => by
     obtain ⟨k,hk,rfl⟩:=Zsb.mp hr; exact good_A
   have F:=allR_fine hc ha hb hab (dp:=dp) hm hi hn hg
   refine .good (goodR F allR_len.1 hs fun r hr n hk => ?_) fun B r hr => no_ring (c:=c) (a:=a) (b:=b) (fun r hr => ?_) B _
   · rw [allR_names hn]
     rcases allR_mem hr with hr | rfl | rfl
     · obtain ⟨k,hk',rfl⟩:=Zsb.mp hr
       exact asks_A hk ▸ zz_in
     · exact absurd hk no_zz
     · exact absurd hk (ntN_asks 11)
   · rcases allR_mem hr with hr | hr | hr
     · obtain ⟨k,hk',rfl⟩:=Zsb.mp hr
       exact .inl ⟨k,rfl⟩
     · exact .inr (.inl hr)
     · exact .inr (.inr hr)
 | odd k j st hk hj hst =>
   match j,hj with
   | 0,_ =>
     have hn:=set_names (y:=oddP (abN k) st 0) hk rfl
     have F:=allR_fine hc ha hb hab (dp:=dp) hm hi hn fun r hr => by
       rcases mem_set hr with rfl | ⟨j,hj,rfl⟩
       · rfl
       · exact good_A
     refine .rule F ⟨_,allR_in (in_set hk),st,.here,?_⟩
     rw [allR_names hn]
     exact (nms_ok hm hi dp).2.2 st hst
   | 1,_ =>
     have hn:=set_names (y:=oddP (abN k) st 1) hk rfl
     have F:=allR_fine hc ha hb hab (dp:=dp) hm hi hn fun r hr => by
       rcases mem_set hr with rfl | ⟨j,hj,rfl⟩
       · rfl
       · exact good_A
     refine .ring (goodR F allR_len.1 hs fun r hr n hk' => ?_) fun B => ⟨_,allR_in (in_set hk),.one ⟨_,allR_in (in_set hk),rfl,.head _⟩⟩
     rw [allR_names hn]
     rcases allR_mem hr with hr | rfl | rfl
     · rcases mem_set hr with rfl | ⟨j,hj,rfl⟩
       · rw [asks_ring hk']
         exact Zxb _ (ins_mem.mpr (.inl (Zsb.mpr ⟨k,List.mem_range.mpr hk,rfl⟩)))
       · exact asks_A hk' ▸ zz_in
     · exact absurd hk' no_zz
     · exact absurd hk' (ntN_asks 11)
   | 2,h' => exact .bad (not_fine (allR_in (in_set hk)) (odd_bad (by omega) h' (by decide)))
   | 3,h' => exact .bad (not_fine (allR_in (in_set hk)) (odd_bad (by omega) h' (by decide)))
   | 4,h' => exact .bad (not_fine (allR_in (in_set hk)) (odd_bad (by omega) h' (by decide)))
 | twice x r hl h =>
   refine .bad fun F => ?_
   have hsub:((x :: x :: r).map (·.1)).Sublist ((allR (x :: x :: r) i c a b dp).map (·.1)):=((ins_sub _ _ _).trans (List.sublist_append_left ..)).map _
   have:=F.nodup.sublist hsub
   exact (Zxc.mp this).1 (.head _)
end
end
end Mine
namespace Mine
open PySem PySem.W PyProof.Rows
section
noncomputable abbrev T07 (w:World) (s:Shared):Tp:=tpOf PySem.Challenge.rw_uf010010_07.row.prog w s (hd07.heap_39 w.params)
variable {w:World} {s:Shared} {d:Nat} {X:QX} {Q:QE} {σ:Hp}
theorem sign_parts {c:Nat} (hc:isSignC c = true) (h2:(c == 10) = false) (h3:(c == 9) = false):decide ((32:Int) ≤ c) = true ∧ decide ((c:Int) ≤ 126) = true ∧ ((c:Int) != 37) = true:=by
 unfold isSignC at hc
 rw [h2,h3,Bool.false_or,Bool.false_or] at hc
 have h:=Bool.and_eq_true_iff.mp hc
 have g:=Bool.and_eq_true_iff.mp h.1
 exact ⟨Zmb (Zhc.mpr (Zgb g.1)),Zmb (Zhc.mpr (Zgb g.2)),bne_iff_ne.mpr fun e => bne_iff_ne.mp h.2 (Int.ofNat_inj.mp e)⟩
theorem fn_is_sign (TO:TopOk (T07 w s)) {c:Nat} (hc:isSignC c = true) (q:Q (.bool true) σ):CallOk (T07 w s) (d + 1) X (.glob "is_sign") [.str ⟨#[c]⟩] Q σ:=by
 refine CallOk.go TO rfl rfl ?_
 refine Cal.isi (b:=true) rfl <| Cal.len (n:=1) rfl (by decide) <| Br.mk (fun zz => q) fun h2 => Br.mk (fun zz => q) fun h3 => Cal.ord ?_
 have h:=sign_parts hc (beq_ch.symm.trans h2) (beq_ch.symm.trans h3)
 exact Br.t h.1 <| Br.t h.2.1 <| Cal.ord (show Q (.bool ((c:Int) != 37)) σ from h.2.2.symm ▸ q)
end
section
variable {w:World} {s:Shared} {d:Nat} {X:QX} {Q:QE} {σ:Hp}
theorem fmod_range {a b:Int} (hb:0 < b):0 ≤ a.fmod b ∧ a.fmod b < b:=⟨Int.fmod_nonneg_of_pos a hb,Int.fmod_lt_of_pos a hb⟩
set_option tactic.hygienic true in
theorem idx_at {S:Str} {n:Nat} {P:Nat → Nat → Bool} (h:(List.range n).all (fun j => match S.cps[j]? with | some c => P j c | none => false) = true) (hl:S.length = n) {k:Int} (h0:0 ≤ k) (h1:k < n):∃ c,P k.toNat c = true ∧ (seqIndex? k S.length).bind (S.cps[·]?) = some c:=by
 have hj:=List.all_eq_true.mp h k.toNat (by rw [List.mem_range]; (clear h hl; lia))
 have e:seqIndex? k S.length = some k.toNat:=by
   have hk:¬ k < 0:=by (clear h1 hj h hl; lia)
   unfold seqIndex?
   simp only [hk,if_false]
   rw [if_pos (by simp only [Zob,decide_eq_true_eq]; (clear hj hk h; lia))]
 rw [e]
 split at hj
 · rename_i c hc
   exact ⟨c,hj,hc⟩
 · cases hj
theorem item_letter {k:Int} {Q:QE} {σ:Hp} (h0:0 ≤ k) (h1:k < 26) (q:Q (.str (S [97 + k.toNat])) σ):Itm (.str (Str.ofString "abcdefghijklmnopqrstuvwxyz")) (.int k) Q σ:=by
 obtain ⟨c,hc,e⟩:=idx_at (S:=Str.ofString "abcdefghijklmnopqrstuvwxyz") (n:=26) (P:=fun j c => decide (c = 97 + j)) (by decide +kernel) (by decide +kernel) h0 h1
 rw [decide_eq_true_iff] at hc
 subst hc
 exact ⟨_,.str _ _ _ e ⟨by (clear q e h1; lia),by (clear q e h0; lia)⟩,q⟩
theorem item_signC {S₀:Str} {n:Nat} {k:Int} {Q:QE} {σ:Hp} (h0:0 ≤ k) (h1:k < n) (hn:n < 1000) (q:∀ c,isSignC c = true → Q (.str (S [c])) σ) (h:(List.range n).all (fun j => match S₀.cps[j]? with | some c => isSignC c | none => false) = true) (hl:S₀.length = n):Itm (.str S₀) (.int k) Q σ:=by
 obtain ⟨c,hc,e⟩:=idx_at (P:=fun zz c => isSignC c) h hl h0 h1
 exact ⟨_,.str _ _ c e ⟨by (clear q h hl e h1 hn; lia),by (clear q h hl e h0; lia)⟩,q c hc⟩
theorem item_at {l:Nat} {vs:List V} {j:Nat} {v:V} {k:Int} {Q:QE} {σ:Hp} (hl:σ[l]? = some (.list vs)) (hk:k = j) (hj:vs[j]? = some v) (hb:vs.length < 2 ^ 62) (q:Q v σ):itemVC (.ref l) (.int k) Q σ:=by
 obtain ⟨h1,zz⟩:=Zb.mp hj
 subst hk
 refine ⟨v,.list _ vs _ j v hl ?_ hj ⟨by (clear hb hl hj; exact Int.NonNeg.mk (j + Nat.succ 9223372036854775807)),by (clear hl hj; lia)⟩,q⟩
 unfold seqIndex?
 simp only [show ¬ ((j:Int) < 0) by (clear hb hl hj; lia),if_false]
 rw [if_pos (by simp only [Zob,decide_eq_true_eq]; (clear hb hl hj; lia))]
 simp
theorem rng_at {n i:Nat} {y:V} (h:((List.range n).map fun (k:Nat) => V.int k)[i]? = some y):i < n ∧ y = .int i:=by
 rw [Zdb,Zpb] at h
 obtain ⟨j,hj,rfl⟩:=h
 obtain ⟨h1,h2⟩:=Zb.mp hj
 rw [List.getElem_range] at h2
 subst h2
 exact ⟨by simpa using h1,rfl⟩
theorem rng_iter {n:Int} {σ:Hp} (h0:0 ≤ n) (h:n < 2 ^ 62):iterV σ (.rng n) = some ((List.range n.toNat).map fun (k:Nat) => V.int k):=by
 exact if_pos ⟨by (clear h; lia),h⟩
theorem getD_lt {xs:List Int} {k:Int} (h0:0 ≤ k) (h:k < xs.length):xs[k.toNat]? = some (xs.getD k.toNat 0):=by
 have:k.toNat < xs.length:=by lia
 simp [List.getD_eq_getElem?_getD,this]
theorem getD_ge {xs:List Int} {k:Int} (h:¬ k < xs.length):xs.getD k.toNat 0 = 0:=by
 rw [List.getD_eq_getElem?_getD,List.getElem?_eq_none (by lia)]; rfl
theorem fn_cell_at (TO:TopOk (T07 w s)) {xs:List Int} {k:Int} (h0:0 ≤ k) (hk:k < 2 ^ 62) (hx:xs.length < 2 ^ 62) (q:Q (.int (xs.getD k.toNat 0)) σ):CallOk (T07 w s) (d + 1) X (.glob "_law_cell_at") [.scr xs,.int k] Q σ:=by
 refine CallOk.go TO rfl rfl ?_
 refine Cal.len rfl hx (Br.mk (fun h => Itm.mk ⟨_,.scr _ _ _ h0 (Int.lt_trans hk (by decide)) (getD_lt h0 (Zgb h)),q⟩) fun h => ?_)
 rw [getD_ge (of_decide_eq_false h)] at q
 exact q
theorem fn_sign_by (TO:TopOk (T07 w s)) {k:Int} (q:∀ c,isSignC c = true → Q (.str (S [c])) σ):CallOk (T07 w s) (d + 1) X (.glob "_law_sign_by") [.int k] Q σ:=by
 refine CallOk.go TO rfl rfl ?_
 have r:=fmod_range (a:=k) (b:=96) (by decide)
 exact Bin.cat (by decide +kernel) (item_signC (n:=96) r.1 r.2 (by decide) q (by decide +kernel) (by decide +kernel))
end
section
variable {w:World} {s:Shared} {d:Nat} {X:QX} {Q:QE} {σ:Hp}
theorem itemG.tag {p:Pt} (q:Q (.str p.word) σ):itemG p.v (.int 0) Q σ:=by cases p <;> exact q
theorem Pt.tag_rule {p:Pt} (h:(p.word == ("rule" : Str)) = true):∃ n,p = .rule n:=by
 cases p <;> first | exact ⟨_,rfl⟩ | exact (Zv h).elim
theorem itemG.rule {p:Pt} {n:Str} (h:p = .rule n) (q:Q (.str n) σ):itemG p.v (.int 1) Q σ:=by subst h; exact q
set_option tactic.hygienic true in
theorem fn_within (TO:TopOk (T07 w s)) {p:Pt} (hn:p.kids.length ≤ sizeLine) (q:Q (.ref σ.length) (σ ++ [.list (p.kids.map Pt.v)])):CallOk (T07 w s) (d + 1) X (.glob "within") [p.v] Q σ:=by
 refine CallOk.go TO rfl rfl ?_
 cases p with
 | row ps => exact Cal.list (vs:=Pt.vs ps) rfl (by rw [Pt.vs_map,Zc]; exact hn) (by rw [Pt.vs_map]; exact q)
 | alt ps => exact Cal.list (vs:=Pt.vs ps) rfl (by rw [Pt.vs_map,Zc]; exact hn) (by rw [Pt.vs_map]; exact q)
 | _ => exact q
noncomputable def Pt.leaf:Pt → Prop
 | .row _ | .alt _ | .many _ | .nt _ => False
 | z1 => True
theorem fn_leaf_ok (TO:TopOk (T07 w s)) {p:Pt} (hg:p.sgB) (hw:p.leaf) (q:Q (.bool p.good) σ):CallOk (T07 w s) (d + 2) X (.glob "is_leaf") [p.v] Q σ:=by
 refine CallOk.go TO rfl rfl ?_
 have sg:∀ {c:Nat} {Q:QE},isSignC c = true → Q (.bool true) σ → Cal (T07 w s) (d + 1) X (.glob "is_sign") [.str ⟨#[c]⟩] Q σ:=fun {c Q} hc q => ⟨fn_is_sign TO hc q⟩
 cases p with
 | any => exact Cal.lenT rfl q
 | sign c => exact Cal.lenT rfl (sg hg (show Q (.bool true) σ from (show isSignC c = true from hg) ▸ q))
 | rule n => exact Cal.lenT rfl (Cal.isi rfl q)
 | span a b =>
   have h2:isSignC a = true ∧ isSignC b = true:=hg
   refine Cal.lenT rfl (sg h2.1 (sg h2.2 (Cal.ord (Cal.ord ?_))))
   have q:Q (.bool (isSignC a && isSignC b && decide (a ≤ b))) σ:=q
   rw [h2.1,h2.2,Bool.true_and,Bool.true_and] at q
   show Q (.bool (decide ((a:Int) ≤ b))) σ
   rw [show decide ((a:Int) ≤ b) = decide (a ≤ b) from by rw [Bool.eq_iff_iff,decide_eq_true_eq,decide_eq_true_eq]; exact Zhc]; exact q
 | row ps => exact hw.elim
 | alt ps => exact hw.elim
 | many p => exact hw.elim
 | nt p => exact hw.elim
theorem vs_at {ps:List Pt} {i:Nat} {x:V} (h:(Pt.vs ps)[i]? = some x):∃ p,ps[i]? = some p ∧ x = p.v:=by
 rw [Pt.vs_map,Zdb,Zpb] at h
 obtain ⟨p,hp,rfl⟩:=h
 exact ⟨p,hp,rfl⟩
theorem ne_nil {α:Type} {ps:List α} (h:(!ps.isEmpty) = true):((ps.length:Int) == 0) = false:=by
 cases ps with
 | nil => cases h
 | cons a r => exact Zmc.mpr fun e => nomatch Int.ofNat_inj.mp e
theorem goods_all (n:Nat) (ps:List Pt):(ps.all fun k => k.good && decide (k.deep ≤ n)) = (Pt.goods ps && decide (Pt.deeps ps ≤ n)):=by
 induction ps with
 | nil => rw [Pt.goods1,Pt.deeps1,Zmb (Zkb n)]; rfl
 | cons a r ih =>
   rw [List.all_cons,ih,Pt.goods2,Pt.deeps2,Bool.eq_iff_iff]
   simp only [Zob,decide_eq_true_eq,Nat.max_le]
   exact ⟨fun h => ⟨⟨h.1.1,h.2.1⟩,h.1.2,h.2.2⟩,fun h => ⟨⟨h.1.1,h.2.1⟩,h.1.2,h.2.2⟩⟩
theorem all_no {α:Type} {f:α → Bool} {ps:List α} {i:Nat} {k:α} (h:ps[i]? = some k) (hb:(!f k) = true):ps.all f = false:=by
 rw [List.all_eq_false]; exact ⟨k,Zn h,by cases hf:f k; exact Zv; rw [hf] at hb; cases hb⟩
theorem all_next {α:Type} {f:α → Bool} {ps:List α} {i:Nat} {k:α} (h:ps[i]? = some k) (h2:(ps.take i).all f = true) (hb:(!f k) = false):(ps.take (i + 1)).all f = true:=by
 rw [take_next h,List.all_append,h2,List.all_cons,List.all_nil,Bool.and_true,Bool.true_and]
 cases hf:f k
 · rw [hf] at hb; cases hb
 · rfl
theorem fn_is_part (TO:TopOk (T07 w s)):∀ (n:Nat) (p:Pt) {X:QX} {Q:QE} {σ:Hp},p.Tame → Q (.bool (p.good && decide (p.deep ≤ n))) σ → CallOk (T07 w s) (d + n + 2) X (.glob "is_part") [p.v,.int n] Q σ:=by
 intro n
 induction n with
 | zero =>
   intro p X Q σ hf q
   rw [Zrc (Nat.not_le.mpr (Zz Nat.zero_lt_one (Pt.deep_pos p))),Bool.and_false] at q
   refine CallOk.go (d:=d + 1) TO rfl rfl ?_
   cases p <;> exact q
 | succ n ih =>
   intro p X Q σ hf q
   obtain ⟨⟨hsg,hfk⟩,hfc⟩:=hf
   have hkl:p.kids.length < 1000:=hfk
   have kid:∀ k ∈ p.kids,∀ {Q:QE} {σ:Hp},Q (.bool (k.good && decide (k.deep ≤ n))) σ → Cal (T07 w s) (d + n + 2) X (.glob "is_part") [k.v,.int (((n + 1:Nat):Int) - 1)] Q σ:=fun k hk {Q σ} q =>
     (Int.add_sub_cancel (n:Int) 1).symm ▸ ⟨ih k (hfc k hk) q⟩
   have lf:p.deep = 1 → Q (.bool p.good) σ:=fun h => by rw [h,Zmb (Zwb (Zkb n)),Bool.and_true] at q; exact q
   clear ih hfc hfk
   have up:∀ m:Nat,decide (m + 1 ≤ n + 1) = decide (m ≤ n):=fun m => by rw [Bool.eq_iff_iff,decide_eq_true_eq,decide_eq_true_eq]; exact Nat.succ_le_succ_iff
   refine CallOk.go TO rfl rfl ?_
   cases p with
   | many k =>
     rw [Pt.good7,Pt.deep3,up] at q
     exact Cal.isi rfl <| Cal.lenT rfl <| Cal.isi rfl <| Cal.lenT rfl <| kid k (Zj.mpr rfl) q
   | nt k =>
     rw [Pt.good8,Pt.deep4,up] at q
     exact Cal.isi rfl <| Cal.lenT rfl <| Cal.isi rfl <| Cal.lenT rfl <| kid k (Zj.mpr rfl) q
   | row ps =>
     rw [Pt.good5,Pt.deep1,up,← goods_all] at q
     refine Cal.isi rfl <| Cal.lenT rfl <| Cal.isi rfl <| Cal.lenT rfl <| Cal.isi rfl ⟨_,fun i ρ' σ' => Has ρ' [("room",.int ((n + 1:Nat):Int))] ∧ σ' = σ ∧ (ps.take i).all (fun k => k.good && decide (k.deep ≤ n)) = true,⟨⟨rfl,trivial⟩,rfl,rfl⟩,fun i ρ' σ' zz => rfl,fun ρ' σ' h => ?_,fun i x ρ' σ' hJ hx => (vs_at hx).elim fun k hk => ?_⟩
     · have h3:=h.2.2
       rw [Pt.vs_map,Zc,Zgc] at h3
       rw [h3] at q
       exact h.2.1 ▸ q
     · apply eq_to hk.2
       apply eq_to hJ.2.1
       apply Has.on hJ.1
       exact ⟨_,rfl,vB_ok TO rfl 60 _ _ _ _ (kid k (Zn hk.1) <| Br.mk (fun hb => (show Q (.bool false) σ from all_no (f:=fun k:Pt => k.good && decide (k.deep ≤ n)) hk.1 hb ▸ q)) fun hb => ⟨⟨rfl,trivial⟩,rfl,all_next hk.1 hJ.2.2 hb⟩)⟩
   | alt ps =>
     rw [Pt.good6,Pt.deep2,up,Bool.and_assoc,← goods_all] at q
     refine Cal.isi rfl <| Cal.lenT rfl <| Cal.isi rfl <| Cal.lenT rfl <| Cal.isi rfl <| Cal.len (n:=ps.length) (len_tup (by rw [Pt.vs_map,Zc])) (Nat.lt_trans hkl (by decide)) ?_
     cases hps:ps.isEmpty
     · rw [hps,Bool.not_false,Bool.true_and] at q
       refine Br.f (ne_nil (by rw [hps]; rfl)) ⟨_,fun i ρ' σ' => Has ρ' [("room",.int ((n + 1:Nat):Int))] ∧ σ' = σ ∧ (ps.take i).all (fun k => k.good && decide (k.deep ≤ n)) = true,⟨⟨rfl,trivial⟩,rfl,rfl⟩,fun i ρ' σ' zz => rfl,fun ρ' σ' h => ?_,fun i x ρ' σ' hJ hx => (vs_at hx).elim fun k hk => ?_⟩
       · have h3:=h.2.2
         rw [Pt.vs_map,Zc,Zgc] at h3
         rw [h3] at q
         exact h.2.1 ▸ q
       · apply eq_to hk.2
         apply eq_to hJ.2.1
         apply Has.on hJ.1
         exact ⟨_,rfl,vB_ok TO rfl 60 _ _ _ _ (kid k (Zn hk.1) <| Br.mk (fun hb => (show Q (.bool false) σ from all_no (f:=fun k:Pt => k.good && decide (k.deep ≤ n)) hk.1 hb ▸ q)) fun hb => ⟨⟨rfl,trivial⟩,rfl,all_next hk.1 hJ.2.2 hb⟩)⟩
     · rw [hps,Bool.not_true,Bool.false_and] at q
       refine Br.t ?_ q
       cases ps with
       | nil => rfl
       | cons a r => cases hps
   | any => exact Cal.isi rfl <| Cal.lenT rfl <| Cal.isi rfl <| Cal.mk <| fn_leaf_ok (d:=d + n) (p:=.any) TO hsg trivial (lf rfl)
   | sign c => exact Cal.isi rfl <| Cal.lenT rfl <| Cal.isi rfl <| Cal.mk <| fn_leaf_ok (d:=d + n) (p:=.sign c) TO hsg trivial (lf rfl)
   | rule c => exact Cal.isi rfl <| Cal.lenT rfl <| Cal.isi rfl <| Cal.mk <| fn_leaf_ok (d:=d + n) (p:=.rule c) TO hsg trivial (lf rfl)
   | span a b => exact Cal.isi rfl <| Cal.lenT rfl <| Cal.isi rfl <| Cal.mk <| fn_leaf_ok (d:=d + n) (p:=.span a b) TO hsg trivial (lf rfl)
end
section
variable {w:World} {s:Shared} {d:Nat} {X:QX} {Q:QE} {σ:Hp}
theorem Pt.sizes_len:∀ st:List Pt,st.length ≤ Pt.sizes st
 | [] => Zkb _
 | a :: r => Za (Nat.add_le_add (Pt.sizes_len r) (Pt.size_pos a)) (Zr (Nat.add_comm ..))
theorem sz5 {a b c n:Nat} (h:a ≤ b) (g:c + b ≤ n) (k:n < 100000):a < 100000:=Zk (Za h (Za (Nat.le_add_left ..) g)) k
theorem sz6 {n:Nat} (h:n < 100000):n < sizeLine:=Zz h (szo (by decide))
inductive J07f (p:Pt) (σ:Hp) (n:Nat) (ρ':Loc) (σ':Hp):Prop where
 | mk (ns:List Str) (st:List Pt) (junk:Hp) (q0:n = Pt.sizes st) (q1:ns.length + Pt.sizes st ≤ p.size) (q2:∀ n ∈ ns,p.Asks n) (q3:∀ t ∈ st,Pt.All Pt.few t ∧ ∀ n,t.Asks n → p.Asks n) (q4:∀ n,p.Asks n → n ∈ ns ∨ ∃ t ∈ st,t.Asks n)
     (q5:σ' = σ ++ .list (ns.map .str) :: .list (st.map Pt.v) :: junk) (q6:Has ρ' [("found",.ref σ.length),("waiting",.ref (σ.length + 1))]):J07f p σ n ρ' σ'
theorem Pt.asks_kids {t:Pt} {n:Str} (h:t.Asks n):t = .rule n ∨ ∃ k ∈ t.kids,k.Asks n:=by
 cases h with
 | here => exact .inl rfl
 | deep hm hk => exact .inr ⟨_,hm,hk⟩
theorem Pt.All.out {P:Pt → Prop} {p:Pt} (h:Pt.All P p):P p ∧ ∀ q ∈ p.kids,Pt.All P q:=h.rec fun a b zz => ⟨a,b⟩
theorem sz7 {a b i k t n:Nat} (h2:a ≤ b + 1) (h:k < t) (g:b + (i + t) ≤ n):a + (i + k) ≤ n:=Za (Nat.add_le_add_right h2 _) (Za (Zr (Nat.succ_add_eq_add_succ b (i + k))) (Za (Nat.add_le_add_left (Nat.add_lt_add_left h i) b) g))
theorem fn_rules_in (TO:TopOk (T07 w s)) {p:Pt} (hfew:Pt.All Pt.few p) (hs:p.size < 100000) (q:∀ (ns:List Str) (junk:Hp),(∀ n,n ∈ ns ↔ p.Asks n) → ns.length ≤ p.size → Q (.ref σ.length) (σ ++ .list (ns.map .str) :: junk)):CallOk (T07 w s) (d + 2) X (.glob "rules_in") [p.v] Q σ:=by
 refine CallOk.go TO rfl rfl ?_
 refine Stx.mk <| StOk.while (J07f p σ) p.size ⟨[],[p],[],rfl,Zr (Nat.zero_add _),(by intros; contradiction),fun t ht => by cases Zj.mp ht; exact ⟨hfew,fun zz h => h⟩,fun n hn => .inr ⟨p,.head _,hn⟩,Ze ..,⟨rfl,congrArg (fun n => some (V.ref n)) Zf,trivial⟩⟩ ?_
 refine fun n ρ' σ' hJ => hJ.rec fun ns st junk hn hsz hns hst hall hσ hρ => ?_
 apply Has.on hρ
 have hsl:=Pt.sizes_len st
 refine (List.eq_nil_or_concat st).elim (fun es => ?_) fun hh => hh.elim fun init hh => hh.elim fun t es => ?_
 · rw [es] at hσ hall hsz
   apply eq_to hσ
   exact vT_ok TO rfl 40 10 _ _ _ <| tvc.of (b:=false) (truth_list get1 (by decide)) <| ite_no (by decide) <| q ns _ (fun n => ⟨hns n,fun hn => (hall n hn).elim id fun h => h.elim fun t h => absurd h.1 Zdc⟩) hsz
 rw [List.concat_eq_append] at es
 rw [es] at hsz hst hall hσ hn hsl
 apply eq_to hσ
 refine vT_ok TO rfl 40 10 _ _ _ <| tvc.of (b:=true) (truth_cons get1 (by rw [Zc]; exact Nat.lt_trans (sz5 hsl hsz hs) (by decide)) (by simp)) <| ite_yes rfl ?_
 have hsz1:Pt.sizes (init ++ [t]) = Pt.sizes init + t.size:=Pt.sizes_append ..
 have hil:=Pt.sizes_len init
 have hst':=hst t (Zyb _ (Zj.mpr rfl))
 have hta:=hst'.2
 have hfk:=hst'.1.out.1
 have hfc:=hst'.1.out.2
 have htp:=Pt.size_pos t
 have hkl:t.kids.length < 1000:=hfk
 have hks:=Pt.kids_size t
 refine vB_ok TO rfl 60 _ _ _ _ <| MethOk.pop get1 <| Cal.mk <| CallOk.pop (v:=t.v) (vs:=init.map Pt.v) (by rw [get1,Zfc]; rfl) (by rw [Zc]; exact sz6 (sz5 hil (Za (Nat.add_le_add_left (hsz1 ▸ Zy ..) _) hsz) hs)) ?_
 rw [set1]
 have fin:∀ {ns':List Str},(∀ n ∈ ns',p.Asks n) → ns'.length ≤ ns.length + 1 → (∀ n ∈ ns,n ∈ ns') → (∀ n,t = .rule n → n ∈ ns') → ∃ m,m < n ∧ J07f p σ m (locs ρ' [("found",.ref σ.length),("waiting",.ref (σ.length + 1))] |> fun ρ => upd ρ "one" (some t.v)) (σ ++ .list (ns'.map .str) :: .list ((init ++ t.kids).map Pt.v) :: (junk ++ [.list (t.kids.map Pt.v)])):=fun {ns'} h1 h2 h3 h4 =>
   ⟨Pt.sizes (init ++ t.kids),by rw [hn,hsz1,Pt.sizes_append]; exact Nat.add_lt_add_left hks _,ns',init ++ t.kids,_,rfl,by rw [Pt.sizes_append]; exact sz7 h2 hks (hsz1 ▸ hsz),h1,fun u hu => (Zm.mp hu).elim (fun hu => hst u (Zxb _ hu)) fun hu => ⟨hfc u hu,fun n hn => hta n (.deep hu hn)⟩,
     fun n hn => (hall n hn).elim (fun h => .inl (h3 n h)) fun ⟨u,hu,hn⟩ => (Zm.mp hu).elim (fun hu => .inr ⟨u,Zxb _ hu,hn⟩) fun hu => by
       cases Zj.mp hu
       exact (Pt.asks_kids hn).elim (fun h => .inl (h4 n h)) fun hh1 => by obtain ⟨k,hk,hn⟩:=hh1; exact .inr ⟨k,Zyb _ hk,hn⟩,rfl,⟨rfl,rfl,trivial⟩⟩
 have fin2:∀ {ns':List Str} {K:QE},(K .none (σ ++ .list (ns'.map .str) :: .list ((init ++ t.kids).map Pt.v) :: (junk ++ [.list (t.kids.map Pt.v)]))) → Cal (T07 w s) (d + 1) X (.bi "list.extend") [.ref (σ.length + 1),.ref (σ ++ .list (ns'.map .str) :: .list (init.map Pt.v) :: junk).length] K ((σ ++ .list (ns'.map .str) :: .list (init.map Pt.v) :: junk) ++ [.list (t.kids.map Pt.v)]):=fun {ns' K} k =>
   ⟨CallOk.extend (vs:=init.map Pt.v) (us:=t.kids.map Pt.v) (by rw [Ze]; exact get1) get_new (by rw [Zc,Zc]; exact szo (Za (Nat.add_le_add (Zq (sz5 hil (Za (Nat.add_le_add_left (hsz1 ▸ Zy ..) _) hsz) hs)) (Zq hkl)) (by decide))) (by
     rw [Ze,List.cons_append,List.cons_append,set1,← Zfc]; exact k)⟩
 have wi:∀ {σ':Hp} {K:QE},K (.ref σ'.length) (σ' ++ [.list (t.kids.map Pt.v)]) → Cal (T07 w s) (d + 1) X (.glob "within") [t.v] K σ':=fun {σ' K} k => ⟨fn_within TO (szo (by (clear k fin fin2 q hks; exact Zq (Nat.lt_trans hfk (Nat.le_add_left (Nat.succ 1000) 16776215))))) k⟩
 refine itemG.tag <| Br.mk (fun h => ?_) fun h => ?_
 · refine (Pt.tag_rule h).elim fun n hn => ?_
   refine MethOk.append get0 <| itemG.rule hn <| Cal.mk <| CallOk.append (vs:=ns.map .str) get0 (by rw [Zc]; exact Zq (sz6 (Zk (Za (Zy ..) hsz) hs))) ?_
   rw [set0,show ns.map V.str ++ [V.str n] = (ns ++ [n]).map V.str by simp]
   exact MethOk.extend get1 <| wi <| fin2 <| fin (fun m hm => (Zm.mp hm).elim (hns m) fun h => by cases Zj.mp h; exact hta _ (hn ▸ .here)) (by simp) (fun m hm => Zxb _ hm) fun m hm => by rw [hn] at hm; cases hm; simp
 · exact MethOk.extend get1 <| wi <| fin2 <| fin hns (Nat.le_succ _) (fun zz h => h) fun n e => by rw [e] at h; exact (Zv h.symm).elim
end
section
variable {w:World} {s:Shared} {d:Nat} {X:QX} {Q:QE} {σ:Hp}
theorem Cmp.strs {neg b:Bool} {x y:Str} (h:strIn x y = b) (q:Q (.bool (neg != b)) σ):Cmp (if neg then .NotIn else .In) (.str x) (.str y) Q σ:=.inR (h ▸ .str x y) q
theorem map_at {α:Type} {f:α → V} {rs:List α} {i:Nat} {x:V} (h:(rs.map f)[i]? = some x):∃ r,rs[i]? = some r ∧ x = f r:=by
 rw [Zdb,Zpb] at h
 obtain ⟨r,hr,rfl⟩:=h
 exact ⟨r,hr,rfl⟩
theorem Cmp.met {neg:Bool} {n:Str} {l:Nat} {ns:List Str} (hl:σ[l]? = some (.sdict (metKV ns))) (q:Q (.bool (neg != decide (n ∈ ns))) σ):Cmp (if neg then .NotIn else .In) (.str n) (.ref l) Q σ:=.inR (.dict _ _ _ hl) (by rw [metKV_any]; exact q)
theorem letters_all:((List.range 128).all fun c => strIn ⟨#[c]⟩ (Str.ofString "abcdefghijklmnopqrstuvwxyz") == isLetter c) = true:=by decide +kernel
theorem letter_iff {c:Nat} (h:c < 128):strIn ⟨#[c]⟩ (Str.ofString "abcdefghijklmnopqrstuvwxyz") = isLetter c:=eq_of_beq (List.all_eq_true.mp letters_all c (by simpa using h))
theorem name_end {x:Str} (h1:1 ≤ x.length) (h2:x.length ≤ 12):((((x.cps.toList.filter fun c => !isLetter c).map fun c => V.str ⟨#[c]⟩).length:Int) == 0) = isName x:=by
 unfold isName
 rw [Zmb h1,Zmb h2,Bool.true_and,Bool.true_and,Zc,Bool.eq_iff_iff,beq_iff_eq,List.all_eq_true]
 constructor
 · intro h c hc
   have h':(x.cps.toList.filter fun c => !isLetter c).length = 0:=Int.ofNat_inj.mp h
   have:=List.filter_eq_nil_iff.mp (List.length_eq_zero_iff.mp h') c hc
   cases hl:isLetter c
   · rw [hl] at this; exact absurd rfl this
   · rfl
 · intro h
   rw [List.filter_eq_nil_iff.mpr fun c hc => by rw [h c hc]; exact Zv]; rfl
theorem fn_is_name (TO:TopOk (T07 w s)) {x:Str} (hx:x.length < 1000) (ha:∀ c ∈ x.cps.toList,c < 128) (q:∀ junk,Q (.bool (isName x)) (σ ++ junk)):CallOk (T07 w s) (d + 1) X (.glob "is_name") [.str x] Q σ:=by
 have q0:Q (.bool (isName x)) σ:=Zlc σ ▸ q []
 have hxl:x.cps.toList.length < 1000:=by rw [Array.length_toList]; exact hx
 refine CallOk.go TO rfl rfl ?_
 refine Cal.isi (b:=true) rfl <| Cal.len rfl (Nat.lt_trans hx (by decide)) <| Br.mk (fun h1 => Br.mk (fun h2 => ?_) fun h2 => ?_) fun h1 => ?_
 · have h2:¬ x.length ≤ 12:=fun k => by rw [Zmb (show (x.length:Int) ≤ 12 from Zhc.mpr k)] at h2; cases h2
   rw [show isName x = false by unfold isName; rw [Zrc h2,Bool.and_false]; rfl] at q0
   exact q0
 · have h1:1 ≤ x.length:=Zhc.mp (Zgb h1)
   have h2:x.length ≤ 12:=Zhc.mp (Zgb (by rw [Bool.not_eq_false'] at h2; exact h2))
   refine ⟨x.cps.toList.map fun c => .str ⟨#[c]⟩,fun i acc σ' => acc = ((x.cps.toList.take i).filter fun c => !isLetter c).map (fun c => V.str ⟨#[c]⟩) ∧ σ' = σ,⟨rfl,rfl⟩,fun i acc σ' hJ => ⟨rfl,?_⟩,fun acc σ' hJ => ?_,fun i y acc σ' hJ hy => (map_at hy).elim fun c hh => ?_⟩
   · rw [hJ.1,Zc]
     exact szo (Za (Za (List.length_filter_le ..) (Zic ..)) (Za (Zq hxl) (by decide)))
   · rw [hJ.1,hJ.2,Zc,Zgc]
     refine Cal.len (n:=((x.cps.toList.filter fun c => !isLetter c).map fun c => V.str ⟨#[c]⟩).length) (len_list get_new) ?_ ?_
     · rw [Zc]
       exact Zk (List.length_filter_le ..) (Nat.lt_trans hxl (by decide))
     · have:=q [.list ((x.cps.toList.filter fun c => !isLetter c).map fun c => V.str ⟨#[c]⟩)]
       rw [← name_end h1 h2] at this
       exact this
   · apply eq_to hJ.2
     apply eq_to hJ.1
     apply eq_to hh.2
     refine vT_ok TO rfl 40 10 _ _ _ <| Cmp.strs (neg:=true) (letter_iff (ha c (Zn hh.1))) ?_
     cases hl:isLetter c
     · exact vE_ok TO rfl 40 _ _ _ ⟨by rw [take_next hh.1,List.filter_append,List.filter_cons]; simp [hl],rfl⟩
     · exact ⟨by rw [take_next hh.1,List.filter_append,List.filter_cons]; simp [hl],rfl⟩
 · have h1:¬ 1 ≤ x.length:=fun k => of_decide_eq_false h1 (Zhc.mpr k)
   rw [show isName x = false by unfold isName; rw [Zrc h1]; rfl] at q0
   exact q0
inductive J07h (l:Nat) (σ:Hp) (rs:List (Str × Pt)) (i:Nat) (ρ':Loc) (σ':Hp):Prop where
 | mk (q0:Has ρ' [("rules",.ref l),("met",.ref σ.length)]) (junk:Hp) (q2:σ' = σ ++ .sdict (metKV ((rs.take i).map (·.1))) :: junk) (q3:((rs.take i).map (·.1)).Nodup) (q4:∀ r ∈ rs.take i,RuOk r = true):J07h l σ rs i ρ' σ'
inductive J07h2 (l:Nat) (σ:Hp) (rs:List (Str × Pt)) (i:Nat) (ρ':Loc) (σ':Hp):Prop where
 | mk (q0:Has ρ' [("rules",.ref l),("met",.ref σ.length)]) (junk:Hp) (q2:σ' = σ ++ .sdict (metKV (rs.map (·.1))) :: junk) (q3:∀ r ∈ rs.take i,∀ n,r.2.Asks n → n ∈ rs.map (·.1)):J07h2 l σ rs i ρ' σ'
theorem Pt.All.imp {P P':Pt → Prop} (k:∀ p,P p → P' p) {p:Pt} (h:Pt.All P p):Pt.All P' p:=h.rec fun a b ih => ⟨k _ a,ih⟩
theorem fn_need7 (TO:TopOk (T07 w s)) {l:Nat} {rs:List (Str × Pt)} (hl:σ[l]? = some (.list (rs.map ruleV))) (h1:1 ≤ rs.length) (h60:rs.length ≤ 60) (hs:∀ r ∈ rs,Shp r) (qn:¬ Fine7 rs → ∀ junk,X "NoGrammar" (σ ++ junk)) (qr:Fine7 rs → (∃ r ∈ rs,∃ n,r.2.Asks n ∧ n ∉ rs.map (·.1)) → ∀ junk,X "NoRule" (σ ++ junk)) (q:Fine7 rs → (∀ r ∈ rs,∀ n,r.2.Asks n → n ∈ rs.map (·.1)) → ∀ junk,Q .none (σ ++ junk)):CallOk (T07 w s) (d + 16) X (.glob "need_rules") [.ref l] Q σ:=by
 refine CallOk.go TO rfl rfl ?_
 refine Cal.isi (b:=true) (isi_list hl) <| Cal.len (n:=rs.length) (len_at hl (Zc _)) (Zk h60 (by decide)) <| Br.t (Zmb (Zhc.mpr h1)) <| Br.mk (fun hm => ?_) fun hm => ?_
 · have:=qn (fun F => by rw [Zmb (show (rs.length:Int) ≤ 40 from Zhc.mpr F.most)] at hm; cases hm) []
   rw [Zlc] at this
   exact Stx.mk <| StOk.raise TO rfl rfl rfl rfl rfl (by kernel_rfl) this
 have hm:rs.length ≤ 40:=Zhc.mp (Zgb (by rw [Bool.not_eq_false'] at hm; exact hm))
 refine ForOk.mk (rs.map ruleV) (J07h l σ rs) ⟨⟨rfl,rfl,trivial⟩,[],rfl,List.nodup_nil,fun r hr => absurd hr Zdc⟩ (fun i ρ' σ' hJ => hJ.rec fun zz junk e z3 z4 => e ▸ iter_list (get_up hl)) (fun ρ' σ' hJ => hJ.rec fun hρ junk e hnd hok => ?_) fun i x ρ' σ' hJ hx => hJ.rec fun hρ junk e hnd hok => (map_at hx).elim fun r hh => ?_
 · rw [Zc,Zgc] at e hnd hok
   have F:Fine7 rs:=⟨hm,hnd,hok⟩
   apply eq_to e
   apply Has.on hρ
   refine ForOk.mk (rs.map ruleV) (J07h2 l σ rs) ⟨⟨rfl,rfl,trivial⟩,junk,rfl,fun r hr => absurd hr Zdc⟩ (fun i ρ₂ σ₂ hJ => hJ.rec fun zz jk e z3 => e ▸ iter_list (get_up hl)) (fun ρ₂ σ₂ hJ => hJ.rec fun zz jk e h3 => ?_) fun i x ρ₂ σ₂ hJ hx => hJ.rec fun hρ jk e2 h3 => (map_at hx).elim fun r hh => ?_
   · rw [Zc,Zgc] at h3
     exact e ▸ q F h3 _
   · have hr:=hh.1
     apply eq_to e2
     apply eq_to hh.2
     apply Has.on hρ
     have hrm:=Zn hr
     have hG:=hs r hrm
     refine ⟨_,rfl,vB_ok TO rfl 60 _ _ _ _ <| Cal.mk <| fn_rules_in (d:=d + 13) TO (hG.tame.imp fun p h => h.2) hG.size fun ns jk2 hns hln => ⟨ns.map .str,fun j ρ₃ σ₃ => Has ρ₃ [("rules",.ref l),("met",.ref σ.length)] ∧ σ₃ = (σ ++ .sdict (metKV (rs.map (·.1))) :: jk) ++ .list (ns.map .str) :: jk2 ∧ ∀ n ∈ ns.take j,n ∈ rs.map (·.1),⟨⟨rfl,rfl,trivial⟩,rfl,fun n hn => absurd hn Zdc⟩,fun i ρ₃ σ₃ hJ => ?_,fun ρ₃ σ₃ hJ => ?_,fun i y ρ₃ σ₃ hJ hy => ?_⟩⟩
     · rw [hJ.2.1]; exact iter_list get0
     · have h4:=hJ.2.2
       rw [Zc,Zgc] at h4
       refine ⟨hJ.1,jk ++ .list (ns.map .str) :: jk2,by rw [hJ.2.1,Ze,List.cons_append],fun r' hr' n hn => ?_⟩
       rw [take_next hr] at hr'
       rcases Zm.mp hr' with g | g
       · exact h3 r' g n hn
       · cases Zj.mp g
         exact h4 n ((hns n).mpr hn)
     · refine (map_at hy).elim fun n hh => ?_
       have hn:=hh.1
       apply eq_to hJ.2.1
       apply eq_to hh.2
       apply Has.on hJ.1
       refine ⟨_,rfl,vB_ok TO rfl 60 _ _ _ _ <| Cmp.met (neg:=true) (ns:=rs.map (·.1)) (by rw [Ze,List.cons_append]; exact get0) <| Br.mk (fun hno => ?_) fun hin => ⟨⟨rfl,rfl,trivial⟩,rfl,fun m hm => ?_⟩⟩
       · have hno:n ∉ rs.map (·.1):=fun k => by rw [Zmb k] at hno; cases hno
         have:=qr F ⟨r,hrm,n,(hns n).mp (Zn hn),hno⟩ (.sdict (metKV (rs.map (·.1))) :: jk ++ .list (ns.map .str) :: jk2)
         rw [← Ze] at this
         exact Stx.mk <| StOk.raise TO rfl rfl rfl rfl rfl (by kernel_rfl) this
       · rw [take_next hn] at hm
         rcases Zm.mp hm with g | g
         · exact hJ.2.2 m g
         · cases Zj.mp g
           by_cases k:n ∈ rs.map (·.1)
           · exact k
           · rw [Zrc k] at hin; cases hin
 · have hr:=hh.1
   apply eq_to e
   apply eq_to hh.2
   apply Has.on hρ
   have hrm:=Zn hr
   have hG:=hs r hrm
   have bad:¬ Fine7 rs → ∀ jk,X "NoGrammar" (σ ++ .sdict (metKV ((rs.take i).map (·.1))) :: jk):=fun h jk => qn h _
   refine ⟨_,rfl,vB_ok TO rfl 60 _ _ _ _ <| Cal.isi rfl <| Cal.lenT rfl <| Cal.mk <| fn_is_name TO hG.len hG.asc fun jk => ?_⟩
   rw [Ze,List.cons_append]
   refine Br.mk (fun hn => ?_) fun hn => ?_
   · exact Stx.mk <| StOk.raise TO rfl rfl rfl rfl rfl (by kernel_rfl) (bad (fun F => by
       have:=(Bool.and_eq_true_iff.mp (F.all r hrm)).1
       rw [this] at hn; cases hn) _)
   have hn:isName r.1 = true:=by rw [Bool.not_eq_false'] at hn; exact hn
   refine Cmp.met (neg:=false) (ns:=(rs.take i).map (·.1)) get0 <| Br.mk (fun hin => ?_) fun hin => ?_
   · refine Stx.mk <| StOk.raise TO rfl rfl rfl rfl rfl (by kernel_rfl) (bad (fun F => ?_) _)
     rw [Zrc (nodup_take F.nodup hr)] at hin; cases hin
   have hnew:r.1 ∉ (rs.take i).map (·.1):=fun k => by rw [Zmb k] at hin; cases hin
   refine Cal.mk <| fn_is_part (d:=d + 1) TO 12 r.2 hG.tame <| Br.mk (fun hp => ?_) fun hp => ?_
   · refine Stx.mk <| StOk.raise TO rfl rfl rfl rfl rfl (by kernel_rfl) (bad (fun F => ?_) _)
     have:=(Bool.and_eq_true_iff.mp (F.all r hrm)).2
     rw [this] at hp; cases hp
   have hp:(r.2.good && decide (r.2.deep ≤ 12)) = true:=by rw [Bool.not_eq_false'] at hp; exact hp
   refine SetItemOk.mk _ _ _ rfl rfl get0 (by rw [metKV,Zc,Zc]; exact szo (Za (Zic ..) (Za hm (by decide)))) ?_
   rw [set0,metKV_set hnew]
   refine ⟨⟨rfl,rfl,trivial⟩,junk ++ jk,?_,?_,fun r' hr' => ?_⟩
   · rw [take_next hr,Zfc]; rfl
   · rw [take_next hr,Zfc,List.nodup_append]
     refine ⟨hnd,Zxc.mpr ⟨Zdc,List.nodup_nil⟩,fun a ha b hb => ?_⟩
     cases Zj.mp hb
     exact fun k => hnew ((show a = r.1 from k) ▸ ha)
   · rw [take_next hr] at hr'
     rcases Zm.mp hr' with g | g
     · exact hok r' g
     · cases Zj.mp g
       unfold RuOk
       rw [hn,hp]; rfl
theorem isName_asc {x:Str} (h:isName x = true):(∀ c ∈ x.cps.toList,c < 128) ∧ x.length < 1000:=by
 unfold isName at h
 have h1:=Bool.and_eq_true_iff.mp h
 have h2:=Bool.and_eq_true_iff.mp h1.1
 refine ⟨fun c hc => ?_,Zk (Zgb h2.2) (by decide)⟩
 have:=Bool.and_eq_true_iff.mp (List.all_eq_true.mp h1.2 c hc)
 exact Zk (Zgb this.2) (by decide)
theorem Pt.tame_of:∀ (n:Nat) (p:Pt),p.deep ≤ n → p.good = true → Pt.All Pt.few p → p.Tame:=by
 intro n
 induction n with
 | zero => intro p hn; exact absurd (Za (Pt.deep_pos p) hn) (Nat.not_succ_le_zero 0)
 | succ n ih =>
   intro p hn hg hf
   obtain ⟨hk,hc⟩:=hf
   have go:(∀ k ∈ p.kids,k.good = true) → ∀ k ∈ p.kids,k.Tame:=fun h k hk => ih k (Nat.le_of_succ_le_succ (Za (Pt.kids_deep hk) hn)) (h k hk) (hc k hk)
   cases p with
   | sign c => exact ⟨⟨hg,hk⟩,fun k hk => absurd hk Zdc⟩
   | span a b => exact ⟨⟨Bool.and_eq_true_iff.mp (Bool.and_eq_true_iff.mp hg).1,hk⟩,fun k hk => absurd hk Zdc⟩
   | any => exact ⟨⟨trivial,hk⟩,fun k hk => absurd hk Zdc⟩
   | rule m => exact ⟨⟨trivial,hk⟩,fun k hk => absurd hk Zdc⟩
   | row ps => exact ⟨⟨trivial,hk⟩,go fun k hk => Pt.goods_mem hg hk⟩
   | alt ps => exact ⟨⟨trivial,hk⟩,go fun k hk => Pt.goods_mem (Bool.and_eq_true_iff.mp hg).2 hk⟩
   | many q => exact ⟨⟨trivial,hk⟩,go fun k hk => by cases Zj.mp hk; exact hg⟩
   | nt q => exact ⟨⟨trivial,hk⟩,go fun k hk => by cases Zj.mp hk; exact hg⟩
theorem fn_need_rules (TO:TopOk (T07 w s)) {l:Nat} {rs:List (Str × Pt)} (hl:σ[l]? = some (.list (rs.map ruleV))) (hg:GoodRules rs) (q:∀ junk,Q .none (σ ++ junk)):CallOk (T07 w s) (d + 16) X (.glob "need_rules") [.ref l] Q σ :=
 have F:Fine7 rs:=⟨hg.most,hg.nodup,fun r hr => by
   have h:=hg.all r hr
   unfold RuOk
   rw [h.name,h.good,Zmb h.deep]; rfl⟩
 fn_need7 TO hl hg.one (Za hg.most (by decide)) (fun r hr => have h:=hg.all r hr; ⟨(isName_asc h.name).1,(isName_asc h.name).2,Pt.tame_of 12 r.2 h.deep h.good h.few,h.size⟩) (fun h => absurd F h) (fun _ h => h.elim fun r h => h.2.elim fun n k => absurd ((hg.all r h.1).asks n k.1) k.2) fun _ _ => q
end
section
variable {w:World} {s:Shared} {d:Nat}
theorem may_all {B:Str → Bool} {ps:List Pt}:Pt.may B (.row ps) = (ps.map (Pt.may B)).all id:=by rw [Pt.may4,Pt.mayAll_eq,List.all_map]; rfl
theorem may_any {B:Str → Bool} {ps:List Pt}:Pt.may B (.alt ps) = (ps.map (Pt.may B)).any id:=by rw [Pt.may5,Pt.mayAny_eq,List.any_map]; rfl
theorem Cmp.keys {n:Str} {l:Nat} {kvs:List (Str × V)} {Q:QE} {σ:Hp} (hl:σ[l]? = some (.sdict kvs)) (q:Q (.bool (hasK kvs n)) σ):Cmp .In (.str n) (.ref l) Q σ:=.inD hl rfl q
theorem fn_may (TO:TopOk (T07 w s)) {b:Nat} {kvs:List (Str × V)}:∀ (n:Nat) (p:Pt) {X:QX} {Q:QE} {σ:Hp},p.deep ≤ n → Pt.All Pt.few p → σ[b]? = some (.sdict kvs) → (∀ junk,Q (.bool (p.may (hasK kvs))) (σ ++ junk)) → CallOk (T07 w s) (d + n + 1) X (.glob "may_be_empty") [p.v,.ref b] Q σ:=by
 intro n
 induction n with
 | zero => intro p X Q σ hn; exact absurd (Za (Pt.deep_pos p) hn) (Nat.not_succ_le_zero 0)
 | succ n ih =>
   intro p X Q σ hn hf hb q
   have q0:Q (.bool (p.may (hasK kvs))) σ:=Zlc σ ▸ q []
   have hfk:=hf.out.1
   have hfc:=hf.out.2
   have hkl:p.kids.length < 1000:=hfk
   refine CallOk.go TO rfl rfl ?_
   have run:∀ {sc:Scope} {scope:Scope} {ρ:Loc} {elt:Expr} {K:QE},(∀ jk,K (.ref (σ ++ .list (p.kids.map Pt.v) :: jk).length) (σ ++ .list (p.kids.map Pt.v) :: jk ++ [.list (p.kids.map fun k => V.bool (k.may (hasK kvs)))])) →
       (∀ (k:Pt) {Z:QE} {σ':Hp},Cal (T07 w s) (d + n + 1) X (.glob "may_be_empty") [k.v,.ref b] Z σ' → EvOk (T07 w s) (d + n + 1) (relab scope sc) (upd (compLoc scope ρ) "one" (some k.v)) X elt Z σ') →
       CompOk (T07 w s) (d + n + 1) sc ρ X scope "one" [] elt K (.ref σ.length) (σ ++ [.list (p.kids.map Pt.v)]):=fun {sc scope ρ elt K} hK he =>
     ⟨p.kids.map Pt.v,fun i acc σ' => acc = (p.kids.take i).map (fun k => V.bool (k.may (hasK kvs))) ∧ ∃ junk,σ' = σ ++ .list (p.kids.map Pt.v) :: junk,⟨rfl,[],rfl⟩,fun i acc σ' hJ => ⟨hJ.2.elim fun junk e => e ▸ iter_list get0,by rw [hJ.1,Zc]; exact szo (Za (Zic ..) (Za (Zq hkl) (by decide)))⟩,fun acc σ' hJ => hJ.2.elim fun junk e => by
       rw [hJ.1,e,Zc,Zgc]
       exact hK junk,fun i y acc σ' hJ hy => hJ.2.elim fun junk e => (map_at hy).elim fun k hh => by
       have hk:=hh.1
       have hm:=Zn hk
       rw [e,hh.2]
       exact he k ⟨ih k (Nat.le_of_succ_le_succ (Za (Pt.kids_deep hm) hn)) (hfc k hm) (get_up hb) fun jk => ⟨by rw [hJ.1,take_next hk,Zfc]; rfl,junk ++ jk,by rw [Ze,List.cons_append]⟩⟩⟩
   have wi:∀ {K:QE},K (.ref σ.length) (σ ++ [.list (p.kids.map Pt.v)]) → Cal (T07 w s) (d + n + 1) X (.glob "within") [p.v] K σ:=fun {K} k => ⟨fn_within (d:=d + n) TO (szo (Za (Zq hkl) (by decide))) k⟩
   have el:∀ {ps:List Pt} {σ:Hp} {l:Nat},σ[l]? = some (.list (ps.map fun k => V.bool (k.may (hasK kvs)))) → σ[l]? = some (.list ((ps.map (Pt.may (hasK kvs))).map V.bool)):=fun h => (allB_map _ _) ▸ h
   cases p with
   | many p => exact q0
   | nt p => exact q0
   | rule m => exact Cmp.keys hb q0
   | row ps =>
     refine wi <| run (fun jk => Cal.mk (CallOk.all (el get_new) ?_)) fun k Z σ' h => vE_ok TO rfl 40 _ _ _ h
     have:=q (.list (ps.map Pt.v) :: jk ++ [.list (ps.map fun k => V.bool (k.may (hasK kvs)))])
     rw [may_all,← Ze] at this
     exact this
   | alt ps =>
     refine wi <| run (fun jk => Cal.mk (CallOk.any (el get_new) ?_)) fun k Z σ' h => vE_ok TO rfl 40 _ _ _ h
     have:=q (.list (ps.map Pt.v) :: jk ++ [.list (ps.map fun k => V.bool (k.may (hasK kvs)))])
     rw [may_any,← Ze] at this
     exact this
   | sign c =>
     refine wi <| run (fun jk => ?_) fun k Z σ' h => vE_ok TO rfl 40 _ _ _ h
     have:=q (.list [] :: jk ++ [.list []])
     rw [← Ze] at this
     exact this
   | span a b =>
     refine wi <| run (fun jk => ?_) fun k Z σ' h => vE_ok TO rfl 40 _ _ _ h
     have:=q (.list [] :: jk ++ [.list []])
     rw [← Ze] at this
     exact this
   | any =>
     refine wi <| run (fun jk => ?_) fun k Z σ' h => vE_ok TO rfl 40 _ _ _ h
     have:=q (.list [] :: jk ++ [.list []])
     rw [← Ze] at this
     exact this
end
section
variable {w:World} {s:Shared} {d:Nat}
theorem drop_at {α:Type} {l:List α} {i:Nat} {k:α} (hk:l[i]? = some k):l.drop i = k :: l.drop (i + 1):=by
 obtain ⟨hi,e⟩:=Zb.mp hk
 rw [← e]; exact List.drop_eq_getElem_cons hi
theorem get_new' {σ:Hp} {a o:MObj} {n:Nat} (h:n = σ.length + 1):(σ ++ [a] ++ [o])[n]? = some o:=by rw [h]; exact (Zf (as:=σ) (bs:=[a])) ▸ get_new
inductive J07j (p:Pt) (b:Nat) (σ:Hp) (B:Str → Bool) (i:Nat) (ρ':Loc) (σ':Hp):Prop where
 | mk (r:Nat) (acc:List Str) (junk:Hp) (q0:Has ρ' [("found",.ref r),("part",.tup (.str p.word :: p.rest)),("bare",.ref b)]) (q3:σ.length ≤ r) (q4:σ' = σ ++ junk) (q7:σ'[σ.length + 1]? = some (.list (p.kids.map Pt.v))) (q5:σ'[r]? = some (.list (acc.map V.str))) (q6:acc ++ ahdK B (p.word == "row") (p.kids.drop i) = ahdK B (p.word == "row") p.kids):J07j p b σ B i ρ' σ'
theorem fn_ahead (TO:TopOk (T07 w s)) {b:Nat} {kvs:List (Str × V)}:∀ (n:Nat) (p:Pt) {X:QX} {Q:QE} {σ:Hp},p.deep ≤ n → p.size < 100000 → Pt.All Pt.few p → σ[b]? = some (.sdict kvs) →
   (∀ r junk,σ.length ≤ r → (σ ++ junk)[r]? = some (.list ((p.ahd (hasK kvs)).map V.str)) → Q (.ref r) (σ ++ junk)) → CallOk (T07 w s) (d + n + 1) X (.glob "ahead") [p.v,.ref b] Q σ:=by
 intro n
 induction n with
 | zero => intro p X Q σ hn; exact absurd (Za (Pt.deep_pos p) hn) (Nat.not_succ_le_zero 0)
 | succ n ih =>
   intro p X Q σ hn hsz hf hb q
   have hfk:=hf.out.1
   have hfc:=hf.out.2
   have hkl:p.kids.length < 1000:=hfk
   rw [p.head]
   refine CallOk.go TO rfl rfl ?_
   by_cases h3:p.word = "rule"
   · obtain ⟨m,rfl⟩:=Pt.word_rule h3
     exact q _ _ (Zl _) get_new
   have wi:∀ {σ':Hp} {K:QE},K (.ref σ'.length) (σ' ++ [.list (p.kids.map Pt.v)]) → Cal (T07 w s) (d + n + 1) X (.glob "within") [.tup (.str p.word :: p.rest)] K σ':=fun {σ' K} k => ⟨by rw [← p.head]; exact fn_within (d:=d + n) TO (szo (Zq (Nat.lt_trans hfk (by decide)))) k⟩
   refine Br.f (Zmc.mpr h3) <| wi ?_
   have htot:(ahdK (hasK kvs) (p.word == "row") p.kids).length ≤ p.size:=Pt.ahd_kids (B:=hasK kvs) h3 ▸ Pt.ahd_size _ _
   have done:∀ {r:Nat} {acc:List Str} {jk σ':Hp},σ' = σ ++ jk → σ.length ≤ r → σ'[r]? = some (.list (acc.map V.str)) → acc = ahdK (hasK kvs) (p.word == "row") p.kids → Q (.ref r) σ':=fun {r acc jk σ'} e h1 h2 h3' => by
     rw [h3',← Pt.ahd_kids h3,e] at h2
     rw [e]; exact q r _ h1 h2
   clear q
   refine ⟨p.kids.map Pt.v,J07j p b σ (hasK kvs),⟨σ.length,[],[.list [],.list (p.kids.map Pt.v)],⟨rfl,rfl,rfl,trivial⟩,Zl _,Ze ..,get_new' rfl,get_up get_new,rfl⟩,fun i ρ' σ' hJ => ?_,fun ρ' σ' hJ => ?_,fun i x ρ' σ' hJ hx => ?_⟩
   · exact hJ.rec fun r acc junk zz zz zz h7 zz zz => iter_list (Zf (as:=σ) (bs:=[MObj.list []]) ▸ h7)
   · refine hJ.rec fun r acc junk a1 a4 a3 a7 a5 a6 => ?_
     apply Has.on a1
     rw [Zc,List.drop_length,ahdK1,Zlc] at a6
     exact done a3 a4 a5 a6
   · refine hJ.rec fun r acc junk a1 a4 a3 a7 a5 a6 => (map_at hx).elim fun k hkx => ?_
     have hk:=hkx.1
     apply eq_to hkx.2
     apply Has.on a1
     clear hkx hx a1 hJ
     have hm:=Zn hk
     have hkd:k.deep ≤ n:=Nat.le_of_succ_le_succ (Za (Pt.kids_deep hm) hn)
     rw [drop_at hk,ahdK2,← Ze] at a6
     have hlen:(acc ++ k.ahd (hasK kvs)).length ≤ p.size:=Za (Zf ▸ Zy ..) (a6 ▸ htot)
     have hsl:(acc ++ k.ahd (hasK kvs)).length ≤ sizeLine:=szo (Za (Zq (Zk hlen hsz)) (by decide))
     have hb':σ'[b]? = some (.sdict kvs):=a3 ▸ get_up hb
     refine ⟨_,rfl,vB_ok TO rfl 60 _ _ _ _ <| Cal.mk <| ih k hkd (Nat.lt_trans (Pt.size_mem hm) hsz) (hfc k hm) hb' fun r2 jk hr2 hl2 => Bin.lists (get_up a5) hl2 (by rw [Zc,Zc,← Zf]; exact hsl) ?_⟩
     rw [← Zfc]
     generalize acc ++ k.ahd (hasK kvs) = acc2 at a6
     have e2:σ' ++ jk = σ ++ (junk ++ jk):=a3 ▸ Ze ..
     have h7:(σ' ++ jk)[σ.length + 1]? = some (.list (p.kids.map Pt.v)):=get_up a7
     have hb2:(σ' ++ jk)[b]? = some (.sdict kvs):=get_up hb'
     clear hl2 hr2 a7 a5 a3 hlen hsl hb'
     generalize σ' ++ jk = σ2 at e2 h7 hb2 ⊢
     have hle:σ.length ≤ σ2.length:=by rw [e2,Zf]; exact Zy ..
     have hap:∀ {j3:Hp},σ2 ++ [MObj.list (acc2.map V.str)] ++ j3 = σ ++ (junk ++ jk ++ [MObj.list (acc2.map V.str)] ++ j3):=by
       intro j3; rw [e2]; simp only [Ze]
     have next:∀ {j3:Hp} {ρ:Loc},Has ρ [("found",.ref σ2.length),("part",.tup (.str p.word :: p.rest)),("bare",.ref b)] → acc2 ++ ahdK (hasK kvs) (p.word == "row") (p.kids.drop (i + 1)) = ahdK (hasK kvs) (p.word == "row") p.kids → J07j p b σ (hasK kvs) (i + 1) ρ (σ2 ++ [MObj.list (acc2.map V.str)] ++ j3):=fun {j3 ρ} h1 h2 => ⟨_,acc2,_,h1,hle,hap,get_up (get_up h7),get_up get_new,h2⟩
     by_cases h4:p.word = "row"
     · have e4:(p.word == "row") = true:=beq_iff_eq.mpr h4
       rw [e4] at a6 done next
       refine Br.t e4 <| Cal.mk <| fn_may (d:=d) TO n k hkd (hfc k hm) (get_up hb2) fun jk3 => Br.mk (fun hm => ?_) fun hm => ?_
       · rw [Bool.not_eq_true'] at hm
         rw [hm] at a6
         exact done hap hle (get_up get_new) ((Zlc _).symm.trans a6)
       · rw [Bool.not_eq_false'] at hm
         rw [hm] at a6
         exact next ⟨rfl,rfl,rfl,trivial⟩ a6
     · have e4:(p.word == "row") = false:=Zmc.mpr h4
       have this:=next (j3:=[]) (ρ:=upd (upd (locs ρ' [("found",.ref r),("part",.tup (.str p.word :: p.rest)),("bare",.ref b)]) "one" (some k.v)) "found" (some (.ref σ2.length))) ⟨rfl,rfl,rfl,trivial⟩ (by rw [e4] at a6 ⊢; exact a6)
       rw [Zlc] at this
       exact Br.f e4 this
end
section
variable {w:World} {s:Shared} {d:Nat} {X:QX} {Q:QE} {σ:Hp}
noncomputable def MetAt (T:Tp) (C:Addr) (x:Str):Prop:=∃ fa,PySem.W.findIn T.K (.ref C) x = some (some (.ref fa)) ∧ PySem.W.typeIn T.K (.ref fa) = some (.type "function") ∧ PySem.W.keepIn T.K (.ref fa) = true
noncomputable def FldAt (T:Tp) (C:Addr) (x:Str):Prop:=PySem.W.findIn T.K (.ref C) x = some none ∧ PySem.W.takerIn T.K C x = some none
structure GrCls (T:Tp) (C:Addr):Prop where
 cls:ClsAt T "Grammar" C
 pairs:FldAt T C "pairs"
 table:FldAt T C "table"
 bare:FldAt T C "bare"
 leads:FldAt T C "leads"
 comes_back:MetAt T C "comes_back"
 need:MetAt T C "need"
 names:MetAt T C "names"
 part:MetAt T C "part"
 asked:MetAt T C "asked"
theorem gr_cls:∃ C,GrCls (T07 w s) C:=⟨_,⟨rfl,rfl,rfl,rfl,rfl,rfl⟩,⟨rfl,rfl⟩,⟨rfl,rfl⟩,⟨rfl,rfl⟩,⟨rfl,rfl⟩,⟨_,rfl,rfl,rfl⟩,⟨_,rfl,rfl,rfl⟩,⟨_,rfl,rfl,rfl⟩,⟨_,rfl,rfl,rfl⟩,⟨_,rfl,rfl,rfl⟩⟩
theorem MethOk.own {T:Tp} {l:Nat} {c name:Str} {gs:List (Str × V)} {C:Addr} {K:V → Prop} (h1:σ[l]? = some (.inst c gs)) (h2:gs.lookup name = none) (hc:ClsAt T c C) (hf:MetAt T C name) (k:K (.mth c name)):MethOk T (.ref l) name σ K:=by
 obtain ⟨fa,h3,h4,h5⟩:=hf
 exact ⟨_,.mth l c gs C fa h1 h2 hc h3 h4 h5,k⟩
theorem AttrOk.of {T:Tp} {l:Nat} {c attr:Str} {gs:List (Str × V)} {C:Addr} {v:V} (h1:σ[l]? = some (.inst c gs)) (h2:gs.lookup attr = some v) (h3:handV v = true) (hc:ClsAt T c C) (hf:FldAt T C attr) (q:Q v σ):AttrOk T attr Q (.ref l) σ:=⟨l,c,gs,v,C,rfl,h1,h2,h3,hc,hf.1,q⟩
theorem SetAttrOk.of {T:Tp} {l:Nat} {c attr:Str} {gs:List (Str × V)} (gs':List (Str × V)) {C:Addr} {v:V} {ρ:Loc} {K:QS} (h1:σ[l]? = some (.inst c gs)) (hc:ClsAt T c C) (hf:FldAt T C attr) (h4:gs.length < 1000) (e:setKV gs attr v = gs') (q:K .next ρ (σ.set l (.inst c gs'))):SetAttrOk T attr ρ K v (.ref l) σ:=⟨l,c,gs,C,rfl,h1,hc,hf.2,h4,by rw [e]; exact q⟩
theorem SetItemOk.of {l:Nat} {k:Str} {kvs:List (Str × V)} {v:V} {ρ:Loc} {K:QS} (h1:σ[l]? = some (.sdict kvs)) (h2:kvs.length ≤ 1000000) (q:K .next ρ (σ.set l (.sdict (setKV kvs k v)))):SetItemOk ρ K v (.ref l) (.str k) σ:=.mk l k kvs rfl rfl h1 (szo (by exact Zq (Zk h2 (Nat.le_add_left (Nat.succ 1000000) 15777215)))) q
theorem Itm.dict {l:Nat} {k:Str} {kvs:List (Str × V)} {v:V} (h1:σ[l]? = some (.sdict kvs)) (h2:getKV kvs k = some v) (q:Q v σ):Itm (.ref l) (.str k) Q σ:=⟨⟨v,.dict _ _ _ _ h1 h2,q⟩⟩
theorem cb_few {m r x:Nat} (hx:x ≤ (m + 1) * 100000) (hm:m ≤ r) (hr:r ≤ 40):x ≤ 4100000:=Za hx (Zvb 100000 (Zwb (Za hm hr)))
theorem cb_less {r m i a:Nat} (h:m + 1 ≤ r) (ha:a < 100000):(r - (m + 1)) * 100001 + (i + a) < (r - m) * 100001 + (i + 1):=by
 obtain ⟨k,rfl⟩:=Nat.exists_eq_add_of_le h
 rw [Nat.add_sub_cancel_left,show m + 1 + k - m = k + 1 by rw [Nat.add_assoc,Nat.add_sub_cancel_left,Nat.add_comm],Nat.succ_mul,Nat.add_assoc]
 refine Nat.add_lt_add_left ?_ _
 rw [Nat.add_comm i a,Nat.add_comm i 1,← Nat.add_assoc]
 exact Nat.add_lt_add_right (Nat.lt_trans ha (by decide)) i
theorem cb_next {m i a:Nat} (h:i + 1 ≤ (m + 1) * 100000) (ha:a < 100000):i + a ≤ (m + 1 + 1) * 100000:=Za (Nat.add_le_add (Zkc h) (Zq ha)) (Zr (Nat.succ_mul (m + 1) 100000).symm)
inductive J07k (rs:List (Str × Pt)) (B:Str → Bool) (r:Str × Pt) (g:Nat) (σ:Hp) (n:Nat) (ρ':Loc) (σ':Hp):Prop where
 | mk (ms:List Str) (ws:List Str) (q0:n = (rs.length - ms.length) * 100001 + ws.length) (q1:Seek rs B r.1 ms ws) (q2:ws.length ≤ (ms.length + 1) * 100000) (q3:Has ρ' [("self",.ref g),("name",.str r.1),("met",.ref σ.length),("waiting",.ref (σ.length + 1))]) (q7:σ' = σ ++ .sdict (metKV ms) :: [.list (ws.map V.str)]):J07k rs B r g σ n ρ' σ'
theorem fn_comes_back (TO:TopOk (T07 w s)) {rs:List (Str × Pt)} {B:Str → Bool} (hg:GoodRules rs) {g e:Nat} {gs:List (Str × V)} {kl:List (Str × V)} (h1:σ[g]? = some (.inst "Grammar" gs)) (h2:gs.lookup (Str.ofString "leads") = some (.ref e)) (h3:σ[e]? = some (.sdict kl)) {lo:Nat} (hL:LeadsAt rs B kl lo σ)
   {r:Str × Pt} (hr:r ∈ rs) (q:∀ c junk,(c = true ↔ Rch rs B r.1 r.1) → Q (.bool c) (σ ++ junk)):CallOk (T07 w s) (d + 1) X (.mth "Grammar" "comes_back") [.ref g,.str r.1] Q σ:=by
 refine (gr_cls (w:=w) (s:=s)).elim fun C hC => CallOk.goM TO rfl rfl <| (hL r hr).elim fun j hjj => ?_
 have hj1:=hjj.2.1
 have hj2:=hjj.2.2
 have hm:=hg.most
 have hsz:∀ r ∈ rs,(r.2.ahd B).length < 100000:=fun r hr => Zk (Pt.ahd_size ..) (hg.all r hr).size
 refine AttrOk.of (get_up h1) h2 rfl hC.cls hC.leads <| Itm.dict (get_up h3) hj1 <| Cal.list (vs:=(r.2.ahd B).map V.str) (seq_list (get_up hj2)) (by rw [Zc]; exact szo (Za (Zq (hsz r hr)) (by decide))) <| Stx.mk <|
   StOk.while (J07k rs B r g σ) (rs.length * 100001 + (r.2.ahd B).length) ⟨[],r.2.ahd B,rfl,⟨List.nodup_nil,fun y hy => absurd hy Zdc,fun y hy => .one ⟨r,hr,rfl,hy⟩,fun y hy => .inr (Lead.uniq hg.nodup hr hy),fun y hy => absurd hy Zdc⟩,Za (Zq (hsz r hr)) (Zr (Nat.one_mul _).symm),⟨rfl,rfl,rfl,congrArg (fun n => some (V.ref n)) Zf,trivial⟩,Ze ..⟩ ?_
 refine fun n ρ' σ' hJ => hJ.rec fun ms ws hn hS hwl hρ hσ => ?_
 apply Has.on hρ
 have hms:ms.length ≤ rs.length:=by
   have:=len_sub (ns:=rs.map (·.1)) hS.nodup fun x hx => by
     obtain ⟨r',a,b⟩:=hg.lead (hS.mr x hx)
     exact Zsb.mpr ⟨r',a,b⟩
   simpa using this
 have tl:=Zk (cb_few hwl hms hm) (show 4100000 < 2 ^ 62 by decide)
 refine (List.eq_nil_or_concat ws).elim (fun ew => ?_) fun hh => hh.elim fun init hh => hh.elim fun y ew => ?_
 · rw [ew] at hσ hS
   apply eq_to hσ
   refine vT_ok TO rfl 40 10 _ _ _ <| tvc.of (b:=false) (truth_list get1 (by decide)) <| ite_no (by decide) <| Cmp.met (neg:=false) (ns:=ms) get0 (q _ _ ?_)
   rw [Bool.false_bne]; exact hS.end
 rw [List.concat_eq_append] at ew
 rw [ew] at hσ hS hwl hn
 refine (hg.lead (hS.wr y (Zyb _ (Zj.mpr rfl)))).elim fun r' hh => ?_
 have hr':=hh.1
 rw [← hh.2] at hσ hS
 rw [Zf] at hwl hn
 have hwl:init.length + 1 ≤ (ms.length + 1) * 100000:=hwl
 have hn:n = (rs.length - ms.length) * 100001 + (init.length + 1):=hn
 apply eq_to hσ
 refine vT_ok TO rfl 40 10 _ _ _ <| tvc.of (b:=true) (truth_cons get1 (by rw [Zc,Zf]; exact Zk (cb_few hwl hms hm) (by decide)) (by simp)) <| ite_yes rfl ?_
 refine vB_ok TO rfl 60 _ _ _ _ <| MethOk.pop get1 <| Cal.mk <| CallOk.pop (v:=.str r'.1) (vs:=init.map V.str) (by rw [get1,Zfc]; rfl) (by rw [Zc]; exact szo (Za (cb_few hwl hms hm) (by decide))) ?_
 rw [set1]
 refine Cmp.met (neg:=true) (ns:=ms) get0 <| Br.mk (fun hin => ?_) fun hin => ?_
 · have hin:r'.1 ∉ ms:=by simpa using hin
   refine (hL r' hr').elim fun j' hjj => ?_
   have hj1':=hjj.2.1
   have hj2':=hjj.2.2
   have:=hsz r' hr'
   have hms':ms.length + 1 ≤ rs.length:=by
     have:=len_sub (ms:=ms ++ [r'.1]) (ns:=rs.map (·.1)) (by rw [List.nodup_append]; exact ⟨hS.nodup,by simp,fun a ha b hb => by cases Zj.mp hb; exact fun e => hin (e ▸ ha)⟩) fun x hx => by
       rcases Zm.mp hx with g | g
       · obtain ⟨r',a,b⟩:=hg.lead (hS.mr x g)
         exact Zsb.mpr ⟨r',a,b⟩
       · cases Zj.mp g; exact Zsb.mpr ⟨r',hr',rfl⟩
     simpa using this
   refine SetItemOk.of get0 (by simp only [metKV,Zc]; (clear q hsz hj2 h1 h3; exact Za (Za (by assumption) (by assumption)) (by decide))) ?_
   rw [set0,metKV_set hin]
   refine MethOk.extend get1 <| AttrOk.of (get_up h1) h2 rfl hC.cls hC.leads <| Itm.dict (get_up h3) hj1' <| Cal.mk <| CallOk.extend (vs:=init.map V.str) (us:=(r'.2.ahd B).map V.str) get1 (get_up hj2') (by simp only [Zc]; exact szo (Za (Nat.add_le_add (cb_few (Zkc hwl) hms hm) (Zq this)) (by decide))) ?_
   rw [set1]
   refine ⟨_,?_,ms ++ [r'.1],init ++ r'.2.ahd B,rfl,hS.new hg.nodup hr' hin,?_,⟨rfl,rfl,rfl,rfl,trivial⟩,by rw [Zfc]⟩
   · rw [hn,Zf,Zf]
     exact cb_less hms' this
   · rw [Zf,Zf]; exact cb_next hwl this
 · have hin:r'.1 ∈ ms:=by simpa using hin
   refine ⟨_,?_,ms,init,rfl,hS.old hin,by (clear q hms hsz h1 h3 hj2 hm; exact Zq hwl),⟨rfl,rfl,rfl,rfl,trivial⟩,rfl⟩
   rw [hn]; exact Zs _
end
section
variable {w:World} {s:Shared} {d:Nat} {X:QX} {Q:QE} {σ:Hp}
theorem Mk.has {σ σ':Hp} {l:Nat} {fs:List (Str × V)} {ρ':Loc} (h:Mk σ l fs ρ' σ'):Has ρ' [("self",.ref σ.length),("rules",.ref l)]:=⟨h.self,h.ru,trivial⟩
theorem Mk.loc {σ σ':Hp} {l:Nat} {fs:List (Str × V)} {ρ' ρ₂:Loc} (h:Mk σ l fs ρ' σ') (hρ:Has ρ₂ [("self",.ref σ.length),("rules",.ref l)]):Mk σ l fs ρ₂ σ':=⟨hρ.1,hρ.2.1,h.pre,h.obj⟩
inductive Gm (rs:List (Str × Pt)) (σ:Hp) (l a b c:Nat) (bs:List Str) (ρ':Loc) (σ':Hp):Prop where
 | mk (q1:Mk σ l [("pairs",.ref a),("table",.ref b),("bare",.ref c)] ρ' σ') (q2:σ'[a]? = some (.list (rs.map ruleV))) (q3:σ'[b]? = some (.sdict (tabKV rs))) (q4:σ'[c]? = some (.sdict (metKV bs))):Gm rs σ l a b c bs ρ' σ'
theorem Gm.up {rs:List (Str × Pt)} {σ σ':Hp} {l a b c:Nat} {bs:List Str} {ρ':Loc} {jk:Hp} (h:Gm rs σ l a b c bs ρ' σ'):Gm rs σ l a b c bs ρ' (σ' ++ jk):=by
 obtain ⟨h1,h2,h3,h4⟩:=h
 exact ⟨h1.up,get_up h2,get_up h3,get_up h4⟩
theorem Gm.loc {rs:List (Str × Pt)} {σ σ':Hp} {l a b c:Nat} {bs:List Str} {ρ' ρ₂:Loc} (h:Gm rs σ l a b c bs ρ' σ') (hρ:Has ρ₂ [("self",.ref σ.length),("rules",.ref l)]):Gm rs σ l a b c bs ρ₂ σ':=by
 obtain ⟨h1,h2,h3,h4⟩:=h
 exact ⟨h1.loc hρ,h2,h3,h4⟩
theorem Gm.put {rs:List (Str × Pt)} {σ σ':Hp} {l a b c:Nat} {bs bs':List Str} {ρ':Loc} (h:Gm rs σ l a b c bs ρ' σ') (ha:σ.length < a) (hb:a < b) (hc:b < c):Gm rs σ l a b c bs' ρ' (σ'.set c (.sdict (metKV bs'))):=by
 obtain ⟨h1,h2,h3,h4⟩:=h
 exact ⟨h1.put (by clear h2 h3 h4; lia),by rw [get_set_ne (by clear h2 h3 h4; exact Zoc (Nat.lt_trans hb hc))]; exact h2,by rw [get_set_ne (by clear h2 h3 h4; exact Zoc hc)]; exact h3,get_set h4⟩
inductive J07l4 (σ:Hp) (l a b:Nat) (rs:List (Str × Pt)) (i:Nat) (ρ':Loc) (σ':Hp):Prop where
 | mk (q0:Mk σ l [("pairs",.ref a),("table",.ref b)] ρ' σ') (q1:σ'[a]? = some (.list (rs.map ruleV))) (q2:σ'[b]? = some (.sdict (tabKV (rs.take i)))):J07l4 σ l a b rs i ρ' σ'
inductive J07l7 (rs:List (Str × Pt)) (σ:Hp) (l a b c:Nat) (n:Nat) (ρ':Loc) (σ':Hp):Prop where
 | mk (bs:List Str) (gr:Bool) (q0:n = 2 * (rs.length - bs.length) + (if gr then 1 else 0)) (q1:ρ' "growing" = some (.bool gr)) (q2:Grow rs bs) (q3:gr = false → ∀ r ∈ rs,r.2.may (inB bs) = true → r.1 ∈ bs) (q4:Gm rs σ l a b c bs ρ' σ'):J07l7 rs σ l a b c n ρ' σ'
inductive J07l8 (rs:List (Str × Pt)) (bs:List Str) (σ:Hp) (l a b c:Nat) (i:Nat) (ρ₂:Loc) (σ₂:Hp):Prop where
 | mk (bs':List Str) (gr':Bool) (q0:ρ₂ "growing" = some (.bool gr')) (q1:Grow rs bs') (q2:gr' = true → bs.length < bs'.length) (q3:gr' = false → bs' = bs ∧ ∀ r ∈ rs.take i,r.2.may (inB bs) = true → r.1 ∈ bs) (q4:Gm rs σ l a b c bs' ρ₂ σ₂):J07l8 rs bs σ l a b c i ρ₂ σ₂
inductive J07l11 (σ:Hp) (l a b c e:Nat) (rs:List (Str × Pt)) (bs:List Str) (i:Nat) (ρ':Loc) (σ':Hp):Prop where
 | mk (q0:Mk σ l [("pairs",.ref a),("table",.ref b),("bare",.ref c),("leads",.ref e)] ρ' σ') (q1:σ'[a]? = some (.list (rs.map ruleV))) (q2:σ'[b]? = some (.sdict (tabKV rs))) (q3:σ'[c]? = some (.sdict (metKV bs))) (kl:List (Str × V)) (q4:σ'[e]? = some (.sdict kl)) (q5:kl.length ≤ i) (q6:LeadsAt (rs.take i) (inB bs) kl σ.length σ'):J07l11 σ l a b c e rs bs i ρ' σ'
inductive J07l12 (σ σ₈:Hp) (rs:List (Str × Pt)) (bs:List Str) (i:Nat) (ρ':Loc) (σ':Hp):Prop where
 | mk (q0:Has ρ' [("self",.ref σ.length)]) (jk:Hp) (q1:σ' = σ₈ ++ jk) (q2:∀ r ∈ rs.take i,¬ Rch rs (inB bs) r.1 r.1):J07l12 σ σ₈ rs bs i ρ' σ'
theorem fn_init (TO:TopOk (T07 w s)) {rs:List (Str × Pt)} {l:Nat} (hl:σ[l]? = some (.list (rs.map ruleV))) (hg:GoodRules rs) (q:∀ bs junk,Bare rs bs → (∀ r ∈ rs,¬ Rch rs (inB bs) r.1 r.1) → GrAt rs bs σ.length (σ ++ junk) → Q (.ref σ.length) (σ ++ junk)) (qx:∀ bs (junk:Hp),Bare rs bs → (∃ r ∈ rs,Rch rs (inB bs) r.1 r.1) → X "Circling" (σ ++ junk)):CallOk (T07 w s) (d + 18) X (.glob "Grammar") [.ref l] Q σ:=by
 refine (gr_cls (w:=w) (s:=s)).elim fun C hC => ?_
 have hm:=hg.most
 refine CallOk.make TO rfl rfl rfl rfl <| CodeOk.goM TO rfl rfl ?_
 refine Cal.mk <| fn_need_rules TO (get_up hl) hg fun junk => ?_
 have h1:Mk σ l [] (bindLoc (fun zz => none) ["self", "rules"] [.ref σ.length,.ref l]) (σ ++ [.inst "Grammar" []] ++ junk):=⟨rfl,rfl,⟨[.inst "Grammar" []] ++ junk,by rw [Ze]⟩,get_up get_new⟩
 generalize (σ ++ [.inst "Grammar" []] ++ junk) = σ₁ at h1
 refine Cal.list (vs:=rs.map ruleV) (seq_list (h1.rules hl)) (by rw [Zc]; exact szo (Za hm (by decide))) <| SetAttrOk.of [("pairs",.ref σ₁.length)] (get_up h1.4) hC.cls hC.pairs (by decide) rfl ?_
 refine and4 (h1.field (o:=.list (rs.map ruleV)) (fs':=[("pairs",.ref σ₁.length)])) fun h2 h2a ha zz => ?_
 generalize σ₁.length = a at h2 h2a ha
 generalize (σ₁ ++ [MObj.list (rs.map ruleV)]).set σ.length (.inst "Grammar" [("pairs",.ref a)]) = σ₂ at h2 h2a
 clear h1
 refine SetAttrOk.of [("pairs",.ref a),("table",.ref σ₂.length)] (get_up h2.4) hC.cls hC.table (show 1 < 1000 by decide) rfl ?_
 refine and4 (h2.field (o:=.sdict []) (fs':=[("pairs",.ref a),("table",.ref σ₂.length)])) fun h3 h3b zz f4 => ?_
 have h3a:=f4 a _ (by (clear h2a h3b f4 hl; exact Zoc ha)) h2a
 have hb:=get_lt h2a
 clear h2a f4
 generalize σ₂.length = b at h3 h3a h3b hb
 generalize (σ₂ ++ [MObj.sdict []]).set σ.length (.inst "Grammar" [("pairs",.ref a),("table",.ref b)]) = σ₃ at h3 h3a h3b
 clear h2
 refine ForOk.mk (rs.map ruleV) (J07l4 σ l a b rs) ⟨h3,h3a,h3b⟩ (fun i ρ' σ' hJ => ?_) (fun ρ' σ' hJ => ?_) fun i x ρ' σ' hJ hx => ?_
 · exact hJ.rec fun j1 zz zz => iter_list (j1.rules hl)
 rotate_left
 · refine hJ.rec fun j1 j2 j3 => (map_at hx).elim fun r hh => ?_
   apply Has.on j1.has
   apply eq_to hh.2
   have hr:=hh.1
   refine ⟨_,rfl,vB_ok TO rfl 60 _ _ _ _ <| AttrOk.of j1.4 rfl rfl hC.cls hC.table <| SetItemOk.of j3 (by rw [tabKV,Zc]; exact Za (Zic ..) (Za hm (by decide))) ?_⟩
   refine ⟨(j1.put (by (clear h3a h3b j2 j3 hr hl; exact Zq (Zk ha hb)))).loc ⟨rfl,rfl,trivial⟩,?_,?_⟩
   · rw [get_set_ne (by (clear h3a h3b j2 j3 hr hl; exact Zoc hb))]; exact j2
   · rw [get_set j3,tabKV_set (nodup_take hg.nodup hr),take_next hr]
 clear h3 h3a h3b
 refine hJ.rec fun h4 h4a h4b => ?_
 clear hJ
 rw [Zc,Zgc] at h4b
 apply Has.on h4.has
 generalize σ' = σ₄ at h4 h4a h4b
 refine SetAttrOk.of [("pairs",.ref a),("table",.ref b),("bare",.ref σ₄.length)] (get_up h4.4) hC.cls hC.bare (show 2 < 1000 by decide) rfl ?_
 refine and4 (h4.field (o:=.sdict []) (fs':=[("pairs",.ref a),("table",.ref b),("bare",.ref σ₄.length)])) fun h5 h5c zz f4 => ?_
 have h5:Gm rs σ l a b σ₄.length [] _ _:=⟨h5,f4 a _ (by (clear h4a h4b h5c f4 hl; exact Zoc ha)) h4a,f4 b _ (by (clear h4a h4b h5c f4 hl; exact Zoc (Nat.lt_trans ha hb))) h4b,h5c⟩
 have hc:=get_lt h4b
 clear h5c h4a h4b f4
 generalize (σ₄ ++ [MObj.sdict []]).set σ.length (.inst "Grammar" [("pairs",.ref a),("table",.ref b),("bare",.ref σ₄.length)]) = σ₅ at h5
 generalize σ₄.length = c at h5 hc
 clear h4
 refine Stx.mk <| StOk.while (J07l7 rs σ l a b c) (2 * rs.length + 1) ⟨[],true,rfl,rfl,.nil rs,(fun e => (Zv e.symm).elim),h5.loc ⟨rfl,rfl,trivial⟩⟩ ?_
 clear h5
 refine fun n ρ' σ' hJ => hJ.rec fun bs gr hn k1 k2 k3 k4 => ?_
 apply Has.on (show Has ρ' [("growing",.bool gr),("self",.ref σ.length),("rules",.ref l)] from ⟨k1,k4.1.1,k4.1.2,trivial⟩)
 clear hJ
 refine vT_ok TO rfl 40 10 _ _ _ ?_
 cases gr
 rotate_left
 · show ExOk _ _ _ _ _ _ _ _
   have hbl:=k2.len
   refine vB_ok TO rfl 60 _ _ _ _ <| ForOk.mk (rs.map ruleV) (J07l8 rs bs σ l a b c) ⟨bs,false,rfl,k2,(fun e => (Zv e).elim),fun zz => ⟨rfl,fun r hr => absurd hr Zdc⟩,k4.loc ⟨rfl,rfl,trivial⟩⟩ (fun i ρ₂ σ₂ hJ => hJ.rec fun zz zz zz zz zz zz j1 => iter_list (j1.1.rules hl)) (fun ρ₂ σ₂ hJ => hJ.rec fun bs' gr' j1 j2 j3 j4 j5 => ⟨_,?_,bs',gr',rfl,j1,j2,fun hf => ?_,j5⟩) fun i x ρ₂ σ₂ hJ hx => hJ.rec fun bs' gr' j1 j2 j3 j4 j5 => (map_at hx).elim fun r hh => ?_
   · rw [hn]
     cases gr'
     · rw [(j4 rfl).1]; exact Zs _
     · have g:=j3 rfl
       exact Nat.add_lt_add_right (Nat.mul_lt_mul_of_pos_left (Nat.sub_lt_sub_left (Zz g j2.len) g) (by decide)) 1
   · have e:=j4 hf
     rw [Zc,Zgc] at e
     rw [e.1]; exact e.2
   · have hr:=hh.1
     apply eq_to hh.2
     have hrm:=Zn hr
     have hG:=hg.all r hrm
     apply Has.on (show Has ρ₂ [("growing",.bool gr'),("self",.ref σ.length),("rules",.ref l)] from ⟨j1,j5.1.1,j5.1.2,trivial⟩)
     have keep:∀ {ρ₃:Loc} {jk:Hp},Has ρ₃ [("growing",.bool gr'),("self",.ref σ.length),("rules",.ref l)] → (r.2.may (inB bs') = true → r.1 ∈ bs') → J07l8 rs bs σ l a b c (i + 1) ρ₃ (σ₂ ++ jk):=fun {ρ₃ jk} hρ hk => ⟨bs',gr',hρ.1,j2,j3,fun hf => ⟨(j4 hf).1,fun r' hr' hm' => by
       rw [take_next hr] at hr'
       rcases Zm.mp hr' with g | g
       · exact (j4 hf).2 r' g hm'
       · cases Zj.mp g
         rw [← (j4 hf).1] at hm' ⊢; exact hk hm'⟩,j5.up.loc hρ.2⟩
     refine ⟨_,rfl,vB_ok TO rfl 60 _ _ _ _ <| AttrOk.of j5.1.4 rfl rfl hC.cls hC.bare <| Cmp.met (neg:=true) (ns:=bs') j5.4 <| Br.mk (fun hin => AttrOk.of j5.1.4 rfl rfl hC.cls hC.bare <| Cal.mk <| fn_may (d:=d + 3) TO 12 r.2 hG.deep hG.few j5.4 fun jk => ?_) fun hin => ?_⟩
     · rw [hasK_met]
       refine Br.mk (fun hmay => ?_) fun hmay => ?_
       · have hin:r.1 ∉ bs':=by simpa using hin
         refine AttrOk.of (get_up j5.1.4) rfl rfl hC.cls hC.bare <| SetItemOk.of (get_up j5.4) (by have:=j2.len; simp only [metKV,Zc]; (clear hl j3 hbl j4 keep; exact Za (Za (by assumption) (by assumption)) (by decide))) ?_
         rw [metKV_set hin]
         refine ⟨bs' ++ [r.1],true,rfl,j2.add hrm hin hmay,fun zz => ?_,by simp,(j5.up.put ha hb hc).loc ⟨rfl,rfl,trivial⟩⟩
         cases gr'
         · rw [(j4 rfl).1]; simp
         · have:=j3 rfl; simp; (clear hl j3 hbl j4 keep; exact Nat.lt_succ_of_lt this)
       · exact keep ⟨rfl,rfl,rfl,trivial⟩ fun h => absurd (h.symm.trans hmay) (by decide)
     · have hin:r.1 ∈ bs':=by simpa using hin
       have:=keep (jk:=[]) (ρ₃:=upd (locs ρ₂ [("growing",.bool gr'),("self",.ref σ.length),("rules",.ref l)]) "pair" (some (ruleV r))) ⟨rfl,rfl,rfl,trivial⟩ fun zz => hin
       rw [Zlc] at this
       exact this
 show gw _ _ _ _ _ _ _
 have hbare:=k2.bare (k3 rfl)
 have k2l:=k2.len
 clear k3 k2 k1
 obtain ⟨h6,h6a,h6b,h6c⟩:=k4
 generalize σ' = σ₆ at h6 h6a h6b h6c
 refine SetAttrOk.of [("pairs",.ref a),("table",.ref b),("bare",.ref c),("leads",.ref σ₆.length)] (get_up h6.4) hC.cls hC.leads (show 3 < 1000 by decide) rfl ?_
 refine and4 (h6.field (o:=.sdict []) (fs':=[("pairs",.ref a),("table",.ref b),("bare",.ref c),("leads",.ref σ₆.length)])) fun h7 h7e zz f4 => ?_
 have he:=get_lt h6c
 have h7:J07l11 σ l a b c σ₆.length rs bs 0 _ _:=⟨h7.loc (ρ₂:=locs ρ' [("growing",.bool false),("self",.ref σ.length),("rules",.ref l)]) ⟨rfl,rfl,trivial⟩,f4 a _ (by (clear h6a h6b h6c h7e f4 hl; exact Zoc ha)) h6a,f4 b _ (by (clear h6a h6b h6c h7e f4 hl; exact Zoc (Nat.lt_trans ha hb))) h6b,f4 c _ (by (clear h6a h6b h6c h7e f4 hl; lia)) h6c,[],h7e,Zkb _,fun r hr => by simp at hr⟩
 clear h7e h6a h6b h6c f4
 generalize (σ₆ ++ [MObj.sdict []]).set σ.length (.inst "Grammar" [("pairs",.ref a),("table",.ref b),("bare",.ref c),("leads",.ref σ₆.length)]) = σ₇ at h7
 generalize σ₆.length = e at h7 he
 clear h6
 refine ForOk.mk (rs.map ruleV) (J07l11 σ l a b c e rs bs) h7 (fun i ρ' σ' hJ => ?_) (fun ρ' σ' hJ => ?_) fun i x ρ' σ' hJ hx => ?_
 · exact hJ.rec fun j1 zz zz zz zz zz zz zz => iter_list (j1.rules hl)
 rotate_left
 · clear h7
   refine hJ.rec fun j1 j2 j3 j4 kl j5 j7 j6 => (map_at hx).elim fun r hh => ?_
   have hr:=hh.1
   apply eq_to hh.2
   have hG:=hg.all r (Zn hr)
   have hi:i < rs.length:=(Zb.mp hr).1
   apply Has.on j1.has
   refine ⟨_,rfl,vB_ok TO rfl 60 _ _ _ _ <| AttrOk.of j1.4 rfl rfl hC.cls hC.bare <| Cal.mk <| fn_ahead (d:=d + 3) TO 12 r.2 hG.deep hG.size hG.few j4 fun j jk hj hjl => AttrOk.of (get_up j1.4) rfl rfl hC.cls hC.leads <| SetItemOk.of (get_up j5) (by (clear hj hjl hr j5 j3 j4 j2 hl; lia)) ?_⟩
   rw [hasK_met] at hjl
   have hek:∀ (x:Nat) (vs:List V) (o:MObj),(σ' ++ jk)[x]? = some (.list vs) → ((σ' ++ jk).set e o)[x]? = some (.list vs):=fun x vs o hx => by
     rw [get_set_ne (fun h => ?_)]
     · exact hx
     · subst h; rw [get_up j5] at hx; cases hx
   refine ⟨(j1.up.put (by (clear j2 j3 j4 j5 hr hj hjl hek hl; lia))).loc ⟨rfl,rfl,trivial⟩,hek _ _ _ (get_up j2),?_,?_,_,get_set (get_up j5),?_,?_⟩
   · rw [get_set_ne (by (clear j2 j3 j4 j5 hr hj hjl hek hl; exact Zoc (Nat.lt_trans hc he)))]; exact get_up j3
   · rw [get_set_ne (by (clear j2 j3 j4 j5 hr hj hjl hek hl; exact Zoc he))]; exact get_up j4
   · rw [setKV_length]; split <;> (clear j2 j3 j4 j5 hr hj hjl hek hl; lia)
   · rw [take_next hr]
     exact (j6.up (junk:=jk)).snoc (nodup_take hg.nodup hr) (fun x vs hx => hek x vs _ hx) (by have:=get_lt j1.4; (clear j2 j3 j4 j5 hr hjl hek hl; lia)) (hek _ _ _ hjl)
 clear h7
 refine hJ.rec fun h8 h8a h8b h8c kl h8e zz h8L => ?_
 clear hJ
 rw [Zc,Zgc] at h8L
 apply Has.on h8.has
 generalize σ' = σ₈ at h8 h8a h8b h8c h8e h8L
 refine h8.3.elim fun junk hj => ForOk.mk (rs.map ruleV) (J07l12 σ σ₈ rs bs) ⟨⟨rfl,trivial⟩,[],(Zlc _).symm,fun r hr => absurd hr Zdc⟩ (fun i ρ' σ' hJ => hJ.rec fun zz jk e zz => e ▸ iter_list (get_up (h8.rules hl))) (fun ρ' σ' hJ => hJ.rec fun zz jk e9 hnone => ?_) fun i x ρ' σ' hJ hx => hJ.rec fun hρ jk e2 hnone => (map_at hx).elim fun r hh => ?_
 · rw [Zc,Zgc] at hnone
   apply eq_to e9
   have hG:GrAt rs bs σ.length (σ₈ ++ jk):=GrAt.up ⟨a,b,c,e,kl,ha,hb,hc,he,h8.4,h8a,h8b,h8c,h8e,h8L⟩
   rw [hj,Ze] at hG ⊢
   exact ⟨rfl,q bs _ hbare hnone hG⟩
 · have hr:=hh.1
   apply eq_to hh.2
   apply eq_to e2
   have hrm:=Zn hr
   apply Has.on hρ
   refine ⟨_,rfl,vB_ok TO rfl 60 _ _ _ _ <| MethOk.own (get_up h8.4) rfl hC.cls hC.comes_back <| Cal.mk <| fn_comes_back (d:=d + 15) TO hg (get_up h8.4) rfl (get_up h8e) h8L.up hrm fun cb jk2 hcb => ?_⟩
   cases cb
   · refine ⟨⟨rfl,trivial⟩,jk ++ jk2,by rw [Ze],fun r' hr' => ?_⟩
     rw [take_next hr] at hr'
     rcases Zm.mp hr' with g | g
     · exact hnone r' g
     · cases Zj.mp g
       exact fun z => absurd (hcb.mpr z) (by decide)
   · refine Stx.mk <| StOk.raise TO rfl rfl rfl rfl rfl (by kernel_rfl) ?_
     rw [hj,Ze,Ze]
     exact qx bs _ hbare ⟨r,hrm,hcb.mp rfl⟩
end
section
variable {w:World} {s:Shared} {d:Nat} {X:QX} {Q:QE} {σ:Hp} {rs:List (Str × Pt)} {bs:List Str} {g:Nat}
theorem fn_need (TO:TopOk (T07 w s)) (hG:GrAt rs bs g σ) {x:Str} (q:x ∈ rs.map (·.1) → Q .none σ) (qx:x ∉ rs.map (·.1) → X "NoRule" σ):CallOk (T07 w s) (d + 1) X (.mth "Grammar" "need") [.ref g,.str x] Q σ:=by
 obtain ⟨C,hC⟩:=gr_cls (w:=w) (s:=s)
 obtain ⟨a,b,c,e,kl,h1,h2,h3,h4,h5,h6,h7,h8,h9,h10⟩:=hG
 refine CallOk.goM TO rfl rfl ?_
 refine AttrOk.of h5 rfl rfl hC.cls hC.table <| Cmp.ninD h7 tabKV_any ?_
 refine Br.mk (fun h => Stx.mk <| StOk.raise TO rfl rfl rfl rfl rfl (by kernel_rfl) (qx (by simpa using h))) fun h => q (by simpa using h)
theorem fn_part (TO:TopOk (T07 w s)) (hn:(rs.map (·.1)).Nodup) (hG:GrAt rs bs g σ) {x:Str} (q:∀ r ∈ rs,r.1 = x → Q r.2.v σ) (qx:x ∉ rs.map (·.1) → X "NoRule" σ):CallOk (T07 w s) (d + 2) X (.mth "Grammar" "part") [.ref g,.str x] Q σ:=by
 obtain ⟨C,hC⟩:=gr_cls (w:=w) (s:=s)
 have hG':=hG
 obtain ⟨a,b,c,e,kl,h1,h2,h3,h4,h5,h6,h7,h8,h9,h10⟩:=hG
 refine CallOk.goM TO rfl rfl ?_
 refine MethOk.own h5 rfl hC.cls hC.need <| Cal.mk <| fn_need TO hG' (fun hx => ?_) qx
 obtain ⟨r,hr,rfl⟩:=Zsb.mp hx
 exact AttrOk.of h5 rfl rfl hC.cls hC.table <| Itm.dict h7 (tabKV_get hn hr) (q r hr rfl)
theorem fn_names (TO:TopOk (T07 w s)) (hlen:rs.length ≤ 1000) (hG:GrAt rs bs g σ) (q:Q (.ref σ.length) (σ ++ [.list ((rs.map (·.1)).map V.str)])):CallOk (T07 w s) (d + 1) X (.mth "Grammar" "names") [.ref g] Q σ:=by
 obtain ⟨C,hC⟩:=gr_cls (w:=w) (s:=s)
 obtain ⟨a,b,c,e,kl,h1,h2,h3,h4,h5,h6,h7,h8,h9,h10⟩:=hG
 refine CallOk.goM TO rfl rfl ?_
 refine AttrOk.of h5 rfl rfl hC.cls hC.pairs ⟨rs.map ruleV,fun i acc σ' => acc = ((rs.take i).map (·.1)).map V.str ∧ σ' = σ,⟨by simp,rfl⟩,fun i acc σ' hJ => ?_,fun acc σ' hJ => ?_,fun i y acc σ' hJ hy => ?_⟩
 · obtain ⟨rfl,rfl⟩:=hJ
   exact ⟨iter_list h6,by simp only [Zc,List.length_take]; exact szo (by (clear h5 h6 h7 h8 h9; lia))⟩
 · obtain ⟨rfl,rfl⟩:=hJ
   rw [Zc,Zgc]; exact q
 · obtain ⟨rfl,rfl⟩:=hJ
   obtain ⟨r,hr,rfl⟩:=map_at hy
   refine vE_ok TO rfl 40 _ _ _ ⟨?_,rfl⟩
   rw [take_next hr]; simp
end
section
variable {w:World} {s:Shared} {d:Nat} {X:QX} {Q:QE} {σ:Hp}
theorem n200 {n:Nat} (h:n ≤ 200):n < 2 ^ 62:=Zk h (by decide)
theorem fn_word_at (TO:TopOk (T07 w s)) {l:Nat} {ws:List Str} {i:Nat} (hl:σ[l]? = some (.list (ws.map V.str))) (hn:ws.length ≤ 200) (q:∀ x,ws[i]? = some x → Q (.str x) σ) (qx:ws[i]? = none → X "NoNotes" σ):CallOk (T07 w s) (d + 1) X (.glob "word_at") [.ref l,.int i] Q σ:=by
 refine CallOk.go TO rfl rfl ?_
 refine Cal.len (n:=ws.length) (len_at hl (Zc _)) (n200 hn) <| Br.mk (fun h => ?_) fun h => ?_
 · exact Stx.mk <| StOk.raise TO rfl rfl rfl rfl rfl (by kernel_rfl) (qx (List.getElem?_eq_none (Zhc.mp (Zgb h))))
 · have hi:i < ws.length:=Nat.lt_of_not_le fun e => of_decide_eq_false h (Zhc.mpr e)
   have he:=Zp hi
   exact Itm.mk (item_at hl rfl (by rw [Zdb,he]; rfl) (by rw [Zc]; exact n200 hn) (q _ he))
theorem digs_all:((List.range 128).all fun c => strIn ⟨#[c]⟩ (Str.ofString "0123456789") == isDig c) = true:=by decide +kernel
theorem dig_iff {c:Nat} (h:c < 128):strIn ⟨#[c]⟩ (Str.ofString "0123456789") = isDig c:=eq_of_beq (List.all_eq_true.mp digs_all c (by simpa using h))
theorem num_int {x:Str} {m:Nat} (h:num x = some m):PySem.intText? x = some (m:Int) ∧ x.length ≤ 4:=by
 unfold num at h
 obtain ⟨⟨h1,h2,h3,h4⟩,e⟩:=ite_some h
 subst e
 refine ⟨PySem.intText_digits (fun c hc => ?_) (fun e => ?_) (Za h2 (by decide)),h2⟩
 · have:=List.all_eq_true.mp h4 c hc
   unfold isDig at this
   rw [Zob] at this
   exact ⟨Zgb this.1,Zgb this.2⟩
 · have:x.length = 0:=by show x.cps.size = 0; rw [← Array.length_toList,e]; rfl
   omega
theorem num_no {x:Str} (h:¬ (1 ≤ x.length ∧ x.length ≤ 4 ∧ ¬ (1 < x.length ∧ x.cps.toList.head? = some 48) ∧ x.cps.toList.all isDig = true)):num x = none:=if_neg h
noncomputable def NumW (x:Str):Prop:=1 ≤ x.length ∧ x.length ≤ 4 ∧ ¬ (1 < x.length ∧ x.cps.toList.head? = some 48)
inductive J07nu (ws:List Str) (i:Nat) (σ:Hp) (ρ':Loc) (σ':Hp):Prop where
 | mk (x:Str) (hx:ws[i]? = some x) (h1:Has ρ' [("word",.str x)]) (h2:σ' = σ) (h3:NumW x):J07nu ws i σ ρ' σ'
theorem head_at {x:Str} (h:1 < x.length):∃ c,x.cps.toList.head? = some c ∧ (seqIndex? 0 x.length).bind (x.cps[·]?) = some c:=by
 have hz:x.cps.toList.length = x.length:=Array.length_toList
 cases e:x.cps.toList with
 | nil => rw [e] at hz; rw [← hz] at h; cases h
 | cons c r =>
   refine ⟨c,rfl,?_⟩
   have:seqIndex? 0 x.length = some 0:=by
     unfold seqIndex?
     simp only [show ¬ ((0:Int) < 0) by decide,if_false]
     rw [if_pos (by simp only [Zob,decide_eq_true_eq]; omega)]
     rfl
   rw [this]
   show x.cps[0]? = some c
   rw [← Array.getElem?_toList,e]; rfl
theorem fn_number_at (TO:TopOk (T07 w s)) {l:Nat} {ws:List Str} {i:Nat} (hl:σ[l]? = some (.list (ws.map V.str))) (hn:ws.length ≤ 200) (ha:∀ x ∈ ws,WdOk x) (q:∀ x m,ws[i]? = some x → num x = some m → Q (.int m) σ) (qx:ws[i]?.bind num = none → X "NoNotes" σ):CallOk (T07 w s) (d + 2) X (.glob "number_at") [.ref l,.int i] Q σ:=by
 refine CallOk.goX TO rfl rfl ?_
 refine ExOk.cutAt 2 (J07nu ws i σ) (vB_ok TO rfl 60 _ _ _ _ ?_) fun ρ₁ σ₁ hJ => hJ.rec fun x hx hρ e hw => ?_
 · refine Cal.mk <| fn_word_at TO hl hn (fun x hx => ?_) fun hx => qx (by rw [hx]; rfl)
   have hx1:=ha x (Zn hx)
   have bad:¬ NumW x → X "NoNotes" σ:=fun h => qx (by rw [hx]; exact num_no fun k => h ⟨k.1,k.2.1,k.2.2.1⟩)
   have hlen:x.length < 2 ^ 62:=Zk hx1.len (by decide)
   refine Cal.len (n:=x.length) rfl hlen <| Br.mk (fun h1 => Br.mk (fun h2 => ?_) fun h2 => ?_) fun h1 => ?_
   · exact Stx.mk <| StOk.raise TO rfl rfl rfl rfl rfl (by kernel_rfl) (bad fun k => by
       rw [Zmb (show (x.length:Int) ≤ 4 from Zhc.mpr k.2.1)] at h2; cases h2)
   · have h1':1 ≤ x.length:=Zhc.mp (Zgb h1)
     have h2':x.length ≤ 4:=Zhc.mp (Zgb (by rw [Bool.not_eq_false'] at h2; exact h2))
     refine Cal.len (n:=x.length) rfl hlen <| Br.mk (fun h3 => ?_) fun h3 => ⟨x,hx,⟨rfl,trivial⟩,rfl,h1',h2',fun k => of_decide_eq_false h3 (Zfb.mpr k.1)⟩
     have h3':1 < x.length:=Zfb.mp (Zgb h3)
     refine (head_at h3').elim fun c hc => Itm.mk ⟨_,.str _ _ c hc.2 ⟨by decide,by decide⟩,?_⟩
     refine Br.mk (fun h4 => ?_) fun h4 => ⟨x,hx,⟨rfl,trivial⟩,rfl,h1',h2',fun k => ?_⟩
     · exact Stx.mk <| StOk.raise TO rfl rfl rfl rfl rfl (by kernel_rfl) (bad fun k => k.2.2 ⟨h3',hc.1.trans (congrArg some (eq_of_beq (beq_ch.symm.trans h4)))⟩)
     · have:c = 48:=Zab (hc.1.symm.trans k.2)
       subst this
       exact absurd h4 (by decide)
   · exact Stx.mk <| StOk.raise TO rfl rfl rfl rfl rfl (by kernel_rfl) (bad fun k => of_decide_eq_false h1 (Zhc.mpr k.1))
 · apply Has.on hρ
   apply eq_to e
   have hx1:=ha x (Zn hx)
   refine vB_ok TO rfl 60 _ _ _ _ <| ForOk.mk (x.cps.toList.map fun c => .str ⟨#[c]⟩) (fun j ρ' σ' => Has ρ' [("word",.str x)] ∧ σ' = σ ∧ (x.cps.toList.take j).all isDig = true) ⟨⟨rfl,trivial⟩,rfl,rfl⟩ (fun i ρ' σ' zz => rfl) (fun ρ' σ' hJ => ?_) fun j y ρ' σ' hJ hy => (map_at hy).elim fun c hh => ?_
   · apply Has.on hJ.1
     apply eq_to hJ.2.1
     have hall:=hJ.2.2
     rw [Zc,Zgc] at hall
     have hnum:num x = some (NumText.digitsVal x.cps.toList):=if_pos ⟨hw.1,hw.2.1,hw.2.2,hall⟩
     exact Cal.intS (num_int hnum).1 (Za (num_int hnum).2 (by decide)) (q x _ hx hnum)
   · apply Has.on hJ.1
     apply eq_to hJ.2.1
     apply eq_to hh.2
     refine ⟨_,rfl,vB_ok TO rfl 60 _ _ _ _ <| Cmp.strs (neg:=true) (dig_iff (hx1.asc c (Zn hh.1)).1) <| Br.mk (fun h => ?_) fun h => ⟨⟨rfl,trivial⟩,rfl,?_⟩⟩
     · exact Stx.mk <| StOk.raise TO rfl rfl rfl rfl rfl (by kernel_rfl) (qx (by
         rw [hx]
         exact num_no fun k => by
           have:=List.all_eq_true.mp k.2.2.2 c (Zn hh.1)
           rw [this] at h; cases h))
     · rw [take_next hh.1,List.all_append,hJ.2.2,List.all_cons,List.all_nil,Bool.and_true,Bool.true_and]
       cases hd:isDig c
       · rw [hd] at h; cases h
       · rfl
noncomputable abbrev SIGNS:Str:=Str.ofString "\t\n !\"#$&'()*+,-./0123456789:;<=>?@ABCDEFGHIJKLMNOPQRSTUVWXYZ[\\]^_`abcdefghijklmnopqrstuvwxyz{|}~"
theorem signs_all:(SIGNS.cps.toList.all isSignC && (List.range 127).all fun c => !isSignC c || SIGNS.cps.toList.contains c) = true:=by decide +kernel
theorem fn_sign_at (TO:TopOk (T07 w s)) {l:Nat} {ws:List Str} {i:Nat} (hl:σ[l]? = some (.list (ws.map V.str))) (hn:ws.length ≤ 200) (ha:∀ x ∈ ws,WdOk x) (q:∀ x c,ws[i]? = some x → sgn x = some c → Q (.str ⟨#[c]⟩) σ) (qx:ws[i]?.bind sgn = none → X "NoNotes" σ):CallOk (T07 w s) (d + 3) X (.glob "sign_at") [.ref l,.int i] Q σ:=by
 have sa:=Bool.and_eq_true_iff.mp signs_all
 refine CallOk.go TO rfl rfl ?_
 refine Cal.mk <| fn_number_at TO hl hn ha (fun x m hx hm => ?_) fun hx => qx (by
   cases e:ws[i]? with
   | none => rfl
   | some x => rw [e] at hx; exact congrArg (Option.bind · _) hx)
 refine ForOk.mk (SIGNS.cps.toList.map fun c => .str ⟨#[c]⟩) (fun j ρ' σ' => Has ρ' [("number",.int m)] ∧ σ' = σ ∧ m ∉ SIGNS.cps.toList.take j) ⟨⟨rfl,trivial⟩,rfl,fun h => by cases h⟩ (fun i ρ' σ' zz => rfl) (fun ρ' σ' hJ => ?_) fun j y ρ' σ' hJ hy => (map_at hy).elim fun c hh => ?_
 · apply Has.on hJ.1
   apply eq_to hJ.2.1
   have hno:=hJ.2.2
   rw [Zc,Zgc] at hno
   refine Stx.mk <| StOk.raise TO rfl rfl rfl rfl rfl (by kernel_rfl) (qx ?_)
   rw [hx]
   show (num x).bind _ = none
   rw [hm]
   refine if_neg fun h => hno ?_
   have:=List.all_eq_true.mp sa.2 m (List.mem_range.mpr (sign_lt h))
   rw [h,Bool.not_true,Bool.false_or] at this
   exact List.contains_iff_mem.mp this
 · apply Has.on hJ.1
   apply eq_to hJ.2.1
   apply eq_to hh.2
   have hc:=List.all_eq_true.mp sa.1 c (Zn hh.1)
   refine ⟨_,rfl,vB_ok TO rfl 60 _ _ _ _ <| Cal.ord <| Br.mk (fun h => Cal.mk <| fn_is_sign TO hc ?_) fun h => ⟨⟨rfl,trivial⟩,rfl,fun hm => ?_⟩⟩
   · have e:c = m:=Int.ofNat_inj.mp (eq_of_beq h)
     subst e
     exact q x c hx (by unfold sgn; rw [hm]; exact if_pos hc)
   · rw [take_next hh.1] at hm
     rcases Zm.mp hm with g | g
     · exact hJ.2.2 g
     · cases Zj.mp g
       exact Zmc.mp h rfl
theorem fn_made (TO:TopOk (T07 w s)) {k:Kw} {l:Nat} {ps:List Pt} (hk:k = .row ∨ k = .alt ∨ ((k = .many ∨ k = .nt) ∧ ps ≠ [])) (hl:σ[l]? = some (.list (ps.map Pt.v))) (hn:ps.length ≤ 10000) (q:Q (mkP k ps).v σ):CallOk (T07 w s) (d + 1) X (.glob "made") [.str (kwS k),.ref l] Q σ:=by
 refine CallOk.go TO rfl rfl ?_
 have hz:(ps.map Pt.v).length ≤ sizeLine:=by rw [Zc]; exact szo (Za hn (by decide))
 rcases hk with rfl | rfl | ⟨hk,hp⟩
 · exact Cal.tuple hl hz (show Q (.tup [.str "row",.tup (ps.map Pt.v)]) σ from Pt.vs_map ps ▸ q)
 · exact Cal.tuple hl hz (show Q (.tup [.str "or",.tup (ps.map Pt.v)]) σ from Pt.vs_map ps ▸ q)
 · cases ps with
   | nil => exact absurd rfl hp
   | cons p r =>
     rcases hk with rfl | rfl
     · exact Itm.mk (item_at hl rfl rfl (Zk (Za hz (Zr sizeLine_eq)) (by decide)) q)
     · exact Itm.mk (item_at hl rfl rfl (Zk (Za hz (Zr sizeLine_eq)) (by decide)) q)
theorem fn_leaf_at (TO:TopOk (T07 w s)) {l:Nat} {ws:List Str} {i:Nat} {x:Str} (hl:σ[l]? = some (.list (ws.map V.str))) (hn:ws.length ≤ 200) (ha:∀ x ∈ ws,WdOk x) (hx:ws[i]? = some x)
   (qa:kw x = .any → Q (.tup [Pt.any.v,.int (i + 1:Nat)]) σ)
   (qs:∀ y c,kw x = .sign → ws[i + 1]? = some y → sgn y = some c → Q (.tup [(Pt.sign c).v,.int (i + 2:Nat)]) σ)
   (qp:∀ y c z e,kw x = .span → ws[i + 1]? = some y → sgn y = some c → ws[i + 2]? = some z → sgn z = some e → Q (.tup [(Pt.span c e).v,.int (i + 3:Nat)]) σ)
   (qr:∀ y,kw x = .rule → ws[i + 1]? = some y → Q (.tup [(Pt.rule y).v,.int (i + 2:Nat)]) σ)
   (qn:kw x ≠ .any → kw x ≠ .sign → kw x ≠ .span → kw x ≠ .rule → Q (.tup [.none,.int (i + 1:Nat)]) σ)
   (x1:kw x = .sign → ws[i + 1]?.bind sgn = none → X "NoNotes" σ) (x2:kw x = .span → ws[i + 1]?.bind sgn = none → X "NoNotes" σ) (x3:kw x = .span → ws[i + 2]?.bind sgn = none → X "NoNotes" σ) (x4:kw x = .rule → ws[i + 1]? = none → X "NoNotes" σ) :
   CallOk (T07 w s) (d + 4) X (.glob "leaf_at") [.ref l,.int i] Q σ:=by
 refine CallOk.go TO rfl rfl ?_
 refine Itm.mk (item_at hl rfl (by rw [Zdb,hx]; rfl) (by rw [Zc]; exact n200 hn) ?_)
 have nes:∀ {y:Str},x ≠ y → (x == y) = false:=fun h => by rw [Zmc]; exact h
 by_cases h1:x = "any"
 · subst h1; exact qa rfl
 by_cases h2:x = "sign"
 · subst h2
   exact Cal.mk <| fn_sign_at (i:=i + 1) TO hl hn ha (fun y c hy hc => qs y c rfl hy hc) fun h => x1 rfl h
 by_cases h3:x = "span"
 · subst h3
   exact Cal.mk <| fn_sign_at (i:=i + 1) TO hl hn ha (fun y c hy hc => Cal.mk <| fn_sign_at (i:=i + 2) TO hl hn ha (fun z e hz he => qp y c z e rfl hy hc hz he) fun h => x3 rfl h) fun h => x2 rfl h
 by_cases h4:x = "rule"
 · subst h4
   exact Cal.mk <| fn_word_at (i:=i + 1) TO hl hn (fun y hy => qr y rfl hy) fun h => x4 rfl h
 refine Br.f (nes h1) <| Br.f (nes h2) <| Br.f (nes h3) <| Br.f (nes h4) ?_
 have key:∀ {k:Kw},kw x = k → k ≠ .any ∧ k ≠ .sign ∧ k ≠ .span ∧ k ≠ .rule:=fun {k} e => by
   subst e
   unfold kw
   rw [if_neg h1,if_neg h2,if_neg h3,if_neg h4]
   have go:∀ k:Kw,(k = .row ∨ k = .alt ∨ k = .many ∨ k = .nt ∨ k = .no) → k ≠ .any ∧ k ≠ .sign ∧ k ≠ .span ∧ k ≠ .rule:=fun k h => by
     rcases h with rfl | rfl | rfl | rfl | rfl <;> exact ⟨(fun e => (by cases e)),(fun e => (by cases e)),(fun e => (by cases e)),(fun e => (by cases e))⟩
   refine go _ ?_
   split
   · exact .inl rfl
   split
   · exact .inr (.inl rfl)
   split
   · exact .inr (.inr (.inl rfl))
   split
   · exact .inr (.inr (.inr (.inl rfl)))
   · exact .inr (.inr (.inr (.inr rfl)))
 exact qn (key rfl).1 (key rfl).2.1 (key rfl).2.2.1 (key rfl).2.2.2
end
section
variable {w:World} {s:Shared} {d:Nat} {X:QX} {Q:QE} {σ:Hp}
theorem digits_lt {cs:List Nat}:∀ {acc:Nat},(∀ c ∈ cs,isDig c = true) → cs.foldl (fun acc c => acc * 10 + (c - 48)) acc < (acc + 1) * 10 ^ cs.length:=by
 induction cs with
 | nil => intro acc z1; show acc < (acc + 1) * 1; omega
 | cons c r ih =>
   intro acc h
   have h1:=ih (acc:=acc * 10 + (c - 48)) fun c hc => h c (.tail _ hc)
   have h2:=h c (.head _)
   unfold isDig at h2
   rw [Zob,decide_eq_true_eq,decide_eq_true_eq] at h2
   refine Zz h1 ?_
   rw [List.length_cons,Nat.pow_succ,Nat.mul_comm (10 ^ r.length) 10,← Nat.mul_assoc]
   exact Zvb _ (by omega)
theorem num_le {x:Str} {m:Nat} (h:num x = some m):m ≤ 9999:=by
 unfold num at h
 obtain ⟨⟨h1,h2,h3,h4⟩,e⟩:=ite_some h
 subst e
 have k:=digits_lt (cs:=x.cps.toList) (acc:=0) fun c hc => List.all_eq_true.mp h4 c hc
 have hz:x.cps.toList.length ≤ 4:=by rw [Array.length_toList]; exact h2
 have:=Zz k (Nat.mul_le_mul_left _ (Nat.pow_le_pow_right (by decide) hz))
 exact Nat.le_of_lt_succ this
noncomputable def FrOk (f:Fr):Prop:=(f.k = .row ∨ f.k = .alt ∨ ((f.k = .many ∨ f.k = .nt) ∧ f.m = 1)) ∧ f.m ≤ 9999 ∧ f.ps.length ≤ f.m
inductive Stk (a:Nat) (σ':Hp):Nat → List Fr → List Nat → Prop where
 | nil {b:Nat}:Stk a σ' b [] []
 | cons {b l:Nat} {f:Fr} {W:List Fr} {ls:List Nat} (h:σ'[l]? = some (.list (f.ps.map Pt.v))) (h1:a < l) (h2:l < b) (hk:FrOk f) (t:Stk a σ' l W ls):Stk a σ' b (f :: W) (l :: ls)
noncomputable abbrev frV (f:Fr) (l:Nat):V:=.tup [.str (kwS f.k),.int f.m,.ref l]
noncomputable def stV:List Fr → List Nat → List V
 | f :: W,l :: ls => stV W ls ++ [frV f l]
 | [],_ => []
 | _ :: _,[] => []
section
variable {a b l:Nat} {σ':Hp} {W:List Fr} {ls:List Nat}
theorem Stk.set {o:MObj} (h:Stk a σ' b W ls) (hl:b ≤ l):Stk a (σ'.set l o) b W ls:=by
 induction h with
 | nil => exact .nil
 | cons h h1 h2 hk t ih => exact .cons (by rw [Zi (by omega)]; exact h) h1 h2 hk (ih (by omega))
theorem Stk.setLow {o:MObj} (h:Stk a σ' b W ls) (hl:l ≤ a):Stk a (σ'.set l o) b W ls:=by
 induction h with
 | nil => exact .nil
 | cons h h1 h2 hk t ih => exact .cons (by rw [Zi (by omega)]; exact h) h1 h2 hk ih
theorem Stk.up {jk:Hp} (h:Stk a σ' b W ls):Stk a (σ' ++ jk) b W ls:=by
 induction h with
 | nil => exact .nil
 | cons h h1 h2 hk t ih => exact .cons (get_up h) h1 h2 hk ih
theorem Stk.le {c:Nat} (h:Stk a σ' b W ls) (hc:b ≤ c):Stk a σ' c W ls:=by
 cases h with
 | nil => exact .nil
 | cons h h1 h2 hk t => exact .cons h h1 (Zz h2 hc) hk t
theorem Stk.len (h:Stk a σ' b W ls):(stV W ls).length = W.length:=by
 induction h with
 | nil => rfl
 | cons h h1 h2 hk t ih => show (stV _ _ ++ [_]).length = _; rw [Zf,ih]; rfl
end
inductive Cl:List Fr → V → Gv → Prop where
 | nil (p:Pt):Cl [] p.v (.fin p)
 | cons (f:Fr) (W:List Fr) (v:V):Cl (f :: W) v (if f.ps.length = f.m then give W (mkP f.k f.ps) else .more (f :: W))
inductive WtAt (σ:Hp) (W:List Fr) (σ':Hp):Prop where
 | mk (ls:List Nat) (jk:Hp) (h1:σ' = σ ++ .list (stV W ls) :: jk) (h2:Stk σ.length σ' σ'.length W ls):WtAt σ W σ'
inductive J07po (ws:List Str) (l:Nat) (σ:Hp) (out:Option Pt) (n:Nat) (ρ':Loc) (σ':Hp):Prop where
 | mk (i:Nat) (W:List Fr) (h0:i + n = ws.length) (h1:Has ρ' [("words",.ref l),("at",.int i),("waiting",.ref σ.length)]) (h2:WtAt σ W σ') (h3:parse ((ws.drop i).map tk) W = out) (h4:W.length ≤ i) (h5:∀ f ∈ W,f.ps.length < f.m):J07po ws l σ out n ρ' σ'
inductive J07pm (ws:List Str) (l:Nat) (σ:Hp) (out:Option Pt) (n i:Nat) (g:Gv) (k:Nat) (ρ':Loc) (σ':Hp):Prop where
 | mk (W:List Fr) (v:V) (hk:k = W.length) (h1:Has ρ' [("words",.ref l),("at",.int i),("waiting",.ref σ.length),("part",v)]) (h2:WtAt σ W σ') (h3:Cl W v g) (h4:W.length ≤ i) (h5:∀ f ∈ W.tail,f.ps.length < f.m):J07pm ws l σ out n i g k ρ' σ'
inductive J07pi (ws:List Str) (l:Nat) (σ:Hp) (out:Option Pt) (n:Nat) (ρ':Loc) (σ':Hp):Prop where
 | mk (i:Nat) (m:Nat) (g:Gv) (k:Nat) (h0:i + m = ws.length) (hm:m < n) (h1:J07pm ws l σ out n i g k ρ' σ') (h2:nxt (parse ((ws.drop i).map tk)) ((ws.drop i).map tk) g = out):J07pi ws l σ out n ρ' σ'
theorem WtAt.any {W:List Fr} {σ':Hp} (h:WtAt σ W σ'):∃ vs,σ'[σ.length]? = some (.list vs) ∧ vs.length = W.length ∧ (∀ (k:Kw) (m:Nat),FrOk ⟨k,m,[]⟩ → WtAt σ (⟨k,m,[]⟩ :: W) ((σ' ++ [MObj.list []]).set σ.length (MObj.list (vs ++ [V.tup [V.str (kwS k),V.int m,V.ref σ'.length]])))) ∧ ∃ junk,σ' = σ ++ junk:=by
 obtain ⟨ls,jk,h1,h2⟩:=h
 refine ⟨stV W ls,by rw [h1]; exact get0,h2.len,fun k m hf => ?_,_,h1⟩
 have hlt:σ.length < σ'.length:=by rw [h1,Zf,List.length_cons]; omega
 have e:(σ' ++ [MObj.list []]).set σ.length (MObj.list (stV W ls ++ [V.tup [V.str (kwS k),V.int m,V.ref σ'.length]])) = σ ++ .list (stV (⟨k,m,[]⟩ :: W) (σ'.length :: ls)) :: (jk ++ [.list []]):=by
   rw [h1,Ze,List.cons_append,set0]; rfl
 refine ⟨σ'.length :: ls,jk ++ [.list []],e,.cons (f:=⟨k,m,[]⟩) ?_ hlt ?_ hf ((h2.up.setLow (Zl _)))⟩
 · rw [Zi (by omega)]; exact get_new
 · rw [List.length_set,Zf]; exact Zs _
inductive TopF (σ:Hp) (f:Fr) (W:List Fr) (σ':Hp):Prop where
 | mk (l:Nat) (vs:List V) (h1:σ'[σ.length]? = some (.list (vs ++ [.tup [.str (kwS f.k),.int f.m,.ref l]]))) (h2:σ'[l]? = some (.list (f.ps.map Pt.v))) (h3:FrOk f) (h4:vs.length = W.length)
   (h5:∀ p:Pt,f.ps.length < f.m → WtAt σ (⟨f.k,f.m,f.ps ++ [p]⟩ :: W) (σ'.set l (.list (f.ps.map Pt.v ++ [p.v])))) (h6:WtAt σ W (σ'.set σ.length (.list vs))) (h7:(σ'.set σ.length (.list vs))[l]? = some (.list (f.ps.map Pt.v))):TopF σ f W σ'
theorem WtAt.top {f:Fr} {W:List Fr} {σ':Hp} (h:WtAt σ (f :: W) σ'):TopF σ f W σ':=by
 obtain ⟨ls,jk,h1,h2⟩:=h
 cases h2 with
 | @cons z1 l z2 z3 ls g1 g2 g3 g4 t =>
   have hz:(σ'.set σ.length (.list (stV W ls))) = σ ++ .list (stV W ls) :: jk:=by rw [h1,set0]
   refine ⟨l,stV W ls,by rw [h1]; exact get0,g1,g4,t.len,fun p hp => ?_,?_,?_⟩
   · have hl:∃ j,l = σ.length + 1 + j:=⟨l - (σ.length + 1),by omega⟩
     obtain ⟨j,rfl⟩:=hl
     refine ⟨(σ.length + 1 + j) :: ls,jk.set j (.list (f.ps.map Pt.v ++ [p.v])),?_,.cons (f:=⟨f.k,f.m,f.ps ++ [p]⟩) ?_ g2 (by rw [List.length_set]; exact g3) ⟨g4.1,g4.2.1,by rw [Zf]; exact hp⟩ (t.set (Zl _))⟩
     · rw [h1,List.set_append_right _ _ (by omega),show σ.length + 1 + j - σ.length = j + 1 by omega]; rfl
     · rw [Zw g3,Zfc]; rfl
   · exact ⟨ls,jk,hz,(t.setLow (Zl _)).le (by rw [List.length_set]; exact Zq g3)⟩
   · rw [Zi (by omega)]; exact g1
theorem dropTk {ws:List Str} {i:Nat} {x:Str} (h:ws[i]? = some x):(ws.drop i).map tk = tk x :: (ws.drop (i + 1)).map tk:=by
 obtain ⟨hi,e⟩:=Zb.mp h
 rw [← e,List.drop_eq_getElem_cons hi]; rfl
theorem drop_hd {α:Type} {ws:List Str} {i:Nat} {f:Str → Option α} {g:Tk → Option α} (hf:∀ x,g (tk x) = f x) (h:ws[i]?.bind f = none):((ws.drop i).map tk).head?.bind g = none:=by
 rw [List.head?_map,List.head?_drop]
 cases e:ws[i]? with
 | none => rfl
 | some x => rw [e] at h; exact (hf x).trans h
inductive LfR (ws:List Str) (i:Nat) (x:Str) (W:List Fr) (out:Option Pt) (σ':Hp) (v:V) (σ'':Hp):Prop where
 | leaf (e1:σ'' = σ') (p:Pt) (j:Nat) (e2:v = .tup [p.v,.int j]) (h1:i < j) (h2:j ≤ ws.length) (h3:nxt (parse ((ws.drop j).map tk)) ((ws.drop j).map tk) (give W p) = out):LfR ws i x W out σ' v σ''
 | no (e1:σ'' = σ') (e2:v = .tup [.none,.int (i + 1:Nat)]) (h1:kw x ≠ .any) (h2:kw x ≠ .sign) (h3:kw x ≠ .span) (h4:kw x ≠ .rule):LfR ws i x W out σ' v σ''
theorem ws_lt {ws:List Str} {i:Nat} {x:Str} (h:ws[i]? = some x):i + 1 ≤ ws.length:=(Zb.mp h).1
theorem leaf_R (TO:TopOk (T07 w s)) {l:Nat} {ws:List Str} {i:Nat} {x:Str} {W:List Fr} {out:Option Pt} {σ':Hp} (hl:σ'[l]? = some (.list (ws.map V.str))) (hn:ws.length ≤ 200) (ha:∀ x ∈ ws,WdOk x) (hx:ws[i]? = some x) (hp:parse (tk x :: (ws.drop (i + 1)).map tk) W = out) (bad:out = none → X "NoNotes" σ') :
   CallOk (T07 w s) (d + 4) X (.glob "leaf_at") [.ref l,.int i] (LfR ws i x W out σ') σ':=by
 refine fn_leaf_at TO hl hn ha hx (fun k => ?_) (fun y c k hy hc => ?_) (fun y c z e k hy hc hz he => ?_) (fun y k hy => ?_) (fun k1 k2 k3 k4 => .no rfl rfl k1 k2 k3 k4) (fun k h => bad ?_) (fun k h => bad ?_) (fun k h => bad ?_) fun k h => bad ?_
 · exact .leaf rfl _ _ rfl (Zs _) (ws_lt hx) ((parse_any k).symm.trans hp)
 · rw [dropTk hy] at hp
   exact .leaf rfl _ _ rfl (by omega) (ws_lt hy) ((parse_sign k hc).symm.trans hp)
 · rw [dropTk hy,dropTk hz] at hp
   exact .leaf rfl _ _ rfl (by omega) (ws_lt hz) ((parse_span k hc he).symm.trans hp)
 · rw [dropTk hy] at hp
   exact .leaf rfl _ _ rfl (by omega) (ws_lt hy) ((parse_rule k).symm.trans hp)
 · exact hp.symm.trans (parse_x1 (.inl k) (drop_hd (g:=(·.g)) (fun _ => rfl) h))
 · exact hp.symm.trans (parse_x1 (.inr k) (drop_hd (g:=(·.g)) (fun _ => rfl) h))
 · cases e:ws[i + 1]? with
   | none => exact hp.symm.trans (parse_x1 (.inr k) (drop_hd (g:=(·.g)) (f:=sgn) (fun _ => rfl) (by rw [e]; rfl)))
   | some y =>
     rw [dropTk e] at hp
     exact hp.symm.trans (parse_x2 k (drop_hd (g:=(·.g)) (fun _ => rfl) h))
 · rw [List.drop_eq_nil_of_le (List.getElem?_eq_none_iff.mp h)] at hp
   exact hp.symm.trans (parse_x3 k)
end
section
variable {w:World} {s:Shared} {d:Nat} {X:QX} {Q:QE} {σ:Hp}
theorem al_yes {T:Tp} {d m:Nat} {sc:Scope} {X:QX} {ρ:Loc} {σ:Hp} {A B:Hp → Prop} (q:A σ):gw T d sc X (tsQ fun b σ => if b then A σ else B σ) (m + 2) (.al .And [] [] ρ σ):=q
theorem tt_yes {T:Tp} {d m k:Nat} {p:Pos} {sc:Scope} {X:QX} {ρ:Loc} {σ:Hp} {A B:Hp → Prop} (q:A σ):gw T d sc X (tsQ fun b σ => if b then A σ else B σ) (m + 10) (.ts (.Constant (.bool true) k p) [] ρ σ):=q
theorem cmpG.isP {p:Pt} (q:Q (.bool false) σ):cmpG .Is p.v .none Q σ:=by cases p <;> exact Cmp.isN (r:=false) rfl q
theorem last_at {l:Nat} {vs:List V} {v:V} {Q:QE} {σ:Hp} (hl:σ[l]? = some (.list (vs ++ [v]))) (hb:vs.length < 1000) (q:Q v σ):Itm (.ref l) (.int (-1)) Q σ:=by
 refine Itm.list (j:=vs.length) hl ?_ (by rw [Ztc (Zl _),Nat.sub_self]; rfl) ⟨by decide,by decide⟩ q
 unfold seqIndex?
 rw [Zf,List.length_cons,List.length_nil]
 simp only [show ((-1:Int) < 0) from by decide,if_true]
 rw [if_pos (by simp only [Zob,decide_eq_true_eq]; omega)]
 congr 1
 omega
theorem fn_part_of (TO:TopOk (T07 w s)) {l:Nat} {ws:List Str} (hl:σ[l]? = some (.list (ws.map V.str))) (hn:ws.length ≤ 200) (h3:3 ≤ ws.length) (ha:∀ x ∈ ws,WdOk x) (q:∀ p,parse ((ws.drop 2).map tk) [] = some p → ∀ junk,Q p.v (σ ++ junk)) (qx:parse ((ws.drop 2).map tk) [] = none → ∀ junk,X "NoNotes" (σ ++ junk)):CallOk (T07 w s) (d + 5) X (.glob "part_of") [.ref l] Q σ:=by
 generalize hout:parse ((ws.drop 2).map tk) [] = out at q qx
 refine CallOk.go TO rfl rfl ?_
 refine Stx.mk <| StOk.while (J07po ws l σ out) (ws.length - 2) ⟨2,[],by omega,⟨rfl,rfl,rfl,trivial⟩,⟨[],[],rfl,.nil⟩,hout,Zkb _,fun f hf => absurd hf Zdc⟩ ?_
 refine fun n ρ' σ' hJ => hJ.rec fun i W h0 hρ hW hp h4 hnf => ?_
 apply Has.on hρ
 refine vT_ok TO rfl 40 10 _ _ _ <| tt_yes ?_
 refine ExOk.cutAt 5 (J07pi ws l σ out n) (vB_ok TO rfl 60 _ _ _ _ ?_) fun ρ₁ σ₁ hJ => hJ.rec fun j m g k h0' hm hpm hg => ?_
 · refine hW.any.elim fun vs hh => and4 hh fun g1 g2 g3 hjk => hjk.elim fun junk g5 => ?_
   have hl':σ'[l]? = some (.list (ws.map V.str)):=by rw [g5]; exact get_up hl
   have bad:out = none → X "NoNotes" σ':=fun h => g5 ▸ qx h junk
   have hvl:vs.length ≤ 200:=by omega
   refine Cal.mk <| fn_word_at (i:=i) TO hl' hn (fun x hx => ?_) fun hx => bad (by rw [← hp,List.drop_eq_nil_of_le (List.getElem?_eq_none_iff.mp hx)]; rfl)
   have hi:=ws_lt hx
   rw [dropTk hx] at hp
   refine Cal.mk <| (leaf_R TO hl' hn ha hx hp bad).mono (fun v σ'' hR => ?_) fun _ _ h => h
   cases hR with
   | leaf e1 p j e2 k1 k2 k3 =>
     apply eq_to e1
     apply eq_to e2
     refine cmpG.isP <| Cal.len (n:=vs.length) (len_at g1 rfl) (n200 hvl) <| Br.mk (fun hb => ?_) fun hb => ?_
     · cases W with
       | nil => rw [g2] at hb; exact absurd hb (by decide)
       | cons f W =>
         refine hW.top.rec fun lf us t1 t2 t3 t4 t5 t6 t7 => ?_
         have hus:us.length < 1000:=by rw [t4]; simp only [List.length_cons] at h4; omega
         refine last_at t1 hus <| MethOk.append t2 <| Cal.mk <| CallOk.append t2 (by rw [Zc]; exact szo (Za t3.2.2 (Za t3.2.1 (by decide)))) ?_
         exact ⟨j,ws.length - j,_,_,by omega,by omega,⟨⟨f.k,f.m,f.ps ++ [p]⟩ :: W,p.v,rfl,⟨rfl,rfl,rfl,rfl,trivial⟩,t5 p (hnf f (.head _)),.cons _ _ _,by simp only [List.length_cons] at h4 ⊢; omega,fun f' hf' => hnf f' (.tail _ hf')⟩,k3⟩
     · cases W with
       | nil => exact ⟨j,ws.length - j,.fin p,0,by omega,by omega,⟨[],_,rfl,⟨rfl,rfl,rfl,rfl,trivial⟩,hW,.nil p,Zkb _,fun f hf => absurd hf Zdc⟩,k3⟩
       | cons f W => rw [g2] at hb; exact absurd (of_decide_eq_false hb) (by simp)
   | no e1 e2 k1 k2 k3 k4 =>
     apply eq_to e1
     apply eq_to e2
     refine Cmp.isN (v:=.none) (r:=true) rfl ?_
     have fin:∀ {k:Kw} {m j:Nat},(k = .row ∨ k = .alt ∨ ((k = .many ∨ k = .nt) ∧ m = 1)) → m ≤ 9999 → i < j → j ≤ ws.length → nxt (parse ((ws.drop j).map tk)) ((ws.drop j).map tk) (push k m W) = out → ∀ {ρ:Loc},Has ρ [("words",.ref l),("at",.int j),("waiting",.ref σ.length),("part",.none)] → J07pi ws l σ out n ρ ((σ' ++ [MObj.list []]).set σ.length (MObj.list (vs ++ [V.tup [V.str (kwS k),V.int m,V.ref σ'.length]]))):=fun {k m j} hk hm hj hj2 hq {ρ} hρ =>
       ⟨j,ws.length - j,_,_,by omega,by omega,⟨⟨k,m,[]⟩ :: W,.none,rfl,hρ,g3 k m ⟨hk,hm,Zkb _⟩,.cons _ _ _,by simp only [List.length_cons]; omega,hnf⟩,hq⟩
     have app:∀ {v:V} {K:QE},K .none ((σ' ++ [MObj.list []]).set σ.length (MObj.list (vs ++ [v]))) → Cal (T07 w s) (d + 4) X (.bi "list.append") [.ref σ.length,v] K (σ' ++ [MObj.list []]):=fun {v K} k => ⟨CallOk.append (get_up g1) (szo (Za hvl (by decide))) k⟩
     have nes:∀ {y:Str},x ≠ y → (x == y) = false:=fun h => by rw [Zmc]; exact h
     have nen:∀ {y:Str},x ≠ y → (x != y) = true:=fun h => by rw [bne_iff_ne]; exact h
     by_cases hr:x = "row"
     · subst hr
       refine Cal.mk <| fn_number_at (i:=i + 1) TO hl' hn ha (fun y m hy hm => MethOk.append g1 <| app <| fin (k:=.row) (j:=i + 2) (.inl rfl) (num_le hm) (by omega) (ws_lt hy) ?_ ⟨rfl,rfl,rfl,rfl,trivial⟩) fun h => bad (hp.symm.trans (parse_x4 (.inl rfl) (drop_hd (g:=(·.n)) (fun _ => rfl) h)))
       rw [dropTk hy] at hp
       exact (parse_num (t:=tk "row") (.inl rfl) hm).symm.trans hp
     by_cases ho:x = "or"
     · subst ho
       refine Cal.mk <| fn_number_at (i:=i + 1) TO hl' hn ha (fun y m hy hm => MethOk.append g1 <| app <| fin (k:=.alt) (j:=i + 2) (.inr (.inl rfl)) (num_le hm) (by omega) (ws_lt hy) ?_ ⟨rfl,rfl,rfl,rfl,trivial⟩) fun h => bad (hp.symm.trans (parse_x4 (.inr rfl) (drop_hd (g:=(·.n)) (fun _ => rfl) h)))
       rw [dropTk hy] at hp
       exact (parse_num (t:=tk "or") (.inr rfl) hm).symm.trans hp
     by_cases hm:x = "many"
     · subst hm
       exact MethOk.append g1 <| app <| fin (k:=.many) (m:=1) (j:=i + 1) (.inr (.inr ⟨.inl rfl,rfl⟩)) (by decide) (Zs _) hi ((parse_one (t:=tk "many") (.inl rfl)).symm.trans hp) ⟨rfl,rfl,rfl,rfl,trivial⟩
     by_cases ht:x = "not"
     · subst ht
       exact MethOk.append g1 <| app <| fin (k:=.nt) (m:=1) (j:=i + 1) (.inr (.inr ⟨.inr rfl,rfl⟩)) (by decide) (Zs _) hi ((parse_one (t:=tk "not") (.inr rfl)).symm.trans hp) ⟨rfl,rfl,rfl,rfl,trivial⟩
     refine Br.f (nes hr) <| Br.f (nes ho) <| Br.t (nen hm) <| Br.t (nen ht) <| Stx.mk <| StOk.raise TO rfl rfl rfl rfl rfl (by kernel_rfl) (bad (hp.symm.trans (parse_no ?_)))
     show kw x = .no
     revert k1 k2 k3 k4
     unfold kw
     rw [if_neg hr,if_neg ho,if_neg hm,if_neg ht]
     repeat' split
     all_goals intros
     all_goals first | rfl | contradiction
 · refine vB_ok TO rfl 60 _ _ _ _ <| Stx.mk <| StOk.while (J07pm ws l σ out n j g) k hpm ?_
   refine fun k ρ₂ σ₂ hJ => hJ.rec fun W v hk hρ hW hC h4 hnf => ?_
   apply Has.on hρ
   refine hW.any.elim fun vs hh => and4 hh fun g1 g2 g3 hjk => hjk.elim fun junk g5 => ?_
   have hvl:vs.length ≤ 200:=by omega
   have hlen:∀ {K:QE},K (.int ws.length) σ₂ → Cal (T07 w s) (d + 4) X (.bi "len") [.ref l] K σ₂:=fun {K} k => Cal.len (n:=ws.length) (len_at (by rw [g5]; exact get_up hl) (Zc _)) (n200 hn) k
   cases W with
   | nil =>
     cases hC with
     | nil p =>
       have hv:vs.length = 0:=g2
       refine vT_ok TO rfl 40 10 _ _ _ <| Cal.len (n:=vs.length) (len_at g1 rfl) (n200 hvl) <| Br.f (by rw [hv]; rfl) <| ite_no Zv <| Cal.len (n:=0) (len_at g1 hv) (by decide) <| hlen <| Br.mk (fun hb => ?_) fun hb => ?_
       · refine Stx.mk <| StOk.raise TO rfl rfl rfl rfl rfl (by kernel_rfl) (g5 ▸ qx (hg.symm.trans ?_) junk)
         have hlt:j < ws.length:=Zfb.mp (Zgb hb)
         show (if _ then _ else _) = none
         rw [if_neg]
         rw [List.isEmpty_iff,List.map_eq_nil_iff,List.drop_eq_nil_iff]
         omega
       · refine g5 ▸ q p (hg.symm.trans ?_) junk
         have hge:¬ j < ws.length:=fun h => of_decide_eq_false hb (Zfb.mpr h)
         show (if _ then _ else _) = some p
         rw [if_pos]
         rw [List.isEmpty_iff,List.map_eq_nil_iff,List.drop_eq_nil_iff]
         omega
   | cons f W =>
     refine hW.top.rec fun lf us t1 t2 t3 t4 t5 t6 t7 => ?_
     have hus:us.length < 1000:=by rw [t4]; simp only [List.length_cons] at h4; omega
     have hv:vs.length = W.length + 1:=g2
     refine vT_ok TO rfl 40 10 _ _ _ <| Cal.len (n:=W.length + 1) (len_at g1 hv) (by rw [← hv]; exact n200 hvl) <| Br.t (Zmb (Zfb.mpr (Nat.succ_pos _))) <| last_at t1 hus <| Cal.len (n:=f.ps.length) (len_at t2 (Zc _)) (Zk (Za t3.2.2 t3.2.1) (by decide)) <| last_at t1 hus <| Br.mk (fun he => al_yes ?_) fun he => ite_no Zv ?_
     · have he:f.ps.length = f.m:=Int.ofNat_inj.mp (eq_of_beq he)
       have hgg:g = give W (mkP f.k f.ps):=by cases hC; exact if_pos he
       have hmk:f.k = .row ∨ f.k = .alt ∨ ((f.k = .many ∨ f.k = .nt) ∧ f.ps ≠ []):=t3.1.imp id fun h => h.imp id fun h => ⟨h.1,fun e => by rw [e,h.2] at he; cases he⟩
       refine vB_ok TO rfl 60 _ _ _ _ <| MethOk.pop t1 <| Cal.mk <| CallOk.pop t1 (Zz hus (by decide)) <| Cal.mk <| fn_made (k:=f.k) TO hmk t7 (Za t3.2.2 (Za t3.2.1 (by decide))) ?_
       have hg1:(σ₂.set σ.length (.list us))[σ.length]? = some (.list us):=Zw (get_lt t1)
       cases W with
       | nil =>
         have hu0:us.length = 0:=t4
         exact Cal.len (n:=0) (len_at hg1 hu0) (by decide) ⟨0,by rw [hk]; exact Nat.succ_pos _,[],_,rfl,⟨rfl,rfl,rfl,rfl,trivial⟩,t6,hgg ▸ .nil _,Zkb _,fun f hf => absurd hf Zdc⟩
       | cons f' W' =>
         refine t6.top.rec fun lf' us' r1 r2 r3 r4 r5 r6 r7 => ?_
         have hus':us'.length < 1000:=by rw [r4]; simp only [List.length_cons] at h4; omega
         have hu1:us.length = W'.length + 1:=t4
         refine Cal.len (n:=W'.length + 1) (len_at hg1 hu1) (by rw [← hu1]; exact Nat.lt_trans hus (by decide)) <| Br.t (Zmb (Zfb.mpr (Nat.succ_pos _))) <| last_at r1 hus' <| MethOk.append r2 <| Cal.mk <| CallOk.append r2 (by rw [Zc]; exact szo (Za r3.2.2 (Za r3.2.1 (by decide)))) ?_
         exact ⟨W'.length + 1,by rw [hk]; exact Zs _,⟨f'.k,f'.m,f'.ps ++ [mkP f.k f.ps]⟩ :: W',_,rfl,⟨rfl,rfl,rfl,rfl,trivial⟩,r5 _ (hnf f' (.head _)),hgg ▸ .cons _ _ _,by simp only [List.length_cons] at h4 ⊢; omega,fun f hf => hnf f (.tail _ hf)⟩
     · have he:f.ps.length ≠ f.m:=fun e => Zmc.mp he (congrArg Int.ofNat e)
       have hgg:g = .more (f :: W):=by cases hC; exact if_neg he
       rw [hgg] at hg
       refine Cal.len (n:=W.length + 1) (len_at g1 hv) (by rw [← hv]; exact n200 hvl) <| ⟨m,hm,j,f :: W,h0',⟨rfl,rfl,rfl,trivial⟩,hW,hg,h4,fun f' hf' => ?_⟩
       rcases Zg.mp hf' with rfl | hf'
       · exact Nat.lt_of_le_of_ne t3.2.2 he
       · exact hnf f' hf'
end
section
variable {w:World} {s:Shared} {d:Nat} {X:QX} {Q:QE} {σ:Hp}
theorem all2_snoc {wss:List (List Str)} {rs:List (Str × Pt)} {i:Nat} {ws:List Str} {r:Str × Pt} (h:RowsR (wss.take i) rs) (hw:wss[i]? = some ws) (e:rowOut ws = some r):RowsR (wss.take (i + 1)) (rs ++ [r]):=by
 rw [take_next hw]; exact h.append (.cons e .nil)
inductive J07gr (wss:List (List Str)) (σ:Hp) (i:Nat) (ρ':Loc) (σ':Hp):Prop where
 | mk (rs:List (Str × Pt)) (jk:Hp) (h1:Has ρ' [("rules",.ref σ.length)]) (h2:σ' = σ ++ .list (rs.map ruleV) :: .list ((wss.map jn).map V.str) :: jk) (h3:RowsR (wss.take i) rs):J07gr wss σ i ρ' σ'
theorem sOk_wd {x:Str} (h:∀ c ∈ x.cps.toList,c < 128):sOk x:=by
 unfold sOk PyData.strOk
 rw [Array.all_eq_true_iff_forall_mem]
 intro c hc
 have:=h c (by simpa using hc)
 simp; (clear hc h; omega)
theorem rowOut_ws {ws:List Str} (h3:3 ≤ ws.length) (h0:Str.ofString "" ∉ ws) (h1:ws[1]? = some (Str.ofString "=")):rowOut ws = (parse ((ws.drop 2).map tk) []).map (ws.headD (Str.ofString ""),·):=by
 rcases ws with zz | ⟨a,zz | ⟨b,zz | ⟨c,r⟩⟩⟩
 · exact absurd h3 (by decide)
 · exact absurd h3 (by simp)
 · exact absurd h3 (by simp)
 · have e:b = Str.ofString "=":=Zab h1
   exact if_neg fun k => k.elim h0 fun k => k e
theorem fn_grammar_of (TO:TopOk (T07 w s)) {wss:List (List Str)} (h0:wss ≠ []) (hl:wss.length ≤ 60) (hw:∀ ws ∈ wss,WsOk ws) (qx:(∃ ws ∈ wss,rowOut ws = none) → ∀ junk,X "NoNotes" (σ ++ junk)) (q:∀ rs junk l,RowsR wss rs → (σ ++ junk)[l]? = some (.list (rs.map ruleV)) → CallOk (T07 w s) (d + 18) X (.glob "Grammar") [.ref l] Q (σ ++ junk)) :
   CallOk (T07 w s) (d + 19) X (.glob "grammar_of") [.str (Txt.join ⟨#[10]⟩ (wss.map jn))] Q σ:=by
 refine CallOk.go TO rfl rfl ?_
 refine MethOk.split <| Cal.mk <| CallOk.split rfl (Za (join_len _) (rows_len hl hw)) ?_
 rw [show Str.ofString "\n" = ⟨#[10]⟩ from rfl,rows_split h0 hw]
 refine ForOk.mk ((wss.map jn).map V.str) (J07gr wss σ) ⟨[],[],⟨rfl,trivial⟩,Ze ..,.nil⟩ (fun i ρ' σ' hJ => hJ.rec fun rs jk h1 h2 h3 => ?_) (fun ρ' σ' hJ => hJ.rec fun rs jk h1 h2 h3 => ?_) fun i x ρ' σ' hJ hx => hJ.rec fun rs jk h1 h2 h3 => (map_at hx).elim fun y hh => ?_
 · rw [Zf,h2]; exact iter_list get1
 · apply Has.on h1
   apply eq_to h2
   rw [Zc,Zc,Zgc] at h3
   exact Cal.mk (q rs _ _ h3 get0)
 · have hy:=hh.1
   rw [Zdb,Zpb] at hy
   refine hy.elim fun ws hws => ?_
   have hwm:=Zn hws.1
   have hk:=hw ws hwm
   have hrl:rs.length ≤ 60:=by
     have e:=h3.length
     rw [List.length_take] at e
     omega
   apply Has.on h1
   apply eq_to h2
   apply eq_to hh.2
   apply eq_to hws.2.symm
   generalize hσ:(σ ++ MObj.list (rs.map ruleV) :: .list ((wss.map jn).map V.str) :: jk) = σ₁
   have hbad:rowOut ws = none → ∀ jk2,X "NoNotes" (σ₁ ++ jk2):=fun h jk2 => by
     have:=qx ⟨ws,hwm,h⟩ (.list (rs.map ruleV) :: .list ((wss.map jn).map V.str) :: jk ++ jk2)
     rw [← Ze,hσ] at this
     exact this
   have g0:σ₁[σ.length]? = some (.list (rs.map ruleV)):=by rw [← hσ]; exact get0
   refine ⟨_,rfl,vB_ok TO rfl 60 _ _ _ _ <| MethOk.split <| Cal.mk <| CallOk.split rfl (Za hk.jlen (by decide)) ?_⟩
   rw [show Str.ofString " " = ⟨#[32]⟩ from rfl,hk.split]
   have gw:(σ₁ ++ [.list (ws.map V.str)])[σ₁.length]? = some (.list (ws.map V.str)):=get_new
   have hn:ws.length ≤ 200:=Za hk.len (by decide)
   refine Cmp.mk ⟨_,.isin _ _ _ (in_strs (sOk_wd (by decide +kernel)) (fun n hn => sOk_wd fun c hc => ((hk.all n hn).asc c hc).1) gw),?_⟩
   refine Br.mk (fun hb => ?_) fun hb => Cal.len (n:=ws.length) (len_at gw (Zc _)) (n200 hn) <| Br.mk (fun hb2 => ?_) fun hb2 => ?_
   · exact Stx.mk <| StOk.raise TO rfl rfl rfl rfl rfl (by kernel_rfl) (hbad (rowOut_none (.inr (.inl (Zgb hb)))) _)
   · exact Stx.mk <| StOk.raise TO rfl rfl rfl rfl rfl (by kernel_rfl) (hbad (rowOut_none (.inl (Zfb.mp (Zgb hb2)))) _)
   have hm:Str.ofString "" ∉ ws:=of_decide_eq_false hb
   have h3l:3 ≤ ws.length:=Nat.le_of_not_lt fun k => of_decide_eq_false hb2 (Zfb.mpr k)
   have hb62:(ws.map V.str).length < 2 ^ 62:=by rw [Zc]; exact n200 hn
   have e1:ws[1]? = some (ws[1]'(by omega)):=Zp (by omega)
   have e0:ws[0]? = some (ws.headD (Str.ofString "")):=by cases ws with
     | nil => exact absurd h3l (by decide)
     | cons a r => rfl
   refine Itm.mk (item_at gw (j:=1) rfl (by rw [Zdb,e1]; rfl) hb62 ?_)
   refine Br.mk (fun hb3 => ?_) fun hb3 => ?_
   · exact Stx.mk <| StOk.raise TO rfl rfl rfl rfl rfl (by kernel_rfl) (hbad (rowOut_none (.inr (.inr (.inl fun e => bne_iff_ne.mp hb3 (Zab (e1.symm.trans e)))))) _)
   have he:ws[1]? = some (Str.ofString "="):=e1.trans (congrArg some (bne_eq_false_iff_eq.mp hb3))
   have ho:=rowOut_ws h3l hm he
   refine MethOk.append (get_up g0) <| Itm.mk (item_at gw (j:=0) rfl (by rw [Zdb,e0]; rfl) hb62 ?_)
   refine Cal.mk <| fn_part_of (d:=d + 13) TO gw hn h3l hk.all (fun p hp jk2 => Cal.mk <| CallOk.append (get_up (get_up g0)) (by rw [Zc]; exact szo (Za hrl (by decide))) ?_) fun hp jk2 => ?_
   · rw [hp] at ho
     refine ⟨rs ++ [(ws.headD (Str.ofString ""),p)],jk ++ [.list (ws.map V.str)] ++ jk2,⟨rfl,trivial⟩,?_,all2_snoc h3 hws.1 ho⟩
     rw [← hσ,Ze,Ze,List.cons_append,List.cons_append,set0,Zfc,Ze]; rfl
   · rw [hp] at ho
     rw [Ze]
     exact hbad ho _
theorem fn_grammar7 (TO:TopOk (T07 w s)) {l c:Nat} {rs:List (Str × Pt)} (hl:σ[l]? = some (.list (rs.map ruleV))) (h1:1 ≤ rs.length) (h60:rs.length ≤ 60) (hs:∀ r ∈ rs,Shp r) (ho:Out7 rs c) (q:c = 0 → GoodRules rs → ∀ bs junk,GrAt rs bs σ.length (σ ++ junk) → Q (.ref σ.length) (σ ++ junk)) (q2:c = 2 → ∀ junk,X "NoGrammar" (σ ++ junk)) (q3:c = 3 → ∀ junk,X "NoRule" (σ ++ junk)) (q4:c = 4 → ∀ junk,X "Circling" (σ ++ junk)):CallOk (T07 w s) (d + 18) X (.glob "Grammar") [.ref l] Q σ:=by
 have up:∀ {c:Str},(∀ junk,X c (σ ++ junk)) → ∀ junk,X c (σ ++ [MObj.inst "Grammar" []] ++ junk):=fun h junk => by rw [Ze]; exact h _
 cases ho with
 | good h k => exact fn_init TO hl h (fun bs junk z1 z2 hG => q rfl h bs junk hG) fun bs junk z1 hx => hx.elim fun r hr => absurd hr.2 (k _ r hr.1)
 | ring h k => exact fn_init TO hl h (fun bs junk z1 z2 hG => (k (inB bs)).elim fun r hr => absurd hr.2 (z2 r hr.1)) fun bs junk z1 hx => q4 rfl junk
 | bad h =>
   refine CallOk.make TO rfl rfl rfl rfl <| CodeOk.goM TO rfl rfl ?_
   exact Cal.mk <| fn_need7 TO (get_up hl) h1 h60 hs (fun z1 => up (q2 rfl)) (fun F => absurd F h) fun F => absurd F h
 | rule h k =>
   refine CallOk.make TO rfl rfl rfl rfl <| CodeOk.goM TO rfl rfl ?_
   exact Cal.mk <| fn_need7 TO (get_up hl) h1 h60 hs (fun F => absurd h F) (fun z1 z2 => up (q3 rfl)) fun z1 hk => k.elim fun r hr => hr.2.elim fun n hn => absurd (hk r hr.1 n hn.1) hn.2
end
section
variable {w:World} {s:Shared} {d:Nat} {X:QX} {Q:QE} {σ:Hp}
noncomputable abbrev U07 (w:World) (s:Shared):Tp:=(T07 w s).at true
theorem Cal.isiX {T:Tp} {c x:Str} {C D:Addr} {b:Bool} (TO:TopOk T) (hc:T.c c = some C) (hx:T.g x = some (.ref D)) (ek:excK T.K C = true) (e:kitOne T.K (.ref C) (.ref D) = some b) (q:Q (.bool b) σ):Cal T d X (.bi "isinstance") [.exc c,.glob x] Q σ:=⟨CallOk.isiX TO hc hx ek e q⟩
noncomputable def markB (p:Nat):List Bool:=(List.range 8).map fun k => decide (k = p) || decide (5 < k)
theorem bools_deep (σ:Hp) (l:List Bool):Deeps σ (l.map PyData.bool) (l.map V.bool):=l.rec .nil fun b r ih => .cons (.bool b) ih
theorem markB_at {p i:Nat} (h:i < 8):(markB p)[i]? = some (decide (i = p) || decide (5 < i)):=by simp [markB,h]
theorem fn_marks5 (TO:TopOk (U07 w s)) (q:Q (.ref (σ.length + 4)) (σ ++ [.list [.bool false,.bool false,.bool false],.list [.bool false,.bool false,.bool true],.list [.bool false,.bool false,.bool false,.bool false,.bool false,.bool true],.list [.bool true,.bool true],.list [.bool false,.bool false,.bool false,.bool false,.bool false,.bool true,.bool true,.bool true]])):CallOk (U07 w s) (d + 1) X (.glob "_law_marks") [.exc "NoNotes"] Q σ:=by
 refine CallOk.go TO rfl rfl ?_
 refine Cal.isiX (b:=false) TO rfl rfl rfl rfl <| Cal.isiX (b:=false) TO rfl rfl rfl rfl <| Cal.isiX (b:=false) TO rfl rfl rfl rfl <| Cal.isiX (b:=false) TO rfl rfl rfl rfl <| Cal.isiX (b:=false) TO rfl rfl rfl rfl <| Cal.isiX (b:=true) TO rfl rfl rfl rfl <| Bin.lists (get_up get_new) get_new (sz _ rfl) <| Cal.isiX (b:=true) TO rfl rfl rfl rfl <| Cal.mk <| CallOk.isiXT (b:=true) TO rfl rfl rfl <| Bin.lists (get_up get_new) get_new (sz _ rfl) ?_
 simp only [Ze,List.cons_append,List.nil_append,Zf,List.length_cons,List.length_nil]
 exact q
theorem fn_alone5 (TO:TopOk (U07 w s)) (q:∀ junk,Q (.bool true) (σ ++ junk)):CallOk (U07 w s) (d + 2) X (.glob "_law_alone") [.exc "NoNotes",.int 5] Q σ:=by
 refine CallOk.go TO rfl rfl ?_
 refine Cal.mk <| fn_marks5 TO ?_
 generalize hσ:σ ++ [MObj.list [.bool false,.bool false,.bool false],.list [.bool false,.bool false,.bool true],.list [.bool false,.bool false,.bool false,.bool false,.bool false,.bool true],.list [.bool true,.bool true],.list [.bool false,.bool false,.bool false,.bool false,.bool false,.bool true,.bool true,.bool true]] = σ₁
 have h4:σ₁[σ.length + 4]? = some (.list ((markB 5).map V.bool)):=by rw [← hσ,Ztc (by lia)]; simp; rfl
 refine Evx.mk <| EvOk.compR rfl rfl rfl <| vE_ok TO rfl 40 _ _ _ <| Cal.range ⟨.inr ⟨_,rfl⟩,_,fun i acc σ' => acc = ((markB 5).take i).map V.bool ∧ i ≤ 8 ∧ σ' = σ₁,⟨rfl,by lia,rfl⟩,fun i acc σ' hJ => ⟨rng_iter (by decide) (by decide),?_⟩,fun acc σ' hJ => ?_,fun i y acc σ' hJ hy => ?_⟩
 · rw [hJ.1,Zc,List.length_take]; exact szo (by have:=hJ.2.1; clear h4 hJ; lia)
 · obtain ⟨rfl,_,rfl⟩:=hJ
   refine Cmp.eqR (da:=.list ((markB 5).map PyData.bool)) (db:=.list ((markB 5).map PyData.bool)) ?_ ?_ (by decide) (r:=true) (by decide) ?_
   · exact .list (get_up h4) (bools_deep _ _)
   · exact .list get_new (bools_deep _ (markB 5))
   · rw [← hσ,Ze]
     exact q _
 · obtain ⟨rfl,hi,rfl⟩:=hJ
   obtain ⟨hi,rfl⟩:=rng_at hy
   have hi:i < 8:=hi
   have next:∀ {b:Bool},b = (decide (i = 5) || decide (5 < i)) → ((markB 5).take i).map V.bool ++ [.bool b] = ((markB 5).take (i + 1)).map V.bool ∧ i + 1 ≤ 8 ∧ σ' = σ':=fun {b} e => by
     refine ⟨?_,hi,rfl⟩
     rw [take_next (markB_at hi),Zfc,e]; rfl
   refine vE_ok TO rfl 40 _ _ _ <| Br.mk (fun h => next ?_) fun h => next ?_
   · rw [Bool.eq_iff_iff]; simp at h ⊢; lia
   · rw [Bool.eq_iff_iff]; simp at h ⊢; lia
theorem fn_marks0 (TO:TopOk (U07 w s)) (q:Q (.ref (σ.length + 4)) (σ ++ [.list [.bool true,.bool false,.bool false],.list [.bool false,.bool false,.bool false],.list [.bool true,.bool false,.bool false,.bool false,.bool false,.bool false],.list [.bool true,.bool true],.list [.bool true,.bool false,.bool false,.bool false,.bool false,.bool false,.bool true,.bool true]])):CallOk (U07 w s) (d + 1) X (.glob "_law_marks") [.exc "NoGrammar"] Q σ:=by
 refine CallOk.go TO rfl rfl ?_
 refine Cal.isiX (b:=true) TO rfl rfl rfl rfl <| Cal.isiX (b:=false) TO rfl rfl rfl rfl <| Cal.isiX (b:=false) TO rfl rfl rfl rfl <| Cal.isiX (b:=false) TO rfl rfl rfl rfl <| Cal.isiX (b:=false) TO rfl rfl rfl rfl <| Cal.isiX (b:=false) TO rfl rfl rfl rfl <| Bin.lists (get_up get_new) get_new (sz _ rfl) <| Cal.isiX (b:=true) TO rfl rfl rfl rfl <| Cal.mk <| CallOk.isiXT (b:=true) TO rfl rfl rfl <| Bin.lists (get_up get_new) get_new (sz _ rfl) ?_
 simp only [Ze,List.cons_append,List.nil_append,Zf,List.length_cons,List.length_nil]
 exact q
theorem fn_alone0 (TO:TopOk (U07 w s)) (q:∀ junk,Q (.bool true) (σ ++ junk)):CallOk (U07 w s) (d + 2) X (.glob "_law_alone") [.exc "NoGrammar",.int 0] Q σ:=by
 refine CallOk.go TO rfl rfl ?_
 refine Cal.mk <| fn_marks0 TO ?_
 generalize hσ:σ ++ [MObj.list [.bool true,.bool false,.bool false],.list [.bool false,.bool false,.bool false],.list [.bool true,.bool false,.bool false,.bool false,.bool false,.bool false],.list [.bool true,.bool true],.list [.bool true,.bool false,.bool false,.bool false,.bool false,.bool false,.bool true,.bool true]] = σ₁
 have h4:σ₁[σ.length + 4]? = some (.list ((markB 0).map V.bool)):=by rw [← hσ,Ztc (by lia)]; simp; rfl
 refine Evx.mk <| EvOk.compR rfl rfl rfl <| vE_ok TO rfl 40 _ _ _ <| Cal.range ⟨.inr ⟨_,rfl⟩,_,fun i acc σ' => acc = ((markB 0).take i).map V.bool ∧ i ≤ 8 ∧ σ' = σ₁,⟨rfl,by lia,rfl⟩,fun i acc σ' hJ => ⟨rng_iter (by decide) (by decide),?_⟩,fun acc σ' hJ => ?_,fun i y acc σ' hJ hy => ?_⟩
 · rw [hJ.1,Zc,List.length_take]; exact szo (by have:=hJ.2.1; clear h4 hJ; lia)
 · obtain ⟨rfl,_,rfl⟩:=hJ
   refine Cmp.eqR (da:=.list ((markB 0).map PyData.bool)) (db:=.list ((markB 0).map PyData.bool)) ?_ ?_ (by decide) (r:=true) (by decide) ?_
   · exact .list (get_up h4) (bools_deep _ _)
   · exact .list get_new (bools_deep _ (markB 0))
   · rw [← hσ,Ze]
     exact q _
 · obtain ⟨rfl,hi,rfl⟩:=hJ
   obtain ⟨hi,rfl⟩:=rng_at hy
   have hi:i < 8:=hi
   have next:∀ {b:Bool},b = (decide (i = 0) || decide (5 < i)) → ((markB 0).take i).map V.bool ++ [.bool b] = ((markB 0).take (i + 1)).map V.bool ∧ i + 1 ≤ 8 ∧ σ' = σ':=fun {b} e => by
     refine ⟨?_,hi,rfl⟩
     rw [take_next (markB_at hi),Zfc,e]; rfl
   refine vE_ok TO rfl 40 _ _ _ <| Br.mk (fun h => next ?_) fun h => next ?_
   · rw [Bool.eq_iff_iff]; simp at h ⊢; lia
   · rw [Bool.eq_iff_iff]; simp at h ⊢; lia
theorem fn_marks1 (TO:TopOk (U07 w s)) (q:Q (.ref (σ.length + 4)) (σ ++ [.list [.bool false,.bool true,.bool false],.list [.bool false,.bool false,.bool false],.list [.bool false,.bool true,.bool false,.bool false,.bool false,.bool false],.list [.bool true,.bool true],.list [.bool false,.bool true,.bool false,.bool false,.bool false,.bool false,.bool true,.bool true]])):CallOk (U07 w s) (d + 1) X (.glob "_law_marks") [.exc "NoRule"] Q σ:=by
 refine CallOk.go TO rfl rfl ?_
 refine Cal.isiX (b:=false) TO rfl rfl rfl rfl <| Cal.isiX (b:=true) TO rfl rfl rfl rfl <| Cal.isiX (b:=false) TO rfl rfl rfl rfl <| Cal.isiX (b:=false) TO rfl rfl rfl rfl <| Cal.isiX (b:=false) TO rfl rfl rfl rfl <| Cal.isiX (b:=false) TO rfl rfl rfl rfl <| Bin.lists (get_up get_new) get_new (sz _ rfl) <| Cal.isiX (b:=true) TO rfl rfl rfl rfl <| Cal.mk <| CallOk.isiXT (b:=true) TO rfl rfl rfl <| Bin.lists (get_up get_new) get_new (sz _ rfl) ?_
 simp only [Ze,List.cons_append,List.nil_append,Zf,List.length_cons,List.length_nil]
 exact q
theorem fn_alone1 (TO:TopOk (U07 w s)) (q:∀ junk,Q (.bool true) (σ ++ junk)):CallOk (U07 w s) (d + 2) X (.glob "_law_alone") [.exc "NoRule",.int 1] Q σ:=by
 refine CallOk.go TO rfl rfl ?_
 refine Cal.mk <| fn_marks1 TO ?_
 generalize hσ:σ ++ [MObj.list [.bool false,.bool true,.bool false],.list [.bool false,.bool false,.bool false],.list [.bool false,.bool true,.bool false,.bool false,.bool false,.bool false],.list [.bool true,.bool true],.list [.bool false,.bool true,.bool false,.bool false,.bool false,.bool false,.bool true,.bool true]] = σ₁
 have h4:σ₁[σ.length + 4]? = some (.list ((markB 1).map V.bool)):=by rw [← hσ,Ztc (by lia)]; simp; rfl
 refine Evx.mk <| EvOk.compR rfl rfl rfl <| vE_ok TO rfl 40 _ _ _ <| Cal.range ⟨.inr ⟨_,rfl⟩,_,fun i acc σ' => acc = ((markB 1).take i).map V.bool ∧ i ≤ 8 ∧ σ' = σ₁,⟨rfl,by lia,rfl⟩,fun i acc σ' hJ => ⟨rng_iter (by decide) (by decide),?_⟩,fun acc σ' hJ => ?_,fun i y acc σ' hJ hy => ?_⟩
 · rw [hJ.1,Zc,List.length_take]; exact szo (by have:=hJ.2.1; clear h4 hJ; lia)
 · obtain ⟨rfl,_,rfl⟩:=hJ
   refine Cmp.eqR (da:=.list ((markB 1).map PyData.bool)) (db:=.list ((markB 1).map PyData.bool)) ?_ ?_ (by decide) (r:=true) (by decide) ?_
   · exact .list (get_up h4) (bools_deep _ _)
   · exact .list get_new (bools_deep _ (markB 1))
   · rw [← hσ,Ze]
     exact q _
 · obtain ⟨rfl,hi,rfl⟩:=hJ
   obtain ⟨hi,rfl⟩:=rng_at hy
   have hi:i < 8:=hi
   have next:∀ {b:Bool},b = (decide (i = 1) || decide (5 < i)) → ((markB 1).take i).map V.bool ++ [.bool b] = ((markB 1).take (i + 1)).map V.bool ∧ i + 1 ≤ 8 ∧ σ' = σ':=fun {b} e => by
     refine ⟨?_,hi,rfl⟩
     rw [take_next (markB_at hi),Zfc,e]; rfl
   refine vE_ok TO rfl 40 _ _ _ <| Br.mk (fun h => next ?_) fun h => next ?_
   · rw [Bool.eq_iff_iff]; simp at h ⊢; lia
   · rw [Bool.eq_iff_iff]; simp at h ⊢; lia
theorem fn_marks2 (TO:TopOk (U07 w s)) (q:Q (.ref (σ.length + 4)) (σ ++ [.list [.bool false,.bool false,.bool true],.list [.bool false,.bool false,.bool false],.list [.bool false,.bool false,.bool true,.bool false,.bool false,.bool false],.list [.bool true,.bool true],.list [.bool false,.bool false,.bool true,.bool false,.bool false,.bool false,.bool true,.bool true]])):CallOk (U07 w s) (d + 1) X (.glob "_law_marks") [.exc "Circling"] Q σ:=by
 refine CallOk.go TO rfl rfl ?_
 refine Cal.isiX (b:=false) TO rfl rfl rfl rfl <| Cal.isiX (b:=false) TO rfl rfl rfl rfl <| Cal.isiX (b:=true) TO rfl rfl rfl rfl <| Cal.isiX (b:=false) TO rfl rfl rfl rfl <| Cal.isiX (b:=false) TO rfl rfl rfl rfl <| Cal.isiX (b:=false) TO rfl rfl rfl rfl <| Bin.lists (get_up get_new) get_new (sz _ rfl) <| Cal.isiX (b:=true) TO rfl rfl rfl rfl <| Cal.mk <| CallOk.isiXT (b:=true) TO rfl rfl rfl <| Bin.lists (get_up get_new) get_new (sz _ rfl) ?_
 simp only [Ze,List.cons_append,List.nil_append,Zf,List.length_cons,List.length_nil]
 exact q
theorem fn_alone2 (TO:TopOk (U07 w s)) (q:∀ junk,Q (.bool true) (σ ++ junk)):CallOk (U07 w s) (d + 2) X (.glob "_law_alone") [.exc "Circling",.int 2] Q σ:=by
 refine CallOk.go TO rfl rfl ?_
 refine Cal.mk <| fn_marks2 TO ?_
 generalize hσ:σ ++ [MObj.list [.bool false,.bool false,.bool true],.list [.bool false,.bool false,.bool false],.list [.bool false,.bool false,.bool true,.bool false,.bool false,.bool false],.list [.bool true,.bool true],.list [.bool false,.bool false,.bool true,.bool false,.bool false,.bool false,.bool true,.bool true]] = σ₁
 have h4:σ₁[σ.length + 4]? = some (.list ((markB 2).map V.bool)):=by rw [← hσ,Ztc (by lia)]; simp; rfl
 refine Evx.mk <| EvOk.compR rfl rfl rfl <| vE_ok TO rfl 40 _ _ _ <| Cal.range ⟨.inr ⟨_,rfl⟩,_,fun i acc σ' => acc = ((markB 2).take i).map V.bool ∧ i ≤ 8 ∧ σ' = σ₁,⟨rfl,by lia,rfl⟩,fun i acc σ' hJ => ⟨rng_iter (by decide) (by decide),?_⟩,fun acc σ' hJ => ?_,fun i y acc σ' hJ hy => ?_⟩
 · rw [hJ.1,Zc,List.length_take]; exact szo (by have:=hJ.2.1; clear h4 hJ; lia)
 · obtain ⟨rfl,_,rfl⟩:=hJ
   refine Cmp.eqR (da:=.list ((markB 2).map PyData.bool)) (db:=.list ((markB 2).map PyData.bool)) ?_ ?_ (by decide) (r:=true) (by decide) ?_
   · exact .list (get_up h4) (bools_deep _ _)
   · exact .list get_new (bools_deep _ (markB 2))
   · rw [← hσ,Ze]
     exact q _
 · obtain ⟨rfl,hi,rfl⟩:=hJ
   obtain ⟨hi,rfl⟩:=rng_at hy
   have hi:i < 8:=hi
   have next:∀ {b:Bool},b = (decide (i = 2) || decide (5 < i)) → ((markB 2).take i).map V.bool ++ [.bool b] = ((markB 2).take (i + 1)).map V.bool ∧ i + 1 ≤ 8 ∧ σ' = σ':=fun {b} e => by
     refine ⟨?_,hi,rfl⟩
     rw [take_next (markB_at hi),Zfc,e]; rfl
   refine vE_ok TO rfl 40 _ _ _ <| Br.mk (fun h => next ?_) fun h => next ?_
   · rw [Bool.eq_iff_iff]; simp at h ⊢; lia
   · rw [Bool.eq_iff_iff]; simp at h ⊢; lia
end
section
variable {w:World} {s:Shared} {d:Nat} {X:QX} {Q:QE} {σ:Hp}
inductive Fnd (σ:Hp) (c:Nat) (rs:List (Str × Pt)) (v:V) (σ':Hp):Prop where
 | ok (junk:Hp) (l k:Nat) (e:σ' = σ ++ junk) (hv:v = .ref l) (h0:c = 0) (h1:σ'[l]? = some (.list [.int 0,.ref k])) (h2:σ'[k]? = some (.list (rs.map ruleV))):Fnd σ c rs v σ'
 | no (junk:Hp) (l:Nat) (e:σ' = σ ++ junk) (hv:v = .ref l) (h0:c ≠ 0) (h1:σ'[l]? = some (.list [.int c,.bool true])):Fnd σ c rs v σ'
inductive Due (wss:List (List Str)) (rs:List (Str × Pt)):Nat → Prop where
 | notes (h:∃ ws ∈ wss,rowOut ws = none):Due wss rs 1
 | rules {c:Nat} (h:RowsR wss rs) (h1:Out7 rs c) (h2:∀ r ∈ rs,Shp r):Due wss rs c
theorem rowsR_uniq {wss:List (List Str)} {rs rs':List (Str × Pt)} (h:RowsR wss rs) (h':RowsR wss rs'):rs' = rs:=by
 induction h generalizing rs' with
 | nil => cases h'; rfl
 | cons h t ih =>
   cases h' with
   | cons h2 t2 => rw [ih t2,Zab (h2.symm.trans h)]
theorem rowsR_none {wss:List (List Str)} {rs:List (Str × Pt)} (h:RowsR wss rs):¬ ∃ ws ∈ wss,rowOut ws = none:=by
 induction h with
 | nil => exact fun k => k.elim fun ws k => absurd k.1 Zdc
 | cons h t ih =>
   intro k
   obtain ⟨ws,hw,e⟩:=k
   rcases Zg.mp hw with rfl | hw
   · rw [h] at e; cases e
   · exact ih ⟨ws,hw,e⟩
theorem nodup_eq {rs:List (Str × Pt)} (hn:(rs.map (·.1)).Nodup) {a b:Str × Pt} (ha:a ∈ rs) (hb:b ∈ rs) (e:a.1 = b.1):a = b:=by
 induction rs with
 | nil => cases ha
 | cons x r ih =>
   rw [List.map_cons,Zxc] at hn
   rcases Zg.mp ha with h1 | h1 <;> rcases Zg.mp hb with h2 | h2
   · exact h1.trans h2.symm
   · exact absurd (Zsb.mpr ⟨b,h2,(e.symm.trans (congrArg Prod.fst h1))⟩) hn.1
   · exact absurd (Zsb.mpr ⟨a,h1,e.trans (congrArg Prod.fst h2)⟩) hn.1
   · exact ih hn.2 h1 h2
theorem fn_refusal (TO:TopOk (T07 w s)) {wss:List (List Str)} {rs:List (Str × Pt)} {c:Nat} (h0:wss ≠ []) (hl:wss.length ≤ 60) (hw:∀ ws ∈ wss,WsOk ws) (hd:Due wss rs c) (q:∀ v σ',Fnd σ c rs v σ' → Q v σ'):CallOk (T07 w s) (d + 30) X (.glob "_law_refusal") [.str (Txt.join ⟨#[10]⟩ (wss.map jn))] Q σ:=by
 refine (gr_cls (w:=w) (s:=s)).elim fun C hC => CallOk.go TO rfl rfl ?_
 have bad:∀ {c':Nat} {jk jk2:Hp},c' = c → c ≠ 0 → Q (.ref ((σ ++ jk) ++ jk2).length) (((σ ++ jk) ++ jk2) ++ [.list [.int c',.bool true]]):=fun {c' jk jk2} e hc => q _ _ (.no (jk ++ jk2 ++ [.list [.int c',.bool true]]) _ (by simp only [Ze]) rfl hc (e ▸ get_new))
 refine Stx.mk <| StOk.try <| vB_ok TO rfl 60 _ _ _ _ <| Cal.mk <| fn_grammar_of (d:=d + 10) TO h0 hl hw (fun hx junk => ?_) fun rs' junk l hR hg => ?_
 · have hc:c = 1:=by
     cases hd with
     | notes h => rfl
     | rules h h1 h2 => exact absurd hx (rowsR_none h)
   subst hc
   exact HandOk.hit TO rfl rfl rfl rfl rfl rfl rfl fun ρ => vB_ok TO.at rfl 60 _ _ _ _ <| Cal.mk <| fn_alone5 (d:=d + 27) TO.at fun jk ρ' => bad (c':=1) rfl (by decide)
 · cases hd with
   | notes h => exact absurd h (rowsR_none hR)
   | rules h h1 h2 =>
     have e:=rowsR_uniq h hR
     subst e
     have hl1:1 ≤ rs'.length:=by
       rw [h.length]
       cases wss with
       | nil => exact absurd rfl h0
       | cons => exact Nat.succ_pos _
     have hl2:rs'.length ≤ 60:=by rw [h.length]; exact hl
     refine fn_grammar7 TO hg hl1 hl2 h2 h1 (fun hc hgr' bs jk hG => ?_) (fun hc jk => ?_) (fun hc jk => ?_) fun hc jk => ?_
     · subst hc
       have hgr:∃ gs,(σ ++ junk ++ jk)[(σ ++ junk).length]? = some (.inst "Grammar" gs) ∧ gs.lookup (Str.ofString "names") = none ∧ gs.lookup (Str.ofString "part") = none:=by
         have hG':=hG
         obtain ⟨_,_,_,_,_,_,_,_,_,hgr,_⟩:=hG'
         exact ⟨_,hgr,rfl,rfl⟩
       refine hgr.elim fun gs hh => and3 hh fun g1 g2 g3 => ?_
       clear hh hgr hg
       generalize hσ:σ ++ junk ++ jk = σ₁ at hG g1
       generalize (σ ++ junk).length = g at hG g1
       have hn:(rs'.map (·.1)).Nodup:=hgr'.nodup
       refine MethOk.own g1 g2 hC.cls hC.names <| Cal.mk <| fn_names (d:=d + 28) TO (Za hl2 (by decide)) hG <| CompOk.mk ((rs'.map (·.1)).map V.str) (fun i acc σ' => acc = (rs'.take i).map ruleV ∧ σ' = σ₁ ++ [.list ((rs'.map (·.1)).map V.str)]) ⟨rfl,rfl⟩ (fun i acc σ' hJ => ⟨?_,?_⟩) (fun acc σ' hJ => ?_) fun i y acc σ' hJ hy => ?_
       · rw [hJ.2]; exact iter_list get_new
       · rw [hJ.1,Zc]; exact szo (Za (Zic ..) (Za hl2 (by decide)))
       · rw [hJ.1,hJ.2,Zc,Zc,Zgc]
         refine q _ _ (.ok (junk ++ jk ++ [.list ((rs'.map (·.1)).map V.str)] ++ [.list (rs'.map ruleV)] ++ [.list [.int 0,.ref (σ₁ ++ [MObj.list ((rs'.map (·.1)).map V.str)]).length]]) _ _ ?_ rfl rfl get_new (get_up get_new))
         rw [← hσ]; simp only [Ze]
       · refine (map_at hy).elim fun n hh => ?_
         rw [Zdb,Zpb] at hh
         refine hh.1.elim fun r hr => ?_
         apply eq_to hJ.2
         apply eq_to hJ.1
         apply eq_to hh.2
         refine vE_ok TO rfl 40 _ _ _ <| MethOk.own (get_up g1) g3 hC.cls hC.part <| Cal.mk <| fn_part (d:=d + 27) TO hn hG.up (fun r' hr' e => ⟨?_,rfl⟩) fun hx => absurd (Zsb.mpr ⟨r,Zn hr.1,hr.2⟩) hx
         have er:r' = r:=nodup_eq hn hr' (Zn hr.1) (e.trans hr.2.symm)
         rw [take_next hr.1,Zfc,er,← hr.2]; rfl
     · subst hc
       exact HandOk.miss TO rfl rfl rfl rfl rfl rfl <| HandOk.hit TO rfl rfl rfl rfl rfl rfl rfl fun ρ => vB_ok TO.at rfl 60 _ _ _ _ <| Cal.mk <| fn_alone0 (d:=d + 27) TO.at fun jk2 ρ' => by rw [Ze σ]; exact bad (c':=2) rfl (by decide)
     · subst hc
       exact HandOk.miss TO rfl rfl rfl rfl rfl rfl <| HandOk.miss TO rfl rfl rfl rfl rfl rfl <| HandOk.hit TO rfl rfl rfl rfl rfl rfl rfl fun ρ => vB_ok TO.at rfl 60 _ _ _ _ <| Cal.mk <| fn_alone1 (d:=d + 27) TO.at fun jk2 ρ' => by rw [Ze σ]; exact bad (c':=3) rfl (by decide)
     · subst hc
       exact HandOk.miss TO rfl rfl rfl rfl rfl rfl <| HandOk.miss TO rfl rfl rfl rfl rfl rfl <| HandOk.miss TO rfl rfl rfl rfl rfl rfl <| HandOk.hit TO rfl rfl rfl rfl rfl rfl rfl fun ρ => vB_ok TO.at rfl 60 _ _ _ _ <| Cal.mk <| fn_alone2 (d:=d + 27) TO.at fun jk2 ρ' => by rw [Ze σ]; exact bad (c':=4) rfl (by decide)
end
section
variable {w:World} {s:Shared} {d:Nat} {X:QX} {Q:QE} {σ:Hp}
noncomputable def Up (σ σ':Hp):Prop:=∃ junk,σ' = σ ++ junk
theorem Up.r:Up σ σ:=⟨[],(Zlc _).symm⟩
theorem Up.p {σ' jk:Hp} (h:Up σ σ'):Up σ (σ' ++ jk):=h.elim fun j e => ⟨j ++ jk,by rw [e,Ze]⟩
theorem Up.get {σ':Hp} {l:Nat} {o:MObj} (h:Up σ σ') (e:σ[l]? = some o):σ'[l]? = some o:=h.elim fun j k => k ▸ get_up e
theorem Up.t {σ' σ'':Hp} (h:Up σ σ') (k:Up σ' σ''):Up σ σ'':=h.elim fun j e => k.elim fun j' e' => ⟨j ++ j',by rw [e',e,Ze]⟩
theorem log_all:((List.range 127).all fun c => decide (c.log2 < 1920)) = true:=by decide +kernel
theorem log_sign {c:Nat} (h:isSignC c = true):(c:Int).natAbs.log2 < 1920:=by
 rw [Int.natAbs_natCast]
 exact Zgb (List.all_eq_true.mp log_all c (List.mem_range.mpr (sign_lt h)))
inductive J07sr (σ:Hp) (z:Nat) (ρ':Loc) (σ':Hp):Prop where
 | mk (a b:Nat) (ha:isSignC a = true) (hb:isSignC b = true) (hab:a ≤ b) (h1:Has ρ' [("_law_low",.str ⟨#[a]⟩),("_law_high",.str ⟨#[b]⟩),("_law_sign",.str ⟨#[z]⟩)]) (h2:σ' = σ):J07sr σ z ρ' σ'
theorem fn_signs_row (TO:TopOk (T07 w s)) {x y z:Nat} (hx:isSignC x = true) (hy:isSignC y = true) (hz:isSignC z = true) (q:∀ a b σ' l k,Up σ σ' → isSignC a = true → isSignC b = true → a ≤ b → σ'[l]? = some (.list [.ref k,(zzP z a b).v]) → σ'[k]? = some (.list ((wZ (wN z) (wN a) (wN b)).map V.str)) → Q (.ref l) σ') :
   CallOk (T07 w s) (d + 1) X (.glob "_law_signs_row") [.str ⟨#[x]⟩,.str ⟨#[y]⟩,.str ⟨#[z]⟩] Q σ:=by
 refine CallOk.goX TO rfl rfl ?_
 refine ExOk.cutAt 2 (J07sr σ z) (vB_ok TO rfl 60 _ _ _ _ <| Stx.mk <| StOk.swap (fun _ => rfl) (fun env he => by simp only [swappedStores,Env.kindOf,Env.blockKind,he]; rfl) rfl rfl <| vE_ok TO rfl 40 _ _ _ ⟨_,_,rfl,Cal.ord <| Cal.ord <| Br.mk (fun h => Stx.mk <| StOk.swap (fun _ => rfl) (fun env he => by simp only [swappedStores,Env.kindOf,Env.blockKind,he]; rfl) rfl rfl <| vE_ok TO rfl 40 _ _ _ ⟨_,_,rfl,⟨y,x,hy,hx,?_,⟨rfl,rfl,rfl,trivial⟩,rfl⟩⟩) fun h => ⟨x,y,hx,hy,?_,⟨rfl,rfl,rfl,trivial⟩,rfl⟩⟩) fun ρ₁ σ₁ hJ => hJ.rec fun a b ha hb hab hρ e => ?_
 · exact Zq (Zfb.mp (Zgb h))
 · exact Nat.le_of_not_lt fun k => of_decide_eq_false h (Zfb.mpr k)
 · apply Has.on hρ
   apply eq_to e
   refine vB_ok TO rfl 60 _ _ _ _ <| Cal.ord <| Cal.strI (log_sign hz) <| Cal.ord <| Cal.strI (log_sign ha) <| Cal.ord <| Cal.strI (log_sign hb) <| Bin.lists (get_up get_new) get_new (sz _ rfl) ?_
   exact q a b _ _ _ Up.r.p.p.p.p ha hb hab get_new (get_up get_new)
end
section
variable {w:World} {s:Shared} {d:Nat} {X:QX} {Q:QE} {σ:Hp}
theorem item_any {l:Nat} {vs:List V} {k:Int} (hl:σ[l]? = some (.list vs)) (h0:0 ≤ k) (h1:k < vs.length) (hz:vs.length ≤ 1000) (q:∀ (i:Nat) v,vs[i]? = some v → k = i → Q v σ):Itm (.ref l) (.int k) Q σ:=by
 obtain ⟨i,rfl⟩:=Int.eq_ofNat_of_zero_le h0
 have hi:i < vs.length:=Zfb.mp h1
 have e:=Zp hi
 exact Itm.mk (item_at hl rfl e (Zk hz (by decide)) (q i _ e rfl))
theorem item_nat {l:Nat} {ns:List Nat} {k:Int} (hl:σ[l]? = some (.list (ns.map fun (n:Nat) => V.int n))) (h0:0 ≤ k) (h1:k < ns.length) (hz:ns.length ≤ 1000) (q:∀ n ∈ ns,Q (.int (n:Nat)) σ):Itm (.ref l) (.int k) Q σ :=
 item_any hl h0 (by rw [Zc]; exact h1) (by rw [Zc]; exact hz) fun i v hv e => by
   rw [Zdb,Zpb] at hv
   exact hv.elim fun n hn => hn.2 ▸ q n (Zn hn.1)
theorem item_str {l:Nat} {bs:List Str} {k:Int} (hl:σ[l]? = some (.list (bs.map V.str))) (h0:0 ≤ k) (h1:k < bs.length) (hz:bs.length ≤ 1000) (q:∀ (i:Nat) b,bs[i]? = some b → k = i → Q (.str b) σ):Itm (.ref l) (.int k) Q σ :=
 item_any hl h0 (by rw [Zc]; exact h1) (by rw [Zc]; exact hz) fun i v hv e => by
   rw [Zdb,Zpb] at hv
   exact hv.elim fun n hn => hn.2 ▸ q i n hn.1 e
theorem rpl_map (ws bs:List Str) (p q:Nat):(ws.map V.str).take p ++ bs.map V.str ++ (ws.map V.str).drop q = (rplW ws p q bs).map V.str:=by
 unfold rplW
 rw [Zfc,Zfc,List.map_take,List.map_drop]
theorem tk_sz {us vs:List V} {p:Nat} (h:us.length = 16) (hv:vs.length ≤ 2):(us.take p).length + vs.length ≤ sizeLine:=szo (by rw [List.length_take]; omega)
theorem dr_sz {us vs:List V} {p q:Nat} (h:us.length = 16) (hv:vs.length ≤ 2):(us.take p ++ vs).length + (us.drop q).length ≤ sizeLine:=szo (by rw [Zf,List.length_take,List.length_drop]; omega)
theorem us_sz {us:List V} (h:us.length = 16):us.length ≤ sizeLine:=szo (by rw [h]; decide)
structure Brk (ws:List Str):Prop where
 len:ws.length = 16
 g:∀ p,p ∈ [5,8,9] → ∀ (b:Str),b ∈ [Str.ofString "37",Str.ofString "127",Str.ofString "8"] → BadW (rplW ws p (p + 1) [b])
 n:∀ p,p ∈ [3,5,8,9,11,15] → ∀ (b:Str),b ∈ [Str.ofString "07",Str.ofString "12345",Str.ofString "-1",Str.ofString "x",Str.ofString "1e1",Str.ofString "+97",Str.ofString "9_7",Str.ofString "0x9"] → BadW (rplW ws p (p + 1) [b])
 cut:BadW (ws.take 15)
 blank:∀ p,BadW (rplW ws p p [Str.ofString ""])
 more:BadW (ws ++ [Str.ofString "any"])
 fin:BadW (ws ++ [Str.ofString ""])
 count:∀ (b:Str),b ∈ [Str.ofString "2",Str.ofString "4",Str.ofString "3 ",Str.ofString "03"] → BadW (rplW ws 3 4 [b])
 noeq:BadW (ws.take 1 ++ ws.drop 2)
 colon:BadW (rplW ws 1 2 [Str.ofString ":"])
 first:BadW ([Str.ofString ""] ++ ws.drop 1)
 sign:BadW (rplW ws 4 5 [Str.ofString "Sign"])
 tab:∀ p x y,p < 15 → ws[p]? = some x → ws[p + 1]? = some y → x.length ≤ 10 ∧ y.length ≤ 10 ∧ BadW (rplW ws p (p + 2) [x ++ Str.ofString "\t" ++ y])
theorem bads {K:Nat} {b:Str} (h:[Str.ofString "37",Str.ofString "127",Str.ofString "07",Str.ofString "12345",Str.ofString "-1",Str.ofString "x",Str.ofString "1e1",Str.ofString "8"][K]? = some b):((K < 2 ∨ K = 7) → b ∈ [Str.ofString "37",Str.ofString "127",Str.ofString "8"]) ∧ (¬ (K < 2 ∨ K = 7) → b ∈ [Str.ofString "07",Str.ofString "12345",Str.ofString "-1",Str.ofString "x",Str.ofString "1e1",Str.ofString "+97",Str.ofString "9_7",Str.ofString "0x9"]):=by
 match K,h with
 | 0,h => cases h; exact ⟨fun _ => .head _,fun k => absurd (.inl (by decide)) k⟩
 | 1,h => cases h; exact ⟨fun _ => .tail _ (.head _),fun k => absurd (.inl (by decide)) k⟩
 | 2,h => cases h; exact ⟨fun k => absurd k (by decide),fun _ => .head _⟩
 | 3,h => cases h; exact ⟨fun k => absurd k (by decide),fun _ => .tail _ (.head _)⟩
 | 4,h => cases h; exact ⟨fun k => absurd k (by decide),fun _ => .tail _ (.tail _ (.head _))⟩
 | 5,h => cases h; exact ⟨fun k => absurd k (by decide),fun _ => .tail _ (.tail _ (.tail _ (.head _)))⟩
 | 6,h => cases h; exact ⟨fun k => absurd k (by decide),fun _ => .tail _ (.tail _ (.tail _ (.tail _ (.head _))))⟩
 | 7,h => cases h; exact ⟨fun _ => .tail _ (.tail _ (.head _)),fun k => absurd (.inr rfl) k⟩
 | n + 8,h => cases h
theorem fn_broken (TO:TopOk (T07 w s)) {l:Nat} {ws:List Str} {kind cell:Int} (hl:σ[l]? = some (.list (ws.map V.str))) (h0:0 ≤ kind) (h22:kind < 22) (B:Brk ws) (q:∀ ws' l' σ',Up σ σ' → BadW ws' → σ'[l']? = some (.list (ws'.map V.str)) → Q (.ref l') σ') :
   CallOk (T07 w s) (d + 1) X (.glob "_law_broken") [.ref l,.int kind,.int cell] Q σ:=by
 refine CallOk.go TO rfl rfl ?_
 have h16:(ws.map V.str).length = 16:=by rw [Zc]; exact B.len
 have r16:=fmod_range (a:=cell) (b:=16) (by decide)
 have r6:=fmod_range (a:=cell) (b:=6) (by decide)
 have r3:=fmod_range (a:=cell) (b:=3) (by decide)
 have rk:=fmod_range (a:=kind) (b:=3) (by decide)
 refine (Int.eq_ofNat_of_zero_le r16.1).elim fun at16 hat => ?_
 have q1:∀ {ws':List Str} {us:List V} {l':Nat} {σ':Hp},us = ws'.map V.str → Up σ σ' → BadW ws' → σ'[l']? = some (.list us) → Q (.ref l') σ':=fun e hu hb hg => q _ _ _ hu hb (e ▸ hg)
 refine Cal.len (n:=16) (len_at hl h16) (by decide) <| item_nat (ns:=[3,5,8,9,11,15]) get_new r6.1 r6.2 (by decide) fun spot hspot => Br.mk (fun h8 => ?_) fun h8 => Br.mk (fun h12 => ?_) fun h12 => Br.mk (fun h15 => ?_) fun h15 => Br.mk (fun h19 => ?_) fun h19 => ?_
 · refine item_str (bs:=[Str.ofString "37",Str.ofString "127",Str.ofString "07",Str.ofString "12345",Str.ofString "-1",Str.ofString "x",Str.ofString "1e1",Str.ofString "8"]) get_new h0 (Zgb h8) (by decide) fun K b hb hK => item_nat (ns:=[5,8,9]) get_new r3.1 r3.2 (by decide) fun place hplace => Br.mk (fun h2 => ?_) fun h2 => Br.mk (fun h7 => ?_) fun h7 => ?_
   · refine Evx.mk <| EvOk.sliceTo <| vE_ok TO rfl 40 _ _ _ <| vE_ok TO rfl 40 _ _ _ <| Slc.mk l _ place rfl rfl (get_up (get_up (get_up hl))) (us_sz h16) <| Bin.lists (get_up get_new) get_new (tk_sz h16 (Nat.le_succ 1)) <| Evx.mk <| EvOk.sliceFrom <| vE_ok TO rfl 40 _ _ _ <| vE_ok TO rfl 40 _ _ _ <| Slc.mk l _ (place + 1) rfl rfl (get_up (get_up (get_up (get_up (get_up (get_up hl)))))) (us_sz h16) <| Bin.lists (get_up get_new) get_new (dr_sz h16 (Nat.le_succ 1)) ?_
     exact q1 (rpl_map ws [b] place (place + 1)) Up.r.p.p.p.p.p.p.p.p (B.g place hplace b ((bads hb).1 (.inl (by have:=Zgb h2; omega)))) get_new
   · refine Evx.mk <| EvOk.sliceTo <| vE_ok TO rfl 40 _ _ _ <| vE_ok TO rfl 40 _ _ _ <| Slc.mk l _ place rfl rfl (get_up (get_up (get_up hl))) (us_sz h16) <| Bin.lists (get_up get_new) get_new (tk_sz h16 (Nat.le_succ 1)) <| Evx.mk <| EvOk.sliceFrom <| vE_ok TO rfl 40 _ _ _ <| vE_ok TO rfl 40 _ _ _ <| Slc.mk l _ (place + 1) rfl rfl (get_up (get_up (get_up (get_up (get_up (get_up hl)))))) (us_sz h16) <| Bin.lists (get_up get_new) get_new (dr_sz h16 (Nat.le_succ 1)) ?_
     exact q1 (rpl_map ws [b] place (place + 1)) Up.r.p.p.p.p.p.p.p.p (B.g place hplace b ((bads hb).1 (.inr (by have:=eq_of_beq h7; omega)))) get_new
   · refine Evx.mk <| EvOk.sliceTo <| vE_ok TO rfl 40 _ _ _ <| vE_ok TO rfl 40 _ _ _ <| Slc.mk l _ spot rfl rfl (get_up (get_up (get_up hl))) (us_sz h16) <| Bin.lists (get_up get_new) get_new (tk_sz h16 (Nat.le_succ 1)) <| Evx.mk <| EvOk.sliceFrom <| vE_ok TO rfl 40 _ _ _ <| vE_ok TO rfl 40 _ _ _ <| Slc.mk l _ (spot + 1) rfl rfl (get_up (get_up (get_up (get_up (get_up (get_up hl)))))) (us_sz h16) <| Bin.lists (get_up get_new) get_new (dr_sz h16 (Nat.le_succ 1)) ?_
     exact q1 (rpl_map ws [b] spot (spot + 1)) Up.r.p.p.p.p.p.p.p.p (B.n spot hspot b ((bads hb).2 fun k => by have a1:=of_decide_eq_false h2; have a2:=Zmc.mp h7; omega)) get_new
 · have h8:=of_decide_eq_false h8
   have h12:=Zgb h12
   refine Evx.mk <| EvOk.sliceBut <| vE_ok TO rfl 40 _ _ _ <| vE_ok TO rfl 40 _ _ _ ⟨rfl,l,_,rfl,get_up hl,us_sz h16,?_⟩
   refine Evx.mk <| EvOk.sliceTo <| vE_ok TO rfl 40 _ _ _ <| vE_ok TO rfl 40 _ _ _ <| Slc.mk l _ at16 rfl (congrArg V.int hat) (get_up (get_up hl)) (us_sz h16) <| Bin.lists (get_up get_new) get_new (tk_sz h16 (Nat.le_succ 1)) <| Evx.mk <| EvOk.sliceFrom <| vE_ok TO rfl 40 _ _ _ <| vE_ok TO rfl 40 _ _ _ <| Slc.mk l _ at16 rfl (congrArg V.int hat) (get_up (get_up (get_up (get_up (get_up hl))))) (us_sz h16) <| Bin.lists (get_up get_new) get_new (dr_sz h16 (Nat.le_succ 1)) ?_
   refine Bin.lists (get_up (get_up (get_up (get_up (get_up (get_up (get_up (get_up hl)))))))) get_new (szo (by rw [h16]; decide)) ?_
   refine Bin.lists (get_up (get_up (get_up (get_up (get_up (get_up (get_up (get_up (get_up (get_up hl)))))))))) get_new (szo (by rw [h16]; decide)) ?_
   refine item_any get_new (by omega) (show kind - 8 < 4 by omega) (by show 4 ≤ 1000; decide) fun i v hv e => ?_
   match i,hv with
   | 0,hv => cases hv; exact q1 (ws':=ws.take 15) (by rw [h16,List.map_take]) Up.r.p.p.p.p.p.p.p.p.p.p.p.p B.cut (get_up (get_up (get_up (get_up (get_up (get_up (get_up (get_up (get_up (get_up get_new))))))))))
   | 1,hv => cases hv; exact q1 (rpl_map ws [Str.ofString ""] at16 at16) Up.r.p.p.p.p.p.p.p.p.p.p.p.p (B.blank at16) (get_up (get_up (get_up (get_up (get_up get_new)))))
   | 2,hv => cases hv; exact q1 (ws':=ws ++ [Str.ofString "any"]) (by rw [Zfc]; rfl) Up.r.p.p.p.p.p.p.p.p.p.p.p.p B.more (get_up (get_up (get_up get_new)))
   | 3,hv => cases hv; exact q1 (ws':=ws ++ [Str.ofString ""]) (by rw [Zfc]; rfl) Up.r.p.p.p.p.p.p.p.p.p.p.p.p B.fin (get_up get_new)
   | n + 4,hv => cases hv
 · have h12:=of_decide_eq_false h12
   have h15:=Zgb h15
   refine Evx.mk <| EvOk.sliceTo <| vE_ok TO rfl 40 _ _ _ <| vE_ok TO rfl 40 _ _ _ <| Slc.mk l _ 3 rfl rfl (get_up hl) (us_sz h16) ?_
   refine item_str (bs:=[Str.ofString "2",Str.ofString "4",Str.ofString "3 ",Str.ofString "03"]) get_new (by omega) (show kind - 12 < 4 by omega) (by decide) fun K b hb hK => ?_
   refine Bin.lists (get_up (get_up get_new)) get_new (tk_sz h16 (Nat.le_succ 1)) <| Evx.mk <| EvOk.sliceFrom <| vE_ok TO rfl 40 _ _ _ <| vE_ok TO rfl 40 _ _ _ <| Slc.mk l _ 4 rfl rfl (get_up (get_up (get_up (get_up (get_up hl))))) (us_sz h16) <| Bin.lists (get_up get_new) get_new (dr_sz h16 (Nat.le_succ 1)) ?_
   exact q1 (rpl_map ws [b] 3 4) Up.r.p.p.p.p.p.p.p (B.count b (Zn hb)) get_new
 · have h15:=of_decide_eq_false h15
   have h19:=Zgb h19
   refine Evx.mk <| EvOk.sliceTo <| vE_ok TO rfl 40 _ _ _ <| vE_ok TO rfl 40 _ _ _ <| Slc.mk l _ 1 rfl rfl (get_up hl) (us_sz h16) <| Evx.mk <| EvOk.sliceFrom <| vE_ok TO rfl 40 _ _ _ <| vE_ok TO rfl 40 _ _ _ <| Slc.mk l _ 2 rfl rfl (get_up (get_up hl)) (us_sz h16) <| Bin.lists (get_up get_new) get_new (szo (by rw [List.length_take,List.length_drop,h16]; decide)) ?_
   refine Evx.mk <| EvOk.sliceTo <| vE_ok TO rfl 40 _ _ _ <| vE_ok TO rfl 40 _ _ _ <| Slc.mk l _ 1 rfl rfl (get_up (get_up (get_up (get_up hl)))) (us_sz h16) <| Bin.lists (get_up get_new) get_new (tk_sz h16 (Nat.le_succ 1)) <| Evx.mk <| EvOk.sliceFrom <| vE_ok TO rfl 40 _ _ _ <| vE_ok TO rfl 40 _ _ _ <| Slc.mk l _ 2 rfl rfl (get_up (get_up (get_up (get_up (get_up (get_up (get_up hl))))))) (us_sz h16) <| Bin.lists (get_up get_new) get_new (dr_sz h16 (Nat.le_succ 1)) ?_
   refine Evx.mk <| EvOk.sliceFrom <| vE_ok TO rfl 40 _ _ _ <| vE_ok TO rfl 40 _ _ _ <| Slc.mk l _ 1 rfl rfl (get_up (get_up (get_up (get_up (get_up (get_up (get_up (get_up (get_up (get_up hl)))))))))) (us_sz h16) <| Bin.lists (get_up get_new) get_new (szo (by rw [List.length_drop,h16]; decide)) ?_
   refine item_any get_new (by omega) (show kind - 16 < 3 by omega) (by show 3 ≤ 1000; decide) fun i v hv e => ?_
   match i,hv with
   | 0,hv => cases hv; exact q1 (ws':=ws.take 1 ++ ws.drop 2) (by rw [Zfc,List.map_take,List.map_drop]) Up.r.p.p.p.p.p.p.p.p.p.p.p.p.p B.noeq (get_up (get_up (get_up (get_up (get_up (get_up (get_up (get_up (get_up get_new)))))))))
   | 1,hv => cases hv; exact q1 (rpl_map ws [Str.ofString ":"] 1 2) Up.r.p.p.p.p.p.p.p.p.p.p.p.p.p B.colon (get_up (get_up (get_up (get_up get_new))))
   | 2,hv => cases hv; exact q1 (ws':=[Str.ofString ""] ++ ws.drop 1) (by rw [Zfc,List.map_drop]; rfl) Up.r.p.p.p.p.p.p.p.p.p.p.p.p.p B.first (get_up get_new)
   | n + 3,hv => cases hv
 · refine Evx.mk <| EvOk.sliceTo <| vE_ok TO rfl 40 _ _ _ <| vE_ok TO rfl 40 _ _ _ <| Slc.mk l _ 4 rfl rfl (get_up hl) (us_sz h16) <| Bin.lists (get_up get_new) get_new (tk_sz h16 (Nat.le_succ 1)) <| Evx.mk <| EvOk.sliceFrom <| vE_ok TO rfl 40 _ _ _ <| vE_ok TO rfl 40 _ _ _ <| Slc.mk l _ 5 rfl rfl (get_up (get_up (get_up (get_up hl)))) (us_sz h16) <| Bin.lists (get_up get_new) get_new (dr_sz h16 (Nat.le_succ 1)) ?_
   refine item_any get_new rk.1 rk.2 (by show 3 ≤ 1000; decide) fun i v hv e => ?_
   match i,hv with
   | 0,hv => cases hv; exact q1 (rpl_map ws [Str.ofString "Sign"] 4 5) Up.r.p.p.p.p.p.p.p.p.p B.sign (get_up (get_up (get_up get_new)))
   | 1,hv => cases hv; exact q1 (ws':=["zz", "="]) rfl Up.r.p.p.p.p.p.p.p.p.p z_two (get_up (get_up get_new))
   | 2,hv => cases hv; exact q1 (ws':=["zz", "=", "rule"]) rfl Up.r.p.p.p.p.p.p.p.p.p z_rule (get_up get_new)
   | n + 3,hv => cases hv
end
section
variable {w:World} {s:Shared} {d:Nat} {X:QX} {Q:QE} {σ:Hp}
theorem cat_len (a b:Str):(a ++ b).length = a.length + b.length:=by
 have hz:∀ x:Str,x.length = x.cps.toList.length:=fun x => (Array.length_toList).symm
 rw [hz,cat_cps,Zf,← hz,← hz]
theorem fn_signed (TO:TopOk (T07 w s)) {l:Nat} {ws:List Str} {kind cell:Int} (hl:σ[l]? = some (.list (ws.map V.str))) (B:Brk ws) (q:∀ ws' l' σ',Up σ σ' → BadW ws' → σ'[l']? = some (.list (ws'.map V.str)) → Q (.ref l') σ') :
   CallOk (T07 w s) (d + 1) X (.glob "_law_signed") [.ref l,.int kind,.int cell] Q σ:=by
 refine CallOk.go TO rfl rfl ?_
 have h16:(ws.map V.str).length = 16:=by rw [Zc]; exact B.len
 have r15:=fmod_range (a:=cell) (b:=15) (by decide)
 have r4:=fmod_range (a:=cell) (b:=4) (by decide)
 have rk:=fmod_range (a:=kind) (b:=3) (by decide)
 have q1:∀ {ws':List Str} {us:List V} {l':Nat} {σ':Hp},us = ws'.map V.str → Up σ σ' → BadW ws' → σ'[l']? = some (.list us) → Q (.ref l') σ':=fun e hu hb hg => q _ _ _ hu hb (e ▸ hg)
 refine Br.mk (fun h33 => ?_) fun h33 => ?_
 · refine item_nat (ns:=[5,8,9,3]) get_new r4.1 r4.2 (by decide) fun p hp => Evx.mk <| EvOk.sliceTo <| vE_ok TO rfl 40 _ _ _ <| vE_ok TO rfl 40 _ _ _ <| Slc.mk l _ p rfl rfl (get_up hl) (us_sz h16) ?_
   refine item_str (bs:=[Str.ofString "+97",Str.ofString "9_7",Str.ofString "0x9"]) get_new rk.1 rk.2 (by decide) fun K b hb hK => ?_
   refine Bin.lists (get_up (get_up get_new)) get_new (tk_sz h16 (Nat.le_succ 1)) <| Evx.mk <| EvOk.sliceFrom <| vE_ok TO rfl 40 _ _ _ <| vE_ok TO rfl 40 _ _ _ <| Slc.mk l _ (p + 1) rfl rfl (get_up (get_up (get_up (get_up (get_up hl))))) (us_sz h16) <| Bin.lists (get_up get_new) get_new (dr_sz h16 (Nat.le_succ 1)) ?_
   refine q1 (rpl_map ws [b] p (p + 1)) Up.r.p.p.p.p.p.p.p (B.n p ?_ b ?_) get_new
   · simp only [Zg,Zdc,or_false] at hp ⊢; omega
   · exact .tail _ (.tail _ (.tail _ (.tail _ (.tail _ (Zn hb)))))
 · refine (Int.eq_ofNat_of_zero_le r15.1).elim fun p hp => ?_
   have hp15:p < 15:=by omega
   have hb62:(ws.map V.str).length < 2 ^ 62:=by rw [h16]; decide
   have e1:ws[p]? = some (ws[p]'(by rw [B.len]; omega)):=Zp (by rw [B.len]; omega)
   have e2:ws[p + 1]? = some (ws[p + 1]'(by rw [B.len]; omega)):=Zp (by rw [B.len]; omega)
   generalize ws[p]'(by rw [B.len]; omega) = x at e1
   generalize ws[p + 1]'(by rw [B.len]; omega) = y at e2
   refine and3 (B.tab p x y hp15 e1 e2) fun k1 k2 k3 => ?_
   refine Cal.len (n:=16) (len_at hl h16) (by decide) ?_
   refine Evx.mk <| EvOk.sliceTo <| vE_ok TO rfl 40 _ _ _ <| vE_ok TO rfl 40 _ _ _ <| Slc.mk l _ p rfl (congrArg V.int hp) hl (us_sz h16) ?_
   refine Itm.mk (item_at (get_up hl) (j:=p) hp (by rw [Zdb,e1]; rfl) hb62 ?_)
   refine Bin.cat (szo (by show x.length + 1 ≤ _; omega)) ?_
   refine Itm.mk (item_at (get_up hl) (j:=p + 1) (congrArg (· + 1) hp) (by rw [Zdb,e2]; rfl) hb62 ?_)
   refine Bin.cat (szo (by rw [cat_len]; show x.length + 1 + y.length ≤ _; omega)) ?_
   refine Bin.lists (get_up get_new) get_new (tk_sz h16 (Nat.le_succ 1)) <| Evx.mk <| EvOk.sliceFrom <| vE_ok TO rfl 40 _ _ _ <| vE_ok TO rfl 40 _ _ _ <| Slc.mk l _ (p + 2) rfl (congrArg (fun z => V.int (z + 2)) hp) (get_up (get_up (get_up hl))) (us_sz h16) <| Bin.lists (get_up get_new) get_new (dr_sz h16 (Nat.le_succ 1)) ?_
   exact q1 (rpl_map ws [x ++ Str.ofString "\t" ++ y] p (p + 2)) Up.r.p.p.p.p.p k3 get_new
theorem fn_deep (TO:TopOk (T07 w s)) {n:Nat} (hn:n ≤ 100) (q:Q (ntN n).v σ):CallOk (T07 w s) (d + 1) X (.glob "_law_deep") [.int n] Q σ:=by
 refine CallOk.go TO rfl rfl ?_
 refine Cal.range <| ForOk.mk ((List.range n).map fun (k:Nat) => V.int k) (fun i ρ' σ' => Has ρ' [("_law_part",(ntN i).v)] ∧ σ' = σ) ⟨⟨rfl,trivial⟩,rfl⟩ (fun i ρ' σ' zz => rng_iter (Zvc n) (by omega)) (fun ρ' σ' hJ => ?_) fun i x ρ' σ' hJ hx => ?_
 · apply Has.on hJ.1
   apply eq_to hJ.2
   rw [Zc,List.length_range]
   exact q
 · apply Has.on hJ.1
   apply eq_to hJ.2
   exact ⟨_,rfl,vB_ok TO rfl 60 _ _ _ _ ⟨⟨rfl,trivial⟩,rfl⟩⟩
theorem abcd_at {k:Nat} (h:k < 4) (q:Q (.str (abN k)) σ):Itm (.str (Str.ofString "abcd")) (.int k) Q σ:=by
 obtain ⟨c,hc,e⟩:=idx_at (S:=Str.ofString "abcd") (n:=4) (P:=fun j c => decide (c = 97 + j)) (by decide +kernel) (by decide +kernel) (Zvc k) (Zfb.mpr h)
 have hc:=Zgb hc
 exact ⟨_,.str _ _ _ e ⟨by omega,by omega⟩,(by rw [hc]; exact q)⟩
theorem mulA {b:Bool} {n:Int} (hn:n = if b then 1 else 0) (q:Q (.str (if b then Str.ofString "A" else Str.empty)) σ):Bin .Mult (.str (Str.ofString "A")) (.int n) Q σ:=by
 subst hn
 cases b
 · exact ⟨_,_,.rep _ _ ⟨rfl,fun h => absurd (by decide) h,fun h => absurd (by decide) h⟩,q⟩
 · exact ⟨_,_,.rep _ _ ⟨rfl,fun _ h => absurd h (by decide),fun _ h => absurd h (by decide)⟩,q⟩
end
section
variable {w:World} {s:Shared} {d:Nat} {X:QX} {Q:QE} {σ:Hp}
theorem jn_cps (x:Str) (ws:List Str):(jn (x :: ws)).cps.toList = x.cps.toList ++ tls 32 ws:=by unfold jn; rw [txt_join,join_cps]
theorem tls_cons (x:Str) (ws:List Str):tls 32 (x :: ws) = 32 :: (x.cps.toList ++ tls 32 ws):=rfl
theorem tls_nil:tls 32 [] = []:=rfl
theorem odd_txt {own st b:Str} {j:Nat} (hj:j < 5) (hb:[Str.ofString "rule " ++ st,Str.ofString "or 2 not any rule " ++ own,Str.ofString "or 0",Str.ofString "span 98 97",Str.ofString "any"][j]? = some b):own ++ (if ((j:Int) == 4) then Str.ofString "A" else Str.empty) ++ Str.ofString " = " ++ b = jn (oddW own st j):=by
 match j,hj with
 | 0,_ =>
   cases hb
   refine str_ext ?_
   show _ = (jn [own, "=", "rule",st]).cps.toList
   rw [jn_cps,tls_cons,tls_cons,tls_cons,tls_nil,Zlc,cat_cps,cat_cps,cat_cps,cat_cps]
   show own.cps.toList ++ [] ++ [32,61,32] ++ ([114,117,108,101,32] ++ st.cps.toList) = own.cps.toList ++ (32 :: ([61] ++ 32 :: ([114,117,108,101] ++ 32 :: st.cps.toList)))
   simp
 | 1,_ =>
   cases hb
   refine str_ext ?_
   show _ = (jn [own, "=", "or", "2", "not", "any", "rule",own]).cps.toList
   rw [jn_cps,tls_cons,tls_cons,tls_cons,tls_cons,tls_cons,tls_cons,tls_cons,tls_nil,Zlc,cat_cps,cat_cps,cat_cps,cat_cps]
   show own.cps.toList ++ [] ++ [32,61,32] ++ ([111,114,32,50,32,110,111,116,32,97,110,121,32,114,117,108,101,32] ++ own.cps.toList) = own.cps.toList ++ (32 :: ([61] ++ 32 :: ([111,114] ++ 32 :: ([50] ++ 32 :: ([110,111,116] ++ 32 :: ([97,110,121] ++ 32 :: ([114,117,108,101] ++ 32 :: own.cps.toList)))))))
   simp
 | 2,_ =>
   cases hb
   refine str_ext ?_
   show _ = (jn [own, "=", "or", "0"]).cps.toList
   rw [jn_cps,cat_cps,cat_cps,cat_cps]
   show own.cps.toList ++ [] ++ [32,61,32] ++ [111,114,32,48] = own.cps.toList ++ [32,61,32,111,114,32,48]
   simp
 | 3,_ =>
   cases hb
   refine str_ext ?_
   show _ = (jn [own, "=", "span", "98", "97"]).cps.toList
   rw [jn_cps,cat_cps,cat_cps,cat_cps]
   show own.cps.toList ++ [] ++ [32,61,32] ++ [115,112,97,110,32,57,56,32,57,55] = own.cps.toList ++ [32,61,32,115,112,97,110,32,57,56,32,57,55]
   simp
 | 4,_ =>
   cases hb
   refine str_ext ?_
   show _ = (jn [own ++ Str.ofString "A", "=", "any"]).cps.toList
   rw [jn_cps,cat_cps,cat_cps,cat_cps,cat_cps]
   show own.cps.toList ++ [65] ++ [32,61,32] ++ [97,110,121] = own.cps.toList ++ [65] ++ [32,61,32,97,110,121]
   simp
theorem odd_blen {own st b:Str} {j:Nat} (hj:j < 5) (ho:own.length = 1) (hst:st.length ≤ 100) (hb:[Str.ofString "rule " ++ st,Str.ofString "or 2 not any rule " ++ own,Str.ofString "or 0",Str.ofString "span 98 97",Str.ofString "any"][j]? = some b):b.length ≤ 200:=by
 match j,hj with
 | 0,_ => cases hb; rw [cat_len]; show 5 + st.length ≤ 200; omega
 | 1,_ => cases hb; rw [cat_len,ho]; show 18 + 1 ≤ 200; decide
 | 2,_ => cases hb; decide +kernel
 | 3,_ => cases hb; decide +kernel
 | 4,_ => cases hb; decide +kernel
theorem fn_odd_row (TO:TopOk (T07 w s)) {j k:Nat} {st:Str} (hj:j < 5) (hk:k < 4) (hs:st ∈ strangers) (q:∀ σ',Up σ σ' → Q (.str (jn (oddW (abN k) st j))) σ'):CallOk (T07 w s) (d + 1) X (.glob "_law_odd_row") [.int j,.int k,.str st] Q σ:=by
 have hst:=(st_wd hs).1.len
 have hab:(abN k).length = 1:=rfl
 refine CallOk.go TO rfl rfl ?_
 refine abcd_at hk <| Bin.cat (szo (by show 5 + st.length ≤ _; omega)) <| Bin.cat (szo (by show 18 + 1 ≤ _; decide)) <| Cal.intB <| mulA (b:=((j:Int) == 4)) rfl ?_
 have hA:(if ((j:Int) == 4) = true then Str.ofString "A" else Str.empty).length ≤ 1:=by split <;> decide
 refine Bin.cat (szo (by rw [hab]; omega)) <| Bin.cat (szo (by rw [cat_len,hab]; show _ + 3 ≤ _; omega)) <| item_str (bs:=[Str.ofString "rule " ++ st,Str.ofString "or 2 not any rule " ++ abN k,Str.ofString "or 0",Str.ofString "span 98 97",Str.ofString "any"]) get_new (Zvc j) (show (j:Int) < 5 by omega) (by show 5 ≤ 1000; decide) fun i b hb e => ?_
 have ei:i = j:=by omega
 subst ei
 have hbl:=odd_blen hj hab hst hb
 refine Bin.cat (szo (by rw [cat_len,cat_len,hab]; show 1 + _ + 3 + _ ≤ _; omega)) ?_
 rw [odd_txt hj hb]
 exact q _ Up.r.p
inductive MR (wss:List (List Str)):Int → List (List Str) → Prop where
 | k22:MR wss 22 (wss ++ [[Str.ofString ""]])
 | k23:MR wss 23 [[Str.ofString ""]]
 | k24 (p:Nat):MR wss 24 (ins wss p [Str.ofString ""])
 | k25 (k:Int) (h:k = 25 ∨ k = 26) (p n:Nat) (hn:12 ≤ n) (hn2:n ≤ 41):MR wss k (ins wss p (wDp n))
 | k27:MR wss 27 (wss ++ (List.range (41 - wss.length)).map wY)
 | k29:MR wss 29 (wss ++ [wDp 11])
 | same (k:Int) (h:¬ (22 ≤ k ∧ k ≤ 27)) (h2:k ≠ 29):MR wss k wss
theorem jn_one (x:Str):jn [x] = x:=by unfold jn; rw [txt_join]; rfl
theorem rows_app (wss:List (List Str)) (ws:List Str) (x:Str) (h:x = jn ws):(wss.map jn).map V.str ++ [V.str x] = ((wss ++ [ws]).map jn).map V.str:=by
 rw [Zfc,Zfc,h]; rfl
theorem rows_ins (wss:List (List Str)) (ws:List Str) (x:Str) (p:Nat) (h:x = jn ws):((wss.map jn).map V.str).take p ++ [V.str x] ++ ((wss.map jn).map V.str).drop p = ((ins wss p ws).map jn).map V.str:=by
 rw [ins_map,ins_map,h]
theorem mul_all:((List.range 42).all fun n => (decide (n = 0) || decide (¬ ((4:Int) > (2 ^ 63 - 1) / (n:Int)))) && !Builtin.Str.tooLong (4 * n)) = true:=by decide +kernel
theorem mul_ok {n:Nat} (hn:n ≤ 41):MulOk (Str.ofString "not ") (n:Int):=by
 have h:=Bool.and_eq_true_iff.mp (List.all_eq_true.mp mul_all n (List.mem_range.mpr (by omega)))
 have h4:(Str.ofString "not ").length = 4:=by decide +kernel
 refine ⟨by rw [Zrc (by omega),Zrc (by omega)]; rfl,fun h1 _ => ?_,fun h1 _ => ?_⟩
 · rw [h4]
   have k:=h.1
   rw [Zrc (by omega),Bool.false_or] at k
   exact Zgb k
 · rw [h4,Zzc]
   have k:=h.2
   rw [Bool.not_eq_true'] at k
   exact k
theorem mulN {N:Nat} {i:Int} (hi:i = N) (hN:N ≤ 41) (q:Q (.str (Txt.mul (Str.ofString "not ") (N:Int))) σ):Bin .Mult (.str (Str.ofString "not ")) (.int i) Q σ:=by
 subst hi
 exact ⟨_,_,.rep _ _ (mul_ok hN),q⟩
theorem deep_len {n:Nat} (hn:n ≤ 41):(Txt.mul (Str.ofString "not ") (n:Int)).length ≤ 200:=Za (len_mul_leN (L:=4) (N:=n) (by decide +kernel) (Int.le_refl _)) (by omega)
theorem fn_more_rows (TO:TopOk (T07 w s)) {l:Nat} {wss:List (List Str)} {kind cell:Int} (hl:σ[l]? = some (.list ((wss.map jn).map V.str))) (hn:wss.length ≤ 5) (q:∀ wss' l' σ',Up σ σ' → MR wss kind wss' → σ'[l']? = some (.list ((wss'.map jn).map V.str)) → Q (.ref l') σ') :
   CallOk (T07 w s) (d + 1) X (.glob "_law_more_rows") [.ref l,.int kind,.int cell] Q σ:=by
 refine CallOk.go TO rfl rfl ?_
 have hz:((wss.map jn).map V.str).length = wss.length:=by rw [Zc,Zc]
 have rn:=fmod_range (a:=cell) (b:=(wss.length:Int) + 1) (by omega)
 refine (Int.eq_ofNat_of_zero_le rn.1).elim fun p hp => ?_
 have q1:∀ {wss':List (List Str)} {us:List V} {l':Nat} {σ':Hp},us = (wss'.map jn).map V.str → Up σ σ' → MR wss kind wss' → σ'[l']? = some (.list us) → Q (.ref l') σ':=fun e hu hb hg => q _ _ _ hu hb (e ▸ hg)
 have zl:((wss.map jn).map V.str).length ≤ sizeLine:=szo (by rw [hz]; omega)
 have zt:∀ {v:V},(((wss.map jn).map V.str).take p).length + [v].length ≤ sizeLine:=fun {v} => szo (by rw [List.length_take,hz]; show _ + 1 ≤ _; omega)
 have zd:∀ {v:V},(((wss.map jn).map V.str).take p ++ [v]).length + (((wss.map jn).map V.str).drop p).length ≤ sizeLine:=fun {v} => szo (by rw [Zf,List.length_take,List.length_drop,hz]; show _ + 1 + _ ≤ _; omega)
 have z1:((wss.map jn).map V.str).length + 1 ≤ sizeLine:=szo (by rw [hz]; omega)
 refine Cal.len (n:=wss.length) (len_at hl hz) (by omega) ?_
 refine Br.mk (fun h22 => ?_) fun h22 => Br.mk (fun h23 => ?_) fun h23 => Br.mk (fun h24 => ?_) fun h24 => ?_
 · rw [eq_of_beq h22] at q1
   exact Bin.lists (get_up hl) get_new z1 (q1 (rows_app wss _ _ (jn_one _).symm) Up.r.p.p .k22 get_new)
 · rw [eq_of_beq h23] at q1
   exact q1 (wss':=[[Str.ofString ""]]) (by rw [List.map_cons,List.map_nil,jn_one]; rfl) Up.r.p .k23 get_new
 · rw [eq_of_beq h24] at q1
   refine Evx.mk <| EvOk.sliceTo <| vE_ok TO rfl 40 _ _ _ <| vE_ok TO rfl 40 _ _ _ <| Slc.mk l _ p rfl (congrArg V.int hp) hl zl <| Bin.lists (get_up get_new) get_new zt <| Evx.mk <| EvOk.sliceFrom <| vE_ok TO rfl 40 _ _ _ <| vE_ok TO rfl 40 _ _ _ <| Slc.mk l _ p rfl (congrArg V.int hp) (get_up (get_up (get_up hl))) zl <| Bin.lists (get_up get_new) get_new zd ?_
   exact q1 (rows_ins wss _ _ p (jn_one _).symm) Up.r.p.p.p.p.p (.k24 p) get_new
 have r30:=fmod_range (a:=cell.fdiv 8) (b:=30) (by decide)
 refine (Int.eq_ofNat_of_zero_le r30.1).elim fun c30 hc30 => ?_
 have hN:12 + c30 ≤ 41:=by omega
 have hdl:=deep_len hN
 refine Br.mk (fun h25 => ?_) fun h25 => Br.mk (fun h26 => ?_) fun h26 => Br.mk (fun h27 => ?_) fun h27 => Br.mk (fun h29 => ?_) fun h29 => ?_
 · refine Evx.mk <| EvOk.sliceTo <| vE_ok TO rfl 40 _ _ _ <| vE_ok TO rfl 40 _ _ _ <| Slc.mk l _ p rfl (congrArg V.int hp) hl zl <| mulN (N:=12 + c30) (by omega) hN <| Bin.cat (szo (by show 7 + _ ≤ _; omega)) <| Bin.cat (szo (by rw [cat_len]; show 7 + _ + 3 ≤ _; omega)) <| Bin.lists (get_up get_new) get_new zt <| Evx.mk <| EvOk.sliceFrom <| vE_ok TO rfl 40 _ _ _ <| vE_ok TO rfl 40 _ _ _ <| Slc.mk l _ p rfl (congrArg V.int hp) (get_up (get_up (get_up hl))) zl <| Bin.lists (get_up get_new) get_new zd ?_
   exact q1 (rows_ins wss _ _ p (wDp_txt (12 + c30))) Up.r.p.p.p.p.p (.k25 _ (.inl (eq_of_beq h25)) p (12 + c30) (Zy ..) hN) get_new
 · refine Evx.mk <| EvOk.sliceTo <| vE_ok TO rfl 40 _ _ _ <| vE_ok TO rfl 40 _ _ _ <| Slc.mk l _ p rfl (congrArg V.int hp) hl zl <| mulN (N:=12 + c30) (by omega) hN <| Bin.cat (szo (by show 7 + _ ≤ _; omega)) <| Bin.cat (szo (by rw [cat_len]; show 7 + _ + 3 ≤ _; omega)) <| Bin.lists (get_up get_new) get_new zt <| Evx.mk <| EvOk.sliceFrom <| vE_ok TO rfl 40 _ _ _ <| vE_ok TO rfl 40 _ _ _ <| Slc.mk l _ p rfl (congrArg V.int hp) (get_up (get_up (get_up hl))) zl <| Bin.lists (get_up get_new) get_new zd ?_
   exact q1 (rows_ins wss _ _ p (wDp_txt (12 + c30))) Up.r.p.p.p.p.p (.k25 _ (.inr (eq_of_beq h26)) p (12 + c30) (Zy ..) hN) get_new
 · rw [eq_of_beq h27] at q1
   have hr:(41:Int) - wss.length = ((41 - wss.length:Nat):Int):=by omega
   refine Cal.len (n:=wss.length) (len_at hl hz) (by omega) <| Cal.range <| CompOk.mk ((List.range (41 - wss.length)).map fun (k:Nat) => V.int k) (fun i acc σ' => acc = (((List.range i).map wY).map jn).map V.str ∧ i ≤ 41 ∧ σ' = σ) ⟨rfl,Zkb _,rfl⟩ (fun i acc σ' hJ => ⟨?_,?_⟩) (fun acc σ' hJ => ?_) fun i y acc σ' hJ hy => ?_
   · rw [hr]; exact (rng_iter (Zvc _) (by omega)).trans (by rw [Zzc])
   · rw [hJ.1,Zc,Zc,Zc,List.length_range]; exact szo (by omega)
   · rw [Zc,List.length_range] at hJ
     rw [hJ.1,hJ.2.2]
     refine Bin.lists (get_up hl) get_new (szo (by rw [hz,Zc,Zc,Zc,List.length_range]; omega)) ?_
     exact q1 (wss':=wss ++ (List.range (41 - wss.length)).map wY) (by rw [Zfc,Zfc]) Up.r.p.p .k27 get_new
   · have hi:=rng_at hy
     apply eq_to hJ.2.2
     apply eq_to hJ.1
     apply eq_to hi.2
     have hi:=hi.1
     have f1:=fmod_range (a:=(i:Int)) (b:=26) (by decide)
     have e1:((i:Int).fmod 26).toNat = i % 26:=by rw [Int.fmod_eq_emod_of_nonneg _ (by decide)]; omega
     have e2:((i:Int).fdiv 26).toNat = i / 26:=by rw [Int.fdiv_eq_ediv_of_nonneg _ (by decide)]; omega
     have g0:0 ≤ (i:Int).fdiv 26:=by rw [Int.fdiv_eq_ediv_of_nonneg _ (by decide)]; omega
     have g1:(i:Int).fdiv 26 < 26:=by rw [Int.fdiv_eq_ediv_of_nonneg _ (by decide)]; omega
     refine vE_ok TO rfl 40 _ _ _ <| item_letter f1.1 f1.2 <| Bin.cat (szo (by show 1 + 1 ≤ _; decide)) <| item_letter g0 g1 <| Bin.cat (szo (by rw [cat_len]; show 1 + 1 + 1 ≤ _; decide)) <| Bin.cat (szo (by rw [cat_len,cat_len]; show 1 + 1 + 1 + 6 ≤ _; decide)) ⟨?_,by omega,rfl⟩
     rw [List.range_succ,Zfc,Zfc,Zfc,e1,e2]
     show _ ++ [V.str _] = _ ++ [V.str (jn (wY i))]
     rw [← wY_txt]
     rfl
 · rw [eq_of_beq h29] at q1
   have h11:=deep_len (n:=11) (by decide)
   refine mulN (N:=11) rfl (by decide) <| Bin.cat (szo (by show 7 + _ ≤ _; omega)) <| Bin.cat (szo (by rw [cat_len]; show 7 + _ + 3 ≤ _; omega)) <| Bin.lists (get_up hl) get_new z1 ?_
   exact q1 (rows_app wss _ _ (wDp_txt 11)) Up.r.p.p .k29 get_new
 · have n2:=Zmc.mp h22
   have n3:=Zmc.mp h23
   have n4:=Zmc.mp h24
   have n5:=Zmc.mp h25
   have n6:=Zmc.mp h26
   have n7:=Zmc.mp h27
   have n9:=Zmc.mp h29
   exact q1 rfl Up.r (.same kind (by omega) n9) hl
end
section
structure Sg7 (c a b:Nat):Prop where
 hc:isSignC c = true
 ha:isSignC a = true
 hb:isSignC b = true
 hab:a ≤ b
noncomputable abbrev R7 (ws:List Str) (r:Str × Pt):Prop:=rowOut ws = some r ∧ WsOk ws
noncomputable abbrev wZ7 (c a b:Nat):List Str:=wZ (wN c) (wN a) (wN b)
noncomputable def dueK (K d:Nat):Nat:=if K < 25 ∨ (29 < K ∧ K < 35) then 1 else if K < 28 then 2 else d
inductive WK (Z:List Str) (K:Nat) (us:List Str):Prop where
 | bad (h:K < 22 ∨ (29 < K ∧ K < 35)) (e:rowOut us = none) (o:WsOk us):WK Z K us
 | good (h:¬ (K < 22 ∨ (29 < K ∧ K < 35))) (e:us = Z):WK Z K us
theorem all2_ok {wss:List (List Str)} {A:List (Str × Pt)} (h:All2 R7 wss A):∀ ws ∈ wss,WsOk ws:=by
 induction h with
 | nil => exact mem0
 | cons h t ih => exact mem2 h.2 ih
theorem all2_rr {wss:List (List Str)} {A:List (Str × Pt)} (h:All2 R7 wss A):RowsR wss A:=h.imp fun _ _ h => h.1
theorem map_all2 {n:Nat} {f:Nat → List Str} {g:Nat → Str × Pt} (h:∀ k,k < n → R7 (f k) (g k)):All2 R7 ((List.range n).map f) ((List.range n).map g):=by
 induction n with
 | zero => exact .nil
 | succ n ih =>
   rw [List.range_succ,Zfc,Zfc]
   exact (ih fun k hk => h k (Nat.lt_succ_of_lt hk)).append (.cons (h n (Zs n)) .nil)
theorem blank_ok:WsOk [Str.ofString ""]:=⟨List.cons_ne_nil _ _,by decide,mem1 (wd_lit (by decide +kernel))⟩
theorem ins_ne {α:Type} {A:List α} {i:Nat} {z:α}:ins A i z ≠ []:=fun e => by
 have:=ins_len A i z
 rw [e] at this; cases this
inductive DueR (wss:List (List Str)) (rs:List (Str × Pt)) (c:Nat):Prop where
 | mk (h1:Due wss rs c) (h2:∀ ws ∈ wss,WsOk ws) (h3:wss ≠ []) (h4:wss.length ≤ 60):DueR wss rs c
theorem due_of {m d i K c a b:Nat} {A:List (Str × Pt)} {wss wssF:List (List Str)} {us:List Str} (S:Sg7 c a b) (hm:m < 5) (hi:i ≤ m) (hA:RA m d A) (h2:All2 R7 wss A) (hW:WK (wZ7 c a b) K us) (hM:MR (ins wss i us) K wssF) :
   ∃ rs,DueR wssF rs (dueK K d) ∧ (dueK K d = 0 → rs = allR A i c a b (K == 29)):=by
 have nz:=nw_sign S.hc
 have na:=nw_sign S.ha
 have nb:=nw_sign S.hb
 have hl:A.length = m:=hA.len
 have hwl:wss.length = m:=h2.length.symm.trans hl
 have hil:(ins wss i us).length ≤ 5:=by rw [ins_len]; omega
 have usOk:WsOk us:=hW.rec (fun _ _ o => o) fun _ e => e ▸ wZ_ok nz na nb
 have insOk:∀ ws ∈ ins wss i us,WsOk ws:=fun ws hw => (ins_mem.mp hw).elim (all2_ok h2 ws) fun e => e ▸ usOk
 have insG:¬ (K < 22 ∨ (29 < K ∧ K < 35)) → All2 R7 (ins wss i us) (ins A i (zR c a b)):=fun hK => hW.rec (fun h _ _ => absurd h hK) fun _ e => ins_all2 h2 i ⟨e ▸ wZ_out nz na nb,usOk⟩
 have shpI:∀ r ∈ ins A i (zR c a b),Shp r:=fun r hr => (ins_mem.mp hr).elim (hA.shp hm r) fun e => e ▸ shp_z S.hc S.ha S.hb
 have one:dueK K d = 1 → (∃ ws ∈ wssF,rowOut ws = none) → (∀ ws ∈ wssF,WsOk ws) → wssF ≠ [] → wssF.length ≤ 60 → ∃ rs,DueR wssF rs (dueK K d) ∧ (dueK K d = 0 → rs = allR A i c a b (K == 29)):=fun e h1 h2 h3 h4 => ⟨[],⟨e ▸ .notes h1,h2,h3,h4⟩,fun k => by rw [e] at k; cases k⟩
 have bl:rowOut [Str.ofString ""] = none:=rfl
 generalize hk:(K:Int) = k at hM
 cases hM with
 | k22 =>
   refine one (if_pos (by omega)) ⟨_,Zyb _ (.head _),bl⟩ (fun ws hw => (Zm.mp hw).elim (insOk ws) fun h => Zj.mp h ▸ blank_ok) (by simp) (by rw [Zf]; show _ + 1 ≤ _; omega)
 | k23 => exact one (if_pos (by omega)) ⟨_,.head _,bl⟩ (mem1 blank_ok) (List.cons_ne_nil _ _) (by decide)
 | k24 p =>
   refine one (if_pos (by omega)) ⟨_,ins_mem.mpr (.inr rfl),bl⟩ (fun ws hw => (ins_mem.mp hw).elim (insOk ws) fun h => h ▸ blank_ok) ins_ne (by rw [ins_len]; omega)
 | k25 k h p n hn hn2 =>
   have hK:K = 25 ∨ K = 26:=by omega
   have e:dueK K d = 2:=by unfold dueK; rw [if_neg (by omega),if_pos (by omega)]
   have g:=insG (by omega)
   have gg:All2 R7 (ins (ins wss i us) p (wDp n)) (ins (ins A i (zR c a b)) p (dR n)):=ins_all2 g p ⟨wDp_out n,wDp_ok hn2⟩
   rw [e]
   refine ⟨_,⟨Due.rules (all2_rr gg) (.bad (not_fine (r:=dR n) (ins_mem.mpr (.inr rfl)) ?_)) fun r hr => (ins_mem.mp hr).elim (shpI r) fun h => h ▸ shp_d hn2,all2_ok gg,ins_ne,by rw [ins_len]; omega⟩,fun k => by cases k⟩
   show (_ && ((ntN n).good && decide ((ntN n).deep ≤ 12))) = false
   rw [ntN_deep,Zrc (by omega),Bool.and_false,Bool.and_false]
 | k27 =>
   have hK:K = 27:=by omega
   have e:dueK K d = 2:=by unfold dueK; rw [if_neg (by omega),if_pos (by omega)]
   have g:=insG (by omega)
   have gg:All2 R7 (ins wss i us ++ (List.range (41 - (ins wss i us).length)).map wY) (ins A i (zR c a b) ++ (List.range (41 - (ins wss i us).length)).map fun k => (yN k,Pt.any)):=g.append (map_all2 fun k hk => ⟨wY_out k,wY_ok (by omega)⟩)
   rw [e]
   refine ⟨_,⟨Due.rules (all2_rr gg) (.bad fun F => ?_) fun r hr => (Zm.mp hr).elim (shpI r) fun h => ?_,all2_ok gg,by simp [ins_ne],by rw [Zf,Zc,List.length_range]; omega⟩,fun k => by cases k⟩
   · have:=F.most
     rw [Zf,Zc,List.length_range,ins_len,ins_len] at this
     omega
   · obtain ⟨k,hk,rfl⟩:=Zsb.mp h
     exact shp_y (by have:=List.mem_range.mp hk; omega)
 | k29 =>
   have hK:K = 29:=by omega
   have e:dueK K d = d:=by unfold dueK; rw [if_neg (by omega),if_neg (by omega)]
   have g:=insG (by omega)
   have gg:All2 R7 (ins wss i us ++ [wDp 11]) (allR A i c a b true):=g.append (.cons ⟨wDp_out 11,wDp_ok (by decide)⟩ .nil)
   rw [e]
   refine ⟨_,⟨Due.rules (all2_rr gg) (out_all S.hc S.ha S.hb S.hab hm hi hA) (allR_shp S.hc S.ha S.hb hA hm),all2_ok gg,by simp,by rw [Zf]; show _ + 1 ≤ _; omega⟩,fun _ => by rw [hK]; rfl⟩
 | same k h h29 =>
   by_cases hK:K < 22 ∨ (29 < K ∧ K < 35)
   · refine one (if_pos (by omega)) ⟨us,ins_mem.mpr (.inr rfl),hW.rec (fun _ e _ => e) fun h _ => absurd hK h⟩ insOk ins_ne (by omega)
   · have e:dueK K d = d:=by unfold dueK; rw [if_neg (by omega),if_neg (by omega)]
     have g:=insG hK
     have gg:All2 R7 (ins wss i us) (allR A i c a b false):=by unfold allR; rw [show (if false = true then [dR 11] else []) = ([]:List (Str × Pt)) from rfl,Zlc]; exact g
     rw [e]
     refine ⟨_,⟨Due.rules (all2_rr gg) (out_all S.hc S.ha S.hb S.hab hm hi hA) (allR_shp S.hc S.ha S.hb hA hm),all2_ok gg,ins_ne,by omega⟩,fun _ => by rw [show (K == 29) = false from Zmc.mpr (by omega)]⟩
end
section
variable {w:World} {s:Shared} {d:Nat} {X:QX} {Q:QE} {σ:Hp}
theorem brk_of {c a b:Nat} (S:Sg7 c a b):Brk (wZ7 c a b):=by
 have nz:=nw_sign S.hc
 have na:=nw_sign S.ha
 have nb:=nw_sign S.hb
 have l10:∀ {x},isSignC x = true → (wN x).length ≤ 10:=fun {x} h => by
   have k:=(num_int (show num (wN x) = some x from congrArg Tk.n (nw_sign h).t)).2
   omega
 refine ⟨rfl,fun p hp x hx => ?_,fun p hp x hx => ?_,z_cut nz na nb,fun p => z_blank nz na nb,z_more nz na nb,z_end nz na nb,fun x hx => z_count nz na nb ?_,z_noeq nz na nb,z_colon nz na nb,z_first nz na nb,z_Sign nz na nb,fun p x y hp hx hy => ?_⟩
 · have hp:p = 5 ∨ p = 8 ∨ p = 9:=by simpa using hp
   revert x
   exact mem2 (rpl_g nz na nb hp (k:=.no) (n:=some 37) rfl (wd_lit (by decide +kernel))) <| mem2 (rpl_g nz na nb hp (k:=.no) (n:=some 127) rfl (wd_lit (by decide +kernel))) <| mem1 (rpl_g nz na nb hp (k:=.no) (n:=some 8) rfl (wd_lit (by decide +kernel)))
 · have hp:p = 3 ∨ p = 5 ∨ p = 8 ∨ p = 9 ∨ p = 11 ∨ p = 15:=by simpa using hp
   have go:∀ x:Str,tk x = ⟨x,.no,none,none⟩ → WdOk x → BadW (rplW (wZ7 c a b) p (p + 1) [x]):=fun x h1 h2 => rpl_n nz na nb hp h1 h2
   revert x
   exact mem2 (go _ rfl (wd_lit (by decide +kernel))) <| mem2 (go _ rfl (wd_lit (by decide +kernel))) <| mem2 (go _ rfl (wd_lit (by decide +kernel))) <| mem2 (go _ rfl (wd_lit (by decide +kernel))) <| mem2 (go _ rfl (wd_lit (by decide +kernel))) <| mem2 (go _ rfl (wd_lit (by decide +kernel))) <| mem2 (go _ rfl (wd_lit (by decide +kernel))) <| mem1 (go _ rfl (wd_lit (by decide +kernel)))
 · simpa using hx
 · have ok:=wZ_ok nz na nb
   have key:∀ x ∈ wZ7 c a b,x.length ≤ 10:=mem2 (by decide +kernel) <| mem2 (by decide +kernel) <| mem2 (by decide +kernel) <| mem2 (by decide +kernel) <| mem2 (by decide +kernel) <| mem2 (l10 S.hc) <| mem2 (by decide +kernel) <| mem2 (by decide +kernel) <| mem2 (l10 S.ha) <| mem2 (l10 S.hb) <| mem2 (by decide +kernel) <| mem2 (by decide +kernel) <| mem2 (by decide +kernel) <| mem2 (by decide +kernel) <| mem2 (by decide +kernel) <| mem1 (by decide +kernel)
   have mx:=Zn hx
   have my:=Zn hy
   have t:=wd_tab (ok.all x mx) (ok.all y my) (key x mx) (key y my)
   exact ⟨key x mx,key y my,z_tab nz na nb hp t.1 t.2⟩
noncomputable abbrev rowsV (wss:List (List Str)):List V:=(wss.map jn).map V.str
noncomputable abbrev base (m:Nat):List (Str × Pt):=(List.range m).map rA
theorem rowsV_set (wss:List (List Str)) (k:Nat) (ws:List Str):rowsV (wss.set k ws) = (rowsV wss).set k (V.str (jn ws)):=by
 unfold rowsV; rw [List.map_set,List.map_set]
inductive Hp7 (σ':Hp) (c a b m lm lw lr:Nat):Prop where
 | mk (h1:σ'[lm]? = some (.list [.ref lw,(zzP c a b).v])) (h2:σ'[lw]? = some (.list ((wZ7 c a b).map V.str))) (h3:σ'[lr]? = some (.list ((base m).map ruleV))):Hp7 σ' c a b m lm lw lr
theorem Hp7.up {σ' σ'':Hp} {c a b m lm lw lr:Nat} (h:Hp7 σ' c a b m lm lw lr) (u:Up σ' σ''):Hp7 σ'' c a b m lm lw lr:=h.rec fun h1 h2 h3 => ⟨u.get h1,u.get h2,u.get h3⟩
theorem Hp7.set {σ':Hp} {o:MObj} {c a b m lm lw lr lo:Nat} (h:Hp7 σ' c a b m lm lw lr) (n:lo ≠ lm ∧ lo ≠ lw ∧ lo ≠ lr):Hp7 (σ'.set lo o) c a b m lm lw lr:=h.rec fun h1 h2 h3 => ⟨by rw [Zi n.1]; exact h1,by rw [Zi n.2.1]; exact h2,by rw [Zi n.2.2]; exact h3⟩
inductive J07la (xs:List Int) (ρ':Loc) (σ':Hp):Prop where
 | mk (c a b m o lm lw lr lo:Nat) (S:Sg7 c a b) (hm:m < 5) (ho:o < 12) (h:Has ρ' [("_law_script",.scr xs),("_law_made",.ref lm),("_law_many",.int m),("_law_rules",.ref lr),("_law_rows",.ref lo),("_law_due",.int 0),("_law_odd",.int o)]) (H:Hp7 σ' c a b m lm lw lr) (g:σ'[lo]? = some (.list (rowsV ((List.range m).map wA)))) (n:lo ≠ lm ∧ lo ≠ lw ∧ lo ≠ lr):J07la xs ρ' σ'
inductive Od (m o:Nat):Nat → List (List Str) → Prop where
 | plain (h:m = 0 ∨ 6 ≤ o):Od m o 0 ((List.range m).map wA)
 | odd (k:Nat) (st:Str) (hk:k < m) (ho:o < 6) (hs:st ∈ strangers):Od m o ([3,4,2,2,2,2].getD o 0) (((List.range m).map wA).set k (oddW (abN k) st (min o 4)))
theorem base_all2 {m:Nat} (hm:m < 5):All2 R7 ((List.range m).map wA) (base m):=map_all2 fun k hk => ⟨wA_out k,wA_ok (by omega)⟩
theorem Od.ok {m o d:Nat} {wss:List (List Str)} (h:Od m o d wss) (hm:m < 5) (hn:¬ (1 < m ∧ o = 5)):∃ A,RA m d A ∧ All2 R7 wss A ∧ (d = 0 → A = base m):=by
 cases h with
 | plain h => exact ⟨_,.plain,base_all2 hm,fun _ => rfl⟩
 | odd k st hk ho hs =>
   have e:[3,4,2,2,2,2].getD o 0 = [3,4,2,2,2].getD (min o 4) 0 ∧ [3,4,2,2,2,2].getD o 0 ≠ 0:=by
     match o,ho with
     | 0,_ | 1,_ | 2,_ | 3,_ | 4,_ | 5,_ => exact ⟨by decide,by decide⟩
   refine ⟨_,e.1 ▸ .odd k (min o 4) st hk (by omega) hs,(base_all2 hm).set k ⟨oddW_out hs (by omega),oddW_ok (by omega) hs (by omega)⟩,fun k => absurd k e.2⟩
theorem Od.twice {m o d:Nat} {wss:List (List Str)} (h:Od m o d wss) (hm:m < 5) (h1:1 < m) (h5:o = 5):∃ x,wss[1]? = some x ∧ wss.length = m ∧ ∃ A,RA m d A ∧ All2 R7 (wss.set 0 x) A ∧ (d = 0 → A = base m):=by
 cases h with
 | plain h => omega
 | odd k st hk ho hs =>
   subst h5
   have g:=(base_all2 hm).set k (a:=oddW (abN k) st 4) (b:=oddP (abN k) st 4) ⟨oddW_out hs (by decide),oddW_ok (by omega) hs (by decide)⟩
   have hw:(((List.range m).map wA).set k (oddW (abN k) st 4)).length = m:=by rw [List.length_set,Zc,List.length_range]
   have hA:((base m).set k (oddP (abN k) st 4)).length = m:=by rw [List.length_set,Zc,List.length_range]
   have hmem:∀ y ∈ (base m).set k (oddP (abN k) st 4),(∃ k,k < m ∧ y = rA k) ∨ ∃ k st,k < m ∧ st ∈ strangers ∧ y = oddP (abN k) st 4:=fun y hy => (mem_set hy).elim (fun e => .inr ⟨k,st,hk,hs,e⟩) fun e => .inl e
   show ∃ x,(((List.range m).map wA).set k (oddW (abN k) st 4))[1]? = some x ∧ (((List.range m).map wA).set k (oddW (abN k) st 4)).length = m ∧ ∃ A,RA m 2 A ∧ All2 R7 ((((List.range m).map wA).set k (oddW (abN k) st 4)).set 0 x) A ∧ (2 = 0 → A = base m)
   generalize ((List.range m).map wA).set k (oddW (abN k) st 4) = W at g hw
   generalize (base m).set k (oddP (abN k) st 4) = A at g hA hmem
   cases g with
   | nil => rw [List.length_nil] at hw; omega
   | cons r0 g => cases g with
     | nil => simp only [List.length_cons,List.length_nil] at hw; omega
     | @cons a1 b1 as1 bs r1 g =>
       exact ⟨_,rfl,hw,_,.twice b1 bs hA fun y hy => hmem y (.tail _ hy),.cons r1 (.cons r1 g),fun k => absurd k (by decide)⟩
inductive J07lb (xs:List Int) (ρ':Loc) (σ':Hp):Prop where
 | mk (c a b m o d lm lw lr lo:Nat) (wss:List (List Str)) (S:Sg7 c a b) (hm:m < 5) (ho:o < 12) (h:Has ρ' [("_law_script",.scr xs),("_law_made",.ref lm),("_law_many",.int m),("_law_rules",.ref lr),("_law_rows",.ref lo),("_law_due",.int d),("_law_odd",.int o)]) (H:Hp7 σ' c a b m lm lw lr) (g:σ'[lo]? = some (.list (rowsV wss))) (n:lo ≠ lm ∧ lo ≠ lw ∧ lo ≠ lr) (hO:Od m o d wss):J07lb xs ρ' σ'
inductive J07lc (xs:List Int) (ρ':Loc) (σ':Hp):Prop where
 | mk (c a b m d lm lw lr lo:Nat) (wss:List (List Str)) (A:List (Str × Pt)) (S:Sg7 c a b) (hm:m < 5) (h:Has ρ' [("_law_script",.scr xs),("_law_made",.ref lm),("_law_many",.int m),("_law_rules",.ref lr),("_law_rows",.ref lo),("_law_due",.int d)]) (H:Hp7 σ' c a b m lm lw lr) (g:σ'[lo]? = some (.list (rowsV wss))) (hA:RA m d A) (h2:All2 R7 wss A) (hd:d = 0 → A = base m):J07lc xs ρ' σ'
inductive J07ld (xs:List Int) (ρ':Loc) (σ':Hp):Prop where
 | mk (c a b m d i K lm lw l0 lr lo:Nat) (wss:List (List Str)) (A:List (Str × Pt)) (ws us:List Str) (S:Sg7 c a b) (hm:m < 5) (hi:i ≤ m) (hK:K < 44) (h:Has ρ' [("_law_script",.scr xs),("_law_made",.ref lm),("_law_rules",.ref lr),("_law_rows",.ref lo),("_law_due",.int d),("_law_at",.int i),("_law_kind",.int K),("_law_words",.ref lw)]) (gm:σ'[lm]? = some (.list [.ref l0,(zzP c a b).v])) (gr:σ'[lr]? = some (.list ((base m).map ruleV))) (g:σ'[lo]? = some (.list (rowsV wss))) (gw:σ'[lw]? = some (.list (ws.map V.str))) (hA:RA m d A) (h2:All2 R7 wss A) (hd:d = 0 → A = base m) (hl:ws.length ≤ 100) (hl2:∀ x ∈ ws,x.length ≤ 100) (e:jn ws = jn us) (hW:WK (wZ7 c a b) K us):J07ld xs ρ' σ'
inductive J07le (dp:Nat → Bool) (ρ':Loc) (σ':Hp):Prop where
 | mk (c a b m d i K lr lo:Nat) (wss:List (List Str)) (A rs:List (Str × Pt)) (hm:m < 5) (hK:K < 44) (h:Has ρ' [("_law_rules",.ref lr),("_law_rows",.ref lo),("_law_due",.int d),("_law_kind",.int K)]) (gr:σ'[lr]? = some (.list ((allR (base m) i c a b (dp K)).map ruleV))) (g:σ'[lo]? = some (.list (rowsV wss))) (hd:d = 0 → A = base m) (hD:DueR wss rs (dueK K d)) (h0:dueK K d = 0 → rs = allR A i c a b (K == 29)):J07le dp ρ' σ'
inductive J07lf (ρ':Loc) (σ':Hp):Prop where
 | mk (c lr lo:Nat) (wss:List (List Str)) (rs:List (Str × Pt)) (h:Has ρ' [("_law_rules",.ref lr),("_law_rows",.ref lo),("_law_due",.int c)]) (g:σ'[lo]? = some (.list (rowsV wss))) (gr:c = 0 → σ'[lr]? = some (.list (rs.map ruleV))) (hD:DueR wss rs c):J07lf ρ' σ'
theorem allR_deep {A:List (Str × Pt)} {i c a b:Nat}:(allR A i c a b false).map ruleV ++ [ruleV (dR 11)] = (allR A i c a b true).map ruleV:=by
 unfold allR
 rw [show (if false = true then [dR 11] else []) = ([]:List (Str × Pt)) from rfl,Zlc]
 exact (Zfc (l₁:=ins A i (zR c a b)) (l₂:=[dR 11])).symm
theorem rows_rules {σ:Hp} {lo lr:Nat} {wss:List (List Str)} {r:Str × Pt} {rs:List (Str × Pt)} (h:σ[lo]? = some (.list (rowsV wss))) (k:σ[lr]? = some (.list (rs.map ruleV))) (hr:r ∈ rs):lr ≠ lo:=fun e => by
 subst e
 have e:=sm_inj (h.symm.trans k)
 injection e with e
 have hm:ruleV r ∈ rs.map ruleV:=Zsb.mpr ⟨r,hr,rfl⟩
 rw [← e] at hm
 obtain ⟨x,hx,q⟩:=Zsb.mp hm
 cases q
theorem law07 (TO:TopOk (T07 w s)) (xs:List Int) (hx:xs.length ≤ 63):CallOk (T07 w s) 690 (fun zz zz => False) (.glob "law") [.scr xs] (fun v zz => v = .bool true) []:=by
 refine CallOk.goX (d:=689) TO rfl rfl ?_
 have hx62:xs.length < 2 ^ 62:=Zk hx (by decide)
 have cell:∀ {k:Int} {K:QE} {τ:Hp},decide (0 ≤ k ∧ k < 2 ^ 62) = true → K (.int (xs.getD k.toNat 0)) τ → Cal (T07 w s) 689 (fun zz zz => False) (.glob "_law_cell_at") [.scr xs,.int k] K τ:=fun hk h => ⟨fn_cell_at (d:=688) TO (Zgb hk).1 (Zgb hk).2 hx62 h⟩
 have sg:∀ {k:Int} {K:QE} {τ:Hp},(∀ c,isSignC c = true → K (.str ⟨#[c]⟩) τ) → Cal (T07 w s) 689 (fun zz zz => False) (.glob "_law_sign_by") [.int k] K τ:=fun h => ⟨fn_sign_by (d:=688) TO h⟩
 refine ExOk.cutAt 6 (J07la xs) (vB_ok TO rfl 60 _ _ _ _ ?_) fun ρ₁ σ₁ hJ => hJ.rec fun c a b m o lm lw lr lo S hm ho hρ H g n => ?_
 · have r5:=fmod_range (a:=xs.getD (4:Int).toNat 0) (b:=5) (by decide)
   have r12:=fmod_range (a:=xs.getD (5:Int).toNat 0) (b:=12) (by decide)
   refine (Int.eq_ofNat_of_zero_le r5.1).elim fun m hm => (Int.eq_ofNat_of_zero_le r12.1).elim fun o ho => ?_
   have hm5:m < 5:=by omega
   refine cell rfl <| sg fun x hx => cell rfl <| sg fun y hy => cell rfl <| sg fun z hz => Cal.mk <| fn_signs_row (d:=688) TO hx hy hz fun a b σ₁ l k hu ha hb hab g1 g2 => ?_
   refine cell rfl <| Cal.range <| CompOk.mk ((List.range m).map fun (k:Nat) => V.int k) (fun i acc σ' => acc = ((List.range i).map rA).map ruleV ∧ i ≤ m ∧ σ' = σ₁) ⟨rfl,Zkb _,rfl⟩ (fun i acc σ' hJ => ⟨?_,?_⟩) (fun acc σ' hJ => ?_) fun i y acc σ' hJ hy => ?_
   · rw [hm]; exact (rng_iter (Zvc _) (by omega)).trans (by rw [Zzc])
   · rw [hJ.1,Zc,Zc,List.length_range]; exact szo (by omega)
   · rw [Zc,List.length_range] at hJ
     rw [hJ.1,hJ.2.2]
     refine Cal.range <| CompOk.mk ((List.range m).map fun (k:Nat) => V.int k) (fun i acc σ' => acc = rowsV ((List.range i).map wA) ∧ i ≤ m ∧ σ' = σ₁ ++ [.list (((List.range m).map rA).map ruleV)]) ⟨rfl,Zkb _,rfl⟩ (fun i acc σ' hJ => ⟨?_,?_⟩) (fun acc σ' hJ => ?_) fun i y acc σ' hJ hy => ?_
     · rw [hm]; exact (rng_iter (Zvc _) (by omega)).trans (by rw [Zzc])
     · rw [hJ.1,Zc,Zc,Zc,List.length_range]; exact szo (by omega)
     · rw [Zc,List.length_range] at hJ
       rw [hJ.1,hJ.2.2]
       have l1:=get_lt g1
       have l2:=get_lt g2
       refine cell rfl ⟨z,a,b,m,o,l,k,σ₁.length,_,⟨hz,ha,hb,hab⟩,hm5,by omega,⟨rfl,rfl,congrArg (fun z => some (V.int z)) hm,rfl,rfl,rfl,congrArg (fun z => some (V.int z)) ho,trivial⟩,⟨get_up (get_up g1),get_up (get_up g2),get_up get_new⟩,get_new,?_⟩
       rw [Zf,List.length_cons,List.length_nil]
       omega
     · have hi:=rng_at hy
       apply eq_to hJ.2.2
       apply eq_to hJ.1
       apply eq_to hi.2
       have hi:=hi.1
       refine vE_ok TO rfl 40 _ _ _ <| abcd_at (by omega) <| Bin.cat (szo (by show 1 + 19 ≤ _; decide)) ⟨?_,hi,rfl⟩
       rw [wA_txt,List.range_succ,Zfc]; exact rows_app _ _ _ rfl
   · have hi:=rng_at hy
     apply eq_to hJ.2.2
     apply eq_to hJ.1
     apply eq_to hi.2
     have hi:=hi.1
     refine vE_ok TO rfl 40 _ _ _ <| abcd_at (by omega) ⟨?_,hi,rfl⟩
     rw [List.range_succ,Zfc,Zfc]; rfl
 apply Has.on hρ
 refine ExOk.cutAt 1 (J07lb xs) (vB_ok TO rfl 60 _ _ _ _ ?_) fun ρ₂ σ₂ hJ2 => ?_
 · have plain:(m = 0 ∨ 6 ≤ o) → ∀ {ρ:Loc},Has ρ [("_law_script",.scr xs),("_law_made",.ref lm),("_law_many",.int m),("_law_rules",.ref lr),("_law_rows",.ref lo),("_law_due",.int 0),("_law_odd",.int o)] → J07lb xs ρ σ₁:=fun h {ρ} k => ⟨c,a,b,m,o,0,lm,lw,lr,lo,_,S,hm,ho,k,H,g,n,.plain h⟩
   refine Br.mk (fun h0 => Br.mk (fun h6 => ?_) fun h6 => plain (.inr (by have:=of_decide_eq_false h6; omega)) ⟨rfl,rfl,rfl,rfl,rfl,rfl,rfl,trivial⟩) fun h0 => plain (.inl (by have:=of_decide_eq_false h0; omega)) ⟨rfl,rfl,rfl,rfl,rfl,rfl,rfl,trivial⟩
   have h0:0 < m:=by have:=Zgb h0; omega
   have h6:o < 6:=by have:=Zgb h6; omega
   have rk:=fmod_range (a:=(xs.getD (5:Int).toNat 0).fdiv 12) (b:=(m:Int)) (by omega)
   have r6:=fmod_range (a:=xs.getD (9:Int).toNat 0) (b:=6) (by decide)
   refine (Int.eq_ofNat_of_zero_le rk.1).elim fun k hk => ?_
   have hkm:k < m:=by omega
   have min4:∀ {K:QE} {τ:Hp},K (.int (min o 4:Nat)) τ → Cal (T07 w s) 689 (fun zz zz => False) (.bi "min") [.int o,.int 4] K τ:=fun {K τ} q => ⟨CallOk.min2 (by
     rw [show (if (4:Int) < (o:Int) then (4:Int) else (o:Int)) = ((min o 4:Nat):Int) by split <;> omega]; exact q)⟩
   have oddr:∀ {kk:Int} {st:Str} {K:QE} {τ:Hp},kk = k → st ∈ strangers → (∀ σ',Up τ σ' → K (.str (jn (oddW (abN k) st (min o 4)))) σ') → Cal (T07 w s) 689 (fun zz zz => False) (.glob "_law_odd_row") [.int (min o 4:Nat),.int kk,.str st] K τ:=fun {kk st K τ} e hs q => by
     subst e; exact ⟨fn_odd_row (d:=688) TO (by omega) (by omega) hs q⟩
   refine cell rfl <| gd.of (bne_iff_ne.mpr (by omega)) <| cell rfl <| item_str (bs:=strangers) get_new r6.1 r6.2 (by decide) fun i st hst e => min4 <| oddr hk (Zn hst) fun σ' hu => ?_
   have hu2:Up σ₁ σ':=Up.t Up.r.p hu
   have hlo:=hu2.get g
   have hll:(rowsV ((List.range m).map wA)).length = m:=by rw [Zc,Zc,Zc,List.length_range]
   refine SetItemOk.ls lo k _ rfl (congrArg V.int hk) hlo (by rw [hll]; exact hkm) (by rw [hll]; omega) ?_
   refine item_any (vs:=[3,4,2,2,2,2].map fun (n:Nat) => V.int n) get_new (Zvc o) (show (o:Int) < 6 by omega) (by decide) fun i v hv e => ?_
   have ei:i = o:=by omega
   subst ei
   rw [Zdb,Zpb] at hv
   refine hv.elim fun dd hd => ?_
   apply eq_to hd.2.symm
   have edd:dd = [3,4,2,2,2,2].getD i 0:=by rw [List.getD_eq_getElem?_getD,hd.1]; rfl
   refine ⟨c,a,b,m,i,dd,lm,lw,lr,lo,((List.range m).map wA).set k (oddW (abN k) st (min i 4)),S,hm,ho,⟨rfl,rfl,rfl,rfl,rfl,rfl,rfl,trivial⟩,((H.up hu2).set n).up Up.r.p,get_up ?_,n,edd ▸ .odd k st hkm h6 (Zn hst)⟩
   rw [Zw (get_lt hlo),rowsV_set]
 clear hρ H g n ho hm S hJ
 refine hJ2.rec fun c a b m o d lm lw lr lo wss S hm ho hρ H g n hO => ?_
 apply Has.on hρ
 refine ExOk.cutAt 1 (J07lc xs) (vB_ok TO rfl 60 _ _ _ _ ?_) fun ρ₃ σ₃ hJ3 => ?_
 · have stay:¬ (1 < m ∧ o = 5) → ∀ {ρ:Loc},Has ρ [("_law_script",.scr xs),("_law_made",.ref lm),("_law_many",.int m),("_law_rules",.ref lr),("_law_rows",.ref lo),("_law_due",.int d)] → J07lc xs ρ σ₂:=fun h {ρ} k => (hO.ok hm h).elim fun A q => ⟨c,a,b,m,d,lm,lw,lr,lo,wss,A,S,hm,k,H,g,q.1,q.2.1,q.2.2⟩
   refine Br.mk (fun h1 => Br.mk (fun h5 => ?_) fun h5 => stay (fun k => Zmc.mp h5 (congrArg Int.ofNat k.2)) ⟨rfl,rfl,rfl,rfl,rfl,rfl,trivial⟩) fun h1 => stay (fun k => of_decide_eq_false h1 (Zfb.mpr k.1)) ⟨rfl,rfl,rfl,rfl,rfl,rfl,trivial⟩
   have h1:1 < m:=Zfb.mp (Zgb h1)
   have h5:o = 5:=Int.ofNat_inj.mp (eq_of_beq h5)
   refine (hO.twice hm h1 h5).elim fun x q => and3 q fun q1 q2 q3 => q3.elim fun A q => ?_
   have hll:(rowsV wss).length = m:=by rw [Zc,Zc]; exact q2
   refine Itm.mk (item_at g (j:=1) rfl (by rw [Zdb,Zdb,q1]; rfl) (by rw [hll]; omega) ?_)
   refine SetItemOk.ls lo 0 _ rfl rfl g (by rw [hll]; omega) (by rw [hll]; omega) ?_
   exact ⟨c,a,b,m,d,lm,lw,lr,lo,wss.set 0 x,A,S,hm,⟨rfl,rfl,rfl,rfl,rfl,rfl,trivial⟩,H.set n,by rw [Zw (get_lt g),rowsV_set],q.1,q.2.1,q.2.2⟩
 clear hρ H g n ho hm S hJ2 hO
 refine hJ3.rec fun c a b m d lm lw lr lo wss A S hm hρ H g hA h2 hd => ?_
 apply Has.on hρ
 refine ExOk.cutAt 4 (J07ld xs) (vB_ok TO rfl 60 _ _ _ _ ?_) fun ρ₄ σ₄ hJ4 => ?_
 · have rm:=fmod_range (a:=xs.getD (6:Int).toNat 0) (b:=(m:Int) + 1) (by omega)
   have rK:=fmod_range (a:=xs.getD (7:Int).toNat 0) (b:=44) (by decide)
   refine (Int.eq_ofNat_of_zero_le rm.1).elim fun i hi => (Int.eq_ofNat_of_zero_le rK.1).elim fun K hK => H.rec fun g1 g2 g3 => ?_
   have B:=brk_of S
   have ok:=wZ_ok (nw_sign S.hc) (nw_sign S.ha) (nw_sign S.hb)
   have bad:∀ {ws':List Str} {l':Nat} {σ':Hp},(K < 22 ∨ (29 < K ∧ K < 35)) → Up σ₃ σ' → BadW ws' → σ'[l']? = some (.list (ws'.map V.str)) → ∀ {ρ:Loc},Has ρ [("_law_script",.scr xs),("_law_made",.ref lm),("_law_rules",.ref lr),("_law_rows",.ref lo),("_law_due",.int d),("_law_at",.int i),("_law_kind",.int K),("_law_words",.ref l')] → J07ld xs ρ σ':=fun {ws' l' σ'} hk hu hb hg {ρ} hρ => hb.bad.elim fun us q =>
     ⟨c,a,b,m,d,i,K,lm,l',lw,lr,lo,wss,A,ws',us,S,hm,by omega,by omega,hρ,hu.get g1,hu.get g3,hu.get g,hg,hA,h2,hd,hb.len,hb.wd,q.1,.bad hk q.2.2 q.2.1⟩
   refine cell rfl <| Itm.mk (item_at g1 (j:=0) rfl rfl (by show 2 < 2 ^ 62; decide) <| cell rfl <| Br.mk (fun h22 => cell rfl <| Cal.mk <| fn_broken (d:=688) TO g2 rK.1 (Zgb h22) B fun ws' l' σ' hu hb hg => bad (.inl ?_) hu hb hg ⟨rfl,rfl,rfl,rfl,rfl,congrArg (fun z => some (V.int z)) hi,congrArg (fun z => some (V.int z)) hK,rfl,trivial⟩) fun h22 => Br.mk (fun h29 => Br.mk (fun h35 => cell rfl <| Cal.mk <| fn_signed (d:=688) TO g2 B fun ws' l' σ' hu hb hg => bad (.inr ?_) hu hb hg ⟨rfl,rfl,rfl,rfl,rfl,congrArg (fun z => some (V.int z)) hi,congrArg (fun z => some (V.int z)) hK,rfl,trivial⟩) fun h35 => ?_) fun h29 => ?_)
   · have:=Zgb h22; omega
   · have t1:=Zgb h29; have t2:=Zgb h35; omega
   · have t1:=of_decide_eq_false h22; have t2:=of_decide_eq_false h35
     exact ⟨c,a,b,m,d,i,K,lm,lw,lw,lr,lo,wss,A,_,_,S,hm,by omega,by omega,⟨rfl,rfl,rfl,rfl,rfl,congrArg (fun z => some (V.int z)) hi,congrArg (fun z => some (V.int z)) hK,rfl,trivial⟩,g1,g3,g,g2,hA,h2,hd,ok.len,fun x hx => (ok.all x hx).len,rfl,.good (by omega) rfl⟩
   · have t1:=of_decide_eq_false h22; have t2:=of_decide_eq_false h29
     exact ⟨c,a,b,m,d,i,K,lm,lw,lw,lr,lo,wss,A,_,_,S,hm,by omega,by omega,⟨rfl,rfl,rfl,rfl,rfl,congrArg (fun z => some (V.int z)) hi,congrArg (fun z => some (V.int z)) hK,rfl,trivial⟩,g1,g3,g,g2,hA,h2,hd,ok.len,fun x hx => (ok.all x hx).len,rfl,.good (by omega) rfl⟩
 clear hρ H g hm S hJ3 hA h2 hd
 refine hJ4.rec fun c a b m d i K lm lw l0 lr lo wss A ws us S hm hi hK hρ gm gr g gw hA h2 hd hl hl2 e hW => ?_
 apply Has.on hρ
 refine ExOk.cutAt 3 (J07le fun _ => false) (vB_ok TO rfl 60 _ _ _ _ ?_) fun ρ₅ σ₅ hJ5 => ?_
 · have hwl:wss.length = m:=h2.length.symm.trans hA.len
   have hz:(rowsV wss).length = m:=by rw [Zc,Zc]; exact hwl
   have hy:((base m).map ruleV).length = m:=by rw [Zc,Zc,List.length_range]
   have sl:∀ {us:List V},us.length = m → us.length ≤ sizeLine:=fun h => szo (by omega)
   have st:∀ {us:List V} {v:V},us.length = m → (us.take i).length + [v].length ≤ sizeLine:=fun {us v} h => szo (by rw [List.length_take]; show _ + 1 ≤ _; omega)
   have sd:∀ {us:List V} {v:V},us.length = m → (us.take i ++ [v]).length + (us.drop i).length ≤ sizeLine:=fun {us v} h => szo (by rw [Zf,List.length_take,List.length_drop]; show _ + 1 + _ ≤ _; omega)
   have hwt:(ws.map (·.length)).sum + ws.length ≤ 1048576:=by
     have s:=sum_le (B:=100) (ls:=ws.map (·.length)) fun l hl => by
       obtain ⟨x,hx,rfl⟩:=Zsb.mp hl
       exact hl2 x hx
     rw [Zc] at s
     have:ws.length * 100 ≤ 100 * 100:=Zvb _ hl
     omega
   refine Evx.mk <| EvOk.sliceTo <| vE_ok TO rfl 40 _ _ _ <| vE_ok TO rfl 40 _ _ _ <| Slc.mk lo _ i rfl rfl g (sl hz) <| MethOk.join <| Cal.mk <| CallOk.join (get_up gw) hwt (by decide) <| Bin.lists (get_up get_new) get_new (st hz) <| Evx.mk <| EvOk.sliceFrom <| vE_ok TO rfl 40 _ _ _ <| vE_ok TO rfl 40 _ _ _ <| Slc.mk lo _ i rfl rfl (get_up (get_up (get_up g))) (sl hz) <| Bin.lists (get_up get_new) get_new (sd hz) ?_
   rw [rows_ins wss us (Txt.join (Str.ofString " ") ws) i e]
   refine Evx.mk <| EvOk.sliceTo <| vE_ok TO rfl 40 _ _ _ <| vE_ok TO rfl 40 _ _ _ <| Slc.mk lr _ i rfl rfl (get_up (get_up (get_up (get_up (get_up gr))))) (sl hy) <| Itm.mk (item_at (get_up (get_up (get_up (get_up (get_up (get_up gm)))))) (j:=1) rfl rfl (by show 2 < 2 ^ 62; decide) <| Bin.lists (get_up get_new) get_new (st hy) <| Evx.mk <| EvOk.sliceFrom <| vE_ok TO rfl 40 _ _ _ <| vE_ok TO rfl 40 _ _ _ <| Slc.mk lr _ i rfl rfl (get_up (get_up (get_up (get_up (get_up (get_up (get_up (get_up gr)))))))) (sl hy) <| Bin.lists (get_up get_new) get_new (sd hy) ?_)
   refine cell rfl <| Cal.mk <| fn_more_rows (d:=688) (wss:=ins wss i us) TO (get_up (get_up (get_up (get_up (get_up get_new))))) (by rw [ins_len]; omega) fun wssF l' σ' hu hM hg => (due_of S hm hi hA h2 hW hM).elim fun rs q => ?_
   exact ⟨c,a,b,m,d,i,K,_,l',wssF,A,rs,hm,hK,⟨rfl,rfl,rfl,rfl,trivial⟩,hu.get (get_new.trans (by rw [show allR (base m) i c a b false = ins (base m) i (zR c a b) from Zlc _,ins_map])),hg,hd,q.1,q.2⟩
 clear hρ gm gr g gw hA h2 hd hl hl2 e hW hm S hJ4
 refine hJ5.rec fun c a b m d i K lr lo wss A rs hm hK hρ gr g hd hD h0 => ?_
 apply Has.on hρ
 refine ExOk.cutAt 1 (J07le fun K => K == 29) (vB_ok TO rfl 60 _ _ _ _ ?_) fun ρ₆ σ₆ hJ6 => ?_
 · refine Br.mk (fun h29 => ?_) fun h29 => ?_
   · have h29:K = 29:=Int.ofNat_inj.mp (eq_of_beq h29)
     have hne:=rows_rules g gr allR_z
     refine MethOk.append gr <| Cal.mk <| fn_deep (d:=688) (n:=11) TO (by decide) <| Cal.mk <| CallOk.append gr (by rw [Zc]; exact szo (Za allR_len.2 (by rw [Zc,List.length_range]; omega))) ?_
     refine ⟨c,a,b,m,d,i,K,lr,lo,wss,A,rs,hm,hK,⟨rfl,rfl,rfl,rfl,trivial⟩,?_,by rw [Zi hne]; exact g,hd,hD,h0⟩
     rw [Zw (get_lt gr),show (K == 29) = true by rw [h29]; rfl]
     exact congrArg (fun l => some (MObj.list l)) allR_deep
   · have h29:(K == 29) = false:=Zmc.mpr fun e => Zmc.mp h29 (congrArg Int.ofNat e)
     exact ⟨c,a,b,m,d,i,K,lr,lo,wss,A,rs,hm,hK,⟨rfl,rfl,rfl,rfl,trivial⟩,by rw [h29]; exact gr,g,hd,hD,h0⟩
 clear hρ gr g hd hD h0 hm hK hJ5
 refine hJ6.rec fun c a b m d i K lr lo wss A rs hm hK hρ gr g hd hD h0 => ?_
 apply Has.on hρ
 refine ExOk.cutAt 1 J07lf (vB_ok TO rfl 60 _ _ _ _ ?_) fun ρ₇ σ₇ hJ7 => ?_
 · have fin:∀ {q:Nat},dueK K d = q → (q = 0 → d = 0) → ∀ {ρ:Loc},Has ρ [("_law_rules",.ref lr),("_law_rows",.ref lo),("_law_due",.int q)] → J07lf ρ σ₆:=fun {q} e e0 {ρ} hρ => ⟨q,lr,lo,wss,rs,hρ,g,fun k => by
     subst e
     rw [h0 k,hd (e0 k)]; exact gr,e ▸ hD⟩
   refine Br.mk (fun h25 => ?_) fun h25 => Br.mk (fun h29 => Br.mk (fun h35 => ?_) fun h35 => Br.mk (fun h28 => ?_) fun h28 => ?_) fun h29 => Br.mk (fun h28 => ?_) fun h28 => ?_
   · have t:=Zgb h25
     exact fin (if_pos (by omega)) (fun k => by cases k) ⟨rfl,rfl,rfl,trivial⟩
   · have t:=Zgb h29; have t2:=Zgb h35
     exact fin (if_pos (by omega)) (fun k => by cases k) ⟨rfl,rfl,rfl,trivial⟩
   · have t:=Zgb h29; have t2:=Zgb h28; omega
   · have t:=of_decide_eq_false h25; have t2:=of_decide_eq_false h35; have t3:=of_decide_eq_false h28
     exact fin (by unfold dueK; rw [if_neg (by omega),if_neg (by omega)]) id ⟨rfl,rfl,rfl,trivial⟩
   · have t:=of_decide_eq_false h25; have t2:=of_decide_eq_false h29; have t3:=Zgb h28
     exact fin (by unfold dueK; rw [if_neg (by omega),if_pos (by omega)]) (fun k => by cases k) ⟨rfl,rfl,rfl,trivial⟩
   · have t:=of_decide_eq_false h25; have t2:=of_decide_eq_false h29; have t3:=of_decide_eq_false h28
     exact fin (by unfold dueK; rw [if_neg (by omega),if_neg (by omega)]) id ⟨rfl,rfl,rfl,trivial⟩
 clear hρ gr g hd hD h0 hm hK hJ6
 refine hJ7.rec fun c lr lo wss rs hρ g gr hD => ?_
 apply Has.on hρ
 refine hD.rec fun h1 h2 h3 h4 => ?_
 refine vB_ok TO rfl 60 _ _ _ _ <| MethOk.join <| Cal.mk <| CallOk.join g (Za (rows_len h4 h2) (by decide)) (by decide) <| Cal.mk <| fn_refusal (d:=659) TO h3 h4 h2 h1 fun v σ' hF => ?_
 cases hF with
 | ok junk l k e hv hc g1 g2 =>
   apply eq_to hv
   have hgr:GoodRules rs:=by
     subst hc
     cases h1 with
     | rules z1 ho z2 => cases ho with
       | good h k => exact h
   have hrl:σ'[lr]? = some (.list (rs.map ruleV)):=by rw [e]; exact get_up (gr hc)
   have hok:∀ r ∈ rs,sOk r.1 ∧ r.2.ok sOk:=fun r hr => ⟨sOk_name (hgr.all r hr).name,hgr.ok hr⟩
   have dp:∀ {σ:Hp} {n:Nat},σ[n]? = some (.list (rs.map ruleV)) → Deep σ (.list (rs.map ruleD)) (.ref n):=fun h => .list h (rules_deep _ rs hok)
   refine Itm.mk (item_at g1 (j:=0) rfl rfl (by show 2 < 2 ^ 62; decide) <| Br.f (by rw [hc]; rfl) <| Br.f (by rw [hc]; rfl) <| Br.f (by rw [hc]; rfl) <| Itm.mk (item_at g1 (j:=1) rfl rfl (by show 2 < 2 ^ 62; decide) <| Cmp.eqR (dp g2) (dp hrl) ?_ (PySem.SeqAt.eqv_refl _ (dp g2).lay) rfl))
   unfold PyData.depth
   exact Za (Zwb (rules_depth rs fun r hr => (hgr.all r hr).deep)) (by decide)
 | no junk l e hv hc g1 =>
   apply eq_to hv
   have hp:decide ((0:Int) < (c:Int)) = true:=Zmb (by omega)
   exact Itm.mk (item_at g1 (j:=0) rfl rfl (by show 2 < 2 ^ 62; decide) <| Br.f (by rw [bne_eq_false_iff_eq]) <| Br.t hp <| Itm.mk (item_at g1 (j:=1) rfl rfl (by show 2 < 2 ^ 62; decide) <| Br.t hp (congrArg V.bool hp)))
end
end Mine
open PySem PySem.W PyProof.Rows in
set_option tactic.hygienic true in
theorem PySem.Challenge.cw_uf010010_07_holds : PySem.Challenge.rw_uf010010_07.Holds := by
 refine Mine.hd07 ?_
 intro w s₀ s₁ mg mb G Y fa o pm cd doc dV kV ho hd hcd hD hmg hg args vals as hpre hlay hrd hwl hlo
 have KX:=kIn_of Y
 refine Ground.open G ?_
 intro T B D TE TW
 have TR:=topRead_of T
 clear hd hcd hD
 wrow_args hpre hlay hrd hwl hlo
 rename_i xs _ _ _ _ _ _ _ la vs _ hL _ _ _ hI _ hn _
 refine @Exists.elim _ _ _ (Mine.ints_pairs hI) fun l hh => @Exists.elim _ _ _ hL fun ol hq => @Exists.elim _ _ _ hq.2.2 fun n h3 => ?_
 exact Mine.finish (fun _ => rfl) (by wrow_post) (Mine.start TR KX hg ⟨56,_,rfl,by decide⟩ hmg (by rfl) hq.1 hq.2.1 h3 (by simpa using hh.1) hh.2 (Mine.law07 (Mine.topOk_of TR KX) xs (by omega)))
