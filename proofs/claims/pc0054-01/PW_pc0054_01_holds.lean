import PyProof.Rows.All
import Wide.All
import OpenK.AllK
import Wide.FinOn
import Lean
import PySem.Challenge.RW_pc0054_01
open PySem PySem.W PyProof.Rows PySem.Calls
set_option Elab.async false
set_option maxRecDepth 100000
set_option maxHeartbeats 40000000
set_option linter.unusedVariables false
local macro_rules | `(tactic| walk_at $s:str) => do `(tactic| k_extra $(Lean.Syntax.mkStrLit ("my " ++ s.getString)))
local macro_rules | `(tactic| k_lt $_h:ident) => `(tactic| k_extra "my k_lt")
local macro_rules | `(tactic| k_ne) => `(tactic| k_extra "my k_ne")
local macro_rules | `(tactic| lcg_src) => `(tactic| k_extra "my lcg_src")
local macro_rules | `(tactic| lcg_off) => `(tactic| k_extra "my lcg_off")
local macro_rules | `(tactic| lcg_sub) => `(tactic| k_extra "my lcg_sub")
local macro_rules | `(tactic| k_all) => `(tactic| k_extra "my k_all")
local macro_rules | `(tactic| k_inst) => `(tactic| k_extra "my k_inst")
namespace Mine
section
local macro_rules | `(tactic| o_head $_) => `(tactic| exact (show ∀ P : Prop, P from by assumption) _)
theorem hd (bad : ∀ P : Prop, P) : PySem.Challenge.rw_pc0054_01.row.Holds := by k_head
end
def hd.view_1 : Program := PySem.W.view PySem.Challenge.rw_pc0054_01.row.prog [0, 2, 3, 4, 5, 6, 7, 8, 9, 10, 11, 12, 13, 14, 15, 16, 17, 18, 19, 20, 21, 22, 23, 25, 26, 27, 28, 29, 30, 31, 32, 33, 34, 35, 36, 38, 39, 41, 42, 43, 45, 46, 47, 48, 49, 50, 51, 52, 53]
def law_holds.tw8441880690091102137 : Unit := ()
def law_holds.tw1099259369241382048 : Unit := ()
def law_holds.tw11463670642173560981 : Unit := ()
def law_holds.tw11065903779536590938 : Unit := ()
def law_holds.tw9423440377400516374 : Unit := ()
def law_holds.tw1341266762083198811 : Unit := ()
def law_holds.tw11803358882649189518 : Unit := ()
def law_holds.tw15191720212996534143 : Unit := ()
def law_holds.tw18326849912455186884 : Unit := ()
def law_holds.tw881140697980615281 : Unit := ()
def law_holds.tw17899081815984039989 : Unit := ()
def law_holds.tw8634839017697508684 : Unit := ()
def law_holds.tw14497384708736915567 : Unit := ()
def law_holds.tw15732109348078318572 : Unit := ()
def law_holds.tw14051398506283589457 : Unit := ()
def law_holds.tw16947615914383616782 : Unit := ()
def law_holds.tw3046938939346580660 : Unit := ()
def law_holds.tw3850375180904979519 : Unit := ()
def law_holds.tw15472126771306010800 : Unit := ()
def law_holds.tw11625900857008200698 : Unit := ()
def law_holds.tw2139172203440323022 : Unit := ()
def law_holds.tw7120836010843673076 : Unit := ()
def law_holds.tw14498155544194170393 : Unit := ()
def law_holds.tw15333956030411951890 : Unit := ()
def law_holds.tw14312374711172944835 : Unit := ()
def law_holds.tw13154458805202713791 : Unit := ()
def law_holds.tw14774650325386425613 : Unit := ()
def law_holds.tw14892801356780361778 : Unit := ()
def law_holds.tw1819975233463548508 : Unit := ()
def law_holds.tw4515466672771955728 : Unit := ()
def law_holds.tw6869992995446874880 : Unit := ()
def law_holds.tw15274831704391544125 : Unit := ()
def law_holds.tw5212653520564569363 : Unit := ()
def law_holds.tw1622690429015379626 : Unit := ()
def law_holds.tw10983241140555628109 : Unit := ()
def law_holds.tw5950301352895977177 : Unit := ()
def law_holds.tw10264638600885302300 : Unit := ()
def law_holds.tw15448297888555860652 : Unit := ()
def law_holds.tw8570087061310353148 : Unit := ()
def law_holds.tw10108825076125807744 : Unit := ()
def law_holds.tw8285764192309689115 : Unit := ()
def law_holds.tw2143268655074302082 : Unit := ()
def law_holds.tw1053317679998426468 : Unit := ()
def law_holds.tw5914491427308094424 : Unit := ()
def law_holds.tw2856731137302751260 : Unit := ()
def law_holds.tw10958410103948607464 : Unit := ()
def law_holds.tw17028624522117568015 : Unit := ()
def law_holds.tw12835091436910803158 : Unit := ()
def law_holds.tw13250372474279835810 : Unit := ()
def law_holds.tw16805829885119392726 : Unit := ()
def law_holds.tw8785698371604719795 : Unit := ()
def law_holds.tw5731563423909890137 : Unit := ()
def law_holds.tw8312341600987523519 : Unit := ()
def law_holds.tw13028658284911697911 : Unit := ()
def law_holds.tw14789792462180790578 : Unit := ()
def law_holds.tw6119779438658665478 : Unit := ()
def law_holds.tw5640673133297012132 : Unit := ()
def law_holds.tw3974387499553966400 : Unit := ()
def law_holds.tw14385925486924208373 : Unit := ()
def law_holds.tw12419048959643632839 : Unit := ()
def law_holds.tw18340598423539479173 : Unit := ()
def law_holds.tw3186734533307500241 : Unit := ()
def law_holds.tw8040771413219435098 : Unit := ()
def law_holds.tw2322801206320994539 : Unit := ()
def law_holds.tw16978406815995349258 : Unit := ()
def law_holds.tw16009327648451700120 : Unit := ()
def law_holds.tw17499823404086765753 : Unit := ()
def law_holds.tw10486713781251687710 : Unit := ()
def law_holds.tw6265907326580845545 : Unit := ()
def law_holds.tw12977093529070104392 : Unit := ()
def law_holds.tw10465528174321978529 : Unit := ()
def law_holds.tw1767730674963353768 : Unit := ()
def law_holds.tw4889031023730116350 : Unit := ()
def law_holds.tw5455921660152230842 : Unit := ()
def law_holds.tw1989176631692091739 : Unit := ()
def law_holds.tw12831907817818079685 : Unit := ()
def law_holds.tw15544829507116839252 : Unit := ()
def law_holds.tw6667284449218939238 : Unit := ()
def law_holds.tw850272041215511910 : Unit := ()
def law_holds.tw2695550118857162214 : Unit := ()
def law_holds.tw1721165116777925873 : Unit := ()
def law_holds.tw6896717019858035522 : Unit := ()
def law_holds.tw6881874429007886204 : Unit := ()
def law_holds.tw522284214082817817 : Unit := ()
def law_holds.tw4439653461905209652 : Unit := ()
def law_holds.tw13780023080261437657 : Unit := ()
def law_holds.tw2124134355350193313 : Unit := ()
def law_holds.tw11946022803392826334 : Unit := ()
def law_holds.tw1928719863018725356 : Unit := ()
def law_holds.tw3682559726232862161 : Unit := ()
def law_holds.tw13766487248619392586 : Unit := ()
def law_holds.tw12889056044993165476 : Unit := ()
def law_holds.tw3158129796062787159 : Unit := ()
def law_holds.tw10350734228115807855 : Unit := ()
def law_holds.tw9069877914133315304 : Unit := ()
def law_holds.tw7497986649931050792 : Unit := ()
def law_holds.tw2175392478943181252 : Unit := ()
def law_holds.tw8191475993861738794 : Unit := ()
def law_holds.tw1377309892636839040 : Unit := ()
def law_holds.tw18261290160731607033 : Unit := ()
def law_holds.tw2006301483956418059 : Unit := ()
def law_holds.tw16098122237329998606 : Unit := ()
def law_holds.tw14983226153234331074 : Unit := ()
def law_holds.tw8330938851228082562 : Unit := ()
def law_holds.tw7545375339591397653 : Unit := ()
def law_holds.tw10566571302883470556 : Unit := ()
def law_holds.tw9184033795430018204 : Unit := ()
def law_holds.tw9529696498207198238 : Unit := ()
def law_holds.tw4370086069003782432 : Unit := ()
def law_holds.tw1778412455037948541 : Unit := ()
def law_holds.tw1414043511812021011 : Unit := ()
def law_holds.tw3494445600050047599 : Unit := ()
def law_holds.tw18254337876149969668 : Unit := ()
def law_holds.tw11133525997344109421 : Unit := ()
def law_holds.tw6723812968561706957 : Unit := ()
def law_holds.tw7408472829698581751 : Unit := ()
def law_holds.tw16461882675039125421 : Unit := ()
def law_holds.tw6727219029552735585 : Unit := ()
def law_holds.tw10024239376800412576 : Unit := ()
def law_holds.tw5062152199769849712 : Unit := ()
def law_holds.tw7304591109411159013 : Unit := ()
def law_holds.tw12687621791434340054 : Unit := ()
def law_holds.tw12115171985352901274 : Unit := ()
def law_holds.tw15883345262158282383 : Unit := ()
def law_holds.tw2078624436916829710 : Unit := ()
def law_holds.tw10516828495840041881 : Unit := ()
def law_holds.tw11846676642670509255 : Unit := ()
def law_holds.tw13280740594461564331 : Unit := ()
def law_holds.tw12780804625047726367 : Unit := ()
def law_holds.tw2557128651999224082 : Unit := ()
def law_holds.tw15617896438947887921 : Unit := ()
def law_holds.tw3438298445031660282 : Unit := ()
def law_holds.tw498061464947678834 : Unit := ()
def law_holds.tw576407869801174206 : Unit := ()
def law_holds.tw10368410895845634921 : Unit := ()
def law_holds.tw9682718004065560343 : Unit := ()
def law_holds.tw18388893480867403737 : Unit := ()
def law_holds.tw2558664710541493025 : Unit := ()
def law_holds.tw17274716441693411508 : Unit := ()
def law_holds.tw10726639523019406850 : Unit := ()
def law_holds.tw8720880381367431298 : Unit := ()
def law_holds.tw3850404396616230974 : Unit := ()
def law_holds.tw4581845663705801772 : Unit := ()
def law_holds.tw9992725586745946429 : Unit := ()
def law_holds.tw2269544990204364226 : Unit := ()
def law_holds.tw2503670479209048990 : Unit := ()
def law_holds.tw3956099054510807996 : Unit := ()
def law_holds.tw18135211599370774712 : Unit := ()
def law_holds.tw519298541982818421 : Unit := ()
def law_holds.tw15014403891855920072 : Unit := ()
def law_holds.tw784011647948385275 : Unit := ()
def law_holds.tw7769649832755249146 : Unit := ()
def law_holds.tw302768837105346163 : Unit := ()
def law_holds.tw9255152265573255198 : Unit := ()
def law_holds.tw18234560199702728603 : Unit := ()
def law_holds.tw12134408205421670959 : Unit := ()
def law_holds.tw123295346585929383 : Unit := ()
def law_holds.tw8984712037535005518 : Unit := ()
def law_holds.tw15806970514647361693 : Unit := ()
def law_holds.tw13709617746848070560 : Unit := ()
def law_holds.tw1670043908289496885 : Unit := ()
def law_holds.tw2387193687640843687 : Unit := ()
def law_holds.tw8909828626151137519 : Unit := ()
def law_holds.tw7696488724909661519 : Unit := ()
def law_holds.tw5769158387606399586 : Unit := ()
def law_holds.tw41732636909640268 : Unit := ()
def law_holds.tw5112083995522966620 : Unit := ()
def law_holds.tw10362271348294423435 : Unit := ()
def law_holds.tw5907203647135998699 : Unit := ()
def law_holds.tw10028117763298573888 : Unit := ()
def law_holds.tw10371022188087798493 : Unit := ()
def law_holds.tw1905533677188600702 : Unit := ()
def law_holds.tw1315470402360947651 : Unit := ()
def law_holds.tw4995542688137877417 : Unit := ()
def law_holds.tw6861490101519172755 : Unit := ()
def law_holds.tw1973129929022764952 : Unit := ()
def law_holds.tw9168033884955339765 : Unit := ()
def law_holds.tw8553002610548859549 : Unit := ()
def law_holds.tw11881114122080957857 : Unit := ()
def law_holds.tw16873799427995575018 : Unit := ()
def law_holds.tw3756308257209627903 : Unit := ()
def law_holds.tw11100686419730198450 : Unit := ()
def law_holds.tw14822640431511872941 : Unit := ()
def law_holds.tw8970147916757833333 : Unit := ()
def law_holds.tw6776455111828631412 : Unit := ()
def law_holds.tw15527639110640922598 : Unit := ()
def law_holds.tw7407239408455114201 : Unit := ()
def law_holds.tw11182679623053108816 : Unit := ()
def law_holds.tw12626328134170644701 : Unit := ()
def law_holds.tw7658626208958061939 : Unit := ()
def law_holds.tw981846192996546977 : Unit := ()
def law_holds.tw11544315989524547432 : Unit := ()
def law_holds.tw1035469204868569938 : Unit := ()
def law_holds.tw11888195129093234071 : Unit := ()
def law_holds.tw10609929442622069884 : Unit := ()
def law_holds.tw1784627337472249616 : Unit := ()
def law_holds.tw5858263632927829637 : Unit := ()
def law_holds.tw14988988175077273356 : Unit := ()
def law_holds.tw5117662029339320154 : Unit := ()
def law_holds.tw17180001009569633970 : Unit := ()
def law_holds.tw2578278018795888234 : Unit := ()
def law_holds.tw3049941959672503198 : Unit := ()
def law_holds.tw5506821171919863439 : Unit := ()
def law_holds.tw13402424001964919149 : Unit := ()
def law_holds.tw5274592661964301406 : Unit := ()
def law_holds.tw4524032621918665186 : Unit := ()
def law_holds.tw8386679336120195906 : Unit := ()
def law_holds.tw17793716333272398654 : Unit := ()
def law_holds.tw6159533029260741167 : Unit := ()
def law_holds.tw15352839923633478061 : Unit := ()
def law_holds.tw10876394233666535175 : Unit := ()
def law_holds.tw11764581739189218997 : Unit := ()
def law_holds.tw3390839446522356110 : Unit := ()
def law_holds.tw13915618644594484446 : Unit := ()
def law_holds.tw11966672015165255308 : Unit := ()
def law_holds.tw2907507879108658156 : Unit := ()
def law_holds.tw14326059299131336239 : Unit := ()
def law_holds.tw6911747868599837429 : Unit := ()
def law_holds.tw6860709855171689206 : Unit := ()
def law_holds.tw5389484754426515990 : Unit := ()
def law_holds.tw2075624079617657780 : Unit := ()
def law_holds.tw9207643191828677137 : Unit := ()
def law_holds.tw7566432030715092817 : Unit := ()
def law_holds.tw11126432536435168541 : Unit := ()
def law_holds.tw179590077315354965 : Unit := ()
def law_holds.tw11223184984439025696 : Unit := ()
def law_holds.tw8854015012368427407 : Unit := ()
def law_holds.tw3035144380315620824 : Unit := ()
def law_holds.tw8369274380968253667 : Unit := ()
def law_holds.tw17255088995462705879 : Unit := ()
def law_holds.tw2090888555730037645 : Unit := ()
def law_holds.tw8666519363043736892 : Unit := ()
def law_holds.tw745255978533919091 : Unit := ()
def law_holds.tw6719018230134327050 : Unit := ()
def law_holds.tw10242277825702978295 : Unit := ()
def law_holds.tw13190408463805328480 : Unit := ()
def law_holds.tw3426384778480675251 : Unit := ()
def law_holds.tw3307954989432871184 : Unit := ()
def law_holds.tw8514742172934523775 : Unit := ()
def law_holds.tw14545874151571354728 : Unit := ()
def law_holds.tw16106779387088534511 : Unit := ()
def law_holds.tw13431030151845061361 : Unit := ()
def law_holds.tw3033269912633744064 : Unit := ()
def law_holds.tw6317479115527610633 : Unit := ()
def law_holds.tw13650905803964671038 : Unit := ()
def law_holds.tw602461330855297101 : Unit := ()
def law_holds.tw16470317323979864763 : Unit := ()
def law_holds.tw11426015686315989412 : Unit := ()
def law_holds.tw4614512636035447770 : Unit := ()
def law_holds.tw11677100312832694166 : Unit := ()
def law_holds.tw5920216800500632969 : Unit := ()
def law_holds.tw3896150654470677357 : Unit := ()
def law_holds.tw7019463264422422977 : Unit := ()
def law_holds.tw12622292602297523153 : Unit := ()
def law_holds.tw13397297893571687751 : Unit := ()
def law_holds.tw3366817510852727610 : Unit := ()
def law_holds.tw12149405283708829123 : Unit := ()
def law_holds.tw10442559174759676424 : Unit := ()
def law_holds.tw3005452535816212104 : Unit := ()
def law_holds.tw17253691774821329096 : Unit := ()
def law_holds.tw4593294709026258786 : Unit := ()
def law_holds.tw8417186165934385351 : Unit := ()
def law_holds.tw16760957895259694429 : Unit := ()
def law_holds.tw9779807473162285230 : Unit := ()
def law_holds.tw4916342969005030805 : Unit := ()
def law_holds.tw3882201998751590657 : Unit := ()
def law_holds.tw2618386414584295968 : Unit := ()
def law_holds.tw9552830710289189752 : Unit := ()
def law_holds.tw16099233806120587224 : Unit := ()
def law_holds.tw3850334171643177529 : Unit := ()
def law_holds.tw12889673554181485818 : Unit := ()
def law_holds.tw15908343181463375890 : Unit := ()
def law_holds.tw2102315897755806987 : Unit := ()
def law_holds.tw3253820488102484341 : Unit := ()
def law_holds.tw4818577856007422655 : Unit := ()
def law_holds.tw3742325753681652743 : Unit := ()
def law_holds.tw14828999820898988419 : Unit := ()
def law_holds.tw5364902710198789758 : Unit := ()
def law_holds.tw12456547296908542839 : Unit := ()
def law_holds.tw10093380194815717143 : Unit := ()
def law_holds.tw12223724995276690173 : Unit := ()
def law_holds.tw8790382262760724670 : Unit := ()
def law_holds.tw3756957479349018193 : Unit := ()
def law_holds.tw4992725456586698614 : Unit := ()
def law_holds.tw631266038723830076 : Unit := ()
def law_holds.tw1096898596823417342 : Unit := ()
def law_holds.tw945819066751555708 : Unit := ()
def law_holds.tw3234938669768167354 : Unit := ()
def law_holds.tw3979707639553702691 : Unit := ()
def law_holds.tw724200737284857819 : Unit := ()
def law_holds.tw14596297492920191028 : Unit := ()
def law_holds.tw11098625913536864229 : Unit := ()
def law_holds.tw14354538779393863138 : Unit := ()
def law_holds.tw1335265377702380343 : Unit := ()
def law_holds.tw7221428835167493151 : Unit := ()
def law_holds.tw17865009358878524859 : Unit := ()
def law_holds.tw14377833709258309704 : Unit := ()
def law_holds.tw12342728606916771844 : Unit := ()
def law_holds.tw9288214680346807717 : Unit := ()
def law_holds.tw11037684851510583519 : Unit := ()
def law_holds.tw15694993059591697976 : Unit := ()
def law_holds.tw7495221243884187115 : Unit := ()
def law_holds.tw13882729330811710610 : Unit := ()
def law_holds.tw11347954631545130290 : Unit := ()
def law_holds.tw17237755526102222789 : Unit := ()
def law_holds.tw13301187468288870568 : Unit := ()
def law_holds.tw17993387198741990920 : Unit := ()
def law_holds.tw14991590004735058009 : Unit := ()
def law_holds.tw447027507633508388 : Unit := ()
def law_holds.tw7820799176418779761 : Unit := ()
def law_holds.tw14904137174637212347 : Unit := ()
def law_holds.tw6333624483447246961 : Unit := ()
def law_holds.tw4581164400922460565 : Unit := ()
def law_holds.tw10841264019214440115 : Unit := ()
def law_holds.tw7636989558263936852 : Unit := ()
def law_holds.tw15829985883664642994 : Unit := ()
def law_holds.tw14531881819706719225 : Unit := ()
def law_holds.tw13182730311906835528 : Unit := ()
def law_holds.tw11977050620070087417 : Unit := ()
def law_holds.tw4503035019201841076 : Unit := ()
def law_holds.tw3776956092104397036 : Unit := ()
def law_holds.tw8266603773606604290 : Unit := ()
def law_holds.tw2842810181116790245 : Unit := ()
def law_holds.tw6260460797876433568 : Unit := ()
def law_holds.tw11690447701083486646 : Unit := ()
def law_holds.tw6709271908398517637 : Unit := ()
def law_holds.tw16836969012518115619 : Unit := ()
def law_holds.tw11097158420108258118 : Unit := ()
def law_holds.tw17911580528928914924 : Unit := ()
def law_holds.tw7472407996622490835 : Unit := ()
def law_holds.tw11609493526922420660 : Unit := ()
def law_holds.tw10007947361888340627 : Unit := ()
def law_holds.tw12476058986133298565 : Unit := ()
def law_holds.tw718173064312146323 : Unit := ()
def law_holds.tw8249079356659094474 : Unit := ()
def law_holds.tw16893121556090616931 : Unit := ()
def law_holds.tw11404014056486942332 : Unit := ()
def law_holds.tw11289095316329951393 : Unit := ()
def law_holds.tw7356724547972884604 : Unit := ()
def law_holds.tw15609566024721092083 : Unit := ()
def law_holds.tw18203989763732354715 : Unit := ()
def law_holds.tw10817052189556005596 : Unit := ()
def law_holds.tw13220211186989608806 : Unit := ()
def law_holds.tw16406091861079842607 : Unit := ()
def law_holds.tw18090433342136740992 : Unit := ()
def law_holds.tw7021574618489892101 : Unit := ()
def law_holds.tw4273555757443719353 : Unit := ()
def law_holds.tw6499956759230125245 : Unit := ()
def law_holds.tw16563099163409725306 : Unit := ()
def law_holds.tw2887050238494874643 : Unit := ()
def law_holds.tw12732824653754844360 : Unit := ()
def law_holds.tw14160533322030094474 : Unit := ()
def law_holds.tw8176227357466254829 : Unit := ()
def law_holds.tw1909877003179415225 : Unit := ()
def law_holds.tw455179833554555240 : Unit := ()
def law_holds.tw11470271118054631628 : Unit := ()
def law_holds.tw9875236377963488844 : Unit := ()
def law_holds.tw13800757232730249582 : Unit := ()
def law_holds.tw14925382992726071281 : Unit := ()
def law_holds.tw2043166853727251185 : Unit := ()
def law_holds.tw4072507727158212662 : Unit := ()
def law_holds.tw16614716721108272449 : Unit := ()
def law_holds.tw1832781179975386347 : Unit := ()
def law_holds.tw14289194402921355359 : Unit := ()
def law_holds.tw4781243967656130014 : Unit := ()
def law_holds.tw7089819591129360890 : Unit := ()
def law_holds.tw1791086108937442324 : Unit := ()
def law_holds.tw15154110283740273250 : Unit := ()
def law_holds.tw1186782194237197914 : Unit := ()
def law_holds.tw699380112222796084 : Unit := ()
def law_holds.tw7910590604623066228 : Unit := ()
def law_holds.tw9606376775287448836 : Unit := ()
def law_holds.tw10441050188594101415 : Unit := ()
def law_holds.tw8472228645029834797 : Unit := ()
def law_holds.tw14997073306097389879 : Unit := ()
def law_holds.tw18006792725990754497 : Unit := ()
def law_holds.tw17598101756349436640 : Unit := ()
def law_holds.tw3595789414353437717 : Unit := ()
def law_holds.tw6674817763981286723 : Unit := ()
def law_holds.tw11097350217990362986 : Unit := ()
def law_holds.tw2055734563569237896 : Unit := ()
def law_holds.tw6765152471904792315 : Unit := ()
def law_holds.tw4323815956820902445 : Unit := ()
def law_holds.tw15759456685926392790 : Unit := ()
def law_holds.tw8835965917227929528 : Unit := ()
def law_holds.tw12291295341487003417 : Unit := ()
def law_holds.tw9317688335297629284 : Unit := ()
def law_holds.tw1496123403401453975 : Unit := ()
def law_holds.tw15140378357190847165 : Unit := ()
def law_holds.tw8763168800255643514 : Unit := ()
def law_holds.tw18221428039690301666 : Unit := ()
def law_holds.tw8957123355933967898 : Unit := ()
def law_holds.tw6934448944433832347 : Unit := ()
def law_holds.tw653560878884961445 : Unit := ()
def law_holds.tw17027635718292003107 : Unit := ()
section
/-- what a call gives back: kept base, a value, facts of the heap behind it -/
def Back (g : Heap) (s : Shared) (G : Value → Heap → Prop) (r : Result) (s' : Shared) : Prop :=
  ∃ v h' tk, r = .ok (.ret v) ∧ s' = { s with heap := h', toks := tk } ∧ (∀ b o, g.get? b = some o → h'.get? b = some o) ∧ G v h'
theorem Back.intro {g h : Heap} {L : Addr} {m : Str → Option Value} {s : Shared} {tk : Nat} {G : Value → Heap → Prop} {v : Value} (F : Fr g L h m) (hG : G v h) :
    Back g s G (.ok (.ret v)) { s with heap := h, toks := tk } := ⟨v, h, tk, rfl, rfl, F.keep, hG⟩
theorem enter_fnC {prog : Program} {w : World} {A : Around} {s : Shared} {g : Heap} {K : Frag} {news : List (Addr × Obj)} {p : Program} {loose : List Str} {mean : ExcName → Option Value} {mg mb : Str → Option Value}
    {R : Result → Shared → Prop} {name qual : Str} {params : Arguments} {body : List Stmt} {scope : Scope} {dV kV doc pm cdv ct oc : Value} {an od : Option Addr} {osl : Array (Option Value)} {f : Addr} {args : Args} {binds : List (Str × Value)}
    (sub : ∀ b o, g.get? b = some o → s.heap.get? b = some o) (hsz : g.objs.size ≤ s.heap.objs.size) (X : K.In g) (T : Top p loose mean mg mb g)
    (N : ∀ p ∈ news, s.heap.get? p.1 = some p.2 ∧ g.get? p.1 = none)
    (ho : K.lookup f = some ⟨oc, od, .func (fnOf name qual params body scope dV kV doc pm an cdv ct), osl⟩) (hcd : codeIn K cdv qual = true) (hroom : A.depth < recursionLimit)
    (hbind : BindsTo s (fnOf name qual params body scope dV kV doc pm an cdv ct) args binds)
    (hkind : (binds.all fun y => scope.names.lookup y.1 == some .local || scope.names.lookup y.1 == some .cell) = true)
    (hnd : ((cellsFrom 0 scope.names []).map (·.1)).Nodup)
    (h : ∀ L' h₁ tk cells (Q : Flow → Shared → Prop), (∀ v s', R (.ok (.ret v)) s' → Q (.ret v) s') → (∀ s', R (.ok (.ret .none)) s' → Q .next s') → Fr g L' h₁ (bindL (envOfC qual scope L' f cdv).kindOf binds fun _ => none) → News g L' h₁ (cells ++ news) →
      CellsAre (bindC (envOfC qual scope L' f cdv).kindOf binds fun _ => none) (cellsFrom (L' + 1) scope.names []) cells → (∀ p ∈ news, p.1 < L') →
      wpAny (model prog w) (A.deeper (envOfC qual scope L' f cdv)) (execs body (envOfC qual scope L' f cdv))
        Q (fun _ _ => False)
        { s with heap := h₁, toks := tk })
    (hco : scope.isCoroutine = false) (hgen : scope.isGenerator = false) (hk : scope.kind = .function) : codeAny (model prog w) A (.call (.ref f) args) R s := by
  refine codeAny_call_function (fd := fnX name qual params body scope [] dV kV doc pm an cdv ct) hroom (sub _ _ (X _ _ ho)) rfl hco hgen rfl (codeRec_of (fun a o e => sub _ _ (X a o e)) hcd) (hbind _ _ _ _ ?_)
  refine wpAny_newFunctionEnv_cells hk (kindsX hkind _) fun env' he s' x => ?_
  subst he
  refine ⟨(T.nolimit.keeps sub).keeps x.toInCall.keep, codeAny_func ?_⟩
  obtain ⟨h₁, tk, rfl, _⟩ := x.done
  have hk₁ := x.toInCall.keep
  obtain ⟨cells, NC, Y⟩ := Cl.news (h₀ := s.heap) (Nat.le_refl _) fun n c hm => ⟨x.cell n c (lookup_of_mem_nodup (cellsFrom_names scope.names 0 (s.heap.objs.size + 1) [] [] rfl ▸ hnd) hm), x.above n c hm⟩
  refine wpAny_mono (h s.heap.objs.size h₁ tk cells (fun fl s' => R (.ok (.ret (match fl with | .ret v => v | _ => .none))) s') (fun _ _ x => x) (fun _ x => x) ⟨x.toInCall.ns, fun b o e => hk₁ b o (sub b o e), hsz⟩ (fun p hp => ?_) Y (fun p hp => Heap.lt_size (N p hp).1)) (fun _ _ x => x) fun _ _ x => x.elim
  rcases List.mem_append.mp hp with hp | hp
  · refine ⟨(NC p hp).1, (NC p hp).2.1, ?_⟩
    cases q : g.get? p.1 with
    | none => rfl
    | some o => have := sub _ _ q; rw [(NC p hp).2.2] at this; cases this
  · exact ⟨hk₁ _ _ (N p hp).1, Nat.ne_of_lt (Heap.lt_size (N p hp).1), (N p hp).2⟩
abbrev tupOf (its : Array Value) (n : Nat) : Obj := { cls := .type "tuple", data := .seq its n }
section
variable {prog : Program} {w : World} {A : Around} {E : Value → Shared → Prop} {Q : Value → Shared → Prop} {s : Shared} {K : Frag} {L : Addr} {h₀ : Heap} {m : Str → Option Value} {news : List (Addr × Obj)}
  {p : Program} {loose : List Str} {mean : ExcName → Option Value} {mg mb : Str → Option Value} {f : Value} {pos : List Value} {G : Value → Heap → Prop}
theorem frag_keeps {K : Frag} {h h' : Heap} (X : K.In h) (k : ∀ b o, h.get? b = some o → h'.get? b = some o) : K.In h' := fun a o e => k _ _ (X a o e)
end
/-- what a name is, told without the frame's place: closed, so that it is written once -/
def nmIs (cs : Scope) (x : Str) (k : NameKind) : Bool := decide (cs.kind = .function) && (decide (cs.names.lookup x = some k) && !(x == ("__debug__" : Str)))
theorem nmIs_kind {cs : Scope} {x : Str} {k : NameKind} (h : nmIs cs x k = true) : cs.kind = .function := of_decide_eq_true (Bool.and_eq_true_iff.mp h).1
theorem nmIs_look {cs : Scope} {x : Str} {k : NameKind} (h : nmIs cs x k = true) : cs.names.lookup x = some k := of_decide_eq_true (Bool.and_eq_true_iff.mp (Bool.and_eq_true_iff.mp h).2).1
theorem nmIs_debug {cs : Scope} {x : Str} {k : NameKind} (h : nmIs cs x k = true) : (x == ("__debug__" : Str)) = false := by
  have := (Bool.and_eq_true_iff.mp (Bool.and_eq_true_iff.mp h).2).2
  simpa using this
section
variable {M : Model} {A : Around} {E : Value → Shared → Prop} {s : Shared} {K : Frag} {h₀ : Heap} {L a : Addr} {m mg mb : Str → Option Value} {cn : Str} {cs : Scope} {ccd : Value} {p : Program} {loose : List Str} {x : Str} {pos : Pos} {v : Value} {Q : Value → Shared → Prop} {news : List (Addr × Obj)} {c : Addr} {o : Obj}
theorem nmC_L (F : Fr h₀ L s.heap m) (hv : m x = some v) (h : Q v s) (k : nmIs cs x .local = true) :
    wpAny M A (eval (.Name x pos) (envOfC cn cs L a ccd)) Q E s := nameX_L F hv h (nmIs_kind k) (nmIs_look k) (nmIs_debug k)
theorem nmC_C (N : News h₀ L s.heap news) (hc : (cellsFrom (L + 1) cs.names []).lookup x = some c) (hm : (c, o) ∈ news) (hd : o.data = .cell (some v)) (h : Q v s) (k : nmIs cs x .cell = true) :
    wpAny M A (eval (.Name x pos) (envOfC cn cs L a ccd)) Q E s := nameX_C N hc hm hd h (nmIs_kind k) (nmIs_look k) (nmIs_debug k)
theorem nmC_K (F : Fr h₀ L s.heap m) (X : K.In h₀) (T : TopRead p loose mg mb h₀) (e : nsIn K mainGlobals x = some (some v)) (h : Q v s) (k : nmIs cs x .globalImplicit = true) :
    wpAny M A (eval (.Name x pos) (envOfC cn cs L a ccd)) Q E s := nameX_K F X T e h (nmIs_kind k) (nmIs_look k) (nmIs_debug k)
theorem nmC_B (F : Fr h₀ L s.heap m) (X : K.In h₀) (T : TopRead p loose mg mb h₀) (e : nsIn K mainGlobals x = some none) (hv : bootBuiltins x = some v) (hn : x ≠ "__name__") (h : Q v s) (k : nmIs cs x .globalImplicit = true) :
    wpAny M A (eval (.Name x pos) (envOfC cn cs L a ccd)) Q E s := nameX_B F X T e hv hn h (nmIs_kind k) (nmIs_look k) (nmIs_debug k)
end
section
variable {prog : Program} {w : World} {A : Around} {E : Value → Shared → Prop} {s : Shared} {h₀ : Heap} {L : Addr} {m : Str → Option Value} {env : Env}
open LCg
/-- a comprehension's turns, any target, any tests -/
theorem loop_G {elt target iter : Expr} {ifs : List Expr} {scope : Scope} {pos : Pos} {it acc : Value} {env : Env} {R : Result → Shared → Prop} (I : Nat → Shared → Prop)
    (turn : ∀ n s, I n s → wpAny (model prog w) A (pyNext it) (fun r s₁ => match r with
      | none => R (.ok .next) s₁
      | some v => wpAny (model prog w) A (letOwnedTupleGo target it v) (fun _ s₁' => wpAny (model prog w) A (assign target env v) (fun _ s₂ =>
          wpAny (model prog w) A (forIn ifs true fun c r => if r = true then do let ok ← isTrue c env (eval c env); pure (ForInStep.yield ok) else pure (ForInStep.yield r)) (fun ok s₃ =>
            if ok = true then wpAny (model prog w) A (eval elt env) (fun x s₄ =>
              wpAny (model prog w) A (call (.builtin "list.append") [acc, x]) (fun _ s₅ => ∃ m, m < n ∧ I m s₅) (notedBy (model prog w) A env fun e s' => R (.error e) s') s₄) (notedBy (model prog w) A env fun e s' => R (.error e) s') s₃
            else ∃ m, m < n ∧ I m s₃) (notedBy (model prog w) A env fun e s' => R (.error e) s') s₂)
          (notedBy (model prog w) A env fun e s' => R (.error e) s') s₁') (notedBy (model prog w) A env fun e s' => R (.error e) s') s₁) (notedBy (model prog w) A env fun e s' => R (.error e) s') s)
    (n : Nat) (h : I n s) : codeAny (model prog w) A (.compLoop (.ListComp elt [⟨target, iter, ifs, 0⟩] scope pos) 0 it acc env) R s := by
  refine codeAny_loop rfl I (fun n s hI => ?_) n h
  show wpAny _ A ((compTurn (.ListComp elt [⟨target, iter, ifs, 0⟩] scope pos) 0 it acc env).onRaise (fun x => do noteFrame x env; theTreesLotGoes x)) _ _ s
  refine wpAny_noted ?_
  rw [compTurn_list]
  refine wpAny_bind (wpAny_standAt (wpAny_bind (wpAny_mono (turn n s hI) (fun r s₁ h₁ => ?_) fun _ _ h' => h')))
  cases r with
  | none => exact wpAny_pure h₁
  | some v =>
    refine wpAny_bind (wpAny_mono h₁ (fun _ s₁' h₁' => ?_) fun _ _ h' => h')
    refine wpAny_bind (wpAny_mono h₁' (fun _ s₂ h₂ => wpAny_bind (wpAny_mono h₂ (fun ok s₃ h₃ => ?_) fun _ _ h' => h')) fun _ _ h' => h')
    cases ok with
    | false => exact wpAny_pure ⟨rfl, h₃⟩
    | true => exact wpAny_bind (wpAny_bind (wpAny_mono h₃ (fun x s₄ h₄ => wpAny_bind (wpAny_mono h₄ (fun _ s₅ h₅ => wpAny_pure (wpAny_pure ⟨rfl, h₅⟩)) fun _ _ h' => h')) fun _ _ h' => h'))
end
section
variable {prog : Program} {w : World} {A : Around} {E : Value → Shared → Prop} {s : Shared} {h₀ : Heap} {L : Addr} {m : Str → Option Value} {news : List (Addr × Obj)}
theorem adjust_to (b n : Nat) (hb : b ≤ n) : Builtin.Slice.sliceAdjust none (some (b : Int)) 1 (n : Int) = (0, (b : Int)) := by
  unfold Builtin.Slice.sliceAdjust
  have h1 : ¬ ((1 : Int) < 0) := by omega
  have h2 : ¬ ((b : Int) < 0) := by omega
  simp only [h1, h2, if_false]
  congr 1
  omega
theorem places_to (b : Nat) : Builtin.Slice.slicePlaces 0 (b : Int) 1 = b := by
  unfold Builtin.Slice.slicePlaces
  have h1 : (1 : Int) > 0 := by omega
  simp only [h1, if_true, Int.ediv_one]
  split <;> omega
theorem sliceApplied_to {sl : Addr} {b n : Nat} {u : Tok} {Q : Int × Int × Nat → Shared → Prop} (hs : s.heap.IsSliceOf sl .none (.int b u) .none) (hb : b ≤ n) (h : Q (0, 1, b) s) :
    wpAny (model prog w) A (Builtin.Slice.sliceApplied (.ref sl) (pure (n : Int))) Q E s := by
  obtain ⟨os, hos, hcs, hds⟩ := id hs
  unfold Builtin.Slice.sliceApplied Builtin.Slice.sliceFields
  refine wpAny_bind (wpAny_bind (wpAny_field hos hds (x := .none) rfl (wpAny_bind (wpAny_field hos hds (x := .int b u) rfl (wpAny_bind (wpAny_field hos hds (x := .none) rfl (wpAny_pure ?_)))))))
  refine wpAny_bind (slicePart_none ?_)
  show wpAny _ _ (if ((1 : Int) == 0) = true then _ else _) _ _ s
  rw [if_neg (by decide)]
  refine wpAny_bind (slicePart_none (wpAny_bind (slicePart_int (wpAny_bind (wpAny_pure ?_)))))
  show wpAny _ _ (match Builtin.Slice.sliceAdjust none (some (b : Int)) 1 (n : Int) with | (lo, hi) => pure (lo, (1 : Int), Builtin.Slice.slicePlaces lo hi 1)) _ _ s
  rw [adjust_to b n hb]
  show wpAny _ _ (pure ((0 : Int), (1 : Int), Builtin.Slice.slicePlaces 0 (b : Int) 1)) _ _ s
  rw [places_to b]
  exact wpAny_pure h
theorem pick_to (xs : Array Value) (b : Nat) (hb : b ≤ xs.size) : ((List.range b).filterMap fun (k : Nat) => xs[((0 : Int) + (k : Int) * 1).toNat]?).toArray = (xs.toList.take b).toArray := by
  have e : (fun (k : Nat) => xs[((0 : Int) + (k : Int) * 1).toNat]?) = fun k => xs.toList[k]? := by
    funext k
    have : ((0 : Int) + (k : Int) * 1).toNat = k := by omega
    rw [this]; simp
  rw [e]
  congr 1
  have key : ∀ (l : List Value) (b : Nat), b ≤ l.length → (List.range b).filterMap (fun k => l[k]?) = l.take b := by
    intro l b
    induction b with
    | zero => intro _; rfl
    | succ b ih =>
      intro hb
      rw [List.range_succ, List.filterMap_append, ih (by omega), List.take_add_one]
      simp [List.getElem?_eq_getElem (show b < l.length by omega)]
  exact key _ _ (by simpa using hb)
theorem getItem_tuple_to {t sl : Addr} {items : Array Value} {b : Nat} {u : Tok} {Q : Value → Shared → Prop} (ht : IsTup s.heap t items) (hs : s.heap.IsSliceOf sl .none (.int b u) .none) (hb : b ≤ items.size)
    (h1 : b = items.size → Q (.ref t) s) (h2 : b < items.size → Q (.ref s.heap.objs.size) { s with heap := s.heap.push { cls := .type "tuple", data := .seq (items.toList.take b).toArray } })
    (hsz : items.size ≤ sizeLine := by size_fits) : wpAny (model prog w) A (getItem (.ref t) (.ref sl)) Q E s := by
  have hdrop : sizeOk (.seq (items.toList.take b).toArray) := by
    show (items.toList.take b).toArray.size ≤ sizeLine
    rw [List.size_toArray, List.length_take, Array.length_toList]
    omega
  obtain ⟨os, hos, hcs, hds⟩ := id hs
  have hTs : s.TypeIs (.ref sl) "slice" := ⟨os, hos, hcs⟩
  unfold getItem
  try with_reducible refine wpAny_holding ?_
  first | refine wpAny_bind (wpAny_pure ?_) | skip
  refine wpAny_bind (wpAny_sequenceKey ht.typeIs (by decide) ?_)
  refine wpAny_bind (wpAny_callSpecial?_slot (name := Str.ofString "__getitem__") ht.typeIs slot_tuple_getitem
    (wpAny_call_entry slot_tuple_getitem ht.typeIs entry_tuple_getitem ?_ (args_tuple_getitem _ _)))
  show wpAny _ _ (Builtin.Tuple.tupleItemsOf (.ref t) >>= _) _ _ s
  refine wpAny_bind (tupleItemsOf_ ht ?_)
  refine wpAny_bind (wpAny_typeOf hTs ?_)
  rw [if_pos (by decide)]
  refine wpAny_bind (sliceApplied_to hs hb ?_)
  show wpAny _ _ (if ((0 : Int) == 0 && (1 : Int) == 1 && b == items.size) = true then _ else _) _ _ s
  by_cases hw : b = items.size
  · rw [if_pos (by simp [hw])]
    refine wpAny_bind (m := Builtin.Tuple.tupleIsExact _) ?_
    unfold Builtin.Tuple.tupleIsExact
    refine wpAny_bind (wpAny_typeOf ht.typeIs (wpAny_pure ?_))
    rw [if_pos (by decide)]
    first
      | exact wpAny_bind (wpAny_rule (wpAny_pure ⟨_, rfl, wpAny_pure (h1 hw)⟩))
      | exact wpAny_bind (wpAny_rule (wpAny_bind (wpAny_pure (wpAny_pure ⟨_, rfl, wpAny_pure (h1 hw)⟩))))
  · have hno : ¬ (((0 : Int) == 0 && (1 : Int) == 1 && b == items.size) = true) := by simp [hw]
    rw [if_neg hno, pick_to items b hb]
    have h := h2 (by omega)
    first
      | exact wpAny_bind (m := Builtin.Tuple.tupleExact _) (wpAny_newObj_type (wpAny_pure ⟨_, rfl, wpAny_pure h⟩) hdrop)
      | exact wpAny_bind (m := Builtin.Tuple.tupleExact _) (wpAny_newObj_type (wpAny_bind (wpAny_pure (wpAny_pure ⟨_, rfl, wpAny_pure h⟩))) hdrop)
      | exact wpAny_bind (wpAny_bind (m := Builtin.Tuple.tupleExact _) (wpAny_newObj_type (wpAny_pure (wpAny_pure ⟨_, rfl, wpAny_pure h⟩)) hdrop))
      | exact wpAny_bind (wpAny_bind (m := Builtin.Tuple.tupleExact _) (wpAny_newObj_type (wpAny_pure ⟨_, rfl, wpAny_pure h⟩) hdrop))
theorem slice_tuple_to {value slice : Expr} {t : Addr} {items : Array Value} {b : Nat} {u : Tok} {Q : Value → Shared → Prop}
    (F : Fr h₀ L s.heap m) (N : News h₀ L s.heap news) (ht : IsTup s.heap t items) (hb : b ≤ items.size)
    (h1 : b = items.size → ∀ h', Fr h₀ L h' m → News h₀ L h' news → Q (.ref t) { s with heap := h' })
    (h2 : b < items.size → ∀ D h', Fr h₀ L h' m → News h₀ L h' ((D, tupOf (items.toList.take b).toArray 0) :: news) → (∀ p ∈ news, p.1 < D) → Q (.ref D) { s with heap := h' })
    (hs : subscripted slice false (.ref t) (.ref s.heap.objs.size) = operate [.ref s.heap.objs.size, .ref t] (getItem (.ref t) (.ref s.heap.objs.size)) := by with_unfolding_all rfl)
    (hg : ∀ r, letTemporaryGo value (.ref t) r = pure () := by intro _; with_unfolding_all rfl)
    (hsz : items.size ≤ sizeLine := by size_fits) :
    wpAny (model prog w) A (subscriptTail value slice (.ref t) (.ref s.heap.objs.size)) Q E { s with heap := s.heap.push { cls := .type "slice", data := .fields #[.none, .int b u, .none] } } := by
  have up : ∀ c o, s.heap.get? c = some o → (s.heap.push { cls := .type "slice", data := .fields #[.none, .int b u, .none] }).get? c = some o := fun _ _ e => Heap.get?_push_of_some _ e
  have ht' : IsTup (s.heap.push { cls := .type "slice", data := .fields #[.none, .int b u, .none] }) t items := ht.keeps up
  refine subscriptTail_ops (s := { s with heap := s.heap.push { cls := .type "slice", data := .fields #[.none, .int b u, .none] } }) ht'.typeIs slot_tuple_getitem.lookup
    (getItem_tuple_to ht' (Heap.IsSliceOf.new ..) hb (fun e => ?_) (fun e => ?_) hsz) hs hg
  · exact h1 e _ (F.push _) (N.grown up)
  · have N1 := News.push (F.push { cls := .type "slice", data := .fields #[.none, .int b u, .none] }) (N.grown up) { cls := .type "tuple", data := .seq (items.toList.take b).toArray }
    refine h2 e _ _ ((F.push _).push _) N1 fun p hp => ?_
    show p.1 < (s.heap.push _).objs.size
    rw [Heap.size_push]; exact Nat.lt_succ_of_lt (Heap.lt_size (N p hp).1)
end
inductive Cn where
  | lin (nm : Str) (fs xs : List Int) (c : Int)
  | times (x y z : Int)
  | ext (nm : Str) (xs : List Int) (z : Int)
  | elem (at' : Int) (xs : List Int) (z : Int)
  | diff (xs : List Int)
  | cnt (xs : List Int) (v z : Int)
  | nval (xs : List Int) (z : Int)
  | lex (xs ys : List Int)
def Cn.vars : Cn → List Int
  | .lin _ _ xs _ => xs
  | .times x y z => [x, y, z]
  | .ext _ xs z => xs ++ [z]
  | .elem a xs z => a :: (xs ++ [z])
  | .diff xs => xs
  | .cnt xs _ z => xs ++ [z]
  | .nval xs z => xs ++ [z]
  | .lex xs ys => xs ++ ys
def Cn.ok : Cn → Prop
  | .lin nm fs xs _ => (nm = Str.ofString "linear_eq" ∨ nm = Str.ofString "linear_ne" ∨ nm = Str.ofString "linear_le") ∧ fs.length = xs.length ∧ 1 ≤ xs.length ∧ xs.length ≤ 3 ∧ ∀ f ∈ fs, -2 ≤ f ∧ f ≤ 2
  | .times _ _ _ => True
  | .ext nm xs _ => (nm = Str.ofString "max" ∨ nm = Str.ofString "min") ∧ 1 ≤ xs.length ∧ xs.length ≤ 3
  | .elem _ xs _ => 1 ≤ xs.length ∧ xs.length ≤ 3
  | .diff xs => 2 ≤ xs.length ∧ xs.length ≤ 3
  | .cnt xs _ _ => 2 ≤ xs.length ∧ xs.length ≤ 3
  | .nval xs _ => 2 ≤ xs.length ∧ xs.length ≤ 3
  | .lex xs ys => xs.length = 2 ∧ ys.length = 2
section
variable {prog : Program} {w : World} {A : Around} {E : Value → Shared → Prop} {s : Shared} {h₀ : Heap} {L : Addr} {m : Str → Option Value} {env : Env}
theorem seqIndex_nat {i n : Nat} (h : i < n) : seqIndex? (i : Int) n = some i := by
  unfold seqIndex?
  have h1 : ¬ ((i : Int) < 0) := by omega
  simp [h1]; omega
end
theorem take_snoc {α : Type} {xs : List α} {i : Nat} {x : α} (h : xs[i]? = some x) : xs.take (i + 1) = xs.take i ++ [x] := by
  rw [List.take_add_one, h]; rfl
section
variable {prog : Program} {w : World} {A : Around} {E : Value → Shared → Prop} {s : Shared}
/-- the next of a tuple's iterator, asked for by another built-in -/
theorem next_tup {it t : Addr} {i : Nat} {items : Array Value} {Q : Value → Shared → Prop} (hh : A.handled = none) (hit : s.heap.IsTupleIter it t i) (ht : s.heap.IsTuple t items)
    (hQ : ∀ x h', items[i]? = some x → h'.IsTupleIter it t (i + 1) → Heap.SameBut it s.heap h' → Q x { s with heap := h' })
    (hE : ∀ h' e, items[i]? = none → Heap.ExtBut it s.heap h' → (∃ o, h'.get? e = some o ∧ o.cls = .type "StopIteration") → E (.ref e) { s with heap := h' }) :
    wpAny (model prog w) A (Builtin.SmallTypes.nextOf (.ref it)) Q E s := by
  obtain ⟨o, ho, hc, hd⟩ := id hit
  obtain ⟨ol, hol, _, nl, hdl⟩ := ht
  unfold Builtin.SmallTypes.nextOf
  refine wpAny_bind (wpAny_callSpecial?_slot (name := Str.ofString "__next__") hit.typeIs F.slot_tuple_iterator_next
    (wpAny_call_entry F.slot_tuple_iterator_next hit.typeIs F.entry_tuple_iterator_next ?_ (F.args_tuple_iterator_next_1 _)))
  show wpAny _ _ (field (.ref it) 0 >>= _) _ _ s
  refine wpAny_bind (wpAny_field ho hd (x := .ref t) rfl ?_)
  show wpAny _ _ (if (Value.ref t == Value.none) = true then _ else _) _ _ s
  rw [if_neg (show ¬ ((Value.ref t == Value.none) = true) from Bool.false_ne_true)]
  show wpAny _ _ (field (.ref it) 1 >>= _) _ _ s
  refine wpAny_bind (wpAny_field ho hd (x := .int i 0) rfl ?_)
  show wpAny _ _ (seqItems? (.ref t) >>= _) _ _ s
  refine wpAny_bind (wpAny_seqItems hol hdl ?_)
  cases hx : items[i]? with
  | some x =>
    simp only [Int.toNat_natCast, hx]
    refine wpAny_bind (wpAny_setField ho hd (by simp) (wpAny_pure ⟨x, rfl, wpAny_pure (hQ x _ hx ?_ (Heap.SameBut.update ..))⟩))
    exact ⟨_, Heap.get?_update_self _ ho (Obj.isFreed_of_fields (Obj.data_mapFields hd _)), (Obj.cls_mapFields ..).trans hc, by
      rw [Obj.data_mapFields hd]; simp [rawInt]⟩
  | none =>
    simp only [Int.toNat_natCast, hx]
    refine wpAny_bind (wpAny_rule (wpAny_bind (wpAny_setField ho hd (by simp) ?_)))
    show wpAny _ _ (newExc (.type "StopIteration") [] >>= _) _ _ _
    refine wpAny_bind ?_
    simp only [newExc, newTuple]
    refine wpAny_bind (wpAny_newObj_type ?_ (by size_fits))
    refine wpAny_bind (m := firstArgMember _ _) (wpAny_of_eq (a := Value.none) (by first | rfl | (simp only [firstArgMember]; rfl)) ?_)
    refine wpAny_newObj_type ?_ (by size_fits)
    simp only [raiseNew]
    refine wpAny_bind (wpAny_handled ?_)
    first | rw [show A.in1.handled = none from hh] | rw [hh]
    refine wpAny_bind (wpAny_pure (wpAny_throw ?_))
    exact hE _ _ hx (((Heap.SameBut.update ..).extBut.push _).push _) ⟨_, Heap.get?_push_size _ rfl, rfl⟩
/-- a zip over two tuples: its state between two turns -/
structure ZipSt (h : Heap) (z TI TO i1 i2 t1 t2 : Addr) (xs ys : Array Value) (k : Nat) (f0 : Value) : Prop where
  zip : IsZip h z TI TO f0
  ti : IsPair h TI (.ref i1) (.ref i2)
  out : ∃ a b, IsPair h TO a b
  it1 : h.IsTupleIter i1 t1 k
  it2 : h.IsTupleIter i2 t2 k
  tup1 : h.IsTuple t1 xs
  tup2 : h.IsTuple t2 ys
/-- what the zip owns, written out -/
theorem ZipSt.own {h : Heap} {z TI TO i1 i2 t1 t2 : Addr} {xs ys : Array Value} {k : Nat} {f0 : Value} (S : ZipSt h z TI TO i1 i2 t1 t2 xs ys k f0) :
    ∃ own : List (Addr × Obj), (∀ p ∈ own, h.get? p.1 = some p.2 ∧ p.1 ∈ [z, TI, TO, i1, i2]) ∧
      ∀ h' : Heap, (∀ p ∈ own, h'.get? p.1 = some p.2) → h'.IsTuple t1 xs → h'.IsTuple t2 ys → ZipSt h' z TI TO i1 i2 t1 t2 xs ys k f0 := by
  obtain ⟨hz, hTI, ⟨a, b, hTO⟩, ⟨o1, e1, r1⟩, ⟨o2, e2, r2⟩, _, _⟩ := S
  refine ⟨[(z, _), (TI, _), (TO, _), (i1, o1), (i2, o2)], ?_, fun h' hk g1 g2 => ⟨hk (z, _) (.head _), hk (TI, _) (.tail _ (.head _)), ⟨a, b, hk (TO, _) (.tail _ (.tail _ (.head _)))⟩, ⟨o1, hk (i1, o1) (.tail _ (.tail _ (.tail _ (.head _)))), r1⟩, ⟨o2, hk (i2, o2) (.tail _ (.tail _ (.tail _ (.tail _ (.head _))))), r2⟩, g1, g2⟩⟩
  intro p hp
  simp only [List.mem_cons, List.not_mem_nil, or_false] at hp
  rcases hp with rfl | rfl | rfl | rfl | rfl
  · exact ⟨hz, by simp⟩
  · exact ⟨hTI, by simp⟩
  · exact ⟨hTO, by simp⟩
  · exact ⟨e1, by simp⟩
  · exact ⟨e2, by simp⟩
theorem zip_start {z TI TO i1 i2 t1 t2 : Addr} {k : Nat} {xs ys : Array Value} {Q : Fin → Shared → Prop} (D : ZipApart z TI TO i1 i2 t1 t2) (S : ZipSt s.heap z TI TO i1 i2 t1 t2 xs ys k .none) (hh : A.handled = none)
    (hI : ∀ x y h', xs[k]? = some x → ys[k]? = some y → ZipSt h' z TI TO i1 i2 t1 t2 xs ys (k + 1) (rawInt s.heap.objs.size) → IsPair h' s.heap.objs.size x y →
      (∀ c o, c ≠ z → c ≠ TO → c ≠ i1 → c ≠ i2 → s.heap.get? c = some o → h'.get? c = some o) → Q (.done (.ret (.ref s.heap.objs.size))) { s with heap := h' })
    (hE : ∀ h' e, (xs[k]? = none ∨ ys[k]? = none) → (∀ c o, c ≠ z → c ≠ TO → c ≠ i1 → c ≠ i2 → s.heap.get? c = some o → h'.get? c = some o) → (∃ o, h'.get? e = some o ∧ o.cls = .type "StopIteration") → E (.ref e) { s with heap := h' }) :
    wpAny (model prog w) A (Builtin.«zip.__next__» ⟨[.ref z], []⟩) Q E s := by
  obtain ⟨hz, hTI, ⟨a, b, hTO⟩, h1, h2, hl1, hl2⟩ := S
  show wpAny _ _ (field (.ref z) 2 >>= _) _ _ _
  refine wpAny_bind (wpAny_field hz rfl (x := .bool false) rfl ?_)
  show wpAny _ _ (field (.ref z) 3 >>= _) _ _ _
  refine wpAny_bind (wpAny_field hz rfl (x := .ref TI) rfl (wpAny_bind (wpAny_seqItems hTI rfl ?_)))
  show wpAny _ _ (Builtin.SmallTypes.ownedTupleIsFree (.ref z) >>= _) _ _ _
  refine wpAny_bind ?_
  unfold Builtin.SmallTypes.ownedTupleIsFree
  refine wpAny_bind (wpAny_field hz rfl (x := .none) rfl (wpAny_pure ?_))
  simp only [if_true]
  refine wpAny_bind (wpAny_rule (wpAny_bind (wpAny_field hz rfl (x := .ref TO) rfl (wpAny_bind (wpAny_setField_rec hz (by simp) fun g₁ hz₁ hs₁ => wpAny_bind ?_)))))
  replace hz₁ : IsZip g₁ z TI TO .ellipsis := hz₁
  simp only [List.zipIdx_cons, List.zipIdx_nil, List.forIn_cons, List.forIn_nil]
  refine wpAny_bind (wpAny_bind (wpAny_onRaise ?_))
  show wpAny _ _ (Builtin.SmallTypes.nextOf (.ref i1) >>= _) _ _ _
  refine wpAny_bind (next_tup hh (h1.extBut hs₁.extBut D.i1z) (hl1.extBut hs₁.extBut D.l1z) (fun x g₂ hx h1₂ hs₂ => wpAny_pure ?_) fun g₂ e hx hs₂ he => ?_)
  case refine_2 =>
    obtain ⟨oe, hoe, hce⟩ := he
    have hz₂ : IsZip g₂ z TI TO .ellipsis := hs₂ _ _ D.i1z.symm hz₁
    have hez : e ≠ z := fun q => by subst q; rw [hz₂] at hoe; cases hoe; simp at hce
    exact wpAny_setField_rec hz₂ (by simp) fun g₃ _ hs₃ => hE g₃ e (.inl hx) (fun c o c1 _ c3 _ q => hs₃.extBut _ _ c1 (hs₂ _ _ c3 (hs₁.extBut _ _ c1 q))) ⟨oe, hs₃.extBut _ _ hez hoe, hce⟩
  have hTO₂ : IsPair g₂ TO a b := hs₂.extBut _ _ D.TOi1 (hs₁.extBut _ _ D.TOz hTO)
  refine wpAny_bind (wpAny_seqItems hTO₂ rfl (wpAny_bind (wpAny_updateSeq_pair hTO₂ fun g₃ hTO₃ hs₃ => wpAny_bind (wpAny_letGo (wpAny_pure ?_)))))
  replace hTO₃ : IsPair g₃ TO x b := hTO₃
  refine wpAny_bind (wpAny_bind (wpAny_onRaise ?_))
  show wpAny _ _ (Builtin.SmallTypes.nextOf (.ref i2) >>= _) _ _ _
  refine wpAny_bind (next_tup hh (((h2.extBut hs₁.extBut D.i2z).extBut hs₂.extBut D.i12.symm).extBut hs₃.extBut D.TOi2.symm)
    (((hl2.extBut hs₁.extBut D.l2z).extBut hs₂.extBut D.l2i1).extBut hs₃.extBut D.l2TO) (fun y g₄ hy h2₄ hs₄ => wpAny_pure ?_) fun g₄ e hy hs₄ he => ?_)
  case refine_2 =>
    obtain ⟨oe, hoe, hce⟩ := he
    have hz₄ : IsZip g₄ z TI TO .ellipsis := hs₄ _ _ D.i2z.symm (hs₃.extBut _ _ D.TOz.symm (hs₂.extBut _ _ D.i1z.symm hz₁))
    have hez : e ≠ z := fun q => by subst q; rw [hz₄] at hoe; cases hoe; simp at hce
    exact wpAny_setField_rec hz₄ (by simp) fun g₅ _ hs₅ => hE g₅ e (.inr hy) (fun c o c1 c2 c3 c4 q => hs₅.extBut _ _ c1 (hs₄ _ _ c4 (hs₃.extBut _ _ c2 (hs₂.extBut _ _ c3 (hs₁.extBut _ _ c1 q))))) ⟨oe, hs₅.extBut _ _ hez hoe, hce⟩
  have hTO₄ : IsPair g₄ TO x b := hs₄.extBut _ _ D.TOi2 hTO₃
  refine wpAny_bind (wpAny_seqItems hTO₄ rfl (wpAny_bind (wpAny_updateSeq_pair hTO₄ fun g₅ hTO₅ hs₅ => wpAny_bind (wpAny_letGo (wpAny_pure (wpAny_pure ?_))))))
  replace hTO₅ : IsPair g₅ TO x y := hTO₅
  refine wpAny_bind (wpAny_seqItems hTO₅ rfl (wpAny_bind (wpAny_newTuple ?_)))
  have hsz : g₅.objs.size = s.heap.objs.size := by rw [hs₅.1, hs₄.1, hs₃.1, hs₂.1, hs₁.1]
  have hz₅ : IsZip g₅ z TI TO .ellipsis := hs₅.extBut _ _ D.TOz.symm (hs₄.extBut _ _ D.i2z.symm (hs₃.extBut _ _ D.TOz.symm (hs₂.extBut _ _ D.i1z.symm hz₁)))
  have hk₅ : ∀ c o, c ≠ z → c ≠ TO → c ≠ i1 → c ≠ i2 → s.heap.get? c = some o → g₅.get? c = some o := fun c o c1 c2 c3 c4 e =>
    hs₅.extBut _ _ c2 (hs₄.extBut _ _ c4 (hs₃.extBut _ _ c2 (hs₂.extBut _ _ c3 (hs₁.extBut _ _ c1 e))))
  have h1₅ : g₅.IsTupleIter i1 t1 (k + 1) := ((h1₂.extBut hs₃.extBut D.TOi1.symm).extBut hs₄.extBut D.i12).extBut hs₅.extBut D.TOi1.symm
  have h2₅ : g₅.IsTupleIter i2 t2 (k + 1) := h2₄.extBut hs₅.extBut D.TOi2.symm
  have hzlt : z < g₅.objs.size := Heap.lt_size hz₅
  show wpAny _ _ (Builtin.SmallTypes.ownedTupleHandOut (.ref z) (.ref g₅.objs.size) >>= _) _ _ _
  refine wpAny_bind ?_
  unfold Builtin.SmallTypes.ownedTupleHandOut
  have hz₆ : IsZip (g₅.push { cls := .type "tuple", data := .seq #[x, y] }) z TI TO .ellipsis := Heap.get?_push_of_some _ hz₅
  refine wpAny_bind (wpAny_setField_rec hz₆ (by simp) fun g₇ hz₇ hs₇ => ?_)
  replace hz₇ : IsZip g₇ z TI TO (rawInt g₅.objs.size) := hz₇
  refine wpAny_setField_rec hz₇ (by simp) fun g₈ hz₈ hs₈ => ?_
  replace hz₈ : IsZip g₈ z TI TO (rawInt g₅.objs.size) := hz₈
  have up : ∀ c o, c ≠ z → g₅.get? c = some o → g₈.get? c = some o := fun c o c1 e => hs₈.extBut _ _ c1 (hs₇.extBut _ _ c1 (Heap.get?_push_of_some _ e))
  have hT₈ : IsPair g₈ g₅.objs.size x y := hs₈.extBut _ _ (Nat.ne_of_gt hzlt) (hs₇.extBut _ _ (Nat.ne_of_gt hzlt) (Heap.get?_push_size _ rfl))
  rw [hsz] at hz₈ hT₈
  have all : ∀ c o, c ≠ z → c ≠ TO → c ≠ i1 → c ≠ i2 → s.heap.get? c = some o → g₈.get? c = some o := fun c o c1 c2 c3 c4 e => up c o c1 (hk₅ c o c1 c2 c3 c4 e)
  refine wpAny_pure ?_
  show Q (.done (.ret (.ref g₅.objs.size))) _
  rw [hsz]
  refine hI x y g₈ hx hy ⟨hz₈, all _ _ D.TIz D.TITO D.TIi1 D.TIi2 hTI, ⟨x, y, up _ _ D.TOz hTO₅⟩, ?_, ?_, ?_, ?_⟩ hT₈ all
  · obtain ⟨o, e, r⟩ := h1₅; exact ⟨o, up _ _ D.i1z e, r⟩
  · obtain ⟨o, e, r⟩ := h2₅; exact ⟨o, up _ _ D.i2z e, r⟩
  · obtain ⟨o, e, r⟩ := hl1; exact ⟨o, all _ _ D.l1z D.l1TO D.l1i1 D.l1i2 e, r⟩
  · obtain ⟨o, e, r⟩ := hl2; exact ⟨o, all _ _ D.l2z D.l2TO D.l2i1 D.l2i2 e, r⟩
theorem zip_next {z TI TO i1 i2 t1 t2 : Addr} {k : Nat} {xs ys : Array Value} {Q : Option Value → Shared → Prop} (D : ZipApart z TI TO i1 i2 t1 t2) (S : ZipSt s.heap z TI TO i1 i2 t1 t2 xs ys k .none) (hh : A.handled = none)
    (hI : ∀ x y h', xs[k]? = some x → ys[k]? = some y → ZipSt h' z TI TO i1 i2 t1 t2 xs ys (k + 1) (rawInt s.heap.objs.size) → IsPair h' s.heap.objs.size x y →
      (∀ c o, c ≠ z → c ≠ TO → c ≠ i1 → c ≠ i2 → s.heap.get? c = some o → h'.get? c = some o) → Q (some (.ref s.heap.objs.size)) { s with heap := h' })
    (hE : ∀ h', (xs[k]? = none ∨ ys[k]? = none) → (∀ c o, c ≠ z → c ≠ TO → c ≠ i1 → c ≠ i2 → s.heap.get? c = some o → h'.get? c = some o) → Q none { s with heap := h' }) :
    wpAny (model prog w) A (pyNext (.ref z)) Q E s := by
  have hT : s.TypeIs (.ref z) "zip" := ⟨_, S.zip, rfl⟩
  unfold pyNext
  refine wpAny_bind (wpAny_attempt (wpAny_callSpecial?_slot (name := Str.ofString "__next__") hT F.slot_zip_next
    (wpAny_call_entry F.slot_zip_next hT F.entry_zip_next
      (zip_start D S hh (fun x y h' a1 a2 a3 a4 a5 => ⟨_, rfl, wpAny_pure (hI x y h' a1 a2 a3 a4 a5)⟩) fun h' e a1 a2 he => ?_) (F.args_zip_next_1 _))))
  obtain ⟨o, ho, hc⟩ := he
  exact wpAny_bind (wpAny_isInstance (T := "StopIteration") (b := true) ⟨o, ho, hc⟩ isSubtype_stop (wpAny_pure (hE _ a1 a2)))
end
abbrev zt1 (h : Heap) (t1 : Addr) : Heap := h.push { cls := .type "tuple_iterator", data := .fields #[.ref t1, .int 0 0] }
abbrev zt2 (h : Heap) (t1 t2 : Addr) : Heap := (zt1 h t1).push { cls := .type "tuple_iterator", data := .fields #[.ref t2, .int 0 0] }
abbrev zt3 (h : Heap) (t1 t2 : Addr) : Heap := (zt2 h t1 t2).push { cls := .type "tuple", data := .seq #[.ref h.objs.size, .ref (zt1 h t1).objs.size] }
abbrev zt4 (h : Heap) (t1 t2 : Addr) : Heap := (zt3 h t1 t2).push { cls := .type "tuple", data := .seq #[.none, .none] }
abbrev zt5 (h : Heap) (t1 t2 : Addr) : Heap := (zt4 h t1 t2).push { cls := .type "zip", data := .fields #[.none, .bool false, .bool false, .ref (zt2 h t1 t2).objs.size, .ref (zt3 h t1 t2).objs.size] }
theorem meets_zip_tup (t1 t2 : Addr) (xs ys : Array Value) :
    Meets (Builtin.«zip.__new__» ⟨[.type "zip", .ref t1, .ref t2], []⟩) (fun _ R s => s.heap.IsTuple t1 xs ∧ s.heap.IsTuple t2 ys ∧
      R (.ok (.ret (.ref (zt4 s.heap t1 t2).objs.size))) { s with heap := zt5 s.heap t1 t2 }) :=
  .of_wp fun prog w A R s h => by
    obtain ⟨hp, g, d, tk, os⟩ := s; obtain ⟨hl1, hl2, h⟩ := h
    have hsub := sub_zip
    have hL1 : Heap.IsTuple (Shared.heap ⟨hp, g, d, tk, os⟩) t1 xs := hl1
    have hL2 : Heap.IsTuple (Shared.heap ⟨hp.push { cls := .type "tuple_iterator", data := .fields #[.ref t1, .int 0 0] }, g, d, tk, os⟩) t2 ys := Heap.IsTuple.push hl2 _
    wp_walk using wpAny_pyIter_tuple hL1, wpAny_pyIter_tuple hL2
    exact ⟨_, rfl, h⟩
section
variable {prog : Program} {w : World} {A : Around} {E : Value → Shared → Prop} {s : Shared} {h₀ : Heap} {L : Addr} {m : Str → Option Value}
theorem zip_make {t1 t2 : Addr} {xs ys : Array Value} {Q : Value → Shared → Prop} (hl1 : s.heap.IsTuple t1 xs) (hl2 : s.heap.IsTuple t2 ys)
    (k : ∀ h' z TI TO i1 i2, ZipApart z TI TO i1 i2 t1 t2 → ZipSt h' z TI TO i1 i2 t1 t2 xs ys 0 .none → (∀ b o, s.heap.get? b = some o → h'.get? b = some o) → (∀ a ∈ [z, TI, TO, i1, i2], s.heap.objs.size ≤ a) → Q (.ref z) { s with heap := h' }) :
    wpAny (model prog w) A (call (.type "zip") [.ref t1, .ref t2]) Q E s := by
  have a1 : t1 < s.heap.objs.size := by obtain ⟨_, e, _⟩ := hl1; exact Heap.lt_size e
  have a2 : t2 < s.heap.objs.size := by obtain ⟨_, e, _⟩ := hl2; exact Heap.lt_size e
  refine callType_new F.called_zip (by decide) (F.typeCall_zip_2 _ _) (F.newCall_zip_2 _ _) (fun obj => F.args_object_init_3 obj _ _) F.entry_zip_new
    (meets_zip_tup t1 t2 xs ys) ⟨hl1, hl2, ?_⟩
  have z1 : (zt1 s.heap t1).objs.size = s.heap.objs.size + 1 := Heap.size_push ..
  have z2 : (zt2 s.heap t1 t2).objs.size = s.heap.objs.size + 2 := by rw [Heap.size_push, z1]
  have z3 : (zt3 s.heap t1 t2).objs.size = s.heap.objs.size + 3 := by rw [Heap.size_push, z2]
  have z4 : (zt4 s.heap t1 t2).objs.size = s.heap.objs.size + 4 := by rw [Heap.size_push, z3]
  have z5 : (zt5 s.heap t1 t2).objs.size = s.heap.objs.size + 5 := by rw [Heap.size_push, z4]
  have g5 : (zt5 s.heap t1 t2).get? (zt4 s.heap t1 t2).objs.size = some _ := Heap.get?_push_size _ rfl
  have g4 : (zt5 s.heap t1 t2).get? (zt3 s.heap t1 t2).objs.size = some _ := Heap.get?_push_of_some _ (Heap.get?_push_size _ rfl)
  have g3 : (zt5 s.heap t1 t2).get? (zt2 s.heap t1 t2).objs.size = some _ := Heap.get?_push_of_some _ (Heap.get?_push_of_some _ (Heap.get?_push_size _ rfl))
  have g2 : (zt5 s.heap t1 t2).get? (zt1 s.heap t1).objs.size = some _ := Heap.get?_push_of_some _ (Heap.get?_push_of_some _ (Heap.get?_push_of_some _ (Heap.get?_push_size _ rfl)))
  have g1 : (zt5 s.heap t1 t2).get? s.heap.objs.size = some _ := Heap.get?_push_of_some _ (Heap.get?_push_of_some _ (Heap.get?_push_of_some _ (Heap.get?_push_of_some _ (Heap.get?_push_size _ rfl))))
  have up : ∀ c o, s.heap.get? c = some o → (zt5 s.heap t1 t2).get? c = some o := fun c o x => Heap.get?_push_of_some _ (Heap.get?_push_of_some _ (Heap.get?_push_of_some _ (Heap.get?_push_of_some _ (Heap.get?_push_of_some _ x))))
  show _ ∧ _
  rw [z2, z3, z4] at g5
  rw [z1, z2] at g3
  rw [z3] at g4
  rw [z1] at g2
  rw [z4]
  refine ⟨⟨_, g5, rfl⟩, k _ _ _ _ _ _ (zipApart_new a1 a2) ⟨g5, g3, ⟨_, _, g4⟩, ⟨_, g1, rfl, rfl⟩, ⟨_, g2, rfl, rfl⟩, IsTup.keeps hl1 up, IsTup.keeps hl2 up⟩ up ?_⟩
  intro a ha
  simp only [List.mem_cons, List.not_mem_nil, or_false] at ha
  rcases ha with rfl | rfl | rfl | rfl | rfl
  · exact Nat.le_add_right _ 4
  · exact Nat.le_add_right _ 2
  · exact Nat.le_add_right _ 3
  · exact Nat.le_refl _
  · exact Nat.le_add_right _ 1
end
def dotT (val : Int → Int) (ps : List (Int × Int)) : Int := ps.foldl (fun t p => t + p.1 * val p.2) 0
def linSat (nm : Str) (fs xs : List Int) (c : Int) (val : Int → Int) : Bool :=
  if (nm == Str.ofString "linear_le") = true then decide (dotT val (fs.zip xs) ≤ c) else (dotT val (fs.zip xs) == c) == (nm == Str.ofString "linear_eq")
section
variable {prog : Program} {w : World} {A : Around} {E : Value → Shared → Prop} {s : Shared} {h₀ : Heap} {L : Addr} {m : Str → Option Value} {news : List (Addr × Obj)}
/-- sorted over a list or a tuple of ints: a new list, a permutation, rising -/
theorem sorted_seq {T : String} {it : Addr} {o : Obj} {vs : Array Value} {ns : List Int} {n : Nat} {Q : Value → Shared → Prop} (hT : T = "list" ∨ T = "tuple") (F : Fr h₀ L s.heap m) (N : News h₀ L s.heap news)
    (ho : s.heap.get? it = some o) (hc : o.cls = .type T) (hd : o.data = .seq vs n) (hI : IntsAre vs.toList ns) (h64 : vs.size < 64)
    (k : ∀ D vs' ns' e h', Fr h₀ L h' m → News h₀ L h' ((D, listOf vs' e) :: news) → (∀ p ∈ news, p.1 < D) → IntsAre vs'.toList ns' → ns'.Perm ns → ns'.Pairwise (· ≤ ·) → Q (.ref D) { s with heap := h' }) :
    wpAny (model prog w) A (call (.builtin "sorted") [.ref it]) Q E s := by
  refine Calls.call_function_entry kind_sorted plain_sorted entry_sorted (args_sorted1 _) ?_
  unfold Builtin.«sorted»
  refine wpAny_bind (m := checkCount "sorted" 1 1 _) (wpAny_pure ?_)
  refine wpAny_bind (wpAny_collect_seq (hsz := by have : (64 : Nat) ≤ sizeLine := by decide
                                                  omega) it hT ho hc hd fun g up => ?_)
  refine wpAny_bind (wpAny_newList (hsz := by rw [Array.length_toList]; have : (64 : Nat) ≤ sizeLine := by decide
                                              omega) ?_)
  have hoL : (g.push (seqObj "list" vs.toList.toArray 0)).get? g.objs.size = some (seqObj "list" vs.toList.toArray 0) := Heap.get?_push_size _ rfl
  refine wpAny_bind (wpAny_holding (wpAny_call_entry slot_list_sort ⟨_, hoL, rfl⟩ entry_list_sort (list_sort_tree (s := { s with heap := g.push (seqObj "list" vs.toList.toArray 0) }) hoL hI (by rw [Array.length_toList]; exact h64) fun out ns' a1 a2 a3 => ⟨_, rfl, ?_⟩) (args_list_sort _)))
  refine wpAny_pure ⟨_, rfl, ?_⟩
  obtain ⟨e, he⟩ := sortedHeap_at (out := out) hoL
  have Fg := F.keeps up
  have old : ∀ b o, g.get? b = some o → (sortedHeap (g.push (seqObj "list" vs.toList.toArray 0)) g.objs.size vs.toList out).get? b = some o := fun b o q => by
    have hlt := Heap.lt_size q
    rw [sortedHeap_old (Nat.ne_of_lt hlt) (by rw [Heap.size_push]; exact Nat.lt_succ_of_lt hlt)]
    exact Heap.get?_push_of_some _ q
  exact k g.objs.size out ns' e _ (Fg.keeps old) (News.kept_cons Fg (N.grown up) old (Nat.le_refl _) he) (fun p hp => Heap.lt_size (N.grown up p hp).1) a1 a2 a3
end
def lexSat (vs us : List Int) : Bool := match vs, us with
  | [a, b], [c, d] => decide (a < c) || (a == c && decide (b < d))
  | _, _ => false
section
variable {prog : Program} {w : World} {A : Around} {E : Value → Shared → Prop} {s : Shared} {h₀ : Heap} {L : Addr} {m : Str → Option Value} {news : List (Addr × Obj)}
theorem IsTup_typeIs {a : Addr} {its : Array Value} (h : IsTup s.heap a its) : s.TypeIs (.ref a) "tuple" := let ⟨o, ho, hc, _⟩ := h; ⟨o, ho, hc⟩
theorem tup_lt_tree {a b : Addr} {x1 x2 y1 y2 : Int} {t1 t2 u1 u2 : Tok} {P : PySem.Fin → Shared → Prop} (ha : IsTup s.heap a #[.int x1 t1, .int x2 t2]) (hb : IsTup s.heap b #[.int y1 u1, .int y2 u2])
    (h : P (.done (.ret (.bool (lexSat [x1, x2] [y1, y2])))) s) :
    wpAny (model prog w) A (Builtin.«tuple.__lt__» ⟨[.ref a, .ref b], []⟩) P E s := by
  have hTb := IsTup_typeIs hb
  obtain ⟨oa, hoa, _, na, hda⟩ := ha
  obtain ⟨ob, hob, _, nb, hdb⟩ := hb
  show wpAny _ _ (isInstance (.ref b) (.type "tuple") >>= _) _ _ s
  refine wpAny_bind (wpAny_isInstance hTb isSubtype_tuple_tuple ?_)
  simp only [Bool.not_true, Bool.false_eq_true, if_false]
  refine wpAny_bind (wpAny_tupleItemsOf hoa hda ?_)
  refine wpAny_bind (wpAny_tupleItemsOf hob hdb ?_)
  refine wpAny_bind ?_
  simp only [List.zip_cons_cons, List.zip_nil_left, List.forIn_cons, List.forIn_nil]
  refine wpAny_bind (wpAny_bind (wpAny_eqBool_int ?_))
  by_cases e1 : x1 = y1
  · subst e1
    simp only [beq_self_eq_true, Bool.not_true, Bool.false_eq_true, if_false]
    refine wpAny_pure ?_
    dsimp only
    refine wpAny_bind (wpAny_bind (wpAny_eqBool_int ?_))
    by_cases e2 : x2 = y2
    · subst e2
      simp only [beq_self_eq_true, Bool.not_true, Bool.false_eq_true, if_false]
      refine wpAny_pure (wpAny_pure (wpAny_pure ?_))
      have : lexSat [x1, x2] [x1, x2] = false := by simp [lexSat]
      rw [this] at h
      exact h
    · have e2' : (x2 == y2) = false := by simp [e2]
      simp only [e2', Bool.not_false, if_true]
      refine wpAny_bind (wpAny_rule (wpAny_bind (lt_int (wpAny_bind (wpAny_pure (wpAny_pure (wpAny_pure ?_)))))))
      have : lexSat [x1, x2] [x1, y2] = decide (x2 < y2) := by simp [lexSat]
      rw [this] at h
      exact wpAny_pure h
  · have e1' : (x1 == y1) = false := by simp [e1]
    simp only [e1', Bool.not_false, if_true]
    refine wpAny_bind (wpAny_rule (wpAny_bind (lt_int (wpAny_bind (wpAny_pure (wpAny_pure (wpAny_pure ?_)))))))
    have : lexSat [x1, x2] [y1, y2] = decide (x1 < y1) := by simp [lexSat, e1]
    rw [this] at h
    exact wpAny_pure h
theorem tup_lt2 {a b : Addr} {x1 x2 y1 y2 : Int} {t1 t2 u1 u2 : Tok} {Q : Value → Shared → Prop} (ha : IsTup s.heap a #[.int x1 t1, .int x2 t2]) (hb : IsTup s.heap b #[.int y1 u1, .int y2 u2]) (hu : A.units < cLine)
    (h : Q (.bool (lexSat [x1, x2] [y1, y2])) s) : wpAny (model prog w) A (compareOp .Lt (.ref a) (.ref b)) Q E s := by
  show wpAny _ _ (richCompare .Lt (.ref a) (.ref b)) _ _ s
  exact wpAny_richCompare_same_room (op := .Lt) (IsTup_typeIs ha) (IsTup_typeIs hb) PySem.F.slot_tuple_lt
    (wpAny_call_entry PySem.F.slot_tuple_lt (IsTup_typeIs ha) PySem.F.entry_tuple_lt (tup_lt_tree ha hb ⟨_, rfl, (fun e => nomatch e), h⟩) (PySem.F.args_tuple_lt_2 _ _)) hu
theorem count_tup {a : Addr} {vs : List Value} {ns : List Int} {k : Int} {t : Tok} {Q : Value → Shared → Prop} (ht : IsTup s.heap a vs.toArray) (hi : IntsAre vs ns)
    (h : Q (.int (ns.count k : Nat) s.toks) { s with toks := s.toks + 1 }) : wpAny (model prog w) A (call (.builtin "tuple.count") [.ref a, .int k t]) Q E s := by
  obtain ⟨⟨cls, dd, data, sl⟩, ho, hc, n, hd⟩ := id ht
  simp only at hc hd
  subst hc hd
  refine call_meets PySem.F.slot_tuple_count ⟨_, ho, rfl⟩ PySem.F.entry_tuple_count (PySem.F.args_tuple_count_2 _ _) (PySem.SeqAt.tuple_countAt a vs.toArray n dd sl (.int k t) (isInt k)) ⟨ho, fun y hy => (eq_isInt k t hi y (by simpa using hy)).at _ _, ?_⟩
  rw [show vs.toArray.toList = vs from rfl, countP_isInt k hi]
  exact h
end

end
section
def extSat (nm : Str) (vs : List Int) (z : Int) : Bool :=
  decide (z ∈ vs) && vs.all (fun v => if (nm == Str.ofString "max") = true then decide (v ≤ z) else decide (z ≤ v))
theorem extSat_perm {nm : Str} {ps qs : List Int} {z : Int} (h : ps.Perm qs) : extSat nm qs z = extSat nm ps z := by
  simp only [extSat, h.mem_iff, List.Perm.all_eq h]
def elemSat (vs : List Int) (a z : Int) : Bool := decide (1 ≤ a) && decide (a ≤ vs.length) && (vs[(a - 1).toNat]? == some z)
theorem elem_in {vs : List Int} {a z : Int} (h : 1 ≤ a) (h2 : a ≤ vs.length) : (vs.getD (a - 1).toNat 0 == z) = elemSat vs a z := by
  have h3 : (a - 1).toNat < vs.length := by omega
  unfold elemSat
  rw [List.getD_eq_getElem?_getD, List.getElem?_eq_getElem h3, decide_eq_true h, decide_eq_true h2]
  simp
theorem elem_out1 {vs : List Int} {a n z : Int} (h : ¬ a ≤ n) (h2 : n = vs.length) : decide (a ≤ n) = elemSat vs a z := by
  subst h2; simp [elemSat, h]
theorem elem_out2 {vs : List Int} {a z : Int} (h : ¬ 1 ≤ a) : decide (1 ≤ a) = elemSat vs a z := by
  simp [elemSat, h]
def diffs (vs : List Int) : Nat := ((List.range vs.length).filter fun k => !(vs.take k).contains (vs.getD k 0)).length
theorem place_in {a b x : Int} : (Builtin.Range.rangePlace? a b 1 x).isSome = decide (a ≤ x ∧ x < b) := by
  unfold Builtin.Range.rangePlace?
  have h1 : (1 : Int) > 0 := by omega
  simp only [h1, if_true, Int.emod_one, beq_self_eq_true, Bool.and_true]
  by_cases h : a ≤ x ∧ x < b
  · simp [h]
  · have : (decide (a ≤ x) && decide (x < b)) = false := by simpa using h
    simp only [this, Bool.false_eq_true, if_false, Option.isSome_none]
    exact (decide_eq_false h).symm
theorem meets_range_in (r : Addr) (x a b : Int) (xt t u v : Tok) :
    Meets (Builtin.«range.__contains__» ⟨[.ref r, .int x xt], []⟩) (fun _ R s => IsRange s.heap r a b 1 t u v ∧ R (.ok (.ret (.bool (decide (a ≤ x ∧ x < b))))) s) :=
  .of_wp fun prog w A R s h => by
    obtain ⟨hp, g, d, tk, os⟩ := s; obtain ⟨hr, h⟩ := h
    rw [← place_in] at h
    have hr' : hp.get? r = some _ := hr
    unfold Builtin.«range.__contains__»
    wp_walk
    exact ⟨_, rfl, h⟩
section
variable {prog : Program} {w : World} {A : Around} {E : Value → Shared → Prop} {s : Shared} {h₀ : Heap} {L : Addr} {m : Str → Option Value} {news : List (Addr × Obj)}
theorem in_range {r : Addr} {x a b : Int} {xt t u v : Tok} {Q : Value → Shared → Prop} (hr : IsRange s.heap r a b 1 t u v) (h : Q (.bool (decide (a ≤ x ∧ x < b))) s) : wpAny (model prog w) A (compareOp .In (.int x xt) (.ref r)) Q E s :=
  PySem.SeqRoads2.in_meets ⟨_, hr, rfl⟩ PySem.F.slot_range_contains PySem.F.entry_range_contains (PySem.F.args_range_contains_2 _ _) (meets_range_in r x a b xt t u v) ⟨hr, _, rfl, h⟩
theorem set_ints {l : Addr} {vs : Array Value} {ns : List Int} {n : Nat} {Q : Value → Shared → Prop} (hh : A.handled = none) (F : Fr h₀ L s.heap m) (N : News h₀ L s.heap news) (hm : (l, listOf vs n) ∈ news) (hi : IntsAre vs.toList ns) (hz : vs.size ≤ 8)
    (k : ∀ d h' tk S, Fr h₀ L h' m → News h₀ L h' news → h'.SetOf (PySem.intKind prog w) d S (firstMet (fun i => ns.getD i 0) vs.size).length → Q (.ref d) { s with heap := h', toks := tk }) :
    wpAny (model prog w) A (call (.type "set") [.ref l]) Q E s := by
  refine call_set_list hh (l := l) (items := vs) ⟨_, (N _ hm).1, rfl, _, rfl⟩ hi (Nat.lt_of_le_of_lt (Nat.succ_le_succ hz) (by decide)) fun h' tk hS up => ?_
  have up' : ∀ b o, s.heap.get? b = some o → h'.get? b = some o := fun b o e => up b o (Heap.lt_size e) e
  exact k _ h' tk _ (F.keeps up') (N.grown up') hS
theorem len_set {d : Addr} {S : Int → Bool} {n : Nat} {Q : Value → Shared → Prop} (hS : s.heap.SetOf (PySem.intKind prog w) d S n) (hz : n ≤ 8) (h : ∀ t tk, Q (.int (n : Int) t) { s with toks := tk }) : wpAny (model prog w) A (call (.builtin "len") [.ref d]) Q E s := by
  obtain ⟨o, es, ep, t, ho, hex, hd, _, _, _, hf, rfl⟩ := hS
  exact call_len_set ho hex hd hf (by omega) (h _ _)
end
theorem map_getD_take {ns : List Int} : ∀ {k : Nat}, k ≤ ns.length → (List.range k).map (fun i => ns.getD i 0) = ns.take k
  | 0, _ => by simp
  | k + 1, h => by
    rw [List.range_succ, List.map_append, map_getD_take (by omega), take_snoc (x := ns.getD k 0) (by rw [List.getD_eq_getElem?_getD, List.getElem?_eq_getElem (by omega)]; rfl)]
    rfl
theorem firstMet_len {ns : List Int} : ∀ {k : Nat}, k ≤ ns.length → (firstMet (fun i => ns.getD i 0) k).length = ((List.range k).filter fun k => !(ns.take k).contains (ns.getD k 0)).length
  | 0, _ => rfl
  | k + 1, h => by
    have ih := firstMet_len (ns := ns) (k := k) (by omega)
    rw [firstMet_succ, step_length, firstMet_any, map_getD_take (by omega), List.range_succ, List.filter_append, List.length_append, ih]
    have e : (ns.take k).any (· == ns.getD k 0) = (ns.take k).contains (ns.getD k 0) := by
      rw [Bool.eq_iff_iff]; simp [List.any_eq_true]
    rw [e]
    cases hc : (ns.take k).contains (ns.getD k 0)
    · simp only [List.filter_cons, List.filter_nil, hc, Bool.not_false, if_true, Bool.false_eq_true, if_false, List.length_singleton]
    · simp only [List.filter_cons, List.filter_nil, hc, Bool.not_true, if_true, Bool.false_eq_true, if_false, List.length_nil, Nat.add_zero]
theorem firstMet_diffs {ns : List Int} {k : Nat} (h : k = ns.length) : (firstMet (fun i => ns.getD i 0) k).length = diffs ns := by
  subst h; exact firstMet_len (Nat.le_refl _)
theorem diffs_le {ns : List Int} : diffs ns ≤ ns.length := by
  unfold diffs
  exact Nat.le_trans (List.length_filter_le _ _) (by simp)

end
section
set_option genInjectivity false
set_option genSizeOf false
abbrev PG : Program := PySem.Challenge.rw_pc0054_01.row.prog
/-- values as mathematics: no places, no tokens -/
inductive AV where
  | none
  | bool (b : Bool)
  | int (n : Int)
  | str (x : Str)
  | tup (l : List AV)
  | lst (l : List AV)
  | rng (a b : Int)
  | map (f : Int → Option Int)
  | obj (c : Addr) (n1 : Str) (a1 : AV) (n2 : Str) (a2 : AV)
  | ils (xs : List Int)
  | lit (v : Value)
/-- objects known to stand for good -/
abbrev Kn := Addr → Obj → Prop
/-- an object's own two names -/
def TwoIn (n1 : Str) (v1 : Value) (n2 : Str) (v2 : Value) (o : Obj) : Prop := ∃ h1 h2 t1 t2, o = dictOf [⟨h1, .str n1 t1, v1⟩, ⟨h2, .str n2 t2, v2⟩] 2
mutual
def Rel (S : Kn) : AV → Value → Prop
  | .none, v => v = .none
  | .bool b, v => v = .bool b
  | .int n, v => ∃ t, v = .int n t
  | .str x, v => ∃ t, v = .str x t
  | .tup l, v => ∃ p o n vs, v = .ref p ∧ S p o ∧ o.cls = .type "tuple" ∧ o.dict = Option.none ∧ o.data = .seq (List.toArray vs) n ∧ RelL S l vs
  | .lst l, v => ∃ p o n vs, v = .ref p ∧ S p o ∧ o = listOf (List.toArray vs) n ∧ RelL S l vs
  | .rng a b, v => ∃ p o, v = .ref p ∧ S p o ∧ ∀ h : Heap, h.get? p = some o → ∃ t u w, IsRange h p a b 1 t u w
  | .map f, v => ∃ p o g, v = .ref p ∧ S p o ∧ (∀ h : Heap, h.get? p = some o → h.IntMap p g) ∧ ∀ k x, f k = some x → ∃ t, g k = some (.int x t)
  | .obj c n1 a1 n2 a2, v => ∃ p d o v1 v2, (v = .ref p ∧ S p (instObj c d) ∧ TwoIn n1 v1 n2 v2 o) ∧ S d o ∧ Rel S a1 v1 ∧ Rel S a2 v2
  | .ils xs, v => ∃ p o n vs, v = .ref p ∧ S p o ∧ o.cls = .type "list" ∧ o.data = .seq (List.toArray vs) n ∧ IntsAre vs xs
  | .lit w, v => v = w
def RelL (S : Kn) : List AV → List Value → Prop
  | [], vs => vs = []
  | a :: l, vs => ∃ v ws, vs = v :: ws ∧ Rel S a v ∧ RelL S l ws
end
mutual
theorem Rel.mono {S S' : Kn} (k : ∀ a o, S a o → S' a o) : ∀ {a : AV} {v : Value}, Rel S a v → Rel S' a v
  | .none, _, h => h
  | .bool _, _, h => h
  | .int _, _, h => h
  | .str _, _, h => h
  | .tup _, _, h => let ⟨p, o, n, vs, e, h, a, b, c, r⟩ := h; ⟨p, o, n, vs, e, k _ _ h, a, b, c, RelL.mono k r⟩
  | .lst _, _, h => let ⟨p, o, n, vs, e, h, a, r⟩ := h; ⟨p, o, n, vs, e, k _ _ h, a, RelL.mono k r⟩
  | .rng _ _, _, h => let ⟨p, o, e, h, r⟩ := h; ⟨p, o, e, k _ _ h, r⟩
  | .map _, _, h => let ⟨p, o, g, e, h, r⟩ := h; ⟨p, o, g, e, k _ _ h, r⟩
  | .obj _ _ _ _ _, _, h => let ⟨p, d, o, v1, v2, e, b, r1, r2⟩ := h; ⟨p, d, o, v1, v2, ⟨e.1, k _ _ e.2.1, e.2.2⟩, k _ _ b, Rel.mono k r1, Rel.mono k r2⟩
  | .ils _, _, h => let ⟨p, o, n, vs, e, h, r⟩ := h; ⟨p, o, n, vs, e, k _ _ h, r⟩
  | .lit _, _, h => h
theorem RelL.mono {S S' : Kn} (k : ∀ a o, S a o → S' a o) : ∀ {l : List AV} {vs : List Value}, RelL S l vs → RelL S' l vs
  | [], _, h => h
  | _ :: _, _, h => let ⟨v, ws, e, h, r⟩ := h; ⟨v, ws, e, Rel.mono k h, RelL.mono k r⟩
end
section
variable {S : Kn}
theorem RelL.nil : RelL S [] [] := rfl
theorem RelL.cons {a : AV} {v : Value} {l : List AV} {vs : List Value} (h : Rel S a v) (r : RelL S l vs) : RelL S (a :: l) (v :: vs) := ⟨v, vs, rfl, h, r⟩
theorem Rel.none : Rel S .none .none := rfl
theorem Rel.bool (b : Bool) : Rel S (.bool b) (.bool b) := rfl
theorem Rel.int (n : Int) (t : Tok) : Rel S (.int n) (.int n t) := ⟨t, rfl⟩
theorem Rel.str (x : Str) (t : Tok) : Rel S (.str x) (.str x t) := ⟨t, rfl⟩
theorem Rel.lit (v : Value) : Rel S (.lit v) v := rfl
theorem Rel.tup {p : Addr} {o : Obj} {n : Nat} {l : List AV} {vs : List Value} (h : S p o) (hc : o.cls = .type "tuple") (hn : o.dict = Option.none) (hd : o.data = .seq vs.toArray n) (r : RelL S l vs) : Rel S (.tup l) (.ref p) := ⟨p, o, n, vs, rfl, h, hc, hn, hd, r⟩
theorem Rel.lst {p : Addr} {o : Obj} {n : Nat} {l : List AV} {vs : List Value} (h : S p o) (_hc : o.cls = .type "list") (hd : o = listOf vs.toArray n) (r : RelL S l vs) : Rel S (.lst l) (.ref p) := ⟨p, o, n, vs, rfl, h, hd, r⟩
theorem Rel.ofBool {b : Bool} {v : Value} (h : Rel S (.bool b) v) : v = .bool b := h
theorem Rel.ofInt {n : Int} {v : Value} (h : Rel S (.int n) v) : ∃ t, v = .int n t := h
theorem Rel.ofStr {x : Str} {v : Value} (h : Rel S (.str x) v) : ∃ t, v = .str x t := h
theorem Rel.ofLit {w v : Value} (h : Rel S (.lit w) v) : v = w := h
theorem Rel.ofTup {l : List AV} {v : Value} (h : Rel S (.tup l) v) : ∃ p o n vs, v = .ref p ∧ S p o ∧ o.cls = .type "tuple" ∧ o.dict = Option.none ∧ o.data = .seq (List.toArray vs) n ∧ RelL S l vs := h
theorem Rel.ofLstX {l : List AV} {v : Value} (h : Rel S (.lst l) v) : ∃ p n vs, v = .ref p ∧ S p (listOf (List.toArray vs) n) ∧ RelL S l vs := by
  obtain ⟨p, _, n, vs, e, hp, rfl, r⟩ := h
  exact ⟨p, n, vs, e, hp, r⟩
theorem Rel.ofLst {l : List AV} {v : Value} (h : Rel S (.lst l) v) : ∃ p o n vs, v = .ref p ∧ S p o ∧ o.cls = .type "list" ∧ o.data = .seq (List.toArray vs) n ∧ RelL S l vs := by
  obtain ⟨p, n, vs, e, hp, r⟩ := h.ofLstX
  exact ⟨p, _, n, vs, e, hp, rfl, rfl, r⟩
theorem RelL.ofNil {vs : List Value} (h : RelL S [] vs) : vs = [] := h
theorem RelL.ofCons {a : AV} {l : List AV} {vs : List Value} (h : RelL S (a :: l) vs) : ∃ v ws, vs = v :: ws ∧ Rel S a v ∧ RelL S l ws := h
theorem RelL.one {a : AV} {vs : List Value} (r : RelL S [a] vs) : ∃ v, vs = [v] ∧ Rel S a v := let ⟨v, ws, e, h, q⟩ := r.ofCons; ⟨v, by rw [e, q.ofNil], h⟩
theorem RelL.two {a b : AV} {vs : List Value} (r : RelL S [a, b] vs) : ∃ v w, vs = [v, w] ∧ Rel S a v ∧ Rel S b w := let ⟨v, _, e, h, q⟩ := r.ofCons; let ⟨w, e', h'⟩ := q.one; ⟨v, w, by rw [e, e'], h, h'⟩
theorem RelL.length : ∀ {l : List AV} {vs : List Value}, RelL S l vs → l.length = vs.length
  | [], _, h => by rw [h.ofNil]; rfl
  | _ :: _, _, h => let ⟨_, _, e, _, r⟩ := h.ofCons; by rw [e, List.length_cons, List.length_cons, r.length]
theorem RelL.get : ∀ {l : List AV} {vs : List Value}, RelL S l vs → ∀ {i : Nat} {a : AV}, l[i]? = some a → ∃ v, vs[i]? = some v ∧ Rel S a v
  | [], _, _, _, _, e => by simp at e
  | _ :: _, _, h, i, _, e => by
    obtain ⟨v, ws, rfl, h, r⟩ := h.ofCons
    cases i with
    | zero => cases e; exact ⟨v, rfl, h⟩
    | succ i => exact r.get e
theorem RelL.get' : ∀ {l : List AV} {vs : List Value}, RelL S l vs → ∀ {i : Nat} {v : Value}, vs[i]? = some v → ∃ a, l[i]? = some a ∧ Rel S a v
  | [], _, h, _, _, e => by rw [h.ofNil] at e; simp at e
  | a :: _, _, h, i, _, e => by
    obtain ⟨v, ws, rfl, h, r⟩ := h.ofCons
    cases i with
    | zero => cases e; exact ⟨a, rfl, h⟩
    | succ i => exact r.get' e
theorem RelL.append : ∀ {l l' : List AV} {vs vs' : List Value}, RelL S l vs → RelL S l' vs' → RelL S (l ++ l') (vs ++ vs')
  | [], _, _, _, h, r => by rw [h.ofNil]; exact r
  | _ :: _, _, _, _, h, r => by obtain ⟨v, ws, rfl, h, q⟩ := h.ofCons; exact .cons h (q.append r)
theorem RelL.drop : ∀ {l : List AV} {vs : List Value} (k : Nat), RelL S l vs → RelL S (l.drop k) (vs.drop k)
  | _, _, 0, r => r
  | [], _, _ + 1, h => by rw [h.ofNil]; exact .nil
  | _ :: _, _, k + 1, h => by obtain ⟨v, ws, rfl, _, q⟩ := h.ofCons; exact q.drop k
theorem RelL.take : ∀ {l : List AV} {vs : List Value} (k : Nat), RelL S l vs → RelL S (l.take k) (vs.take k)
  | _, _, 0, _ => .nil
  | [], _, _ + 1, h => by rw [h.ofNil]; exact .nil
  | _ :: _, _, k + 1, h => by obtain ⟨v, ws, rfl, h, q⟩ := h.ofCons; exact .cons h (q.take k)
theorem RelL.ints : ∀ {xs : List Int} {vs : List Value}, RelL S (xs.map .int) vs → IntsAre vs xs
  | [], _, h => by rw [h.ofNil]; exact .nil
  | _ :: _, _, h => by obtain ⟨v, ws, rfl, h, q⟩ := h.ofCons; obtain ⟨t, rfl⟩ := h.ofInt; exact .cons _ _ q.ints
theorem RelL.of_ints : ∀ {xs : List Int} {vs : List Value}, IntsAre vs xs → RelL S (xs.map .int) vs
  | _, _, .nil => .nil
  | _, _, .cons n t r => .cons (.int n t) (RelL.of_ints r)
theorem RelL.strs : ∀ {ss : List Str} {vs : List Value}, RelL S (ss.map .str) vs → StrsAre vs ss
  | [], _, h => by rw [h.ofNil]; exact .nil
  | _ :: _, _, h => by obtain ⟨v, ws, rfl, h, q⟩ := h.ofCons; obtain ⟨t, rfl⟩ := h.ofStr; exact .cons _ _ q.strs
end
/-- what stands at a mutable place -/
inductive CV where
  | lst (l : List AV)
  | dic (l : List (Int × AV))
  | raw (o : Obj)
  | ins (l : List (Str × AV))
abbrev Sto := List (Addr × CV)
abbrev Nms := List (Str × AV)
/-- the entries of an object's own names -/
def InsL (S : Kn) : List (Str × AV) → List DictEntry → Prop
  | [], es => es = []
  | (x, a) :: l, es => ∃ h t v r, es = ⟨h, .str x t, v⟩ :: r ∧ Rel S a v ∧ InsL S l r
theorem InsL.mono {S S' : Kn} (k : ∀ a o, S a o → S' a o) : ∀ {l : List (Str × AV)} {es : List DictEntry}, InsL S l es → InsL S' l es
  | [], _, h => h
  | (_, _) :: _, _, ⟨h, t, v, r, e, q, z⟩ => ⟨h, t, v, r, e, q.mono k, InsL.mono k z⟩
def Cont (w : World) (S : Kn) (p : Addr) : CV → Obj → Prop
  | .lst l, o => ∃ n vs, o = listOf (List.toArray vs) n ∧ RelL S l vs
  | .dic l, o => ∃ kvs : List (Int × Value), o.IsDictOf (PySem.intKind PG w) kvs ∧ (p == sysModules) = false ∧ kvs.length ≤ l.length ∧ ∀ k, (∀ a, l.lookup k = some a → ∃ v, valueAt kvs k = some v ∧ Rel S a v) ∧ (l.lookup k = .none → valueAt kvs k = Option.none)
  | .raw o', o => o = o'
  | .ins l, o => ∃ es, o = dictOf es l.length ∧ InsL S l es
theorem Cont.mono {w : World} {S S' : Kn} (k : ∀ a o, S a o → S' a o) {p : Addr} : ∀ {c : CV} {o : Obj}, Cont w S p c o → Cont w S' p c o
  | .lst _, _, ⟨n, vs, e, r⟩ => ⟨n, vs, e, r.mono k⟩
  | .dic _, _, ⟨kvs, d, e, z, f⟩ => ⟨kvs, d, e, z, fun x => ⟨fun a h => let ⟨v, h', r⟩ := (f x).1 a h; ⟨v, h', r.mono k⟩, (f x).2⟩⟩
  | .raw _, _, h => h
  | .ins _, _, ⟨es, e, z⟩ => ⟨es, e, z.mono k⟩
def StoL (w : World) (S : Kn) : Sto → List (Addr × Obj) → Prop
  | [], st => st = []
  | (p, c) :: σ, st => ∃ o r, st = (p, o) :: r ∧ Cont w S p c o ∧ StoL w S σ r
section
variable {w : World} {S : Kn}
theorem StoL.nil : StoL w S [] [] := rfl
theorem StoL.cons {p : Addr} {c : CV} {o : Obj} {σ : Sto} {st : List (Addr × Obj)} (h : Cont w S p c o) (r : StoL w S σ st) : StoL w S ((p, c) :: σ) ((p, o) :: st) := ⟨o, st, rfl, h, r⟩
theorem StoL.ofNil {st : List (Addr × Obj)} (h : StoL w S [] st) : st = [] := h
theorem StoL.ofCons {p : Addr} {c : CV} {σ : Sto} {st : List (Addr × Obj)} (h : StoL w S ((p, c) :: σ) st) : ∃ o r, st = (p, o) :: r ∧ Cont w S p c o ∧ StoL w S σ r := h
theorem StoL.mono {S' : Kn} (k : ∀ a o, S a o → S' a o) : ∀ {σ : Sto} {st : List (Addr × Obj)}, StoL w S σ st → StoL w S' σ st
  | [], _, h => h
  | (_, _) :: _, _, h => by obtain ⟨o, r, rfl, h, q⟩ := h.ofCons; exact .cons (h.mono k) (q.mono k)
theorem StoL.app : ∀ {σ σ' : Sto} {st st' : List (Addr × Obj)}, StoL w S σ st → StoL w S σ' st' → StoL w S (σ ++ σ') (st ++ st')
  | [], _, _, _, h, r => by rw [h.ofNil]; exact r
  | (_, _) :: _, _, _, _, h, r => by obtain ⟨o, st, rfl, h, q⟩ := h.ofCons; exact .cons h (q.app r)
theorem StoL.split : ∀ {σ σ' : Sto} {st : List (Addr × Obj)}, StoL w S (σ ++ σ') st → ∃ a b, st = a ++ b ∧ StoL w S σ a ∧ StoL w S σ' b
  | [], _, st, h => ⟨[], st, rfl, .nil, h⟩
  | (_, _) :: _, _, _, h => by obtain ⟨o, st, rfl, h', q⟩ := h.ofCons; obtain ⟨a, b, rfl, x, y⟩ := q.split; exact ⟨_ :: a, b, rfl, .cons h' x, y⟩
theorem StoL.get : ∀ {σ : Sto} {st : List (Addr × Obj)}, StoL w S σ st → ∀ {i : Nat} {p : Addr} {c : CV}, σ[i]? = some (p, c) → ∃ o, (p, o) ∈ st ∧ Cont w S p c o
  | [], _, _, _, _, _, e => by simp at e
  | (_, _) :: _, _, h, i, _, _, e => by
    obtain ⟨o, r, rfl, h, q⟩ := h.ofCons
    cases i with
    | zero => cases e; exact ⟨o, .head _, h⟩
    | succ i => obtain ⟨o, x, y⟩ := q.get e; exact ⟨o, .tail _ x, y⟩
end

/-- a function's run: what stays the same through it -/
structure Cx (n u : Nat) where
  w : World
  mean : ExcName → Option Value
  mg : Str → Option Value
  mb : Str → Option Value
  dp : Nat
  un : Nat
  fr : Option (List Env)
  gd : Option (List Code)
  h₀ : Heap
  L : Addr
  S₀ : Kn
  g : Array GenState
  d : Drawn
  o : OsState
  X : (hd.heap_1 w.params).In h₀
  T : Top hd.view_1 (looseW hd.view_1 []) mean mg mb h₀
  sub : ∀ a ob, S₀ a ob → h₀.get? a = some ob
  kn : ∀ a ob, (hd.heap_1 w.params).lookup a = some ob → S₀ a ob
  room : dp + 19 + 20 * n < recursionLimit
  units : un + u < cLine
section
variable {n u : Nat}
abbrev Cx.A (Γ : Cx n u) : Around := { handled := none, depth := Γ.dp, frames := Γ.fr, guards := Γ.gd, units := Γ.un }
abbrev Cx.st (Γ : Cx n u) (h : Heap) (tk : Nat) : Shared := ⟨h, Γ.g, Γ.d, tk, Γ.o⟩
abbrev Cx.M (Γ : Cx n u) : Model := model PG Γ.w
def Cx.S (Γ : Cx n u) (imm : List (Addr × Obj)) : Kn := fun a ob => Γ.S₀ a ob ∨ (a, ob) ∈ imm
theorem Cx.S_mono {Γ : Cx n u} {imm imm' : List (Addr × Obj)} (k : ∀ p ∈ imm, p ∈ imm') : ∀ a o, Γ.S imm a o → Γ.S imm' a o := fun _ _ h => h.imp id (k _)
/-- the frame, the ledger: the store (σ), what else may change (mu), what stands for good (imm) -/
structure Led (Γ : Cx n u) (m : Str → Option Value) (σ : Sto) (mu imm : List (Addr × Obj)) (h : Heap) : Prop where
  F : Fr Γ.h₀ Γ.L h m
  ex : ∃ st, StoL Γ.w (Γ.S imm) σ st ∧ News Γ.h₀ Γ.L h (st ++ (mu ++ imm)) ∧ ((st ++ (mu ++ imm)).map (·.1)).Nodup
section
variable {Γ : Cx n u} {m m' : Str → Option Value} {σ σ' : Sto} {mu imm new l : List (Addr × Obj)} {h h' : Heap}
theorem Led.all (L : Led Γ m σ mu imm h) : News Γ.h₀ Γ.L h (mu ++ imm) := let ⟨_, _, N, _⟩ := L.ex; fun p hp => N p (List.mem_append_right _ hp)
theorem Led.muN (L : Led Γ m σ mu imm h) : News Γ.h₀ Γ.L h mu := fun p hp => L.all p (List.mem_append_left _ hp)
theorem Led.get (L : Led Γ m σ mu imm h) {a : Addr} {o : Obj} (x : Γ.S imm a o) : h.get? a = some o :=
  x.elim (fun x => L.F.keep _ _ (Γ.sub _ _ x)) fun x => (L.all _ (List.mem_append_right _ x)).1
/-- a ledger from a list of its objects in any order -/
theorem Led.of {st : List (Addr × Obj)} (F : Fr Γ.h₀ Γ.L h m) (S : StoL Γ.w (Γ.S imm) σ st) (N : News Γ.h₀ Γ.L h l) (nd : (l.map (·.1)).Nodup) (p : l.Perm (st ++ (mu ++ imm))) : Led Γ m σ mu imm h :=
  ⟨F, st, S, fun q hq => N q (p.mem_iff.mpr hq), (p.map _).nodup_iff.mp nd⟩
/-- all that stood stands: the ledger stays -/
theorem Led.grown (L : Led Γ m σ mu imm h) (k : ∀ b o, h.get? b = some o → h'.get? b = some o) : Led Γ m σ mu imm h' := let ⟨st, S, N, nd⟩ := L.ex; ⟨L.F.keeps k, st, S, N.grown k, nd⟩
/-- a new object is no frame and not of old -/
theorem Led.fresh (L : Led Γ m σ mu imm h) {a : Addr} (e : h.get? a = none) : a ≠ Γ.L ∧ Γ.h₀.get? a = none := by
  refine ⟨fun q => ?_, ?_⟩
  · obtain ⟨o, _, _, ho, _⟩ := L.F.ns
    rw [q, ho] at e; cases e
  · cases q : Γ.h₀.get? a with
    | none => rfl
    | some o => rw [L.F.keep _ _ q] at e; cases e
theorem news_app {a b : List (Addr × Obj)} (x : News Γ.h₀ Γ.L h a) (y : News Γ.h₀ Γ.L h b) : News Γ.h₀ Γ.L h (a ++ b) := fun p hp => (List.mem_append.mp hp).elim (x p) (y p)
theorem nodup_app {a b : List (Addr × Obj)} (x : (a.map (·.1)).Nodup) (y : (b.map (·.1)).Nodup) (z : ∀ p ∈ a, ∀ q ∈ b, p.1 ≠ q.1) : ((a ++ b).map (·.1)).Nodup := by
  rw [List.map_append, List.nodup_append]
  refine ⟨x, y, fun i hi j hj => ?_⟩
  obtain ⟨p, hp, rfl⟩ := List.mem_map.mp hi
  obtain ⟨q, hq, rfl⟩ := List.mem_map.mp hj
  exact z p hp q hq
theorem perm_imm {a b c d : List (Addr × Obj)} : (d ++ (a ++ (b ++ c))).Perm (a ++ (b ++ (d ++ c))) :=
  (List.perm_append_comm_assoc _ _ _).trans (List.Perm.append_left _ (List.perm_append_comm_assoc _ _ _))
/-- new objects beside all that stood -/
theorem Led.add (L : Led Γ m σ mu imm h) (k : ∀ b o, h.get? b = some o → h'.get? b = some o) (hn : ∀ p ∈ new, h'.get? p.1 = some p.2 ∧ h.get? p.1 = none) (nd : (new.map (·.1)).Nodup) {st : List (Addr × Obj)} (N : News Γ.h₀ Γ.L h st) (nd' : (st.map (·.1)).Nodup) :
    News Γ.h₀ Γ.L h' (new ++ st) ∧ ((new ++ st).map (·.1)).Nodup :=
  ⟨news_app (fun p hp => ⟨(hn p hp).1, L.fresh (hn p hp).2⟩) (N.grown k), nodup_app nd nd' fun p hp q hq e => by have := (hn p hp).2; rw [e, (N q hq).1] at this; cases this⟩
/-- new objects that stand for good -/
theorem Led.more (L : Led Γ m σ mu imm h) (k : ∀ b o, h.get? b = some o → h'.get? b = some o)
    (hn : ∀ p ∈ new, h'.get? p.1 = some p.2 ∧ h.get? p.1 = none) (nd : (new.map (·.1)).Nodup) : Led Γ m σ mu (new ++ imm) h' := by
  obtain ⟨st, S, N, nd'⟩ := L.ex
  obtain ⟨N', nd''⟩ := L.add k hn nd N nd'
  exact Led.of (L.F.keeps k) (S.mono (Cx.S_mono fun p hp => List.mem_append_right _ hp)) N' nd'' perm_imm
theorem new_one {D : Addr} {o : Obj} (hD : h'.get? D = some o) (hn : h.get? D = none) : (∀ p ∈ [(D, o)], h'.get? p.1 = some p.2 ∧ h.get? p.1 = none) ∧ ([(D, o)].map (·.1)).Nodup :=
  ⟨fun p hp => by rw [List.mem_singleton.mp hp]; exact ⟨hD, hn⟩, List.nodup_cons.mpr ⟨by simp, List.nodup_nil⟩⟩
theorem Led.one {D : Addr} {o : Obj} (L : Led Γ m σ mu imm h) (k : ∀ b o, h.get? b = some o → h'.get? b = some o) (hD : h'.get? D = some o) (hn : h.get? D = none) : Led Γ m σ mu ((D, o) :: imm) h' :=
  L.more (new := [(D, o)]) k (new_one hD hn).1 (new_one hD hn).2
/-- a new object in the store -/
theorem Led.sto {D : Addr} {o : Obj} {c : CV} (L : Led Γ m σ mu imm h) (k : ∀ b o, h.get? b = some o → h'.get? b = some o) (hD : h'.get? D = some o) (hn : h.get? D = none) (hc : Cont Γ.w (Γ.S imm) D c o) : Led Γ m ((D, c) :: σ) mu imm h' := by
  obtain ⟨st, S, N, nd'⟩ := L.ex
  obtain ⟨N', nd''⟩ := L.add k (new_one hD hn).1 (new_one hD hn).2 N nd'
  exact ⟨L.F.keeps k, (D, o) :: st, .cons hc S, N', nd''⟩
/-- a push -/
theorem Led.push (L : Led Γ m σ mu imm h) (o : Obj) (hf : o.isFreed = false) : Led Γ m σ mu ((h.objs.size, o) :: imm) (h.push o) :=
  L.one (fun _ _ e => Heap.get?_push_of_some _ e) (Heap.get?_push_size _ hf) (Heap.get?_none_of_le (Nat.le_refl _))
/-- a new object at the ledger's head, told by a lemma of the kit -/
theorem led_cons {D : Addr} {o : Obj} {st : List (Addr × Obj)} (S : StoL Γ.w (Γ.S imm) σ st) (nd : ((st ++ (mu ++ imm)).map (·.1)).Nodup) (F : Fr Γ.h₀ Γ.L h' m) (N : News Γ.h₀ Γ.L h' ((D, o) :: (st ++ (mu ++ imm)))) (l : ∀ p ∈ st ++ (mu ++ imm), p.1 ≠ D) : Led Γ m σ mu ((D, o) :: imm) h' :=
  Led.of (l := [(D, o)] ++ (st ++ (mu ++ imm))) F (S.mono (Cx.S_mono fun _ hp => List.mem_cons_of_mem _ hp)) N (nodup_app (List.nodup_cons.mpr ⟨by simp, List.nodup_nil⟩) nd fun p hp q hq e => l q hq (by rw [← e, List.mem_singleton.mp hp])) (perm_imm (d := [(D, o)]))
/-- what a place's names are -/
structure Nm (Γ : Cx n u) (env : Env) (ρ : Nms) (m : Str → Option Value) (mu imm : List (Addr × Obj)) : Prop where
  get : ∀ x a, ρ.lookup x = some a → ∃ v, Rel (Γ.S imm) a v ∧ ∀ (h : Heap) (tk : Nat) (pos : Pos) (E : Value → Shared → Prop) (Q : Value → Shared → Prop), Fr Γ.h₀ Γ.L h m → News Γ.h₀ Γ.L h mu → Q v (Γ.st h tk) → wpAny Γ.M Γ.A (eval (.Name x pos) env) Q E (Γ.st h tk)
  cell : ∀ x a, ρ.lookup x = some a → env.kindOf x = some .cell → ∃ c o v, env.cells.lookup x = some c ∧ (c, o) ∈ mu ∧ o.data = .cell (some v) ∧ Rel (Γ.S imm) a v
theorem Nm.mono {env : Env} {ρ : Nms} {imm' : List (Addr × Obj)} (x : Nm Γ env ρ m mu imm) (k : ∀ p ∈ imm, p ∈ imm') : Nm Γ env ρ m mu imm' :=
  ⟨fun y a e => let ⟨v, r, q⟩ := x.get y a e; ⟨v, r.mono (Cx.S_mono k), q⟩, fun y a e k' => let ⟨c, o, v, h1, h2, h3, r⟩ := x.cell y a e k'; ⟨c, o, v, h1, h2, h3, r.mono (Cx.S_mono k)⟩⟩
end
/-- what comes behind an expression's value -/
def Beh (Γ : Cx n u) (m : Str → Option Value) (σ : Sto) (mu imm : List (Addr × Obj)) (a : AV) (Q : Value → Shared → Prop) : Prop :=
  ∀ (v : Value) (h' : Heap) (tk' : Nat) (imm' : List (Addr × Obj)), Led Γ m σ mu imm' h' → (∀ p ∈ imm, p ∈ imm') → Rel (Γ.S imm') a v → Q v (Γ.st h' tk')
/-- an expression's value, from a store to a store -/
structure EvA (Γ : Cx n u) (env : Env) (ρ : Nms) (σ : Sto) (e : Expr) (a : AV) (σ' : Sto) : Prop where
  run : ∀ (m : Str → Option Value) (mu imm : List (Addr × Obj)) (h : Heap) (tk : Nat) (E : Value → Shared → Prop) (Q : Value → Shared → Prop), Led Γ m σ mu imm h → Nm Γ env ρ m mu imm → Beh Γ m σ' mu imm a Q → wpAny Γ.M Γ.A (eval e env) Q E (Γ.st h tk)
/-- a test's truth -/
structure TsA (Γ : Cx n u) (env : Env) (ρ : Nms) (σ : Sto) (e : Expr) (c : Bool) : Prop where
  run : ∀ (m : Str → Option Value) (mu imm : List (Addr × Obj)) (h : Heap) (tk : Nat) (E : Value → Shared → Prop) (Q : Bool → Shared → Prop), Led Γ m σ mu imm h → Nm Γ env ρ m mu imm →
    (∀ (h' : Heap) (tk' : Nat) (imm' : List (Addr × Obj)), Led Γ m σ mu imm' h' → (∀ p ∈ imm, p ∈ imm') → Q c (Γ.st h' tk')) → wpAny Γ.M Γ.A (isTrue e env (eval e env)) Q E (Γ.st h tk)
/-- all arguments of a call -/
structure ArA (Γ : Cx n u) (env : Env) (ρ : Nms) (σ : Sto) (es : List Expr) (as : List AV) (σ' : Sto) : Prop where
  run : ∀ (m : Str → Option Value) (mu imm : List (Addr × Obj)) (h : Heap) (tk : Nat) (E : Value → Shared → Prop) (Q : List Value → Shared → Prop) (pos : Pos), Led Γ m σ mu imm h → Nm Γ env ρ m mu imm →
    (∀ (vs : List Value) (h' : Heap) (tk' : Nat) (imm' : List (Addr × Obj)), Led Γ m σ' mu imm' h' → (∀ p ∈ imm, p ∈ imm') → RelL (Γ.S imm') as vs → Q vs (Γ.st h' tk')) → wpAny Γ.M Γ.A (spliced (backTo pos (starEach es env))) Q E (Γ.st h tk)
/-- a step upon values: the tree t, for any values that stand for as, gives a -/
def StepA (Γ : Cx n u) (σ : Sto) (as : List AV) (t : List Value → Sem Value) (a : AV) (σ' : Sto) : Prop :=
  ∀ (m : Str → Option Value) (mu imm : List (Addr × Obj)) (h : Heap) (tk : Nat) (E : Value → Shared → Prop) (Q : Value → Shared → Prop) (vs : List Value), Led Γ m σ mu imm h → RelL (Γ.S imm) as vs → Beh Γ m σ' mu imm a Q → wpAny Γ.M Γ.A (t vs) Q E (Γ.st h tk)
end
/-- a function's contract: st is the part of the store that it is given, g all else that stood -/
structure FnR (n u : Nat) (r : Addr) (as : List AV) (σ : Sto) (R : AV → Sto → Prop) : Prop where
  run : ∀ {w : World} {mean : ExcName → Option Value} {mg mb : Str → Option Value} {dp un : Nat} {fr : Option (List Env)} {gd : Option (List Code)} (s : Shared) (g : Heap) (S : Kn) (st : List (Addr × Obj)) (vs : List Value),
    (hd.heap_1 w.params).In g → Top hd.view_1 (looseW hd.view_1 []) mean mg mb g → (∀ b o, g.get? b = some o → s.heap.get? b = some o) → g.objs.size ≤ s.heap.objs.size → (∀ a ob, S a ob → g.get? a = some ob) → (∀ a ob, (hd.heap_1 w.params).lookup a = some ob → S a ob) →
    StoL w S σ st → (∀ p ∈ st, s.heap.get? p.1 = some p.2 ∧ g.get? p.1 = none) → (st.map (·.1)).Nodup → dp + 20 * (n + 1) < recursionLimit → un + u + 3 < cLine → RelL S as vs →
    codeAny (model PG w) { handled := none, depth := dp, frames := fr, guards := gd, units := un } (.call (.ref r) ⟨vs, []⟩)
      (Back g s (fun v h' => ∃ (a : AV) (τ : Sto) (st' new : List (Addr × Obj)), R a τ ∧ StoL w (fun a ob => S a ob ∨ (a, ob) ∈ new) τ st' ∧ (∀ p ∈ st' ++ new, h'.get? p.1 = some p.2 ∧ g.get? p.1 = none) ∧ ((st' ++ new).map (·.1)).Nodup ∧ Rel (fun a ob => S a ob ∨ (a, ob) ∈ new) a v)) s
/-- just this -/
def Is (a : AV) (σ : Sto) (b : AV) (τ : Sto) : Prop := b = a ∧ τ = σ
/-- a function that changes nothing that stood -/
abbrev FnA (n u : Nat) (r : Addr) (as : List AV) (a : AV) : Prop := FnR n u r as [] (Is a [])
section
variable {n u : Nat}
/-- the names of a function's own frame: locals in m, cells in cm -/
def Own (Γ : Cx n u) (cs : Scope) (ρ : Nms) (m cm : Str → Option Value) (imm : List (Addr × Obj)) : Prop :=
  ∀ x a, ρ.lookup x = some a → ∃ v, Rel (Γ.S imm) a v ∧ ((nmIs cs x .local = true ∧ m x = some v) ∨ (nmIs cs x .cell = true ∧ cm x = some v))
theorem CellsAre.get {cm : Str → Option Value} : ∀ {cl : List (Str × Addr)} {cells : List (Addr × Obj)}, CellsAre cm cl cells → ∀ {x : Str} {c : Addr}, cl.lookup x = some c → ∃ o, (c, o) ∈ cells ∧ o.data = .cell (cm x)
  | _, _, .nil, _, _, e => by cases e
  | _, _, .cons (n := k) hd r, x, c, e => by
    rw [List.lookup_cons] at e
    cases hb : x == k with
    | true => rw [hb] at e; cases e; rw [eq_of_beq hb]; exact ⟨_, .head _, hd⟩
    | false => rw [hb] at e; obtain ⟨o, h1, h2⟩ := CellsAre.get r e; exact ⟨o, .tail _ h1, h2⟩
theorem Own.nm {Γ : Cx n u} {cn : Str} {cs : Scope} {ca : Addr} {ccd : Value} {ρ : Nms} {m cm : Str → Option Value} {mu imm : List (Addr × Obj)} (x : Own Γ cs ρ m cm imm) (y : CellsAre cm (cellsFrom (Γ.L + 1) cs.names []) mu) :
    Nm Γ (envOfC cn cs Γ.L ca ccd) ρ m mu imm := by
  have key : ∀ z v, nmIs cs z .cell = true → cm z = some v → ∃ c o, (cellsFrom (Γ.L + 1) cs.names []).lookup z = some c ∧ (c, o) ∈ mu ∧ o.data = .cell (some v) := fun z v k hm => by
    obtain ⟨c, hc⟩ := Option.isSome_iff_exists.mp (cellsFrom_some cs.names (Γ.L + 1) [] (.inl (nmIs_look k)))
    obtain ⟨o, ho, hd⟩ := CellsAre.get y hc
    exact ⟨c, o, hc, ho, by rw [hd, hm]⟩
  refine ⟨fun z a e => ?_, fun z a e hk => ?_⟩
  · obtain ⟨v, r, ⟨k, hm⟩ | ⟨k, hm⟩⟩ := x z a e
    · exact ⟨v, r, fun h tk pos E Q F _ hq => nmC_L F hm hq k⟩
    · obtain ⟨c, o, hc, ho, hd⟩ := key z v k hm
      exact ⟨v, r, fun h tk pos E Q _ N hq => nmC_C N hc ho hd hq k⟩
  · obtain ⟨v, r, ⟨k, hm⟩ | ⟨k, hm⟩⟩ := x z a e
    · have : cs.names.lookup z = some .cell := hk
      rw [nmIs_look k] at this; cases this
    · obtain ⟨c, o, hc, ho, hd⟩ := key z v k hm
      exact ⟨c, o, v, hc, ho, hd, r⟩
end

end
section
def noStar : Expr → Bool
  | .Starred .. => false
  | _ => true
theorem noStar_eq {e : Expr} {rest : List Expr} {env : Env} (h : noStar e = true) : starEach (e :: rest) env = (false, eval e env) :: starEach rest env := by
  cases e <;> first | rfl | cases h
def plainSlice : Expr → Bool
  | .Slice .. => false
  | _ => true
theorem plainSlice_eq {e : Expr} {o i : Value} (h : plainSlice e = true) : subscripted e false o i = operate [o, i] (getItem o i) := by
  cases e <;> first | rfl | cases h
def isName : Expr → Bool
  | .Name .. => true
  | _ => false
theorem isName_go {e : Expr} {o : Value} (h : isName e = true) : ∀ r, letTemporaryGo e o r = pure () := by
  intro r
  cases e <;> first | rfl | cases h
theorem plain_args {pos : Pos} {env : Env} : ∀ {es : List Expr}, es.all noStar = true → (backTo pos (starEach es env)).any (·.1) = false
  | [], _ => rfl
  | e :: es, h => by
    rw [List.all_cons, Bool.and_eq_true] at h
    rw [noStar_eq h.1]
    show (false || (backTo pos (starEach es env)).any (·.1)) = false
    rw [plain_args h.2]; rfl
section
variable {n u : Nat} {Γ : Cx n u} {env : Env} {ρ : Nms} {σ σ₁ σ₂ σ₃ τ : Sto} {m : Str → Option Value} {mu imm imm' : List (Addr × Obj)} {h h' : Heap} {tk : Nat} {E : Value → Shared → Prop} {Q : Value → Shared → Prop}
  {e l r : Expr} {a b c : AV} {pos px : Pos} {x : Str}
theorem Beh.mono (k : Beh Γ m σ mu imm a Q) (s : ∀ p ∈ imm, p ∈ imm') : Beh Γ m σ mu imm' a Q := fun v h' tk' i l k' r => k v h' tk' i l (fun p hp => k' p (s p hp)) r
/-- a step upon two values -/
def BinA (Γ : Cx n u) (σ : Sto) (t : Value → Value → Sem Value) (a b c : AV) : Prop :=
  ∀ (m : Str → Option Value) (mu imm : List (Addr × Obj)) (h : Heap) (tk : Nat) (E : Value → Shared → Prop) (Q : Value → Shared → Prop) (v w : Value), Led Γ m σ mu imm h → Rel (Γ.S imm) a v → Rel (Γ.S imm) b w → Beh Γ m σ mu imm c Q → wpAny Γ.M Γ.A (t v w) Q E (Γ.st h tk)
/-- two expressions, one after the other, and a step -/
theorem two {t : Value → Value → Sem Value} (h1 : EvA Γ env ρ σ l a σ₁) (h2 : EvA Γ env ρ σ₁ r b σ₂) (hs : BinA Γ σ₂ t a b c) (L : Led Γ m σ mu imm h) (N : Nm Γ env ρ m mu imm) (k : Beh Γ m σ₂ mu imm c Q) :
    wpAny Γ.M Γ.A (eval l env) (fun v s₁ => wpAny Γ.M Γ.A (eval r env) (fun w s₂ => wpAny Γ.M Γ.A (t v w) Q E s₂) E s₁) E (Γ.st h tk) :=
  h1.run _ _ _ _ _ _ _ L N fun v h₁ tk₁ i₁ L₁ k₁ r₁ => h2.run _ _ _ _ _ _ _ L₁ (N.mono k₁) fun w h₂ tk₂ i₂ L₂ k₂ r₂ => hs _ _ _ _ _ _ _ _ _ L₂ (r₁.mono (Cx.S_mono k₂)) r₂ ((k.mono k₁).mono k₂)
theorem EvA.name (e : ρ.lookup x = some a) : EvA Γ env ρ σ (.Name x pos) a σ :=
  ⟨fun m mu imm h tk E Q L N k => let ⟨v, r, q⟩ := N.get x a e; q h tk pos E Q L.F L.muN (k v h tk imm L (fun _ p => p) r)⟩
theorem EvA.int {i : Int} {k : Nat} : EvA Γ env ρ σ (.Constant (.int i) k pos) (.int i) σ := ⟨fun _ _ imm _ _ _ _ L _ q => wpAny_Constant_int (q _ _ _ imm L (fun _ p => p) (Rel.int _ _))⟩
theorem EvA.str {i : Str} {k : Nat} : EvA Γ env ρ σ (.Constant (.str i) k pos) (.str i) σ := ⟨fun _ _ imm _ _ _ _ L _ q => Constant_str (q _ _ _ imm L (fun _ p => p) (Rel.str _ _))⟩
theorem EvA.bool {i : Bool} {k : Nat} : EvA Γ env ρ σ (.Constant (.bool i) k pos) (.bool i) σ := ⟨fun _ _ imm _ _ _ _ L _ q => Constant_bool (q _ _ _ imm L (fun _ p => p) (Rel.bool _))⟩
theorem EvA.cNone {k : Nat} : EvA Γ env ρ σ (.Constant .none k pos) .none σ := ⟨fun _ _ imm _ _ _ _ L _ q => Constant_none (q _ _ _ imm L (fun _ p => p) Rel.none)⟩
theorem EvA.neg {i : Int} (h : EvA Γ env ρ σ e (.int i) σ₁) : EvA Γ env ρ σ (.UnaryOp .USub e pos) (.int (-i)) σ₁ :=
  ⟨fun _ _ _ _ _ _ _ L N q => wpAny_UnaryOp (h.run _ _ _ _ _ _ _ L N fun v h₁ tk₁ i₁ L₁ k₁ r₁ => by obtain ⟨t, rfl⟩ := r₁.ofInt; exact neg_int (q _ _ _ i₁ L₁ k₁ (Rel.int _ _)))⟩
theorem EvA.bin {op : Operator} (h1 : EvA Γ env ρ σ l a σ₁) (h2 : EvA Γ env ρ σ₁ r b σ₂) (hs : BinA Γ σ₂ (binaryOp op) a b c) : EvA Γ env ρ σ (.BinOp l op r pos) c σ₂ :=
  ⟨fun _ _ _ _ _ _ _ L N q => wpAny_BinOp (two h1 h2 hs L N q)⟩
theorem EvA.cmp {op : CmpOp} (h1 : EvA Γ env ρ σ l a σ₁) (h2 : EvA Γ env ρ σ₁ r b σ₂) (hs : BinA Γ σ₂ (compareOp op) a b c) (hm : behindInMarks op r = false) : EvA Γ env ρ σ (.Compare l [op] [r] pos) c σ₂ :=
  ⟨fun _ _ _ _ _ _ _ L N q => wpAny_Compare1 (two h1 h2 hs L N q) hm⟩
theorem TsA.cmp {op : CmpOp} {d : Bool} (h1 : EvA Γ env ρ σ l a σ) (h2 : EvA Γ env ρ σ r b σ) (hs : BinA Γ σ (compareOp op) a b (.bool d)) (hm : behindInMarks op r = false) : TsA Γ env ρ σ (.Compare l [op] [r] pos) d :=
  ⟨fun _ _ _ _ _ _ _ L N q => wpAny_isTrue_Compare1 (two h1 h2 hs L N fun v h₁ tk₁ i₁ L₁ k₁ r₁ => by obtain rfl := r₁.ofBool; exact wpAny_truthy_bool (q _ _ i₁ L₁ k₁)) hm⟩
theorem EvA.item {value slice : Expr} (h1 : EvA Γ env ρ σ value a σ₁) (h2 : EvA Γ env ρ σ₁ slice b σ₂) (hs : BinA Γ σ₂ (subscriptTail value slice) a b c) : EvA Γ env ρ σ (.Subscript value slice pos) c σ₂ :=
  ⟨fun _ _ _ _ _ _ _ L N q => Subscript_ (two h1 h2 hs L N q)⟩
/-- a chain of two comparisons -/
theorem EvA.chain {op₁ op₂ : CmpOp} {r₁ r₂ : Expr} {d : AV} {c₁ c₂ : Bool} (h1 : EvA Γ env ρ σ l a σ) (h2 : EvA Γ env ρ σ r₁ b σ) (h3 : EvA Γ env ρ σ r₂ d σ) (s1 : BinA Γ σ (compareOp op₁) a b (.bool c₁)) (s2 : c₁ = true → BinA Γ σ (compareOp op₂) b d (.bool c₂))
    (hm : lastMarks [op₁, op₂] [r₁, r₂] = false) : EvA Γ env ρ σ (.Compare l [op₁, op₂] [r₁, r₂] pos) (.bool (c₁ && c₂)) σ :=
  ⟨fun _ _ _ _ _ _ _ L N q => Compare_chain (h1.run _ _ _ _ _ _ _ L N fun v h₁ tk₁ i₁ L₁ k₁ x₁ => chain_link (h2.run _ _ _ _ _ _ _ L₁ (N.mono k₁) fun w h₂ tk₂ i₂ L₂ k₂ x₂ =>
    s1 _ _ _ _ _ _ _ _ _ L₂ (x₁.mono (Cx.S_mono k₂)) x₂ fun z h₃ tk₃ i₃ L₃ k₃ x₃ => by
      obtain rfl := x₃.ofBool
      refine wpAny_truthy_bool ?_
      cases c₁ with
      | false => exact q _ _ _ i₃ L₃ (fun p hp => k₃ p (k₂ p (k₁ p hp))) (Rel.bool _)
      | true =>
        exact chain_last (h3.run _ _ _ _ _ _ _ L₃ (((N.mono k₁).mono k₂).mono k₃) fun y h₄ tk₄ i₄ L₄ k₄ x₄ =>
          s2 rfl _ _ _ _ _ _ _ _ _ L₄ ((x₂.mono (Cx.S_mono k₃)).mono (Cx.S_mono k₄)) x₄ ((((Beh.mono q k₁).mono k₂).mono k₃).mono k₄)))) hm⟩
theorem EvA.and {c₁ c₂ : Bool} (h1 : EvA Γ env ρ σ l (.bool c₁) σ) (h2 : c₁ = true → EvA Γ env ρ σ r (.bool c₂) σ) : EvA Γ env ρ σ (.BoolOp .And [l, r] pos) (.bool (c₁ && c₂)) σ :=
  ⟨fun _ _ _ _ _ _ _ L N q => BoolOp_and (h1.run _ _ _ _ _ _ _ L N fun v h₁ tk₁ i₁ L₁ k₁ x₁ => by
    obtain rfl := x₁.ofBool
    refine wpAny_truthy_bool ?_
    cases c₁ with
    | false => exact q _ _ _ i₁ L₁ k₁ (Rel.bool _)
    | true => exact BoolOp_one ((h2 rfl).run _ _ _ _ _ _ _ L₁ (N.mono k₁) (Beh.mono q k₁)))⟩
theorem EvA.or {c₁ c₂ : Bool} (h1 : EvA Γ env ρ σ l (.bool c₁) σ) (h2 : c₁ = false → EvA Γ env ρ σ r (.bool c₂) σ) : EvA Γ env ρ σ (.BoolOp .Or [l, r] pos) (.bool (c₁ || c₂)) σ :=
  ⟨fun _ _ _ _ _ _ _ L N q => BoolOp_or (h1.run _ _ _ _ _ _ _ L N fun v h₁ tk₁ i₁ L₁ k₁ x₁ => by
    obtain rfl := x₁.ofBool
    refine wpAny_truthy_bool ?_
    cases c₁ with
    | true => exact q _ _ _ i₁ L₁ k₁ (Rel.bool _)
    | false => exact BoolOp_one ((h2 rfl).run _ _ _ _ _ _ _ L₁ (N.mono k₁) (Beh.mono q k₁)))⟩
theorem TsA.or {c₁ c₂ : Bool} (h1 : TsA Γ env ρ σ l c₁) (h2 : c₁ = false → TsA Γ env ρ σ r c₂) : TsA Γ env ρ σ (.BoolOp .Or [l, r] pos) (c₁ || c₂) :=
  ⟨fun _ _ _ _ _ _ _ L N q => isTrue_or (h1.run _ _ _ _ _ _ _ L N fun h₁ tk₁ i₁ L₁ k₁ => by
    cases c₁ with
    | true => exact q _ _ i₁ L₁ k₁
    | false => exact isTrue_or ((h2 rfl).run _ _ _ _ _ _ _ L₁ (N.mono k₁) fun h₂ tk₂ i₂ L₂ k₂ => by
        cases c₂ with
        | true => exact q _ _ i₂ L₂ fun p hp => k₂ p (k₁ p hp)
        | false => exact isTrue_or_nil (q _ _ i₂ L₂ fun p hp => k₂ p (k₁ p hp))))⟩
theorem TsA.not {c₁ : Bool} (h1 : TsA Γ env ρ σ l c₁) : TsA Γ env ρ σ (.UnaryOp .Not l pos) (!c₁) :=
  ⟨fun _ _ _ _ _ _ _ L N q => isTrue_not (h1.run _ _ _ _ _ _ _ L N q)⟩
theorem EvA.ite {t : Expr} {d : Bool} (ht : TsA Γ env ρ σ t d) (h1 : d = true → EvA Γ env ρ σ l a σ₁) (h2 : d = false → EvA Γ env ρ σ r a σ₁) : EvA Γ env ρ σ (.IfExp t l r pos) a σ₁ :=
  ⟨fun _ _ _ _ _ _ _ L N q => IfExp_ (ht.run _ _ _ _ _ _ _ L N fun h₁ tk₁ i₁ L₁ k₁ => by
    cases d with
    | true => exact (h1 rfl).run _ _ _ _ _ _ _ L₁ (N.mono k₁) (Beh.mono q k₁)
    | false => exact (h2 rfl).run _ _ _ _ _ _ _ L₁ (N.mono k₁) (Beh.mono q k₁))⟩
theorem ArA.nil : ArA Γ env ρ σ [] [] σ := ⟨fun _ _ imm _ _ _ _ _ L _ q => args_nil (q _ _ _ imm L (fun _ p => p) .nil)⟩
theorem ArA.cons {es : List Expr} {as : List AV} (h1 : EvA Γ env ρ σ e a σ₁) (h2 : ArA Γ env ρ σ₁ es as σ₂) (hn : noStar e = true) : ArA Γ env ρ σ (e :: es) (a :: as) σ₂ :=
  ⟨fun _ _ _ _ _ _ _ _ L N q => args_cons (h1.run _ _ _ _ _ _ _ L N fun v h₁ tk₁ i₁ L₁ k₁ r₁ => h2.run _ _ _ _ _ _ _ _ L₁ (N.mono k₁) fun vs h₂ tk₂ i₂ L₂ k₂ r₂ =>
    q (v :: vs) h₂ tk₂ i₂ L₂ (fun p hp => k₂ p (k₁ p hp)) (.cons (r₁.mono (Cx.S_mono k₂)) r₂)) (noStar_eq hn)⟩
/-- a call of a built-in function -/
theorem EvA.callB {f : Str} {id : String} {es : List Expr} {as : List AV} (hf : EvA Γ env ρ σ (.Name f px) (.lit (.builtin id)) σ) (ha : ArA Γ env ρ σ (e :: es) as σ₁) (hs : StepA Γ σ₁ as (fun vs => call (.builtin id) vs) a σ₂)
    (hp : (e :: es).all noStar = true) : EvA Γ env ρ σ (.Call (.Name f px) (e :: es) [] pos) a σ₂ :=
  ⟨fun _ _ _ _ _ _ _ L N q => Call_ (hf.run _ _ _ _ _ _ _ L N fun v h₁ tk₁ i₁ L₁ k₁ r₁ => by
    obtain rfl := r₁.ofLit
    have hp' := hp
    rw [List.all_cons, Bool.and_eq_true] at hp'
    exact callWith_builtin1 (ha.run _ _ _ _ _ _ _ _ L₁ (N.mono k₁) fun vs h₂ tk₂ i₂ L₂ k₂ r₂ => hs _ _ _ _ _ _ _ _ L₂ r₂ ((Beh.mono q k₁).mono k₂)) (noStar_eq hp'.1) (plain_args hp'.2))⟩
/-- a call of a built-in type -/
theorem EvA.callT {f : Str} {id : String} {es : List Expr} {as : List AV} (hf : EvA Γ env ρ σ (.Name f px) (.lit (.type id)) σ) (ha : ArA Γ env ρ σ (e :: es) as σ₁) (hs : StepA Γ σ₁ as (fun vs => call (.type id) vs) a σ₂)
    (hp : (e :: es).all noStar = true) : EvA Γ env ρ σ (.Call (.Name f px) (e :: es) [] pos) a σ₂ :=
  ⟨fun _ _ _ _ _ _ _ L N q => Call_ (hf.run _ _ _ _ _ _ _ L N fun v h₁ tk₁ i₁ L₁ k₁ r₁ => by
    obtain rfl := r₁.ofLit
    have hp' := hp
    rw [List.all_cons, Bool.and_eq_true] at hp'
    exact PyProof.Rows.callWith_type1 (ha.run _ _ _ _ _ _ _ _ L₁ (N.mono k₁) fun vs h₂ tk₂ i₂ L₂ k₂ r₂ => hs _ _ _ _ _ _ _ _ L₂ r₂ ((Beh.mono q k₁).mono k₂)) (noStar_eq hp'.1) (plain_args hp'.2))⟩
/-- a function's code run with its piece of the store -/
theorem code_R {dp un : Nat} {fr : Option (List Env)} {gd : Option (List Code)} {RR : Result → Shared → Prop} {F : Addr} {vs : List Value} {as : List AV} {n' u' : Nat} {pre post : Sto} {R : AV → Sto → Prop} (hs : FnR n' u' F as σ R) (hn : dp + 20 * (n' + 1) < recursionLimit) (hu : un + u' + 3 < cLine) (L : Led Γ m (pre ++ (σ ++ post)) mu imm h) (r : RelL (Γ.S imm) as vs)
    (q : ∀ a τ, R a τ → Beh Γ m (pre ++ (τ ++ post)) mu imm a fun v s' => RR (.ok (.ret v)) s') : codeAny Γ.M { handled := none, depth := dp, frames := fr, guards := gd, units := un } (.call (.ref F) ⟨vs, []⟩) RR (Γ.st h tk) := by
  obtain ⟨st, S, N, nd⟩ := L.ex
  obtain ⟨s1, st', rfl, S1, S'⟩ := S.split
  obtain ⟨s2, s3, rfl, S2, S3⟩ := S'.split
  have P : ∀ {x : List (Addr × Obj)} {i : List (Addr × Obj)}, ((s1 ++ (x ++ s3)) ++ (mu ++ i)).Perm (x ++ (s1 ++ s3 ++ (mu ++ i))) := fun {x i} =>
    (List.Perm.append_right _ (List.perm_append_comm_assoc s1 x s3)).trans (by rw [List.append_assoc])
  have nd' := (P.map (fun p : Addr × Obj => p.1)).nodup_iff.mp nd
  have nda := nd'
  rw [List.map_append, List.nodup_append] at nda
  have off : ∀ p ∈ s1 ++ s3 ++ (mu ++ imm), p.1 ∉ s2.map (·.1) := fun p hp hx => nda.2.2 _ hx _ (List.mem_map_of_mem hp) rfl
  have N2 : ∀ p ∈ s2, h.get? p.1 = some p.2 ∧ p.1 ≠ Γ.L ∧ Γ.h₀.get? p.1 = none := fun p hp => N p (P.mem_iff.mpr (List.mem_append_left _ hp))
  have key : ∀ b o, b ∉ s2.map (·.1) → h.get? b = some o → (hideAll h (s2.map (·.1))).get? b = some o := fun b o hb e => hideAll_get _ e hb
  have k₀ : ∀ b o, Γ.h₀.get? b = some o → (hideAll h (s2.map (·.1))).get? b = some o := fun b o e => key b o (fun q => by
    obtain ⟨p, hp, rfl⟩ := List.mem_map.mp q
    rw [(N2 p hp).2.2] at e; cases e) (L.F.keep _ _ e)
  have NR : ∀ p ∈ s1 ++ s3 ++ (mu ++ imm), h.get? p.1 = some p.2 ∧ p.1 ≠ Γ.L ∧ Γ.h₀.get? p.1 = none := fun p hp => N p (P.mem_iff.mpr (List.mem_append_right _ hp))
  have kS : ∀ a o, Γ.S imm a o → (hideAll h (s2.map (·.1))).get? a = some o := fun a o x => x.elim (fun x => k₀ _ _ (Γ.sub _ _ x)) fun x =>
    key a o (off (a, o) (List.mem_append_right _ (List.mem_append_right _ x))) (NR (a, o) (List.mem_append_right _ (List.mem_append_right _ x))).1
  refine codeAny_mono (hs.run (Γ.st h tk) (hideAll h (s2.map (·.1))) (Γ.S imm) s2 vs (frag_keeps Γ.X k₀) (Γ.T.keeps k₀) (fun b o e => of_hideAll _ e) (Nat.le_of_eq (hideAll_size _ _)) kS (fun _ _ e => .inl (Γ.kn _ _ e)) S2
    (fun p hp => ⟨(N2 p hp).1, hideAll_none _ (List.mem_map_of_mem hp)⟩) nda.1 hn hu r) ?_
  · rintro r s' ⟨v, h', tk', rfl, rfl, hk', a, τ, st', new, hR, Sτ, hn', nd₂, hr⟩
    have mono : ∀ a o, (Γ.S imm a o ∨ (a, o) ∈ new) → Γ.S (new ++ imm) a o := by
      rintro a o (x | x)
      · exact x.imp id (List.mem_append_right _)
      · exact .inr (List.mem_append_left _ x)
    have up : ∀ a o, Γ.S imm a o → Γ.S (new ++ imm) a o := Cx.S_mono fun p hp => List.mem_append_right _ hp
    obtain ⟨o, z1, z2, hL, z3⟩ := L.F.ns
    have hLk : (hideAll h (s2.map (·.1))).get? Γ.L = some o := key _ _ (fun q => by
      obtain ⟨p, hp, e⟩ := List.mem_map.mp q
      exact (N2 p hp).2.1 e) hL
    have keep : ∀ p ∈ s1 ++ s3 ++ (mu ++ imm), (hideAll h (s2.map (·.1))).get? p.1 = some p.2 := fun p hp => key _ _ (off p hp) (NR p hp).1
    have old : ∀ x, (hideAll h (s2.map (·.1))).get? x = none → Γ.h₀.get? x = none := fun x e => by
      cases z : Γ.h₀.get? x with
      | none => rfl
      | some o => rw [k₀ _ _ z] at e; cases e
    have all := news_app (Γ := Γ) (h := h') (a := st' ++ new) (b := s1 ++ s3 ++ (mu ++ imm)) (fun p hp => ⟨(hn' p hp).1, fun e => (by have := (hn' p hp).2; rw [e, hLk] at this; cases this), old _ (hn' p hp).2⟩) (fun p hp => ⟨hk' _ _ (keep p hp), (NR p hp).2⟩)
    have F' : Fr Γ.h₀ Γ.L h' m := ⟨L.F.ns.at' fun o e => hk' _ _ (key _ _ (fun q => by
      obtain ⟨p, hp, e⟩ := List.mem_map.mp q
      exact (N2 p hp).2.1 e) e), fun b o e => hk' _ _ (k₀ b o e), L.F.above⟩
    refine q a τ hR v h' tk' (new ++ imm) (Led.of F' ((S1.mono up).app ((Sτ.mono mono).app (S3.mono up))) all (nodup_app nd₂ nda.2.1 fun p hp q hq e => by have := (hn' p hp).2; rw [e, keep q hq] at this; cases this) ?_) (fun p hp => List.mem_append_right _ hp) (hr.mono mono)
    refine List.Perm.trans ?_ P.symm
    rw [List.append_assoc]
    exact List.Perm.append_left _ (List.perm_append_comm_assoc _ _ _ |>.trans (List.Perm.append_left _ (List.perm_append_comm_assoc _ _ _)))
/-- a function called with its piece of the store -/
theorem call_R {F : Addr} {vs : List Value} {as : List AV} {n' u' : Nat} {pre post : Sto} {R : AV → Sto → Prop} (hs : FnR n' u' F as σ R) (hn : n' + 1 ≤ n) (hu : u' + 3 ≤ u) (L : Led Γ m (pre ++ (σ ++ post)) mu imm h) (r : RelL (Γ.S imm) as vs)
    (q : ∀ a τ, R a τ → Beh Γ m (pre ++ (τ ++ post)) mu imm a Q) : wpAny Γ.M Γ.A (call (.ref F) vs) Q E (Γ.st h tk) :=
  wpAny_call (code_R hs (by have h1 := Γ.room; have h2 : 20 * (n' + 1) ≤ 20 * n := Nat.mul_le_mul_left _ hn; omega) (by have h1 := Γ.units; omega) L r q)
/-- a call of one of the text's own functions -/
theorem EvA.callF {f : Str} {F : Addr} {es : List Expr} {as : List AV} {n' u' : Nat} {pre post : Sto} (hf : EvA Γ env ρ σ (.Name f px) (.lit (.ref F)) σ) (ha : ArA Γ env ρ σ (e :: es) as (pre ++ (σ₁ ++ post))) (hs : FnR n' u' F as σ₁ (Is a τ))
    (hk : ∀ w : World, keepIn (hd.heap_1 w.params) (.ref F) = true) (hp : (e :: es).all noStar = true) (hn : n' + 1 ≤ n) (hu : u' + 3 ≤ u) : EvA Γ env ρ σ (.Call (.Name f px) (e :: es) [] pos) a (pre ++ (τ ++ post)) :=
  ⟨fun m mu imm h tk E Q L N q => Call_ (hf.run _ _ _ _ _ _ _ L N fun v h₁ tk₁ i₁ L₁ k₁ r₁ => by
    obtain rfl := r₁.ofLit
    have hp' := hp
    rw [List.all_cons, Bool.and_eq_true] at hp'
    refine callWith_K Γ.X (hk _) (ha.run _ _ _ _ _ _ _ _ L₁ (N.mono k₁) fun vs h₂ tk₂ i₂ L₂ k₂ r₂ => ⟨frag_keeps Γ.X L₂.F.keep, ?_⟩) (noStar_eq hp'.1) (plain_args hp'.2)
    refine call_R hs hn hu L₂ r₂ fun b τ' hR => ?_
    obtain ⟨rfl, rfl⟩ := hR
    exact (Beh.mono q k₁).mono k₂)⟩
/-- a call of a function that changes nothing -/
theorem EvA.callP {f : Str} {F : Addr} {es : List Expr} {as : List AV} {n' u' : Nat} (hf : EvA Γ env ρ σ (.Name f px) (.lit (.ref F)) σ) (ha : ArA Γ env ρ σ (e :: es) as σ₁) (hs : FnA n' u' F as a)
    (hk : ∀ w : World, keepIn (hd.heap_1 w.params) (.ref F) = true) (hp : (e :: es).all noStar = true) (hn : n' + 1 ≤ n) (hu : u' + 3 ≤ u) : EvA Γ env ρ σ (.Call (.Name f px) (e :: es) [] pos) a σ₁ :=
  EvA.callF (pre := []) (post := σ₁) hf ha hs hk hp hn hu
/-- names of the top -/
theorem EvA.glob {cn : Str} {cs : Scope} {ca : Addr} {ccd : Value} {x : Str} {v : Value} (e : ∀ w : World, nsIn (hd.heap_1 w.params) mainGlobals x = some (some v)) (k : nmIs cs x .globalImplicit = true) : EvA Γ (envOfC cn cs Γ.L ca ccd) ρ σ (.Name x pos) (.lit v) σ :=
  ⟨fun _ _ imm _ _ _ _ L _ q => nmC_K L.F Γ.X (topRead_of Γ.T) (e Γ.w) (q _ _ _ imm L (fun _ p => p) (Rel.lit _)) k⟩
theorem EvA.boot {cn : Str} {cs : Scope} {ca : Addr} {ccd : Value} {x : Str} {v : Value} (e : ∀ w : World, nsIn (hd.heap_1 w.params) mainGlobals x = some none) (hv : bootBuiltins x = some v) (hn : (x == ("__name__" : Str)) = false) (k : nmIs cs x .globalImplicit = true) :
    EvA Γ (envOfC cn cs Γ.L ca ccd) ρ σ (.Name x pos) (.lit v) σ :=
  ⟨fun _ _ imm _ _ _ _ L _ q => nmC_B L.F Γ.X (topRead_of Γ.T) (e Γ.w) hv (fun e => by rw [e] at hn; simp at hn) (q _ _ _ imm L (fun _ p => p) (Rel.lit _)) k⟩
def txtOf : Value → Str
  | .str x _ => x
  | _ => default
def isTxt : Value → Bool
  | .str _ _ => true
  | _ => false
theorem texts_rel {S : Kn} : ∀ {vs : List Value}, vs.all isTxt = true → RelL S ((vs.map txtOf).map .str) vs
  | [], _ => .nil
  | v :: vs, h => by
    rw [List.all_cons, Bool.and_eq_true] at h
    refine .cons ?_ (texts_rel h.2)
    cases v <;> first | exact Rel.str _ _ | cases h.1
/-- a tuple of texts of the top -/
theorem EvA.texts {cn : Str} {cs : Scope} {ca : Addr} {ccd : Value} {x : Str} {p : Addr} {vs : List Value} {n' : Nat} {sl : Array (Option Value)} (e : ∀ w : World, nsIn (hd.heap_1 w.params) mainGlobals x = some (some (.ref p)))
    (ho : ∀ w : World, (hd.heap_1 w.params).lookup p = some ⟨.type "tuple", Option.none, .seq vs.toArray n', sl⟩) (hs : vs.all isTxt = true) (k : nmIs cs x .globalImplicit = true) : EvA Γ (envOfC cn cs Γ.L ca ccd) ρ σ (.Name x pos) (.tup ((vs.map txtOf).map .str)) σ :=
  ⟨fun _ _ imm _ _ _ _ L _ q => nmC_K L.F Γ.X (topRead_of Γ.T) (e Γ.w) (q _ _ _ imm L (fun _ p => p) (Rel.tup (.inl (Γ.kn _ _ (ho Γ.w))) rfl rfl rfl (texts_rel hs))) k⟩
end

end
section
/-- a list: one that stands for good, or one of the store -/
inductive AtL (σ : Sto) : AV → List AV → Prop
  | imm {l : List AV} : AtL σ (.lst l) l
  | sto {p : Addr} {l : List AV} {i : Nat} (h : σ[i]? = some (p, .lst l)) : AtL σ (.lit (.ref p)) l
section
variable {n u : Nat} {Γ : Cx n u} {env : Env} {ρ : Nms} {σ σ₁ σ₂ : Sto} {m : Str → Option Value} {mu imm : List (Addr × Obj)} {h h' : Heap} {tk : Nat} {E : Value → Shared → Prop} {Q : Value → Shared → Prop}
  {e r : Expr} {a b c : AV} {pos px : Pos} {x y : Str} {v : Value} {value slice : Expr} {xs ys : List Int} {i j k : Int} {l : List AV}
theorem Led.tup (L : Led Γ m σ mu imm h) (r : Rel (Γ.S imm) (.tup l) v) : ∃ p vs, v = .ref p ∧ IsTup h p (List.toArray vs) ∧ RelL (Γ.S imm) l vs :=
  let ⟨p, _, _, vs, e, hp, hc, _, hd, r⟩ := r.ofTup; ⟨p, vs, e, ⟨_, L.get hp, hc, _, hd⟩, r⟩
theorem Led.lstAt (L : Led Γ m σ mu imm h) (hl : AtL σ a l) (r : Rel (Γ.S imm) a v) : ∃ p vs, v = .ref p ∧ h.IsList p (List.toArray vs) ∧ RelL (Γ.S imm) l vs := by
  cases hl with
  | imm => obtain ⟨p, _, _, vs, e, hp, hc, hd, r⟩ := r.ofLst; exact ⟨p, vs, e, ⟨_, L.get hp, hc, _, hd⟩, r⟩
  | @sto p _ _ hi =>
    obtain ⟨st, S, N, _⟩ := L.ex
    obtain ⟨o, hm, n, vs, rfl, r'⟩ := S.get hi
    exact ⟨p, vs, r.ofLit, ⟨_, (N _ (List.mem_append_left _ hm)).1, rfl, _, rfl⟩, r'⟩
theorem Led.rng (L : Led Γ m σ mu imm h) (r : Rel (Γ.S imm) (.rng i j) v) : ∃ p t u w, v = .ref p ∧ IsRange h p i j 1 t u w :=
  let ⟨p, _, e, hp, hr⟩ := r; let ⟨t, u, w, q⟩ := hr _ (L.get hp); ⟨p, t, u, w, e, q⟩
theorem Led.map (L : Led Γ m σ mu imm h) {f : Int → Option Int} (r : Rel (Γ.S imm) (.map f) v) : ∃ p g, v = .ref p ∧ h.IntMap p g ∧ ∀ k x, f k = some x → ∃ t, g k = some (.int x t) :=
  let ⟨p, _, g, e, hp, hr, he⟩ := r; ⟨p, g, e, hr _ (L.get hp), he⟩
/-- ints compared -/
def cmpI (op : CmpOp) (i j : Int) : Option Bool := match op with
  | .Eq => some (i == j)
  | .NotEq => some (i != j)
  | .Lt => some (decide (i < j))
  | .LtE => some (decide (i ≤ j))
  | .Gt => some (decide (j < i))
  | .GtE => some (decide (j ≤ i))
  | _ => none
def cmpS (op : CmpOp) (x y : Str) : Option Bool := match op with
  | .Eq => some (x == y)
  | .NotEq => some (x != y)
  | _ => none
theorem cmpI_ok {op : CmpOp} {d : Bool} (e : cmpI op i j = some d) : BinA Γ σ (compareOp op) (.int i) (.int j) (.bool d) := by
  intro m mu imm h tk E Q v w L ra rb k
  obtain ⟨t, rfl⟩ := ra.ofInt
  obtain ⟨t', rfl⟩ := rb.ofInt
  have q := fun tk => k (.bool d) h tk imm L (fun _ p => p) (Rel.bool d)
  cases op <;> cases e
  · exact eq_int (q _)
  · exact ne_int (q _)
  · exact lt_int (q _)
  · exact le_int (q _)
  · exact gt_int (q _)
  · exact ge_int (q _)
theorem cmpS_ok {op : CmpOp} {d : Bool} (e : cmpS op x y = some d) : BinA Γ σ (compareOp op) (.str x) (.str y) (.bool d) := by
  intro m mu imm h tk E Q v w L ra rb k
  obtain ⟨t, rfl⟩ := ra.ofStr
  obtain ⟨t', rfl⟩ := rb.ofStr
  have q := fun tk => k (.bool d) h tk imm L (fun _ p => p) (Rel.bool d)
  cases op <;> cases e
  · exact eq_str (q _)
  · exact ne_str (q _)
theorem gt_A (h : j < i) : BinA Γ σ (compareOp .Gt) (.int i) (.int j) (.bool true) := cmpI_ok (congrArg some (decide_eq_true h))
theorem add_A : BinA Γ σ (binaryOp .Add) (.int i) (.int j) (.int (i + j)) := fun _ _ imm _ _ _ _ _ _ L ra rb k => by
  obtain ⟨t, rfl⟩ := ra.ofInt; obtain ⟨t', rfl⟩ := rb.ofInt; exact add_int (k _ _ _ imm L (fun _ p => p) (Rel.int _ _))
theorem sub_A : BinA Γ σ (binaryOp .Sub) (.int i) (.int j) (.int (i - j)) := fun _ _ imm _ _ _ _ _ _ L ra rb k => by
  obtain ⟨t, rfl⟩ := ra.ofInt; obtain ⟨t', rfl⟩ := rb.ofInt; exact sub_int (k _ _ _ imm L (fun _ p => p) (Rel.int _ _))
theorem mul_A (hm : IntMulOk i j) : BinA Γ σ (binaryOp .Mult) (.int i) (.int j) (.int (i * j)) := fun _ _ imm _ _ _ _ _ _ L ra rb k => by
  obtain ⟨t, rfl⟩ := ra.ofInt; obtain ⟨t', rfl⟩ := rb.ofInt; exact mul_int (k _ _ _ imm L (fun _ p => p) (Rel.int _ _)) hm
/-- an item of a tuple at a place in it -/
theorem tup_A {p : Nat} (hk : k = (p : Int)) (hx : l[p]? = some c) (hz : l.length ≤ 1000) (hs : plainSlice slice = true) : BinA Γ σ (subscriptTail value slice) (.tup l) (.int k) c := by
  subst hk
  intro m mu imm h tk E Q v w L ra rb q
  obtain ⟨t, vs, rfl, ht, r⟩ := L.tup ra
  obtain ⟨u, rfl⟩ := rb.ofInt
  obtain ⟨y, hy, ry⟩ := r.get hx
  have h2 := (List.getElem?_eq_some_iff.mp hy).1
  have h3 := r.length
  exact tail_any ht.typeIs slot_tuple_getitem.lookup (getItem_tuple ht (by omega) (by omega) (by rw [List.size_toArray]; exact seqIndex_nat h2) (by simpa using hy) (q _ _ _ imm L (fun _ p => p) ry)) (plainSlice_eq hs)
/-- the last item of a tuple -/
theorem tupLast_A (hx : l.getLast? = some c) (hz : l.length ≤ 1000) (hs : plainSlice slice = true) : BinA Γ σ (subscriptTail value slice) (.tup l) (.int (-1)) c := by
  intro m mu imm h tk E Q v w L ra rb q
  obtain ⟨t, vs, rfl, ht, r⟩ := L.tup ra
  obtain ⟨u, rfl⟩ := rb.ofInt
  rw [List.getLast?_eq_getElem?] at hx
  obtain ⟨y, hy, ry⟩ := r.get hx
  have h2 := (List.getElem?_eq_some_iff.mp hy).1
  have h3 := r.length
  have h4 : seqIndex? (-1) vs.toArray.size = some (l.length - 1) := by
    unfold seqIndex?
    simp
    omega
  exact tail_any ht.typeIs slot_tuple_getitem.lookup (getItem_tuple ht (by omega) (by omega) h4 (by simpa using hy) (q _ _ _ imm L (fun _ p => p) ry)) (plainSlice_eq hs)
/-- an item of a list at a place in it -/
theorem lst_A {p : Nat} (hl : AtL σ a l) (hk : k = (p : Int)) (hx : l[p]? = some c) (hz : l.length ≤ 1000) (hs : plainSlice slice = true) (hg : isName value = true) : BinA Γ σ (subscriptTail value slice) a (.int k) c := by
  subst hk
  intro m mu imm h tk E Q v w L ra rb q
  obtain ⟨t, vs, rfl, ht, r⟩ := L.lstAt hl ra
  obtain ⟨u, rfl⟩ := rb.ofInt
  obtain ⟨y, hy, ry⟩ := r.get hx
  have h2 := (List.getElem?_eq_some_iff.mp hy).1
  have h3 := r.length
  exact item_list ht (by omega) (by omega) (by simpa using hy) (q _ _ _ imm L (fun _ p => p) ry) (plainSlice_eq hs) (isName_go hg)
/-- the last item of a list -/
theorem lstLast_A (hl : AtL σ a l) (hx : l.getLast? = some c) (hz : l.length ≤ 1000) (hs : plainSlice slice = true) (hg : isName value = true) : BinA Γ σ (subscriptTail value slice) a (.int (-1)) c := by
  intro m mu imm h tk E Q v w L ra rb q
  obtain ⟨t, vs, rfl, ht, r⟩ := L.lstAt hl ra
  obtain ⟨u, rfl⟩ := rb.ofInt
  rw [List.getLast?_eq_getElem?] at hx
  obtain ⟨y, hy, ry⟩ := r.get hx
  have h2 := (List.getElem?_eq_some_iff.mp hy).1
  have h3 := r.length
  refine subscriptTail_builtin ht.typeIs list_getitem_lookup (wpAny_getItem_list_neg ht (by omega) (by simp; omega) (by omega) ?_ (q _ _ _ imm L (fun _ p => p) ry)) (plainSlice_eq hs) (isName_go hg)
  rw [show ((-1 : Int) + (List.toArray vs).size).toNat = l.length - 1 by simp; omega]
  simpa using hy
/-- a number of a map -/
theorem map_A {f : Int → Option Int} (hx : f k = some i) (hs : plainSlice slice = true) (hg : isName value = true) : BinA Γ σ (subscriptTail value slice) (.map f) (.int k) (.int i) := by
  intro m mu imm h tk E Q v w L ra rb q
  obtain ⟨p, g, rfl, hm, he⟩ := L.map ra
  obtain ⟨u, rfl⟩ := rb.ofInt
  obtain ⟨t, ht⟩ := he _ _ hx
  exact subscriptTail_builtin hm.typeIs slot_dict_getitem.lookup (wpAny_getItem_intMap hm ht (q _ _ _ imm L (fun _ p => p) (Rel.int _ _))) (plainSlice_eq hs) (isName_go hg)
theorem in_tupA : BinA Γ σ (compareOp .In) (.int i) (.tup (xs.map .int)) (.bool (xs.any (· == i))) := by
  intro m mu imm h tk E Q v w L ra rb q
  obtain ⟨p, vs, rfl, ht, r⟩ := L.tup rb
  obtain ⟨t, rfl⟩ := ra.ofInt
  exact in_tuple_ints ht (by simpa using r.ints) (q _ _ _ imm L (fun _ p => p) (Rel.bool _))
theorem notIn_tupA : BinA Γ σ (compareOp .NotIn) (.int i) (.tup (xs.map .int)) (.bool (!xs.any (· == i))) := by
  intro m mu imm h tk E Q v w L ra rb q
  obtain ⟨p, vs, rfl, ht, r⟩ := L.tup rb
  obtain ⟨t, rfl⟩ := ra.ofInt
  exact notin_tuple_ints ht (by simpa using r.ints) (q _ _ _ imm L (fun _ p => p) (Rel.bool _))
def intIs (i : Int) : Value → Bool
  | .int k _ => k == i
  | _ => false
theorem any_intIs {vs : List Value} (hi : IntsAre vs xs) : vs.any (intIs i) = xs.any (· == i) := by
  induction hi with
  | nil => rfl
  | cons a t r ih => rw [List.any_cons, List.any_cons, ih]; rfl
theorem eqAt_intIs {A : Around} {s : Shared} {vs : List Value} {t : Tok} (hi : IntsAre vs xs) : ∀ y ∈ vs, PySem.SeqAt.EqAt A s y (.int i t) (intIs i y) := by
  induction hi with
  | nil => intro y hy; cases hy
  | cons a t' r ih =>
    intro y hy
    rcases List.mem_cons.mp hy with rfl | hy
    · exact (PySem.MeetsSeq.EqGives.int a i t' t).at _ _
    · exact ih y hy
theorem in_lstA : BinA Γ σ (compareOp .In) (.int i) (.lst (xs.map .int)) (.bool (xs.any (· == i))) := by
  intro m mu imm h tk E Q v w L ra rb q
  obtain ⟨p, vs, rfl, ht, r⟩ := L.lstAt .imm rb
  obtain ⟨t, rfl⟩ := ra.ofInt
  refine PySem.SeqAt.in_listAt (intIs i) ht (fun y hy => eqAt_intIs r.ints y (by simpa using hy)) ?_
  have e : vs.toArray.any (intIs i) = xs.any (· == i) := by rw [← any_intIs r.ints]; simp
  rw [e]
  exact q _ _ _ imm L (fun _ p => p) (Rel.bool _)
theorem in_rngA : BinA Γ σ (compareOp .In) (.int k) (.rng i j) (.bool (decide (i ≤ k ∧ k < j))) := by
  intro m mu imm h tk E Q v w L ra rb q
  obtain ⟨p, t, u, w, rfl, hr⟩ := L.rng rb
  obtain ⟨t, rfl⟩ := ra.ofInt
  exact in_range (s := Γ.st h tk) hr (q _ _ _ imm L (fun _ p => p) (Rel.bool _))
theorem in_strsV {ss : List Str} {d : Bool} (hd : ss.any (· == x) = d) : BinA Γ σ (compareOp .In) (.str x) (.tup (ss.map .str)) (.bool d) := by
  subst hd
  intro m mu imm h tk E Q v w L ra rb q
  obtain ⟨p, vs, rfl, ht, r⟩ := L.tup rb
  obtain ⟨t, rfl⟩ := ra.ofStr
  exact in_tuple_strs ht (by simpa using r.strs) (q _ _ _ imm L (fun _ p => p) (Rel.bool _))
theorem len_tupA (hz : l.length ≤ 1000) : StepA Γ σ [.tup l] (fun vs => call (.builtin "len") vs) (.int l.length) σ := by
  intro m mu imm h tk E Q vs L r q
  obtain ⟨_, rfl, r1⟩ := r.one
  obtain ⟨p, ws, rfl, ht, r⟩ := L.tup r1
  have h3 := r.length
  refine len_tuple ht (by simp; omega) ?_
  rw [show ((List.toArray ws).size : Int) = (l.length : Int) by simp [h3]]
  exact q _ _ _ imm L (fun _ p => p) (Rel.int _ _)
theorem len_lstA (hl : AtL σ a l) (hz : l.length ≤ 1000) : StepA Γ σ [a] (fun vs => call (.builtin "len") vs) (.int l.length) σ := by
  intro m mu imm h tk E Q vs L r q
  obtain ⟨_, rfl, r1⟩ := r.one
  obtain ⟨p, ws, rfl, ht, r⟩ := L.lstAt hl r1
  have h3 := r.length
  refine PyProof.Rows.len_list ht (by simp; omega) ?_
  rw [show ((List.toArray ws).size : Int) = (l.length : Int) by simp [h3]]
  exact q _ _ _ imm L (fun _ p => p) (Rel.int _ _)
theorem up1 {x : Addr × Obj} : ∀ p ∈ imm, p ∈ x :: imm := fun _ hp => List.mem_cons_of_mem _ hp
theorem up2 {i₁ i₂ : List (Addr × Obj)} {x : Addr × Obj} (k : ∀ p ∈ i₁, p ∈ i₂) : ∀ p ∈ i₁, p ∈ x :: i₂ := fun p hp => List.mem_cons_of_mem _ (k p hp)
theorem tuple_lstA (hl : AtL σ a l) (hz : l.length ≤ 1000) : StepA Γ σ [a] (fun vs => call (.type "tuple") vs) (.tup l) σ := by
  intro m mu imm h tk E Q vs L r q
  obtain ⟨_, rfl, r1⟩ := r.one
  obtain ⟨p, ws, rfl, ht, r⟩ := L.lstAt hl r1
  have h3 := r.length
  refine call_tuple_list ht (fun h' hk => ?_) (by rw [sizeLine_eq]; simp; omega)
  exact q _ _ _ _ ((L.grown hk).push { cls := .type "tuple", data := .seq (List.toArray ws) } rfl) up1 (Rel.tup (n := 0) (.inr List.mem_cons_self) rfl rfl rfl (r.mono (Cx.S_mono up1)))
def srt (xs : List Int) : List Int := xs.mergeSort fun a b => decide (a ≤ b)
theorem srt_perm : (srt xs).Perm xs := List.mergeSort_perm _ _
theorem srt_le : (srt xs).Pairwise (· ≤ ·) := by
  have := List.pairwise_mergeSort (le := fun a b : Int => decide (a ≤ b)) (by intro a b c h1 h2; simp at *; omega) (by intro a b; simp; omega) xs
  exact this.imp (by intro a b h; simpa using h)
theorem srt_eq {ys : List Int} (p : ys.Perm xs) (q : ys.Pairwise (· ≤ ·)) : ys = srt xs :=
  List.Perm.eq_of_pairwise (fun a b _ _ h1 h2 => Int.le_antisymm h1 h2) q srt_le (p.trans srt_perm.symm)
/-- sorted() of a tuple or of a list of ints -/
theorem sorted_at {p : Addr} {ws : List Value} {o : Obj} {n' : Nat} (L : Led Γ m σ mu imm h) (ho : h.get? p = some o) (hc : o.cls = .type "list" ∨ o.cls = .type "tuple") (hd : o.data = .seq (List.toArray ws) n') (r : RelL (Γ.S imm) (xs.map .int) ws) (hz : xs.length < 64)
    (q : Beh Γ m σ mu imm (.lst ((srt xs).map .int)) Q) : wpAny Γ.M Γ.A (call (.builtin "sorted") [.ref p]) Q E (Γ.st h tk) := by
  obtain ⟨st, S, N, nd⟩ := L.ex
  have h3 := r.length
  rcases hc with hc | hc
  all_goals
    refine sorted_seq (by first | exact .inl rfl | exact .inr rfl) L.F N ho hc hd (by simpa using r.ints) (by simp at h3 ⊢; omega) ?_
    intro D vs' ns' e h' F' N' l1 i' p' q'
    rw [srt_eq p' q'] at i'
    exact q _ _ _ _ (led_cons S nd F' N' fun p hp => Nat.ne_of_lt (l1 p hp)) up1 (Rel.lst (vs := vs'.toList) (.inr List.mem_cons_self) rfl (by simp; rfl) (RelL.of_ints i'))
theorem sorted_A (hz : xs.length < 64) : StepA Γ σ [.tup (xs.map .int)] (fun vs => call (.builtin "sorted") vs) (.lst ((srt xs).map .int)) σ := by
  intro m mu imm h tk E Q vs L r q
  obtain ⟨_, rfl, r1⟩ := r.one
  obtain ⟨p, ws, rfl, ⟨o, ho, hc, n', hd⟩, r⟩ := L.tup r1
  exact sorted_at L ho (.inr hc) hd r hz q
theorem sortedL_A (hl : AtL σ a (xs.map .int)) (hz : xs.length < 64) : StepA Γ σ [a] (fun vs => call (.builtin "sorted") vs) (.lst ((srt xs).map .int)) σ := by
  intro m mu imm h tk E Q vs L r q
  obtain ⟨_, rfl, r1⟩ := r.one
  obtain ⟨p, ws, rfl, ⟨o, ho, hc, n', hd⟩, r⟩ := L.lstAt hl r1
  exact sorted_at L ho (.inl hc) hd r hz q
theorem range1_A : StepA Γ σ [.int i] (fun vs => call (.type "range") vs) (.rng 0 i) σ := by
  intro m mu imm h tk E Q vs L r q
  obtain ⟨_, rfl, r1⟩ := r.one
  obtain ⟨t, rfl⟩ := r1.ofInt
  exact call_range_1 (q _ _ _ _ (L.push _ rfl) up1 ⟨_, _, rfl, .inr List.mem_cons_self, fun h e => ⟨_, _, _, e⟩⟩)
theorem range2_A : StepA Γ σ [.int i, .int j] (fun vs => call (.type "range") vs) (.rng i j) σ := by
  intro m mu imm h tk E Q vs L r q
  obtain ⟨_, _, rfl, r1, r2⟩ := r.two
  obtain ⟨t, rfl⟩ := r1.ofInt
  obtain ⟨t', rfl⟩ := r2.ofInt
  exact call_range_2 (q _ _ _ _ (L.push _ rfl) up1 ⟨_, _, rfl, .inr List.mem_cons_self, fun h e => ⟨_, _, _, e⟩⟩)
theorem sum_lstA : StepA Γ σ [.lst (xs.map .int)] (fun vs => call (.builtin "sum") vs) (.int xs.sum) σ := by
  intro m mu imm h tk E Q vs L r q
  obtain ⟨_, rfl, r1⟩ := r.one
  obtain ⟨p, ws, rfl, ht, r⟩ := L.lstAt .imm r1
  obtain ⟨st, S, N, nd⟩ := L.ex
  exact PyProof.Rows.LSm.sum_ints L.F N rfl ht r.ints fun h' tk t' F' N' => q _ _ _ imm ⟨F', st, S, N', nd⟩ (fun _ p => p) (Rel.int _ _)
/-- a tuple display -/
theorem EvA.tup {es : List Expr} {k : Nat} {as : List AV} (ha : ArA Γ env ρ σ es as σ₁) (hz : as.length ≤ 1000) : EvA Γ env ρ σ (.Tuple es k pos) (.tup as) σ₁ :=
  ⟨fun _ _ _ _ _ _ _ L N q => Tuple_ (ha.run _ _ _ _ _ _ _ _ L N fun vs h₁ tk₁ i₁ L₁ k₁ r₁ => wpAny_newTuple (q _ _ _ _ (L₁.push _ rfl) (up2 k₁)
    (Rel.tup (n := 0) (.inr List.mem_cons_self) rfl rfl rfl (r₁.mono (Cx.S_mono up1)))) (by rw [sizeLine_eq, ← r₁.length]; omega))⟩
/-- a list display: a list that stands for good -/
theorem EvA.lst {es : List Expr} {as : List AV} (ha : ArA Γ env ρ σ es as σ₁) (hz : as.length ≤ 1000) : EvA Γ env ρ σ (.List es pos) (.lst as) σ₁ :=
  ⟨fun _ _ _ _ _ _ _ L N q => List_ (ha.run _ _ _ _ _ _ _ _ L N fun vs h₁ tk₁ i₁ L₁ k₁ r₁ => wpAny_newList (hsz := by rw [sizeLine_eq, ← r₁.length]; omega) (q _ _ _ _ (L₁.push _ rfl) (up2 k₁)
    (Rel.lst (n := 0) (.inr List.mem_cons_self) rfl rfl (r₁.mono (Cx.S_mono up1)))))⟩
end

end
section
def plainRhs : Expr → Bool
  | .ListComp .. => false
  | .SetComp .. => false
  | .DictComp .. => false
  | _ => true
theorem plainRhs_eq {e : Expr} {t : Option Expr} {l : Nat} {env : Env} (h : plainRhs e = true) : swapsWith e t l env = pure false := by
  cases e <;> first | rfl | cases h
abbrev upd (m : Str → Option Value) (x : Str) (v : Value) : Str → Option Value := fun y => if y = x then some v else m y
section
variable {n u : Nat} {Γ : Cx n u} {cn : Str} {cs : Scope} {ca : Addr} {ccd : Value} {env : Env} {ρ ρ' : Nms} {σ τ : Sto} {m cm : Str → Option Value} {mu imm : List (Addr × Obj)} {h h' : Heap} {tk : Nat} {E : Value → Shared → Prop}
  {e e1 e2 t : Expr} {a b c : AV} {pos px py : Pos} {x y : Str} {v : Value} {rest body orelse : List Stmt} {R : AV → Sto → Prop} {F F' : Nms → Sto → Prop} {P : AV → Sto → Prop}
/-- the cells of a run -/
structure Cel (Γ : Cx n u) (cs : Scope) (cm : Str → Option Value) (mu : List (Addr × Obj)) : Prop where
  are : CellsAre cm (cellsFrom (Γ.L + 1) cs.names []) mu
  nd : ((cellsFrom (Γ.L + 1) cs.names []).map (·.1)).Nodup
theorem Own.mono (O : Own Γ cs ρ m cm imm) {imm' : List (Addr × Obj)} (k : ∀ p ∈ imm, p ∈ imm') : Own Γ cs ρ m cm imm' := fun z b e => let ⟨w, r, q⟩ := O z b e; ⟨w, r.mono (Cx.S_mono k), q⟩
theorem Own.setL (O : Own Γ cs ρ m cm imm) (k : nmIs cs x .local = true) (r : Rel (Γ.S imm) a v) : Own Γ cs ((x, a) :: ρ) (upd m x v) cm imm := by
  intro z b e
  rw [List.lookup_cons] at e
  cases hb : z == x with
  | true =>
    rw [hb] at e; cases e
    rw [eq_of_beq hb]
    exact ⟨v, r, .inl ⟨k, by simp [upd]⟩⟩
  | false =>
    rw [hb] at e
    obtain ⟨w, r', q⟩ := O z b e
    have hne : z ≠ x := fun q => by rw [q] at hb; simp at hb
    exact ⟨w, r', q.imp (fun q => ⟨q.1, by simp [upd, hne, q.2]⟩) id⟩
theorem Own.setC (O : Own Γ cs ρ m cm imm) (k : nmIs cs x .cell = true) (r : Rel (Γ.S imm) a v) : Own Γ cs ((x, a) :: ρ) m (upd cm x v) imm := by
  intro z b e
  rw [List.lookup_cons] at e
  cases hb : z == x with
  | true =>
    rw [hb] at e; cases e
    rw [eq_of_beq hb]
    exact ⟨v, r, .inr ⟨k, by simp [upd]⟩⟩
  | false =>
    rw [hb] at e
    obtain ⟨w, r', q⟩ := O z b e
    have hne : z ≠ x := fun q => by rw [q] at hb; simp at hb
    exact ⟨w, r', q.imp id (fun q => ⟨q.1, by simp [upd, hne, q.2]⟩)⟩
theorem mem_look {x : Str} {c : Addr} : ∀ {l : List (Str × Addr)}, l.lookup x = some c → (x, c) ∈ l
  | [], e => by cases e
  | (k, d) :: l, e => by
    rw [List.lookup_cons] at e
    cases hb : x == k with
    | true => rw [hb] at e; cases e; rw [eq_of_beq hb]; exact .head _
    | false => rw [hb] at e; exact .tail _ (mem_look e)
theorem CellsAre.off {cm : Str → Option Value} {x : Str} {v : Value} : ∀ {cl : List (Str × Addr)} {cells : List (Addr × Obj)}, CellsAre cm cl cells → x ∉ cl.map (·.1) → CellsAre (upd cm x v) cl cells
  | _, _, .nil, _ => .nil
  | _, _, .cons (n := k) hd r, hx => by
    rw [List.map_cons, List.mem_cons, not_or] at hx
    refine .cons ?_ (CellsAre.off r hx.2)
    have hne : k ≠ x := fun q => hx.1 q.symm
    simp [upd, hne, hd]
theorem CellsAre.dom {cm : Str → Option Value} : ∀ {cl : List (Str × Addr)} {cells : List (Addr × Obj)}, CellsAre cm cl cells → cells.map (·.1) = cl.map (·.2)
  | _, _, .nil => rfl
  | _, _, .cons _ r => by rw [List.map_cons, List.map_cons, CellsAre.dom r]
theorem map_off {c : Addr} {o' : Obj} {l : List (Addr × Obj)} (h : c ∉ l.map (·.1)) : (l.map fun p => if p.1 = c then (c, o') else p) = l := by
  induction l with
  | nil => rfl
  | cons p l ih =>
    rw [List.map_cons, List.mem_cons, not_or] at h
    rw [List.map_cons, ih h.2, if_neg fun q => h.1 q.symm]
theorem CellsAre.set {cm : Str → Option Value} {x : Str} {c : Addr} {v : Value} {o' : Obj} (ho : o'.data = .cell (some v)) : ∀ {cl : List (Str × Addr)} {cells : List (Addr × Obj)}, CellsAre cm cl cells → (cl.map (·.1)).Nodup → (cells.map (·.1)).Nodup → cl.lookup x = some c →
    CellsAre (upd cm x v) cl (cells.map fun p => if p.1 = c then (c, o') else p)
  | _, _, .nil, _, _, e => by cases e
  | _, _, .cons (n := k) (c := c1) hd r, h1, h2, e => by
    rw [List.map_cons, List.nodup_cons] at h1 h2
    rw [List.lookup_cons] at e
    rw [List.map_cons]
    cases hb : x == k with
    | true =>
      rw [hb] at e; cases e
      have hk := eq_of_beq hb
      subst hk
      rw [map_off h2.1]
      simp only [if_true]
      exact .cons (by simp [upd, ho]) (CellsAre.off r h1.1)
    | false =>
      rw [hb] at e
      have hne : k ≠ x := fun q => by rw [q] at hb; simp at hb
      have hc : c1 ≠ c := fun q => by
        subst q
        refine h2.1 ?_
        rw [CellsAre.dom r]
        exact List.mem_map.mpr ⟨(x, c1), mem_look e, rfl⟩
      simp only [if_neg hc]
      exact .cons (by simp [upd, hne, hd]) (CellsAre.set ho r h1.2 h2.2 e)
def nmSt (cs : Scope) (x : Str) : Bool := nmIs cs x .local || nmIs cs x .cell
/-- a name is stored -/
theorem store_A {Q : Unit → Shared → Prop} (k : nmSt cs x = true) (L : Led Γ m σ mu imm h) (Y : Cel Γ cs cm mu) (O : Own Γ cs ρ m cm imm) (r : Rel (Γ.S imm) a v)
    (q : ∀ (h' : Heap) (tk' : Nat) (m' cm' : Str → Option Value) (mu' : List (Addr × Obj)), Led Γ m' σ mu' imm h' → Cel Γ cs cm' mu' → Own Γ cs ((x, a) :: ρ) m' cm' imm → Q () (Γ.st h' tk')) :
    wpAny Γ.M Γ.A (storeName (envOfC cn cs Γ.L ca ccd) x v) Q E (Γ.st h tk) := by
  obtain ⟨st, S, N, nd⟩ := L.ex
  rcases Bool.or_eq_true_iff.mp k with k | k
  · exact storeX_L L.F N (fun h' F' N' => q h' _ _ cm mu ⟨F', st, S, N', nd⟩ Y (O.setL k r)) (nmIs_kind k) (nmIs_look k)
  · obtain ⟨d, hd⟩ := Option.isSome_iff_exists.mp (cellsFrom_some cs.names (Γ.L + 1) [] (.inl (nmIs_look k)))
    obtain ⟨o, ho, hda⟩ := CellsAre.get Y.are hd
    have hm := List.mem_append_right st (List.mem_append_left imm ho)
    have hx := N _ hm
    refine wpAny_storeName_cell (env := envOfC cn cs Γ.L ca ccd) (nmIs_kind k) (nmIs_look k) hd ⟨o, hx.1, hda⟩ fun h' hv hs => ?_
    obtain ⟨o', ho', hd'⟩ := hv
    have e : (fun p : Addr × Obj => p.1) ∘ (fun p => if p.1 = d then (d, o') else p) = fun p => p.1 := by
      funext p
      simp only [Function.comp]
      split
      · rename_i e; exact e.symm
      · rfl
    have N' := N.update hm hs ho'
    have nd0 := nd
    rw [List.map_append, List.map_append, List.nodup_append, List.nodup_append] at nd
    have hi : d ∉ imm.map (·.1) := fun q => nd.2.1.2.2 d (List.mem_map.mpr ⟨_, ho, rfl⟩) d q rfl
    have hi2 : d ∉ st.map (·.1) := fun q => nd.2.2 d q d (List.mem_append_left _ (List.mem_map.mpr ⟨_, ho, rfl⟩)) rfl
    have e1 : ((st ++ (mu ++ imm)).map fun p => if p.1 = d then (d, o') else p) = st ++ ((mu.map fun p => if p.1 = d then (d, o') else p) ++ imm) := by rw [List.map_append, List.map_append, map_off hi, map_off hi2]
    rw [e1] at N'
    exact q h' _ m _ _ ⟨L.F.change hs hx.2.1 hx.2.2, st, S, N', by rw [← e1, List.map_map, e]; exact nd0⟩ ⟨CellsAre.set hd' Y.are Y.nd nd.2.1.1 hd, Y.nd⟩ (O.setC k r)
/-- what comes behind statements: a return, or the next statement -/
def RetB (Γ : Cx n u) (R : AV → Sto → Prop) (Q : Flow → Shared → Prop) : Prop :=
  ∀ (a : AV) (τ : Sto) (v : Value) (h' : Heap) (tk' : Nat) (m' : Str → Option Value) (mu' imm' : List (Addr × Obj)), R a τ → Led Γ m' τ mu' imm' h' → Rel (Γ.S imm') a v → Q (.ret v) (Γ.st h' tk')
def NxtB (Γ : Cx n u) (cs : Scope) (imm : List (Addr × Obj)) (F : Nms → Sto → Prop) (Q : Flow → Shared → Prop) : Prop :=
  ∀ (ρ : Nms) (τ : Sto) (h' : Heap) (tk' : Nat) (m' cm' : Str → Option Value) (mu' imm' : List (Addr × Obj)), F ρ τ → Led Γ m' τ mu' imm' h' → Cel Γ cs cm' mu' → Own Γ cs ρ m' cm' imm' → (∀ p ∈ imm, p ∈ imm') → Q .next (Γ.st h' tk')
theorem NxtB.mono {imm' : List (Addr × Obj)} {Q : Flow → Shared → Prop} (x : NxtB Γ cs imm F Q) (k : ∀ p ∈ imm, p ∈ imm') : NxtB Γ cs imm' F Q := fun ρ τ h' tk' m' cm' mu' i f L Y O k' => x ρ τ h' tk' m' cm' mu' i f L Y O fun p hp => k' p (k p hp)
/-- what a body's statements do: R of a return, F of the end of the statements -/
structure RuB (Γ : Cx n u) (cn : Str) (cs : Scope) (ca : Addr) (ccd : Value) (ρ : Nms) (σ : Sto) (st : List Stmt) (R : AV → Sto → Prop) (F : Nms → Sto → Prop) : Prop where
  run : ∀ (m cm : Str → Option Value) (mu imm : List (Addr × Obj)) (h : Heap) (tk : Nat) (Q : Flow → Shared → Prop), Led Γ m σ mu imm h → Cel Γ cs cm mu → Own Γ cs ρ m cm imm → RetB Γ R Q → NxtB Γ cs imm F Q →
    wpAny Γ.M Γ.A (execs st (envOfC cn cs Γ.L ca ccd)) Q (fun _ _ => False) (Γ.st h tk)
/-- never: the statements do not fall through -/
def Nev : Nms → Sto → Prop := fun _ _ => False
/-- an expression's value by a relation: for new places -/
structure EvR (Γ : Cx n u) (env : Env) (ρ : Nms) (σ : Sto) (e : Expr) (P : AV → Sto → Prop) : Prop where
  run : ∀ (m : Str → Option Value) (mu imm : List (Addr × Obj)) (h : Heap) (tk : Nat) (E : Value → Shared → Prop) (Q : Value → Shared → Prop), Led Γ m σ mu imm h → Nm Γ env ρ m mu imm → (∀ a τ, P a τ → Beh Γ m τ mu imm a Q) → wpAny Γ.M Γ.A (eval e env) Q E (Γ.st h tk)
structure ArR (Γ : Cx n u) (env : Env) (ρ : Nms) (σ : Sto) (es : List Expr) (P : List AV → Sto → Prop) : Prop where
  run : ∀ (m : Str → Option Value) (mu imm : List (Addr × Obj)) (h : Heap) (tk : Nat) (E : Value → Shared → Prop) (Q : List Value → Shared → Prop) (pos : Pos), Led Γ m σ mu imm h → Nm Γ env ρ m mu imm →
    (∀ (as : List AV) (τ : Sto) (vs : List Value) (h' : Heap) (tk' : Nat) (imm' : List (Addr × Obj)), P as τ → Led Γ m τ mu imm' h' → (∀ p ∈ imm, p ∈ imm') → RelL (Γ.S imm') as vs → Q vs (Γ.st h' tk')) → wpAny Γ.M Γ.A (spliced (backTo pos (starEach es env))) Q E (Γ.st h tk)
theorem EvA.rel (h : EvA Γ env ρ σ e a τ) (p : P a τ) : EvR Γ env ρ σ e P := ⟨fun _ _ _ _ _ _ _ L N q => h.run _ _ _ _ _ _ _ L N (q _ _ p)⟩
theorem ArA.rel {es : List Expr} {as : List AV} {P : List AV → Sto → Prop} (h : ArA Γ env ρ σ es as τ) (p : P as τ) : ArR Γ env ρ σ es P := ⟨fun _ _ _ _ _ _ _ _ L N q => h.run _ _ _ _ _ _ _ _ L N fun _ _ _ _ L' k r => q _ _ _ _ _ _ p L' k r⟩
theorem ArR.cons {es : List Expr} {P : AV → Sto → Prop} {P' : List AV → Sto → Prop} (h1 : EvR Γ env ρ σ e P) (h2 : ∀ a τ, P a τ → ArR Γ env ρ τ es fun as τ' => P' (a :: as) τ') (hn : noStar e = true) : ArR Γ env ρ σ (e :: es) P' :=
  ⟨fun _ _ _ _ _ _ _ _ L N q => args_cons (h1.run _ _ _ _ _ _ _ L N fun a τ p v h₁ tk₁ i₁ L₁ k₁ r₁ => (h2 a τ p).run _ _ _ _ _ _ _ _ L₁ (N.mono k₁) fun as τ' vs h₂ tk₂ i₂ p' L₂ k₂ r₂ =>
    q (a :: as) τ' (v :: vs) h₂ tk₂ i₂ p' L₂ (fun p hp => k₂ p (k₁ p hp)) (.cons (r₁.mono (Cx.S_mono k₂)) r₂)) (noStar_eq hn)⟩
/-- a tuple by a relation of its items -/
def Tup (P : List AV → Sto → Prop) (a : AV) (τ : Sto) : Prop := ∃ as, a = .tup as ∧ P as τ
theorem EvR.tup {es : List Expr} {k : Nat} {P : List AV → Sto → Prop} (ha : ArR Γ env ρ σ es fun as τ => as.length ≤ 1000 ∧ P as τ) : EvR Γ env ρ σ (.Tuple es k pos) (Tup P) :=
  ⟨fun _ _ _ _ _ _ _ L N q => Tuple_ (ha.run _ _ _ _ _ _ _ _ L N fun as τ vs h₁ tk₁ i₁ p L₁ k₁ r₁ => wpAny_newTuple (q _ _ ⟨as, rfl, p.2⟩ _ _ _ _ (L₁.push _ rfl) (up2 k₁)
    (Rel.tup (n := 0) (.inr List.mem_cons_self) rfl rfl rfl (r₁.mono (Cx.S_mono up1)))) (by rw [sizeLine_eq, ← r₁.length]; have := p.1; omega))⟩
/-- a list display: a new place of the store -/
theorem EvR.list {es : List Expr} {as : List AV} (ha : ArA Γ env ρ σ es as τ) (hz : as.length ≤ 1000) (hp : ∀ p, P (.lit (.ref p)) ((p, .lst as) :: τ)) : EvR Γ env ρ σ (.List es pos) P :=
  ⟨fun _ _ _ _ _ _ _ L N q => List_ (ha.run _ _ _ _ _ _ _ _ L N fun vs h₁ tk₁ i₁ L₁ k₁ r₁ => wpAny_newList (hsz := by rw [sizeLine_eq, ← r₁.length]; omega)
    (q _ _ (hp _) _ _ _ i₁ (L₁.sto (fun _ _ e => Heap.get?_push_of_some _ e) (Heap.get?_push_size _ rfl) (Heap.get?_none_of_le (Nat.le_refl _)) ⟨0, vs, rfl, r₁⟩) k₁ (Rel.lit _)))⟩
/-- a call by a relation -/
theorem EvR.callF {f : Str} {G : Addr} {es : List Expr} {as : List AV} {n' u' : Nat} {pre post σ₁ : Sto} (hf : EvA Γ env ρ σ (.Name f px) (.lit (.ref G)) σ) (ha : ArA Γ env ρ σ (e :: es) as (pre ++ (σ₁ ++ post))) (hs : FnR n' u' G as σ₁ R) (hP : ∀ a τ, R a τ → P a (pre ++ (τ ++ post)))
    (hk : ∀ w : World, keepIn (hd.heap_1 w.params) (.ref G) = true) (hp : (e :: es).all noStar = true) (hn : n' + 1 ≤ n) (hu : u' + 3 ≤ u) : EvR Γ env ρ σ (.Call (.Name f px) (e :: es) [] pos) P :=
  ⟨fun m mu imm h tk E Q L N q => Call_ (hf.run _ _ _ _ _ _ _ L N fun v h₁ tk₁ i₁ L₁ k₁ r₁ => by
    obtain rfl := r₁.ofLit
    have hp' := hp
    rw [List.all_cons, Bool.and_eq_true] at hp'
    exact callWith_K Γ.X (hk _) (ha.run _ _ _ _ _ _ _ _ L₁ (N.mono k₁) fun vs h₂ tk₂ i₂ L₂ k₂ r₂ => ⟨frag_keeps Γ.X L₂.F.keep, call_R hs hn hu L₂ r₂ fun b τ' hR => ((q _ _ (hP b τ' hR)).mono k₁).mono k₂⟩) (noStar_eq hp'.1) (plain_args hp'.2))⟩
theorem RuB.nil (hF : F ρ σ) : RuB Γ cn cs ca ccd ρ σ [] R F := ⟨fun _ _ _ imm _ _ _ L Y O _ f => wpAny_execs_nil (f _ _ _ _ _ _ _ imm hF L Y O fun _ p => p)⟩
theorem RuB.ret (he : EvA Γ (envOfC cn cs Γ.L ca ccd) ρ σ e a τ) (hR : R a τ) : RuB Γ cn cs ca ccd ρ σ (.Return (some e) pos :: rest) R F :=
  ⟨fun _ _ _ _ _ _ _ L Y O q _ => wpAny_execs_cons (wpAny_Return_some (he.run _ _ _ _ _ _ _ L (O.nm Y.are) fun v h₁ tk₁ i₁ L₁ _ r₁ => q _ _ v h₁ tk₁ _ _ i₁ hR L₁ r₁))⟩
theorem RuB.retR (he : EvR Γ (envOfC cn cs Γ.L ca ccd) ρ σ e R) : RuB Γ cn cs ca ccd ρ σ (.Return (some e) pos :: rest) R F :=
  ⟨fun _ _ _ _ _ _ _ L Y O q _ => wpAny_execs_cons (wpAny_Return_some (he.run _ _ _ _ _ _ _ L (O.nm Y.are) fun a τ hR v h₁ tk₁ i₁ L₁ _ r₁ => q _ _ v h₁ tk₁ _ _ i₁ hR L₁ r₁))⟩
/-- an expression for its deeds -/
theorem RuB.exp (he : EvA Γ (envOfC cn cs Γ.L ca ccd) ρ σ e a τ) (hs : swapsWith e none pos.line (envOfC cn cs Γ.L ca ccd) = pure false) (hi : interactive (envOfC cn cs Γ.L ca ccd) = false) (hk : RuB Γ cn cs ca ccd ρ τ rest R F) : RuB Γ cn cs ca ccd ρ σ (.Expr e pos :: rest) R F :=
  ⟨fun _ _ _ _ _ _ _ L Y O q f => wpAny_execs_cons (wpAny_Expr_any (he.run _ _ _ _ _ _ _ L (O.nm Y.are) fun v h₁ tk₁ i₁ L₁ k₁ r₁ => hk.run _ _ _ _ _ _ _ L₁ Y (O.mono k₁) q (f.mono k₁)) hi hs)⟩
theorem RuB.skip (ht : TsA Γ (envOfC cn cs Γ.L ca ccd) ρ σ t false) (k : RuB Γ cn cs ca ccd ρ σ rest R F) : RuB Γ cn cs ca ccd ρ σ (.If t body [] pos :: rest) R F :=
  ⟨fun _ _ _ _ _ _ _ L Y O q f => wpAny_execs_cons (wpAny_If (ht.run _ _ _ _ _ _ _ L (O.nm Y.are) fun h₁ tk₁ i₁ L₁ k₁ => wpAny_execs_nil (k.run _ _ _ _ _ _ _ L₁ Y (O.mono k₁) q (f.mono k₁))))⟩
theorem RuB.take (ht : TsA Γ (envOfC cn cs Γ.L ca ccd) ρ σ t true) (k : RuB Γ cn cs ca ccd ρ σ body R Nev) : RuB Γ cn cs ca ccd ρ σ (.If t body orelse pos :: rest) R F :=
  ⟨fun _ _ _ _ _ _ _ L Y O q _ => wpAny_execs_cons (wpAny_If (ht.run _ _ _ _ _ _ _ L (O.nm Y.are) fun h₁ tk₁ i₁ L₁ k₁ => k.run _ _ _ _ _ _ _ L₁ Y (O.mono k₁) q fun _ _ _ _ _ _ _ _ f => f.elim))⟩
/-- both branches, and what is behind them -/
theorem RuB.ite {d : Bool} (ht : TsA Γ (envOfC cn cs Γ.L ca ccd) ρ σ t d) (k1 : d = true → RuB Γ cn cs ca ccd ρ σ body R F') (k2 : d = false → RuB Γ cn cs ca ccd ρ σ orelse R F') (k : ∀ ρ' τ, F' ρ' τ → RuB Γ cn cs ca ccd ρ' τ rest R F) :
    RuB Γ cn cs ca ccd ρ σ (.If t body orelse pos :: rest) R F :=
  ⟨fun _ _ _ _ _ _ _ L Y O q f => wpAny_execs_cons (wpAny_If (ht.run _ _ _ _ _ _ _ L (O.nm Y.are) fun h₁ tk₁ i₁ L₁ k₁ => by
    cases d with
    | true => exact (k1 rfl).run _ _ _ _ _ _ _ L₁ Y (O.mono k₁) q fun ρ' τ h₂ tk₂ m₂ cm₂ mu₂ i₂ hF L₂ Y₂ O₂ k₂ => (k ρ' τ hF).run _ _ _ _ _ _ _ L₂ Y₂ O₂ q ((f.mono k₁).mono k₂)
    | false => exact (k2 rfl).run _ _ _ _ _ _ _ L₁ Y (O.mono k₁) q fun ρ' τ h₂ tk₂ m₂ cm₂ mu₂ i₂ hF L₂ Y₂ O₂ k₂ => (k ρ' τ hF).run _ _ _ _ _ _ _ L₂ Y₂ O₂ q ((f.mono k₁).mono k₂)))⟩
theorem RuB.asgR (he : EvR Γ (envOfC cn cs Γ.L ca ccd) ρ σ e P) (hs : swapsWith e (some (.Name x px)) pos.line (envOfC cn cs Γ.L ca ccd) = pure false) (k : nmSt cs x = true) (hk : ∀ a τ, P a τ → RuB Γ cn cs ca ccd ((x, a) :: ρ) τ rest R F) : RuB Γ cn cs ca ccd ρ σ (.Assign [.Name x px] e pos :: rest) R F :=
  ⟨fun _ _ _ _ _ _ _ L Y O q f => wpAny_execs_cons (wpAny_Assign_Name (he.run _ _ _ _ _ _ _ L (O.nm Y.are) fun a τ p v h₁ tk₁ i₁ L₁ k₁ r₁ =>
    store_A k L₁ Y (O.mono k₁) r₁ fun h' tk' m' cm' mu' L' Y' O' => (hk a τ p).run _ _ _ _ _ _ _ L' Y' O' q (f.mono k₁)) hs)⟩
theorem RuB.asgK (he : EvA Γ (envOfC cn cs Γ.L ca ccd) ρ σ e a τ) (hs : swapsWith e (some (.Name x px)) pos.line (envOfC cn cs Γ.L ca ccd) = pure false) (k : nmSt cs x = true) (hk : RuB Γ cn cs ca ccd ((x, a) :: ρ) τ rest R F) : RuB Γ cn cs ca ccd ρ σ (.Assign [.Name x px] e pos :: rest) R F :=
  .asgR (P := Is a τ) (he.rel ⟨rfl, rfl⟩) hs k fun b τ' hp => by obtain ⟨rfl, rfl⟩ := hp; exact hk
theorem RuB.asg (he : EvA Γ (envOfC cn cs Γ.L ca ccd) ρ σ e a τ) (hs : plainRhs e = true) (k : nmSt cs x = true) (hk : RuB Γ cn cs ca ccd ((x, a) :: ρ) τ rest R F) : RuB Γ cn cs ca ccd ρ σ (.Assign [.Name x px] e pos :: rest) R F :=
  .asgK he (plainRhs_eq hs) k hk
/-- names bound, one after the other -/
def bindN : List Str → List AV → Nms → Nms
  | x :: xs, a :: as, ρ => bindN xs as ((x, a) :: ρ)
  | _, _, ρ => ρ
/-- targets that store names -/
inductive TgL (env : Env) : List (Value → Sem Unit) → List Str → Prop
  | nil : TgL env [] []
  | cons {t : Value → Sem Unit} {x : Str} {ts : List (Value → Sem Unit)} {xs : List Str} (h : ∀ (M : Model) (A : Around) (E : Value → Shared → Prop) (s : Shared) (v : Value) (Q : Unit → Shared → Prop), wpAny M A (storeName env x v) Q E s → wpAny M A (t v) Q E s) (r : TgL env ts xs) : TgL env (t :: ts) (x :: xs)
def tgN : List Expr → Option (List Str)
  | [] => some []
  | .Name x _ :: r => (tgN r).map (x :: ·)
  | _ => none
theorem tgN_ok : ∀ {ts : List Expr} {xs : List Str}, tgN ts = some xs → TgL env ((assignEach ts env).map (·.2)) xs ∧ (assignEach ts env).length = xs.length ∧ (assignEach ts env).findIdx? (·.1) = none
  | [], _, e => by cases e; exact ⟨.nil, rfl, rfl⟩
  | t :: r, _, e => by
    cases t <;> first | (cases e; done) | skip
    obtain ⟨ys, hy, rfl⟩ := Option.map_eq_some_iff.mp e
    obtain ⟨h1, h2, h3⟩ := tgN_ok hy
    refine ⟨.cons (fun _ _ _ _ _ _ h => assign_Name h) h1, congrArg (· + 1) h2, ?_⟩
    show List.findIdx? _ ((false, _) :: assignEach r env) = none
    rw [List.findIdx?_cons, h3]
    rfl
theorem tgB_ok : ∀ {xs : List Str}, TgL env (xs.map fun n => bindName env n) xs
  | [] => .nil
  | _ :: _ => .cons (fun _ _ _ _ _ _ h => bindName_ h) tgB_ok
theorem stores_A {Q : Unit → Shared → Prop} {ts : List (Value → Sem Unit)} {xs : List Str} (g : TgL (envOfC cn cs Γ.L ca ccd) ts xs) : ∀ {as : List AV} {vs : List Value} {ρ : Nms} {m cm : Str → Option Value} {mu : List (Addr × Obj)} {h : Heap} {tk : Nat}, xs.all (nmSt cs) = true → as.length = xs.length → Led Γ m σ mu imm h → Cel Γ cs cm mu → Own Γ cs ρ m cm imm → RelL (Γ.S imm) as vs →
    (∀ (h' : Heap) (tk' : Nat) (m' cm' : Str → Option Value) (mu' : List (Addr × Obj)), Led Γ m' σ mu' imm h' → Cel Γ cs cm' mu' → Own Γ cs (bindN xs as ρ) m' cm' imm → Q () (Γ.st h' tk')) →
    wpAny Γ.M Γ.A (assignInOrder ts vs) Q E (Γ.st h tk) := by
  induction g with
  | nil =>
    intro as vs ρ m cm mu h tk _ hz L Y O r q
    obtain rfl := List.eq_nil_of_length_eq_zero hz
    exact assignInOrder_nil (q _ _ _ _ _ L Y O)
  | cons ht _ ih =>
    intro as vs ρ m cm mu h tk hc hz L Y O r q
    cases as with
    | nil => cases hz
    | cons a as =>
      obtain ⟨v, vs, rfl, ra, r⟩ := r.ofCons
      rw [List.all_cons, Bool.and_eq_true] at hc
      exact assignInOrder_cons (ht _ _ _ _ _ _ (store_A hc.1 L Y O ra fun h' tk' m' cm' mu' L' Y' O' => ih hc.2 (Nat.succ.inj hz) L' Y' O' r q))
theorem RelL.reverse {S : Kn} : ∀ {l : List AV} {vs : List Value}, RelL S l vs → RelL S l.reverse vs.reverse
  | [], _, h => by rw [h.ofNil]; exact .nil
  | _ :: _, _, h => by
    obtain ⟨v, ws, rfl, h', q⟩ := h.ofCons
    rw [List.reverse_cons, List.reverse_cons]
    exact q.reverse.append (.cons h' .nil)
/-- names take the items of a tuple -/
theorem RuB.asgTR {ts : List Expr} {xs : List Str} {tp : Pos} {k' : Nat} {P : List AV → Sto → Prop} (he : EvR Γ (envOfC cn cs Γ.L ca ccd) ρ σ e (Tup P)) 
    (hs : swapsWithSole [.Tuple ts k' tp] e pos.line (envOfC cn cs Γ.L ca ccd) = pure false) (hw : swappedStores [.Tuple ts k' tp] e (envOfC cn cs Γ.L ca ccd) = pure none) (hx : tgN ts = some xs) (hc : xs.all (nmSt cs) = true)
    (hk : ∀ as τ, P as τ → as.length = xs.length ∧ RuB Γ cn cs ca ccd (bindN xs as ρ) τ rest R F) : RuB Γ cn cs ca ccd ρ σ (.Assign [.Tuple ts k' tp] e pos :: rest) R F :=
  ⟨fun _ _ _ _ _ _ _ L Y O q f => wpAny_execs_cons (Assign_Tuple (he.run _ _ _ _ _ _ _ L (O.nm Y.are) fun a τ p v h₁ tk₁ i₁ L₁ k₁ r₁ => by
    obtain ⟨as, rfl, p⟩ := p
    obtain ⟨hz, hk⟩ := hk _ _ p
    obtain ⟨p, vs, rfl, ht, r⟩ := L₁.tup r₁
    obtain ⟨g1, g2, g3⟩ := tgN_ok (env := envOfC cn cs Γ.L ca ccd) hx
    refine assign_Tuple_tuple rfl ht (by rw [g2, ← hz, r.length]; rfl) g3 fun h₂ hx => ?_
    have L₂ := L₁.grown (h' := h₂) fun b o e => hx b o (Nat.ne_of_lt (Heap.lt_size e)) e
    exact stores_A g1 hc hz L₂ Y (O.mono k₁) r fun h₃ tk₃ m₃ cm₃ mu₃ L₃ Y₃ O₃ => hk.run _ _ _ _ _ _ _ L₃ Y₃ O₃ q (f.mono k₁)) hs hw)⟩
/-- the same, stored from behind -/
theorem RuB.asgSR {ts : List Expr} {xs : List Str} {tp : Pos} {k' : Nat} {P : List AV → Sto → Prop} (he : EvR Γ (envOfC cn cs Γ.L ca ccd) ρ σ e (Tup P)) 
    (hs : swapsWithSole [.Tuple ts k' tp] e pos.line (envOfC cn cs Γ.L ca ccd) = pure false) (hw : swappedStores [.Tuple ts k' tp] e (envOfC cn cs Γ.L ca ccd) = pure (some xs)) (hc : xs.reverse.all (nmSt cs) = true)
    (hk : ∀ as τ, P as τ → as.length = xs.length ∧ RuB Γ cn cs ca ccd (bindN xs.reverse as.reverse ρ) τ rest R F) : RuB Γ cn cs ca ccd ρ σ (.Assign [.Tuple ts k' tp] e pos :: rest) R F :=
  ⟨fun _ _ _ _ _ _ _ L Y O q f => wpAny_execs_cons (Assign_Tuple_swapped (he.run _ _ _ _ _ _ _ L (O.nm Y.are) fun a τ p v h₁ tk₁ i₁ L₁ k₁ r₁ => by
    obtain ⟨as, rfl, p⟩ := p
    obtain ⟨hz, hk⟩ := hk _ _ p
    obtain ⟨p, vs, rfl, ht, r⟩ := L₁.tup r₁
    rw [← hz, r.length, ← List.size_toArray]
    refine PyProof.Rows.unpackItems_tuple rfl ht fun h₂ hx => ?_
    have L₂ := L₁.grown (h' := h₂) fun b o e => hx b o (Nat.ne_of_lt (Heap.lt_size e)) e
    exact stores_A tgB_ok hc (by rw [List.length_reverse, List.length_reverse, hz]) L₂ Y (O.mono k₁) r.reverse fun h₃ tk₃ m₃ cm₃ mu₃ L₃ Y₃ O₃ => hk.run _ _ _ _ _ _ _ L₃ Y₃ O₃ q (f.mono k₁)) hs hw)⟩
theorem RuB.asgT {ts : List Expr} {xs : List Str} {tp : Pos} {k' : Nat} {as : List AV} (he : EvA Γ (envOfC cn cs Γ.L ca ccd) ρ σ e (.tup as) τ) 
    (hs : swapsWithSole [.Tuple ts k' tp] e pos.line (envOfC cn cs Γ.L ca ccd) = pure false) (hw : swappedStores [.Tuple ts k' tp] e (envOfC cn cs Γ.L ca ccd) = pure none) (hx : tgN ts = some xs) (hc : xs.all (nmSt cs) = true) (hz : as.length = xs.length)
    (hk : RuB Γ cn cs ca ccd (bindN xs as ρ) τ rest R F) : RuB Γ cn cs ca ccd ρ σ (.Assign [.Tuple ts k' tp] e pos :: rest) R F :=
  .asgTR (P := fun bs τ' => bs = as ∧ τ' = τ) (he.rel ⟨_, rfl, rfl, rfl⟩) hs hw hx hc fun bs τ' hp => by obtain ⟨rfl, rfl⟩ := hp; exact ⟨hz, hk⟩
theorem RuB.asgS {ts : List Expr} {xs : List Str} {tp : Pos} {k' : Nat} {as : List AV} (he : EvA Γ (envOfC cn cs Γ.L ca ccd) ρ σ e (.tup as) τ) 
    (hs : swapsWithSole [.Tuple ts k' tp] e pos.line (envOfC cn cs Γ.L ca ccd) = pure false) (hw : swappedStores [.Tuple ts k' tp] e (envOfC cn cs Γ.L ca ccd) = pure (some xs)) (hc : xs.reverse.all (nmSt cs) = true) (hz : as.length = xs.length)
    (hk : RuB Γ cn cs ca ccd (bindN xs.reverse as.reverse ρ) τ rest R F) : RuB Γ cn cs ca ccd ρ σ (.Assign [.Tuple ts k' tp] e pos :: rest) R F :=
  .asgSR (P := fun bs τ' => bs = as ∧ τ' = τ) (he.rel ⟨_, rfl, rfl, rfl⟩) hs hw hc fun bs τ' hp => by obtain ⟨rfl, rfl⟩ := hp; exact ⟨hz, hk⟩
/-- fewer names are known -/
theorem RuB.thin (k : ∀ x a, ρ'.lookup x = some a → ρ.lookup x = some a) (h : RuB Γ cn cs ca ccd ρ' σ rest R F) : RuB Γ cn cs ca ccd ρ σ rest R F :=
  ⟨fun _ _ _ _ _ _ _ L Y O q f => h.run _ _ _ _ _ _ _ L Y (fun x a e => O x a (k x a e)) q f⟩
end
theorem nodup_off {l : List Nat} {k : Nat} (h : l.Nodup) : (l.map (· + k)).Nodup := by
  induction l with
  | nil => exact List.nodup_nil
  | cons a l ih =>
    rw [List.nodup_cons] at h
    rw [List.map_cons, List.nodup_cons]
    refine ⟨fun hx => ?_, ih h.2⟩
    obtain ⟨b, hb, e⟩ := List.mem_map.mp hx
    have : b = a := Nat.add_right_cancel e
    exact h.1 (this ▸ hb)
theorem cellsFrom_shift : ∀ (names : List (Str × NameKind)) (n k : Nat) (acc acc' : List (Str × Addr)), acc'.map (·.2) = (acc.map (·.2)).map (· + k) → (cellsFrom (n + k) names acc').map (·.2) = ((cellsFrom n names acc).map (·.2)).map (· + k)
  | [], _, _, _, _, h => h
  | (x, kd) :: r, n, k, acc, acc', h => by
    unfold cellsFrom
    split
    · rw [show n + k + 1 = n + 1 + k by omega]
      exact cellsFrom_shift r (n + 1) k _ _ (by simp [h])
    · exact cellsFrom_shift r n k _ _ h
/-- parameters bound, one after the other -/
theorem Own.binds {n u : Nat} {Γ : Cx n u} {cn : Str} {cs : Scope} {L ca : Addr} {ccd : Value} {imm : List (Addr × Obj)} : ∀ {xs : List Str} {as : List AV} {vs : List Value} {ρ : Nms} {m cm : Str → Option Value}, xs.all (nmSt cs) = true → Own Γ cs ρ m cm imm → RelL (Γ.S imm) as vs →
    Own Γ cs (bindN xs as ρ) (bindL (envOfC cn cs L ca ccd).kindOf (xs.zip vs) m) (bindC (envOfC cn cs L ca ccd).kindOf (xs.zip vs) cm) imm
  | [], _, _, _, _, _, _, O, _ => O
  | _ :: _, [], _, _, _, _, _, O, r => by rw [r.ofNil]; exact O
  | x :: xs, a :: as, _, _, _, _, hc, O, r => by
    obtain ⟨v, vs, rfl, ra, r⟩ := r.ofCons
    rw [List.all_cons, Bool.and_eq_true] at hc
    rw [List.zip_cons_cons]
    unfold bindL bindC bindN
    rcases Bool.or_eq_true_iff.mp hc.1 with k | k
    · have e : (envOfC cn cs L ca ccd).kindOf x = some .local := nmIs_look k
      rw [if_pos e, if_pos e]
      exact Own.binds hc.2 (O.setL k ra) r
    · have e : ¬ (envOfC cn cs L ca ccd).kindOf x = some .local := fun q => by
        have : cs.names.lookup x = some .local := q
        rw [nmIs_look k] at this; cases this
      rw [if_neg e, if_neg e]
      exact Own.binds hc.2 (O.setC k ra) r
/-- a function's contract from its body -/
theorem enterS {n u : Nat} {qual : Str} {params : Arguments} {body : List Stmt} {scope : Scope} {dV kV doc pm cdv ct oc : Value} {an od : Option Addr} {osl : Array (Option Value)} {f : Addr} {xs : List Str} {as : List AV} {name : Str} {σ : Sto} {R : AV → Sto → Prop}
    (ho : ∀ w : World, (hd.heap_1 w.params).lookup f = some ⟨oc, od, .func (fnOf name qual params body scope dV kV doc pm an cdv ct), osl⟩) (hcd : ∀ w : World, codeIn (hd.heap_1 w.params) cdv qual = true)
    (hb : ∀ S vs, RelL S as vs → bindArgs (fnOf name qual params body scope dV kV doc pm an cdv ct) ⟨vs, []⟩ = pure (xs.zip vs))
    (kx : xs.all (nmSt scope) = true) (hnd : ((cellsFrom 0 scope.names []).map (·.1)).Nodup) (hnd2 : ((cellsFrom 0 scope.names []).map (·.2)).Nodup)
    (h : ∀ Γ : Cx n u, RuB Γ qual scope f cdv (bindN xs as []) σ body R fun _ τ => R .none τ)
    (hco : scope.isCoroutine = false) (hgen : scope.isGenerator = false) (hk : scope.kind = .function) : FnR n u f as σ R := by
  refine ⟨fun {w mean mg mb dp un fr gd} s g S st vs X T sub hsz subS kn hst N₀ nd₀ hroom hu r => ?_⟩
  have look : ∀ z, nmSt scope z = true → scope.names.lookup z = some .local ∨ scope.names.lookup z = some .cell := fun z k => (Bool.or_eq_true_iff.mp k).imp nmIs_look nmIs_look
  have kz : ((xs.zip vs).all fun y => scope.names.lookup y.1 == some .local || scope.names.lookup y.1 == some .cell) = true := by
    rw [List.all_eq_true] at kx ⊢
    intro y hy
    rcases look _ (kx _ (List.of_mem_zip hy).1) with e | e <;> rw [e] <;> rfl
  refine enter_fnC (news := st) (binds := xs.zip vs) sub hsz X T N₀ (ho w) (hcd w) (show dp < recursionLimit by omega) (BindsTo.of_eq (hb S vs r)) kz hnd (fun L' h₁ tk cells Q hR hN F N Y l => ?_) hco hgen hk
  let Γ : Cx n u := ⟨w, mean, mg, mb, dp + 1, un + 3, fr.map (envOfC qual scope L' f cdv :: ·), gd, g, L', S, s.gens, s.drawn, s.os, X, T, subS, kn, by omega, by omega⟩
  have hS : ∀ a o, S a o → Γ.S [] a o := fun _ _ h => .inl h
  have dm : (cells.map (·.1)) = (cellsFrom (L' + 1) scope.names []).map (·.2) := CellsAre.dom Y
  have nd2 : (cells.map (·.1)).Nodup := by
    rw [dm, show L' + 1 = 0 + (L' + 1) from (Nat.zero_add _).symm, cellsFrom_shift scope.names 0 (L' + 1) [] [] rfl]
    exact nodup_off hnd2
  have low : ∀ x ∈ (cellsFrom (L' + 1) scope.names []).map (·.2), L' < x := by
    rw [show L' + 1 = 0 + (L' + 1) from (Nat.zero_add _).symm, cellsFrom_shift scope.names 0 (L' + 1) [] [] rfl]
    intro x hx
    obtain ⟨y, _, rfl⟩ := List.mem_map.mp hx
    exact Nat.lt_of_lt_of_le (Nat.lt_succ_self _) (Nat.le_add_left _ _)
  have nd3 : ((cells ++ st).map (·.1)).Nodup := nodup_app nd2 nd₀ fun p hp q hq e => by
    have h1 := low p.1 (dm ▸ List.mem_map_of_mem hp)
    have h2 := l q hq
    rw [e] at h1
    exact Nat.lt_asymm h1 h2
  refine (h Γ).run _ _ cells [] h₁ tk _ (Led.of F (hst.mono hS) N nd3 (by rw [List.append_nil]; exact List.perm_append_comm)) ⟨Y, ?_⟩ (Own.binds kx (fun z a e => by cases e) (r.mono hS)) (fun a τ v h' tk' m' mu' imm' hR' L₁ r₁ => ?_) fun ρ τ h' tk' m' cm' mu' imm' hR' L₁ _ _ _ => ?_
  · rw [cellsFrom_names scope.names (L' + 1) 0 [] [] rfl]; exact hnd
  all_goals
    obtain ⟨st', S', N', nd'⟩ := L₁.ex
    have sub' : (st' ++ imm').Sublist (st' ++ (mu' ++ imm')) := List.Sublist.append_left (List.sublist_append_right _ _) _
  · exact hR v _ ⟨v, h', tk', rfl, rfl, L₁.F.keep, a, τ, st', imm', hR', S', fun p hp => ⟨(N' p (sub'.subset hp)).1, (N' p (sub'.subset hp)).2.2⟩, (sub'.map _).nodup nd', r₁⟩
  · exact hN _ ⟨_, h', tk', rfl, rfl, L₁.F.keep, .none, τ, st', imm', hR', S', fun p hp => ⟨(N' p (sub'.subset hp)).1, (N' p (sub'.subset hp)).2.2⟩, (sub'.map _).nodup nd', Rel.none⟩

end
section
set_option genInjectivity false
set_option genSizeOf false
/-- what a comprehension's closure is -/
def closL (cells : List (Str × Addr)) : List (Str × NameKind) → List (Str × Addr) → List (Str × Addr)
  | [], acc => acc
  | (x, k) :: r, acc => if k == .free then closL cells r ((x, (cells.lookup x).getD 0) :: acc) else closL cells r acc
theorem closL_look {cells : List (Str × Addr)} {x : Str} : ∀ {names : List (Str × NameKind)} {acc : List (Str × Addr)}, (∀ p ∈ acc, p.2 = (cells.lookup p.1).getD 0) → ((x, NameKind.free) ∈ names ∨ x ∈ acc.map (·.1)) → (closL cells names acc).lookup x = some ((cells.lookup x).getD 0)
  | [], acc, ha, h => by
    rcases h with h | h
    · cases h
    · clear closL_look
      induction acc with
      | nil => cases h
      | cons p acc ih =>
        show List.lookup x (p :: acc) = _
        rw [List.lookup_cons]
        cases hb : x == p.1 with
        | true => rw [eq_of_beq hb, ha p List.mem_cons_self]
        | false =>
          refine ih (fun q hq => ha q (List.mem_cons_of_mem _ hq)) ?_
          rw [List.map_cons, List.mem_cons] at h
          rcases h with rfl | h
          · simp at hb
          · exact h
  | (y, k) :: r, acc, ha, h => by
    unfold closL
    split
    · rename_i hk
      refine closL_look (fun p hp => ?_) ?_
      · rcases List.mem_cons.mp hp with rfl | hp
        · rfl
        · exact ha p hp
      · rcases h with h | h
        · rcases List.mem_cons.mp h with e | h
          · cases e; exact .inr (by simp)
          · exact .inl h
        · exact .inr (by rw [List.map_cons]; exact List.mem_cons_of_mem _ h)
    · rename_i hk
      refine closL_look ha (h.imp (fun h => ?_) id)
      rcases List.mem_cons.mp h with e | h
      · cases e; simp at hk
      · exact h
theorem closure_go {env : Env} : ∀ (names : List (Str × NameKind)) (acc : List (Str × Addr)), (∀ y ∈ names, y.2 = .free → (env.cells.lookup y.1).isSome = true) →
    (forIn names acc fun (p : Str × NameKind) (r : List (Str × Addr)) => if p.2 == .free then do let c ← cellOf env p.1; pure (ForInStep.yield ((p.1, c) :: r)) else (pure (ForInStep.yield r) : Sem (ForInStep (List (Str × Addr))))) = pure (closL env.cells names acc)
  | [], acc, _ => rfl
  | (x, k) :: r, acc, h => by
    rw [List.forIn_cons]
    have ih := closure_go (env := env) r
    cases hk : k == .free with
    | true =>
      have hs := h (x, k) List.mem_cons_self (by simpa using hk)
      obtain ⟨c, hc⟩ := Option.isSome_iff_exists.mp hs
      have e : cellOf env x = pure c := by unfold cellOf; rw [hc]
      simp only [hk, if_true, e, pure_bind]
      rw [ih _ fun y hy => h y (List.mem_cons_of_mem _ hy)]
      simp only [closL, hk, if_true, hc, Option.getD_some]
    | false =>
      simp only [hk, Bool.false_eq_true, if_false, pure_bind]
      rw [ih _ fun y hy => h y (List.mem_cons_of_mem _ hy)]
      simp only [closL, hk, Bool.false_eq_true, if_false]
/-- all that a comprehension's scope must be, closed -/
def cmpOk (sc cs : Scope) : Bool := sc.kind == .function && (cs.kind == .function && sc.names.all fun y => !(y.1 == ("__debug__" : Str)) && (y.2 != .cell && ((y.2 != .local || sc.names.lookup y.1 == some .local) && (y.2 != .free || (sc.names.lookup y.1 == some .free && cs.names.lookup y.1 == some .cell)))))
section
variable {n u : Nat} {Γ : Cx n u} {cn : Str} {cs sc : Scope} {ca : Addr} {ccd : Value} {env : Env} {ρ : Nms} {m cm : Str → Option Value} {mu imm : List (Addr × Obj)} {h h' : Heap} {tk : Nat} {E : Value → Shared → Prop}
theorem closure_eq {env : Env} (hf : ∀ y ∈ sc.names, y.2 = .free → (env.cells.lookup y.1).isSome = true) : closureFor sc env = pure (closL env.cells sc.names []) := by
  have := closure_go sc.names [] hf
  unfold closureFor
  simp only [bind_pure]
  exact this
/-- the names that a comprehension sees of its frame: those that are cells there -/
def seen (sc : Scope) (ρ : Nms) : Nms := ρ.filter fun p => sc.names.lookup p.1 == some .free
theorem seen_look {x : Str} {a : AV} : ∀ {ρ : Nms}, (seen sc ρ).lookup x = some a → ρ.lookup x = some a ∧ sc.names.lookup x = some .free
  | [], e => by cases e
  | (k, b) :: ρ, e => by
    unfold seen at e
    rw [List.filter_cons] at e
    rw [List.lookup_cons]
    cases hk : sc.names.lookup k == some NameKind.free with
    | true =>
      simp only [hk, if_true, List.lookup_cons] at e
      cases hb : x == k with
      | true => rw [hb] at e; exact ⟨e, by rw [eq_of_beq hb]; exact eq_of_beq hk⟩
      | false => rw [hb] at e; exact seen_look e
    | false =>
      simp only [hk, Bool.false_eq_true, if_false] at e
      have := seen_look (ρ := ρ) e
      cases hb : x == k with
      | true => rw [eq_of_beq hb] at this; rw [this.2] at hk; simp at hk
      | false => exact this
theorem relabel_cell {env : Env} (hk : env.scope.kind = .function) : ∀ {names : List (Str × NameKind)} {x : Str}, names.lookup x = some .free → env.kindOf x = some .cell →
    (names.map fun (n, k) => if (k == NameKind.free && env.scope.kind == .function && env.kindOf n == some .cell) then (n, NameKind.cell) else (n, k)).lookup x = some .cell
  | [], _, e, _ => by cases e
  | (y, k) :: r, x, e, hc => by
    rw [List.lookup_cons] at e
    rw [List.map_cons, List.lookup_cons]
    cases hb : x == y with
    | true =>
      rw [hb] at e; cases e
      have := eq_of_beq hb; subst this
      simp [hk, hc]
    | false =>
      rw [hb] at e
      have : (x == (if (k == NameKind.free && env.scope.kind == .function && env.kindOf y == some .cell) = true then (y, NameKind.cell) else (y, k)).1) = false := by split <;> exact hb
      simp only [this]
      exact relabel_cell hk e hc
structure CmpOk (sc cs : Scope) : Prop where
  kind : sc.kind = .function
  kind' : cs.kind = .function
  debug : ∀ y ∈ sc.names, (y.1 == ("__debug__" : Str)) = false
  cell : ∀ y ∈ sc.names, y.2 ≠ .cell
  loc : ∀ y ∈ sc.names, y.2 = .local → sc.names.lookup y.1 = some .local
  free : ∀ y ∈ sc.names, y.2 = .free → sc.names.lookup y.1 = some .free ∧ cs.names.lookup y.1 = some .cell
theorem CmpOk.of (h : cmpOk sc cs = true) : CmpOk sc cs := by
  unfold cmpOk at h
  simp only [Bool.and_eq_true, beq_iff_eq, List.all_eq_true, Bool.not_eq_true', Bool.or_eq_true, bne_iff_ne, ne_eq] at h
  obtain ⟨h1, h2, h3⟩ := h
  exact ⟨h1, h2, fun y hy => (h3 y hy).1, fun y hy => (h3 y hy).2.1, fun y hy e => (h3 y hy).2.2.1.resolve_left (fun q => q e), fun y hy e => (h3 y hy).2.2.2.resolve_left (fun q => q e)⟩
theorem look_mem {x : Str} {k : NameKind} : ∀ {l : List (Str × NameKind)}, l.lookup x = some k → (x, k) ∈ l
  | [], e => by cases e
  | (y, d) :: l, e => by
    rw [List.lookup_cons] at e
    cases hb : x == y with
    | true => rw [hb] at e; cases e; rw [eq_of_beq hb]; exact .head _
    | false => rw [hb] at e; exact .tail _ (look_mem e)
/-- the names within a comprehension's turn: its own, in C, and the cells of its frame -/
def OwnC (Γ : Cx n u) (cs sc : Scope) (ρ : Nms) (mC : Str → Option Value) (mu imm : List (Addr × Obj)) : Prop :=
  ∀ y a, ρ.lookup y = some a → (∃ v, mC y = some v ∧ sc.names.lookup y = some .local ∧ Rel (Γ.S imm) a v) ∨
    (∃ c o w, (closL (cellsFrom (Γ.L + 1) cs.names []) sc.names []).lookup y = some c ∧ (c, o) ∈ mu ∧ o.data = .cell (some w) ∧ Rel (Γ.S imm) a w ∧ (y, NameKind.free) ∈ sc.names ∧ cs.names.lookup y = some .cell)
theorem OwnC.mono {mC : Str → Option Value} {imm' : List (Addr × Obj)} (x : OwnC Γ cs sc ρ mC mu imm) (k : ∀ p ∈ imm, p ∈ imm') : OwnC Γ cs sc ρ mC mu imm' := fun y a e =>
  (x y a e).imp (fun ⟨v, h1, h2, r⟩ => ⟨v, h1, h2, r.mono (Cx.S_mono k)⟩) fun ⟨c, o, w, h1, h2, h3, r, q⟩ => ⟨c, o, w, h1, h2, h3, r.mono (Cx.S_mono k), q⟩
theorem OwnC.seen {mC : Str → Option Value} (K : CmpOk sc cs) (N : Nm Γ (envOfC cn cs Γ.L ca ccd) ρ m mu imm) : OwnC Γ cs sc (seen sc ρ) mC mu imm := fun y a e => by
  obtain ⟨e1, e2⟩ := seen_look e
  have hm := look_mem e2
  have hc := (K.free _ hm rfl).2
  obtain ⟨c, o, w, h1, h2, h3, h4⟩ := N.cell y a e1 hc
  have h1' : (cellsFrom (Γ.L + 1) cs.names []).lookup y = some c := h1
  refine .inr ⟨c, o, w, ?_, h2, h3, h4, hm, hc⟩
  rw [closL_look (fun p hp => by cases hp) (.inl hm), h1']; rfl
theorem OwnC.set {mC : Str → Option Value} {x : Str} {a : AV} {v : Value} (O : OwnC Γ cs sc ρ mC mu imm) (k : sc.names.lookup x = some .local) (r : Rel (Γ.S imm) a v) : OwnC Γ cs sc ((x, a) :: ρ) (fun y => if y = x then some v else mC y) mu imm := by
  intro z b e
  rw [List.lookup_cons] at e
  cases hb : z == x with
  | true =>
    rw [hb] at e; cases e
    rw [eq_of_beq hb]
    exact .inl ⟨v, if_pos rfl, k, r⟩
  | false =>
    rw [hb] at e
    have hne : ¬ z = x := fun q => by rw [q] at hb; simp at hb
    exact (O z b e).imp (fun ⟨v, h1, h2, r⟩ => ⟨v, (if_neg hne).trans h1, h2, r⟩) id
theorem OwnC.nm {mC : Str → Option Value} {C : Addr} {oC : Obj} (K : CmpOk sc cs) (O : OwnC Γ cs sc ρ mC mu imm) (hC : LCg.NsObj oC mC) :
    Nm Γ (compEnvC sc (closL (cellsFrom (Γ.L + 1) cs.names []) sc.names []) C (envOfC cn cs Γ.L ca ccd)) ρ m ((C, oC) :: mu) imm := by
  have hkd : (compEnvC sc (closL (cellsFrom (Γ.L + 1) cs.names []) sc.names []) C (envOfC cn cs Γ.L ca ccd)).scope.kind = .function := K.kind
  refine ⟨fun y a e => ?_, fun y a e hk => ?_⟩
  · rcases O y a e with ⟨v, h1, h2, r⟩ | ⟨c, o, w, h1, h2, h3, h4, hm, hc⟩
    · exact ⟨v, r, fun h tk pos E Q F N' q => LCgL.ld_own N' (.head _) hC h1 q hkd (lookup_relabel_local h2) (K.debug _ (look_mem h2))⟩
    · exact ⟨w, h4, fun h tk pos E Q F N' q => kcf_cell N' h1 (.tail _ h2) h3 q hkd (relabel_cell K.kind' (K.free _ hm rfl).1 hc) (K.debug _ hm)⟩
  · rcases O y a e with ⟨v, h1, h2, r⟩ | ⟨c, o, w, h1, h2, h3, h4, hm, hc⟩
    · have e : (compEnvC sc (closL (cellsFrom (Γ.L + 1) cs.names []) sc.names []) C (envOfC cn cs Γ.L ca ccd)).kindOf y = some .local := lookup_relabel_local h2
      rw [e] at hk; cases hk
    · exact ⟨c, o, w, h1, .tail _ h2, h3, h4⟩
end
section
variable {n u : Nat} {Γ : Cx n u} {cn : Str} {cs sc : Scope} {ca C : Addr} {ccd : Value} {ρ : Nms} {σ : Sto} {x : Str} {pos : Pos} {v : Value}
/-- a comprehension's own env -/
abbrev cEnv (Γ : Cx n u) (cn : Str) (cs sc : Scope) (ca : Addr) (ccd : Value) (C : Addr) : Env := compEnvC sc (closL (cellsFrom (Γ.L + 1) cs.names []) sc.names []) C (envOfC cn cs Γ.L ca ccd)
theorem relabel_glob {env : Env} : ∀ {names : List (Str × NameKind)} {x : Str}, names.lookup x = some .globalImplicit →
    (names.map fun (n, k) => if (k == NameKind.free && env.scope.kind == .function && env.kindOf n == some .cell) then (n, NameKind.cell) else (n, k)).lookup x = some .globalImplicit
  | [], _, e => by cases e
  | (y, k) :: r, x, e => by
    rw [List.lookup_cons] at e
    rw [List.map_cons, List.lookup_cons]
    cases hb : x == y with
    | true =>
      rw [hb] at e; cases e
      have := eq_of_beq hb; subst this
      simp
    | false =>
      rw [hb] at e
      have : (x == (if (k == NameKind.free && env.scope.kind == .function && env.kindOf y == some .cell) = true then (y, NameKind.cell) else (y, k)).1) = false := by split <;> exact hb
      simp only [this]
      exact relabel_glob e
/-- names of the top within a comprehension -/
theorem EvA.globC (e : ∀ w : World, nsIn (hd.heap_1 w.params) mainGlobals x = some (some v)) (k : nmIs sc x .globalImplicit = true) : EvA Γ (cEnv Γ cn cs sc ca ccd C) ρ σ (.Name x pos) (.lit v) σ :=
  ⟨fun _ _ imm _ _ _ _ L _ q => LCgL.ld_global L.F Γ.X Γ.T (e Γ.w) (q _ _ _ imm L (fun _ p => p) (Rel.lit _)) rfl (show sc.kind = .function from nmIs_kind k) (relabel_glob (nmIs_look k)) (nmIs_debug k)⟩
theorem EvA.bootC (e : ∀ w : World, nsIn (hd.heap_1 w.params) mainGlobals x = some none) (hv : bootBuiltins x = some v) (hn : (x == ("__name__" : Str)) = false) (k : nmIs sc x .globalImplicit = true) : EvA Γ (cEnv Γ cn cs sc ca ccd C) ρ σ (.Name x pos) (.lit v) σ :=
  ⟨fun _ _ imm _ _ _ _ L _ q => LCgL.ld_built L.F Γ.X Γ.T (e Γ.w) hv (fun e => by rw [e] at hn; simp at hn) (q _ _ _ imm L (fun _ p => p) (Rel.lit _)) rfl rfl (show sc.kind = .function from nmIs_kind k) (relabel_glob (nmIs_look k)) (nmIs_debug k)⟩
end

end
section
/-- places with their exact objects -/
def rawS (os : List (Addr × Obj)) : Sto := os.map fun p => (p.1, .raw p.2)
section
variable {n u : Nat} {Γ : Cx n u} {m m' : Str → Option Value} {σ σ' : Sto} {mu imm os os' cl cl' l : List (Addr × Obj)} {h h' : Heap} {w : World} {S : Kn}
theorem StoL.toRaw : ∀ {os : List (Addr × Obj)}, StoL w S (rawS os) os
  | [] => .nil
  | (_, _) :: _ => .cons rfl StoL.toRaw
theorem StoL.ofRaw : ∀ {os st : List (Addr × Obj)}, StoL w S (rawS os) st → st = os
  | [], _, h => h.ofNil
  | (_, _) :: _, _, h => by obtain ⟨o, r, rfl, hc, q⟩ := StoL.ofCons (c := .raw _) h; rw [q.ofRaw, show o = _ from hc]
theorem StoL.dom : ∀ {σ : Sto} {st : List (Addr × Obj)}, StoL w S σ st → st.map (·.1) = σ.map (·.1)
  | [], _, h => by rw [h.ofNil]; rfl
  | (_, _) :: _, _, h => by obtain ⟨o, r, rfl, _, q⟩ := h.ofCons; rw [List.map_cons, List.map_cons, q.dom]
theorem Led.unraw (L : Led Γ m (σ ++ rawS os) mu imm h) : ∃ s1, StoL Γ.w (Γ.S imm) σ s1 ∧ News Γ.h₀ Γ.L h ((s1 ++ os) ++ (mu ++ imm)) ∧ (((s1 ++ os) ++ (mu ++ imm)).map (·.1)).Nodup := by
  obtain ⟨st, S, N, nd⟩ := L.ex
  obtain ⟨s1, s2, rfl, S1, S2⟩ := S.split
  obtain rfl := S2.ofRaw
  exact ⟨s1, S1, N, nd⟩
theorem Led.cut (L : Led Γ m (σ ++ σ') mu imm h) : Led Γ m σ mu imm h := by
  obtain ⟨st, S, N, nd⟩ := L.ex
  obtain ⟨s1, s2, rfl, S1, S2⟩ := S.split
  have sub : (s1 ++ (mu ++ imm)).Sublist ((s1 ++ s2) ++ (mu ++ imm)) := List.Sublist.append_right (List.sublist_append_left _ _) _
  exact ⟨L.F, s1, S1, fun p hp => N p (sub.subset hp), (sub.map _).nodup nd⟩
/-- a place that the ledger does not tell of -/
def Off (Γ : Cx n u) (σ : Sto) (mu imm : List (Addr × Obj)) (b : Addr) : Prop := b ≠ Γ.L ∧ Γ.h₀.get? b = none ∧ b ∉ σ.map (·.1) ∧ ∀ p ∈ mu ++ imm, p.1 ≠ b
theorem Led.off (L : Led Γ m σ mu imm h) {b : Addr} (e : h.get? b = none) : Off Γ σ mu imm b := by
  obtain ⟨st, S, N, nd⟩ := L.ex
  refine ⟨(L.fresh e).1, (L.fresh e).2, fun q => ?_, fun p hp q => ?_⟩
  · rw [← S.dom] at q
    obtain ⟨p, hp, rfl⟩ := List.mem_map.mp q
    rw [(N p (List.mem_append_left _ hp)).1] at e; cases e
  · rw [← q, (L.all p hp).1] at e; cases e
theorem Led.addRaw (L : Led Γ m σ mu imm h) (g : ∀ p ∈ os, h.get? p.1 = some p.2) (nd : (os.map (·.1)).Nodup) (off : ∀ b ∈ os.map (·.1), Off Γ σ mu imm b) : Led Γ m (σ ++ rawS os) mu imm h := by
  obtain ⟨st, S, N, nd'⟩ := L.ex
  have off' : ∀ p ∈ os, ∀ q ∈ st ++ (mu ++ imm), p.1 ≠ q.1 := fun p hp q hq e => by
    have o := off _ (List.mem_map_of_mem hp)
    rcases List.mem_append.mp hq with hq | hq
    · exact o.2.2.1 (by rw [← S.dom, e]; exact List.mem_map_of_mem hq)
    · exact o.2.2.2 q hq e.symm
  refine Led.of (l := os ++ (st ++ (mu ++ imm))) L.F (S.app .toRaw) (news_app (fun p hp => ⟨g p hp, (off _ (List.mem_map_of_mem hp)).1, (off _ (List.mem_map_of_mem hp)).2.1⟩) N) (nodup_app nd nd' off') ?_
  rw [List.append_assoc]
  exact List.perm_append_comm_assoc _ _ _
theorem news_chg (N : News Γ.h₀ Γ.L h l) {l' : List (Addr × Obj)} (e : l'.map (·.1) = l.map (·.1)) (g : ∀ p ∈ l', h'.get? p.1 = some p.2) : News Γ.h₀ Γ.L h' l' := fun p hp => by
  have : p.1 ∈ l.map (·.1) := e ▸ List.mem_map_of_mem hp
  obtain ⟨q, hq, e'⟩ := List.mem_map.mp this
  have := (N q hq).2
  rw [e'] at this
  exact ⟨g p hp, this⟩
/-- some places of the store (os) and of the frame's (cl) change, no other -/
theorem Led.chg (L : Led Γ m (σ ++ rawS os) (cl ++ mu) imm h) (e1 : os'.map (·.1) = os.map (·.1)) (e2 : cl'.map (·.1) = cl.map (·.1)) (g1 : ∀ p ∈ os', h'.get? p.1 = some p.2) (g2 : ∀ p ∈ cl', h'.get? p.1 = some p.2)
    (g3 : ∀ b o, b ∉ os.map (·.1) → b ∉ cl.map (·.1) → h.get? b = some o → h'.get? b = some o) : Led Γ m (σ ++ rawS os') (cl' ++ mu) imm h' := by
  obtain ⟨s1, S, N, nd⟩ := L.unraw
  have e : ((s1 ++ os') ++ ((cl' ++ mu) ++ imm)).map (·.1) = ((s1 ++ os) ++ ((cl ++ mu) ++ imm)).map (·.1) := by simp only [List.map_append, e1, e2]
  have P : (((s1 ++ os) ++ ((cl ++ mu) ++ imm))).Perm ((os ++ cl) ++ (s1 ++ (mu ++ imm))) := by
    simp only [List.append_assoc]
    exact (List.perm_append_comm_assoc _ _ _).trans (List.Perm.append_left _ (List.perm_append_comm_assoc _ _ _))
  have nd' := (P.map (fun p : Addr × Obj => p.1)).nodup_iff.mp nd
  rw [List.map_append, List.nodup_append] at nd'
  have old : ∀ p ∈ s1 ++ (mu ++ imm), h'.get? p.1 = some p.2 := fun p hp => by
    have hx : p.1 ∉ (os ++ cl).map (·.1) := fun q => nd'.2.2 _ q _ (List.mem_map_of_mem hp) rfl
    rw [List.map_append] at hx
    exact g3 _ _ (fun q => hx (List.mem_append_left _ q)) (fun q => hx (List.mem_append_right _ q)) (N p (P.mem_iff.mpr (List.mem_append_right _ hp))).1
  have key : ∀ b, b ∈ os.map (·.1) ∨ b ∈ cl.map (·.1) → b ≠ Γ.L ∧ Γ.h₀.get? b = none := fun b hb => by
    have hb' : b ∈ (os ++ cl).map (·.1) := by rw [List.map_append]; exact List.mem_append.mpr hb
    obtain ⟨p, hp, rfl⟩ := List.mem_map.mp hb'
    exact (N p (P.mem_iff.mpr (List.mem_append_left _ hp))).2
  have F' : Fr Γ.h₀ Γ.L h' m := ⟨L.F.ns.at' fun o q => g3 _ _ (fun x => (key _ (.inl x)).1 rfl) (fun x => (key _ (.inr x)).1 rfl) q,
    fun b o q => g3 _ _ (fun x => by rw [(key _ (.inl x)).2] at q; cases q) (fun x => by rw [(key _ (.inr x)).2] at q; cases q) (L.F.keep b o q), L.F.above⟩
  refine ⟨F', s1 ++ os', S.app .toRaw, news_chg N e fun p hp => ?_, e ▸ nd⟩
  simp only [List.mem_append] at hp
  rcases hp with (hp | hp) | ((hp | hp) | hp)
  · exact old p (List.mem_append_left _ hp)
  · exact g1 p hp
  · exact g2 p hp
  · exact old p (List.mem_append_right _ (List.mem_append_left _ hp))
  · exact old p (List.mem_append_right _ (List.mem_append_right _ hp))
theorem Led.raw (L : Led Γ m (σ ++ rawS os) mu imm h) : ∀ p ∈ os, h.get? p.1 = some p.2 := fun p hp => by
  obtain ⟨s1, _, N, _⟩ := L.unraw
  exact (N p (List.mem_append_left _ (List.mem_append_right _ hp))).1
/-- the places of os are given up, whatever they are now -/
theorem Led.endRaw (L : Led Γ m (σ ++ rawS os) mu imm h) (g : ∀ b o, b ∉ os.map (·.1) → h.get? b = some o → h'.get? b = some o) : Led Γ m σ mu imm h' := by
  obtain ⟨s1, S, N, nd⟩ := L.unraw
  have P : ((s1 ++ os) ++ (mu ++ imm)).Perm (os ++ (s1 ++ (mu ++ imm))) := by
    rw [List.append_assoc]
    exact List.perm_append_comm_assoc _ _ _
  have nd' := (P.map (fun p : Addr × Obj => p.1)).nodup_iff.mp nd
  rw [List.map_append, List.nodup_append] at nd'
  have key : ∀ b ∈ os.map (·.1), b ≠ Γ.L ∧ Γ.h₀.get? b = none := fun b hb => by
    obtain ⟨p, hp, rfl⟩ := List.mem_map.mp hb
    exact (N p (P.mem_iff.mpr (List.mem_append_left _ hp))).2
  refine ⟨⟨L.F.ns.at' fun o q => g _ _ (fun x => (key _ x).1 rfl) q, fun b o q => g _ _ (fun x => by rw [(key _ x).2] at q; cases q) (L.F.keep b o q), L.F.above⟩, s1, S, fun p hp => ?_, nd'.2.1⟩
  have z := N p (P.mem_iff.mpr (List.mem_append_right _ hp))
  exact ⟨g _ _ (fun q => nd'.2.2 _ q _ (List.mem_map_of_mem hp) rfl) z.1, z.2⟩
theorem perm_a {α : Type} {c d : α} {s io mi : List α} : (c :: d :: ((s ++ io) ++ mi)).Perm ((s ++ d :: io) ++ c :: mi) := ((List.perm_middle.symm.append_right mi).cons c).trans List.perm_middle.symm
theorem perm_b {α : Type} {d : α} {s m i : List α} : ((s ++ [d]) ++ (m ++ i)).Perm (s ++ (m ++ d :: i)) := by rw [List.append_assoc]; exact List.Perm.append_left s (List.perm_append_comm_assoc [d] m i)
theorem own_list : ∀ {fp : List Addr}, (∀ b ∈ fp, ∃ o, h.get? b = some o) → ∃ io : List (Addr × Obj), io.map (·.1) = fp ∧ ∀ p ∈ io, h.get? p.1 = some p.2
  | [], _ => ⟨[], rfl, fun p hp => by cases hp⟩
  | b :: fp, hb => by
    obtain ⟨o, e⟩ := hb b (.head _)
    obtain ⟨io, e1, e2⟩ := own_list (fp := fp) fun c hc => hb c (.tail _ hc)
    refine ⟨(b, o) :: io, by rw [List.map_cons, e1], fun p hp => ?_⟩
    rcases List.mem_cons.mp hp with rfl | hp
    · exact e
    · exact e2 p hp
end
/-- what a loop's target takes of an item -/
inductive Tak (S : Kn) (h : Heap) : Expr → List Str → List AV → Value → Prop
  | name {x : Str} {p : Pos} {a : AV} {v : Value} (r : Rel S a v) : Tak S h (.Name x p) [x] [a] v
  | tup {ts : List Expr} {k : Nat} {p : Pos} {xs : List Str} {as : List AV} {t : Addr} {vs : List Value} (hx : tgN ts = some xs) (hz : as.length = xs.length) (ht : IsTup h t vs.toArray) (r : RelL S as vs) : Tak S h (.Tuple ts k p) xs as (.ref t)
theorem Tak.mono {S S' : Kn} {h : Heap} {t : Expr} {xs : List Str} {as : List AV} {v : Value} (k : ∀ a o, S a o → S' a o) (x : Tak S h t xs as v) : Tak S' h t xs as v := by
  cases x with
  | name r => exact .name (r.mono k)
  | tup a b c r => exact .tup a b c (r.mono k)
/-- an iterator: its own places (fp), its state, what its items bind -/
structure Itr {n u : Nat} (Γ : Cx n u) (imm : List (Addr × Obj)) (target : Expr) (xs : List Str) (its : List (List AV)) (I : Addr) (fp : List Addr) (St : Nat → Heap → Prop) : Prop where
  keep : ∀ i h h', St i h → (∀ a o, Γ.S imm a o → h.get? a = some o) → (∀ a o, Γ.S imm a o → h'.get? a = some o) → (∀ b ∈ fp, ∀ o, h.get? b = some o → h'.get? b = some o) → St i h'
  own : ∀ i h, St i h → ∀ b ∈ fp, ∃ o, h.get? b = some o
  next : ∀ i as h tk (Q : Option Value → Shared → Prop) (E : Value → Shared → Prop), its[i]? = some as → St i h → (∀ a o, Γ.S imm a o → h.get? a = some o) →
    (∀ v h₁ tk₁, (∀ (Q' : Unit → Shared → Prop) (E' : Value → Shared → Prop), (∀ h' tk', St (i + 1) h' → (∀ b o, b ∉ fp → h.get? b = some o → h'.get? b = some o) → Tak (Γ.S imm) h' target xs as v → Q' () (Γ.st h' tk')) → wpAny Γ.M Γ.A (letOwnedTupleGo target (.ref I) v) Q' E' (Γ.st h₁ tk₁)) → Q (some v) (Γ.st h₁ tk₁)) →
    wpAny Γ.M Γ.A (pyNext (.ref I)) Q E (Γ.st h tk)
  done : ∀ h tk (Q : Option Value → Shared → Prop) (E : Value → Shared → Prop), St its.length h → (∀ h' tk', (∀ b o, b ∉ fp → h.get? b = some o → h'.get? b = some o) → Q none (Γ.st h' tk')) → wpAny Γ.M Γ.A (pyNext (.ref I)) Q E (Γ.st h tk)
  self : ∀ i h tk (Q : Value → Shared → Prop) (E : Value → Shared → Prop), St i h → Q (.ref I) (Γ.st h tk) → wpAny Γ.M Γ.A (pyIter (.ref I)) Q E (Γ.st h tk)
/-- an expression that gives items -/
structure ItA {n u : Nat} (Γ : Cx n u) (env : Env) (ρ : Nms) (σ : Sto) (iter : Expr) (τ : Sto) (target : Expr) (xs : List Str) (its : List (List AV)) : Prop where
  run : ∀ (m : Str → Option Value) (mu imm : List (Addr × Obj)) (h : Heap) (tk : Nat) (E : Value → Shared → Prop) (Q : Value → Shared → Prop), Led Γ m σ mu imm h → Nm Γ env ρ m mu imm →
    (∀ (I : Addr) (fp : List Addr) (St : Nat → Heap → Prop) (h' : Heap) (tk' : Nat) (imm' : List (Addr × Obj)), Led Γ m τ mu imm' h' → (∀ p ∈ imm, p ∈ imm') → Itr Γ imm' target xs its I fp St → St 0 h' → fp.Nodup → (∀ b ∈ fp, Off Γ τ mu imm' b) → Q (.ref I) (Γ.st h' tk')) →
    wpAny Γ.M Γ.A (eval iter env) (fun x s₁ => wpAny Γ.M Γ.A (pyIter x) Q E s₁) E (Γ.st h tk)
section
variable {n u : Nat} {Γ : Cx n u} {cn : Str} {cs sc : Scope} {ca : Addr} {ccd : Value} {env : Env} {ρ : Nms} {σ τ : Sto} {m : Str → Option Value} {mu imm : List (Addr × Obj)} {h h' : Heap} {tk : Nat} {E : Value → Shared → Prop}
/-- the turn's names are stored in C -/
theorem storesC {C : Addr} {cl : List (Str × Addr)} {ts : List (Value → Sem Unit)} {xs : List Str} (hk : sc.kind = .function) (g : TgL (compEnvC sc cl C (envOfC cn cs Γ.L ca ccd)) ts xs) : ∀ {as : List AV} {vs : List Value} {ρ : Nms} {mC : Str → Option Value} {h : Heap} {tk : Nat} {Q : Unit → Shared → Prop}, xs.all (fun x => sc.names.lookup x == some .local) = true → as.length = xs.length → h.Ns C mC → OwnC Γ cs sc ρ mC mu imm → RelL (Γ.S imm) as vs →
    (∀ (h' : Heap) (tk' : Nat) (mC' : Str → Option Value), h'.Ns C mC' → OwnC Γ cs sc (bindN xs as ρ) mC' mu imm → (∀ b o, b ≠ C → h.get? b = some o → h'.get? b = some o) → Q () (Γ.st h' tk')) →
    wpAny Γ.M Γ.A (assignInOrder ts vs) Q E (Γ.st h tk) := by
  induction g with
  | nil =>
    intro as vs ρ mC h tk Q _ hz hn O r q
    obtain rfl := List.eq_nil_of_length_eq_zero hz
    exact assignInOrder_nil (q _ _ _ hn O fun _ _ _ e => e)
  | cons ht _ ih =>
    intro as vs ρ mC h tk Q hc hz hn O r q
    cases as with
    | nil => cases hz
    | cons a as =>
      obtain ⟨v, vs, rfl, ra, r⟩ := r.ofCons
      rw [List.all_cons, Bool.and_eq_true] at hc
      have hx := eq_of_beq hc.1
      exact assignInOrder_cons (ht _ _ _ _ _ _ (wpAny_storeName_local (s := Γ.st h tk) (lookup_relabel_local hx) hn (fun h₃ hn₃ hs₃ => ih (tk := tk + 1) hc.2 (Nat.succ.inj hz) hn₃ (O.set hx ra) r fun h' tk' mC' hn' O' k => q h' tk' mC' hn' O' fun b o hb e => k b o hb (hs₃.extBut b o hb e)) (by simp [compEnvC, relabel, hk])))
theorem take_C {C : Addr} {cl : List (Str × Addr)} {target : Expr} {xs : List Str} {as : List AV} {v : Value} {mC : Str → Option Value} {Q : Unit → Shared → Prop} (hk : sc.kind = .function) (t : Tak (Γ.S imm) h target xs as v) (hc : xs.all (fun x => sc.names.lookup x == some .local) = true) (hn : h.Ns C mC) (O : OwnC Γ cs sc ρ mC mu imm)
    (q : ∀ (h' : Heap) (tk' : Nat) (mC' : Str → Option Value), h'.Ns C mC' → OwnC Γ cs sc (bindN xs as ρ) mC' mu imm → (∀ b o, b ≠ C → h.get? b = some o → h'.get? b = some o) → Q () (Γ.st h' tk')) :
    wpAny Γ.M Γ.A (assign target (compEnvC sc cl C (envOfC cn cs Γ.L ca ccd)) v) Q E (Γ.st h tk) := by
  cases t with
  | name r =>
    rw [List.all_cons, Bool.and_eq_true] at hc
    have hx := eq_of_beq hc.1
    exact wpAny_assign_Name (wpAny_storeName_local (s := Γ.st h tk) (lookup_relabel_local hx) hn (fun h₃ hn₃ hs₃ => q h₃ (tk + 1) _ hn₃ (O.set hx r) fun b o hb e => hs₃.extBut b o hb e) (by simp [compEnvC, relabel, hk]))
  | tup hx hz ht r =>
    obtain ⟨g1, g2, g3⟩ := tgN_ok (env := compEnvC sc cl C (envOfC cn cs Γ.L ca ccd)) hx
    refine assign_Tuple_tuple rfl ht (by rw [g2, ← hz, r.length]; rfl) g3 fun h₂ hx => ?_
    have up : ∀ b o, h.get? b = some o → h₂.get? b = some o := fun b o e => hx b o (Nat.ne_of_lt (Heap.lt_size e)) e
    exact storesC hk g1 hc hz (hn.at' fun o e => up _ o e) O r fun h' tk' mC' hn' O' k => q h' tk' mC' hn' O' fun b o hb e => k b o hb (up b o e)
/-- the same for a function's own names -/
theorem take_F {cm : Str → Option Value} {target : Expr} {xs : List Str} {as : List AV} {v : Value} {Q : Unit → Shared → Prop} (t : Tak (Γ.S imm) h target xs as v) (hc : xs.all (nmSt cs) = true) (L : Led Γ m σ mu imm h) (Y : Cel Γ cs cm mu) (O : Own Γ cs ρ m cm imm)
    (q : ∀ (h' : Heap) (tk' : Nat) (m' cm' : Str → Option Value) (mu' : List (Addr × Obj)), Led Γ m' σ mu' imm h' → Cel Γ cs cm' mu' → Own Γ cs (bindN xs as ρ) m' cm' imm → Q () (Γ.st h' tk')) :
    wpAny Γ.M Γ.A (assign target (envOfC cn cs Γ.L ca ccd) v) Q E (Γ.st h tk) := by
  cases t with
  | name r =>
    rw [List.all_cons, Bool.and_eq_true] at hc
    exact wpAny_assign_Name (store_A hc.1 L Y O r q)
  | tup hx hz ht r =>
    obtain ⟨g1, g2, g3⟩ := tgN_ok (env := envOfC cn cs Γ.L ca ccd) hx
    refine assign_Tuple_tuple rfl ht (by rw [g2, ← hz, r.length]; rfl) g3 fun h₂ hx => ?_
    exact stores_A g1 hc hz (L.grown fun b o e => hx b o (Nat.ne_of_lt (Heap.lt_size e)) e) Y O r q
end

end
section
open LCg
section
variable {n u : Nat} {Γ : Cx n u} {cn : Str} {cs sc : Scope} {ca : Addr} {ccd : Value} {ρ : Nms} {σ τ : Sto} {m : Str → Option Value} {mu imm : List (Addr × Obj)} {h h' : Heap} {tk : Nat} {E : Value → Shared → Prop}
  {α : Type} {xs : List α} {φ : α → List AV} {ψ : α → AV} {p : α → Bool} {st : Nat → Sto} {ct : Option Expr} {ns : List Str} {target elt iter : Expr} {pos : Pos}
/-- a comprehension's test in a turn -/
def CtA (Γ : Cx n u) (ce : Addr → Env) (sc : Scope) (ρ : Nms) (σ : Sto) (ns : List Str) (as : List AV) (b : Bool) : Option Expr → Prop
  | none => b = true
  | some c => ∀ (C : Addr) (io : Sto), TsA Γ (ce C) (bindN ns as (seen sc ρ)) (σ ++ io) c b
/-- a comprehension, from its iterator on -/
theorem comp_core {I : Addr} {fp : List Addr} {St : Nat → Heap → Prop} {RR : Value → Addr → Result → Shared → Prop} (K : CmpOk sc cs) (hc : ns.all (fun x => sc.names.lookup x == some .local) = true)
    (L : Led Γ m (st 0) mu imm h) (N : Nm Γ (envOfC cn cs Γ.L ca ccd) ρ m mu imm) (it : Itr Γ imm target ns (xs.map φ) I fp St) (st0 : St 0 h) (fnd : fp.Nodup) (foff : ∀ b ∈ fp, Off Γ (st 0) mu imm b)
    (htst : ∀ i x, xs[i]? = some x → CtA Γ (cEnv Γ cn cs sc ca ccd) sc ρ (st i) ns (φ x) (p x) ct)
    (helt : ∀ i x, xs[i]? = some x → p x = true → ∀ C io, EvA Γ (cEnv Γ cn cs sc ca ccd C) (bindN ns (φ x) (seen sc ρ)) (st i ++ io) elt (ψ x) (st (i + 1) ++ io)) (hst : ∀ i x, xs[i]? = some x → p x = false → st (i + 1) = st i) (hz : xs.length ≤ 1000)
    (fin : ∀ D C oC mC h' tk' ys im, Led Γ m (st xs.length) ((C, oC) :: mu) ((D, lst ys) :: im) h' → NsObj oC mC → (∀ q ∈ imm, q ∈ im) → RelL (Γ.S im) ((xs.filter p).map ψ) ys → RR (.ref D) C (.ok .next) (Γ.st h' tk')) :
    wpAny Γ.M Γ.A (newList []) (fun acc s₃ => wpAny Γ.M Γ.A (newFunctionEnv sc (envOfC cn cs Γ.L ca ccd).globals (closL (cellsFrom (Γ.L + 1) cs.names []) sc.names []) [] (envOfC cn cs Γ.L ca ccd).qual none .none (some (envOfC cn cs Γ.L ca ccd))) (fun cenv s₄ =>
      codeAny Γ.M Γ.A (.compStart (.ListComp elt [⟨target, iter, ct.toList, 0⟩] sc pos) 0 (.ref I) acc { cenv with scope := relabel sc (envOfC cn cs Γ.L ca ccd) }) (RR acc cenv.locals) s₄) E s₃) E (Γ.st h tk) := by
  refine wpAny_newObj_type (wpAny_newFunctionEnv K.cell (by intro y hy; simp at hy) (fun h₁ hns₁ hsb₁ => ?_) K.kind)
  dsimp only at hns₁ hsb₁ ⊢
  generalize hH2 : h.push { cls := .type "list", dict := none, data := .seq ([] : List Value).toArray } = H2 at hns₁ hsb₁ ⊢
  have hC : H2.objs.size = h.objs.size + 1 := by rw [← hH2, Heap.size_push]
  have hDC : h.objs.size ≠ H2.objs.size := by rw [hC]; exact Nat.ne_of_lt (Nat.lt_succ_self _)
  have old : ∀ b o, h.get? b = some o → h₁.get? b = some o := fun b o e => hsb₁.extBut b o (by rw [hC]; exact Nat.ne_of_lt (Nat.lt_succ_of_lt (Heap.lt_size e))) (Heap.get?_push_of_some _ (hH2 ▸ Heap.get?_push_of_some _ e))
  have hacc : h₁.get? h.objs.size = some (lst []) := hsb₁.extBut _ _ hDC (Heap.get?_push_of_some _ (hH2 ▸ Heap.get?_push_size _ rfl))
  have nD : h.get? h.objs.size = none := Heap.get?_none_of_le (Nat.le_refl _)
  have nC : h.get? H2.objs.size = none := Heap.get?_none_of_le (by rw [hC]; exact Nat.le_succ _)
  have ndf : ∀ b, h.get? b = none → b ∉ fp := fun b e q => by
    obtain ⟨o, e'⟩ := it.own 0 h st0 b q
    rw [e] at e'; cases e'
  have hDf := ndf _ nD
  have hCf := ndf _ nC
  obtain ⟨oC, heC, hoC⟩ := ns_obj hns₁
  obtain ⟨io, hio, gio⟩ := own_list (it.own 0 h st0)
  have kn : ∀ {mu' im : List (Addr × Obj)} {σ' : Sto} {g : Heap}, Led Γ m σ' mu' im g → (∀ q ∈ imm, q ∈ im) → ∀ a o, Γ.S imm a o → g.get? a = some o := fun L' hi a o q => L'.get (Cx.S_mono hi _ _ q)
  have hst₁ : St 0 h₁ := it.keep 0 h h₁ st0 (kn L fun _ q => q) (fun a o q => old _ _ (L.get q)) fun b _ o e => old b o e
  generalize hD' : h.objs.size = D at *
  generalize H2.objs.size = C at *
  have L₁ : Led Γ m (st 0 ++ rawS ((D, lst []) :: io)) ([(C, oC)] ++ mu) imm h₁ := by
    obtain ⟨s, S, N', nd⟩ := (L.addRaw gio (by rw [hio]; exact fnd) (by rw [hio]; exact foff)).unraw
    obtain ⟨N₂, nd₂⟩ := L.add (new := [(C, oC), (D, lst [])]) old (fun q hq => by
      simp only [List.mem_cons, List.not_mem_nil, or_false] at hq
      rcases hq with rfl | rfl
      · exact ⟨heC, nC⟩
      · exact ⟨hacc, nD⟩) (by simp only [List.map_cons, List.map_nil, List.nodup_cons, List.mem_cons, List.not_mem_nil, or_false, not_false_eq_true, List.nodup_nil, and_true]; exact Ne.symm hDC) N' nd
    refine Led.of (L.F.keeps old) (S.app (st' := (D, lst []) :: io) (.cons rfl .toRaw)) N₂ nd₂ ?_
    exact perm_a
  have loop : ∀ tk₁, codeAny Γ.M Γ.A (.compLoop (.ListComp elt [⟨target, iter, ct.toList, 0⟩] sc pos) 0 (.ref I) (.ref D) (compEnvC sc (closL (cellsFrom (Γ.L + 1) cs.names []) sc.names []) C (envOfC cn cs Γ.L ca ccd))) (RR (.ref D) C) (Γ.st h₁ tk₁) := by
    intro tk₁
    refine loop_G (fun k s' => ∃ g tk' i ys oC mC im io, s' = Γ.st g tk' ∧ i ≤ xs.length ∧ k = xs.length + 1 - i ∧ ys.length ≤ i ∧ St i g ∧ io.map (·.1) = fp ∧ Led Γ m (st i ++ rawS ((D, lst ys) :: io)) ([(C, oC)] ++ mu) im g ∧ NsObj oC mC ∧ (∀ q ∈ imm, q ∈ im) ∧ RelL (Γ.S im) (((xs.take i).filter p).map ψ) ys) ?_ (xs.length + 1)
      ⟨h₁, tk₁, 0, [], oC, _, imm, io, rfl, Nat.zero_le _, rfl, Nat.le_refl _, hst₁, hio, L₁, hoC, fun _ q => q, .nil⟩
    rintro k s' ⟨g, tk', i, ys, oC, mC, im, io, rfl, hi, rfl, hyl, hSt, hio, L', hoC, him, hy⟩
    have gD := L'.raw (D, lst ys) (.head _)
    have gC := L'.muN (C, oC) (.head _)
    by_cases hlt : i < xs.length
    · have hx : xs[i]? = some xs[i] := List.getElem?_eq_getElem hlt
      generalize xs[i] = x at hx
      refine it.next i (φ x) g tk' _ _ (by rw [List.getElem?_map, hx]; rfl) hSt (kn L' him) fun v g₁ tk₁ go => go _ _ fun g₂ tk₂ hSt₂ hk₂ tak => ?_
      obtain ⟨io₂, hio₂, gio₂⟩ := own_list (it.own (i + 1) g₂ hSt₂)
      have L₂ : Led Γ m (st i ++ rawS ((D, lst ys) :: io₂)) ([(C, oC)] ++ mu) im g₂ := L'.chg (by rw [List.map_cons, List.map_cons, hio, hio₂]) rfl (fun q hq => by
          rcases List.mem_cons.mp hq with rfl | hq
          · exact hk₂ _ _ hDf gD
          · exact gio₂ q hq) (fun q hq => by rw [List.mem_singleton.mp hq]; exact hk₂ _ _ hCf gC.1) fun b o h1 _ e => hk₂ b o (fun q => h1 (by rw [List.map_cons, hio]; exact .tail _ q)) e
      have OC : OwnC Γ cs sc (seen sc ρ) mC mu im := (OwnC.seen K N).mono him
      refine take_C K.kind (tak.mono (Cx.S_mono him)) hc (hoC.ns (L₂.muN (C, oC) (.head _)).1) OC fun g₃ tk₃ mC₃ hn₃ O₃ hk₃ => ?_
      obtain ⟨oC₃, heC₃, hoC₃⟩ := ns_obj hn₃
      have L₃ : Led Γ m (st i ++ rawS ((D, lst ys) :: io₂)) ([(C, oC₃)] ++ mu) im g₃ := L₂.chg rfl rfl (fun q hq => hk₃ _ _ (fun e => by
          rcases List.mem_cons.mp hq with rfl | hq
          · exact hDC e
          · exact hCf (by rw [← e, ← hio₂]; exact List.mem_map_of_mem hq)) (L₂.raw q hq)) (fun q hq => by rw [List.mem_singleton.mp hq]; exact heC₃) fun b o _ h2 e => hk₃ b o (fun q => h2 (by rw [q]; exact .head _)) e
      have hSt₃ : St (i + 1) g₃ := it.keep _ _ _ hSt₂ (kn L₂ him) (kn L₃ him) fun b hb o e => hk₃ b o (fun q => hCf (q ▸ hb)) e
      -- the turn's end
      have step : ∀ (ys' : List Value) (im' : List (Addr × Obj)) (g₅ : Heap) (tk₅ : Nat), ys'.length ≤ i + 1 → Led Γ m (st (i + 1) ++ rawS ((D, lst ys') :: io₂)) ([(C, oC₃)] ++ mu) im' g₅ → (∀ q ∈ imm, q ∈ im') → RelL (Γ.S im') (((xs.take (i + 1)).filter p).map ψ) ys' →
          ∃ k, k < xs.length + 1 - i ∧ ∃ g tk' i ys oC mC im io, Γ.st g₅ tk₅ = Γ.st g tk' ∧ i ≤ xs.length ∧ k = xs.length + 1 - i ∧ ys.length ≤ i ∧ St i g ∧ io.map (·.1) = fp ∧ Led Γ m (st i ++ rawS ((D, lst ys) :: io)) ([(C, oC)] ++ mu) im g ∧ NsObj oC mC ∧ (∀ q ∈ imm, q ∈ im) ∧ RelL (Γ.S im) (((xs.take i).filter p).map ψ) ys :=
        fun ys' im' g₅ tk₅ hl L₅ hi₅ hy₅ => ⟨xs.length + 1 - (i + 1), by omega, g₅, tk₅, i + 1, ys', oC₃, mC₃, im', io₂, rfl, hlt, rfl, hl, it.keep _ _ _ hSt₃ (kn L₃ him) (kn L₅ hi₅) (fun b hb o e => by
            obtain ⟨q, hq, rfl⟩ := List.mem_map.mp (hio₂ ▸ hb : b ∈ io₂.map (·.1))
            rw [L₃.raw q (.tail _ hq)] at e; cases e
            exact L₅.raw q (.tail _ hq)), hio₂, L₅, hoC₃, hi₅, hy₅⟩
      have tk_snoc : (xs.take (i + 1)).filter p = (xs.take i).filter p ++ [x].filter p := by rw [take_snoc hx, List.filter_append]
      have elts : p x = true → ∀ (E' : Value → Shared → Prop) (im₄ : List (Addr × Obj)) (g₄ : Heap) (tk₄ : Nat), Led Γ m (st i ++ rawS ((D, lst ys) :: io₂)) ([(C, oC₃)] ++ mu) im₄ g₄ → (∀ q ∈ im, q ∈ im₄) →
          wpAny Γ.M Γ.A (eval elt (compEnvC sc (closL (cellsFrom (Γ.L + 1) cs.names []) sc.names []) C (envOfC cn cs Γ.L ca ccd))) (fun y s₄ => wpAny Γ.M Γ.A (call (.builtin "list.append") [.ref D, y]) (fun _ s₅ => ∃ k, k < xs.length + 1 - i ∧ ∃ g tk' i ys oC mC im io, s₅ = Γ.st g tk' ∧ i ≤ xs.length ∧ k = xs.length + 1 - i ∧ ys.length ≤ i ∧ St i g ∧ io.map (·.1) = fp ∧ Led Γ m (st i ++ rawS ((D, lst ys) :: io)) ([(C, oC)] ++ mu) im g ∧ NsObj oC mC ∧ (∀ q ∈ imm, q ∈ im) ∧ RelL (Γ.S im) (((xs.take i).filter p).map ψ) ys) E' s₄) E' (Γ.st g₄ tk₄) := by
        intro hp E' im₄ g₄ tk₄ L₄ hi₄
        refine (helt i x hx hp _ _).run _ _ _ _ _ _ _ L₄ ((O₃.mono hi₄).nm K hoC₃) fun y g₅ tk₅ im₅ L₅ k₅ r₅ => ?_
        refine append_at (hsz := by show ys.toArray.size ≤ sizeLine; rw [List.size_toArray, sizeLine_eq]; omega) (L₅.raw (D, lst ys) (.head _)) fun g₆ hs₆ hD₆ => ?_
        refine step (ys ++ [y]) im₅ g₆ tk₅ (by rw [List.length_append, List.length_singleton]; exact Nat.succ_le_succ hyl) (L₅.chg (os' := (D, lst (ys ++ [y])) :: io₂) (cl' := [(C, oC₃)]) rfl rfl (fun q hq => ?_) (fun q hq => ?_) fun b o h1 _ e => hs₆.extBut b o (fun q => h1 (by rw [q]; exact .head _)) e) (fun q hq => k₅ q (hi₄ q (him q hq))) ?_
        · rcases List.mem_cons.mp hq with rfl | hq
          · exact hD₆.trans (congrArg some (lst_snoc ys y))
          · exact hs₆.extBut _ _ (fun e => hDf (by rw [← e, ← hio₂]; exact List.mem_map_of_mem hq)) (L₅.raw q (.tail _ hq))
        · rw [List.mem_singleton.mp hq]
          exact hs₆.extBut _ _ (Ne.symm hDC) (L₅.muN (C, oC₃) (.head _)).1
        · rw [tk_snoc, List.filter_cons, if_pos hp, List.map_append]
          exact (hy.mono (Cx.S_mono fun q hq => k₅ q (hi₄ q hq))).append (.cons r₅ .nil)
      have ht := htst i x hx
      cases ct with
      | none =>
        refine wpAny_tests_nil ?_
        simp only [if_true]
        exact elts ht _ _ _ _ L₃ fun _ q => q
      | some c =>
        refine wpAny_tests_one ((ht _ _).run _ _ _ _ _ _ _ L₃ (O₃.nm K hoC₃) fun g₄ tk₄ im₄ L₄ k₄ => ?_)
        cases hp : p x with
        | true =>
          simp only [if_true]
          exact elts hp _ _ _ _ L₄ k₄
        | false =>
          simp only [Bool.false_eq_true, if_false]
          refine step ys im₄ g₄ tk₄ (Nat.le_succ_of_le hyl) (by rw [hst i x hx hp]; exact L₄) (fun q hq => k₄ q (him q hq)) ?_
          rw [tk_snoc, List.filter_cons, if_neg (by rw [hp]; exact Bool.false_ne_true), List.filter_nil, List.append_nil]
          exact hy.mono (Cx.S_mono k₄)
    · obtain rfl : i = xs.length := Nat.le_antisymm hi (Nat.not_lt.mp hlt)
      refine it.done g tk' _ _ (by rw [List.length_map]; exact hSt) fun g₂ tk₂ hk₂ => ?_
      rw [show st xs.length ++ rawS ((D, lst ys) :: io) = (st xs.length ++ rawS [(D, lst ys)]) ++ rawS io from by simp [rawS]] at L'
      have L₂ := L'.endRaw (h' := g₂) fun b o hb e => hk₂ b o (by rw [← hio]; exact hb) e
      rw [List.take_length] at hy
      obtain ⟨s, S, N₂, nd₂⟩ := L₂.unraw
      exact fin D C oC mC g₂ tk₂ ys im (Led.of L₂.F (S.mono (Cx.S_mono up1)) N₂ nd₂ perm_b) hoC him hy
  exact codeAny_compStart_list (loop _) (it.self 0 h₁ _ _ _ hst₁ (loop _))
end

end
section
open LCg
section
variable {n u : Nat} {Γ : Cx n u} {cn : Str} {cs sc : Scope} {ca : Addr} {ccd : Value} {ρ : Nms} {σ τ : Sto} {m : Str → Option Value} {mu imm : List (Addr × Obj)} {h h' : Heap} {tk : Nat} {E : Value → Shared → Prop}
  {α : Type} {xs : List α} {φ : α → List AV} {ψ : α → AV} {p : α → Bool} {st : Nat → Sto} {ct : Option Expr} {ns : List Str} {target elt iter : Expr} {pos : Pos} {R : AV → Sto → Prop} {F : Nms → Sto → Prop} {rest body : List Stmt}
theorem closed_comp (K : CmpOk sc cs) : closureFor sc (envOfC cn cs Γ.L ca ccd) = pure (closL (cellsFrom (Γ.L + 1) cs.names []) sc.names []) :=
  closure_eq (env := envOfC cn cs Γ.L ca ccd) fun y hy e => cellsFrom_some cs.names (Γ.L + 1) [] (.inl (K.free y hy e).2)
/-- the turn's frame goes into the store -/
theorem Led.rawMu {C : Addr} {oC : Obj} (L : Led Γ m σ ((C, oC) :: mu) imm h) : Led Γ m (σ ++ rawS [(C, oC)]) mu imm h := by
  obtain ⟨s, S, N, nd⟩ := L.ex
  refine Led.of L.F (S.app .toRaw) N nd ?_
  rw [List.append_assoc]
  exact List.Perm.refl _
/-- a comprehension -/
theorem EvA.compG (hit : ItA Γ (envOfC cn cs Γ.L ca ccd) ρ σ iter (st 0) target ns (xs.map φ)) (hok : cmpOk sc cs = true) (hc : ns.all (fun x => sc.names.lookup x == some .local) = true)
    (htst : ∀ i x, xs[i]? = some x → CtA Γ (cEnv Γ cn cs sc ca ccd) sc ρ (st i) ns (φ x) (p x) ct)
    (helt : ∀ i x, xs[i]? = some x → p x = true → ∀ C io, EvA Γ (cEnv Γ cn cs sc ca ccd C) (bindN ns (φ x) (seen sc ρ)) (st i ++ io) elt (ψ x) (st (i + 1) ++ io)) (hst : ∀ i x, xs[i]? = some x → p x = false → st (i + 1) = st i)
    (hs : ∀ x, foldedSetIterable iter (envOfC cn cs Γ.L ca ccd) x = pure x) (hz : xs.length ≤ 1000) : EvA Γ (envOfC cn cs Γ.L ca ccd) ρ σ (.ListComp elt [⟨target, iter, ct.toList, 0⟩] sc pos) (.lst ((xs.filter p).map ψ)) (st xs.length) := by
  have K := CmpOk.of hok
  refine ⟨fun m mu imm h tk E Q L N q => ?_⟩
  rw [eval_ListComp]
  refine wpAny_comprehension_free (use := none) rfl hs (closed_comp K) K.kind K.loc ?_
  refine hit.run _ _ _ _ _ _ _ L N fun I fp St h₁ tk₁ i₁ L₁ k₁ it st0 fnd foff => ?_
  refine comp_core K hc L₁ (N.mono k₁) it st0 fnd foff htst helt hst hz fun D C oC mC h' tk' ys im L' hC him hy => ?_
  exact ⟨mC, hC.ns (L'.muN (C, oC) (.head _)).1, fun h'' hs'' => q _ _ _ _ (L'.rawMu.endRaw (h' := h'') fun b o hb e => hs''.extBut b o (fun q => hb (by rw [q]; exact .head _)) e) (fun x hx => .tail _ (him x (k₁ x hx))) (Rel.lst (.inr (.head _)) rfl rfl (hy.mono (Cx.S_mono up1)))⟩
/-- a name takes a comprehension's list at once -/
theorem RuB.asgCompG {y : Str} {py spos : Pos} (hit : ItA Γ (envOfC cn cs Γ.L ca ccd) ρ σ iter (st 0) target ns (xs.map φ)) (hok : cmpOk sc cs = true) (hc : ns.all (fun x => sc.names.lookup x == some .local) = true)
    (htst : ∀ i x, xs[i]? = some x → CtA Γ (cEnv Γ cn cs sc ca ccd) sc ρ (st i) ns (φ x) (p x) ct)
    (helt : ∀ i x, xs[i]? = some x → p x = true → ∀ C io, EvA Γ (cEnv Γ cn cs sc ca ccd C) (bindN ns (φ x) (seen sc ρ)) (st i ++ io) elt (ψ x) (st (i + 1) ++ io)) (hst : ∀ i x, xs[i]? = some x → p x = false → st (i + 1) = st i)
    (hs : ∀ x, foldedSetIterable iter (envOfC cn cs Γ.L ca ccd) x = pure x) (hz : xs.length ≤ 1000) (ky : nmSt cs y = true)
    (hsw : swapsWith (.ListComp elt [⟨target, iter, ct.toList, 0⟩] sc pos) (some (.Name y py)) spos.line (envOfC cn cs Γ.L ca ccd) = pure true)
    (hk : RuB Γ cn cs ca ccd ((y, .lst ((xs.filter p).map ψ)) :: ρ) (st xs.length) rest R F) : RuB Γ cn cs ca ccd ρ σ (.Assign [.Name y py] (.ListComp elt [⟨target, iter, ct.toList, 0⟩] sc pos) spos :: rest) R F := by
  have K := CmpOk.of hok
  refine ⟨fun m cm mu imm h tk Q L Y O q f => wpAny_execs_cons ?_⟩
  rw [exec_Assign_Name_used _ _ _ _ hsw]
  refine wpAny_bind (wpAny_standAt (wpAny_bind ?_))
  show wpAny _ Γ.A (do let _ ← comprehension (.ListComp elt [⟨target, iter, ct.toList, 0⟩] sc pos) sc (envOfC cn cs Γ.L ca ccd) _ (newList []) false (eval iter (envOfC cn cs Γ.L ca ccd)) (some (assign (.Name y py) (envOfC cn cs Γ.L ca ccd)))) _ _ _
  refine wpAny_bind (wpAny_mono (wpAny_comprehension_free (use := some (assign (.Name y py) (envOfC cn cs Γ.L ca ccd))) (Q := fun _ s' => wpAny Γ.M Γ.A (execs rest (envOfC cn cs Γ.L ca ccd)) Q (fun _ _ => False) s') rfl hs (closed_comp K) K.kind K.loc ?_) (fun _ s' hq => wpAny_pure (wpAny_pure hq)) fun _ _ e => e)
  refine hit.run _ _ _ _ _ _ _ L (O.nm Y.are) fun I fp St h₁ tk₁ i₁ L₁ k₁ it st0 fnd foff => ?_
  refine comp_core K hc L₁ ((O.nm Y.are).mono k₁) it st0 fnd foff htst helt hst hz fun D C oC mC h' tk' ys im L' hC him hy => ?_
  show wpAny _ Γ.A (assign (.Name y py) (envOfC cn cs Γ.L ca ccd) (.ref D)) _ _ _
  have hi : ∀ x ∈ imm, x ∈ (D, lst ys) :: im := fun x hx => .tail _ (him x (k₁ x hx))
  refine wpAny_assign_Name (store_A ky L'.rawMu Y (O.mono hi) (Rel.lst (.inr (.head _)) rfl rfl (hy.mono (Cx.S_mono up1))) fun h₂ tk₂ m₂ cm₂ mu₂ L₂ Y₂ O₂ => ⟨mC, hC.ns (L₂.raw (C, oC) (.head _)), fun h'' hs'' => ?_⟩)
  exact hk.run _ _ _ _ _ _ _ (L₂.endRaw (h' := h'') fun b o hb e => hs''.extBut b o (fun q => hb (by rw [q]; exact .head _)) e) Y₂ O₂ q (f.mono hi)
/-- a name of fewer is a name of more -/
def Thin (ρ' ρ : Nms) : Prop := ∀ x a, ρ'.lookup x = some a → ρ.lookup x = some a
/-- while -/
theorem RuB.while {test : Expr} (I : Nat → Nms → Sto → Prop) {k₀ : Nat} (h0 : I k₀ ρ σ)
    (turn : ∀ k ρ σ, I k ρ σ → ∃ c, TsA Γ (envOfC cn cs Γ.L ca ccd) ρ σ test c ∧ (c = true → RuB Γ cn cs ca ccd ρ σ body R fun ρ₂ τ => ∃ k' ρ₃, k' < k ∧ I k' ρ₃ τ ∧ Thin ρ₃ ρ₂) ∧ (c = false → RuB Γ cn cs ca ccd ρ σ rest R F)) :
    RuB Γ cn cs ca ccd ρ σ (.While test body [] pos :: rest) R F := by
  refine ⟨fun m cm mu imm h tk Q L Y O q f => wpAny_execs_cons (wpAny_While (codeAny_whileLoop (fun k s' => ∃ ρ σ m cm mu im h tk, s' = Γ.st h tk ∧ I k ρ σ ∧ Led Γ m σ mu im h ∧ Cel Γ cs cm mu ∧ Own Γ cs ρ m cm im ∧ ∀ x ∈ imm, x ∈ im) ?_ k₀ ⟨ρ, σ, m, cm, mu, imm, h, tk, rfl, h0, L, Y, O, fun _ x => x⟩))⟩
  rintro k s' ⟨ρ, σ, m, cm, mu, im, h, tk, rfl, hI, L, Y, O, him⟩
  obtain ⟨c, ht, k1, k2⟩ := turn k ρ σ hI
  refine ht.run _ _ _ _ _ _ _ L (O.nm Y.are) fun h₁ tk₁ i₁ L₁ hk₁ => ?_
  have hi₁ : ∀ x ∈ imm, x ∈ i₁ := fun x hx => hk₁ x (him x hx)
  cases c with
  | false =>
    simp only [Bool.false_eq_true, if_false]
    exact wpAny_execs_nil ((k2 rfl).run _ _ _ _ _ _ _ L₁ Y (O.mono hk₁) q (f.mono hi₁))
  | true =>
    simp only [if_true]
    refine wpAny_mono ((k1 rfl).run _ _ _ _ _ _ _ L₁ Y (O.mono hk₁) (fun a τ v h' tk' m' mu' i' hR L' r => ?_) fun ρ₂ τ h₂ tk₂ m₂ cm₂ mu₂ i₂ hF L₂ Y₂ O₂ hk₂ => ?_) (fun _ _ e => e) fun _ _ e => e.elim
    · exact q a τ v h' tk' m' mu' i' hR L' r
    · obtain ⟨k', ρ₃, hlt, hI', thin⟩ := hF
      exact ⟨k', hlt, ρ₃, τ, m₂, cm₂, mu₂, i₂, h₂, tk₂, rfl, hI', L₂, Y₂, fun x a e => O₂ x a (thin x a e), fun x hx => hk₂ x (hi₁ x hx)⟩
/-- for -/
theorem RuB.for (J : Nat → Nms → Sto → Prop) (hit : ItA Γ (envOfC cn cs Γ.L ca ccd) ρ σ iter τ target ns (xs.map φ)) (hns : ns.all (nmSt cs) = true) (h0 : J 0 ρ τ)
    (step : ∀ i x ρ σ io, xs[i]? = some x → J i ρ σ → RuB Γ cn cs ca ccd (bindN ns (φ x) ρ) (σ ++ io) body (fun a τ => ∃ σ₂, τ = σ₂ ++ io ∧ R a σ₂) fun ρ₂ τ => ∃ σ₂ ρ₃, τ = σ₂ ++ io ∧ J (i + 1) ρ₃ σ₂ ∧ Thin ρ₃ ρ₂)
    (done : ∀ ρ σ, J xs.length ρ σ → RuB Γ cn cs ca ccd ρ σ rest R F) (hs : ∀ x, foldedSetIterable iter (envOfC cn cs Γ.L ca ccd) x = pure x) : RuB Γ cn cs ca ccd ρ σ (.For target iter body [] pos :: rest) R F := by
  refine ⟨fun m cm mu imm h tk Q L Y O q f => wpAny_execs_cons (wpAny_For (hit.run _ _ _ _ _ _ _ L (O.nm Y.are) fun I fp St h₁ tk₁ i₁ L₁ k₁ it st0 fnd foff => ?_) hs)⟩
  obtain ⟨io, hio, gio⟩ := own_list (it.own 0 h₁ st0)
  have kn : ∀ {m : Str → Option Value} {mu' im : List (Addr × Obj)} {σ' : Sto} {g : Heap}, Led Γ m σ' mu' im g → (∀ q ∈ i₁, q ∈ im) → ∀ a o, Γ.S i₁ a o → g.get? a = some o := fun L' hi a o q => L'.get (Cx.S_mono hi _ _ q)
  refine codeAny_forLoop_any (fun k s' => ∃ i ρ σ m cm mu im io h tk, s' = Γ.st h tk ∧ i ≤ xs.length ∧ k = xs.length + 1 - i ∧ St i h ∧ io.map (·.1) = fp ∧ J i ρ σ ∧ Led Γ m (σ ++ rawS io) mu im h ∧ Cel Γ cs cm mu ∧ Own Γ cs ρ m cm im ∧ ∀ x ∈ i₁, x ∈ im) ?_ (xs.length + 1)
    ⟨0, ρ, τ, m, cm, mu, i₁, io, h₁, tk₁, rfl, Nat.zero_le _, rfl, st0, hio, h0, L₁.addRaw gio (by rw [hio]; exact fnd) (by rw [hio]; exact foff), Y, O.mono k₁, fun _ x => x⟩
  rintro k s' ⟨i, ρ, σ, m, cm, mu, im, io, g, tk', rfl, hi, rfl, hSt, hio, hJ, L', Y', O', him⟩
  by_cases hlt : i < xs.length
  · have hx : xs[i]? = some xs[i] := List.getElem?_eq_getElem hlt
    generalize xs[i] = x at hx
    refine it.next i (φ x) g tk' _ _ (by rw [List.getElem?_map, hx]; rfl) hSt (kn L' him) fun v g₁ tk₁ go => go _ _ fun g₂ tk₂ hSt₂ hk₂ tak => ?_
    obtain ⟨io₂, hio₂, gio₂⟩ := own_list (it.own (i + 1) g₂ hSt₂)
    have L₂ : Led Γ m (σ ++ rawS io₂) mu im g₂ := L'.chg (cl := []) (cl' := []) (by rw [hio, hio₂]) rfl gio₂ (fun q hq => by cases hq) fun b o h1 _ e => hk₂ b o (by rw [← hio]; exact h1) e
    refine take_F (tak.mono (Cx.S_mono him)) hns L₂ Y' O' fun g₃ tk₃ m₃ cm₃ mu₃ L₃ Y₃ O₃ => ?_
    have hSt₃ : St (i + 1) g₃ := it.keep _ _ _ hSt₂ (kn L₂ him) (kn L₃ him) fun b hb o e => by
      obtain ⟨q, hq, rfl⟩ := List.mem_map.mp (hio₂ ▸ hb : b ∈ io₂.map (·.1))
      rw [L₂.raw q hq] at e; cases e
      exact L₃.raw q hq
    refine wpAny_mono ((step i x ρ σ (rawS io₂) hx hJ).run _ _ _ _ _ _ _ L₃ Y₃ O₃ (fun a τ v h' tk' m' mu' i' hR L' r => ?_) fun ρ₂ τ g₄ tk₄ m₄ cm₄ mu₄ i₄ hF L₄ Y₄ O₄ hk₄ => ?_) (fun _ _ e => e) fun _ _ e => e.elim
    · obtain ⟨σ₂, rfl, hR⟩ := hR
      exact q a σ₂ v h' tk' m' mu' i' hR L'.cut r
    · obtain ⟨σ₂, ρ₃, rfl, hJ', thin⟩ := hF
      have hi₄ : ∀ x ∈ i₁, x ∈ i₄ := fun x hx => hk₄ x (him x hx)
      refine ⟨xs.length + 1 - (i + 1), by omega, i + 1, ρ₃, σ₂, m₄, cm₄, mu₄, i₄, io₂, g₄, tk₄, rfl, hlt, rfl, it.keep _ _ _ hSt₃ (kn L₃ him) (kn L₄ hi₄) (fun b hb o e => ?_), hio₂, hJ', L₄, Y₄, fun x a e => O₄ x a (thin x a e), hi₄⟩
      obtain ⟨q, hq, rfl⟩ := List.mem_map.mp (hio₂ ▸ hb : b ∈ io₂.map (·.1))
      rw [L₃.raw q hq] at e; cases e
      exact L₄.raw q hq
  · obtain rfl : i = xs.length := Nat.le_antisymm hi (Nat.not_lt.mp hlt)
    refine it.done g tk' _ _ (by rw [List.length_map]; exact hSt) fun g₂ tk₂ hk₂ => wpAny_execs_nil ?_
    exact (done ρ σ hJ).run _ _ _ _ _ _ _ (L'.endRaw (h' := g₂) fun b o hb e => hk₂ b o (by rw [← hio]; exact hb) e) Y' O' q (f.mono fun x hx => him x (k₁ x hx))
end

end
section
open LCg
section
variable {n u : Nat} {Γ : Cx n u} {env : Env} {ρ : Nms} {σ τ : Sto} {m : Str → Option Value} {mu imm : List (Addr × Obj)} {h h' : Heap} {tk : Nat} {E : Value → Shared → Prop}
  {target elt iter : Expr} {pos : Pos} {a : AV} {xs : List Str} {its : List (List AV)} {I : Addr}
/-- where a loop's items come from: a value, its items -/
inductive SrcV : AV → List AV → Prop
  | tup {l : List AV} : SrcV (.tup l) l
  | lst {l : List AV} : SrcV (.lst l) l
  | rng {a : Int} {k : Nat} (h1 : -1000 ≤ a) (h2 : a ≤ 1000) (hk : k ≤ 1000) : SrcV (.rng a (a + (k : Nat))) ((List.range k).map fun i => .int (a + (i : Nat)))
theorem itr_of {fp₀ : List Addr} {P : Nat → Value → Prop} {St : Nat → Heap → Prop} {k : Nat} (hk : k = its.length) (W : Walks PG Γ.w Γ.A I fp₀ [I] k P St) (hown : ∀ i h, St i h → ∃ o, h.get? I = some o) (hfp : ∀ b ∈ fp₀, b = I ∨ ∃ o, Γ.S imm b o) (hI : ∀ o, ¬ Γ.S imm I o)
    (htak : ∀ (i : Nat) (as : List AV) (v : Value) (h : Heap), its[i]? = some as → P i v → (∀ a o, Γ.S imm a o → h.get? a = some o) → Tak (Γ.S imm) h target xs as v)
    (hgo : ∀ (i : Nat) (as : List AV) (v : Value) (s : Shared) (Q : Unit → Shared → Prop) (E : Value → Shared → Prop), its[i]? = some as → P i v → St (i + 1) s.heap → Q () s → wpAny Γ.M Γ.A (letOwnedTupleGo target (.ref I) v) Q E s) : Itr Γ imm target xs its I [I] St := by
  subst hk
  refine ⟨fun i h h' st kn kn' own => W.frame i h h' st fun b hb o e => ?_, fun i h st b hb => by rw [List.mem_singleton.mp hb]; exact hown i h st, fun i as h tk Q E e st kn k => ?_, fun h tk Q E st k => W.done (Γ.st h tk) _ _ st k, fun i h tk Q E st q => W.self i (Γ.st h tk) _ _ st q⟩
  · rcases hfp b hb with rfl | ⟨o', ho'⟩
    · exact own b (.head _) o e
    · rw [kn _ _ ho'] at e; cases e
      exact kn' _ _ ho'
  · refine W.item i (Γ.st h tk) _ _ (List.getElem?_eq_some_iff.mp e).1 st fun v h' tk' hP st' hk => k v h' tk' fun Q' E' hq => hgo i as v _ _ _ e hP st' (hq h' tk' st' hk (htak i as v h' e hP fun a o q => hk _ _ (fun q' => ?_) (kn _ _ q)))
    rw [List.mem_singleton] at q'
    exact hI o (q' ▸ q)
theorem Led.newI (L : Led Γ m σ mu imm h) : ∀ o, ¬ Γ.S imm h.objs.size o := fun o x => by
  have := L.get x
  rw [Heap.get?_none_of_le (Nat.le_refl _)] at this; cases this
theorem goT_tuple {ax I t : Addr} {i : Nat} {s : Shared} {elts : List Expr} {k : Nat} {pos : Pos} {Q : Unit → Shared → Prop} {prog : Program} {w : World} {A : Around} (hit : Heap.IsTupleIter s.heap I ax i) (hQ : Q () s) :
    wpAny (model prog w) A (letOwnedTupleGo (.Tuple elts k pos) (.ref I) (.ref t)) Q E s := by
  obtain ⟨o, ho, hc, hd⟩ := hit
  unfold letOwnedTupleGo
  refine wpAny_bind (wpAny_load ho ?_)
  rw [hc, hd]
  show wpAny _ A (if (["enumerate", "zip", "dict_itemiterator", "dict_reverseitemiterator", "odict_iterator", "itertools.zip_longest", "itertools.pairwise"].contains "tuple_iterator" &&
      (#[.ref ax, .int i 0] : Array Value)[0]? == some (rawInt t)) = true then _ else _) Q E s
  rw [if_neg (by
    intro h
    rw [show (["enumerate", "zip", "dict_itemiterator", "dict_reverseitemiterator", "odict_iterator", "itertools.zip_longest", "itertools.pairwise"].contains "tuple_iterator") = false from by decide, Bool.false_and] at h
    cases h)]
  exact wpAny_pure hQ
theorem Tak.get {l : List AV} {vs : List Value} {i : Nat} {as : List AV} {v : Value} {x : Str} {px : Pos} (r : RelL (Γ.S imm) l vs) (e : (l.map fun a => [a])[i]? = some as) (hv : (List.toArray vs)[i]? = some v) : Tak (Γ.S imm) h (.Name x px) [x] as v := by
  rw [List.getElem?_map] at e
  obtain ⟨a, ha, rfl⟩ := Option.map_eq_some_iff.mp e
  obtain ⟨b, hb, r⟩ := r.get' (by simpa using hv)
  rw [ha] at hb; cases hb
  exact .name r
/-- the turns of a tuple -/
theorem it_tup {Q : Value → Shared → Prop} {l : List AV} {v : Value} (L : Led Γ m σ mu imm h) (r : Rel (Γ.S imm) (.tup l) v) (hl : its.length = l.length)
    (htak : ∀ vs, RelL (Γ.S imm) l vs → ∀ (i : Nat) (as : List AV) (v : Value) (h : Heap), its[i]? = some as → (List.toArray vs)[i]? = some v → (∀ a o, Γ.S imm a o → h.get? a = some o) → Tak (Γ.S imm) h target xs as v)
    (hgo : ∀ (vs : List Value) (ax I : Addr), RelL (Γ.S imm) l vs → ∀ (i : Nat) (as : List AV) (v : Value) (s : Shared) (Q : Unit → Shared → Prop) (E : Value → Shared → Prop), its[i]? = some as → (List.toArray vs)[i]? = some v → s.heap.IsTupleIter I ax (i + 1) ∧ s.heap.IsTuple ax vs.toArray → Q () s → wpAny Γ.M Γ.A (letOwnedTupleGo target (.ref I) v) Q E s)
    (k : ∀ (I : Addr) (fp : List Addr) (St : Nat → Heap → Prop) (h' : Heap) (tk' : Nat) (imm' : List (Addr × Obj)), Led Γ m σ mu imm' h' → (∀ p ∈ imm, p ∈ imm') → Itr Γ imm' target xs its I fp St → St 0 h' → fp.Nodup → (∀ b ∈ fp, Off Γ σ mu imm' b) → Q (.ref I) (Γ.st h' tk')) :
    wpAny Γ.M Γ.A (pyIter v) Q E (Γ.st h tk) := by
  obtain ⟨p, o, n', vs, rfl, hp, hc, hn, hd, r⟩ := r.ofTup
  have hg := L.get hp
  have ht : IsTup h p vs.toArray := ⟨o, hg, hc, n', hd⟩
  refine wpAny_pyIter_tuple ht ?_
  have up : ∀ b o, h.get? b = some o → (h.push { cls := .type "tuple_iterator", data := .fields #[.ref p, .int 0 0] }).get? b = some o := fun b o e => Heap.get?_push_of_some _ e
  refine k h.objs.size [h.objs.size] _ _ tk imm (L.grown up) (fun _ q => q) (itr_of (by rw [hl, List.size_toArray, r.length]) (Walks.tuple rfl h.objs.size p (Nat.ne_of_lt (Heap.lt_size hg)) vs.toArray) (fun i h st => by obtain ⟨o, e, _⟩ := st.1; exact ⟨o, e⟩) (fun b hb => ?_) L.newI (htak vs r) (hgo vs p _ r))
    ⟨⟨_, Heap.get?_push_size _ rfl, rfl, rfl⟩, IsTup.keeps ht up⟩ (List.nodup_cons.mpr ⟨by simp, List.nodup_nil⟩) fun b hb => by rw [List.mem_singleton.mp hb]; exact L.off (Heap.get?_none_of_le (Nat.le_refl _))
  simp only [List.mem_cons, List.not_mem_nil, or_false] at hb
  rcases hb with rfl | rfl
  · exact .inl rfl
  · exact .inr ⟨o, hp⟩
/-- items one by one, a name takes each -/
theorem ItA.name {l : List AV} {x : Str} {px : Pos} (he : EvA Γ env ρ σ iter a τ) (sv : SrcV a l) : ItA Γ env ρ σ iter τ (.Name x px) [x] (l.map fun a => [a]) := by
  refine ⟨fun m mu imm h tk E Q L N k => he.run _ _ _ _ _ _ _ L N fun v h₁ tk₁ i₁ L₁ k₁ r₁ => ?_⟩
  replace k := fun I fp St h' tk' imm' L' (hi : ∀ p ∈ i₁, p ∈ imm') => k I fp St h' tk' imm' L' fun p hp => hi p (k₁ p hp)
  have one : ∀ b ∈ [h₁.objs.size], Off Γ τ mu i₁ b := fun b hb => by rw [List.mem_singleton.mp hb]; exact L₁.off (Heap.get?_none_of_le (Nat.le_refl _))
  have nd : [h₁.objs.size].Nodup := List.nodup_cons.mpr ⟨by simp, List.nodup_nil⟩
  cases sv with
  | tup => exact it_tup L₁ r₁ (List.length_map _) (fun vs r i as v h e hv _ => Tak.get r e hv) (fun vs ax I r i as v s Q E e hv st q => wpAny_pure q) k
  | lst =>
    obtain ⟨p, o, n', vs, rfl, hp, hc, hd, r⟩ := r₁.ofLst
    have hg := L₁.get hp
    have ht : h₁.IsList p vs.toArray := ⟨o, hg, hc, n', hd⟩
    refine wpAny_pyIter_list ht ?_
    have up : ∀ b o, h₁.get? b = some o → (h₁.push { cls := .type "list_iterator", data := .fields #[.ref p, .int 0 0] }).get? b = some o := fun b o e => Heap.get?_push_of_some _ e
    refine k h₁.objs.size [h₁.objs.size] _ _ tk₁ i₁ (L₁.grown up) (fun _ q => q) (itr_of (by rw [List.length_map, List.size_toArray, r.length]) (Walks.list rfl h₁.objs.size p (Nat.ne_of_lt (Heap.lt_size hg)) vs.toArray) (fun i h st => by obtain ⟨o, e, _⟩ := st.1; exact ⟨o, e⟩) (fun b hb => ?_) L₁.newI (fun i as v h e hv _ => Tak.get r e hv) (fun i as v s Q E e hv st q => wpAny_pure q))
      ⟨⟨_, Heap.get?_push_size _ rfl, rfl, rfl⟩, ht.push _⟩ nd one
    simp only [List.mem_cons, List.not_mem_nil, or_false] at hb
    rcases hb with rfl | rfl
    · exact .inl rfl
    · exact .inr ⟨o, hp⟩
  | @rng a c h1 h2 hc =>
    obtain ⟨p, t, t', t'', rfl, hr⟩ := L₁.rng r₁
    have hn : Builtin.Range.rangeSize a (a + (c : Nat)) 1 = (c : Int) := by
      unfold Builtin.Range.rangeSize
      simp
      split <;> omega
    refine wpAny_pyIter_range hr (small_one (by omega) (by omega) (by omega) (by omega)) ?_
    have up : ∀ b o, h₁.get? b = some o → (h₁.push { cls := .type "range_iterator", data := .fields #[rawInt a, rawInt (Builtin.Range.rangeSize a (a + (c : Nat)) 1), rawInt 1] }).get? b = some o := fun b o e => Heap.get?_push_of_some _ e
    refine k h₁.objs.size [h₁.objs.size] _ _ tk₁ i₁ (L₁.grown up) (fun _ q => q) (itr_of (by rw [List.length_map, List.length_map, List.length_range]) (range_walks rfl a c) (fun i h st => ⟨_, st⟩) (fun b hb => .inl (List.mem_singleton.mp hb)) L₁.newI (fun i as v h e hv _ => ?_) (fun i as v s Q E e hv st q => wpAny_pure q))
      (by show IsRangeIter _ _ _ _ _; rw [hn]; simpa using Heap.get?_push_size _ rfl) nd one
    obtain ⟨t, rfl⟩ := hv
    rw [List.map_map, List.getElem?_map] at e
    obtain ⟨j, hj, rfl⟩ := Option.map_eq_some_iff.mp e
    have := (List.getElem?_eq_some_iff.mp hj).2
    rw [List.getElem_range] at this
    rw [← this]
    exact .name (Rel.int _ _)
/-- tuples one by one, their items into names -/
theorem ItA.tups {l : List (List AV)} {ts : List Expr} {k : Nat} {tp : Pos} (he : EvA Γ env ρ σ iter (.tup (l.map .tup)) τ) (hx : tgN ts = some xs) (hl : ∀ as ∈ l, as.length = xs.length) : ItA Γ env ρ σ iter τ (.Tuple ts k tp) xs l := by
  refine ⟨fun m mu imm h tk E Q L N k => he.run _ _ _ _ _ _ _ L N fun v h₁ tk₁ i₁ L₁ k₁ r₁ => it_tup L₁ r₁ (List.length_map _).symm (fun vs r i as v h e hv kn => ?_) (fun vs ax I r i as v s Q E e hv st q => ?_) fun I fp St h' tk' imm' L' hi => k I fp St h' tk' imm' L' fun p hp => hi p (k₁ p hp)⟩
  all_goals
    obtain ⟨b, hb, r⟩ := r.get' (by simpa using hv)
    rw [List.getElem?_map, e] at hb
    cases hb
    obtain ⟨p, o, n', vs, rfl, hp, hc, hn, hd, r⟩ := r.ofTup
  · exact .tup hx (hl as (List.mem_of_getElem? e)) ⟨o, kn _ _ hp, hc, n', hd⟩ r
  · exact goT_tuple st.1 q
theorem ZipSt.move {h h' : Heap} {z TI TO i1 i2 t1 t2 : Addr} {vs ws : Array Value} {k : Nat} {f : Value} (S : ZipSt h z TI TO i1 i2 t1 t2 vs ws k f) (g : ∀ b ∈ [z, TI, TO, i1, i2], ∀ o, h.get? b = some o → h'.get? b = some o) (g1 : h'.IsTuple t1 vs) (g2 : h'.IsTuple t2 ws) : ZipSt h' z TI TO i1 i2 t1 t2 vs ws k f := by
  obtain ⟨a1, a2, ⟨a, b, a3⟩, ⟨o1, e1, r1⟩, ⟨o2, e2, r2⟩, _, _⟩ := S
  exact ⟨g _ (by simp) _ a1, g _ (by simp) _ a2, ⟨a, b, g _ (by simp) _ a3⟩, ⟨o1, g _ (by simp) _ e1, r1⟩, ⟨o2, g _ (by simp) _ e2, r2⟩, g1, g2⟩
theorem ZipSt.at {h : Heap} {z TI TO i1 i2 t1 t2 : Addr} {vs ws : Array Value} {k : Nat} {f : Value} (S : ZipSt h z TI TO i1 i2 t1 t2 vs ws k f) : ∀ b ∈ [z, TI, TO, i1, i2], ∃ o, h.get? b = some o := by
  obtain ⟨a1, a2, ⟨a, b, a3⟩, ⟨o1, e1, r1⟩, ⟨o2, e2, r2⟩, _, _⟩ := S
  intro b hb
  simp only [List.mem_cons, List.not_mem_nil, or_false] at hb
  rcases hb with rfl | rfl | rfl | rfl | rfl
  · exact ⟨_, a1⟩
  · exact ⟨_, a2⟩
  · exact ⟨_, a3⟩
  · exact ⟨_, e1⟩
  · exact ⟨_, e2⟩
/-- a zip over two tuples -/
theorem itr_zip {z TI TO i1 i2 t1 t2 : Addr} {o1 o2 : Obj} {vs ws : List Value} {as bs : List AV} {x y : Str} {px py tp : Pos} {k n1 n2 : Nat} (D : ZipApart z TI TO i1 i2 t1 t2) (h1 : Γ.S imm t1 o1) (c1 : o1.cls = .type "tuple") (d1 : o1.data = .seq vs.toArray n1) (r1 : RelL (Γ.S imm) as vs)
    (h2 : Γ.S imm t2 o2) (c2 : o2.cls = .type "tuple") (d2 : o2.data = .seq ws.toArray n2) (r2 : RelL (Γ.S imm) bs ws) :
    Itr Γ imm (.Tuple [.Name x px, .Name y py] k tp) [x, y] ((as.zip bs).map fun q => [q.1, q.2]) z [z, TI, TO, i1, i2] (fun i h => ZipSt h z TI TO i1 i2 t1 t2 vs.toArray ws.toArray i .none) := by
  have tup : ∀ {h : Heap}, (∀ a o, Γ.S imm a o → h.get? a = some o) → h.IsTuple t1 vs.toArray ∧ h.IsTuple t2 ws.toArray := fun kn => ⟨⟨_, kn _ _ h1, c1, _, d1⟩, ⟨_, kn _ _ h2, c2, _, d2⟩⟩
  refine ⟨fun i h h' st kn kn' g => st.move g (tup kn').1 (tup kn').2, fun i h st => st.at, fun i as' h tk Q E e st kn k => ?_, fun h tk Q E st k => ?_, fun i h tk Q E st q => wpAny_pyIter_zip st.zip q⟩
  · rw [List.getElem?_map] at e
    obtain ⟨⟨a, b⟩, hab, rfl⟩ := Option.map_eq_some_iff.mp e
    obtain ⟨ha, hb⟩ := List.getElem?_zip_eq_some.mp hab
    obtain ⟨v, hv, ra⟩ := r1.get ha
    obtain ⟨w, hw, rb⟩ := r2.get hb
    refine zip_next (s := Γ.st h tk) D st rfl (fun x' y' g₂ hx hy S₂ hT hk => ?_) fun g₂ hend hk => ?_
    · obtain rfl : v = x' := by simpa [hv] using hx
      obtain rfl : w = y' := by simpa [hw] using hy
      refine k (.ref h.objs.size) g₂ tk fun Q' E' hq => wpAny_letOwnedTupleGo_zip (s := Γ.st g₂ tk) S₂.zip fun g₃ hz₃ hs₃ => ?_
      have up₃ : ∀ c o, c ≠ z → g₂.get? c = some o → g₃.get? c = some o := fun c o hc e => hs₃.extBut c o hc e
      obtain ⟨_, a2, ⟨a, b, a3⟩, ⟨o1, e1, q1⟩, ⟨o2, e2, q2⟩, a6, a7⟩ := S₂
      refine hq g₃ tk ⟨hz₃, up₃ _ _ D.TIz a2, ⟨a, b, up₃ _ _ D.TOz a3⟩, ⟨o1, up₃ _ _ D.i1z e1, q1⟩, ⟨o2, up₃ _ _ D.i2z e2, q2⟩, a6.extBut hs₃.extBut D.l1z, a7.extBut hs₃.extBut D.l2z⟩ (fun b o hb e => ?_) (.tup (vs := [v, w]) rfl rfl ⟨_, up₃ _ _ (Nat.ne_of_gt (Heap.lt_size st.zip)) hT, rfl, _, rfl⟩ (.cons ra (.cons rb .nil)))
      simp only [List.mem_cons, List.not_mem_nil, or_false, not_or] at hb
      exact up₃ _ _ hb.1 (hk _ _ hb.1 hb.2.2.1 hb.2.2.2.1 hb.2.2.2.2 e)
    · rcases hend with q | q
      · simp [hv] at q
      · simp [hw] at q
  · refine zip_next (s := Γ.st h tk) D st rfl (fun x' y' g₂ hx hy S₂ hT hk => ?_) fun g₂ hend hk => k g₂ tk fun b o hb e => ?_
    · have l1 := (Array.getElem?_eq_some_iff.mp hx).1
      have l2 := (Array.getElem?_eq_some_iff.mp hy).1
      simp only [List.length_map, List.length_zip, List.size_toArray, ← r1.length, ← r2.length] at l1 l2
      omega
    · simp only [List.mem_cons, List.not_mem_nil, or_false, not_or] at hb
      exact hk _ _ hb.1 hb.2.2.1 hb.2.2.2.1 hb.2.2.2.2 e
theorem ItA.zip {f x y : Str} {pf px py tp : Pos} {k : Nat} {e1 e2 : Expr} {as bs : List AV} (hf : EvA Γ env ρ σ (.Name f pf) (.lit (.type "zip")) σ) (ha : ArA Γ env ρ σ [e1, e2] [.tup as, .tup bs] τ) (hp : [e1, e2].all noStar = true) :
    ItA Γ env ρ σ (.Call (.Name f pf) [e1, e2] [] pos) τ (.Tuple [.Name x px, .Name y py] k tp) [x, y] ((as.zip bs).map fun q => [q.1, q.2]) := by
  refine ⟨fun m mu imm h tk E Q L N k => Call_ (hf.run _ _ _ _ _ _ _ L N fun v h₁ tk₁ i₁ L₁ k₁ r₁ => ?_)⟩
  obtain rfl := r₁.ofLit
  have hp' := hp
  rw [List.all_cons, Bool.and_eq_true] at hp'
  refine PyProof.Rows.callWith_type1 (ha.run _ _ _ _ _ _ _ _ L₁ (N.mono k₁) fun vs h₂ tk₂ i₂ L₂ k₂ r₂ => ?_) (noStar_eq hp'.1) (plain_args hp'.2)
  obtain ⟨_, _, rfl, r1, r2⟩ := r₂.two
  obtain ⟨t1, o1, n1, vs, rfl, g1, c1, -, d1, r1⟩ := r1.ofTup
  obtain ⟨t2, o2, n2, ws, rfl, g2, c2, -, d2, r2⟩ := r2.ofTup
  refine zip_make (s := Γ.st h₂ tk₂) (xs := vs.toArray) (ys := ws.toArray) ⟨_, L₂.get g1, c1, _, d1⟩ ⟨_, L₂.get g2, c2, _, d2⟩ fun h' z TI TO i1 i2 D S up hge => wpAny_pyIter_zip S.zip ?_
  refine k z [z, TI, TO, i1, i2] _ h' tk₂ i₂ (L₂.grown up) (fun p hp => k₂ p (k₁ p hp)) (itr_zip D g1 c1 d1 r1 g2 c2 d2 r2) S ?_ fun b hb => L₂.off (Heap.get?_none_of_le (hge b hb))
  simp only [List.nodup_cons, List.mem_cons, List.not_mem_nil, or_false, not_or, not_false_eq_true, List.nodup_nil, and_true]
  exact ⟨⟨Ne.symm D.TIz, Ne.symm D.TOz, Ne.symm D.i1z, Ne.symm D.i2z⟩, ⟨D.TITO, D.TIi1, D.TIi2⟩, ⟨D.TOi1, D.TOi2⟩, D.i12⟩
end

end
section
theorem len_ok {α β : Type} {f : α → β} {l : List α} (h : l.length ≤ 1000) : (l.map f).length ≤ 1000 := by rw [List.length_map]; exact h
section
variable {n u : Nat} {Γ : Cx n u} {env : Env} {ρ : Nms} {σ σ₁ τ : Sto} {m : Str → Option Value} {mu imm : List (Addr × Obj)} {h h' : Heap} {tk : Nat} {E : Value → Shared → Prop} {Q : Value → Shared → Prop}
  {e l r : Expr} {a b c : AV} {pos px ps pa : Pos} {x y : Str} {v : Value} {value slice : Expr} {xs ys : List Int} {i j k : Int}
theorem ArA.one (h : EvA Γ env ρ σ e a τ) (hn : noStar e = true) : ArA Γ env ρ σ [e] [a] τ := .cons h .nil hn
/-- a method of a tuple: count -/
theorem EvA.count (h1 : EvA Γ env ρ σ (.Name x px) (.tup (xs.map .int)) σ) (h2 : EvA Γ env ρ σ e (.int k) τ) (hn : noStar e = true) {pl : Sem Bool}
    (he : eval (.Call (.Attribute (.Name x px) (Str.ofString "count") pa) [e] [] pos) env = (do
      let ov ← eval (.Name x px) env
      standAt pa.atName
      let (f, first) ← holding [ov] (getMethod ov (Str.ofString "count") pl)
      callWith pos f first (backTo pos (starEach [e] env)) [])) : EvA Γ env ρ σ (.Call (.Attribute (.Name x px) (Str.ofString "count") pa) [e] [] pos) (.int ((xs.count k : Nat) : Int)) τ :=
  ⟨fun _ _ _ _ _ _ _ L N q => MethodCall_ (he := he) (h1.run _ _ _ _ _ _ _ L N fun v h₁ tk₁ i₁ L₁ k₁ r₁ => by
    obtain ⟨p, o, n', vs, rfl, hp, hc, hd0, hd, r⟩ := r₁.ofTup
    refine getMethod_builtin ⟨_, L₁.get hp, hc⟩ PySem.F.plainAttrs_tuple PySem.F.slot_tuple_count PySem.F.type_tuple_count (fun a e => by cases e; exact ⟨_, L₁.get hp, hd0⟩) ?_
    refine callWith_method1 ((ArA.one h2 hn).run _ _ _ _ _ _ _ _ L₁ (N.mono k₁) fun ws h₂ tk₂ i₂ L₂ k₂ r₂ => ?_) (noStar_eq hn)
    obtain ⟨w, rfl, rw'⟩ := r₂.one
    obtain ⟨t, rfl⟩ := rw'.ofInt
    exact count_tup (vs := vs) ⟨_, L₂.get (Cx.S_mono k₂ _ _ hp), hc, _, hd⟩ r.ints (q _ _ _ _ L₂ (fun p hp => k₂ p (k₁ p hp)) (Rel.int _ _)))⟩
/-- a slice of a tuple up to a place -/
theorem EvA.upto {l : List AV} {p : Nat} (h1 : EvA Γ env ρ σ value (.tup l) σ) (h2 : EvA Γ env ρ σ e (.int k) σ) (hk : k = (p : Int)) (hz : p ≤ l.length) (hz2 : l.length ≤ 1000) (hg : isName value = true) : EvA Γ env ρ σ (.Subscript value (.Slice none (some e) none ps) pos) (.tup (l.take p)) σ := by
  subst hk
  refine ⟨fun m mu imm h tk E Q L N q => Subscript_ (h1.run _ _ _ _ _ _ _ L N fun v h₁ tk₁ i₁ L₁ k₁ r₁ => ?_)⟩
  refine wpAny_Slice (wpAny_pure (h2.run _ _ _ _ _ _ _ L₁ (N.mono k₁) fun w h₂ tk₂ i₂ L₂ k₂ r₂ => wpAny_pure ?_))
  obtain ⟨t, vs, rfl, ht, r⟩ := L₂.tup (r₁.mono (Cx.S_mono k₂))
  obtain ⟨t', rfl⟩ := r₂.ofInt
  have h3 := r.length
  obtain ⟨st, S, N₂, nd⟩ := L₂.ex
  refine slice_tuple_to (s := Γ.st h₂ tk₂) L₂.F N₂ ht (by simp; omega) (fun e h' F' N' => ?_) (fun e D h' F' N' lt => ?_) rfl (isName_go hg) (by rw [sizeLine_eq]; simp; omega)
  · refine q _ _ _ i₂ ⟨F', st, S, N', nd⟩ (fun p hp => k₂ p (k₁ p hp)) ?_
    have e' : p = l.length := by simp at e; omega
    rw [e', List.take_length]
    exact r₁.mono (Cx.S_mono k₂)
  · exact q _ _ _ _ (led_cons S nd F' N' fun p hp => Nat.ne_of_lt (lt p hp)) (up2 fun p hp => k₂ p (k₁ p hp)) (Rel.tup (vs := vs.take p) (.inr List.mem_cons_self) rfl rfl rfl ((r.take p).mono (Cx.S_mono up1)))
theorem EvA.uptoI {p : Nat} (h1 : EvA Γ env ρ σ value (.tup (xs.map .int)) σ) (h2 : EvA Γ env ρ σ e (.int k) σ) (hk : k = (p : Int)) (hz : p ≤ xs.length) (hz2 : xs.length ≤ 1000) (hg : isName value = true) : EvA Γ env ρ σ (.Subscript value (.Slice none (some e) none ps) pos) (.tup ((xs.take p).map .int)) σ := by
  rw [List.map_take]
  exact EvA.upto h1 h2 hk (by rw [List.length_map]; exact hz) (by rw [List.length_map]; exact hz2) hg
/-- a slice of a list of ints from a place on -/
theorem EvA.from {p : Nat} (h1 : EvA Γ env ρ σ value (.lst (xs.map .int)) σ) (h2 : EvA Γ env ρ σ e (.int k) σ) (hk : k = (p : Int)) (hz : p ≤ xs.length) (hz2 : xs.length ≤ 1000) (hg : isName value = true) : EvA Γ env ρ σ (.Subscript value (.Slice (some e) none none ps) pos) (.lst ((xs.drop p).map .int)) σ := by
  subst hk
  refine ⟨fun m mu imm h tk E Q L N q => Subscript_ (h1.run _ _ _ _ _ _ _ L N fun v h₁ tk₁ i₁ L₁ k₁ r₁ => ?_)⟩
  refine wpAny_Slice (h2.run _ _ _ _ _ _ _ L₁ (N.mono k₁) fun w h₂ tk₂ i₂ L₂ k₂ r₂ => wpAny_pure (wpAny_pure ?_))
  obtain ⟨t, vs, rfl, ht, r⟩ := L₂.lstAt .imm (r₁.mono (Cx.S_mono k₂))
  obtain ⟨t', rfl⟩ := r₂.ofInt
  have h3 := r.length
  rw [List.length_map] at h3
  obtain ⟨st, S, N₂, nd⟩ := L₂.ex
  refine kmk_slice (s := Γ.st h₂ tk₂) L₂.F N₂ ht (.int _ _) .none (fun D h' F' N' lt => ?_) rfl (isName_go hg) (by rw [sizeLine_eq]; simp; omega)
  have ii := slice_ints_from r.ints (x := (p : Int)) (by omega) (by omega)
  rw [Int.toNat_natCast] at ii
  exact q _ _ _ _ (led_cons S nd F' N' fun p hp => Nat.ne_of_lt (lt p hp)) (up2 fun p hp => k₂ p (k₁ p hp)) (Rel.lst (vs := (slicePick vs.toArray (some (p : Int)) none none).toList) (.inr List.mem_cons_self) rfl (by simp; rfl) (RelL.of_ints ii))
/-- a slice of a text up to a place -/
theorem EvA.head (h1 : EvA Γ env ρ σ value (.str x) σ) (h2 : EvA Γ env ρ σ e (.int k) σ) (hz : x.length ≤ 1000) (hg : isName value = true) : EvA Γ env ρ σ (.Subscript value (.Slice none (some e) none ps) pos) (.str (Txt.slice x none (some k))) σ := by
  refine ⟨fun m mu imm h tk E Q L N q => Subscript_ (h1.run _ _ _ _ _ _ _ L N fun v h₁ tk₁ i₁ L₁ k₁ r₁ => ?_)⟩
  refine wpAny_Slice (wpAny_pure (h2.run _ _ _ _ _ _ _ L₁ (N.mono k₁) fun w h₂ tk₂ i₂ L₂ k₂ r₂ => wpAny_pure ?_))
  obtain ⟨t, rfl⟩ := r₁.ofStr
  obtain ⟨t', rfl⟩ := r₂.ofInt
  obtain ⟨st, S, N₂, nd⟩ := L₂.ex
  exact slice_strN_ns (s := Γ.st h₂ tk₂) L₂.F N₂ (fun h' t' k' F' N' => q _ _ _ i₂ ⟨F', st, S, N', nd⟩ (fun p hp => k₂ p (k₁ p hp)) (Rel.str _ _)) rfl (isName_go hg) (by rw [sizeLine_eq]; omega)
theorem EvA.andT {d : Bool} (h1 : EvA Γ env ρ σ l (.bool true) σ) (h2 : EvA Γ env ρ σ r (.bool d) σ) : EvA Γ env ρ σ (.BoolOp .And [l, r] pos) (.bool d) σ := EvA.and (c₁ := true) h1 fun _ => h2
theorem EvA.andF (h1 : EvA Γ env ρ σ l (.bool false) σ) : EvA Γ env ρ σ (.BoolOp .And [l, r] pos) (.bool false) σ := EvA.and (c₁ := false) (c₂ := false) h1 fun e => by cases e
theorem EvA.iteT {t : Expr} (ht : TsA Γ env ρ σ t true) (h : EvA Γ env ρ σ l a τ) : EvA Γ env ρ σ (.IfExp t l r pos) a τ := EvA.ite ht (fun _ => h) fun e => by cases e
theorem EvA.iteF {t : Expr} (ht : TsA Γ env ρ σ t false) (h : EvA Γ env ρ σ r a τ) : EvA Γ env ρ σ (.IfExp t l r pos) a τ := EvA.ite ht (fun e => by cases e) fun _ => h
theorem TsA.ite {t : Expr} {d d' : Bool} (ht : TsA Γ env ρ σ t d) (h1 : d = true → TsA Γ env ρ σ l d') (h2 : d = false → TsA Γ env ρ σ r d') : TsA Γ env ρ σ (.IfExp t l r pos) d' := by
  refine ⟨fun m mu imm h tk E Q L N q => ?_⟩
  show wpAny Γ.M Γ.A (do if ← isTrue t env (eval t env) then isTrue l env (eval l env) else isTrue r env (eval r env)) Q E _
  refine wpAny_bind (ht.run _ _ _ _ _ _ _ L N fun h₁ tk₁ i₁ L₁ k₁ => ?_)
  cases d with
  | true => exact (h1 rfl).run _ _ _ _ _ _ _ L₁ (N.mono k₁) fun h₂ tk₂ i₂ L₂ k₂ => q _ _ i₂ L₂ fun p hp => k₂ p (k₁ p hp)
  | false => exact (h2 rfl).run _ _ _ _ _ _ _ L₁ (N.mono k₁) fun h₂ tk₂ i₂ L₂ k₂ => q _ _ i₂ L₂ fun p hp => k₂ p (k₁ p hp)
theorem TsA.iteT {t : Expr} {d' : Bool} (ht : TsA Γ env ρ σ t true) (h : TsA Γ env ρ σ l d') : TsA Γ env ρ σ (.IfExp t l r pos) d' := TsA.ite ht (fun _ => h) fun e => by cases e
theorem TsA.iteF {t : Expr} {d' : Bool} (ht : TsA Γ env ρ σ t false) (h : TsA Γ env ρ σ r d') : TsA Γ env ρ σ (.IfExp t l r pos) d' := TsA.ite ht (fun e => by cases e) fun _ => h
theorem EvA.eq (h : EvA Γ env ρ σ e a τ) (q : a = b) : EvA Γ env ρ σ e b τ := q ▸ h
theorem intAt {p : Nat} (h : p < xs.length) : (xs.map AV.int)[p]? = some (.int (xs.getD p 0)) := by
  rw [List.getElem?_map, List.getD_eq_getElem?_getD, List.getElem?_eq_getElem h]; rfl
theorem eq_lstA (hu : 64 ≤ u) : BinA Γ σ (compareOp .Eq) (.lst (xs.map .int)) (.lst (ys.map .int)) (.bool (decide (xs = ys))) := by
  intro m mu imm h tk E Q v w L ra rb q
  obtain ⟨p, vs, rfl, hp, r1⟩ := L.lstAt .imm ra
  obtain ⟨p', vs', rfl, hp', r2⟩ := L.lstAt .imm rb
  exact ke_eq_ints hp hp' r1.ints r2.ints (by have := Γ.units; show Γ.un + 64 < cLine; omega) (q _ _ _ imm L (fun _ p => p) (Rel.bool _))
theorem lt_tupA {x1 x2 y1 y2 : Int} : BinA Γ σ (compareOp .Lt) (.tup [.int x1, .int x2]) (.tup [.int y1, .int y2]) (.bool (lexSat [x1, x2] [y1, y2])) := by
  intro m mu imm h tk E Q v w L ra rb q
  obtain ⟨p, vs, rfl, hp, r1⟩ := L.tup ra
  obtain ⟨p', vs', rfl, hp', r2⟩ := L.tup rb
  obtain ⟨_, _, rfl, a1, a2⟩ := r1.two
  obtain ⟨_, _, rfl, b1, b2⟩ := r2.two
  obtain ⟨_, rfl⟩ := a1.ofInt
  obtain ⟨_, rfl⟩ := a2.ofInt
  obtain ⟨_, rfl⟩ := b1.ofInt
  obtain ⟨_, rfl⟩ := b2.ofInt
  exact tup_lt2 hp hp' (by have := Γ.units; show Γ.un < cLine; omega) (q _ _ _ imm L (fun _ p => p) (Rel.bool _))
/-- a point's number at a place -/
def PtOk (l : List AV) (val : Int → Int) (x : Int) : Prop := ∃ p : Nat, x = (p : Int) ∧ l[p]? = some (.int (val x)) ∧ l.length ≤ 1000
theorem pt_A {l : List AV} {val : Int → Int} {x : Int} (h : PtOk l val x) (hs : plainSlice slice = true) : BinA Γ σ (subscriptTail value slice) (.tup l) (.int x) (.int (val x)) := by
  obtain ⟨p, h1, h2, h3⟩ := h
  exact tup_A h1 h2 h3 hs
end
section
variable {n u : Nat} {Γ : Cx n u} {cn : Str} {cs sc : Scope} {ca : Addr} {ccd : Value} {env : Env} {ρ : Nms} {σ : Sto} {α : Type} {xs : List α} {ns : List Int} {φ ψ : α → AV} {p : α → Bool} {a : AV} {t y fl fs : Str} {e elt iter c : Expr} {tp pos py spos p1 p2 p3 p4 : Pos} {rest : List Stmt} {R : AV → Sto → Prop} {F : Nms → Sto → Prop}
theorem SrcV.rng0 {k : Nat} (hk : k ≤ 1000) : SrcV (.rng 0 (k : Nat)) ((List.range k).map fun i => .int (i : Nat)) := by
  have := SrcV.rng (a := 0) (k := k) (by decide) (by decide) hk
  simpa using this
theorem SrcV.to (hit : EvA Γ env ρ σ iter a σ) (sv : SrcV a (xs.map φ)) : ItA Γ env ρ σ iter σ (.Name t tp) [t] (xs.map fun x => [φ x]) := by
  have := ItA.name (x := t) (px := tp) hit sv
  rw [List.map_map] at this
  exact this
theorem one_loc (ht : sc.names.lookup t = some .local) : [t].all (fun x => sc.names.lookup x == some .local) = true := by
  rw [List.all_cons, ht]; rfl
theorem map_all : xs.map ψ = (xs.filter fun _ => true).map ψ := by rw [List.filter_eq_self.mpr fun _ _ => rfl]
/-- a comprehension over the items of a value -/
theorem EvA.comp (hit : EvA Γ (envOfC cn cs Γ.L ca ccd) ρ σ iter a σ) (sv : SrcV a (xs.map φ)) (hok : cmpOk sc cs = true) (ht : sc.names.lookup t = some .local) (helt : ∀ x ∈ xs, ∀ (C : Addr) σ, EvA Γ (cEnv Γ cn cs sc ca ccd C) ((t, φ x) :: seen sc ρ) σ elt (ψ x) σ)
    (hs : ∀ x, foldedSetIterable iter (envOfC cn cs Γ.L ca ccd) x = pure x) (hz : xs.length ≤ 1000) : EvA Γ (envOfC cn cs Γ.L ca ccd) ρ σ (.ListComp elt [⟨.Name t tp, iter, [], 0⟩] sc pos) (.lst (xs.map ψ)) σ :=
  (EvA.compG (st := fun _ => σ) (p := fun _ => true) (ψ := ψ) (ct := none) (sv.to hit) hok (one_loc ht) (fun _ _ _ => rfl) (fun i x hx _ env io => helt x (List.mem_of_getElem? hx) env _) (fun _ _ _ q => by cases q) hs hz).eq (congrArg AV.lst map_all.symm)
/-- the same with a test -/
theorem EvA.compIf (hit : EvA Γ (envOfC cn cs Γ.L ca ccd) ρ σ iter a σ) (sv : SrcV a (xs.map φ)) (hok : cmpOk sc cs = true) (ht : sc.names.lookup t = some .local) (htst : ∀ x ∈ xs, ∀ (C : Addr) σ, TsA Γ (cEnv Γ cn cs sc ca ccd C) ((t, φ x) :: seen sc ρ) σ c (p x)) (helt : ∀ x ∈ xs, p x = true → ∀ (C : Addr) σ, EvA Γ (cEnv Γ cn cs sc ca ccd C) ((t, φ x) :: seen sc ρ) σ elt (ψ x) σ)
    (hs : ∀ x, foldedSetIterable iter (envOfC cn cs Γ.L ca ccd) x = pure x) (hz : xs.length ≤ 1000) : EvA Γ (envOfC cn cs Γ.L ca ccd) ρ σ (.ListComp elt [⟨.Name t tp, iter, [c], 0⟩] sc pos) (.lst ((xs.filter p).map ψ)) σ :=
  EvA.compG (st := fun _ => σ) (ct := some c) (sv.to hit) hok (one_loc ht) (fun i x hx env io => htst x (List.mem_of_getElem? hx) env _) (fun i x hx hp env io => helt x (List.mem_of_getElem? hx) hp env _) (fun _ _ _ _ => rfl) hs hz
/-- a name takes a comprehension's list -/
theorem RuB.asgComp (hit : EvA Γ (envOfC cn cs Γ.L ca ccd) ρ σ iter a σ) (sv : SrcV a (xs.map φ)) (hok : cmpOk sc cs = true) (ht : sc.names.lookup t = some .local) (helt : ∀ x ∈ xs, ∀ (C : Addr) σ, EvA Γ (cEnv Γ cn cs sc ca ccd C) ((t, φ x) :: seen sc ρ) σ elt (ψ x) σ)
    (hs : ∀ x, foldedSetIterable iter (envOfC cn cs Γ.L ca ccd) x = pure x) (hz : xs.length ≤ 1000) (ky : nmIs cs y .local = true)
    (hsw : swapsWith (.ListComp elt [⟨.Name t tp, iter, [], 0⟩] sc pos) (some (.Name y py)) spos.line (envOfC cn cs Γ.L ca ccd) = pure true)
    (hk : RuB Γ cn cs ca ccd ((y, .lst (xs.map ψ)) :: ρ) σ rest R F) : RuB Γ cn cs ca ccd ρ σ (.Assign [.Name y py] (.ListComp elt [⟨.Name t tp, iter, [], 0⟩] sc pos) spos :: rest) R F :=
  RuB.asgCompG (st := fun _ => σ) (p := fun _ => true) (ψ := ψ) (ct := none) (sv.to hit) hok (one_loc ht) (fun _ _ _ => rfl) (fun i x hx _ env io => helt x (List.mem_of_getElem? hx) env _) (fun _ _ _ q => by cases q) hs hz (Bool.or_eq_true_iff.mpr (.inl ky)) hsw (by rw [← map_all]; exact hk)
/-- len(set(..)) of a list of ints -/
theorem EvA.lenSet (hl : EvA Γ env ρ σ (.Name fl p1) (.lit (.builtin "len")) σ) (hs : EvA Γ env ρ σ (.Name fs p2) (.lit (.type "set")) σ) (he : EvA Γ env ρ σ e (.lst (ns.map .int)) σ) (hn : noStar e = true) (hz : ns.length ≤ 8) :
    EvA Γ env ρ σ (.Call (.Name fl p1) [.Call (.Name fs p2) [e] [] p3] [] p4) (.int ((diffs ns : Nat) : Int)) σ := by
  refine ⟨fun m mu imm h tk E Q L N q => Call_ (hl.run _ _ _ _ _ _ _ L N fun v h₁ tk₁ i₁ L₁ k₁ r₁ => ?_)⟩
  obtain rfl := r₁.ofLit
  refine callWith_builtin1 (args_cons (Call_ (hs.run _ _ _ _ _ _ _ L₁ (N.mono k₁) fun v h₂ tk₂ i₂ L₂ k₂ r₂ => ?_)) rfl) rfl rfl
  obtain rfl := r₂.ofLit
  refine PyProof.Rows.callWith_type1 (args_cons (he.run _ _ _ _ _ _ _ L₂ ((N.mono k₁).mono k₂) fun v h₃ tk₃ i₃ L₃ k₃ r₃ => args_nil ?_) (noStar_eq hn)) (noStar_eq hn) rfl
  obtain ⟨p, vs, rfl, hp, r⟩ := L₃.lstAt .imm r₃
  have hlen := r.ints.length
  refine call_set_list rfl (l := p) (items := vs.toArray) hp r.ints (Nat.lt_of_le_of_lt (Nat.succ_le_succ (show vs.toArray.size ≤ 8 by simp; omega)) (by decide)) fun h' tk' hS up => args_nil ?_
  have up' : ∀ b o, h₃.get? b = some o → h'.get? b = some o := fun b o e => up b o (Heap.lt_size e) e
  have hd : (firstMet (fun i => ns.getD i 0) vs.toArray.size).length = diffs ns := firstMet_diffs (by simp; omega)
  rw [hd] at hS
  exact len_set (s := Γ.st h' tk') hS (Nat.le_trans diffs_le hz) fun t tk'' => q _ _ _ i₃ (L₃.grown up') (fun p hp => k₃ p (k₂ p (k₁ p hp))) (Rel.int _ _)
end

end
theorem fill_dev : (PySem.Challenge.rw_pc0054_01.row.prog = PG) ∧ ∀ w : World, hd.heap_1 w.params = hd.heap_1 w.params := by
  k_fill
  exact ⟨rfl, fun _ => rfl⟩
section
theorem fill_now : (PySem.Challenge.rw_pc0054_01.row.prog = PG) ∧ ∀ w : World, hd.heap_1 w.params = hd.heap_1 w.params := by
  k_fill
  exact ⟨rfl, fun _ => rfl⟩
section
variable {n u : Nat} {qual : Str} {params : Arguments} {body : List Stmt} {scope : Scope} {dV kV doc pm cdv ct oc : Value} {an od : Option Addr} {osl : Array (Option Value)} {f : Addr} {x y z : Str} {a b c : AV} {name : Str} {σ : Sto} {R : AV → Sto → Prop}
theorem enter1 (ho : ∀ w : World, (hd.heap_1 w.params).lookup f = some ⟨oc, od, .func (fnOf name qual params body scope dV kV doc pm an cdv ct), osl⟩) (hcd : ∀ w : World, codeIn (hd.heap_1 w.params) cdv qual = true)
    (hb : ∀ v, bindArgs (fnOf name qual params body scope dV kV doc pm an cdv ct) ⟨[v], []⟩ = pure [(x, v)]) (kx : [x].all (nmSt scope) = true) (hnd : ((cellsFrom 0 scope.names []).map (·.1)).Nodup) (hnd2 : ((cellsFrom 0 scope.names []).map (·.2)).Nodup)
    (h : ∀ Γ : Cx n u, RuB Γ qual scope f cdv [(x, a)] σ body R fun _ τ => R .none τ) (hco : scope.isCoroutine = false) (hgen : scope.isGenerator = false) (hk : scope.kind = .function) : FnR n u f [a] σ R :=
  enterS (xs := [x]) ho hcd (fun S vs r => by obtain ⟨v, rfl, _⟩ := r.one; exact hb v) kx hnd hnd2 h hco hgen hk
theorem enter2 (ho : ∀ w : World, (hd.heap_1 w.params).lookup f = some ⟨oc, od, .func (fnOf name qual params body scope dV kV doc pm an cdv ct), osl⟩) (hcd : ∀ w : World, codeIn (hd.heap_1 w.params) cdv qual = true)
    (hb : ∀ v w, bindArgs (fnOf name qual params body scope dV kV doc pm an cdv ct) ⟨[v, w], []⟩ = pure [(x, v), (y, w)]) (kx : [x, y].all (nmSt scope) = true) (hnd : ((cellsFrom 0 scope.names []).map (·.1)).Nodup) (hnd2 : ((cellsFrom 0 scope.names []).map (·.2)).Nodup)
    (h : ∀ Γ : Cx n u, RuB Γ qual scope f cdv [(y, b), (x, a)] σ body R fun _ τ => R .none τ) (hco : scope.isCoroutine = false) (hgen : scope.isGenerator = false) (hk : scope.kind = .function) : FnR n u f [a, b] σ R :=
  enterS (xs := [x, y]) ho hcd (fun S vs r => by obtain ⟨v, w, rfl, _, _⟩ := r.two; exact hb v w) kx hnd hnd2 h hco hgen hk
end
theorem words_s06_1 : True := by
  (k_with "my enterA" => ((first | refine' enter2 ?eo ?ec ?eb ?ex ?en ?em ?_ ?e1 ?e2 ?e3 | refine' enter1 ?eo ?ec ?eb ?ex ?en ?em ?_ ?e1 ?e2 ?e3); (case eo => (intro w9; k_is)); (case ec => (intro w9; k_is)); (case eb => (intros; exact rfl)); (case ex => kernel_rfl!); (case en => decide); (case em => decide); (case e1 => exact rfl); (case e2 => exact rfl); (case e3 => exact rfl); intro Γ; (try dsimp only)))
  (k_with "my sid" => first
  | with_reducible assumption
  | (with_reducible show (∀ _ : World, nsIn _ _ _ = _); intro w9; k_is)
  | (with_reducible show (∀ _ : World, keepIn _ _ = true); intro w9; k_is)
  | (with_reducible show (∀ _ : World, List.lookup _ _ = _); intro w9; k_is)
  | (with_reducible show bootBuiltins _ = _; boot_fast)
  | (with_reducible show (_ : Nat) ≤ _; first | with_reducible exact len_ok (by assumption) | exact Nat.le_of_ble_eq_true rfl)
  | exact rfl
  | kernel_rfl!
  | (with_reducible show (∀ _, foldedSetIterable _ _ _ = _); exact fun _ => rfl))
  (k_with "my eva" => first
  | with_reducible exact EvA.int
  | with_reducible exact EvA.str
  | with_reducible exact EvA.bool
  | with_reducible exact EvA.cNone
  | ((with_reducible show EvA _ _ _ _ (Expr.Name _ _) _ _); first
      | exact EvA.name rfl
      | ((with_reducible apply EvA.glob); (focus walk_at "sid"); (focus kernel_rfl!))
      | ((with_reducible apply EvA.boot); (focus walk_at "sid"); (focus walk_at "sid"); (focus kernel_rfl!); (focus kernel_rfl!)))
  | ((with_reducible apply EvA.neg); (focus walk_at "eva"))
  | ((with_reducible apply EvA.bin); (focus walk_at "eva"); (focus walk_at "eva"); (focus walk_at "sta"))
  | ((with_reducible apply EvA.cmp); (focus walk_at "eva"); (focus walk_at "eva"); (focus walk_at "sta"); (focus exact rfl))
  | ((with_reducible apply EvA.item); (focus walk_at "eva"); (focus walk_at "eva"); (focus walk_at "sta"))
  | ((with_reducible apply EvA.callP); (focus walk_at "eva"); (focus walk_at "ara"); (focus walk_at "fna"); (focus walk_at "sid"); (focus exact rfl); (focus walk_at "sid"); (focus walk_at "sid"))
  | ((with_reducible apply EvA.callB); (focus walk_at "eva"); (focus walk_at "ara"); (focus walk_at "sta"); (focus exact rfl))
  | ((with_reducible apply EvA.callT); (focus walk_at "eva"); (focus walk_at "ara"); (focus walk_at "sta"); (focus exact rfl))
  | ((with_reducible apply EvA.tup); (focus walk_at "ara"); (focus walk_at "sid"))
  | ((with_reducible apply EvA.lst); (focus walk_at "ara"); (focus walk_at "sid")))
  (k_with "my ara" => first
  | with_reducible exact ArA.nil
  | ((with_reducible apply ArA.cons); (focus walk_at "eva"); (focus walk_at "ara"); (focus exact rfl)))
  (k_with "my tsa" => first
  | ((with_reducible apply TsA.cmp); (focus walk_at "eva"); (focus walk_at "eva"); (focus walk_at "sta"); (focus exact rfl)))
  (k_with "my sta" => first
  | exact cmpI_ok rfl
  | exact add_A
  | exact sub_A
  | exact tup_A rfl rfl (Nat.le_of_ble_eq_true rfl) rfl
  | (exact map_A (by with_reducible assumption) rfl rfl)
  | exact len_tupA (by walk_at "sid")
  | exact len_lstA .imm (by walk_at "sid")
  | exact tuple_lstA .imm (by walk_at "sid")
  | exact range1_A
  | exact range2_A)
  (k_with "my sta" => ((with_reducible show BinA _ _ (subscriptTail _ _) (AV.map _) _ _); exact map_A (by with_reducible assumption) rfl rfl))
  trivial
theorem values_of_A {xs : List Int} {f : Int → Option Int} {val : Int → Int} (hf : ∀ x ∈ xs, f x = some (val x)) (hl : xs.length ≤ 1000) : FnA 0 37 32 [.tup (xs.map .int), .map f] (.tup ((xs.map val).map .int)) := by
  w_top off
  rw [List.map_map]
  walk_at "enterA"
  refine RuB.ret ?_ ⟨rfl, rfl⟩
  refine EvA.callT (id := "tuple") (by walk_at "eva") (ArA.cons (EvA.comp (φ := .int) (ψ := AV.int ∘ val) (EvA.name rfl) .tup (by kernel_rfl!) (by kernel_rfl!) (fun x hx env σ => ?_) (fun _ => rfl) hl) ArA.nil rfl) (tuple_lstA .imm (len_ok hl)) rfl
  have := hf x hx
  walk_at "eva"
theorem words_s06_2 : True := by
  (k_with "my fna" => (exact values_of_A (by with_reducible assumption) (by with_reducible assumption)))
  trivial

end
section
section
variable {n u : Nat} {Γ : Cx n u} {env : Env} {ρ : Nms} {σ : Sto} {l r : Expr} {pos : Pos}
theorem TsA.orF (h1 : TsA Γ env ρ σ l false) (h2 : TsA Γ env ρ σ r false) : TsA Γ env ρ σ (.BoolOp .Or [l, r] pos) false := TsA.or (c₁ := false) (c₂ := false) h1 fun _ => h2
theorem TsA.orL (h1 : TsA Γ env ρ σ l true) : TsA Γ env ρ σ (.BoolOp .Or [l, r] pos) true := TsA.or (c₁ := true) (c₂ := false) h1 fun e => by cases e
theorem TsA.orR (h1 : TsA Γ env ρ σ l false) (h2 : TsA Γ env ρ σ r true) : TsA Γ env ρ σ (.BoolOp .Or [l, r] pos) true := TsA.or (c₁ := false) (c₂ := true) h1 fun _ => h2
end
theorem words_s07_1 : True := by
  (k_with "my sta" => ((with_reducible show BinA _ _ (subscriptTail _ _) (AV.tup _) (AV.int (-1)) _); exact tupLast_A rfl (Nat.le_of_ble_eq_true rfl) rfl))
  (k_with "my sta" => ((with_reducible show BinA _ _ (binaryOp Operator.Mult) _ _ _); exact mul_A (by first | with_reducible assumption | mul_fits)))
  (k_with "my sta" => ((with_reducible show StepA _ _ _ (fun vs => call (Value.builtin "sorted") vs) _ _); refine sorted_A (by first | assumption | (simp only [List.length_map]; omega))))
  (k_with "my eva" => first
  | ((with_reducible show EvA _ _ _ _ (Expr.IfExp _ _ _ _) _ _); first
      | ((with_reducible apply EvA.iteT); (focus walk_at "tsT"); (focus walk_at "eva"))
      | ((with_reducible apply EvA.iteF); (focus walk_at "tsF"); (focus walk_at "eva"))))
  (k_with "my rub" => first
  | ((with_reducible apply RuB.asg); (focus walk_at "eva"); (focus exact rfl); (focus kernel_rfl!))
  | ((with_reducible apply RuB.asgS); (focus walk_at "eva"); (focus exact rfl); (focus first | exact rfl | kernel_rfl!); (focus kernel_rfl!); (focus exact rfl); (dsimp only [bindN, List.reverse, List.reverseAux]))
  | ((with_reducible apply RuB.asgT); (focus walk_at "eva"); (focus exact rfl); (focus first | exact rfl | kernel_rfl!); (focus exact rfl); (focus kernel_rfl!); (focus exact rfl); (dsimp only [bindN])))
  (k_with "my tso" => ((with_reducible apply TsA.cmp); (focus walk_at "eva"); (focus walk_at "eva"); (focus (first | exact cmpS_ok (by kernel_rfl!) | exact cmpI_ok (by kernel_rfl!))); (focus exact rfl)))
  (k_with "my tsF" => first | walk_at "tso" | ((with_reducible refine TsA.orF ?_ ?_); (focus walk_at "tso"); (focus walk_at "tso")))
  (k_with "my tsT" => first | walk_at "tso" | ((with_reducible refine TsA.orL ?_); (focus walk_at "tso")) | ((with_reducible refine TsA.orR ?_ ?_); (focus walk_at "tso"); (focus walk_at "tso")))
  (k_with "my no" => ((with_reducible refine RuB.skip ?_ ?_); (focus walk_at "tsF")))
  (k_with "my yes" => ((with_reducible refine RuB.take ?_ ?_); (focus walk_at "tsT")))
  (k_with "my ret" => ((refine RuB.ret ?_ ⟨rfl, rfl⟩); (focus walk_at "eva")))
  trivial
theorem times_A {f : Int → Option Int} {val : Int → Int} {x y z : Int} (hx : f x = some (val x)) (hy : f y = some (val y)) (hz : f z = some (val z)) (hm : IntMulOk (val x) (val y)) :
    FnA 1 40 53 [.tup [.str (Str.ofString "times"), .int x, .int y, .int z], .map f] (.bool (val z == val x * val y)) := by
  w_top off
  walk_at "enterA"
  walk_at "rub"
  walk_at "no"
  walk_at "rub"
  walk_at "no"
  walk_at "rub"
  walk_at "yes"
  walk_at "ret"
theorem last_max {ys : List Int} (h : ys.Pairwise (· ≤ ·)) {a : Int} (e : ys.getLast? = some a) : a ∈ ys ∧ ∀ v ∈ ys, v ≤ a := by
  induction ys with
  | nil => cases e
  | cons b ys ih =>
    rw [List.pairwise_cons] at h
    cases ys with
    | nil => cases e; exact ⟨by simp, by simp⟩
    | cons c ys =>
      rw [List.getLast?_cons_cons] at e
      obtain ⟨h1, h2⟩ := ih h.2 e
      exact ⟨List.mem_cons_of_mem _ h1, fun v hv => by
        rcases List.mem_cons.mp hv with rfl | hv
        · exact h.1 a h1
        · exact h2 v hv⟩
theorem ext_max {ys xs : List Int} (p : ys.Perm xs) (h : ys.Pairwise (· ≤ ·)) {a z : Int} (e : ys.getLast? = some a) : (z == a) = extSat (Str.ofString "max") xs z := by
  obtain ⟨h1, h2⟩ := last_max h e
  have em : (Str.ofString "max" == Str.ofString "max") = true := by decide
  rw [extSat_perm p, Bool.eq_iff_iff]
  simp only [extSat, em, if_true, beq_iff_eq, Bool.and_eq_true, decide_eq_true_eq, List.all_eq_true]
  exact ⟨fun q => q ▸ ⟨h1, h2⟩, fun q => Int.le_antisymm (h2 z q.1) (q.2 a h1)⟩
theorem ext_min {ys xs : List Int} (p : ys.Perm xs) (h : ys.Pairwise (· ≤ ·)) {a z : Int} {r : List Int} (e : ys = a :: r) : (z == a) = extSat (Str.ofString "min") xs z := by
  subst e
  rw [List.pairwise_cons] at h
  have em : (Str.ofString "min" == Str.ofString "max") = false := by decide
  rw [extSat_perm p, Bool.eq_iff_iff]
  simp only [extSat, em, Bool.false_eq_true, if_false, beq_iff_eq, Bool.and_eq_true, decide_eq_true_eq, List.all_eq_true]
  refine ⟨fun q => ?_, fun q => ?_⟩
  · subst q
    refine ⟨List.mem_cons_self, fun v hv => ?_⟩
    rcases List.mem_cons.mp hv with rfl | hv
    · exact Int.le_refl _
    · exact h.1 v hv
  · rcases List.mem_cons.mp q.1 with e | hm
    · exact e
    · exact Int.le_antisymm (h.1 z hm |> fun h => (q.2 a List.mem_cons_self)) (h.1 z hm)
theorem max_A {f : Int → Option Int} {val : Int → Int} {xs : List Int} {z : Int} (hf : ∀ x ∈ xs, f x = some (val x)) (hz : f z = some (val z)) (h1 : 1 ≤ xs.length) (h3 : xs.length ≤ 3) :
    FnA 1 40 53 [.tup [.str (Str.ofString "max"), .tup (xs.map .int), .int z], .map f] (.bool (extSat (Str.ofString "max") (xs.map val) (val z))) := by
  w_top off
  have hl : xs.length ≤ 1000 := by omega
  have hl2 : (xs.map val).length < 64 := by rw [List.length_map]; omega
  have hp := srt_perm (xs := xs.map val)
  have hle := srt_le (xs := xs.map val)
  have hsl : (srt (xs.map val)).length = xs.length := by rw [hp.length_eq, List.length_map]
  have hsl2 : (srt (xs.map val)).length ≤ 1000 := by omega
  obtain ⟨a, ha⟩ : ∃ a, (srt (xs.map val)).getLast? = some a := by
    cases e : (srt (xs.map val)).getLast? with
    | some a => exact ⟨a, rfl⟩
    | none => rw [List.getLast?_eq_none_iff] at e; rw [e] at hsl; simp at hsl; omega
  rw [← ext_max hp hle ha]
  walk_at "enterA"
  walk_at "rub"
  walk_at "yes"
  walk_at "rub"
  refine RuB.ret (EvA.andT ?_ ?_) ⟨rfl, rfl⟩
  · with_reducible apply EvA.cmp
    · walk_at "eva"
    · walk_at "eva"
    · exact gt_A (by rw [List.length_map]; omega)
    · exact rfl
  · with_reducible apply EvA.cmp
    · walk_at "eva"
    · with_reducible apply EvA.item
      · walk_at "eva"
      · walk_at "eva"
      · exact lstLast_A .imm (c := .int a) (by rw [List.getLast?_map, ha]; rfl) (len_ok hsl2) rfl rfl
    · exact cmpI_ok rfl
    · exact rfl
theorem min_A {f : Int → Option Int} {val : Int → Int} {xs : List Int} {z : Int} (hf : ∀ x ∈ xs, f x = some (val x)) (hz : f z = some (val z)) (h1 : 1 ≤ xs.length) (h3 : xs.length ≤ 3) :
    FnA 1 40 53 [.tup [.str (Str.ofString "min"), .tup (xs.map .int), .int z], .map f] (.bool (extSat (Str.ofString "min") (xs.map val) (val z))) := by
  w_top off
  have hl : xs.length ≤ 1000 := by omega
  have hl2 : (xs.map val).length < 64 := by rw [List.length_map]; omega
  have hp := srt_perm (xs := xs.map val)
  have hle := srt_le (xs := xs.map val)
  have hsl : (srt (xs.map val)).length = xs.length := by rw [hp.length_eq, List.length_map]
  have hsl2 : (srt (xs.map val)).length ≤ 1000 := by omega
  obtain ⟨a, r, ha⟩ : ∃ a r, srt (xs.map val) = a :: r := by
    cases e : srt (xs.map val) with
    | nil => rw [e] at hsl; simp at hsl; omega
    | cons a r => exact ⟨a, r, rfl⟩
  rw [← ext_min hp hle ha]
  walk_at "enterA"
  walk_at "rub"
  walk_at "yes"
  walk_at "rub"
  refine RuB.ret (EvA.andT ?_ ?_) ⟨rfl, rfl⟩
  · with_reducible apply EvA.cmp
    · walk_at "eva"
    · walk_at "eva"
    · exact gt_A (by rw [List.length_map]; omega)
    · exact rfl
  · with_reducible apply EvA.cmp
    · walk_at "eva"
    · with_reducible apply EvA.item
      · walk_at "eva"
      · walk_at "eva"
      · exact lst_A .imm (p := 0) (c := .int a) rfl (by rw [ha]; rfl) (len_ok hsl2) rfl rfl
    · exact cmpI_ok rfl
    · exact rfl
theorem elem_eq {vs : List Int} {a z : Int} : (decide (1 ≤ a) && decide (a ≤ ((vs.map AV.int).length : Int)) && (vs.getD (a - 1).toNat 0 == z)) = elemSat vs a z := by
  rw [List.length_map]
  by_cases h : 1 ≤ a ∧ a ≤ (vs.length : Int)
  · rw [← elem_in h.1 h.2, decide_eq_true h.1, decide_eq_true h.2]; rfl
  · rcases Decidable.not_and_iff_or_not.mp h with h | h
    · simp [elemSat, h]
    · simp [elemSat, h]
theorem elem_A {f : Int → Option Int} {val : Int → Int} {xs : List Int} {q z : Int} (hf : ∀ x ∈ xs, f x = some (val x)) (hq : f q = some (val q)) (hz : f z = some (val z)) (h3 : xs.length ≤ 3) :
    FnA 1 40 74 [.tup [.str (Str.ofString "element"), .int q, .tup (xs.map .int), .int z], .map f] (.bool (elemSat (xs.map val) (val q) (val z))) := by
  w_top off
  have hl : xs.length ≤ 1000 := by omega
  have hl2 : (xs.map val).length ≤ 1000 := by rw [List.length_map]; omega
  rw [← elem_eq]
  walk_at "enterA"
  walk_at "rub"
  walk_at "no"
  walk_at "no"
  walk_at "no"
  walk_at "rub"
  walk_at "rub"
  refine RuB.ret (EvA.and ?_ fun h => ?_) ⟨rfl, rfl⟩
  · with_reducible apply EvA.chain
    · walk_at "eva"
    · walk_at "eva"
    · walk_at "eva"
    · exact cmpI_ok rfl
    · exact fun _ => cmpI_ok rfl
    · exact rfl
  · with_reducible apply EvA.cmp
    · with_reducible apply EvA.item
      · walk_at "eva"
      · walk_at "eva"
      · exact tup_A (p := (val q - 1).toNat) (by simp at h; omega) (intAt (by simp at h ⊢; omega)) (len_ok hl2) rfl
    · walk_at "eva"
    · exact cmpI_ok rfl
    · exact rfl
theorem cnt_A {f : Int → Option Int} {val : Int → Int} {xs : List Int} {q z : Int} (hf : ∀ x ∈ xs, f x = some (val x)) (hz : f z = some (val z)) (h3 : xs.length ≤ 3) :
    FnA 1 40 79 [.tup [.str (Str.ofString "count"), .tup (xs.map .int), .int q, .int z], .map f] (.bool ((((xs.map val).count q : Nat) : Int) == val z)) := by
  w_top off
  have hl : xs.length ≤ 1000 := by omega
  walk_at "enterA"
  walk_at "rub"
  walk_at "yes"
  refine RuB.ret ?_ ⟨rfl, rfl⟩
  with_reducible apply EvA.cmp
  · exact EvA.count (by walk_at "eva") (by walk_at "eva") rfl rfl
  · walk_at "eva"
  · exact cmpI_ok rfl
  · exact rfl
def newP (vs : List Int) (i : Nat) : Bool := !(vs.take i).any (· == vs.getD i 0)
theorem newP_len {vs : List Int} : ((((List.range vs.length).filter (newP vs)).map fun i => AV.int ((i : Nat) : Int)).length : Int) = ((diffs vs : Nat) : Int) := by
  rw [List.length_map, diffs]
  congr 2
  refine List.filter_congr fun i _ => ?_
  rw [newP]
  congr 1
  rw [Bool.eq_iff_iff]; simp [List.any_eq_true]
theorem words_s07_2 : True := by
  (k_with "my unlike" => (
  with_reducible apply RuB.asg
  focus
    with_reducible apply EvA.callB
    focus walk_at "eva"
    focus
      refine ArA.cons (EvA.compIf (xs := List.range (xs.map val).length) (φ := fun i => .int (i : Nat)) (ψ := fun i => .int (i : Nat)) (p := newP (xs.map val)) (a := .rng 0 ((((xs.map val).map AV.int).length : Nat) : Int)) ?_ ?_ ?_ ?_ ?_ ?_ ?_ ?_) ArA.nil rfl
      focus walk_at "eva"
      focus (rw [List.length_map (as := xs.map val)]; exact SrcV.rng0 hl2)
      focus kernel_rfl!
      focus kernel_rfl!
      focus
        intro i hi env' σ'
        have hi' := List.mem_range.mp hi
        refine TsA.cmp (a := .int ((xs.map val).getD i 0)) (b := .tup (((xs.map val).take i).map .int)) ?_ ?_ notIn_tupA rfl
        focus
          with_reducible apply EvA.item
          focus walk_at "eva"
          focus walk_at "eva"
          focus exact tup_A (p := i) rfl (intAt hi') (len_ok hl2) rfl
        exact EvA.uptoI (p := i) (by walk_at "eva") (by walk_at "eva") rfl (Nat.le_of_lt hi') hl2 rfl
      focus (intro i hi hp env' σ'; walk_at "eva")
      focus exact fun _ => rfl
      focus (rw [List.length_range]; exact hl2)
    focus exact len_lstA .imm (by rw [List.length_map]; exact Nat.le_trans (List.length_filter_le _ _) (by rw [List.length_range]; exact hl2))
    exact rfl
  focus exact rfl
  focus kernel_rfl!))
  trivial
theorem diff_A {f : Int → Option Int} {val : Int → Int} {xs : List Int} (hf : ∀ x ∈ xs, f x = some (val x)) (h3 : xs.length ≤ 3) :
    FnA 1 40 79 [.tup [.str (Str.ofString "all_different"), .tup (xs.map .int), .str (Str.ofString "values")], .map f] (.bool (((diffs (xs.map val) : Nat) : Int) == (xs.length : Int))) := by
  w_top off
  have hl : xs.length ≤ 1000 := by omega
  have hl2 : (xs.map val).length ≤ 1000 := by rw [List.length_map]; omega
  have hlen : (((xs.map val).map AV.int).length : Int) = (xs.length : Int) := by rw [List.length_map, List.length_map]
  rw [← newP_len, ← hlen]
  walk_at "enterA"
  walk_at "rub"
  walk_at "no"
  walk_at "no"
  walk_at "unlike"
  walk_at "ret"
theorem nval_A {f : Int → Option Int} {val : Int → Int} {xs : List Int} {z : Int} (hf : ∀ x ∈ xs, f x = some (val x)) (hz : f z = some (val z)) (h3 : xs.length ≤ 3) :
    FnA 1 40 79 [.tup [.str (Str.ofString "nvalue"), .tup (xs.map .int), .int z], .map f] (.bool (((diffs (xs.map val) : Nat) : Int) == val z)) := by
  w_top off
  have hl : xs.length ≤ 1000 := by omega
  have hl2 : (xs.map val).length ≤ 1000 := by rw [List.length_map]; omega
  rw [← newP_len]
  walk_at "enterA"
  walk_at "rub"
  walk_at "no"
  walk_at "no"
  walk_at "unlike"
  walk_at "ret"
theorem lex_A {f : Int → Option Int} {val : Int → Int} {x1 x2 y1 y2 : Int} (hx : ∀ x ∈ [x1, x2], f x = some (val x)) (hy : ∀ x ∈ [y1, y2], f x = some (val x)) :
    FnA 1 40 101 [.tup [.str (Str.ofString "lex_lt"), .tup ([x1, x2].map .int), .tup ([y1, y2].map .int)], .map f] (.bool (lexSat [val x1, val x2] [val y1, val y2])) := by
  w_top off
  have hl : [x1, x2].length ≤ 1000 := Nat.le_of_ble_eq_true rfl
  have hl2 : [y1, y2].length ≤ 1000 := Nat.le_of_ble_eq_true rfl
  walk_at "enterA"
  walk_at "rub"
  walk_at "no"
  walk_at "rub"
  walk_at "no"
  walk_at "rub"
  refine RuB.ret (EvA.iteF ?_ ?_) ⟨rfl, rfl⟩
  · walk_at "tsF"
  · with_reducible apply EvA.cmp
    · walk_at "eva"
    · walk_at "eva"
    · exact lt_tupA
    · exact rfl

end
section
theorem Thin.nil {ρ : Nms} : Thin [] ρ := fun _ _ e => by cases e
theorem Thin.cons {ρ' ρ : Nms} {x : Str} {a : AV} (h : ρ.lookup x = some a) (r : Thin ρ' ρ) : Thin ((x, a) :: ρ') ρ := fun y b e => by
  rw [List.lookup_cons] at e
  cases hb : y == x with
  | true => rw [hb] at e; cases e; rw [eq_of_beq hb]; exact h
  | false => rw [hb] at e; exact r y b e
theorem zip_its {fs xs : List Int} : ((fs.map AV.int).zip (xs.map AV.int)).map (fun q => [q.1, q.2]) = (fs.zip xs).map fun q => [.int q.1, .int q.2] := by
  rw [List.zip_map, List.map_map]; rfl
theorem bnd_mul {a b : Int} (h : -2 ≤ a ∧ a ≤ 2) : IntMulOk a b := by
  have : a = -2 ∨ a = -1 ∨ a = 0 ∨ a = 1 ∨ a = 2 := by omega
  rcases this with rfl | rfl | rfl | rfl | rfl <;> exact IntMulOk.of_left (by decide)
theorem eqB_A {n u : Nat} {Γ : Cx n u} {σ : Sto} {a b : Bool} : BinA Γ σ (compareOp .Eq) (.bool a) (.bool b) (.bool (a == b)) := fun _ _ imm _ _ _ _ _ _ L ra rb k => by
  obtain rfl := ra.ofBool
  obtain rfl := rb.ofBool
  exact PyProof.Rows.eq_bool (k _ _ _ imm L (fun _ p => p) (Rel.bool _))
theorem words_s08_1 : True := by
  (k_with "my thin" => ((repeat' refine Thin.cons rfl ?_); exact Thin.nil))
  trivial
theorem linear_A {f : Int → Option Int} {val : Int → Int} {nm : Str} {fs xs : List Int} {c : Int} (hf : ∀ x ∈ xs, f x = some (val x)) (hl : fs.length = xs.length) (hb : ∀ f ∈ fs, -2 ≤ f ∧ f ≤ 2)
    (hn : nm = Str.ofString "linear_eq" ∨ nm = Str.ofString "linear_ne" ∨ nm = Str.ofString "linear_le") : FnA 1 77 46 [.tup [.str nm, .tup (fs.map .int), .tup (xs.map .int), .int c], .map f] (.bool (linSat nm fs xs c val)) := by
  w_top off
  walk_at "enterA"
  walk_at "rub"
  walk_at "rub"
  refine RuB.for (xs := fs.zip xs) (φ := fun q => [.int q.1, .int q.2]) (ns := [Str.ofString "coef", Str.ofString "x"]) (fun i ρ σ => σ = [] ∧ ρ = [(Str.ofString "total", .int (dotT val ((fs.zip xs).take i))), (Str.ofString "c", .int c), (Str.ofString "scope", .tup (xs.map .int)), (Str.ofString "coefs", .tup (fs.map .int)), (Str.ofString "name", .str nm), (Str.ofString "values", .map f), (Str.ofString "told", .tup [.str nm, .tup (fs.map .int), .tup (xs.map .int), .int c])])
    (by rw [← zip_its]; exact ItA.zip (by walk_at "eva") (by walk_at "ara") rfl) (by kernel_rfl!) ⟨rfl, rfl⟩ ?_ ?_ (fun _ => rfl)
  · rintro i ⟨a, x⟩ ρ σ io hx ⟨rfl, rfl⟩
    have hx' := List.getElem?_zip_eq_some.mp hx
    have hfx := hf x (List.mem_of_getElem? hx'.2)
    have hm : IntMulOk a (val x) := bnd_mul (hb a (List.mem_of_getElem? hx'.1))
    refine RuB.asg (a := .int (dotT val ((fs.zip xs).take (i + 1)))) (EvA.eq (a := .int (dotT val ((fs.zip xs).take i) + a * val x)) ?_ ?_) rfl ?_ (RuB.nil ⟨[], _, rfl, ⟨rfl, rfl⟩, ?_⟩)
    · walk_at "eva"
    · rw [take_snoc hx]; exact congrArg AV.int (by simp [dotT, List.foldl_append])
    · kernel_rfl!
    · walk_at "thin"
  · rintro ρ σ ⟨rfl, rfl⟩
    rw [List.take_length]
    have le : (Str.ofString "linear_le" == Str.ofString "linear_le") = true := by decide
    have el : (Str.ofString "linear_eq" == Str.ofString "linear_le") = false := by decide
    have nl : (Str.ofString "linear_ne" == Str.ofString "linear_le") = false := by decide
    have ee : (Str.ofString "linear_eq" == Str.ofString "linear_eq") = true := by decide
    have ne : (Str.ofString "linear_ne" == Str.ofString "linear_eq") = false := by decide
    rcases hn with rfl | rfl | rfl
    · walk_at "no"
      refine RuB.ret (EvA.eq (EvA.cmp (σ₁ := []) (a := .bool (dotT val (fs.zip xs) == c)) (b := .bool true) ?_ ?_ eqB_A rfl) (congrArg AV.bool ?_)) ⟨rfl, rfl⟩
      · walk_at "eva"
      · exact EvA.cmp (σ₁ := []) (by walk_at "eva") (by walk_at "eva") (cmpS_ok (by kernel_rfl!)) rfl
      · rw [linSat, el, ee]; rfl
    · walk_at "no"
      refine RuB.ret (EvA.eq (EvA.cmp (σ₁ := []) (a := .bool (dotT val (fs.zip xs) == c)) (b := .bool false) ?_ ?_ eqB_A rfl) (congrArg AV.bool ?_)) ⟨rfl, rfl⟩
      · walk_at "eva"
      · exact EvA.cmp (σ₁ := []) (by walk_at "eva") (by walk_at "eva") (cmpS_ok (by kernel_rfl!)) rfl
      · rw [linSat, nl, ne]; rfl
    · walk_at "yes"
      refine RuB.ret (EvA.eq (a := .bool (decide (dotT val (fs.zip xs) ≤ c))) ?_ (congrArg AV.bool ?_)) ⟨rfl, rfl⟩
      · walk_at "eva"
      · rw [linSat, le]; rfl

end
section
def Cn.sat (val : Int → Int) : Cn → Bool
  | .lin nm fs xs c => linSat nm fs xs c val
  | .times x y z => val z == val x * val y
  | .ext nm xs z => extSat nm (xs.map val) (val z)
  | .elem a xs z => elemSat (xs.map val) (val a) (val z)
  | .diff xs => ((diffs (xs.map val) : Nat) : Int) == (xs.length : Int)
  | .cnt xs v z => (((xs.map val).count v : Nat) : Int) == val z
  | .nval xs z => ((diffs (xs.map val) : Nat) : Int) == val z
  | .lex xs ys => lexSat (xs.map val) (ys.map val)
/-- a told constraint as a value -/
def Cn.av : Cn → AV
  | .lin nm fs xs c => .tup [.str nm, .tup (fs.map .int), .tup (xs.map .int), .int c]
  | .times x y z => .tup [.str (Str.ofString "times"), .int x, .int y, .int z]
  | .ext nm xs z => .tup [.str nm, .tup (xs.map .int), .int z]
  | .elem p xs z => .tup [.str (Str.ofString "element"), .int p, .tup (xs.map .int), .int z]
  | .diff xs => .tup [.str (Str.ofString "all_different"), .tup (xs.map .int), .str (Str.ofString "values")]
  | .cnt xs k z => .tup [.str (Str.ofString "count"), .tup (xs.map .int), .int k, .int z]
  | .nval xs z => .tup [.str (Str.ofString "nvalue"), .tup (xs.map .int), .int z]
  | .lex xs ys => .tup [.str (Str.ofString "lex_lt"), .tup (xs.map .int), .tup (ys.map .int)]
theorem words_s09_1 : True := by
  (k_with "my txt" => ((with_reducible apply EvA.texts); (focus walk_at "sid"); (focus walk_at "sid"); (focus kernel_rfl!); (focus kernel_rfl!)))
  (k_with "my tsi" => ((with_reducible apply TsA.cmp); (focus walk_at "eva"); (focus walk_at "txt"); (focus exact in_strsV (by kernel_rfl!)); (focus exact rfl)))
  (k_with "my tsF" => walk_at "tsi")
  (k_with "my tsT" => walk_at "tsi")
  trivial
theorem words_s09_2 : True := by
  (k_with "my fna" => first
  | exact linear_A (by with_reducible assumption) (by with_reducible assumption) (by with_reducible assumption) (by with_reducible assumption)
  | exact times_A (by with_reducible assumption) (by with_reducible assumption) (by with_reducible assumption) (by with_reducible assumption)
  | exact max_A (by with_reducible assumption) (by with_reducible assumption) (by with_reducible assumption) (by with_reducible assumption)
  | exact min_A (by with_reducible assumption) (by with_reducible assumption) (by with_reducible assumption) (by with_reducible assumption)
  | exact elem_A (by with_reducible assumption) (by with_reducible assumption) (by with_reducible assumption) (by with_reducible assumption)
  | exact cnt_A (by with_reducible assumption) (by with_reducible assumption) (by with_reducible assumption)
  | exact diff_A (by with_reducible assumption) (by with_reducible assumption)
  | exact nval_A (by with_reducible assumption) (by with_reducible assumption) (by with_reducible assumption)
  | exact lex_A (by with_reducible assumption) (by with_reducible assumption))
  trivial
theorem lin_H {f : Int → Option Int} {val : Int → Int} {nm : Str} {fs xs : List Int} {c : Int} (hf : ∀ x ∈ xs, f x = some (val x)) (hl : fs.length = xs.length) (hb : ∀ f ∈ fs, -2 ≤ f ∧ f ≤ 2)
    (hn : nm = Str.ofString "linear_eq" ∨ nm = Str.ofString "linear_ne" ∨ nm = Str.ofString "linear_le") : FnA 2 80 115 [.tup [.str nm, .tup (fs.map .int), .tup (xs.map .int), .int c], .map f] (.bool (linSat nm fs xs c val)) := by
  w_top off
  have hn' := hn
  rcases hn' with rfl | rfl | rfl <;>
  · walk_at "enterA"
    walk_at "rub"
    walk_at "yes"
    walk_at "ret"
theorem times_H {f : Int → Option Int} {val : Int → Int} {x y z : Int} (hx : f x = some (val x)) (hy : f y = some (val y)) (hz : f z = some (val z)) (hm : IntMulOk (val x) (val y)) :
    FnA 2 80 115 [.tup [.str (Str.ofString "times"), .int x, .int y, .int z], .map f] (.bool (val z == val x * val y)) := by
  w_top off
  walk_at "enterA"
  walk_at "rub"
  walk_at "no"
  walk_at "yes"
  walk_at "ret"
theorem ext_H {f : Int → Option Int} {val : Int → Int} {xs : List Int} {z : Int} {nm : Str} (hf : ∀ x ∈ xs, f x = some (val x)) (hz : f z = some (val z)) (h1 : 1 ≤ xs.length) (h3 : xs.length ≤ 3) (hn : nm = Str.ofString "max" ∨ nm = Str.ofString "min") :
    FnA 2 80 115 [.tup [.str nm, .tup (xs.map .int), .int z], .map f] (.bool (extSat nm (xs.map val) (val z))) := by
  w_top off
  rcases hn with rfl | rfl <;>
  · walk_at "enterA"
    walk_at "rub"
    walk_at "no"
    walk_at "yes"
    walk_at "ret"
theorem elem_H {f : Int → Option Int} {val : Int → Int} {xs : List Int} {q z : Int} (hf : ∀ x ∈ xs, f x = some (val x)) (hq : f q = some (val q)) (hz : f z = some (val z)) (h3 : xs.length ≤ 3) :
    FnA 2 80 115 [.tup [.str (Str.ofString "element"), .int q, .tup (xs.map .int), .int z], .map f] (.bool (elemSat (xs.map val) (val q) (val z))) := by
  w_top off
  walk_at "enterA"
  walk_at "rub"
  walk_at "no"
  walk_at "no"
  walk_at "yes"
  walk_at "ret"
theorem cnt_H {f : Int → Option Int} {val : Int → Int} {xs : List Int} {q z : Int} (hf : ∀ x ∈ xs, f x = some (val x)) (hz : f z = some (val z)) (h3 : xs.length ≤ 3) :
    FnA 2 80 115 [.tup [.str (Str.ofString "count"), .tup (xs.map .int), .int q, .int z], .map f] (.bool ((((xs.map val).count q : Nat) : Int) == val z)) := by
  w_top off
  walk_at "enterA"
  walk_at "rub"
  walk_at "no"
  walk_at "no"
  walk_at "no"
  walk_at "yes"
  walk_at "ret"
theorem diff_H {f : Int → Option Int} {val : Int → Int} {xs : List Int} (hf : ∀ x ∈ xs, f x = some (val x)) (h3 : xs.length ≤ 3) :
    FnA 2 80 115 [.tup [.str (Str.ofString "all_different"), .tup (xs.map .int), .str (Str.ofString "values")], .map f] (.bool (((diffs (xs.map val) : Nat) : Int) == (xs.length : Int))) := by
  w_top off
  walk_at "enterA"
  walk_at "rub"
  walk_at "no"
  walk_at "no"
  walk_at "no"
  walk_at "yes"
  walk_at "ret"
theorem nval_H {f : Int → Option Int} {val : Int → Int} {xs : List Int} {z : Int} (hf : ∀ x ∈ xs, f x = some (val x)) (hz : f z = some (val z)) (h3 : xs.length ≤ 3) :
    FnA 2 80 115 [.tup [.str (Str.ofString "nvalue"), .tup (xs.map .int), .int z], .map f] (.bool (((diffs (xs.map val) : Nat) : Int) == val z)) := by
  w_top off
  walk_at "enterA"
  walk_at "rub"
  walk_at "no"
  walk_at "no"
  walk_at "no"
  walk_at "yes"
  walk_at "ret"
theorem lex_H {f : Int → Option Int} {val : Int → Int} {x1 x2 y1 y2 : Int} (hx : ∀ x ∈ [x1, x2], f x = some (val x)) (hy : ∀ x ∈ [y1, y2], f x = some (val x)) :
    FnA 2 80 115 [.tup [.str (Str.ofString "lex_lt"), .tup ([x1, x2].map .int), .tup ([y1, y2].map .int)], .map f] (.bool (lexSat [val x1, val x2] [val y1, val y2])) := by
  w_top off
  walk_at "enterA"
  walk_at "rub"
  walk_at "no"
  walk_at "no"
  walk_at "no"
  walk_at "no"
  walk_at "no"
  walk_at "yes"
  walk_at "ret"
theorem mul_small {a b : Int} (h : -1 ≤ a ∧ a ≤ 3) : IntMulOk a b := by
  have : a = -1 ∨ a = 0 ∨ a = 1 ∨ a = 2 ∨ a = 3 := by omega
  rcases this with rfl | rfl | rfl | rfl | rfl <;> exact IntMulOk.of_left (by decide)
theorem two_of {xs : List Int} (h : xs.length = 2) : ∃ a b, xs = [a, b] := by
  match xs, h with | [a, b], _ => exact ⟨a, b, rfl⟩
theorem holds_A {t : Cn} {f : Int → Option Int} {val : Int → Int} (hok : t.ok) (hf : ∀ x ∈ t.vars, f x = some (val x)) (hv : ∀ x ∈ t.vars, -1 ≤ val x ∧ val x ≤ 3) : FnA 2 80 115 [t.av, .map f] (.bool (t.sat val)) := by
  cases t with
  | lin nm fs xs c => exact lin_H hf hok.2.1 hok.2.2.2.2 hok.1
  | times x y z => exact times_H (hf x (by simp [Cn.vars])) (hf y (by simp [Cn.vars])) (hf z (by simp [Cn.vars])) (mul_small (hv x (by simp [Cn.vars])))
  | ext nm xs z => exact ext_H (fun x hx => hf x (by simp [Cn.vars, hx])) (hf z (by simp [Cn.vars])) hok.2.1 hok.2.2 hok.1
  | elem q xs z => exact elem_H (fun x hx => hf x (by simp [Cn.vars, hx])) (hf q (by simp [Cn.vars])) (hf z (by simp [Cn.vars])) hok.2
  | diff xs => exact diff_H hf hok.2
  | cnt xs q z => exact cnt_H (fun x hx => hf x (by simp [Cn.vars, hx])) (hf z (by simp [Cn.vars])) hok.2
  | nval xs z => exact nval_H (fun x hx => hf x (by simp [Cn.vars, hx])) (hf z (by simp [Cn.vars])) hok.2
  | lex xs ys =>
    obtain ⟨x1, x2, rfl⟩ := two_of hok.1
    obtain ⟨y1, y2, rfl⟩ := two_of hok.2
    exact lex_H (fun x hx => hf x (List.mem_append_left _ hx)) (fun x hx => hf x (List.mem_append_right _ hx))

end
section
theorem max_in {l : List Int} {z : Int} (h : (l.any fun x => x == z) = true) : decide (l.filter (fun v => decide (z < v)) = []) = extSat (Str.ofString "max") l z := by
  have e : (Str.ofString "max" == Str.ofString "max") = true := by decide
  have hz : z ∈ l := by obtain ⟨x, hx, hq⟩ := List.any_eq_true.mp h; rw [← eq_of_beq hq]; exact hx
  rw [extSat, decide_eq_true hz, Bool.true_and, Bool.eq_iff_iff, decide_eq_true_eq, List.filter_eq_nil_iff, List.all_eq_true]
  simp only [e, if_true, decide_eq_true_eq]
  constructor
  · intro h v hv; have := h v hv; omega
  · intro h v hv; have := h v hv; omega
theorem max_out {l : List Int} {z : Int} (h : (l.any fun x => x == z) = false) : (l.any fun x => x == z) = extSat (Str.ofString "max") l z := by
  have hz : ¬ z ∈ l := fun hz => by rw [List.any_eq_true.mpr ⟨z, hz, by simp⟩] at h; cases h
  rw [extSat, decide_eq_false hz, Bool.false_and]
  exact h
theorem min_in {l : List Int} {z : Int} (h : (l.any fun x => x == z) = true) : decide (l.filter (fun v => decide (v < z)) = []) = extSat (Str.ofString "min") l z := by
  have e : (Str.ofString "min" == Str.ofString "max") = false := by decide
  have hz : z ∈ l := by obtain ⟨x, hx, hq⟩ := List.any_eq_true.mp h; rw [← eq_of_beq hq]; exact hx
  rw [extSat, decide_eq_true hz, Bool.true_and, Bool.eq_iff_iff, decide_eq_true_eq, List.filter_eq_nil_iff, List.all_eq_true]
  simp only [e, Bool.false_eq_true, if_false, decide_eq_true_eq]
  constructor
  · intro h v hv; have := h v hv; omega
  · intro h v hv; have := h v hv; omega
theorem min_out {l : List Int} {z : Int} (h : (l.any fun x => x == z) = false) : (l.any fun x => x == z) = extSat (Str.ofString "min") l z := by
  have hz : ¬ z ∈ l := fun hz => by rw [List.any_eq_true.mpr ⟨z, hz, by simp⟩] at h; cases h
  rw [extSat, decide_eq_false hz, Bool.false_and]
  exact h
theorem words_s10_1 : True := by
  (k_with "my sta" => ((with_reducible show BinA _ _ (subscriptTail _ _) (AV.tup _) (AV.int _) _); exact pt_A (by with_reducible assumption) rfl))
  (k_with "my tsh" => (
  with_reducible apply TsA.cmp
  focus (exact EvA.head (by walk_at "eva") (by walk_at "eva") (Nat.le_of_ble_eq_true rfl) rfl)
  focus walk_at "eva"
  focus (first | exact cmpS_ok (by kernel_rfl!) | exact cmpI_ok (by kernel_rfl!))
  exact rfl))
  (k_with "my noh" => ((with_reducible refine RuB.skip ?_ ?_); (focus walk_at "tsh")))
  (k_with "my pts" => (
  refine RuB.asgK (EvA.eq (EvA.comp (xs := xs) (a := AV.tup (List.map AV.int xs)) (φ := AV.int) (ψ := AV.int ∘ val) ?_ ?_ ?_ ?_ ?_ ?_ ?_) (congrArg AV.lst List.map_map.symm)) ?_ ?_ ?_
  focus walk_at "eva"
  focus exact SrcV.tup
  focus kernel_rfl!
  focus kernel_rfl!
  focus (intro x hx env' σ'; have hx := hp x hx; walk_at "eva")
  focus exact fun _ => rfl
  focus assumption
  focus first | exact rfl | kernel_rfl!
  focus kernel_rfl!))
  (k_with "my evl" => ((with_reducible apply EvA.item); (focus walk_at "eva"); (focus walk_at "eva"); (focus exact lst_A .imm rfl rfl (Nat.le_of_ble_eq_true rfl) rfl rfl)))
  (k_with "my tsd" => (
  with_reducible apply TsA.cmp
  focus walk_at "eva"
  focus walk_at "eva"
  focus exact in_strsV (ss := [Str.ofString "max", Str.ofString "min"]) (by kernel_rfl!)
  exact rfl))
  (k_with "my nod" => ((with_reducible refine RuB.skip ?_ ?_); (focus walk_at "tsd")))
  (k_with "my yesd" => ((with_reducible refine RuB.take ?_ ?_); (focus walk_at "tsd")))
  trivial
theorem times_K {l : List AV} {val : Int → Int} {x y z : Int} (hx : PtOk l val x) (hy : PtOk l val y) (hz : PtOk l val z) (hm : IntMulOk (val x) (val y)) :
    FnA 1 100 417 [.tup [.str (Str.ofString "times"), .int x, .int y, .int z], .tup l] (.bool (val x * val y - val z == 0)) := by
  w_top off
  walk_at "enterA"
  walk_at "rub"
  walk_at "noh"
  walk_at "yes"
  walk_at "ret"
theorem cnt_eq {xs : List Int} {q : Int} : ((((xs.filter (· == q)).map AV.int).length : Nat) : Int) = ((xs.count q : Nat) : Int) := by
  rw [List.length_map, List.count_eq_length_filter]
theorem cnt_K {l : List AV} {val : Int → Int} {xs : List Int} {q z : Int} (hp : ∀ x ∈ xs, PtOk l val x) (hz : PtOk l val z) (hl : xs.length ≤ 1000) :
    FnA 1 100 417 [.tup [.str (Str.ofString "count"), .tup (xs.map .int), .int q, .int z], .tup l] (.bool ((((xs.map val).count q : Nat) : Int) == val z)) := by
  w_top off
  have hl2 : (xs.map val).length ≤ 1000 := by rw [List.length_map]; exact hl
  rw [← cnt_eq]
  walk_at "enterA"
  walk_at "rub"
  walk_at "noh"
  walk_at "no"
  walk_at "no"
  walk_at "pts"
  walk_at "nod"
  walk_at "no"
  refine RuB.take ?_ ?_
  · walk_at "tsT"
  refine RuB.ret ?_ ⟨rfl, rfl⟩
  with_reducible apply EvA.cmp
  · with_reducible apply EvA.callB
    · walk_at "eva"
    · refine ArA.cons (EvA.compIf (xs := xs.map val) (a := .lst ((xs.map val).map AV.int)) (φ := AV.int) (ψ := AV.int) (p := (· == q)) ?_ .lst ?_ ?_ ?_ ?_ (fun _ => rfl) hl2) ArA.nil rfl
      · walk_at "eva"
      · kernel_rfl!
      · kernel_rfl!
      · intro x hx env' σ'
        with_reducible apply TsA.cmp
        · walk_at "eva"
        · walk_at "eva"
        · exact cmpI_ok rfl
        · exact rfl
      · intro x hx hp env' σ'
        walk_at "eva"
    · exact len_lstA .imm (by rw [List.length_map]; exact Nat.le_trans (List.length_filter_le _ _) hl2)
    · exact rfl
  · walk_at "eva"
  · exact cmpI_ok rfl
  · exact rfl
theorem nval_K {l : List AV} {val : Int → Int} {xs : List Int} {z : Int} (hp : ∀ x ∈ xs, PtOk l val x) (hz : PtOk l val z) (hl3 : xs.length ≤ 3) :
    FnA 1 100 417 [.tup [.str (Str.ofString "nvalue"), .tup (xs.map .int), .int z], .tup l] (.bool (((diffs (xs.map val) : Nat) : Int) == val z)) := by
  w_top off
  have hl : xs.length ≤ 1000 := by omega
  walk_at "enterA"
  walk_at "rub"
  walk_at "noh"
  walk_at "no"
  walk_at "no"
  walk_at "pts"
  walk_at "nod"
  walk_at "no"
  walk_at "no"
  refine RuB.take ?_ ?_
  · walk_at "tsT"
  refine RuB.ret ?_ ⟨rfl, rfl⟩
  with_reducible apply EvA.cmp
  · exact EvA.lenSet (ns := xs.map val) (by walk_at "eva") (by walk_at "eva") (by walk_at "eva") rfl (by rw [List.length_map]; omega)
  · walk_at "eva"
  · exact cmpI_ok rfl
  · exact rfl
theorem elem_eq2 {vs : List Int} {a z : Int} : (decide (1 ≤ a ∧ a < ((vs.map AV.int).length : Int) + 1) && (vs.getD (a - 1).toNat 0 == z)) = elemSat vs a z := by
  rw [List.length_map]
  by_cases h : 1 ≤ a ∧ a < (vs.length : Int) + 1
  · rw [← elem_in h.1 (by omega), decide_eq_true h]; rfl
  · rw [decide_eq_false h, Bool.false_and]
    rcases Decidable.not_and_iff_or_not.mp h with h | h
    · simp [elemSat, h]
    · have h2 : ¬ a ≤ (vs.length : Int) := by omega
      simp [elemSat, h2]
theorem elem_K {l : List AV} {val : Int → Int} {xs : List Int} {q z : Int} (hp : ∀ x ∈ xs, PtOk l val x) (hq : PtOk l val q) (hz : PtOk l val z) (hl : xs.length ≤ 1000) :
    FnA 1 100 417 [.tup [.str (Str.ofString "element"), .int q, .tup (xs.map .int), .int z], .tup l] (.bool (elemSat (xs.map val) (val q) (val z))) := by
  w_top off
  have hl2 : (xs.map val).length ≤ 1000 := by rw [List.length_map]; exact hl
  rw [← elem_eq2]
  walk_at "enterA"
  walk_at "rub"
  walk_at "noh"
  walk_at "no"
  walk_at "yes"
  refine RuB.asgT (τ := []) (as := [.int (val q), .lst ((xs.map val).map .int)]) (EvA.tup (ArA.cons (σ₁ := []) ?_ (ArA.cons (EvA.eq (EvA.comp (xs := xs) (a := AV.tup (List.map AV.int xs)) (φ := AV.int) (ψ := AV.int ∘ val) ?_ ?_ ?_ ?_ ?_ ?_ ?_) (congrArg AV.lst List.map_map.symm)) ArA.nil rfl) rfl) (Nat.le_of_ble_eq_true rfl)) rfl ?_ rfl ?_ rfl ?_
  · walk_at "eva"
  · walk_at "eva"
  · exact SrcV.tup
  · kernel_rfl!
  · kernel_rfl!
  · intro x hx env' σ'
    have hx := hp x hx
    walk_at "eva"
  · exact fun _ => rfl
  · exact hl
  · first | exact rfl | kernel_rfl!
  · kernel_rfl!
  dsimp only [bindN]
  refine RuB.ret (EvA.and ?_ fun h => ?_) ⟨rfl, rfl⟩
  · with_reducible apply EvA.cmp
    · walk_at "eva"
    · walk_at "eva"
    · exact in_rngA
    · exact rfl
  · simp only [decide_eq_true_eq, List.length_map] at h
    with_reducible apply EvA.cmp
    · with_reducible apply EvA.item
      · walk_at "eva"
      · walk_at "eva"
      · exact lst_A .imm (p := (val q - 1).toNat) (by omega) (intAt (by rw [List.length_map]; omega)) (len_ok hl2) rfl rfl
    · walk_at "eva"
    · exact cmpI_ok rfl
    · exact rfl
def dupP (vs : List Int) (i : Nat) : Bool := (vs.drop (i + 1)).any (· == vs.getD i 0)
theorem dup_eq {vs : List Int} : decide ((((List.range vs.length).filter (dupP vs)).map fun _ => (1 : Int)) = []) = (((diffs vs : Nat) : Int) == (vs.length : Int)) := by
  have key : ∀ i j, i < j → j < vs.length → (vs.getD i 0 = vs.getD j 0) → dupP vs i = true ∧ (vs.take j).contains (vs.getD j 0) = true := by
    intro i j hij hj e
    have hi : i < vs.length := by omega
    refine ⟨List.any_eq_true.mpr ⟨vs.getD j 0, ?_, by rw [e]; simp⟩, ?_⟩
    · rw [List.mem_drop_iff_getElem]
      exact ⟨j - (i + 1), by omega, by rw [List.getD_eq_getElem?_getD, List.getElem?_eq_getElem hj]; simp; congr 1; omega⟩
    · rw [List.contains_iff_mem, List.mem_take_iff_getElem]
      exact ⟨i, by omega, by rw [← e, List.getD_eq_getElem?_getD, List.getElem?_eq_getElem hi]; rfl⟩
  rw [Bool.eq_iff_iff, decide_eq_true_eq, List.map_eq_nil_iff, List.filter_eq_nil_iff, beq_iff_eq]
  have hl : (((diffs vs : Nat) : Int) = (vs.length : Int)) ↔ ∀ k ∈ List.range vs.length, (!(vs.take k).contains (vs.getD k 0)) = true := by
    rw [diffs, ← List.length_filter_eq_length_iff, List.length_range]
    omega
  rw [hl]
  constructor
  · intro h j hj
    have hj' := List.mem_range.mp hj
    cases hc : (vs.take j).contains (vs.getD j 0) with
    | false => rfl
    | true =>
      rw [List.contains_iff_mem, List.mem_take_iff_getElem] at hc
      obtain ⟨i, hi, e⟩ := hc
      have hi' : i < vs.length := by omega
      have := (key i j (by omega) hj' (by rw [← e, List.getD_eq_getElem?_getD, List.getElem?_eq_getElem hi']; rfl)).1
      exact absurd this (h i (List.mem_range.mpr hi'))
  · intro h i hi hd
    obtain ⟨x, hx, e⟩ := List.any_eq_true.mp hd
    rw [List.mem_drop_iff_getElem] at hx
    obtain ⟨k, hk, ex⟩ := hx
    have hj : i + 1 + k < vs.length := by omega
    have := (key i (i + 1 + k) (by omega) hj (by
      rw [← eq_of_beq e, ← ex, List.getD_eq_getElem?_getD (i := i + 1 + k), List.getElem?_eq_getElem hj]; rfl)).2
    have h2 := h _ (List.mem_range.mpr hj)
    rw [this] at h2
    cases h2
theorem diff_K {l : List AV} {val : Int → Int} {xs : List Int} (hp : ∀ x ∈ xs, PtOk l val x) (hl : xs.length ≤ 1000) :
    FnA 1 100 417 [.tup [.str (Str.ofString "all_different"), .tup (xs.map .int), .str (Str.ofString "values")], .tup l] (.bool (((diffs (xs.map val) : Nat) : Int) == (xs.length : Int))) := by
  w_top off
  have hl2 : (xs.map val).length ≤ 1000 := by rw [List.length_map]; exact hl
  have hlen : ((xs.map val).length : Int) = (xs.length : Int) := by rw [List.length_map]
  rw [← hlen, ← dup_eq]
  walk_at "enterA"
  walk_at "rub"
  walk_at "noh"
  walk_at "no"
  walk_at "no"
  walk_at "pts"
  walk_at "nod"
  refine RuB.take ?_ ?_
  · walk_at "tsT"
  refine RuB.ret (EvA.cmp (σ₁ := []) (a := .lst ((((List.range (xs.map val).length).filter (dupP (xs.map val))).map fun _ => (1 : Int)).map AV.int)) (b := .lst []) ?_ ?_ (eq_lstA (ys := []) (by decide)) rfl) ⟨rfl, rfl⟩
  · refine EvA.eq (EvA.compIf (xs := List.range (xs.map val).length) (φ := fun i => .int (i : Nat)) (ψ := fun _ => .int 1) (p := dupP (xs.map val)) (a := .rng 0 ((((xs.map val).map AV.int).length : Nat) : Int)) ?_ ?_ ?_ ?_ ?_ ?_ (fun _ => rfl) ?_) (congrArg AV.lst (List.map_map (g := AV.int) (f := fun _ => (1 : Int))).symm)
    · walk_at "eva"
    · rw [List.length_map (as := xs.map val)]; exact SrcV.rng0 hl2
    · kernel_rfl!
    · kernel_rfl!
    · intro i hi env' σ'
      have hi' := List.mem_range.mp hi
      refine TsA.cmp (a := .int ((xs.map val).getD i 0)) (b := .lst (((xs.map val).drop (i + 1)).map .int)) ?_ ?_ in_lstA rfl
      · with_reducible apply EvA.item
        · walk_at "eva"
        · walk_at "eva"
        · exact lst_A .imm (p := i) rfl (intAt hi') (len_ok hl2) rfl rfl
      · exact EvA.from (p := i + 1) (k := ((i : Nat) : Int) + 1) (by walk_at "eva") (by walk_at "eva") rfl hi' hl2 rfl
    · intro i hi hp env' σ'
      walk_at "eva"
    · rw [List.length_range]; exact hl2
  · walk_at "eva"
theorem ext_K {l : List AV} {val : Int → Int} {xs : List Int} {z : Int} {nm : Str} (hp : ∀ x ∈ xs, PtOk l val x) (hz : PtOk l val z) (hl : xs.length ≤ 1000) (hn : nm = Str.ofString "max" ∨ nm = Str.ofString "min") :
    FnA 1 100 417 [.tup [.str nm, .tup (xs.map .int), .int z], .tup l] (.bool (extSat nm (xs.map val) (val z))) := by
  w_top off
  have hl2 : (xs.map val).length ≤ 1000 := by rw [List.length_map]; exact hl
  have e : extSat nm (xs.map val) (val z) = ((xs.map val).any (· == val z) && decide ((xs.map val).filter (fun v => if nm == Str.ofString "max" then decide (val z < v) else decide (v < val z)) = [])) := by
    cases h : (xs.map val).any (· == val z) with
    | true => rcases hn with rfl | rfl; exact (max_in h).symm; exact (min_in h).symm
    | false => rcases hn with rfl | rfl; rw [← max_out h, h]; rfl; rw [← min_out h, h]; rfl
  rw [e]
  clear e
  rcases hn with rfl | rfl <;>
  · walk_at "enterA"
    walk_at "rub"
    walk_at "noh"
    walk_at "no"
    walk_at "no"
    walk_at "pts"
    walk_at "yesd"
    refine RuB.ret (EvA.and ?_ fun _ => ?_) ⟨rfl, rfl⟩
    · with_reducible apply EvA.cmp
      · walk_at "eva"
      · walk_at "eva"
      · exact in_lstA
      · exact rfl
    · refine EvA.cmp (σ₁ := []) (b := .lst []) (EvA.compIf (xs := xs.map val) (a := .lst ((xs.map val).map AV.int)) (φ := AV.int) (ψ := AV.int) ?_ .lst ?_ ?_ ?_ ?_ (fun _ => rfl) hl2) ?_ (eq_lstA (ys := []) (by decide)) rfl
      · walk_at "eva"
      · kernel_rfl!
      · kernel_rfl!
      · intro x hx env' σ'
        first
          | (refine TsA.iteT (by walk_at "tso") (TsA.cmp (a := .int x) (b := .int (val z)) ?_ ?_ (cmpI_ok rfl) rfl) <;> walk_at "eva")
          | (refine TsA.iteF (by walk_at "tso") (TsA.cmp (a := .int x) (b := .int (val z)) ?_ ?_ (cmpI_ok rfl) rfl) <;> walk_at "eva")
      · intro x hx hp env' σ'
        walk_at "eva"
      · walk_at "eva"
theorem lex_K {l : List AV} {val : Int → Int} {x1 x2 y1 y2 : Int} (hp : ∀ x ∈ [x1, x2], PtOk l val x) (hp2 : ∀ x ∈ [y1, y2], PtOk l val x) :
    FnA 1 100 417 [.tup [.str (Str.ofString "lex_lt"), .tup ([x1, x2].map .int), .tup ([y1, y2].map .int)], .tup l] (.bool (lexSat [val x1, val x2] [val y1, val y2])) := by
  w_top off
  generalize hxs : [x1, x2] = xs at hp ⊢
  have hl : xs.length ≤ 1000 := by rw [← hxs]; exact Nat.le_of_ble_eq_true rfl
  walk_at "enterA"
  walk_at "rub"
  walk_at "noh"
  walk_at "no"
  walk_at "no"
  walk_at "pts"
  subst hxs
  walk_at "nod"
  walk_at "no"
  walk_at "no"
  walk_at "no"
  refine RuB.asgComp (xs := [y1, y2]) (a := .tup ([y1, y2].map .int)) (φ := AV.int) (ψ := AV.int ∘ val) ?_ .tup ?_ ?_ ?_ (fun _ => rfl) (Nat.le_of_ble_eq_true rfl) ?_ ?_ ?_
  · walk_at "eva"
  · kernel_rfl!
  · kernel_rfl!
  · intro x hx env' σ'
    have hx := hp2 x hx
    walk_at "eva"
  · kernel_rfl!
  · first | exact rfl | kernel_rfl!
  refine RuB.ret (EvA.or (c₁ := decide (val x1 < val y1)) ?_ fun _ => EvA.and (c₁ := val x1 == val y1) ?_ fun _ => ?_) ⟨rfl, rfl⟩
  all_goals
    with_reducible apply EvA.cmp
    · walk_at "evl"
    · walk_at "evl"
    · exact cmpI_ok rfl
    · exact rfl

end
section
def prods (val : Int → Int) (ps : List (Int × Int)) : List Int := ps.map fun p => p.1 * val p.2
theorem prods_dot {val : Int → Int} : ∀ (ps : List (Int × Int)) (a : Int), ps.foldl (fun t p => t + p.1 * val p.2) a = a + (prods val ps).sum
  | [], a => by simp [prods]
  | p :: r, a => by
    have ih := prods_dot (val := val) r (a + p.1 * val p.2)
    simp only [List.foldl_cons, prods, List.map_cons, List.sum_cons] at ih ⊢
    omega
theorem dot_sum {val : Int → Int} {ps : List (Int × Int)} : dotT val ps = (prods val ps).sum := by
  have := prods_dot (val := val) ps 0
  simpa [dotT] using this
theorem lin_eq_end {val : Int → Int} {fs xs : List Int} {c : Int} : ((prods val (fs.zip xs)).sum - c == 0) = linSat (Str.ofString "linear_eq") fs xs c val := by
  have e1 : (Str.ofString "linear_eq" == Str.ofString "linear_le") = false := by decide
  have e2 : (Str.ofString "linear_eq" == Str.ofString "linear_eq") = true := by decide
  rw [linSat, e1, e2, dot_sum]
  simp only [Bool.false_eq_true, if_false]
  rw [Bool.eq_iff_iff]; simp; omega
theorem lin_ne_end {val : Int → Int} {fs xs : List Int} {c : Int} : ((prods val (fs.zip xs)).sum - c != 0) = linSat (Str.ofString "linear_ne") fs xs c val := by
  have e1 : (Str.ofString "linear_ne" == Str.ofString "linear_le") = false := by decide
  have e2 : (Str.ofString "linear_ne" == Str.ofString "linear_eq") = false := by decide
  rw [linSat, e1, e2, dot_sum]
  simp only [Bool.false_eq_true, if_false]
  rw [Bool.eq_iff_iff]; simp; omega
theorem lin_le_end {val : Int → Int} {fs xs : List Int} {c : Int} : decide ((prods val (fs.zip xs)).sum - c ≤ 0) = linSat (Str.ofString "linear_le") fs xs c val := by
  have e1 : (Str.ofString "linear_le" == Str.ofString "linear_le") = true := by decide
  rw [linSat, e1, dot_sum]
  simp only [if_true]
  rw [Bool.eq_iff_iff]; simp; omega
theorem prods_eq {val : Int → Int} {ps : List (Int × Int)} : (ps.filter fun _ => true).map (fun q => AV.int (q.1 * val q.2)) = (prods val ps).map .int := by
  rw [← map_all, prods, List.map_map]; rfl
theorem lin_K {l : List AV} {val : Int → Int} {fs xs : List Int} {nm : Str} {c : Int} (hp : ∀ x ∈ xs, PtOk l val x) (hl3 : xs.length ≤ 3) (hb : ∀ f ∈ fs, -2 ≤ f ∧ f ≤ 2) (hn : nm = Str.ofString "linear_eq" ∨ nm = Str.ofString "linear_ne" ∨ nm = Str.ofString "linear_le") :
    FnA 1 100 417 [.tup [.str nm, .tup (fs.map .int), .tup (xs.map .int), .int c], .tup l] (.bool (linSat nm fs xs c val)) := by
  w_top off
  have hz : (fs.zip xs).length ≤ 1000 := by rw [List.length_zip]; omega
  rcases hn with rfl | rfl | rfl <;> first | rw [← lin_eq_end] | rw [← lin_ne_end] | rw [← lin_le_end]
  all_goals
    walk_at "enterA"
    walk_at "rub"
    refine RuB.take ?_ ?_
    · walk_at "tsh"
    refine RuB.asg (τ := []) (a := .int ((prods val (fs.zip xs)).sum - c)) (EvA.bin (σ₁ := []) (a := .int (prods val (fs.zip xs)).sum) (b := .int c) (EvA.callB (σ₁ := []) (as := [.lst ((prods val (fs.zip xs)).map .int)]) ?_ (ArA.cons (σ₁ := []) (EvA.eq (EvA.compG (st := fun _ => []) (xs := fs.zip xs) (φ := fun q => [.int q.1, .int q.2]) (ψ := fun q => .int (q.1 * val q.2)) (p := fun _ => true) (ct := none) (ns := [Str.ofString "factor", Str.ofString "x"]) (by rw [← zip_its]; exact ItA.zip (by walk_at "eva") (by walk_at "ara") rfl) ?_ ?_ (fun _ _ _ => rfl) ?_ (fun _ _ _ q => by cases q) (fun _ => rfl) hz) (congrArg AV.lst prods_eq)) ArA.nil rfl) sum_lstA rfl) ?_ sub_A) rfl ?_ ?_
    · walk_at "eva"
    · kernel_rfl!
    · kernel_rfl!
    · rintro i ⟨a, x⟩ hx _ env io
      have hx' := List.getElem?_zip_eq_some.mp hx
      have hpx := hp x (List.mem_of_getElem? hx'.2)
      have hm : IntMulOk a (val x) := bnd_mul (hb a (List.mem_of_getElem? hx'.1))
      walk_at "eva"
    · walk_at "eva"
    · kernel_rfl!
    · walk_at "ret"
theorem keeps_A {l : List AV} {t : Cn} {val : Int → Int} (hok : t.ok) (hp : ∀ x ∈ t.vars, PtOk l val x) (hv : ∀ x ∈ t.vars, -1 ≤ val x ∧ val x ≤ 3) : FnA 1 100 417 [t.av, .tup l] (.bool (t.sat val)) := by
  cases t with
  | lin nm fs xs c => exact lin_K hp hok.2.2.2.1 hok.2.2.2.2 hok.1
  | times x y z =>
    have := times_K (hp x (by simp [Cn.vars])) (hp y (by simp [Cn.vars])) (hp z (by simp [Cn.vars])) (mul_small (hv x (by simp [Cn.vars])))
    have e : (val x * val y - val z == 0) = (val z == val x * val y) := by rw [Bool.eq_iff_iff]; simp; omega
    rw [e] at this
    exact this
  | ext nm xs z => exact ext_K (fun x hx => hp x (by simp [Cn.vars, hx])) (hp z (by simp [Cn.vars])) (by have := hok.2.2; omega) hok.1
  | elem q xs z => exact elem_K (fun x hx => hp x (by simp [Cn.vars, hx])) (hp q (by simp [Cn.vars])) (hp z (by simp [Cn.vars])) (by have := hok.2; omega)
  | diff xs => exact diff_K hp (by have := hok.2; omega)
  | cnt xs q z => exact cnt_K (fun x hx => hp x (by simp [Cn.vars, hx])) (hp z (by simp [Cn.vars])) (by have := hok.2; omega)
  | nval xs z => exact nval_K (fun x hx => hp x (by simp [Cn.vars, hx])) (hp z (by simp [Cn.vars])) hok.2
  | lex xs ys =>
    obtain ⟨x1, x2, rfl⟩ := two_of hok.1
    obtain ⟨y1, y2, rfl⟩ := two_of hok.2
    exact lex_K (fun x hx => hp x (List.mem_append_left _ hx)) (fun x hx => hp x (List.mem_append_right _ hx))

end
section
section
variable {n u : Nat} {Γ : Cx n u} {cn : Str} {cs : Scope} {ca : Addr} {ccd : Value} {env : Env} {ρ : Nms} {σ σ₁ σ₂ τ pre post : Sto} {m : Str → Option Value} {mu imm : List (Addr × Obj)} {h h' : Heap} {tk : Nat} {E : Value → Shared → Prop}
  {e : Expr} {a b : AV} {l : List AV} {i j k : Int} {p : Addr} {c c' : CV} {pos px pa ps : Pos} {x y : Str} {rest : List Stmt} {R : AV → Sto → Prop} {F : Nms → Sto → Prop}
theorem mod_A (hb : j ≠ 0) : BinA Γ σ (binaryOp .Mod) (.int i) (.int j) (.int (i.fmod j)) := fun _ _ imm _ _ _ _ _ _ L ra rb k => by
  obtain ⟨t, rfl⟩ := ra.ofInt; obtain ⟨t', rfl⟩ := rb.ofInt; exact PyProof.Rows.mod_int' hb (k _ _ _ imm L (fun _ p => p) (Rel.int _ _))
/-- what stands at a place of the store -/
theorem Led.at (L : Led Γ m (pre ++ (p, c) :: post) mu imm h) : ∃ o, h.get? p = some o ∧ Cont Γ.w (Γ.S imm) p c o := by
  obtain ⟨st, S, N, _⟩ := L.ex
  obtain ⟨s1, s2, rfl, S1, S2⟩ := S.split
  obtain ⟨o, r, rfl, hc, _⟩ := S2.ofCons
  exact ⟨o, (N (p, o) (List.mem_append_left _ (List.mem_append_right _ (.head _)))).1, hc⟩
/-- a place of the store changes -/
theorem Led.set1 (L : Led Γ m (pre ++ (p, c) :: post) mu imm h) {o' : Obj} (k : ∀ b o, b ≠ p → h.get? b = some o → h'.get? b = some o) (ho : h'.get? p = some o') (hc : Cont Γ.w (Γ.S imm) p c' o') : Led Γ m (pre ++ (p, c') :: post) mu imm h' := by
  obtain ⟨st, S, N, nd⟩ := L.ex
  obtain ⟨s1, s2, rfl, S1, S2⟩ := S.split
  obtain ⟨o, r, rfl, _, S3⟩ := S2.ofCons
  have P : ((s1 ++ (p, o) :: r) ++ (mu ++ imm)).Perm ((p, o) :: (s1 ++ r ++ (mu ++ imm))) := by
    rw [List.append_assoc, List.append_assoc]; exact List.perm_middle
  have nd' := (P.map (fun p : Addr × Obj => p.1)).nodup_iff.mp nd
  rw [List.map_cons, List.nodup_cons] at nd'
  have hp := N (p, o) (P.mem_iff.mpr (.head _))
  have old : ∀ q ∈ s1 ++ r ++ (mu ++ imm), h'.get? q.1 = some q.2 ∧ q.1 ≠ Γ.L ∧ Γ.h₀.get? q.1 = none := fun q hq => by
    have z := N q (P.mem_iff.mpr (.tail _ hq))
    exact ⟨k _ _ (fun e => nd'.1 (List.mem_map.mpr ⟨q, hq, e⟩)) z.1, z.2⟩
  refine Led.of (l := (p, o') :: (s1 ++ r ++ (mu ++ imm))) ⟨L.F.ns.at' fun o q => k _ _ (fun e => hp.2.1 e.symm) q, fun b o q => k b o (fun e => by rw [e, hp.2.2] at q; cases q) (L.F.keep b o q), L.F.above⟩ (S1.app (.cons hc S3)) (fun q hq => ?_) ?_ ?_
  · rcases List.mem_cons.mp hq with rfl | hq
    · exact ⟨ho, hp.2⟩
    · exact old q hq
  · rw [List.map_cons, List.nodup_cons]; exact nd'
  · rw [List.append_assoc, List.append_assoc]; exact List.perm_middle.symm
/-- names take the items of a list -/
theorem RuB.asgL {ts : List Expr} {xs : List Str} {tp : Pos} {k' : Nat} (he : EvA Γ (envOfC cn cs Γ.L ca ccd) ρ σ e a τ) (hl : AtL τ a l)
    (hs : swapsWithSole [.Tuple ts k' tp] e pos.line (envOfC cn cs Γ.L ca ccd) = pure false) (hw : swappedStores [.Tuple ts k' tp] e (envOfC cn cs Γ.L ca ccd) = pure none) (hx : tgN ts = some xs) (hc : xs.all (nmSt cs) = true) (hz : l.length = xs.length)
    (hk : RuB Γ cn cs ca ccd (bindN xs l ρ) τ rest R F) : RuB Γ cn cs ca ccd ρ σ (.Assign [.Tuple ts k' tp] e pos :: rest) R F :=
  ⟨fun _ _ _ _ _ _ _ L Y O q f => wpAny_execs_cons (Assign_Tuple (he.run _ _ _ _ _ _ _ L (O.nm Y.are) fun v h₁ tk₁ i₁ L₁ k₁ r₁ => by
    obtain ⟨p, vs, rfl, ht, r⟩ := L₁.lstAt hl r₁
    obtain ⟨g1, g2, g3⟩ := tgN_ok (env := envOfC cn cs Γ.L ca ccd) hx
    obtain ⟨st, S, N, nd⟩ := L₁.ex
    refine kun_list (s := Γ.st h₁ tk₁) L₁.F N ht rfl (by rw [g2, ← hz, r.length]; rfl) g3 fun h₂ F₂ N₂ => ?_
    exact stores_A g1 hc hz ⟨F₂, st, S, N₂, nd⟩ Y (O.mono k₁) r fun h₃ tk₃ m₃ cm₃ mu₃ L₃ Y₃ O₃ => hk.run _ _ _ _ _ _ _ L₃ Y₃ O₃ q (f.mono k₁)) hs hw)⟩
theorem mapSeq_list {f : Array Value → Array Value} {its : Array Value} {n : Nat} : ∃ n', Obj.mapSeq f (listOf its n) = listOf (f its) n' := ⟨_, by simp [Obj.mapSeq]; rfl⟩
theorem RelL.set {S : Kn} {v : Value} (r : Rel S a v) : ∀ {l : List AV} {vs : List Value} {q : Nat}, RelL S l vs → RelL S (l.set q a) (vs.set q v)
  | [], _, _, h => by rw [h.ofNil]; exact .nil
  | _ :: _, _, 0, h => by obtain ⟨w, ws, rfl, h', s⟩ := h.ofCons; exact .cons r s
  | _ :: _, _, q + 1, h => by obtain ⟨w, ws, rfl, h', s⟩ := h.ofCons; exact .cons h' (RelL.set r s)
/-- an item of a list of the store is set -/
theorem RuB.setL {f : Expr} {ie : Expr} {q : Nat} (he : EvA Γ (envOfC cn cs Γ.L ca ccd) ρ σ e a σ₁) (hf : EvA Γ (envOfC cn cs Γ.L ca ccd) ρ σ₁ f (.lit (.ref p)) σ₂) (hi : EvA Γ (envOfC cn cs Γ.L ca ccd) ρ σ₂ ie (.int k) (pre ++ (p, .lst l) :: post))
    (hk : k = (q : Int)) (hq : q < l.length) (hz : l.length ≤ 1000) (hs : swapsWith e (some (.Subscript f ie ps)) pos.line (envOfC cn cs Γ.L ca ccd) = pure false)
    (hb : RuB Γ cn cs ca ccd ρ (pre ++ (p, .lst (l.set q a)) :: post) rest R F) : RuB Γ cn cs ca ccd ρ σ (.Assign [.Subscript f ie ps] e pos :: rest) R F := by
  subst hk
  refine ⟨fun _ _ _ _ _ _ _ L Y O rr ff => wpAny_execs_cons (wpAny_Assign_Subscript (he.run _ _ _ _ _ _ _ L (O.nm Y.are) fun v h₁ tk₁ i₁ L₁ k₁ r₁ => hf.run _ _ _ _ _ _ _ L₁ ((O.nm Y.are).mono k₁) fun w h₂ tk₂ i₂ L₂ k₂ r₂ =>
    hi.run _ _ _ _ _ _ _ L₂ (((O.nm Y.are).mono k₁).mono k₂) fun z h₃ tk₃ i₃ L₃ k₃ r₃ => ?_) hs)⟩
  obtain rfl := r₂.ofLit
  obtain ⟨t, rfl⟩ := r₃.ofInt
  obtain ⟨o, ho, n, vs, rfl, r⟩ := L₃.at
  have hlen := r.length
  have hn : q < vs.toArray.size := by simp; omega
  refine ki_setAt (s := Γ.st h₃ tk₃) ho (Int.natCast_nonneg _) (by omega) (by simp; omega) ?_
  obtain ⟨n', e'⟩ := mapSeq_list (f := (·.setIfInBounds (q : Int).toNat v)) (its := vs.toArray) (n := n)
  have L₄ := L₃.set1 (c' := .lst (l.set q a)) (h' := h₃.update p (Obj.mapSeq (·.setIfInBounds (q : Int).toNat v))) (fun b o hb e => (Heap.SameBut.update ..).extBut b o hb e) (Heap.get?_update_self _ ho (by rw [e']; rfl)) ⟨n', vs.set q v, by rw [e']; congr 1; simp, r.set (r₁.mono (Cx.S_mono fun x hx => k₃ x (k₂ x hx)))⟩
  exact hb.run _ _ _ _ _ _ _ L₄ Y (((O.mono k₁).mono k₂).mono k₃) rr (((ff.mono k₁).mono k₂).mono k₃)
end

end
section
/-- what the deck deals at a place -/
def dv (ns : List Int) (k : Nat) (many : Int) : Int := (if k < ns.length then ns.getD k 0 else (10 * (k : Int) * k + 3 * k + 2 * ns.length + 41).fmod 89).fmod many
abbrev deckS (ns : List Int) (k : Nat) : CV := .lst [.lst (ns.map .int), .int k]
theorem dealt_D {d : Addr} {ns : List Int} {k : Nat} {many : Int} (hm : 0 < many) (hl : ns.length ≤ 63) (hk : k < 1000) :
    FnR 0 37 395 [.lit (.ref d), .int many] [(d, deckS ns k)] (Is (.int (dv ns k many)) [(d, deckS ns (k + 1))]) := by
  w_top off
  have hl2 : (ns.map AV.int).length ≤ 1000 := by rw [List.length_map]; omega
  walk_at "enterA"
  refine RuB.asgL (τ := [(d, deckS ns k)]) (EvA.name rfl) (.sto (i := 0) rfl) rfl rfl rfl (by kernel_rfl!) rfl ?_
  dsimp only [bindN]
  refine RuB.setL (σ₁ := [(d, deckS ns k)]) (σ₂ := [(d, deckS ns k)]) (a := .int ((k + 1 : Nat) : Int)) (p := d) (l := [.lst (ns.map .int), .int k]) (pre := []) (post := []) (q := 1) (k := 1) ?_ ?_ ?_ rfl (Nat.le_of_ble_eq_true rfl) (Nat.le_of_ble_eq_true rfl) rfl ?_
  · exact EvA.eq (a := .int ((k : Int) + 1)) (by walk_at "eva") rfl
  · walk_at "eva"
  · exact EvA.int
  dsimp only [List.nil_append, List.set]
  by_cases h : k < ns.length
  · refine RuB.ret (EvA.bin (σ₁ := [(d, deckS ns (k + 1))]) (a := .int (ns.getD k 0)) (b := .int many) (EvA.iteT (TsA.cmp (a := .int k) (b := .int ((ns.map AV.int).length : Nat)) ?_ ?_ (cmpI_ok (d := true) ?_) rfl) (EvA.item (σ₁ := [(d, deckS ns (k + 1))]) (a := .lst (ns.map .int)) (b := .int k) ?_ ?_ (lst_A .imm (p := k) rfl (intAt h) hl2 rfl rfl))) ?_ (mod_A (by omega))) ⟨?_, rfl⟩
    · walk_at "eva"
    · walk_at "eva"
    · rw [List.length_map]; exact congrArg some (decide_eq_true (by omega))
    · walk_at "eva"
    · walk_at "eva"
    · walk_at "eva"
    · rw [dv, if_pos h]
  · have m1 : IntMulOk 10 (k : Int) := .of_left (by decide)
    have m2 : IntMulOk (10 * (k : Int)) k := .of_right (intBits_le_64 (by omega) (by omega))
    have m3 : IntMulOk 3 (k : Int) := .of_left (by decide)
    have m4 : IntMulOk 2 (((ns.map AV.int).length : Nat) : Int) := .of_left (by decide)
    refine RuB.ret (EvA.bin (σ₁ := [(d, deckS ns (k + 1))]) (a := .int ((10 * (k : Int) * k + 3 * k + 2 * (((ns.map AV.int).length : Nat) : Int) + 41).fmod 89)) (b := .int many) (EvA.iteF (TsA.cmp (a := .int k) (b := .int ((ns.map AV.int).length : Nat)) ?_ ?_ (cmpI_ok (d := false) ?_) rfl) (EvA.bin (σ₁ := [(d, deckS ns (k + 1))]) ?_ ?_ (mod_A (by decide)))) ?_ (mod_A (by omega))) ⟨?_, rfl⟩
    · walk_at "eva"
    · walk_at "eva"
    · rw [List.length_map]; exact congrArg some (decide_eq_false (by omega))
    · walk_at "eva"
    · walk_at "eva"
    · walk_at "eva"
    · rw [dv, if_neg h, List.length_map]

end
section
theorem dv_in {ns : List Int} {k : Nat} {many : Int} (h : 0 < many) : 0 ≤ dv ns k many ∧ dv ns k many < many := ⟨Int.fmod_nonneg_of_pos _ h, Int.fmod_lt_of_pos _ h⟩
def sgns : List Str := [Str.ofString "<=", Str.ofString ">=", Str.ofString "=", Str.ofString "!="]
def litF (ns : List Int) (k : Nat) : AV := .tup [.int (dv ns k 3), .str (sgns.getD (dv ns (k + 1) 4).toNat (Str.ofString "")), .int (dv ns (k + 2) 6 - 1)]
section
variable {n u : Nat} {Γ : Cx n u} {env : Env} {ρ : Nms} {σ σ₀ σ₁ τ τ₁ : Sto} {e : Expr} {a : AV} {px pos : Pos}
/-- a call with the store's head -/
theorem EvA.callQ {f : Str} {F : Addr} {es : List Expr} {as : List AV} {n' u' : Nat} {post : Sto} (hs : FnR n' u' F as σ₁ (Is a τ)) (hf : EvA Γ env ρ σ (.Name f px) (.lit (.ref F)) σ) (ha : ArA Γ env ρ σ (e :: es) as (σ₁ ++ post))
    (hk : ∀ w : World, keepIn (hd.heap_1 w.params) (.ref F) = true) (hp : (e :: es).all noStar = true) (hn : n' + 1 ≤ n) (hu : u' + 3 ≤ u) : EvA Γ env ρ σ (.Call (.Name f px) (e :: es) [] pos) a (τ ++ post) :=
  EvA.callF (pre := []) hf ha hs hk hp hn hu
/-- a call with the whole store -/
theorem EvA.call0 {f : Str} {F : Addr} {es : List Expr} {as : List AV} {n' u' : Nat} (hs : FnR n' u' F as σ₁ (Is a τ)) (hf : EvA Γ env ρ σ (.Name f px) (.lit (.ref F)) σ) (ha : ArA Γ env ρ σ (e :: es) as σ₁)
    (hk : ∀ w : World, keepIn (hd.heap_1 w.params) (.ref F) = true) (hp : (e :: es).all noStar = true) (hn : n' + 1 ≤ n) (hu : u' + 3 ≤ u) : EvA Γ env ρ σ (.Call (.Name f px) (e :: es) [] pos) a τ := by
  have := EvA.callQ (post := []) (px := px) (pos := pos) hs hf (by rw [List.append_nil]; exact ha) hk hp hn hu
  rwa [List.append_nil] at this
end
theorem words_s14_1 : True := by
  (k_with "my deal" => (
  refine EvA.call0 (dealt_D (by decide) (by assumption) (by omega)) ?_ ?_ ?_ rfl ?_ ?_
  focus walk_at "eva"
  focus walk_at "ara"
  focus walk_at "sid"
  focus walk_at "sid"
  focus walk_at "sid"))
  trivial
theorem literal_D {d : Addr} {ns : List Int} {k : Nat} (hl : ns.length ≤ 63) (hk : k < 900) : FnR 1 60 402 [.lit (.ref d)] [(d, deckS ns k)] (Is (litF ns k) [(d, deckS ns (k + 3))]) := by
  w_top off
  have h4 := dv_in (ns := ns) (k := k + 1) (many := 4) (by decide)
  walk_at "enterA"
  refine RuB.ret (EvA.tup (ArA.cons (σ₁ := [(d, deckS ns (k + 1))]) ?_ (ArA.cons (σ₁ := [(d, deckS ns (k + 2))]) (EvA.item (σ₁ := [(d, deckS ns (k + 1))]) (a := .tup (sgns.map .str)) (b := .int (dv ns (k + 1) 4)) ?_ ?_ (tup_A (p := (dv ns (k + 1) 4).toNat) (by omega) ?_ (Nat.le_of_ble_eq_true rfl) rfl)) (ArA.cons (σ₁ := [(d, deckS ns (k + 3))]) (EvA.bin (σ₁ := [(d, deckS ns (k + 3))]) (a := .int (dv ns (k + 2) 6)) (b := .int 1) ?_ ?_ sub_A) ArA.nil rfl) rfl) rfl) (Nat.le_of_ble_eq_true rfl)) ⟨rfl, rfl⟩
  · walk_at "deal"
  · apply EvA.eq
    · walk_at "txt"
    · first | exact rfl | kernel_rfl!
  · walk_at "deal"
  · rw [List.getElem?_map, List.getD_eq_getElem?_getD, List.getElem?_eq_getElem (show (dv ns (k + 1) 4).toNat < sgns.length by show _ < 4; omega)]; rfl
  · walk_at "deal"
  · walk_at "eva"

end
section
section
variable {n u : Nat} {Γ : Cx n u} {cn : Str} {cs : Scope} {ca : Addr} {ccd : Value} {env : Env} {ρ : Nms} {σ σ₁ σ₂ τ : Sto} {m : Str → Option Value} {mu imm : List (Addr × Obj)} {h h' : Heap} {tk : Nat} {E : Value → Shared → Prop}
  {e : Expr} {a b : AV} {l l' : List AV} {i j k : Int} {p d : Addr} {pos px pa ps : Pos} {x y f : Str} {es : List Expr} {ns : List Int} {many : Int}
theorem EvA.eq2 (h : EvA Γ env ρ σ e a τ) (q : a = b) (q2 : τ = σ₂) : EvA Γ env ρ σ e b σ₂ := q ▸ q2 ▸ h
/-- tuples joined -/
theorem catT_A (hz : l.length + l'.length ≤ 1000) : BinA Γ σ (binaryOp .Add) (.tup l) (.tup l') (.tup (l ++ l')) := by
  intro m mu imm h tk E Q v w L ra rb q
  obtain ⟨p, vs, rfl, ht, r⟩ := L.tup ra
  obtain ⟨p', ws, rfl, ht', r'⟩ := L.tup rb
  have h1 := r.length
  have h2 := r'.length
  obtain ⟨st, S, N, nd⟩ := L.ex
  refine add_tuples (s := Γ.st h tk) L.F N ht ht' (fun e => ?_) (fun _ e => ?_) (fun _ _ h' F' N' => ?_) (by rw [sizeLine_eq]; omega)
  · rw [e] at h1
    obtain rfl := List.eq_nil_of_length_eq_zero h1
    exact q _ _ _ imm L (fun _ p => p) rb
  · rw [e] at h2
    obtain rfl := List.eq_nil_of_length_eq_zero h2
    rw [List.append_nil] at q
    exact q _ _ _ imm L (fun _ p => p) ra
  · refine q _ _ _ _ (led_cons S nd F' N' fun p hp e => ?_) up1 (Rel.tup (vs := vs ++ ws) (.inr List.mem_cons_self) rfl rfl rfl ((r.append r').mono (Cx.S_mono up1)))
    have := (N p hp).1
    rw [e, Heap.get?_none_of_le (Nat.le_refl _)] at this
    cases this
theorem max_A2 : StepA Γ σ [.int i, .int j] (fun vs => call (.builtin "max") vs) (.int (if i < j then j else i)) σ := by
  intro m mu imm h tk E Q vs L r q
  obtain ⟨_, _, rfl, r1, r2⟩ := r.two
  obtain ⟨t, rfl⟩ := r1.ofInt
  obtain ⟨t', rfl⟩ := r2.ofInt
  refine max_two_ints (s := Γ.st h tk) rfl fun h' tk' k => ?_
  by_cases c : i < j
  · rw [if_pos (show j > i from c)]; rw [if_pos c] at q
    exact q _ _ _ imm (L.grown k) (fun _ p => p) (Rel.int _ _)
  · rw [if_neg (show ¬ j > i from c)]; rw [if_neg c] at q
    exact q _ _ _ imm (L.grown k) (fun _ p => p) (Rel.int _ _)
theorem min_A2 : StepA Γ σ [.int i, .int j] (fun vs => call (.builtin "min") vs) (.int (if j < i then j else i)) σ := by
  intro m mu imm h tk E Q vs L r q
  obtain ⟨_, _, rfl, r1, r2⟩ := r.two
  obtain ⟨t, rfl⟩ := r1.ofInt
  obtain ⟨t', rfl⟩ := r2.ofInt
  refine min_two_ints (s := Γ.st h tk) rfl fun h' tk' k => ?_
  by_cases c : j < i
  · rw [if_pos c]; rw [if_pos c] at q
    exact q _ _ _ imm (L.grown k) (fun _ p => p) (Rel.int _ _)
  · rw [if_neg c]; rw [if_neg c] at q
    exact q _ _ _ imm (L.grown k) (fun _ p => p) (Rel.int _ _)
/-- a card is dealt -/
theorem EvA.deal {k : Nat} (hf : EvA Γ env ρ σ (.Name f px) (.lit (.ref 395)) σ) (ha : ArA Γ env ρ σ (e :: es) [.lit (.ref d), .int many] ((d, deckS ns k) :: τ)) (hk : k < 1000) (hm : 0 < many) (hl : ns.length ≤ 63)
    (hp : (e :: es).all noStar = true) (hn : 1 ≤ n) (hu : 40 ≤ u) (hw : ∀ w : World, keepIn (hd.heap_1 w.params) (.ref 395) = true) : EvA Γ env ρ σ (.Call (.Name f px) (e :: es) [] pos) (.int (dv ns k many)) ((d, deckS ns (k + 1)) :: τ) :=
  EvA.callQ (post := τ) (dealt_D hm hl hk) hf ha hw hp hn hu
end
theorem words_s15_1 : True := by
  (k_with "my dl" => (
  with_reducible apply EvA.deal
  focus walk_at "eva"
  focus walk_at "ara"
  focus omega
  focus decide
  focus assumption
  focus exact rfl
  focus exact Nat.le_of_ble_eq_true rfl
  focus exact Nat.le_of_ble_eq_true rfl
  focus walk_at "sid"))
  (k_with "my eva" => ((with_reducible show EvA _ (compEnvC _ _ _ _) _ _ (Expr.Name _ _) _ _); (first
      | ((with_reducible apply EvA.globC); (focus walk_at "sid"); (focus kernel_rfl!))
      | ((with_reducible apply EvA.bootC); (focus walk_at "sid"); (focus walk_at "sid"); (focus kernel_rfl!); (focus kernel_rfl!)))))
  (k_with "my sta" => ((with_reducible show StepA _ _ _ (fun vs => call (Value.builtin "min") vs) _ _); exact min_A2))
  (k_with "my sta" => ((with_reducible show StepA _ _ _ (fun vs => call (Value.builtin "max") vs) _ _); exact max_A2))
  (k_with "my sta" => ((with_reducible show BinA _ _ (binaryOp Operator.Add) (AV.tup _) (AV.tup _) _); refine catT_A ?_; (simp only [List.length_append, List.length_cons, List.length_nil, List.length_map]; omega)))
  trivial
/-- what a drawn scope is -/
def scopeF (ns : List Int) (k m : Nat) : List Int := (List.range m).map fun i => dv ns (k + i) 3
theorem scopeF_len {ns : List Int} {k m : Nat} : (scopeF ns k m).length = m := by rw [scopeF, List.length_map, List.length_range]
theorem scope_D {d : Addr} {ns : List Int} {k m : Nat} {z : Int} (hz : z = (m : Int)) (hm : m ≤ 5) (hl : ns.length ≤ 63) (hk : k < 900) : FnR 1 60 407 [.lit (.ref d), .int z] [(d, deckS ns k)] (Is (.tup ((scopeF ns k m).map .int)) [(d, deckS ns (k + m))]) := by
  w_top off
  subst hz
  walk_at "enterA"
  refine RuB.ret (EvA.callT (σ₁ := [(d, deckS ns (k + m))]) (id := "tuple") (as := [.lst ((scopeF ns k m).map .int)]) ?_ (ArA.one (EvA.eq2 (EvA.compG (st := fun i => [(d, deckS ns (k + i))]) (xs := List.range m) (φ := fun i => [.int (i : Nat)]) (ψ := fun i => .int (dv ns (k + i) 3)) (p := fun _ => true) (ct := none) (ns := [Str.ofString "turn"]) (SrcV.to (φ := fun i => .int (i : Nat)) (a := .rng 0 (m : Nat)) ?_ (SrcV.rng0 (by omega))) ?_ ?_ (fun _ _ _ => rfl) ?_ (fun _ _ _ q => by cases q) (fun _ => rfl) (by rw [List.length_range]; omega)) ?_ (by rw [List.length_range])) rfl) (tuple_lstA .imm (by rw [List.length_map, scopeF_len]; omega)) rfl) ⟨rfl, rfl⟩
  · walk_at "eva"
  · walk_at "eva"
  · kernel_rfl!
  · kernel_rfl!
  · intro i x hx _ C io
    obtain rfl : x = i := by
      have := (List.getElem?_eq_some_iff.mp hx).2
      rw [List.getElem_range] at this
      exact this.symm
    have hi : x < m := by
      have := (List.getElem?_eq_some_iff.mp hx).1
      rwa [List.length_range] at this
    show EvA _ _ _ ((d, deckS ns (k + x)) :: io) _ _ ((d, deckS ns (k + x + 1)) :: io)
    walk_at "dl"
  · rw [scopeF, List.map_map, ← map_all]; rfl

end
section
section
variable {n u : Nat} {Γ : Cx n u} {cn : Str} {cs : Scope} {ca : Addr} {ccd : Value} {env : Env} {ρ : Nms} {σ σ₁ σ₂ τ : Sto} {e : Expr} {z : Int} {d : Addr} {pos px : Pos} {f : Str} {es : List Expr} {ns : List Int} {k : Nat}
theorem EvA.scope (hf : EvA Γ env ρ σ (.Name f px) (.lit (.ref 407)) σ) (ha : ArA Γ env ρ σ (e :: es) [.lit (.ref d), .int z] [(d, deckS ns k)]) (hk : k < 900) (h0 : 0 ≤ z) (h5 : z ≤ 5) (hl : ns.length ≤ 63)
    (hp : (e :: es).all noStar = true) (hn : 2 ≤ n) (hu : 63 ≤ u) (hw : ∀ w : World, keepIn (hd.heap_1 w.params) (.ref 407) = true) : EvA Γ env ρ σ (.Call (.Name f px) (e :: es) [] pos) (.tup ((scopeF ns k z.toNat).map .int)) [(d, deckS ns (k + z.toNat))] :=
  EvA.call0 (scope_D (m := z.toNat) (by omega) (by omega) hl hk) hf ha hw hp hn hu
end
theorem words_s16_1 : True := by
  (k_with "my eva" => ((with_reducible show EvA _ _ _ _ (Expr.Call (Expr.Name (Str.ofString "_law_dealt") _) _ _ _) _ _); walk_at "dl"))
  (k_with "my eva" => (
  (with_reducible show EvA _ _ _ _ (Expr.Call (Expr.Name (Str.ofString "_law_scope") _) _ _ _) _ _)
  with_reducible apply EvA.scope
  focus walk_at "eva"
  focus walk_at "ara"
  focus omega
  focus omega
  focus omega
  focus assumption
  focus exact rfl
  focus exact Nat.le_of_ble_eq_true rfl
  focus exact Nat.le_of_ble_eq_true rfl
  focus walk_at "sid"))
  (k_with "my cmo" => first
  | exact congrArg some (decide_eq_true (by omega))
  | exact congrArg some (decide_eq_false (by omega))
  | exact congrArg some (beq_iff_eq.mpr (by omega))
  | exact congrArg some (beq_eq_false_iff_ne.mpr (by omega)))
  (k_with "my tsm" => ((with_reducible apply TsA.cmp); (focus walk_at "eva"); (focus walk_at "eva"); (focus (refine cmpI_ok ?_; walk_at "cmo")); (focus exact rfl)))
  (k_with "my nom" => ((with_reducible refine RuB.skip ?_ ?_); (focus walk_at "tsm")))
  (k_with "my yem" => ((with_reducible refine RuB.take ?_ ?_); (focus walk_at "tsm")))
  trivial
/-- a told constraint with its scope -/
def ToldR (ns : List Int) (d : Addr) (k : Nat) (a : AV) (τ : Sto) : Prop :=
  ∃ (t : Cn) (ss : List Int) (k' : Nat), a = .tup [t.av, .tup (ss.map .int)] ∧ τ = [(d, deckS ns k')] ∧ t.ok ∧ (∀ x ∈ t.vars, x ∈ ss) ∧ (∀ x ∈ ss, 0 ≤ x ∧ x < 3) ∧ ss ≠ [] ∧ k ≤ k' ∧ k' ≤ k + 20
theorem scopeF_in {ns : List Int} {k m : Nat} : ∀ x ∈ scopeF ns k m, 0 ≤ x ∧ x < 3 := by
  intro x hx
  obtain ⟨i, _, rfl⟩ := List.mem_map.mp hx
  exact dv_in (by decide)
def factF (ns : List Int) (k m : Nat) : List Int := (List.range m).map fun i => dv ns (k + i) 5 - 2
def linN : List Str := [Str.ofString "linear_eq", Str.ofString "linear_ne", Str.ofString "linear_le"]
def extN : List Str := [Str.ofString "max", Str.ofString "min"]
theorem strAt {l : List Str} {i : Nat} (h : i < l.length) : (l.map AV.str)[i]? = some (.str (l.getD i (Str.ofString ""))) := by
  rw [List.getElem?_map, List.getD_eq_getElem?_getD, List.getElem?_eq_getElem h]; rfl
theorem scope_src {ns : List Int} {k m : Nat} : SrcV (.tup ((scopeF ns k m).map .int)) ((List.range m).map fun i => .int (dv ns (k + i) 3)) := by
  rw [scopeF, List.map_map]; exact .tup
theorem told_end {ns : List Int} {d : Addr} {k k' : Nat} {t : Cn} {ss : List Int} {a : AV} (ha : a = .tup [t.av, .tup (ss.map .int)]) (h1 : t.ok) (h2 : ∀ x ∈ t.vars, x ∈ ss) (h3 : ∀ x ∈ ss, 0 ≤ x ∧ x < 3) (h4 : ss ≠ []) (h5 : k ≤ k') (h6 : k' ≤ k + 20) : ToldR ns d k a [(d, deckS ns k')] :=
  ⟨t, ss, k', ha, rfl, h1, h2, h3, h4, h5, h6⟩
theorem scopeF_ne {ns : List Int} {k m : Nat} (h : 0 < m) : scopeF ns k m ≠ [] := fun e => by
  have := scopeF_len (ns := ns) (k := k) (m := m)
  rw [e] at this
  simp at this; omega
theorem linN_in {i : Nat} (h : i < 3) : linN.getD i (Str.ofString "") = Str.ofString "linear_eq" ∨ linN.getD i (Str.ofString "") = Str.ofString "linear_ne" ∨ linN.getD i (Str.ofString "") = Str.ofString "linear_le" := by
  have : i = 0 ∨ i = 1 ∨ i = 2 := by omega
  rcases this with rfl | rfl | rfl
  · exact .inl rfl
  · exact .inr (.inl rfl)
  · exact .inr (.inr rfl)
theorem extN_in {i : Nat} (h : i < 2) : extN.getD i (Str.ofString "") = Str.ofString "max" ∨ extN.getD i (Str.ofString "") = Str.ofString "min" := by
  have : i = 0 ∨ i = 1 := by omega
  rcases this with rfl | rfl
  · exact .inl rfl
  · exact .inr rfl
theorem factF_in {ns : List Int} {k m : Nat} : ∀ x ∈ factF ns k m, -2 ≤ x ∧ x ≤ 2 := by
  intro x hx
  obtain ⟨i, _, rfl⟩ := List.mem_map.mp hx
  have := dv_in (ns := ns) (k := k + i) (many := 5) (by decide)
  omega
theorem app_in {xs : List Int} {z : Int} (h : ∀ x ∈ xs, 0 ≤ x ∧ x < 3) (hz : 0 ≤ z ∧ z < 3) : ∀ x ∈ xs ++ [z], 0 ≤ x ∧ x < 3 := fun x hx =>
  (List.mem_append.mp hx).elim (h x) fun q => by rw [List.mem_singleton.mp q]; exact hz
theorem app_ne {xs : List Int} {z : Int} : xs ++ [z] ≠ [] := by simp
theorem map_snoc {xs : List Int} {z : Int} : xs.map AV.int ++ [.int z] = (xs ++ [z]).map .int := by rw [List.map_append]; rfl
theorem words_s16_2 : True := by
  (k_with "my sta" => ((with_reducible show BinA _ _ (binaryOp Operator.Add) (AV.tup _) (AV.tup _) _); refine catT_A ?_; (simp only [List.length_append, List.length_cons, List.length_nil, List.length_map, List.length_take, scopeF_len]; omega)))
  trivial
theorem words_s16_3 : True := by
  (k_with "my eva" => ((with_reducible show EvA _ _ _ _ (Expr.Subscript (Expr.Name _ _) (Expr.Slice none _ none _) _) _ _); exact EvA.uptoI (p := 2) (k := 2) (by walk_at "eva") (by walk_at "eva") rfl (by rw [scopeF_len]; omega) (by rw [scopeF_len]; omega) rfl))
  trivial
theorem tupStr_A {n u : Nat} {Γ : Cx n u} {σ : Sto} {value slice : Expr} {ss : List Str} {i : Int} (h0 : 0 ≤ i) (h : i < (ss.length : Int)) (hz : ss.length ≤ 1000) (hs : plainSlice slice = true) : BinA Γ σ (subscriptTail value slice) (.tup (ss.map .str)) (.int i) (.str (ss.getD i.toNat (Str.ofString ""))) :=
  tup_A (p := i.toNat) (by omega) (strAt (by omega)) (len_ok hz) hs
theorem words_s16_4 : True := by
  (k_with "my sta" => ((with_reducible show BinA _ _ (subscriptTail _ _) (AV.tup (AV.str _ :: _)) (AV.int _) _); first
  | exact tupStr_A (ss := linN) (by omega) (by show _ < (3 : Int); omega) (Nat.le_of_ble_eq_true rfl) rfl
  | exact tupStr_A (ss := extN) (by omega) (by show _ < (2 : Int); omega) (Nat.le_of_ble_eq_true rfl) rfl))
  trivial
theorem told_D {d : Addr} {ns : List Int} {k : Nat} (hl : ns.length ≤ 63) (hk : k < 800) : FnR 2 100 412 [.lit (.ref d)] [(d, deckS ns k)] (ToldR ns d k) := by
  w_top off
  have h1 := dv_in (ns := ns) (k := k) (many := 10) (by decide)
  have h2 := dv_in (ns := ns) (k := k + 1) (many := 3) (by decide)
  walk_at "enterA"
  walk_at "rub"
  by_cases c1 : dv ns k 10 < 3
  · walk_at "yem"
    walk_at "rub"
    obtain ⟨m, hm⟩ : ∃ m, m = (1 + dv ns (k + 1) 3).toNat := ⟨_, rfl⟩
    rw [← hm]
    refine RuB.asg (a := .tup ((factF ns (k + 1 + 1 + m) m).map .int)) (τ := [(d, deckS ns (k + 1 + 1 + m + m))]) (EvA.callT (σ₁ := [(d, deckS ns (k + 1 + 1 + m + m))]) (id := "tuple") (as := [.lst ((factF ns (k + 1 + 1 + m) m).map .int)]) ?_ (ArA.one (EvA.eq2 (EvA.compG (st := fun i => [(d, deckS ns (k + 1 + 1 + m + i))]) (xs := List.range m) (φ := fun i => [.int (dv ns (k + 1 + 1 + i) 3)]) (ψ := fun i => .int (dv ns (k + 1 + 1 + m + i) 5 - 2)) (p := fun _ => true) (ct := none) (ns := [Str.ofString "x"]) (SrcV.to (φ := fun i => .int (dv ns (k + 1 + 1 + i) 3)) (a := .tup ((scopeF ns (k + 1 + 1) m).map .int)) ?_ scope_src) ?_ ?_ (fun _ _ _ => rfl) ?_ (fun _ _ _ q => by cases q) (fun _ => rfl) (by rw [List.length_range]; omega)) ?_ (by rw [List.length_range])) rfl) (tuple_lstA .imm (by rw [List.length_map, factF, List.length_map, List.length_range]; omega)) rfl) rfl ?_ ?_
    · walk_at "eva"
    · walk_at "eva"
    · kernel_rfl!
    · kernel_rfl!
    · intro i x hx _ C io
      obtain rfl : x = i := by
        have := (List.getElem?_eq_some_iff.mp hx).2
        rw [List.getElem_range] at this
        exact this.symm
      have hi : x < m := by
        have := (List.getElem?_eq_some_iff.mp hx).1
        rwa [List.length_range] at this
      show EvA _ _ _ ((d, deckS ns (k + 1 + 1 + m + x)) :: io) _ _ ((d, deckS ns (k + 1 + 1 + m + x + 1)) :: io)
      walk_at "eva"
    · rw [factF, List.map_map, ← map_all]; rfl
    · kernel_rfl!
    refine' RuB.ret ?he ?hR
    case he => walk_at "eva"
    case hR =>
      refine told_end (t := .lin _ (factF ns (k + 1 + 1 + m) m) (scopeF ns (k + 1 + 1) m) _) (ss := scopeF ns (k + 1 + 1) m) rfl ⟨linN_in (by omega), ?_, ?_, ?_, factF_in⟩ (fun _ h => h) scopeF_in (scopeF_ne (by omega)) ?_ ?_
      · rw [scopeF_len, factF, List.length_map, List.length_range]
      · rw [scopeF_len]; omega
      · rw [scopeF_len]; omega
      · omega
      · omega
  walk_at "nom"
  by_cases c2 : dv ns k 10 = 3
  · walk_at "yem"
    walk_at "rub"
    refine' RuB.ret ?he ?hR
    case he => walk_at "eva"
    case hR =>
      refine told_end (t := .times (dv ns (k + 1) 3) (dv ns (k + 1 + 1) 3) (dv ns (k + 1 + 2) 3)) (ss := scopeF ns (k + 1) 3) rfl trivial (fun _ h => h) scopeF_in (scopeF_ne (by decide)) ?_ ?_
      · show k ≤ k + 1 + 3; omega
      · show k + 1 + 3 ≤ k + 20; omega
  walk_at "nom"
  by_cases c3 : dv ns k 10 < 6
  · walk_at "yem"
    walk_at "rub"
    refine' RuB.ret ?he ?hR
    case he => walk_at "eva"
    case hR =>
      refine told_end (t := .ext _ (scopeF ns (k + 1 + 1) (1 + dv ns (k + 1) 3).toNat) _) (ss := scopeF ns (k + 1 + 1) (1 + dv ns (k + 1) 3).toNat ++ [_]) (by rw [← map_snoc]; rfl) ⟨extN_in (by omega), ?_, ?_⟩ (fun _ h => h) (app_in scopeF_in (dv_in (by decide))) app_ne ?_ ?_
      · rw [scopeF_len]; omega
      · rw [scopeF_len]; omega
      · omega
      · omega
  walk_at "nom"
  by_cases c4 : dv ns k 10 = 6
  · have h3 := dv_in (ns := ns) (k := k + 1 + 1) (many := 3) (by decide)
    walk_at "yem"
    walk_at "rub"
    refine' RuB.ret ?he ?hR
    case he => walk_at "eva"
    case hR =>
      refine told_end (t := .elem _ (scopeF ns (k + 1 + 1 + 1) (1 + dv ns (k + 1 + 1) 3).toNat) _) (ss := _ :: (scopeF ns (k + 1 + 1 + 1) (1 + dv ns (k + 1 + 1) 3).toNat ++ [_])) (by rw [List.map_cons, ← map_snoc]; rfl) ⟨?_, ?_⟩ (fun _ h => h) (List.forall_mem_cons.mpr ⟨dv_in (by decide), app_in scopeF_in (dv_in (by decide))⟩) (List.cons_ne_nil _ _) ?_ ?_
      · rw [scopeF_len]; omega
      · rw [scopeF_len]; omega
      · omega
      · omega
  walk_at "nom"
  have h4 := dv_in (ns := ns) (k := k + 1) (many := 2) (by decide)
  walk_at "rub"
  by_cases c5 : dv ns k 10 = 7
  · walk_at "yem"
    refine' RuB.ret ?he ?hR
    case he => walk_at "eva"
    case hR =>
      refine told_end (t := .diff (scopeF ns (k + 1 + 1) (2 + dv ns (k + 1) 2).toNat)) (ss := scopeF ns (k + 1 + 1) (2 + dv ns (k + 1) 2).toNat) rfl ⟨?_, ?_⟩ (fun _ h => h) scopeF_in (scopeF_ne (by omega)) ?_ ?_
      · rw [scopeF_len]; omega
      · rw [scopeF_len]; omega
      · omega
      · omega
  walk_at "nom"
  walk_at "rub"
  by_cases c6 : dv ns k 10 = 8
  · walk_at "yem"
    refine' RuB.ret ?he ?hR
    case he => walk_at "eva"
    case hR =>
      refine told_end (t := .cnt (scopeF ns (k + 1 + 1) (2 + dv ns (k + 1) 2).toNat) _ _) (ss := scopeF ns (k + 1 + 1) (2 + dv ns (k + 1) 2).toNat ++ [_]) (by rw [← map_snoc]; rfl) ⟨?_, ?_⟩ (fun _ h => h) (app_in scopeF_in (dv_in (by decide))) app_ne ?_ ?_
      · rw [scopeF_len]; omega
      · rw [scopeF_len]; omega
      · omega
      · omega
  walk_at "nom"
  walk_at "rub"
  by_cases c7 : 0 < dv ns (k + 1 + 1 + (2 + dv ns (k + 1) 2).toNat) 3
  · refine' RuB.ret ?he ?hR
    case he =>
      refine' EvA.iteT ?te ?va
      case te => walk_at "tsm"
      case va => walk_at "eva"
    case hR =>
      refine told_end (t := .nval (scopeF ns (k + 1 + 1) (2 + dv ns (k + 1) 2).toNat) _) (ss := scopeF ns (k + 1 + 1) (2 + dv ns (k + 1) 2).toNat ++ [_]) (by rw [← map_snoc]; rfl) ⟨?_, ?_⟩ (fun _ h => h) (app_in scopeF_in (dv_in (by decide))) app_ne ?_ ?_
      · rw [scopeF_len]; omega
      · rw [scopeF_len]; omega
      · show k ≤ k + 1 + 1 + (2 + dv ns (k + 1) 2).toNat + 1 + 2; omega
      · show k + 1 + 1 + (2 + dv ns (k + 1) 2).toNat + 1 + 2 ≤ k + 20; omega
  · refine' RuB.ret ?he ?hR
    case he =>
      refine' EvA.iteF ?te ?va
      case te => walk_at "tsm"
      case va => walk_at "eva"
    case hR =>
      refine told_end (t := .lex ((scopeF ns (k + 1 + 1) (2 + dv ns (k + 1) 2).toNat).take 2) (scopeF ns (k + 1 + 1 + (2 + dv ns (k + 1) 2).toNat + 1) 2)) (ss := (scopeF ns (k + 1 + 1) (2 + dv ns (k + 1) 2).toNat).take 2 ++ scopeF ns (k + 1 + 1 + (2 + dv ns (k + 1) 2).toNat + 1) 2) (by rw [List.map_append]; rfl) ⟨?_, ?_⟩ (fun _ h => h) (fun x hx => (List.mem_append.mp hx).elim (fun q => scopeF_in x (List.mem_of_mem_take q)) (scopeF_in x)) ?_ ?_ ?_
      · rw [List.length_take, scopeF_len]; omega
      · rw [scopeF_len]
      · intro e
        have := congrArg List.length e
        rw [List.length_append, scopeF_len] at this
        simp at this
      · show k ≤ k + 1 + 1 + (2 + dv ns (k + 1) 2).toNat + 1 + 2; omega
      · show k + 1 + 1 + (2 + dv ns (k + 1) 2).toNat + 1 + 2 ≤ k + 20; omega

end
section
abbrev Dom := List (Int × Int)
section
variable {prog : Program} {w : World} {A : Around} {E : Value → Shared → Prop} {s : Shared} {h₀ : Heap} {L : Addr} {m : Str → Option Value} {env : Env}
open LCg
end
def upTo (d : Dom) (k : Int) : Dom := d.filterMap fun p => if p.1 ≤ k then some (p.1, if k < p.2 then k else p.2) else none
def fromOn (d : Dom) (k : Int) : Dom := d.filterMap fun p => if k ≤ p.2 then some (if p.1 < k then k else p.1, p.2) else none
def withoutD (d : Dom) (v : Int) : Dom := upTo d (v - 1) ++ fromOn d (v + 1)
def meet1 (k : Int) : Dom → Dom
  | [] => []
  | (x, y) :: r => (if (if x < k then k else x) ≤ (if k < y then k else y) then [(if x < k then k else x, if k < y then k else y)] else []) ++ (if y < k then meet1 k r else [])
theorem meet1_len (k : Int) : ∀ d : Dom, (meet1 k d).length ≤ d.length
  | [] => Nat.le_refl _
  | (x, y) :: r => by
    have := meet1_len k r
    have h1 : ∀ (c : Prop) [Decidable c] (p : Int × Int), (if c then [p] else []).length ≤ 1 := by intro c _ p; split <;> simp
    have h2 : (if y < k then meet1 k r else []).length ≤ r.length := by split <;> first | exact this | exact Nat.zero_le _
    have h3 := h1 ((if x < k then k else x) ≤ (if k < y then k else y)) (if x < k then k else x, if k < y then k else y)
    unfold meet1
    rw [List.length_append, List.length_cons]
    omega
inductive Sgn where
  | le | ge | eq | ne
def Sgn.str : Sgn → Str
  | .le => Str.ofString "<="
  | .ge => Str.ofString ">="
  | .eq => Str.ofString "="
  | .ne => Str.ofString "!="
def struckD (g : Sgn) (k : Int) (d : Dom) : Dom := match g with
  | .le => upTo d k
  | .ge => fromOn d k
  | .eq => meet1 k d
  | .ne => withoutD d k
/-- whole numbers from a to b -/
def rng (a b : Int) : List Int := (List.range (b + 1 - a).toNat).map fun (i : Nat) => a + (i : Int)
def vals (d : Dom) : List Int := d.flatMap fun p => rng p.1 p.2
theorem rng_len {a b : Int} : (rng a b).length = (b + 1 - a).toNat := by simp [rng]
theorem vals_len {d : Dom} (hb : ∀ p ∈ d, -10 ≤ p.1 ∧ p.2 ≤ 10) : (vals d).length ≤ 21 * d.length := by
  induction d with
  | nil => simp [vals]
  | cons p d ih =>
    have h1 := hb p (by simp)
    have h2 := ih fun q hq => hb q (by simp [hq])
    have h3 : vals (p :: d) = rng p.1 p.2 ++ vals d := by simp [vals]
    rw [h3, List.length_append, rng_len, List.length_cons]
    omega
/-- rising pairs, each within -1 to 3 -/
def DomOk (d : Dom) : Prop := d.Pairwise (fun p q => p.2 < q.1) ∧ ∀ p ∈ d, -1 ≤ p.1 ∧ p.1 ≤ p.2 ∧ p.2 ≤ 3
theorem dom_len_aux : ∀ (d : Dom) (lo : Int), d.Pairwise (fun p q => p.2 < q.1) → (∀ p ∈ d, lo ≤ p.1 ∧ p.1 ≤ p.2 ∧ p.2 ≤ 3) → d.length ≤ (4 - lo).toNat
  | [], _, _, _ => Nat.zero_le _
  | (x, y) :: r, lo, h, hb => by
    have h0 := hb (x, y) (by simp)
    rw [List.pairwise_cons] at h
    have ih := dom_len_aux r (y + 1) h.2 fun q hq => by
      have h1 := hb q (by simp [hq])
      have h2 := h.1 q hq
      dsimp only at h2
      exact ⟨by omega, h1.2⟩
    rw [List.length_cons]
    dsimp only at h0
    omega
theorem DomOk.len {d : Dom} (h : DomOk d) : d.length ≤ 5 := dom_len_aux d (-1) h.1 h.2
theorem DomOk.nil : DomOk [] := ⟨.nil, by simp⟩
theorem mem_rng {a b v : Int} : v ∈ rng a b ↔ a ≤ v ∧ v ≤ b := by
  simp only [rng, List.mem_map, List.mem_range]
  constructor
  · rintro ⟨i, hi, rfl⟩; omega
  · intro h; exact ⟨(v - a).toNat, by omega, by omega⟩
theorem mem_vals {d : Dom} {v : Int} : v ∈ vals d ↔ ∃ p ∈ d, p.1 ≤ v ∧ v ≤ p.2 := by
  simp only [vals, List.mem_flatMap, mem_rng]
theorem mem_upTo {d : Dom} {k : Int} {p : Int × Int} : p ∈ upTo d k ↔ ∃ q ∈ d, q.1 ≤ k ∧ p = (q.1, if k < q.2 then k else q.2) := by
  simp only [upTo, List.mem_filterMap]
  constructor
  · rintro ⟨q, hq, e⟩
    by_cases h : q.1 ≤ k
    · rw [if_pos h] at e; exact ⟨q, hq, h, (Option.some.inj e).symm⟩
    · rw [if_neg h] at e; cases e
  · rintro ⟨q, hq, h, rfl⟩; exact ⟨q, hq, by rw [if_pos h]⟩
theorem mem_fromOn {d : Dom} {k : Int} {p : Int × Int} : p ∈ fromOn d k ↔ ∃ q ∈ d, k ≤ q.2 ∧ p = (if q.1 < k then k else q.1, q.2) := by
  simp only [fromOn, List.mem_filterMap]
  constructor
  · rintro ⟨q, hq, e⟩
    by_cases h : k ≤ q.2
    · rw [if_pos h] at e; exact ⟨q, hq, h, (Option.some.inj e).symm⟩
    · rw [if_neg h] at e; cases e
  · rintro ⟨q, hq, h, rfl⟩; exact ⟨q, hq, by rw [if_pos h]⟩
theorem vals_upTo {d : Dom} {k v : Int} : v ∈ vals (upTo d k) ↔ v ∈ vals d ∧ v ≤ k := by
  rw [mem_vals, mem_vals]
  constructor
  · rintro ⟨p, hp, h⟩
    obtain ⟨q, hq, hk, rfl⟩ := mem_upTo.mp hp
    dsimp only at h
    split at h
    · exact ⟨⟨q, hq, by omega⟩, by omega⟩
    · exact ⟨⟨q, hq, by omega⟩, by omega⟩
  · rintro ⟨⟨q, hq, h⟩, hk⟩
    refine ⟨_, mem_upTo.mpr ⟨q, hq, by omega, rfl⟩, h.1, ?_⟩
    dsimp only; split <;> omega
theorem vals_fromOn {d : Dom} {k v : Int} : v ∈ vals (fromOn d k) ↔ v ∈ vals d ∧ k ≤ v := by
  rw [mem_vals, mem_vals]
  constructor
  · rintro ⟨p, hp, h⟩
    obtain ⟨q, hq, hk, rfl⟩ := mem_fromOn.mp hp
    dsimp only at h
    split at h
    · exact ⟨⟨q, hq, by omega⟩, by omega⟩
    · exact ⟨⟨q, hq, by omega⟩, by omega⟩
  · rintro ⟨⟨q, hq, h⟩, hk⟩
    refine ⟨_, mem_fromOn.mpr ⟨q, hq, by omega, rfl⟩, ?_, h.2⟩
    dsimp only; split <;> omega
theorem vals_append {d e : Dom} {v : Int} : v ∈ vals (d ++ e) ↔ v ∈ vals d ∨ v ∈ vals e := by
  simp [vals]
theorem vals_without {d : Dom} {k v : Int} : v ∈ vals (withoutD d k) ↔ v ∈ vals d ∧ v ≠ k := by
  rw [withoutD, vals_append, vals_upTo, vals_fromOn]
  constructor
  · rintro (⟨h, q⟩ | ⟨h, q⟩) <;> exact ⟨h, by omega⟩
  · rintro ⟨h, q⟩
    by_cases hk : v < k
    · exact .inl ⟨h, by omega⟩
    · exact .inr ⟨h, by omega⟩
theorem upTo_ok {d : Dom} {k : Int} (h : DomOk d) : DomOk (upTo d k) := by
  refine ⟨?_, fun p hp => ?_⟩
  · rw [upTo, List.pairwise_filterMap]
    refine h.1.imp fun {p q} hpq b hb c hc => ?_
    have e1 : p.1 ≤ k := by by_cases e : p.1 ≤ k; exact e; rw [if_neg e] at hb; cases hb
    have e2 : q.1 ≤ k := by by_cases e : q.1 ≤ k; exact e; rw [if_neg e] at hc; cases hc
    rw [if_pos e1] at hb; rw [if_pos e2] at hc
    cases hb; cases hc
    dsimp only; split <;> omega
  · obtain ⟨q, hq, hk, rfl⟩ := mem_upTo.mp hp
    have := h.2 q hq
    dsimp only; split <;> omega
theorem fromOn_ok {d : Dom} {k : Int} (h : DomOk d) : DomOk (fromOn d k) := by
  refine ⟨?_, fun p hp => ?_⟩
  · rw [fromOn, List.pairwise_filterMap]
    refine h.1.imp fun {p q} hpq b hb c hc => ?_
    have e1 : k ≤ p.2 := by by_cases e : k ≤ p.2; exact e; rw [if_neg e] at hb; cases hb
    have e2 : k ≤ q.2 := by by_cases e : k ≤ q.2; exact e; rw [if_neg e] at hc; cases hc
    rw [if_pos e1] at hb; rw [if_pos e2] at hc
    cases hb; cases hc
    dsimp only; split <;> omega
  · obtain ⟨q, hq, hk, rfl⟩ := mem_fromOn.mp hp
    have := h.2 q hq
    dsimp only; split <;> omega
theorem without_ok {d : Dom} {k : Int} (h : DomOk d) : DomOk (withoutD d k) := by
  have h1 := upTo_ok (k := k - 1) h
  have h2 := fromOn_ok (k := k + 1) h
  refine ⟨?_, fun p hp => ?_⟩
  · rw [withoutD, List.pairwise_append]
    refine ⟨h1.1, h2.1, fun p hp q hq => ?_⟩
    obtain ⟨p', hp', hk, rfl⟩ := mem_upTo.mp hp
    obtain ⟨q', hq', hk', rfl⟩ := mem_fromOn.mp hq
    dsimp only; split <;> split <;> omega
  · rcases List.mem_append.mp hp with hp | hp
    · exact h1.2 p hp
    · exact h2.2 p hp
theorem meet1_is {k : Int} : ∀ {d : Dom}, DomOk d → meet1 k d = if k ∈ vals d then [(k, k)] else []
  | [], _ => by simp [meet1, vals]
  | (x, y) :: r, h => by
    have hp := List.pairwise_cons.mp h.1
    have hb := h.2 (x, y) (by simp)
    have ih := meet1_is (k := k) (d := r) ⟨hp.2, fun q hq => h.2 q (by simp [hq])⟩
    have hm : k ∈ vals ((x, y) :: r) ↔ (x ≤ k ∧ k ≤ y) ∨ k ∈ vals r := by simp [vals, mem_rng]
    dsimp only at hb
    have hr : k ≤ y → ¬ k ∈ vals r := fun hk hm => by
      obtain ⟨q, hq, h1, h2⟩ := mem_vals.mp hm
      have := hp.1 q hq
      dsimp only at this
      omega
    rw [meet1, ih]
    by_cases hy : y < k
    · have e1 : ¬ (if x < k then k else x) ≤ (if k < y then k else y) := by split <;> split <;> omega
      rw [if_neg e1, if_pos hy, List.nil_append]
      have e2 : k ∈ vals ((x, y) :: r) ↔ k ∈ vals r := by rw [hm]; constructor; (rintro (h | h); omega; exact h); exact .inr
      simp only [e2]
    · rw [if_neg hy, List.append_nil]
      by_cases hx : x ≤ k
      · have e1 : (if x < k then k else x) = k := by split <;> omega
        have e2 : (if k < y then k else y) = k := by split <;> omega
        rw [e1, e2, if_pos (Int.le_refl k), if_pos (hm.mpr (.inl ⟨hx, by omega⟩))]
      · have e1 : ¬ (if x < k then k else x) ≤ (if k < y then k else y) := by split <;> split <;> omega
        have e2 : ¬ k ∈ vals ((x, y) :: r) := by rw [hm]; rintro (h | h); omega; exact hr (by omega) h
        rw [if_neg e1, if_neg e2]
theorem meet1_ok {d : Dom} {k : Int} (h : DomOk d) : DomOk (meet1 k d) := by
  rw [meet1_is h]
  split
  · rename_i hk
    obtain ⟨p, hp, h1, h2⟩ := mem_vals.mp hk
    have := h.2 p hp
    refine ⟨by simp, fun q hq => ?_⟩
    obtain rfl : q = (k, k) := by simpa using hq
    dsimp only; omega
  · exact DomOk.nil
theorem vals_meet1 {d : Dom} {k v : Int} (h : DomOk d) : v ∈ vals (meet1 k d) ↔ v ∈ vals d ∧ v = k := by
  rw [meet1_is h]
  split
  · rename_i hk
    simp only [vals, List.flatMap_cons, List.flatMap_nil, List.append_nil, mem_rng]
    constructor
    · intro e
      have : v = k := by omega
      subst this
      exact ⟨hk, rfl⟩
    · rintro ⟨_, rfl⟩; omega
  · rename_i hk
    constructor
    · intro e; simp [vals] at e
    · rintro ⟨h1, rfl⟩; exact absurd h1 hk
def litOk (g : Sgn) (k v : Int) : Prop := match g with
  | .le => v ≤ k
  | .ge => k ≤ v
  | .eq => v = k
  | .ne => v ≠ k
theorem struck_ok {g : Sgn} {d : Dom} {k : Int} (h : DomOk d) : DomOk (struckD g k d) := by
  cases g
  · exact upTo_ok h
  · exact fromOn_ok h
  · exact meet1_ok h
  · exact without_ok h
theorem vals_struck {g : Sgn} {d : Dom} {k v : Int} (h : DomOk d) : v ∈ vals (struckD g k d) ↔ v ∈ vals d ∧ litOk g k v := by
  cases g
  · exact vals_upTo
  · exact vals_fromOn
  · exact vals_meet1 h
  · exact vals_without
theorem vals_ne {d : Dom} (h : DomOk d) (hn : d ≠ []) : ∃ v, v ∈ vals d := by
  cases d with
  | nil => exact absurd rfl hn
  | cons p r =>
    have := h.2 p (by simp)
    exact ⟨p.1, mem_vals.mpr ⟨p, by simp, by omega, by omega⟩⟩
theorem vals_nil {d : Dom} (hn : d.isEmpty = true) {v : Int} : ¬ v ∈ vals d := by
  cases d with
  | nil => simp [vals]
  | cons p r => cases hn
theorem vals_bound {d : Dom} (h : DomOk d) {v : Int} (hv : v ∈ vals d) : -1 ≤ v ∧ v ≤ 3 := by
  obtain ⟨p, hp, h1, h2⟩ := mem_vals.mp hv
  have := h.2 p hp
  omega
theorem DomOk.wide {d : Dom} (h : DomOk d) : ∀ p ∈ d, -10 ≤ p.1 ∧ p.2 ≤ 10 ∧ p.1 ≤ p.2 := fun p hp => by
  have := h.2 p hp
  omega
/-- a value put behind -/
def putB (d : Dom) (x y : Int) : Dom := match d.getLast? with
  | none => [(x, y)]
  | some p => if x ≤ p.2 + 1 then (if p.2 < y then d.dropLast ++ [(p.1, y)] else d) else d ++ [(x, y)]
theorem putB_nil {x y : Int} : putB [] x y = [(x, y)] := rfl
theorem putB_snoc {d : Dom} {u v x y : Int} : putB (d ++ [(u, v)]) x y = if x ≤ v + 1 then (if v < y then d ++ [(u, y)] else d ++ [(u, v)]) else d ++ [(u, v)] ++ [(x, y)] := by
  simp [putB]
theorem putB_ne {d : Dom} {x y : Int} : putB d x y ≠ [] := by
  rcases List.eq_nil_or_concat d with rfl | ⟨d', p, rfl⟩
  · simp [putB]
  · obtain ⟨u, v⟩ := p
    rw [List.concat_eq_append, putB_snoc]
    split
    · split <;> simp
    · simp
theorem putB_ok {d : Dom} {x : Int} (h : DomOk d) (hx : -1 ≤ x ∧ x ≤ 3) (hl : ∀ p ∈ d, p.2 ≤ x) : DomOk (putB d x x) ∧ ∀ p ∈ putB d x x, p.2 ≤ x := by
  rcases List.eq_nil_or_concat d with rfl | ⟨d', p, rfl⟩
  · rw [putB_nil]
    exact ⟨⟨by simp, by simp; omega⟩, by simp⟩
  · obtain ⟨u, v⟩ := p
    rw [List.concat_eq_append] at h hl ⊢
    have h1 := List.pairwise_append.mp h.1
    have hb := h.2 (u, v) (by simp)
    have hv := hl (u, v) (by simp)
    dsimp only at hb hv
    rw [putB_snoc]
    split
    · split
      · refine ⟨⟨List.pairwise_append.mpr ⟨h1.1, by simp, fun p hp q hq => ?_⟩, fun p hp => ?_⟩, fun p hp => ?_⟩
        · have := h1.2.2 p hp (u, v) (by simp)
          obtain rfl : q = (u, x) := by simpa using hq
          exact this
        · rcases List.mem_append.mp hp with hp | hp
          · exact h.2 p (by simp [hp])
          · obtain rfl : p = (u, x) := by simpa using hp
            dsimp only; omega
        · rcases List.mem_append.mp hp with hp | hp
          · exact hl p (by simp [hp])
          · obtain rfl : p = (u, x) := by simpa using hp
            exact Int.le_refl _
      · exact ⟨h, hl⟩
    · refine ⟨⟨List.pairwise_append.mpr ⟨h.1, by simp, fun p hp q hq => ?_⟩, fun p hp => ?_⟩, fun p hp => ?_⟩
      · obtain rfl : q = (x, x) := by simpa using hq
        dsimp only
        rcases List.mem_append.mp hp with hp | hp
        · have := h1.2.2 p hp (u, v) (by simp)
          dsimp only at this
          omega
        · obtain rfl : p = (u, v) := by simpa using hp
          dsimp only; omega
      · rcases List.mem_append.mp hp with hp | hp
        · exact h.2 p hp
        · obtain rfl : p = (x, x) := by simpa using hp
          dsimp only; omega
      · rcases List.mem_append.mp hp with hp | hp
        · exact hl p hp
        · obtain rfl : p = (x, x) := by simpa using hp
          exact Int.le_refl _
def fromV (ns : List Int) (d : Dom) : Dom := ns.foldl (fun d v => putB d v v) d
theorem fromV_snoc {ns : List Int} {v : Int} {d : Dom} : fromV (ns ++ [v]) d = putB (fromV ns d) v v := by simp [fromV]
theorem fromV_ok : ∀ {ns : List Int} {d : Dom}, DomOk d → ns.Pairwise (· ≤ ·) → (∀ v ∈ ns, -1 ≤ v ∧ v ≤ 3) → (∀ p ∈ d, ∀ v ∈ ns, p.2 ≤ v) → DomOk (fromV ns d)
  | [], d, h, _, _, _ => h
  | v :: r, d, h, hp, hb, hl => by
    have h1 := putB_ok h (hb v (by simp)) fun p hp' => hl p hp' v (by simp)
    have h2 := List.pairwise_cons.mp hp
    refine fromV_ok (ns := r) h1.1 h2.2 (fun u hu => hb u (by simp [hu])) fun p hp' u hu => ?_
    exact Int.le_trans (h1.2 p hp') (h2.1 u hu)
theorem fromV_len {ns : List Int} {d : Dom} : (fromV ns d).length ≤ d.length + ns.length := by
  induction ns generalizing d with
  | nil => exact Nat.le_refl _
  | cons v r ih =>
    have h1 : (putB d v v).length ≤ d.length + 1 := by
      rcases List.eq_nil_or_concat d with rfl | ⟨d', p, rfl⟩
      · simp [putB]
      · obtain ⟨u, z⟩ := p
        rw [List.concat_eq_append, putB_snoc]
        split
        · split <;> simp
        · simp
    have h2 : (fromV (v :: r) d).length ≤ (putB d v v).length + r.length := ih
    rw [List.length_cons]
    omega
theorem fromV_ne {ns : List Int} (h : ns ≠ []) {d : Dom} : fromV ns d ≠ [] := by
  rcases List.eq_nil_or_concat ns with rfl | ⟨ns', v, rfl⟩
  · exact absurd rfl h
  · rw [List.concat_eq_append, fromV_snoc]; exact putB_ne

end
section
theorem intsAre_get {vs : List Value} {xs : List Int} (h : IntsAre vs xs) : ∀ {i : Nat} {v : Value}, vs[i]? = some v → ∃ x t, xs[i]? = some x ∧ v = .int x t := by
  induction h with
  | nil => intro i v e; simp at e
  | cons x t _ ih =>
    intro i v e
    cases i with
    | zero => simp at e; exact ⟨x, t, by simp, e.symm⟩
    | succ i => simp only [List.getElem?_cons_succ] at e ⊢; exact ih e
section
variable {prog : Program} {w : World} {A : Around} {E : Value → Shared → Prop} {s : Shared}
/-- a walk's items behind those that stand already -/
theorem walksS_shift {I : Addr} {fp wr : List Addr} {G : Array GenState → Array GenState → Prop} {n : Nat} {P : Nat → Value → Prop} {St : Nat → Shared → Prop} (W : WalksS prog w A I fp wr G n P St) (k₀ : Nat) (P₀ : Nat → Value → Prop) :
    WalksS prog w A I fp wr G (k₀ + n) (fun i v => (i < k₀ → P₀ i v) ∧ (k₀ ≤ i → P (i - k₀) v)) (fun i s => k₀ ≤ i ∧ St (i - k₀) s) where
  sub := W.sub
  grefl := W.grefl
  gtrans := W.gtrans
  frame := fun i s h' tk st a b => ⟨st.1, W.frame _ s h' tk st.2 a b⟩
  item := fun i s Q E hi st hQ => W.item (i - k₀) s Q E (by omega) st.2 fun v s' hP hst hm =>
    hQ v s' ⟨fun h => absurd st.1 (by omega), fun _ => hP⟩ ⟨by omega, by rw [show i + 1 - k₀ = i - k₀ + 1 by omega]; exact hst⟩ hm
  done := fun s Q E st hQ => W.done s Q E (by have := st.2; rwa [show k₀ + n - k₀ = n by omega] at this) hQ
  self := fun i s Q E st hQ => W.self _ s Q E st.2 hQ
theorem extend_range {R : Result → Shared → Prop} {r : Addr} {a b : Int} {t u v : Tok} {n : Nat} {acc₀ : Array Value} (hh : A.handled = none) (hr : IsRange s.heap r a b 1 t u v) (hsmall : Builtin.Range.small a b 1 = true)
    (hn : Builtin.Range.rangeSize a b 1 = n) (hlen : n ≤ 1000) (S : Addr) (c₀ : Nat) (hS : s.heap.get? S = some (listOf acc₀ c₀)) (hk : acc₀.size ≤ 1000)
    (hR : ∀ h' tk acc' c', (∀ b o, b ≠ S → s.heap.get? b = some o → h'.get? b = some o) → h'.get? S = some (listOf acc' c') →
      ItemsOf (fun i v => (i < acc₀.size → acc₀[i]? = some v) ∧ (acc₀.size ≤ i → ∃ t, v = .int (a + ((i - acc₀.size : Nat) : Int) * 1) t)) acc' (acc₀.size + n) → R (.ok (.ret .none)) { s with heap := h', toks := tk }) :
    wpAny (model prog w) A.in1 (Builtin.«list.extend» ⟨[.ref S, .ref r], []⟩)
      (fun fin s' => match fin with | .done f => R (.ok f) s' | .again c' => c'.quiet = true ∧ codeAny (model prog w) A c' R s') (fun e s' => R (.error e) s') s := by
  have hSr : S ≠ r := fun e => by rw [e, hr] at hS; simp at hS
  have hSI : S ≠ s.heap.objs.size := Nat.ne_of_lt (Heap.lt_size hS)
  have W := walksS_shift (Walks.range (prog := prog) (w := w) (A := A.in1) hh s.heap.objs.size a 1 n).toS acc₀.size (fun i v => acc₀[i]? = some v)
  have key : ∀ (h : Heap) (c₁ tk : Nat), IsRangeIter h s.heap.objs.size (a + ((0 : Nat) : Int) * 1) ((n : Int) - ((0 : Nat) : Int)) 1 → (∀ b o, b ≠ S → s.heap.get? b = some o → h.get? b = some o) →
      h.get? S = some (listOf acc₀ c₁) → codeAny (model prog w) A (.builtin "list.extend.loop" ⟨[.ref S, .ref s.heap.objs.size, .none], []⟩) R { s with heap := h, toks := tk } := by
    intro h c₁ tk hit hkeep hS₁
    refine codeAny_extend_loopS W (by rw [sizeLine_eq]; omega) S (by simpa using hSI) .none n acc₀.size _ acc₀ c₁ (by omega) (by omega) ⟨Nat.le_refl _, by rw [Nat.sub_self]; exact hit⟩ hS₁
      ⟨rfl, fun j v hj => ⟨fun _ => hj, fun h' => absurd (Array.getElem?_eq_some_iff.mp hj).1 (by omega)⟩⟩ fun s' acc' c' hm hS' hacc => ?_
    rw [Moved.eq_with hm]
    refine hR s'.heap s'.toks acc' c' (fun b o hb e => hm.heap b o (fun hmem => ?_) (hkeep b o hb e)) hS' hacc
    rcases List.mem_cons.mp hmem with e' | hmem
    · exact hb e'
    · exact absurd (Heap.lt_size e) (by rw [List.mem_singleton.mp hmem]; exact Nat.lt_irrefl _)
  show wpAny _ _ (Builtin.List.listExtendWith (.ref S) (.ref r) .none) _ _ s
  unfold Builtin.List.listExtendWith
  refine wpAny_bind (wpAny_typeOf (T := "range") ⟨_, hr, rfl⟩ ?_)
  have e1 : Builtin.List.listSameRef (.ref S) (.ref r) = false := by simp [Builtin.List.listSameRef, hSr]
  have e2 : (Value.type "range" == Value.type "list") = false := by decide
  have e3 : (Value.type "range" == Value.type "tuple") = false := by decide
  simp only [e1, e2, e3, Bool.or_false, Bool.false_eq_true, if_false]
  refine wpAny_bind (wpAny_pyIter_range hr hsmall ?_)
  refine wpAny_bind (wpAny_holding (wpAny_hint_range (n := n) (Heap.get?_push_of_some _ hr) hn (by omega) ?_))
  have hit₁ : IsRangeIter (s.heap.push { cls := .type "range_iterator", data := .fields #[rawInt a, rawInt (Builtin.Range.rangeSize a b 1), rawInt 1] }) s.heap.objs.size (a + ((0 : Nat) : Int) * 1) ((n : Int) - ((0 : Nat) : Int)) 1 := by
    show IsRangeIter _ _ _ _ _; rw [hn]; simpa using Heap.get?_push_size _ rfl
  have hS₁ := Heap.get?_push_of_some { cls := .type "range_iterator", data := .fields #[rawInt a, rawInt (Builtin.Range.rangeSize a b 1), rawInt 1] } hS
  refine wpAny_ite_split (fun _ => ?_) (fun _ => wpAny_pure ⟨plainId_quiet F.plain_extend_loop _, key _ c₀ _ hit₁ (fun b o _ e => Heap.get?_push_of_some _ e) hS₁⟩)
  refine wpAny_bind (wpAny_rule ?_)
  refine wpAny_bind ?_
  show wpAny _ _ (updateSeq S (·.push .none) >>= fun _ => updateSeq S (·.pop)) _ _ _
  refine wpAny_bind (wpAny_updateSeq hS₁ rfl ?_ (by rw [sizeLine_eq]; omega) (by rw [Array.size_push, sizeLine_eq]; omega))
  have hS₂ := Heap.get?_update_self (Obj.mapSeq (·.push Value.none)) hS₁ rfl
  refine wpAny_updateSeq hS₂ rfl ?_ (by rw [Array.size_push, sizeLine_eq]; omega) (by rw [Array.size_pop, Array.size_push, sizeLine_eq]; omega)
  have hS₃ := Heap.get?_update_self (Obj.mapSeq (·.pop)) hS₂ rfl
  have e4 : ∀ c, ∃ c', Obj.mapSeq (·.pop) (Obj.mapSeq (·.push Value.none) (listOf acc₀ c)) = listOf acc₀ c' := fun c => ⟨_, by simp [Obj.mapSeq]; rfl⟩
  obtain ⟨c₄, hc₄⟩ := e4 c₀
  refine wpAny_pure ⟨plainId_quiet F.plain_extend_loop _, key _ c₄ _ ?_ (fun b o hb e => ?_) (hS₃.trans (congrArg some hc₄))⟩
  · exact (Heap.get?_update_other _ _ hSI).trans ((Heap.get?_update_other _ _ hSI).trans hit₁)
  · exact (Heap.get?_update_other _ _ (Ne.symm hb)).trans ((Heap.get?_update_other _ _ (Ne.symm hb)).trans (Heap.get?_push_of_some _ e))
end
theorem intsAre_at {vs : List Value} : ∀ {xs : List Int}, vs.length = xs.length → (∀ (i : Nat) (x : Int), xs[i]? = some x → ∃ t, vs[i]? = some (Value.int x t)) → IntsAre vs xs := by
  induction vs with
  | nil => intro xs hl _; cases xs with
    | nil => exact .nil
    | cons => simp at hl
  | cons v vs ih =>
    intro xs hl h
    cases xs with
    | nil => simp at hl
    | cons x xs =>
      obtain ⟨t, ht⟩ := h 0 x (by simp)
      simp at ht; subst ht
      exact .cons _ _ (ih (by simpa using hl) fun i y hy => by have := h (i + 1) y (by simpa using hy); simpa using this)
section
variable {prog : Program} {w : World} {A : Around} {E : Value → Shared → Prop} {s : Shared} {h₀ : Heap} {L : Addr} {m : Str → Option Value} {news : List (Addr × Obj)}
theorem items_grown {acc₀ acc : Array Value} {a : Int} {n : Nat} (h : ItemsOf (fun i (v : Value) => (i < acc₀.size → acc₀[i]? = some v) ∧ (acc₀.size ≤ i → ∃ t, v = Value.int (a + ((i - acc₀.size : Nat) : Int) * 1) t)) acc (acc₀.size + n))
    {xs : List Int} (hI : IntsAre acc₀.toList xs) : IntsAre acc.toList (xs ++ (List.range n).map fun (i : Nat) => a + (i : Int)) := by
  obtain ⟨hs, hp⟩ := h
  have hx : acc₀.size = xs.length := by rw [← Array.length_toList, hI.length]
  refine intsAre_at (by rw [Array.length_toList, hs, hx]; simp) fun i x e => ?_
  have hi : i < acc.size := by
    have := (List.getElem?_eq_some_iff.mp e).1
    rw [hs, hx]; simpa using this
  obtain ⟨p1, p2⟩ := hp i acc[i] (Array.getElem?_eq_getElem hi)
  rw [Array.getElem?_toList, Array.getElem?_eq_getElem hi]
  by_cases hlt : i < acc₀.size
  · have h1 := p1 hlt
    obtain ⟨y, t, hy, hv⟩ := intsAre_get hI (i := i) (v := acc[i]) (by rw [Array.getElem?_toList]; exact h1)
    rw [List.getElem?_append_left (by omega)] at e
    rw [e] at hy; cases hy
    exact ⟨t, by rw [hv]⟩
  · obtain ⟨t, hv⟩ := p2 (by omega)
    rw [List.getElem?_append_right (by omega)] at e
    rw [List.getElem?_map] at e
    obtain ⟨j, hj, he⟩ := Option.map_eq_some_iff.mp e
    have hj' := (List.getElem?_eq_some_iff.mp hj).2
    rw [List.getElem_range] at hj'
    refine ⟨t, congrArg some (hv.trans ?_)⟩
    rw [← he, ← hj', hx, Int.mul_one]
end

end
section
section
variable {n u : Nat} {Γ : Cx n u} {cn : Str} {cs : Scope} {ca : Addr} {ccd : Value} {env : Env} {ρ ρ' : Nms} {σ σ₁ σ₂ τ pre post pre' post' : Sto} {m : Str → Option Value} {mu imm : List (Addr × Obj)} {h h' : Heap} {tk : Nat} {E : Value → Shared → Prop}
  {e l r f ie : Expr} {a b : AV} {ls l0 : List AV} {i j k : Int} {p : Addr} {pos px pa ps : Pos} {x y : Str} {xs : List Int} {rest : List Stmt} {R : AV → Sto → Prop} {F : Nms → Sto → Prop} {o : Obj}
theorem TsA.and {c₁ c₂ : Bool} (h1 : TsA Γ env ρ σ l c₁) (h2 : c₁ = true → TsA Γ env ρ σ r c₂) : TsA Γ env ρ σ (.BoolOp .And [l, r] pos) (c₁ && c₂) :=
  ⟨fun _ _ _ _ _ _ _ L N q => isTrue_and (h1.run _ _ _ _ _ _ _ L N fun h₁ tk₁ i₁ L₁ k₁ => by
    cases c₁ with
    | false => exact q _ _ i₁ L₁ k₁
    | true => exact isTrue_and ((h2 rfl).run _ _ _ _ _ _ _ L₁ (N.mono k₁) fun h₂ tk₂ i₂ L₂ k₂ => by
        cases c₂ with
        | false => exact q _ _ i₂ L₂ fun p hp => k₂ p (k₁ p hp)
        | true => exact isTrue_and_nil (q _ _ i₂ L₂ fun p hp => k₂ p (k₁ p hp))))⟩
theorem TsA.andT {c : Bool} (h1 : TsA Γ env ρ σ l true) (h2 : TsA Γ env ρ σ r c) : TsA Γ env ρ σ (.BoolOp .And [l, r] pos) c := TsA.and (c₁ := true) h1 fun _ => h2
theorem TsA.andF (h1 : TsA Γ env ρ σ l false) : TsA Γ env ρ σ (.BoolOp .And [l, r] pos) false := TsA.and (c₁ := false) (c₂ := false) h1 fun e => by cases e
/-- a place of the store stands for good -/
theorem Led.freeze {c : CV} (L : Led Γ m (pre ++ (p, c) :: post) mu imm h) : ∃ o, Cont Γ.w (Γ.S imm) p c o ∧ Led Γ m (pre ++ post) mu ((p, o) :: imm) h := by
  obtain ⟨st, S, N, nd⟩ := L.ex
  obtain ⟨s1, s2, rfl, S1, S2⟩ := S.split
  obtain ⟨o, r, rfl, hc, S3⟩ := S2.ofCons
  refine ⟨o, hc, Led.of L.F ((S1.app S3).mono (Cx.S_mono up1)) N nd ?_⟩
  have P : ((s1 ++ (p, o) :: r) ++ (mu ++ imm)).Perm ((p, o) :: (s1 ++ r ++ (mu ++ imm))) := by
    rw [List.append_assoc, List.append_assoc]; exact List.perm_middle
  exact P.trans (perm_imm (d := [(p, o)]))
theorem Led.freezeL (L : Led Γ m (pre ++ (p, .lst ls) :: post) mu imm h) : ∃ o, Led Γ m (pre ++ post) mu ((p, o) :: imm) h ∧ Rel (Γ.S ((p, o) :: imm)) (.lst ls) (.ref p) := by
  obtain ⟨o, ⟨n', vs, rfl, r⟩, L'⟩ := L.freeze
  exact ⟨_, L', Rel.lst (.inr (.head _)) rfl rfl (r.mono (Cx.S_mono up1))⟩
/-- a list of the store is given back: it stands for good -/
theorem RuB.retZ (he : EvA Γ (envOfC cn cs Γ.L ca ccd) ρ σ e (.lit (.ref p)) (pre ++ (p, .lst ls) :: post)) (hR : R (.lst ls) (pre ++ post)) : RuB Γ cn cs ca ccd ρ σ (.Return (some e) pos :: rest) R F :=
  ⟨fun _ _ _ _ _ _ _ L Y O q _ => wpAny_execs_cons (wpAny_Return_some (he.run _ _ _ _ _ _ _ L (O.nm Y.are) fun v h₁ tk₁ i₁ L₁ _ r₁ => by
    obtain rfl := r₁.ofLit
    obtain ⟨o, L₂, r₂⟩ := L₁.freezeL
    exact q _ _ _ h₁ tk₁ _ _ _ hR L₂ r₂))⟩
/-- names of a place become names of what stands there -/
def Frz (p : Addr) (ls : List AV) (ρ ρ' : Nms) : Prop := ∀ x a', ρ'.lookup x = some a' → ∃ a, ρ.lookup x = some a ∧ (a' = a ∨ (a = .lit (.ref p) ∧ a' = .lst ls))
theorem Frz.nil : Frz p ls [] [] := fun _ _ e => by cases e
theorem Frz.cons (hb : b = a ∨ (a = .lit (.ref p) ∧ b = .lst ls)) (h : Frz p ls ρ ρ') : Frz p ls ((x, a) :: ρ) ((x, b) :: ρ') := fun y c e => by
  rw [List.lookup_cons] at e ⊢
  cases hy : y == x with
  | true => rw [hy] at e; cases e; exact ⟨a, rfl, hb⟩
  | false => rw [hy] at e; exact h y c e
theorem Frz.same (h : Frz p ls ρ ρ') : Frz p ls ((x, a) :: ρ) ((x, a) :: ρ') := h.cons (.inl rfl)
theorem Frz.this (h : Frz p ls ρ ρ') : Frz p ls ((x, .lit (.ref p)) :: ρ) ((x, .lst ls) :: ρ') := h.cons (.inr ⟨rfl, rfl⟩)
theorem RuB.freeze {st : List Stmt} (z : Frz p ls ρ ρ') (hk : RuB Γ cn cs ca ccd ρ' (pre ++ post) st R F) : RuB Γ cn cs ca ccd ρ (pre ++ (p, .lst ls) :: post) st R F :=
  ⟨fun _ _ _ _ _ _ _ L Y O q f => by
    obtain ⟨o, L₂, r₂⟩ := L.freezeL
    refine hk.run _ _ _ _ _ _ _ L₂ Y (fun x a' e => ?_) q (f.mono up1)
    obtain ⟨a, e', hc⟩ := z x a' e
    obtain ⟨v, r, g⟩ := (O.mono up1) x a e'
    rcases hc with rfl | ⟨rfl, rfl⟩
    · exact ⟨v, r, g⟩
    · obtain rfl := r.ofLit
      exact ⟨_, r₂, g⟩⟩
/-- a method of a list of the store -/
theorem EvA.append (h1 : EvA Γ env ρ σ (.Name x px) (.lit (.ref p)) (pre' ++ (p, .lst l0) :: post')) (h2 : EvA Γ env ρ (pre' ++ (p, .lst l0) :: post') e a (pre ++ (p, .lst ls) :: post)) (hn : noStar e = true) (hz : ls.length ≤ 1000) {pl : Sem Bool}
    (he : eval (.Call (.Attribute (.Name x px) (Str.ofString "append") pa) [e] [] pos) env = (do
      let ov ← eval (.Name x px) env
      standAt pa.atName
      let (f, first) ← holding [ov] (getMethod ov (Str.ofString "append") pl)
      callWith pos f first (backTo pos (starEach [e] env)) [])) : EvA Γ env ρ σ (.Call (.Attribute (.Name x px) (Str.ofString "append") pa) [e] [] pos) .none (pre ++ (p, .lst (ls ++ [a])) :: post) :=
  ⟨fun _ _ _ _ _ _ _ L N q => MethodCall_ (he := he) (h1.run _ _ _ _ _ _ _ L N fun v h₁ tk₁ i₁ L₁ k₁ r₁ => by
    obtain rfl := r₁.ofLit
    obtain ⟨o, ho, n', vs, rfl, _⟩ := L₁.at
    refine getMethod_builtin ⟨_, ho, rfl⟩ PySem.F.plainAttrs_list PySem.F.slot_list_append PySem.F.type_list_append (fun a e => by cases e; exact ⟨_, ho, rfl⟩) ?_
    refine callWith_method1 ((ArA.one h2 hn).run _ _ _ _ _ _ _ _ L₁ (N.mono k₁) fun ws h₂ tk₂ i₂ L₂ k₂ r₂ => ?_) (noStar_eq hn)
    obtain ⟨w, rfl, rw'⟩ := r₂.one
    obtain ⟨o, ho, n', vs, rfl, r⟩ := L₂.at
    have hl := r.length
    refine append_at (s := Γ.st h₂ tk₂) (hsz := by rw [List.size_toArray, sizeLine_eq]; omega) ho fun h' hs hD => ?_
    exact q _ _ _ i₂ (L₂.set1 (c' := .lst (ls ++ [a])) (fun b o hb e => hs.extBut b o hb e) hD ⟨n' + 1, vs ++ [w], by rw [List.push_toArray], r.append (.cons rw' .nil)⟩) (fun p hp => k₂ p (k₁ p hp)) Rel.none)⟩
/-- a list of ints takes a range behind -/
theorem EvA.extend {c : Nat} (h1 : EvA Γ env ρ σ (.Name x px) (.lit (.ref p)) (pre' ++ (p, .lst l0) :: post')) (h2 : EvA Γ env ρ (pre' ++ (p, .lst l0) :: post') e (.rng i j) (pre ++ (p, .lst (xs.map .int)) :: post)) (hn : noStar e = true) (hz : xs.length ≤ 1000)
    (h3 : -1000 ≤ i ∧ i ≤ 1000) (h4 : -1000 ≤ j ∧ j ≤ 1000) (h5 : (j - i).toNat = c) (h6 : c ≤ 1000) {pl : Sem Bool}
    (he : eval (.Call (.Attribute (.Name x px) (Str.ofString "extend") pa) [e] [] pos) env = (do
      let ov ← eval (.Name x px) env
      standAt pa.atName
      let (f, first) ← holding [ov] (getMethod ov (Str.ofString "extend") pl)
      callWith pos f first (backTo pos (starEach [e] env)) [])) : EvA Γ env ρ σ (.Call (.Attribute (.Name x px) (Str.ofString "extend") pa) [e] [] pos) .none (pre ++ (p, .lst ((xs ++ (List.range c).map fun (k : Nat) => i + (k : Int)).map .int)) :: post) :=
  ⟨fun _ _ _ _ _ _ _ L N q => MethodCall_ (he := he) (h1.run _ _ _ _ _ _ _ L N fun v h₁ tk₁ i₁ L₁ k₁ r₁ => by
    obtain rfl := r₁.ofLit
    obtain ⟨o, ho, n', vs, rfl, _⟩ := L₁.at
    refine getMethod_builtin ⟨_, ho, rfl⟩ PySem.F.plainAttrs_list PySem.F.slot_list_extend PySem.F.type_list_extend (fun a e => by cases e; exact ⟨_, ho, rfl⟩) ?_
    refine callWith_method1 ((ArA.one h2 hn).run _ _ _ _ _ _ _ _ L₁ (N.mono k₁) fun ws h₂ tk₂ i₂ L₂ k₂ r₂ => ?_) (noStar_eq hn)
    obtain ⟨w, rfl, rw'⟩ := r₂.one
    obtain ⟨g, t, u, w, rfl, hr⟩ := L₂.rng rw'
    obtain ⟨o, ho, n', vs, rfl, r⟩ := L₂.at
    have hI := r.ints
    have hl := hI.length
    have hsz : Builtin.Range.rangeSize i j 1 = (c : Int) := by
      unfold Builtin.Range.rangeSize
      simp
      split <;> omega
    refine wpAny_call (codeAny_call_builtin PySem.F.slot_list_extend.plain PySem.F.entry_list_extend (PySem.F.slot_list_extend.check _ _ _ _ _ _ _ _ ⟨_, ho, rfl⟩ (PySem.F.args_list_extend_2 _ _) (extend_range (s := Γ.st h₂ tk₂) (R := wants _ _) rfl hr (small_one (by omega) (by omega) (by omega) (by omega)) hsz h6 p n' ho (by rw [List.size_toArray]; omega) fun h' tk us c' hkeep hS' hit => ?_)))
    have hI' := items_grown hit (xs := xs) (by simpa using hI)
    exact q _ _ _ i₂ (L₂.set1 (c' := .lst ((xs ++ (List.range c).map fun (k : Nat) => i + (k : Int)).map .int)) hkeep hS' ⟨c', us.toList, by simp, RelL.of_ints hI'⟩) (fun p hp => k₂ p (k₁ p hp)) Rel.none)⟩
/-- the last item of a list of the store is set -/
theorem RuB.setLast (he : EvA Γ (envOfC cn cs Γ.L ca ccd) ρ σ e a σ₁) (hf : EvA Γ (envOfC cn cs Γ.L ca ccd) ρ σ₁ f (.lit (.ref p)) σ₂) (hi : EvA Γ (envOfC cn cs Γ.L ca ccd) ρ σ₂ ie (.int (-1)) (pre ++ (p, .lst (ls ++ [b])) :: post))
    (hz : ls.length ≤ 1000) (hs : swapsWith e (some (.Subscript f ie ps)) pos.line (envOfC cn cs Γ.L ca ccd) = pure false)
    (hb : RuB Γ cn cs ca ccd ρ (pre ++ (p, .lst (ls ++ [a])) :: post) rest R F) : RuB Γ cn cs ca ccd ρ σ (.Assign [.Subscript f ie ps] e pos :: rest) R F := by
  refine ⟨fun _ _ _ _ _ _ _ L Y O rr ff => wpAny_execs_cons (wpAny_Assign_Subscript (he.run _ _ _ _ _ _ _ L (O.nm Y.are) fun v h₁ tk₁ i₁ L₁ k₁ r₁ => hf.run _ _ _ _ _ _ _ L₁ ((O.nm Y.are).mono k₁) fun w h₂ tk₂ i₂ L₂ k₂ r₂ =>
    hi.run _ _ _ _ _ _ _ L₂ (((O.nm Y.are).mono k₁).mono k₂) fun z h₃ tk₃ i₃ L₃ k₃ r₃ => ?_) hs)⟩
  obtain rfl := r₂.ofLit
  obtain ⟨t, rfl⟩ := r₃.ofInt
  obtain ⟨o, ho, n, vs, rfl, r⟩ := L₃.at
  have hlen := r.length
  rw [List.length_append, List.length_singleton] at hlen
  refine ki_setBack (s := Γ.st h₃ tk₃) ho (by decide) (by simp; omega) (by decide) ?_
  obtain ⟨n', e'⟩ := mapSeq_list (f := (·.setIfInBounds (-1 + (vs.toArray.size : Int)).toNat v)) (its := vs.toArray) (n := n)
  have e2 : (-1 + (vs.toArray.size : Int)).toNat = ls.length := by rw [List.size_toArray]; omega
  have e3 : (ls ++ [b]).set ls.length a = ls ++ [a] := by simp
  have L₄ := L₃.set1 (c' := .lst (ls ++ [a])) (h' := h₃.update p (Obj.mapSeq (·.setIfInBounds (-1 + (vs.toArray.size : Int)).toNat v))) (fun b o hb e => (Heap.SameBut.update ..).extBut b o hb e) (Heap.get?_update_self _ ho (by rw [e']; rfl)) ⟨n', vs.set ls.length v, by rw [e']; congr 1; rw [e2]; simp, e3 ▸ r.set (r₁.mono (Cx.S_mono fun x hx => k₃ x (k₂ x hx)))⟩
  exact hb.run _ _ _ _ _ _ _ L₄ Y (((O.mono k₁).mono k₂).mono k₃) rr (((ff.mono k₁).mono k₂).mono k₃)
/-- the same for the head of the store -/
theorem EvA.append1 (h1 : EvA Γ env ρ σ (.Name x px) (.lit (.ref p)) ((p, .lst l0) :: post')) (h2 : EvA Γ env ρ ((p, .lst l0) :: post') e a ((p, .lst ls) :: post)) (hn : noStar e = true) (hz : ls.length ≤ 1000) {pl : Sem Bool}
    (he : eval (.Call (.Attribute (.Name x px) (Str.ofString "append") pa) [e] [] pos) env = (do
      let ov ← eval (.Name x px) env
      standAt pa.atName
      let (f, first) ← holding [ov] (getMethod ov (Str.ofString "append") pl)
      callWith pos f first (backTo pos (starEach [e] env)) [])) : EvA Γ env ρ σ (.Call (.Attribute (.Name x px) (Str.ofString "append") pa) [e] [] pos) .none ((p, .lst (ls ++ [a])) :: post) :=
  EvA.append (pre' := []) (pre := []) h1 h2 hn hz he
theorem RuB.setLast1 (he : EvA Γ (envOfC cn cs Γ.L ca ccd) ρ σ e a σ₁) (hf : EvA Γ (envOfC cn cs Γ.L ca ccd) ρ σ₁ f (.lit (.ref p)) σ₂) (hi : EvA Γ (envOfC cn cs Γ.L ca ccd) ρ σ₂ ie (.int (-1)) ((p, .lst (ls ++ [b])) :: post))
    (hz : ls.length ≤ 1000) (hs : swapsWith e (some (.Subscript f ie ps)) pos.line (envOfC cn cs Γ.L ca ccd) = pure false)
    (hb : RuB Γ cn cs ca ccd ρ ((p, .lst (ls ++ [a])) :: post) rest R F) : RuB Γ cn cs ca ccd ρ σ (.Assign [.Subscript f ie ps] e pos :: rest) R F :=
  RuB.setLast (pre := []) he hf hi hz hs hb
theorem RuB.retZ1 (he : EvA Γ (envOfC cn cs Γ.L ca ccd) ρ σ e (.lit (.ref p)) ((p, .lst ls) :: post)) (hR : R (.lst ls) post) : RuB Γ cn cs ca ccd ρ σ (.Return (some e) pos :: rest) R F :=
  RuB.retZ (pre := []) he hR
/-- what is left of the store is dropped -/
theorem RuB.retD (he : EvA Γ (envOfC cn cs Γ.L ca ccd) ρ σ e a (τ ++ post)) (hR : R a τ) : RuB Γ cn cs ca ccd ρ σ (.Return (some e) pos :: rest) R F :=
  ⟨fun _ _ _ _ _ _ _ L Y O q _ => wpAny_execs_cons (wpAny_Return_some (he.run _ _ _ _ _ _ _ L (O.nm Y.are) fun v h₁ tk₁ i₁ L₁ _ r₁ => q _ _ v h₁ tk₁ _ _ i₁ hR L₁.cut r₁))⟩
theorem RuB.ret0 (he : EvA Γ (envOfC cn cs Γ.L ca ccd) ρ σ e a post) (hR : R a []) : RuB Γ cn cs ca ccd ρ σ (.Return (some e) pos :: rest) R F := RuB.retD (τ := []) he hR
end

end
section
theorem RelL.three {S : Kn} {a b c : AV} {vs : List Value} (r : RelL S [a, b, c] vs) : ∃ u v w, vs = [u, v, w] ∧ Rel S a u ∧ Rel S b v ∧ Rel S c w := let ⟨v, _, e, h, q⟩ := r.ofCons; let ⟨w, z, e', h', h''⟩ := q.two; ⟨v, w, z, by rw [e, e'], h, h', h''⟩
theorem RelL.four {S : Kn} {a b c d : AV} {vs : List Value} (r : RelL S [a, b, c, d] vs) : ∃ u v w z, vs = [u, v, w, z] ∧ Rel S a u ∧ Rel S b v ∧ Rel S c w ∧ Rel S d z := let ⟨v, _, e, h, q⟩ := r.ofCons; let ⟨w, z, y, e', h'⟩ := q.three; ⟨v, w, z, y, by rw [e, e'], h, h'⟩
section
variable {n u : Nat} {qual : Str} {params : Arguments} {body : List Stmt} {scope : Scope} {dV kV doc pm cdv ct oc : Value} {an od : Option Addr} {osl : Array (Option Value)} {f : Addr} {x y z t : Str} {a b c d : AV} {name : Str} {σ : Sto} {R : AV → Sto → Prop}
theorem enter3 (ho : ∀ w : World, (hd.heap_1 w.params).lookup f = some ⟨oc, od, .func (fnOf name qual params body scope dV kV doc pm an cdv ct), osl⟩) (hcd : ∀ w : World, codeIn (hd.heap_1 w.params) cdv qual = true)
    (hb : ∀ v w s, bindArgs (fnOf name qual params body scope dV kV doc pm an cdv ct) ⟨[v, w, s], []⟩ = pure [(x, v), (y, w), (z, s)]) (kx : [x, y, z].all (nmSt scope) = true) (hnd : ((cellsFrom 0 scope.names []).map (·.1)).Nodup) (hnd2 : ((cellsFrom 0 scope.names []).map (·.2)).Nodup)
    (h : ∀ Γ : Cx n u, RuB Γ qual scope f cdv [(z, c), (y, b), (x, a)] σ body R fun _ τ => R .none τ) (hco : scope.isCoroutine = false) (hgen : scope.isGenerator = false) (hk : scope.kind = .function) : FnR n u f [a, b, c] σ R :=
  enterS (xs := [x, y, z]) ho hcd (fun S vs r => by obtain ⟨v, w, s, rfl, _⟩ := r.three; exact hb v w s) kx hnd hnd2 h hco hgen hk
theorem enter4 (ho : ∀ w : World, (hd.heap_1 w.params).lookup f = some ⟨oc, od, .func (fnOf name qual params body scope dV kV doc pm an cdv ct), osl⟩) (hcd : ∀ w : World, codeIn (hd.heap_1 w.params) cdv qual = true)
    (hb : ∀ v w s o, bindArgs (fnOf name qual params body scope dV kV doc pm an cdv ct) ⟨[v, w, s, o], []⟩ = pure [(x, v), (y, w), (z, s), (t, o)]) (kx : [x, y, z, t].all (nmSt scope) = true) (hnd : ((cellsFrom 0 scope.names []).map (·.1)).Nodup) (hnd2 : ((cellsFrom 0 scope.names []).map (·.2)).Nodup)
    (h : ∀ Γ : Cx n u, RuB Γ qual scope f cdv [(t, d), (z, c), (y, b), (x, a)] σ body R fun _ τ => R .none τ) (hco : scope.isCoroutine = false) (hgen : scope.isGenerator = false) (hk : scope.kind = .function) : FnR n u f [a, b, c, d] σ R :=
  enterS (xs := [x, y, z, t]) ho hcd (fun S vs r => by obtain ⟨v, w, s, o, rfl, _⟩ := r.four; exact hb v w s o) kx hnd hnd2 h hco hgen hk
end
section
variable {n u : Nat} {Γ : Cx n u} {cn : Str} {cs : Scope} {ca : Addr} {ccd : Value} {ρ : Nms} {σ : Sto} {t : Expr} {pos : Pos} {body orelse rest : List Stmt} {R : AV → Sto → Prop} {F F' : Nms → Sto → Prop}
/-- an if at the end of a block -/
theorem RuB.lastT (ht : TsA Γ (envOfC cn cs Γ.L ca ccd) ρ σ t true) (k : RuB Γ cn cs ca ccd ρ σ body R F) : RuB Γ cn cs ca ccd ρ σ [.If t body orelse pos] R F :=
  RuB.ite (F' := F) ht (fun _ => k) (fun e => by cases e) fun _ _ h => RuB.nil h
theorem RuB.lastF (ht : TsA Γ (envOfC cn cs Γ.L ca ccd) ρ σ t false) (k : RuB Γ cn cs ca ccd ρ σ orelse R F) : RuB Γ cn cs ca ccd ρ σ [.If t body orelse pos] R F :=
  RuB.ite (F' := F) ht (fun e => by cases e) (fun _ => k) fun _ _ h => RuB.nil h
theorem RuB.iteT (ht : TsA Γ (envOfC cn cs Γ.L ca ccd) ρ σ t true) (k1 : RuB Γ cn cs ca ccd ρ σ body R F') (k : ∀ ρ' τ, F' ρ' τ → RuB Γ cn cs ca ccd ρ' τ rest R F) : RuB Γ cn cs ca ccd ρ σ (.If t body orelse pos :: rest) R F :=
  RuB.ite (F' := F') ht (fun _ => k1) (fun e => by cases e) k
theorem RuB.iteF (ht : TsA Γ (envOfC cn cs Γ.L ca ccd) ρ σ t false) (k1 : RuB Γ cn cs ca ccd ρ σ orelse R F') (k : ∀ ρ' τ, F' ρ' τ → RuB Γ cn cs ca ccd ρ' τ rest R F) : RuB Γ cn cs ca ccd ρ σ (.If t body orelse pos :: rest) R F :=
  RuB.ite (F' := F') ht (fun e => by cases e) (fun _ => k1) k
end
theorem words_s18_1 : True := by
  (k_with "my enter3" => (refine' enter3 ?eo ?ec ?eb ?ex ?en ?em ?_ ?e1 ?e2 ?e3; (case eo => (intro w9; k_is)); (case ec => (intro w9; k_is)); (case eb => (intros; exact rfl)); (case ex => kernel_rfl!); (case en => decide); (case em => decide); (case e1 => exact rfl); (case e2 => exact rfl); (case e3 => exact rfl); intro Γ; (try dsimp only)))
  (k_with "my enter4" => (refine' enter4 ?eo ?ec ?eb ?ex ?en ?em ?_ ?e1 ?e2 ?e3; (case eo => (intro w9; k_is)); (case ec => (intro w9; k_is)); (case eb => (intros; exact rfl)); (case ex => kernel_rfl!); (case en => decide); (case em => decide); (case e1 => exact rfl); (case e2 => exact rfl); (case e3 => exact rfl); intro Γ; (try dsimp only)))
  trivial
/-- a pair, a domain -/
abbrev pr (x y : Int) : AV := .tup [.int x, .int y]
def domL (d : Dom) : List AV := d.map fun p => pr p.1 p.2
abbrev domV (d : Dom) : AV := .tup (domL d)
theorem domL_len {d : Dom} : (domL d).length = d.length := List.length_map _
theorem domL_snoc {d : Dom} {x y : Int} : domL (d ++ [(x, y)]) = domL d ++ [pr x y] := by rw [domL, List.map_append]; rfl
theorem domL_app {d e : Dom} : domL (d ++ e) = domL d ++ domL e := List.map_append
theorem dom_its {d : Dom} : domL d = (d.map fun p => [.int p.1, .int p.2]).map .tup := by rw [List.map_map]; rfl
theorem domL_get {d : Dom} {i : Nat} {x y : Int} (h : d[i]? = some (x, y)) : (domL d)[i]? = some (pr x y) := by rw [domL, List.getElem?_map, h]; rfl
theorem upTo_map {d : Dom} {k : Int} : (d.filter fun p => decide (p.1 ≤ k)).map (fun p => pr p.1 (if k < p.2 then k else p.2)) = domL (upTo d k) := by
  induction d with
  | nil => rfl
  | cons p d ih =>
    by_cases h : p.1 ≤ k
    · have e : upTo (p :: d) k = (p.1, if k < p.2 then k else p.2) :: upTo d k := List.filterMap_cons_some (if_pos h)
      rw [List.filter_cons_of_pos (by simpa using h), List.map_cons, ih, e]; rfl
    · have e : upTo (p :: d) k = upTo d k := List.filterMap_cons_none (if_neg h)
      rw [List.filter_cons_of_neg (by simpa using h), ih, e]
theorem fromOn_map {d : Dom} {k : Int} : (d.filter fun p => decide (k ≤ p.2)).map (fun p => pr (if p.1 < k then k else p.1) p.2) = domL (fromOn d k) := by
  induction d with
  | nil => rfl
  | cons p d ih =>
    by_cases h : k ≤ p.2
    · have e : fromOn (p :: d) k = (if p.1 < k then k else p.1, p.2) :: fromOn d k := List.filterMap_cons_some (if_pos h)
      rw [List.filter_cons_of_pos (by simpa using h), List.map_cons, ih, e]; rfl
    · have e : fromOn (p :: d) k = fromOn d k := List.filterMap_cons_none (if_neg h)
      rw [List.filter_cons_of_neg (by simpa using h), ih, e]
theorem upTo_len {d : Dom} {k : Int} : (upTo d k).length ≤ d.length := List.length_filterMap_le _ _
theorem fromOn_len {d : Dom} {k : Int} : (fromOn d k).length ≤ d.length := List.length_filterMap_le _ _
/-- the pairs of a domain, one by one -/
theorem ItA.dom {n u : Nat} {Γ : Cx n u} {env : Env} {ρ : Nms} {σ τ : Sto} {iter : Expr} {d : Dom} {x y : Str} {px py tp : Pos} {k : Nat} (he : EvA Γ env ρ σ iter (domV d) τ) : ItA Γ env ρ σ iter τ (.Tuple [.Name x px, .Name y py] k tp) [x, y] (d.map fun p => [.int p.1, .int p.2]) :=
  ItA.tups (dom_its ▸ he) rfl fun as h => by obtain ⟨p, _, rfl⟩ := List.mem_map.mp h; rfl
theorem words_s18_2 : True := by
  (k_with "my domc" => (
  focus exact ItA.dom (by walk_at "eva")
  focus kernel_rfl!
  focus kernel_rfl!
  focus (intro i p _ C io; exact TsA.cmp (by walk_at "eva") (by walk_at "eva") (cmpI_ok rfl) rfl)
  focus (intro i p _ _ C io; walk_at "eva")))
  trivial
theorem up_to_A {d : Dom} {k : Int} (hl : d.length ≤ 1000) : FnA 0 60 174 [domV d, .int k] (domV (upTo d k)) := by
  w_top off
  walk_at "enterA"
  refine RuB.ret (EvA.callT (σ₁ := []) (id := "tuple") (as := [.lst (domL (upTo d k))]) (by walk_at "eva") (ArA.one (EvA.eq (EvA.compG (st := fun _ => []) (xs := d) (φ := fun p => [.int p.1, .int p.2]) (ψ := fun p => pr p.1 (if k < p.2 then k else p.2)) (p := fun p => decide (p.1 ≤ k)) (ct := some _) (ns := [Str.ofString "low", Str.ofString "high"]) ?_ ?_ ?_ ?_ ?_ (fun _ _ _ _ => rfl) (fun _ => rfl) hl) (congrArg AV.lst upTo_map)) rfl) (tuple_lstA .imm (by rw [domL_len]; exact Nat.le_trans upTo_len hl)) rfl) ⟨rfl, rfl⟩
  walk_at "domc"
theorem from_on_A {d : Dom} {k : Int} (hl : d.length ≤ 1000) : FnA 0 60 179 [domV d, .int k] (domV (fromOn d k)) := by
  w_top off
  walk_at "enterA"
  refine RuB.ret (EvA.callT (σ₁ := []) (id := "tuple") (as := [.lst (domL (fromOn d k))]) (by walk_at "eva") (ArA.one (EvA.eq (EvA.compG (st := fun _ => []) (xs := d) (φ := fun p => [.int p.1, .int p.2]) (ψ := fun p => pr (if p.1 < k then k else p.1) p.2) (p := fun p => decide (k ≤ p.2)) (ct := some _) (ns := [Str.ofString "low", Str.ofString "high"]) ?_ ?_ ?_ ?_ ?_ (fun _ _ _ _ => rfl) (fun _ => rfl) hl) (congrArg AV.lst fromOn_map)) rfl) (tuple_lstA .imm (by rw [domL_len]; exact Nat.le_trans fromOn_len hl)) rfl) ⟨rfl, rfl⟩
  walk_at "domc"

end
section
theorem words_s19_1 : True := by
  (k_with "my fna" => first
  | exact up_to_A (by with_reducible assumption)
  | exact from_on_A (by with_reducible assumption))
  (k_with "my sta" => ((with_reducible show StepA _ _ _ (fun vs => call (Value.builtin "len") vs) _ _); exact len_lstA (.sto (i := 0) rfl) (by assumption)))
  (k_with "my sta" => ((with_reducible show BinA _ _ (subscriptTail _ _) (AV.lit _) (AV.int (-1)) _); exact lstLast_A (.sto (i := 0) rfl) List.getLast?_concat (by assumption) rfl rfl))
  trivial
theorem without_A {d : Dom} {k : Int} (hl : d.length ≤ 400) : FnA 1 80 186 [domV d, .int k] (domV (withoutD d k)) := by
  w_top off
  have hl2 : d.length ≤ 1000 := by omega
  have e : domV (withoutD d k) = .tup (domL (upTo d (k - 1)) ++ domL (fromOn d (k + 1))) := congrArg AV.tup domL_app
  rw [e]
  walk_at "enterA"
  refine RuB.ret (EvA.bin (σ₁ := []) (a := domV (upTo d (k - 1))) (b := domV (fromOn d (k + 1))) ?_ ?_ (catT_A ?_)) ⟨rfl, rfl⟩
  · walk_at "eva"
  · walk_at "eva"
  · have h1 := upTo_len (d := d) (k := k - 1)
    have h2 := fromOn_len (d := d) (k := k + 1)
    rw [domL_len, domL_len]; omega
def put1 (ls : List AV) (u v x y : Int) : List AV := if x ≤ v + 1 then (if v < y then ls ++ [pr u y] else ls ++ [pr u v]) else ls ++ [pr u v] ++ [pr x y]
theorem put0_D {p : Addr} {x y : Int} : FnR 0 60 136 [.lit (.ref p), .int x, .int y] [(p, .lst [])] (Is .none [(p, .lst [pr x y])]) := by
  w_top off
  have hz : ([] : List AV).length ≤ 1000 := Nat.zero_le _
  walk_at "enter3"
  refine RuB.lastF (TsA.andF (TsA.cmp (a := .int ((([] : List AV).length : Nat) : Int)) (b := .int 0) ?_ ?_ (cmpI_ok (d := false) rfl) rfl)) (RuB.exp (EvA.append1 (p := p) (post' := []) (post := []) (l0 := []) (ls := []) (a := pr x y) ?_ ?_ rfl hz rfl) rfl rfl (RuB.nil ⟨rfl, rfl⟩))
  · walk_at "eva"
  · walk_at "eva"
  · walk_at "eva"
  · walk_at "eva"
theorem put1_D {p : Addr} {ls : List AV} {u v x y : Int} (hl : ls.length ≤ 900) : FnR 0 60 136 [.lit (.ref p), .int x, .int y] [(p, .lst (ls ++ [pr u v]))] (Is .none [(p, .lst (put1 ls u v x y))]) := by
  w_top off
  have hz : (ls ++ [pr u v]).length ≤ 1000 := by rw [List.length_append, List.length_singleton]; omega
  walk_at "enter3"
  by_cases c1 : x ≤ v + 1
  · refine RuB.lastT (TsA.andT (TsA.cmp (a := .int ((ls ++ [pr u v]).length : Nat)) (b := .int 0) ?_ ?_ (gt_A ?_) rfl) (TsA.cmp (a := .int x) (b := .int (v + 1)) ?_ ?_ (cmpI_ok (congrArg some (decide_eq_true c1))) rfl)) ?_
    · walk_at "eva"
    · walk_at "eva"
    · rw [List.length_append, List.length_singleton]; omega
    · walk_at "eva"
    · walk_at "eva"
    by_cases c2 : v < y
    · refine RuB.lastT (TsA.cmp (a := .int y) (b := .int v) ?_ ?_ (gt_A c2) rfl) (RuB.setLast1 (σ₁ := [(p, .lst (ls ++ [pr u v]))]) (σ₂ := [(p, .lst (ls ++ [pr u v]))]) (post := []) (p := p) (ls := ls) (b := pr u v) (a := pr u y) ?_ ?_ ?_ (by omega) rfl (RuB.nil ⟨rfl, ?_⟩))
      · walk_at "eva"
      · walk_at "eva"
      · walk_at "eva"
      · walk_at "eva"
      · walk_at "eva"
      · rw [put1, if_pos c1, if_pos c2]
    · refine RuB.lastF (TsA.cmp (a := .int y) (b := .int v) ?_ ?_ (cmpI_ok (congrArg some (decide_eq_false c2))) rfl) (RuB.nil ⟨rfl, ?_⟩)
      · walk_at "eva"
      · walk_at "eva"
      · rw [put1, if_pos c1, if_neg c2]
  · refine RuB.lastF (TsA.andT (TsA.cmp (a := .int ((ls ++ [pr u v]).length : Nat)) (b := .int 0) ?_ ?_ (gt_A ?_) rfl) (TsA.cmp (a := .int x) (b := .int (v + 1)) ?_ ?_ (cmpI_ok (congrArg some (decide_eq_false c1))) rfl)) (RuB.exp (EvA.append1 (p := p) (post' := []) (post := []) (l0 := ls ++ [pr u v]) (ls := ls ++ [pr u v]) (a := pr x y) ?_ ?_ rfl hz rfl) rfl rfl (RuB.nil ⟨rfl, ?_⟩))
    · walk_at "eva"
    · walk_at "eva"
    · rw [List.length_append, List.length_singleton]; omega
    · walk_at "eva"
    · walk_at "eva"
    · walk_at "eva"
    · walk_at "eva"
    · rw [put1, if_neg c1]
theorem put_D {p : Addr} {d : Dom} {x y : Int} (hl : d.length ≤ 900) : FnR 0 60 136 [.lit (.ref p), .int x, .int y] [(p, .lst (domL d))] (Is .none [(p, .lst (domL (putB d x y)))]) := by
  rcases List.eq_nil_or_concat d with rfl | ⟨d', ⟨u, v⟩, rfl⟩
  · exact put0_D
  · have := put1_D (p := p) (ls := domL d') (u := u) (v := v) (x := x) (y := y) (by rw [domL_len]; rw [List.length_concat] at hl; omega)
    rw [List.concat_eq_append, domL_snoc, putB_snoc]
    have e : put1 (domL d') u v x y = domL (if x ≤ v + 1 then (if v < y then d' ++ [(u, y)] else d' ++ [(u, v)]) else d' ++ [(u, v)] ++ [(x, y)]) := by
      rw [put1]
      split
      · split <;> rw [domL_snoc]
      · rw [domL_snoc, domL_snoc]
    rw [← e]
    exact this

end
section
section
variable {n u : Nat} {Γ : Cx n u} {env : Env} {ρ : Nms} {σ σ₁ τ τ₁ post : Sto} {e : Expr} {a : AV} {px pos : Pos}
/-- a call for its deeds upon the store's head -/
theorem EvA.callE {f : Str} {F : Addr} {es : List Expr} {as : List AV} {n' u' : Nat} (hf : EvA Γ env ρ σ (.Name f px) (.lit (.ref F)) σ) (ha : ArA Γ env ρ σ (e :: es) as (σ₁ ++ post)) (hs : FnR n' u' F as σ₁ (Is a τ))
    (hk : ∀ w : World, keepIn (hd.heap_1 w.params) (.ref F) = true) (hp : (e :: es).all noStar = true) (hn : n' + 1 ≤ n) (hu : u' + 3 ≤ u) : EvA Γ env ρ σ (.Call (.Name f px) (e :: es) [] pos) a (τ ++ post) :=
  EvA.callF (pre := []) hf ha hs hk hp hn hu
end
theorem fromV_take {ns : List Int} {i : Nat} {x : Int} (h : ns[i]? = some x) : fromV (ns.take (i + 1)) [] = putB (fromV (ns.take i) []) x x := by rw [take_snoc h, fromV_snoc]
theorem from_values_A {ns : List Int} (hl : ns.length < 64) : FnA 1 80 143 [.lst (ns.map .int)] (domV (fromV (srt ns) [])) := by
  w_top off
  have hs : (srt ns).length = ns.length := srt_perm.length_eq
  walk_at "enterA"
  refine RuB.asgR (P := fun a τ => ∃ p, a = .lit (.ref p) ∧ τ = [(p, .lst [])]) (EvR.list ArA.nil (Nat.le_of_ble_eq_true rfl) fun p => ⟨p, rfl, rfl⟩) rfl (by kernel_rfl!) ?_
  rintro _ _ ⟨p, rfl, rfl⟩
  refine RuB.for (xs := srt ns) (φ := fun x => [.int x]) (ns := [Str.ofString "v"]) (τ := [(p, .lst [])]) (fun i ρ σ => ρ = [(Str.ofString "found", .lit (.ref p)), (Str.ofString "numbers", .lst (ns.map .int))] ∧ σ = [(p, .lst (domL (fromV ((srt ns).take i) [])))])
    (SrcV.to (φ := fun x => .int x) (a := .lst ((srt ns).map .int)) ?_ .lst) (by kernel_rfl!) ⟨rfl, rfl⟩ ?_ ?_ (fun _ => rfl)
  · exact EvA.callB (id := "sorted") (σ₁ := [(p, .lst [])]) (as := [.lst (ns.map .int)]) (by walk_at "eva") (by walk_at "ara") (sortedL_A .imm hl) rfl
  · rintro i x ρ σ io hx ⟨rfl, rfl⟩
    have hi : i < ns.length := by have := (List.getElem?_eq_some_iff.mp hx).1; omega
    have hz : (fromV ((srt ns).take i) []).length ≤ 900 := by
      have := fromV_len (ns := (srt ns).take i) (d := [])
      rw [List.length_take] at this
      simp at this
      omega
    refine RuB.exp (EvA.callE (σ₁ := [(p, .lst (domL (fromV ((srt ns).take i) [])))]) (post := io) (as := [.lit (.ref p), .int x, .int x]) ?_ ?_ (put_D hz) ?_ rfl ?_ ?_) rfl rfl (RuB.nil ⟨_, _, rfl, ⟨rfl, ?_⟩, ?_⟩)
    · walk_at "eva"
    · walk_at "ara"
    · walk_at "sid"
    · walk_at "sid"
    · walk_at "sid"
    · rw [fromV_take hx]
    · walk_at "thin"
  · rintro ρ σ ⟨rfl, rfl⟩
    have hz : (fromV (srt ns) []).length ≤ 900 := by
      have := fromV_len (ns := srt ns) (d := [])
      simp at this
      omega
    rw [List.take_length]
    refine RuB.ret0 (EvA.callT (id := "tuple") (as := [.lit (.ref p)]) (by walk_at "eva") (by walk_at "ara") (tuple_lstA (.sto (i := 0) rfl) (by rw [domL_len]; omega)) rfl) ⟨rfl, rfl⟩
theorem vals_snoc' {d : Dom} {x y : Int} : vals (d ++ [(x, y)]) = vals d ++ (List.range (y + 1 - x).toNat).map fun (k : Nat) => x + (k : Int) := by simp [vals, rng]
theorem values_A {d : Dom} (hd : DomOk d) : FnA 0 60 169 [domV d] (.lst ((vals d).map .int)) := by
  w_top off
  walk_at "enterA"
  refine RuB.asgR (P := fun a τ => ∃ p, a = .lit (.ref p) ∧ τ = [(p, .lst [])]) (EvR.list ArA.nil (Nat.le_of_ble_eq_true rfl) fun p => ⟨p, rfl, rfl⟩) rfl (by kernel_rfl!) ?_
  rintro _ _ ⟨p, rfl, rfl⟩
  refine RuB.for (xs := d) (φ := fun q => [.int q.1, .int q.2]) (ns := [Str.ofString "low", Str.ofString "high"]) (τ := [(p, .lst [])]) (fun i ρ σ => ρ = [(Str.ofString "found", .lit (.ref p)), (Str.ofString "d", domV d)] ∧ σ = [(p, .lst ((vals (d.take i)).map .int))])
    (ItA.dom (by walk_at "eva")) (by kernel_rfl!) ⟨rfl, rfl⟩ ?_ ?_ (fun _ => rfl)
  · rintro i ⟨x, y⟩ ρ σ io hx ⟨rfl, rfl⟩
    have hb := hd.wide _ (List.mem_of_getElem? hx)
    dsimp only at hb
    have hz : (vals (d.take i)).length ≤ 1000 := by
      have h1 := vals_len (d := d.take i) fun q hq => have := hd.wide _ (List.mem_of_mem_take hq); ⟨this.1, this.2.1⟩
      have h2 := hd.len
      rw [List.length_take] at h1
      omega
    refine RuB.exp (EvA.extend (p := p) (pre' := []) (post' := io) (pre := []) (post := io) (l0 := (vals (d.take i)).map .int) (xs := vals (d.take i)) (i := x) (j := y + 1) (c := (y + 1 - x).toNat) ?_ ?_ rfl hz (by omega) (by omega) rfl (by omega) rfl) rfl rfl (RuB.nil ⟨[(p, .lst ((vals (d.take (i + 1))).map .int))], _, ?_, ⟨rfl, rfl⟩, ?_⟩)
    · walk_at "eva"
    · dsimp only [List.nil_append]
      walk_at "eva"
    · rw [take_snoc hx, vals_snoc']; rfl
    · walk_at "thin"
  · rintro ρ σ ⟨rfl, rfl⟩
    rw [List.take_length]
    exact RuB.retZ1 (p := p) (post := []) (ls := (vals d).map .int) (by walk_at "eva") ⟨rfl, rfl⟩

end
section
theorem meet1_drop {d : Dom} {k x y : Int} {i : Nat} (h : d[i]? = some (x, y)) : meet1 k (d.drop i) = (if (if x < k then k else x) ≤ (if k < y then k else y) then [(if x < k then k else x, if k < y then k else y)] else []) ++ (if y < k then meet1 k (d.drop (i + 1)) else []) := by
  obtain ⟨hi, e⟩ := List.getElem?_eq_some_iff.mp h
  rw [List.drop_eq_getElem_cons hi, e]; rfl
theorem words_s21_1 : True := by
  (k_with "my sta" => ((with_reducible show BinA _ _ (subscriptTail _ _) (AV.tup _) (AV.int _) _); exact tup_A rfl (by with_reducible assumption) (by with_reducible assumption) rfl))
  trivial
theorem meet_A {d : Dom} {k : Int} (hl : d.length ≤ 400) : FnA 0 80 193 [domV d, .tup [pr k k]] (domV (meet1 k d)) := by
  w_top off
  have hdl : (domL d).length ≤ 1000 := by rw [domL_len]; omega
  have hml := meet1_len k d
  walk_at "enterA"
  refine RuB.asgSR (xs := [Str.ofString "found", Str.ofString "i", Str.ofString "j"]) (P := fun as τ => ∃ p, as = [.lit (.ref p), .int 0, .int 0] ∧ τ = [(p, .lst [])]) (EvR.tup (ArR.cons (P := fun a τ => ∃ p, a = .lit (.ref p) ∧ τ = [(p, .lst [])]) (EvR.list ArA.nil (Nat.le_of_ble_eq_true rfl) fun p => ⟨p, rfl, rfl⟩) ?_ rfl)) rfl ?_ ?_ ?_
  · rintro _ _ ⟨p, rfl, rfl⟩
    exact ArA.rel (by walk_at "ara") ⟨Nat.le_of_ble_eq_true rfl, p, rfl, rfl⟩
  · first | exact rfl | kernel_rfl!
  · kernel_rfl!
  rintro _ _ ⟨p, rfl, rfl⟩
  refine ⟨rfl, ?_⟩
  dsimp only [bindN, List.reverse, List.reverseAux]
  refine RuB.while (fun m ρ σ => ∃ (i : Nat) (F : Dom), σ = [(p, .lst (domL F))] ∧ ((ρ = [(Str.ofString "found", .lit (.ref p)), (Str.ofString "i", .int (i : Nat)), (Str.ofString "j", .int 0), (Str.ofString "e", .tup [pr k k]), (Str.ofString "d", domV d)] ∧ i ≤ d.length ∧ meet1 k d = F ++ meet1 k (d.drop i) ∧ m = d.length - i + 1) ∨
    (ρ = [(Str.ofString "found", .lit (.ref p)), (Str.ofString "i", .int (i : Nat)), (Str.ofString "j", .int 1), (Str.ofString "e", .tup [pr k k]), (Str.ofString "d", domV d)] ∧ F = meet1 k d ∧ m = 0))) ⟨0, [], rfl, .inl ⟨rfl, Nat.zero_le _, rfl, rfl⟩⟩ ?_
  rintro m ρ σ ⟨i, F, rfl, ⟨rfl, hi, hF, rfl⟩ | ⟨rfl, rfl, rfl⟩⟩
  · have hlen : F.length ≤ d.length := by
      have := congrArg List.length hF
      rw [List.length_append] at this
      omega
    have hz : (domL F).length ≤ 1000 := by rw [domL_len]; omega
    refine ⟨decide ((i : Int) < ((domL d).length : Nat)), TsA.and (c₂ := true) (TsA.cmp (a := .int (i : Nat)) (b := .int ((domL d).length : Nat)) ?_ ?_ (cmpI_ok rfl) rfl) (fun _ => TsA.cmp (a := .int 0) (b := .int (([pr k k].length : Nat) : Int)) ?_ ?_ (cmpI_ok rfl) rfl) |> fun h => by rwa [Bool.and_true] at h, fun h => ?_, fun h => ?_⟩
    · walk_at "eva"
    · walk_at "eva"
    · walk_at "eva"
    · walk_at "eva"
    · rw [decide_eq_true_eq, domL_len] at h
      have hi' : i < d.length := by omega
      obtain ⟨⟨x, y⟩, hx⟩ : ∃ q, d[i]? = some q := ⟨_, List.getElem?_eq_getElem hi'⟩
      have hx' := domL_get hx
      rw [meet1_drop hx] at hF
      refine RuB.asgS (xs := [Str.ofString "low", Str.ofString "high"]) (τ := [(p, .lst (domL F))]) (as := [.int (if x < k then k else x), .int (if k < y then k else y)]) (by walk_at "eva") rfl (by first | exact rfl | kernel_rfl!) (by kernel_rfl!) rfl ?_
      dsimp only [bindN, List.reverse, List.reverseAux]
      refine RuB.ite (F' := fun ρ' τ => ρ' = [(Str.ofString "low", .int (if x < k then k else x)), (Str.ofString "high", .int (if k < y then k else y)), (Str.ofString "found", .lit (.ref p)), (Str.ofString "i", .int (i : Nat)), (Str.ofString "j", .int 0), (Str.ofString "e", .tup [pr k k]), (Str.ofString "d", domV d)] ∧ τ = [(p, .lst (domL (F ++ if (if x < k then k else x) ≤ (if k < y then k else y) then [(if x < k then k else x, if k < y then k else y)] else [])))])
        (TsA.cmp (a := .int (if x < k then k else x)) (b := .int (if k < y then k else y)) (by walk_at "eva") (by walk_at "eva") (cmpI_ok rfl) rfl) (fun c => ?_) (fun c => ?_) ?_
      · rw [decide_eq_true_eq] at c
        rw [if_pos c, domL_snoc]
        refine RuB.exp (EvA.append1 (p := p) (post' := []) (post := []) (l0 := domL F) (ls := domL F) (a := pr (if x < k then k else x) (if k < y then k else y)) ?_ ?_ rfl hz rfl) rfl rfl (RuB.nil ?_)
        · walk_at "eva"
        · walk_at "eva"
        · exact ⟨rfl, rfl⟩
      · rw [decide_eq_false_iff_not] at c
        rw [if_neg c, List.append_nil]
        exact RuB.nil ⟨rfl, rfl⟩
      · rintro ρ' τ ⟨rfl, rfl⟩
        obtain ⟨G, hG⟩ : ∃ G, G = F ++ if (if x < k then k else x) ≤ (if k < y then k else y) then [(if x < k then k else x, if k < y then k else y)] else [] := ⟨_, rfl⟩
        rw [← hG]
        rw [← List.append_assoc, ← hG] at hF
        by_cases c : y < k
        · refine RuB.lastT (TsA.cmp (a := .int y) (b := .int k) ?_ ?_ (cmpI_ok (congrArg some (decide_eq_true c))) rfl) (RuB.asg (τ := [(p, .lst (domL G))]) (a := .int ((i + 1 : Nat) : Int)) (EvA.eq (a := .int ((i : Int) + 1)) ?_ rfl) rfl ?_ (RuB.nil ⟨_, _, ?_, ⟨i + 1, G, rfl, .inl ⟨rfl, hi', ?_, rfl⟩⟩, ?_⟩))
          · walk_at "eva"
          · walk_at "eva"
          · walk_at "eva"
          · kernel_rfl!
          · omega
          · rw [hF, if_pos c]
          · walk_at "thin"
        · refine RuB.lastF (TsA.cmp (a := .int y) (b := .int k) ?_ ?_ (cmpI_ok (congrArg some (decide_eq_false c))) rfl) (RuB.asg (τ := [(p, .lst (domL G))]) (a := .int 1) (EvA.eq (a := .int (0 + 1)) ?_ rfl) rfl ?_ (RuB.nil ⟨_, _, ?_, ⟨i, G, rfl, .inr ⟨rfl, ?_, rfl⟩⟩, ?_⟩))
          · walk_at "eva"
          · walk_at "eva"
          · walk_at "eva"
          · kernel_rfl!
          · omega
          · rw [hF, if_neg c, List.append_nil]
          · walk_at "thin"
    · rw [decide_eq_false_iff_not, domL_len] at h
      have hi' : i = d.length := by omega
      rw [hi', List.drop_length, meet1, List.append_nil] at hF
      exact RuB.ret0 (EvA.callT (id := "tuple") (as := [.lit (.ref p)]) (by walk_at "eva") (by walk_at "ara") (tuple_lstA (.sto (i := 0) rfl) hz) rfl) ⟨by rw [← hF], rfl⟩
  · have hz : (domL (meet1 k d)).length ≤ 1000 := by rw [domL_len]; omega
    refine ⟨false, TsA.and (c₁ := decide ((i : Int) < ((domL d).length : Nat))) (c₂ := false) (TsA.cmp (a := .int (i : Nat)) (b := .int ((domL d).length : Nat)) ?_ ?_ (cmpI_ok rfl) rfl) (fun _ => TsA.cmp (a := .int 1) (b := .int (([pr k k].length : Nat) : Int)) ?_ ?_ (cmpI_ok rfl) rfl) |> fun h => by rwa [Bool.and_false] at h, fun h => (by cases h), fun h => ?_⟩
    · walk_at "eva"
    · walk_at "eva"
    · walk_at "eva"
    · walk_at "eva"
    · exact RuB.ret0 (EvA.callT (id := "tuple") (as := [.lit (.ref p)]) (by walk_at "eva") (by walk_at "ara") (tuple_lstA (.sto (i := 0) rfl) hz) rfl) ⟨rfl, rfl⟩

end
section
abbrev litV (x : Int) (g : Sgn) (k : Int) : AV := .tup [.int x, .str g.str, .int k]
theorem words_s22_1 : True := by
  (k_with "my fna" => first
  | exact meet_A (by with_reducible assumption)
  | exact without_A (by with_reducible assumption))
  trivial
theorem struck_A {d : Dom} {x k : Int} {g : Sgn} (hl : d.length ≤ 400) : FnA 2 100 207 [litV x g k, domV d] (domV (struckD g k d)) := by
  w_top off
  have hl2 : d.length ≤ 1000 := by omega
  cases g
  · walk_at "enterA"
    walk_at "rub"
    walk_at "yes"
    walk_at "ret"
  · walk_at "enterA"
    walk_at "rub"
    walk_at "no"
    walk_at "yes"
    walk_at "ret"
  · walk_at "enterA"
    walk_at "rub"
    walk_at "no"
    walk_at "no"
    walk_at "ret"
  · walk_at "enterA"
    walk_at "rub"
    walk_at "no"
    walk_at "no"
    walk_at "ret"

end
section
def notB : AV → Bool
  | .lit (.builtin _) => false
  | _ => true
theorem handed_rel {S : Kn} {a : AV} {v : Value} (h : notB a = true) (r : Rel S a v) : handedIn v = true := by
  cases a with
  | none => obtain rfl : v = .none := r; rfl
  | bool b => obtain rfl := r.ofBool; rfl
  | int n => obtain ⟨t, rfl⟩ := r.ofInt; rfl
  | str x => obtain ⟨t, rfl⟩ := r.ofStr; rfl
  | tup l => obtain ⟨p, _, _, _, rfl, _⟩ := r.ofTup; rfl
  | lst l => obtain ⟨p, _, _, _, rfl, _⟩ := r.ofLst; rfl
  | rng a b => obtain ⟨p, _, rfl, _⟩ := r; rfl
  | map f => obtain ⟨p, _, _, rfl, _⟩ := r; rfl
  | obj c n1 a1 n2 a2 => obtain ⟨p, _, _, _, _, ⟨rfl, _⟩, _⟩ := r; rfl
  | ils xs => obtain ⟨p, _, _, _, rfl, _⟩ := r; rfl
  | lit w =>
    have e := r.ofLit
    rw [e]
    cases w <;> first | rfl | cases h
theorem isStr_self {x : Str} {t : Tok} : (Value.str x t).isStr x = true := by simp [Value.isStr]
theorem isStr_other {x y : Str} {t : Tok} (h : (x == y) = false) : (Value.str x t).isStr y = false := by simpa [Value.isStr] using h
/-- an own name of an object -/
theorem getL_two {n1 n2 : Str} {h1 h2 : Int} {t1 t2 : Tok} {v1 v2 : Value} : getL n1 [⟨h1, .str n1 t1, v1⟩, ⟨h2, .str n2 t2, v2⟩] = some (some v1) ∧ ((n1 == n2) = false → getL n2 [⟨h1, .str n1 t1, v1⟩, ⟨h2, .str n2 t2, v2⟩] = some (some v2)) ∧ ∀ nm, (n1 == nm) = false → (n2 == nm) = false → getL nm [⟨h1, .str n1 t1, v1⟩, ⟨h2, .str n2 t2, v2⟩] = some none := by
  refine ⟨?_, fun h => ?_, fun nm h h' => ?_⟩
  · simp [getL, isStr_self]
  · simp [getL, isStr_self, isStr_other h]
  · simp [getL, isStr_other h, isStr_other h', DictEntry.refKey]
def attrOf (n1 n2 : Str) (a1 a2 : AV) (nm : Str) : Option AV := if n1 == nm then some a1 else if n2 == nm then some a2 else none
section
variable {n u : Nat} {Γ : Cx n u} {cn : Str} {cs : Scope} {ca : Addr} {ccd : Value} {env : Env} {ρ ρ' : Nms} {σ σ₁ σ₂ τ pre post pre' post' : Sto} {m : Str → Option Value} {mu imm : List (Addr × Obj)} {h h' : Heap} {tk : Nat} {E : Value → Shared → Prop}
  {e l r f : Expr} {a b a1 a2 : AV} {ls l0 : List AV} {i j k : Int} {p : Addr} {pos px pa ps : Pos} {x y nm n1 n2 : Str} {rest : List Stmt} {R : AV → Sto → Prop} {F : Nms → Sto → Prop} {C : Addr} {v : Value} {es : List Expr} {as : List AV}
theorem Led.obj (L : Led Γ m σ mu imm h) (r : Rel (Γ.S imm) (.obj C n1 a1 n2 a2) v) : ∃ p d h1 h2 t1 t2 v1 v2, v = .ref p ∧ InstAt h p (instObj C d) C (some (dictOf [⟨h1, .str n1 t1, v1⟩, ⟨h2, .str n2 t2, v2⟩] 2)) ∧ Rel (Γ.S imm) a1 v1 ∧ Rel (Γ.S imm) a2 v2 := by
  obtain ⟨p, d, o, v1, v2, ⟨rfl, hp, h1, h2, t1, t2, rfl⟩, hd, r1, r2⟩ := r
  exact ⟨p, d, h1, h2, t1, t2, v1, v2, rfl, ⟨L.get hp, rfl, rfl, L.get hd⟩, r1, r2⟩
/-- an attribute of an object -/
theorem EvA.attr (he : EvA Γ env ρ σ (.Name x px) (.obj C n1 a1 n2 a2) τ) (hn : attrOf n1 n2 a1 a2 nm = some b) (hb : notB b = true) (hg : ∀ w : World, plainGet (hd.heap_1 w.params) C nm = true) (hh : ∀ w : World, hasDictIn (hd.heap_1 w.params) C = true) (hf : ∀ w : World, findIn (hd.heap_1 w.params) (.ref C) nm = some none) :
    EvA Γ env ρ σ (.Attribute (.Name x px) nm pos) b τ := by
  refine ⟨fun m mu imm h tk E Q L N q => Attribute_name (he.run _ _ _ _ _ _ _ L N fun v h₁ tk₁ i₁ L₁ k₁ r₁ => ?_)⟩
  obtain ⟨p, d, h1, h2, t1, t2, v1, v2, rfl, I, r1, r2⟩ := L₁.obj r₁
  have fin : ∀ w, getL nm [⟨h1, .str n1 t1, v1⟩, ⟨h2, .str n2 t2, v2⟩] = some (some w) → Rel (Γ.S i₁) b w → wpAny Γ.M Γ.A (getAttr (.ref p) nm true) Q E (Γ.st h₁ tk₁) := fun w hw hr =>
    get_own (s := Γ.st h₁ tk₁) L₁.F Γ.X I (hg _) (hh _) (hf _) rfl hw (handed_rel hb hr) (q _ _ _ i₁ L₁ k₁ hr)
  unfold attrOf at hn
  by_cases c1 : (n1 == nm) = true
  · rw [if_pos c1] at hn
    cases hn
    obtain rfl := eq_of_beq c1
    exact fin v1 getL_two.1 r1
  · rw [if_neg c1] at hn
    by_cases c2 : (n2 == nm) = true
    · rw [if_pos c2] at hn
      cases hn
      obtain rfl := eq_of_beq c2
      exact fin v2 (getL_two.2.1 (by simpa using c1)) r2
    · rw [if_neg c2] at hn; cases hn
/-- a method of an object, called with a piece of the store -/
theorem EvR.meth {F : Addr} {n' u' : Nat} {P : AV → Sto → Prop} (he : EvA Γ env ρ σ (.Name x px) (.obj C n1 a1 n2 a2) σ) (ha : ArA Γ env ρ σ (e :: es) as (pre ++ (σ₁ ++ post))) (hs : FnR n' u' F (.obj C n1 a1 n2 a2 :: as) σ₁ R) (hP : ∀ a τ, R a τ → P a (pre ++ (τ ++ post)))
    (hg : ∀ w : World, plainGet (hd.heap_1 w.params) C nm = true) (hf : ∀ w : World, findIn (hd.heap_1 w.params) (.ref C) nm = some (some (.ref F))) (ht : ∀ w : World, isFn (hd.heap_1 w.params) (.ref F) = true) (hk : ∀ w : World, keepIn (hd.heap_1 w.params) (.ref F) = true)
    (hn1 : (n1 == nm) = false) (hn2 : (n2 == nm) = false) (hp : (e :: es).all noStar = true) (hn : n' + 1 ≤ n) (hu : u' + 3 ≤ u) {pl : Sem Bool}
    (he' : eval (.Call (.Attribute (.Name x px) nm pa) (e :: es) [] pos) env = (do
      let ov ← eval (.Name x px) env
      standAt pa.atName
      let (f, first) ← holding [ov] (getMethod ov nm pl)
      callWith pos f first (backTo pos (starEach (e :: es) env)) [])) : EvR Γ env ρ σ (.Call (.Attribute (.Name x px) nm pa) (e :: es) [] pos) P := by
  refine ⟨fun m mu imm h tk E Q L N q => MethodCall_ (he := he') (he.run _ _ _ _ _ _ _ L N fun v h₁ tk₁ i₁ L₁ k₁ r₁ => ?_)⟩
  obtain ⟨p, d, h1, h2, t1, t2, v1, v2, e1, I, r1, r2⟩ := L₁.obj r₁
  subst e1
  have hp' := hp
  rw [List.all_cons, Bool.and_eq_true] at hp'
  refine method_inst (s := Γ.st h₁ tk₁) L₁.F Γ.X I (hg _) (hf _) (ht _) (getL_two.2.2 _ hn1 hn2) ?_
  refine callWith_K Γ.X (hk _) (ha.run _ _ _ _ _ _ _ _ L₁ (N.mono k₁) fun vs h₂ tk₂ i₂ L₂ k₂ r₂ => ⟨frag_keeps Γ.X L₂.F.keep, ?_⟩) (noStar_eq hp'.1) (plain_args hp'.2)
  exact call_R hs hn hu L₂ (.cons (r₁.mono (Cx.S_mono k₂)) r₂) fun b τ' hR => ((q _ _ (hP b τ' hR)).mono k₁).mono k₂
theorem EvA.meth {F : Addr} {n' u' : Nat} (he : EvA Γ env ρ σ (.Name x px) (.obj C n1 a1 n2 a2) σ) (ha : ArA Γ env ρ σ (e :: es) as (pre ++ (σ₁ ++ post))) (hs : FnR n' u' F (.obj C n1 a1 n2 a2 :: as) σ₁ (Is a τ))
    (hg : ∀ w : World, plainGet (hd.heap_1 w.params) C nm = true) (hf : ∀ w : World, findIn (hd.heap_1 w.params) (.ref C) nm = some (some (.ref F))) (ht : ∀ w : World, isFn (hd.heap_1 w.params) (.ref F) = true) (hk : ∀ w : World, keepIn (hd.heap_1 w.params) (.ref F) = true)
    (hn1 : (n1 == nm) = false) (hn2 : (n2 == nm) = false) (hp : (e :: es).all noStar = true) (hn : n' + 1 ≤ n) (hu : u' + 3 ≤ u) {pl : Sem Bool}
    (he' : eval (.Call (.Attribute (.Name x px) nm pa) (e :: es) [] pos) env = (do
      let ov ← eval (.Name x px) env
      standAt pa.atName
      let (f, first) ← holding [ov] (getMethod ov nm pl)
      callWith pos f first (backTo pos (starEach (e :: es) env)) [])) : EvA Γ env ρ σ (.Call (.Attribute (.Name x px) nm pa) (e :: es) [] pos) a (pre ++ (τ ++ post)) :=
  have := EvR.meth (P := Is a (pre ++ (τ ++ post))) (px := px) (pos := pos) he ha hs (fun b τ' hR => by obtain ⟨rfl, rfl⟩ := hR; exact ⟨rfl, rfl⟩) hg hf ht hk hn1 hn2 hp hn hu he'
  ⟨fun _ _ _ _ _ _ _ L N q => this.run _ _ _ _ _ _ _ L N fun b τ' hR => by obtain ⟨rfl, rfl⟩ := hR; exact q⟩
theorem EvA.methE {F : Addr} {n' u' : Nat} (he : EvA Γ env ρ σ (.Name x px) (.obj C n1 a1 n2 a2) σ) (ha : ArA Γ env ρ σ (e :: es) as σ₂) (hs : FnR n' u' F (.obj C n1 a1 n2 a2 :: as) σ₁ (Is a τ)) (q1 : σ₂ = pre ++ (σ₁ ++ post)) {τ₂ : Sto} (q2 : pre ++ (τ ++ post) = τ₂)
    (hg : ∀ w : World, plainGet (hd.heap_1 w.params) C nm = true) (hf : ∀ w : World, findIn (hd.heap_1 w.params) (.ref C) nm = some (some (.ref F))) (ht : ∀ w : World, isFn (hd.heap_1 w.params) (.ref F) = true) (hk : ∀ w : World, keepIn (hd.heap_1 w.params) (.ref F) = true)
    (hn1 : (n1 == nm) = false) (hn2 : (n2 == nm) = false) (hp : (e :: es).all noStar = true) (hn : n' + 1 ≤ n) (hu : u' + 3 ≤ u) {pl : Sem Bool}
    (he' : eval (.Call (.Attribute (.Name x px) nm pa) (e :: es) [] pos) env = (do
      let ov ← eval (.Name x px) env
      standAt pa.atName
      let (f, first) ← holding [ov] (getMethod ov nm pl)
      callWith pos f first (backTo pos (starEach (e :: es) env)) [])) : EvA Γ env ρ σ (.Call (.Attribute (.Name x px) nm pa) (e :: es) [] pos) a τ₂ := by
  subst q1 q2
  exact EvA.meth he ha hs hg hf ht hk hn1 hn2 hp hn hu he'
/-- an attribute of an object in the making is set -/
theorem insL_new {S : Kn} {hsh : Int} {key v : Value} : ∀ {l : List (Str × AV)} {es : List DictEntry}, InsL S l es → (l.all fun q => !(q.1 == nm)) = true → getL nm es = some none ∧ putL nm hsh key v es = es ++ [⟨hsh, key, v⟩] ∧ es.any (·.key.isStr nm) = false ∧ es.length = l.length
  | [], es, h, _ => by obtain rfl : es = [] := h; exact ⟨rfl, rfl, rfl, rfl⟩
  | (x, a) :: l, es, ⟨h, t, w, r, e, _, z⟩, hc => by
    subst e
    rw [List.all_cons, Bool.and_eq_true] at hc
    have hx : (x == nm) = false := by simpa using hc.1
    obtain ⟨h1, h2, h3, h4⟩ := insL_new (hsh := hsh) (key := key) (v := v) z hc.2
    refine ⟨?_, ?_, ?_, ?_⟩
    · unfold getL at h1 ⊢
      rw [List.find?_cons_of_neg (by simp [isStr_other hx])]
      simpa [List.any_cons, DictEntry.refKey] using h1
    · simp only [putL, isStr_other hx, Bool.false_eq_true, if_false, h2, List.cons_append]
    · rw [List.any_cons, h3, isStr_other hx]; rfl
    · rw [List.length_cons, List.length_cons, h4]
theorem insL_snoc {S : Kn} {hsh : Int} {t : Tok} {v : Value} (r : Rel S a v) : ∀ {l : List (Str × AV)} {es : List DictEntry}, InsL S l es → InsL S (l ++ [(nm, a)]) (es ++ [⟨hsh, .str nm t, v⟩])
  | [], es, h => by obtain rfl : es = [] := h; exact ⟨hsh, t, v, [], rfl, r, rfl⟩
  | (x, b) :: l, es, ⟨h, t', w, es', e, q, z⟩ => by subst e; exact ⟨h, t', w, _, rfl, q, insL_snoc r z⟩
end

end
section
theorem upd_of {d : Addr} {o o' : Obj} {B : List (Addr × Obj)} (hB : ∀ q ∈ B, q.1 ≠ d) : ∀ {A : List (Addr × Obj)}, (∀ q ∈ A, q.1 ≠ d) → Upd d o o' (A ++ (d, o) :: B) (A ++ (d, o') :: B)
  | [], _ => .head hB
  | _ :: _, h => .tail (h _ (.head _)) (upd_of hB fun q hq => h q (.tail _ hq))
section
variable {n u : Nat} {Γ : Cx n u} {cn : Str} {cs : Scope} {ca : Addr} {ccd : Value} {env : Env} {ρ : Nms} {σ σ₁ τ pre post : Sto} {m : Str → Option Value} {mu imm : List (Addr × Obj)} {h h' : Heap} {tk : Nat}
  {e : Expr} {a : AV} {p C dx : Addr} {pos px pa : Pos} {x nm n1 n2 f : Str} {rest : List Stmt} {R : AV → Sto → Prop} {F : Nms → Sto → Prop} {es : List Expr} {as : List AV} {l : List (Str × AV)} {P : AV → Sto → Prop}
theorem RuB.setAttrR (he : EvR Γ (envOfC cn cs Γ.L ca ccd) ρ σ e P) (hf : ∀ σ', EvA Γ (envOfC cn cs Γ.L ca ccd) ρ σ' (.Name x px) (.lit (.ref p)) σ')
    (hs : ∀ w : World, findIn (hd.heap_1 w.params) (.ref C) "__setattr__" = some (some (.builtin "object.__setattr__"))) (hp : ∀ w : World, plainOver (hd.heap_1 w.params) C = true) (ht : ∀ w : World, takerIn (hd.heap_1 w.params) C nm = some none)
    (hh : ∀ w : World, hasDictIn (hd.heap_1 w.params) C = true) (hw : swapsWith e (some (.Attribute (.Name x px) nm pa)) pos.line (envOfC cn cs Γ.L ca ccd) = pure false)
    (hb : ∀ a τ, P a τ → ∃ pre l post, τ = pre ++ (p, .raw (instObj C dx)) :: (dx, .ins l) :: post ∧ (l.all fun q => !(q.1 == nm)) = true ∧ l.length ≤ 900 ∧ RuB Γ cn cs ca ccd ρ (pre ++ (p, .raw (instObj C dx)) :: (dx, .ins (l ++ [(nm, a)])) :: post) rest R F) : RuB Γ cn cs ca ccd ρ σ (.Assign [.Attribute (.Name x px) nm pa] e pos :: rest) R F := by
  refine ⟨fun m cm mu imm h tk Q L Y O rr ff => wpAny_execs_cons (plainObj_wpAny_Assign_Attribute (he.run _ _ _ _ _ _ _ L (O.nm Y.are) fun a τ hP v h₁ tk₁ i₁ L₁ k₁ r₁ => (hf τ).run _ _ _ _ _ _ _ L₁ ((O.nm Y.are).mono k₁) fun w h₂ tk₂ i₂ L₂ k₂ r₂ => ?_) hw)⟩
  obtain ⟨pre, l, post, rfl, hl, hz, hb⟩ := hb a τ hP
  obtain rfl := r₂.ofLit
  obtain ⟨st, S, N, nd⟩ := L₂.ex
  obtain ⟨s1, s2, rfl, S1, S2⟩ := S.split
  obtain ⟨o1, r', rfl, hc1, S3⟩ := S2.ofCons
  obtain ⟨o2, s3, rfl, ⟨es, rfl, hI⟩, S4⟩ := S3.ofCons
  obtain rfl : o1 = _ := hc1
  have e0 : (s1 ++ (p, instObj C dx) :: (dx, dictOf es l.length) :: s3) ++ (mu ++ i₂) = (s1 ++ [(p, instObj C dx)]) ++ (dx, dictOf es l.length) :: (s3 ++ (mu ++ i₂)) := by simp
  rw [e0] at N nd
  have P := (List.perm_middle (a := (dx, dictOf es l.length)) (l₁ := s1 ++ [(p, instObj C dx)]) (l₂ := s3 ++ (mu ++ i₂)))
  have nd' := (P.map (fun p : Addr × Obj => p.1)).nodup_iff.mp nd
  rw [List.map_cons, List.nodup_cons] at nd'
  have off : ∀ q ∈ (s1 ++ [(p, instObj C dx)]) ++ (s3 ++ (mu ++ i₂)), q.1 ≠ dx := fun q hq e => nd'.1 (List.mem_map.mpr ⟨q, hq, e⟩)
  obtain ⟨g1, g2, g3, g4⟩ := insL_new (nm := nm) (hsh := PyData.keyHash Γ.w.params nm) (key := .str nm (tk₂ + 1)) (v := v) hI hl
  refine set_dict (s := Γ.st h₂ tk₂) (n := l.length) (n' := l.length + 1) (es' := es ++ [⟨PyData.keyHash Γ.w.params nm, .str nm (tk₂ + 1), v⟩]) L₂.F Γ.X N ⟨(N (p, instObj C dx) (by simp)).1, rfl, rfl, (N (dx, dictOf es l.length) (by simp)).1⟩ rfl (hs _) (hp _) (ht _) (hh _) (by rw [g1]; rfl)
    (by rw [g2]; unfold putN; rw [g3]; rfl) (upd_of (fun q hq => off q (List.mem_append_right _ hq)) fun q hq => off q (List.mem_append_left _ hq)) (by rw [List.length_append, g4, List.length_singleton]; omega) fun h' F' N' => ?_
  refine hb.run m cm mu i₂ h' _ Q (Led.of (st := s1 ++ (p, instObj C dx) :: (dx, dictOf (es ++ [⟨PyData.keyHash Γ.w.params nm, .str nm (tk₂ + 1), v⟩]) (l.length + 1)) :: s3) F' (S1.app (.cons rfl (.cons ⟨_, by rw [List.length_append, List.length_singleton], insL_snoc (r₁.mono (Cx.S_mono k₂)) hI⟩ S4))) N' ?_ (by simp)) Y ((O.mono k₁).mono k₂) rr ((ff.mono k₁).mono k₂)
  simpa using nd
/-- an object is made -/
theorem EvR.make {fI : Addr} {n' u' : Nat} {PP : AV → AV → Sto → Prop} (hf : EvA Γ env ρ σ (.Name f px) (.lit (.ref C)) σ) (ha : ArA Γ env ρ σ (e :: es) as σ₁)
    (hI : ∀ x dx : Addr, FnR n' u' fI (.lit (.ref x) :: as) [(x, .raw (instObj C dx)), (dx, .ins [])] (fun v τ => v = .none ∧ ∃ a1 a2 τ', τ = τ' ++ [(x, .raw (instObj C dx)), (dx, .ins [(n1, a1), (n2, a2)])] ∧ PP a1 a2 τ'))
    (hP : ∀ a1 a2 τ', PP a1 a2 τ' → P (.obj C n1 a1 n2 a2) (τ' ++ σ₁)) (hm : ∀ w : World, makesIn (hd.heap_1 w.params) C = true) (hi : ∀ w : World, findIn (hd.heap_1 w.params) (.ref C) "__init__" = some (some (.ref fI))) (ht : ∀ w : World, isFn (hd.heap_1 w.params) (.ref fI) = true)
    (hk : ∀ w : World, keepIn (hd.heap_1 w.params) (.ref C) = true) (hp : (e :: es).all noStar = true) (hn : n' + 1 ≤ n) (hu : u' + 4 ≤ u) : EvR Γ env ρ σ (.Call (.Name f px) (e :: es) [] pos) P := by
  refine ⟨fun m mu imm h tk E Q L N q => Call_ (hf.run _ _ _ _ _ _ _ L N fun v h₁ tk₁ i₁ L₁ k₁ r₁ => ?_)⟩
  obtain rfl := r₁.ofLit
  have hp' := hp
  rw [List.all_cons, Bool.and_eq_true] at hp'
  refine callWith_K Γ.X (hk _) (ha.run _ _ _ _ _ _ _ _ L₁ (N.mono k₁) fun vs h₂ tk₂ i₂ L₂ k₂ r₂ => ⟨frag_keeps Γ.X L₂.F.keep, ?_⟩) (noStar_eq hp'.1) (plain_args hp'.2)
  obtain ⟨st, S, N₂, nd⟩ := L₂.ex
  refine call_cls (s := Γ.st h₂ tk₂) L₂.F Γ.X N₂ (hm _) (hi _) (ht _) fun x dx h' F' N' l1 l2 => ?_
  have nd' : ((((x, instObj C dx) :: (dx, dictOf [] 0) :: st) ++ (mu ++ i₂)).map (·.1)).Nodup := by
    rw [List.cons_append, List.cons_append, List.map_cons, List.map_cons, List.nodup_cons, List.nodup_cons]
    refine ⟨fun hx => ?_, fun hx => ?_, nd⟩
    · rcases List.mem_cons.mp hx with e | hx
      · exact Nat.ne_of_gt l2 e
      · obtain ⟨q, hq, e⟩ := List.mem_map.mp hx
        exact Nat.ne_of_lt (Nat.lt_trans (l1 q hq) l2) e
    · obtain ⟨q, hq, e⟩ := List.mem_map.mp hx
      exact Nat.ne_of_lt (l1 q hq) e
  have L' : Led Γ m ([] ++ ([(x, .raw (instObj C dx)), (dx, .ins [])] ++ σ₁)) mu i₂ h' := ⟨F', _, .cons rfl (.cons ⟨[], rfl, rfl⟩ S), N', nd'⟩
  refine (show codeAny Γ.M { handled := none, depth := Γ.dp + 1, frames := _, guards := _, units := Γ.un + 1 } _ _ _ from code_R (hI x dx) ?_ ?_ L' (.cons (Rel.lit _) r₂) fun v τ hR v' h₃ tk₃ i₃ L₃ k₃ r₃ => ?_)
  · have h1 := Γ.room
    have h2 : 20 * (n' + 1) ≤ 20 * n := Nat.mul_le_mul_left _ hn
    omega
  · have h1 := Γ.units; omega
  · obtain ⟨rfl, a1, a2, τ', rfl, hPP⟩ := hR
    refine ⟨r₃, ?_⟩
    have e1 : [] ++ (τ' ++ [(x, .raw (instObj C dx)), (dx, .ins [(n1, a1), (n2, a2)])] ++ σ₁) = τ' ++ (x, .raw (instObj C dx)) :: (dx, .ins [(n1, a1), (n2, a2)]) :: σ₁ := by simp
    rw [e1] at L₃
    obtain ⟨o1, hc1, L₄⟩ := L₃.freeze
    obtain ⟨o2, ⟨es', rfl, b1, t1, v1, r', e2, q1, b2, t2, v2, r'', e3, q2, e4⟩, L₅⟩ := L₄.freeze
    obtain rfl : o1 = _ := hc1
    obtain rfl : r'' = [] := e4
    subst e3 e2
    exact q _ _ (hP a1 a2 τ' hPP) _ h₃ tk₃ _ L₅ (fun y hy => .tail _ (.tail _ (k₃ y (k₂ y (k₁ y hy))))) ⟨x, dx, _, v1, v2, ⟨rfl, .inr (.tail _ (.head _)), b1, b2, t1, t2, rfl⟩, .inr (.head _), q1.mono (Cx.S_mono up1), q2.mono (Cx.S_mono up1)⟩
end

end
section
section
variable {prog : Program} {w : World} {K : Type} [DecidableEq K] {knd : KeyKind prog w K} {A : Around} {E : Value → Shared → Prop} {s : Shared} {h₀ : Heap} {L d : Addr} {m : Str → Option Value} {kvs : List (K × Value)} {k : K} {key v dflt : Value}
theorem dict_get2 {Q : Value → Shared → Prop} (hD : s.heap.DictOf knd d kvs) (lo : (d == sysModules) = false) (hkey : knd.is k key = true) (h : Q ((valueAt kvs k).getD dflt) { s with toks := s.toks + 1 }) :
    wpAny (model prog w) A (call (.builtin "dict.get") [.ref d, key, dflt]) Q E s :=
  call_meetsIn PySem.F.slot_dict_get hD.typeIs PySem.F.entry_dict_get (PySem.F.args_dict_get_3 _ _ _) (meets_dict_get_default knd d hkey lo dflt) ⟨_, hD.mapOf, h⟩
end
theorem valueAt_same {K : Type} [DecidableEq K] {kvs : List (K × Value)} {k : K} {v : Value} : valueAt (stored kvs k v) k = some v := by
  unfold stored valueAt
  split
  · rename_i h
    induction kvs with
    | nil => simp at h
    | cons p r ih =>
      by_cases e : p.1 = k
      · simp [e]
      · have h' : (r.any fun kv => decide (kv.1 = k)) = true := by simpa [e] using h
        have := ih h'
        simpa [e] using this
  · rename_i h
    have h' : ∀ p ∈ kvs, ¬ p.1 = k := fun p hp e => h (List.any_eq_true.mpr ⟨p, hp, by simp [e]⟩)
    have : kvs.find? (fun kv => decide (kv.1 = k)) = none := List.find?_eq_none.mpr fun p hp => by simpa using h' p hp
    simp [List.find?_append, this]
theorem valueAt_other {K : Type} [DecidableEq K] {kvs : List (K × Value)} {k j : K} {v : Value} (hj : j ≠ k) : valueAt (stored kvs k v) j = valueAt kvs j := by
  unfold stored valueAt
  split
  · rename_i h; clear h
    induction kvs with
    | nil => rfl
    | cons p r ih =>
      by_cases e : p.1 = k
      · have e2 : ¬ k = j := fun q => hj q.symm
        have e3 : ¬ p.1 = j := by rw [e]; exact e2
        simpa [e, e2, e3] using ih
      · by_cases e3 : p.1 = j
        · rw [List.map_cons, if_neg e]
          simp only [List.find?_cons]
          rw [decide_eq_true e3]
        · rw [List.map_cons, if_neg e]
          simp only [List.find?_cons]
          rw [decide_eq_false e3]
          exact ih
  · have e2 : ¬ k = j := fun q => hj q.symm
    simp [List.find?_append, e2]
theorem stored_len {K : Type} [DecidableEq K] {kvs : List (K × Value)} {k : K} {v : Value} : (stored kvs k v).length ≤ kvs.length + 1 := by
  unfold stored
  split <;> simp

end
section
section
variable {n u : Nat} {Γ : Cx n u} {cn : Str} {cs : Scope} {ca : Addr} {ccd : Value} {env : Env} {ρ : Nms} {σ σ₁ σ₂ τ pre post pre' post' : Sto} {m : Str → Option Value} {mu imm : List (Addr × Obj)} {h h' : Heap} {tk : Nat}
  {e o ie value slice : Expr} {a b : AV} {p : Addr} {pos px pa ps : Pos} {rest : List Stmt} {R : AV → Sto → Prop} {F : Nms → Sto → Prop} {es : List Expr} {k : Int} {l l0 : List (Int × AV)} {P : AV → Sto → Prop}
/-- an empty dict: a new place -/
theorem EvR.dict0 (hp : ∀ p, P (.lit (.ref p)) ((p, .dic []) :: σ)) : EvR Γ env ρ σ (.Dict [] [] pos) P :=
  ⟨fun m mu imm h tk E Q L N q => by
    obtain ⟨st, S, N', nd⟩ := L.ex
    refine newDict_K (s := Γ.st h tk) (prog := PG) (w := Γ.w) L.F N' Γ.T.nolimit fun d h' ob F' N'' lt lo _ _ hd _ => ?_
    refine q _ _ (hp d) _ _ _ imm ⟨F', _, .cons ⟨[], hd, lo, Nat.le_refl _, fun k => ⟨(fun a e => by cases e), fun _ => rfl⟩⟩ S, N'', ?_⟩ (fun _ p => p) (Rel.lit _)
    rw [List.cons_append, List.map_cons, List.nodup_cons]
    refine ⟨fun hx => ?_, nd⟩
    obtain ⟨q, hq, e⟩ := List.mem_map.mp hx
    exact Nat.ne_of_lt (lt q hq) e⟩
/-- what a dict of the store has at a number -/
theorem Led.dicAt (L : Led Γ m (pre ++ (p, .dic l) :: post) mu imm h) (k : Int) : ∃ kvs : List (Int × Value), h.DictOf (PySem.intKind PG Γ.w) p kvs ∧ (p == sysModules) = false ∧ kvs.length ≤ l.length ∧ (∀ a, l.lookup k = some a → ∃ v, valueAt kvs k = some v ∧ Rel (Γ.S imm) a v) ∧ (l.lookup k = none → valueAt kvs k = none) := by
  obtain ⟨o, ho, kvs, hd, lo, hl, hk⟩ := L.at
  exact ⟨kvs, Heap.dictOf_iff.mpr ⟨o, ho, hd⟩, lo, hl, (hk k).1, (hk k).2⟩
/-- d.get(k, b) -/
theorem EvA.dget (h1 : EvA Γ env ρ σ o (.lit (.ref p)) (pre' ++ (p, .dic l0) :: post')) (h2 : ArA Γ env ρ (pre' ++ (p, .dic l0) :: post') (e :: es) [.int k, b] (pre ++ (p, .dic l) :: post)) (hp : (e :: es).all noStar = true) {pl : Sem Bool}
    (he : eval (.Call (.Attribute o (Str.ofString "get") pa) (e :: es) [] pos) env = (do
      let ov ← eval o env
      standAt pa.atName
      let (f, first) ← holding [ov] (getMethod ov (Str.ofString "get") pl)
      callWith pos f first (backTo pos (starEach (e :: es) env)) [])) : EvA Γ env ρ σ (.Call (.Attribute o (Str.ofString "get") pa) (e :: es) [] pos) ((l.lookup k).getD b) (pre ++ (p, .dic l) :: post) :=
  ⟨fun _ _ _ _ _ _ _ L N q => MethodCall_ (he := he) (h1.run _ _ _ _ _ _ _ L N fun v h₁ tk₁ i₁ L₁ k₁ r₁ => by
    obtain rfl := r₁.ofLit
    have hp' := hp
    rw [List.all_cons, Bool.and_eq_true] at hp'
    obtain ⟨kvs0, hD0, _⟩ := L₁.dicAt k
    refine getMethod_builtin (s := Γ.st _ tk₁) hD0.typeIs PySem.F.plainAttrs_dict PySem.F.slot_dict_get PySem.F.type_dict_get hD0.mapOf.noDict ?_
    refine callWith_method1 (h2.run _ _ _ _ _ _ _ _ L₁ (N.mono k₁) fun ws h₂ tk₂ i₂ L₂ k₂ r₂ => ?_) (noStar_eq hp'.1) (plain_args hp'.2)
    obtain ⟨_, w, rfl, ra, rb⟩ := r₂.two
    obtain ⟨t, rfl⟩ := ra.ofInt
    obtain ⟨kvs, hD, lo, _, g1, g2⟩ := L₂.dicAt k
    refine dict_get2 (s := Γ.st h₂ tk₂) hD lo (intKind_is _ _ _ _) ?_
    refine q _ _ _ i₂ L₂ (fun p hp => k₂ p (k₁ p hp)) ?_
    cases hk : l.lookup k with
    | none => rw [g2 hk]; exact rb
    | some a => obtain ⟨v, hv, r⟩ := g1 a hk; rw [hv]; exact r)⟩
/-- d[k] -/
theorem dic_A (hx : l.lookup k = some a) (hs : plainSlice slice = true) : BinA Γ (pre ++ (p, .dic l) :: post) (subscriptTail value slice) (.lit (.ref p)) (.int k) a := by
  intro m mu imm h tk E Q v w L ra rb q
  obtain rfl := ra.ofLit
  obtain ⟨t, rfl⟩ := rb.ofInt
  obtain ⟨kvs, hD, lo, _, g1, _⟩ := L.dicAt k
  obtain ⟨v, hv, r⟩ := g1 a hx
  exact tail_any hD.typeIs slot_dict_getitem.lookup (wpAny_getItem_of (s := Γ.st h tk) (intKind_is _ _ _ _) hD.mapOf hv (q _ _ _ imm L (fun _ p => p) r)) (plainSlice_eq hs)
/-- d[k] = e -/
theorem RuB.setD {f : Expr} (he : EvA Γ (envOfC cn cs Γ.L ca ccd) ρ σ e a σ₁) (hf : EvA Γ (envOfC cn cs Γ.L ca ccd) ρ σ₁ f (.lit (.ref p)) σ₂) (hi : EvA Γ (envOfC cn cs Γ.L ca ccd) ρ σ₂ ie (.int k) (pre ++ (p, .dic l) :: post))
    (hz : l.length ≤ 1000) (hs : swapsWith e (some (.Subscript f ie ps)) pos.line (envOfC cn cs Γ.L ca ccd) = pure false)
    (hb : RuB Γ cn cs ca ccd ρ (pre ++ (p, .dic ((k, a) :: l)) :: post) rest R F) : RuB Γ cn cs ca ccd ρ σ (.Assign [.Subscript f ie ps] e pos :: rest) R F := by
  refine ⟨fun _ _ _ _ _ _ _ L Y O rr ff => wpAny_execs_cons (wpAny_Assign_Subscript (he.run _ _ _ _ _ _ _ L (O.nm Y.are) fun v h₁ tk₁ i₁ L₁ k₁ r₁ => hf.run _ _ _ _ _ _ _ L₁ ((O.nm Y.are).mono k₁) fun w h₂ tk₂ i₂ L₂ k₂ r₂ =>
    hi.run _ _ _ _ _ _ _ L₂ (((O.nm Y.are).mono k₁).mono k₂) fun z h₃ tk₃ i₃ L₃ k₃ r₃ => ?_) hs)⟩
  obtain rfl := r₂.ofLit
  obtain ⟨t, rfl⟩ := r₃.ofInt
  obtain ⟨o, ho, kvs, hd, lo, hl, hk⟩ := L₃.at
  refine wpAny_setItem_pairs (s := Γ.st h₃ tk₃) (knd := PySem.intKind PG Γ.w) (hsz := by rw [sizeLine_eq]; omega) (intKind_is _ _ _ _) (Heap.dictOf_iff.mpr ⟨o, ho, hd⟩) fun h' hmm hsb => ?_
  obtain ⟨o', ho', hd'⟩ := Heap.dictOf_iff.mp hmm
  have L₄ := L₃.set1 (c' := .dic ((k, a) :: l)) (h' := h') (fun b o hb e => hsb.extBut b o hb e) ho' ⟨_, hd', lo, Nat.le_trans stored_len (Nat.succ_le_succ hl), fun j => by
    rw [List.lookup_cons]
    cases hj : j == k with
    | true =>
      obtain rfl := eq_of_beq hj
      exact ⟨fun a' e => by cases e; exact ⟨v, valueAt_same, r₁.mono (Cx.S_mono fun x hx => k₃ x (k₂ x hx))⟩, fun e => by cases e⟩
    | false =>
      have hne : j ≠ k := fun q => by rw [q] at hj; simp at hj
      rw [valueAt_other hne]
      exact hk j⟩
  exact hb.run _ _ _ _ _ _ _ L₄ Y (((O.mono k₁).mono k₂).mono k₃) rr (((ff.mono k₁).mono k₂).mono k₃)
end

end
section
section
variable {n u : Nat} {Γ : Cx n u} {σ : Sto} {slice value : Expr} {a c : AV} {l : List AV} {k : Int}
/-- an item of a list, whatever gave the list -/
theorem lstT_A {p : Nat} (hl : AtL σ a l) (hk : k = (p : Int)) (hx : l[p]? = some c) (hz : l.length ≤ 1000) (hs : plainSlice slice = true) : BinA Γ σ (subscriptTail value slice) a (.int k) c := by
  subst hk
  intro m mu imm h tk E Q v w L ra rb q
  obtain ⟨t, vs, rfl, ht, r⟩ := L.lstAt hl ra
  obtain ⟨u, rfl⟩ := rb.ofInt
  obtain ⟨y, hy, ry⟩ := r.get hx
  have h2 := (List.getElem?_eq_some_iff.mp hy).1
  have h3 := r.length
  exact tail_any ht.typeIs slot_list_getitem.lookup (wpAny_getItem_list (s := Γ.st h tk) ht (by omega) (by omega) (by simpa using hy) (q _ _ _ imm L (fun _ p => p) ry)) (plainSlice_eq hs)
end
abbrev boxV (a : AV) (T : Addr) : AV := .obj 323 (Str.ofString "domains") a (Str.ofString "turned") (.lit (.ref T))
theorem words_s26_1 : True := by
  (k_with "my w9" => first
  | (with_reducible show (∀ _ : World, plainGet _ _ _ = _); intro w9; k_is)
  | (with_reducible show (∀ _ : World, hasDictIn _ _ = _); intro w9; k_is)
  | (with_reducible show (∀ _ : World, findIn _ _ _ = _); intro w9; k_is)
  | (with_reducible show (∀ _ : World, isFn _ _ = _); intro w9; k_is)
  | (with_reducible show (∀ _ : World, keepIn _ _ = _); intro w9; k_is)
  | (with_reducible show (∀ _ : World, makesIn _ _ = _); intro w9; k_is)
  | (with_reducible show (∀ _ : World, plainOver _ _ = _); intro w9; k_is)
  | (with_reducible show (∀ _ : World, takerIn _ _ _ = _); intro w9; k_is))
  (k_with "my eva" => (
  (with_reducible show EvA _ _ _ _ (Expr.Attribute (Expr.Name _ _) _ _) _ _)
  with_reducible apply EvA.attr
  focus walk_at "eva"
  focus exact rfl
  focus exact rfl
  focus walk_at "w9"
  focus walk_at "w9"
  focus walk_at "w9"))
  trivial
theorem box_init {x dx : Addr} {a : AV} : FnR 0 60 285 [.lit (.ref x), a] [(x, .raw (instObj 323 dx)), (dx, .ins [])] (fun v τ => v = .none ∧ ∃ a1 a2 τ', τ = τ' ++ [(x, .raw (instObj 323 dx)), (dx, .ins [(Str.ofString "domains", a1), (Str.ofString "turned", a2)])] ∧ a1 = a ∧ ∃ T, a2 = .lit (.ref T) ∧ τ' = [(T, .dic [])]) := by
  w_top off
  walk_at "enterA"
  refine RuB.setAttrR (P := Is a [(x, .raw (instObj 323 dx)), (dx, .ins [])]) (p := x) (C := 323) (dx := dx) ((EvA.name rfl).rel ⟨rfl, rfl⟩) (fun _ => EvA.name rfl) (by walk_at "w9") (by walk_at "w9") (by walk_at "w9") (by walk_at "w9") rfl ?_
  rintro _ _ ⟨e1, e2⟩
  rw [e1, e2]
  refine ⟨[], [], [], rfl, rfl, Nat.zero_le _, ?_⟩
  refine RuB.setAttrR (P := fun a' τ => ∃ T, a' = .lit (.ref T) ∧ τ = [(T, .dic []), (x, .raw (instObj 323 dx)), (dx, .ins [(Str.ofString "domains", a)])]) (p := x) (C := 323) (dx := dx) (EvR.dict0 fun T => ⟨T, rfl, rfl⟩) (fun _ => EvA.name rfl) (by walk_at "w9") (by walk_at "w9") (by walk_at "w9") (by walk_at "w9") rfl ?_
  rintro _ _ ⟨T, rfl, rfl⟩
  refine ⟨[(T, .dic [])], [(Str.ofString "domains", a)], [], rfl, by kernel_rfl!, Nat.le_of_ble_eq_true rfl, RuB.nil ⟨rfl, a, .lit (.ref T), [(T, .dic [])], rfl, rfl, T, rfl, rfl⟩⟩
/-- what is said of domains, as a dict -/
def dicV (s : List (Int × Dom)) : List (Int × AV) := s.map fun q => (q.1, domV q.2)
def cur (D : List Dom) (s : List (Int × Dom)) (x : Int) : Dom := (s.lookup x).getD (D.getD x.toNat [])
theorem dicV_look {x : Int} {d : Dom} : ∀ {s : List (Int × Dom)}, ((dicV s).lookup x).getD (domV d) = domV ((s.lookup x).getD d)
  | [] => rfl
  | (k, e) :: s => by
    show (List.lookup x ((k, domV e) :: dicV s)).getD (domV d) = _
    rw [List.lookup_cons, List.lookup_cons]
    cases x == k with
    | true => rfl
    | false => exact dicV_look
theorem domAt {D : List Dom} {x : Int} (h0 : 0 ≤ x) (h : x < (D.length : Int)) : (D.map domV)[x.toNat]? = some (domV (D.getD x.toNat [])) := by
  rw [List.getElem?_map, List.getD_eq_getElem?_getD, List.getElem?_eq_getElem (show x.toNat < D.length by omega)]; rfl
theorem domain_D {T : Addr} {D : List Dom} {s : List (Int × Dom)} {x : Int} (h0 : 0 ≤ x) (h3 : x < (D.length : Int)) (hz : D.length ≤ 10) : FnR 0 60 292 [boxV (.lst (D.map domV)) T, .int x] [(T, .dic (dicV s))] (Is (domV (cur D s x)) [(T, .dic (dicV s))]) := by
  w_top off
  walk_at "enterA"
  refine RuB.ret (EvA.eq (EvA.dget (p := T) (pre' := []) (post' := []) (pre := []) (post := []) (l0 := dicV s) (l := dicV s) (k := x) (b := domV (D.getD x.toNat [])) ?_ (ArA.cons (σ₁ := [(T, .dic (dicV s))]) ?_ (ArA.one (EvA.item (σ₁ := [(T, .dic (dicV s))]) (a := .lst (D.map domV)) (b := .int x) ?_ ?_ (lstT_A .imm (p := x.toNat) (by omega) (domAt h0 h3) (by rw [List.length_map]; omega) rfl)) rfl) rfl) rfl rfl) dicV_look) ⟨rfl, rfl⟩
  · walk_at "eva"
  · walk_at "eva"
  · walk_at "eva"
  · walk_at "eva"

end
section
section
variable {prog : Program} {w : World} {A : Around} {E : Value → Shared → Prop} {s : Shared} {h₀ : Heap} {L : Addr} {m : Str → Option Value} {news : List (Addr × Obj)}
theorem tup_ne_tree {a b : Addr} {its : Array Value} {P : PySem.Fin → Shared → Prop} (ha : IsTup s.heap a its) (hb : IsTup s.heap b #[])
    (h : P (.done (.ret (.bool (its.size != 0)))) s) :
    wpAny (model prog w) A (Builtin.«tuple.__ne__» ⟨[.ref a, .ref b], []⟩) P E s := by
  have hTb := IsTup_typeIs hb
  obtain ⟨oa, hoa, _, na, hda⟩ := ha
  obtain ⟨ob, hob, _, nb, hdb⟩ := hb
  show wpAny _ _ (isInstance (.ref b) (.type "tuple") >>= _) _ _ s
  refine wpAny_bind (wpAny_isInstance hTb isSubtype_tuple_tuple ?_)
  simp only [Bool.not_true, Bool.false_eq_true, if_false]
  refine wpAny_bind (wpAny_tupleItemsOf hoa hda ?_)
  refine wpAny_bind (wpAny_tupleItemsOf hob hdb ?_)
  refine wpAny_bind ?_
  simp only [List.zip_nil_right, List.forIn_nil]
  exact wpAny_pure (wpAny_pure h)
theorem ne_empty {a b : Addr} {its : Array Value} {Q : Value → Shared → Prop} (ha : IsTup s.heap a its) (hb : IsTup s.heap b #[]) (hu : A.units < cLine)
    (h : Q (.bool (its.size != 0)) s) : wpAny (model prog w) A (compareOp .NotEq (.ref a) (.ref b)) Q E s := by
  show wpAny _ _ (richCompare .NotEq (.ref a) (.ref b)) _ _ s
  exact wpAny_richCompare_same_room (op := .NotEq) (IsTup_typeIs ha) (IsTup_typeIs hb) PySem.F.slot_tuple_ne
    (wpAny_call_entry PySem.F.slot_tuple_ne (IsTup_typeIs ha) PySem.F.entry_tuple_ne (tup_ne_tree ha hb ⟨_, rfl, (fun e => nomatch e), h⟩) (PySem.F.args_tuple_ne_2 _ _)) hu
end

end
section
section
variable {n u : Nat} {Γ : Cx n u} {σ : Sto} {l : List AV}
theorem neE_A (hu : 1 ≤ u) : BinA Γ σ (compareOp .NotEq) (.tup l) (.tup []) (.bool (!l.isEmpty)) := by
  intro m mu imm h tk E Q v w L ra rb q
  obtain ⟨p, vs, rfl, ht, r⟩ := L.tup ra
  obtain ⟨p', ws, rfl, ht', r'⟩ := L.tup rb
  rw [r'.ofNil] at ht'
  have hl := r.length
  refine ne_empty (s := Γ.st h tk) ht ht' (by have := Γ.units; show Γ.un < cLine; omega) ?_
  have : (vs.toArray.size != 0) = !l.isEmpty := by rw [List.size_toArray, ← hl]; cases l <;> simp
  rw [this]
  exact q _ _ _ imm L (fun _ p => p) (Rel.bool _)
end
theorem domL_isEmpty {d : Dom} : (domL d).isEmpty = d.isEmpty := by cases d <;> rfl
theorem words_s27_1 : True := by
  (k_with "my dom9" => (
  refine EvA.callP (σ₁ := [(T, .dic (dicV s))]) (as := [litV x g k, domV (cur D s x)]) ?_ (ArA.cons (σ₁ := [(T, .dic (dicV s))]) ?_ (ArA.one (EvA.methE (σ₂ := [(T, .dic (dicV s))]) (pre := []) (post := []) (as := [.int x]) ?_ ?_ (domain_D h0 h3 hz) rfl rfl ?_ ?_ ?_ ?_ rfl rfl rfl ?_ ?_ rfl) rfl) rfl) (struck_A hd) ?_ rfl ?_ ?_
  focus walk_at "eva"
  focus walk_at "eva"
  focus walk_at "eva"
  focus walk_at "ara"
  focus walk_at "w9"
  focus walk_at "w9"
  focus walk_at "w9"
  focus walk_at "w9"
  focus walk_at "sid"
  focus walk_at "sid"
  focus walk_at "sid"
  focus walk_at "sid"
  focus walk_at "sid"))
  trivial
theorem can_hold_D {T : Addr} {D : List Dom} {s : List (Int × Dom)} {x k : Int} {g : Sgn} (h0 : 0 ≤ x) (h3 : x < (D.length : Int)) (hz : D.length ≤ 10) (hd : (cur D s x).length ≤ 400) :
    FnR 3 120 299 [boxV (.lst (D.map domV)) T, litV x g k] [(T, .dic (dicV s))] (Is (.bool (!(struckD g k (cur D s x)).isEmpty)) [(T, .dic (dicV s))]) := by
  w_top off
  rw [← domL_isEmpty]
  walk_at "enterA"
  refine RuB.ret (EvA.cmp (σ₁ := [(T, .dic (dicV s))]) (a := domV (struckD g k (cur D s x))) (b := .tup []) ?_ ?_ (neE_A (by decide)) rfl) ⟨rfl, rfl⟩
  · walk_at "dom9"
  · walk_at "eva"
theorem say_D {T : Addr} {D : List Dom} {s : List (Int × Dom)} {x k : Int} {g : Sgn} (h0 : 0 ≤ x) (h3 : x < (D.length : Int)) (hz : D.length ≤ 10) (hd : (cur D s x).length ≤ 400) (hs : s.length ≤ 900) :
    FnR 3 120 313 [boxV (.lst (D.map domV)) T, litV x g k] [(T, .dic (dicV s))] (Is (.bool (!(struckD g k (cur D s x)).isEmpty)) [(T, .dic (dicV ((x, struckD g k (cur D s x)) :: s)))]) := by
  w_top off
  rw [← domL_isEmpty]
  have hsl : (dicV s).length ≤ 1000 := by rw [dicV, List.length_map]; omega
  walk_at "enterA"
  refine RuB.setD (p := T) (σ₁ := [(T, .dic (dicV s))]) (σ₂ := [(T, .dic (dicV s))]) (pre := []) (post := []) (l := dicV s) (k := x) (a := domV (struckD g k (cur D s x))) ?_ ?_ ?_ hsl rfl ?_
  · walk_at "dom9"
  · walk_at "eva"
  · dsimp only [List.nil_append]
    walk_at "eva"
  dsimp only [List.nil_append]
  refine RuB.ret (τ := [(T, .dic ((x, domV (struckD g k (cur D s x))) :: dicV s))]) (EvA.cmp (σ₁ := [(T, .dic ((x, domV (struckD g k (cur D s x))) :: dicV s))]) (a := domV (struckD g k (cur D s x))) (b := .tup []) (EvA.item (σ₁ := [(T, .dic ((x, domV (struckD g k (cur D s x))) :: dicV s))]) (a := .lit (.ref T)) (b := .int x) ?_ ?_ (dic_A (pre := []) (post := []) (by rw [List.lookup_cons]; simp) rfl)) ?_ (neE_A (by decide)) rfl) ⟨rfl, rfl⟩
  · walk_at "eva"
  · walk_at "eva"
  · walk_at "eva"

end
section
/-- the values by a list of pairs, the last one wins -/
def valL (ps : List (Int × Int)) (f : Int → Int) : Int → Int := ps.foldl (fun f p => fun x => if x = p.1 then p.2 else f x) f
theorem valL_bound : ∀ {ps : List (Int × Int)} {f : Int → Int} {x : Int}, (∀ p ∈ ps, -1 ≤ p.2 ∧ p.2 ≤ 3) → (-1 ≤ f x ∧ f x ≤ 3) → -1 ≤ valL ps f x ∧ valL ps f x ≤ 3
  | [], f, x, _, h => h
  | p :: r, f, x, hp, h => by
    refine valL_bound (ps := r) (fun q hq => hp q (by simp [hq])) ?_
    have := hp p (by simp)
    dsimp only
    split <;> assumption
def allP : List (List Int) → List (List Int)
  | [] => [[]]
  | l :: ls => l.flatMap fun v => (allP ls).map (v :: ·)
def restP : List (List Int) → List Nat → List (List Int)
  | l :: ls, s :: ss => (restP ls ss).map (l.getD s 0 :: ·) ++ (l.drop (s + 1)).flatMap fun v => (allP ls).map (v :: ·)
  | _, _ => [[]]
def ptP : List (List Int) → List Nat → List Int
  | l :: ls, s :: ss => l.getD s 0 :: ptP ls ss
  | _, _ => []
def zerosP (ls : List (List Int)) : List Nat := ls.map fun _ => 0
def nextS : List (List Int) → List Nat → Option (List Nat)
  | l :: ls, s :: ss => match nextS ls ss with
    | some ss' => some (s :: ss')
    | none => if s + 1 < l.length then some ((s + 1) :: zerosP ls) else none
  | _, _ => none
def okP : List (List Int) → List Nat → Prop
  | l :: ls, s :: ss => s < l.length ∧ okP ls ss
  | [], [] => True
  | _, _ => False
theorem rest_zero : ∀ {ls : List (List Int)}, (∀ l ∈ ls, l ≠ []) → restP ls (zerosP ls) = allP ls
  | [], _ => rfl
  | l :: ls, h => by
    have ih := rest_zero (ls := ls) fun q hq => h q (by simp [hq])
    cases l with
    | nil => exact absurd rfl (h [] (by simp))
    | cons v r =>
      show (restP ls (zerosP ls)).map _ ++ _ = _
      rw [ih]; simp [allP]
theorem ok_zero : ∀ {ls : List (List Int)}, (∀ l ∈ ls, l ≠ []) → okP ls (zerosP ls)
  | [], _ => trivial
  | l :: ls, h => ⟨by
    have := h l (by simp)
    exact Nat.pos_of_ne_zero fun e => this (List.eq_nil_of_length_eq_zero e), ok_zero fun q hq => h q (by simp [hq])⟩
theorem rest_next : ∀ {ls : List (List Int)} {ss : List Nat}, (∀ l ∈ ls, l ≠ []) → okP ls ss → restP ls ss = ptP ls ss :: (match nextS ls ss with | some ss' => restP ls ss' | none => [])
  | [], [], _, _ => rfl
  | l :: ls, s :: ss, hn, h => by
    have ih := rest_next (ls := ls) (ss := ss) (fun q hq => hn q (by simp [hq])) h.2
    have hz := rest_zero (ls := ls) fun q hq => hn q (by simp [hq])
    show (restP ls ss).map _ ++ _ = (l.getD s 0 :: ptP ls ss) :: _
    rw [ih]
    have en : nextS (l :: ls) (s :: ss) = (match nextS ls ss with | some ss' => some (s :: ss') | none => if s + 1 < l.length then some ((s + 1) :: zerosP ls) else none) := rfl
    rw [en]
    cases hns : nextS ls ss with
    | some ss' =>
      simp only [List.map_cons, List.cons_append]
      rfl
    | none =>
      simp only [List.map_cons, List.map_nil, List.cons_append, List.nil_append]
      by_cases hs : s + 1 < l.length
      · rw [if_pos hs]
        rw [List.drop_eq_getElem_cons hs]
        show _ :: _ = _ :: ((restP ls (zerosP ls)).map _ ++ _)
        rw [hz, List.flatMap_cons]
        congr 2
        · rw [List.getD_eq_getElem?_getD, List.getElem?_eq_getElem hs]; rfl
      · rw [if_neg hs, List.drop_eq_nil_of_le (by omega)]
        rfl
  | [], _ :: _, _, h => h.elim
  | _ :: _, [], _, h => h.elim
theorem go_true {ls : List (List Int)} {ss : List Nat} {P : List Int → Bool} {T : Bool} (hn : ∀ l ∈ ls, l ≠ []) (h : okP ls ss) (hT : (restP ls ss).any P = T) (hp : P (ptP ls ss) = true) : T = true := by
  rw [← hT, rest_next hn h, List.any_cons, hp, Bool.true_or]
theorem go_none {ls : List (List Int)} {ss : List Nat} {P : List Int → Bool} {T : Bool} (hn : ∀ l ∈ ls, l ≠ []) (h : okP ls ss) (hT : (restP ls ss).any P = T) (hp : P (ptP ls ss) = false) (hs : nextS ls ss = none) : T = false := by
  rw [← hT, rest_next hn h, List.any_cons, hp, hs]; rfl
theorem go_some {ls : List (List Int)} {ss ss' : List Nat} {P : List Int → Bool} {T : Bool} (hn : ∀ l ∈ ls, l ≠ []) (h : okP ls ss) (hT : (restP ls ss).any P = T) (hp : P (ptP ls ss) = false) (hs : nextS ls ss = some ss') :
    (restP ls ss').any P = T ∧ (restP ls ss').length < (restP ls ss).length := by
  have e := rest_next hn h
  rw [hs] at e
  dsimp only at e
  rw [e, List.any_cons, hp, Bool.false_or] at hT
  exact ⟨hT, by rw [e, List.length_cons]; exact Nat.lt_succ_self _⟩
def Has (t : Cn) (dd : Int → Dom) : Prop := ∃ val : Int → Int, (∀ x, 0 ≤ x → x < 3 → val x ∈ vals (dd x)) ∧ t.sat val = true
def Good (dd : Int → Dom) : Prop := ∀ x : Int, 0 ≤ x → x < 3 → DomOk (dd x) ∧ dd x ≠ []
theorem dot_congr {val val' : Int → Int} : ∀ (ps : List (Int × Int)) (a : Int), (∀ p ∈ ps, val p.2 = val' p.2) → ps.foldl (fun t p => t + p.1 * val p.2) a = ps.foldl (fun t p => t + p.1 * val' p.2) a
  | [], _, _ => rfl
  | p :: r, a, h => by
    simp only [List.foldl_cons]
    rw [h p (by simp)]
    exact dot_congr r _ fun q hq => h q (by simp [hq])
theorem sat_congr {t : Cn} {val val' : Int → Int} (h : ∀ x ∈ t.vars, val x = val' x) : t.sat val = t.sat val' := by
  have hm : ∀ {xs : List Int}, (∀ x ∈ xs, val x = val' x) → xs.map val = xs.map val' := fun hx => List.map_congr_left hx
  cases t with
  | lin nm fs xs c =>
    have e : dotT val (fs.zip xs) = dotT val' (fs.zip xs) := dot_congr _ _ fun p hp => h p.2 (List.of_mem_zip hp).2
    simp only [Cn.sat, linSat, e]
  | times x y z =>
    simp only [Cn.vars, List.mem_cons, List.not_mem_nil, or_false] at h
    simp only [Cn.sat, h x (.inl rfl), h y (.inr (.inl rfl)), h z (.inr (.inr rfl))]
  | ext nm xs z =>
    simp only [Cn.vars, List.mem_append, List.mem_singleton] at h
    simp only [Cn.sat, h z (.inr rfl), hm fun x hx => h x (.inl hx)]
  | elem q xs z =>
    simp only [Cn.vars, List.mem_cons, List.mem_append, List.not_mem_nil, or_false] at h
    simp only [Cn.sat, h q (.inl rfl), h z (.inr (.inr rfl)), hm fun x hx => h x (.inr (.inl hx))]
  | diff xs =>
    have h' : ∀ x ∈ xs, val x = val' x := h
    simp only [Cn.sat, hm h']
  | cnt xs v z =>
    simp only [Cn.vars, List.mem_append, List.mem_singleton] at h
    simp only [Cn.sat, h z (.inr rfl), hm fun x hx => h x (.inl hx)]
  | nval xs z =>
    simp only [Cn.vars, List.mem_append, List.mem_singleton] at h
    simp only [Cn.sat, h z (.inr rfl), hm fun x hx => h x (.inl hx)]
  | lex xs ys =>
    simp only [Cn.vars, List.mem_append] at h
    simp only [Cn.sat, hm fun x hx => h x (.inl hx), hm fun x hx => h x (.inr hx)]
inductive AllIn : List Int → List (List Int) → Prop
  | nil : AllIn [] []
  | cons {p : Int} {l : List Int} {ps : List Int} {ls : List (List Int)} : p ∈ l → AllIn ps ls → AllIn (p :: ps) (l :: ls)
theorem mem_allP : ∀ {ls : List (List Int)} {ps : List Int}, ps ∈ allP ls ↔ AllIn ps ls
  | [], ps => by
    simp only [allP, List.mem_singleton]
    constructor
    · rintro rfl; exact .nil
    · intro h; cases h; rfl
  | l :: ls, ps => by
    simp only [allP, List.mem_flatMap, List.mem_map]
    constructor
    · rintro ⟨v, hv, q, hq, rfl⟩; exact .cons hv (mem_allP.mp hq)
    · intro h
      cases h with
      | cons a b => exact ⟨_, a, _, mem_allP.mpr b, rfl⟩
theorem valL_in {C : Int → Int → Prop} : ∀ {ps : List (Int × Int)} {f : Int → Int} {x : Int}, (∀ p ∈ ps, C p.1 p.2) → ((∃ p ∈ ps, p.1 = x) ∨ C x (f x)) → C x (valL ps f x)
  | [], f, x, _, h => h.elim (fun ⟨p, hp, _⟩ => by simp at hp) id
  | p :: r, f, x, hp, h => by
    refine valL_in (ps := r) (fun q hq => hp q (by simp [hq])) ?_
    by_cases e : x = p.1
    · right
      dsimp only
      rw [if_pos e, e]
      exact hp p (by simp)
    · rcases h with ⟨q, hq, eq⟩ | h
      · rcases List.mem_cons.mp hq with rfl | hq
        · exact absurd eq.symm e
        · exact .inl ⟨q, hq, eq⟩
      · right; dsimp only; rw [if_neg e]; exact h
theorem fst_zip : ∀ {xs ps : List Int} {x : Int}, xs.length = ps.length → x ∈ xs → ∃ p ∈ xs.zip ps, p.1 = x
  | [], _, _, _, h => by simp at h
  | y :: xs, [], _, h, _ => by simp at h
  | y :: xs, p :: ps, x, hl, h => by
    rcases List.mem_cons.mp h with rfl | h
    · exact ⟨(x, p), by simp, rfl⟩
    · obtain ⟨q, hq, e⟩ := fst_zip (xs := xs) (ps := ps) (by simpa using hl) h
      exact ⟨q, by simp [hq], e⟩
theorem forall2_zip {dd : Int → Dom} : ∀ {ps xs : List Int}, AllIn ps (xs.map fun x => vals (dd x)) → xs.length = ps.length ∧ ∀ p ∈ xs.zip ps, p.2 ∈ vals (dd p.1)
  | [], [], _ => ⟨rfl, by simp⟩
  | [], x :: xs, h => by cases h
  | p :: ps, [], h => by cases h
  | p :: ps, x :: xs, h => by
    cases h with
    | cons a b =>
      have ih := forall2_zip b
      refine ⟨by simp [ih.1], fun q hq => ?_⟩
      simp only [List.zip_cons_cons, List.mem_cons] at hq
      rcases hq with rfl | hq
      · exact a
      · exact ih.2 q hq
theorem forall2_map {dd : Int → Dom} {val : Int → Int} : ∀ {xs : List Int}, (∀ x ∈ xs, val x ∈ vals (dd x)) → AllIn (xs.map val) (xs.map fun x => vals (dd x))
  | [], _ => .nil
  | x :: xs, h => .cons (h x (by simp)) (forall2_map fun y hy => h y (by simp [hy]))
/-- what has_tuple tells -/
def tupB (t : Cn) (dd : Int → Dom) (xs : List Int) : Bool := (allP (xs.map fun x => vals (dd x))).any fun ps => t.sat (valL (xs.zip ps) fun _ => 0)
theorem tupB_iff {t : Cn} {dd : Int → Dom} {xs : List Int} (hg : Good dd) (hx : ∀ x ∈ xs, 0 ≤ x ∧ x < 3) (hv : ∀ x ∈ t.vars, x ∈ xs) : tupB t dd xs = true ↔ Has t dd := by
  unfold tupB
  rw [List.any_eq_true]
  constructor
  · rintro ⟨ps, hps, hs⟩
    obtain ⟨hl, hz⟩ := forall2_zip (mem_allP.mp hps)
    have pick : ∀ x : Int, ∃ v, (0 ≤ x → x < 3 → v ∈ vals (dd x)) := fun x => by
      by_cases h : 0 ≤ x ∧ x < 3
      · obtain ⟨v, hv⟩ := vals_ne (hg x h.1 h.2).1 (hg x h.1 h.2).2
        exact ⟨v, fun _ _ => hv⟩
      · exact ⟨0, fun a b => absurd ⟨a, b⟩ h⟩
    refine ⟨fun x => if x ∈ xs then valL (xs.zip ps) (fun _ => 0) x else Classical.choose (pick x), fun x h0 h3 => ?_, ?_⟩
    · dsimp only
      split
      · rename_i hx'
        exact valL_in (C := fun x v => v ∈ vals (dd x)) hz (.inl (fst_zip hl hx'))
      · exact Classical.choose_spec (pick x) h0 h3
    · rw [← hs]
      refine sat_congr fun x hx' => ?_
      rw [if_pos (hv x hx')]
  · rintro ⟨val, h1, h2⟩
    refine ⟨xs.map val, mem_allP.mpr (forall2_map fun x hx' => h1 x (hx x hx').1 (hx x hx').2), ?_⟩
    rw [← h2]
    refine sat_congr fun x hx' => ?_
    have hz : ∀ p ∈ xs.zip (xs.map val), p.2 = val p.1 := by
      have : ∀ (xs : List Int), ∀ p ∈ xs.zip (xs.map val), p.2 = val p.1 := by
        intro xs
        induction xs with
        | nil => simp
        | cons y ys ih =>
          intro p hp
          simp only [List.map_cons, List.zip_cons_cons, List.mem_cons] at hp
          rcases hp with rfl | hp
          · rfl
          · exact ih p hp
      exact this xs
    exact valL_in (C := fun x v => v = val x) hz (.inl (fst_zip (by simp) (hv x hx')))
theorem getD_bound {l : List Int} {i : Nat} (h : ∀ v ∈ l, -1 ≤ v ∧ v ≤ 3) (hi : i < l.length) : -1 ≤ l.getD i 0 ∧ l.getD i 0 ≤ 3 := by
  rw [List.getD_eq_getElem?_getD, List.getElem?_eq_getElem hi]
  exact h _ (List.getElem_mem hi)
theorem zeros_eq : ∀ (ls : List (List Int)), ((zerosP ls).map fun (i : Nat) => (i : Int)) = (List.replicate ls.length [(0 : Int)]).flatten
  | [] => rfl
  | l :: ls => by
    have ih := zeros_eq ls
    simp only [List.length_cons, List.replicate_succ, List.flatten_cons]
    rw [← ih]; rfl
theorem okP_len : ∀ {ls : List (List Int)} {ss : List Nat}, okP ls ss → ss.length = ls.length
  | [], [], _ => rfl
  | _ :: _, _ :: _, h => by simp [okP_len h.2]
  | [], _ :: _, h => h.elim
  | _ :: _, [], h => h.elim
theorem okP_get : ∀ {ls : List (List Int)} {ss : List Nat}, okP ls ss → ∀ {i : Nat} {l : List Int} {q : Nat}, ls[i]? = some l → ss[i]? = some q → q < l.length
  | [], [], _, i, l, q, e, _ => by simp at e
  | _ :: _, _ :: _, h, 0, l, q, e, e' => by simp at e e'; subst e e'; exact h.1
  | _ :: _, _ :: _, h, i + 1, l, q, e, e' => okP_get h.2 (i := i) (by simpa using e) (by simpa using e')
  | [], _ :: _, h, _, _, _, _, _ => h.elim
  | _ :: _, [], h, _, _, _, _, _ => h.elim
theorem ptP_get : ∀ {ls : List (List Int)} {ss : List Nat} {i : Nat} {l : List Int} {q : Nat}, ls[i]? = some l → ss[i]? = some q → (ptP ls ss)[i]? = some (l.getD q 0)
  | [], _, i, l, q, e, _ => by simp at e
  | _ :: _, [], i, l, q, _, e => by simp at e
  | l' :: ls, q' :: ss, 0, l, q, e, e' => by simp at e e'; subst e e'; rfl
  | l' :: ls, q' :: ss, i + 1, l, q, e, e' => by
    show (_ :: ptP ls ss)[i + 1]? = _
    rw [List.getElem?_cons_succ]
    exact ptP_get (by simpa using e) (by simpa using e')
theorem pt_len : ∀ {ls : List (List Int)} {ss : List Nat}, okP ls ss → (ptP ls ss).length = ls.length
  | [], [], _ => rfl
  | _ :: ls, _ :: ss, h => by show (ptP ls ss).length + 1 = ls.length + 1; rw [pt_len h.2]
  | [], _ :: _, h => h.elim
  | _ :: _, [], h => h.elim
theorem pt_bound {dd : Int → Dom} (hg : Good dd) {xs : List Int} (hxs : ∀ x ∈ xs, 0 ≤ x ∧ x < 3) {ss : List Nat} (hok : okP (xs.map fun x => vals (dd x)) ss) : ∀ p ∈ xs.zip (ptP (xs.map fun x => vals (dd x)) ss), -1 ≤ p.2 ∧ p.2 ≤ 3 := by
  induction xs generalizing ss with
  | nil => simp
  | cons x xs ih =>
    cases ss with
    | nil => exact hok.elim
    | cons q ss =>
      intro p hp
      rcases List.mem_cons.mp (show p ∈ (x, (vals (dd x)).getD q 0) :: xs.zip (ptP (xs.map fun x => vals (dd x)) ss) from hp) with rfl | hp
      · have hx := hxs x (by simp)
        exact getD_bound (fun v hv => vals_bound (hg x hx.1 hx.2).1 hv) hok.1
      · exact ih (fun y hy => hxs y (by simp [hy])) hok.2 p hp
def curS (ss : List Nat) (q n : Nat) : List Nat := ss.take q ++ List.replicate (n - q) 0
theorem curS_full {ss : List Nat} {n : Nat} (h : ss.length = n) : curS ss n n = ss := by
  subst h; simp [curS]
theorem curS_len {ss : List Nat} {q n : Nat} (h : ss.length = n) (hq : q ≤ n) : (curS ss q n).length = n := by
  simp [curS]; omega
theorem curS_get {ss : List Nat} {q n s : Nat} (h : ss[q]? = some s) : (curS ss (q + 1) n)[q]? = some s := by
  have hl := (List.getElem?_eq_some_iff.mp h).1
  unfold curS
  rw [List.getElem?_append_left (by rw [List.length_take]; omega), List.getElem?_take]
  rw [if_pos (Nat.lt_succ_self _)]; exact h
theorem curS_set {ss : List Nat} {q n v : Nat} (hn : ss.length = n) (hq : q < n) : (curS ss (q + 1) n).set q v = ss.take q ++ v :: List.replicate (n - (q + 1)) 0 := by
  unfold curS
  have e : ss.take (q + 1) = ss.take q ++ [ss[q]'(by omega)] := by rw [List.take_succ_eq_append_getElem]
  rw [e, List.append_assoc, List.set_append_right _ _ (by rw [List.length_take]; omega)]
  have : q - (ss.take q).length = 0 := by rw [List.length_take]; omega
  rw [this]; rfl
theorem curS_zero {ss : List Nat} {q n : Nat} (hn : ss.length = n) (hq : q < n) : (curS ss (q + 1) n).set q 0 = curS ss q n := by
  rw [curS_set hn hq]
  unfold curS
  rw [show n - q = (n - (q + 1)) + 1 by omega, List.replicate_succ]
/-- from place q on each spot is at its list's end -/
def LastFrom (ls : List (List Int)) (ss : List Nat) (q : Nat) : Prop := ∀ (i : Nat) (l : List Int) (s : Nat), q ≤ i → ls[i]? = some l → ss[i]? = some s → ¬ s + 1 < l.length
theorem nextS_none : ∀ {ls : List (List Int)} {ss : List Nat}, LastFrom ls ss 0 → nextS ls ss = none
  | [], _, _ => by simp [nextS]
  | _ :: _, [], _ => by simp [nextS]
  | l :: ls, s :: ss, h => by
    have ih := nextS_none (ls := ls) (ss := ss) fun i l' s' _ e e' => h (i + 1) l' s' (Nat.zero_le _) (by simpa using e) (by simpa using e')
    have h0 := h 0 l s (Nat.zero_le _) (by simp) (by simp)
    have en : nextS (l :: ls) (s :: ss) = (match nextS ls ss with | some ss' => some (s :: ss') | none => if s + 1 < l.length then some ((s + 1) :: zerosP ls) else none) := rfl
    rw [en, ih]
    dsimp only
    rw [if_neg h0]
theorem zerosP_rep : ∀ (ls : List (List Int)), zerosP ls = List.replicate ls.length 0
  | [] => rfl
  | _ :: ls => by
    show 0 :: zerosP ls = _
    rw [zerosP_rep ls]; rfl
theorem nextS_at : ∀ {ls : List (List Int)} {ss : List Nat} {q : Nat} {l : List Int} {s : Nat}, ls[q]? = some l → ss[q]? = some s → s + 1 < l.length → LastFrom ls ss (q + 1) → nextS ls ss = some (ss.take q ++ (s + 1) :: List.replicate (ls.length - (q + 1)) 0)
  | [], _, q, l, s, e, _, _, _ => by simp at e
  | _ :: _, [], q, l, s, _, e, _, _ => by simp at e
  | l' :: ls, s' :: ss, 0, l, s, e, e', h, hl => by
    simp at e e'; subst e e'
    have ih := nextS_none (ls := ls) (ss := ss) fun i l' s' _ e e' => hl (i + 1) l' s' (by omega) (by simpa using e) (by simpa using e')
    have en : nextS (l' :: ls) (s' :: ss) = (match nextS ls ss with | some ss' => some (s' :: ss') | none => if s' + 1 < l'.length then some ((s' + 1) :: zerosP ls) else none) := rfl
    rw [en, ih]
    dsimp only
    rw [if_pos h, zerosP_rep]
    simp
  | l' :: ls, s' :: ss, q + 1, l, s, e, e', h, hl => by
    have ih := nextS_at (ls := ls) (ss := ss) (q := q) (l := l) (s := s) (by simpa using e) (by simpa using e') h fun i l' s' hi e e' => hl (i + 1) l' s' (by omega) (by simpa using e) (by simpa using e')
    have en : nextS (l' :: ls) (s' :: ss) = (match nextS ls ss with | some ss' => some (s' :: ss') | none => if s' + 1 < l'.length then some ((s' + 1) :: zerosP ls) else none) := rfl
    rw [en, ih]
    simp
theorem okP_next : ∀ {ls : List (List Int)} {ss ss' : List Nat}, (∀ l ∈ ls, l ≠ []) → okP ls ss → nextS ls ss = some ss' → okP ls ss'
  | [], [], ss', _, _, h => by simp [nextS] at h
  | l :: ls, s :: ss, ss', hn, h, e => by
    have en : nextS (l :: ls) (s :: ss) = (match nextS ls ss with | some ss' => some (s :: ss') | none => if s + 1 < l.length then some ((s + 1) :: zerosP ls) else none) := rfl
    rw [en] at e
    have hn' : ∀ q ∈ ls, q ≠ [] := fun q hq => hn q (by simp [hq])
    cases hs : nextS ls ss with
    | some s2 =>
      rw [hs] at e
      cases e
      exact ⟨h.1, okP_next hn' h.2 hs⟩
    | none =>
      rw [hs] at e
      dsimp only at e
      by_cases hl : s + 1 < l.length
      · rw [if_pos hl] at e; cases e
        exact ⟨hl, ok_zero hn'⟩
      · rw [if_neg hl] at e; cases e
  | [], _ :: _, _, _, h, _ => h.elim
  | _ :: _, [], _, _, h, _ => h.elim
theorem map_set_nat {l : List Nat} {k v : Nat} : (l.map fun (i : Nat) => (i : Int)).set k (v : Int) = (l.set k v).map fun (i : Nat) => (i : Int) := by
  rw [List.map_set]

end
section
abbrev InL (nx : List (Addr × Obj)) : Addr → Obj → Prop := fun a o => (a, o) ∈ nx
section
variable {prog : Program} {w : World} {A : Around} {E : Value → Shared → Prop} {s : Shared} {h₀ : Heap} {L : Addr} {m : Str → Option Value} {env : Env}
theorem intMap_keeps {h h' : Heap} {d : Addr} {f : Int → Option Value} (x : h.IntMap d f) (k : ∀ b o, h.get? b = some o → h'.get? b = some o) : h'.IntMap d f := by
  obtain ⟨o, es, n, e, r⟩ := x
  exact ⟨o, es, n, k _ _ e, r⟩
end
abbrev InH (h : Heap) : Addr → Obj → Prop := fun a o => h.get? a = some o
theorem InH.tup {h : Heap} {a : Addr} {its : Array Value} {n : Nat} (e : InH h a (tupOf its n)) : IsTup h a its := ⟨_, e, rfl, n, rfl⟩
theorem sub_attr_attr : isSubtype (.type "AttributeError") (.type "AttributeError") = pure true := by rw [isSubtype_type]; kernel_rfl
theorem lk_list_keys : typeLookup (.type "list") "keys" = pure none := by rw [typeLookup_type, builtinLookup_eq_fast]; kernel_rfl
section
variable {prog : Program} {w : World} {A : Around} {E : Value → Shared → Prop} {h : Heap} {g : Array GenState} {d : Drawn} {t : Nat} {os : OsState} {a : Addr} {its : Array Value} {n : Nat}
theorem nokeys_entry {tk : Tok} {Q : Fin → Shared → Prop} (hh : A.handled = none) (hx : h.get? a = some (listOf its n))
    (hq : ∀ h' t' e, (∀ b o, h.get? b = some o → h'.get? b = some o) → (∃ o, h'.get? e = some o ∧ o.cls = .type "AttributeError") → E (.ref e) ⟨h', g, d, t', os⟩) :
    wpAny (model prog w) A (Builtin.«object.__getattribute__» ⟨[.ref a, .str "keys" tk], []⟩) Q E ⟨h, g, d, t, os⟩ := by
  have hT : (⟨h, g, d, t, os⟩ : Shared).TypeIs (.ref a) "list" := ⟨_, hx, rfl⟩
  have f4 := lk_list_keys
  have f5 := sub_attr_attr
  repeat (any_goals (first | assumption | wp_step))
  unfold raiseAttrError noteAttr lacksNameAndObj layMembers raiseNew newExc
  repeat (any_goals (first | assumption | wp_step))
  all_goals (try dsimp only)
  repeat (any_goals (first | assumption | wp_step))
  have up : ∀ (h : Heap) (x y : Obj) (f : Obj → Obj) (e : Addr), e = (h.push x).objs.size → ∀ b o, h.get? b = some o → (((h.push x).push y).update e f).get? b = some o := by
    intro h x y f e he b o hb
    have hlt := Heap.lt_size hb
    refine (Heap.get?_update_other _ _ ?_).trans (Heap.get?_push_of_some _ (Heap.get?_push_of_some _ hb))
    rw [he, Heap.size_push]; exact Nat.ne_of_gt (Nat.lt_succ_of_lt hlt)
  refine hq _ _ _ (up _ _ _ _ _ rfl) ⟨_, Heap.get?_update_self _ (Heap.get?_push_size _ rfl) (Obj.isFreed_of_fields (Obj.data_mapFields rfl _)), (Obj.cls_mapFields ..)⟩
theorem nokeys_call {tk : Tok} {R : Result → Shared → Prop} (hh : A.handled = none) (hx : h.get? a = some (listOf its n))
    (hq : ∀ h' t' e, (∀ b o, h.get? b = some o → h'.get? b = some o) → (∃ o, h'.get? e = some o ∧ o.cls = .type "AttributeError") → R (.error (.ref e)) ⟨h', g, d, t', os⟩) :
    codeAny (model prog w) A (.call (.builtin "list.__getattribute__") ⟨[.ref a, .str "keys" tk], []⟩) R ⟨h, g, d, t, os⟩ :=
  codeAny_call_builtin F.slot_list_getattribute.plain F.entry_list_ga (F.slot_list_getattribute.check _ _ _ _ _ _ _ _ (show (⟨h, g, d, t, os⟩ : Shared).TypeIs (.ref a) "list" from ⟨_, hx, rfl⟩) (F.args_list_getattribute_2 _ _) (nokeys_entry hh hx hq))
theorem lk_list_getattr : typeLookup (.type "list") "__getattr__" = pure none := by rw [typeLookup_type, builtinLookup_eq_fast]; kernel_rfl
theorem nokeys_by {tk : Tok} {Q : Value → Shared → Prop} (hh : A.handled = none) (hx : h.get? a = some (listOf its n))
    (hq : ∀ h' t' e, (∀ b o, h.get? b = some o → h'.get? b = some o) → (∃ o, h'.get? e = some o ∧ o.cls = .type "AttributeError") → E (.ref e) ⟨h', g, d, t', os⟩) :
    wpAny (model prog w) A (getAttrBy (.ref a) (.str "keys" tk) false) Q E ⟨h, g, d, t, os⟩ := by
  have hT : (⟨h, g, d, t, os⟩ : Shared).TypeIs (.ref a) "list" := ⟨_, hx, rfl⟩
  have f2 := F.slot_list_getattribute.lookup
  have f3 := F.slot_list_getattribute.bind (.ref a)
  have f4 := lk_list_getattr
  have f5 := sub_attr_attr
  repeat (any_goals (first | assumption | wp_step))
  refine nokeys_call hh hx fun h' t' e up he => ?_
  have key := hq h' t' e up he
  obtain ⟨o, ho, hc⟩ := he
  show wpAny _ _ (getattributeRaised _ _ _ _ _ _ _) _ _ _
  unfold getattributeRaised
  refine wpAny_bind (wpAny_isInstance (T := "AttributeError") (b := true) ⟨o, ho, hc⟩ sub_attr_attr ?_)
  simp only [if_true]
  unfold hookBehind onTheHeap
  simp only [Bool.false_eq_true, if_false]
  rw [lk_list_getattr]
  refine wpAny_bind (wpAny_pure ?_)
  unfold hookOrError attributeErrorLeaves
  simp only [Bool.not_false, if_true]
  exact wpAny_throw key
theorem nokeys_attr {Q : Option Value → Shared → Prop} (hh : A.handled = none) (hx : h.get? a = some (listOf its n))
    (hq : ∀ h' t', (∀ b o, h.get? b = some o → h'.get? b = some o) → Q none ⟨h', g, d, t', os⟩) :
    wpAny (model prog w) A (getAttr? (.ref a) "keys") Q E ⟨h, g, d, t, os⟩ := by
  unfold getAttr? getAttrBy?
  refine wpAny_bind (wpAny_bind (wpAny_fresh (wpAny_pure ?_)))
  refine wpAny_bind (wpAny_attempt (nokeys_by hh hx fun h' t' e up he => ?_))
  obtain ⟨o, ho, hc⟩ := he
  exact wpAny_bind (wpAny_isInstance (T := "AttributeError") (b := true) ⟨o, ho, hc⟩ sub_attr_attr (wpAny_pure (hq h' t' up)))
end
theorem entry_upd_loop : entryFor table "dict.update.loop" = some Builtin.«dict.update.loop» := entryFor_of_tree (by kernel_rfl)
theorem plain_upd_loop : plainId "dict.update.loop" = true := by decide +kernel
def putAll (kvs : List (Int × Value)) (f : Int → Option Value) : Int → Option Value := kvs.foldl (fun f p => fun x => if x = p.1 then some p.2 else f x) f
/-- a list's items are pairs of an int and a value -/
def PairO (k : Int) (t : Tok) (x : Value) (o : Obj) : Prop := o.cls = .type "tuple" ∧ ∃ n, o.data = .seq #[.int k t, x] n
def KvsAt (h : Heap) (vs : Array Value) (kvs : List (Int × Value)) (d I : Addr) : Prop := vs.size = kvs.length ∧ ∀ (i : Nat) v, vs[i]? = some v → ∃ b k t x o, v = .ref b ∧ kvs[i]? = some (k, x) ∧ h.get? b = some o ∧ PairO k t x o ∧ b ≠ d ∧ b ≠ I
section
variable {prog : Program} {w : World} {A : Around} {E : Value → Shared → Prop} {s : Shared}
theorem upd_loop {I l d : Addr} {vs : Array Value} {kvs : List (Int × Value)} {R : Result → Shared → Prop} (hh : A.handled = none) (hdI : d ≠ I) (hdl : l ≠ d) (hlI : l ≠ I) :
    ∀ (k i n : Nat) (f : Int → Option Value) (s : Shared), vs.size - i = k → i ≤ vs.size → n + k ≤ sizeLine → s.heap.IsListIter I l i → s.heap.IsList l vs → KvsAt s.heap vs kvs d I → s.heap.IntMap d f → s.heap.DictLe d n →
      (∀ h' tk, (∀ b o, b ≠ I → b ≠ d → s.heap.get? b = some o → h'.get? b = some o) → h'.IntMap d (putAll (kvs.drop i) f) → R (.ok (.ret .none)) { s with heap := h', toks := tk }) →
      codeAny (model prog w) A (.builtin "dict.update.loop" ⟨[.ref d, .ref I, rawInt (i : Int), .none], []⟩) R s := by
  intro k
  induction k with
  | zero =>
    intro i n f s hk hi hn hit hl hK hm hz hR
    have hin : i = vs.size := by omega
    refine codeAny_builtin entry_upd_loop ?_
    rw [Around.under_plainId plain_upd_loop _]
    show wpAny _ A.in1 (pyNext (.ref I) >>= _) _ _ s
    refine wpAny_bind (wpAny_pyNext_list_end hh hit hl (by simp [hin]) fun h' he' => ?_)
    show wpAny _ A.in1 (Builtin.Dict.addKeywords d [] >>= _) _ _ _
    refine wpAny_bind (wpAny_pure ?_)
    have hd : kvs.drop i = [] := List.drop_eq_nil_of_le (by rw [hin, hK.1]; exact Nat.le_refl _)
    refine wpAny_pure (hR h' s.toks (fun b o hb _ e => he' b o hb e) ?_)
    rw [hd]
    exact hm.extBut he' hdI
  | succ k ih =>
    intro i n f s hk hi hn hit hl hK hm hz hR
    have hlt : i < vs.size := by omega
    obtain ⟨b, kk, t, x, ob, hv, hkv, hb, ⟨hoc, nb, hod⟩, hbd, hbI⟩ := hK.2 i vs[i] (Array.getElem?_eq_getElem hlt)
    refine codeAny_builtin entry_upd_loop ?_
    rw [Around.under_plainId plain_upd_loop _]
    show wpAny _ A.in1 (pyNext (.ref I) >>= _) _ _ s
    refine wpAny_bind (wpAny_pyNext_list_item hit hl (x := .ref b) (by rw [← hv]; exact Array.getElem?_eq_getElem hlt) fun h' hit' hs' => ?_)
    have hb' : h'.get? b = some ob := hs'.extBut b _ hbI hb
    have hT : ({ s with heap := h' } : Shared).TypeIs (.ref b) "tuple" := ⟨_, hb', hoc⟩
    show wpAny _ A.in1 (holding [Value.ref b] _ >>= _) _ _ _
    refine wpAny_bind (wpAny_holding ?_)
    refine wpAny_bind (m := tryCatch (Builtin.Dict.pairItems (.ref b)) _) (wpAny_tryCatch ?_)
    unfold Builtin.Dict.pairItems
    refine wpAny_bind (wpAny_typeOf hT ?_)
    rw [if_pos (by decide)]
    refine wpAny_bind (wpAny_seqItems hb' hod (wpAny_pure ?_))
    show wpAny _ A.in1 (holding [Value.int kk t, x] (dictSet d (.int kk t) x)) _ _ _
    refine wpAny_holding (wpAny_dictSet_int_le (n := n) (hm.extBut hs'.extBut hdI) (hz.sameBut hs' hdI) (by omega) fun h₂ hm₂ hz₂ hs₂ => ?_)
    have up : ∀ b o, b ≠ I → b ≠ d → s.heap.get? b = some o → h₂.get? b = some o := fun b o hb1 hb2 e => hs₂.extBut b o hb2 (hs'.extBut b o hb1 e)
    refine wpAny_pure ⟨plainId_quiet plain_upd_loop _, ?_⟩
    have hK' : KvsAt h₂ vs kvs d I := ⟨hK.1, fun j v hj => by
      obtain ⟨b, k, t, x, o, e1, e2, e3, ep, e4, e5⟩ := hK.2 j v hj
      exact ⟨b, k, t, x, o, e1, e2, up _ _ e5 e4 e3, ep, e4, e5⟩⟩
    have hlst : h₂.IsList l vs := (hl.extBut hs'.extBut hlI).extBut hs₂.extBut hdl
    have hit2 : h₂.IsListIter I l (i + 1) := by obtain ⟨o, e, r⟩ := hit'; exact ⟨o, hs₂.extBut _ _ (Ne.symm hdI) e, r⟩
    refine ih (i + 1) (n + 1) _ { s with heap := h₂, toks := s.toks + 1 } (by omega) hlt (by omega) hit2 hlst hK' hm₂ hz₂ fun h₃ tk₃ up₃ hm₃ => ?_
    refine hR h₃ tk₃ (fun b o hb1 hb2 e => up₃ b o hb1 hb2 (up b o hb1 hb2 e)) ?_
    have : kvs.drop i = (kk, x) :: kvs.drop (i + 1) := by
      have hlt' : i < kvs.length := by rw [← hK.1]; exact hlt
      rw [List.drop_eq_getElem_cons hlt']
      rw [List.getElem?_eq_getElem hlt'] at hkv
      rw [Option.some.inj hkv]
    rw [this]; exact hm₃
end
inductive KvsL (S : Addr → Obj → Prop) : List Value → List (Int × Value) → Prop
  | nil : KvsL S [] []
  | cons {b : Addr} {k : Int} {t : Tok} {x : Value} {o : Obj} {vs : List Value} {kvs : List (Int × Value)} (h : S b o) (hp : PairO k t x o) (r : KvsL S vs kvs) : KvsL S (.ref b :: vs) ((k, x) :: kvs)
theorem KvsL.len {S : Addr → Obj → Prop} {vs : List Value} {kvs : List (Int × Value)} (h : KvsL S vs kvs) : vs.length = kvs.length := by
  induction h with
  | nil => rfl
  | cons _ _ _ ih => rw [List.length_cons, List.length_cons, ih]
theorem KvsL.get {S : Addr → Obj → Prop} {vs : List Value} {kvs : List (Int × Value)} (h : KvsL S vs kvs) : ∀ {i : Nat} {v : Value}, vs[i]? = some v → ∃ b k t x o, v = .ref b ∧ kvs[i]? = some (k, x) ∧ S b o ∧ PairO k t x o := by
  induction h with
  | nil => intro i v e; simp at e
  | cons hs hp _ ih =>
    intro i v e
    cases i with
    | zero => simp at e; exact ⟨_, _, _, _, _, e.symm, by simp, hs, hp⟩
    | succ i => simp only [List.getElem?_cons_succ] at e ⊢; exact ih e
section
variable {prog : Program} {w : World} {A : Around} {E : Value → Shared → Prop} {s : Shared} {h₀ : Heap} {L : Addr} {m : Str → Option Value} {news : List (Addr × Obj)}
theorem dict_pairs {l : Addr} {vs : Array Value} {n : Nat} {kvs : List (Int × Value)} {Q : Value → Shared → Prop} (hh : A.handled = none) (hl : s.heap.get? l = some (listOf vs n)) (hK : KvsL (InH s.heap) vs.toList kvs) (hsz : kvs.length ≤ 1000)
    (h : ∀ d h' tk, s.heap.get? d = none → (∀ b o, s.heap.get? b = some o → h'.get? b = some o) → h'.IntMap d (putAll kvs fun _ => none) → Q (.ref d) { s with heap := h', toks := tk }) :
    wpAny (model prog w) A (call (.type "dict") [.ref l]) Q E s := by
  refine callType_codes (Q₁ := fun obj s₁ => obj = .ref s.heap.objs.size ∧ s₁ = { s with heap := s.heap.push { cls := .type "dict", data := .dict #[] } }) F.kt_called_dict (F.kt_typeCall_dict_1 _) F.entry_dict_init (kt_code_dict_new _ ⟨rfl, rfl⟩) ?_
  rintro obj s₁ ⟨rfl, rfl⟩
  have hnew : (s.heap.push { cls := .type "dict", data := .dict #[] }).IntMap s.heap.objs.size (fun _ => none) := Heap.IntMap.new s.heap
  have hle : (s.heap.push { cls := .type "dict", data := .dict #[] }).DictLe s.heap.objs.size 0 := Heap.DictLe.new s.heap
  have hnT : ({ s with heap := s.heap.push { cls := .type "dict", data := .dict #[] } } : Shared).TypeIs (.ref s.heap.objs.size) "dict" := hnew.typeIs
  refine ⟨hnT, F.args_dict_init_2 _ _, ?_⟩
  have hl1 : (s.heap.push { cls := .type "dict", data := .dict #[] }).get? l = some (listOf vs n) := Heap.get?_push_of_some _ hl
  have hdlt : s.heap.objs.size < (s.heap.push { cls := .type "dict", data := .dict #[] }).objs.size := by rw [Heap.size_push]; exact Nat.lt_succ_self _
  have up1 : ∀ b o, s.heap.get? b = some o → (s.heap.push { cls := .type "dict", data := .dict #[] }).get? b = some o := fun b o e => Heap.get?_push_of_some _ e
  generalize hH : s.heap.push { cls := .type "dict", data := .dict #[] } = H1 at *
  unfold Builtin.«dict.__init__»
  refine wpAny_bind ?_
  unfold Builtin.Dict.selfAndRest
  refine wpAny_bind (wpAny_notOrdered_dict hnT ?_)
  show wpAny _ _ (pure (s.heap.objs.size, [Value.ref l])) _ _ _
  refine wpAny_pure ?_
  show wpAny _ _ (Builtin.Dict.updateFrom "dict.__init__" s.heap.objs.size (.ref l) [] .none) _ _ _
  unfold Builtin.Dict.updateFrom
  refine wpAny_bind (wpAny_typeOf (T := "list") ⟨_, hl1, rfl⟩ ?_)
  rw [if_pos (by decide)]
  refine wpAny_bind (nokeys_attr hh hl1 fun H2 t2 up2 => ?_)
  rw [if_pos (by rfl)]
  refine wpAny_bind (wpAny_rule ?_)
  have hl2 : H2.IsList l vs := ⟨_, up2 _ _ hl1, rfl, _, rfl⟩
  refine wpAny_bind (wpAny_pyIter_list hl2 ?_)
  have up3 : ∀ (o' : Obj) b o, H2.get? b = some o → (H2.push o').get? b = some o := fun o' b o e => Heap.get?_push_of_some _ e
  obtain ⟨od, es, ep, hd1, r1⟩ := hnew
  have hd2 := up2 _ _ hd1
  have hdI : s.heap.objs.size ≠ H2.objs.size := Nat.ne_of_lt (Heap.lt_size hd2)
  have hlI : l ≠ H2.objs.size := Nat.ne_of_lt (Heap.lt_size (up2 _ _ hl1))
  have hdl : l ≠ s.heap.objs.size := Nat.ne_of_lt (Heap.lt_size hl)
  have upAll : ∀ b o, s.heap.get? b = some o → (H2.push { cls := .type "list_iterator", data := .fields #[.ref l, .int 0 0] }).get? b = some o := fun b o e => up3 _ _ _ (up2 _ _ (up1 _ _ e))
  refine wpAny_pure ⟨plainId_quiet plain_upd_loop _, ?_⟩
  refine upd_loop (A := A.in1) (vs := vs) (kvs := kvs) hh hdI hdl hlI vs.size 0 0 (fun _ => none) _ (by omega) (Nat.zero_le _) ?_ ⟨_, Heap.get?_push_size _ rfl, rfl, rfl⟩ (hl2.push _) ⟨?_, fun i v e => ?_⟩ ⟨od, es, ep, up3 _ _ _ hd2, r1⟩ (fun o' es' ep' e1 e2 => ?_) ?_
  · rw [← Array.length_toList, hK.len, sizeLine_eq]; omega
  · rw [← Array.length_toList, hK.len]
  · obtain ⟨b, k, t, x, o, e1, e2, e3, ep⟩ := hK.get (i := i) (v := v) (by rw [Array.getElem?_toList]; exact e)
    exact ⟨b, k, t, x, o, e1, e2, upAll _ _ e3, ep, Nat.ne_of_lt (Heap.lt_size e3), Nat.ne_of_lt (Heap.lt_size (up2 _ _ (up1 _ _ e3)))⟩
  · have := up3 { cls := .type "list_iterator", data := .fields #[.ref l, .int 0 0] } _ _ hd2
    rw [this] at e1; cases e1
    exact hle _ _ _ hd1 e2
  · intro h' tk' up' hm'
    refine ⟨rfl, h _ h' tk' (Heap.get?_none_of_le (Nat.le_refl _)) (fun b o e => up' b o ?_ ?_ (upAll _ _ e)) hm'⟩
    · exact Nat.ne_of_lt (Heap.lt_size (up2 _ _ (up1 _ _ e)))
    · exact Nat.ne_of_lt (Heap.lt_size e)
end
inductive KvR : List (Int × Value) → List (Int × Int) → Prop
  | nil : KvR [] []
  | cons {k v : Int} {t : Tok} {kvs : List (Int × Value)} {ps : List (Int × Int)} : KvR kvs ps → KvR ((k, .int v t) :: kvs) ((k, v) :: ps)
theorem KvR.snoc {k v : Int} {t : Tok} {kvs : List (Int × Value)} {ps : List (Int × Int)} (h : KvR kvs ps) : KvR (kvs ++ [(k, .int v t)]) (ps ++ [(k, v)]) := by
  induction h with
  | nil => exact .cons .nil
  | cons _ ih => exact .cons ih
theorem KvR.len {kvs : List (Int × Value)} {ps : List (Int × Int)} (h : KvR kvs ps) : kvs.length = ps.length := by
  induction h with
  | nil => rfl
  | cons _ ih => simp [ih]
theorem KvR.put {kvs : List (Int × Value)} {ps : List (Int × Int)} (h : KvR kvs ps) : ∀ {f : Int → Option Value} {g : Int → Int} {x : Int}, ((∃ p ∈ ps, p.1 = x) ∨ ∃ t, f x = some (.int (g x) t)) → ∃ t, putAll kvs f x = some (.int (valL ps g x) t) := by
  induction h with
  | nil => intro f g x h; exact h.elim (fun ⟨p, hp, _⟩ => by simp at hp) id
  | @cons k v t kvs ps _ ih =>
    intro f g x h
    show ∃ t', putAll kvs (fun y => if y = k then some (Value.int v t) else f y) x = some (.int (valL ps (fun y => if y = k then v else g y) x) t')
    refine ih ?_
    by_cases e : x = k
    · right; exact ⟨t, by rw [if_pos e, if_pos e]⟩
    · rcases h with ⟨p, hp, hq⟩ | h
      · rcases List.mem_cons.mp hp with rfl | hp
        · exact absurd hq.symm e
        · exact .inl ⟨p, hp, hq⟩
      · right; rw [if_neg e, if_neg e]; exact h

end
section
/-- what a list of pairs of numbers maps to -/
def mapF (ps : List (Int × Int)) (x : Int) : Option Int := if ps.any (fun p => p.1 == x) then some (valL ps (fun _ => 0) x) else none
theorem mapF_in {ps : List (Int × Int)} {x : Int} (h : ∃ p ∈ ps, p.1 = x) : mapF ps x = some (valL ps (fun _ => 0) x) := by
  obtain ⟨p, hp, e⟩ := h
  exact if_pos (List.any_eq_true.mpr ⟨p, hp, by simp [e]⟩)
theorem kvs_of {S : Kn} : ∀ {ps : List (Int × Int)} {vs : List Value}, RelL S (ps.map fun q => pr q.1 q.2) vs → ∃ kvs, KvsL S vs kvs ∧ KvR kvs ps
  | [], _, h => ⟨[], by rw [h.ofNil]; exact .nil, .nil⟩
  | (k, v) :: ps, _, h => by
    obtain ⟨w, ws, rfl, hw, r⟩ := h.ofCons
    obtain ⟨kvs, h1, h2⟩ := kvs_of r
    obtain ⟨p, o, n, us, rfl, hp, hc, _, hd, r'⟩ := hw.ofTup
    obtain ⟨x, y, rfl, rx, ry⟩ := r'.two
    obtain ⟨t, rfl⟩ := rx.ofInt
    obtain ⟨t', rfl⟩ := ry.ofInt
    exact ⟨_, .cons hp ⟨hc, n, hd⟩ h1, .cons h2⟩
theorem KvsL.mono {S S' : Kn} (k : ∀ a o, S a o → S' a o) {vs : List Value} {kvs : List (Int × Value)} (h : KvsL S vs kvs) : KvsL S' vs kvs := by
  induction h with
  | nil => exact .nil
  | cons hs hp _ ih => exact .cons (k _ _ hs) hp ih
section
variable {n u : Nat} {Γ : Cx n u} {cn : Str} {cs : Scope} {ca : Addr} {ccd : Value} {env : Env} {ρ : Nms} {σ σ₁ τ pre post : Sto} {e : Expr} {a : AV} {p : Addr} {pos px pa : Pos} {rest : List Stmt} {R : AV → Sto → Prop} {F : Nms → Sto → Prop} {ls : List AV} {i : Int} {k : Nat}
theorem dict_A {ps : List (Int × Int)} (hz : ps.length ≤ 1000) : StepA Γ σ [.lst (ps.map fun q => pr q.1 q.2)] (fun vs => call (.type "dict") vs) (.map (mapF ps)) σ := by
  intro m mu imm h tk E Q vs L r q
  obtain ⟨_, rfl, r1⟩ := r.one
  obtain ⟨p, n', ws, rfl, hp, r⟩ := r1.ofLstX
  obtain ⟨kvs, h1, h2⟩ := kvs_of r
  have hl := h2.len
  refine dict_pairs (s := Γ.st h tk) (l := p) (kvs := kvs) rfl (L.get hp) (by simpa using h1.mono fun a o x => L.get x) (by omega) fun d h' tk' hn hk hm => ?_
  obtain ⟨od, es, ep, hod, hr⟩ := hm
  refine q (.ref d) h' tk' ((d, od) :: imm) (L.one hk hod hn) up1 ⟨d, od, putAll kvs fun _ => none, rfl, .inr List.mem_cons_self, fun h₂ e => ⟨od, es, ep, e, hr⟩, fun k x e => ?_⟩
  unfold mapF at e
  split at e
  · rename_i hx
    cases e
    obtain ⟨q, hq, hq'⟩ := List.any_eq_true.mp hx
    exact h2.put (.inl ⟨q, hq, eq_of_beq hq'⟩)
  · cases e
/-- a list of the store is left behind at a return -/
theorem RuB.retF (he : EvA Γ (envOfC cn cs Γ.L ca ccd) ρ σ e a (pre ++ (p, .lst ls) :: post)) (hR : R a (pre ++ post)) : RuB Γ cn cs ca ccd ρ σ (.Return (some e) pos :: rest) R F :=
  ⟨fun _ _ _ _ _ _ _ L Y O q _ => wpAny_execs_cons (wpAny_Return_some (he.run _ _ _ _ _ _ _ L (O.nm Y.are) fun v h₁ tk₁ i₁ L₁ _ r₁ => by
    obtain ⟨o, L₂, _⟩ := L₁.freezeL
    exact q _ _ v h₁ tk₁ _ _ _ hR L₂ (r₁.mono (Cx.S_mono up1))))⟩
end

end
section
theorem foldl_arr {v : Value} : ∀ (n : Nat) (acc : Array Value), List.foldl (fun x1 x2 => x1 ++ x2) acc (List.replicate n #[v]) = acc ++ (List.replicate n v).toArray
  | 0, acc => by simp
  | n + 1, acc => by
    rw [List.replicate_succ, List.foldl_cons, foldl_arr n, List.replicate_succ, Array.append_assoc]
    congr 1
    simp
theorem RelL.replicate {S : Kn} {a : AV} {v : Value} (r : Rel S a v) : ∀ n, RelL S (List.replicate n a) (List.replicate n v)
  | 0 => .nil
  | n + 1 => .cons r (RelL.replicate r n)
section
variable {n u : Nat} {Γ : Cx n u} {cn : Str} {cs sc : Scope} {ca : Addr} {ccd : Value} {env : Env} {ρ : Nms} {σ σ₁ σ₂ τ pre post : Sto} {e e1 e2 l r : Expr} {a : AV} {p : Addr} {pos px pa : Pos} {P : AV → Sto → Prop} {c : Bool} {k : Nat}
theorem TsA.ofB (h : EvA Γ env ρ σ e (.bool c) σ) (he : ∀ whole, isTrue e env whole = (do let v ← whole; standAt e.pos; holding [v] (truthy v))) : TsA Γ env ρ σ e c :=
  ⟨fun _ _ _ _ _ _ _ L N q => isTrue_plain (h.run _ _ _ _ _ _ _ L N fun v h₁ tk₁ i₁ L₁ k₁ r₁ => by obtain rfl := r₁.ofBool; exact wpAny_truthy_bool (q _ _ i₁ L₁ k₁)) (he _)⟩
/-- a list of one item many times: a new place -/
theorem EvR.mulL (h1 : EvA Γ env ρ σ l (.lst [a]) σ₁) (h2 : EvA Γ env ρ σ₁ r (.int (k : Nat)) σ₂) (hk : k ≤ 1000) (hp : ∀ p, P (.lit (.ref p)) ((p, .lst (List.replicate k a)) :: σ₂)) : EvR Γ env ρ σ (.BinOp l .Mult r pos) P := by
  refine ⟨fun m mu imm h tk E Q L N q => wpAny_BinOp (h1.run _ _ _ _ _ _ _ L N fun v h₁ tk₁ i₁ L₁ k₁ r₁ => h2.run _ _ _ _ _ _ _ L₁ (N.mono k₁) fun w h₂ tk₂ i₂ L₂ k₂ r₂ => ?_)⟩
  obtain ⟨p, n', vs, rfl, hp', r⟩ := r₁.ofLstX
  obtain ⟨v, rfl, rv⟩ := r.one
  obtain ⟨t, rfl⟩ := r₂.ofInt
  obtain ⟨st, S, N₂, nd⟩ := L₂.ex
  refine mul_list (s := Γ.st h₂ tk₂) (items := #[v]) (k := n') L₂.F N₂ (L₂.get (Cx.S_mono k₂ _ _ hp')) (by omega) (by omega) (by simp; omega) fun h' F' N' => ?_
  have e : (List.foldl (fun x1 x2 => x1 ++ x2) #[] (List.replicate (if (#[v] : Array Value).isEmpty = true then 0 else ((k : Nat) : Int).toNat) #[v])) = (List.replicate k v).toArray := by
    rw [if_neg (by simp), foldl_arr, Int.toNat_natCast]; simp
  rw [e] at N'
  refine q _ _ (hp h₂.objs.size) _ _ _ i₂ ⟨F', _, .cons ⟨0, List.replicate k v, rfl, RelL.replicate (rv.mono (Cx.S_mono k₂)) k⟩ S, N', ?_⟩ (fun p hp => k₂ p (k₁ p hp)) (Rel.lit _)
  rw [List.cons_append, List.map_cons, List.nodup_cons]
  refine ⟨fun hx => ?_, nd⟩
  obtain ⟨q, hq, e⟩ := List.mem_map.mp hx
  have := (N₂ q hq).1
  rw [e, Heap.get?_none_of_le (Nat.le_refl _)] at this
  cases this
end
abbrev lotV (ls : List (List Int)) : AV := .lst (ls.map fun l => .lst (l.map .int))
def lotsOf (D : List Dom) (s : List (Int × Dom)) (xs : List Int) : List (List Int) := xs.map fun x => vals (cur D s x)
theorem lots_map {D : List Dom} {s : List (Int × Dom)} {xs : List Int} : AV.lst ((xs.filter fun _ => true).map fun x => .lst ((vals (cur D s x)).map .int)) = lotV (lotsOf D s xs) := by
  rw [← map_all, lotV, lotsOf, List.map_map]; rfl
theorem words_s29_1 : True := by
  (k_with "my lot9" => (
  intro i x hx _ C io
  have hb := hxs x (List.mem_of_getElem? hx)
  show EvA _ _ _ ((T, .dic (dicV s)) :: io) _ _ ((T, .dic (dicV s)) :: io)
  refine EvA.callP (σ₁ := (T, .dic (dicV s)) :: io) (as := [domV (cur D s x)]) ?_ (ArA.one (EvA.methE (σ₂ := (T, .dic (dicV s)) :: io) (pre := []) (post := io) (as := [.int x]) ?_ ?_ (domain_D hb.1 hb.2 hz) rfl rfl ?_ ?_ ?_ ?_ rfl rfl rfl ?_ ?_ rfl) rfl) (values_A (hok x (List.mem_of_getElem? hx))) ?_ rfl ?_ ?_
  focus walk_at "eva"
  focus walk_at "eva"
  focus walk_at "ara"
  focus walk_at "w9"
  focus walk_at "w9"
  focus walk_at "w9"
  focus walk_at "w9"
  focus walk_at "sid"
  focus walk_at "sid"
  focus walk_at "sid"
  focus walk_at "sid"
  focus walk_at "sid"))
  trivial
theorem lots_D {T : Addr} {D : List Dom} {s : List (Int × Dom)} (h3 : D.length = 3) (hok' : ∀ x : Int, 0 ≤ x → x < 3 → DomOk (cur D s x)) : FnR 1 100 422 [boxV (.lst (D.map domV)) T] [(T, .dic (dicV s))] (Is (lotV (lotsOf D s [0, 1, 2])) [(T, .dic (dicV s))]) := by
  w_top off
  have hz : D.length ≤ 10 := by omega
  have hxs : ∀ x ∈ [(0 : Int), 1, 2], 0 ≤ x ∧ x < (D.length : Int) := by intro x hx; simp at hx; omega
  have hok : ∀ x ∈ [(0 : Int), 1, 2], DomOk (cur D s x) := fun x hx => hok' x (hxs x hx).1 (by have := (hxs x hx).2; omega)
  walk_at "enterA"
  refine RuB.ret (EvA.eq (EvA.compG (st := fun _ => [(T, .dic (dicV s))]) (xs := [(0 : Int), 1, 2]) (φ := fun x => [.int x]) (ψ := fun x => .lst ((vals (cur D s x)).map .int)) (p := fun _ => true) (ct := none) (ns := [Str.ofString "x"]) (SrcV.to (φ := fun x => .int x) (a := .rng 0 3) ?_ (SrcV.rng0 (k := 3) (by decide))) ?_ ?_ (fun _ _ _ => rfl) ?_ (fun _ _ _ q => by cases q) (fun _ => rfl) (Nat.le_of_ble_eq_true rfl)) lots_map) ⟨rfl, rfl⟩
  · exact EvA.eq (a := .rng 0 3) (by walk_at "eva") rfl
  · kernel_rfl!
  · kernel_rfl!
  · walk_at "lot9"

end
section
abbrev natsV (ss : List Nat) : List AV := ss.map fun (i : Nat) => .int (i : Int)
theorem natsV_get {ss : List Nat} {i q : Nat} (h : ss[i]? = some q) : (natsV ss)[i]? = some (.int (q : Int)) := by rw [List.getElem?_map, h]; rfl
theorem natsV_set {ss : List Nat} {i q : Nat} : (natsV ss).set i (.int (q : Int)) = natsV (ss.set i q) := (List.map_set (f := fun (i : Nat) => AV.int (i : Int))).symm
theorem lot_get {ls : List (List Int)} {i : Nat} {l : List Int} (h : ls[i]? = some l) : (ls.map fun l => AV.lst (l.map .int))[i]? = some (.lst (l.map .int)) := by rw [List.getElem?_map, h]; rfl
theorem zip_range {xs ps : List Int} (h : xs.length = ps.length) : ((List.range xs.length).filter fun _ => true).map (fun i => pr (xs.getD i 0) (ps.getD i 0)) = (xs.zip ps).map fun q => pr q.1 q.2 := by
  rw [← map_all]
  refine List.ext_getElem? fun i => ?_
  rw [List.getElem?_map, List.getElem?_map]
  by_cases hi : i < xs.length
  · rw [List.getElem?_eq_getElem (by rw [List.length_range]; exact hi), List.getElem_range, List.getElem?_eq_getElem (by rw [List.length_zip]; omega), List.getElem_zip]
    simp only [Option.map_some]
    rw [List.getD_eq_getElem?_getD, List.getD_eq_getElem?_getD, List.getElem?_eq_getElem hi, List.getElem?_eq_getElem (show i < ps.length by omega)]; rfl
  · rw [List.getElem?_eq_none (by rw [List.length_range]; omega), List.getElem?_eq_none (by rw [List.length_zip]; omega)]; rfl
theorem zeros_nats {ls : List (List Int)} {n : Nat} (h : ls.length = n) : List.replicate n (AV.int 0) = natsV (zerosP ls) := by
  rw [zerosP_rep, h, natsV, List.map_replicate]; rfl
/-- an if that gives back, and what is behind it -/
theorem RuB.alt {n u : Nat} {Γ : Cx n u} {cn : Str} {cs : Scope} {ca : Addr} {ccd : Value} {ρ : Nms} {σ : Sto} {t : Expr} {pos : Pos} {body rest : List Stmt} {R : AV → Sto → Prop} {F : Nms → Sto → Prop} {d : Bool}
    (ht : TsA Γ (envOfC cn cs Γ.L ca ccd) ρ σ t d) (k1 : d = true → RuB Γ cn cs ca ccd ρ σ body R Nev) (k2 : d = false → RuB Γ cn cs ca ccd ρ σ rest R F) : RuB Γ cn cs ca ccd ρ σ (.If t body [] pos :: rest) R F := by
  cases d with
  | true => exact RuB.take ht (k1 rfl)
  | false => exact RuB.skip ht (k2 rfl)
theorem words_s30_1 : True := by
  (k_with "my sta" => ((with_reducible show StepA _ _ _ (fun vs => call (Value.builtin "len") vs) _ _); exact len_lstA .imm (by with_reducible assumption)))
  trivial
theorem tuple_D {T : Addr} {D : List Dom} {s : List (Int × Dom)} {t : Cn} {xs : List Int} {j : AV} (h3 : D.length = 3) (hg : Good (cur D s)) (hxb : ∀ x ∈ xs, 0 ≤ x ∧ x < 3) (hn : xs.length ≤ 8) (ht : t.ok) (hv : ∀ x ∈ t.vars, x ∈ xs) :
    FnR 4 200 380 [j, t.av, .tup (xs.map .int), boxV (.lst (D.map domV)) T] [(T, .dic (dicV s))] (Is (.bool (tupB t (cur D s) xs)) [(T, .dic (dicV s))]) := by
  w_top off
  have hz : D.length ≤ 10 := by omega
  have hxs : ∀ x ∈ xs, 0 ≤ x ∧ x < (D.length : Int) := fun x hx => ⟨(hxb x hx).1, by rw [h3]; exact (hxb x hx).2⟩
  have hok : ∀ x ∈ xs, DomOk (cur D s x) := fun x hx => (hg x (hxb x hx).1 (hxb x hx).2).1
  have hl : xs.length ≤ 1000 := by omega
  have hlm : (xs.map AV.int).length ≤ 1000 := by rw [List.length_map]; exact hl
  have hln : (lotsOf D s xs).length = xs.length := List.length_map _
  have hll : ((lotsOf D s xs).map fun l => AV.lst (l.map .int)).length ≤ 1000 := by rw [List.length_map, hln]; exact hl
  have hne : ∀ l ∈ lotsOf D s xs, l ≠ [] := by
    intro l hl
    obtain ⟨x, hx, rfl⟩ := List.mem_map.mp hl
    obtain ⟨v, hv⟩ := vals_ne (hok x hx) (hg x (hxb x hx).1 (hxb x hx).2).2
    exact fun e => by rw [e] at hv; simp at hv
  have hlq : ∀ l ∈ lotsOf D s xs, (l.map AV.int).length ≤ 1000 := by
    intro l hl
    obtain ⟨x, hx, rfl⟩ := List.mem_map.mp hl
    rw [List.length_map]
    exact Nat.le_trans (vals_len fun p hp => ⟨((hok x hx).wide p hp).1, ((hok x hx).wide p hp).2.1⟩) (Nat.le_trans (Nat.mul_le_mul_left _ (hok x hx).len) (by decide))
  have hT0 : (restP (lotsOf D s xs) (zerosP _)).any (fun ps => t.sat (valL (xs.zip ps) fun _ => 0)) = tupB t (cur D s) xs := congrArg (fun l => List.any l _) (rest_zero hne)
  have hpb : ∀ ss, okP (lotsOf D s xs) ss → ∀ p ∈ xs.zip (ptP (lotsOf D s xs) ss), -1 ≤ p.2 ∧ p.2 ≤ 3 := fun ss h => pt_bound hg hxb h
  walk_at "enter4"
  refine RuB.asgK (τ := [(T, .dic (dicV s))]) (EvA.eq (EvA.compG (st := fun _ => [(T, .dic (dicV s))]) (xs := xs) (φ := fun x => [.int x]) (ψ := fun x => .lst ((vals (cur D s x)).map .int)) (p := fun _ => true) (ct := none) (ns := [Str.ofString "x"]) (SrcV.to (φ := fun x => .int x) (a := .tup (xs.map .int)) ?_ .tup) ?_ ?_ (fun _ _ _ => rfl) ?_ (fun _ _ _ q => by cases q) (fun _ => rfl) hl) lots_map) ?_ ?_ ?_
  · walk_at "eva"
  · kernel_rfl!
  · kernel_rfl!
  · walk_at "lot9"
  · first | exact rfl | kernel_rfl!
  · kernel_rfl!
  refine RuB.asgR (P := fun a τ => ∃ p, a = .lit (.ref p) ∧ τ = [(p, .lst (List.replicate xs.length (.int 0))), (T, .dic (dicV s))]) (EvR.mulL (σ₁ := [(T, .dic (dicV s))]) (k := xs.length) ?_ (EvA.eq (a := .int (((xs.map AV.int).length : Nat) : Int)) ?_ (by rw [List.length_map])) (by omega) fun p => ⟨p, rfl, rfl⟩) ?_ ?_ ?_
  · walk_at "eva"
  · walk_at "eva"
  · first | exact rfl | kernel_rfl!
  · kernel_rfl!
  rintro _ _ ⟨p, rfl, rfl⟩
  rw [zeros_nats hln]
  generalize lotsOf D s xs = LS at *
  generalize tupB t (cur D s) xs = B at *
  have hsl : ∀ ss, okP LS ss → ss.length = xs.length := fun ss h => (okP_len h).trans hln
  refine RuB.while (fun m ρ σ => ∃ ss, ρ = [(Str.ofString "spots", .lit (.ref p)), (Str.ofString "lots", lotV LS), (Str.ofString "box", boxV (.lst (D.map domV)) T), (Str.ofString "some", .tup (xs.map .int)), (Str.ofString "told", t.av), (Str.ofString "self", j)] ∧ σ = [(p, .lst (natsV ss)), (T, .dic (dicV s))] ∧ okP LS ss ∧ (restP LS ss).any (fun ps => t.sat (valL (xs.zip ps) fun _ => 0)) = B ∧ m = (restP LS ss).length)
    ⟨zerosP LS, rfl, rfl, ok_zero hne, hT0, rfl⟩ ?_
  rintro m ρ σ ⟨ss, rfl, rfl, hss, hany, rfl⟩
  refine ⟨true, TsA.ofB EvA.bool (fun _ => rfl), fun _ => ?_, fun e => by cases e⟩
  have hsn := hsl ss hss
  have hsz : (natsV ss).length ≤ 1000 := by rw [List.length_map, hsn]; exact hl
  have hpl : xs.length = (ptP LS ss).length := by rw [pt_len hss, hln]
  have hzl : (xs.zip (ptP LS ss)).length ≤ 1000 := by rw [List.length_zip]; omega
  refine RuB.alt (d := t.sat (valL (xs.zip (ptP LS ss)) fun _ => 0)) (TsA.ofB (EvA.callP (σ₁ := [(p, .lst (natsV ss)), (T, .dic (dicV s))]) (as := [t.av, .map (mapF (xs.zip (ptP LS ss)))]) ?hf (ArA.cons (σ₁ := [(p, .lst (natsV ss)), (T, .dic (dicV s))]) ?h1 (ArA.one (EvA.callT (id := "dict") (σ₁ := [(p, .lst (natsV ss)), (T, .dic (dicV s))]) (as := [.lst ((xs.zip (ptP LS ss)).map fun q => pr q.1 q.2)]) ?h2 (ArA.one (EvA.eq (EvA.compG (st := fun _ => [(p, .lst (natsV ss)), (T, .dic (dicV s))]) (xs := List.range xs.length) (φ := fun i => [.int (i : Nat)]) (ψ := fun i => pr (xs.getD i 0) ((ptP LS ss).getD i 0)) (p := fun _ => true) (ct := none) (ns := [Str.ofString "k"]) (SrcV.to (φ := fun i => .int (i : Nat)) (a := .rng 0 (xs.length : Nat)) ?h3 (SrcV.rng0 hl)) ?h4 ?h5 (fun _ _ _ => rfl) ?h6 (fun _ _ _ q => by cases q) (fun _ => rfl) (by rw [List.length_range]; exact hl)) (congrArg AV.lst (zip_range hpl))) rfl) (dict_A hzl) rfl) rfl) rfl)
      (holds_A ht (fun x hx => mapF_in (fst_zip hpl (hv x hx))) (fun x hx => valL_bound (hpb ss hss) (by decide))) ?h7 rfl ?h8 ?h9) (fun _ => rfl)) (fun hP => ?hT) (fun hP => ?hF)
  case hf => walk_at "eva"
  case h1 => walk_at "eva"
  case h2 => walk_at "eva"
  case h3 => exact EvA.eq (a := .rng 0 (((xs.map AV.int).length : Nat) : Int)) (by walk_at "eva") (by rw [List.length_map])
  case h4 => kernel_rfl!
  case h5 => kernel_rfl!
  case h6 =>
    intro i k hk _ C io
    obtain rfl : k = i := by
      have := (List.getElem?_eq_some_iff.mp hk).2
      rw [List.getElem_range] at this
      exact this.symm
    have hi : k < xs.length := by
      have := (List.getElem?_eq_some_iff.mp hk).1
      rwa [List.length_range] at this
    obtain ⟨l, hli⟩ : ∃ l, LS[k]? = some l := ⟨_, List.getElem?_eq_getElem (by omega)⟩
    obtain ⟨q, hqi⟩ : ∃ q, ss[k]? = some q := ⟨_, List.getElem?_eq_getElem (by omega)⟩
    have hq := okP_get hss hli hqi
    have hp := ptP_get hli hqi
    show EvA _ _ _ ((p, .lst (natsV ss)) :: (T, .dic (dicV s)) :: io) _ _ ((p, .lst (natsV ss)) :: (T, .dic (dicV s)) :: io)
    refine EvA.tup (ArA.cons (σ₁ := (p, .lst (natsV ss)) :: (T, .dic (dicV s)) :: io) (EvA.item (σ₁ := (p, .lst (natsV ss)) :: (T, .dic (dicV s)) :: io) (a := .tup (xs.map .int)) (b := .int (k : Nat)) ?_ ?_ (tup_A rfl (intAt hi) hlm rfl)) (ArA.one (EvA.item (σ₁ := (p, .lst (natsV ss)) :: (T, .dic (dicV s)) :: io) (a := .lst (l.map .int)) (b := .int (q : Nat)) (EvA.item (σ₁ := (p, .lst (natsV ss)) :: (T, .dic (dicV s)) :: io) (a := lotV LS) (b := .int (k : Nat)) ?_ ?_ (lst_A .imm rfl (lot_get hli) hll rfl rfl)) (EvA.item (σ₁ := (p, .lst (natsV ss)) :: (T, .dic (dicV s)) :: io) (a := .lit (.ref p)) (b := .int (k : Nat)) ?_ ?_ (lst_A (.sto (i := 0) rfl) rfl (natsV_get hqi) hsz rfl rfl)) (lstT_A .imm rfl ?_ (hlq l (List.mem_of_getElem? hli)) rfl)) rfl) rfl) (Nat.le_of_ble_eq_true rfl)
    · walk_at "eva"
    · walk_at "eva"
    · walk_at "eva"
    · walk_at "eva"
    · walk_at "eva"
    · walk_at "eva"
    · rw [show (ptP LS ss).getD k 0 = l.getD q 0 by rw [List.getD_eq_getElem?_getD, hp]; rfl]; exact intAt hq
  case h7 => walk_at "sid"
  case h8 => walk_at "sid"
  case h9 => walk_at "sid"
  case hT => exact RuB.retF (pre := []) (p := p) (ls := natsV ss) (post := [(T, .dic (dicV s))]) EvA.bool ⟨by rw [go_true hne hss hany hP], rfl⟩
  case hF =>
    refine RuB.asg (τ := [(p, .lst (natsV ss)), (T, .dic (dicV s))]) (a := .int ((xs.length : Nat) - 1)) (EvA.eq (a := .int ((((xs.map AV.int).length : Nat) : Int) - 1)) ?_ (by rw [List.length_map])) rfl ?_ ?_
    · walk_at "eva"
    · kernel_rfl!
    refine RuB.while (fun m ρ σ => ∃ (q : Nat) (z : Int), z + 1 = q ∧ q ≤ xs.length ∧ ρ = [(Str.ofString "k", .int z), (Str.ofString "spots", .lit (.ref p)), (Str.ofString "lots", lotV LS), (Str.ofString "box", boxV (.lst (D.map domV)) T), (Str.ofString "some", .tup (xs.map .int)), (Str.ofString "told", t.av), (Str.ofString "self", j)] ∧ σ = [(p, .lst (natsV (curS ss q xs.length))), (T, .dic (dicV s))] ∧ LastFrom LS ss q ∧ m = q)
      ⟨xs.length, _, by omega, Nat.le_refl _, rfl, by rw [curS_full hsn], fun i l s hi hl _ => by have := (List.getElem?_eq_some_iff.mp hl).1; omega, rfl⟩ ?_
    rintro m ρ σ ⟨q, z, hz', hq, rfl, rfl, hlast, hm⟩
    have hcl : (natsV (curS ss q xs.length)).length ≤ 1000 := by rw [List.length_map, curS_len hsn hq]; exact hl
    cases q with
    | zero =>
      refine ⟨false, TsA.andF (TsA.cmp (a := .int z) (b := .int 0) ?_ ?_ (cmpI_ok (congrArg some (decide_eq_false (by omega)))) rfl), fun e => (by cases e), fun _ => ?_⟩
      · walk_at "eva"
      · walk_at "eva"
      refine RuB.take (TsA.cmp (a := .int z) (b := .int 0) ?_ ?_ (cmpI_ok (congrArg some (decide_eq_true (by omega)))) rfl) (RuB.retF (pre := []) (p := p) (ls := natsV (curS ss 0 xs.length)) (post := [(T, .dic (dicV s))]) EvA.bool ⟨by rw [go_none hne hss hany hP (nextS_none hlast)], rfl⟩)
      · walk_at "eva"
      · walk_at "eva"
    | succ q =>
      obtain ⟨l, hli⟩ : ∃ l, LS[q]? = some l := ⟨_, List.getElem?_eq_getElem (by omega)⟩
      obtain ⟨v, hvi⟩ : ∃ v, ss[q]? = some v := ⟨_, List.getElem?_eq_getElem (by omega)⟩
      have hlz := hlq l (List.mem_of_getElem? hli)
      have hvl := okP_get hss hli hvi
      have hcg := curS_get (n := xs.length) hvi
      refine ⟨(v : Int) == ((l.map AV.int).length : Nat) - 1, TsA.andT (TsA.cmp (a := .int z) (b := .int 0) ?_ ?_ (cmpI_ok (congrArg some (decide_eq_true (by omega)))) rfl) (TsA.cmp (a := .int (v : Nat)) (b := .int ((((l.map AV.int).length : Nat) : Int) - 1))
        (EvA.item (σ₁ := [(p, .lst (natsV (curS ss (q + 1) xs.length))), (T, .dic (dicV s))]) (a := .lit (.ref p)) (b := .int z) ?_ ?_ (lst_A (.sto (i := 0) rfl) (p := q) (by omega) (natsV_get hcg) hcl rfl rfl))
        (EvA.bin (σ₁ := [(p, .lst (natsV (curS ss (q + 1) xs.length))), (T, .dic (dicV s))]) (EvA.callB (id := "len") (σ₁ := [(p, .lst (natsV (curS ss (q + 1) xs.length))), (T, .dic (dicV s))]) (as := [.lst (l.map .int)]) ?_ (ArA.one (EvA.item (σ₁ := [(p, .lst (natsV (curS ss (q + 1) xs.length))), (T, .dic (dicV s))]) (a := lotV LS) (b := .int z) ?_ ?_ (lst_A .imm (p := q) (by omega) (lot_get hli) hll rfl rfl)) rfl) (len_lstA .imm hlz) rfl) ?_ sub_A) (cmpI_ok rfl) rfl), fun hc => ?_, fun hc => ?_⟩
      · walk_at "eva"
      · walk_at "eva"
      · walk_at "eva"
      · walk_at "eva"
      · walk_at "eva"
      · walk_at "eva"
      · walk_at "eva"
      · walk_at "eva"
      · rw [beq_iff_eq, List.length_map] at hc
        refine RuB.setL (p := p) (σ₁ := [(p, .lst (natsV (curS ss (q + 1) xs.length))), (T, .dic (dicV s))]) (σ₂ := [(p, .lst (natsV (curS ss (q + 1) xs.length))), (T, .dic (dicV s))]) (pre := []) (post := [(T, .dic (dicV s))]) (l := natsV (curS ss (q + 1) xs.length)) (k := z) (q := q) (a := .int ((0 : Nat) : Int)) (EvA.eq (a := .int 0) EvA.int rfl) ?_ ?_ (by omega) (by rw [List.length_map, curS_len hsn hq]; omega) hcl rfl ?_
        · walk_at "eva"
        · dsimp only [List.nil_append]
          walk_at "eva"
        rw [natsV_set, curS_zero hsn (by omega)]
        dsimp only [List.nil_append]
        refine RuB.asg (τ := [(p, .lst (natsV (curS ss q xs.length))), (T, .dic (dicV s))]) (a := .int (z - 1)) ?_ rfl ?_ (RuB.nil ⟨q, _, by omega, ⟨q, z - 1, by omega, by omega, rfl, rfl, fun i l' s' hi hl' hs' => ?_, rfl⟩, ?_⟩)
        · walk_at "eva"
        · kernel_rfl!
        · rcases Nat.lt_or_ge q i with h | h
          · exact hlast i l' s' h hl' hs'
          · obtain rfl : i = q := by omega
            rw [hli] at hl'; rw [hvi] at hs'
            cases hl'; cases hs'
            omega
        · walk_at "thin"
      · rw [beq_eq_false_iff_ne, List.length_map] at hc
        have hnx := nextS_at hli hvi (by omega) hlast
        rw [hln, ← curS_set hsn (by omega)] at hnx
        obtain ⟨g1, g2⟩ := go_some hne hss hany hP hnx
        refine RuB.skip (TsA.cmp (a := .int z) (b := .int 0) ?_ ?_ (cmpI_ok (congrArg some (decide_eq_false (by omega)))) rfl) (RuB.setL (p := p) (σ₁ := [(p, .lst (natsV (curS ss (q + 1) xs.length))), (T, .dic (dicV s))]) (σ₂ := [(p, .lst (natsV (curS ss (q + 1) xs.length))), (T, .dic (dicV s))]) (pre := []) (post := [(T, .dic (dicV s))]) (l := natsV (curS ss (q + 1) xs.length)) (k := z) (q := q) (a := .int ((v + 1 : Nat) : Int))
          (EvA.eq (a := .int ((v : Int) + 1)) (EvA.bin (σ₁ := [(p, .lst (natsV (curS ss (q + 1) xs.length))), (T, .dic (dicV s))]) (EvA.item (σ₁ := [(p, .lst (natsV (curS ss (q + 1) xs.length))), (T, .dic (dicV s))]) (a := .lit (.ref p)) (b := .int z) ?_ ?_ (lst_A (.sto (i := 0) rfl) (p := q) (by omega) (natsV_get hcg) hcl rfl rfl)) EvA.int add_A) rfl) ?_ ?_ (by omega) (by rw [List.length_map, curS_len hsn hq]; omega) hcl rfl ?_)
        · walk_at "eva"
        · walk_at "eva"
        · walk_at "eva"
        · walk_at "eva"
        · walk_at "eva"
        · dsimp only [List.nil_append]
          walk_at "eva"
        rw [natsV_set]
        dsimp only [List.nil_append]
        refine RuB.nil ⟨_, _, g2, ⟨_, rfl, rfl, okP_next hne hss hnx, g1, rfl⟩, ?_⟩
        walk_at "thin"

end
section
section
variable {prog : Program} {w : World} {A : Around} {s : Shared} {h₀ : Heap} {L : Addr} {m : Str → Option Value} {env : Env}
open LCg
/-- a comprehension of three fors by one name each, no tests -/
abbrev comp3 (elt iter0 iter1 iter2 : Expr) (x0 x1 x2 : Str) (p0 p1 p2 : Pos) (scope : Scope) (pos : Pos) : Expr :=
  .ListComp elt [⟨.Name x0 p0, iter0, [], 0⟩, ⟨.Name x1 p1, iter1, [], 0⟩, ⟨.Name x2 p2, iter2, [], 0⟩] scope pos
def innerTurn (it acc : Value) (x : Str) (px pi : Pos) (elt : Expr) (e : Expr) (d : Nat) (cenv : Env) : Sem Fin := do
  standAt pi
  match ← pyNext it with
  | none => pure (.done .next)
  | some v =>
    letOwnedTupleGo (.Name x px) it v
    assign (.Name x px) cenv v
    let mut ok := true
    for c in ([] : List Expr) do
      if ok then ok ← isTrue c cenv (eval c cenv)
    if ok then
      (do let _ ← call (.builtin "list.append") [acc, ← eval elt cenv])
    again (.compLoop e d it acc cenv)
def outerTurn (it acc : Value) (x : Str) (px pi : Pos) (iter' : Expr) (e : Expr) (d : Nat) (cenv : Env) : Sem Fin := do
  standAt pi
  match ← pyNext it with
  | none => pure (.done .next)
  | some v =>
    letOwnedTupleGo (.Name x px) it v
    assign (.Name x px) cenv v
    let mut ok := true
    for c in ([] : List Expr) do
      if ok then ok ← isTrue c cenv (eval c cenv)
    if ok then
      let y ← eval iter' cenv
      standAt iter'.pos
      let y ← foldedSetIterable iter' cenv y
      let _ ← runOwn (.compStart e (d + 1) (← holding [y] (pyIter y)) acc cenv) cenv
    again (.compLoop e d it acc cenv)
variable {elt iter0 iter1 iter2 : Expr} {x0 x1 x2 : Str} {p0 p1 p2 pos : Pos} {scope : Scope}
theorem turn3_2 (it acc : Value) (cenv : Env) : compTurn (comp3 elt iter0 iter1 iter2 x0 x1 x2 p0 p1 p2 scope pos) 2 it acc cenv = innerTurn it acc x2 p2 iter2.pos elt (comp3 elt iter0 iter1 iter2 x0 x1 x2 p0 p1 p2 scope pos) 2 cenv := by rfl
theorem turn3_1 (it acc : Value) (cenv : Env) : compTurn (comp3 elt iter0 iter1 iter2 x0 x1 x2 p0 p1 p2 scope pos) 1 it acc cenv = outerTurn it acc x1 p1 iter1.pos iter2 (comp3 elt iter0 iter1 iter2 x0 x1 x2 p0 p1 p2 scope pos) 1 cenv := by rfl
theorem turn3_0 (it acc : Value) (cenv : Env) : compTurn (comp3 elt iter0 iter1 iter2 x0 x1 x2 p0 p1 p2 scope pos) 0 it acc cenv = outerTurn it acc x0 p0 iter0.pos iter1 (comp3 elt iter0 iter1 iter2 x0 x1 x2 p0 p1 p2 scope pos) 0 cenv := by rfl
/-- a start of a clause behind the first -/
theorem compStart3 {d : Nat} {it acc : Value} {cenv : Env} {R : Result → Shared → Prop} (hp : ∃ g, (clausesOf (comp3 elt iter0 iter1 iter2 x0 x1 x2 p0 p1 p2 scope pos))[d]? = some g ∧ g.is_async = 0)
    (h0 : codeAny (model prog w) A (.compLoop (comp3 elt iter0 iter1 iter2 x0 x1 x2 p0 p1 p2 scope pos) d it acc cenv) R s)
    (h : wpAny (model prog w) A (pyIter it) (fun it' s' => codeAny (model prog w) A (.compLoop (comp3 elt iter0 iter1 iter2 x0 x1 x2 p0 p1 p2 scope pos) d it' acc cenv) R s') (notedBy (model prog w) A cenv fun x s' => R (.error x) s') s) :
    codeAny (model prog w) A (.compStart (comp3 elt iter0 iter1 iter2 x0 x1 x2 p0 p1 p2 scope pos) d it acc cenv) R s := by
  obtain ⟨g, hg, ha⟩ := hp
  refine codeAny_of_tree ?_
  show wpAny _ _ ((compStart (comp3 elt iter0 iter1 iter2 x0 x1 x2 p0 p1 p2 scope pos) d it acc cenv).onRaise (fun x => do noteFrame x cenv; standAt theWindowsPlace)) _ _ s
  refine wpAny_notedAt ?_
  unfold compStart
  rw [hg]
  simp only [Option.elim, ha, bne_self_eq_false, Bool.false_eq_true, if_false]
  refine wpAny_bind (wpAny_askSetting (wpAny_ite ?_))
  split
  · first
      | exact wpAny_bind (wpAny_pure (wpAny_pure (And.intro rfl h0)))
      | exact wpAny_pure (And.intro rfl h0)
  · first
      | exact wpAny_bind (wpAny_rule (wpAny_bind (wpAny_standAt (wpAny_bind (wpAny_mono h (fun it' s' h' => wpAny_pure (And.intro rfl h')) fun _ _ x => x)))))
      | (refine wpAny_bind (wpAny_rule ?_); show wpAny _ _ (standAt g.iter.pos >>= _) _ _ s; exact wpAny_bind (wpAny_standAt (wpAny_bind (wpAny_mono h (fun it' s' h' => wpAny_pure (And.intro rfl h')) fun _ _ x => x))))
end

end
section
open LCg
section
variable {prog : Program} {w : World} {A : Around} {s : Shared}
theorem loop_inS {x : Str} {px pi : Pos} {elt le : Expr} {gs : List Comprehension} {sc : Scope} {ps : Pos} {d : Nat} {it acc : Value} {cenv : Env} {R : Result → Shared → Prop} (ht : compTurn (.ListComp le gs sc ps) d it acc cenv = innerTurn it acc x px pi elt (.ListComp le gs sc ps) d cenv) (I : Nat → Shared → Prop)
    (turn : ∀ n s (E' : Value → Shared → Prop), I n s → wpAny (model prog w) A (pyNext it) (fun r s₁ => match r with
      | none => R (.ok .next) s₁
      | some v => wpAny (model prog w) A (letOwnedTupleGo (.Name x px) it v) (fun _ s₂ => wpAny (model prog w) A (assign (.Name x px) cenv v) (fun _ s₂ => wpAny (model prog w) A (eval elt cenv) (fun y s₄ =>
          wpAny (model prog w) A (call (.builtin "list.append") [acc, y]) (fun _ s₅ => ∃ m, m < n ∧ I m s₅) E' s₄) E' s₂) E' s₂) E' s₁) E' s)
    (n : Nat) (h : I n s) : codeAny (model prog w) A (.compLoop (.ListComp le gs sc ps) d it acc cenv) R s := by
  refine codeAny_loop rfl I (fun n s hI => ?_) n h
  show wpAny _ A ((compTurn (.ListComp le gs sc ps) d it acc cenv).onRaise (fun x => do noteFrame x cenv; theTreesLotGoes x)) _ _ s
  refine wpAny_noted ?_
  rw [ht]
  unfold innerTurn
  refine wpAny_bind (wpAny_standAt (wpAny_bind (wpAny_mono (turn n s _ hI) (fun r s₁ h₁ => ?_) fun _ _ h' => h')))
  cases r with
  | none => exact wpAny_pure h₁
  | some v =>
    refine wpAny_bind (wpAny_mono h₁ (fun _ s₂ h₁ => ?_) fun _ _ h' => h')
    refine wpAny_bind (wpAny_mono h₁ (fun _ s₂ h₂ => wpAny_bind (wpAny_tests_nil ?_)) fun _ _ h' => h')
    simp only [if_true]
    exact wpAny_bind (wpAny_bind (wpAny_mono h₂ (fun x s₄ h₄ => wpAny_bind (wpAny_mono h₄ (fun _ s₅ h₅ => wpAny_pure (wpAny_pure ⟨rfl, h₅⟩)) fun _ _ h' => h')) fun _ _ h' => h'))
theorem loop_outS {x : Str} {px pi : Pos} {iter' le : Expr} {gs : List Comprehension} {sc : Scope} {ps : Pos} {d : Nat} {it acc : Value} {cenv : Env} {R : Result → Shared → Prop} (ht : compTurn (.ListComp le gs sc ps) d it acc cenv = outerTurn it acc x px pi iter' (.ListComp le gs sc ps) d cenv) (hs : ∀ y, foldedSetIterable iter' cenv y = pure y) (I : Nat → Shared → Prop)
    (turn : ∀ n s (E' : Value → Shared → Prop), I n s → wpAny (model prog w) A (pyNext it) (fun r s₁ => match r with
      | none => R (.ok .next) s₁
      | some v => wpAny (model prog w) A (letOwnedTupleGo (.Name x px) it v) (fun _ s₂ => wpAny (model prog w) A (assign (.Name x px) cenv v) (fun _ s₂ => wpAny (model prog w) A (eval iter' cenv) (fun y s₃ => wpAny (model prog w) A (pyIter y) (fun it' s₄ =>
          codeAny (model prog w) A (.compStart (.ListComp le gs sc ps) (d + 1) it' acc cenv) (fun r s₅ => match r with | .ok _ => ∃ m, m < n ∧ I m s₅ | .error x => cameBackBy (model prog w) A cenv E' x s₅) s₄) E' s₃) E' s₂) E' s₂) E' s₁) E' s)
    (n : Nat) (h : I n s) : codeAny (model prog w) A (.compLoop (.ListComp le gs sc ps) d it acc cenv) R s := by
  refine codeAny_loop rfl I (fun n s hI => ?_) n h
  show wpAny _ A ((compTurn (.ListComp le gs sc ps) d it acc cenv).onRaise (fun x => do noteFrame x cenv; theTreesLotGoes x)) _ _ s
  refine wpAny_noted ?_
  rw [ht]
  unfold outerTurn
  refine wpAny_bind (wpAny_standAt (wpAny_bind (wpAny_mono (turn n s _ hI) (fun r s₁ h₁ => ?_) fun _ _ h' => h')))
  cases r with
  | none => exact wpAny_pure h₁
  | some v =>
    refine wpAny_bind (wpAny_mono h₁ (fun _ s₂ h₁ => ?_) fun _ _ h' => h')
    refine wpAny_bind (wpAny_mono h₁ (fun _ s₂ h₂ => wpAny_bind (wpAny_tests_nil ?_)) fun _ _ h' => h')
    simp only [if_true]
    refine wpAny_bind (wpAny_mono h₂ (fun y s₃ h₃ => wpAny_bind (wpAny_standAt ?_)) fun _ _ h' => h')
    rw [hs]
    refine wpAny_bind (wpAny_pure ?_)
    refine wpAny_bind (wpAny_holding (wpAny_mono h₃ (fun it' s₄ h₄ => ?_) fun _ _ h' => h'))
    refine wpAny_bind (wpAny_runOwn (codeAny_mono h₄ fun r s₅ h₅ => ?_))
    cases r with
    | ok f => exact wpAny_pure ⟨rfl, h₅⟩
    | error x => exact h₅
end
section
variable {w : World} {S : Kn}
theorem StoL.perm {σ σ' : Sto} (p : σ.Perm σ') : ∀ {st : List (Addr × Obj)}, StoL w S σ st → ∃ st', st.Perm st' ∧ StoL w S σ' st' := by
  induction p with
  | nil => exact fun h => ⟨_, .refl _, h⟩
  | cons x _ ih =>
    intro st h
    obtain ⟨o, r, rfl, hc, q⟩ := h.ofCons
    obtain ⟨r', q1, q2⟩ := ih q
    exact ⟨_, q1.cons _, .cons hc q2⟩
  | swap x y l =>
    intro st h
    obtain ⟨o, r, rfl, hc, q⟩ := h.ofCons
    obtain ⟨o', r', rfl, hc', q'⟩ := q.ofCons
    exact ⟨_, .swap _ _ _, .cons hc' (.cons hc q')⟩
  | trans _ _ ih1 ih2 =>
    intro st h
    obtain ⟨a, q1, h1⟩ := ih1 h
    obtain ⟨b, q2, h2⟩ := ih2 h1
    exact ⟨b, q1.trans q2, h2⟩
end
section
variable {n u : Nat} {Γ : Cx n u} {cn : Str} {cs sc : Scope} {ca : Addr} {ccd : Value} {ρ ρC : Nms} {σ σ' τ : Sto} {m : Str → Option Value} {mu imm : List (Addr × Obj)} {h h' : Heap} {tk : Nat} {E : Value → Shared → Prop}
  {x : Str} {px pi ps : Pos} {elt le iter : Expr} {gs : List Comprehension} {d : Nat} {I C D : Addr} {fp : List Addr} {St : Nat → Heap → Prop}
theorem Led.perm (L : Led Γ m σ mu imm h) (p : σ.Perm σ') : Led Γ m σ' mu imm h := by
  obtain ⟨st, S, N, nd⟩ := L.ex
  obtain ⟨st', q, S'⟩ := S.perm p
  exact Led.of L.F S' N nd (q.append_right _)
/-- the turn's name is stored in C, no other changes -/
theorem take_1 {cl : List (Str × Addr)} {a : AV} {v : Value} {mC : Str → Option Value} {as : List AV} {xs : List Str} {Q : Unit → Shared → Prop} (hk : sc.kind = .function) (t : Tak (Γ.S imm) h (.Name x px) xs as v) (hc : sc.names.lookup x = some .local) (hn : h.Ns C mC) (O : OwnC Γ cs sc ρ mC mu imm) (hxs : xs = [x]) (has : as = [a])
    (q : ∀ (h' : Heap) (tk' : Nat), h'.Ns C (fun y => if y = x then some v else mC y) → OwnC Γ cs sc ((x, a) :: ρ) (fun y => if y = x then some v else mC y) mu imm → (∀ b o, b ≠ C → h.get? b = some o → h'.get? b = some o) → Q () (Γ.st h' tk')) :
    wpAny Γ.M Γ.A (assign (.Name x px) (compEnvC sc cl C (envOfC cn cs Γ.L ca ccd)) v) Q E (Γ.st h tk) := by
  cases t with
  | name r =>
    cases has
    exact wpAny_assign_Name (wpAny_storeName_local (s := Γ.st h tk) (lookup_relabel_local hc) hn (fun h₃ hn₃ hs₃ => q h₃ (tk + 1) hn₃ (O.set hc r) fun b o hb e => hs₃.extBut b o hb e) (by simp [compEnvC, relabel, hk]))
theorem OwnC.same {mC mC' : Str → Option Value} (O : OwnC Γ cs sc ρ mC mu imm) (k : ∀ y a, ρ.lookup y = some a → mC' y = mC y) : OwnC Γ cs sc ρ mC' mu imm := fun y a e =>
  (O y a e).imp (fun ⟨v, h1, h2, r⟩ => ⟨v, (k y a e).trans h1, h2, r⟩) id
/-- what a clause's loop does: it puts gen behind the list -/
def RunC (Γ : Cx n u) (cn : Str) (cs sc : Scope) (ca : Addr) (ccd : Value) (e : Expr) (d : Nat) (own : List Str) (C D : Addr) (m : Str → Option Value) (mu : List (Addr × Obj)) (σ : Sto) (I : Addr) (fp : List Addr) (St : Nat → Heap → Prop) (imm : List (Addr × Obj)) (ρC : Nms) (gen : List AV) : Prop :=
  ∀ (ys : List Value) (gs : List AV) (im io : List (Addr × Obj)) (oC : Obj) (mC : Str → Option Value) (h : Heap) (tk : Nat) (RR : Result → Shared → Prop), Led Γ m (σ ++ rawS ((D, lst ys) :: io)) ([(C, oC)] ++ mu) im h → NsObj oC mC → OwnC Γ cs sc ρC mC mu im → (∀ q ∈ imm, q ∈ im) → RelL (Γ.S im) gs ys → io.map (·.1) = fp → St 0 h → gs.length + gen.length ≤ 1000 →
    (∀ (ys' : List Value) (im' : List (Addr × Obj)) (oC' : Obj) (mC' : Str → Option Value) (h' : Heap) (tk' : Nat), Led Γ m (σ ++ rawS [(D, lst ys')]) ([(C, oC')] ++ mu) im' h' → NsObj oC' mC' → (∀ y, y ∉ own → mC' y = mC y) → (∀ q ∈ im, q ∈ im') → RelL (Γ.S im') (gs ++ gen) ys' → RR (.ok .next) (Γ.st h' tk')) →
    codeAny Γ.M Γ.A (.compLoop e d (.ref I) (.ref D) (cEnv Γ cn cs sc ca ccd C)) RR (Γ.st h tk)
theorem run_in {items : List AV} {ψ : AV → AV} (ht : ∀ it acc cenv, compTurn (.ListComp le gs sc ps) d it acc cenv = innerTurn it acc x px pi elt (.ListComp le gs sc ps) d cenv) (K : CmpOk sc cs) (hx : sc.names.lookup x = some .local) (it : Itr Γ imm (.Name x px) [x] (items.map fun a => [a]) I fp St) (hDf : D ∉ fp) (hCf : C ∉ fp) (hDC : D ≠ C) (hxρ : ∀ b, ρC.lookup x ≠ some b)
    (helt : ∀ a ∈ items, ∀ io, EvA Γ (cEnv Γ cn cs sc ca ccd C) ((x, a) :: ρC) (σ ++ io) elt (ψ a) (σ ++ io)) : RunC Γ cn cs sc ca ccd (.ListComp le gs sc ps) d [x] C D m mu σ I fp St imm ρC (items.map ψ) := by
  intro ys₀ g₀ im₀ io₀ oC₀ mC₀ h tk RR L₀ hC₀ O₀ him₀ hy₀ hio₀ st₀ hz fin
  have kn : ∀ {mu' im : List (Addr × Obj)} {σ' : Sto} {g : Heap}, Led Γ m σ' mu' im g → (∀ q ∈ imm, q ∈ im) → ∀ a o, Γ.S imm a o → g.get? a = some o := fun L' hi a o q => L'.get (Cx.S_mono hi _ _ q)
  refine loop_inS (ht _ _ _) (fun k s' => ∃ g tk' i ys oC mC im io, s' = Γ.st g tk' ∧ i ≤ items.length ∧ k = items.length + 1 - i ∧ St i g ∧ io.map (·.1) = fp ∧ Led Γ m (σ ++ rawS ((D, lst ys) :: io)) ([(C, oC)] ++ mu) im g ∧ NsObj oC mC ∧ OwnC Γ cs sc ρC mC mu im ∧ (∀ y, y ∉ [x] → mC y = mC₀ y) ∧ (∀ q ∈ im₀, q ∈ im) ∧ RelL (Γ.S im) (g₀ ++ (items.take i).map ψ) ys) ?_ (items.length + 1)
    ⟨h, tk, 0, ys₀, oC₀, mC₀, im₀, io₀, rfl, Nat.zero_le _, rfl, st₀, hio₀, L₀, hC₀, O₀, fun _ _ => rfl, fun _ q => q, by simpa using hy₀⟩
  rintro k s' E' ⟨g, tk', i, ys, oC, mC, im, io, rfl, hi, rfl, hSt, hio, L', hoC, O, hm, him, hy⟩
  have himm : ∀ q ∈ imm, q ∈ im := fun q hq => him q (him₀ q hq)
  have gD := L'.raw (D, lst ys) (.head _)
  have gC := L'.muN (C, oC) (.head _)
  by_cases hlt : i < items.length
  · have hx' : items[i]? = some items[i] := List.getElem?_eq_getElem hlt
    generalize items[i] = a at hx'
    refine it.next i [a] g tk' _ _ (by rw [List.getElem?_map, hx']; rfl) hSt (kn L' himm) fun v g₁ tk₁ go => go _ _ fun g₂ tk₂ hSt₂ hk₂ tak => ?_
    obtain ⟨io₂, hio₂, gio₂⟩ := own_list (it.own (i + 1) g₂ hSt₂)
    have L₂ : Led Γ m (σ ++ rawS ((D, lst ys) :: io₂)) ([(C, oC)] ++ mu) im g₂ := L'.chg (by rw [List.map_cons, List.map_cons, hio, hio₂]) rfl (fun q hq => by
        rcases List.mem_cons.mp hq with rfl | hq
        · exact hk₂ _ _ hDf gD
        · exact gio₂ q hq) (fun q hq => by rw [List.mem_singleton.mp hq]; exact hk₂ _ _ hCf gC.1) fun b o h1 _ e => hk₂ b o (fun q => h1 (by rw [List.map_cons, hio]; exact .tail _ q)) e
    refine take_1 (a := a) (ρ := ρC) (mC := mC) K.kind (tak.mono (Cx.S_mono himm)) hx (hoC.ns (L₂.muN (C, oC) (.head _)).1) O rfl rfl fun g₃ tk₃ hn₃ O₃ hk₃ => ?_
    obtain ⟨oC₃, heC₃, hoC₃⟩ := ns_obj hn₃
    have L₃ : Led Γ m (σ ++ rawS ((D, lst ys) :: io₂)) ([(C, oC₃)] ++ mu) im g₃ := L₂.chg rfl rfl (fun q hq => hk₃ _ _ (fun e => by
        rcases List.mem_cons.mp hq with rfl | hq
        · exact hDC e
        · exact hCf (by rw [← e, ← hio₂]; exact List.mem_map_of_mem hq)) (L₂.raw q hq)) (fun q hq => by rw [List.mem_singleton.mp hq]; exact heC₃) fun b o _ h2 e => hk₃ b o (fun q => h2 (by rw [q]; exact .head _)) e
    have hSt₃ : St (i + 1) g₃ := it.keep _ _ _ hSt₂ (kn L₂ himm) (kn L₃ himm) fun b hb o e => hk₃ b o (fun q => hCf (q ▸ hb)) e
    refine (helt a (List.mem_of_getElem? hx') _).run _ _ _ _ _ _ _ L₃ (O₃.nm K hoC₃) fun y g₅ tk₅ im₅ L₅ k₅ r₅ => ?_
    have hyl := hy.length
    rw [List.length_append, List.length_map, List.length_take] at hyl
    rw [List.length_map] at hz
    refine append_at (hsz := by show ys.toArray.size ≤ sizeLine; rw [List.size_toArray, sizeLine_eq]; omega) (L₅.raw (D, lst ys) (.head _)) fun g₆ hs₆ hD₆ => ?_
    have L₆ : Led Γ m (σ ++ rawS ((D, lst (ys ++ [y])) :: io₂)) ([(C, oC₃)] ++ mu) im₅ g₆ := L₅.chg (os' := (D, lst (ys ++ [y])) :: io₂) (cl' := [(C, oC₃)]) rfl rfl (fun q hq => by
        rcases List.mem_cons.mp hq with rfl | hq
        · exact hD₆.trans (congrArg some (lst_snoc ys y))
        · exact hs₆.extBut _ _ (fun e => hDf (by rw [← e, ← hio₂]; exact List.mem_map_of_mem hq)) (L₅.raw q (.tail _ hq))) (fun q hq => by
        rw [List.mem_singleton.mp hq]
        exact hs₆.extBut _ _ (Ne.symm hDC) (L₅.muN (C, oC₃) (.head _)).1) fun b o h1 _ e => hs₆.extBut b o (fun q => h1 (by rw [q]; exact .head _)) e
    have hi₅ : ∀ q ∈ im₀, q ∈ im₅ := fun q hq => k₅ q (him q hq)
    refine ⟨items.length + 1 - (i + 1), by omega, g₆, tk₅, i + 1, ys ++ [y], oC₃, _, im₅, io₂, rfl, hlt, rfl, it.keep _ _ _ hSt₃ (kn L₃ himm) (kn L₆ fun q hq => k₅ q (himm q hq)) (fun b hb o e => ?_), hio₂, L₆, hoC₃, ?_, ?_, hi₅, ?_⟩
    · obtain ⟨q, hq, rfl⟩ := List.mem_map.mp (hio₂ ▸ hb : b ∈ io₂.map (·.1))
      rw [L₃.raw q (.tail _ hq)] at e; cases e
      exact L₆.raw q (.tail _ hq)
    · exact (O.mono k₅).same fun z b e => by
        by_cases hzx : z = x
        · exact absurd e (by rw [hzx]; exact hxρ b)
        · exact if_neg hzx
    · intro z hzn
      rw [if_neg (fun q => hzn (by rw [q]; exact .head _))]
      exact hm z hzn
    · rw [take_snoc hx', List.map_append, ← List.append_assoc]
      exact (hy.mono (Cx.S_mono k₅)).append (.cons r₅ .nil)
  · obtain rfl : i = items.length := Nat.le_antisymm hi (Nat.not_lt.mp hlt)
    refine it.done g tk' _ _ (by rw [List.length_map]; exact hSt) fun g₂ tk₂ hk₂ => ?_
    rw [show σ ++ rawS ((D, lst ys) :: io) = (σ ++ rawS [(D, lst ys)]) ++ rawS io from by simp [rawS]] at L'
    have L₂ := L'.endRaw (h' := g₂) fun b o hb e => hk₂ b o (by rw [← hio]; exact hb) e
    rw [List.take_length] at hy
    exact fin ys im oC mC g₂ tk₂ L₂ hoC hm him hy
theorem Led.rawIn {os io : List (Addr × Obj)} {D : Addr} {oD : Obj} (L : Led Γ m ((σ ++ rawS ((D, oD) :: os)) ++ rawS io) mu imm h) : Led Γ m ((σ ++ rawS os) ++ rawS ((D, oD) :: io)) mu imm h := by
  refine L.perm ?_
  simp only [rawS, List.map_cons, List.append_assoc]
  exact List.Perm.append_left _ List.perm_middle.symm
theorem Led.rawOut {os : List (Addr × Obj)} {D : Addr} {oD : Obj} (L : Led Γ m ((σ ++ rawS os) ++ rawS [(D, oD)]) mu imm h) : Led Γ m (σ ++ rawS ((D, oD) :: os)) mu imm h := by
  refine L.perm ?_
  simp only [rawS, List.map_cons, List.map_nil, List.append_assoc]
  exact List.Perm.append_left _ (List.perm_append_comm (l₂ := [(D, CV.raw oD)]))
variable {iter0 iter1 iter2 iter' : Expr} {x0 x1 x2 : Str} {p0 p1 p2 pos : Pos}
theorem run_out {items : List AV} {g : AV → List AV} {own' : List Str} (ht : ∀ it acc cenv, compTurn (comp3 elt iter0 iter1 iter2 x0 x1 x2 p0 p1 p2 sc pos) d it acc cenv = outerTurn it acc x px pi iter' (comp3 elt iter0 iter1 iter2 x0 x1 x2 p0 p1 p2 sc pos) d cenv)
    (hcl : ∃ c, (clausesOf (comp3 elt iter0 iter1 iter2 x0 x1 x2 p0 p1 p2 sc pos))[d + 1]? = some c ∧ c.is_async = 0) (hs : ∀ y, foldedSetIterable iter' (cEnv Γ cn cs sc ca ccd C) y = pure y)
    (K : CmpOk sc cs) (hx : sc.names.lookup x = some .local) (it : Itr Γ imm (.Name x px) [x] (items.map fun a => [a]) I fp St) (hDf : D ∉ fp) (hCf : C ∉ fp) (hDC : D ≠ C) (hxρ : ∀ y b, ρC.lookup y = some b → y ≠ x ∧ y ∉ own')
    (hin : ∀ a ∈ items, ∃ (tg : Expr) (ns' : List Str) (its' : List (List AV)), (∀ io, ItA Γ (cEnv Γ cn cs sc ca ccd C) ((x, a) :: ρC) (σ ++ io) iter' (σ ++ io) tg ns' its') ∧
      ∀ (io : Sto) (I' : Addr) (fp' : List Addr) (St' : Nat → Heap → Prop) (imm' : List (Addr × Obj)), Itr Γ imm' tg ns' its' I' fp' St' → D ∉ fp' → C ∉ fp' → RunC Γ cn cs sc ca ccd (comp3 elt iter0 iter1 iter2 x0 x1 x2 p0 p1 p2 sc pos) (d + 1) own' C D m mu (σ ++ io) I' fp' St' imm' ((x, a) :: ρC) (g a)) :
    RunC Γ cn cs sc ca ccd (comp3 elt iter0 iter1 iter2 x0 x1 x2 p0 p1 p2 sc pos) d (x :: own') C D m mu σ I fp St imm ρC (items.flatMap g) := by
  intro ys₀ g₀ im₀ io₀ oC₀ mC₀ h tk RR L₀ hC₀ O₀ him₀ hy₀ hio₀ st₀ hz fin
  have kn : ∀ {mu' im : List (Addr × Obj)} {σ' : Sto} {g : Heap}, Led Γ m σ' mu' im g → (∀ q ∈ imm, q ∈ im) → ∀ a o, Γ.S imm a o → g.get? a = some o := fun L' hi a o q => L'.get (Cx.S_mono hi _ _ q)
  refine loop_outS (ht _ _ _) hs (fun k s' => ∃ g' tk' i ys oC mC im io, s' = Γ.st g' tk' ∧ i ≤ items.length ∧ k = items.length + 1 - i ∧ St i g' ∧ io.map (·.1) = fp ∧ Led Γ m (σ ++ rawS ((D, lst ys) :: io)) ([(C, oC)] ++ mu) im g' ∧ NsObj oC mC ∧ OwnC Γ cs sc ρC mC mu im ∧ (∀ y, y ∉ x :: own' → mC y = mC₀ y) ∧ (∀ q ∈ im₀, q ∈ im) ∧ RelL (Γ.S im) (g₀ ++ (items.take i).flatMap g) ys) ?_ (items.length + 1)
    ⟨h, tk, 0, ys₀, oC₀, mC₀, im₀, io₀, rfl, Nat.zero_le _, rfl, st₀, hio₀, L₀, hC₀, O₀, fun _ _ => rfl, fun _ q => q, by simpa using hy₀⟩
  rintro k s' E' ⟨g₁', tk', i, ys, oC, mC, im, io, rfl, hi, rfl, hSt, hio, L', hoC, O, hm, him, hy⟩
  have himm : ∀ q ∈ imm, q ∈ im := fun q hq => him q (him₀ q hq)
  have gD := L'.raw (D, lst ys) (.head _)
  have gC := L'.muN (C, oC) (.head _)
  by_cases hlt : i < items.length
  · have hx' : items[i]? = some items[i] := List.getElem?_eq_getElem hlt
    generalize items[i] = a at hx'
    refine it.next i [a] g₁' tk' _ _ (by rw [List.getElem?_map, hx']; rfl) hSt (kn L' himm) fun v g₁ tk₁ go => go _ _ fun g₂ tk₂ hSt₂ hk₂ tak => ?_
    obtain ⟨io₂, hio₂, gio₂⟩ := own_list (it.own (i + 1) g₂ hSt₂)
    have L₂ : Led Γ m (σ ++ rawS ((D, lst ys) :: io₂)) ([(C, oC)] ++ mu) im g₂ := L'.chg (by rw [List.map_cons, List.map_cons, hio, hio₂]) rfl (fun q hq => by
        rcases List.mem_cons.mp hq with rfl | hq
        · exact hk₂ _ _ hDf gD
        · exact gio₂ q hq) (fun q hq => by rw [List.mem_singleton.mp hq]; exact hk₂ _ _ hCf gC.1) fun b o h1 _ e => hk₂ b o (fun q => h1 (by rw [List.map_cons, hio]; exact .tail _ q)) e
    refine take_1 (a := a) (ρ := ρC) (mC := mC) K.kind (tak.mono (Cx.S_mono himm)) hx (hoC.ns (L₂.muN (C, oC) (.head _)).1) O rfl rfl fun g₃ tk₃ hn₃ O₃ hk₃ => ?_
    obtain ⟨oC₃, heC₃, hoC₃⟩ := ns_obj hn₃
    have L₃ : Led Γ m (σ ++ rawS ((D, lst ys) :: io₂)) ([(C, oC₃)] ++ mu) im g₃ := L₂.chg rfl rfl (fun q hq => hk₃ _ _ (fun e => by
        rcases List.mem_cons.mp hq with rfl | hq
        · exact hDC e
        · exact hCf (by rw [← e, ← hio₂]; exact List.mem_map_of_mem hq)) (L₂.raw q hq)) (fun q hq => by rw [List.mem_singleton.mp hq]; exact heC₃) fun b o _ h2 e => hk₃ b o (fun q => h2 (by rw [q]; exact .head _)) e
    have hSt₃ : St (i + 1) g₃ := it.keep _ _ _ hSt₂ (kn L₂ himm) (kn L₃ himm) fun b hb o e => hk₃ b o (fun q => hCf (q ▸ hb)) e
    obtain ⟨tg, ns', its', hit, hrun⟩ := hin a (List.mem_of_getElem? hx')
    refine (hit _).run _ _ _ _ _ _ _ L₃ (O₃.nm K hoC₃) fun I' fp' St' g₄ tk₄ im₄ L₄ k₄ it' st' fnd' foff' => ?_
    have hD' : D ∉ fp' := fun q => (foff' D q).2.2.1 (by simp [rawS])
    have hC' : C ∉ fp' := fun q => (foff' C q).2.2.2 (C, oC₃) (by simp) rfl
    obtain ⟨io', hio', gio'⟩ := own_list (it'.own 0 g₄ st')
    have L₅ := (L₄.addRaw gio' (by rw [hio']; exact fnd') (by rw [hio']; exact foff')).rawIn
    have hi₄ : ∀ q ∈ im₀, q ∈ im₄ := fun q hq => k₄ q (him q hq)
    have take_snoc' : (items.take (i + 1)).flatMap g = (items.take i).flatMap g ++ g a := by rw [take_snoc hx', List.flatMap_append]; simp
    have hlen : ((items.take i).flatMap g).length + (g a).length ≤ (items.flatMap g).length := by
      rw [← List.length_append, ← take_snoc']
      conv => rhs; rw [← List.take_append_drop (i + 1) items, List.flatMap_append, List.length_append]
      exact Nat.le_add_right _ _
    have loop : codeAny Γ.M Γ.A (.compLoop (comp3 elt iter0 iter1 iter2 x0 x1 x2 p0 p1 p2 sc pos) (d + 1) (.ref I') (.ref D) (cEnv Γ cn cs sc ca ccd C)) (fun r s₅ => match r with | .ok _ => ∃ k', k' < items.length + 1 - i ∧ ∃ g' tk' i ys oC mC im io, s₅ = Γ.st g' tk' ∧ i ≤ items.length ∧ k' = items.length + 1 - i ∧ St i g' ∧ io.map (·.1) = fp ∧ Led Γ m (σ ++ rawS ((D, lst ys) :: io)) ([(C, oC)] ++ mu) im g' ∧ NsObj oC mC ∧ OwnC Γ cs sc ρC mC mu im ∧ (∀ y, y ∉ x :: own' → mC y = mC₀ y) ∧ (∀ q ∈ im₀, q ∈ im) ∧ RelL (Γ.S im) (g₀ ++ (items.take i).flatMap g) ys | .error e => cameBackBy Γ.M Γ.A (cEnv Γ cn cs sc ca ccd C) E' e s₅) (Γ.st g₄ tk₄) := by
      refine hrun (rawS io₂) I' fp' St' im₄ it' hD' hC' ys _ im₄ io' oC₃ _ g₄ tk₄ _ L₅ hoC₃ (O₃.mono k₄) (fun _ q => q) (hy.mono (Cx.S_mono k₄)) hio' st' (by rw [List.length_append]; omega) fun ys' im₆ oC₆ mC₆ g₆ tk₆ L₆ hoC₆ hm₆ hi₆ hy₆ => ?_
      have L₇ := L₆.rawOut
      refine ⟨items.length + 1 - (i + 1), by omega, g₆, tk₆, i + 1, ys', oC₆, mC₆, im₆, io₂, rfl, hlt, rfl, it.keep _ _ _ hSt₃ (kn L₃ himm) (kn L₇ fun q hq => hi₆ q (k₄ q (himm q hq))) (fun b hb o e => ?_), hio₂, L₇, hoC₆, ?_, ?_, fun q hq => hi₆ q (hi₄ q hq), ?_⟩
      · obtain ⟨q, hq, rfl⟩ := List.mem_map.mp (hio₂ ▸ hb : b ∈ io₂.map (·.1))
        rw [L₃.raw q (.tail _ hq)] at e; cases e
        exact L₇.raw q (.tail _ hq)
      · exact (O.mono fun q hq => hi₆ q (k₄ q hq)).same fun z b e => (hm₆ z (hxρ z b e).2).trans (if_neg (hxρ z b e).1)
      · intro z hzn
        rw [List.mem_cons, not_or] at hzn
        rw [hm₆ z hzn.2, if_neg hzn.1]
        exact hm z (by rw [List.mem_cons, not_or]; exact hzn)
      · rw [take_snoc', ← List.append_assoc]; exact hy₆
    exact compStart3 hcl loop (it'.self 0 _ _ _ _ st' loop)
  · obtain rfl : i = items.length := Nat.le_antisymm hi (Nat.not_lt.mp hlt)
    refine it.done g₁' tk' _ _ (by rw [List.length_map]; exact hSt) fun g₂ tk₂ hk₂ => ?_
    rw [show σ ++ rawS ((D, lst ys) :: io) = (σ ++ rawS [(D, lst ys)]) ++ rawS io from by simp [rawS]] at L'
    have L₂ := L'.endRaw (h' := g₂) fun b o hb e => hk₂ b o (by rw [← hio]; exact hb) e
    rw [List.take_length] at hy
    exact fin ys im oC mC g₂ tk₂ L₂ hoC hm him hy
end

end
section
open LCg
section
variable {n u : Nat} {Γ : Cx n u} {cn : Str} {cs sc : Scope} {ca : Addr} {ccd : Value} {ρ : Nms} {σ τ : Sto} {m : Str → Option Value} {mu imm : List (Addr × Obj)} {h h' : Heap} {tk : Nat} {E : Value → Shared → Prop}
  {x0 x1 x2 : Str} {p0 p1 p2 pos : Pos} {elt iter0 iter1 iter2 : Expr} {rest : List Stmt} {R : AV → Sto → Prop} {F : Nms → Sto → Prop}
/-- a comprehension of three fors, from its iterator on -/
theorem comp3_core {target : Expr} {ns : List Str} {its : List (List AV)} {I : Addr} {fp : List Addr} {St : Nat → Heap → Prop} {RR : Value → Addr → Result → Shared → Prop} {own : List Str} {gen : List AV} (K : CmpOk sc cs)
    (L : Led Γ m σ mu imm h) (N : Nm Γ (envOfC cn cs Γ.L ca ccd) ρ m mu imm) (it : Itr Γ imm target ns its I fp St) (st0 : St 0 h) (fnd : fp.Nodup) (foff : ∀ b ∈ fp, Off Γ σ mu imm b)
    (hrun : ∀ D C, D ∉ fp → C ∉ fp → D ≠ C → RunC Γ cn cs sc ca ccd (comp3 elt iter0 iter1 iter2 x0 x1 x2 p0 p1 p2 sc pos) 0 own C D m mu σ I fp St imm (seen sc ρ) gen) (hz : gen.length ≤ 1000)
    (fin : ∀ D C oC mC h' tk' ys im, Led Γ m σ ((C, oC) :: mu) ((D, lst ys) :: im) h' → NsObj oC mC → (∀ q ∈ imm, q ∈ im) → RelL (Γ.S im) gen ys → RR (.ref D) C (.ok .next) (Γ.st h' tk')) :
    wpAny Γ.M Γ.A (newList []) (fun acc s₃ => wpAny Γ.M Γ.A (newFunctionEnv sc (envOfC cn cs Γ.L ca ccd).globals (closL (cellsFrom (Γ.L + 1) cs.names []) sc.names []) [] (envOfC cn cs Γ.L ca ccd).qual none .none (some (envOfC cn cs Γ.L ca ccd))) (fun cenv s₄ =>
      codeAny Γ.M Γ.A (.compStart (comp3 elt iter0 iter1 iter2 x0 x1 x2 p0 p1 p2 sc pos) 0 (.ref I) acc { cenv with scope := relabel sc (envOfC cn cs Γ.L ca ccd) }) (RR acc cenv.locals) s₄) E s₃) E (Γ.st h tk) := by
  refine wpAny_newObj_type (wpAny_newFunctionEnv K.cell (by intro y hy; simp at hy) (fun h₁ hns₁ hsb₁ => ?_) K.kind)
  dsimp only at hns₁ hsb₁ ⊢
  generalize hH2 : h.push { cls := .type "list", dict := none, data := .seq ([] : List Value).toArray } = H2 at hns₁ hsb₁ ⊢
  have hC : H2.objs.size = h.objs.size + 1 := by rw [← hH2, Heap.size_push]
  have hDC : h.objs.size ≠ H2.objs.size := by rw [hC]; exact Nat.ne_of_lt (Nat.lt_succ_self _)
  have old : ∀ b o, h.get? b = some o → h₁.get? b = some o := fun b o e => hsb₁.extBut b o (by rw [hC]; exact Nat.ne_of_lt (Nat.lt_succ_of_lt (Heap.lt_size e))) (Heap.get?_push_of_some _ (hH2 ▸ Heap.get?_push_of_some _ e))
  have hacc : h₁.get? h.objs.size = some (lst []) := hsb₁.extBut _ _ hDC (Heap.get?_push_of_some _ (hH2 ▸ Heap.get?_push_size _ rfl))
  have nD : h.get? h.objs.size = none := Heap.get?_none_of_le (Nat.le_refl _)
  have nC : h.get? H2.objs.size = none := Heap.get?_none_of_le (by rw [hC]; exact Nat.le_succ _)
  have ndf : ∀ b, h.get? b = none → b ∉ fp := fun b e q => by
    obtain ⟨o, e'⟩ := it.own 0 h st0 b q
    rw [e] at e'; cases e'
  have hDf := ndf _ nD
  have hCf := ndf _ nC
  obtain ⟨oC, heC, hoC⟩ := ns_obj hns₁
  obtain ⟨io, hio, gio⟩ := own_list (it.own 0 h st0)
  have hst₁ : St 0 h₁ := it.keep 0 h h₁ st0 (fun a o q => L.get q) (fun a o q => old _ _ (L.get q)) fun b _ o e => old b o e
  generalize h.objs.size = D at *
  generalize H2.objs.size = C at *
  have L₁ : Led Γ m (σ ++ rawS ((D, lst []) :: io)) ([(C, oC)] ++ mu) imm h₁ := by
    obtain ⟨s, S, N', nd⟩ := (L.addRaw gio (by rw [hio]; exact fnd) (by rw [hio]; exact foff)).unraw
    obtain ⟨N₂, nd₂⟩ := L.add (new := [(C, oC), (D, lst [])]) old (fun q hq => by
      simp only [List.mem_cons, List.not_mem_nil, or_false] at hq
      rcases hq with rfl | rfl
      · exact ⟨heC, nC⟩
      · exact ⟨hacc, nD⟩) (by simp only [List.map_cons, List.map_nil, List.nodup_cons, List.mem_cons, List.not_mem_nil, or_false, not_false_eq_true, List.nodup_nil, and_true]; exact Ne.symm hDC) N' nd
    refine Led.of (L.F.keeps old) (S.app (st' := (D, lst []) :: io) (.cons rfl .toRaw)) N₂ nd₂ ?_
    exact perm_a
  have loop : ∀ tk₁, codeAny Γ.M Γ.A (.compLoop (comp3 elt iter0 iter1 iter2 x0 x1 x2 p0 p1 p2 sc pos) 0 (.ref I) (.ref D) (compEnvC sc (closL (cellsFrom (Γ.L + 1) cs.names []) sc.names []) C (envOfC cn cs Γ.L ca ccd))) (RR (.ref D) C) (Γ.st h₁ tk₁) := fun tk₁ =>
    hrun D C hDf hCf hDC [] [] imm io oC _ h₁ tk₁ _ L₁ hoC (OwnC.seen K N) (fun _ q => q) .nil hio hst₁ (by simpa using hz) fun ys im oC' mC' h' tk' L' hC' _ hi hy => by
      obtain ⟨s, S, N₂, nd₂⟩ := L'.unraw
      exact fin D C oC' mC' h' tk' ys im (Led.of L'.F (S.mono (Cx.S_mono up1)) N₂ nd₂ perm_b) hC' hi (by simpa using hy)
  exact codeAny_compStart_list (loop _) (it.self 0 h₁ _ _ _ hst₁ (loop _))
/-- a name takes the list of three fors -/
theorem RuB.asgComp3 {y : Str} {py spos : Pos} {own : List Str} {gen items : List AV} (hit : ItA Γ (envOfC cn cs Γ.L ca ccd) ρ σ iter0 τ (.Name x0 p0) [x0] (items.map fun a => [a])) (hok : cmpOk sc cs = true)
    (hrun : ∀ (m : Str → Option Value) (mu imm : List (Addr × Obj)) (I : Addr) (fp : List Addr) (St : Nat → Heap → Prop) (D C : Addr), Itr Γ imm (.Name x0 p0) [x0] (items.map fun a => [a]) I fp St → D ∉ fp → C ∉ fp → D ≠ C → RunC Γ cn cs sc ca ccd (comp3 elt iter0 iter1 iter2 x0 x1 x2 p0 p1 p2 sc pos) 0 own C D m mu τ I fp St imm (seen sc ρ) gen)
    (hs : ∀ x, foldedSetIterable iter0 (envOfC cn cs Γ.L ca ccd) x = pure x) (hz : gen.length ≤ 1000) (ky : nmSt cs y = true)
    (hsw : swapsWith (comp3 elt iter0 iter1 iter2 x0 x1 x2 p0 p1 p2 sc pos) (some (.Name y py)) spos.line (envOfC cn cs Γ.L ca ccd) = pure true)
    (hk : RuB Γ cn cs ca ccd ((y, .lst gen) :: ρ) τ rest R F) : RuB Γ cn cs ca ccd ρ σ (.Assign [.Name y py] (comp3 elt iter0 iter1 iter2 x0 x1 x2 p0 p1 p2 sc pos) spos :: rest) R F := by
  have K := CmpOk.of hok
  refine ⟨fun m cm mu imm h tk Q L Y O q f => wpAny_execs_cons ?_⟩
  rw [exec_Assign_Name_used _ _ _ _ hsw]
  refine wpAny_bind (wpAny_standAt (wpAny_bind ?_))
  show wpAny _ Γ.A (do let _ ← comprehension (comp3 elt iter0 iter1 iter2 x0 x1 x2 p0 p1 p2 sc pos) sc (envOfC cn cs Γ.L ca ccd) _ (newList []) false (eval iter0 (envOfC cn cs Γ.L ca ccd)) (some (assign (.Name y py) (envOfC cn cs Γ.L ca ccd)))) _ _ _
  refine wpAny_bind (wpAny_mono (wpAny_comprehension_free (use := some (assign (.Name y py) (envOfC cn cs Γ.L ca ccd))) (Q := fun _ s' => wpAny Γ.M Γ.A (execs rest (envOfC cn cs Γ.L ca ccd)) Q (fun _ _ => False) s') rfl hs (closed_comp K) K.kind K.loc ?_) (fun _ s' hq => wpAny_pure (wpAny_pure hq)) fun _ _ e => e)
  refine hit.run _ _ _ _ _ _ _ L (O.nm Y.are) fun I fp St h₁ tk₁ i₁ L₁ k₁ it st0 fnd foff => ?_
  refine comp3_core K L₁ ((O.nm Y.are).mono k₁) it st0 fnd foff (fun D C h1 h2 h3 => hrun _ _ _ _ _ _ D C it h1 h2 h3) hz fun D C oC mC h' tk' ys im L' hC him hy => ?_
  show wpAny _ Γ.A (assign (.Name y py) (envOfC cn cs Γ.L ca ccd) (.ref D)) _ _ _
  have hi : ∀ x ∈ imm, x ∈ (D, lst ys) :: im := fun x hx => .tail _ (him x (k₁ x hx))
  refine wpAny_assign_Name (store_A ky L'.rawMu Y (O.mono hi) (Rel.lst (.inr (.head _)) rfl rfl (hy.mono (Cx.S_mono up1))) fun h₂ tk₂ m₂ cm₂ mu₂ L₂ Y₂ O₂ => ⟨mC, hC.ns (L₂.raw (C, oC) (.head _)), fun h'' hs'' => ?_⟩)
  exact hk.run _ _ _ _ _ _ _ (L₂.endRaw (h' := h'') fun b o hb e => hs''.extBut b o (fun q => hb (by rw [q]; exact .head _)) e) Y₂ O₂ q (f.mono hi)
end

end
section
def pv (p : Int × Int × Int) : Int → Int := fun x => if x = 0 then p.1 else if x = 1 then p.2.1 else p.2.2
section
variable {prog : Program} {w : World} {A : Around} {E : Value → Shared → Prop} {s : Shared} {h₀ : Heap} {L : Addr} {m : Str → Option Value} {news : List (Addr × Obj)}
theorem entry_list_loop : entryFor table "list.__eq__.loop" = some Builtin.«list.__eq__.loop» := entryFor_of_tree (by kernel_rfl)
theorem plain_list_loop : plainId "list.__eq__.loop" = true := by decide +kernel
theorem isSubtype_list_list : isSubtype (.type "list") (.type "list") = pure true := by rw [isSubtype_type]; kernel_rfl
theorem wpAny_listItems {a : Addr} {us : Array Value} {n : Nat} {Q : Array Value → Shared → Prop} (ha : s.heap.get? a = some (listOf us n)) (h : Q us s) : wpAny (model prog w) A (Builtin.List.listItems (.ref a)) Q E s := by
  show wpAny _ _ (seqItems? (.ref a) >>= _) _ _ s
  exact wpAny_bind (wpAny_seqItems ha rfl (wpAny_pure h))
/-- a list is not the empty one: by the sizes alone -/
theorem list_ne_nil {a b : Addr} {us : Array Value} {n k : Nat} {Q : Value → Shared → Prop} (ha : s.heap.get? a = some (listOf us n)) (hb : s.heap.get? b = some (listOf #[] k)) (hu : A.units < cLine) (h : Q (.bool (us.size != 0)) s) :
    wpAny (model prog w) A (compareOp .NotEq (.ref a) (.ref b)) Q E s := by
  have hTa : s.TypeIs (.ref a) "list" := ⟨_, ha, rfl⟩
  have hTb : s.TypeIs (.ref b) "list" := ⟨_, hb, rfl⟩
  show wpAny _ _ (richCompare .NotEq (.ref a) (.ref b)) _ _ s
  refine wpAny_richCompare_same_room (op := .NotEq) hTa hTb PySem.F.slot_list_ne ?_ hu
  refine wpAny_call (codeAny_call_builtin PySem.F.slot_list_ne.plain PySem.F.entry_list_ne (PySem.F.slot_list_ne.check _ _ _ _ _ _ _ _ hTa (PySem.F.args_list_ne_2 _ _) ?_))
  show wpAny _ _ (isInstance (.ref b) (.type "list") >>= _) _ _ s
  refine wpAny_bind (wpAny_isInstance hTb isSubtype_list_list ?_)
  simp only [Bool.not_true, Bool.false_eq_true, if_false]
  refine wpAny_bind (wpAny_listItems ha (wpAny_bind (wpAny_listItems hb ?_)))
  by_cases hz : us.size = 0
  · have e : (us.size != (#[] : Array Value).size) = false := by simp [hz]
    simp only [e, Bool.false_eq_true, if_false]
    refine wpAny_pure ⟨plainId_quiet plain_list_loop _, codeAny_builtin entry_list_loop ?_⟩
    rw [Around.under_plainId plain_list_loop _]
    show wpAny _ _ (Builtin.List.listItems (.ref a) >>= _) _ _ s
    refine wpAny_bind (wpAny_listItems ha (wpAny_bind (wpAny_listItems hb ?_)))
    have e2 : us[(0 : Int).toNat]? = none := Array.getElem?_eq_none (by omega)
    simp only [e2]
    exact wpAny_bind (wpAny_listItems ha (wpAny_bind (wpAny_listItems hb (wpAny_pure ⟨(fun e => nomatch e), h⟩))))
  · have e : (us.size != (#[] : Array Value).size) = true := by simp [hz]
    simp only [e, if_true]
    refine wpAny_bind (wpAny_rule ?_)
    refine wpAny_pure ⟨(fun e => nomatch e), ?_⟩
    have e3 : (us.size != 0) = true := by simp [hz]
    rw [e3] at h
    exact h
end
def pts3 (l0 l1 l2 : List Int) : List (Int × Int × Int) := l2.flatMap fun c => l1.flatMap fun b => l0.map fun a => (a, b, c)
theorem mem_pts3 {l0 l1 l2 : List Int} {p : Int × Int × Int} : p ∈ pts3 l0 l1 l2 ↔ p.1 ∈ l0 ∧ p.2.1 ∈ l1 ∧ p.2.2 ∈ l2 := by
  simp only [pts3, List.mem_flatMap, List.mem_map]
  constructor
  · rintro ⟨c, hc, b, hb, a, ha, rfl⟩; exact ⟨ha, hb, hc⟩
  · rintro ⟨ha, hb, hc⟩; exact ⟨_, hc, _, hb, _, ha, rfl⟩
theorem pv_bound {l0 l1 l2 : List Int} {p : Int × Int × Int} (h : p ∈ pts3 l0 l1 l2) (v0 : ∀ v ∈ l0, -1 ≤ v ∧ v ≤ 3) (v1 : ∀ v ∈ l1, -1 ≤ v ∧ v ≤ 3) (v2 : ∀ v ∈ l2, -1 ≤ v ∧ v ≤ 3) (x : Int) : -1 ≤ pv p x ∧ pv p x ≤ 3 := by
  obtain ⟨h0, h1, h2⟩ := mem_pts3.mp h
  unfold pv
  split
  · exact v0 _ h0
  · split
    · exact v1 _ h1
    · exact v2 _ h2
theorem pv_at {p : Int × Int × Int} : pv p 0 = p.1 ∧ pv p 1 = p.2.1 ∧ pv p 2 = p.2.2 := ⟨rfl, rfl, rfl⟩
theorem lawhas_iff {t : Cn} {dd : Int → Dom} (hv : ∀ x ∈ t.vars, 0 ≤ x ∧ x < 3) : ((pts3 (vals (dd 0)) (vals (dd 1)) (vals (dd 2))).any fun p => t.sat (pv p)) = true ↔ Has t dd := by
  rw [List.any_eq_true]
  constructor
  · rintro ⟨p, hp, hs⟩
    obtain ⟨h0, h1, h2⟩ := mem_pts3.mp hp
    refine ⟨pv p, fun x hx0 hx3 => ?_, hs⟩
    have hx : x = 0 ∨ x = 1 ∨ x = 2 := by omega
    rcases hx with rfl | rfl | rfl
    · exact h0
    · exact h1
    · exact h2
  · rintro ⟨val, h1, h2⟩
    refine ⟨(val 0, val 1, val 2), mem_pts3.mpr ⟨h1 0 (by decide) (by decide), h1 1 (by decide) (by decide), h1 2 (by decide) (by decide)⟩, ?_⟩
    rw [← h2]
    refine sat_congr fun x hx => ?_
    have hb := hv x hx
    have hx : x = 0 ∨ x = 1 ∨ x = 2 := by omega
    rcases hx with rfl | rfl | rfl <;> rfl

end
section
theorem vals_len_aux : ∀ (d : Dom) (lo : Int), d.Pairwise (fun p q => p.2 < q.1) → (∀ p ∈ d, lo ≤ p.1 ∧ p.1 ≤ p.2 ∧ p.2 ≤ 3) → (vals d).length ≤ (4 - lo).toNat
  | [], lo, _, _ => by simp [vals]
  | (x, y) :: d, lo, hp, hb => by
    rw [List.pairwise_cons] at hp
    have h1 := hb (x, y) (.head _)
    dsimp only at h1
    have ih := vals_len_aux d (y + 1) hp.2 fun p hp' => by
      have h2 := hb p (.tail _ hp')
      have h3 := hp.1 p hp'
      dsimp only at h3
      omega
    have e : (vals ((x, y) :: d)).length = (y + 1 - x).toNat + (vals d).length := by rw [vals, List.flatMap_cons, List.length_append, rng_len]; rfl
    rw [e]; omega
theorem vals_len5 {d : Dom} (h : DomOk d) : (vals d).length ≤ 5 := vals_len_aux d (-1) h.1 h.2
theorem keys_off {x : Str} {own : List Str} : ∀ {ρ : Nms}, (ρ.all fun p => !(p.1 == x) && !(own.contains p.1)) = true → ∀ y b, ρ.lookup y = some b → y ≠ x ∧ y ∉ own
  | [], _, _, _, e => by cases e
  | (k, c) :: ρ, h, y, b, e => by
    rw [List.all_cons, Bool.and_eq_true] at h
    rw [List.lookup_cons] at e
    cases hy : y == k with
    | true =>
      obtain rfl := eq_of_beq hy
      have h1 := h.1
      simp only [Bool.and_eq_true, Bool.not_eq_true', beq_eq_false_iff_ne, ne_eq] at h1
      exact ⟨h1.1, fun hm => by have := h1.2; rw [List.contains_iff_mem.mpr hm] at this; cases this⟩
    | false => rw [hy] at e; exact keys_off h.2 y b e
abbrev ptV (p : Int × Int × Int) : AV := .tup [.int p.1, .int p.2.1, .int p.2.2]
theorem pts_gen {l0 l1 l2 : List Int} : (l2.map AV.int).flatMap (fun c => (l1.map AV.int).flatMap fun b => (l0.map AV.int).map fun a => AV.tup [a, b, c]) = (pts3 l0 l1 l2).map ptV := by
  rw [pts3, List.map_flatMap, List.flatMap_map]
  congr 1; funext c
  rw [List.map_flatMap, List.flatMap_map]
  congr 1; funext b
  rw [List.map_map, List.map_map]; rfl
theorem sum_rep {α : Type} {k : Nat} : ∀ (l : List α), (l.map fun _ => k).sum = l.length * k
  | [] => by simp
  | _ :: l => by rw [List.map_cons, List.sum_cons, sum_rep l, List.length_cons, Nat.succ_mul, Nat.add_comm]
theorem pts3_len5 {l0 l1 l2 : List Int} (h0 : l0.length ≤ 5) (h1 : l1.length ≤ 5) (h2 : l2.length ≤ 5) : (pts3 l0 l1 l2).length ≤ 125 := by
  have e : (pts3 l0 l1 l2).length = l2.length * (l1.length * l0.length) := by
    simp only [pts3, List.length_flatMap, List.length_map, sum_rep]
  rw [e]
  exact Nat.le_trans (Nat.mul_le_mul h2 (Nat.mul_le_mul h1 h0)) (by decide)
theorem pt_ok {p : Int × Int × Int} {x : Int} (h : 0 ≤ x ∧ x < 3) : PtOk [.int p.1, .int p.2.1, .int p.2.2] (pv p) x := by
  have hx : x = 0 ∨ x = 1 ∨ x = 2 := by omega
  rcases hx with rfl | rfl | rfl
  · exact ⟨0, rfl, rfl, Nat.le_of_ble_eq_true rfl⟩
  · exact ⟨1, rfl, rfl, Nat.le_of_ble_eq_true rfl⟩
  · exact ⟨2, rfl, rfl, Nat.le_of_ble_eq_true rfl⟩
theorem any_filter {α : Type} {p : α → Bool} {f : α → AV} {l : List α} : (!((l.filter p).map f).isEmpty) = l.any p := by
  induction l with
  | nil => rfl
  | cons a l ih =>
    rw [List.any_cons]
    cases h : p a with
    | true => rw [List.filter_cons_of_pos h]; rfl
    | false => rw [List.filter_cons_of_neg (by simp [h]), ih]; rfl
section
variable {n u : Nat} {Γ : Cx n u} {σ : Sto} {l : List AV}
theorem neN_A (hu : 1 ≤ u) : BinA Γ σ (compareOp .NotEq) (.lst l) (.lst []) (.bool (!l.isEmpty)) := by
  intro m mu imm h tk E Q v w L ra rb q
  obtain ⟨p, n1, vs, rfl, hp, r⟩ := ra.ofLstX
  obtain ⟨p', n2, ws, rfl, hp', r'⟩ := rb.ofLstX
  rw [r'.ofNil] at hp'
  have hl := r.length
  refine list_ne_nil (s := Γ.st h tk) (L.get hp) (L.get hp') (by have := Γ.units; show Γ.un < cLine; omega) ?_
  have : (vs.toArray.size != 0) = !l.isEmpty := by rw [List.size_toArray, ← hl]; cases l <;> simp
  rw [this]
  exact q _ _ _ imm L (fun _ p => p) (Rel.bool _)
end
theorem lawhas_D {t : Cn} {l0 l1 l2 : List Int} (ht : t.ok) (hv : ∀ x ∈ t.vars, 0 ≤ x ∧ x < 3) (h0 : l0.length ≤ 5) (h1 : l1.length ≤ 5) (h2 : l2.length ≤ 5) (v0 : ∀ v ∈ l0, -1 ≤ v ∧ v ≤ 3) (v1 : ∀ v ∈ l1, -1 ≤ v ∧ v ≤ 3) (v2 : ∀ v ∈ l2, -1 ≤ v ∧ v ≤ 3) :
    FnA 2 130 427 [t.av, lotV [l0, l1, l2]] (.bool ((pts3 l0 l1 l2).any fun p => t.sat (pv p))) := by
  w_top off
  have hpl := pts3_len5 h0 h1 h2
  rw [← any_filter (f := ptV)]
  walk_at "enterA"
  refine RuB.asgComp3 (τ := []) (items := l2.map .int) (own := [Str.ofString "c", Str.ofString "b", Str.ofString "a"]) (gen := (pts3 l0 l1 l2).map ptV) (ItA.name (a := .lst (l2.map .int)) ?_ .lst) ?_ ?_ (fun _ => rfl) (by rw [List.length_map]; omega) ?_ ?_ ?_
  · exact EvA.item (σ₁ := []) (a := lotV [l0, l1, l2]) (b := .int 2) (by walk_at "eva") (by walk_at "eva") (lst_A .imm (p := 2) rfl rfl (Nat.le_of_ble_eq_true rfl) rfl rfl)
  · kernel_rfl!
  · intro m mu imm I fp St D C it hD hC hDC
    rw [← pts_gen]
    refine run_out (own' := [Str.ofString "b", Str.ofString "a"]) (items := l2.map .int) (g := fun c => (l1.map AV.int).flatMap fun b => (l0.map AV.int).map fun a => AV.tup [a, b, c]) (fun _ _ _ => turn3_0 _ _ _) ⟨_, rfl, rfl⟩ (fun _ => rfl) (CmpOk.of (by kernel_rfl!)) (by kernel_rfl!) it hD hC hDC (keys_off (by kernel_rfl!)) ?_
    intro c _
    refine' ⟨.Name (Str.ofString "b") ?p1, [Str.ofString "b"], (l1.map .int).map fun a => [a], fun io => ItA.name (a := .lst (l1.map .int)) ?h1 .lst, fun io I' fp' St' imm' it' hD' hC' => ?h2⟩
    case h2 =>
      refine run_out (own' := [Str.ofString "a"]) (items := l1.map .int) (g := fun b => (l0.map AV.int).map fun a => AV.tup [a, b, c]) (fun _ _ _ => turn3_1 _ _ _) ⟨_, rfl, rfl⟩ (fun _ => rfl) (CmpOk.of (by kernel_rfl!)) (by kernel_rfl!) it' hD' hC' hDC (keys_off (by kernel_rfl!)) ?_
      intro b _
      refine' ⟨.Name (Str.ofString "a") ?p2, [Str.ofString "a"], (l0.map .int).map fun a => [a], fun io => ItA.name (a := .lst (l0.map .int)) ?h3 .lst, fun io I' fp' St' imm' it' hD' hC' => ?h4⟩
      case h4 =>
        refine run_in (items := l0.map .int) (ψ := fun a => AV.tup [a, b, c]) (fun _ _ _ => turn3_2 _ _ _) (CmpOk.of (by kernel_rfl!)) (by kernel_rfl!) it' hD' hC' hDC (fun z e => ((keys_off (x := Str.ofString "a") (own := []) (by kernel_rfl!) _ z e).1 rfl)) fun a _ io => ?_
        exact EvA.tup (ArA.cons (EvA.name rfl) (ArA.cons (EvA.name rfl) (ArA.one (EvA.name rfl) rfl) rfl) rfl) (Nat.le_of_ble_eq_true rfl)
      case h3 => exact EvA.item (a := lotV [l0, l1, l2]) (b := .int 0) (EvA.name rfl) EvA.int (lst_A .imm (p := 0) rfl rfl (Nat.le_of_ble_eq_true rfl) rfl rfl)
    case h1 => exact EvA.item (a := lotV [l0, l1, l2]) (b := .int 1) (EvA.name rfl) EvA.int (lst_A .imm (p := 1) rfl rfl (Nat.le_of_ble_eq_true rfl) rfl rfl)
  · kernel_rfl!
  · first | exact rfl | kernel_rfl!
  refine RuB.ret (EvA.cmp (σ₁ := []) (a := .lst (((pts3 l0 l1 l2).filter fun p => t.sat (pv p)).map ptV)) (b := .lst []) (EvA.compIf (xs := pts3 l0 l1 l2) (a := .lst ((pts3 l0 l1 l2).map ptV)) (φ := ptV) (ψ := ptV) (p := fun p => t.sat (pv p)) ?_ .lst ?_ ?_ ?_ ?_ (fun _ => rfl) (by omega)) ?_ (neN_A (by decide)) rfl) ⟨rfl, rfl⟩
  · walk_at "eva"
  · kernel_rfl!
  · kernel_rfl!
  · intro p hp C σ'
    refine TsA.ofB (EvA.callP (σ₁ := σ') (as := [t.av, ptV p]) ?_ ?_ (keeps_A (val := pv p) ht (fun x hx => pt_ok (hv x hx)) fun x _ => pv_bound hp v0 v1 v2 x) ?_ rfl ?_ ?_) (fun _ => rfl)
    · walk_at "eva"
    · walk_at "ara"
    · walk_at "sid"
    · walk_at "sid"
    · walk_at "sid"
  · intro p hp hq C σ'
    exact EvA.name rfl
  · walk_at "eva"

end
section
/-- a domain as data -/
def domD (d : Dom) : PyData := .tuple (d.map fun p => .tuple [.int p.1, .int p.2])
theorem canLay_pairs : ∀ d : Dom, PyData.canLayAll0 (d.map fun p => .tuple [.int p.1, .int p.2]) = true
  | [] => rfl
  | p :: r => by simp [PyData.canLayAll0, PyData.canLay0, canLay_pairs r]
theorem canLay_doms : ∀ ds : List Dom, PyData.canLayAll0 (ds.map domD) = true
  | [] => rfl
  | d :: r => by simp [domD, PyData.canLayAll0, PyData.canLay0, canLay_pairs d, canLay_doms r]
theorem depth_pairs : ∀ d : Dom, PyData.depthAll (d.map fun p => .tuple [.int p.1, .int p.2]) ≤ 2
  | [] => by simp [PyData.depthAll]
  | p :: r => by
    have := depth_pairs r
    simp only [List.map_cons, PyData.depthAll, PyData.depth]
    omega
theorem depth_doms : ∀ ds : List Dom, PyData.depthAll (ds.map domD) ≤ 3
  | [] => by simp [PyData.depthAll]
  | d :: r => by
    have := depth_doms r
    have := depth_pairs d
    simp only [List.map_cons, PyData.depthAll, PyData.depth, domD]
    omega
theorem shaped_doms (ds : List Dom) : SeqAt.shaped (.list (ds.map domD)) = true := by
  have h1 := depth_doms ds
  have h2 : PyData.depth (.list (ds.map domD)) ≤ 64 := by simp only [PyData.depth]; omega
  show (PyData.canLay0 (.list (ds.map domD)) && decide (PyData.depth (.list (ds.map domD)) ≤ 64)) = true
  rw [Bool.and_eq_true]
  exact ⟨by simp only [PyData.canLay0]; exact canLay_doms ds, decide_eq_true h2⟩
theorem shaped_lots (l0 l1 l2 : List Int) : SeqAt.shaped (.list [.list (l0.map PyData.int), .list (l1.map PyData.int), .list (l2.map PyData.int)]) = true := by
  have := ke_depthAll l0
  have := ke_depthAll l1
  have := ke_depthAll l2
  simp_all [SeqAt.shaped, PyData.canLayAll0, PyData.canLay0, PyData.depth, PyData.depthAll, ke_canLayAll0]
section
variable {prog : Program} {w : World} {A : Around} {E : Value → Shared → Prop} {Q : Value → Shared → Prop} {s : Shared} {h₀ : Heap} {L : Addr} {news : List (Addr × Obj)}
/-- the same data on both sides -/
theorem eq_self {a b : Value} {da : PyData} {as bs : List Addr} (ra : Reads s.heap a da as) (rb : Reads s.heap b da bs) (hs : SeqAt.shaped da = true) (hu : A.units + 64 < cLine) (h : Q (.bool true) s) : wpAny (model prog w) A (compareOp .Eq a b) Q E s :=
  eq_dataH ra rb hs hs hu (by rw [SeqAt.eqv_refl _ (SeqAt.canLay_of_shaped hs)]; exact h)
theorem ne_self {a b : Value} {da : PyData} {as bs : List Addr} (ra : Reads s.heap a da as) (rb : Reads s.heap b da bs) (hs : SeqAt.shaped da = true) (hu : A.units + 64 < cLine) (h : Q (.bool false) s) : wpAny (model prog w) A (compareOp .NotEq a b) Q E s :=
  ne_dataH ra rb hs hs hu (by rw [SeqAt.eqv_refl _ (SeqAt.canLay_of_shaped hs)]; exact h)
theorem reads_bools {h : Heap} : ∀ (bs : List Bool), ReadsAll h (bs.map Value.bool) (bs.map PyData.bool) []
  | [] => .nil
  | b :: r => by have := ReadsAll.cons (Reads.bool (h := h) b) (reads_bools (h := h) r); simpa using this
theorem canLay_bools : ∀ bs : List Bool, PyData.canLayAll0 (bs.map PyData.bool) = true
  | [] => rfl
  | b :: r => by simp [PyData.canLayAll0, PyData.canLay0, canLay_bools r]
end

end
section
section
variable {α : Type} {S : Kn} {h : Heap}
/-- what stands for mathematics reads as data -/
theorem reads_all (hS : ∀ a o, S a o → h.get? a = some o) {f : α → AV} {g : α → PyData} (hf : ∀ x v, Rel S (f x) v → ∃ as, Reads h v (g x) as) : ∀ {xs : List α} {vs : List Value}, RelL S (xs.map f) vs → ∃ as, ReadsAll h vs (xs.map g) as
  | [], _, r => ⟨[], by obtain rfl := r.ofNil; exact .nil⟩
  | x :: xs, _, r => by
    obtain ⟨v, ws, rfl, r1, r2⟩ := r.ofCons
    obtain ⟨as, q1⟩ := hf x v r1
    obtain ⟨bs, q2⟩ := reads_all hS hf r2
    exact ⟨_, .cons q1 q2⟩
theorem reads_int (n : Int) (v : Value) (r : Rel S (.int n) v) : ∃ as, Reads h v (.int n) as := by
  obtain ⟨t, rfl⟩ := r.ofInt; exact ⟨_, .int _ _⟩
theorem reads_tup (hS : ∀ a o, S a o → h.get? a = some o) {f : α → AV} {g : α → PyData} (hf : ∀ x v, Rel S (f x) v → ∃ as, Reads h v (g x) as) {xs : List α} {v : Value} (r : Rel S (.tup (xs.map f)) v) : ∃ as, Reads h v (.tuple (xs.map g)) as := by
  obtain ⟨p, o, n, vs, rfl, hp, hc, _, hd, r⟩ := r.ofTup
  obtain ⟨as, q⟩ := reads_all hS hf r
  exact ⟨_, .tuple (hS _ _ hp) hc hd (by simpa using q)⟩
theorem reads_lst (hS : ∀ a o, S a o → h.get? a = some o) {f : α → AV} {g : α → PyData} (hf : ∀ x v, Rel S (f x) v → ∃ as, Reads h v (g x) as) {xs : List α} {v : Value} (r : Rel S (.lst (xs.map f)) v) : ∃ as, Reads h v (.list (xs.map g)) as := by
  obtain ⟨p, o, n, vs, rfl, hp, hc, hd, r⟩ := r.ofLst
  obtain ⟨as, q⟩ := reads_all hS hf r
  exact ⟨_, .list (hS _ _ hp) hc hd (by simpa using q)⟩
theorem reads_dom (hS : ∀ a o, S a o → h.get? a = some o) (d : Dom) (v : Value) (r : Rel S (domV d) v) : ∃ as, Reads h v (domD d) as :=
  reads_tup (g := fun p : Int × Int => .tuple [.int p.1, .int p.2]) hS (fun p v r => reads_tup (xs := [p.1, p.2]) (f := AV.int) (g := PyData.int) hS reads_int r) r
end
section
variable {n u : Nat} {Γ : Cx n u} {cn : Str} {cs : Scope} {ca : Addr} {ccd : Value} {env : Env} {ρ : Nms} {σ σ₁ τ : Sto} {e value slice : Expr} {a b c : AV} {l : List AV} {i j k : Int} {pos px ps : Pos} {x : Str} {ns : List Int}
/-- the same data on both sides -/
theorem eqD_A {α : Type} {f : α → AV} {g : α → PyData} {xs : List α} (hf : ∀ {S : Kn} {h : Heap}, (∀ a o, S a o → h.get? a = some o) → ∀ x v, Rel S (f x) v → ∃ as, Reads h v (g x) as) (hs : PySem.SeqAt.shaped (.list (xs.map g)) = true) (hu : 64 ≤ u) : BinA Γ σ (compareOp .Eq) (.lst (xs.map f)) (.lst (xs.map f)) (.bool true) := by
  intro m mu imm h tk E Q v w L ra rb q
  obtain ⟨as, r1⟩ := reads_lst (h := h) (fun a o x => L.get x) (hf fun a o x => L.get x) ra
  obtain ⟨bs, r2⟩ := reads_lst (h := h) (fun a o x => L.get x) (hf fun a o x => L.get x) rb
  exact eq_self (s := Γ.st h tk) r1 r2 hs (by have := Γ.units; show Γ.un + 64 < cLine; omega) (q _ _ _ imm L (fun _ p => p) (Rel.bool _))
theorem neD_A {α : Type} {f : α → AV} {g : α → PyData} {xs : List α} (hf : ∀ {S : Kn} {h : Heap}, (∀ a o, S a o → h.get? a = some o) → ∀ x v, Rel S (f x) v → ∃ as, Reads h v (g x) as) (hs : PySem.SeqAt.shaped (.list (xs.map g)) = true) (hu : 64 ≤ u) : BinA Γ σ (compareOp .NotEq) (.lst (xs.map f)) (.lst (xs.map f)) (.bool false) := by
  intro m mu imm h tk E Q v w L ra rb q
  obtain ⟨as, r1⟩ := reads_lst (h := h) (fun a o x => L.get x) (hf fun a o x => L.get x) ra
  obtain ⟨bs, r2⟩ := reads_lst (h := h) (fun a o x => L.get x) (hf fun a o x => L.get x) rb
  exact ne_self (s := Γ.st h tk) r1 r2 hs (by have := Γ.units; show Γ.un + 64 < cLine; omega) (q _ _ _ imm L (fun _ p => p) (Rel.bool _))
/-- True in a list of truths -/
theorem trueIn_A {bs : List Bool} (hl : AtL σ a (bs.map .bool)) (hu : 65 ≤ u) : BinA Γ σ (compareOp .In) (.bool true) a (.bool (bs.any id)) := by
  intro m mu imm h tk E Q v w L ra rb q
  obtain rfl := ra.ofBool
  obtain ⟨p, vs, rfl, ⟨o, ho, hc, n', hd⟩, r⟩ := L.lstAt hl rb
  obtain rfl : vs = bs.map Value.bool := by
    clear ho hc hd q rb hl
    induction bs generalizing vs with
    | nil => exact r.ofNil
    | cons b bs ih =>
      obtain ⟨v, ws, rfl, r1, r2⟩ := r.ofCons
      rw [r1.ofBool, ih _ r2]; rfl
  have c1 := canLay_bools bs
  have e2 : (bs.map PyData.bool).any (fun y => PyData.eqv y (.bool true)) = bs.any id := by
    clear c1 ho hc hd q rb hl r
    induction bs with
    | nil => rfl
    | cons b r ih => simp only [List.map_cons, List.any_cons, ih]; cases b <;> rfl
  refine PySem.SeqAt.in_list_reads (s := Γ.st h tk) (.list ho hc hd (by simpa using reads_bools bs)) (Reads.bool true) c1 rfl ?_ ?_
  · simp only [PyData.depth, Nat.min_zero]; have := Γ.units; omega
  · rw [e2]; exact q _ _ _ imm L (fun _ p => p) (Rel.bool _)
theorem neB_A {a b : Bool} : BinA Γ σ (compareOp .NotEq) (.bool a) (.bool b) (.bool (a != b)) := fun _ _ imm _ _ _ _ _ _ L ra rb k => by
  obtain rfl := ra.ofBool
  obtain rfl := rb.ofBool
  exact PyProof.Rows.ne_bool (k _ _ _ imm L (fun _ p => p) (Rel.bool _))
theorem int_A : StepA Γ σ [.int i] (fun vs => call (.type "int") vs) (.int i) σ := by
  intro m mu imm h tk E Q vs L r q
  obtain ⟨_, rfl, r1⟩ := r.one
  obtain ⟨t, rfl⟩ := r1.ofInt
  exact call_int_int (q _ _ _ imm L (fun _ p => p) (Rel.int _ _))
theorem div_A (hb : j ≠ 0) (hj : j.natAbs.log2 < 9000) : BinA Γ σ (binaryOp .FloorDiv) (.int i) (.int j) (.int (i.fdiv j)) := fun _ _ imm _ _ _ _ _ _ L ra rb k => by
  obtain ⟨t, rfl⟩ := ra.ofInt; obtain ⟨t', rfl⟩ := rb.ofInt
  exact floordiv_int hb (k _ _ _ imm L (fun _ p => p) (Rel.int _ _)) (.inl (PyProof.noPylong_of_log2 hj))
theorem pow_A (h0 : 0 ≤ j) (h1 : j ≤ 1000000) (hi : i.natAbs < 2 ^ 64) : BinA Γ σ (binaryOp .Pow) (.int i) (.int j) (.int (i ^ j.toNat)) := fun _ _ imm _ _ _ _ _ _ L ra rb k => by
  obtain ⟨t, rfl⟩ := ra.ofInt; obtain ⟨t', rfl⟩ := rb.ofInt
  exact pow_int_small h0 h1 hi (k _ _ _ imm L (fun _ p => p) (Rel.int _ _))
/-- a copy of a list -/
theorem copy_A (hz : l.length ≤ 1000) : StepA Γ σ [.lst l] (fun vs => call (.type "list") vs) (.lst l) σ := by
  intro m mu imm h tk E Q vs L r q
  obtain ⟨_, rfl, r1⟩ := r.one
  obtain ⟨p, ws, rfl, ht, r⟩ := L.lstAt .imm r1
  have hl := r.length
  obtain ⟨st, S, N, nd⟩ := L.ex
  refine list_copyK (s := Γ.st h tk) L.F N ht (fun D c h' F' N' lt => ?_) (by rw [List.size_toArray, sizeLine_eq]; omega)
  exact q _ _ _ _ (led_cons S nd F' N' fun p hp => Nat.ne_of_lt (lt p hp)) up1 (Rel.lst (.inr List.mem_cons_self) rfl rfl (r.mono (Cx.S_mono up1)))
/-- a slice of a list of ints up to a place -/
theorem EvA.uptoL (h1 : EvA Γ env ρ σ value (.lst (ns.map .int)) σ) (h2 : EvA Γ env ρ σ e (.int k) σ) (h0 : 0 ≤ k) (hz : ns.length ≤ 1000) (hg : isName value = true) : EvA Γ env ρ σ (.Subscript value (.Slice none (some e) none ps) pos) (.lst ((ns.take k.toNat).map .int)) σ := by
  refine ⟨fun m mu imm h tk E Q L N q => Subscript_ (h1.run _ _ _ _ _ _ _ L N fun v h₁ tk₁ i₁ L₁ k₁ r₁ => ?_)⟩
  refine wpAny_Slice (wpAny_pure (h2.run _ _ _ _ _ _ _ L₁ (N.mono k₁) fun w h₂ tk₂ i₂ L₂ k₂ r₂ => wpAny_pure ?_))
  obtain ⟨t, vs, rfl, ht, r⟩ := L₂.lstAt .imm (r₁.mono (Cx.S_mono k₂))
  obtain ⟨t', rfl⟩ := r₂.ofInt
  have h3 := r.length
  rw [List.length_map] at h3
  obtain ⟨st, S, N₂, nd⟩ := L₂.ex
  refine kmk_slice (s := Γ.st h₂ tk₂) L₂.F N₂ ht .none (.int _ _) (fun D h' F' N' lt => ?_) rfl (isName_go hg) (by rw [sizeLine_eq]; simp; omega)
  exact q _ _ _ _ (led_cons S nd F' N' fun p hp => Nat.ne_of_lt (lt p hp)) (up2 fun p hp => k₂ p (k₁ p hp)) (Rel.lst (vs := (slicePick vs.toArray none (some k) none).toList) (.inr List.mem_cons_self) rfl (by simp; rfl) (RelL.of_ints (slice_ints_uptoW r.ints h0)))
/-- a list of ints backwards -/
theorem EvA.rev (h1 : EvA Γ env ρ σ value (.lst (ns.map .int)) σ) (h2 : EvA Γ env ρ σ e (.int (-1)) σ) (hz : ns.length ≤ 1000) (hg : isName value = true) : EvA Γ env ρ σ (.Subscript value (.Slice none none (some e) ps) pos) (.lst (ns.reverse.map .int)) σ := by
  refine ⟨fun m mu imm h tk E Q L N q => Subscript_ (h1.run _ _ _ _ _ _ _ L N fun v h₁ tk₁ i₁ L₁ k₁ r₁ => ?_)⟩
  refine wpAny_Slice (wpAny_pure (wpAny_pure (h2.run _ _ _ _ _ _ _ L₁ (N.mono k₁) fun w h₂ tk₂ i₂ L₂ k₂ r₂ => ?_)))
  obtain ⟨t, vs, rfl, ht, r⟩ := L₂.lstAt .imm (r₁.mono (Cx.S_mono k₂))
  obtain ⟨t', rfl⟩ := r₂.ofInt
  have h3 := r.length
  rw [List.length_map] at h3
  obtain ⟨st, S, N₂, nd⟩ := L₂.ex
  refine krv_ints (s := Γ.st h₂ tk₂) L₂.F N₂ ht (.int _ _) r.ints (fun D ws h' F' N' lt i' _ => ?_) rfl (isName_go hg) (by rw [sizeLine_eq]; simp; omega)
  exact q _ _ _ _ (led_cons S nd F' N' fun p hp => Nat.ne_of_lt (lt p hp)) (up2 fun p hp => k₂ p (k₁ p hp)) (Rel.lst (vs := ws) (.inr List.mem_cons_self) rfl rfl (RelL.of_ints i'))
/-- pairs of texts and values -/
def PrL (S : Kn) : List (Str × AV) → List (Value × Value) → Prop
  | [], l => l = []
  | (x, a) :: ks, l => ∃ t v r, l = (.str x t, v) :: r ∧ Rel S a v ∧ PrL S ks r
theorem prL_keys {S : Kn} : ∀ {ks : List (Str × AV)} {l : List (Value × Value)}, PrL S ks l → allStrKeys l = true ∧ (strPairs l).map (·.1) = ks.map (·.1)
  | [], _, h => by obtain rfl : _ = [] := h; exact ⟨rfl, rfl⟩
  | (x, a) :: ks, _, ⟨t, v, r, e, _, q⟩ => by subst e; obtain ⟨h1, h2⟩ := prL_keys q; exact ⟨h1, by show x :: (strPairs r).map (·.1) = _; rw [h2]; rfl⟩
theorem prL_get {S : Kn} : ∀ {ks : List (Str × AV)} {l : List (Value × Value)}, PrL S ks l → ks.lookup x = some a → ∃ v, valueAt (strPairs l) x = some v ∧ Rel S a v
  | [], _, _, e => by cases e
  | (y, b) :: ks, _, ⟨t, v, r, e, hr, q⟩, hx => by
    subst e
    rw [List.lookup_cons] at hx
    show ∃ v', valueAt ((y, v) :: strPairs r) x = some v' ∧ _
    unfold valueAt
    cases hb : x == y with
    | true =>
      rw [hb] at hx; cases hx
      obtain rfl := eq_of_beq hb
      exact ⟨v, by simp, hr⟩
    | false =>
      rw [hb] at hx
      obtain ⟨v', h1, h2⟩ := prL_get q hx
      have hne : ¬ y = x := fun q => by rw [q] at hb; simp at hb
      exact ⟨v', by rw [List.find?_cons_of_neg (by simpa using hne)]; exact h1, h2⟩
structure PsA (Γ : Cx n u) (env : Env) (ρ : Nms) (σ : Sto) (ks : List (Option Expr)) (es : List Expr) (kas : List (Str × AV)) : Prop where
  run : ∀ (m : Str → Option Value) (mu imm : List (Addr × Obj)) (h : Heap) (tk : Nat) (E : Value → Shared → Prop) (Q : List (Value × Value) → Shared → Prop) (pos : Pos), Led Γ m σ mu imm h → Nm Γ env ρ m mu imm →
    (∀ (l : List (Value × Value)) (h' : Heap) (tk' : Nat) (imm' : List (Addr × Obj)), Led Γ m σ mu imm' h' → (∀ p ∈ imm, p ∈ imm') → PrL (Γ.S imm') kas l → Q l (Γ.st h' tk')) → wpAny Γ.M Γ.A (evalPairs (pairTrees ks es env pos)) Q E (Γ.st h tk)
theorem PrL.mono {S S' : Kn} (k : ∀ a o, S a o → S' a o) : ∀ {ks : List (Str × AV)} {l : List (Value × Value)}, PrL S ks l → PrL S' ks l
  | [], _, h => h
  | (_, _) :: _, _, ⟨t, v, r, e, hr, q⟩ => ⟨t, v, r, e, hr.mono k, PrL.mono k q⟩
theorem PsA.nil : PsA Γ env ρ σ [] [] [] := ⟨fun _ _ imm _ _ _ _ _ L _ q => evalPairs_nil (q _ _ _ imm L (fun _ p => p) rfl)⟩
theorem PsA.cons {k : Expr} {ks : List (Option Expr)} {es : List Expr} {kas : List (Str × AV)} (h1 : EvA Γ env ρ σ k (.str x) σ) (h2 : EvA Γ env ρ σ e a σ) (h3 : PsA Γ env ρ σ ks es kas) : PsA Γ env ρ σ (some k :: ks) (e :: es) ((x, a) :: kas) :=
  ⟨fun _ _ _ _ _ _ _ _ L N q => evalPairs_cons (h1.run _ _ _ _ _ _ _ L N fun v h₁ tk₁ i₁ L₁ k₁ r₁ => wpAny_bind (h2.run _ _ _ _ _ _ _ L₁ (N.mono k₁) fun w h₂ tk₂ i₂ L₂ k₂ r₂ => wpAny_bind (wpAny_standAt (wpAny_pure
    (h3.run _ _ _ _ _ _ _ _ L₂ ((N.mono k₁).mono k₂) fun l h₃ tk₃ i₃ L₃ k₃ r₃ => by
      obtain ⟨t, rfl⟩ := r₁.ofStr
      exact q _ _ _ i₃ L₃ (fun p hp => k₃ p (k₂ p (k₁ p hp))) ⟨t, w, l, rfl, r₂.mono (Cx.S_mono k₃), r₃⟩)))))⟩
/-- an item of a dict display with texts for keys -/
theorem EvA.dictItem {ks : List (Option Expr)} {es : List Expr} {kas : List (Str × AV)} {pd : Pos} (hp : ∀ σ', PsA Γ env ρ σ' ks es kas) (hx : EvA Γ env ρ σ slice (.str x) σ) (hk : kas.lookup x = some a) (hn : (kas.map (·.1)).Nodup) (hlit : strLits ks = true) (hall : ks.all (·.isSome) = true) (hl : ks.length = es.length) (h0 : ks ≠ []) (h15 : ks.length ≤ 15)
    (hs : plainSlice slice = true) : EvA Γ env ρ σ (.Subscript (.Dict ks es pd) slice pos) a σ := by
  refine ⟨fun m mu imm h tk E Q L N q => Subscript_ ?_⟩
  obtain ⟨st, S, N₀, nd⟩ := L.ex
  refine kdn_str (s := Γ.st h tk) (prog := PG) (w := Γ.w) hlit L.F N₀ Γ.T.nolimit hall hl h0 h15 fun d h₁ o F₁ N₁ lt lo hd => ?_
  have L₁ : Led Γ m ((d, .raw o) :: σ) mu imm h₁ := ⟨F₁, _, .cons rfl S, N₁, by
    rw [List.cons_append, List.map_cons, List.nodup_cons]
    refine ⟨fun hx => ?_, nd⟩
    obtain ⟨q, hq, e⟩ := List.mem_map.mp hx
    exact Nat.ne_of_lt (lt q hq) e⟩
  refine (hp _).run _ _ _ _ _ _ _ _ L₁ N fun l h₂ tk₂ i₂ L₂ k₂ hl₂ => ?_
  obtain ⟨hk1, hk2⟩ := prL_keys hl₂
  obtain ⟨o₂, ho₂, he⟩ := Led.at (pre := []) L₂
  obtain rfl : o₂ = o := he
  refine display_done_str (prog := PG) (w := Γ.w) hk1 (by rw [hk2]; exact hn) (Heap.dictOf_iff.mpr ⟨_, ho₂, hd⟩) fun h₃ hm₃ hs₃ => ?_
  obtain ⟨o₃, ho₃, hd₃⟩ := Heap.dictOf_iff.mp hm₃
  have L₃ := Led.set1 (pre := []) (c' := .raw o₃) L₂ (fun b o hb e => hs₃.extBut b o hb e) ho₃ rfl
  obtain ⟨o₄, he₄, L₄⟩ := Led.freeze (pre := []) L₃
  obtain rfl : o₄ = o₃ := he₄
  have hi₄ : ∀ p ∈ imm, p ∈ (d, o₄) :: i₂ := fun p hp => .tail _ (k₂ p hp)
  refine hx.run _ _ _ _ _ _ _ L₄ (N.mono hi₄) fun w h₅ tk₅ i₅ L₅ k₅ r₅ => ?_
  obtain ⟨t, rfl⟩ := r₅.ofStr
  obtain ⟨v, hv, rv⟩ := prL_get (hl₂.mono (Cx.S_mono fun p hp => k₅ p (.tail _ hp))) hk
  have hD₅ : h₅.DictOf (PySem.strKind PG Γ.w) d (strPairs l) := Heap.dictOf_iff.mpr ⟨o₄, L₅.get (.inr (k₅ _ (.head _))), hd₃⟩
  exact tail_any hD₅.typeIs slot_dict_getitem.lookup (wpAny_getItem_of (s := Γ.st h₅ tk₅) (strKind_is _ _ _ _) hD₅.mapOf hv (q _ _ _ i₅ L₅ (fun p hp => k₅ p (hi₄ p hp)) rv)) (plainSlice_eq hs)
end

end
section
/-- behind a literal that was said -/
def setI {α : Type} (f : Int → α) (x : Int) (v : α) : Int → α := fun y => if y = x then v else f y
theorem setI_good {dd : Int → Dom} {x k : Int} {g : Sgn} (hg : Good dd) (h0 : 0 ≤ x) (h3 : x < 3) (hn : (struckD g k (dd x)).isEmpty = false) : Good (setI dd x (struckD g k (dd x))) := fun y y0 y3 => by
  unfold setI
  split
  · refine ⟨struck_ok (hg x h0 h3).1, fun e => ?_⟩
    rw [e] at hn; cases hn
  · exact hg y y0 y3
theorem int3 {x : Int} (h0 : 0 ≤ x) (h3 : x < 3) : x = 0 ∨ x = 1 ∨ x = 2 := by omega
theorem ne_absurd {b b' : Bool} {P : Prop} (h : b = true ↔ P) (h' : b' = true ↔ P) (hb : (b != b') = true) : False := by
  have e : b = b' := Bool.eq_iff_iff.mpr (h.trans h'.symm)
  rw [e] at hb; cases b' <;> cases hb
theorem three_has {tn x : Int} (t0 : 0 ≤ tn) (t3 : tn < 3) (x0 : 0 ≤ x) (x3 : x < 3) : x ∈ [tn, (tn + 2).fmod 3, (tn + 1).fmod 3] := by
  rcases int3 t0 t3 with rfl | rfl | rfl <;> rcases int3 x0 x3 with rfl | rfl | rfl <;> decide
theorem three_bd {tn x : Int} (t0 : 0 ≤ tn) (t3 : tn < 3) (h : x ∈ [tn, (tn + 2).fmod 3, (tn + 1).fmod 3]) : 0 ≤ x ∧ x < 3 := by
  simp only [List.mem_cons, List.not_mem_nil, or_false] at h
  rcases h with rfl | rfl | rfl
  · exact ⟨t0, t3⟩
  · exact ⟨Int.fmod_nonneg_of_pos _ (by decide), Int.fmod_lt_of_pos _ (by decide)⟩
  · exact ⟨Int.fmod_nonneg_of_pos _ (by decide), Int.fmod_lt_of_pos _ (by decide)⟩
def keepP (ss : List Int) (mr : Int) (x : Int) : Bool := ss.any (· == x) || decide (mr = 1)
theorem keep_vars {tn mr : Int} {ss : List Int} {t : Cn} (t0 : 0 ≤ tn) (t3 : tn < 3) (hv : ∀ x ∈ t.vars, x ∈ ss) (hs : ∀ x ∈ ss, 0 ≤ x ∧ x < 3) : ∀ x ∈ t.vars, x ∈ [tn, (tn + 2).fmod 3, (tn + 1).fmod 3].filter (keepP ss mr) := fun x hx => by
  have h1 := hv x hx
  have h2 := hs x h1
  refine List.mem_filter.mpr ⟨three_has t0 t3 h2.1 h2.2, ?_⟩
  have : ss.any (· == x) = true := List.any_eq_true.mpr ⟨x, h1, by simp⟩
  simp [keepP, this]
def Sgn.neg : Sgn → Sgn
  | .le => .ge
  | .ge => .le
  | .eq => .ne
  | .ne => .eq
def Sgn.off : Sgn → Int
  | .le => 1
  | .ge => -1
  | .eq => 0
  | .ne => 0
theorem lit_neg {g : Sgn} {k v : Int} : litOk g.neg (k + g.off) v ↔ ¬ litOk g k v := by
  cases g <;> simp only [Sgn.neg, Sgn.off, litOk] <;> omega
theorem has_set {t : Cn} {dd : Int → Dom} {x k : Int} {g : Sgn} (hg : Good dd) (h0 : 0 ≤ x) (h3 : x < 3) :
    Has t (setI dd x (struckD g k (dd x))) ↔ ∃ val : Int → Int, (∀ y, 0 ≤ y → y < 3 → val y ∈ vals (dd y)) ∧ litOk g k (val x) ∧ t.sat val = true := by
  constructor
  · rintro ⟨val, h1, h2⟩
    have hx := h1 x h0 h3
    unfold setI at hx
    rw [if_pos rfl, vals_struck (hg x h0 h3).1] at hx
    refine ⟨val, fun y y0 y3 => ?_, hx.2, h2⟩
    by_cases e : y = x
    · subst e; exact hx.1
    · have := h1 y y0 y3
      unfold setI at this
      rwa [if_neg e] at this
  · rintro ⟨val, h1, hl, h2⟩
    refine ⟨val, fun y y0 y3 => ?_, h2⟩
    unfold setI
    by_cases e : y = x
    · subst e; rw [if_pos rfl, vals_struck (hg y h0 h3).1]; exact ⟨h1 y y0 y3, hl⟩
    · rw [if_neg e]; exact h1 y y0 y3
theorem has_split {t : Cn} {dd : Int → Dom} {x k : Int} {g : Sgn} (hg : Good dd) (h0 : 0 ≤ x) (h3 : x < 3) :
    Has t dd ↔ Has t (setI dd x (struckD g k (dd x))) ∨ Has t (setI dd x (struckD g.neg (k + g.off) (dd x))) := by
  rw [has_set hg h0 h3, has_set hg h0 h3]
  constructor
  · rintro ⟨val, h1, h2⟩
    by_cases hl : litOk g k (val x)
    · exact .inl ⟨val, h1, hl, h2⟩
    · exact .inr ⟨val, h1, lit_neg.mpr hl, h2⟩
  · rintro (⟨val, h1, _, h2⟩ | ⟨val, h1, _, h2⟩) <;> exact ⟨val, h1, h2⟩
theorem has_empty {t : Cn} {dd : Int → Dom} {x : Int} {e : Dom} (h0 : 0 ≤ x) (h3 : x < 3) (he : e.isEmpty = true) : ¬ Has t (setI dd x e) := by
  rintro ⟨val, h1, _⟩
  have := h1 x h0 h3
  unfold setI at this
  rw [if_pos rfl] at this
  exact vals_nil he this
/-- what a turn over a literal adds to the parts -/
def StepB (t : Cn) (dd : Int → Dom) (x : Int) (g : Sgn) (k : Int) (bs bs' : List Bool) : Prop :=
  ((struckD g k (dd x)).isEmpty = true ∧ bs' = bs) ∨ ((struckD g k (dd x)).isEmpty = false ∧ ∃ b, bs' = bs ++ [b] ∧ (b = true ↔ Has t (setI dd x (struckD g k (dd x)))))
theorem stepB_any {t : Cn} {dd : Int → Dom} {x k : Int} {g : Sgn} {bs bs' : List Bool} (h0 : 0 ≤ x) (h3 : x < 3) (h : StepB t dd x g k bs bs') : bs'.any id = true ↔ bs.any id = true ∨ Has t (setI dd x (struckD g k (dd x))) := by
  rcases h with ⟨he, rfl⟩ | ⟨he, b, rfl, hb⟩
  · exact ⟨.inl, fun h => h.elim id fun h => (has_empty h0 h3 he h).elim⟩
  · rw [List.any_append, Bool.or_eq_true, ← hb]
    simp
def PartsJ (t : Cn) (dd : Int → Dom) (x : Int) (g : Sgn) (k : Int) : Nat → List Bool → Prop
  | 0, bs => bs = []
  | 1, bs => StepB t dd x g k [] bs
  | _, bs => ∃ b1, StepB t dd x g k [] b1 ∧ StepB t dd x g.neg (k + g.off) b1 bs
def litG (g : Sgn) : Nat → Sgn
  | 0 => g
  | _ => g.neg
def litK (g : Sgn) (k : Int) : Nat → Int
  | 0 => k
  | _ => k + g.off
theorem parts_step {t : Cn} {dd : Int → Dom} {x k : Int} {g : Sgn} {i : Nat} {bs bs' : List Bool} (hi : i < 2) (h : PartsJ t dd x g k i bs) (hs : StepB t dd x (litG g i) (litK g k i) bs bs') : PartsJ t dd x g k (i + 1) bs' := by
  have hi : i = 0 ∨ i = 1 := by omega
  rcases hi with rfl | rfl
  · have h' : bs = [] := h
    subst h'
    exact hs
  · exact ⟨bs, h, hs⟩
theorem parts_len {t : Cn} {dd : Int → Dom} {x k : Int} {g : Sgn} {i : Nat} {bs : List Bool} (hi : i ≤ 2) (h : PartsJ t dd x g k i bs) : bs.length ≤ 2 := by
  have key : ∀ {g k b b'}, StepB t dd x g k b b' → b'.length ≤ b.length + 1 := fun h => by
    rcases h with ⟨_, rfl⟩ | ⟨_, b, rfl, _⟩
    · exact Nat.le_succ _
    · simp
  have hi : i = 0 ∨ i = 1 ∨ i = 2 := by omega
  rcases hi with rfl | rfl | rfl
  · have h' : bs = [] := h
    subst h'; exact Nat.zero_le _
  · have := key (show StepB t dd x g k [] bs from h)
    simp only [List.length_nil] at this
    omega
  · obtain ⟨b1, h1, h2⟩ := h
    have := key h1
    have := key h2
    simp only [List.length_nil] at *
    omega
/-- the last word of the law -/
theorem parts_due {t : Cn} {dd : Int → Dom} {x k : Int} {g : Sgn} {bs : List Bool} {due : Bool} (hg : Good dd) (h0 : 0 ≤ x) (h3 : x < 3) (h : PartsJ t dd x g k 2 bs) (hd : due = true ↔ Has t dd) : bs.any id = due := by
  obtain ⟨b1, h1, h2⟩ := h
  refine Bool.eq_iff_iff.mpr ?_
  rw [stepB_any h0 h3 h2, stepB_any h0 h3 h1, hd, has_split (g := g) (k := k) hg h0 h3]
  simp

end
section
section
variable {n u : Nat} {Γ : Cx n u} {cn : Str} {cs sc : Scope} {ca C : Addr} {ccd : Value} {env : Env} {ρ : Nms} {σ σ' τ pre post : Sto} {e value l r e1 e2 e3 : Expr} {pos ps : Pos} {ns : List Int} {k : Int} {p : Addr} {c : CV} {st : List Stmt} {R : AV → Sto → Prop} {F : Nms → Sto → Prop}
/-- a slice of the script up to a place -/
theorem EvA.uptoS (h1 : EvA Γ env ρ σ value (.ils ns) σ) (h2 : EvA Γ env ρ σ e (.int k) σ) (h0 : 0 ≤ k) (hz : ns.length ≤ 1000) (hg : isName value = true) : EvA Γ env ρ σ (.Subscript value (.Slice none (some e) none ps) pos) (.lst ((ns.take k.toNat).map .int)) σ := by
  refine ⟨fun m mu imm h tk E Q L N q => Subscript_ (h1.run _ _ _ _ _ _ _ L N fun v h₁ tk₁ i₁ L₁ k₁ r₁ => ?_)⟩
  refine wpAny_Slice (wpAny_pure (h2.run _ _ _ _ _ _ _ L₁ (N.mono k₁) fun w h₂ tk₂ i₂ L₂ k₂ r₂ => wpAny_pure ?_))
  obtain ⟨t, o, n', vs, rfl, hp, hc, hd, hI⟩ := r₁
  obtain ⟨t', rfl⟩ := r₂.ofInt
  have h3 := hI.length
  obtain ⟨st, S, N₂, nd⟩ := L₂.ex
  refine kmk_slice (s := Γ.st h₂ tk₂) L₂.F N₂ ⟨o, L₂.get (Cx.S_mono k₂ _ _ hp), hc, n', hd⟩ .none (.int _ _) (fun D h' F' N' lt => ?_) rfl (isName_go hg) (by rw [sizeLine_eq]; simp; omega)
  exact q _ _ _ _ (led_cons S nd F' N' fun p hp => Nat.ne_of_lt (lt p hp)) (up2 fun p hp => k₂ p (k₁ p hp)) (Rel.lst (vs := (slicePick vs.toArray none (some k) none).toList) (.inr List.mem_cons_self) rfl (by simp; rfl) (RelL.of_ints (slice_ints_uptoW hI h0)))
theorem SrcV.toS {α : Type} {xs : List α} {φ : α → AV} {a : AV} {iter : Expr} {t : Str} {tp : Pos} (hit : EvA Γ env ρ σ iter a τ) (sv : SrcV a (xs.map φ)) : ItA Γ env ρ σ iter τ (.Name t tp) [t] (xs.map fun x => [φ x]) := by
  have := ItA.name (x := t) (px := tp) hit sv
  rw [List.map_map] at this
  exact this
/-- the store in another order -/
theorem RuB.perm (p : σ.Perm σ') (h : RuB Γ cn cs ca ccd ρ σ' st R F) : RuB Γ cn cs ca ccd ρ σ st R F := ⟨fun _ _ _ _ _ _ _ L Y O q f => h.run _ _ _ _ _ _ _ (L.perm p) Y O q f⟩
theorem RuB.swap {a b : Addr × CV} (h : RuB Γ cn cs ca ccd ρ (b :: a :: σ) st R F) : RuB Γ cn cs ca ccd ρ (a :: b :: σ) st R F := h.perm (.swap _ _ _)
/-- a place of the store is not told of any more -/
theorem RuB.drop (h : RuB Γ cn cs ca ccd ρ (pre ++ post) st R F) : RuB Γ cn cs ca ccd ρ (pre ++ (p, c) :: post) st R F := ⟨fun _ _ _ _ _ _ _ L Y O q f => by
  obtain ⟨o, _, L₂⟩ := L.freeze
  exact h.run _ _ _ _ _ _ _ L₂ Y (O.mono up1) q (f.mono up1)⟩
theorem EvA.and3 (h1 : EvA Γ env ρ σ e1 (.bool true) σ) (h2 : EvA Γ env ρ σ e2 (.bool true) σ) (h3 : EvA Γ env ρ σ e3 (.bool true) σ) : EvA Γ env ρ σ (.BoolOp .And [e1, e2, e3] pos) (.bool true) σ :=
  ⟨fun _ _ _ _ _ _ _ L N q => BoolOp_and (h1.run _ _ _ _ _ _ _ L N fun v h₁ tk₁ i₁ L₁ k₁ x₁ => by
    obtain rfl := x₁.ofBool
    refine wpAny_truthy_bool (BoolOp_and (h2.run _ _ _ _ _ _ _ L₁ (N.mono k₁) fun v h₂ tk₂ i₂ L₂ k₂ x₂ => ?_))
    obtain rfl := x₂.ofBool
    exact wpAny_truthy_bool (BoolOp_one (h3.run _ _ _ _ _ _ _ L₂ ((N.mono k₁).mono k₂) ((Beh.mono q k₁).mono k₂))))⟩
end
def vsL : List Int := (List.range 5).map fun (i : Nat) => -1 + (i : Int)
def bitP (m v : Int) : Bool := (m.fdiv (2 ^ (v + 1).toNat)).fmod 2 == 1
theorem vs_ok : ∀ v ∈ vsL, (0 ≤ v + 1 ∧ v + 1 ≤ 1000000) ∧ (2 : Int) ^ (v + 1).toNat ≠ 0 ∧ ((2 : Int) ^ (v + 1).toNat).natAbs.log2 < 9000 := by decide +kernel
theorem vs_in : ∀ v ∈ vsL, -1 ≤ v ∧ v ≤ 3 := by decide +kernel
theorem bits_ne : ∀ m ∈ (List.range 31).map fun (i : Nat) => 1 + (i : Int), vsL.filter (bitP m) ≠ [] := by decide +kernel
abbrev domN (m : Int) : Dom := fromV (srt (vsL.filter (bitP m))) []
theorem domN_ok {m : Int} (h0 : 0 ≤ m) (h : m < 31) : DomOk (domN (1 + m)) ∧ domN (1 + m) ≠ [] := by
  have hm : 1 + m ∈ (List.range 31).map fun (i : Nat) => 1 + (i : Int) := List.mem_map.mpr ⟨m.toNat, List.mem_range.mpr (by omega), by omega⟩
  refine ⟨fromV_ok DomOk.nil srt_le (fun v hv => vs_in v (List.mem_filter.mp (srt_perm.mem_iff.mp hv)).1) (by simp), fromV_ne fun e => bits_ne _ hm ?_⟩
  have := srt_perm (xs := vsL.filter (bitP (1 + m)))
  rw [e] at this
  exact List.nil_perm.mp this
theorem sgn_at {i : Nat} (h : i < 4) : ∃ g : Sgn, sgns.getD i (Str.ofString "") = g.str := by
  have : i = 0 ∨ i = 1 ∨ i = 2 ∨ i = 3 := by omega
  rcases this with rfl | rfl | rfl | rfl
  · exact ⟨.le, rfl⟩
  · exact ⟨.ge, rfl⟩
  · exact ⟨.eq, rfl⟩
  · exact ⟨.ne, rfl⟩
theorem lit_of {ns : List Int} {k : Nat} : ∃ g, litF ns k = litV (dv ns k 3) g (dv ns (k + 2) 6 - 1) := by
  have h := dv_in (ns := ns) (k := k + 1) (many := 4) (by decide)
  obtain ⟨g, e⟩ := sgn_at (i := (dv ns (k + 1) 4).toNat) (by omega)
  exact ⟨g, by rw [litF, e]⟩
theorem cur_set {D : List Dom} {s : List (Int × Dom)} {x : Int} {e : Dom} : cur D ((x, e) :: s) = setI (cur D s) x e := by
  funext y
  unfold cur setI
  rw [List.lookup_cons]
  by_cases h : y = x
  · subst h; simp
  · have : (y == x) = false := by simpa using h
    rw [this, if_neg h]
theorem three_list {α : Type} {l : List α} (h : l.length = 3) : ∃ a b c, l = [a, b, c] := by
  match l, h with | [a, b, c], _ => exact ⟨a, b, c, rfl⟩
theorem cur_three {f : Int → Dom} {x : Int} (h0 : 0 ≤ x) (h3 : x < 3) : cur [f 0, f 1, f 2] [] x = f x := by
  have hx : x = 0 ∨ x = 1 ∨ x = 2 := by omega
  rcases hx with rfl | rfl | rfl <;> rfl
theorem good_first {ds : List Dom} (hl : ds.length = 3) (h : ∀ q ∈ ds, DomOk q ∧ q ≠ []) : Good (cur ds []) := fun x h0 h3 => by
  have e : cur ds [] x = ds.getD x.toNat [] := rfl
  rw [e, List.getD_eq_getElem?_getD, List.getElem?_eq_getElem (show x.toNat < ds.length by omega)]
  exact h _ (List.getElem_mem _)
theorem has_congr {t : Cn} {dd dd' : Int → Dom} (h : ∀ x, 0 ≤ x → x < 3 → dd x = dd' x) : Has t dd ↔ Has t dd' := by
  unfold Has
  constructor <;> rintro ⟨v, h1, h2⟩ <;> refine ⟨v, fun x h0 h3 => ?_, h2⟩
  · rw [← h x h0 h3]; exact h1 x h0 h3
  · rw [h x h0 h3]; exact h1 x h0 h3

end
section
abbrev judgeV (a : AV) : AV := .obj 383 (Str.ofString "domains") a (Str.ofString "most") (.int 1)
theorem judge_init {x dx : Addr} {a : AV} : FnR 0 60 341 [.lit (.ref x), a, .int 1] [(x, .raw (instObj 383 dx)), (dx, .ins [])] (fun v τ => v = .none ∧ ∃ a1 a2 τ', τ = τ' ++ [(x, .raw (instObj 383 dx)), (dx, .ins [(Str.ofString "domains", a1), (Str.ofString "most", a2)])] ∧ (a1 = a ∧ a2 = .int 1 ∧ τ' = [])) := by
  w_top off
  walk_at "enter3"
  refine RuB.setAttrR (P := Is a [(x, .raw (instObj 383 dx)), (dx, .ins [])]) (p := x) (C := 383) (dx := dx) ((EvA.name rfl).rel ⟨rfl, rfl⟩) (fun _ => EvA.name rfl) (by walk_at "w9") (by walk_at "w9") (by walk_at "w9") (by walk_at "w9") rfl ?_
  rintro _ _ ⟨e1, e2⟩
  rw [e1, e2]
  refine ⟨[], [], [], rfl, rfl, Nat.zero_le _, ?_⟩
  refine RuB.setAttrR (P := Is (.int 1) [(x, .raw (instObj 383 dx)), (dx, .ins [(Str.ofString "domains", a)])]) (p := x) (C := 383) (dx := dx) ((EvA.name rfl).rel ⟨rfl, rfl⟩) (fun _ => EvA.name rfl) (by walk_at "w9") (by walk_at "w9") (by walk_at "w9") (by walk_at "w9") rfl ?_
  rintro _ _ ⟨e1, e2⟩
  rw [e1, e2]
  exact ⟨[], [(Str.ofString "domains", a)], [], rfl, by kernel_rfl!, Nat.le_of_ble_eq_true rfl, RuB.nil ⟨rfl, a, .int 1, [], rfl, rfl, rfl, rfl⟩⟩
def Tru (a : AV) (_ : Sto) : Prop := a = .bool true
theorem neB_self {n u : Nat} {Γ : Cx n u} {σ : Sto} {a : Bool} : BinA Γ σ (compareOp .NotEq) (.bool a) (.bool a) (.bool false) := by
  have h := neB_A (Γ := Γ) (σ := σ) (a := a) (b := a)
  rwa [bne_self_eq_false a] at h
theorem law_D {script : List Int} (hl : script.length ≤ 63) : FnR 5 300 432 [.ils script] [] Tru := by
  w_top off
  walk_at "enterA"
  -- the deck
  have hns : ((script.take 60).map fun c => c.fmod 99991).length ≤ 63 := by rw [List.length_map, List.length_take]; omega
  refine RuB.asgR (P := fun a τ => ∃ d, a = .lit (.ref d) ∧ τ = [(d, deckS ((script.take 60).map fun c => c.fmod 99991) 0)]) (EvR.list (ArA.cons (σ₁ := []) (EvA.eq (EvA.compG (st := fun _ => []) (xs := script.take 60) (φ := fun c => [.int c]) (ψ := fun c => .int (c.fmod 99991)) (p := fun _ => true) (ct := none) (ns := [Str.ofString "cell"]) (SrcV.to (φ := fun c => .int c) (a := .lst ((script.take (60 : Int).toNat).map .int)) (EvA.uptoS (EvA.name rfl) EvA.int (by decide) (by omega) rfl) .lst) ?_ ?_ (fun _ _ _ => rfl) ?_ (fun _ _ _ q => by cases q) (fun _ => rfl) (by rw [List.length_take]; omega)) ?_) (ArA.one (EvA.eq EvA.int rfl) rfl) rfl) (Nat.le_of_ble_eq_true rfl) fun d => ⟨d, rfl, rfl⟩) rfl ?_ ?_
  · kernel_rfl!
  · kernel_rfl!
  · intro i c hc _ C io
    exact EvA.bin (EvA.callT (id := "int") (as := [.int c]) (by walk_at "eva") (by walk_at "ara") int_A rfl) EvA.int (mod_A (by decide))
  · rw [← map_all, List.map_map]; rfl
  · kernel_rfl!
  rintro _ _ ⟨d, rfl, rfl⟩
  generalize ((script.take 60).map fun c => c.fmod 99991) = ns at *
  -- the domains
  refine RuB.asgR (P := fun a τ => ∃ D, a = .lit (.ref D) ∧ τ = [(D, .lst []), (d, deckS ns 0)]) (EvR.list ArA.nil (Nat.le_of_ble_eq_true rfl) fun D => ⟨D, rfl, rfl⟩) rfl (by kernel_rfl!) ?_
  rintro _ _ ⟨D, rfl, rfl⟩
  refine RuB.swap ?_
  refine RuB.for (xs := List.range 3) (φ := fun i => [.int (i : Nat)]) (ns := [Str.ofString "x"]) (τ := [(d, deckS ns 0), (D, .lst [])]) (fun i ρ σ => ∃ ds : List Dom, ρ = [(Str.ofString "domains", .lit (.ref D)), (Str.ofString "deck", .lit (.ref d)), (Str.ofString "script", .ils script)] ∧ σ = [(d, deckS ns i), (D, .lst (ds.map domV))] ∧ ds.length = i ∧ ∀ q ∈ ds, DomOk q ∧ q ≠ [])
    (SrcV.to (φ := fun i => .int (i : Nat)) (a := .rng 0 ((3 : Nat) : Int)) (EvA.eq (a := .rng 0 3) ?_ rfl) (SrcV.rng0 (by decide))) (by kernel_rfl!) ⟨[], rfl, rfl, rfl, by simp⟩ ?_ ?_ (fun _ => rfl)
  · walk_at "eva"
  · rintro i x ρ σ io hx ⟨ds, rfl, rfl, hdl, hds⟩
    have hi : i < 3 := by have := (List.getElem?_eq_some_iff.mp hx).1; rwa [List.length_range] at this
    have hm := dv_in (ns := ns) (k := i) (many := 31) (by decide)
    have hq := domN_ok hm.1 hm.2
    show RuB _ _ _ _ _ _ ((d, deckS ns i) :: (D, .lst (ds.map domV)) :: io) _ _ _
    walk_at "rub"
    refine RuB.exp (EvA.append (p := D) (pre' := [(d, deckS ns (i + 1))]) (post' := io) (pre := [(d, deckS ns (i + 1))]) (post := io) (l0 := ds.map domV) (ls := ds.map domV) (a := domV (domN (1 + dv ns i 31))) (EvA.name rfl) (EvA.callP (σ₁ := [(d, deckS ns (i + 1))] ++ (D, .lst (ds.map domV)) :: io) (as := [.lst ((vsL.filter (bitP (1 + dv ns i 31))).map .int)]) ?_ (ArA.one (EvA.compIf (xs := vsL) (a := .rng (-1) (-1 + ((5 : Nat) : Int))) (φ := AV.int) (ψ := AV.int) (p := bitP (1 + dv ns i 31)) (EvA.eq (a := .rng (-1) 4) ?_ rfl) ?_ ?_ ?_ ?_ ?_ (fun _ => rfl) (by decide)) rfl) (from_values_A ?_) ?_ rfl ?_ ?_) rfl (by rw [List.length_map]; omega) rfl) rfl rfl (RuB.nil ⟨[(d, deckS ns (i + 1)), (D, .lst ((ds ++ [domN (1 + dv ns i 31)]).map domV))], _, ?_, ⟨ds ++ [domN (1 + dv ns i 31)], rfl, rfl, ?_, ?_⟩, ?_⟩)
    · walk_at "eva"
    · walk_at "eva"
    · rw [vsL, List.map_map]; exact SrcV.rng (by decide) (by decide) (by decide)
    · kernel_rfl!
    · kernel_rfl!
    · intro v hv C σ'
      have hp := vs_ok v hv
      exact TsA.cmp (a := .int (((1 + dv ns i 31).fdiv (2 ^ (v + 1).toNat)).fmod 2)) (b := .int 1) (EvA.bin (EvA.bin (EvA.name rfl) (EvA.bin EvA.int (EvA.bin (EvA.name rfl) EvA.int add_A) (pow_A hp.1.1 hp.1.2 (by decide))) (div_A hp.2.1 hp.2.2)) EvA.int (mod_A (by decide))) EvA.int (cmpI_ok rfl) rfl
    · intro v hv hb C σ'
      exact EvA.name rfl
    · exact Nat.lt_of_le_of_lt (List.length_filter_le _ _) (by decide)
    · walk_at "sid"
    · walk_at "sid"
    · walk_at "sid"
    · rw [List.map_append]; rfl
    · rw [List.length_append, hdl]; rfl
    · intro q hq'
      rcases List.mem_append.mp hq' with h | h
      · exact hds q h
      · rw [List.mem_singleton.mp h]; exact hq
    · walk_at "thin"
  rintro ρ σ ⟨ds, rfl, rfl, hdl, hds⟩
  replace hdl : ds.length = 3 := hdl
  show RuB _ _ _ _ _ _ [(d, deckS ns 3), (D, .lst (ds.map domV))] _ _ _
  refine RuB.freeze (pre := [(d, deckS ns 3)]) (p := D) (ls := ds.map domV) (post := []) (Frz.this (Frz.same (Frz.same Frz.nil))) ?_
  show RuB _ _ _ _ _ _ [(d, deckS ns 3)] _ _ _
  have hdz : (ds.map domV).length ≤ 1000 := by rw [List.length_map]; omega
  refine RuB.asgTR (xs := [Str.ofString "first", Str.ofString "box"]) (P := fun as τ => ∃ T, as = [.lst (ds.map domV), boxV (.lst (ds.map domV)) T] ∧ τ = [(T, .dic []), (d, deckS ns 3)]) (EvR.tup (ArR.cons (P := Is (.lst (ds.map domV)) [(d, deckS ns 3)]) ((EvA.callT (id := "list") (as := [.lst (ds.map domV)]) ?_ ?_ (copy_A hdz) rfl).rel ⟨rfl, rfl⟩) ?_ rfl)) rfl ?_ rfl ?_ ?_
  · walk_at "eva"
  · walk_at "ara"
  · rintro _ _ ⟨e1, e2⟩
    rw [e1, e2]
    refine ArR.cons (EvR.make (σ₁ := [(d, deckS ns 3)]) (PP := fun a1 a2 τ' => a1 = .lst (ds.map domV) ∧ ∃ T, a2 = .lit (.ref T) ∧ τ' = [(T, .dic [])]) (P := fun a τ => ∃ T, a = boxV (.lst (ds.map domV)) T ∧ τ = [(T, .dic []), (d, deckS ns 3)]) (as := [.lst (ds.map domV)]) ?_ ?_ (fun x dx => box_init) ?_ ?_ ?_ ?_ ?_ rfl ?_ ?_) ?_ rfl
    · walk_at "eva"
    · walk_at "ara"
    · rintro a1 a2 τ' ⟨rfl, T, rfl, rfl⟩
      exact ⟨T, rfl, rfl⟩
    · walk_at "w9"
    · walk_at "w9"
    · walk_at "w9"
    · walk_at "w9"
    · walk_at "sid"
    · walk_at "sid"
    · rintro _ _ ⟨T, rfl, rfl⟩
      exact ArA.nil.rel ⟨Nat.le_of_ble_eq_true rfl, T, rfl, rfl⟩
  · first | exact rfl | kernel_rfl!
  · kernel_rfl!
  rintro _ _ ⟨T, rfl, rfl⟩
  refine ⟨rfl, ?_⟩
  dsimp only [bindN]
  refine RuB.swap ?_
  have hz10 : ds.length ≤ 10 := by omega
  have hd3 := dv_in (ns := ns) (k := 3) (many := 3) (by decide)
  refine RuB.for (xs := List.range (dv ns 3 3).toNat) (φ := fun i => [.int (i : Nat)]) (ns := [Str.ofString "lap"]) (τ := [(d, deckS ns 4), (T, .dic (dicV []))]) (fun i ρ σ => ∃ s, ρ = [(Str.ofString "box", boxV (.lst (ds.map domV)) T), (Str.ofString "first", .lst (ds.map domV)), (Str.ofString "domains", .lst (ds.map domV)), (Str.ofString "deck", .lit (.ref d)), (Str.ofString "script", .ils script)] ∧ σ = [(d, deckS ns (4 + 3 * i)), (T, .dic (dicV s))] ∧ Good (cur ds s) ∧ s.length ≤ i)
    (SrcV.toS (φ := fun i => .int (i : Nat)) (a := .rng 0 ((dv ns 3 3).toNat : Nat)) (EvA.eq (a := .rng 0 (dv ns 3 3)) ?_ (by rw [show (((dv ns 3 3).toNat : Nat) : Int) = dv ns 3 3 by omega])) (SrcV.rng0 (by omega))) (by kernel_rfl!) ⟨[], rfl, rfl, good_first hdl hds, Nat.le_refl _⟩ ?_ ?_ (fun _ => rfl)
  · walk_at "eva"
  · rintro i x ρ σ io hx ⟨s, rfl, rfl, hg, hsl⟩
    have hi : i < (dv ns 3 3).toNat := by have := (List.getElem?_eq_some_iff.mp hx).1; rwa [List.length_range] at this
    have hx0 := dv_in (ns := ns) (k := 4 + 3 * i) (many := 3) (by decide)
    obtain ⟨g, hlit⟩ := lit_of (ns := ns) (k := 4 + 3 * i)
    generalize dv ns (4 + 3 * i) 3 = x0 at hx0 hlit
    generalize dv ns (4 + 3 * i + 2) 6 - 1 = k0 at hlit
    have hx3 : x0 < (ds.length : Int) := by omega
    have hdl0 : (cur ds s x0).length ≤ 400 := Nat.le_trans (hg x0 hx0.1 hx0.2).1.len (by decide)
    refine RuB.asg (τ := (d, deckS ns (4 + 3 * i + 3)) :: (T, .dic (dicV s)) :: io) (a := litV x0 g k0) (EvA.eq (EvA.callQ (post := (T, .dic (dicV s)) :: io) (literal_D hns (by omega)) ?_ ?_ ?_ rfl ?_ ?_) hlit) rfl ?_ ?_
    · exact EvA.glob (by walk_at "sid") (by kernel_rfl!)
    · exact ArA.one (EvA.name rfl) rfl
    · walk_at "sid"
    · walk_at "sid"
    · walk_at "sid"
    · kernel_rfl!
    refine RuB.ite (TsA.ofB (EvA.methE (σ₂ := (d, deckS ns (4 + 3 * i + 3)) :: (T, .dic (dicV s)) :: io) (pre := [(d, deckS ns (4 + 3 * i + 3))]) (post := io) (as := [litV x0 g k0]) ?_ ?_ (can_hold_D hx0.1 hx3 hz10 hdl0) rfl rfl ?_ ?_ ?_ ?_ rfl rfl rfl ?_ ?_ rfl) (fun _ => rfl)) (fun c => ?_) (fun c => ?_) fun _ _ h => RuB.nil h
    · walk_at "eva"
    · walk_at "ara"
    · walk_at "w9"
    · walk_at "w9"
    · walk_at "w9"
    · walk_at "w9"
    · walk_at "sid"
    · walk_at "sid"
    · have he : (struckD g k0 (cur ds s x0)).isEmpty = false := by simpa using c
      refine RuB.exp (τ := (d, deckS ns (4 + 3 * i + 3)) :: (T, .dic (dicV ((x0, struckD g k0 (cur ds s x0)) :: s))) :: io) (EvA.methE (σ₂ := (d, deckS ns (4 + 3 * i + 3)) :: (T, .dic (dicV s)) :: io) (pre := [(d, deckS ns (4 + 3 * i + 3))]) (post := io) (as := [litV x0 g k0]) ?_ ?_ (say_D hx0.1 hx3 hz10 hdl0 (by omega)) rfl rfl ?_ ?_ ?_ ?_ rfl rfl rfl ?_ ?_ rfl) rfl rfl (RuB.nil ⟨[(d, deckS ns (4 + 3 * i + 3)), (T, .dic (dicV ((x0, struckD g k0 (cur ds s x0)) :: s)))], _, rfl, ⟨(x0, struckD g k0 (cur ds s x0)) :: s, rfl, rfl, ?_, ?_⟩, ?_⟩)
      · walk_at "eva"
      · walk_at "ara"
      · walk_at "w9"
      · walk_at "w9"
      · walk_at "w9"
      · walk_at "w9"
      · walk_at "sid"
      · walk_at "sid"
      · rw [cur_set]; exact setI_good hg hx0.1 hx0.2 he
      · rw [List.length_cons]; omega
      · walk_at "thin"
    · refine RuB.nil ⟨[(d, deckS ns (4 + 3 * i + 3)), (T, .dic (dicV s))], _, rfl, ⟨s, rfl, rfl, hg, by omega⟩, ?_⟩
      walk_at "thin"
  rintro ρ σ ⟨s, rfl, rfl, hg, hsl⟩
  rw [List.length_range]
  obtain ⟨k₁, hk₁, hk10⟩ : ∃ k₁, 4 + 3 * (dv ns 3 3).toNat = k₁ ∧ k₁ ≤ 10 := ⟨_, rfl, by omega⟩
  rw [hk₁]
  -- what is told
  refine RuB.asgTR (xs := [Str.ofString "told", Str.ofString "scope"]) (P := fun as τ => ∃ (t : Cn) (ss : List Int) (k₂ : Nat), as = [t.av, .tup (ss.map .int)] ∧ τ = [(d, deckS ns k₂), (T, .dic (dicV s))] ∧ t.ok ∧ (∀ x ∈ t.vars, x ∈ ss) ∧ (∀ x ∈ ss, 0 ≤ x ∧ x < 3) ∧ k₂ ≤ 40) (EvR.callF (pre := []) (post := [(T, .dic (dicV s))]) (σ₁ := [(d, deckS ns k₁)]) (as := [.lit (.ref d)]) ?_ ?_ (told_D hns (by omega)) ?_ ?_ rfl ?_ ?_) rfl ?_ rfl ?_ ?_
  · refine EvA.glob ?_ (by kernel_rfl!); (walk_at "sid")
  · exact ArA.one (EvA.name rfl) rfl
  · rintro _ _ ⟨t, ss, k₂, rfl, rfl, h1, h2, h3, _, _, h4⟩
    exact ⟨_, rfl, t, ss, k₂, rfl, rfl, h1, h2, h3, by omega⟩
  · walk_at "sid"
  · walk_at "sid"
  · walk_at "sid"
  · first | exact rfl | kernel_rfl!
  · kernel_rfl!
  rintro _ _ ⟨t, ss, k₂, rfl, rfl, hto, htv, hss, hk40⟩
  refine ⟨rfl, ?_⟩
  dsimp only [bindN]
  -- the turn
  refine RuB.asgT (xs := [Str.ofString "turn", Str.ofString "more"]) (τ := [(d, deckS ns (k₂ + 1 + 1)), (T, .dic (dicV s))]) (as := [.int (dv ns k₂ 3), .int (dv ns (k₂ + 1) 2)]) ?_ rfl (by first | exact rfl | kernel_rfl!) rfl (by kernel_rfl!) rfl ?_
  · walk_at "eva"
  dsimp only [bindN]
  have htn := dv_in (ns := ns) (k := k₂) (many := 3) (by decide)
  generalize dv ns k₂ 3 = tn at *
  generalize dv ns (k₂ + 1) 2 = mr at *
  -- the turned variables
  have h3m : ∀ x ∈ [tn, (tn + 2).fmod 3, (tn + 1).fmod 3], 0 ≤ x ∧ x < 3 := fun x hx => three_bd htn.1 htn.2 hx
  have hkv := keep_vars (mr := mr) htn.1 htn.2 htv hss
  refine RuB.asgCompG (st := fun _ => [(d, deckS ns (k₂ + 1 + 1)), (T, .dic (dicV s))]) (xs := [tn, (tn + 2).fmod 3, (tn + 1).fmod 3]) (φ := fun x => [.int x]) (ψ := fun x => .int x) (p := keepP ss mr) (ct := some _) (ns := [Str.ofString "x"]) (SrcV.to (φ := fun x => .int x) (a := .tup ([tn, (tn + 2).fmod 3, (tn + 1).fmod 3].map .int)) ?_ .tup) ?_ ?_ ?_ ?_ (fun _ _ _ _ => rfl) (fun _ => ?hfs) (Nat.le_of_ble_eq_true rfl) ?_ ?_ ?_
  case hfs => first | exact rfl | kernel_rfl!
  · exact EvA.eq (a := .tup [.int tn, .int ((tn + 2).fmod 3), .int ((tn + 1).fmod 3)]) (EvA.tup (ArA.cons (σ₁ := [(d, deckS ns (k₂ + 1 + 1)), (T, .dic (dicV s))]) (EvA.name rfl) (ArA.cons (σ₁ := [(d, deckS ns (k₂ + 1 + 1)), (T, .dic (dicV s))]) (EvA.bin (EvA.bin (EvA.name rfl) EvA.int add_A) EvA.int (mod_A (by decide))) (ArA.one (EvA.bin (EvA.bin (EvA.name rfl) EvA.int add_A) EvA.int (mod_A (by decide))) rfl) rfl) rfl) (Nat.le_of_ble_eq_true rfl)) rfl
  · kernel_rfl!
  · kernel_rfl!
  · intro i x hx C io
    exact TsA.or (c₁ := ss.any (· == x)) (c₂ := decide (mr = 1)) (TsA.cmp (a := .int x) (b := .tup (ss.map .int)) (EvA.name rfl) (EvA.name rfl) in_tupA rfl) fun _ => TsA.cmp (a := .int mr) (b := .int 1) (EvA.name rfl) EvA.int (cmpI_ok rfl) rfl
  · intro i x hx _ C io
    exact EvA.name rfl
  · kernel_rfl!
  · first | exact rfl | kernel_rfl!
  have hxb : ∀ x ∈ [tn, (tn + 2).fmod 3, (tn + 1).fmod 3].filter (keepP ss mr), 0 ≤ x ∧ x < 3 := fun x hx => h3m x (List.mem_filter.mp hx).1
  have hxn : ([tn, (tn + 2).fmod 3, (tn + 1).fmod 3].filter (keepP ss mr)).length ≤ 3 := List.length_filter_le _ _
  clear h3m
  generalize [tn, (tn + 2).fmod 3, (tn + 1).fmod 3].filter (keepP ss mr) = xs at *
  -- the judge and the lots
  have hvl : ∀ x, 0 ≤ x → x < 3 → (vals (cur ds s x)).length ≤ 5 := fun x h0 h3 => vals_len5 (hg x h0 h3).1
  have hvb : ∀ x, 0 ≤ x → x < 3 → ∀ v ∈ vals (cur ds s x), -1 ≤ v ∧ v ≤ 3 := fun x h0 h3 v hv => vals_bound (hg x h0 h3).1 hv
  have hlots := lots_D (T := T) hdl (fun x h0 h3 => (hg x h0 h3).1)
  have hts : ∀ x ∈ t.vars, 0 ≤ x ∧ x < 3 := fun x hx => hss x (htv x hx)
  have hhas := lawhas_D hto hts (hvl 0 (by decide) (by decide)) (hvl 1 (by decide) (by decide)) (hvl 2 (by decide) (by decide)) (hvb 0 (by decide) (by decide)) (hvb 1 (by decide) (by decide)) (hvb 2 (by decide) (by decide))
  have hdue := lawhas_iff (dd := cur ds s) hts
  have htB := tupB_iff hg hxb hkv
  generalize ((pts3 (vals (cur ds s 0)) (vals (cur ds s 1)) (vals (cur ds s 2))).any fun p => t.sat (pv p)) = due at *
  refine RuB.asgSR (xs := [Str.ofString "judge", Str.ofString "lots"]) (P := fun as τ => as = [judgeV (.lst (ds.map domV)), lotV (lotsOf ds s [0, 1, 2])] ∧ τ = [(d, deckS ns (k₂ + 1 + 1)), (T, .dic (dicV s))]) (EvR.tup (ArR.cons (P := Is (judgeV (.lst (ds.map domV))) [(d, deckS ns (k₂ + 1 + 1)), (T, .dic (dicV s))]) (EvR.make (σ₁ := [(d, deckS ns (k₂ + 1 + 1)), (T, .dic (dicV s))]) (PP := fun a1 a2 τ' => a1 = .lst (ds.map domV) ∧ a2 = .int 1 ∧ τ' = []) (as := [.lst (ds.map domV), .int 1]) ?_ ?_ (fun x dx => judge_init) ?_ ?_ ?_ ?_ ?_ rfl ?_ ?_) ?_ rfl)) rfl ?_ ?_ ?_
  · walk_at "eva"
  · walk_at "ara"
  · rintro a1 a2 τ' ⟨rfl, rfl, rfl⟩
    exact ⟨rfl, rfl⟩
  · walk_at "w9"
  · walk_at "w9"
  · walk_at "w9"
  · walk_at "w9"
  · walk_at "sid"
  · walk_at "sid"
  · rintro _ _ ⟨e1, e2⟩
    rw [e1, e2]
    refine (ArA.one (EvA.callF (pre := [(d, deckS ns (k₂ + 1 + 1))]) (post := []) (σ₁ := [(T, .dic (dicV s))]) (τ := [(T, .dic (dicV s))]) (as := [boxV (.lst (ds.map domV)) T]) ?_ (ArA.one (EvA.name rfl) rfl) hlots ?_ rfl ?_ ?_) rfl).rel ⟨Nat.le_of_ble_eq_true rfl, rfl, rfl⟩
    · walk_at "eva"
    · walk_at "sid"
    · walk_at "sid"
    · walk_at "sid"
  · first | exact rfl | kernel_rfl!
  · kernel_rfl!
  rintro _ _ ⟨rfl, rfl⟩
  refine ⟨rfl, ?_⟩
  dsimp only [bindN, List.reverse, List.reverseAux]
  refine RuB.asg (τ := [(d, deckS ns (k₂ + 1 + 1)), (T, .dic (dicV s))]) (a := .bool due) (EvA.callP (σ₁ := [(d, deckS ns (k₂ + 1 + 1)), (T, .dic (dicV s))]) (as := [t.av, lotV [vals (cur ds s 0), vals (cur ds s 1), vals (cur ds s 2)]]) ?_ (ArA.cons (σ₁ := [(d, deckS ns (k₂ + 1 + 1)), (T, .dic (dicV s))]) (EvA.name rfl) (ArA.one (EvA.name rfl) rfl) rfl) hhas ?_ rfl ?_ ?_) rfl ?_ ?_
  · walk_at "eva"
  · walk_at "sid"
  · walk_at "sid"
  · walk_at "sid"
  · kernel_rfl!
  -- the first word
  have htB' : tupB t (cur ds s) xs = due := Bool.eq_iff_iff.mpr (htB.trans hdue.symm)
  have htup := tuple_D (T := T) (j := judgeV (.lst (ds.map domV))) hdl hg hxb (by omega) hto hkv
  rw [htB'] at htup
  refine RuB.skip (TsA.orF (TsA.cmp (a := .bool due) (b := .bool due) (EvA.methE (σ₂ := [(d, deckS ns (k₂ + 1 + 1)), (T, .dic (dicV s))]) (pre := [(d, deckS ns (k₂ + 1 + 1))]) (post := []) (as := [t.av, .tup (xs.map .int), boxV (.lst (ds.map domV)) T]) (EvA.name rfl) (ArA.cons (σ₁ := [(d, deckS ns (k₂ + 1 + 1)), (T, .dic (dicV s))]) (EvA.name rfl) (ArA.cons (σ₁ := [(d, deckS ns (k₂ + 1 + 1)), (T, .dic (dicV s))]) (EvA.callT (id := "tuple") (as := [.lst (xs.map .int)]) ?_ (ArA.one (EvA.name rfl) rfl) (tuple_lstA .imm (by rw [List.length_map]; omega)) rfl) (ArA.one (EvA.name rfl) rfl) rfl) rfl) htup rfl rfl ?_ ?_ ?_ ?_ rfl rfl rfl ?_ ?_ rfl) (EvA.name rfl) neB_self rfl)
    (TsA.cmp (a := lotV (lotsOf ds s [0, 1, 2])) (b := lotV (lotsOf ds s [0, 1, 2])) (EvA.callF (pre := [(d, deckS ns (k₂ + 1 + 1))]) (post := []) (σ₁ := [(T, .dic (dicV s))]) (τ := [(T, .dic (dicV s))]) (as := [boxV (.lst (ds.map domV)) T]) ?_ (ArA.one (EvA.name rfl) rfl) hlots ?_ rfl ?_ ?_) (EvA.name rfl) (neD_A (f := fun l : List Int => AV.lst (l.map .int)) (g := fun l => .list (l.map .int)) (fun hS x v r => reads_lst hS reads_int r) (shaped_lots _ _ _) (Nat.le_of_ble_eq_true rfl)) rfl)) ?_
  · walk_at "eva"
  · walk_at "w9"
  · walk_at "w9"
  · walk_at "w9"
  · walk_at "w9"
  · walk_at "sid"
  · walk_at "sid"
  · walk_at "eva"
  · walk_at "sid"
  · walk_at "sid"
  · walk_at "sid"
  -- the literal and its parts
  obtain ⟨g, hlit⟩ := lit_of (ns := ns) (k := k₂ + 1 + 1)
  have hy := dv_in (ns := ns) (k := k₂ + 1 + 1) (many := 3) (by decide)
  generalize dv ns (k₂ + 1 + 1) 3 = y at *
  generalize dv ns (k₂ + 1 + 1 + 2) 6 - 1 = k₀ at *
  refine RuB.asgSR (xs := [Str.ofString "literal", Str.ofString "parts"]) (P := fun as τ => ∃ p, as = [litV y g k₀, .lit (.ref p)] ∧ τ = [(p, .lst []), (d, deckS ns (k₂ + 1 + 1 + 3)), (T, .dic (dicV s))]) (EvR.tup (ArR.cons (P := Is (litV y g k₀) [(d, deckS ns (k₂ + 1 + 1 + 3)), (T, .dic (dicV s))]) ((EvA.eq (EvA.callQ (post := [(T, .dic (dicV s))]) (literal_D hns (by omega)) ?_ (ArA.one (EvA.name rfl) rfl) ?_ rfl ?_ ?_) hlit).rel ⟨rfl, rfl⟩) ?_ rfl)) rfl ?_ ?_ ?_
  · exact EvA.glob (by walk_at "sid") (by kernel_rfl!)
  · walk_at "sid"
  · walk_at "sid"
  · walk_at "sid"
  · rintro _ _ ⟨e1, e2⟩
    rw [e1, e2]
    exact ArR.cons (EvR.list ArA.nil (Nat.le_of_ble_eq_true rfl) fun p => ⟨p, rfl, rfl⟩) (P := fun a τ => ∃ p, a = .lit (.ref p) ∧ τ = [(p, .lst []), (d, deckS ns (k₂ + 1 + 1 + 3)), (T, .dic (dicV s))]) (by rintro _ _ ⟨p, rfl, rfl⟩; exact ArA.nil.rel ⟨Nat.le_of_ble_eq_true rfl, p, rfl, rfl⟩) rfl
  · first | exact rfl | kernel_rfl!
  · kernel_rfl!
  rintro _ _ ⟨p, rfl, rfl⟩
  refine ⟨rfl, ?_⟩
  dsimp only [bindN, List.reverse, List.reverseAux]
  refine RuB.asg (τ := [(p, .lst []), (d, deckS ns (k₂ + 1 + 1 + 3)), (T, .dic (dicV s))]) (a := .tup [.str g.neg.str, .int g.off]) (EvA.dictItem (x := g.str) (kas := [(Str.ofString "<=", .tup [.str (Str.ofString ">="), .int 1]), (Str.ofString ">=", .tup [.str (Str.ofString "<="), .int (-1)]), (Str.ofString "=", .tup [.str (Str.ofString "!="), .int 0]), (Str.ofString "!=", .tup [.str (Str.ofString "="), .int 0])]) (fun σ' => PsA.cons EvA.str ?_ (PsA.cons EvA.str ?_ (PsA.cons EvA.str ?_ (PsA.cons EvA.str ?_ PsA.nil)))) (EvA.item (σ₁ := [(p, .lst []), (d, deckS ns (k₂ + 1 + 1 + 3)), (T, .dic (dicV s))]) (a := .tup [.int y, .str g.str, .int k₀]) (b := .int 1) (EvA.name rfl) EvA.int (tup_A (p := 1) rfl rfl (Nat.le_of_ble_eq_true rfl) rfl)) (by cases g <;> rfl) (by decide) rfl rfl rfl (by simp) (by decide) rfl) rfl ?_ ?_
  · walk_at "eva"
  · walk_at "eva"
  · walk_at "eva"
  · walk_at "eva"
  · kernel_rfl!
  have hy3 : y < (ds.length : Int) := by omega
  refine RuB.thin (ρ' := [(Str.ofString "turned", .tup [.str g.neg.str, .int g.off]), (Str.ofString "literal", litV y g k₀), (Str.ofString "parts", .lit (.ref p)), (Str.ofString "due", .bool due), (Str.ofString "judge", judgeV (.lst (ds.map domV))), (Str.ofString "some", .lst (xs.map .int)), (Str.ofString "told", t.av), (Str.ofString "box", boxV (.lst (ds.map domV)) T), (Str.ofString "first", .lst (ds.map domV)), (Str.ofString "domains", .lst (ds.map domV))]) ?_ ?_
  · show Thin _ _
    walk_at "thin"
  have hdy : (cur ds s y).length ≤ 400 := Nat.le_trans (hg y hy.1 hy.2).1.len (by decide)
  have hgD : Good (cur [cur ds s 0, cur ds s 1, cur ds s 2] []) := fun x h0 h3 => by rw [cur_three h0 h3]; exact hg x h0 h3
  refine RuB.for (xs := List.range 2) (φ := fun i => [litV y (litG g i) (litK g k₀ i)]) (ns := [Str.ofString "one"]) (τ := [(p, .lst []), (d, deckS ns (k₂ + 1 + 1 + 3)), (T, .dic (dicV s))]) (fun i ρ σ => ∃ bs : List Bool, ρ = [(Str.ofString "turned", .tup [.str g.neg.str, .int g.off]), (Str.ofString "literal", litV y g k₀), (Str.ofString "parts", .lit (.ref p)), (Str.ofString "due", .bool due), (Str.ofString "judge", judgeV (.lst (ds.map domV))), (Str.ofString "some", .lst (xs.map .int)), (Str.ofString "told", t.av), (Str.ofString "box", boxV (.lst (ds.map domV)) T), (Str.ofString "first", .lst (ds.map domV)), (Str.ofString "domains", .lst (ds.map domV))] ∧ σ = [(p, .lst (bs.map .bool)), (d, deckS ns (k₂ + 1 + 1 + 3)), (T, .dic (dicV s))] ∧ PartsJ t (cur ds s) y g k₀ i bs)
    (SrcV.to (φ := fun i => litV y (litG g i) (litK g k₀ i)) (a := .tup ((List.range 2).map fun i => litV y (litG g i) (litK g k₀ i))) (EvA.eq (a := .tup [litV y g k₀, litV y g.neg (k₀ + g.off)]) ?_ rfl) .tup) (by kernel_rfl!) ⟨[], rfl, rfl, rfl⟩ ?_ ?_ (fun _ => rfl)
  · refine EvA.tup (ArA.cons (σ₁ := [(p, .lst []), (d, deckS ns (k₂ + 1 + 1 + 3)), (T, .dic (dicV s))]) (EvA.name rfl) (ArA.one (EvA.tup (ArA.cons (σ₁ := [(p, .lst []), (d, deckS ns (k₂ + 1 + 1 + 3)), (T, .dic (dicV s))]) (EvA.item (σ₁ := [(p, .lst []), (d, deckS ns (k₂ + 1 + 1 + 3)), (T, .dic (dicV s))]) (a := .tup [.int y, .str g.str, .int k₀]) (b := .int 0) (EvA.name rfl) EvA.int (tup_A (p := 0) rfl rfl (Nat.le_of_ble_eq_true rfl) rfl)) (ArA.cons (σ₁ := [(p, .lst []), (d, deckS ns (k₂ + 1 + 1 + 3)), (T, .dic (dicV s))]) (EvA.item (σ₁ := [(p, .lst []), (d, deckS ns (k₂ + 1 + 1 + 3)), (T, .dic (dicV s))]) (a := .tup [.str g.neg.str, .int g.off]) (b := .int 0) (EvA.name rfl) EvA.int (tup_A (p := 0) rfl rfl (Nat.le_of_ble_eq_true rfl) rfl)) (ArA.one (EvA.bin (σ₁ := [(p, .lst []), (d, deckS ns (k₂ + 1 + 1 + 3)), (T, .dic (dicV s))]) (EvA.item (σ₁ := [(p, .lst []), (d, deckS ns (k₂ + 1 + 1 + 3)), (T, .dic (dicV s))]) (a := .tup [.int y, .str g.str, .int k₀]) (b := .int 2) (EvA.name rfl) EvA.int (tup_A (p := 2) rfl rfl (Nat.le_of_ble_eq_true rfl) rfl)) (EvA.item (σ₁ := [(p, .lst []), (d, deckS ns (k₂ + 1 + 1 + 3)), (T, .dic (dicV s))]) (a := .tup [.str g.neg.str, .int g.off]) (b := .int 1) (EvA.name rfl) EvA.int (tup_A (p := 1) rfl rfl (Nat.le_of_ble_eq_true rfl) rfl)) add_A) rfl) rfl) rfl) (Nat.le_of_ble_eq_true rfl)) rfl) rfl) (Nat.le_of_ble_eq_true rfl)
  · rintro i x ρ σ io hx ⟨bs, rfl, rfl, hJ⟩
    have hi : i < 2 := by have := (List.getElem?_eq_some_iff.mp hx).1; rwa [List.length_range] at this
    obtain rfl : x = i := by
      have := (List.getElem?_eq_some_iff.mp hx).2
      rw [List.getElem_range] at this
      exact this.symm
    have hbl := parts_len (Nat.le_of_lt hi) hJ
    have hps : ∀ bs', StepB t (cur ds s) y (litG g x) (litK g k₀ x) bs bs' → PartsJ t (cur ds s) y g k₀ (x + 1) bs' := fun bs' h => parts_step hi hJ h
    generalize litG g x = G at *
    generalize litK g k₀ x = K at *
    refine RuB.ite (TsA.ofB (EvA.methE (σ₂ := (p, .lst (bs.map .bool)) :: (d, deckS ns (k₂ + 1 + 1 + 3)) :: (T, .dic (dicV s)) :: io) (pre := [(p, .lst (bs.map .bool)), (d, deckS ns (k₂ + 1 + 1 + 3))]) (post := io) (as := [litV y G K]) (EvA.name rfl) (ArA.one (EvA.name rfl) rfl) (can_hold_D hy.1 hy3 hz10 hdy) rfl rfl ?_ ?_ ?_ ?_ rfl rfl rfl ?_ ?_ rfl) (fun _ => rfl)) (fun c => ?_) (fun c => ?_) fun _ _ h => RuB.nil h
    · walk_at "w9"
    · walk_at "w9"
    · walk_at "w9"
    · walk_at "w9"
    · walk_at "sid"
    · walk_at "sid"
    · have he : (struckD G K (cur ds s y)).isEmpty = false := by simpa using c
      refine RuB.asgR (P := fun a τ => ∃ T', a = boxV (.lst ([cur ds s 0, cur ds s 1, cur ds s 2].map domV)) T' ∧ τ = (T', .dic []) :: (p, .lst (bs.map .bool)) :: (d, deckS ns (k₂ + 1 + 1 + 3)) :: (T, .dic (dicV s)) :: io) (EvR.make (σ₁ := (p, .lst (bs.map .bool)) :: (d, deckS ns (k₂ + 1 + 1 + 3)) :: (T, .dic (dicV s)) :: io) (PP := fun a1 a2 τ' => a1 = .lst ([cur ds s 0, cur ds s 1, cur ds s 2].map domV) ∧ ∃ T', a2 = .lit (.ref T') ∧ τ' = [(T', .dic [])]) (as := [.lst ([cur ds s 0, cur ds s 1, cur ds s 2].map domV)]) ?_ (ArA.one (EvA.eq (EvA.compG (st := fun _ => (p, .lst (bs.map .bool)) :: (d, deckS ns (k₂ + 1 + 1 + 3)) :: (T, .dic (dicV s)) :: io) (xs := [(0 : Int), 1, 2]) (φ := fun x => [.int x]) (ψ := fun x => domV (cur ds s x)) (p := fun _ => true) (ct := none) (ns := [Str.ofString "x"]) (SrcV.to (φ := fun x => .int x) (a := .rng 0 3) ?_ (SrcV.rng0 (k := 3) (by decide))) ?_ ?_ (fun _ _ _ => rfl) ?_ (fun _ _ _ q => by cases q) (fun _ => rfl) (Nat.le_of_ble_eq_true rfl)) rfl) rfl) (fun x dx => box_init) ?_ ?_ ?_ ?_ ?_ rfl ?_ ?_) rfl ?_ ?_
      · walk_at "eva"
      · exact EvA.eq (a := .rng 0 3) (by walk_at "eva") rfl
      · kernel_rfl!
      · kernel_rfl!
      · intro i z hz _ C
        have hzb : 0 ≤ z ∧ z < (ds.length : Int) := by
          have := List.mem_of_getElem? hz
          simp at this
          omega
        intro jo
        show EvA _ _ _ ((p, .lst (bs.map .bool)) :: (d, deckS ns (k₂ + 1 + 1 + 3)) :: (T, .dic (dicV s)) :: (io ++ jo)) _ _ ((p, .lst (bs.map .bool)) :: (d, deckS ns (k₂ + 1 + 1 + 3)) :: (T, .dic (dicV s)) :: (io ++ jo))
        refine EvA.methE (σ₂ := (p, .lst (bs.map .bool)) :: (d, deckS ns (k₂ + 1 + 1 + 3)) :: (T, .dic (dicV s)) :: (io ++ jo)) (pre := [(p, .lst (bs.map .bool)), (d, deckS ns (k₂ + 1 + 1 + 3))]) (post := io ++ jo) (as := [.int z]) (EvA.name rfl) (ArA.one (EvA.name rfl) rfl) (domain_D hzb.1 hzb.2 hz10) rfl rfl ?_ ?_ ?_ ?_ rfl rfl rfl ?_ ?_ rfl
        · walk_at "w9"
        · walk_at "w9"
        · walk_at "w9"
        · walk_at "w9"
        · walk_at "sid"
        · walk_at "sid"
      · rintro a1 a2 τ' ⟨rfl, T', rfl, rfl⟩
        exact ⟨T', rfl, rfl⟩
      · walk_at "w9"
      · walk_at "w9"
      · walk_at "w9"
      · walk_at "w9"
      · walk_at "sid"
      · walk_at "sid"
      · kernel_rfl!
      rintro _ _ ⟨T', rfl, rfl⟩
      have hcy : cur [cur ds s 0, cur ds s 1, cur ds s 2] [] y = cur ds s y := cur_three hy.1 hy.2
      have hsay := say_D (T := T') (D := [cur ds s 0, cur ds s 1, cur ds s 2]) (s := []) (x := y) (k := K) (g := G) hy.1 (by show y < (3 : Int); exact hy.2) (Nat.le_of_ble_eq_true rfl) (by rw [hcy]; exact hdy) (by decide)
      have hg' : Good (cur [cur ds s 0, cur ds s 1, cur ds s 2] [(y, struckD G K (cur [cur ds s 0, cur ds s 1, cur ds s 2] [] y))]) := by
        rw [cur_set]; exact setI_good hgD hy.1 hy.2 (by rw [hcy]; exact he)
      have hxr : ∀ z ∈ xs.reverse, 0 ≤ z ∧ z < 3 := fun z hz => hxb z (List.mem_reverse.mp hz)
      have hvr : ∀ z ∈ t.vars, z ∈ xs.reverse := fun z hz => List.mem_reverse.mpr (hkv z hz)
      have htup' := tuple_D (T := T') (j := judgeV (.lst (ds.map domV))) rfl hg' hxr (by rw [List.length_reverse]; omega) hto hvr
      have htb := tupB_iff hg' hxr hvr
      have hcong : Has t (cur [cur ds s 0, cur ds s 1, cur ds s 2] [(y, struckD G K (cur [cur ds s 0, cur ds s 1, cur ds s 2] [] y))]) ↔ Has t (setI (cur ds s) y (struckD G K (cur ds s y))) := has_congr fun z h0 h3 => by
        rw [cur_set, hcy]
        unfold setI
        split
        · rfl
        · exact cur_three h0 h3
      rw [hcong] at htb
      generalize tupB t (cur [cur ds s 0, cur ds s 1, cur ds s 2] [(y, struckD G K (cur [cur ds s 0, cur ds s 1, cur ds s 2] [] y))]) xs.reverse = b at *
      refine RuB.exp (τ := (T', .dic (dicV [(y, struckD G K (cur [cur ds s 0, cur ds s 1, cur ds s 2] [] y))])) :: (p, .lst (bs.map .bool)) :: (d, deckS ns (k₂ + 1 + 1 + 3)) :: (T, .dic (dicV s)) :: io) (EvA.methE (σ₂ := (T', .dic (dicV [])) :: (p, .lst (bs.map .bool)) :: (d, deckS ns (k₂ + 1 + 1 + 3)) :: (T, .dic (dicV s)) :: io) (pre := []) (post := (p, .lst (bs.map .bool)) :: (d, deckS ns (k₂ + 1 + 1 + 3)) :: (T, .dic (dicV s)) :: io) (as := [litV y G K]) (EvA.name rfl) (ArA.one (EvA.name rfl) rfl) hsay rfl rfl ?_ ?_ ?_ ?_ rfl rfl rfl ?_ ?_ rfl) rfl rfl ?_
      · walk_at "w9"
      · walk_at "w9"
      · walk_at "w9"
      · walk_at "w9"
      · walk_at "sid"
      · walk_at "sid"
      generalize struckD G K (cur [cur ds s 0, cur ds s 1, cur ds s 2] [] y) = F at *
      refine RuB.exp (EvA.append (p := p) (pre' := [(T', .dic (dicV [(y, F)]))]) (post' := (d, deckS ns (k₂ + 1 + 1 + 3)) :: (T, .dic (dicV s)) :: io) (pre := [(T', .dic (dicV [(y, F)]))]) (post := (d, deckS ns (k₂ + 1 + 1 + 3)) :: (T, .dic (dicV s)) :: io) (l0 := bs.map .bool) (ls := bs.map .bool) (a := .bool b) (EvA.name rfl) (EvA.methE (σ₂ := (T', .dic (dicV [(y, F)])) :: (p, .lst (bs.map .bool)) :: (d, deckS ns (k₂ + 1 + 1 + 3)) :: (T, .dic (dicV s)) :: io) (pre := []) (post := (p, .lst (bs.map .bool)) :: (d, deckS ns (k₂ + 1 + 1 + 3)) :: (T, .dic (dicV s)) :: io) (as := [t.av, .tup (xs.reverse.map .int), boxV (.lst ([cur ds s 0, cur ds s 1, cur ds s 2].map domV)) T']) (EvA.name rfl) (ArA.cons (σ₁ := (T', .dic (dicV [(y, F)])) :: (p, .lst (bs.map .bool)) :: (d, deckS ns (k₂ + 1 + 1 + 3)) :: (T, .dic (dicV s)) :: io) (EvA.name rfl) (ArA.cons (σ₁ := (T', .dic (dicV [(y, F)])) :: (p, .lst (bs.map .bool)) :: (d, deckS ns (k₂ + 1 + 1 + 3)) :: (T, .dic (dicV s)) :: io) (EvA.callT (id := "tuple") (as := [.lst (xs.reverse.map .int)]) ?_ (ArA.one (EvA.rev (EvA.name rfl) (EvA.neg EvA.int) (by omega) rfl) rfl) (tuple_lstA .imm (by rw [List.length_map, List.length_reverse]; omega)) rfl) (ArA.one (EvA.name rfl) rfl) rfl) rfl) htup' rfl rfl ?_ ?_ ?_ ?_ rfl rfl rfl ?_ ?_ rfl) rfl (by rw [List.length_map]; omega) rfl) rfl rfl ?_
      · walk_at "eva"
      · walk_at "w9"
      · walk_at "w9"
      · walk_at "w9"
      · walk_at "w9"
      · walk_at "sid"
      · walk_at "sid"
      refine RuB.drop (pre := []) (RuB.nil ⟨[(p, .lst ((bs ++ [b]).map .bool)), (d, deckS ns (k₂ + 1 + 1 + 3)), (T, .dic (dicV s))], _, ?_, ⟨bs ++ [b], rfl, rfl, hps _ (.inr ⟨he, b, rfl, htb⟩)⟩, ?_⟩)
      · rw [List.map_append]; rfl
      · walk_at "thin"
    · have he : (struckD G K (cur ds s y)).isEmpty = true := by simpa using c
      refine RuB.nil ⟨[(p, .lst (bs.map .bool)), (d, deckS ns (k₂ + 1 + 1 + 3)), (T, .dic (dicV s))], _, rfl, ⟨bs, rfl, rfl, hps bs (.inl ⟨he, rfl⟩)⟩, ?_⟩
      walk_at "thin"
  rintro ρ σ ⟨bs, rfl, rfl, hJ⟩
  have hpd := parts_due hg hy.1 hy.2 hJ hdue
  have hbl := parts_len (Nat.le_refl 2) hJ
  have h1 := trueIn_A (Γ := Γ) (σ := [(p, .lst (bs.map .bool)), (d, deckS ns (k₂ + 1 + 1 + 3)), (T, .dic (dicV s))]) (bs := bs) (AtL.sto (i := 0) rfl) (Nat.le_of_ble_eq_true rfl)
  rw [hpd] at h1
  have h2 : ∀ σ, BinA Γ σ (compareOp .Eq) (.bool due) (.bool due) (.bool true) := fun σ => by
    have h := eqB_A (Γ := Γ) (σ := σ) (a := due) (b := due)
    rwa [beq_self_eq_true] at h
  have h3 : ∀ σ, BinA Γ σ (compareOp .Eq) (.lst (ds.map domV)) (.lst (ds.map domV)) (.bool true) := fun σ => eqD_A (f := domV) (g := domD) (fun hS x v r => reads_dom hS x v r) (shaped_doms ds) (Nat.le_of_ble_eq_true rfl)
  refine RuB.ret0 (EvA.and3 (EvA.cmp (EvA.cmp EvA.bool (EvA.name rfl) h1 rfl) (EvA.name rfl) (h2 _) rfl) (EvA.cmp (EvA.name rfl) (EvA.name rfl) (h3 _) rfl) (EvA.cmp (EvA.attr (EvA.name rfl) rfl rfl ?_ ?_ ?_) (EvA.name rfl) (h3 _) rfl)) rfl
  · walk_at "w9"
  · walk_at "w9"
  · walk_at "w9"

end
section
theorem law_quiet (script : List Int) : ∀ ct ∈ PySem.Challenge.rw_pc0054_01.row.raises, WTm.holds PySem.Challenge.rw_pc0054_01.row.records ct.snd { args := [ofPy (PyData.list (List.map PyData.int script))] } = false := by wrow_none_raised
theorem law_true (script : List Int) : PySem.Challenge.rw_pc0054_01.row.claim.post [ofPy (PyData.list (List.map PyData.int script))] (WData.bool true) [ofPy (PyData.list (List.map PyData.int script))] = true := by wrow_post
/-- the call of law, at the ground where it is called -/
theorem law_link {w : World} {mean : ExcName → Option Value} {cl : Str → Option Addr} {mg mb : Str → Option Value} {fa l : Addr} {vs : List Value} {xs : List Int} {s₁ : Shared}
    (KX : (hd.heap_1 w.params).In s₁.heap) (T : Top hd.view_1 (looseW hd.view_1 []) mean mg mb s₁.heap) (hg : s₁.gens = #[]) (hmg : mg (Str.ofString "law") = some (.ref fa)) (hL : s₁.heap.IsList l vs.toArray) (hI : IntsAre vs xs) (hz : ¬ (63 : Int) < (xs.length : Int)) :
    codeAny (model PG w) callerA (.call (.ref fa) ⟨[.ref l], []⟩) (GoodWG PySem.Challenge.rw_pc0054_01.row.claim cl mean [ofPy (PyData.list (List.map PyData.int xs))] s₁) s₁ := by
  have hlaw : nsIn (hd.heap_1 w.params) mainGlobals (Str.ofString "law") = some (some (.ref 432)) := by k_is
  obtain rfl : fa = 432 := by
    have e := (mg_of KX T.g hlaw).symm.trans hmg
    cases e
    rfl
  obtain ⟨o, ho, hc, n, hd'⟩ := hL
  refine codeAny_mono (show codeAny (model PG w) { handled := none, depth := 1 + claimMargin, frames := some [], guards := some [], units := 4 } _ _ _ from (law_D (script := xs) (by omega)).run s₁ s₁.heap (fun a o => s₁.heap.get? a = some o) [] [.ref l] KX T (fun _ _ e => e) (Nat.le_refl _) (fun _ _ e => e) (fun a ob e => KX a ob e) .nil (fun q hq => by cases hq) List.nodup_nil (by decide) (by decide) ⟨_, _, rfl, ⟨l, o, n, vs, rfl, ho, hc, hd', hI⟩, rfl⟩) ?_
  rintro r s' ⟨v, h', tk, rfl, rfl, hk, a, τ, st', new, hR, _, _, _, hr⟩
  obtain rfl : a = .bool true := hR
  obtain rfl := hr.ofBool
  exact GoodW.toG ⟨.inl ⟨.bool true, .bool true, [], rfl, raisesW_false (law_quiet _), .bool true, law_true _, unshared_nil⟩, hk, rfl, hg⟩

end
set_option Elab.async true in
set_option maxHeartbeats 0 in
theorem law_holds : PySem.Challenge.rw_pc0054_01.Holds := by
  w_on; o_law; k_head
  case hw => w_witness2
  intro w s₀ s₁ mg mb G Y fa o pm cd doc dV kV ho hd' hcd hD hmg hg args vals as hpre hlay hrd hwl hlo
  have KX := kIn_of Y
  refine Ground.open G ?_
  intro T B D TE TW
  wrow_args hpre hlay hrd hwl hlo
  have KX8 : (hd.heap_1 _).In _ := KX
  have T8 : Top hd.view_1 (looseW hd.view_1 []) _ _ _ _ := T
  refine enter_call ?_
  exact law_link KX8 T8 hg hmg (by assumption) (by assumption) (by assumption)
set_option Elab.async false
end Mine
theorem PySem.Challenge.cw_pc0054_01_holds : PySem.Challenge.rw_pc0054_01.Holds :=
  Mine.law_holds
