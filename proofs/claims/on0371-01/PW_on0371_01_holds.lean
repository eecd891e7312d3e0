import PyProof.Rows.All
import Wide.All
import OpenK.AllK
import Wide.FinOn
import PySem.Challenge.RW_on0371_01
open PySem PySem.W PySem.Calls PyProof.Rows
set_option Elab.async false
set_option compiler.extract_closed false
set_option rowWalk.seconds 0
set_option linter.all false
namespace Mine
theorem hd.tw2867327485932766208 : True := True.intro
theorem hd.tw4971549296188076032 : True := True.intro
theorem hd.tw8735263284916673568 : True := True.intro
theorem hd.tw6276725880618359904 : True := True.intro
theorem hd.tw16412773359747925120 : True := True.intro
theorem hd.tw4706079058837389440 : True := True.intro
theorem hd.tw6830512106363814048 : True := True.intro
theorem hd.tw17950676927832955104 : True := True.intro
theorem hd.tw10458740792067480800 : True := True.intro
theorem hd.tw17387473266821786944 : True := True.intro
theorem hd.tw7023726343779634624 : True := True.intro
theorem hd.tw8134915037123179040 : True := True.intro
theorem hd.tw15344866539931968096 : True := True.intro
theorem hd.tw1359830224848277088 : True := True.intro
theorem hd.tw4494801613693538912 : True := True.intro
theorem hd.tw16154546982801380032 : True := True.intro
theorem hd.tw17183224562656869120 : True := True.intro
theorem hd.tw15643275761693703936 : True := True.intro
theorem hd.tw17252143746492648416 : True := True.intro
theorem hd.tw10752148897807903841 : True := True.intro
theorem hd.tw7610815399733428385 : True := True.intro
theorem hd.tw10403243965636340961 : True := True.intro
theorem hd.tw4086058157674990017 : True := True.intro
theorem hd.tw16037735763661986305 : True := True.intro
theorem hd.tw18343703819029505601 : True := True.intro
theorem hd.tw10678649693572172417 : True := True.intro
theorem hd.tw13330244855972007585 : True := True.intro
theorem hd.tw5343241284826551009 : True := True.intro
theorem hd.tw12373568994912964417 : True := True.intro
theorem hd.tw7914949630228597729 : True := True.intro
theorem hd.tw11210553801493137410 : True := True.intro
theorem hd.tw4272726840584523970 : True := True.intro
theorem hd.tw9430268157657104642 : True := True.intro
theorem hd.tw13919464512627920130 : True := True.intro
theorem hd.tw12936449754285732098 : True := True.intro
theorem hd.tw4702841417184801058 : True := True.intro
theorem hd.tw758273949599710562 : True := True.intro
theorem hd.tw17588044629489971554 : True := True.intro
theorem hd.tw12271959270614036898 : True := True.intro
theorem hd.tw5781342201191254626 : True := True.intro
theorem hd.tw3919010098100093602 : True := True.intro
theorem hd.tw5190246844813560578 : True := True.intro
theorem hd.tw9960721518486171458 : True := True.intro
theorem hd.tw18245042118932799458 : True := True.intro
theorem hd.tw8228950375871286339 : True := True.intro
theorem hd.tw1882180444382439491 : True := True.intro
theorem hd.tw17845618019537910915 : True := True.intro
theorem hd.tw16904818350239718627 : True := True.intro
theorem hd.tw18322514126500204803 : True := True.intro
theorem hd.tw3229955645248102723 : True := True.intro
theorem hd.tw5174551420813472067 : True := True.intro
theorem hd.tw11754176132448286083 : True := True.intro
theorem hd.tw6411954120941647267 : True := True.intro
theorem hd.tw1760603350576429475 : True := True.intro
theorem hd.tw13368278939475635651 : True := True.intro
theorem hd.tw17087091549796120035 : True := True.intro
theorem hd.tw11513968764499736323 : True := True.intro
theorem hd.tw11631947586910100387 : True := True.intro
theorem hd.tw18293851220164018083 : True := True.intro
theorem hd.tw16477043939570097188 : True := True.intro
theorem hd.tw6060742912462422084 : True := True.intro
theorem hd.tw14896477498954680388 : True := True.intro
theorem hd.tw6407587892757256292 : True := True.intro
theorem hd.tw8990031805342692484 : True := True.intro
theorem hd.tw6785817131721698500 : True := True.intro
theorem hd.tw5278057926702712004 : True := True.intro
theorem hd.tw14892549342360969540 : True := True.intro
theorem hd.tw13855946660403688772 : True := True.intro
theorem hd.tw8068729725432388964 : True := True.intro
theorem hd.tw3219085151875037572 : True := True.intro
theorem hd.tw11465210709893060100 : True := True.intro
theorem hd.tw13590489896138608164 : True := True.intro
theorem hd.tw10949625832625181284 : True := True.intro
theorem hd.tw2323474266016966308 : True := True.intro
theorem hd.tw5732804406350252772 : True := True.intro
theorem hd.tw1241404454085649124 : True := True.intro
theorem hd.tw8458067239894703972 : True := True.intro
theorem hd.tw3789350110615891812 : True := True.intro
theorem hd.tw18241275227582772068 : True := True.intro
theorem hd.tw8356816923877370021 : True := True.intro
theorem hd.tw7355570028127101125 : True := True.intro
theorem hd.tw6305734824756694309 : True := True.intro
theorem hd.tw11893437276241958245 : True := True.intro
theorem hd.tw12399718760709695909 : True := True.intro
theorem hd.tw1847840615245081061 : True := True.intro
theorem hd.tw9942979801534940709 : True := True.intro
theorem hd.tw15790720579355451973 : True := True.intro
theorem hd.tw11251137523995926341 : True := True.intro
theorem hd.tw6438293893037913957 : True := True.intro
theorem hd.tw6555240042291301478 : True := True.intro
theorem hd.tw13181700845877081190 : True := True.intro
theorem hd.tw8268277133935991078 : True := True.intro
theorem hd.tw16211521421427940678 : True := True.intro
theorem hd.tw212345690472687942 : True := True.intro
theorem hd.tw991583007596301734 : True := True.intro
theorem hd.tw2386827423013361158 : True := True.intro
theorem hd.tw3795277891434052102 : True := True.intro
theorem hd.tw10424393626065333798 : True := True.intro
theorem hd.tw17258206423299326598 : True := True.intro
theorem hd.tw2195365466389143174 : True := True.intro
theorem hd.tw13903934854276604550 : True := True.intro
theorem hd.tw1865391376527767206 : True := True.intro
theorem hd.tw4993660671451451078 : True := True.intro
theorem hd.tw1506431575118746342 : True := True.intro
theorem hd.tw8990313861142287110 : True := True.intro
theorem hd.tw9386895884608548742 : True := True.intro
theorem hd.tw8934143017859847078 : True := True.intro
theorem hd.tw1589133516308662214 : True := True.intro
theorem hd.tw5978321128707920903 : True := True.intro
theorem hd.tw17893044597097874663 : True := True.intro
theorem hd.tw15683763237869141255 : True := True.intro
theorem hd.tw17062030032774818151 : True := True.intro
theorem hd.tw8977307856219701671 : True := True.intro
theorem hd.tw5635641802508607975 : True := True.intro
theorem hd.tw3109861748172591687 : True := True.intro
theorem hd.tw9557236495431379559 : True := True.intro
theorem hd.tw12901994302517312135 : True := True.intro
theorem hd.tw11660266114150955751 : True := True.intro
theorem hd.tw7068711184596962023 : True := True.intro
theorem hd.tw5054737718236178183 : True := True.intro
theorem hd.tw8960069828448710407 : True := True.intro
theorem hd.tw17672654358674132775 : True := True.intro
theorem hd.tw7028611270464810887 : True := True.intro
theorem hd.tw701787995468756871 : True := True.intro
theorem hd.tw8545014587354053640 : True := True.intro
theorem hd.tw8671608845466749128 : True := True.intro
theorem hd.tw10246146449241189800 : True := True.intro
theorem hd.tw16920754564084929960 : True := True.intro
theorem hd.tw12307468782608717224 : True := True.intro
theorem hd.tw12949589719889679912 : True := True.intro
theorem hd.tw14457593812595234344 : True := True.intro
theorem hd.tw6038821095411175016 : True := True.intro
theorem hd.tw2708950531961675432 : True := True.intro
theorem hd.tw4297731678662094536 : True := True.intro
theorem hd.tw17975533764899295144 : True := True.intro
theorem hd.tw4870687313549177768 : True := True.intro
theorem hd.tw3259873300814134281 : True := True.intro
theorem hd.tw16448752775317648489 : True := True.intro
theorem hd.tw18166333605607142505 : True := True.intro
theorem hd.tw4225703048834024713 : True := True.intro
theorem hd.tw8824441977032169737 : True := True.intro
theorem hd.tw14906377314874228009 : True := True.intro
theorem hd.tw3350844169311001129 : True := True.intro
theorem hd.tw9566141503761928105 : True := True.intro
theorem hd.tw5148922909946612681 : True := True.intro
theorem hd.tw18264374347568628810 : True := True.intro
theorem hd.tw15042006015671813226 : True := True.intro
theorem hd.tw13217225542625558698 : True := True.intro
theorem hd.tw7120233287515763914 : True := True.intro
theorem hd.tw5416991563250132298 : True := True.intro
theorem hd.tw16794629799341752650 : True := True.intro
theorem hd.tw17447410573909459338 : True := True.intro
theorem hd.tw10603584201595350602 : True := True.intro
theorem hd.tw6528754448969337418 : True := True.intro
theorem hd.tw4360684699965382250 : True := True.intro
theorem hd.tw12410138535482941034 : True := True.intro
theorem hd.tw10170382586518783626 : True := True.intro
theorem hd.tw12487502673411948298 : True := True.intro
theorem hd.tw12112201142124510154 : True := True.intro
theorem hd.tw4478964076566166474 : True := True.intro
theorem hd.tw11128854368766332075 : True := True.intro
theorem hd.tw13277076834127875243 : True := True.intro
theorem hd.tw3443669649825651883 : True := True.intro
theorem hd.tw11917015161858427179 : True := True.intro
theorem hd.tw9170477692918782315 : True := True.intro
theorem hd.tw10030107230732127627 : True := True.intro
theorem hd.tw17054507655720011243 : True := True.intro
theorem hd.tw9741134391959003819 : True := True.intro
theorem hd.tw15089522573102190283 : True := True.intro
theorem hd.tw10743916045514856203 : True := True.intro
theorem hd.tw9748044761591592747 : True := True.intro
theorem hd.tw8727321023445011275 : True := True.intro
theorem hd.tw2999033326186475339 : True := True.intro
theorem hd.tw8716120427605611371 : True := True.intro
theorem hd.tw6196171512934965099 : True := True.intro
theorem hd.tw978945382295711627 : True := True.intro
theorem hd.tw6264232113106981867 : True := True.intro
theorem hd.tw4315991029959535628 : True := True.intro
theorem hd.tw1836080755315867724 : True := True.intro
theorem hd.tw12647368939536790636 : True := True.intro
theorem hd.tw16299908979028503884 : True := True.intro
theorem hd.tw12092154237167983948 : True := True.intro
theorem hd.tw2930668341846507884 : True := True.intro
theorem hd.tw17711083657039698284 : True := True.intro
theorem hd.tw5130813555471234732 : True := True.intro
theorem hd.tw18185175575083235020 : True := True.intro
theorem hd.tw17948085552500728524 : True := True.intro
theorem hd.tw8324504678176258764 : True := True.intro
theorem hd.tw12588582704262371052 : True := True.intro
theorem hd.tw15368132723985388332 : True := True.intro
theorem hd.tw12023040214023829324 : True := True.intro
theorem hd.tw16171809288044610508 : True := True.intro
theorem hd.tw15837987909243819085 : True := True.intro
theorem hd.tw1409312971732116557 : True := True.intro
theorem hd.tw13321331477185743149 : True := True.intro
theorem hd.tw16345102440705955213 : True := True.intro
theorem hd.tw8457440626546761165 : True := True.intro
theorem hd.tw4377701919642642989 : True := True.intro
theorem hd.tw16828841361933241965 : True := True.intro
theorem hd.tw5036846961687405229 : True := True.intro
theorem hd.tw16240987189780228909 : True := True.intro
theorem hd.tw17606422857730326317 : True := True.intro
theorem hd.tw10614716105012338702 : True := True.intro
theorem hd.tw14294001040229213422 : True := True.intro
theorem hd.tw17311223219408574766 : True := True.intro
theorem hd.tw3429492842335990350 : True := True.intro
theorem hd.tw16722109127936396110 : True := True.intro
theorem hd.tw14553816603554493358 : True := True.intro
theorem hd.tw1452849714261714991 : True := True.intro
theorem hd.tw15616948245753086127 : True := True.intro
theorem hd.tw2442259710966052079 : True := True.intro
theorem hd.tw8117722118643159343 : True := True.intro
theorem hd.tw6082411064634330575 : True := True.intro
theorem hd.tw3493717111155160527 : True := True.intro
theorem hd.tw3759623122121258479 : True := True.intro
theorem hd.tw12631932088317031055 : True := True.intro
theorem hd.tw5987830557187376847 : True := True.intro
theorem hd.tw6990203504111849199 : True := True.intro
theorem hd.tw2101469004524951375 : True := True.intro
theorem hd.tw11319892378374348655 : True := True.intro
theorem hd.tw9657781627882305391 : True := True.intro
theorem hd.tw13315533130655954831 : True := True.intro
theorem hd.tw8879563391730754479 : True := True.intro
theorem hd.tw16649331688326792143 : True := True.intro
theorem hd.tw10111801491309104144 : True := True.intro
theorem hd.tw402640490398009360 : True := True.intro
theorem hd.tw16011055738799735888 : True := True.intro
theorem hd.tw10216474801634566288 : True := True.intro
theorem hd.tw7891253978561527248 : True := True.intro
theorem hd.tw16853341256802265648 : True := True.intro
theorem hd.tw4856431653887292112 : True := True.intro
theorem hd.tw13518370688599389936 : True := True.intro
theorem hd.tw15595854959937240912 : True := True.intro
theorem hd.tw12614811148066621264 : True := True.intro
theorem hd.tw12788953048727824401 : True := True.intro
theorem hd.tw13790719812936386609 : True := True.intro
theorem hd.tw15527848837575444561 : True := True.intro
theorem hd.tw17213754286329925777 : True := True.intro
theorem hd.tw432457690288141553 : True := True.intro
theorem hd.tw14705683404202351889 : True := True.intro
theorem hd.tw17903497710992402801 : True := True.intro
theorem hd.tw16634568088961857937 : True := True.intro
theorem hd.tw15852365999677673905 : True := True.intro
theorem hd.tw16056359734778111409 : True := True.intro
theorem hd.tw7082855905992002993 : True := True.intro
theorem hd.tw3828038474966422129 : True := True.intro
theorem hd.tw12113243949977362033 : True := True.intro
theorem hd.tw8117029840178788049 : True := True.intro
theorem hd.tw6545403380812914513 : True := True.intro
theorem hd.tw2391449824757734642 : True := True.intro
theorem hd.tw8025032847418708242 : True := True.intro
theorem hd.tw9641152695372364146 : True := True.intro
theorem hd.tw15166520500009309586 : True := True.intro
theorem hd.tw9499510787657705874 : True := True.intro
theorem hd.tw7754304195085646258 : True := True.intro
theorem hd.tw5366084841770067474 : True := True.intro
theorem hd.tw2167537188350426706 : True := True.intro
theorem hd.tw1580110805410547442 : True := True.intro
theorem hd.tw14560493823538711346 : True := True.intro
theorem hd.tw10525666975642140466 : True := True.intro
theorem hd.tw6293948785866598258 : True := True.intro
theorem hd.tw12629568148972539762 : True := True.intro
theorem hd.tw7296583596125217682 : True := True.intro
theorem hd.tw8112040973832200146 : True := True.intro
theorem hd.tw1097998534492414930 : True := True.intro
theorem hd.tw15083628210047938546 : True := True.intro
theorem hd.tw12486720848796965907 : True := True.intro
theorem hd.tw10601615944963115059 : True := True.intro
theorem hd.tw5567388512258382067 : True := True.intro
theorem hd.tw5657824000916062451 : True := True.intro
theorem hd.tw7289634563603522867 : True := True.intro
theorem hd.tw16945582573551092051 : True := True.intro
theorem hd.tw1382963296337349011 : True := True.intro
theorem hd.tw16432713993328977331 : True := True.intro
theorem hd.tw5363564295841288755 : True := True.intro
theorem hd.tw11151547217846952531 : True := True.intro
theorem hd.tw18103342009636024947 : True := True.intro
theorem hd.tw4115565904173853331 : True := True.intro
theorem hd.tw3008623586974134963 : True := True.intro
theorem hd.tw16640546478005224243 : True := True.intro
theorem hd.tw4015398097383911347 : True := True.intro
theorem hd.tw13409441903868389331 : True := True.intro
theorem hd.tw17387984336315359219 : True := True.intro
theorem hd.tw8789358453043137523 : True := True.intro
theorem hd.tw4851647983119433812 : True := True.intro
theorem hd.tw15529170255622000948 : True := True.intro
theorem hd.tw6164396464334811476 : True := True.intro
theorem hd.tw7540655947842036084 : True := True.intro
theorem hd.tw15422856539912107476 : True := True.intro
theorem hd.tw6998783941825042932 : True := True.intro
theorem hd.tw7366208706002141716 : True := True.intro
theorem hd.tw18293732401869909652 : True := True.intro
theorem hd.tw1997569388931296116 : True := True.intro
theorem hd.tw17542962492245011380 : True := True.intro
theorem hd.tw1439246655266547700 : True := True.intro
theorem hd.tw6598312636042714100 : True := True.intro
theorem hd.tw11162318198679636149 : True := True.intro
theorem hd.tw13225837485096350037 : True := True.intro
theorem hd.tw6442067068224118133 : True := True.intro
theorem hd.tw14103535550066685397 : True := True.intro
theorem hd.tw2608437505485318709 : True := True.intro
theorem hd.tw17673860158736603733 : True := True.intro
theorem hd.tw12173100003817136821 : True := True.intro
theorem hd.tw7494724483528729301 : True := True.intro
theorem hd.tw15508949281206285077 : True := True.intro
theorem hd.tw13609717118414637909 : True := True.intro
theorem hd.tw13483081372092288885 : True := True.intro
theorem hd.tw9427301549700849589 : True := True.intro
theorem hd.tw6820862383352777685 : True := True.intro
theorem hd.tw6291416237084387574 : True := True.intro
theorem hd.tw8343274005884668182 : True := True.intro
theorem hd.tw1413172679324656950 : True := True.intro
theorem hd.tw16473244170626142550 : True := True.intro
theorem hd.tw3452082135128663414 : True := True.intro
theorem hd.tw11213053971927718326 : True := True.intro
theorem hd.tw17420951861521290806 : True := True.intro
theorem hd.tw1011335219593555734 : True := True.intro
theorem hd.tw8428860471423672150 : True := True.intro
theorem hd.tw6184460063843016694 : True := True.intro
theorem hd.tw15367242080415987702 : True := True.intro
theorem hd.tw15615537253650120727 : True := True.intro
theorem hd.tw2216850387143573719 : True := True.intro
theorem hd.tw16970440968685349367 : True := True.intro
theorem hd.tw3442329435671937591 : True := True.intro
theorem hd.tw13783031573616600631 : True := True.intro
theorem hd.tw16064382804478563927 : True := True.intro
theorem hd.tw15416985209724490359 : True := True.intro
theorem hd.tw11402939732021071671 : True := True.intro
theorem hd.tw307737655149646647 : True := True.intro
theorem hd.tw3381375190539634487 : True := True.intro
theorem hd.tw10879034167726328663 : True := True.intro
theorem hd.tw11389486352061984695 : True := True.intro
theorem hd.tw11136197038861592535 : True := True.intro
theorem hd.tw9345676750909349944 : True := True.intro
theorem hd.tw18300207936620678264 : True := True.intro
theorem hd.tw5562173858411828344 : True := True.intro
theorem hd.tw17650839729002327288 : True := True.intro
theorem hd.tw18093812233618175256 : True := True.intro
theorem hd.tw2274498078352570744 : True := True.intro
theorem hd.tw15759970867653108152 : True := True.intro
theorem hd.tw13866372431405929976 : True := True.intro
theorem hd.tw26425463804135960 : True := True.intro
theorem hd.tw13267510147771200024 : True := True.intro
theorem hd.tw14176624398918483544 : True := True.intro
theorem hd.tw10727248033764811480 : True := True.intro
theorem hd.tw8770205317985620760 : True := True.intro
theorem hd.tw4065347644161347641 : True := True.intro
theorem hd.tw728884934406724761 : True := True.intro
theorem hd.tw18291419657060728153 : True := True.intro
theorem hd.tw15411387601460861337 : True := True.intro
theorem hd.tw1222794163293265305 : True := True.intro
theorem hd.tw10784824025267889561 : True := True.intro
theorem hd.tw11054480109507316185 : True := True.intro
theorem hd.tw3953601041324332601 : True := True.intro
theorem hd.tw16772102934027710169 : True := True.intro
theorem hd.tw17574625026820762457 : True := True.intro
theorem hd.tw17330945745186091897 : True := True.intro
theorem hd.tw6982297934935202809 : True := True.intro
theorem hd.tw22551697357593593 : True := True.intro
theorem hd.tw17047115858639842297 : True := True.intro
theorem hd.tw5902613922787404954 : True := True.intro
theorem hd.tw11953376511379268794 : True := True.intro
theorem hd.tw15673258824015622330 : True := True.intro
theorem hd.tw541196102884509978 : True := True.intro
theorem hd.tw12050417470231563642 : True := True.intro
theorem hd.tw2114630138375439770 : True := True.intro
theorem hd.tw464777395874653626 : True := True.intro
theorem hd.tw6868836192036940282 : True := True.intro
theorem hd.tw9421340871869096474 : True := True.intro
theorem hd.tw1600037746751723098 : True := True.intro
theorem hd.tw5373601922739893978 : True := True.intro
theorem hd.tw14960593345356199642 : True := True.intro
theorem hd.tw11232374478483605306 : True := True.intro
theorem hd.tw11652457597714270106 : True := True.intro
theorem hd.tw13372043803930879067 : True := True.intro
theorem hd.tw11032806212648032379 : True := True.intro
theorem hd.tw15103106377680225435 : True := True.intro
theorem hd.tw14353793391729792155 : True := True.intro
theorem hd.tw14478148883734587675 : True := True.intro
theorem hd.tw6767318904944593275 : True := True.intro
theorem hd.tw10024716035694756283 : True := True.intro
theorem hd.tw13828106393651249627 : True := True.intro
theorem hd.tw16007149819294483003 : True := True.intro
theorem hd.tw2068664650715991707 : True := True.intro
theorem hd.tw13653084951223439035 : True := True.intro
theorem hd.tw9719896912496429819 : True := True.intro
theorem hd.tw17177331786930743035 : True := True.intro
theorem hd.tw461538923250603899 : True := True.intro
theorem hd.tw15642763164714097627 : True := True.intro
theorem hd.tw13770079208771991547 : True := True.intro
theorem hd.tw11319097763535126812 : True := True.intro
theorem hd.tw395138700845864316 : True := True.intro
theorem hd.tw15615420239508185596 : True := True.intro
theorem hd.tw16091413853298234908 : True := True.intro
theorem hd.tw7085514621470718492 : True := True.intro
theorem hd.tw2887051446865420828 : True := True.intro
theorem hd.tw3451239065008710300 : True := True.intro
theorem hd.tw17599816209265215132 : True := True.intro
theorem hd.tw2327210489368252092 : True := True.intro
theorem hd.tw2252305205657439004 : True := True.intro
theorem hd.tw4402725079659364252 : True := True.intro
theorem hd.tw11117797201346649052 : True := True.intro
theorem hd.tw17986969038992634876 : True := True.intro
theorem hd.tw18219297243305740317 : True := True.intro
theorem hd.tw922143313871775805 : True := True.intro
theorem hd.tw17714235663813219645 : True := True.intro
theorem hd.tw16868993833207775613 : True := True.intro
theorem hd.tw6924109203229866365 : True := True.intro
theorem hd.tw10792051664901133789 : True := True.intro
theorem hd.tw5608270528595127837 : True := True.intro
theorem hd.tw7763873220885509757 : True := True.intro
theorem hd.tw3646829019195819677 : True := True.intro
theorem hd.tw15967140613478806237 : True := True.intro
theorem hd.tw8226494294326810461 : True := True.intro
theorem hd.tw15833661619300960221 : True := True.intro
theorem hd.tw9277588360372424766 : True := True.intro
theorem hd.tw3182187488490625086 : True := True.intro
theorem hd.tw16194383521188589630 : True := True.intro
theorem hd.tw11631869004601391166 : True := True.intro
theorem hd.tw9673543361469618366 : True := True.intro
theorem hd.tw6123773746684550334 : True := True.intro
theorem hd.tw6838551448383532254 : True := True.intro
theorem hd.tw16259696140248634718 : True := True.intro
theorem hd.tw4172343393113369950 : True := True.intro
theorem hd.tw17681399029576232318 : True := True.intro
theorem hd.tw13431754692932380062 : True := True.intro
theorem hd.tw17901334829092211166 : True := True.intro
theorem hd.tw17739348878880393726 : True := True.intro
theorem hd.tw2329189449893159454 : True := True.intro
theorem hd.tw9763420282994701918 : True := True.intro
theorem hd.tw7510230149288206974 : True := True.intro
theorem hd.tw2290457801724958494 : True := True.intro
theorem hd.tw8047900516022102942 : True := True.intro
theorem hd.tw14620637471214046174 : True := True.intro
theorem hd.tw14955159897011116063 : True := True.intro
theorem hd.tw6931407450589930559 : True := True.intro
theorem hd.tw12070051907170230399 : True := True.intro
theorem hd.tw3530705653197291679 : True := True.intro
theorem hd.tw4478166936697009375 : True := True.intro
theorem hd.tw14400467628812073631 : True := True.intro
theorem hd.tw3309697970292668127 : True := True.intro
theorem hd.tw7519716089354478335 : True := True.intro
theorem hd.tw7534810595384694156 : True := True.intro
theorem with_hole {T G : Prop} (_ : T) (g : G) : G := g
set_option Elab.async true in
set_option maxRecDepth 100000 in
set_option maxHeartbeats 8000000 in
theorem hd : True := True.intro
where
  top : _ → PySem.Challenge.rw_on0371_01.Holds := by
    intro walk
    refine with_hole (T := type_of% walk) ?hc ?main
    case main => (w_on; o_law; k_head; (case hw => w_witness2))
    case hc => exact walk
section
abbrev Led := List (Addr × Obj)
abbrev tupO (its : Array Value) (n : Nat) : Obj := { cls := .type "tuple", data := .seq its n }

/-- a call's contract: the ledger stands as said, what comes back is said of it -/
structure CC (w : World) (f : Addr) (vs : List Value) (k : Nat) (news : Led) (Post : Led → Value → Prop) : Prop where
  go : ∀ {p : Program} {loose : List Str} {mean : ExcName → Option Value} {mg mb : Str → Option Value} {dp un : Nat} {gd : Option (List Code)} {cn : Str} {cs : Scope} {a : Addr} {ccd : Value} {cl : List (Str × Addr)} {outer : List Env} {A₀ : Around} {base h₀ : Heap} {L : Addr} {m : Str → Option Value} {s : Shared} {Q E : Value → Shared → Prop},
    Below A₀ base outer h₀ → Fr h₀ L s.heap m → (hd.heap_1_39 w.params).In h₀ → News h₀ L s.heap news → Top p loose mean mg mb h₀ → cs.kind = .function →
    dp + k < recursionLimit → un + 8 * k < cLine →
    (∀ (v : Value) (news' : Led) (h' : Heap) (tk' : Nat), Fr h₀ L h' m → News h₀ L h' news' → Post news' v → Q v { s with heap := h', toks := tk' }) →
    wpAny (model PySem.Challenge.rw_on0371_01.prog w) (ktrTop dp un gd cn cs L a ccd cl outer) (call (.ref f) vs) Q E s
theorem cc_go {w : World} {f : Addr} {vs : List Value} {k : Nat} {news : Led} {Post : Led → Value → Prop} (C : CC w f vs k news Post)
  {p : Program} {loose : List Str} {mean : ExcName → Option Value} {mg mb : Str → Option Value} {dp un : Nat} {gd : Option (List Code)} {cn : Str} {cs : Scope} {a : Addr} {ccd : Value} {cl : List (Str × Addr)} {outer : List Env} {A₀ : Around} {base h₀ : Heap} {L : Addr} {m : Str → Option Value} {s : Shared} {Q E : Value → Shared → Prop}
  (ret : ∀ (v : Value) (news' : Led) (h' : Heap) (tk' : Nat), Fr h₀ L h' m → News h₀ L h' news' → Post news' v → Q v { s with heap := h', toks := tk' })
  (F : Fr h₀ L s.heap m) (N : News h₀ L s.heap news) (B : Below A₀ base outer h₀) (X : (hd.heap_1_39 w.params).In h₀) (T : Top p loose mean mg mb h₀) (hk : cs.kind = .function)
  (hd : dp + k < recursionLimit) (hu : un + 8 * k < cLine) :
    wpAny (model PySem.Challenge.rw_on0371_01.prog w) (ktrTop dp un gd cn cs L a ccd cl outer) (call (.ref f) vs) Q E s :=
  C.go B F X N T hk hd hu ret

theorem cc_goI {wz : World} {fz : Addr} {vz : List Value} {kz : Nat} {ledz : Led} {led : Led} {c : Int} (Cz : CC wz fz vz kz ledz (fun news' v => led = news' ∧ ∃ t, v = .int c t))
  {pz : Program} {lz : List Str} {mnz : ExcName → Option Value} {mgz mbz : Str → Option Value} {dpz unz : Nat} {gdz : Option (List Code)} {cnz : Str} {csz : Scope} {az : Addr} {cdz : Value} {clz : List (Str × Addr)} {otz : List Env} {A₀ : Around} {basez h₀ : Heap} {Lz : Addr} {mz : Str → Option Value} {sz : Shared} {Qz Ez : Value → Shared → Prop}
  (ret : ∀ (t : Tok) (hz : Heap) (tkz : Nat), Fr h₀ Lz hz mz → News h₀ Lz hz led → Qz (.int c t) { sz with heap := hz, toks := tkz })
  (F : Fr h₀ Lz sz.heap mz) (N : News h₀ Lz sz.heap ledz) (B : Below A₀ basez otz h₀) (X : (hd.heap_1_39 wz.params).In h₀) (T : Top pz lz mnz mgz mbz h₀) (hk : csz.kind = .function)
  (hd : dpz + kz < recursionLimit) (hu : unz + 8 * kz < cLine) :
    wpAny (model PySem.Challenge.rw_on0371_01.prog wz) (ktrTop dpz unz gdz cnz csz Lz az cdz clz otz) (call (.ref fz) vz) Qz Ez sz := by
  refine cc_go Cz (fun v news9 h9 tk9 F9 N9 P9 => ?_) F N B X T hk hd hu
  obtain ⟨rfl, t, rfl⟩ := P9
  exact ret t h9 tk9 F9 N9
theorem cc_goE {wz : World} {fz : Addr} {vz : List Value} {kz : Nat} {ledz led : Led} {y : Value} (Cz : CC wz fz vz kz ledz (fun news' v => led = news' ∧ y = v))
  {pz : Program} {lz : List Str} {mnz : ExcName → Option Value} {mgz mbz : Str → Option Value} {dpz unz : Nat} {gdz : Option (List Code)} {cnz : Str} {csz : Scope} {az : Addr} {cdz : Value} {clz : List (Str × Addr)} {otz : List Env} {A₀ : Around} {basez h₀ : Heap} {Lz : Addr} {mz : Str → Option Value} {sz : Shared} {Qz Ez : Value → Shared → Prop}
  (ret : ∀ (hz : Heap) (tkz : Nat), Fr h₀ Lz hz mz → News h₀ Lz hz led → Qz y { sz with heap := hz, toks := tkz })
  (F : Fr h₀ Lz sz.heap mz) (N : News h₀ Lz sz.heap ledz) (B : Below A₀ basez otz h₀) (X : (hd.heap_1_39 wz.params).In h₀) (T : Top pz lz mnz mgz mbz h₀) (hk : csz.kind = .function)
  (hd : dpz + kz < recursionLimit) (hu : unz + 8 * kz < cLine) :
    wpAny (model PySem.Challenge.rw_on0371_01.prog wz) (ktrTop dpz unz gdz cnz csz Lz az cdz clz otz) (call (.ref fz) vz) Qz Ez sz := by
  refine cc_go Cz (fun v news9 h9 tk9 F9 N9 P9 => ?_) F N B X T hk hd hu
  obtain ⟨rfl, rfl⟩ := P9
  exact ret h9 tk9 F9 N9
/-- the end of a turn: the iterator stands, the rest is as the state says -/
inductive MEnd (h₀ : Heap) (L I : Addr) (oI : Obj) (Jn : (Str → Option Value) → Led → Prop) (s₁ s₂ : Shared) : Prop
  | mk (h' : _) (tk : _) (m' : _) (nx : _) (q1 : s₂ = { s₁ with heap := h', toks := tk }) (q2 : Fr h₀ L h' m') (q3 : News h₀ L h' ((I, oI) :: nx)) (q4 : (∀ p ∈ nx, p.1 ≠ I)) (q5 : Jn m' nx) : MEnd h₀ L I oI Jn s₁ s₂
def MPost (h₀ : Heap) (L I : Addr) (oI : Obj) (Jn : (Str → Option Value) → Led → Prop) (s₁ : Shared) (Q : Flow → Shared → Prop) (f : Flow) (s₂ : Shared) : Prop :=
  match f with
  | .ret v => Q (.ret v) s₂
  | .brk => Q .next s₂
  | _ => MEnd h₀ L I oI Jn s₁ s₂

section
variable {prog : Program} {w : World} {A : Around} {E : Value → Shared → Prop} {s : Shared} {env : Env} {h₀ : Heap} {x : Str} {body : List Stmt} {Q : Flow → Shared → Prop}

theorem mloop {I : Addr} {fp : List Addr} {n : Nat} {P : Nat → Value → Prop} {St : Nat → Heap → Prop} {m₀ : Str → Option Value} {news : Led}
    (J : Nat → (Str → Option Value) → Led → Prop) (W : Walks prog w A I fp [I] n P St)
    (hob : ∀ i h, St i h → ∃ o, h.get? I = some o) (hfp : ∀ b ∈ fp, b = I ∨ ∃ o, ∀ i m nx, J i m nx → (b, o) ∈ nx)
    (hLf : env.locals ∉ fp) (hI0 : h₀.get? I = none) (hnI : ∀ p ∈ news, p.1 ≠ I) (hst : St 0 s.heap) (F : Fr h₀ env.locals s.heap m₀) (N : News h₀ env.locals s.heap news) (h0 : J 0 m₀ news)
    (turn : ∀ (oI : Obj) i v m₁ news₁ h tk, i < n → P i v → J i m₁ news₁ → (∀ p ∈ news₁, p.1 ≠ I) → Fr h₀ env.locals h (fun y => if y = x then some v else m₁ y) → News h₀ env.locals h ((I, oI) :: news₁) →
      wpAny (model prog w) A (execs body env) (MPost h₀ env.locals I oI (J (i + 1)) { s with heap := h, toks := tk } Q) E { s with heap := h, toks := tk })
    (done : ∀ m₁ news₁ h tk, J n m₁ news₁ → Fr h₀ env.locals h m₁ → News h₀ env.locals h news₁ → Q .next { s with heap := h, toks := tk }) :
    LoopAtV prog w A h₀ env x body Q E (.ref I) s := by
  have hIf : I ∈ fp := W.sub I (.head _)
  refine ⟨I, fp, [I], n, P, St, m₀, news, J, rfl, W, hLf, fun b hb => by rw [List.mem_singleton.mp hb]; exact hI0, fun p hp q => hnI p hp (List.mem_singleton.mp q), hst, F, N, h0, ?_, ?_⟩
  · rintro i v m₁ news₁ s₁ own ⟨hh', tk', rfl⟩ hin hP hJ hoff hown hget hall hst' F₁ N₁
    have hne : ∀ p ∈ news₁, p.1 ≠ I := fun p hp e => hoff p hp (List.mem_singleton.mpr e)
    obtain ⟨o, ho⟩ := hob _ _ hst'
    have hio : (I, o) ∈ own := hall I hIf hI0 o ho
    have N₂ : News h₀ env.locals hh' ((I, o) :: news₁) := by
      intro p hp
      rcases List.mem_cons.mp hp with e | hp
      · rw [e]; exact N₁ _ (List.mem_append_left _ hio)
      · exact N₁ _ (List.mem_append_right _ hp)
    refine wpAny_mono (turn o i v m₁ news₁ hh' tk' hin hP hJ hne F₁ N₂) (fun f s₂ q => ?_) fun _ _ e => e
    have fin : MEnd h₀ env.locals I o (J (i + 1)) { s with heap := hh', toks := tk' } s₂ → LoopStepU h₀ env.locals [I] own (J (i + 1)) { s with heap := hh', toks := tk' } .next s₂ := by
      rintro ⟨h', tk, m', nx, e, F', N', hn', hJ'⟩
      refine ⟨rfl, h', tk, m', nx, e, F', ?_, fun p hp q => hn' p hp (List.mem_singleton.mp q), hJ'⟩
      intro p hp
      rcases List.mem_append.mp hp with hp | hp
      · rcases hfp p.1 (hown p hp) with e1 | ⟨o', ho'⟩
        · have : p = (I, o) := by
            have h4 := hget p hp
            rw [e1] at h4
            exact Prod.ext e1 (Option.some.inj (h4.symm.trans ho))
          rw [this]; exact N' _ (.head _)
        · have h1 := (N₁ _ (List.mem_append_right _ (ho' i m₁ news₁ hJ))).1
          have h2 := hget p hp
          have : p = (p.1, o') := Prod.ext rfl (Option.some.inj (h2.symm.trans h1))
          rw [this]
          exact N' _ (.tail _ (ho' _ _ _ hJ'))
      · exact N' _ (.tail _ hp)
    cases f with
    | ret v => exact .ret q
    | brk => exact .brk q
    | next => exact .next (fin q)
    | cont => exact .cont (fin q)
  · rintro h' tk m' news' F' N' _ hJ
    exact done m' news' h' tk hJ F' N'

/-- what a turn knows: the state's letters c, its ledger Led c, its names ps c; P i c said of them -/
inductive MJ {σ : Type} (Led : σ → Led) (ps : σ → List (Str × Value)) (x : Str) (stored : List Str) (m₀ : Str → Option Value) (P : Nat → σ → Prop) (i : Nat) (m : Str → Option Value) (nx : List (Addr × Obj)) : Prop
  | mk (c : σ) (q1 : nx = Led c) (q2 : (∀ p ∈ ps c, m p.1 = some p.2)) (q3 : (∀ z, z ≠ x → (∀ p ∈ ps c, z ≠ p.1) → stored.contains z = false → m z = m₀ z)) (q4 : P i c) : MJ Led ps x stored m₀ P i m nx

theorem mfor {σ : Type} {l : Addr} {vs : Array Value} {nn : Nat} {m₀ : Str → Option Value} (Led : σ → Led) (ps : σ → List (Str × Value)) (stored : List Str) (P : Nat → σ → Prop) (c₀ : σ)
    (hh : A.handled = none) (hl : ∀ c, (l, listOf vs nn) ∈ Led c) (F : Fr h₀ env.locals s.heap m₀) (N : News h₀ env.locals s.heap (Led c₀)) (hk : ∀ p ∈ ps c₀, m₀ p.1 = some p.2) (hp : P 0 c₀)
    (turn : ∀ (I : Addr) (oI : Obj) (c : σ) i v (u : Str → Option Value) h tk, vs[i]? = some v → P i c → (∀ p ∈ Led c, p.1 ≠ I) →
      Fr h₀ env.locals h (fun y => if y = x then some v else kstB (fun z => if stored.contains z then u z else m₀ z) (ps c) y) → News h₀ env.locals h ((I, oI) :: Led c) →
      wpAny (model prog w) A (execs body env) (MPost h₀ env.locals I oI (MJ Led ps x stored m₀ P (i + 1)) { s with heap := h, toks := tk } Q) E { s with heap := h, toks := tk })
    (done : ∀ (c : σ) (u : Str → Option Value) h tk, P vs.size c → Fr h₀ env.locals h (fun y => if y = x then u y else kstB (fun z => if stored.contains z then u z else m₀ z) (ps c) y) → News h₀ env.locals h (Led c) → Q .next { s with heap := h, toks := tk }) :
    wpAny (model prog w) A (pyIter (.ref l)) (fun it s₂ => LoopAtV prog w A h₀ env x body Q E it s₂) E s := by
  have hol : s.heap.get? l = some (listOf vs nn) := (N _ (hl c₀)).1
  have hls : s.heap.IsList l vs := ⟨_, hol, rfl, nn, rfl⟩
  have hne : l ≠ s.heap.objs.size := Nat.ne_of_lt (Heap.lt_size hol)
  refine wpAny_pyIter_list hls ?_
  have W := Walks.list (prog := prog) (w := w) hh s.heap.objs.size l hne vs
  refine mloop (fun i m nx => MJ Led ps x stored m₀ P i m nx) W (fun i h st => ?_) ?_ ?_ (next_is_new F) ?_ ⟨⟨_, Heap.get?_push_size _ rfl, rfl, rfl⟩, hls.at fun o e => Heap.get?_push_of_some _ e⟩ (F.push _) (fun p hp => ⟨Heap.get?_push_of_some _ (N p hp).1, (N p hp).2⟩)
    ⟨c₀, rfl, hk, fun _ _ _ _ => rfl, hp⟩ ?_ ?_
  · obtain ⟨o, ho, _⟩ := st.1
    exact ⟨o, ho⟩
  · intro b hb
    rcases List.mem_cons.mp hb with e | hb
    · exact .inl e
    · refine .inr ⟨listOf vs nn, ?_⟩
      rintro i m nx ⟨c, rfl, _⟩
      rw [List.mem_singleton.mp hb]
      exact hl c
  · intro hm
    rcases List.mem_cons.mp hm with e | hm
    · exact absurd F.ns.lt (e ▸ Nat.lt_irrefl _)
    · exact (N _ (hl c₀)).2.1 ((List.mem_singleton.mp hm).symm)
  · intro p hp e
    exact absurd (Heap.lt_size (N p hp).1) (e ▸ Nat.lt_irrefl _)
  · rintro oI i v m₁ news₁ h tk hi hv ⟨c, rfl, h1, h2, hp'⟩ hne' F₁ N₁
    exact turn _ oI c i v m₁ h tk hv hp' hne' (kst_fr h1 h2 F₁) N₁
  · rintro m₁ news₁ h tk ⟨c, rfl, h1, h2, hp'⟩ F₁ N₁
    exact done c m₁ h tk hp' (kst_frOut h1 h2 F₁) N₁

theorem mend {σ : Type} {Led : σ → Led} {ps : σ → List (Str × Value)} {stored : List Str} {m₀ m' : Str → Option Value} {P : Nat → σ → Prop} {i : Nat} {I L : Addr} {oI : Obj} {news' : List (Addr × Obj)} {h' : Heap} {tk : Nat} {s₁ : Shared} (c : σ)
    (F : Fr h₀ L h' m') (N : News h₀ L h' news') (hI : (I, oI) ∈ news') (hn : ∀ p ∈ Led c, p ∈ news') (hne : ∀ p ∈ Led c, p.1 ≠ I) (hk : ∀ p ∈ ps c, m' p.1 = some p.2)
    (hr : ∀ z, z ≠ x → (∀ p ∈ ps c, z ≠ p.1) → stored.contains z = false → m' z = m₀ z) (hp : P i c) :
    MEnd h₀ L I oI (MJ Led ps x stored m₀ P i) s₁ { s₁ with heap := h', toks := tk } :=
  ⟨h', tk, m', Led c, rfl, F, fun p hp => by
    rcases List.mem_cons.mp hp with e | hp
    · rw [e]; exact N _ hI
    · exact N p (hn p hp), hne, c, rfl, hk, hr, hp⟩
end

/-- an item of a list at a place that is known -/
theorem m_item {prog : Program} {w : World} {A : Around} {E : Value → Shared → Prop} {s : Shared} {value slice : PySem.Expr} {l : Addr} {vs : List Value} {k : Int} {u : Tok} {v : Value} {Q : Value → Shared → Prop}
    (hl : s.heap.IsList l vs.toArray) (h0 : 0 ≤ k) (hhi : k < 2 ^ 63) (hx : vs[k.toNat]? = some v) (h : Q v s)
    (hs : subscripted slice false (.ref l) (.int k u) = operate [.ref l, .int k u] (getItem (.ref l) (.int k u)) := by with_unfolding_all rfl) :
    wpAny (model prog w) A (subscriptTail value slice (.ref l) (.int k u)) Q E s :=
  tail_any hl.typeIs slot_list_getitem.lookup (wpAny_getItem_list hl h0 hhi (by simpa using hx) h) hs

/-- a RangeMap's own dict -/
abbrev rmDict (w : World) (t1 t2 t3 : Tok) (n : Nat) (dflt : Value) (st va : Addr) : Obj :=
  dictOf [⟨PyData.keyHash w.params (Str.ofString "default"), .str (Str.ofString "default") t1, dflt⟩, ⟨PyData.keyHash w.params (Str.ofString "starts"), .str (Str.ofString "starts") t2, .ref st⟩, ⟨PyData.keyHash w.params (Str.ofString "values"), .str (Str.ofString "values") t3, .ref va⟩] n

/-- a loop over a written tuple or list, turn by turn -/
def MRest (prog : Program) (w : World) (A : Around) (E : Value → Shared → Prop) (env : Env) (h₀ : Heap) (x : Str) (body : List Stmt) (Q : Flow → Shared → Prop) (s : Shared) (e : Addr × Obj) : List Value → (Str → Option Value) → Led → Prop
  | [], m, nx => e ∈ nx ∧ ∀ h tk, Fr h₀ env.locals h m → News h₀ env.locals h nx → Q .next { s with heap := h, toks := tk }
  | v :: r, m, nx => e ∈ nx ∧ ∀ (I : Nat) (oI : Obj) h tk, (∀ p ∈ nx, p.1 ≠ I) → Fr h₀ env.locals h (fun y => if y = x then some v else m y) → News h₀ env.locals h ((I, oI) :: nx) →
      wpAny (model prog w) A (execs body env) (MPost h₀ env.locals I oI (MRest prog w A E env h₀ x body Q s e r) { s with heap := h, toks := tk } Q) E { s with heap := h, toks := tk }
section
variable {prog : Program} {w : World} {A : Around} {E : Value → Shared → Prop} {s : Shared} {env : Env} {h₀ : Heap} {x : Str} {body : List Stmt} {Q : Flow → Shared → Prop}
theorem munr_list {l : Addr} {vs : List Value} {nn : Nat} {m₀ : Str → Option Value} {news : Led} (hh : A.handled = none) (F : Fr h₀ env.locals s.heap m₀) (N : News h₀ env.locals s.heap news)
    (h : MRest prog w A E env h₀ x body Q s (l, listOf vs.toArray nn) vs m₀ news) (hm : (l, listOf vs.toArray nn) ∈ news) :
    wpAny (model prog w) A (pyIter (.ref l)) (fun it s₂ => LoopAtV prog w A h₀ env x body Q E it s₂) E s := by
  have hol : s.heap.get? l = some (listOf vs.toArray nn) := (N _ hm).1
  have hls : s.heap.IsList l vs.toArray := ⟨_, hol, rfl, nn, rfl⟩
  have hne : l ≠ s.heap.objs.size := Nat.ne_of_lt (Heap.lt_size hol)
  refine wpAny_pyIter_list hls ?_
  have W := Walks.list (prog := prog) (w := w) hh s.heap.objs.size l hne vs.toArray
  refine mloop (fun i m nx => MRest prog w A E env h₀ x body Q s (l, listOf vs.toArray nn) (vs.drop i) m nx) W (fun i h st => ?_) ?_ ?_ (next_is_new F) ?_ ⟨⟨_, Heap.get?_push_size _ rfl, rfl, rfl⟩, hls.at fun o e => Heap.get?_push_of_some _ e⟩ (F.push _) (fun p hp => ⟨Heap.get?_push_of_some _ (N p hp).1, (N p hp).2⟩)
    (by rw [List.drop_zero]; exact h) ?_ ?_
  · obtain ⟨o, ho, _⟩ := st.1
    exact ⟨o, ho⟩
  · intro b hb
    rcases List.mem_cons.mp hb with e | hb
    · exact .inl e
    · refine .inr ⟨listOf vs.toArray nn, fun i m nx hr => ?_⟩
      rw [List.mem_singleton.mp hb]
      revert hr
      cases vs.drop i with
      | nil => exact fun hr => hr.1
      | cons => exact fun hr => hr.1
  · intro hq
    rcases List.mem_cons.mp hq with e | hq
    · exact absurd F.ns.lt (e ▸ Nat.lt_irrefl _)
    · exact (N _ hm).2.1 ((List.mem_singleton.mp hq).symm)
  · intro p hp e
    exact absurd (Heap.lt_size (N p hp).1) (e ▸ Nat.lt_irrefl _)
  · intro oI i v m₁ news₁ h tk hi hv hr hne' F₁ N₁
    have hi' : i < vs.length := by simpa using hi
    have hv' : vs[i] = v := by
      have : vs[i]? = some v := by simpa using hv
      rw [List.getElem?_eq_getElem hi'] at this
      exact Option.some.inj this
    rw [List.drop_eq_getElem_cons hi', hv'] at hr
    exact hr.2 _ oI h tk hne' F₁ N₁
  · intro m₁ news₁ h tk hr F₁ N₁
    rw [List.drop_of_length_le (by simp)] at hr
    exact hr.2 h tk F₁ N₁
theorem munr_tup {l : Addr} {vs : List Value} {nn : Nat} {m₀ : Str → Option Value} {news : Led} (hh : A.handled = none) (F : Fr h₀ env.locals s.heap m₀) (N : News h₀ env.locals s.heap news)
    (h : MRest prog w A E env h₀ x body Q s (l, tupO vs.toArray nn) vs m₀ news) (hm : (l, tupO vs.toArray nn) ∈ news) :
    wpAny (model prog w) A (pyIter (.ref l)) (fun it s₂ => LoopAtV prog w A h₀ env x body Q E it s₂) E s := by
  have hol : s.heap.get? l = some (tupO vs.toArray nn) := (N _ hm).1
  have hls : s.heap.IsTuple l vs.toArray := ⟨_, hol, rfl, nn, rfl⟩
  have hne : l ≠ s.heap.objs.size := Nat.ne_of_lt (Heap.lt_size hol)
  refine wpAny_pyIter_tuple hls ?_
  have W := Walks.tuple (prog := prog) (w := w) hh s.heap.objs.size l hne vs.toArray
  refine mloop (fun i m nx => MRest prog w A E env h₀ x body Q s (l, tupO vs.toArray nn) (vs.drop i) m nx) W (fun i h st => ?_) ?_ ?_ (next_is_new F) ?_ ⟨⟨_, Heap.get?_push_size _ rfl, rfl, rfl⟩, hls.at fun o e => Heap.get?_push_of_some _ e⟩ (F.push _) (fun p hp => ⟨Heap.get?_push_of_some _ (N p hp).1, (N p hp).2⟩)
    (by rw [List.drop_zero]; exact h) ?_ ?_
  · obtain ⟨o, ho, _⟩ := st.1
    exact ⟨o, ho⟩
  · intro b hb
    rcases List.mem_cons.mp hb with e | hb
    · exact .inl e
    · refine .inr ⟨tupO vs.toArray nn, fun i m nx hr => ?_⟩
      rw [List.mem_singleton.mp hb]
      revert hr
      cases vs.drop i with
      | nil => exact fun hr => hr.1
      | cons => exact fun hr => hr.1
  · intro hq
    rcases List.mem_cons.mp hq with e | hq
    · exact absurd F.ns.lt (e ▸ Nat.lt_irrefl _)
    · exact (N _ hm).2.1 ((List.mem_singleton.mp hq).symm)
  · intro p hp e
    exact absurd (Heap.lt_size (N p hp).1) (e ▸ Nat.lt_irrefl _)
  · intro oI i v m₁ news₁ h tk hi hv hr hne' F₁ N₁
    have hi' : i < vs.length := by simpa using hi
    have hv' : vs[i] = v := by
      have : vs[i]? = some v := by simpa using hv
      rw [List.getElem?_eq_getElem hi'] at this
      exact Option.some.inj this
    rw [List.drop_eq_getElem_cons hi', hv'] at hr
    exact hr.2 _ oI h tk hne' F₁ N₁
  · intro m₁ news₁ h tk hr F₁ N₁
    rw [List.drop_of_length_le (by simp)] at hr
    exact hr.2 h tk F₁ N₁
theorem mrest_end {L I : Addr} {oI : Obj} {s₁ : Shared} {h' : Heap} {tk : Nat} {m' : Str → Option Value} {nx news' : Led} {Jn : (Str → Option Value) → Led → Prop} (F : Fr h₀ L h' m') (N : News h₀ L h' news') (hI : (I, oI) ∈ news') (hn : ∀ p ∈ nx, p ∈ news')
    (hne : ∀ p ∈ nx, p.1 ≠ I) (hJ : Jn m' nx) : MEnd h₀ L I oI Jn s₁ { s₁ with heap := h', toks := tk } :=
  ⟨h', tk, m', nx, rfl, F, fun p hp => by
    rcases List.mem_cons.mp hp with e | hp
    · rw [e]; exact N _ hI
    · exact N p (hn p hp), hne, hJ⟩
end
theorem ne_map {nx nx' : Led} {I : Addr} (hne : ∀ p ∈ nx', p.1 ≠ I) (h : nx'.map (·.1) = nx.map (·.1)) : ∀ p ∈ nx, p.1 ≠ I := fun p hp e => by
  have : p.1 ∈ nx'.map (·.1) := h ▸ List.mem_map_of_mem hp
  obtain ⟨q, hq, e'⟩ := List.mem_map.mp this
  exact hne q hq (e'.trans e)
end
section
theorem sub_cons {E : Type} {a : E} {l r : List E} (h : a ∈ r) (t : ∀ p ∈ l, p ∈ r) : ∀ p ∈ a :: l, p ∈ r := List.forall_mem_cons.mpr ⟨h, t⟩
theorem ne_cons {c x : Nat} {o : Obj} {l : List (Addr × Obj)} (h : @Ne Nat c x) (t : ∀ p ∈ l, p.1 ≠ x) : ∀ p ∈ (c, o) :: l, p.1 ≠ x := List.forall_mem_cons.mpr ⟨h, t⟩
theorem ne_nil {x : Nat} : ∀ p ∈ ([] : List (Addr × Obj)), p.1 ≠ x := fun _ h => nomatch h
theorem gen_tok {M : Model} {A : Around} {X : Type} {c : Sem X} {Q : X → Shared → Prop} {E : Value → Shared → Prop} {h : Heap} {g : Array GenState} {d : Drawn} {t : Nat} {os : OsState} (k : ∀ tk, wpAny M A c Q E ⟨h, g, d, tk, os⟩) : wpAny M A c Q E ⟨h, g, d, t + 1, os⟩ := k _
theorem rmA {a j k : Nat} (h : a + k < recursionLimit) (e : Nat.ble (1 + j) k = true) : a + 1 + j < recursionLimit := by
  have := Nat.le_of_ble_eq_true e
  omega
theorem rmB {a k : Nat} (h : a + k < recursionLimit) : a < recursionLimit := Nat.lt_of_le_of_lt (Nat.le_add_right _ _) h
theorem unA {a j k : Nat} (h : a + 8 * k < cLine) (e : Nat.ble (3 + j) (8 * k) = true) : a + 3 + j < cLine := by
  have := Nat.le_of_ble_eq_true e
  omega
theorem unC {a j k : Nat} (h : a + 8 * k < cLine) (e : Nat.ble j (8 * k) = true) : a + j < cLine := by
  have := Nat.le_of_ble_eq_true e
  omega
section
variable {prog : Program} {w : World} {A : Around} {E : Value → Shared → Prop} {s : Shared} {h₀ : Heap} {L : Addr} {m : Str → Option Value} {news : Led}
theorem m_sliceApplied {sl : Addr} {u : Tok} {Q : Int × Int × Nat → Shared → Prop} (hs : s.heap.IsSliceOf sl .none .none (.int (-1) u)) (h : Q (1, -1, 2) s) :
    wpAny (model prog w) A (Builtin.Slice.sliceApplied (.ref sl) (pure (2 : Int))) Q E s := by
  obtain ⟨os, hos, hcs, hds⟩ := id hs
  unfold Builtin.Slice.sliceApplied Builtin.Slice.sliceFields
  refine wpAny_bind (wpAny_bind (wpAny_field hos hds (x := .none) rfl (wpAny_bind (wpAny_field hos hds (x := .none) rfl (wpAny_bind (wpAny_field hos hds (x := .int (-1) u) rfl (wpAny_pure ?_)))))))
  refine wpAny_bind (slicePart_int ?_)
  show wpAny _ _ (if ((-1 : Int) == 0) = true then _ else _) _ _ s
  rw [if_neg (by decide)]
  exact wpAny_bind (slicePart_none (wpAny_bind (slicePart_none (wpAny_bind (wpAny_pure (wpAny_pure h))))))
theorem m_getItem_rev2 {t sl : Addr} {a b : Value} {u : Tok} {Q : Value → Shared → Prop} (ht : IsTup s.heap t #[a, b]) (hs : s.heap.IsSliceOf sl .none .none (.int (-1) u))
    (h : Q (.ref s.heap.objs.size) { s with heap := s.heap.push { cls := .type "tuple", data := .seq #[b, a] } }) : wpAny (model prog w) A (getItem (.ref t) (.ref sl)) Q E s := by
  have hdrop : sizeOk (.seq #[b, a]) := by
    show 2 ≤ sizeLine
    rw [sizeLine_eq]; omega
  obtain ⟨os, hos, hcs, hds⟩ := id hs
  have hTs : s.TypeIs (.ref sl) "slice" := ⟨os, hos, hcs⟩
  unfold getItem
  try with_reducible refine wpAny_holding ?_
  first | refine wpAny_bind (wpAny_pure ?_) | skip
  refine wpAny_bind (wpAny_sequenceKey ht.typeIs (by decide) ?_)
  refine wpAny_bind (wpAny_callSpecial?_slot (name := Str.ofString "__getitem__") ht.typeIs slot_tuple_getitem
    (wpAny_call_entry slot_tuple_getitem ht.typeIs entry_tuple_getitem ?_ (args_tuple_getitem _ _)))
  show wpAny _ _ (Builtin.Tuple.tupleItemsOf (.ref t) >>= _) _ _ s
  refine wpAny_bind (tupleItemsOf_ ht ?_)
  refine wpAny_bind (wpAny_typeOf hTs ?_)
  rw [if_pos (by decide)]
  refine wpAny_bind (m_sliceApplied hs ?_)
  show wpAny _ _ (if ((1 : Int) == 0 && (-1 : Int) == 1 && (2 : Nat) == 2) = true then _ else _) _ _ s
  rw [if_neg (by decide)]
  have e : ((List.range 2).filterMap fun (k : Nat) => (#[a, b] : Array Value)[((1 : Int) + (k : Int) * (-1)).toNat]?).toArray = #[b, a] := rfl
  first
    | exact wpAny_bind (m := Builtin.Tuple.tupleExact _) (wpAny_newObj_type (wpAny_pure ⟨_, rfl, wpAny_pure h⟩) hdrop)
    | exact wpAny_bind (m := Builtin.Tuple.tupleExact _) (wpAny_newObj_type (wpAny_bind (wpAny_pure (wpAny_pure ⟨_, rfl, wpAny_pure h⟩))) hdrop)
    | exact wpAny_bind (wpAny_bind (m := Builtin.Tuple.tupleExact _) (wpAny_newObj_type (wpAny_pure (wpAny_pure ⟨_, rfl, wpAny_pure h⟩)) hdrop))
    | exact wpAny_bind (wpAny_bind (m := Builtin.Tuple.tupleExact _) (wpAny_newObj_type (wpAny_pure ⟨_, rfl, wpAny_pure h⟩) hdrop))
theorem m_rev2 {value slice : Expr} {t : Addr} {a b : Value} {n : Nat} {u : Tok} {ops : List Value} {Q : Value → Shared → Prop}
    (F : Fr h₀ L s.heap m) (N : News h₀ L s.heap news) (hm : (t, tupO (List.toArray [a, b]) n) ∈ news)
    (h : ∀ D h', Fr h₀ L h' m → News h₀ L h' ((D, tupO (List.toArray [b, a]) 0) :: news) → (∀ p ∈ news, p.1 < D) → Q (.ref D) { s with heap := h' })
    (hs : subscripted slice false (.ref t) (.ref s.heap.objs.size) = operate ops (getItem (.ref t) (.ref s.heap.objs.size)) := by with_unfolding_all rfl)
    (hg : ∀ r, letTemporaryGo value (.ref t) r = pure () := by intro _; with_unfolding_all rfl) :
    wpAny (model prog w) A (subscriptTail value slice (.ref t) (.ref s.heap.objs.size)) Q E { s with heap := s.heap.push { cls := .type "slice", data := .fields #[.none, .none, .int (-1) u] } } := by
  have ht : IsTup s.heap t #[a, b] := ⟨_, (N _ hm).1, rfl, n, rfl⟩
  have ht' : IsTup (s.heap.push { cls := .type "slice", data := .fields #[.none, .none, .int (-1) u] }) t #[a, b] := ht.keeps fun _ _ e => Heap.get?_push_of_some _ e
  refine subscriptTail_ops (s := { s with heap := s.heap.push { cls := .type "slice", data := .fields #[.none, .none, .int (-1) u] } }) ht'.typeIs slot_tuple_getitem.lookup
    (m_getItem_rev2 ht' (Heap.IsSliceOf.new ..) ?_) hs hg
  have N1 := News.push (F.push { cls := .type "slice", data := .fields #[.none, .none, .int (-1) u] }) (N.grown fun _ _ e => Heap.get?_push_of_some _ e) { cls := .type "tuple", data := .seq #[b, a] }
  rw [Heap.size_push] at N1
  show Q (.ref (s.heap.push _).objs.size) _
  rw [Heap.size_push]
  exact h _ _ ((F.push _).push _) N1 fun p hp => Nat.lt_succ_of_lt (Heap.lt_size (N p hp).1)
end
theorem m_cmpNe {prog : Program} {w : World} {A : Around} {E : Value → Shared → Prop} {s : Shared} {h₀ : Heap} {L a b : Addr} {news : Led} {n k : Nat} {xs : List Value} {ds : List PyData} {as : List Addr} {Q : Value → Shared → Prop}
    (N : News h₀ L s.heap news) (ha : (a, listOf xs.toArray n) ∈ news) (hb : (b, listOf (List.toArray []) k) ∈ news) (r : ReadsAll s.heap xs ds as) (hs : PySem.SeqAt.shaped (.list ds) = true) (hu : A.units + 64 < cLine) (h : Q (.bool (!ds.isEmpty)) s) :
    wpAny (model prog w) A (compareOp .NotEq (.ref a) (.ref b)) Q E s :=
  ne_dataH (.list (N _ ha).1 rfl rfl r) (.list (N _ hb).1 rfl rfl .nil) hs rfl hu (by
    have e : PyData.eqv (.list ds) (.list []) = ds.isEmpty := by cases ds <;> rfl
    rw [e]; exact h)
theorem updF_upd {d : Addr} {o : Obj} : ∀ {l : Led} {g : Obj → Led}, UpdF d o l g → ∀ o', Upd d o o' l (g o')
  | _, _, .head h, _ => .head h
  | _, _, .tail h r, o' => .tail h (updF_upd r o')
theorem lt_ne {d : Nat} {l : Led} (h : AllLt d l) : ∀ p ∈ l, p.1 ≠ d := by
  induction l with
  | nil => intro p hp; cases hp
  | cons a l ih =>
    intro p hp
    rcases List.mem_cons.mp hp with rfl | hp
    · exact Nat.ne_of_lt h.1
    · exact ih h.2 p hp
theorem m_extend {prog : Program} {w : World} {A : Around} {E : Value → Shared → Prop} {s : Shared} {h₀ : Heap} {L D b : Addr} {m : Str → Option Value} {news : Led} {g : Obj → Led} {n n2 : Nat} {vs us : List Value} {Q : Value → Shared → Prop}
    (F : Fr h₀ L s.heap m) (N : News h₀ L s.heap news) (U : UpdF D (listOf vs.toArray n) news g) (hb : (b, listOf us.toArray n2) ∈ news) (hz : vs.length + us.length ≤ 10000)
    (h : ∀ h' n', Fr h₀ L h' m → News h₀ L h' (g (listOf (List.toArray (vs ++ us)) n')) → Q .none { s with heap := h' }) :
    wpAny (model prog w) A (call (.builtin "list.extend") [.ref D, .ref b]) Q E s := by
  have hd : ¬(!vs.toArray.isEmpty && Builtin.List.listTooLong (vs.toArray.size + us.toArray.size)) = true := by
    intro e
    rw [Bool.and_eq_true] at e
    have e2 := of_decide_eq_true e.2
    rw [sizeLine_eq] at e2
    simp only [List.size_toArray] at e2
    omega
  have hz1 : vs.toArray.toList.length ≤ sizeLine := by rw [sizeLine_eq]; simp; omega
  have hz2 : vs.toArray.size + us.toArray.size ≤ sizeLine + 1 := by rw [sizeLine_eq]; simp; omega
  by_cases hu : us = []
  · subst hu
    refine kxn_extend F N hb rfl (updF_upd U _) hd hz1 hz2 fun h' F' N' => h h' n F' ?_
    rw [List.append_nil]
    exact N'
  · refine kl_extend F N hb (l := vs ++ us) (by simp) ?_ (updF_upd U _) hd hz1 hz2 fun h' F' N' => h h' _ F' N'
    intro e
    exact hu (List.length_eq_zero_iff.mp (by simpa using e))
theorem lt_mem {d : Nat} {l : Led} (h : AllLt d l) {p : Addr × Obj} (hp : p ∈ l) : p.1 < d := by
  induction l with
  | nil => cases hp
  | cons a l ih =>
    rcases List.mem_cons.mp hp with rfl | hp
    · exact h.1
    · exact ih h.2 hp
theorem m_append {prog : Program} {w : World} {A : Around} {E : Value → Shared → Prop} {s : Shared} {h₀ : Heap} {L D : Addr} {m : Str → Option Value} {news : Led} {g : Obj → Led} {n : Nat} {vs : List Value} {x : Value} {Q : Value → Shared → Prop}
    (F : Fr h₀ L s.heap m) (N : News h₀ L s.heap news) (U : UpdF D (listOf vs.toArray n) news g) (hz : vs.length ≤ 10000)
    (h : ∀ h' n', Fr h₀ L h' m → News h₀ L h' (g (listOf (List.toArray (vs ++ [x])) n')) → Q .none { s with heap := h' }) :
    wpAny (model prog w) A (call (.builtin "list.append") [.ref D, x]) Q E s := by
  have U' := updF_upd U (listOf (vs.toArray.push x) (n + 1))
  refine append_K F N U' (fun h' F' N' => h h' (n + 1) F' ?_) (by rw [sizeLine_eq, List.size_toArray]; omega)
  rw [List.push_toArray] at N'
  exact N'
theorem lt_ne1 {d : Nat} {l : Led} (h : AllLt d l) : ∀ p ∈ l, p.1 ≠ d + 1 := fun p hp => Nat.ne_of_lt (Nat.lt_succ_of_lt (lt_mem h hp))
theorem m_cend {h₀ : Heap} {L I C D : Addr} {m : Str → Option Value} {s₁ : Shared} {oI oC oD : Obj} {S : List (Addr × Obj) → Prop} {rest : Value → List (Addr × Obj) → Prop} {y : Value} {h' : Heap} {tk : Nat} {news' : List (Addr × Obj)}
    (F : Fr h₀ L h' m) (N : News h₀ L h' ((I, oI) :: (C, oC) :: (D, oD) :: news')) (off : LCg.Off3 I C D news') (hS : S news') (r : rest y news') :
    LCg.CompEnd h₀ L m s₁ I oI C oC D oD S rest y { s₁ with heap := h', toks := tk } := LCg.CompEnd.intro F N news' (fun _ h => h) off hS r
theorem m_setItemU {prog : Program} {w : World} {K : Type} [DecidableEq K] {knd : KeyKind prog w K} {A : Around} {E : Value → Shared → Prop} {s : Shared} {h₀ : Heap} {L d : Addr} {m : Str → Option Value} {news : Led} {g : Obj → Led} {o : Obj} {kvs : List (K × Value)} {k : K} {key v : Value} {Q : Unit → Shared → Prop}
    (F : Fr h₀ L s.heap m) (N : News h₀ L s.heap news) (U : UpdF d o news g) (hd : o.IsDictOf knd kvs) (hkey : knd.is k key = true) (hz : kvs.length ≤ 1000)
    (h : ∀ h' o' tk', Fr h₀ L h' m → News h₀ L h' (g o') → o'.IsDictOf knd (stored kvs k v) → Q () { s with heap := h', toks := tk' }) :
    wpAny (model prog w) A (setItem (.ref d) key v) Q E s := by
  obtain ⟨pre, post, rfl, hg, a, b⟩ := U.split
  have hm := N (d, o) (List.mem_append_right _ (.head _))
  refine wpAny_setItem_pairs (hsz := by rw [sizeLine_eq]; omega) hkey (Heap.dictOf_iff.mpr ⟨o, hm.1, hd⟩) fun h' hmm hs => ?_
  obtain ⟨o', ho', hd'⟩ := Heap.dictOf_iff.mp hmm
  exact h h' o' _ (F.change hs hm.2.1 hm.2.2) (hg o' ▸ N.setIn a b hs ho') hd'
theorem stored_le {K : Type} [DecidableEq K] {kvs : List (K × Value)} {k : K} {v : Value} {n : Nat} (h : kvs.length ≤ n) : (stored kvs k v).length ≤ n + 1 := by
  unfold stored
  split
  · rw [List.length_map]; omega
  · rw [List.length_append, List.length_singleton]; omega
theorem m_madeS {prog : Program} {w : World} {s : Shared} {h₀ : Heap} {L d : Addr} {m : Str → Option Value} {news : Led} {g : Obj → Led} {o : Obj} {Q : Value → Shared → Prop} {vs : List (Value × Value)} (F : Fr h₀ L s.heap m) (N : News h₀ L s.heap news) (U : UpdF d o news g) (hd : o.IsDictOf (PySem.strKind prog w) []) (hk : allStrKeys vs = true) (hn : ((strPairs vs).map (·.1)).Nodup)
    (h : ∀ h' o' tk', Fr h₀ L h' m → News h₀ L h' (g o') → o'.IsDictOf (PySem.strKind prog w) (strPairs vs) → Q (.ref d) { s with heap := h', toks := tk' }) : KdnMade prog w (PySem.strKind prog w) d Q vs s :=
  kdn_made_str F N U hd hk hn fun h' o' F' N' x => h h' o' _ F' N' x
theorem m_madeI {prog : Program} {w : World} {s : Shared} {h₀ : Heap} {L d : Addr} {m : Str → Option Value} {news : Led} {g : Obj → Led} {o : Obj} {Q : Value → Shared → Prop} {vs : List (Value × Value)} (F : Fr h₀ L s.heap m) (N : News h₀ L s.heap news) (U : UpdF d o news g) (hd : o.IsDictOf (PySem.intKind prog w) []) (hk : allIntKeys vs = true) (hn : ((intKeyPairs vs).map (·.1)).Nodup)
    (h : ∀ h' o' tk', Fr h₀ L h' m → News h₀ L h' (g o') → o'.IsDictOf (PySem.intKind prog w) (intKeyPairs vs) → Q (.ref d) { s with heap := h', toks := tk' }) : KdnMade prog w (PySem.intKind prog w) d Q vs s :=
  kdn_made_int F N U hd hk hn fun h' o' F' N' x => h h' o' _ F' N' x
theorem news_swap {h₀ h : Heap} {L : Addr} {a b : Addr × Obj} {l : Led} (N : News h₀ L h (a :: b :: l)) : News h₀ L h (b :: a :: l) := fun p hp => N p (by
  rcases List.mem_cons.mp hp with rfl | hp
  · exact .tail _ (.head _)
  · rcases List.mem_cons.mp hp with rfl | hp
    · exact .head _
    · exact .tail _ (.tail _ hp))
end
local macro_rules | `(tactic| k_memK) => `(tactic| assumption)
local macro_rules | `(tactic| k_mem) => `(tactic| assumption)
local macro_rules | `(tactic| kst_in) => `(tactic| k_extra "kst_in")
local macro_rules | `(tactic| k_ne) => `(tactic| k_extra "k_ne")
local macro_rules | `(tactic| k_all) => `(tactic| k_extra "k_all")
local macro_rules | `(tactic| k_in) => `(tactic| k_extra "k_in")
local macro_rules | `(tactic| ktr_room) => `(tactic| k_extra "ktr_room")
local macro_rules | `(tactic| ktr_units) => `(tactic| k_extra "ktr_units")
local macro_rules | `(tactic| walk_at $s:str) => `(tactic| k_extra $s)
section
section
variable {prog : Program} {w : World} {A : Around} {E : Value → Shared → Prop} {s : Shared} {env : Env} {h₀ : Heap} {x : Str} {body : List Stmt} {Q : Flow → Shared → Prop}
theorem mforR {σ : Type} {r : Addr} {a b : Int} {t u v : Tok} {n : Nat} {m₀ : Str → Option Value} (Led : σ → Led) (ps : σ → List (Str × Value)) (stored : List Str) (P : Nat → σ → Prop) (c₀ : σ)
    (hh : A.handled = none) (hr : IsRange s.heap r a b 1 t u v) (hsm : Builtin.Range.small a b 1 = true) (hn : Builtin.Range.rangeSize a b 1 = ((n : Nat) : Int)) (F : Fr h₀ env.locals s.heap m₀) (N : News h₀ env.locals s.heap (Led c₀)) (hk : ∀ p ∈ ps c₀, m₀ p.1 = some p.2) (hp : P 0 c₀)
    (turn : ∀ (I : Addr) (oI : Obj) (c : σ) (i : Nat) (ti : Tok) (u : Str → Option Value) h tk, i < n → P i c → (∀ p ∈ Led c, p.1 ≠ I) →
      Fr h₀ env.locals h (fun y => if y = x then some (.int (a + (i : Int)) ti) else kstB (fun z => if stored.contains z then u z else m₀ z) (ps c) y) → News h₀ env.locals h ((I, oI) :: Led c) →
      wpAny (model prog w) A (execs body env) (MPost h₀ env.locals I oI (MJ Led ps x stored m₀ P (i + 1)) { s with heap := h, toks := tk } Q) E { s with heap := h, toks := tk })
    (done : ∀ (c : σ) (u : Str → Option Value) h tk, P n c → Fr h₀ env.locals h (fun y => if y = x then u y else kstB (fun z => if stored.contains z then u z else m₀ z) (ps c) y) → News h₀ env.locals h (Led c) → Q .next { s with heap := h, toks := tk }) :
    wpAny (model prog w) A (pyIter (.ref r)) (fun it s₂ => LoopAtV prog w A h₀ env x body Q E it s₂) E s := by
  refine wpAny_pyIter_range hr hsm ?_
  refine mloop (fun i m nx => MJ Led ps x stored m₀ P i m nx) (LCg.range_walks (prog := prog) (w := w) hh a n) (fun i h st => ⟨_, st⟩) ?_ ?_ (next_is_new F) ?_ (by show IsRangeIter _ _ _ _ _; rw [hn]; simpa using Heap.get?_push_size _ rfl) (F.push _) (fun p hp => ⟨Heap.get?_push_of_some _ (N p hp).1, (N p hp).2⟩)
    ⟨c₀, rfl, hk, fun _ _ _ _ => rfl, hp⟩ ?_ ?_
  · intro b hb
    exact .inl (List.mem_singleton.mp hb)
  · intro hm
    exact absurd F.ns.lt ((List.mem_singleton.mp hm) ▸ Nat.lt_irrefl _)
  · intro p hp e
    exact absurd (Heap.lt_size (N p hp).1) (e ▸ Nat.lt_irrefl _)
  · rintro oI i v m₁ news₁ h tk hi ⟨ti, rfl⟩ ⟨c, rfl, h1, h2, hp'⟩ hne' F₁ N₁
    exact turn _ oI c i ti m₁ h tk hi hp' hne' (kst_fr h1 h2 F₁) N₁
  · rintro m₁ news₁ h tk ⟨c, rfl, h1, h2, hp'⟩ F₁ N₁
    exact done c m₁ h tk hp' (kst_frOut h1 h2 F₁) N₁
end
/-- an if within a turn: the ways that go on meet behind it -/
inductive AfterC (h₀ : Heap) (L : Addr) (m1 : Str → Option Value) (led : Led) (x : Str) (C : Prop) (s s' : Shared) : Prop
  | mk (h' : Heap) (tk : Nat) (u : Str → Option Value) (q1 : s' = { s with heap := h', toks := tk }) (q2 : Fr h₀ L h' (fun y => if y = x then u y else m1 y)) (q3 : News h₀ L h' led) (q4 : C) : AfterC h₀ L m1 led x C s s'
inductive JoinC (P : Shared → Prop) (Q : Flow → Shared → Prop) (f : Flow) (s : Shared) : Prop
  | next (e : f = .next) (p : P s)
  | cont (e : f = .cont) (p : Q .cont s)
theorem if_joinC {M : Model} {A : Around} {E : Value → Shared → Prop} {s : Shared} {st : Stmt} {env : Env} {Q : Flow → Shared → Prop} {h₀ : Heap} {L : Addr} {m1 : Str → Option Value} {led : Led} (_F : Fr h₀ L s.heap m1) (_N : News h₀ L s.heap led) (x : Str) (C : Prop)
    (h : wpAny M A (exec st env) (JoinC (AfterC h₀ L m1 led x C s) Q) E s)
    (k : ∀ (h' : Heap) (tk : Nat) (u : Str → Option Value), Fr h₀ L h' (fun y => if y = x then u y else m1 y) → News h₀ L h' led → C → Q .next { s with heap := h', toks := tk }) : wpAny M A (exec st env) Q E s :=
  wpAny_mono h (fun f s' q => by
    rcases q with ⟨e, h', tk, u, rfl, F, N, c⟩ | ⟨e, p⟩
    · subst e; exact k h' tk u F N c
    · subst e; exact p) (fun _ _ e => e)
theorem fr_self {h₀ h : Heap} {L : Addr} {m : Str → Option Value} {x : Str} (F : Fr h₀ L h m) : Fr h₀ L h (fun y => if y = x then m y else m y) := by
  have : (fun y => if y = x then m y else m y) = m := funext fun y => ite_self _
  rw [this]; exact F
end
section
def bsGo (ns : List Int) (v : Int) : Nat → Nat → Nat → Nat
  | 0, lo, _ => lo
  | f + 1, lo, hi => if lo < hi then (if ns.getD ((lo + hi) / 2) 0 ≤ v then bsGo ns v f ((lo + hi) / 2 + 1) hi else bsGo ns v f lo ((lo + hi) / 2)) else lo
def bs (ns : List Int) (v : Int) : Nat := bsGo ns v ns.length 0 ns.length
theorem bsGo_succ (ns : List Int) (v : Int) (f lo hi : Nat) : bsGo ns v (f + 1) lo hi = if lo < hi then (if ns.getD ((lo + hi) / 2) 0 ≤ v then bsGo ns v f ((lo + hi) / 2 + 1) hi else bsGo ns v f lo ((lo + hi) / 2)) else lo := rfl
theorem mid_b {lo hi : Nat} (h : lo < hi) : lo ≤ (lo + hi) / 2 ∧ (lo + hi) / 2 < hi := by omega
theorem sub_a {lo m hi f : Nat} (h1 : lo ≤ m) (h2 : m < hi) (h : hi - lo ≤ f + 1) : hi - (m + 1) ≤ f := by omega
theorem sub_b {lo m hi f : Nat} (h1 : lo ≤ m) (h2 : m < hi) (h : hi - lo ≤ f + 1) : m - lo ≤ f := by omega
theorem bsGo_fuel (ns : List Int) (v : Int) : ∀ (f g lo hi : Nat), hi - lo ≤ f → hi - lo ≤ g → bsGo ns v f lo hi = bsGo ns v g lo hi := by
  intro f
  induction f with
  | zero =>
    intro g lo hi h _
    have hl : ¬ lo < hi := Nat.not_lt.mpr (Nat.le_of_sub_eq_zero (Nat.le_zero.mp h))
    cases g with
    | zero => rfl
    | succ g => rw [bsGo_succ, if_neg hl]; rfl
  | succ f ih =>
    intro g lo hi h1 h2
    by_cases hl : lo < hi
    · cases g with
      | zero => exact absurd (Nat.le_zero.mp h2) (Nat.sub_ne_zero_of_lt hl)
      | succ g =>
        have hm := mid_b hl
        rw [bsGo_succ, bsGo_succ, if_pos hl, if_pos hl]
        by_cases hv : ns.getD ((lo + hi) / 2) 0 ≤ v
        · rw [if_pos hv, if_pos hv]
          exact ih _ _ _ (sub_a hm.1 hm.2 h1) (sub_a hm.1 hm.2 h2)
        · rw [if_neg hv, if_neg hv]
          exact ih _ _ _ (sub_b hm.1 hm.2 h1) (sub_b hm.1 hm.2 h2)
    · cases g with
      | zero => rw [bsGo_succ, if_neg hl]; rfl
      | succ g => rw [bsGo_succ, bsGo_succ, if_neg hl, if_neg hl]
theorem bs_step {ns : List Int} {v : Int} {lo hi : Nat} (h : lo < hi) : bsGo ns v (hi - lo) lo hi = if ns.getD ((lo + hi) / 2) 0 ≤ v then bsGo ns v (hi - ((lo + hi) / 2 + 1)) ((lo + hi) / 2 + 1) hi else bsGo ns v ((lo + hi) / 2 - lo) lo ((lo + hi) / 2) := by
  obtain ⟨k, hk⟩ : ∃ k, hi - lo = k + 1 := ⟨hi - lo - 1, (Nat.sub_add_cancel (Nat.sub_pos_of_lt h)).symm⟩
  have hm := mid_b h
  rw [hk, bsGo_succ, if_pos h]
  by_cases hv : ns.getD ((lo + hi) / 2) 0 ≤ v
  · rw [if_pos hv, if_pos hv]; exact bsGo_fuel _ _ _ _ _ _ (sub_a hm.1 hm.2 (Nat.le_of_eq hk)) (Nat.le_refl _)
  · rw [if_neg hv, if_neg hv]; exact bsGo_fuel _ _ _ _ _ _ (sub_b hm.1 hm.2 (Nat.le_of_eq hk)) (Nat.le_refl _)
theorem sub_c {lo m hi : Nat} (h1 : lo ≤ m) (h2 : m < hi) : hi - (m + 1) < hi - lo := by omega
theorem bs_end {ns : List Int} {v : Int} {lo hi : Nat} (h : ¬ lo < hi) : bsGo ns v (hi - lo) lo hi = lo := by
  rw [Nat.sub_eq_zero_of_le (Nat.le_of_not_lt h)]; rfl
theorem pbh_idx {lo hi : Nat} : (Int.fdiv ((lo : Int) + (hi : Int)) 2).toNat = (lo + hi) / 2 := by
  rw [Int.fdiv_eq_ediv_of_nonneg _ (by omega)]; omega
theorem pbh_mid {lo hi : Nat} : Int.fdiv ((lo : Int) + (hi : Int)) 2 = (((lo + hi) / 2 : Nat) : Int) := by
  rw [Int.fdiv_eq_ediv_of_nonneg _ (by omega)]; omega
theorem pbh_low {ns : List Int} {v : Int} {lo hi : Nat} (h : (lo : Int) < hi) (hv : ns.getD (Int.fdiv ((lo : Int) + (hi : Int)) 2).toNat 0 ≤ v) (h3 : bsGo ns v (hi - lo) lo hi = bs ns v) :
    bsGo ns v (hi - ((lo + hi) / 2 + 1)) ((lo + hi) / 2 + 1) hi = bs ns v := by
  rw [pbh_idx] at hv
  rw [← h3, bs_step (ns := ns) (v := v) (lo := lo) (hi := hi) (Int.ofNat_lt.mp h), if_pos hv]
theorem pbh_high {ns : List Int} {v : Int} {lo hi : Nat} (h : (lo : Int) < hi) (hv : ¬ ns.getD (Int.fdiv ((lo : Int) + (hi : Int)) 2).toNat 0 ≤ v) (h3 : bsGo ns v (hi - lo) lo hi = bs ns v) :
    bsGo ns v ((lo + hi) / 2 - lo) lo ((lo + hi) / 2) = bs ns v := by
  rw [pbh_idx] at hv
  rw [← h3, bs_step (ns := ns) (v := v) (lo := lo) (hi := hi) (Int.ofNat_lt.mp h), if_neg hv]

set_option maxRecDepth 100000 in
set_option maxHeartbeats 8000000 in
theorem c_pbh {w : World} {news : Led} {l k : Nat} {vs : List Value} {ns : List Int} {v : Int} {t : Tok} (hl : (l, listOf vs.toArray k) ∈ news) (hi : IntsAre vs ns) (hn : ns.length < 1000) :
  CC w 61 [.ref l, .int v t] 1 news (fun news' r => news = news' ∧ ∃ t, r = .int ((bs ns v : Nat) - 1 : Int) t) := by
  refine CC.mk ?_; k_fill; intro p loose mean mg mb dp un gd cn cs a ccd cl outer A₀ base h₀ L m s Q E B F X N T hk hdp hun hret
  have hMk : KstMark := kstMark
  k_with_none
  k_with "m_allIn" => first | exact List.forall_mem_nil _ | (refine sub_cons (by k_memK) ?_; k_extra "m_allIn") | (intro p9 h9; kst_mem)
  k_with "m_ra" => first | assumption | exact And.right (by first | assumption | exact And.right (by first | assumption | exact And.right (by first | assumption | exact And.right (by first | assumption | exact And.right (by first | assumption | exact And.right (by first | assumption | exact And.right (by first | assumption | exact And.right (by assumption))))))))
  k_with "m_and" => first | k_extra "m_ra" | exact And.left (by k_extra "m_ra")
  k_with "m_neA" => first | k_extra "m_and" | (refine Ne.symm ?_; k_extra "m_and") | (refine Nat.ne_of_lt ?_; k_extra "m_and") | (refine Nat.ne_of_gt ?_; k_extra "m_and") | (refine Nat.ne_of_lt (Nat.lt_succ_of_lt ?_); k_extra "m_and")
  k_with "m_lt" => first | assumption | exact allLt_of (by assumption) | k_extra "m_and"
  k_with "kst_in" => (try dsimp only); with_unfolding_all ((try simp only [List.nil_append, List.cons_append]); k_extra "m_allIn")
  k_with "k_ne" => refine neN ?_; (try dsimp only); first | (with_reducible assumption) | (with_reducible exact Ne.symm (by assumption)) | (with_reducible exact Nat.ne_of_lt (by assumption)) | (with_reducible exact Nat.ne_of_gt (by assumption)) | with_reducible k_extra "m_neA" | k_extra "m_neA" | omega
  k_with "k_all" => first | exact List.forall_mem_nil _ | assumption | exact lt_ne (by assumption) | exact lt_ne (by k_extra "m_lt") | exact lt_ne1 (by k_extra "m_lt") | (refine ne_cons ?_ ?_; (focus k_ne); k_all) | (refine List.forall_mem_cons.mpr (And.intro ?_ ?_); (focus k_ne); k_all)
  k_with "k_in" => (rename Fr _ _ _ _ => lF8); (rename Frag.In _ _ => lX8); exact Frag.In.keeps lX8 (Fr.keep lF8)
  k_with "ktr_room" => k_dflt (first | exact rmA (by assumption) (by exact rfl) | exact rmB (by assumption))
  k_with "ktr_units" => k_dflt (first | exact unA (by assumption) (by exact rfl) | exact unC (by assumption) (by exact rfl))
  k_with "MPost" => dsimp only [MPost]
  k_with "execs cons" => with_reducible refine gen_tok ?_; intro tk9
  k_with "m_for" => k_here; (rename Fr _ _ _ _ => lF'); k_dflt (refine' For_invVF ?zF ?zk1 ?zk2 ?_ ?zs ?ze; (case zF => exact lF'); (case zk1 => exact rfl); (case zk2 => exact rfl); (case zs => (intro _; rfl)); (case ze => passes_own); k_whole)
  k_with "exec For Name Name cons nil" => k_extra "m_for"
  k_with "exec For Name Subscript cons nil" => k_extra "m_for"
  k_with "exec For Name Call cons nil" => k_extra "m_for"
  k_with "exec For Name Attribute cons nil" => k_extra "m_for"
  k_with "exec For Name Tuple cons nil" => k_extra "m_for"
  k_with "compareOp NotEq ref ref" => k_here; (with_reducible show wpAny _ _ (compareOp CmpOp.NotEq (Value.ref _) (Value.ref _)) _ _ _); k_dflt (first | refine ke_ne_ints (by is_list) (by is_list) (by l_ints) (by l_ints) (by ktr_units) ?_ | ((refine ne_dataH (by ke_read) (by ke_read) (by ke_shaped) (by ke_shaped) (by ktr_units) ?_); ke_norm))
  k_with "compareOp Eq ref ref" => k_here; (with_reducible show wpAny _ _ (compareOp CmpOp.Eq (Value.ref _) (Value.ref _)) _ _ _); k_dflt (first | refine ke_eq_ints (by is_list) (by is_list) (by l_ints) (by l_ints) (by ktr_units) ?_ | ((refine eq_dataH (by ke_read) (by ke_read) (by ke_shaped) (by ke_shaped) (by ktr_units) ?_); ke_norm))
  w_top off
  k_with "m_same" => (intro z9 g2 g3; (simp only [List.forall_mem_cons, List.not_mem_nil, false_implies, implies_true, and_true, ne_eq] at g2); (simp only [List.contains_cons, List.contains_nil, Bool.or_false, Bool.or_eq_false_iff, beq_eq_false_iff_ne, ne_eq] at g3); (simp [kstB, g2, g3]; done))
  k_with "exec While Compare cons nil" =>
    rename Fr _ _ _ _ => lF'
    rename News _ _ _ _ => lN'
    with_unfolding_all refine' ksw_while (σ := Nat × Nat × Tok × Tok) (fun _ => news) (fun c => [(Str.ofString "low", .int c.1 c.2.2.1), (Str.ofString "high", .int c.2.1 c.2.2.2)]) (fun _ => True) [Str.ofString "middle"] (fun c => c.1 ≤ c.2.1 ∧ c.2.1 ≤ ns.length ∧ bsGo ns v (c.2.1 - c.1) c.1 c.2.1 = bs ns v) (fun c => c.2.1 - c.1) (0, ns.length, _, _) lF' lN' trivial ?kk ⟨Nat.zero_le _, Nat.le_refl _, rfl⟩ ?_
    (case kk => kst_all)
    clear lF' lN'
    rintro ⟨lo, hi', t1, t2⟩ u h tk - ⟨h1, h2, h3⟩ F9 N9
    (try dsimp only at h1 h2 h3)
    (try k_fold)
  refine wpAny_call ?_
  k_dflt cell_enter
  k_steps
  · rename Fr _ _ _ _ => F8
    rename ns.getD _ 0 ≤ v => q8
    rename ((_ : Int) < _) => q7
    dsimp only at F8 q7 q8
    have q6 := mid_b (Int.ofNat_lt.mp q7)
    rw [pbh_mid] at F8
    refine ksw_end (((lo + hi') / 2 + 1, hi', _, _) : Nat × Nat × Tok × Tok) F8 (by assumption) (by kst_in) trivial (by kst_all) (by walk_at "m_same") ⟨by exact q6.2, by exact h2, pbh_low q7 q8 h3⟩ (by exact sub_c q6.1 q6.2)
  · rename Fr _ _ _ _ => F8
    rename ¬ ns.getD _ 0 ≤ v => q8
    rename ((_ : Int) < _) => q7
    dsimp only at F8 q7 q8
    have q6 := mid_b (Int.ofNat_lt.mp q7)
    rw [pbh_mid] at F8
    refine ksw_end ((lo, (lo + hi') / 2, _, _) : Nat × Nat × Tok × Tok) F8 (by assumption) (by kst_in) trivial (by kst_all) (by walk_at "m_same") ⟨by exact q6.1, by exact Nat.le_trans (Nat.le_of_lt q6.2) h2, pbh_high q7 q8 h3⟩ (by exact Nat.sub_lt_sub_right q6.1 q6.2)
  · have e : bs ns v = lo := by rw [← h3, bs_end (by omega)]
    exact hret _ _ _ _ (by assumption) (by assumption) ⟨rfl, _, by rw [e]⟩
end
section
theorem rg_nn {b : Nat} (h : 1 ≤ b) : 0 ≤ (b : Int) - 1 := by omega
theorem rg_lt {b : Nat} (h : b < 1000) : (b : Int) - 1 < 2 ^ 63 := by omega
theorem rg_tn (b : Nat) : ((b : Int) - 1).toNat = b - 1 := by omega
set_option maxRecDepth 100000 in
set_option maxHeartbeats 8000000 in
theorem c_rget {w : World} {news : Led} {r rx st va k1 k2 n : Nat} {dflt x : Value} {t1 t2 t3 t : Tok} {sv vv : List Value} {ns : List Int} {v : Int}
  (h1 : (r, instObj 280 rx) ∈ news) (h2 : (rx, rmDict w t1 t2 t3 n dflt st va) ∈ news) (h3 : (st, listOf sv.toArray k1) ∈ news) (h4 : (va, listOf vv.toArray k2) ∈ news)
  (hi : IntsAre sv ns) (hn : ns.length < 1000) (hb : 1 ≤ bs ns v ∧ bs ns v < 1000) (hx : vv[bs ns v - 1]? = some x) :
  CC w 258 [.ref r, .int v t] 2 news (fun news' y => news = news' ∧ x = y) := by
  refine CC.mk ?_; k_fill; intro p loose mean mg mb dp un gd cn cs a ccd cl outer A₀ base h₀ L m s Q E B F X N T hk hdp hun hret
  have hMk : KstMark := kstMark
  k_with_none
  k_with "m_allIn" => first | exact List.forall_mem_nil _ | (refine sub_cons (by k_memK) ?_; k_extra "m_allIn") | (intro p9 h9; kst_mem)
  k_with "m_ra" => first | assumption | exact And.right (by first | assumption | exact And.right (by first | assumption | exact And.right (by first | assumption | exact And.right (by first | assumption | exact And.right (by first | assumption | exact And.right (by first | assumption | exact And.right (by first | assumption | exact And.right (by assumption))))))))
  k_with "m_and" => first | k_extra "m_ra" | exact And.left (by k_extra "m_ra")
  k_with "m_neA" => first | k_extra "m_and" | (refine Ne.symm ?_; k_extra "m_and") | (refine Nat.ne_of_lt ?_; k_extra "m_and") | (refine Nat.ne_of_gt ?_; k_extra "m_and") | (refine Nat.ne_of_lt (Nat.lt_succ_of_lt ?_); k_extra "m_and")
  k_with "m_lt" => first | assumption | exact allLt_of (by assumption) | k_extra "m_and"
  k_with "kst_in" => (try dsimp only); with_unfolding_all ((try simp only [List.nil_append, List.cons_append]); k_extra "m_allIn")
  k_with "k_ne" => refine neN ?_; (try dsimp only); first | (with_reducible assumption) | (with_reducible exact Ne.symm (by assumption)) | (with_reducible exact Nat.ne_of_lt (by assumption)) | (with_reducible exact Nat.ne_of_gt (by assumption)) | with_reducible k_extra "m_neA" | k_extra "m_neA" | omega
  k_with "k_all" => first | exact List.forall_mem_nil _ | assumption | exact lt_ne (by assumption) | exact lt_ne (by k_extra "m_lt") | exact lt_ne1 (by k_extra "m_lt") | (refine ne_cons ?_ ?_; (focus k_ne); k_all) | (refine List.forall_mem_cons.mpr (And.intro ?_ ?_); (focus k_ne); k_all)
  k_with "k_in" => (rename Fr _ _ _ _ => lF8); (rename Frag.In _ _ => lX8); exact Frag.In.keeps lX8 (Fr.keep lF8)
  k_with "ktr_room" => k_dflt (first | exact rmA (by assumption) (by exact rfl) | exact rmB (by assumption))
  k_with "ktr_units" => k_dflt (first | exact unA (by assumption) (by exact rfl) | exact unC (by assumption) (by exact rfl))
  k_with "MPost" => dsimp only [MPost]
  k_with "execs cons" => with_reducible refine gen_tok ?_; intro tk9
  k_with "m_for" => k_here; (rename Fr _ _ _ _ => lF'); k_dflt (refine' For_invVF ?zF ?zk1 ?zk2 ?_ ?zs ?ze; (case zF => exact lF'); (case zk1 => exact rfl); (case zk2 => exact rfl); (case zs => (intro _; rfl)); (case ze => passes_own); k_whole)
  k_with "exec For Name Name cons nil" => k_extra "m_for"
  k_with "exec For Name Subscript cons nil" => k_extra "m_for"
  k_with "exec For Name Call cons nil" => k_extra "m_for"
  k_with "exec For Name Attribute cons nil" => k_extra "m_for"
  k_with "exec For Name Tuple cons nil" => k_extra "m_for"
  k_with "compareOp NotEq ref ref" => k_here; (with_reducible show wpAny _ _ (compareOp CmpOp.NotEq (Value.ref _) (Value.ref _)) _ _ _); k_dflt (first | refine ke_ne_ints (by is_list) (by is_list) (by l_ints) (by l_ints) (by ktr_units) ?_ | ((refine ne_dataH (by ke_read) (by ke_read) (by ke_shaped) (by ke_shaped) (by ktr_units) ?_); ke_norm))
  k_with "compareOp Eq ref ref" => k_here; (with_reducible show wpAny _ _ (compareOp CmpOp.Eq (Value.ref _) (Value.ref _)) _ _ _); k_dflt (first | refine ke_eq_ints (by is_list) (by is_list) (by l_ints) (by l_ints) (by ktr_units) ?_ | ((refine eq_dataH (by ke_read) (by ke_read) (by ke_shaped) (by ke_shaped) (by ktr_units) ?_); ke_norm))
  w_top off
  k_with "call ref" =>
    with_reducible show wpAny _ _ (call (Value.ref 61) [Value.ref _, Value.int _ _]) _ _ _
    refine cc_goI (c_pbh h3 hi hn) ?_ (by k_asm) (by k_asm) (by k_asm) (by k_asm) (by k_asm) (by first | exact rfl | assumption) (by ktr_room) (by ktr_units)
    intro t9 h9 tk9 F9 N9
    (try dsimp only); (try k_fold)
  k_with "subscriptTail Attribute Name Call ref int" =>
    with_reducible show wpAny _ _ (subscriptTail _ _ (Value.ref _) (Value.int _ _)) _ _ _
    refine m_item (vs := vv) (v := x) ⟨_, (News.get (by assumption) h4), rfl, _, rfl⟩ ?a1 ?a2 ?a3 ?_
    (case a1 => exact rg_nn hb.1); (case a2 => exact rg_lt hb.2)
    (case a3 => rw [rg_tn]; exact hx)
  refine wpAny_call ?_
  k_dflt cell_enter
  k_steps
  exact hret _ _ _ _ (by assumption) (by assumption) ⟨rfl, rfl⟩
end
section
section
variable {prog : Program} {w : World} {K : Type} [DecidableEq K] {knd : KeyKind prog w K} {A : Around} {E : Value → Shared → Prop} {s : Shared} {h₀ : Heap} {L d : Addr} {m : Str → Option Value} {news : Led} {o : Obj} {kvs : List (K × Value)} {k : K} {key : Value}
theorem m_map (N : News h₀ L s.heap news) (hm : (d, o) ∈ news) (hd : o.IsDictOf knd kvs) : s.heap.MapOf knd d (valueAt kvs) :=
  (Heap.dictOf_iff.mpr ⟨o, (N _ hm).1, hd⟩).mapOf
theorem m_in {b : Bool} {Q : Value → Shared → Prop} (N : News h₀ L s.heap news) (hm : (d, o) ∈ news) (lo : (d == sysModules) = false) (hd : o.IsDictOf knd kvs) (hkey : knd.is k key = true) (hv : (valueAt kvs k).isSome = b)
    (h : Q (.bool b) { s with toks := s.toks + 1 }) : wpAny (model prog w) A (compareOp .In key (.ref d)) Q E s :=
  wpAny_in_of hkey lo (m_map N hm hd) (by rw [hv]; exact h)
theorem m_notin {b : Bool} {Q : Value → Shared → Prop} (N : News h₀ L s.heap news) (hm : (d, o) ∈ news) (lo : (d == sysModules) = false) (hd : o.IsDictOf knd kvs) (hkey : knd.is k key = true) (hv : (!(valueAt kvs k).isSome) = b)
    (h : Q (.bool b) { s with toks := s.toks + 1 }) : wpAny (model prog w) A (compareOp .NotIn key (.ref d)) Q E s :=
  wpAny_notIn_of hkey lo (m_map N hm hd) (by rw [hv]; exact h)
theorem m_ditem {value slice : Expr} {v : Value} {Q : Value → Shared → Prop} (N : News h₀ L s.heap news) (hm : (d, o) ∈ news) (hd : o.IsDictOf knd kvs) (hkey : knd.is k key = true) (hv : valueAt kvs k = some v)
    (h : Q v { s with toks := s.toks + 1 }) (hs : subscripted slice false (.ref d) key = operate [.ref d, key] (getItem (.ref d) key) := by with_unfolding_all rfl) :
    wpAny (model prog w) A (subscriptTail value slice (.ref d) key) Q E s :=
  have hmp := m_map N hm hd
  tail_any hmp.typeIs slot_dict_getitem.lookup (wpAny_getItem_of hkey hmp hv h) hs
theorem m_get1 {r : Value} {Q : Value → Shared → Prop} (N : News h₀ L s.heap news) (hm : (d, o) ∈ news) (lo : (d == sysModules) = false) (hd : o.IsDictOf knd kvs) (hkey : knd.is k key = true) (hv : (valueAt kvs k).getD .none = r)
    (h : Q r { s with toks := s.toks + 1 }) : wpAny (model prog w) A (call (.builtin "dict.get") [.ref d, key]) Q E s :=
  call_meetsIn PySem.F.slot_dict_get (m_map N hm hd).typeIs PySem.F.entry_dict_get (PySem.F.args_dict_get_2 _ _) (meets_dict_get knd d hkey lo) ⟨_, m_map N hm hd, by rw [hv]; exact h⟩
theorem m_get2 {r dflt : Value} {Q : Value → Shared → Prop} (N : News h₀ L s.heap news) (hm : (d, o) ∈ news) (lo : (d == sysModules) = false) (hd : o.IsDictOf knd kvs) (hkey : knd.is k key = true) (hv : (valueAt kvs k).getD dflt = r)
    (h : Q r { s with toks := s.toks + 1 }) : wpAny (model prog w) A (call (.builtin "dict.get") [.ref d, key, dflt]) Q E s :=
  call_meetsIn PySem.F.slot_dict_get (m_map N hm hd).typeIs PySem.F.entry_dict_get (PySem.F.args_dict_get_3 _ _ _) (meets_dict_get_default knd d hkey lo dflt) ⟨_, m_map N hm hd, by rw [hv]; exact h⟩
theorem m_getm {pl : Sem Bool} {Q : Value × List Value → Shared → Prop} (N : News h₀ L s.heap news) (hm : (d, o) ∈ news) (hd : o.IsDictOf knd kvs)
    (h : Q (.builtin "dict.get", [.ref d]) s) : wpAny (model prog w) A (getMethod (.ref d) (Str.ofString "get") pl) Q E s :=
  getMethod_builtin (m_map N hm hd).typeIs PySem.F.plainAttrs_dict PySem.F.slot_dict_get PySem.F.type_dict_get (m_map N hm hd).noDict h
theorem m_setItem {v : Value} {Q : Unit → Shared → Prop} (F : Fr h₀ L s.heap m) (N : News h₀ L s.heap ((d, o) :: news)) (hne : ∀ p ∈ news, p.1 ≠ d) (hd : o.IsDictOf knd kvs) (hkey : knd.is k key = true) (hz : kvs.length ≤ 1000)
    (h : ∀ h' o', Fr h₀ L h' m → News h₀ L h' ((d, o') :: news) → o'.IsDictOf knd (stored kvs k v) → Q () { s with heap := h', toks := s.toks + 1 }) :
    wpAny (model prog w) A (setItem (.ref d) key v) Q E s := by
  have hm := N (d, o) (.head _)
  refine wpAny_setItem_pairs (hsz := by rw [sizeLine_eq]; omega) hkey (Heap.dictOf_iff.mpr ⟨o, hm.1, hd⟩) fun h' hmm hs => ?_
  obtain ⟨o', ho', hd'⟩ := Heap.dictOf_iff.mp hmm
  exact h h' o' (F.change hs hm.2.1 hm.2.2) (News.setIn (own := []) N (fun _ h => nomatch h) hne hs ho') hd'
end
end
section
abbrev PG : Program := PySem.Challenge.rw_on0371_01.prog
abbrev ent (w : World) (x : Str) (t : Tok) (v : Value) : DictEntry := ⟨PyData.keyHash w.params x, .str x t, v⟩
/-- the Data object's own dict -/
abbrev daDict (w : World) (t1 t2 t3 t4 : Tok) (n : Nat) (df mp pr wd : Addr) : Obj :=
  dictOf [ent w (Str.ofString "defaults") t1 (.ref df), ent w (Str.ofString "maps") t2 (.ref mp), ent w (Str.ofString "properties") t3 (.ref pr), ent w (Str.ofString "words") t4 (.ref wd)] n
set_option maxRecDepth 100000 in
set_option maxHeartbeats 8000000 in
theorem c_dget {w : World} {news : Led} {d dx df mp pr wd r rx st va k1 k2 n n' : Nat} {dflt x : Value} {u1 u2 u3 u4 t1 t2 t3 t t' : Tok} {sv vv : List Value} {ns : List Int} {v : Int} {om : Obj} {mk : List (Str × Value)} {name : Str}
  (g1 : (d, instObj 336 dx) ∈ news) (g2 : (dx, daDict w u1 u2 u3 u4 n' df mp pr wd) ∈ news) (g3 : (mp, om) ∈ news) (lo : (mp == sysModules) = false) (gd : om.IsDictOf (strKind PG w) mk) (gf : valueAt mk name = some (.ref r))
  (h1 : (r, instObj 280 rx) ∈ news) (h2 : (rx, rmDict w t1 t2 t3 n dflt st va) ∈ news) (h3 : (st, listOf sv.toArray k1) ∈ news) (h4 : (va, listOf vv.toArray k2) ∈ news)
  (hi : IntsAre sv ns) (hn : ns.length < 1000) (hb : 1 ≤ bs ns v ∧ bs ns v < 1000) (hx : vv[bs ns v - 1]? = some x) :
  CC w 326 [.ref d, .str name t', .int v t] 4 news (fun news' y => news = news' ∧ x = y) := by
  refine CC.mk ?_; k_fill; intro p loose mean mg mb dp un gd' cn cs a ccd cl outer A₀ base h₀ L m s Q E B F X N T hk hdp hun hret
  have hMk : KstMark := kstMark
  k_with_none
  k_with "m_allIn" => first | exact List.forall_mem_nil _ | (refine sub_cons (by k_memK) ?_; k_extra "m_allIn") | (intro p9 h9; kst_mem)
  k_with "m_ra" => first | assumption | exact And.right (by first | assumption | exact And.right (by first | assumption | exact And.right (by first | assumption | exact And.right (by first | assumption | exact And.right (by first | assumption | exact And.right (by first | assumption | exact And.right (by first | assumption | exact And.right (by assumption))))))))
  k_with "m_and" => first | k_extra "m_ra" | exact And.left (by k_extra "m_ra")
  k_with "m_neA" => first | k_extra "m_and" | (refine Ne.symm ?_; k_extra "m_and") | (refine Nat.ne_of_lt ?_; k_extra "m_and") | (refine Nat.ne_of_gt ?_; k_extra "m_and") | (refine Nat.ne_of_lt (Nat.lt_succ_of_lt ?_); k_extra "m_and")
  k_with "m_lt" => first | assumption | exact allLt_of (by assumption) | k_extra "m_and"
  k_with "kst_in" => (try dsimp only); with_unfolding_all ((try simp only [List.nil_append, List.cons_append]); k_extra "m_allIn")
  k_with "k_ne" => refine neN ?_; (try dsimp only); first | (with_reducible assumption) | (with_reducible exact Ne.symm (by assumption)) | (with_reducible exact Nat.ne_of_lt (by assumption)) | (with_reducible exact Nat.ne_of_gt (by assumption)) | with_reducible k_extra "m_neA" | k_extra "m_neA" | omega
  k_with "k_all" => first | exact List.forall_mem_nil _ | assumption | exact lt_ne (by assumption) | exact lt_ne (by k_extra "m_lt") | exact lt_ne1 (by k_extra "m_lt") | (refine ne_cons ?_ ?_; (focus k_ne); k_all) | (refine List.forall_mem_cons.mpr (And.intro ?_ ?_); (focus k_ne); k_all)
  k_with "k_in" => (rename Fr _ _ _ _ => lF8); (rename Frag.In _ _ => lX8); exact Frag.In.keeps lX8 (Fr.keep lF8)
  k_with "ktr_room" => k_dflt (first | exact rmA (by assumption) (by exact rfl) | exact rmB (by assumption))
  k_with "ktr_units" => k_dflt (first | exact unA (by assumption) (by exact rfl) | exact unC (by assumption) (by exact rfl))
  k_with "MPost" => dsimp only [MPost]
  k_with "execs cons" => with_reducible refine gen_tok ?_; intro tk9
  k_with "m_for" => k_here; (rename Fr _ _ _ _ => lF'); k_dflt (refine' For_invVF ?zF ?zk1 ?zk2 ?_ ?zs ?ze; (case zF => exact lF'); (case zk1 => exact rfl); (case zk2 => exact rfl); (case zs => (intro _; rfl)); (case ze => passes_own); k_whole)
  k_with "exec For Name Name cons nil" => k_extra "m_for"
  k_with "exec For Name Subscript cons nil" => k_extra "m_for"
  k_with "exec For Name Call cons nil" => k_extra "m_for"
  k_with "exec For Name Attribute cons nil" => k_extra "m_for"
  k_with "exec For Name Tuple cons nil" => k_extra "m_for"
  k_with "compareOp NotEq ref ref" => k_here; (with_reducible show wpAny _ _ (compareOp CmpOp.NotEq (Value.ref _) (Value.ref _)) _ _ _); k_dflt (first | refine ke_ne_ints (by is_list) (by is_list) (by l_ints) (by l_ints) (by ktr_units) ?_ | ((refine ne_dataH (by ke_read) (by ke_read) (by ke_shaped) (by ke_shaped) (by ktr_units) ?_); ke_norm))
  k_with "compareOp Eq ref ref" => k_here; (with_reducible show wpAny _ _ (compareOp CmpOp.Eq (Value.ref _) (Value.ref _)) _ _ _); k_dflt (first | refine ke_eq_ints (by is_list) (by is_list) (by l_ints) (by l_ints) (by ktr_units) ?_ | ((refine eq_dataH (by ke_read) (by ke_read) (by ke_shaped) (by ke_shaped) (by ktr_units) ?_); ke_norm))
  w_top off
  k_with "compareOp In str ref" =>
    refine m_in (b := true) (by assumption) g3 lo gd (strKind_is _ _ _ _) (by rw [gf]; exact rfl) ?_
  k_with "subscriptTail Attribute Name Name ref str" =>
    refine m_ditem (by assumption) g3 gd (strKind_is _ _ _ _) gf ?_
  k_with "call ref" =>
    with_reducible show wpAny _ _ (call (Value.ref 258) [Value.ref _, Value.int _ _]) _ _ _
    refine cc_goE (c_rget h1 h2 h3 h4 hi hn hb hx) ?_ (by k_asm) (by k_asm) (by k_asm) (by k_asm) (by k_asm) (by first | exact rfl | assumption) (by ktr_room) (by ktr_units)
    intro h9 tk9 F9 N9
    (try dsimp only); (try k_fold)
  refine wpAny_call ?_
  k_dflt cell_enter
  k_steps
  exact hret _ _ _ _ (by assumption) (by assumption) ⟨rfl, rfl⟩
end
section
set_option maxRecDepth 100000 in
set_option maxHeartbeats 8000000 in
theorem c_dget0 {w : World} {news : Led} {d dx df mp pr wd n' : Nat} {x : Value} {u1 u2 u3 u4 t' : Tok} {v : Value} {om od : Obj} {mk dk : List (Str × Value)} {name : Str}
  (g1 : (d, instObj 336 dx) ∈ news) (g2 : (dx, daDict w u1 u2 u3 u4 n' df mp pr wd) ∈ news) (g3 : (mp, om) ∈ news) (lo : (mp == sysModules) = false) (gd : om.IsDictOf (strKind PG w) mk) (gf : valueAt mk name = none)
  (g4 : (df, od) ∈ news) (lo2 : (df == sysModules) = false) (gd2 : od.IsDictOf (strKind PG w) dk) (hx : (valueAt dk name).getD .none = x) :
  CC w 326 [.ref d, .str name t', v] 4 news (fun news' y => news = news' ∧ x = y) := by
  refine CC.mk ?_; k_fill; intro p loose mean mg mb dp un gd' cn cs a ccd cl outer A₀ base h₀ L m s Q E B F X N T hk hdp hun hret
  have hMk : KstMark := kstMark
  k_with_none
  k_with "m_allIn" => first | exact List.forall_mem_nil _ | (refine sub_cons (by k_memK) ?_; k_extra "m_allIn") | (intro p9 h9; kst_mem)
  k_with "m_ra" => first | assumption | exact And.right (by first | assumption | exact And.right (by first | assumption | exact And.right (by first | assumption | exact And.right (by first | assumption | exact And.right (by first | assumption | exact And.right (by first | assumption | exact And.right (by first | assumption | exact And.right (by assumption))))))))
  k_with "m_and" => first | k_extra "m_ra" | exact And.left (by k_extra "m_ra")
  k_with "m_neA" => first | k_extra "m_and" | (refine Ne.symm ?_; k_extra "m_and") | (refine Nat.ne_of_lt ?_; k_extra "m_and") | (refine Nat.ne_of_gt ?_; k_extra "m_and") | (refine Nat.ne_of_lt (Nat.lt_succ_of_lt ?_); k_extra "m_and")
  k_with "m_lt" => first | assumption | exact allLt_of (by assumption) | k_extra "m_and"
  k_with "kst_in" => (try dsimp only); with_unfolding_all ((try simp only [List.nil_append, List.cons_append]); k_extra "m_allIn")
  k_with "k_ne" => refine neN ?_; (try dsimp only); first | (with_reducible assumption) | (with_reducible exact Ne.symm (by assumption)) | (with_reducible exact Nat.ne_of_lt (by assumption)) | (with_reducible exact Nat.ne_of_gt (by assumption)) | with_reducible k_extra "m_neA" | k_extra "m_neA" | omega
  k_with "k_all" => first | exact List.forall_mem_nil _ | assumption | exact lt_ne (by assumption) | exact lt_ne (by k_extra "m_lt") | exact lt_ne1 (by k_extra "m_lt") | (refine ne_cons ?_ ?_; (focus k_ne); k_all) | (refine List.forall_mem_cons.mpr (And.intro ?_ ?_); (focus k_ne); k_all)
  k_with "k_in" => (rename Fr _ _ _ _ => lF8); (rename Frag.In _ _ => lX8); exact Frag.In.keeps lX8 (Fr.keep lF8)
  k_with "ktr_room" => k_dflt (first | exact rmA (by assumption) (by exact rfl) | exact rmB (by assumption))
  k_with "ktr_units" => k_dflt (first | exact unA (by assumption) (by exact rfl) | exact unC (by assumption) (by exact rfl))
  k_with "MPost" => dsimp only [MPost]
  k_with "execs cons" => with_reducible refine gen_tok ?_; intro tk9
  k_with "m_for" => k_here; (rename Fr _ _ _ _ => lF'); k_dflt (refine' For_invVF ?zF ?zk1 ?zk2 ?_ ?zs ?ze; (case zF => exact lF'); (case zk1 => exact rfl); (case zk2 => exact rfl); (case zs => (intro _; rfl)); (case ze => passes_own); k_whole)
  k_with "exec For Name Name cons nil" => k_extra "m_for"
  k_with "exec For Name Subscript cons nil" => k_extra "m_for"
  k_with "exec For Name Call cons nil" => k_extra "m_for"
  k_with "exec For Name Attribute cons nil" => k_extra "m_for"
  k_with "exec For Name Tuple cons nil" => k_extra "m_for"
  k_with "compareOp NotEq ref ref" => k_here; (with_reducible show wpAny _ _ (compareOp CmpOp.NotEq (Value.ref _) (Value.ref _)) _ _ _); k_dflt (first | refine ke_ne_ints (by is_list) (by is_list) (by l_ints) (by l_ints) (by ktr_units) ?_ | ((refine ne_dataH (by ke_read) (by ke_read) (by ke_shaped) (by ke_shaped) (by ktr_units) ?_); ke_norm))
  k_with "compareOp Eq ref ref" => k_here; (with_reducible show wpAny _ _ (compareOp CmpOp.Eq (Value.ref _) (Value.ref _)) _ _ _); k_dflt (first | refine ke_eq_ints (by is_list) (by is_list) (by l_ints) (by l_ints) (by ktr_units) ?_ | ((refine eq_dataH (by ke_read) (by ke_read) (by ke_shaped) (by ke_shaped) (by ktr_units) ?_); ke_norm))
  w_top off
  k_with "compareOp In str ref" =>
    refine m_in (b := false) (by assumption) g3 lo gd (strKind_is _ _ _ _) (by rw [gf]; exact rfl) ?_
  k_with "getMethod ref" =>
    refine m_getm (by assumption) g4 gd2 ?_
  k_with "call builtin:dict.get" =>
    refine m_get1 (by assumption) g4 lo2 gd2 (strKind_is _ _ _ _) hx ?_
  refine wpAny_call ?_
  k_dflt cell_enter
  k_steps
  exact hret _ _ _ _ (by assumption) (by assumption) ⟨rfl, rfl⟩
end
section
/-! the law's own numbers, as plain functions -/
def AL : List Int := [101, 97, 233, 69, 201, 769, 803, 65, 64257, 8490, 173, 107, 102, 105]
def cls (c : Int) : Int := if c = 769 then 230 else if c = 803 then 220 else 0
def prt (c : Int) : Option (Int × Int) := if c = 233 then some (101, 769) else if c = 201 then some (69, 769) else none
def told (c : Int) : Option (List Int) :=
  if c = 69 then some [101] else if c = 201 then some [233] else if c = 65 then some [97] else if c = 64257 then some [102, 105] else if c = 8490 then some [107] else if c = 173 then some [] else none
def NSC : List Int := [0, 769, 770, 803, 804]
def NSD : List Int := [0, 201, 202, 233, 234]
def NSF : List Int := [0, 65, 66, 69, 70, 173, 174, 201, 202, 8490, 8491, 64257, 64258]
theorem CC.mono {w : World} {f : Addr} {vs : List Value} {k : Nat} {news : Led} {Post Post' : Led → Value → Prop} (C : CC w f vs k news Post) (h : ∀ n v, Post n v → Post' n v) : CC w f vs k news Post' :=
  ⟨fun B F X N T hk hd hu ret => C.go B F X N T hk hd hu fun v n h' tk F' N' p => ret v n h' tk F' N' (h n v p)⟩
end
section
def TupI (news : Led) (a : Addr) (xs : List Int) : Prop := ∃ ts n, (a, tupO (List.toArray ts) n) ∈ news ∧ IntsAre ts xs
inductive TupD (news : Led) (a : Addr) (x y : Int) : Prop
  | mk (t : _) (b : _) (n : _) (t1 : _) (t2 : _) (n' : _) (q1 : (a, tupO (List.toArray [.str (Str.ofString "") t, .ref b]) n) ∈ news) (q2 : (b, tupO (List.toArray [.int x t1, .int y t2]) n') ∈ news) : TupD news a x y
inductive MapAt (w : World) (news : Led) (r : Addr) (dflt : Value) (ns : List Int) (vv : List Value) : Prop
  | mk (rx : _) (t1 : _) (t2 : _) (t3 : _) (n : _) (st : _) (va : _) (k1 : _) (k2 : _) (sv : _) (q1 : (r, instObj 280 rx) ∈ news) (q2 : (rx, rmDict w t1 t2 t3 n dflt st va) ∈ news) (q3 : (st, listOf (List.toArray sv) k1) ∈ news) (q4 : IntsAre sv ns) (q5 : (va, listOf vv.toArray k2) ∈ news) : MapAt w news r dflt ns vv
inductive CVal (vv : List Value) : Prop
  | mk (a : _) (b : _) (c : _) (d : _) (e : _) (q1 : vv = [.int 0 a, .int 230 b, .int 0 c, .int 220 d, .int 0 e]) : CVal vv
inductive DVal (news : Led) (vv : List Value) : Prop
  | mk (a : _) (b : _) (q1 : vv = [.none, .ref a, .none, .ref b, .none]) (q2 : TupD news a 69 769) (q3 : TupD news b 101 769) : DVal news vv
inductive FVal (news : Led) (vv : List Value) : Prop
  | mk (a : _) (b : _) (c : _) (d : _) (e : _) (f : _) (q1 : vv = [.none, .ref a, .none, .ref b, .none, .ref c, .none, .ref d, .none, .ref e, .none, .ref f, .none]) (q2 : TupI news a [97]) (q3 : TupI news b [101]) (q4 : TupI news c []) (q5 : TupI news d [233]) (q6 : TupI news e [107]) (q7 : TupI news f [102, 105]) : FVal news vv
inductive DataOK (w : World) (news : Led) (d : Addr) : Prop
  | mk (dx : _) (df : _) (mp : _) (pr : _) (wd : _) (u1 : _) (u2 : _) (u3 : _) (u4 : _) (n : _) (om : _) (mk : _) (od : _) (dk : _) (rc : _) (rd : _) (rf : _) (t0 : _) (vc : _) (vd : _) (vf : _) (q1 : (d, instObj 336 dx) ∈ news) (q2 : (dx, daDict w u1 u2 u3 u4 n df mp pr wd) ∈ news) (q3 : (mp, om) ∈ news) (q4 : (mp == sysModules) = false) (q5 : om.IsDictOf (strKind PG w) mk) (q6 : (df, od) ∈ news) (q7 : (df == sysModules) = false) (q8 : od.IsDictOf (strKind PG w) dk) (q9 : valueAt mk (Str.ofString "ex") = none) (q10 : (valueAt dk (Str.ofString "ex")).getD .none = .bool false) (q11 : valueAt mk (Str.ofString "ccc") = some (.ref rc)) (q12 : valueAt mk (Str.ofString "dm") = some (.ref rd)) (q13 : valueAt mk (Str.ofString "nfkc_cf") = some (.ref rf)) (q14 : MapAt w news rc (.int 0 t0) NSC vc) (q15 : MapAt w news rd .none NSD vd) (q16 : MapAt w news rf .none NSF vf) (q17 : CVal vc) (q18 : DVal news vd) (q19 : FVal news vf) : DataOK w news d
section
variable {w : World} {news news' : Led} {d a r : Addr} {xs : List Int} {x y : Int} {dflt : Value} {ns : List Int} {vv : List Value}
theorem TupI.mono (h : ∀ p ∈ news, p ∈ news') : TupI news a xs → TupI news' a xs
  | ⟨ts, n, h1, h2⟩ => ⟨ts, n, h _ h1, h2⟩
theorem TupD.mono (h : ∀ p ∈ news, p ∈ news') : TupD news a x y → TupD news' a x y
  | ⟨t, b, n, t1, t2, n', h1, h2⟩ => ⟨t, b, n, t1, t2, n', h _ h1, h _ h2⟩
theorem MapAt.mono (h : ∀ p ∈ news, p ∈ news') : MapAt w news r dflt ns vv → MapAt w news' r dflt ns vv
  | ⟨rx, t1, t2, t3, n, st, va, k1, k2, sv, h1, h2, h3, h4, h5⟩ => ⟨rx, t1, t2, t3, n, st, va, k1, k2, sv, h _ h1, h _ h2, h _ h3, h4, h _ h5⟩
theorem DVal.mono (h : ∀ p ∈ news, p ∈ news') : DVal news vv → DVal news' vv
  | ⟨a, b, e, h1, h2⟩ => ⟨a, b, e, h1.mono h, h2.mono h⟩
theorem FVal.mono (h : ∀ p ∈ news, p ∈ news') : FVal news vv → FVal news' vv
  | ⟨a, b, c, d, e, f, q, h1, h2, h3, h4, h5, h6⟩ => ⟨a, b, c, d, e, f, q, h1.mono h, h2.mono h, h3.mono h, h4.mono h, h5.mono h, h6.mono h⟩
theorem DataOK.mono (h : ∀ p ∈ news, p ∈ news') : DataOK w news d → DataOK w news' d
  | ⟨dx, df, mp, pr, wd, u1, u2, u3, u4, n, om, mk9, od, dk, rc, rd, rf, t0, vc, vd, vf, a1, a2, a3, a4, a5, a6, a7, a8, a9, a10, a11, a12, a13, a14, a15, a16, a17, a18, a19⟩ =>
    ⟨dx, df, mp, pr, wd, u1, u2, u3, u4, n, om, mk9, od, dk, rc, rd, rf, t0, vc, vd, vf, h _ a1, h _ a2, h _ a3, a4, a5, h _ a6, a7, a8, a9, a10, a11, a12, a13, a14.mono h, a15.mono h, a16.mono h, a17, a18.mono h, a19.mono h⟩

inductive DataI (w : World) (news : Led) (d : Addr) : Prop
  | mk (dx df mp pr wd : Nat) (u1 u2 u3 u4 : Tok) (n : Nat) (q1 : (d, instObj 336 dx) ∈ news) (q2 : (dx, daDict w u1 u2 u3 u4 n df mp pr wd) ∈ news) : DataI w news d
theorem DataOK.inst (h : DataOK w news d) : DataI w news d := by
  obtain ⟨dx, df, mp, pr, wd, u1, u2, u3, u4, n, _, _, _, _, _, _, _, _, _, _, _, a1, a2⟩ := h
  exact ⟨dx, df, mp, pr, wd, u1, u2, u3, u4, n, a1, a2⟩
theorem g_ccc (hD : DataOK w news d) {c : Int} (hc : c ∈ AL) (t t' : Tok) : CC w 326 [.ref d, .str (Str.ofString "ccc") t', .int c t] 4 news (fun news' y => news = news' ∧ ∃ t, y = .int (cls c) t) := by
  obtain ⟨dx, df, mp, pr, wd, u1, u2, u3, u4, n, om, mk, od, dk, rc, rd, rf, t0, vc, vd, vf, a1, a2, a3, a4, a5, a6, a7, a8, a9, a10, a11, a12, a13, ⟨rx, t1, t2, t3, n', st, va, k1, k2, sv, b1, b2, b3, b4, b5⟩, a15, a16, ⟨x1, x2, x3, x4, x5, rfl⟩, a18, a19⟩ := hD
  simp only [AL, List.mem_cons, List.not_mem_nil, or_false] at hc
  rcases hc with rfl | rfl | rfl | rfl | rfl | rfl | rfl | rfl | rfl | rfl | rfl | rfl | rfl | rfl <;>
    exact (c_dget a1 a2 a3 a4 a5 a11 b1 b2 b3 b5 b4 (by decide) (by decide) rfl).mono fun n v h => ⟨h.1, _, h.2.symm⟩
theorem g_ex (hD : DataOK w news d) (v : Value) (t' : Tok) : CC w 326 [.ref d, .str (Str.ofString "ex") t', v] 4 news (fun news' y => news = news' ∧ .bool false = y) := by
  obtain ⟨dx, df, mp, pr, wd, u1, u2, u3, u4, n, om, mk, od, dk, rc, rd, rf, t0, vc, vd, vf, a1, a2, a3, a4, a5, a6, a7, a8, a9, a10, a11, a12, a13, a14⟩ := hD
  exact c_dget0 a1 a2 a3 a4 a5 a9 a6 a7 a8 a10
theorem g_dm {news0 : Led} (hs : ∀ p ∈ news0, p ∈ news) (hD : DataOK w news0 d) {c : Int} (hc : c ∈ AL) (t t' : Tok) : CC w 326 [.ref d, .str (Str.ofString "dm") t', .int c t] 4 news (fun news' y => news = news' ∧ ((prt c = none ∧ y = .none) ∨ ∃ a p q, prt c = some (p, q) ∧ y = .ref a ∧ TupD news0 a p q)) := by
  obtain ⟨dx, df, mp, pr, wd, u1, u2, u3, u4, n, om, mk, od, dk, rc, rd, rf, t0, vc, vd, vf, a1, a2, a3, a4, a5, a6, a7, a8, a9, a10, a11, a12, a13, a14, ⟨rx, t1, t2, t3, n', st, va, k1, k2, sv, b1, b2, b3, b4, b5⟩, a16, a17, ⟨x1, x2, rfl, y1, y2⟩, a19⟩ := hD
  simp only [AL, List.mem_cons, List.not_mem_nil, or_false] at hc
  have no {c : Int} (hb : 1 ≤ bs NSD c ∧ bs NSD c < 1000) (hx : [Value.none, .ref x1, .none, .ref x2, .none][bs NSD c - 1]? = some .none) (hp : prt c = none) : CC w 326 [.ref d, .str (Str.ofString "dm") t', .int c t] 4 news (fun news' y => news = news' ∧ ((prt c = none ∧ y = .none) ∨ ∃ a p q, prt c = some (p, q) ∧ y = .ref a ∧ TupD news0 a p q)) :=
    (c_dget (hs _ a1) (hs _ a2) (hs _ a3) a4 a5 a12 (hs _ b1) (hs _ b2) (hs _ b3) (hs _ b5) b4 (by decide) hb hx).mono fun n v h => ⟨h.1, .inl ⟨hp, h.2.symm⟩⟩
  rcases hc with rfl | rfl | rfl | rfl | rfl | rfl | rfl | rfl | rfl | rfl | rfl | rfl | rfl | rfl
  iterate 2 exact no (by decide) rfl rfl
  · exact (c_dget (hs _ a1) (hs _ a2) (hs _ a3) a4 a5 a12 (hs _ b1) (hs _ b2) (hs _ b3) (hs _ b5) b4 (by decide) (by decide) rfl).mono fun n v h => ⟨h.1, .inr ⟨_, _, _, rfl, h.2.symm, y2⟩⟩
  · exact no (by decide) rfl rfl
  · exact (c_dget (hs _ a1) (hs _ a2) (hs _ a3) a4 a5 a12 (hs _ b1) (hs _ b2) (hs _ b3) (hs _ b5) b4 (by decide) (by decide) rfl).mono fun n v h => ⟨h.1, .inr ⟨_, _, _, rfl, h.2.symm, y1⟩⟩
  all_goals exact no (by decide) rfl rfl
theorem g_cf {news0 : Led} (hs : ∀ p ∈ news0, p ∈ news) (hD : DataOK w news0 d) {c : Int} (hc : c ∈ AL) (t t' : Tok) : CC w 326 [.ref d, .str (Str.ofString "nfkc_cf") t', .int c t] 4 news (fun news' y => news = news' ∧ ((told c = none ∧ y = .none) ∨ ∃ a xs, told c = some xs ∧ y = .ref a ∧ TupI news0 a xs)) := by
  obtain ⟨dx, df, mp, pr, wd, u1, u2, u3, u4, n, om, mk, od, dk, rc, rd, rf, t0, vc, vd, vf, a1, a2, a3, a4, a5, a6, a7, a8, a9, a10, a11, a12, a13, a14, a15, ⟨rx, t1, t2, t3, n', st, va, k1, k2, sv, b1, b2, b3, b4, b5⟩, a17, a18, ⟨x1, x2, x3, x4, x5, x6, rfl, y1, y2, y3, y4, y5, y6⟩⟩ := hD
  simp only [AL, List.mem_cons, List.not_mem_nil, or_false] at hc
  have go {c : Int} {v : Value} (hb : 1 ≤ bs NSF c ∧ bs NSF c < 1000) (hx : [Value.none, .ref x1, .none, .ref x2, .none, .ref x3, .none, .ref x4, .none, .ref x5, .none, .ref x6, .none][bs NSF c - 1]? = some v)
      (hp : (told c = none ∧ v = .none) ∨ ∃ a xs, told c = some xs ∧ v = .ref a ∧ TupI news0 a xs) : CC w 326 [.ref d, .str (Str.ofString "nfkc_cf") t', .int c t] 4 news (fun news' y => news = news' ∧ ((told c = none ∧ y = .none) ∨ ∃ a xs, told c = some xs ∧ y = .ref a ∧ TupI news0 a xs)) :=
    (c_dget (hs _ a1) (hs _ a2) (hs _ a3) a4 a5 a13 (hs _ b1) (hs _ b2) (hs _ b3) (hs _ b5) b4 (by decide) hb hx).mono fun n v h => ⟨h.1, h.2 ▸ hp⟩
  rcases hc with rfl | rfl | rfl | rfl | rfl | rfl | rfl | rfl | rfl | rfl | rfl | rfl | rfl | rfl <;>
    first
      | exact go (by decide) rfl (.inl ⟨rfl, rfl⟩)
      | exact go (by decide) rfl (.inr ⟨_, _, rfl, rfl, by assumption⟩)
end
end
section
set_option maxRecDepth 100000 in
set_option maxHeartbeats 8000000 in
theorem c_ihs {w : World} {news : Led} {v : Int} {t : Tok} (hv : v < 44032 ∨ 55204 ≤ v) : CC w 68 [.int v t] 1 news (fun news' y => news = news' ∧ .bool false = y) := by
  refine CC.mk ?_; k_fill; intro p loose mean mg mb dp un gd cn cs a ccd cl outer A₀ base h₀ L m s Q E B F X N T hk hdp hun hret
  have hMk : KstMark := kstMark
  k_with_none
  k_with "m_allIn" => first | exact List.forall_mem_nil _ | (refine sub_cons (by k_memK) ?_; k_extra "m_allIn") | (intro p9 h9; kst_mem)
  k_with "m_ra" => first | assumption | exact And.right (by first | assumption | exact And.right (by first | assumption | exact And.right (by first | assumption | exact And.right (by first | assumption | exact And.right (by first | assumption | exact And.right (by first | assumption | exact And.right (by first | assumption | exact And.right (by assumption))))))))
  k_with "m_and" => first | k_extra "m_ra" | exact And.left (by k_extra "m_ra")
  k_with "m_neA" => first | k_extra "m_and" | (refine Ne.symm ?_; k_extra "m_and") | (refine Nat.ne_of_lt ?_; k_extra "m_and") | (refine Nat.ne_of_gt ?_; k_extra "m_and") | (refine Nat.ne_of_lt (Nat.lt_succ_of_lt ?_); k_extra "m_and")
  k_with "m_lt" => first | assumption | exact allLt_of (by assumption) | k_extra "m_and"
  k_with "kst_in" => (try dsimp only); with_unfolding_all ((try simp only [List.nil_append, List.cons_append]); k_extra "m_allIn")
  k_with "k_ne" => refine neN ?_; (try dsimp only); first | (with_reducible assumption) | (with_reducible exact Ne.symm (by assumption)) | (with_reducible exact Nat.ne_of_lt (by assumption)) | (with_reducible exact Nat.ne_of_gt (by assumption)) | with_reducible k_extra "m_neA" | k_extra "m_neA" | omega
  k_with "k_all" => first | exact List.forall_mem_nil _ | assumption | exact lt_ne (by assumption) | exact lt_ne (by k_extra "m_lt") | exact lt_ne1 (by k_extra "m_lt") | (refine ne_cons ?_ ?_; (focus k_ne); k_all) | (refine List.forall_mem_cons.mpr (And.intro ?_ ?_); (focus k_ne); k_all)
  k_with "k_in" => (rename Fr _ _ _ _ => lF8); (rename Frag.In _ _ => lX8); exact Frag.In.keeps lX8 (Fr.keep lF8)
  k_with "ktr_room" => k_dflt (first | exact rmA (by assumption) (by exact rfl) | exact rmB (by assumption))
  k_with "ktr_units" => k_dflt (first | exact unA (by assumption) (by exact rfl) | exact unC (by assumption) (by exact rfl))
  k_with "MPost" => dsimp only [MPost]
  k_with "execs cons" => with_reducible refine gen_tok ?_; intro tk9
  k_with "m_for" => k_here; (rename Fr _ _ _ _ => lF'); k_dflt (refine' For_invVF ?zF ?zk1 ?zk2 ?_ ?zs ?ze; (case zF => exact lF'); (case zk1 => exact rfl); (case zk2 => exact rfl); (case zs => (intro _; rfl)); (case ze => passes_own); k_whole)
  k_with "exec For Name Name cons nil" => k_extra "m_for"
  k_with "exec For Name Subscript cons nil" => k_extra "m_for"
  k_with "exec For Name Call cons nil" => k_extra "m_for"
  k_with "exec For Name Attribute cons nil" => k_extra "m_for"
  k_with "exec For Name Tuple cons nil" => k_extra "m_for"
  k_with "compareOp NotEq ref ref" => k_here; (with_reducible show wpAny _ _ (compareOp CmpOp.NotEq (Value.ref _) (Value.ref _)) _ _ _); k_dflt (first | refine ke_ne_ints (by is_list) (by is_list) (by l_ints) (by l_ints) (by ktr_units) ?_ | ((refine ne_dataH (by ke_read) (by ke_read) (by ke_shaped) (by ke_shaped) (by ktr_units) ?_); ke_norm))
  k_with "compareOp Eq ref ref" => k_here; (with_reducible show wpAny _ _ (compareOp CmpOp.Eq (Value.ref _) (Value.ref _)) _ _ _); k_dflt (first | refine ke_eq_ints (by is_list) (by is_list) (by l_ints) (by l_ints) (by ktr_units) ?_ | ((refine eq_dataH (by ke_read) (by ke_read) (by ke_shaped) (by ke_shaped) (by ktr_units) ?_); ke_norm))
  w_top off
  refine wpAny_call ?_
  k_dflt cell_enter
  k_steps
  all_goals (refine hret _ _ _ _ (by assumption) (by assumption) ⟨rfl, ?_⟩; congr 1; symm; simp only [decide_eq_false_iff_not]; simp only [decide_eq_true_eq, decide_eq_false_iff_not] at *; omega)
set_option maxRecDepth 100000 in
set_option maxHeartbeats 8000000 in
theorem c_hparts {w : World} {news : Led} {v : Int} {t : Tok} (hv : v < 44032 ∨ 55204 ≤ v) : CC w 82 [.int v t] 2 news (fun news' y => news = news' ∧ .none = y) := by
  refine CC.mk ?_; k_fill; intro p loose mean mg mb dp un gd cn cs a ccd cl outer A₀ base h₀ L m s Q E B F X N T hk hdp hun hret
  have hMk : KstMark := kstMark
  k_with_none
  k_with "m_allIn" => first | exact List.forall_mem_nil _ | (refine sub_cons (by k_memK) ?_; k_extra "m_allIn") | (intro p9 h9; kst_mem)
  k_with "m_ra" => first | assumption | exact And.right (by first | assumption | exact And.right (by first | assumption | exact And.right (by first | assumption | exact And.right (by first | assumption | exact And.right (by first | assumption | exact And.right (by first | assumption | exact And.right (by first | assumption | exact And.right (by assumption))))))))
  k_with "m_and" => first | k_extra "m_ra" | exact And.left (by k_extra "m_ra")
  k_with "m_neA" => first | k_extra "m_and" | (refine Ne.symm ?_; k_extra "m_and") | (refine Nat.ne_of_lt ?_; k_extra "m_and") | (refine Nat.ne_of_gt ?_; k_extra "m_and") | (refine Nat.ne_of_lt (Nat.lt_succ_of_lt ?_); k_extra "m_and")
  k_with "m_lt" => first | assumption | exact allLt_of (by assumption) | k_extra "m_and"
  k_with "kst_in" => (try dsimp only); with_unfolding_all ((try simp only [List.nil_append, List.cons_append]); k_extra "m_allIn")
  k_with "k_ne" => refine neN ?_; (try dsimp only); first | (with_reducible assumption) | (with_reducible exact Ne.symm (by assumption)) | (with_reducible exact Nat.ne_of_lt (by assumption)) | (with_reducible exact Nat.ne_of_gt (by assumption)) | with_reducible k_extra "m_neA" | k_extra "m_neA" | omega
  k_with "k_all" => first | exact List.forall_mem_nil _ | assumption | exact lt_ne (by assumption) | exact lt_ne (by k_extra "m_lt") | exact lt_ne1 (by k_extra "m_lt") | (refine ne_cons ?_ ?_; (focus k_ne); k_all) | (refine List.forall_mem_cons.mpr (And.intro ?_ ?_); (focus k_ne); k_all)
  k_with "k_in" => (rename Fr _ _ _ _ => lF8); (rename Frag.In _ _ => lX8); exact Frag.In.keeps lX8 (Fr.keep lF8)
  k_with "ktr_room" => k_dflt (first | exact rmA (by assumption) (by exact rfl) | exact rmB (by assumption))
  k_with "ktr_units" => k_dflt (first | exact unA (by assumption) (by exact rfl) | exact unC (by assumption) (by exact rfl))
  k_with "MPost" => dsimp only [MPost]
  k_with "execs cons" => with_reducible refine gen_tok ?_; intro tk9
  k_with "m_for" => k_here; (rename Fr _ _ _ _ => lF'); k_dflt (refine' For_invVF ?zF ?zk1 ?zk2 ?_ ?zs ?ze; (case zF => exact lF'); (case zk1 => exact rfl); (case zk2 => exact rfl); (case zs => (intro _; rfl)); (case ze => passes_own); k_whole)
  k_with "exec For Name Name cons nil" => k_extra "m_for"
  k_with "exec For Name Subscript cons nil" => k_extra "m_for"
  k_with "exec For Name Call cons nil" => k_extra "m_for"
  k_with "exec For Name Attribute cons nil" => k_extra "m_for"
  k_with "exec For Name Tuple cons nil" => k_extra "m_for"
  k_with "compareOp NotEq ref ref" => k_here; (with_reducible show wpAny _ _ (compareOp CmpOp.NotEq (Value.ref _) (Value.ref _)) _ _ _); k_dflt (first | refine ke_ne_ints (by is_list) (by is_list) (by l_ints) (by l_ints) (by ktr_units) ?_ | ((refine ne_dataH (by ke_read) (by ke_read) (by ke_shaped) (by ke_shaped) (by ktr_units) ?_); ke_norm))
  k_with "compareOp Eq ref ref" => k_here; (with_reducible show wpAny _ _ (compareOp CmpOp.Eq (Value.ref _) (Value.ref _)) _ _ _); k_dflt (first | refine ke_eq_ints (by is_list) (by is_list) (by l_ints) (by l_ints) (by ktr_units) ?_ | ((refine eq_dataH (by ke_read) (by ke_read) (by ke_shaped) (by ke_shaped) (by ktr_units) ?_); ke_norm))
  w_top off
  k_with "call ref" =>
    with_reducible show wpAny _ _ (call (Value.ref 68) [Value.int _ _]) _ _ _
    refine cc_goE (c_ihs hv) ?_ (by k_asm) (by k_asm) (by k_asm) (by k_asm) (by k_asm) (by first | exact rfl | assumption) (by ktr_room) (by ktr_units)
    intro h9 tk9 F9 N9
    (try dsimp only); (try k_fold)
  refine wpAny_call ?_
  k_dflt cell_enter
  k_steps
  exact hret _ _ _ _ (by assumption) (by assumption) ⟨rfl, rfl⟩
set_option maxRecDepth 100000 in
set_option maxHeartbeats 8000000 in
theorem c_hpair {w : World} {news : Led} {v u : Int} {t t' : Tok} (hv : v < 44032 ∨ 55204 ≤ v) (hv2 : v < 4352 ∨ 4371 ≤ v) : CC w 89 [.int v t, .int u t'] 2 news (fun news' y => news = news' ∧ .none = y) := by
  refine CC.mk ?_; k_fill; intro p loose mean mg mb dp un gd cn cs a ccd cl outer A₀ base h₀ L m s Q E B F X N T hk hdp hun hret
  have hMk : KstMark := kstMark
  k_with_none
  k_with "m_allIn" => first | exact List.forall_mem_nil _ | (refine sub_cons (by k_memK) ?_; k_extra "m_allIn") | (intro p9 h9; kst_mem)
  k_with "m_ra" => first | assumption | exact And.right (by first | assumption | exact And.right (by first | assumption | exact And.right (by first | assumption | exact And.right (by first | assumption | exact And.right (by first | assumption | exact And.right (by first | assumption | exact And.right (by first | assumption | exact And.right (by assumption))))))))
  k_with "m_and" => first | k_extra "m_ra" | exact And.left (by k_extra "m_ra")
  k_with "m_neA" => first | k_extra "m_and" | (refine Ne.symm ?_; k_extra "m_and") | (refine Nat.ne_of_lt ?_; k_extra "m_and") | (refine Nat.ne_of_gt ?_; k_extra "m_and") | (refine Nat.ne_of_lt (Nat.lt_succ_of_lt ?_); k_extra "m_and")
  k_with "m_lt" => first | assumption | exact allLt_of (by assumption) | k_extra "m_and"
  k_with "kst_in" => (try dsimp only); with_unfolding_all ((try simp only [List.nil_append, List.cons_append]); k_extra "m_allIn")
  k_with "k_ne" => refine neN ?_; (try dsimp only); first | (with_reducible assumption) | (with_reducible exact Ne.symm (by assumption)) | (with_reducible exact Nat.ne_of_lt (by assumption)) | (with_reducible exact Nat.ne_of_gt (by assumption)) | with_reducible k_extra "m_neA" | k_extra "m_neA" | omega
  k_with "k_all" => first | exact List.forall_mem_nil _ | assumption | exact lt_ne (by assumption) | exact lt_ne (by k_extra "m_lt") | exact lt_ne1 (by k_extra "m_lt") | (refine ne_cons ?_ ?_; (focus k_ne); k_all) | (refine List.forall_mem_cons.mpr (And.intro ?_ ?_); (focus k_ne); k_all)
  k_with "k_in" => (rename Fr _ _ _ _ => lF8); (rename Frag.In _ _ => lX8); exact Frag.In.keeps lX8 (Fr.keep lF8)
  k_with "ktr_room" => k_dflt (first | exact rmA (by assumption) (by exact rfl) | exact rmB (by assumption))
  k_with "ktr_units" => k_dflt (first | exact unA (by assumption) (by exact rfl) | exact unC (by assumption) (by exact rfl))
  k_with "MPost" => dsimp only [MPost]
  k_with "execs cons" => with_reducible refine gen_tok ?_; intro tk9
  k_with "m_for" => k_here; (rename Fr _ _ _ _ => lF'); k_dflt (refine' For_invVF ?zF ?zk1 ?zk2 ?_ ?zs ?ze; (case zF => exact lF'); (case zk1 => exact rfl); (case zk2 => exact rfl); (case zs => (intro _; rfl)); (case ze => passes_own); k_whole)
  k_with "exec For Name Name cons nil" => k_extra "m_for"
  k_with "exec For Name Subscript cons nil" => k_extra "m_for"
  k_with "exec For Name Call cons nil" => k_extra "m_for"
  k_with "exec For Name Attribute cons nil" => k_extra "m_for"
  k_with "exec For Name Tuple cons nil" => k_extra "m_for"
  k_with "compareOp NotEq ref ref" => k_here; (with_reducible show wpAny _ _ (compareOp CmpOp.NotEq (Value.ref _) (Value.ref _)) _ _ _); k_dflt (first | refine ke_ne_ints (by is_list) (by is_list) (by l_ints) (by l_ints) (by ktr_units) ?_ | ((refine ne_dataH (by ke_read) (by ke_read) (by ke_shaped) (by ke_shaped) (by ktr_units) ?_); ke_norm))
  k_with "compareOp Eq ref ref" => k_here; (with_reducible show wpAny _ _ (compareOp CmpOp.Eq (Value.ref _) (Value.ref _)) _ _ _); k_dflt (first | refine ke_eq_ints (by is_list) (by is_list) (by l_ints) (by l_ints) (by ktr_units) ?_ | ((refine eq_dataH (by ke_read) (by ke_read) (by ke_shaped) (by ke_shaped) (by ktr_units) ?_); ke_norm))
  w_top off
  k_with "call ref" =>
    with_reducible show wpAny _ _ (call (Value.ref 68) [Value.int _ _]) _ _ _
    refine cc_goE (c_ihs hv) ?_ (by k_asm) (by k_asm) (by k_asm) (by k_asm) (by k_asm) (by first | exact rfl | assumption) (by ktr_room) (by ktr_units)
    intro h9 tk9 F9 N9
    (try dsimp only); (try k_fold)
  refine wpAny_call ?_
  k_dflt cell_enter
  k_steps
  all_goals trace_state
  all_goals first
    | exact hret _ _ _ _ (by assumption) (by assumption) ⟨rfl, rfl⟩
    | (exfalso; simp only [decide_eq_true_eq, decide_eq_false_iff_not] at *; omega)
end
section
theorem AL_h {c : Int} (hc : c ∈ AL) : c < 44032 ∨ 55204 ≤ c := (of_decide_eq_true rfl : ∀ c ∈ AL, c < 44032 ∨ 55204 ≤ c) c hc
theorem AL_h2 {c : Int} (hc : c ∈ AL) : c < 4352 ∨ 4371 ≤ c := (of_decide_eq_true rfl : ∀ c ∈ AL, c < 4352 ∨ 4371 ≤ c) c hc
def FmPost (news0 news : Led) (c : Int) (news' : Led) (y : Value) : Prop := news = news' ∧ ((prt c = none ∧ y = .none) ∨ ∃ b p q, prt c = some (p, q) ∧ y = .ref b ∧ TupI news0 b [p, q])
set_option maxRecDepth 100000 in
set_option maxHeartbeats 8000000 in
theorem c_fmap {w : World} {news0 news : Led} {d : Nat} {c : Int} {t : Tok} (hs : ∀ p ∈ news0, p ∈ news) (hD : DataOK w news0 d) (hc : c ∈ AL) : CC w 96 [.int c t, .ref d, .bool false] 6 news (FmPost news0 news c) := by
  refine CC.mk ?_; k_fill; intro p loose mean mg mb dp un gd cn cs a ccd cl outer A₀ base h₀ L m s Q E B F X N T hk hdp hun hret
  have hMk : KstMark := kstMark
  k_with_none
  k_with "m_allIn" => first | exact List.forall_mem_nil _ | (refine sub_cons (by k_memK) ?_; k_extra "m_allIn") | (intro p9 h9; kst_mem)
  k_with "m_ra" => first | assumption | exact And.right (by first | assumption | exact And.right (by first | assumption | exact And.right (by first | assumption | exact And.right (by first | assumption | exact And.right (by first | assumption | exact And.right (by first | assumption | exact And.right (by first | assumption | exact And.right (by assumption))))))))
  k_with "m_and" => first | k_extra "m_ra" | exact And.left (by k_extra "m_ra")
  k_with "m_neA" => first | k_extra "m_and" | (refine Ne.symm ?_; k_extra "m_and") | (refine Nat.ne_of_lt ?_; k_extra "m_and") | (refine Nat.ne_of_gt ?_; k_extra "m_and") | (refine Nat.ne_of_lt (Nat.lt_succ_of_lt ?_); k_extra "m_and")
  k_with "m_lt" => first | assumption | exact allLt_of (by assumption) | k_extra "m_and"
  k_with "kst_in" => (try dsimp only); with_unfolding_all ((try simp only [List.nil_append, List.cons_append]); k_extra "m_allIn")
  k_with "k_ne" => refine neN ?_; (try dsimp only); first | (with_reducible assumption) | (with_reducible exact Ne.symm (by assumption)) | (with_reducible exact Nat.ne_of_lt (by assumption)) | (with_reducible exact Nat.ne_of_gt (by assumption)) | with_reducible k_extra "m_neA" | k_extra "m_neA" | omega
  k_with "k_all" => first | exact List.forall_mem_nil _ | assumption | exact lt_ne (by assumption) | exact lt_ne (by k_extra "m_lt") | exact lt_ne1 (by k_extra "m_lt") | (refine ne_cons ?_ ?_; (focus k_ne); k_all) | (refine List.forall_mem_cons.mpr (And.intro ?_ ?_); (focus k_ne); k_all)
  k_with "k_in" => (rename Fr _ _ _ _ => lF8); (rename Frag.In _ _ => lX8); exact Frag.In.keeps lX8 (Fr.keep lF8)
  k_with "ktr_room" => k_dflt (first | exact rmA (by assumption) (by exact rfl) | exact rmB (by assumption))
  k_with "ktr_units" => k_dflt (first | exact unA (by assumption) (by exact rfl) | exact unC (by assumption) (by exact rfl))
  k_with "MPost" => dsimp only [MPost]
  k_with "execs cons" => with_reducible refine gen_tok ?_; intro tk9
  k_with "m_for" => k_here; (rename Fr _ _ _ _ => lF'); k_dflt (refine' For_invVF ?zF ?zk1 ?zk2 ?_ ?zs ?ze; (case zF => exact lF'); (case zk1 => exact rfl); (case zk2 => exact rfl); (case zs => (intro _; rfl)); (case ze => passes_own); k_whole)
  k_with "exec For Name Name cons nil" => k_extra "m_for"
  k_with "exec For Name Subscript cons nil" => k_extra "m_for"
  k_with "exec For Name Call cons nil" => k_extra "m_for"
  k_with "exec For Name Attribute cons nil" => k_extra "m_for"
  k_with "exec For Name Tuple cons nil" => k_extra "m_for"
  k_with "compareOp NotEq ref ref" => k_here; (with_reducible show wpAny _ _ (compareOp CmpOp.NotEq (Value.ref _) (Value.ref _)) _ _ _); k_dflt (first | refine ke_ne_ints (by is_list) (by is_list) (by l_ints) (by l_ints) (by ktr_units) ?_ | ((refine ne_dataH (by ke_read) (by ke_read) (by ke_shaped) (by ke_shaped) (by ktr_units) ?_); ke_norm))
  k_with "compareOp Eq ref ref" => k_here; (with_reducible show wpAny _ _ (compareOp CmpOp.Eq (Value.ref _) (Value.ref _)) _ _ _); k_dflt (first | refine ke_eq_ints (by is_list) (by is_list) (by l_ints) (by l_ints) (by ktr_units) ?_ | ((refine eq_dataH (by ke_read) (by ke_read) (by ke_shaped) (by ke_shaped) (by ktr_units) ?_); ke_norm))
  w_top off
  obtain ⟨dx, df, mp, pr, wd, u1, u2, u3, u4, n4, i1, i2⟩ := (hD.mono hs).inst
  k_with "call ref" =>
    with_reducible show wpAny _ _ (call (Value.ref 82) [Value.int _ _]) _ _ _
    refine cc_goE (c_hparts (AL_h hc)) ?_ (by k_asm) (by k_asm) (by k_asm) (by k_asm) (by k_asm) (by first | exact rfl | assumption) (by ktr_room) (by ktr_units)
    intro h9 tk9 F9 N9
    (try dsimp only); (try k_fold)
  k_with "call ref" =>
    with_reducible show wpAny _ _ (call (Value.ref 326) [Value.ref _, Value.str _ _, Value.int _ _]) _ _ _
    refine cc_go (g_dm hs hD hc _ _) ?_ (by k_asm) (by k_asm) (by k_asm) (by k_asm) (by k_asm) (by first | exact rfl | assumption) (by ktr_room) (by ktr_units)
    intro v9 news9 h9 tk9 F9 N9 P9
    rcases P9 with ⟨rfl, ⟨e9, rfl⟩ | ⟨a9, p9, q9, e9, rfl, ⟨z1, z2, z3, z4, z5, z6, z7, z8⟩⟩⟩
    all_goals ((try (have z7n := hs _ z7; have z8n := hs _ z8)); (try dsimp only); (try k_fold))
  refine wpAny_call ?_
  k_dflt cell_enter
  k_steps
  · exact hret _ _ _ _ (by assumption) (by assumption) ⟨rfl, .inl ⟨e9, rfl⟩⟩
  · exact hret _ _ _ _ (by assumption) (by assumption) ⟨rfl, .inr ⟨z2, p9, q9, e9, rfl, _, _, z8, .cons _ _ (.cons _ _ .nil)⟩⟩
theorem c_fmap0 {w : World} {news0 news : Led} {d : Nat} {c : Int} {t : Tok} (hs : ∀ p ∈ news0, p ∈ news) (hD : DataOK w news0 d) (hc : c ∈ AL) (hp : prt c = none) : CC w 96 [.int c t, .ref d, .bool false] 6 news (fun news' y => news = news' ∧ .none = y) :=
  (c_fmap hs hD hc).mono fun n v h => ⟨h.1, h.2.elim (fun e => e.2.symm) fun ⟨b, p, q, e, _⟩ => by rw [hp] at e; cases e⟩
theorem c_fmap1 {w : World} {news0 news : Led} {d : Nat} {c p q : Int} {t : Tok} (hs : ∀ p ∈ news0, p ∈ news) (hD : DataOK w news0 d) (hc : c ∈ AL) (hp : prt c = some (p, q)) : CC w 96 [.int c t, .ref d, .bool false] 6 news (fun news' y => news = news' ∧ ∃ b n t1 t2, .ref b = y ∧ (b, tupO (List.toArray [.int p t1, .int q t2]) n) ∈ news0) :=
  (c_fmap hs hD hc).mono fun n v h => ⟨h.1, h.2.elim (fun e => by rw [hp] at e; cases e.1) fun ⟨b, p', q', e, e2, ts, k, h1, h2⟩ => by
    rw [hp] at e
    cases e
    cases h2 with
    | cons x t1 h2 => cases h2 with
      | cons y t2 h2 => cases h2; exact ⟨b, k, t1, t2, e2.symm, h1⟩⟩
end
section
inductive NewL (news : Led) (xs : List Int) (news' : Led) (y : Value) : Prop
  | mk (r n : Nat) (vs : List Value) (q1 : Value.ref r = y) (q2 : (r, listOf vs.toArray n) :: news = news') (q3 : IntsAre vs xs) (q4 : AllLt r news) : NewL news xs news' y
theorem NewL.go {wz : World} {fz : Addr} {vz : List Value} {kz : Nat} {ledz : Led} {news : Led} {xs : List Int} (Cz : CC wz fz vz kz ledz (NewL news xs))
  {pz : Program} {lz : List Str} {mnz : ExcName → Option Value} {mgz mbz : Str → Option Value} {dpz unz : Nat} {gdz : Option (List Code)} {cnz : Str} {csz : Scope} {az : Addr} {cdz : Value} {clz : List (Str × Addr)} {otz : List Env} {A₀ : Around} {basez h₀ : Heap} {Lz : Addr} {mz : Str → Option Value} {sz : Shared} {Qz Ez : Value → Shared → Prop}
  (ret : ∀ (r n : Nat) (vs : List Value) (hz : Heap) (tkz : Nat), Fr h₀ Lz hz mz → News h₀ Lz hz ((r, listOf vs.toArray n) :: news) → (IntsAre vs xs) → (AllLt r news) → Qz (Value.ref r) { sz with heap := hz, toks := tkz })
  (F : Fr h₀ Lz sz.heap mz) (N : News h₀ Lz sz.heap ledz) (B : Below A₀ basez otz h₀) (X : (hd.heap_1_39 wz.params).In h₀) (T : Top pz lz mnz mgz mbz h₀) (hk : csz.kind = .function)
  (hd : dpz + kz < recursionLimit) (hu : unz + 8 * kz < cLine) :
    wpAny (model PySem.Challenge.rw_on0371_01.prog wz) (ktrTop dpz unz gdz cnz csz Lz az cdz clz otz) (call (.ref fz) vz) Qz Ez sz := by
  refine cc_go Cz (fun v news9 h9 tk9 F9 N9 P9 => ?_) F N B X T hk hd hu
  obtain ⟨r, n, vs, rfl, rfl, q3, q4⟩ := P9
  exact ret r n vs h9 tk9 F9 N9 q3 q4
theorem newL_end {news : Led} {xs : List Int} {h₀ h' : Heap} {L : Addr} {m : Str → Option Value} {s : Shared} {Q : Value → Shared → Prop} {tk' r n : Nat} {vs : List Value}
    (hret : ∀ (v : Value) (news' : Led) (h' : Heap) (tk' : Nat), Fr h₀ L h' m → News h₀ L h' news' → NewL news xs news' v → Q v { s with heap := h', toks := tk' })
    (F : Fr h₀ L h' m) (N : News h₀ L h' ((r, listOf vs.toArray n) :: news)) (hi : IntsAre vs xs) (hl : AllLt r news) : Q (.ref r) { s with heap := h', toks := tk' } :=
  hret _ _ _ _ F N ⟨r, n, vs, rfl, rfl, hi, hl⟩
set_option maxRecDepth 100000 in
set_option maxHeartbeats 8000000 in
theorem c_fexp0 {w : World} {news : Led} {d : Nat} {c : Int} {t : Tok} (hD : DataOK w news d) (hc : c ∈ AL) (hp : prt c = none) : CC w 103 [.int c t, .ref d, .bool false] 20 news (NewL news [c]) := by
  refine CC.mk ?_; k_fill; intro p loose mean mg mb dp un gd cn cs a ccd cl outer A₀ base h₀ L m s Q E B F X N T hk hdp hun hret
  have hMk : KstMark := kstMark
  k_with_none
  k_with "m_allIn" => first | exact List.forall_mem_nil _ | (refine sub_cons (by k_memK) ?_; k_extra "m_allIn") | (intro p9 h9; kst_mem)
  k_with "m_ra" => first | assumption | exact And.right (by first | assumption | exact And.right (by first | assumption | exact And.right (by first | assumption | exact And.right (by first | assumption | exact And.right (by first | assumption | exact And.right (by first | assumption | exact And.right (by first | assumption | exact And.right (by assumption))))))))
  k_with "m_and" => first | k_extra "m_ra" | exact And.left (by k_extra "m_ra")
  k_with "m_neA" => first | k_extra "m_and" | (refine Ne.symm ?_; k_extra "m_and") | (refine Nat.ne_of_lt ?_; k_extra "m_and") | (refine Nat.ne_of_gt ?_; k_extra "m_and") | (refine Nat.ne_of_lt (Nat.lt_succ_of_lt ?_); k_extra "m_and")
  k_with "m_lt" => first | assumption | exact allLt_of (by assumption) | k_extra "m_and"
  k_with "kst_in" => (try dsimp only); with_unfolding_all ((try simp only [List.nil_append, List.cons_append]); k_extra "m_allIn")
  k_with "k_ne" => refine neN ?_; (try dsimp only); first | (with_reducible assumption) | (with_reducible exact Ne.symm (by assumption)) | (with_reducible exact Nat.ne_of_lt (by assumption)) | (with_reducible exact Nat.ne_of_gt (by assumption)) | with_reducible k_extra "m_neA" | k_extra "m_neA" | omega
  k_with "k_all" => first | exact List.forall_mem_nil _ | assumption | exact lt_ne (by assumption) | exact lt_ne (by k_extra "m_lt") | exact lt_ne1 (by k_extra "m_lt") | (refine ne_cons ?_ ?_; (focus k_ne); k_all) | (refine List.forall_mem_cons.mpr (And.intro ?_ ?_); (focus k_ne); k_all)
  k_with "k_in" => (rename Fr _ _ _ _ => lF8); (rename Frag.In _ _ => lX8); exact Frag.In.keeps lX8 (Fr.keep lF8)
  k_with "ktr_room" => k_dflt (first | exact rmA (by assumption) (by exact rfl) | exact rmB (by assumption))
  k_with "ktr_units" => k_dflt (first | exact unA (by assumption) (by exact rfl) | exact unC (by assumption) (by exact rfl))
  k_with "MPost" => dsimp only [MPost]
  k_with "execs cons" => with_reducible refine gen_tok ?_; intro tk9
  k_with "m_for" => k_here; (rename Fr _ _ _ _ => lF'); k_dflt (refine' For_invVF ?zF ?zk1 ?zk2 ?_ ?zs ?ze; (case zF => exact lF'); (case zk1 => exact rfl); (case zk2 => exact rfl); (case zs => (intro _; rfl)); (case ze => passes_own); k_whole)
  k_with "exec For Name Name cons nil" => k_extra "m_for"
  k_with "exec For Name Subscript cons nil" => k_extra "m_for"
  k_with "exec For Name Call cons nil" => k_extra "m_for"
  k_with "exec For Name Attribute cons nil" => k_extra "m_for"
  k_with "exec For Name Tuple cons nil" => k_extra "m_for"
  k_with "compareOp NotEq ref ref" => k_here; (with_reducible show wpAny _ _ (compareOp CmpOp.NotEq (Value.ref _) (Value.ref _)) _ _ _); k_dflt (first | refine ke_ne_ints (by is_list) (by is_list) (by l_ints) (by l_ints) (by ktr_units) ?_ | ((refine ne_dataH (by ke_read) (by ke_read) (by ke_shaped) (by ke_shaped) (by ktr_units) ?_); ke_norm))
  k_with "compareOp Eq ref ref" => k_here; (with_reducible show wpAny _ _ (compareOp CmpOp.Eq (Value.ref _) (Value.ref _)) _ _ _); k_dflt (first | refine ke_eq_ints (by is_list) (by is_list) (by l_ints) (by l_ints) (by ktr_units) ?_ | ((refine eq_dataH (by ke_read) (by ke_read) (by ke_shaped) (by ke_shaped) (by ktr_units) ?_); ke_norm))
  w_top off
  k_with "m_reads" => first | exact ReadsAll.nil | exact ReadsAll.cons (by first | exact Reads.none | exact Reads.int _ _ | exact Reads.bool _) (by walk_at "m_reads")
  k_with "compareOp NotEq ref ref" =>
    k_dflt (refine' m_cmpNe ?N ?ha ?hb ?r ?hs ?hu ?_; (case N => k_asm); (case ha => k_mem); (case hb => k_mem); (case r => walk_at "m_reads"); (case hs => rfl); (case hu => ktr_units))
    (simp only [List.isEmpty_cons, List.isEmpty_nil, Bool.not_true, Bool.not_false])
  k_with "call ref" =>
    with_reducible show wpAny _ _ (call (Value.ref 96) [Value.int _ _, Value.ref _, Value.bool _]) _ _ _
    refine cc_goE (c_fmap0 ?kM hD hc hp) ?_ (by k_asm) (by k_asm) (by k_asm) (by k_asm) (by k_asm) (by first | exact rfl | assumption) (by ktr_room) (by ktr_units)
    (case kM => kst_in)
    intro h9 tk9 F9 N9
    (try dsimp only); (try k_sweep); (try k_fold)
  refine wpAny_call ?_
  k_dflt cell_enter
  k_steps
  exact newL_end hret (by assumption) (kst_newsOf (by assumption) (by kst_in)) (.cons _ _ .nil) (by walk_at "m_lt")
set_option maxRecDepth 100000 in
set_option maxHeartbeats 8000000 in
theorem c_fexp1 {w : World} {news : Led} {d : Nat} {c x y : Int} {t : Tok} (hD : DataOK w news d) (hc : c ∈ AL) (hp : prt c = some (x, y)) (hx : x ∈ AL) (hy : y ∈ AL) (hx0 : prt x = none) (hy0 : prt y = none) : CC w 103 [.int c t, .ref d, .bool false] 20 news (NewL news [x, y]) := by
  refine CC.mk ?_; k_fill; intro p loose mean mg mb dp un gd cn cs a ccd cl outer A₀ base h₀ L m s Q E B F X N T hk hdp hun hret
  have hMk : KstMark := kstMark
  k_with_none
  k_with "m_allIn" => first | exact List.forall_mem_nil _ | (refine sub_cons (by k_memK) ?_; k_extra "m_allIn") | (intro p9 h9; kst_mem)
  k_with "m_ra" => first | assumption | exact And.right (by first | assumption | exact And.right (by first | assumption | exact And.right (by first | assumption | exact And.right (by first | assumption | exact And.right (by first | assumption | exact And.right (by first | assumption | exact And.right (by first | assumption | exact And.right (by assumption))))))))
  k_with "m_and" => first | k_extra "m_ra" | exact And.left (by k_extra "m_ra")
  k_with "m_neA" => first | k_extra "m_and" | (refine Ne.symm ?_; k_extra "m_and") | (refine Nat.ne_of_lt ?_; k_extra "m_and") | (refine Nat.ne_of_gt ?_; k_extra "m_and") | (refine Nat.ne_of_lt (Nat.lt_succ_of_lt ?_); k_extra "m_and")
  k_with "m_lt" => first | assumption | exact allLt_of (by assumption) | k_extra "m_and"
  k_with "kst_in" => (try dsimp only); with_unfolding_all ((try simp only [List.nil_append, List.cons_append]); k_extra "m_allIn")
  k_with "k_ne" => refine neN ?_; (try dsimp only); first | (with_reducible assumption) | (with_reducible exact Ne.symm (by assumption)) | (with_reducible exact Nat.ne_of_lt (by assumption)) | (with_reducible exact Nat.ne_of_gt (by assumption)) | with_reducible k_extra "m_neA" | k_extra "m_neA" | omega
  k_with "k_all" => first | exact List.forall_mem_nil _ | assumption | exact lt_ne (by assumption) | exact lt_ne (by k_extra "m_lt") | exact lt_ne1 (by k_extra "m_lt") | (refine ne_cons ?_ ?_; (focus k_ne); k_all) | (refine List.forall_mem_cons.mpr (And.intro ?_ ?_); (focus k_ne); k_all)
  k_with "k_in" => (rename Fr _ _ _ _ => lF8); (rename Frag.In _ _ => lX8); exact Frag.In.keeps lX8 (Fr.keep lF8)
  k_with "ktr_room" => k_dflt (first | exact rmA (by assumption) (by exact rfl) | exact rmB (by assumption))
  k_with "ktr_units" => k_dflt (first | exact unA (by assumption) (by exact rfl) | exact unC (by assumption) (by exact rfl))
  k_with "MPost" => dsimp only [MPost]
  k_with "execs cons" => with_reducible refine gen_tok ?_; intro tk9
  k_with "m_for" => k_here; (rename Fr _ _ _ _ => lF'); k_dflt (refine' For_invVF ?zF ?zk1 ?zk2 ?_ ?zs ?ze; (case zF => exact lF'); (case zk1 => exact rfl); (case zk2 => exact rfl); (case zs => (intro _; rfl)); (case ze => passes_own); k_whole)
  k_with "exec For Name Name cons nil" => k_extra "m_for"
  k_with "exec For Name Subscript cons nil" => k_extra "m_for"
  k_with "exec For Name Call cons nil" => k_extra "m_for"
  k_with "exec For Name Attribute cons nil" => k_extra "m_for"
  k_with "exec For Name Tuple cons nil" => k_extra "m_for"
  k_with "compareOp NotEq ref ref" => k_here; (with_reducible show wpAny _ _ (compareOp CmpOp.NotEq (Value.ref _) (Value.ref _)) _ _ _); k_dflt (first | refine ke_ne_ints (by is_list) (by is_list) (by l_ints) (by l_ints) (by ktr_units) ?_ | ((refine ne_dataH (by ke_read) (by ke_read) (by ke_shaped) (by ke_shaped) (by ktr_units) ?_); ke_norm))
  k_with "compareOp Eq ref ref" => k_here; (with_reducible show wpAny _ _ (compareOp CmpOp.Eq (Value.ref _) (Value.ref _)) _ _ _); k_dflt (first | refine ke_eq_ints (by is_list) (by is_list) (by l_ints) (by l_ints) (by ktr_units) ?_ | ((refine eq_dataH (by ke_read) (by ke_read) (by ke_shaped) (by ke_shaped) (by ktr_units) ?_); ke_norm))
  w_top off
  k_with "m_reads" => first | exact ReadsAll.nil | exact ReadsAll.cons (by first | exact Reads.none | exact Reads.int _ _ | exact Reads.bool _) (by walk_at "m_reads")
  k_with "compareOp NotEq ref ref" =>
    k_dflt (refine' m_cmpNe ?N ?ha ?hb ?r ?hs ?hu ?_; (case N => k_asm); (case ha => k_mem); (case hb => k_mem); (case r => walk_at "m_reads"); (case hs => rfl); (case hu => ktr_units))
    (simp only [List.isEmpty_cons, List.isEmpty_nil, Bool.not_true, Bool.not_false])
  k_with "call ref" =>
    with_reducible show wpAny _ _ (call (Value.ref 96) [Value.int _ _, Value.ref _, Value.bool _]) _ _ _
    first
      | refine cc_go (c_fmap0 ?kM hD hx hx0) ?_ (by k_asm) (by k_asm) (by k_asm) (by k_asm) (by k_asm) (by first | exact rfl | assumption) (by ktr_room) (by ktr_units)
      | refine cc_go (c_fmap0 ?kM hD hy hy0) ?_ (by k_asm) (by k_asm) (by k_asm) (by k_asm) (by k_asm) (by first | exact rfl | assumption) (by ktr_room) (by ktr_units)
      | refine cc_go (c_fmap1 ?kM hD hc hp) ?_ (by k_asm) (by k_asm) (by k_asm) (by k_asm) (by k_asm) (by first | exact rfl | assumption) (by ktr_room) (by ktr_units)
    (case kM => kst_in)
    intro v9 news9 h9 tk9 F9 N9 P9
    first
      | (obtain ⟨rfl, b9, n9, t9, t8, rfl, m9⟩ := P9)
      | (obtain ⟨rfl, rfl⟩ := P9)
    (try dsimp only); (try k_sweep); (try k_fold)
  k_with "subscriptTail Name Slice ref ref" =>
    k_dflt (refine' m_rev2 ?F ?N ?M ?_ ?s ?t); (case F => k_asm); (case N => k_asm); (case M => k_mem); (case s => with_unfolding_all rfl); (case t => (intro _; with_unfolding_all rfl))
    intro D' h' F' N' l1; (try k_lt l1); (try k_sweep)
  k_with "pyIter ref" =>
    rename Fr _ _ _ _ => lF'
    rename News _ _ _ _ => lN'
    k_dflt (refine' munr_tup rfl lF' lN' ?h ?hm); (case hm => k_mem)
    refine ⟨by k_mem, ?_⟩
    clear lF' lN'
    intro I9 oI9 h9 tk9 hne9 F9 N9
    (have g9 := gnNe_of hne9); (dsimp only [GnNe] at g9)
    (try k_fold)
  k_with "MEnd" =>
    refine ⟨_, _, _, _, rfl, by assumption, by assumption, ?h1, ?_⟩
    (case h1 => exact ne_map hne9 rfl)
    first
      | (refine ⟨by k_mem, ?_⟩; intro I9 oI9 h9 tk9 hne9 F9 N9; (have g9 := gnNe_of hne9); (dsimp only [GnNe] at g9); (try k_fold))
      | (refine ⟨by k_mem, ?_⟩; intro h9 tk9 F9 N9)
  refine wpAny_call ?_
  k_dflt cell_enter
  k_steps
  exact newL_end hret (by assumption) (kst_newsOf (by assumption) (by kst_in)) (.cons _ _ (.cons _ _ .nil)) (by walk_at "m_lt")
def exp1 (c : Int) : List Int := if c = 233 then [101, 769] else if c = 201 then [69, 769] else [c]
theorem c_fexp {w : World} {news : Led} {d : Nat} {c : Int} {t : Tok} (hD : DataOK w news d) (hc : c ∈ AL) : CC w 103 [.int c t, .ref d, .bool false] 20 news (NewL news (exp1 c)) := by
  by_cases h1 : c = 233
  · subst h1; exact c_fexp1 hD hc rfl (by decide) (by decide) rfl rfl
  · by_cases h2 : c = 201
    · subst h2; exact c_fexp1 hD hc rfl (by decide) (by decide) rfl rfl
    · have e : exp1 c = [c] := by simp [exp1, h1, h2]
      rw [e]
      exact c_fexp0 hD hc (by simp [prt, h1, h2])
end
section
local macro_rules | `(tactic| k_room) => `(tactic| ktr_room)
inductive Pr (news : Led) (v : Value) (c : Int) : Prop
  | mk (a n : Nat) (t1 t2 : Tok) (q1 : v = .ref a) (q2 : (a, tupO (List.toArray [.int (cls c) t1, .int c t2]) n) ∈ news) : Pr news v c
def PairL (news : Led) (vs : List Value) (cs : List Int) : Prop := vs.length = cs.length ∧ ∀ (i : Nat) (v : Value) (c : Int), vs[i]? = some v → cs[i]? = some c → Pr news v c
theorem PairL.mono {news news' : Led} {vs : List Value} {cs : List Int} (h : PairL news vs cs) (hs : ∀ p ∈ news, p ∈ news') : PairL news' vs cs :=
  ⟨h.1, fun i v c h1 h2 => let ⟨a, n, t1, t2, e, hm⟩ := h.2 i v c h1 h2; ⟨a, n, t1, t2, e, hs _ hm⟩⟩
theorem chd {K : Frag} {h : Heap} {c P : Addr} {o : Obj} (X : K.In h) (e : K.lookup c = some o) (e2 : codeHdIn [(c, o)] c P = true) : CodeHd h c P := by
  refine codeHd_of_K X ?_
  have e3 : List.lookup c [(c, o)] = some o := by simp [List.lookup]
  unfold codeHdIn at e2 ⊢
  rw [e3] at e2
  rw [e]
  exact e2
theorem m_pairRest {prog : Program} {w : World} {A : Around} {h₀ : Heap} {L : Addr} {m : Str → Option Value} {env : Env} {b a : Str} {pos : Pos} {scope : Scope} {cl : List (Str × Addr)} {s : Shared} {ax : Addr} {nn : Nat} {Fin : List Value → List (Addr × Obj) → Prop} {news : List (Addr × Obj)} {vs : List Value} {cs : List Int}
    (hp : PairL news vs cs) (hs : (ax, listOf vs.toArray nn) ∈ news) (hk : scope.names.lookup b = some .local) (hkd : scope.kind = .function) (hd : (b == ("__debug__" : Str)) = false)
    (fin : ∀ ys, IntsAre ys cs → Fin ys news) :
    LCp.CompRestP prog w A h₀ L m env (.Name b pos) a b scope cl s (LCg.SrcAt h₀ ax vs.toArray) (fun i v => vs.toArray[i]? = some v) Fin vs.toArray.size 0 [] news := by
  have key : ∀ (j i : Nat) (ys : List Value), i + j = vs.length → IntsAre ys (cs.take i) → LCp.CompRestP prog w A h₀ L m env (.Name b pos) a b scope cl s (LCg.SrcAt h₀ ax vs.toArray) (fun i v => vs.toArray[i]? = some v) Fin j i ys news := by
    intro j
    induction j with
    | zero =>
      intro i ys hi hy
      have e : cs.take i = cs := List.take_of_length_le (by have := hp.1; omega)
      exact fin ys (e ▸ hy)
    | succ j ih =>
      intro i ys hi hy
      refine LCp.CompRestP.succ fun v hv => ?_
      have hil : i < cs.length := by have := hp.1; omega
      have hv' : vs[i]? = some v := by simpa using hv
      have hc' : cs[i]? = some cs[i] := List.getElem?_eq_getElem hil
      obtain ⟨t, n, t1, t2, rfl, hm⟩ := hp.2 i v _ hv' hc'
      refine ⟨t, _, _, _, n, rfl, hm, rfl, rfl, fun I oI C oC D m₂ h tk E' hC h1 h2 F N off ne => ?_⟩
      refine LCgL.ld_own N (List.mem_cons_of_mem _ (List.mem_cons_self ..)) hC h2 ?_ (by simp [compEnvC, relabel, hkd]) (lookup_relabel_local hk) hd
      refine ⟨h, tk, news, rfl, F, N, off, .inr ⟨_, hs, rfl, _, rfl⟩, ih (i + 1) _ (by omega) ?_⟩
      rw [List.take_add_one, hc']
      exact IntsAre.append hy (.cons cs[i] t2 .nil)
  have h0 := key vs.length 0 [] (by omega) (by simpa using IntsAre.nil)
  simpa using h0
def dcd (k : Int) : Int := if k = 230 then 769 else 803
theorem dcd_cls {c : Int} (h : c = 769 ∨ c = 803) : dcd (cls c) = c := by rcases h with rfl | rfl <;> rfl
theorem pairL_sorted {news : Led} {vs out : List Value} {cs : List Int} (hp : PairL news vs cs) (hc : ∀ c ∈ cs, c = 769 ∨ c = 803) (ko : KskOut false (cs.map cls) vs out) :
    ∃ cs', PairL news out cs' ∧ cs'.Perm cs ∧ cs'.Pairwise (fun x y => cls x ≤ cls y) := by
  obtain ⟨ps, hperm, rfl, hsort⟩ := ko
  have hlen : (cs.map cls).length = vs.length := by rw [List.length_map]; exact hp.1.symm
  have hin : ∀ q ∈ ps, Pr news q.2 (dcd q.1) ∧ (dcd q.1 = 769 ∨ dcd q.1 = 803) ∧ cls (dcd q.1) = q.1 := by
    intro q hq
    have hq' := hperm.mem_iff.mp hq
    obtain ⟨i, hi, e⟩ := List.getElem_of_mem hq'
    rw [List.getElem_zip] at e
    have hi' := hi
    rw [List.length_zip] at hi
    have h1 : i < cs.length := by rw [List.length_map] at hi; omega
    have h2 : i < vs.length := by omega
    have e1 : q.1 = cls cs[i] := by rw [← e]; simp
    have e2 : q.2 = vs[i] := by rw [← e]
    have hci := hc cs[i] (List.getElem_mem h1)
    rw [e1, dcd_cls hci, e2]
    exact ⟨hp.2 i _ _ (List.getElem?_eq_getElem h2) (List.getElem?_eq_getElem h1), hci, rfl⟩
  refine ⟨ps.map fun q => dcd q.1, ⟨by rw [List.length_map, List.length_map], fun i v c h1 h2 => ?_⟩, ?_, ?_⟩
  · rw [List.getElem?_map] at h1 h2
    cases e : ps[i]? with
    | none => rw [e] at h1; cases h1
    | some q =>
      rw [e] at h1 h2
      cases h1; cases h2
      exact (hin q (List.mem_of_getElem? e)).1
  · have h1 := hperm.map (fun q => dcd q.1)
    refine h1.trans ?_
    have e : (List.zip (cs.map cls) vs).map (fun q => dcd q.1) = ((List.zip (cs.map cls) vs).map Prod.fst).map dcd := by rw [List.map_map]; rfl
    rw [e, List.map_fst_zip (by omega), List.map_map]
    have : cs.map (dcd ∘ cls) = cs := by
      conv => rhs; rw [← List.map_id cs]
      exact List.map_congr_left fun c hcm => dcd_cls (hc c hcm)
    rw [this]
  · rw [List.pairwise_map]
    refine hsort.imp_of_mem fun {x y} hx hy hxy => ?_
    rw [(hin x hx).2.2, (hin y hy).2.2]
    simpa using hxy
theorem m_sortPairs {prog : Program} {w : World} {A : Around} {E : Value → Shared → Prop} {s : Shared} {h₀ : Heap} {L : Addr} {m : Str → Option Value} {news : Led} {l k : Nat} {vs : List Value} {cs : List Int} {f : Addr} {kw : List (Str × Value)} {Q : Value → Shared → Prop}
    (F : Fr h₀ L s.heap m) (N : News h₀ L s.heap news) (hl : (l, listOf vs.toArray k) ∈ news) (hp : PairL news vs cs) (h64 : cs.length < 64) (hc : ∀ c ∈ cs, c = 769 ∨ c = 803)
    (ha1 : argsOk "sorted" ⟨[.ref l], kw⟩) (ha2 : ∀ x, argsOk "list.sort" ⟨[.ref x], kw⟩) (ht : ∀ x, Builtin.«list.sort» ⟨[.ref x], kw⟩ = ksk_tree x (.ref f) false)
    (turn : ∀ (t n : Nat) (u1 u2 : Tok) (c : Int) (h : Heap) (tk : Nat) (own : Led), (t, tupO (List.toArray [.int (cls c) u1, .int c u2]) n) ∈ news → Fr h₀ L h m → News h₀ L h (news ++ own) →
      wpAny (model prog w) A.in1.in1 (call (.ref f) [.ref t]) (KskEnd h₀ L m (news ++ own) (cls c) { s with heap := h, toks := tk }) (fun _ _ => False) { s with heap := h, toks := tk })
    (done : ∀ D h' tk vs' cs' c, Fr h₀ L h' m → News h₀ L h' ((D, listOf (List.toArray vs') c) :: news) → AllLt D news → PairL news vs' cs' → cs'.Perm cs → cs'.Pairwise (fun x y => cls x ≤ cls y) → Q (.ref D) { s with heap := h', toks := tk }) :
    wpAny (model prog w) A (call (.builtin "sorted") [.ref l] kw) Q E s := by
  refine ksk_sorted (kz := cs.map cls) F N ⟨_, (N _ hl).1, rfl, k, rfl⟩ (by rw [List.length_map]; exact hp.1.symm) (by have := hp.1; omega) ha1 ha2 ht ?_ ?_
  · intro i9 v9 c9 hv9 hc9 h9 tk9 own9 F8 N8
    have hi9 : i9 < cs.length := by have := List.getElem?_eq_some_iff.mp hc9; simpa using this.1
    rw [List.getElem?_map, List.getElem?_eq_getElem hi9] at hc9
    obtain ⟨t9, n9, u9, u8, rfl, hm9⟩ := hp.2 i9 v9 _ hv9 (List.getElem?_eq_getElem hi9)
    cases hc9
    exact turn t9 n9 u9 u8 _ h9 tk9 own9 hm9 F8 N8
  · intro D9 h9 tk9 out9 c9 F8 N8 l9 ko9
    obtain ⟨cs8, hp8, hq8, hs8⟩ := pairL_sorted hp hc ko9
    refine done D9 h9 tk9 out9.toList cs8 c9 F8 ?_ (allLt_of l9) hp8 hq8 hs8
    rw [Array.toArray_toList]
    exact N8
def srt (cs : List Int) : List Int := cs.filter (· == 803) ++ cs.filter (· == 769)
theorem srt_of {cs' cs : List Int} (hq : cs'.Perm cs) (hs : cs'.Pairwise (fun x y => cls x ≤ cls y)) (hc : ∀ c ∈ cs, c = 769 ∨ c = 803) : cs' = srt cs := by
  have key : ∀ l : List Int, (∀ c ∈ l, c = 769 ∨ c = 803) → l.Pairwise (fun x y => cls x ≤ cls y) → l = l.filter (· == 803) ++ l.filter (· == 769) := by
    intro l
    induction l with
    | nil => intro _ _; rfl
    | cons a l ih =>
      intro h1 h2
      obtain ⟨h3, h4⟩ := List.pairwise_cons.mp h2
      have ih' := ih (fun c hc => h1 c (.tail _ hc)) h4
      rcases h1 a (.head _) with rfl | rfl
      · have h5 : l.filter (· == 803) = [] := by
          rw [List.filter_eq_nil_iff]
          intro c hcm e
          have e' : c = 803 := by simpa using e
          subst e'
          have := h3 803 hcm
          simp [cls] at this
        rw [h5] at ih'
        simp only [List.nil_append] at ih'
        simp [h5, ← ih']
      · simp [← ih']
  have h1 := key cs' (fun c hcm => hc c (hq.mem_iff.mp hcm)) hs
  rw [h1]
  unfold srt
  have e1 : cs'.filter (· == 803) = cs.filter (· == 803) := by
    have h := hq.filter (· == 803)
    have a1 := List.eq_replicate_of_mem (l := cs'.filter (· == 803)) (a := (803 : Int)) (fun b hb => by simpa using (List.mem_filter.mp hb).2)
    have a2 := List.eq_replicate_of_mem (l := cs.filter (· == 803)) (a := (803 : Int)) (fun b hb => by simpa using (List.mem_filter.mp hb).2)
    rw [a1, a2, h.length_eq]
  have e2 : cs'.filter (· == 769) = cs.filter (· == 769) := by
    have h := hq.filter (· == 769)
    have a1 := List.eq_replicate_of_mem (l := cs'.filter (· == 769)) (a := (769 : Int)) (fun b hb => by simpa using (List.mem_filter.mp hb).2)
    have a2 := List.eq_replicate_of_mem (l := cs.filter (· == 769)) (a := (769 : Int)) (fun b hb => by simpa using (List.mem_filter.mp hb).2)
    rw [a1, a2, h.length_eq]
  rw [e1, e2]
abbrev tabF (c : Nat) : Obj := tabObj (#[] ++ #[rawInt (92 : Int), rawInt (53 : Int), Value.ref c])
inductive TabC (o : Obj) : Prop
  | mk (vs : Array Value) (t : Tok) (q1 : o.data = .fields vs) (q2 : vs[1]? = some (.str (Str.ofString "form_sorted.<locals>.<lambda>") t)) : TabC o
inductive FsPost (cs : List Int) (news news' : Led) (y : Value) : Prop
  | mk (r n : Nat) (vs : List Value) (c' : Nat) (oc : Obj) (q1 : y = .ref r) (q2 : news' = (r, listOf vs.toArray n) :: (112, tabF c') :: (c', oc) :: news) (q3 : (∀ p ∈ (112, tabF c') :: (c', oc) :: news, p.1 ≠ r)) (q4 : IntsAre vs (srt cs)) (q5 : TabC oc) (q6 : c' ≠ 112) (q7 : ∀ p ∈ news, p.1 ≠ c') : FsPost cs news news' y
theorem FsPost.go {wz : World} {fz : Addr} {vz : List Value} {kz : Nat} {ledz : Led} {cs : List Int} {news : Led} (Cz : CC wz fz vz kz ledz (FsPost cs news))
  {pz : Program} {lz : List Str} {mnz : ExcName → Option Value} {mgz mbz : Str → Option Value} {dpz unz : Nat} {gdz : Option (List Code)} {cnz : Str} {csz : Scope} {az : Addr} {cdz : Value} {clz : List (Str × Addr)} {otz : List Env} {A₀ : Around} {basez h₀ : Heap} {Lz : Addr} {mz : Str → Option Value} {sz : Shared} {Qz Ez : Value → Shared → Prop}
  (ret : ∀ (r n : Nat) (vs : List Value) (c' : Nat) (oc : Obj) (hz : Heap) (tkz : Nat), Fr h₀ Lz hz mz → News h₀ Lz hz ((r, listOf vs.toArray n) :: (112, tabF c') :: (c', oc) :: news) → ((∀ p ∈ (112, tabF c') :: (c', oc) :: news, p.1 ≠ r)) → (IntsAre vs (srt cs)) → (TabC oc) → (c' ≠ 112) → (∀ p ∈ news, p.1 ≠ c') → Qz (.ref r) { sz with heap := hz, toks := tkz })
  (F : Fr h₀ Lz sz.heap mz) (N : News h₀ Lz sz.heap ledz) (B : Below A₀ basez otz h₀) (X : (hd.heap_1_39 wz.params).In h₀) (T : Top pz lz mnz mgz mbz h₀) (hk : csz.kind = .function)
  (hd : dpz + kz < recursionLimit) (hu : unz + 8 * kz < cLine) :
    wpAny (model PySem.Challenge.rw_on0371_01.prog wz) (ktrTop dpz unz gdz cnz csz Lz az cdz clz otz) (call (.ref fz) vz) Qz Ez sz := by
  refine cc_go Cz (fun v news9 h9 tk9 F9 N9 P9 => ?_) F N B X T hk hd hu
  obtain ⟨r, n, vs, c', oc, rfl, rfl, q3, q4, q5, q6, q7⟩ := P9
  exact ret r n vs c' oc h9 tk9 F9 N9 q3 q4 q5 q6 q7
theorem off1_mem {D : Addr} : ∀ {l : Led}, LCg.Off1 D l → ∀ p ∈ l, p.1 ≠ D
  | [], _, _, h => nomatch h
  | _ :: _, x, p, h => by
    rcases List.mem_cons.mp h with rfl | h
    · exact x.1
    · exact off1_mem x.2 p h
theorem CC.led {w : World} {f : Addr} {vs : List Value} {k : Nat} {news news2 : Led} {Post : Led → Value → Prop} (C : CC w f vs k news Post) (h : ∀ p ∈ news, p ∈ news2) : CC w f vs k news2 Post :=
  ⟨fun B F X N T hk hd hu ret => C.go B F X (fun p hp => N p (h p hp)) T hk hd hu ret⟩
set_option maxRecDepth 100000 in
set_option maxHeartbeats 2000000 in
theorem c_fs0 {w : World} {news : Led} {l k : Nat} {vs : List Value} {cs9 : List Int} (hl : (l, listOf vs.toArray k) ∈ news) (hp : PairL news vs cs9) (h64 : cs9.length < 64) (hc : ∀ c ∈ cs9, c = 769 ∨ c = 803) (h112 : ∀ p ∈ news, p.1 ≠ 112) :
    CC w 115 [.ref l] 20 ((112, tabObj #[]) :: news) (FsPost cs9 news) := by
  refine CC.mk ?_; k_fill; intro p loose mean mg mb dp un gd cn cs a ccd cl outer A₀ base h₀ L m s Q E B F X N T hk hdp hun hret
  have hMk : KstMark := kstMark
  k_with_none
  k_with "m_allIn" => first | exact List.forall_mem_nil _ | (refine sub_cons (by k_memK) ?_; k_extra "m_allIn") | (intro p9 h9; kst_mem)
  k_with "m_ra" => first | assumption | exact And.right (by first | assumption | exact And.right (by first | assumption | exact And.right (by first | assumption | exact And.right (by first | assumption | exact And.right (by first | assumption | exact And.right (by first | assumption | exact And.right (by first | assumption | exact And.right (by assumption))))))))
  k_with "m_and" => first | k_extra "m_ra" | exact And.left (by k_extra "m_ra")
  k_with "m_neA" => first | k_extra "m_and" | (refine Ne.symm ?_; k_extra "m_and") | (refine Nat.ne_of_lt ?_; k_extra "m_and") | (refine Nat.ne_of_gt ?_; k_extra "m_and") | (refine Nat.ne_of_lt (Nat.lt_succ_of_lt ?_); k_extra "m_and")
  k_with "m_lt" => first | assumption | exact allLt_of (by assumption) | k_extra "m_and"
  k_with "kst_in" => (try dsimp only); with_unfolding_all ((try simp only [List.nil_append, List.cons_append]); k_extra "m_allIn")
  k_with "k_ne" => refine neN ?_; (try dsimp only); first | (with_reducible assumption) | (with_reducible exact Ne.symm (by assumption)) | (with_reducible exact Nat.ne_of_lt (by assumption)) | (with_reducible exact Nat.ne_of_gt (by assumption)) | with_reducible k_extra "m_neA" | k_extra "m_neA" | omega
  k_with "k_all" => first | exact List.forall_mem_nil _ | assumption | exact lt_ne (by assumption) | exact lt_ne (by k_extra "m_lt") | exact lt_ne1 (by k_extra "m_lt") | (refine ne_cons ?_ ?_; (focus k_ne); k_all) | (refine List.forall_mem_cons.mpr (And.intro ?_ ?_); (focus k_ne); k_all)
  k_with "k_in" => (rename Fr _ _ _ _ => lF8); (rename Frag.In _ _ => lX8); exact Frag.In.keeps lX8 (Fr.keep lF8)
  k_with "ktr_room" => k_dflt (first | exact rmA (by assumption) (by exact rfl) | exact rmB (by assumption))
  k_with "ktr_units" => k_dflt (first | exact unA (by assumption) (by exact rfl) | exact unC (by assumption) (by exact rfl))
  k_with "MPost" => dsimp only [MPost]
  k_with "execs cons" => with_reducible refine gen_tok ?_; intro tk9
  k_with "m_for" => k_here; (rename Fr _ _ _ _ => lF'); k_dflt (refine' For_invVF ?zF ?zk1 ?zk2 ?_ ?zs ?ze; (case zF => exact lF'); (case zk1 => exact rfl); (case zk2 => exact rfl); (case zs => (intro _; rfl)); (case ze => passes_own); k_whole)
  k_with "exec For Name Name cons nil" => k_extra "m_for"
  k_with "exec For Name Subscript cons nil" => k_extra "m_for"
  k_with "exec For Name Call cons nil" => k_extra "m_for"
  k_with "exec For Name Attribute cons nil" => k_extra "m_for"
  k_with "exec For Name Tuple cons nil" => k_extra "m_for"
  k_with "compareOp NotEq ref ref" => k_here; (with_reducible show wpAny _ _ (compareOp CmpOp.NotEq (Value.ref _) (Value.ref _)) _ _ _); k_dflt (first | refine ke_ne_ints (by is_list) (by is_list) (by l_ints) (by l_ints) (by ktr_units) ?_ | ((refine ne_dataH (by ke_read) (by ke_read) (by ke_shaped) (by ke_shaped) (by ktr_units) ?_); ke_norm))
  k_with "compareOp Eq ref ref" => k_here; (with_reducible show wpAny _ _ (compareOp CmpOp.Eq (Value.ref _) (Value.ref _)) _ _ _); k_dflt (first | refine ke_eq_ints (by is_list) (by is_list) (by l_ints) (by l_ints) (by ktr_units) ?_ | ((refine eq_dataH (by ke_read) (by ke_read) (by ke_shaped) (by ke_shaped) (by ktr_units) ?_); ke_norm))
  w_top off
  k_with "eval ListComp Name cons" =>
    (k_here; k_dflt (refine LCp.ListComp_P (F₀ := by k_asm) (by with_unfolding_all rfl) (by decide) (by rfl) (by decide) (by rfl) (by rfl) (by decide) ?_))
  k_with "eval Lambda Subscript" =>
    rename Frag.In _ _ => X9
    have hCh : CodeHd _ 114 112 := chd X9 (by k_is) (by rfl)
    k_dflt (refine' kla_eval ?d0 ?_; (case d0 => exact rfl))
    k_dflt (refine' kla_nest ?F ?N ?T hCh ?cd ?U ?t ?n ?cl ?_; (case F => k_asm); (case N => k_asm); (case T => k_asm); (case cd => exact rfl); (case U => exact UpdF.head h112); (case t => kn_triples); (case n => kn_among); (case cl => exact rfl); k_whole)
    intro f' c' oc' vs' t' ct' h' tk' F' N' d1' d2' l1 l2; (try dsimp only at N'); (try k_lt l1); (try k_lt2 l2)
    have hTC : TabC oc' := ⟨vs', t', d1', d2'⟩
  k_with "call builtin:sorted cons" =>
    rename Fr _ _ _ _ => F9
    rename News _ _ _ _ => N9
    k_dflt (refine' m_sortPairs F9 N9 ?hl (hp.mono ?mo) h64 hc ?a1 ?a2 ?a3 ?_ ?_; (case hl => k_mem); (case mo => kst_in); (case a1 => exact ksk_s1 _ _); (case a2 => (intro x; exact ksk_l1 _ _)); (case a3 => (intro x; exact ksk_t1 _ _)))
    intro t9 n9 u9 u8 c9 h9 tk9 own9 hm9 F8 N8
    replace hm9 := List.mem_append_left own9 hm9
    (simp only [List.cons_append] at N8 hm9)
    (try k_fold)
    rotate_left 1
    intro D9 h9 tk9 os9 cs8 n9 F8 N8 l9 hp8 hq8 hs8
    have hlen8 := hq8.length_eq
    have hol8 := hp8.1
    (try k_fold)
  k_with "SrcLP Name nil ref" =>
    rename Fr _ _ _ _ => F9
    rename News _ _ _ _ => N9
    k_dflt (refine' LCp.SrcLP.ledger (by rfl) F9 N9 ?M ?sz ?_; (case M => exact List.mem_cons_self); (case sz => (rw [PySem.sizeLine_eq, List.size_toArray]; omega)))
    intro g9
    k_dflt (refine' m_pairRest (hp8.mono ?mo) ?hs ?hk ?hkd ?hd ?_; (case hs => exact List.mem_cons_self); (case hk => rfl); (case hkd => rfl); (case hd => decide); (case mo => kst_in))
    intro ys9 hys9
  k_with "FinE cons" =>
    unfold LCg.FinE; intro D' h' tk' F' N' o1'; (try simp only [List.nil_append, List.cons_append] at N'); (try dsimp only)
    have o9 := off1_mem o1'
  refine wpAny_call ?_
  k_dflt cell_enter
  k_steps
  refine hret _ _ _ _ (by assumption) (kst_newsOf (by assumption) ?_) ⟨_, ys9.length, ys9, c', oc', rfl, rfl, ?_, srt_of hq8 hs8 hc ▸ hys9, hTC, ?_, ?_⟩
  · kst_in
  · exact fun p hp => o9 p (by revert p; kst_in)
  · omega
  · exact lt_ne (by walk_at "m_lt")
set_option maxRecDepth 100000 in
set_option maxHeartbeats 2000000 in
theorem c_fs1 {w : World} {news : Led} {l k c' : Nat} {oc' : Obj} {vs : List Value} {cs9 : List Int} (hl : (l, listOf vs.toArray k) ∈ news) (hp : PairL news vs cs9) (h64 : cs9.length < 64) (hc : ∀ c ∈ cs9, c = 769 ∨ c = 803) (hTC : TabC oc') (h112 : c' ≠ 112) (hC : ∀ p ∈ news, p.1 ≠ c') :
    CC w 115 [.ref l] 20 ((112, tabF c') :: (c', oc') :: news) (FsPost cs9 news) := by
  refine CC.mk ?_; k_fill; intro p loose mean mg mb dp un gd cn cs a ccd cl outer A₀ base h₀ L m s Q E B F X N T hk hdp hun hret
  have hMk : KstMark := kstMark
  k_with_none
  k_with "m_allIn" => first | exact List.forall_mem_nil _ | (refine sub_cons (by k_memK) ?_; k_extra "m_allIn") | (intro p9 h9; kst_mem)
  k_with "m_ra" => first | assumption | exact And.right (by first | assumption | exact And.right (by first | assumption | exact And.right (by first | assumption | exact And.right (by first | assumption | exact And.right (by first | assumption | exact And.right (by first | assumption | exact And.right (by first | assumption | exact And.right (by assumption))))))))
  k_with "m_and" => first | k_extra "m_ra" | exact And.left (by k_extra "m_ra")
  k_with "m_neA" => first | k_extra "m_and" | (refine Ne.symm ?_; k_extra "m_and") | (refine Nat.ne_of_lt ?_; k_extra "m_and") | (refine Nat.ne_of_gt ?_; k_extra "m_and") | (refine Nat.ne_of_lt (Nat.lt_succ_of_lt ?_); k_extra "m_and")
  k_with "m_lt" => first | assumption | exact allLt_of (by assumption) | k_extra "m_and"
  k_with "kst_in" => (try dsimp only); with_unfolding_all ((try simp only [List.nil_append, List.cons_append]); k_extra "m_allIn")
  k_with "k_ne" => refine neN ?_; (try dsimp only); first | (with_reducible assumption) | (with_reducible exact Ne.symm (by assumption)) | (with_reducible exact Nat.ne_of_lt (by assumption)) | (with_reducible exact Nat.ne_of_gt (by assumption)) | with_reducible k_extra "m_neA" | k_extra "m_neA" | omega
  k_with "k_all" => first | exact List.forall_mem_nil _ | assumption | exact lt_ne (by assumption) | exact lt_ne (by k_extra "m_lt") | exact lt_ne1 (by k_extra "m_lt") | (refine ne_cons ?_ ?_; (focus k_ne); k_all) | (refine List.forall_mem_cons.mpr (And.intro ?_ ?_); (focus k_ne); k_all)
  k_with "k_in" => (rename Fr _ _ _ _ => lF8); (rename Frag.In _ _ => lX8); exact Frag.In.keeps lX8 (Fr.keep lF8)
  k_with "ktr_room" => k_dflt (first | exact rmA (by assumption) (by exact rfl) | exact rmB (by assumption))
  k_with "ktr_units" => k_dflt (first | exact unA (by assumption) (by exact rfl) | exact unC (by assumption) (by exact rfl))
  k_with "MPost" => dsimp only [MPost]
  k_with "execs cons" => with_reducible refine gen_tok ?_; intro tk9
  k_with "m_for" => k_here; (rename Fr _ _ _ _ => lF'); k_dflt (refine' For_invVF ?zF ?zk1 ?zk2 ?_ ?zs ?ze; (case zF => exact lF'); (case zk1 => exact rfl); (case zk2 => exact rfl); (case zs => (intro _; rfl)); (case ze => passes_own); k_whole)
  k_with "exec For Name Name cons nil" => k_extra "m_for"
  k_with "exec For Name Subscript cons nil" => k_extra "m_for"
  k_with "exec For Name Call cons nil" => k_extra "m_for"
  k_with "exec For Name Attribute cons nil" => k_extra "m_for"
  k_with "exec For Name Tuple cons nil" => k_extra "m_for"
  k_with "compareOp NotEq ref ref" => k_here; (with_reducible show wpAny _ _ (compareOp CmpOp.NotEq (Value.ref _) (Value.ref _)) _ _ _); k_dflt (first | refine ke_ne_ints (by is_list) (by is_list) (by l_ints) (by l_ints) (by ktr_units) ?_ | ((refine ne_dataH (by ke_read) (by ke_read) (by ke_shaped) (by ke_shaped) (by ktr_units) ?_); ke_norm))
  k_with "compareOp Eq ref ref" => k_here; (with_reducible show wpAny _ _ (compareOp CmpOp.Eq (Value.ref _) (Value.ref _)) _ _ _); k_dflt (first | refine ke_eq_ints (by is_list) (by is_list) (by l_ints) (by l_ints) (by ktr_units) ?_ | ((refine eq_dataH (by ke_read) (by ke_read) (by ke_shaped) (by ke_shaped) (by ktr_units) ?_); ke_norm))
  w_top off
  k_with "eval ListComp Name cons" =>
    (k_here; k_dflt (refine LCp.ListComp_P (F₀ := by k_asm) (by with_unfolding_all rfl) (by decide) (by rfl) (by decide) (by rfl) (by rfl) (by decide) ?_))
  k_with "eval Lambda Subscript" =>
    rename Frag.In _ _ => X9
    have hCh : CodeHd _ 114 112 := chd X9 (by k_is) (by rfl)
    k_dflt (refine' kla_eval ?d0 ?_; (case d0 => exact rfl))
    k_dflt (refine' kla_hit (c' := c') ?F ?N ?T hCh ?cd ?mem ?t ?n ?cl ?_; (case F => k_asm); (case N => k_asm); (case T => k_asm); (case cd => exact rfl); (case mem => exact List.mem_cons_self); (case t => kn_triples); (case n => kn_hit); (case cl => exact rfl); k_whole)
    intro f' ct' h' tk' F' N' l1; (try dsimp only at N'); (try k_lt l1)
    obtain ⟨vs', t', d1', d2'⟩ := id hTC
  k_with "call builtin:sorted cons" =>
    rename Fr _ _ _ _ => F9
    rename News _ _ _ _ => N9
    k_dflt (refine' m_sortPairs F9 N9 ?hl (hp.mono ?mo) h64 hc ?a1 ?a2 ?a3 ?_ ?_; (case hl => k_mem); (case mo => kst_in); (case a1 => exact ksk_s1 _ _); (case a2 => (intro x; exact ksk_l1 _ _)); (case a3 => (intro x; exact ksk_t1 _ _)))
    intro t9 n9 u9 u8 c9 h9 tk9 own9 hm9 F8 N8
    replace hm9 := List.mem_append_left own9 hm9
    (simp only [List.cons_append] at N8 hm9)
    (try k_fold)
    rotate_left 1
    intro D9 h9 tk9 os9 cs8 n9 F8 N8 l9 hp8 hq8 hs8
    have hlen8 := hq8.length_eq
    have hol8 := hp8.1
    (try k_fold)
  k_with "SrcLP Name nil ref" =>
    rename Fr _ _ _ _ => F9
    rename News _ _ _ _ => N9
    k_dflt (refine' LCp.SrcLP.ledger (by rfl) F9 N9 ?M ?sz ?_; (case M => exact List.mem_cons_self); (case sz => (rw [PySem.sizeLine_eq, List.size_toArray]; omega)))
    intro g9
    k_dflt (refine' m_pairRest (hp8.mono ?mo) ?hs ?hk ?hkd ?hd ?_; (case hs => exact List.mem_cons_self); (case hk => rfl); (case hkd => rfl); (case hd => decide); (case mo => kst_in))
    intro ys9 hys9
  k_with "FinE cons" =>
    unfold LCg.FinE; intro D' h' tk' F' N' o1'; (try simp only [List.nil_append, List.cons_append] at N'); (try dsimp only)
    have o9 := off1_mem o1'
  refine wpAny_call ?_
  k_dflt cell_enter
  k_steps
  refine hret _ _ _ _ (by assumption) (kst_newsOf (by assumption) ?_) ⟨_, ys9.length, ys9, c', oc', rfl, rfl, ?_, srt_of hq8 hs8 hc ▸ hys9, hTC, ?_, ?_⟩
  · kst_in
  · exact fun p hp => o9 p (by revert p; kst_in)
  · exact h112
  · exact hC
/-- the lambda's own code: not yet made, or made -/
def TabS (T : Obj) (C : Nat) (O : Obj) : Prop := (T = tabObj #[] ∧ C = 112 ∧ O = T) ∨ (T = tabF C ∧ TabC O ∧ C ≠ 112)
inductive FsP (cs : List Int) (news news' : Led) (y : Value) : Prop
  | mk (r n : Nat) (vs : List Value) (T : Obj) (C : Nat) (O : Obj) (q1 : Value.ref r = y) (q2 : (r, listOf vs.toArray n) :: (112, T) :: (C, O) :: news = news') (q3 : (∀ p ∈ (112, T) :: (C, O) :: news, p.1 ≠ r)) (q4 : IntsAre vs (srt cs)) (q5 : TabS T C O) (q6 : ∀ p ∈ news, p.1 ≠ C) : FsP cs news news' y
theorem FsP.go {wz : World} {fz : Addr} {vz : List Value} {kz : Nat} {ledz : Led} {cs : List Int} {news : Led} (Cz : CC wz fz vz kz ledz (FsP cs news))
  {pz : Program} {lz : List Str} {mnz : ExcName → Option Value} {mgz mbz : Str → Option Value} {dpz unz : Nat} {gdz : Option (List Code)} {cnz : Str} {csz : Scope} {az : Addr} {cdz : Value} {clz : List (Str × Addr)} {otz : List Env} {A₀ : Around} {basez h₀ : Heap} {Lz : Addr} {mz : Str → Option Value} {sz : Shared} {Qz Ez : Value → Shared → Prop}
  (ret : ∀ (r n : Nat) (vs : List Value) (T : Obj) (C : Nat) (O : Obj) (hz : Heap) (tkz : Nat), Fr h₀ Lz hz mz → News h₀ Lz hz ((r, listOf vs.toArray n) :: (112, T) :: (C, O) :: news) → ((∀ p ∈ (112, T) :: (C, O) :: news, p.1 ≠ r)) → (IntsAre vs (srt cs)) → (TabS T C O) → (∀ p ∈ news, p.1 ≠ C) → Qz (Value.ref r) { sz with heap := hz, toks := tkz })
  (F : Fr h₀ Lz sz.heap mz) (N : News h₀ Lz sz.heap ledz) (B : Below A₀ basez otz h₀) (X : (hd.heap_1_39 wz.params).In h₀) (T : Top pz lz mnz mgz mbz h₀) (hk : csz.kind = .function)
  (hd : dpz + kz < recursionLimit) (hu : unz + 8 * kz < cLine) :
    wpAny (model PySem.Challenge.rw_on0371_01.prog wz) (ktrTop dpz unz gdz cnz csz Lz az cdz clz otz) (call (.ref fz) vz) Qz Ez sz := by
  refine cc_go Cz (fun v news9 h9 tk9 F9 N9 P9 => ?_) F N B X T hk hd hu
  obtain ⟨r, n, vs, T, C, O, rfl, rfl, q3, q4, q5, q6⟩ := P9
  exact ret r n vs T C O h9 tk9 F9 N9 q3 q4 q5 q6
theorem c_fs {w : World} {news : Led} {l k C : Nat} {T O : Obj} {vs : List Value} {cs9 : List Int} (hT : TabS T C O) (hl : (l, listOf vs.toArray k) ∈ news) (hp : PairL news vs cs9) (h64 : cs9.length < 64) (hc : ∀ c ∈ cs9, c = 769 ∨ c = 803) (h112 : ∀ p ∈ news, p.1 ≠ 112) (hC : ∀ p ∈ news, p.1 ≠ C) :
    CC w 115 [.ref l] 20 ((112, T) :: (C, O) :: news) (FsP cs9 news) := by
  have fin : ∀ n v, FsPost cs9 news n v → FsP cs9 news n v := by
    rintro n v ⟨r, n, vs, c', oc, e1, e2, h1, h2, h3, h4, h5⟩
    exact ⟨r, n, vs, _, c', oc, e1.symm, e2.symm, h1, h2, .inr ⟨rfl, h3, h4⟩, h5⟩
  rcases hT with ⟨rfl, -, -⟩ | ⟨rfl, h1, h2⟩
  · exact ((c_fs0 hl hp h64 hc h112).mono fin).led fun p hp => by
      rcases List.mem_cons.mp hp with rfl | hp
      · exact List.mem_cons_self
      · exact .tail _ (.tail _ hp)
  · exact (c_fs1 hl hp h64 hc h1 h2 hC).mono fin
end
section
def ordGo : List Int → List Int → List Int → List Int
  | [], run, f => f ++ srt run
  | c :: t, run, f => if cls c > 0 then ordGo t (run ++ [c]) f else ordGo t [] (f ++ srt run ++ [c])
def ord (xs : List Int) : List Int := ordGo xs [] []
/-- a new list comes back, and the lambda's table stands -/
inductive TNewL (news : Led) (xs : List Int) (news' : Led) (y : Value) : Prop
  | mk (r n : Nat) (vs : List Value) (T : Obj) (C : Nat) (O : Obj) (q1 : Value.ref r = y) (q2 : (r, listOf vs.toArray n) :: (112, T) :: (C, O) :: news = news') (q3 : (∀ p ∈ (112, T) :: (C, O) :: news, p.1 ≠ r)) (q4 : IntsAre vs xs) (q5 : TabS T C O) (q6 : ∀ p ∈ news, p.1 ≠ C) : TNewL news xs news' y
theorem TNewL.go {wz : World} {fz : Addr} {vz : List Value} {kz : Nat} {ledz : Led} {news : Led} {xs : List Int} (Cz : CC wz fz vz kz ledz (TNewL news xs))
  {pz : Program} {lz : List Str} {mnz : ExcName → Option Value} {mgz mbz : Str → Option Value} {dpz unz : Nat} {gdz : Option (List Code)} {cnz : Str} {csz : Scope} {az : Addr} {cdz : Value} {clz : List (Str × Addr)} {otz : List Env} {A₀ : Around} {basez h₀ : Heap} {Lz : Addr} {mz : Str → Option Value} {sz : Shared} {Qz Ez : Value → Shared → Prop}
  (ret : ∀ (r n : Nat) (vs : List Value) (T : Obj) (C : Nat) (O : Obj) (hz : Heap) (tkz : Nat), Fr h₀ Lz hz mz → News h₀ Lz hz ((r, listOf vs.toArray n) :: (112, T) :: (C, O) :: news) → ((∀ p ∈ (112, T) :: (C, O) :: news, p.1 ≠ r)) → (IntsAre vs xs) → (TabS T C O) → (∀ p ∈ news, p.1 ≠ C) → Qz (Value.ref r) { sz with heap := hz, toks := tkz })
  (F : Fr h₀ Lz sz.heap mz) (N : News h₀ Lz sz.heap ledz) (B : Below A₀ basez otz h₀) (X : (hd.heap_1_39 wz.params).In h₀) (T : Top pz lz mnz mgz mbz h₀) (hk : csz.kind = .function)
  (hd : dpz + kz < recursionLimit) (hu : unz + 8 * kz < cLine) :
    wpAny (model PySem.Challenge.rw_on0371_01.prog wz) (ktrTop dpz unz gdz cnz csz Lz az cdz clz otz) (call (.ref fz) vz) Qz Ez sz := by
  refine cc_go Cz (fun v news9 h9 tk9 F9 N9 P9 => ?_) F N B X T hk hd hu
  obtain ⟨r, n, vs, T, C, O, rfl, rfl, q3, q4, q5, q6⟩ := P9
  exact ret r n vs T C O h9 tk9 F9 N9 q3 q4 q5 q6
theorem tnewL_end {news led : Led} {xs : List Int} {h₀ h' : Heap} {L : Addr} {m : Str → Option Value} {s : Shared} {Q : Value → Shared → Prop} {tk' r n C : Nat} {T O : Obj} {vs : List Value}
    (hret : ∀ (v : Value) (news' : Led) (h' : Heap) (tk' : Nat), Fr h₀ L h' m → News h₀ L h' news' → TNewL news xs news' v → Q v { s with heap := h', toks := tk' })
    (F : Fr h₀ L h' m) (N : News h₀ L h' led) (hm : ∀ p ∈ (r, listOf vs.toArray n) :: (112, T) :: (C, O) :: news, p ∈ led) (hi : IntsAre vs xs) (hr : ∀ p ∈ (112, T) :: (C, O) :: news, p.1 ≠ r) (hT : TabS T C O) (hC : ∀ p ∈ news, p.1 ≠ C) : Q (.ref r) { s with heap := h', toks := tk' } :=
  hret _ _ _ _ F (fun p hp => N p (hm p hp)) ⟨r, n, vs, T, C, O, rfl, rfl, hr, hi, hT, hC⟩
theorem srt_len {cs : List Int} (h : ∀ x ∈ cs, x = 769 ∨ x = 803) : (srt cs).length = cs.length := by
  unfold srt
  rw [List.length_append]
  induction cs with
  | nil => rfl
  | cons a cs ih =>
    have ih' := ih fun x hx => h x (.tail _ hx)
    rcases h a (.head _) with rfl | rfl <;> simp [List.filter_cons] <;> omega
theorem pairL_snoc {tl : Led} {rvs : List Value} {rcs : List Int} {D n : Nat} {x : Int} {t1 t2 : Tok} {o : Led} (h : PairL tl rvs rcs) (ho : ∀ p ∈ tl, p ∈ o) (hm : (D, tupO (List.toArray [.int (cls x) t1, .int x t2]) n) ∈ o) : PairL o (rvs ++ [.ref D]) (rcs ++ [x]) := by
  refine ⟨by simp [h.1], fun i v c h1 h2 => ?_⟩
  by_cases hi : i < rvs.length
  · rw [List.getElem?_append_left hi] at h1
    rw [List.getElem?_append_left (by rw [← h.1]; exact hi)] at h2
    obtain ⟨a, k, u1, u2, e, hq⟩ := h.2 i v c h1 h2
    exact ⟨a, k, u1, u2, e, ho _ hq⟩
  · have hi' : i = rvs.length := by
      have := (List.getElem?_eq_some_iff.mp h1).1
      simp at this
      omega
    subst hi'
    rw [h.1] at h2
    simp at h1
    simp at h2
    subst h1 h2
    exact ⟨D, n, t1, t2, rfl, hm⟩
theorem cls_pos {x : Int} (h : cls x > 0) : x = 769 ∨ x = 803 := by
  unfold cls at h
  by_cases h1 : x = 769
  · exact .inl h1
  · by_cases h2 : x = 803
    · exact .inr h2
    · rw [if_neg h1, if_neg h2] at h; omega
theorem or_le {a b c d i n : Nat} (h1 : a = c) (h2 : b = d) (h3 : c + d = i) (h4 : i < n) (h5 : n < 64) : a + b < 64 := h1 ▸ h2 ▸ h3 ▸ Nat.lt_trans h4 h5
theorem or_le2 {a b c d n : Nat} (h1 : a = c) (h2 : b = d) (h3 : c + d = n) (h5 : n < 64) : a + b < 64 := h1 ▸ h2 ▸ h3 ▸ h5
theorem or_b {a b d : Nat} (h : a + b < 64) (e : b = d) : d < 64 := e ▸ Nat.lt_of_le_of_lt (Nat.le_add_left _ _) h
theorem or_c {a b d e f : Nat} (h : a + b < 64) (h2 : b = d) (h7 : e = f) (hs : f = d) : a + e ≤ 10000 := by omega
theorem or_d {a b : Nat} (h : a + b < 64) : b ≤ 10000 := by omega
structure OrdS where
  fa : Nat
  fvs : List Value
  fcs : List Int
  fn : Nat
  R : Nat
  rvs : List Value
  rcs : List Int
  rn : Nat
  T : Obj
  C : Nat
  O : Obj
  tl : Led
inductive OrdP (news : Led) (xs : List Int) (l : Nat) (i : Nat) (c : OrdS) : Prop
  | mk  (q1 : IntsAre c.fvs c.fcs) (q2 : PairL c.tl c.rvs c.rcs) (q3 : TabS c.T c.C c.O) (q4 : (∀ p ∈ news, p ∈ c.tl)) (q5 : ordGo (xs.drop i) c.rcs c.fcs = ord xs) (q6 : (∀ x ∈ c.rcs, x = 769 ∨ x = 803)) (q7 : c.fcs.length + c.rcs.length = i) (q8 : (@Ne Nat c.fa c.R ∧ @Ne Nat c.fa 112 ∧ @Ne Nat c.fa c.C ∧ @Ne Nat c.fa l ∧ @Ne Nat c.R 112 ∧ @Ne Nat c.R c.C ∧ @Ne Nat c.R l ∧ @Ne Nat l 112 ∧ @Ne Nat l c.C)) (q9 : (∀ p ∈ c.tl, p.1 ≠ 112)) (q10 : (∀ p ∈ c.tl, p.1 ≠ c.fa)) (q11 : (∀ p ∈ c.tl, p.1 ≠ c.R)) (q12 : (∀ p ∈ c.tl, p.1 ≠ c.C)) : OrdP news xs l i c
abbrev OrdL (vs : List Value) (k l : Nat) (c : OrdS) : Led := (c.fa, listOf c.fvs.toArray c.fn) :: (c.R, listOf c.rvs.toArray c.rn) :: (112, c.T) :: (c.C, c.O) :: (l, listOf vs.toArray k) :: c.tl
set_option maxRecDepth 100000 in
set_option maxHeartbeats 8000000 in
theorem c_ord {w : World} {news : Led} {l k d C : Nat} {T O : Obj} {vs : List Value} {xs : List Int} (hT : TabS T C O) (hD : DataOK w news d) (hl : (l, listOf vs.toArray k) ∈ news) (hi : IntsAre vs xs) (hx : ∀ x ∈ xs, x ∈ AL) (h64 : xs.length < 64) (h112 : ∀ p ∈ news, p.1 ≠ 112) (hC : ∀ p ∈ news, p.1 ≠ C) :
    CC w 110 [.ref l, .ref d] 30 ((112, T) :: (C, O) :: news) (TNewL news (ord xs)) := by
  refine CC.mk ?_; k_fill; intro p loose mean mg mb dp un gd cn cs a ccd cl outer A₀ base h₀ L m s Q E B F X N T9 hk hdp hun hret
  have hMk : KstMark := kstMark
  k_with_none
  k_with "m_allIn" => first | exact List.forall_mem_nil _ | (refine sub_cons (by k_memK) ?_; k_extra "m_allIn") | (intro p9 h9; kst_mem)
  k_with "m_ra" => first | assumption | exact And.right (by first | assumption | exact And.right (by first | assumption | exact And.right (by first | assumption | exact And.right (by first | assumption | exact And.right (by first | assumption | exact And.right (by first | assumption | exact And.right (by first | assumption | exact And.right (by assumption))))))))
  k_with "m_and" => first | k_extra "m_ra" | exact And.left (by k_extra "m_ra")
  k_with "m_neA" => first | k_extra "m_and" | (refine Ne.symm ?_; k_extra "m_and") | (refine Nat.ne_of_lt ?_; k_extra "m_and") | (refine Nat.ne_of_gt ?_; k_extra "m_and") | (refine Nat.ne_of_lt (Nat.lt_succ_of_lt ?_); k_extra "m_and")
  k_with "m_lt" => first | assumption | exact allLt_of (by assumption) | k_extra "m_and"
  k_with "kst_in" => (try dsimp only); with_unfolding_all ((try simp only [List.nil_append, List.cons_append]); k_extra "m_allIn")
  k_with "k_ne" => refine neN ?_; (try dsimp only); first | (with_reducible assumption) | (with_reducible exact Ne.symm (by assumption)) | (with_reducible exact Nat.ne_of_lt (by assumption)) | (with_reducible exact Nat.ne_of_gt (by assumption)) | with_reducible k_extra "m_neA" | k_extra "m_neA" | omega
  k_with "k_all" => first | exact List.forall_mem_nil _ | assumption | exact lt_ne (by assumption) | exact lt_ne (by k_extra "m_lt") | exact lt_ne1 (by k_extra "m_lt") | (refine ne_cons ?_ ?_; (focus k_ne); k_all) | (refine List.forall_mem_cons.mpr (And.intro ?_ ?_); (focus k_ne); k_all)
  k_with "k_in" => (rename Fr _ _ _ _ => lF8); (rename Frag.In _ _ => lX8); exact Frag.In.keeps lX8 (Fr.keep lF8)
  k_with "ktr_room" => k_dflt (first | exact rmA (by assumption) (by exact rfl) | exact rmB (by assumption))
  k_with "ktr_units" => k_dflt (first | exact unA (by assumption) (by exact rfl) | exact unC (by assumption) (by exact rfl))
  k_with "MPost" => dsimp only [MPost]
  k_with "execs cons" => with_reducible refine gen_tok ?_; intro tk9
  k_with "m_for" => k_here; (rename Fr _ _ _ _ => lF'); k_dflt (refine' For_invVF ?zF ?zk1 ?zk2 ?_ ?zs ?ze; (case zF => exact lF'); (case zk1 => exact rfl); (case zk2 => exact rfl); (case zs => (intro _; rfl)); (case ze => passes_own); k_whole)
  k_with "exec For Name Name cons nil" => k_extra "m_for"
  k_with "exec For Name Subscript cons nil" => k_extra "m_for"
  k_with "exec For Name Call cons nil" => k_extra "m_for"
  k_with "exec For Name Attribute cons nil" => k_extra "m_for"
  k_with "exec For Name Tuple cons nil" => k_extra "m_for"
  k_with "compareOp NotEq ref ref" => k_here; (with_reducible show wpAny _ _ (compareOp CmpOp.NotEq (Value.ref _) (Value.ref _)) _ _ _); k_dflt (first | refine ke_ne_ints (by is_list) (by is_list) (by l_ints) (by l_ints) (by ktr_units) ?_ | ((refine ne_dataH (by ke_read) (by ke_read) (by ke_shaped) (by ke_shaped) (by ktr_units) ?_); ke_norm))
  k_with "compareOp Eq ref ref" => k_here; (with_reducible show wpAny _ _ (compareOp CmpOp.Eq (Value.ref _) (Value.ref _)) _ _ _); k_dflt (first | refine ke_eq_ints (by is_list) (by is_list) (by l_ints) (by l_ints) (by ktr_units) ?_ | ((refine eq_dataH (by ke_read) (by ke_read) (by ke_shaped) (by ke_shaped) (by ktr_units) ?_); ke_norm))
  w_top off
  have hl112 := h112 _ hl
  have hlC := hC _ hl
  k_with "pyIter ref" =>
    rename Fr _ _ _ _ => lF'
    rename News _ _ _ _ => lN'
    with_unfolding_all refine' mfor (σ := OrdS) (l := l) (vs := vs.toArray) (nn := k) (OrdL vs k l) (fun c => [(Str.ofString "run", .ref c.R), (Str.ofString "found", .ref c.fa)]) [Str.ofString "weight"] (OrdP news xs l) ⟨?fa, [], [], 0, ?R, [], [], 0, T, C, O, news⟩ rfl (fun c => .tail _ (.tail _ (.tail _ (.tail _ (.head _))))) lF' (kst_newsOf lN' ?sub) ?kk ?pp ?_ ?_
    (case kk => kst_all)
    (case sub => (show ∀ p ∈ (_, _) :: (_, _) :: (_, _) :: (_, _) :: (_, _) :: news, _); kst_in)
    (case pp =>
      refine ⟨.nil, ⟨rfl, fun i v c h => by simp at h⟩, hT, fun _ h => h, rfl, (fun x h => nomatch h), rfl, ?_, h112, lt_ne (by walk_at "m_lt"), lt_ne (by walk_at "m_lt"), hC⟩
      dsimp only
      exact ⟨by k_ne, by k_ne, by k_ne, Nat.ne_of_gt (lt_mem (by walk_at "m_lt") hl), by k_ne, by k_ne, Nat.ne_of_gt (lt_mem (by walk_at "m_lt") hl), hl112, hlC⟩)
    clear lF' lN'
    rintro I9 oI9 ⟨fa, fvs, fcs, fn, R, rvs, rcs, rn, T1, C1, O1, tl⟩ i9 v9 u9 h9 tk9 hv9 hP9 hne9 F9 N9
    obtain ⟨p1, p2, p3, p4, p5, p6, p7, p8, p9, p10, p11, p12⟩ := hP9
    (dsimp only [OrdL] at p1 p2 p3 p4 p5 p6 p7 p8 p9 p10 p11 p12 N9 F9 hne9)
    (have g9 := gnNe_of hne9); (dsimp only [GnNe] at g9)
    obtain ⟨x9, t9, rfl, hx9⟩ := IntsAre.at hi i9 v9 (by simpa using hv9)
    have hxA := hx x9 (List.mem_of_getElem? hx9)
    have hil : i9 < xs.length := (List.getElem?_eq_some_iff.mp hx9).1
    have hdr : xs.drop i9 = x9 :: xs.drop (i9 + 1) := by rw [List.drop_eq_getElem_cons hil, (List.getElem?_eq_some_iff.mp hx9).2]
    rw [hdr] at p5
    have hlen9 := p1.length
    have hlen8 := p2.1
    have hz9 := or_le hlen9 hlen8 p7 hil h64
    have hD1 := hD.mono p4
    obtain ⟨dx, df, mp, pr, wd, w1, w2, w3, w4, n4, e1, e2⟩ := hD1.inst
    have hI9 : ∀ p ∈ tl, p.1 ≠ I9 := fun p hp => hne9 p (by simp [hp])
    (try k_fold)
    rotate_left 1
    rintro ⟨fa, fvs, fcs, fn, R, rvs, rcs, rn, T1, C1, O1, tl⟩ u9 h9 tk9 hP9 F9 N9
    obtain ⟨p1, p2, p3, p4, p5, p6, p7, p8, p9, p10, p11, p12⟩ := hP9
    (dsimp only [OrdL] at p1 p2 p3 p4 p5 p6 p7 p8 p9 p10 p11 p12 N9 F9)
    rw [List.drop_of_length_le (by have := hi.length; simp; omega)] at p5
    rw [List.size_toArray, hi.length] at p7
    have hlen9 := p1.length
    have hlen8 := p2.1
    have hz9 := or_le2 hlen9 hlen8 p7 h64
    (try k_fold)
    rotate_left 1
  k_with "call ref cons nil" =>
    with_reducible show wpAny _ _ (call (Value.ref 326) [Value.ref _, Value.str _ _, Value.int _ _]) _ _ _
    refine cc_goI (g_ccc (hD1.mono ?kM) hxA _ _) ?_ (by k_asm) (by k_asm) (by k_asm) (by k_asm) (by k_asm) (by first | exact rfl | assumption) (by ktr_room) (by ktr_units)
    (case kM => kst_in)
    intro tq9 h9' tk9' F9' N9'
    (try dsimp only); (try k_sweep); (try k_fold)
  k_with "call ref cons nil" =>
    with_reducible show wpAny _ _ (call (Value.ref 115) [Value.ref _]) _ _ _
    rename News _ _ _ _ => lN'
    first
      | refine' FsP.go (c_fs (news := (I9, oI9) :: (fa, listOf fvs.toArray fn) :: (R, listOf rvs.toArray rn) :: (l, listOf vs.toArray k) :: tl) p3 (.tail _ (.tail _ (.head _))) (p2.mono ?mo) (or_b hz9 hlen8) p6 ?x1 ?x2) ?_ (by k_asm) (kst_newsOf lN' ?sub) (by k_asm) (by k_asm) (by k_asm) (by first | exact rfl | assumption) (by ktr_room) (by ktr_units)
      | refine' FsP.go (c_fs (news := (fa, listOf fvs.toArray fn) :: (R, listOf rvs.toArray rn) :: (l, listOf vs.toArray k) :: tl) p3 (.tail _ (.head _)) (p2.mono ?mo) (or_b hz9 hlen8) p6 ?x1 ?x2) ?_ (by k_asm) (kst_newsOf lN' ?sub) (by k_asm) (by k_asm) (by k_asm) (by first | exact rfl | assumption) (by ktr_room) (by ktr_units)
    (case sub => kst_in)
    (case mo => kst_in)
    (case x1 => k_all)
    (case x2 => k_all)
    rintro r8 n8 vs8 T8 C8 O8 h9' tk9' F9' N9' hr8 hi8 hT8 hC8
    have g8 := gnNe_of hr8
    have g7 := gnNe_of hC8
    dsimp only [GnNe] at g8 g7
    have hlen7 := hi8.length
    (try dsimp only); (try k_sweep); (try k_fold)
  k_with "call builtin:list.extend cons nil" =>
    have hsl := srt_len p6
    k_dflt (refine' m_extend (vs := fvs) ?F ?N ?U ?b ?z ?_; (case F => k_asm); (case N => k_asm); (case U => k_updF); (case b => k_mem); (case z => exact or_c hz9 hlen8 hlen7 hsl))
    intro h' n' F' N'; (try dsimp only at N'); (try k_sweep)
  k_with "call builtin:list.append cons nil" =>
    k_dflt (first | (refine' m_append (vs := rvs) ?F ?N ?U ?z ?_; (case F => k_asm); (case N => k_asm); (case U => k_updF); (case z => exact or_d hz9)) | (refine' m_append (vs := fvs ++ vs8) ?F ?N ?U ?z ?_; (case F => k_asm); (case N => k_asm); (case U => k_updF); (case z => simp only [List.length_append]; exact or_c hz9 hlen8 hlen7 (srt_len p6))))
    intro h' n' F' N'; (try dsimp only at N'); (try k_sweep)
  refine wpAny_call ?_
  k_dflt cell_enter
  k_with "MEnd" =>
    rename Fr _ _ _ _ => lF'
    rename News _ _ _ _ => lN'
    first
      | (refine' mend (⟨fa, fvs, fcs, fn, R, rvs ++ [_], rcs ++ [x9], _, T1, C1, O1, (_, _) :: tl⟩ : OrdS) lF' lN' ?hI ?hn ?hne ?hk ?hr ?_; (case hk => kst_all))
      | (refine' mend (⟨fa, fvs ++ vs8 ++ [_], fcs ++ srt rcs ++ [x9], _, _, [], [], 0, T8, C8, O8, tl⟩ : OrdS) lF' lN' ?hI ?hn ?hne ?hk ?hr ?_; (case hk => kst_all))
    (case hI => k_mem)
    (case hn => dsimp only [OrdL]; kst_in)
    (case hne => dsimp only [OrdL]; k_all)
    (case hr => (intro z9 g1 g2 g3; (simp only [List.forall_mem_cons, List.not_mem_nil, false_implies, implies_true, and_true, ne_eq] at g2); (simp only [List.contains_cons, List.contains_nil, Bool.or_false, Bool.or_eq_false_iff, beq_eq_false_iff_ne, ne_eq] at g3); (simp [kstB, g1, g2, g3]; done)))
  k_steps
  · rename cls x9 > 0 => hpos
    rw [ordGo, if_pos hpos] at p5
    refine ⟨p1, pairL_snoc (t1 := tq9) (t2 := t9) (n := 0) p2 (fun p hp => .tail _ hp) (.head _), p3, fun p hp => .tail _ (p4 p hp), p5, ?_, by simp; omega, p8, ?_, ?_, ?_, ?_⟩
    · intro x hxm
      rcases List.mem_append.mp hxm with hm | hm
      · exact p6 x hm
      · rw [List.mem_singleton.mp hm]; exact cls_pos hpos
    · dsimp only; k_all
    · dsimp only; k_all
    · dsimp only; k_all
    · dsimp only; k_all
  · rename ¬ cls x9 > 0 => hpos
    rw [ordGo, if_neg hpos] at p5
    refine ⟨IntsAre.append (IntsAre.append p1 hi8) (.cons _ _ .nil), ⟨rfl, fun i v c h => by simp at h⟩, hT8, p4, p5, (fun x h => nomatch h), ?_, ?_, p9, p10, lt_ne (by walk_at "m_lt"), fun p hp => hC8 p (by simp [hp])⟩
    · have := srt_len p6; simp; omega
    · dsimp only
      exact ⟨by k_ne, by k_ne, by k_ne, by k_ne, by k_ne, by k_ne, by k_ne, by k_ne, by k_ne⟩
  · rename Fr _ _ _ _ => lF'
    rename News _ _ _ _ => lN'
    have e : fcs ++ srt rcs = ord xs := p5
    refine' tnewL_end hret lF' lN' ?hm (e ▸ IntsAre.append p1 hi8) ?hr hT8 fun p hp => hC8 p (by simp [p4 p hp])
    case hm =>
      refine List.forall_mem_cons.mpr ⟨by k_mem, List.forall_mem_cons.mpr ⟨by k_mem, List.forall_mem_cons.mpr ⟨by k_mem, fun p hp => ?_⟩⟩⟩
      have := p4 p hp
      simp [this]
    case hr => exact List.forall_mem_cons.mpr ⟨by k_ne, List.forall_mem_cons.mpr ⟨by k_ne, fun p hp => p10 p (p4 p hp)⟩⟩
end
section
def exps (xs : List Int) : List Int := xs.flatMap exp1
structure LstS where
  fa : Nat
  fvs : List Value
  fcs : List Int
  fn : Nat
inductive LstP (base : Led) (g : Nat → List Int) (i : Nat) (c : LstS) : Prop
  | mk  (q1 : IntsAre c.fvs c.fcs) (q2 : c.fcs = g i) (q3 : AllLt c.fa base) : LstP base g i c
abbrev LstL (news : Led) (c : LstS) : Led := (c.fa, listOf c.fvs.toArray c.fn) :: news
theorem exps_snoc {xs : List Int} {i : Nat} {x : Int} (h : xs[i]? = some x) : exps (xs.take (i + 1)) = exps (xs.take i) ++ exp1 x := by
  unfold exps
  rw [List.take_add_one, h]
  simp
theorem exps_le {xs : List Int} (i : Nat) : (exps (xs.take i)).length ≤ (exps xs).length := by
  have h : exps xs = exps (xs.take i) ++ exps (xs.drop i) := by
    unfold exps
    rw [← List.flatMap_append, List.take_append_drop]
  rw [h, List.length_append]
  omega
theorem exp1_al {x : Int} (h : x ∈ AL) : ∀ y ∈ exp1 x, y ∈ AL := by
  unfold exp1
  split
  · decide
  · split
    · decide
    · intro y hy; rw [List.mem_singleton.mp hy]; exact h
theorem exps_al {xs : List Int} (h : ∀ x ∈ xs, x ∈ AL) : ∀ y ∈ exps xs, y ∈ AL := by
  intro y hy
  obtain ⟨x, hx, hy'⟩ := List.mem_flatMap.mp hy
  exact exp1_al (h x hx) y hy'
theorem exp1_len (x : Int) : (exp1 x).length ≤ 2 := by
  unfold exp1
  split
  · decide
  · split <;> simp
set_option maxRecDepth 100000 in
set_option maxHeartbeats 8000000 in
theorem c_dec {w : World} {news : Led} {l k d C : Nat} {T O : Obj} {vs : List Value} {xs : List Int} (hT : TabS T C O) (hD : DataOK w news d) (hl : (l, listOf vs.toArray k) ∈ news) (hi : IntsAre vs xs) (hx : ∀ x ∈ xs, x ∈ AL) (h64 : (exps xs).length < 64) (h112 : ∀ p ∈ news, p.1 ≠ 112) (hC : ∀ p ∈ news, p.1 ≠ C) :
    CC w 123 [.ref l, .ref d, .bool false] 40 ((112, T) :: (C, O) :: news) (TNewL news (ord (exps xs))) := by
  refine CC.mk ?_; k_fill; intro p loose mean mg mb dp un gd cn cs a ccd cl outer A₀ base h₀ L m s Q E B F X N T9 hk hdp hun hret
  have hMk : KstMark := kstMark
  k_with_none
  k_with "m_allIn" => first | exact List.forall_mem_nil _ | (refine sub_cons (by k_memK) ?_; k_extra "m_allIn") | (intro p9 h9; kst_mem)
  k_with "m_ra" => first | assumption | exact And.right (by first | assumption | exact And.right (by first | assumption | exact And.right (by first | assumption | exact And.right (by first | assumption | exact And.right (by first | assumption | exact And.right (by first | assumption | exact And.right (by first | assumption | exact And.right (by assumption))))))))
  k_with "m_and" => first | k_extra "m_ra" | exact And.left (by k_extra "m_ra")
  k_with "m_neA" => first | k_extra "m_and" | (refine Ne.symm ?_; k_extra "m_and") | (refine Nat.ne_of_lt ?_; k_extra "m_and") | (refine Nat.ne_of_gt ?_; k_extra "m_and") | (refine Nat.ne_of_lt (Nat.lt_succ_of_lt ?_); k_extra "m_and")
  k_with "m_lt" => first | assumption | exact allLt_of (by assumption) | k_extra "m_and"
  k_with "kst_in" => (try dsimp only); with_unfolding_all ((try simp only [List.nil_append, List.cons_append]); k_extra "m_allIn")
  k_with "k_ne" => refine neN ?_; (try dsimp only); first | (with_reducible assumption) | (with_reducible exact Ne.symm (by assumption)) | (with_reducible exact Nat.ne_of_lt (by assumption)) | (with_reducible exact Nat.ne_of_gt (by assumption)) | with_reducible k_extra "m_neA" | k_extra "m_neA" | omega
  k_with "k_all" => first | exact List.forall_mem_nil _ | assumption | exact lt_ne (by assumption) | exact lt_ne (by k_extra "m_lt") | exact lt_ne1 (by k_extra "m_lt") | (refine ne_cons ?_ ?_; (focus k_ne); k_all) | (refine List.forall_mem_cons.mpr (And.intro ?_ ?_); (focus k_ne); k_all)
  k_with "k_in" => (rename Fr _ _ _ _ => lF8); (rename Frag.In _ _ => lX8); exact Frag.In.keeps lX8 (Fr.keep lF8)
  k_with "ktr_room" => k_dflt (first | exact rmA (by assumption) (by exact rfl) | exact rmB (by assumption))
  k_with "ktr_units" => k_dflt (first | exact unA (by assumption) (by exact rfl) | exact unC (by assumption) (by exact rfl))
  k_with "MPost" => dsimp only [MPost]
  k_with "execs cons" => with_reducible refine gen_tok ?_; intro tk9
  k_with "m_for" => k_here; (rename Fr _ _ _ _ => lF'); k_dflt (refine' For_invVF ?zF ?zk1 ?zk2 ?_ ?zs ?ze; (case zF => exact lF'); (case zk1 => exact rfl); (case zk2 => exact rfl); (case zs => (intro _; rfl)); (case ze => passes_own); k_whole)
  k_with "exec For Name Name cons nil" => k_extra "m_for"
  k_with "exec For Name Subscript cons nil" => k_extra "m_for"
  k_with "exec For Name Call cons nil" => k_extra "m_for"
  k_with "exec For Name Attribute cons nil" => k_extra "m_for"
  k_with "exec For Name Tuple cons nil" => k_extra "m_for"
  k_with "compareOp NotEq ref ref" => k_here; (with_reducible show wpAny _ _ (compareOp CmpOp.NotEq (Value.ref _) (Value.ref _)) _ _ _); k_dflt (first | refine ke_ne_ints (by is_list) (by is_list) (by l_ints) (by l_ints) (by ktr_units) ?_ | ((refine ne_dataH (by ke_read) (by ke_read) (by ke_shaped) (by ke_shaped) (by ktr_units) ?_); ke_norm))
  k_with "compareOp Eq ref ref" => k_here; (with_reducible show wpAny _ _ (compareOp CmpOp.Eq (Value.ref _) (Value.ref _)) _ _ _); k_dflt (first | refine ke_eq_ints (by is_list) (by is_list) (by l_ints) (by l_ints) (by ktr_units) ?_ | ((refine eq_dataH (by ke_read) (by ke_read) (by ke_shaped) (by ke_shaped) (by ktr_units) ?_); ke_norm))
  w_top off
  k_with "pyIter ref" =>
    rename Fr _ _ _ _ => lF'
    rename News _ _ _ _ => lN'
    with_unfolding_all refine' mfor (σ := LstS) (l := l) (vs := vs.toArray) (nn := k) (LstL ((112, T) :: (C, O) :: news)) (fun c => [(Str.ofString "found", .ref c.fa)]) [] (LstP ((112, T) :: (C, O) :: news) (fun i => exps (xs.take i))) ⟨_, [], [], 0⟩ rfl (fun c => .tail _ (.tail _ (.tail _ hl))) lF' (kst_newsOf lN' ?sub) ?kk ?pp ?_ ?_
    (case kk => kst_all)
    (case sub => dsimp only [LstL]; kst_in)
    (case pp => exact ⟨.nil, rfl, by walk_at "m_lt"⟩)
    clear lF' lN'
    rintro I9 oI9 ⟨fa, fvs, fcs, fn⟩ i9 v9 u9 h9 tk9 hv9 hP9 hne9 F9 N9
    obtain ⟨p1, p2, p3⟩ := hP9
    (dsimp only [LstL] at p1 p2 p3 N9 F9 hne9)
    (have g9 := gnNe_of hne9); (dsimp only [GnNe] at g9)
    obtain ⟨x9, t9, rfl, hx9⟩ := IntsAre.at hi i9 v9 (by simpa using hv9)
    have hxA := hx x9 (List.mem_of_getElem? hx9)
    have hes := exps_snoc hx9
    have hlen9 := p1.length
    have hle9 := exps_le (xs := xs) (i9 + 1)
    rw [hes, ← p2] at hle9
    (try k_fold)
    rotate_left 1
    rintro ⟨fa, fvs, fcs, fn⟩ u9 h9 tk9 hP9 F9 N9
    obtain ⟨p1, p2, p3⟩ := hP9
    (dsimp only [LstL] at p1 p2 p3 N9 F9)
    rw [List.take_of_length_le (by have := hi.length; simp; omega)] at p2
    subst p2
    (try k_fold)
    rotate_left 1
  k_with "call ref cons nil" =>
    with_reducible show wpAny _ _ (call (Value.ref 103) [Value.int _ _, Value.ref _, Value.bool _]) _ _ _
    refine NewL.go (c_fexp (hD.mono ?kM) hxA) ?_ (by k_asm) (by k_asm) (by k_asm) (by k_asm) (by k_asm) (by first | exact rfl | assumption) (by ktr_room) (by ktr_units)
    (case kM => kst_in)
    rintro r8 n8 vs8 h9' tk9' F9' N9' hi8 hr8
    simp only [AllLt, and_true] at hr8
    have hlen7 := hi8.length
    (try dsimp only); (try k_sweep); (try k_fold)
  k_with "call builtin:list.extend cons nil" =>
    k_dflt (refine' m_extend (vs := fvs) ?F ?N ?U ?b ?z ?_; (case F => k_asm); (case N => k_asm); (case U => k_updF); (case b => k_mem); (case z => (simp only [List.length_append] at hle9; omega)))
    intro h' n' F' N'; (try dsimp only at N'); (try k_sweep)
  k_with "MEnd" =>
    rename Fr _ _ _ _ => lF'
    rename News _ _ _ _ => lN'
    refine' mend (⟨fa, fvs ++ vs8, fcs ++ exp1 x9, _⟩ : LstS) lF' lN' ?hI ?hn ?hne ?hk ?hr ?hp
    (case hk => kst_all)
    (case hI => k_mem)
    (case hn => dsimp only [LstL]; kst_in)
    (case hne => exact ne_map hne9 rfl)
    (case hr => (intro z9 g1 g2 g3; (simp only [List.forall_mem_cons, List.not_mem_nil, false_implies, implies_true, and_true, ne_eq] at g2); (simp only [List.contains_cons, List.contains_nil, Bool.or_false, Bool.or_eq_false_iff, beq_eq_false_iff_ne, ne_eq] at g3); (simp [kstB, g1, g2, g3]; done)))
    (case hp => exact ⟨IntsAre.append p1 hi8, by dsimp only; rw [hes, ← p2], p3⟩)
  k_with "call ref cons nil" =>
    with_reducible show wpAny _ _ (call (Value.ref 110) [Value.ref _, Value.ref _]) _ _ _
    rename News _ _ _ _ => lN'
    refine' TNewL.go (c_ord (news := (fa, listOf fvs.toArray fn) :: news) hT (hD.mono ?mo) (.head _) p1 ?al h64 ?x1 ?x2) ?_ (by k_asm) (kst_newsOf lN' ?sub) (by k_asm) (by k_asm) (by k_asm) (by first | exact rfl | assumption) (by ktr_room) (by ktr_units)
    (case sub => kst_in)
    (case mo => kst_in)
    (case al => exact exps_al hx)
    (case x1 => k_all)
    (case x2 => k_all)
    rintro r8 n8 vs8 T8 C8 O8 h9' tk9' F9' N9' hr8 hi8 hT8 hC8
    (try dsimp only); (try k_sweep); (try k_fold)
  refine wpAny_call ?_
  (k_dflt (refine' code_def ?k1 ?k2 ?k3 ?k4 ?k5 ?kA ?kF ?kK ?k6 ?k7 ?k8 ?k9 ?kB ?_ ?c2 ?c3 ?c4 ?c5; (case kA => exact rfl); (case kF => exact rfl); (case kK => assumption); (case k1 => k_asm); (case k2 => k_asm); (case k3 => k_asm); (case k4 => k_asm); (case k5 => k_asm); (case k6 => k_is); (case k7 => k_is); (case k8 => ktr_room); (case k9 => first | exact BindsTo.of_eq rfl | exact binds_K (by k_in) rfl (by k_is) rfl rfl rfl); (case c5 => decide); (case kB => exact locs rfl); (case c2 => exact rfl); (case c3 => exact rfl); (case c4 => exact rfl); k_whole; intro g' L' h' FG' F' N' B' X' T'; (try dsimp only); (try k_lift B'); (try k_fold)))
  k_steps
  rename Fr _ _ _ _ => lF'
  rename News _ _ _ _ => lN'
  refine' tnewL_end hret lF' lN' ?hm hi8 ?hr hT8 fun p hp => hC8 p (.tail _ hp)
  case hm => kst_in
  case hr => exact fun p hp => hr8 p (by revert p; kst_in)
end
section
theorem g_maps {w : World} {news : Led} {d : Nat} (hD : DataOK w news d) : ∃ dx df mp pr wd u1 u2 u3 u4 n om mk rd vd, (d, instObj 336 dx) ∈ news ∧ (dx, daDict w u1 u2 u3 u4 n df mp pr wd) ∈ news ∧ (mp, om) ∈ news ∧ (mp == sysModules) = false ∧ om.IsDictOf (strKind PG w) mk ∧
    valueAt mk (Str.ofString "dm") = some (.ref rd) ∧ MapAt w news rd .none NSD vd ∧ DVal news vd := by
  obtain ⟨dx, df, mp, pr, wd, u1, u2, u3, u4, n, om, mk, od, dk, rc, rd, rf, t0, vc, vd, vf, a1, a2, a3, a4, a5, a6, a7, a8, a9, a10, a11, a12, a13, a14, a15, a16, a17, a18, a19⟩ := hD
  exact ⟨dx, df, mp, pr, wd, u1, u2, u3, u4, n, om, mk, rd, vd, a1, a2, a3, a4, a5, a12, a15, a18⟩
set_option maxRecDepth 100000 in
set_option maxHeartbeats 8000000 in
theorem c_mapof {w : World} {news : Led} {d dx df mp pr wd n r : Nat} {u1 u2 u3 u4 t' : Tok} {om : Obj} {mk : List (Str × Value)} {name : Str}
  (g1 : (d, instObj 336 dx) ∈ news) (g2 : (dx, daDict w u1 u2 u3 u4 n df mp pr wd) ∈ news) (g3 : (mp, om) ∈ news) (lo : (mp == sysModules) = false) (gd : om.IsDictOf (strKind PG w) mk) (gf : valueAt mk name = some (.ref r)) :
  CC w 333 [.ref d, .str name t'] 4 news (fun news' y => news = news' ∧ .ref r = y) := by
  refine CC.mk ?_; k_fill; intro p loose mean mg mb dp un gd' cn cs a ccd cl outer A₀ base h₀ L m s Q E B F X N T hk hdp hun hret
  have hMk : KstMark := kstMark
  k_with_none
  k_with "m_allIn" => first | exact List.forall_mem_nil _ | (refine sub_cons (by k_memK) ?_; k_extra "m_allIn") | (intro p9 h9; kst_mem)
  k_with "m_ra" => first | assumption | exact And.right (by first | assumption | exact And.right (by first | assumption | exact And.right (by first | assumption | exact And.right (by first | assumption | exact And.right (by first | assumption | exact And.right (by first | assumption | exact And.right (by first | assumption | exact And.right (by assumption))))))))
  k_with "m_and" => first | k_extra "m_ra" | exact And.left (by k_extra "m_ra")
  k_with "m_neA" => first | k_extra "m_and" | (refine Ne.symm ?_; k_extra "m_and") | (refine Nat.ne_of_lt ?_; k_extra "m_and") | (refine Nat.ne_of_gt ?_; k_extra "m_and") | (refine Nat.ne_of_lt (Nat.lt_succ_of_lt ?_); k_extra "m_and")
  k_with "m_lt" => first | assumption | exact allLt_of (by assumption) | k_extra "m_and"
  k_with "kst_in" => (try dsimp only); with_unfolding_all ((try simp only [List.nil_append, List.cons_append]); k_extra "m_allIn")
  k_with "k_ne" => refine neN ?_; (try dsimp only); first | (with_reducible assumption) | (with_reducible exact Ne.symm (by assumption)) | (with_reducible exact Nat.ne_of_lt (by assumption)) | (with_reducible exact Nat.ne_of_gt (by assumption)) | with_reducible k_extra "m_neA" | k_extra "m_neA" | omega
  k_with "k_all" => first | exact List.forall_mem_nil _ | assumption | exact lt_ne (by assumption) | exact lt_ne (by k_extra "m_lt") | exact lt_ne1 (by k_extra "m_lt") | (refine ne_cons ?_ ?_; (focus k_ne); k_all) | (refine List.forall_mem_cons.mpr (And.intro ?_ ?_); (focus k_ne); k_all)
  k_with "k_in" => (rename Fr _ _ _ _ => lF8); (rename Frag.In _ _ => lX8); exact Frag.In.keeps lX8 (Fr.keep lF8)
  k_with "ktr_room" => k_dflt (first | exact rmA (by assumption) (by exact rfl) | exact rmB (by assumption))
  k_with "ktr_units" => k_dflt (first | exact unA (by assumption) (by exact rfl) | exact unC (by assumption) (by exact rfl))
  k_with "MPost" => dsimp only [MPost]
  k_with "execs cons" => with_reducible refine gen_tok ?_; intro tk9
  k_with "m_for" => k_here; (rename Fr _ _ _ _ => lF'); k_dflt (refine' For_invVF ?zF ?zk1 ?zk2 ?_ ?zs ?ze; (case zF => exact lF'); (case zk1 => exact rfl); (case zk2 => exact rfl); (case zs => (intro _; rfl)); (case ze => passes_own); k_whole)
  k_with "exec For Name Name cons nil" => k_extra "m_for"
  k_with "exec For Name Subscript cons nil" => k_extra "m_for"
  k_with "exec For Name Call cons nil" => k_extra "m_for"
  k_with "exec For Name Attribute cons nil" => k_extra "m_for"
  k_with "exec For Name Tuple cons nil" => k_extra "m_for"
  k_with "compareOp NotEq ref ref" => k_here; (with_reducible show wpAny _ _ (compareOp CmpOp.NotEq (Value.ref _) (Value.ref _)) _ _ _); k_dflt (first | refine ke_ne_ints (by is_list) (by is_list) (by l_ints) (by l_ints) (by ktr_units) ?_ | ((refine ne_dataH (by ke_read) (by ke_read) (by ke_shaped) (by ke_shaped) (by ktr_units) ?_); ke_norm))
  k_with "compareOp Eq ref ref" => k_here; (with_reducible show wpAny _ _ (compareOp CmpOp.Eq (Value.ref _) (Value.ref _)) _ _ _); k_dflt (first | refine ke_eq_ints (by is_list) (by is_list) (by l_ints) (by l_ints) (by ktr_units) ?_ | ((refine eq_dataH (by ke_read) (by ke_read) (by ke_shaped) (by ke_shaped) (by ktr_units) ?_); ke_norm))
  w_top off
  k_with "compareOp NotIn str ref" =>
    refine m_notin (b := false) (by assumption) g3 lo gd (strKind_is _ _ _ _) (by rw [gf]; exact rfl) ?_
  k_with "subscriptTail Attribute Name Name ref str" =>
    refine m_ditem (by assumption) g3 gd (strKind_is _ _ _ _) gf ?_
  k_with "subscriptTail Attribute Name ref str" =>
    refine m_ditem (by assumption) g3 gd (strKind_is _ _ _ _) gf ?_
  refine wpAny_call ?_
  k_dflt cell_enter
  k_steps
  exact hret _ _ _ _ (by assumption) (by assumption) ⟨rfl, rfl⟩
/-- what a told value reads as -/
def TDat (news : Led) (v : Value) (b : Bool) : Prop := (v = .none ∧ b = true) ∨ (b = false ∧ ∃ a t c n t1 t2 n' x y, v = .ref a ∧ (a, tupO (List.toArray [.str (Str.ofString "") t, .ref c]) n) ∈ news ∧ (c, tupO (List.toArray [.int x t1, .int y t2]) n') ∈ news) 
theorem m_eqNone {prog : Program} {w : World} {A : Around} {E : Value → Shared → Prop} {s : Shared} {h₀ : Heap} {L : Addr} {news : Led} {v : Value} {b : Bool} {Q : Value → Shared → Prop} (N : News h₀ L s.heap news) (hv : TDat news v b) (hu : A.units + 64 < cLine) (h : Q (.bool b) s) :
    wpAny (model prog w) A (compareOp .Eq v .none) Q E s := by
  rcases hv with ⟨rfl, rfl⟩ | ⟨rfl, a, t, c, n, t1, t2, n', x, y, rfl, h1, h2⟩
  · exact eq_dataH .none .none rfl rfl hu h
  · have r : Reads s.heap (.ref a) (.tuple [.str (Str.ofString ""), .tuple [.int x, .int y]]) ([] ++ (([] ++ ([] ++ [])) ++ [])) :=
      .tuple (N _ h1).1 rfl rfl (.cons (.str _ _) (.cons (.tuple (N _ h2).1 rfl rfl (.cons (.int _ _) (.cons (.int _ _) .nil))) .nil))
    exact eq_dataH r .none (by with_unfolding_all rfl) rfl hu h
set_option maxRecDepth 100000 in
set_option maxHeartbeats 8000000 in
theorem c_like {w : World} {news : Led} {v : Value} {b : Bool} (hv : TDat news v b) : CC w 237 [v, .none] 12 news (fun news' y => news = news' ∧ .bool b = y) := by
  refine CC.mk ?_; k_fill; intro p loose mean mg mb dp un gd' cn cs a ccd cl outer A₀ base h₀ L m s Q E B F X N T hk hdp hun hret
  have hMk : KstMark := kstMark
  k_with_none
  k_with "m_allIn" => first | exact List.forall_mem_nil _ | (refine sub_cons (by k_memK) ?_; k_extra "m_allIn") | (intro p9 h9; kst_mem)
  k_with "m_ra" => first | assumption | exact And.right (by first | assumption | exact And.right (by first | assumption | exact And.right (by first | assumption | exact And.right (by first | assumption | exact And.right (by first | assumption | exact And.right (by first | assumption | exact And.right (by first | assumption | exact And.right (by assumption))))))))
  k_with "m_and" => first | k_extra "m_ra" | exact And.left (by k_extra "m_ra")
  k_with "m_neA" => first | k_extra "m_and" | (refine Ne.symm ?_; k_extra "m_and") | (refine Nat.ne_of_lt ?_; k_extra "m_and") | (refine Nat.ne_of_gt ?_; k_extra "m_and") | (refine Nat.ne_of_lt (Nat.lt_succ_of_lt ?_); k_extra "m_and")
  k_with "m_lt" => first | assumption | exact allLt_of (by assumption) | k_extra "m_and"
  k_with "kst_in" => (try dsimp only); with_unfolding_all ((try simp only [List.nil_append, List.cons_append]); k_extra "m_allIn")
  k_with "k_ne" => refine neN ?_; (try dsimp only); first | (with_reducible assumption) | (with_reducible exact Ne.symm (by assumption)) | (with_reducible exact Nat.ne_of_lt (by assumption)) | (with_reducible exact Nat.ne_of_gt (by assumption)) | with_reducible k_extra "m_neA" | k_extra "m_neA" | omega
  k_with "k_all" => first | exact List.forall_mem_nil _ | assumption | exact lt_ne (by assumption) | exact lt_ne (by k_extra "m_lt") | exact lt_ne1 (by k_extra "m_lt") | (refine ne_cons ?_ ?_; (focus k_ne); k_all) | (refine List.forall_mem_cons.mpr (And.intro ?_ ?_); (focus k_ne); k_all)
  k_with "k_in" => (rename Fr _ _ _ _ => lF8); (rename Frag.In _ _ => lX8); exact Frag.In.keeps lX8 (Fr.keep lF8)
  k_with "ktr_room" => k_dflt (first | exact rmA (by assumption) (by exact rfl) | exact rmB (by assumption))
  k_with "ktr_units" => k_dflt (first | exact unA (by assumption) (by exact rfl) | exact unC (by assumption) (by exact rfl))
  k_with "MPost" => dsimp only [MPost]
  k_with "execs cons" => with_reducible refine gen_tok ?_; intro tk9
  k_with "m_for" => k_here; (rename Fr _ _ _ _ => lF'); k_dflt (refine' For_invVF ?zF ?zk1 ?zk2 ?_ ?zs ?ze; (case zF => exact lF'); (case zk1 => exact rfl); (case zk2 => exact rfl); (case zs => (intro _; rfl)); (case ze => passes_own); k_whole)
  k_with "exec For Name Name cons nil" => k_extra "m_for"
  k_with "exec For Name Subscript cons nil" => k_extra "m_for"
  k_with "exec For Name Call cons nil" => k_extra "m_for"
  k_with "exec For Name Attribute cons nil" => k_extra "m_for"
  k_with "exec For Name Tuple cons nil" => k_extra "m_for"
  k_with "compareOp NotEq ref ref" => k_here; (with_reducible show wpAny _ _ (compareOp CmpOp.NotEq (Value.ref _) (Value.ref _)) _ _ _); k_dflt (first | refine ke_ne_ints (by is_list) (by is_list) (by l_ints) (by l_ints) (by ktr_units) ?_ | ((refine ne_dataH (by ke_read) (by ke_read) (by ke_shaped) (by ke_shaped) (by ktr_units) ?_); ke_norm))
  k_with "compareOp Eq ref ref" => k_here; (with_reducible show wpAny _ _ (compareOp CmpOp.Eq (Value.ref _) (Value.ref _)) _ _ _); k_dflt (first | refine ke_eq_ints (by is_list) (by is_list) (by l_ints) (by l_ints) (by ktr_units) ?_ | ((refine eq_dataH (by ke_read) (by ke_read) (by ke_shaped) (by ke_shaped) (by ktr_units) ?_); ke_norm))
  w_top off
  rcases hv with ⟨rfl, rfl⟩ | ⟨rfl, a1, t1, c1, n1, t2, t3, n2, x1, y1, rfl, h1, h2⟩
  · refine wpAny_call ?_
    k_dflt cell_enter
    k_steps
    exact hret _ _ _ _ (by assumption) (by assumption) ⟨rfl, rfl⟩
  · k_with "compareOp Eq ref none" =>
      refine m_eqNone (by assumption) (.inr ⟨rfl, _, _, _, _, _, _, _, _, _, rfl, h1, h2⟩) (by ktr_units) ?_
    refine wpAny_call ?_
    k_dflt cell_enter
    k_steps
    exact hret _ _ _ _ (by assumption) (by assumption) ⟨rfl, rfl⟩
end
section
theorem ints_inv {sv : List Value} {a : Int} {l : List Int} (h : IntsAre sv (a :: l)) : ∃ t r, sv = .int a t :: r ∧ IntsAre r l := by
  cases h with | cons _ t h => exact ⟨t, _, rfl, h⟩
theorem ints_inv0 {sv : List Value} (h : IntsAre sv []) : sv = [] := by cases h; rfl
theorem ints5 {sv : List Value} {a b c d e : Int} (h : IntsAre sv [a, b, c, d, e]) : ∃ t1 t2 t3 t4 t5, sv = [.int a t1, .int b t2, .int c t3, .int d t4, .int e t5] := by
  obtain ⟨t1, _, rfl, g1⟩ := ints_inv h
  obtain ⟨t2, _, rfl, g2⟩ := ints_inv g1
  obtain ⟨t3, _, rfl, g3⟩ := ints_inv g2
  obtain ⟨t4, _, rfl, g4⟩ := ints_inv g3
  obtain ⟨t5, _, rfl, g5⟩ := ints_inv g4
  obtain rfl := ints_inv0 g5
  exact ⟨t1, t2, t3, t4, t5, rfl⟩
theorem allObj_mono : ∀ {ws : List (Addr × String)} {k k' : List (Addr × Obj) → Prop}, (∀ its, k its → k' its) → AllObj ws k → AllObj ws k'
  | [], _, _, f, h => f _ h
  | _ :: _, _, _, f, h => fun o ho => allObj_mono (fun _ => f _) (h o ho)
section
variable {prog : Program} {w : World} {A : Around} {E : Value → Shared → Prop} {s : Shared} {env : Env} {h₀ : Heap} {x : Str} {body : List Stmt} {Q : Flow → Shared → Prop}
theorem itemsRest_of {target : PySem.Expr} {ws : List (Addr × String)} {keep : List (Addr × Obj)} {xs : List Itm} (J : Nat → (Str → Option Value) → Led → Prop)
    (turn : ∀ i a m nx, xs[i]? = some a → J i m nx → ∀ v h tk, a.Is v h → Fr h₀ env.locals h m → AllObj ws (fun its => News h₀ env.locals h (its ++ nx) →
      wpAny (model prog w) A (assign target env v) (fun _ s₂ => wpAny (model prog w) A (execs body env) (UnrPostW h₀ env.locals { s with heap := h, toks := tk } its (fun m' n' => SubL keep n' ∧ J (i + 1) m' n') Q) E s₂) E { s with heap := h, toks := tk }))
    (done : ∀ m nx, J xs.length m nx → ∀ h tk, Fr h₀ env.locals h m → News h₀ env.locals h nx → Q .next { s with heap := h, toks := tk }) :
    ∀ (r : List Itm) (i : Nat) m nx, xs.drop i = r → i ≤ xs.length → J i m nx → ItemsRest prog w A E h₀ env target body Q s ws keep r m nx
  | [], i, m, nx, e, hi, hJ => by
    have : i = xs.length := Nat.le_antisymm hi (List.drop_eq_nil_iff.mp e)
    subst this
    exact fun h tk F N => done m nx hJ h tk F N
  | a :: r, i, m, nx, e, hi, hJ => by
    have hlt : i < xs.length := by
      rcases Nat.lt_or_ge i xs.length with h | h
      · exact h
      · rw [List.drop_eq_nil_iff.mpr h] at e; cases e
    rw [List.drop_eq_getElem_cons hlt] at e
    obtain ⟨rfl, e2⟩ := List.cons.inj e
    refine fun v h tk hv F => allObj_mono (fun its z N => wpAny_mono (z N) (fun _ s₂ h₂ => wpAny_mono h₂ (fun f s₃ p => ?_) fun _ _ e => e) fun _ _ e => e) (turn i _ m nx (List.getElem?_eq_getElem hlt) hJ v h tk hv F)
    have fin : UnrEndW h₀ env.locals { s with heap := h, toks := tk } its (fun m' n' => SubL keep n' ∧ J (i + 1) m' n') s₃ → UnrEndW h₀ env.locals { s with heap := h, toks := tk } its (fun m' n' => SubL keep n' ∧ ItemsRest prog w A E h₀ env target body Q s ws keep r m' n') s₃ := by
      rintro ⟨h', tk', m', n', q1, q2, q3, q4, q5, q6⟩
      exact ⟨h', tk', m', n', q1, q2, q3, q4, q5, itemsRest_of J turn done r (i + 1) m' n' e2 hlt q6⟩
    cases f with
    | ret v => exact p
    | brk => exact p
    | next => exact fin p
    | cont => exact fin p
/-- a loop over enumerate(list) with a state of own letters -/
theorem m_enum {σ : Type} {elts : List PySem.Expr} {k : Nat} {pos : Pos} {l : Addr} {vs : List Value} {nn : Nat} {m₀ : Str → Option Value} (Led : σ → Led) (ps : σ → List (Str × Value)) (x : Str) (stored : List Str) (P : Nat → σ → Prop) (c₀ : σ)
    (hh : A.handled = none) (hl : ∀ i c, P i c → (l, listOf vs.toArray nn) ∈ Led c) (F : Fr h₀ env.locals s.heap m₀) (N : News h₀ env.locals s.heap (Led c₀)) (hk : ∀ p ∈ ps c₀, m₀ p.1 = some p.2) (hp : P 0 c₀)
    (turn : ∀ (I T : Nat) (o1 o0 : Obj) (t : Tok) (c : σ) (i : Nat) (v : Value) (u : Str → Option Value) h tk, vs[i]? = some v → P i c → (∀ p ∈ Led c, p.1 ≠ I + 1) → (∀ p ∈ Led c, p.1 ≠ I) → IsTup h T #[.int (i : Int) t, v] →
      Fr h₀ env.locals h (fun y => if y = x then u y else kstB (fun z => if stored.contains z then u z else m₀ z) (ps c) y) → News h₀ env.locals h ((I + 1, o1) :: (I, o0) :: Led c) →
      wpAny (model prog w) A (assign (.Tuple elts k pos) env (.ref T)) (fun _ s₂ => wpAny (model prog w) A (execs body env) (UnrPostW h₀ env.locals { s with heap := h, toks := tk } [(I + 1, o1), (I, o0)] (MJ Led ps x stored m₀ P (i + 1)) Q) E s₂) E { s with heap := h, toks := tk })
    (done : ∀ (c : σ) (u : Str → Option Value) h tk, P vs.length c → Fr h₀ env.locals h (fun y => if y = x then u y else kstB (fun z => if stored.contains z then u z else m₀ z) (ps c) y) → News h₀ env.locals h (Led c) → Q .next { s with heap := h, toks := tk }) :
    wpAny (model prog w) A (call (.type "enumerate") [.ref l]) (fun xv s₁ => wpAny (model prog w) A (pyIter xv) (fun it s₂ => TurnsAt prog w A h₀ env (.Tuple elts k pos) body Q E it s₂) E s₁) E s := by
  refine ktu_enum hh F N (hl 0 c₀ hp) rfl rfl rfl fun I hI => ?_
  have hne0 : ∀ p ∈ Led c₀, p.1 ≠ I := fun p hp => Nat.ne_of_lt (hI p hp)
  have hne1 : ∀ p ∈ Led c₀, p.1 ≠ I + 1 := fun p hp => Nat.ne_of_lt (Nat.lt_succ_of_lt (hI p hp))
  refine itemsRest_of (xs := enumItems 0 vs) (fun i m nx => MJ Led ps x stored m₀ P i m nx ∧ (∀ p ∈ nx, p.1 ≠ I + 1) ∧ ∀ p ∈ nx, p.1 ≠ I) ?_ ?_ _ 0 m₀ _ rfl (Nat.zero_le _) ⟨⟨c₀, rfl, hk, fun _ _ _ _ => rfl, hp⟩, hne1, hne0⟩
  · rintro i a m nx ha ⟨⟨c, rfl, h1, h2, hp'⟩, g1, g0⟩ v h tk hv F₁ o1 ho1 o0 ho0 N₁
    have hlt : i < vs.length := by
      have := (List.getElem?_eq_some_iff.mp ha).1
      rwa [enumItems_length] at this
    have hx := List.getElem?_eq_getElem hlt
    rw [enumItems_get vs 0 i hx] at ha
    obtain rfl := Option.some.inj ha
    obtain ⟨T, t, rfl, hT⟩ := hv
    rw [Nat.zero_add] at hT
    refine wpAny_mono (turn I T o1 o0 t c i _ m h tk hx hp' g1 g0 hT (kst_frOut h1 h2 F₁) N₁) (fun _ s₂ h₂ => wpAny_mono h₂ (fun f s₃ p => ?_) fun _ _ e => e) fun _ _ e => e
    have fin : UnrEndW h₀ env.locals { s with heap := h, toks := tk } [(I + 1, o1), (I, o0)] (MJ Led ps x stored m₀ P (i + 1)) s₃ → UnrEndW h₀ env.locals { s with heap := h, toks := tk } [(I + 1, o1), (I, o0)] (fun m' n' => SubL [(l, listOf vs.toArray nn)] n' ∧ MJ Led ps x stored m₀ P (i + 1) m' n' ∧ (∀ p ∈ n', p.1 ≠ I + 1) ∧ ∀ p ∈ n', p.1 ≠ I) s₃ := by
      rintro ⟨h', tk', m', n', q1, q2, q3, q4, q5⟩
      refine ⟨h', tk', m', n', q1, q2, q3, q4, ⟨?_, trivial⟩, q5, fun p hp => q4 p hp _ (.head _), fun p hp => q4 p hp _ (.tail _ (.head _))⟩
      obtain ⟨c', rfl, _, _, z⟩ := q5
      exact hl _ c' z
    cases f with
    | ret v => exact p
    | brk => exact p
    | next => exact fin p
    | cont => exact fin p
  · rintro m nx ⟨⟨c, rfl, h1, h2, hp'⟩, _, _⟩ h tk F₁ N₁
    rw [enumItems_length] at hp'
    exact done c m h tk hp' (kst_frOut h1 h2 F₁) N₁
theorem enum_end {σ : Type} {Led : σ → Led} {ps : σ → List (Str × Value)} {stored : List Str} {m₀ m' : Str → Option Value} {P : Nat → σ → Prop} {i I L : Nat} {o1 o0 : Obj} {news' : List (Addr × Obj)} {h' : Heap} {tk : Nat} {s₁ : Shared} (c : σ)
    (F : Fr h₀ L h' m') (N : News h₀ L h' news') (hI1 : (I + 1, o1) ∈ news') (hI0 : (I, o0) ∈ news') (hn : ∀ p ∈ Led c, p ∈ news') (hne1 : ∀ p ∈ Led c, p.1 ≠ I + 1) (hne0 : ∀ p ∈ Led c, p.1 ≠ I) (hk : ∀ p ∈ ps c, m' p.1 = some p.2)
    (hr : ∀ z, z ≠ x → (∀ p ∈ ps c, z ≠ p.1) → stored.contains z = false → m' z = m₀ z) (hp : P i c) :
    UnrEndW h₀ L s₁ [(I + 1, o1), (I, o0)] (MJ Led ps x stored m₀ P i) { s₁ with heap := h', toks := tk } :=
  ⟨h', tk, m', Led c, rfl, F, fun p hp => by
    rcases List.mem_append.mp hp with hp | hp
    · rcases List.mem_cons.mp hp with rfl | hp
      · exact N _ hI1
      · rw [List.mem_singleton.mp hp]; exact N _ hI0
    · exact N p (hn p hp), fun p hp q hq => by
    rcases List.mem_cons.mp hq with rfl | hq
    · exact hne1 p hp
    · rw [List.mem_singleton.mp hq]; exact hne0 p hp, ⟨c, rfl, hk, hr, hp⟩⟩
end
/-- an expression's ways meet behind it -/
inductive JoinV (h₀ : Heap) (L : Addr) (m1 : Str → Option Value) (led : Led) (f : Int) (s : Shared) (v : Value) (s' : Shared) : Prop
  | mk (t : Tok) (h' : Heap) (tk : Nat) (q0 : v = .int f t) (q1 : s' = { s with heap := h', toks := tk }) (q2 : Fr h₀ L h' m1) (q3 : News h₀ L h' led) : JoinV h₀ L m1 led f s v s'
theorem val_join {M : Model} {A : Around} {E : Value → Shared → Prop} {s : Shared} {e : PySem.Expr} {env : Env} {Q : Value → Shared → Prop} {h₀ : Heap} {L : Addr} {m1 : Str → Option Value} {led : Led} (_F : Fr h₀ L s.heap m1) (_N : News h₀ L s.heap led) (f : Int)
    (h : wpAny M A (eval e env) (JoinV h₀ L m1 led f s) E s) (k : ∀ t h' tk, Fr h₀ L h' m1 → News h₀ L h' led → Q (.int f t) { s with heap := h', toks := tk }) : wpAny M A (eval e env) Q E s :=
  wpAny_mono h (fun _ _ q => by obtain ⟨t, h', tk, rfl, rfl, F, N⟩ := q; exact k t h' tk F N) (fun _ _ e => e)
abbrev rowO (f l : Int) (u v : Tok) (x : Value) : Obj := tupO (List.toArray [.int f u, .int l v, x]) 0
inductive RowP (a b : Nat) (news news' : Led) (y : Value) : Prop
  | mk (R n e1 e2 e3 e4 e5 : Nat) (u1 u2 u3 u4 u5 v1 v2 v3 v4 v5 : Tok) (q1 : .ref R = y) (q2 : (R, listOf (List.toArray [.ref e1, .ref e2, .ref e3, .ref e4, .ref e5]) n) :: (e5, rowO 234 1114111 u5 v5 .none) :: (e4, rowO 233 233 u4 v4 (.ref b)) :: (e3, rowO 202 232 u3 v3 .none) :: (e2, rowO 201 201 u2 v2 (.ref a)) :: (e1, rowO 0 200 u1 v1 .none) :: news = news') (q3 : (∀ p ∈ news, p.1 ≠ e2)) (q4 : (∀ p ∈ news, p.1 ≠ e4)) : RowP a b news news' y
theorem RowP.go {wz : World} {fz : Addr} {vz : List Value} {kz : Nat} {ledz : Led} {a : Nat} {b : Nat} {news : Led} (Cz : CC wz fz vz kz ledz (RowP a b news))
  {pz : Program} {lz : List Str} {mnz : ExcName → Option Value} {mgz mbz : Str → Option Value} {dpz unz : Nat} {gdz : Option (List Code)} {cnz : Str} {csz : Scope} {az : Addr} {cdz : Value} {clz : List (Str × Addr)} {otz : List Env} {A₀ : Around} {basez h₀ : Heap} {Lz : Addr} {mz : Str → Option Value} {sz : Shared} {Qz Ez : Value → Shared → Prop}
  (ret : ∀ (R n e1 e2 e3 e4 e5 : Nat) (u1 u2 u3 u4 u5 v1 v2 v3 v4 v5 : Tok) (hz : Heap) (tkz : Nat), Fr h₀ Lz hz mz → News h₀ Lz hz ((R, listOf (List.toArray [.ref e1, .ref e2, .ref e3, .ref e4, .ref e5]) n) :: (e5, rowO 234 1114111 u5 v5 .none) :: (e4, rowO 233 233 u4 v4 (.ref b)) :: (e3, rowO 202 232 u3 v3 .none) :: (e2, rowO 201 201 u2 v2 (.ref a)) :: (e1, rowO 0 200 u1 v1 .none) :: news) → ((∀ p ∈ news, p.1 ≠ e2)) → ((∀ p ∈ news, p.1 ≠ e4)) → Qz (.ref R) { sz with heap := hz, toks := tkz })
  (F : Fr h₀ Lz sz.heap mz) (N : News h₀ Lz sz.heap ledz) (B : Below A₀ basez otz h₀) (X : (hd.heap_1_39 wz.params).In h₀) (T : Top pz lz mnz mgz mbz h₀) (hk : csz.kind = .function)
  (hd : dpz + kz < recursionLimit) (hu : unz + 8 * kz < cLine) :
    wpAny (model PySem.Challenge.rw_on0371_01.prog wz) (ktrTop dpz unz gdz cnz csz Lz az cdz clz otz) (call (.ref fz) vz) Qz Ez sz := by
  refine cc_go Cz (fun v news9 h9 tk9 F9 N9 P9 => ?_) F N B X T hk hd hu
  obtain ⟨R, n, e1, e2, e3, e4, e5, u1, u2, u3, u4, u5, v1, v2, v3, v4, v5, rfl, rfl, q3, q4⟩ := P9
  exact ret R n e1 e2 e3 e4 e5 u1 u2 u3 u4 u5 v1 v2 v3 v4 v5 h9 tk9 F9 N9 q3 q4
def rowF (i : Nat) : Int := [0, 201, 202, 233, 234].getD i 0
def rowL (i : Nat) : Int := [200, 201, 232, 233, 1114111].getD i 0
theorem rowL_mid : ∀ i : Nat, i + 1 < 5 → rowF (i + 1) - 1 = rowL i
  | 0, _ => rfl
  | 1, _ => rfl
  | 2, _ => rfl
  | 3, _ => rfl
theorem rowL_end : ∀ i : Nat, i < 5 → ¬ i + 1 < 5 → (1114111 : Int) = rowL i
  | 4, _, _ => rfl
theorem unrEnd0 {h₀ : Heap} {L : Addr} {s₁ : Shared} {rest : (Str → Option Value) → Led → Prop} {h' : Heap} {tk : Nat} {m' : Str → Option Value} {i0 : Addr × Obj} {l : Led} (F : Fr h₀ L h' m') (N : News h₀ L h' (i0 :: l))
    (n0 : ∀ p ∈ l, p.1 ≠ i0.1) (r : rest m' l) : UnrEndW h₀ L s₁ [i0] rest { s₁ with heap := h', toks := tk } :=
  ⟨h', tk, m', l, rfl, F, N, fun p hp q hq => by rw [List.mem_singleton.mp hq]; exact n0 p hp, r⟩
theorem news_tail {h₀ h : Heap} {L : Addr} {a : Addr × Obj} {l : Led} (N : News h₀ L h (a :: l)) : News h₀ L h l := fun p hp => N p (.tail _ hp)
inductive RowsAt (vals : List Value) (news : Led) : Nat → List Value → Led → Prop
  | zero : RowsAt vals news 0 [] news
  | succ {i : Nat} {vs : List Value} {rest : Led} (h : RowsAt vals news i vs rest) (e : Nat) (u v : Tok) (x : Value) (hx : vals[i]? = some x) (hne : ∀ p ∈ news, p.1 ≠ e) : RowsAt vals news (i + 1) (vs ++ [.ref e]) ((e, rowO (rowF i) (rowL i) u v x) :: rest)
theorem RowsAt.sub {vals : List Value} {news : Led} {i : Nat} {vs : List Value} {rest : Led} (h : RowsAt vals news i vs rest) : ∀ p ∈ news, p ∈ rest := by
  induction h with
  | zero => exact fun _ hp => hp
  | succ _ _ _ _ _ _ _ ih => exact fun p hp => .tail _ (ih p hp)
theorem RowsAt.len {vals : List Value} {news : Led} {i : Nat} {vs : List Value} {rest : Led} (h : RowsAt vals news i vs rest) : vs.length = i := by
  induction h with
  | zero => rfl
  | succ _ _ _ _ _ _ _ ih => rw [List.length_append, ih]; rfl
structure RrS where
  vs : List Value
  n : Nat
  rest : Led
def rrL (R : Nat) (c : RrS) : Led := (R, listOf c.vs.toArray c.n) :: c.rest
inductive RrP (vals : List Value) (news : Led) (R i : Nat) (c : RrS) : Prop
  | mk (h : RowsAt vals news i c.vs c.rest) (hne : ∀ p ∈ c.rest, p.1 ≠ R) : RrP vals news R i c
theorem RrP.zero {vals : List Value} {news : Led} {R n : Nat} (h : ∀ p ∈ news, p.1 < R) : RrP vals news R 0 ⟨[], n, news⟩ := ⟨.zero, fun p hp => Nat.ne_of_lt (h p hp)⟩
theorem tn1 (i : Nat) : ((i : Int) + 1).toNat = i + 1 := by omega
theorem rows_end {σ₁ : Shared} {vals vs : List Value} {news rest : Led} {R e I L i n n' tk : Nat} {o1 o0 : Obj} {u v : Tok} {x : Value} {x0 : Str} {stored : List Str} {m₀ m' : Str → Option Value} {h₀ h' : Heap} (F : Fr h₀ L h' m') (N : News h₀ L h' ((e, rowO (rowF i) (rowL i) u v x) :: (I + 1, o1) :: (I, o0) :: (R, listOf (vs ++ [Value.ref e]).toArray n') :: rest))
    (le : ∀ p ∈ (I + 1, o1) :: (I, o0) :: (R, listOf vs.toArray n) :: rest, p.1 < e) (hne1 : ∀ p ∈ (R, listOf vs.toArray n) :: rest, p.1 ≠ I + 1) (hne0 : ∀ p ∈ (R, listOf vs.toArray n) :: rest, p.1 ≠ I)
    (hr : ∀ z, z ≠ x0 → (∀ p ∈ ([] : List (Str × Value)), z ≠ p.1) → stored.contains z = false → m' z = m₀ z) (hx : vals[i]? = some x) (hP : RowsAt vals news i vs rest) (hR : ∀ p ∈ rest, p.1 ≠ R) :
    UnrEndW h₀ L σ₁ [(I + 1, o1), (I, o0)] (MJ (rrL R) (fun _ => []) x0 stored m₀ (RrP vals news R) (i + 1)) { σ₁ with heap := h', toks := tk } := by
  have e1 : e ≠ I + 1 := (Nat.ne_of_lt (le _ (.head _))).symm
  have e0 : e ≠ I := (Nat.ne_of_lt (le _ (.tail _ (.head _)))).symm
  refine enum_end (⟨vs ++ [.ref e], n', _⟩ : RrS) F N (.tail _ (.head _)) (.tail _ (.tail _ (.head _))) ?_ ?_ ?_ (fun _ h => nomatch h) hr ⟨.succ hP e u v x hx fun p hp => Nat.ne_of_lt (le p (.tail _ (.tail _ (.tail _ (hP.sub p hp))))), List.forall_mem_cons.mpr ⟨(Nat.ne_of_lt (le (R, listOf vs.toArray n) (.tail _ (.tail _ (.head _))))).symm, hR⟩⟩
  · exact sub_cons (.tail _ (.tail _ (.tail _ (.head _)))) (sub_cons (.head _) fun p hp => .tail _ (.tail _ (.tail _ (.tail _ hp))))
  · exact List.forall_mem_cons.mpr ⟨hne1 (R, listOf vs.toArray n) (.head _), List.forall_mem_cons.mpr ⟨e1, fun p hp => hne1 p (.tail _ hp)⟩⟩
  · exact List.forall_mem_cons.mpr ⟨hne0 (R, listOf vs.toArray n) (.head _), List.forall_mem_cons.mpr ⟨e0, fun p hp => hne0 p (.tail _ hp)⟩⟩
theorem RowsAt.inv {vals : List Value} {news : Led} {i : Nat} {vs : List Value} {rest : Led} (h : RowsAt vals news (i + 1) vs rest) : ∃ vs' rest' e u v x, vs = vs' ++ [.ref e] ∧ rest = (e, rowO (rowF i) (rowL i) u v x) :: rest' ∧ vals[i]? = some x ∧ (∀ p ∈ news, p.1 ≠ e) ∧ RowsAt vals news i vs' rest' := by
  cases h with | succ h e u v x hx hn => exact ⟨_, _, e, u, v, x, rfl, rfl, hx, hn, h⟩
theorem RowsAt.inv0 {vals : List Value} {news : Led} {vs : List Value} {rest : Led} (h : RowsAt vals news 0 vs rest) : vs = [] ∧ rest = news := by cases h; exact ⟨rfl, rfl⟩
theorem rows_fin {a b R n : Nat} {news rest : Led} {vs : List Value} (h : RowsAt [.none, .ref a, .none, .ref b, .none] news 5 vs rest) : RowP a b news ((R, listOf vs.toArray n) :: rest) (.ref R) := by
  obtain ⟨_, _, e5, u5, v5, x5, rfl, rfl, hx5, n5, g1⟩ := h.inv
  obtain ⟨_, _, e4, u4, v4, x4, rfl, rfl, hx4, n4, g2⟩ := g1.inv
  obtain ⟨_, _, e3, u3, v3, x3, rfl, rfl, hx3, n3, g3⟩ := g2.inv
  obtain ⟨_, _, e2, u2, v2, x2, rfl, rfl, hx2, n2, g4⟩ := g3.inv
  obtain ⟨_, _, e1, u1, v1, x1, rfl, rfl, hx1, n1, g5⟩ := g4.inv
  obtain ⟨rfl, rfl⟩ := g5.inv0
  obtain rfl := Option.some.inj hx1
  obtain rfl := Option.some.inj hx2
  obtain rfl := Option.some.inj hx3
  obtain rfl := Option.some.inj hx4
  obtain rfl := Option.some.inj hx5
  exact ⟨R, n, e1, e2, e3, e4, e5, u1, u2, u3, u4, u5, v1, v2, v3, v4, v5, rfl, rfl, n2, n4⟩
set_option maxRecDepth 100000 in
set_option maxHeartbeats 8000000 in
theorem c_rrows {w : World} {news : Led} {r rx st va k1 k2 n a b : Nat} {dflt : Value} {t1 t2 t3 s1 s2 s3 s4 s5 : Tok}
  (h1 : (r, instObj 280 rx) ∈ news) (h2 : (rx, rmDict w t1 t2 t3 n dflt st va) ∈ news) (h3 : (st, listOf (List.toArray [.int 0 s1, .int 201 s2, .int 202 s3, .int 233 s4, .int 234 s5]) k1) ∈ news)
  (h4 : (va, listOf (List.toArray [.none, .ref a, .none, .ref b, .none]) k2) ∈ news) :
  CC w 291 [.ref r] 2 news (RowP a b news) := by
  refine CC.mk ?_; k_fill; intro p loose mean mg mb dp un gd' cn cs a9 ccd cl outer A₀ base h₀ L m s Q E B F X N T hk hdp hun hret
  have hMk : KstMark := kstMark
  have hS : ∀ i, i < 5 → ∃ t, ([.int 0 s1, .int 201 s2, .int 202 s3, .int 233 s4, .int 234 s5] : List Value)[i]? = some (.int (rowF i) t) := by
    intro i hi
    match i, hi with
    | 0, _ => exact ⟨s1, rfl⟩
    | 1, _ => exact ⟨s2, rfl⟩
    | 2, _ => exact ⟨s3, rfl⟩
    | 3, _ => exact ⟨s4, rfl⟩
    | 4, _ => exact ⟨s5, rfl⟩
  k_with_none
  k_with "m_allIn" => first | exact List.forall_mem_nil _ | (refine sub_cons (by k_memK) ?_; k_extra "m_allIn") | (intro p9 h9; kst_mem)
  k_with "m_ra" => first | assumption | exact And.right (by first | assumption | exact And.right (by first | assumption | exact And.right (by first | assumption | exact And.right (by first | assumption | exact And.right (by first | assumption | exact And.right (by first | assumption | exact And.right (by first | assumption | exact And.right (by assumption))))))))
  k_with "m_and" => first | k_extra "m_ra" | exact And.left (by k_extra "m_ra")
  k_with "m_neA" => first | k_extra "m_and" | (refine Ne.symm ?_; k_extra "m_and") | (refine Nat.ne_of_lt ?_; k_extra "m_and") | (refine Nat.ne_of_gt ?_; k_extra "m_and") | (refine Nat.ne_of_lt (Nat.lt_succ_of_lt ?_); k_extra "m_and")
  k_with "m_lt" => first | assumption | exact allLt_of (by assumption) | k_extra "m_and"
  k_with "kst_in" => (try dsimp only); with_unfolding_all ((try simp only [List.nil_append, List.cons_append]); k_extra "m_allIn")
  k_with "k_ne" => refine neN ?_; (try dsimp only); first | (with_reducible assumption) | (with_reducible exact Ne.symm (by assumption)) | (with_reducible exact Nat.ne_of_lt (by assumption)) | (with_reducible exact Nat.ne_of_gt (by assumption)) | with_reducible k_extra "m_neA" | k_extra "m_neA" | omega
  k_with "k_all" => first | exact List.forall_mem_nil _ | assumption | exact lt_ne (by assumption) | exact lt_ne (by k_extra "m_lt") | exact lt_ne1 (by k_extra "m_lt") | (refine ne_cons ?_ ?_; (focus k_ne); k_all) | (refine List.forall_mem_cons.mpr (And.intro ?_ ?_); (focus k_ne); k_all)
  k_with "k_in" => (rename Fr _ _ _ _ => lF8); (rename Frag.In _ _ => lX8); exact Frag.In.keeps lX8 (Fr.keep lF8)
  k_with "ktr_room" => k_dflt (first | exact rmA (by assumption) (by exact rfl) | exact rmB (by assumption))
  k_with "ktr_units" => k_dflt (first | exact unA (by assumption) (by exact rfl) | exact unC (by assumption) (by exact rfl))
  k_with "MPost" => dsimp only [MPost]
  k_with "execs cons" => with_reducible refine gen_tok ?_; intro tk9
  k_with "m_for" => k_here; (rename Fr _ _ _ _ => lF'); k_dflt (refine' For_invVF ?zF ?zk1 ?zk2 ?_ ?zs ?ze; (case zF => exact lF'); (case zk1 => exact rfl); (case zk2 => exact rfl); (case zs => (intro _; rfl)); (case ze => passes_own); k_whole)
  k_with "exec For Name Name cons nil" => k_extra "m_for"
  k_with "exec For Name Subscript cons nil" => k_extra "m_for"
  k_with "exec For Name Call cons nil" => k_extra "m_for"
  k_with "exec For Name Attribute cons nil" => k_extra "m_for"
  k_with "exec For Name Tuple cons nil" => k_extra "m_for"
  k_with "compareOp NotEq ref ref" => k_here; (with_reducible show wpAny _ _ (compareOp CmpOp.NotEq (Value.ref _) (Value.ref _)) _ _ _); k_dflt (first | refine ke_ne_ints (by is_list) (by is_list) (by l_ints) (by l_ints) (by ktr_units) ?_ | ((refine ne_dataH (by ke_read) (by ke_read) (by ke_shaped) (by ke_shaped) (by ktr_units) ?_); ke_norm))
  k_with "compareOp Eq ref ref" => k_here; (with_reducible show wpAny _ _ (compareOp CmpOp.Eq (Value.ref _) (Value.ref _)) _ _ _); k_dflt (first | refine ke_eq_ints (by is_list) (by is_list) (by l_ints) (by l_ints) (by ktr_units) ?_ | ((refine eq_dataH (by ke_read) (by ke_read) (by ke_shaped) (by ke_shaped) (by ktr_units) ?_); ke_norm))
  w_top off
  k_with "exec For Tuple Call cons nil" =>
    (rename Fr _ _ _ _ => lF'); (with_unfolding_all refine' For_turns lF' ?_; k_whole)
  k_with "call type:enumerate cons nil" =>
    rename Fr _ _ _ _ => lF'
    rename News _ _ _ _ => lN'
    k_dflt (refine' m_enum (σ := RrS) (rrL _) (fun _ => []) (Str.ofString "at") [Str.ofString "value", Str.ofString "last"] (RrP [.none, .ref a, .none, .ref b, .none] news _) ⟨[], 0, news⟩ ?zh ?zl lF' (news_tail lN') ?zk (.zero (by assumption)) ?_ ?_)
    (case zh => exact rfl)
    (case zl => exact fun i c hc => .tail _ (hc.1.sub _ h4))
    (case zk => exact fun _ h => nomatch h)
    clear lN' lF'
    rintro I9 T9 o1 o0 t9 ⟨vs, n9, rest⟩ i9 v9 u9 h9 tk9 hv9 hQ9 hne1 hne0 hT9 F9 N9
    obtain ⟨hP9, hR9⟩ := hQ9
    dsimp only [rrL] at hP9 hR9 hne1 hne0 F9 N9
    have hi9 : i9 < 5 := (List.getElem?_eq_some_iff.mp hv9).1
    obtain ⟨ta, hta⟩ := hS i9 hi9
    have g3 := hP9.sub _ h3
    have hl9 := hP9.len
    (try k_fold)
    rotate_left 1
    rintro ⟨vs, n9, rest⟩ u9 h9 tk9 hQ9 F9 N9
    obtain ⟨hP9, hR9⟩ := hQ9
    dsimp only [rrL] at hP9 F9 N9
    (try k_fold)
    rotate_left 1
  k_with "eval IfExp" =>
    fail_if_success (have hz8 := hJn; clear hz8)
    rename Fr _ _ _ _ => lF'
    rename News _ _ _ _ => lN'
    k_dflt (refine' val_join lF' lN' (rowL i9) ?_ ?_)
    have hJn := True.intro
    (try k_fold)
    rotate_left 1
    intro tl9 h9 tk9 F9 N9
    have hJn := True.intro
    clear lF' lN'
    (try k_fold)
    rotate_left 1
  k_with "subscriptTail Name BinOp ref int" =>
    obtain ⟨tb, htb⟩ := hS (i9 + 1) (by omega)
    k_dflt (refine m_item (vs := [.int 0 s1, .int 201 s2, .int 202 s3, .int 233 s4, .int 234 s5]) ⟨_, (News.get (by k_asm) (a := st) (by k_mem)), rfl, _, rfl⟩ (by omega) (by omega) (by rw [tn1]; exact htb) ?_)
  k_with "subscriptTail Name Name ref int" =>
    k_dflt (refine m_item (vs := [.int 0 s1, .int 201 s2, .int 202 s3, .int 233 s4, .int 234 s5]) ⟨_, (News.get (by k_asm) (a := st) (by k_mem)), rfl, _, rfl⟩ (by omega) (by omega) hta ?_)
  k_with "JoinV" =>
    rename Fr _ _ _ _ => lF'
    rename News _ _ _ _ => lN'
    first
      | exact ⟨_, _, _, congrArg (fun z => Value.int z _) (rowL_mid i9 (by omega)), rfl, lF', lN'⟩
      | exact ⟨_, _, _, congrArg (fun z => Value.int z _) (rowL_end i9 hi9 (by omega)), rfl, lF', lN'⟩
  k_with "newTuple cons int cons" =>
    k_dflt (refine' kup_newTuple ?yF ?yN ?_ ?yz; (case yF => k_asm); (case yN => k_asm); (case yz => kmk_size))
    intro e9 h9 F9 N9 le9; (try k_sweep)
  k_with "call builtin:list.append cons nil" =>
    rename Fr _ _ _ _ => lF'
    rename News _ _ _ _ => lN'
    k_dflt (refine' m_append lF' lN' (.tail (by exact Nat.ne_of_gt (le9 _ (.tail _ (.tail _ (.head _))))) (.tail (hne1 _ (.head _)).symm (.tail (hne0 _ (.head _)).symm (.head hR9)))) (by omega) ?_)
    clear lF' lN'
    intro h9 n9' F9 N9
    (try dsimp only); (try k_sweep); (try k_fold)
  k_with "UnrEndW cons" =>
    rename Fr _ _ _ _ => lF'
    rename News _ _ _ _ => lN'
    k_dflt (refine' rows_end lF' lN' ?ze hne1 hne0 ?zr hv9 hP9 hR9)
    (case ze => first | exact le9 | exact allLt_of le9)
    (case zr => (intro z9 g1 g2 g3; (simp only [List.forall_mem_cons, List.not_mem_nil, false_implies, implies_true, and_true, ne_eq] at g2); (simp only [List.contains_cons, List.contains_nil, Bool.or_false, Bool.or_eq_false_iff, beq_eq_false_iff_ne, ne_eq] at g3); (simp [kstB, g1, g2, g3]; done)))
  refine wpAny_call ?_
  k_dflt cell_enter
  k_steps
  rename Fr _ _ _ _ => lF'
  rename News _ _ _ _ => lN'
  exact hret _ _ _ _ lF' lN' (rows_fin hP9)
end
section
set_option maxRecDepth 100000 in
set_option maxHeartbeats 8000000 in
theorem c_fip {w : World} {news : Led} {d pa n : Nat} {c x : Int} {t t1 : Tok} {z : Value} (hD : DataOK w news d) (hc : c ∈ AL) (h0 : cls c = 0) (hx : x ∈ AL) (hx0 : cls x = 0) (hp : (pa, tupO (List.toArray [.int x t1, z]) n) ∈ news) :
    CC w 137 [.int c t, .ref pa, .ref d] 8 news (fun news' y => news = news' ∧ .bool true = y) := by
  refine CC.mk ?_; k_fill; intro p loose mean mg mb dp un gd cn cs a ccd cl outer A₀ base h₀ L m s Q E B F X N T hk hdp hun hret
  have hMk : KstMark := kstMark
  k_with_none
  k_with "m_allIn" => first | exact List.forall_mem_nil _ | (refine sub_cons (by k_memK) ?_; k_extra "m_allIn") | (intro p9 h9; kst_mem)
  k_with "m_ra" => first | assumption | exact And.right (by first | assumption | exact And.right (by first | assumption | exact And.right (by first | assumption | exact And.right (by first | assumption | exact And.right (by first | assumption | exact And.right (by first | assumption | exact And.right (by first | assumption | exact And.right (by assumption))))))))
  k_with "m_and" => first | k_extra "m_ra" | exact And.left (by k_extra "m_ra")
  k_with "m_neA" => first | k_extra "m_and" | (refine Ne.symm ?_; k_extra "m_and") | (refine Nat.ne_of_lt ?_; k_extra "m_and") | (refine Nat.ne_of_gt ?_; k_extra "m_and") | (refine Nat.ne_of_lt (Nat.lt_succ_of_lt ?_); k_extra "m_and")
  k_with "m_lt" => first | assumption | exact allLt_of (by assumption) | k_extra "m_and"
  k_with "kst_in" => (try dsimp only); with_unfolding_all ((try simp only [List.nil_append, List.cons_append]); k_extra "m_allIn")
  k_with "k_ne" => refine neN ?_; (try dsimp only); first | (with_reducible assumption) | (with_reducible exact Ne.symm (by assumption)) | (with_reducible exact Nat.ne_of_lt (by assumption)) | (with_reducible exact Nat.ne_of_gt (by assumption)) | with_reducible k_extra "m_neA" | k_extra "m_neA" | omega
  k_with "k_all" => first | exact List.forall_mem_nil _ | assumption | exact lt_ne (by assumption) | exact lt_ne (by k_extra "m_lt") | exact lt_ne1 (by k_extra "m_lt") | (refine ne_cons ?_ ?_; (focus k_ne); k_all) | (refine List.forall_mem_cons.mpr (And.intro ?_ ?_); (focus k_ne); k_all)
  k_with "k_in" => (rename Fr _ _ _ _ => lF8); (rename Frag.In _ _ => lX8); exact Frag.In.keeps lX8 (Fr.keep lF8)
  k_with "ktr_room" => k_dflt (first | exact rmA (by assumption) (by exact rfl) | exact rmB (by assumption))
  k_with "ktr_units" => k_dflt (first | exact unA (by assumption) (by exact rfl) | exact unC (by assumption) (by exact rfl))
  k_with "MPost" => dsimp only [MPost]
  k_with "execs cons" => with_reducible refine gen_tok ?_; intro tk9
  k_with "m_for" => k_here; (rename Fr _ _ _ _ => lF'); k_dflt (refine' For_invVF ?zF ?zk1 ?zk2 ?_ ?zs ?ze; (case zF => exact lF'); (case zk1 => exact rfl); (case zk2 => exact rfl); (case zs => (intro _; rfl)); (case ze => passes_own); k_whole)
  k_with "exec For Name Name cons nil" => k_extra "m_for"
  k_with "exec For Name Subscript cons nil" => k_extra "m_for"
  k_with "exec For Name Call cons nil" => k_extra "m_for"
  k_with "exec For Name Attribute cons nil" => k_extra "m_for"
  k_with "exec For Name Tuple cons nil" => k_extra "m_for"
  k_with "compareOp NotEq ref ref" => k_here; (with_reducible show wpAny _ _ (compareOp CmpOp.NotEq (Value.ref _) (Value.ref _)) _ _ _); k_dflt (first | refine ke_ne_ints (by is_list) (by is_list) (by l_ints) (by l_ints) (by ktr_units) ?_ | ((refine ne_dataH (by ke_read) (by ke_read) (by ke_shaped) (by ke_shaped) (by ktr_units) ?_); ke_norm))
  k_with "compareOp Eq ref ref" => k_here; (with_reducible show wpAny _ _ (compareOp CmpOp.Eq (Value.ref _) (Value.ref _)) _ _ _); k_dflt (first | refine ke_eq_ints (by is_list) (by is_list) (by l_ints) (by l_ints) (by ktr_units) ?_ | ((refine eq_dataH (by ke_read) (by ke_read) (by ke_shaped) (by ke_shaped) (by ktr_units) ?_); ke_norm))
  w_top off
  obtain ⟨dx, df, mp, pr, wd, u1, u2, u3, u4, n4, i1, i2⟩ := hD.inst
  k_with "call ref cons nil" =>
    with_reducible show wpAny _ _ (call (Value.ref 82) [Value.int _ _]) _ _ _
    refine cc_goE (c_hparts (AL_h hc)) ?_ (by k_asm) (by k_asm) (by k_asm) (by k_asm) (by k_asm) (by first | exact rfl | assumption) (by ktr_room) (by ktr_units)
    intro h9 tk9 F9 N9
    (try dsimp only); (try k_fold)
  k_with "call ref cons nil" =>
    with_reducible show wpAny _ _ (call (Value.ref 326) [Value.ref _, Value.str _ _, Value.int _ _]) _ _ _
    first
      | refine cc_goE (g_ex hD _ _) ?_ (by k_asm) (by k_asm) (by k_asm) (by k_asm) (by k_asm) (by first | exact rfl | assumption) (by ktr_room) (by ktr_units); intro h9 tk9 F9 N9
      | refine cc_goI (g_ccc hD hc _ _) ?_ (by k_asm) (by k_asm) (by k_asm) (by k_asm) (by k_asm) (by first | exact rfl | assumption) (by ktr_room) (by ktr_units); intro t9 h9 tk9 F9 N9; rw [h0]
      | refine cc_goI (g_ccc hD hx _ _) ?_ (by k_asm) (by k_asm) (by k_asm) (by k_asm) (by k_asm) (by first | exact rfl | assumption) (by ktr_room) (by ktr_units); intro t9 h9 tk9 F9 N9; rw [hx0]
    (try dsimp only); (try k_fold)
  refine wpAny_call ?_
  k_dflt cell_enter
  k_steps
  all_goals exact hret _ _ _ _ (by assumption) (by assumption) ⟨rfl, rfl⟩
end
section
inductive RmP (w : World) (dflt : Value) (news news' : Led) (y : Value) : Prop
  | mk (r rx st va k1 k2 : Nat) (t1 t2 t3 t0 : Tok) (q1 : .ref r = y) (q2 : (r, instObj 280 rx) :: (rx, rmDict w t1 t2 t3 3 dflt st va) :: (st, listOf (List.toArray [.int 0 t0]) k1) :: (va, listOf (List.toArray [dflt]) k2) :: news = news') (q3 : AllLt rx news) (q4 : @LT.lt Nat _ rx r) (q5 : AllLt r news) (q6 : (@LT.lt Nat _ r st ∧ @LT.lt Nat _ rx st ∧ AllLt st news)) (q7 : (@LT.lt Nat _ st va ∧ @LT.lt Nat _ r va ∧ @LT.lt Nat _ rx va ∧ AllLt va news)) : RmP w dflt news news' y
theorem RmP.go {wz : World} {fz : Addr} {vz : List Value} {kz : Nat} {ledz : Led} {w : World} {dflt : Value} {news : Led} (Cz : CC wz fz vz kz ledz (RmP w dflt news))
  {pz : Program} {lz : List Str} {mnz : ExcName → Option Value} {mgz mbz : Str → Option Value} {dpz unz : Nat} {gdz : Option (List Code)} {cnz : Str} {csz : Scope} {az : Addr} {cdz : Value} {clz : List (Str × Addr)} {otz : List Env} {A₀ : Around} {basez h₀ : Heap} {Lz : Addr} {mz : Str → Option Value} {sz : Shared} {Qz Ez : Value → Shared → Prop}
  (ret : ∀ (r rx st va k1 k2 : Nat) (t1 t2 t3 t0 : Tok) (hz : Heap) (tkz : Nat), Fr h₀ Lz hz mz → News h₀ Lz hz ((r, instObj 280 rx) :: (rx, rmDict w t1 t2 t3 3 dflt st va) :: (st, listOf (List.toArray [.int 0 t0]) k1) :: (va, listOf (List.toArray [dflt]) k2) :: news) → (AllLt rx news) → (@LT.lt Nat _ rx r) → (AllLt r news) → ((@LT.lt Nat _ r st ∧ @LT.lt Nat _ rx st ∧ AllLt st news)) → ((@LT.lt Nat _ st va ∧ @LT.lt Nat _ r va ∧ @LT.lt Nat _ rx va ∧ AllLt va news)) → Qz (.ref r) { sz with heap := hz, toks := tkz })
  (F : Fr h₀ Lz sz.heap mz) (N : News h₀ Lz sz.heap ledz) (B : Below A₀ basez otz h₀) (X : (hd.heap_1_39 wz.params).In h₀) (T : Top pz lz mnz mgz mbz h₀) (hk : csz.kind = .function)
  (hd : dpz + kz < recursionLimit) (hu : unz + 8 * kz < cLine) :
    wpAny (model PySem.Challenge.rw_on0371_01.prog wz) (ktrTop dpz unz gdz cnz csz Lz az cdz clz otz) (call (.ref fz) vz) Qz Ez sz := by
  refine cc_go Cz (fun v news9 h9 tk9 F9 N9 P9 => ?_) F N B X T hk hd hu
  obtain ⟨r, rx, st, va, k1, k2, t1, t2, t3, t0, rfl, rfl, q3, q4, q5, q6, q7⟩ := P9
  exact ret r rx st va k1 k2 t1 t2 t3 t0 h9 tk9 F9 N9 q3 q4 q5 q6 q7
theorem allLt_tr {a b : Nat} {news : Led} (h : AllLt a news) (hab : a < b) : AllLt b news := allLt_of fun p hp => Nat.lt_trans (lt_mem h hp) hab
set_option maxRecDepth 100000 in
set_option maxHeartbeats 8000000 in
theorem c_rmnew {w : World} {news : Led} {dflt : Value} : CC w 280 [dflt] 4 news (RmP w dflt news) := by
  refine CC.mk ?_; k_fill; intro p loose mean mg mb dp un gd cn cs a ccd cl outer A₀ base h₀ L m s Q E B F X N T hk hdp hun hret
  have hMk : KstMark := kstMark
  k_with_none
  k_with "m_allIn" => first | exact List.forall_mem_nil _ | (refine sub_cons (by k_memK) ?_; k_extra "m_allIn") | (intro p9 h9; kst_mem)
  k_with "m_ra" => first | assumption | exact And.right (by first | assumption | exact And.right (by first | assumption | exact And.right (by first | assumption | exact And.right (by first | assumption | exact And.right (by first | assumption | exact And.right (by first | assumption | exact And.right (by first | assumption | exact And.right (by assumption))))))))
  k_with "m_and" => first | k_extra "m_ra" | exact And.left (by k_extra "m_ra")
  k_with "m_neA" => first | k_extra "m_and" | (refine Ne.symm ?_; k_extra "m_and") | (refine Nat.ne_of_lt ?_; k_extra "m_and") | (refine Nat.ne_of_gt ?_; k_extra "m_and") | (refine Nat.ne_of_lt (Nat.lt_succ_of_lt ?_); k_extra "m_and")
  k_with "m_lt" => first | assumption | exact allLt_of (by assumption) | k_extra "m_and"
  k_with "kst_in" => (try dsimp only); with_unfolding_all ((try simp only [List.nil_append, List.cons_append]); k_extra "m_allIn")
  k_with "k_ne" => refine neN ?_; (try dsimp only); first | (with_reducible assumption) | (with_reducible exact Ne.symm (by assumption)) | (with_reducible exact Nat.ne_of_lt (by assumption)) | (with_reducible exact Nat.ne_of_gt (by assumption)) | with_reducible k_extra "m_neA" | k_extra "m_neA" | omega
  k_with "k_all" => first | exact List.forall_mem_nil _ | assumption | exact lt_ne (by assumption) | exact lt_ne (by k_extra "m_lt") | exact lt_ne1 (by k_extra "m_lt") | (refine ne_cons ?_ ?_; (focus k_ne); k_all) | (refine List.forall_mem_cons.mpr (And.intro ?_ ?_); (focus k_ne); k_all)
  k_with "k_in" => (rename Fr _ _ _ _ => lF8); (rename Frag.In _ _ => lX8); exact Frag.In.keeps lX8 (Fr.keep lF8)
  k_with "ktr_room" => k_dflt (first | exact rmA (by assumption) (by exact rfl) | exact rmB (by assumption))
  k_with "ktr_units" => k_dflt (first | exact unA (by assumption) (by exact rfl) | exact unC (by assumption) (by exact rfl))
  k_with "MPost" => dsimp only [MPost]
  k_with "execs cons" => with_reducible refine gen_tok ?_; intro tk9
  k_with "m_for" => k_here; (rename Fr _ _ _ _ => lF'); k_dflt (refine' For_invVF ?zF ?zk1 ?zk2 ?_ ?zs ?ze; (case zF => exact lF'); (case zk1 => exact rfl); (case zk2 => exact rfl); (case zs => (intro _; rfl)); (case ze => passes_own); k_whole)
  k_with "exec For Name Name cons nil" => k_extra "m_for"
  k_with "exec For Name Subscript cons nil" => k_extra "m_for"
  k_with "exec For Name Call cons nil" => k_extra "m_for"
  k_with "exec For Name Attribute cons nil" => k_extra "m_for"
  k_with "exec For Name Tuple cons nil" => k_extra "m_for"
  k_with "compareOp NotEq ref ref" => k_here; (with_reducible show wpAny _ _ (compareOp CmpOp.NotEq (Value.ref _) (Value.ref _)) _ _ _); k_dflt (first | refine ke_ne_ints (by is_list) (by is_list) (by l_ints) (by l_ints) (by ktr_units) ?_ | ((refine ne_dataH (by ke_read) (by ke_read) (by ke_shaped) (by ke_shaped) (by ktr_units) ?_); ke_norm))
  k_with "compareOp Eq ref ref" => k_here; (with_reducible show wpAny _ _ (compareOp CmpOp.Eq (Value.ref _) (Value.ref _)) _ _ _); k_dflt (first | refine ke_eq_ints (by is_list) (by is_list) (by l_ints) (by l_ints) (by ktr_units) ?_ | ((refine eq_dataH (by ke_read) (by ke_read) (by ke_shaped) (by ke_shaped) (by ktr_units) ?_); ke_norm))
  w_top off
  k_with "m_new" => k_dflt (refine' call_cls ?k1 ?k2 ?k3 ?k4 ?k5 ?k6 ?_; (case k1 => k_asm); (case k2 => k_asm); (case k3 => k_asm); (case k4 => k_is); (case k5 => k_is); (case k6 => k_is); k_whole; intro x' d' h' F' N' l1 l2; (try k_lt l1); (try k_lt2 l2); (try k_sweep); (k_dflt (refine' code_def ?k1 ?k2 ?k3 ?k4 ?k5 ?kA ?kF ?kK ?k6 ?k7 ?k8 ?k9 ?kB ?_ ?c2 ?c3 ?c4 ?c5; (case kA => exact rfl); (case kF => exact rfl); (case kK => assumption); (case k1 => k_asm); (case k2 => k_asm); (case k3 => k_asm); (case k4 => k_asm); (case k5 => k_asm); (case k6 => k_is); (case k7 => k_is); (case k8 => ktr_room); (case k9 => first | exact BindsTo.of_eq rfl | exact binds_K (by k_in) rfl (by k_is) rfl rfl rfl); (case c5 => decide); (case kB => exact locs rfl); (case c2 => exact rfl); (case c3 => exact rfl); (case c4 => exact rfl); k_whole; intro g' L' h' FG' F' N' B' X' T'; (try dsimp only); (try k_lift B'); (try k_fold))))
  walk_at "m_new"
  k_steps
  rename Fr _ _ _ _ => lF'
  rename News _ _ _ _ => lN'
  refine' hret _ _ _ _ lF' (kst_newsOf lN' ?zs) ⟨_, _, _, _, _, _, _, _, _, _, rfl, rfl, ?_, ?_, ?_, ?_, ?_⟩
  case zs => kst_in
  · exact allLt_of (by assumption)
  · assumption
  · exact allLt_tr (allLt_of (by assumption)) (by assumption)
  · assumption
  · assumption
end
section
inductive RngP (a b : Nat) (news news' : Led) (y : Value) : Prop
  | mk (R n e2 e4 : Nat) (u2 u4 v2 v4 : Tok) (q1 : .ref R = y) (q2 : (R, listOf (List.toArray [.ref e2, .ref e4]) n) :: (e4, rowO 233 233 u4 v4 (.ref b)) :: (e2, rowO 201 201 u2 v2 (.ref a)) :: news = news') (q3 : (∀ p ∈ news, p.1 ≠ R)) (q4 : (∀ p ∈ news, p.1 ≠ e2)) (q5 : (∀ p ∈ news, p.1 ≠ e4)) : RngP a b news news' y
theorem RngP.go {wz : World} {fz : Addr} {vz : List Value} {kz : Nat} {ledz : Led} {a : Nat} {b : Nat} {news : Led} (Cz : CC wz fz vz kz ledz (RngP a b news))
  {pz : Program} {lz : List Str} {mnz : ExcName → Option Value} {mgz mbz : Str → Option Value} {dpz unz : Nat} {gdz : Option (List Code)} {cnz : Str} {csz : Scope} {az : Addr} {cdz : Value} {clz : List (Str × Addr)} {otz : List Env} {A₀ : Around} {basez h₀ : Heap} {Lz : Addr} {mz : Str → Option Value} {sz : Shared} {Qz Ez : Value → Shared → Prop}
  (ret : ∀ (R n e2 e4 : Nat) (u2 u4 v2 v4 : Tok) (hz : Heap) (tkz : Nat), Fr h₀ Lz hz mz → News h₀ Lz hz ((R, listOf (List.toArray [.ref e2, .ref e4]) n) :: (e4, rowO 233 233 u4 v4 (.ref b)) :: (e2, rowO 201 201 u2 v2 (.ref a)) :: news) → ((∀ p ∈ news, p.1 ≠ R)) → ((∀ p ∈ news, p.1 ≠ e2)) → ((∀ p ∈ news, p.1 ≠ e4)) → Qz (.ref R) { sz with heap := hz, toks := tkz })
  (F : Fr h₀ Lz sz.heap mz) (N : News h₀ Lz sz.heap ledz) (B : Below A₀ basez otz h₀) (X : (hd.heap_1_39 wz.params).In h₀) (T : Top pz lz mnz mgz mbz h₀) (hk : csz.kind = .function)
  (hd : dpz + kz < recursionLimit) (hu : unz + 8 * kz < cLine) :
    wpAny (model PySem.Challenge.rw_on0371_01.prog wz) (ktrTop dpz unz gdz cnz csz Lz az cdz clz otz) (call (.ref fz) vz) Qz Ez sz := by
  refine cc_go Cz (fun v news9 h9 tk9 F9 N9 P9 => ?_) F N B X T hk hd hu
  obtain ⟨R, n, e2, e4, u2, u4, v2, v4, rfl, rfl, q3, q4, q5⟩ := P9
  exact ret R n e2 e4 u2 u4 v2 v4 h9 tk9 F9 N9 q3 q4 q5
set_option maxRecDepth 100000 in
set_option maxHeartbeats 8000000 in
theorem c_ranges {w : World} {news : Led} {r rx st va k1 k2 n a b : Nat} {t1 t2 t3 s1 s2 s3 s4 s5 : Tok}
  (h1 : (r, instObj 280 rx) ∈ news) (h2 : (rx, rmDict w t1 t2 t3 n .none st va) ∈ news) (h3 : (st, listOf (List.toArray [.int 0 s1, .int 201 s2, .int 202 s3, .int 233 s4, .int 234 s5]) k1) ∈ news)
  (h4 : (va, listOf (List.toArray [.none, .ref a, .none, .ref b, .none]) k2) ∈ news) (ha : TupD news a 69 769) (hb : TupD news b 101 769) :
  CC w 270 [.ref r] 16 news (RngP a b news) := by
  refine CC.mk ?_; k_fill; intro p loose mean mg mb dp un gd' cn cs a9 ccd cl outer A₀ base h₀ L m s Q E B F X N T hk hdp hun hret
  have hMk : KstMark := kstMark
  k_with_none
  k_with "m_allIn" => first | exact List.forall_mem_nil _ | (refine sub_cons (by k_memK) ?_; k_extra "m_allIn") | (intro p9 h9; kst_mem)
  k_with "m_ra" => first | assumption | exact And.right (by first | assumption | exact And.right (by first | assumption | exact And.right (by first | assumption | exact And.right (by first | assumption | exact And.right (by first | assumption | exact And.right (by first | assumption | exact And.right (by first | assumption | exact And.right (by assumption))))))))
  k_with "m_and" => first | k_extra "m_ra" | exact And.left (by k_extra "m_ra")
  k_with "m_neA" => first | k_extra "m_and" | (refine Ne.symm ?_; k_extra "m_and") | (refine Nat.ne_of_lt ?_; k_extra "m_and") | (refine Nat.ne_of_gt ?_; k_extra "m_and") | (refine Nat.ne_of_lt (Nat.lt_succ_of_lt ?_); k_extra "m_and")
  k_with "m_lt" => first | assumption | exact allLt_of (by assumption) | k_extra "m_and"
  k_with "kst_in" => (try dsimp only); with_unfolding_all ((try simp only [List.nil_append, List.cons_append]); k_extra "m_allIn")
  k_with "k_ne" => refine neN ?_; (try dsimp only); first | (with_reducible assumption) | (with_reducible exact Ne.symm (by assumption)) | (with_reducible exact Nat.ne_of_lt (by assumption)) | (with_reducible exact Nat.ne_of_gt (by assumption)) | with_reducible k_extra "m_neA" | k_extra "m_neA" | omega
  k_with "k_all" => first | exact List.forall_mem_nil _ | assumption | exact lt_ne (by assumption) | exact lt_ne (by k_extra "m_lt") | exact lt_ne1 (by k_extra "m_lt") | (refine ne_cons ?_ ?_; (focus k_ne); k_all) | (refine List.forall_mem_cons.mpr (And.intro ?_ ?_); (focus k_ne); k_all)
  k_with "k_in" => (rename Fr _ _ _ _ => lF8); (rename Frag.In _ _ => lX8); exact Frag.In.keeps lX8 (Fr.keep lF8)
  k_with "ktr_room" => k_dflt (first | exact rmA (by assumption) (by exact rfl) | exact rmB (by assumption))
  k_with "ktr_units" => k_dflt (first | exact unA (by assumption) (by exact rfl) | exact unC (by assumption) (by exact rfl))
  k_with "MPost" => dsimp only [MPost]
  k_with "execs cons" => with_reducible refine gen_tok ?_; intro tk9
  k_with "m_for" => k_here; (rename Fr _ _ _ _ => lF'); k_dflt (refine' For_invVF ?zF ?zk1 ?zk2 ?_ ?zs ?ze; (case zF => exact lF'); (case zk1 => exact rfl); (case zk2 => exact rfl); (case zs => (intro _; rfl)); (case ze => passes_own); k_whole)
  k_with "exec For Name Name cons nil" => k_extra "m_for"
  k_with "exec For Name Subscript cons nil" => k_extra "m_for"
  k_with "exec For Name Call cons nil" => k_extra "m_for"
  k_with "exec For Name Attribute cons nil" => k_extra "m_for"
  k_with "exec For Name Tuple cons nil" => k_extra "m_for"
  k_with "compareOp NotEq ref ref" => k_here; (with_reducible show wpAny _ _ (compareOp CmpOp.NotEq (Value.ref _) (Value.ref _)) _ _ _); k_dflt (first | refine ke_ne_ints (by is_list) (by is_list) (by l_ints) (by l_ints) (by ktr_units) ?_ | ((refine ne_dataH (by ke_read) (by ke_read) (by ke_shaped) (by ke_shaped) (by ktr_units) ?_); ke_norm))
  k_with "compareOp Eq ref ref" => k_here; (with_reducible show wpAny _ _ (compareOp CmpOp.Eq (Value.ref _) (Value.ref _)) _ _ _); k_dflt (first | refine ke_eq_ints (by is_list) (by is_list) (by l_ints) (by l_ints) (by ktr_units) ?_ | ((refine eq_dataH (by ke_read) (by ke_read) (by ke_shaped) (by ke_shaped) (by ktr_units) ?_); ke_norm))
  w_top off
  k_with "m_enterC" => k_dflt (refine' code_defC ?k1 ?k2 ?k3 ?k4 ?k5 ?kA ?kF ?kK ?k6 ?k7 ?k8 ?k9 ?kB ?kD ?_ ?c2 ?c3 ?c4; (case kA => exact rfl); (case kF => exact rfl); (case kK => assumption); (case k1 => k_asm); (case k2 => k_asm); (case k3 => k_asm); (case k4 => k_asm); (case k5 => k_asm); (case k6 => k_is); (case k7 => k_is); (case k8 => ktr_room); (case k9 => first | exact BindsTo.of_eq rfl | exact binds_K (by k_in) rfl (by k_is) rfl rfl rfl); (case kB => exact rfl); (case kD => decide +kernel); (case c2 => exact rfl); (case c3 => exact rfl); (case c4 => exact rfl); k_whole; intro g' L' h' tk' cells' FG' F' N' Y' B' X' T' l1; (try k_lt l1); k_cells Y'; (try simp only [List.cons_append, List.nil_append] at N'); (try dsimp only); (try k_lift B'); (try k_fold))
  k_with "call ref cons nil" =>
    with_reducible show wpAny _ _ (call (Value.ref 291) [Value.ref _]) _ _ _
    refine RowP.go (c_rrows (.tail _ h1) (.tail _ h2) (.tail _ h3) (.tail _ h4)) ?_ (by k_asm) (by k_asm) (by k_asm) (by k_asm) (by k_asm) (by first | exact rfl | assumption) (by ktr_room) (by ktr_units)
    rintro R8 n8 e1 e2 e3 e4 e5 u1 u2 u3 u4 u5 v1 v2 v3 v4 v5 h9' tk9' F9' N9' f2 f4
    (try dsimp only); (try k_sweep); (try k_fold)
  k_with "eval ListComp Name cons" =>
    (k_here; lcg_calm; k_dflt (refine LCt.ListComp_T (F₀ := by k_asm) (by with_unfolding_all rfl) (by decide) (by rfl) (by decide) (by rfl) ?_))
  refine wpAny_call ?_
  obtain ⟨p1, p2, p3, p4, p5, p6, p7, p8⟩ := ha
  obtain ⟨q1, q2, q3, q4, q5, q6, q7, q8⟩ := hb
  k_with "call ref cons nil" =>
    with_reducible show wpAny _ _ (call (Value.ref 237) [_, Value.none]) _ _ _
    first
      | refine cc_goE (c_like (b := true) (.inl ⟨rfl, rfl⟩)) ?_ (by k_asm) (by k_asm) (by k_asm) (by k_asm) (by k_asm) (by first | exact rfl | assumption) (by ktr_room) (by ktr_units)
      | (refine' cc_goE (c_like (b := false) (.inr ⟨rfl, _, _, _, _, _, _, _, _, _, rfl, ?zm1, ?zm2⟩)) ?_ (by k_asm) (by k_asm) (by k_asm) (by k_asm) (by k_asm) (by first | exact rfl | assumption) (by ktr_room) (by ktr_units); (case zm1 => k_mem); (case zm2 => k_mem))
    intro h9' tk9' F9' N9'
    (try dsimp only); (try k_sweep); (try k_fold)
  k_with "CompSrcT UnaryOp Name cons ref" =>
    k_dflt (refine LCt.CompSrcT.ledger (its := List.toArray [.ref e1, .ref e2, .ref e3, .ref e4, .ref e5]) (by rfl) (by k_asm) (by k_asm) (by k_mem) (by size_fits) ?_; intro g'; (with_unfolding_all show LCt.CompRestT _ _ _ _ _ _ _ _ _ _ _ _ _ _ _ _ 5 0 [] _))
  k_with "CompEnd none" =>
    refine' m_cend (h' := _) ?zF ?zN ?zo ?zS ?_
    (case zF => assumption)
    (case zN => assumption)
    (case zo => (simp only [LCg.Off3, and_true]; assumption))
    (case zS => exact Or.inr ⟨_, by k_mem, rfl, _, rfl⟩)
  k_with "CompEnd ref" =>
    refine' m_cend (h' := _) ?zF ?zN ?zo ?zS ?_
    (case zF => assumption)
    (case zN => assumption)
    (case zo => (simp only [LCg.Off3, and_true]; assumption))
    (case zS => exact Or.inr ⟨_, by k_mem, rfl, _, rfl⟩)
  k_with "FinE cons" =>
    unfold LCg.FinE; intro D' h' tk' F' N' o1'; (try simp only [List.nil_append, List.cons_append] at N'); (try dsimp only)
    have o9 := off1_mem o1'
  walk_at "m_enterC"
  k_steps
  rename Fr _ _ _ _ => lF'
  rename News _ _ _ _ => lN'
  refine' hret _ _ _ _ lF' (kst_newsOf lN' ?zs) ⟨_, _, _, _, _, _, _, _, rfl, rfl, ?zr, fun p hp => f2 p (.tail _ hp), fun p hp => f4 p (.tail _ hp)⟩
  (case zs => kst_in)
  (case zr => exact fun p hp => o9 p (by revert p; kst_in))
end
section
theorem rp_tn (n : Nat) : ((n : Int) - 1 + 1 - 1).toNat = n - 1 := by omega
theorem rp_nn {n : Nat} (h : 0 < n) : (0 : Int) ≤ (n : Int) - 1 + 1 - 1 := by omega
theorem rp_lt {n : Nat} (h : n < 1000) : (n : Int) - 1 + 1 - 1 < 2 ^ 63 := by omega
theorem rp_eq (n : Nat) : (n : Int) - 1 + 1 = n := Int.sub_add_cancel _ _
theorem rp_le {n k : Nat} (h : n < 1000) (e : Nat.ble 1000 k = true) : n ≤ k := Nat.le_trans (Nat.le_of_lt h) (Nat.le_of_ble_eq_true e)
theorem pick_upto (vs : List Value) {y : Int} (h : y = vs.length) : (slicePick vs.toArray none (some y) none).toList = vs := by
  subst h
  have e : sliceBounds none (some (vs.length : Int)) none vs.toArray.size = (((0 : Nat) : Int), ((vs.length : Nat) : Int), 1) := by
    simp only [sliceBounds, Option.getD_none, show (1 : Int) > 0 by decide, if_true, if_neg (Int.not_lt.mpr (Int.natCast_nonneg vs.length)), List.size_toArray]
    congr 1
    congr 1
    rw [Int.min_self, Int.max_eq_right (Int.natCast_nonneg _)]
  rw [kmk_pick_nat _ e]
  simp
theorem pick_from (vs : List Value) {y : Int} (h : y = vs.length) : (slicePick vs.toArray (some y) none none).toList = [] := by
  subst h
  have e : sliceBounds (some (vs.length : Int)) none none vs.toArray.size = (((vs.length : Nat) : Int), ((vs.length : Nat) : Int), 1) := by
    simp only [sliceBounds, Option.getD_none, show (1 : Int) > 0 by decide, if_true, if_neg (Int.not_lt.mpr (Int.natCast_nonneg vs.length)), List.size_toArray]
    congr 1
    rw [Int.min_self, Int.max_eq_right (Int.natCast_nonneg _)]
  rw [kmk_pick_nat _ e]
  simp
/-- two values that are not equal -/
def Unl (news : Led) (u v : Value) : Prop := ∀ {w : World} {A : Around} {E : Value → Shared → Prop} {s : Shared} {h₀ : Heap} {L : Addr} {Q : Value → Shared → Prop}, News h₀ L s.heap news → A.units + 64 < cLine → Q (.bool false) s → wpAny (model PG w) A (compareOp .Eq u v) Q E s
theorem Unl.mono {news news' : Led} {u v : Value} (h : Unl news u v) (hs : ∀ p ∈ news, p ∈ news') : Unl news' u v := fun N hu q => h (fun p hp => N p (hs p hp)) hu q
theorem unl_int {news : Led} {a b : Int} {t1 t2 : Tok} (h : a ≠ b) : Unl news (.int a t1) (.int b t2) := fun N hu q =>
  eq_dataH (.int _ _) (.int _ _) rfl rfl hu (by
    have : PyData.eqv (.int a) (.int b) = false := by simpa [PyData.eqv] using h
    rw [this]; exact q)
theorem unl_tup {news : Led} {a n : Nat} {ts : List Value} {ds : List PyData} {as : List Addr} (hm : (a, tupO ts.toArray n) ∈ news) (r : ∀ h, ReadsAll h ts ds as) (hs : PySem.SeqAt.shaped (.tuple ds) = true) : Unl news .none (.ref a) := fun N hu q =>
  eq_dataH .none (.tuple (N _ hm).1 rfl rfl (r _)) rfl hs hu q
set_option maxRecDepth 100000 in
set_option maxHeartbeats 8000000 in
theorem c_unl {w : World} {news : Led} {u v : Value} (hu9 : Unl news u v) : CC w 237 [u, v] 12 news (fun news' y => news = news' ∧ .bool false = y) := by
  refine CC.mk ?_; k_fill; intro p loose mean mg mb dp un gd' cn cs a ccd cl outer A₀ base h₀ L m s Q E B F X N T hk hdp hun hret
  have hMk : KstMark := kstMark
  k_with_none
  k_with "m_allIn" => first | exact List.forall_mem_nil _ | (refine sub_cons (by k_memK) ?_; k_extra "m_allIn") | (intro p9 h9; kst_mem)
  k_with "m_ra" => first | assumption | exact And.right (by first | assumption | exact And.right (by first | assumption | exact And.right (by first | assumption | exact And.right (by first | assumption | exact And.right (by first | assumption | exact And.right (by first | assumption | exact And.right (by first | assumption | exact And.right (by assumption))))))))
  k_with "m_and" => first | k_extra "m_ra" | exact And.left (by k_extra "m_ra")
  k_with "m_neA" => first | k_extra "m_and" | (refine Ne.symm ?_; k_extra "m_and") | (refine Nat.ne_of_lt ?_; k_extra "m_and") | (refine Nat.ne_of_gt ?_; k_extra "m_and") | (refine Nat.ne_of_lt (Nat.lt_succ_of_lt ?_); k_extra "m_and")
  k_with "m_lt" => first | assumption | exact allLt_of (by assumption) | k_extra "m_and"
  k_with "kst_in" => (try dsimp only); with_unfolding_all ((try simp only [List.nil_append, List.cons_append]); k_extra "m_allIn")
  k_with "k_ne" => refine neN ?_; (try dsimp only); first | (with_reducible assumption) | (with_reducible exact Ne.symm (by assumption)) | (with_reducible exact Nat.ne_of_lt (by assumption)) | (with_reducible exact Nat.ne_of_gt (by assumption)) | with_reducible k_extra "m_neA" | k_extra "m_neA" | omega
  k_with "k_all" => first | exact List.forall_mem_nil _ | assumption | exact lt_ne (by assumption) | exact lt_ne (by k_extra "m_lt") | exact lt_ne1 (by k_extra "m_lt") | (refine ne_cons ?_ ?_; (focus k_ne); k_all) | (refine List.forall_mem_cons.mpr (And.intro ?_ ?_); (focus k_ne); k_all)
  k_with "k_in" => (rename Fr _ _ _ _ => lF8); (rename Frag.In _ _ => lX8); exact Frag.In.keeps lX8 (Fr.keep lF8)
  k_with "ktr_room" => k_dflt (first | exact rmA (by assumption) (by exact rfl) | exact rmB (by assumption))
  k_with "ktr_units" => k_dflt (first | exact unA (by assumption) (by exact rfl) | exact unC (by assumption) (by exact rfl))
  k_with "MPost" => dsimp only [MPost]
  k_with "execs cons" => with_reducible refine gen_tok ?_; intro tk9
  k_with "m_for" => k_here; (rename Fr _ _ _ _ => lF'); k_dflt (refine' For_invVF ?zF ?zk1 ?zk2 ?_ ?zs ?ze; (case zF => exact lF'); (case zk1 => exact rfl); (case zk2 => exact rfl); (case zs => (intro _; rfl)); (case ze => passes_own); k_whole)
  k_with "exec For Name Name cons nil" => k_extra "m_for"
  k_with "exec For Name Subscript cons nil" => k_extra "m_for"
  k_with "exec For Name Call cons nil" => k_extra "m_for"
  k_with "exec For Name Attribute cons nil" => k_extra "m_for"
  k_with "exec For Name Tuple cons nil" => k_extra "m_for"
  k_with "compareOp NotEq ref ref" => k_here; (with_reducible show wpAny _ _ (compareOp CmpOp.NotEq (Value.ref _) (Value.ref _)) _ _ _); k_dflt (first | refine ke_ne_ints (by is_list) (by is_list) (by l_ints) (by l_ints) (by ktr_units) ?_ | ((refine ne_dataH (by ke_read) (by ke_read) (by ke_shaped) (by ke_shaped) (by ktr_units) ?_); ke_norm))
  k_with "compareOp Eq ref ref" => k_here; (with_reducible show wpAny _ _ (compareOp CmpOp.Eq (Value.ref _) (Value.ref _)) _ _ _); k_dflt (first | refine ke_eq_ints (by is_list) (by is_list) (by l_ints) (by l_ints) (by ktr_units) ?_ | ((refine eq_dataH (by ke_read) (by ke_read) (by ke_shaped) (by ke_shaped) (by ktr_units) ?_); ke_norm))
  w_top off
  k_with "compareOp Eq" =>
    refine hu9 (by assumption) (by ktr_units) ?_
  refine wpAny_call ?_
  k_dflt cell_enter
  k_steps
  exact hret _ _ _ _ (by assumption) (by assumption) ⟨rfl, rfl⟩
inductive PutP (w : World) (dflt : Value) (news : Led) (rx : Nat) (t1 t2 t3 tc : Tok) (c : Int) (sv vv : List Value) (v u : Value) (news' : Led) (y : Value) : Prop
  | mk (st va k1 k2 : Nat) (tq : Tok) (q1 : .none = y) (q2 : (rx, rmDict w t1 t2 t3 3 dflt st va) :: (st, listOf (List.toArray (sv ++ [.int c tc, .int (c + 1) tq])) k1) :: (va, listOf (List.toArray (vv ++ [v, u])) k2) :: news = news') (q3 : (∀ p ∈ news, p.1 ≠ st)) (q4 : (∀ p ∈ news, p.1 ≠ va)) (q5 : @Ne Nat rx st) (q6 : @Ne Nat rx va) (q7 : @Ne Nat st va) : PutP w dflt news rx t1 t2 t3 tc c sv vv v u news' y
theorem PutP.go {wz : World} {fz : Addr} {vz : List Value} {kz : Nat} {ledz : Led} {w : World} {dflt : Value} {news : Led} {rx : Nat} {t1 : Tok} {t2 : Tok} {t3 : Tok} {tc : Tok} {c : Int} {sv : List Value} {vv : List Value} {v : Value} {u : Value} (Cz : CC wz fz vz kz ledz (PutP w dflt news rx t1 t2 t3 tc c sv vv v u))
  {pz : Program} {lz : List Str} {mnz : ExcName → Option Value} {mgz mbz : Str → Option Value} {dpz unz : Nat} {gdz : Option (List Code)} {cnz : Str} {csz : Scope} {az : Addr} {cdz : Value} {clz : List (Str × Addr)} {otz : List Env} {A₀ : Around} {basez h₀ : Heap} {Lz : Addr} {mz : Str → Option Value} {sz : Shared} {Qz Ez : Value → Shared → Prop}
  (ret : ∀ (st va k1 k2 : Nat) (tq : Tok) (hz : Heap) (tkz : Nat), Fr h₀ Lz hz mz → News h₀ Lz hz ((rx, rmDict w t1 t2 t3 3 dflt st va) :: (st, listOf (List.toArray (sv ++ [.int c tc, .int (c + 1) tq])) k1) :: (va, listOf (List.toArray (vv ++ [v, u])) k2) :: news) → ((∀ p ∈ news, p.1 ≠ st)) → ((∀ p ∈ news, p.1 ≠ va)) → (@Ne Nat rx st) → (@Ne Nat rx va) → (@Ne Nat st va) → Qz (.none) { sz with heap := hz, toks := tkz })
  (F : Fr h₀ Lz sz.heap mz) (N : News h₀ Lz sz.heap ledz) (B : Below A₀ basez otz h₀) (X : (hd.heap_1_39 wz.params).In h₀) (T : Top pz lz mnz mgz mbz h₀) (hk : csz.kind = .function)
  (hd : dpz + kz < recursionLimit) (hu : unz + 8 * kz < cLine) :
    wpAny (model PySem.Challenge.rw_on0371_01.prog wz) (ktrTop dpz unz gdz cnz csz Lz az cdz clz otz) (call (.ref fz) vz) Qz Ez sz := by
  refine cc_go Cz (fun v news9 h9 tk9 F9 N9 P9 => ?_) F N B X T hk hd hu
  obtain ⟨st, va, k1, k2, tq, rfl, rfl, q3, q4, q5, q6, q7⟩ := P9
  exact ret st va k1 k2 tq h9 tk9 F9 N9 q3 q4 q5 q6 q7
set_option maxRecDepth 100000 in
set_option maxHeartbeats 8000000 in
theorem c_rmput {w : World} {news : Led} {r rx st va k1 k2 : Nat} {dflt v u : Value} {t1 t2 t3 tc tc' : Tok} {sv vv : List Value} {ns : List Int} {c : Int}
  (h1 : (r, instObj 280 rx) ∈ news) (hn1 : ∀ p ∈ news, p.1 ≠ rx) (hn2 : ∀ p ∈ news, p.1 ≠ st) (hn3 : ∀ p ∈ news, p.1 ≠ va) (h12 : @Ne Nat rx st) (h13 : @Ne Nat rx va) (h23 : @Ne Nat st va)
  (hi : IntsAre sv ns) (hl : vv.length = ns.length) (hn : ns.length < 1000) (hb : bs ns (c - 1) = ns.length) (hb2 : bs ns (c + 1) = ns.length) (h0 : 0 < ns.length) (hu : vv[ns.length - 1]? = some u) (hU : Unl news u v) (hc : c < 1114111) :
  CC w 265 [.ref r, .int c tc, .int c tc', v] 20 ((rx, rmDict w t1 t2 t3 3 dflt st va) :: (st, listOf sv.toArray k1) :: (va, listOf vv.toArray k2) :: news) (PutP w dflt news rx t1 t2 t3 tc c sv vv v u) := by
  refine CC.mk ?_; k_fill; intro p loose mean mg mb dp un gd' cn cs a ccd cl outer A₀ base h₀ L m s Q E B F X N T hk hdp hun hret
  have hMk : KstMark := kstMark
  k_with_none
  k_with "m_allIn" => first | exact List.forall_mem_nil _ | (refine sub_cons (by k_memK) ?_; k_extra "m_allIn") | (intro p9 h9; kst_mem)
  k_with "m_ra" => first | assumption | exact And.right (by first | assumption | exact And.right (by first | assumption | exact And.right (by first | assumption | exact And.right (by first | assumption | exact And.right (by first | assumption | exact And.right (by first | assumption | exact And.right (by first | assumption | exact And.right (by assumption))))))))
  k_with "m_and" => first | k_extra "m_ra" | exact And.left (by k_extra "m_ra")
  k_with "m_neA" => first | k_extra "m_and" | (refine Ne.symm ?_; k_extra "m_and") | (refine Nat.ne_of_lt ?_; k_extra "m_and") | (refine Nat.ne_of_gt ?_; k_extra "m_and") | (refine Nat.ne_of_lt (Nat.lt_succ_of_lt ?_); k_extra "m_and")
  k_with "m_lt" => first | assumption | exact allLt_of (by assumption) | k_extra "m_and"
  k_with "kst_in" => (try dsimp only); with_unfolding_all ((try simp only [List.nil_append, List.cons_append]); k_extra "m_allIn")
  k_with "k_ne" => refine neN ?_; (try dsimp only); first | (with_reducible assumption) | (with_reducible exact Ne.symm (by assumption)) | (with_reducible exact Nat.ne_of_lt (by assumption)) | (with_reducible exact Nat.ne_of_gt (by assumption)) | with_reducible k_extra "m_neA" | k_extra "m_neA" | omega
  k_with "k_all" => first | exact List.forall_mem_nil _ | assumption | exact lt_ne (by assumption) | exact lt_ne (by k_extra "m_lt") | exact lt_ne1 (by k_extra "m_lt") | (refine ne_cons ?_ ?_; (focus k_ne); k_all) | (refine List.forall_mem_cons.mpr (And.intro ?_ ?_); (focus k_ne); k_all)
  k_with "k_in" => (rename Fr _ _ _ _ => lF8); (rename Frag.In _ _ => lX8); exact Frag.In.keeps lX8 (Fr.keep lF8)
  k_with "ktr_room" => k_dflt (first | exact rmA (by assumption) (by exact rfl) | exact rmB (by assumption))
  k_with "ktr_units" => k_dflt (first | exact unA (by assumption) (by exact rfl) | exact unC (by assumption) (by exact rfl))
  k_with "MPost" => dsimp only [MPost]
  k_with "execs cons" => with_reducible refine gen_tok ?_; intro tk9
  k_with "m_for" => k_here; (rename Fr _ _ _ _ => lF'); k_dflt (refine' For_invVF ?zF ?zk1 ?zk2 ?_ ?zs ?ze; (case zF => exact lF'); (case zk1 => exact rfl); (case zk2 => exact rfl); (case zs => (intro _; rfl)); (case ze => passes_own); k_whole)
  k_with "exec For Name Name cons nil" => k_extra "m_for"
  k_with "exec For Name Subscript cons nil" => k_extra "m_for"
  k_with "exec For Name Call cons nil" => k_extra "m_for"
  k_with "exec For Name Attribute cons nil" => k_extra "m_for"
  k_with "exec For Name Tuple cons nil" => k_extra "m_for"
  k_with "compareOp NotEq ref ref" => k_here; (with_reducible show wpAny _ _ (compareOp CmpOp.NotEq (Value.ref _) (Value.ref _)) _ _ _); k_dflt (first | refine ke_ne_ints (by is_list) (by is_list) (by l_ints) (by l_ints) (by ktr_units) ?_ | ((refine ne_dataH (by ke_read) (by ke_read) (by ke_shaped) (by ke_shaped) (by ktr_units) ?_); ke_norm))
  k_with "compareOp Eq ref ref" => k_here; (with_reducible show wpAny _ _ (compareOp CmpOp.Eq (Value.ref _) (Value.ref _)) _ _ _); k_dflt (first | refine ke_eq_ints (by is_list) (by is_list) (by l_ints) (by l_ints) (by ktr_units) ?_ | ((refine eq_dataH (by ke_read) (by ke_read) (by ke_shaped) (by ke_shaped) (by ktr_units) ?_); ke_norm))
  w_top off
  k_with "call ref" =>
    with_reducible show wpAny _ _ (call (Value.ref 61) [Value.ref _, Value.int _ _]) _ _ _
    refine cc_goI (c_pbh (.tail _ (.head _)) hi hn) ?_ (by k_asm) (by k_asm) (by k_asm) (by k_asm) (by k_asm) (by first | exact rfl | assumption) (by ktr_room) (by ktr_units)
    intro t9 h9 tk9 F9 N9
    (try rw [hb]); (try rw [hb2])
    (try dsimp only); (try k_fold)
  k_with "call ref" =>
    with_reducible show wpAny _ _ (call (Value.ref 237) [_, _]) _ _ _
    refine cc_goE (c_unl (u := u) (v := v) (hU.mono ?mo)) ?_ (by k_asm) (by k_asm) (by k_asm) (by k_asm) (by k_asm) (by first | exact rfl | assumption) (by ktr_room) (by ktr_units)
    (case mo => kst_in)
    intro h9 tk9 F9 N9
    (try dsimp only); (try k_fold)
  k_with "subscriptTail Attribute Name BinOp ref int" =>
    refine m_item (vs := vv) (v := u) ⟨_, (News.get (by assumption) (a := va) (by k_mem)), rfl, _, rfl⟩ ?a1 ?a2 ?a3 ?_
    (case a1 => exact rp_nn h0); (case a2 => exact rp_lt hn)
    (case a3 => exact (congrArg (fun i : Nat => vv[i]?) (rp_tn ns.length)).trans hu)
  k_with "subscriptTail Name Slice ref ref" =>
    first
      | k_dflt (refine' kmk_slice_lit (its := sv.toArray) (zs := sv) ?yF ?yN ?yl ?yp ?yq ?ye ?_ ?ys ?yt ?yz; (case yF => k_asm); (case yN => k_asm); (case yl => kmk_list); (case yp => kmk_part); (case yq => kmk_part); (case ye => exact pick_upto sv (by rw [hi.length]; exact rp_eq _)); (case ys => with_unfolding_all rfl); (case yt => kmk_pure); (case yz => (rw [sizeLine_eq, List.size_toArray, hi.length]; omega)))
      | k_dflt (refine' kmk_slice_lit (its := vv.toArray) (zs := vv) ?yF ?yN ?yl ?yp ?yq ?ye ?_ ?ys ?yt ?yz; (case yF => k_asm); (case yN => k_asm); (case yl => kmk_list); (case yp => kmk_part); (case yq => kmk_part); (case ye => exact pick_upto vv (by rw [hl]; exact rp_eq _)); (case ys => with_unfolding_all rfl); (case yt => kmk_pure); (case yz => (rw [sizeLine_eq, List.size_toArray, hl]; omega)))
      | k_dflt (refine' kmk_slice_lit (its := sv.toArray) (zs := []) ?yF ?yN ?yl ?yp ?yq ?ye ?_ ?ys ?yt ?yz; (case yF => k_asm); (case yN => k_asm); (case yl => kmk_list); (case yp => kmk_part); (case yq => kmk_part); (case ye => exact pick_from sv (by rw [hi.length]; exact rp_eq _)); (case ys => with_unfolding_all rfl); (case yt => kmk_pure); (case yz => (rw [sizeLine_eq, List.size_toArray, hi.length]; omega)))
      | k_dflt (refine' kmk_slice_lit (its := vv.toArray) (zs := []) ?yF ?yN ?yl ?yp ?yq ?ye ?_ ?ys ?yt ?yz; (case yF => k_asm); (case yN => k_asm); (case yl => kmk_list); (case yp => kmk_part); (case yq => kmk_part); (case ye => exact pick_from vv (by rw [hl]; exact rp_eq _)); (case ys => with_unfolding_all rfl); (case yt => kmk_pure); (case yz => (rw [sizeLine_eq, List.size_toArray, hl]; omega)))
    intro D' h' F' N' l1; (try k_lt l1); (try k_sweep)
  k_with "binaryOp Add ref ref" =>
    first
      | k_dflt (refine' kmk_add_lit (its := sv.toArray) (zs := sv ++ [.int c tc, _]) ?yF ?yN ?ya ?yb ?ye ?_ ?yz; (case yF => k_asm); (case yN => k_asm); (case ya => kmk_list); (case yb => kmk_list); (case ye => exact rfl); (case yz => (rw [sizeLine_eq]; simp; rw [hi.length]; exact rp_le hn rfl)))
      | k_dflt (refine' kmk_add_lit (zs := sv ++ [.int c tc, _]) ?yF ?yN ?ya ?yb ?ye ?_ ?yz; (case yF => k_asm); (case yN => k_asm); (case ya => kmk_list); (case yb => kmk_list); (case ye => exact List.append_nil _); (case yz => (rw [sizeLine_eq]; simp; rw [hi.length]; exact rp_le hn rfl)))
      | k_dflt (refine' kmk_add_lit (its := vv.toArray) (zs := vv ++ [v, u]) ?yF ?yN ?ya ?yb ?ye ?_ ?yz; (case yF => k_asm); (case yN => k_asm); (case ya => kmk_list); (case yb => kmk_list); (case ye => exact rfl); (case yz => (rw [sizeLine_eq]; simp; rw [hl]; exact rp_le hn rfl)))
      | k_dflt (refine' kmk_add_lit (zs := vv ++ [v, u]) ?yF ?yN ?ya ?yb ?ye ?_ ?yz; (case yF => k_asm); (case yN => k_asm); (case ya => kmk_list); (case yb => kmk_list); (case ye => exact List.append_nil _); (case yz => (rw [sizeLine_eq]; simp; rw [hl]; exact rp_le hn rfl)))
    intro D' h' F' N' l1; (try k_lt l1); (try k_sweep)
  k_with "setAttr ref ref" =>
    k_dflt (refine' set_dict ?k1 ?k2 ?k3 ?k4 ?k5 ?k6 ?k7 ?k8 ?k9 ?k10 ?k11 ?k12 ?k13 ?_; (case k1 => k_asm); (case k2 => k_asm); (case k3 => k_asm); (case k4 => k_inst); (case k5 => exact rfl); (case k6 => k_is); (case k7 => k_is); (case k8 => k_is); (case k9 => k_is); (case k10 => k_get); (case k11 => k_put); (case k12 => k_upd); (case k13 => exact Nat.le_of_ble_eq_true rfl); k_whole; intro h' F' N'; (try k_sweep))
  refine wpAny_call ?_
  k_dflt cell_enter
  k_steps
  rename Fr _ _ _ _ => lF'
  rename News _ _ _ _ => lN'
  refine' hret _ _ _ _ lF' (kst_newsOf lN' ?zs) ⟨_, _, _, _, _, rfl, rfl, ?_, ?_, ?_, ?_, ?_⟩
  case zs => kst_in
  · k_all
  · k_all
  · k_ne
  · k_ne
  · k_ne
end
section
theorem valueAt_snoc {K : Type} [DecidableEq K] {kvs : List (K × Value)} {k : K} {v : Value} (h : valueAt kvs k = none) : valueAt (kvs ++ [(k, v)]) k = some v := by
  unfold valueAt at h ⊢
  rw [List.find?_append]
  cases e : kvs.find? (fun kv => decide (kv.1 = k)) with
  | some a => rw [e] at h; cases h
  | none => simp
inductive MapNP (w : World) (mk : List (Str × Value)) (name : Str) (dflt : Value) (mp : Nat) (news news' : Led) (y : Value) : Prop
  | mk (r rx st va k1 k2 : Nat) (t1 t2 t3 t0 : Tok) (om : Obj) (q1 : .ref r = y) (q2 : (mp, om) :: (r, instObj 280 rx) :: (rx, rmDict w t1 t2 t3 3 dflt st va) :: (st, listOf (List.toArray [.int 0 t0]) k1) :: (va, listOf (List.toArray [dflt]) k2) :: news = news') (q3 : om.IsDictOf (strKind PG w) (mk ++ [(name, .ref r)])) (q4 : AllLt rx ((mp, om) :: news)) (q5 : @LT.lt Nat _ rx r) (q6 : AllLt r ((mp, om) :: news)) (q7 : (@LT.lt Nat _ r st ∧ @LT.lt Nat _ rx st ∧ AllLt st ((mp, om) :: news))) (q8 : (@LT.lt Nat _ st va ∧ @LT.lt Nat _ r va ∧ @LT.lt Nat _ rx va ∧ AllLt va ((mp, om) :: news))) : MapNP w mk name dflt mp news news' y
theorem MapNP.go {wz : World} {fz : Addr} {vz : List Value} {kz : Nat} {ledz : Led} {w : World} {mk : List (Str × Value)} {name : Str} {dflt : Value} {mp : Nat} {news : Led} (Cz : CC wz fz vz kz ledz (MapNP w mk name dflt mp news))
  {pz : Program} {lz : List Str} {mnz : ExcName → Option Value} {mgz mbz : Str → Option Value} {dpz unz : Nat} {gdz : Option (List Code)} {cnz : Str} {csz : Scope} {az : Addr} {cdz : Value} {clz : List (Str × Addr)} {otz : List Env} {A₀ : Around} {basez h₀ : Heap} {Lz : Addr} {mz : Str → Option Value} {sz : Shared} {Qz Ez : Value → Shared → Prop}
  (ret : ∀ (r rx st va k1 k2 : Nat) (t1 t2 t3 t0 : Tok) (om : Obj) (hz : Heap) (tkz : Nat), Fr h₀ Lz hz mz → News h₀ Lz hz ((mp, om) :: (r, instObj 280 rx) :: (rx, rmDict w t1 t2 t3 3 dflt st va) :: (st, listOf (List.toArray [.int 0 t0]) k1) :: (va, listOf (List.toArray [dflt]) k2) :: news) → (om.IsDictOf (strKind PG w) (mk ++ [(name, .ref r)])) → (AllLt rx ((mp, om) :: news)) → (@LT.lt Nat _ rx r) → (AllLt r ((mp, om) :: news)) → ((@LT.lt Nat _ r st ∧ @LT.lt Nat _ rx st ∧ AllLt st ((mp, om) :: news))) → ((@LT.lt Nat _ st va ∧ @LT.lt Nat _ r va ∧ @LT.lt Nat _ rx va ∧ AllLt va ((mp, om) :: news))) → Qz (.ref r) { sz with heap := hz, toks := tkz })
  (F : Fr h₀ Lz sz.heap mz) (N : News h₀ Lz sz.heap ledz) (B : Below A₀ basez otz h₀) (X : (hd.heap_1_39 wz.params).In h₀) (T : Top pz lz mnz mgz mbz h₀) (hk : csz.kind = .function)
  (hd : dpz + kz < recursionLimit) (hu : unz + 8 * kz < cLine) :
    wpAny (model PySem.Challenge.rw_on0371_01.prog wz) (ktrTop dpz unz gdz cnz csz Lz az cdz clz otz) (call (.ref fz) vz) Qz Ez sz := by
  refine cc_go Cz (fun v news9 h9 tk9 F9 N9 P9 => ?_) F N B X T hk hd hu
  obtain ⟨r, rx, st, va, k1, k2, t1, t2, t3, t0, om, rfl, rfl, q3, q4, q5, q6, q7, q8⟩ := P9
  exact ret r rx st va k1 k2 t1 t2 t3 t0 om h9 tk9 F9 N9 q3 q4 q5 q6 q7 q8
set_option maxRecDepth 100000 in
set_option maxHeartbeats 8000000 in
theorem c_mapn {w : World} {news : Led} {d dx df mp pr wd n : Nat} {u1 u2 u3 u4 t' : Tok} {om od : Obj} {mk dk : List (Str × Value)} {name : Str} {dflt : Value}
  (g1 : (d, instObj 336 dx) ∈ news) (g2 : (dx, daDict w u1 u2 u3 u4 n df mp pr wd) ∈ news) (lo : (mp == sysModules) = false) (gd : om.IsDictOf (strKind PG w) mk) (gf : valueAt mk name = none)
  (g6 : (df, od) ∈ news) (lo2 : (df == sysModules) = false) (gd2 : od.IsDictOf (strKind PG w) dk) (gdf : (valueAt dk name).getD .none = dflt) (hz : mk.length ≤ 100) (hmp : ∀ p ∈ news, p.1 ≠ mp) :
  CC w 333 [.ref d, .str name t'] 12 ((mp, om) :: news) (MapNP w mk name dflt mp news) := by
  refine CC.mk ?_; k_fill; intro p loose mean mg mb dp un gd' cn cs a ccd cl outer A₀ base h₀ L m s Q E B F X N T hk hdp hun hret
  have hMk : KstMark := kstMark
  k_with_none
  k_with "m_allIn" => first | exact List.forall_mem_nil _ | (refine sub_cons (by k_memK) ?_; k_extra "m_allIn") | (intro p9 h9; kst_mem)
  k_with "m_ra" => first | assumption | exact And.right (by first | assumption | exact And.right (by first | assumption | exact And.right (by first | assumption | exact And.right (by first | assumption | exact And.right (by first | assumption | exact And.right (by first | assumption | exact And.right (by first | assumption | exact And.right (by assumption))))))))
  k_with "m_and" => first | k_extra "m_ra" | exact And.left (by k_extra "m_ra")
  k_with "m_neA" => first | k_extra "m_and" | (refine Ne.symm ?_; k_extra "m_and") | (refine Nat.ne_of_lt ?_; k_extra "m_and") | (refine Nat.ne_of_gt ?_; k_extra "m_and") | (refine Nat.ne_of_lt (Nat.lt_succ_of_lt ?_); k_extra "m_and")
  k_with "m_lt" => first | assumption | exact allLt_of (by assumption) | k_extra "m_and"
  k_with "kst_in" => (try dsimp only); with_unfolding_all ((try simp only [List.nil_append, List.cons_append]); k_extra "m_allIn")
  k_with "k_ne" => refine neN ?_; (try dsimp only); first | (with_reducible assumption) | (with_reducible exact Ne.symm (by assumption)) | (with_reducible exact Nat.ne_of_lt (by assumption)) | (with_reducible exact Nat.ne_of_gt (by assumption)) | with_reducible k_extra "m_neA" | k_extra "m_neA" | omega
  k_with "k_all" => first | exact List.forall_mem_nil _ | assumption | exact lt_ne (by assumption) | exact lt_ne (by k_extra "m_lt") | exact lt_ne1 (by k_extra "m_lt") | (refine ne_cons ?_ ?_; (focus k_ne); k_all) | (refine List.forall_mem_cons.mpr (And.intro ?_ ?_); (focus k_ne); k_all)
  k_with "k_in" => (rename Fr _ _ _ _ => lF8); (rename Frag.In _ _ => lX8); exact Frag.In.keeps lX8 (Fr.keep lF8)
  k_with "ktr_room" => k_dflt (first | exact rmA (by assumption) (by exact rfl) | exact rmB (by assumption))
  k_with "ktr_units" => k_dflt (first | exact unA (by assumption) (by exact rfl) | exact unC (by assumption) (by exact rfl))
  k_with "MPost" => dsimp only [MPost]
  k_with "execs cons" => with_reducible refine gen_tok ?_; intro tk9
  k_with "m_for" => k_here; (rename Fr _ _ _ _ => lF'); k_dflt (refine' For_invVF ?zF ?zk1 ?zk2 ?_ ?zs ?ze; (case zF => exact lF'); (case zk1 => exact rfl); (case zk2 => exact rfl); (case zs => (intro _; rfl)); (case ze => passes_own); k_whole)
  k_with "exec For Name Name cons nil" => k_extra "m_for"
  k_with "exec For Name Subscript cons nil" => k_extra "m_for"
  k_with "exec For Name Call cons nil" => k_extra "m_for"
  k_with "exec For Name Attribute cons nil" => k_extra "m_for"
  k_with "exec For Name Tuple cons nil" => k_extra "m_for"
  k_with "compareOp NotEq ref ref" => k_here; (with_reducible show wpAny _ _ (compareOp CmpOp.NotEq (Value.ref _) (Value.ref _)) _ _ _); k_dflt (first | refine ke_ne_ints (by is_list) (by is_list) (by l_ints) (by l_ints) (by ktr_units) ?_ | ((refine ne_dataH (by ke_read) (by ke_read) (by ke_shaped) (by ke_shaped) (by ktr_units) ?_); ke_norm))
  k_with "compareOp Eq ref ref" => k_here; (with_reducible show wpAny _ _ (compareOp CmpOp.Eq (Value.ref _) (Value.ref _)) _ _ _); k_dflt (first | refine ke_eq_ints (by is_list) (by is_list) (by l_ints) (by l_ints) (by ktr_units) ?_ | ((refine eq_dataH (by ke_read) (by ke_read) (by ke_shaped) (by ke_shaped) (by ktr_units) ?_); ke_norm))
  w_top off
  k_with "compareOp NotIn str ref" =>
    refine m_notin (b := true) (by assumption) (List.mem_cons_self ..) lo gd (strKind_is _ _ _ _) (by rw [gf]; exact rfl) ?_
  k_with "call builtin:dict.get cons nil" =>
    refine m_get1 (r := dflt) (by assumption) (.tail _ g6) lo2 gd2 (strKind_is _ _ _ _) gdf ?_
  k_with "getMethod ref" =>
    refine m_getm (by assumption) (.tail _ g6) gd2 ?_
  k_with "call ref cons nil" =>
    with_reducible show wpAny _ _ (call (Value.ref 280) [_]) _ _ _
    refine RmP.go (c_rmnew (dflt := dflt)) ?_ (by k_asm) (by k_asm) (by k_asm) (by k_asm) (by k_asm) (by first | exact rfl | assumption) (by ktr_room) (by ktr_units)
    rintro r8 rx8 st8 va8 n1 n2 t1 t2 t3 t0 h9' tk9' F9' N9' l1 l2 l3 l4 l5
    have l6 := lt_mem l3 (List.mem_cons_self ..)
    (try dsimp only); (try k_sweep); (try k_fold)
  k_with "setItem ref str ref" =>
    k_dflt (refine' m_setItemU (knd := PySem.strKind PG w) ?yF ?yN ?yU gd ?yk ?yz ?_; (case yF => k_asm); (case yN => k_asm); (case yU => k_updF); (case yk => exact strKind_is _ _ _ _); (case yz => omega))
    intro h' o' tk' F' N' hd'; (try dsimp only at N'); (try k_sweep); rw [stored_absent gf] at hd'
  k_with "subscriptTail Attribute Name Name ref str" =>
    rename Obj.IsDictOf _ _ _ => hd7
    refine m_ditem (by assumption) (by k_mem) hd7 (strKind_is _ _ _ _) (valueAt_snoc gf) ?_
  refine wpAny_call ?_
  k_dflt cell_enter
  k_steps
  rename Fr _ _ _ _ => lF'
  rename News _ _ _ _ => lN'
  refine' hret _ _ _ _ lF' (kst_newsOf lN' ?zs) ⟨_, _, _, _, _, _, _, _, _, _, _, rfl, rfl, ?z1, ?z2, ?z3, ?z4, ?z5, ?z6⟩
  (case zs => kst_in)
  (case z1 => assumption)
  (case z2 => exact l1)
  (case z3 => exact l2)
  (case z4 => exact l3)
  (case z5 => exact l4)
  (case z6 => exact l5)
end
section
inductive PutNP (w : World) (mk : List (Str × Value)) (name : Str) (dflt : Value) (mp : Nat) (c : Int) (tc : Tok) (v : Value) (news news' : Led) (y : Value) : Prop
  | mk (r rx st va k1 k2 : Nat) (t1 t2 t3 t0 tq : Tok) (om : Obj) (q1 : .none = y) (q2 : (rx, rmDict w t1 t2 t3 3 dflt st va) :: (st, listOf (List.toArray ([.int 0 t0] ++ [.int c tc, .int (c + 1) tq])) k1) :: (va, listOf (List.toArray ([dflt] ++ [v, dflt])) k2) :: (mp, om) :: (r, instObj 280 rx) :: news = news') (q3 : om.IsDictOf (strKind PG w) (mk ++ [(name, .ref r)])) (q4 : (∀ p ∈ (mp, om) :: (r, instObj 280 rx) :: news, p.1 ≠ rx)) (q5 : (∀ p ∈ (mp, om) :: (r, instObj 280 rx) :: news, p.1 ≠ st)) (q6 : (∀ p ∈ (mp, om) :: (r, instObj 280 rx) :: news, p.1 ≠ va)) (q7 : @Ne Nat rx st) (q8 : @Ne Nat rx va) (q9 : @Ne Nat st va) (q10 : (∀ p ∈ (mp, om) :: news, p.1 ≠ r)) : PutNP w mk name dflt mp c tc v news news' y
theorem PutNP.go {wz : World} {fz : Addr} {vz : List Value} {kz : Nat} {ledz : Led} {w : World} {mk : List (Str × Value)} {name : Str} {dflt : Value} {mp : Nat} {c : Int} {tc : Tok} {v : Value} {news : Led} (Cz : CC wz fz vz kz ledz (PutNP w mk name dflt mp c tc v news))
  {pz : Program} {lz : List Str} {mnz : ExcName → Option Value} {mgz mbz : Str → Option Value} {dpz unz : Nat} {gdz : Option (List Code)} {cnz : Str} {csz : Scope} {az : Addr} {cdz : Value} {clz : List (Str × Addr)} {otz : List Env} {A₀ : Around} {basez h₀ : Heap} {Lz : Addr} {mz : Str → Option Value} {sz : Shared} {Qz Ez : Value → Shared → Prop}
  (ret : ∀ (r rx st va k1 k2 : Nat) (t1 t2 t3 t0 tq : Tok) (om : Obj) (hz : Heap) (tkz : Nat), Fr h₀ Lz hz mz → News h₀ Lz hz ((rx, rmDict w t1 t2 t3 3 dflt st va) :: (st, listOf (List.toArray ([.int 0 t0] ++ [.int c tc, .int (c + 1) tq])) k1) :: (va, listOf (List.toArray ([dflt] ++ [v, dflt])) k2) :: (mp, om) :: (r, instObj 280 rx) :: news) → (om.IsDictOf (strKind PG w) (mk ++ [(name, .ref r)])) → ((∀ p ∈ (mp, om) :: (r, instObj 280 rx) :: news, p.1 ≠ rx)) → ((∀ p ∈ (mp, om) :: (r, instObj 280 rx) :: news, p.1 ≠ st)) → ((∀ p ∈ (mp, om) :: (r, instObj 280 rx) :: news, p.1 ≠ va)) → (@Ne Nat rx st) → (@Ne Nat rx va) → (@Ne Nat st va) → ((∀ p ∈ (mp, om) :: news, p.1 ≠ r)) → Qz (.none) { sz with heap := hz, toks := tkz })
  (F : Fr h₀ Lz sz.heap mz) (N : News h₀ Lz sz.heap ledz) (B : Below A₀ basez otz h₀) (X : (hd.heap_1_39 wz.params).In h₀) (T : Top pz lz mnz mgz mbz h₀) (hk : csz.kind = .function)
  (hd : dpz + kz < recursionLimit) (hu : unz + 8 * kz < cLine) :
    wpAny (model PySem.Challenge.rw_on0371_01.prog wz) (ktrTop dpz unz gdz cnz csz Lz az cdz clz otz) (call (.ref fz) vz) Qz Ez sz := by
  refine cc_go Cz (fun v news9 h9 tk9 F9 N9 P9 => ?_) F N B X T hk hd hu
  obtain ⟨r, rx, st, va, k1, k2, t1, t2, t3, t0, tq, om, rfl, rfl, q3, q4, q5, q6, q7, q8, q9, q10⟩ := P9
  exact ret r rx st va k1 k2 t1 t2 t3 t0 tq om h9 tk9 F9 N9 q3 q4 q5 q6 q7 q8 q9 q10
set_option maxRecDepth 100000 in
set_option maxHeartbeats 8000000 in
theorem c_dputN {w : World} {news : Led} {d dx df mp pr wd n : Nat} {u1 u2 u3 u4 t' tc tc' : Tok} {om od : Obj} {mk dk : List (Str × Value)} {name : Str} {dflt v : Value} {c : Int}
  (g1 : (d, instObj 336 dx) ∈ news) (g2 : (dx, daDict w u1 u2 u3 u4 n df mp pr wd) ∈ news) (lo : (mp == sysModules) = false) (gd : om.IsDictOf (strKind PG w) mk) (gf : valueAt mk name = none)
  (g6 : (df, od) ∈ news) (lo2 : (df == sysModules) = false) (gd2 : od.IsDictOf (strKind PG w) dk) (gdf : (valueAt dk name).getD .none = dflt) (hz : mk.length ≤ 100) (hmp : ∀ p ∈ news, p.1 ≠ mp)
  (hU : Unl news dflt v) (hc1 : 0 < c) (hc : c < 1114111) :
  CC w 319 [.ref d, .str name t', .int c tc, .int c tc', v] 24 ((mp, om) :: news) (PutNP w mk name dflt mp c tc v news) := by
  refine CC.mk ?_; k_fill; intro p loose mean mg mb dp un gd' cn cs a ccd cl outer A₀ base h₀ L m s Q E B F X N T hk hdp hun hret
  have hMk : KstMark := kstMark
  k_with_none
  k_with "m_allIn" => first | exact List.forall_mem_nil _ | (refine sub_cons (by k_memK) ?_; k_extra "m_allIn") | (intro p9 h9; kst_mem)
  k_with "m_ra" => first | assumption | exact And.right (by first | assumption | exact And.right (by first | assumption | exact And.right (by first | assumption | exact And.right (by first | assumption | exact And.right (by first | assumption | exact And.right (by first | assumption | exact And.right (by first | assumption | exact And.right (by assumption))))))))
  k_with "m_and" => first | k_extra "m_ra" | exact And.left (by k_extra "m_ra")
  k_with "m_neA" => first | k_extra "m_and" | (refine Ne.symm ?_; k_extra "m_and") | (refine Nat.ne_of_lt ?_; k_extra "m_and") | (refine Nat.ne_of_gt ?_; k_extra "m_and") | (refine Nat.ne_of_lt (Nat.lt_succ_of_lt ?_); k_extra "m_and")
  k_with "m_lt" => first | assumption | exact allLt_of (by assumption) | k_extra "m_and"
  k_with "kst_in" => (try dsimp only); with_unfolding_all ((try simp only [List.nil_append, List.cons_append]); k_extra "m_allIn")
  k_with "k_ne" => refine neN ?_; (try dsimp only); first | (with_reducible assumption) | (with_reducible exact Ne.symm (by assumption)) | (with_reducible exact Nat.ne_of_lt (by assumption)) | (with_reducible exact Nat.ne_of_gt (by assumption)) | with_reducible k_extra "m_neA" | k_extra "m_neA" | omega
  k_with "k_all" => first | exact List.forall_mem_nil _ | assumption | exact lt_ne (by assumption) | exact lt_ne (by k_extra "m_lt") | exact lt_ne1 (by k_extra "m_lt") | (refine ne_cons ?_ ?_; (focus k_ne); k_all) | (refine List.forall_mem_cons.mpr (And.intro ?_ ?_); (focus k_ne); k_all)
  k_with "k_in" => (rename Fr _ _ _ _ => lF8); (rename Frag.In _ _ => lX8); exact Frag.In.keeps lX8 (Fr.keep lF8)
  k_with "ktr_room" => k_dflt (first | exact rmA (by assumption) (by exact rfl) | exact rmB (by assumption))
  k_with "ktr_units" => k_dflt (first | exact unA (by assumption) (by exact rfl) | exact unC (by assumption) (by exact rfl))
  k_with "MPost" => dsimp only [MPost]
  k_with "execs cons" => with_reducible refine gen_tok ?_; intro tk9
  k_with "m_for" => k_here; (rename Fr _ _ _ _ => lF'); k_dflt (refine' For_invVF ?zF ?zk1 ?zk2 ?_ ?zs ?ze; (case zF => exact lF'); (case zk1 => exact rfl); (case zk2 => exact rfl); (case zs => (intro _; rfl)); (case ze => passes_own); k_whole)
  k_with "exec For Name Name cons nil" => k_extra "m_for"
  k_with "exec For Name Subscript cons nil" => k_extra "m_for"
  k_with "exec For Name Call cons nil" => k_extra "m_for"
  k_with "exec For Name Attribute cons nil" => k_extra "m_for"
  k_with "exec For Name Tuple cons nil" => k_extra "m_for"
  k_with "compareOp NotEq ref ref" => k_here; (with_reducible show wpAny _ _ (compareOp CmpOp.NotEq (Value.ref _) (Value.ref _)) _ _ _); k_dflt (first | refine ke_ne_ints (by is_list) (by is_list) (by l_ints) (by l_ints) (by ktr_units) ?_ | ((refine ne_dataH (by ke_read) (by ke_read) (by ke_shaped) (by ke_shaped) (by ktr_units) ?_); ke_norm))
  k_with "compareOp Eq ref ref" => k_here; (with_reducible show wpAny _ _ (compareOp CmpOp.Eq (Value.ref _) (Value.ref _)) _ _ _); k_dflt (first | refine ke_eq_ints (by is_list) (by is_list) (by l_ints) (by l_ints) (by ktr_units) ?_ | ((refine eq_dataH (by ke_read) (by ke_read) (by ke_shaped) (by ke_shaped) (by ktr_units) ?_); ke_norm))
  w_top off
  have b1 : bs [0] (c - 1) = 1 := by simp [bs, bsGo]; omega
  have b2 : bs [0] (c + 1) = 1 := by simp [bs, bsGo]; omega
  k_with "call ref cons nil" =>
    with_reducible show wpAny _ _ (call (Value.ref 333) [_, _]) _ _ _
    refine MapNP.go (c_mapn g1 g2 lo gd gf g6 lo2 gd2 gdf hz hmp) ?_ (by k_asm) (by k_asm) (by k_asm) (by k_asm) (by k_asm) (by first | exact rfl | assumption) (by ktr_room) (by ktr_units)
    rintro r8 rx8 st8 va8 n1 n2 t1 t2 t3 t0 om8 h9' tk9' F9' N9' hd8 l1 l2 l3 l4 l5
    have e1 := lt_ne l1
    have e2 := lt_ne l3
    have e3 := lt_ne l4.2.2
    have e4 := lt_ne l5.2.2.2
    (try dsimp only); (try k_sweep); (try k_fold)
  k_with "call ref cons nil" =>
    with_reducible show wpAny _ _ (call (Value.ref 265) [_, _, _, _]) _ _ _
    rename News _ _ _ _ => lN'
    refine' PutP.go (c_rmput (sv := [.int 0 t0]) (vv := [dflt]) (ns := [0]) (u := dflt) (news := (mp, om8) :: (r8, instObj 280 rx8) :: news) (r := r8) (.tail _ (.head _)) ?za ?zb ?zc ?zd ?ze ?zf (.cons _ _ .nil) rfl (by decide) b1 b2 (by decide) rfl (hU.mono ?zmo) hc) ?_ (by k_asm) (kst_newsOf lN' ?zsub) (by k_asm) (by k_asm) (by k_asm) (by first | exact rfl | assumption) (by ktr_room) (by ktr_units)
    (case zsub => kst_in)
    (case za => k_all)
    (case zb => k_all)
    (case zc => k_all)
    (case zd => k_ne)
    (case ze => k_ne)
    (case zf => k_ne)
    (case zmo => kst_in)
    rintro st9 va9 n3 n4 tq9 h9' tk9' F9' N9' f1 f2 f3 f4 f5
    (try dsimp only); (try k_sweep); (try k_fold)
  refine wpAny_call ?_
  k_dflt cell_enter
  k_steps
  rename Fr _ _ _ _ => lF'
  rename News _ _ _ _ => lN'
  refine' hret _ _ _ _ lF' (kst_newsOf lN' ?zs) ⟨_, _, _, _, _, _, _, _, _, _, _, _, rfl, rfl, hd8, ?z1, f1, f2, f3, f4, f5, ?z2⟩
  (case zs => kst_in)
  (case z1 => k_all)
  (case z2 => k_all)
set_option maxRecDepth 100000 in
set_option maxHeartbeats 8000000 in
theorem c_dputO {w : World} {news : Led} {d dx df mp pr wd n r rx st va k1 k2 : Nat} {u1 u2 u3 u4 t' t1 t2 t3 tc tc' : Tok} {om : Obj} {mk : List (Str × Value)} {name : Str} {dflt v u : Value} {sv vv : List Value} {ns : List Int} {c : Int}
  (g1 : (d, instObj 336 dx) ∈ news) (g2 : (dx, daDict w u1 u2 u3 u4 n df mp pr wd) ∈ news) (g3 : (mp, om) ∈ news) (lo : (mp == sysModules) = false) (gd : om.IsDictOf (strKind PG w) mk) (gf : valueAt mk name = some (.ref r))
  (h1 : (r, instObj 280 rx) ∈ news) (hn1 : ∀ p ∈ news, p.1 ≠ rx) (hn2 : ∀ p ∈ news, p.1 ≠ st) (hn3 : ∀ p ∈ news, p.1 ≠ va) (h12 : @Ne Nat rx st) (h13 : @Ne Nat rx va) (h23 : @Ne Nat st va)
  (hi : IntsAre sv ns) (hl : vv.length = ns.length) (hn : ns.length < 1000) (hb : bs ns (c - 1) = ns.length) (hb2 : bs ns (c + 1) = ns.length) (h0 : 0 < ns.length) (hu : vv[ns.length - 1]? = some u) (hU : Unl news u v) (hc : c < 1114111) :
  CC w 319 [.ref d, .str name t', .int c tc, .int c tc', v] 24 ((rx, rmDict w t1 t2 t3 3 dflt st va) :: (st, listOf sv.toArray k1) :: (va, listOf vv.toArray k2) :: news) (PutP w dflt news rx t1 t2 t3 tc c sv vv v u) := by
  refine CC.mk ?_; k_fill; intro p loose mean mg mb dp un gd' cn cs a ccd cl outer A₀ base h₀ L m s Q E B F X N T hk hdp hun hret
  have hMk : KstMark := kstMark
  k_with_none
  k_with "m_allIn" => first | exact List.forall_mem_nil _ | (refine sub_cons (by k_memK) ?_; k_extra "m_allIn") | (intro p9 h9; kst_mem)
  k_with "m_ra" => first | assumption | exact And.right (by first | assumption | exact And.right (by first | assumption | exact And.right (by first | assumption | exact And.right (by first | assumption | exact And.right (by first | assumption | exact And.right (by first | assumption | exact And.right (by first | assumption | exact And.right (by assumption))))))))
  k_with "m_and" => first | k_extra "m_ra" | exact And.left (by k_extra "m_ra")
  k_with "m_neA" => first | k_extra "m_and" | (refine Ne.symm ?_; k_extra "m_and") | (refine Nat.ne_of_lt ?_; k_extra "m_and") | (refine Nat.ne_of_gt ?_; k_extra "m_and") | (refine Nat.ne_of_lt (Nat.lt_succ_of_lt ?_); k_extra "m_and")
  k_with "m_lt" => first | assumption | exact allLt_of (by assumption) | k_extra "m_and"
  k_with "kst_in" => (try dsimp only); with_unfolding_all ((try simp only [List.nil_append, List.cons_append]); k_extra "m_allIn")
  k_with "k_ne" => refine neN ?_; (try dsimp only); first | (with_reducible assumption) | (with_reducible exact Ne.symm (by assumption)) | (with_reducible exact Nat.ne_of_lt (by assumption)) | (with_reducible exact Nat.ne_of_gt (by assumption)) | with_reducible k_extra "m_neA" | k_extra "m_neA" | omega
  k_with "k_all" => first | exact List.forall_mem_nil _ | assumption | exact lt_ne (by assumption) | exact lt_ne (by k_extra "m_lt") | exact lt_ne1 (by k_extra "m_lt") | (refine ne_cons ?_ ?_; (focus k_ne); k_all) | (refine List.forall_mem_cons.mpr (And.intro ?_ ?_); (focus k_ne); k_all)
  k_with "k_in" => (rename Fr _ _ _ _ => lF8); (rename Frag.In _ _ => lX8); exact Frag.In.keeps lX8 (Fr.keep lF8)
  k_with "ktr_room" => k_dflt (first | exact rmA (by assumption) (by exact rfl) | exact rmB (by assumption))
  k_with "ktr_units" => k_dflt (first | exact unA (by assumption) (by exact rfl) | exact unC (by assumption) (by exact rfl))
  k_with "MPost" => dsimp only [MPost]
  k_with "execs cons" => with_reducible refine gen_tok ?_; intro tk9
  k_with "m_for" => k_here; (rename Fr _ _ _ _ => lF'); k_dflt (refine' For_invVF ?zF ?zk1 ?zk2 ?_ ?zs ?ze; (case zF => exact lF'); (case zk1 => exact rfl); (case zk2 => exact rfl); (case zs => (intro _; rfl)); (case ze => passes_own); k_whole)
  k_with "exec For Name Name cons nil" => k_extra "m_for"
  k_with "exec For Name Subscript cons nil" => k_extra "m_for"
  k_with "exec For Name Call cons nil" => k_extra "m_for"
  k_with "exec For Name Attribute cons nil" => k_extra "m_for"
  k_with "exec For Name Tuple cons nil" => k_extra "m_for"
  k_with "compareOp NotEq ref ref" => k_here; (with_reducible show wpAny _ _ (compareOp CmpOp.NotEq (Value.ref _) (Value.ref _)) _ _ _); k_dflt (first | refine ke_ne_ints (by is_list) (by is_list) (by l_ints) (by l_ints) (by ktr_units) ?_ | ((refine ne_dataH (by ke_read) (by ke_read) (by ke_shaped) (by ke_shaped) (by ktr_units) ?_); ke_norm))
  k_with "compareOp Eq ref ref" => k_here; (with_reducible show wpAny _ _ (compareOp CmpOp.Eq (Value.ref _) (Value.ref _)) _ _ _); k_dflt (first | refine ke_eq_ints (by is_list) (by is_list) (by l_ints) (by l_ints) (by ktr_units) ?_ | ((refine eq_dataH (by ke_read) (by ke_read) (by ke_shaped) (by ke_shaped) (by ktr_units) ?_); ke_norm))
  w_top off
  k_with "call ref cons nil" =>
    with_reducible show wpAny _ _ (call (Value.ref 333) [_, _]) _ _ _
    refine cc_goE (c_mapof (.tail _ (.tail _ (.tail _ g1))) (.tail _ (.tail _ (.tail _ g2))) (.tail _ (.tail _ (.tail _ g3))) lo gd gf) ?_ (by k_asm) (by k_asm) (by k_asm) (by k_asm) (by k_asm) (by first | exact rfl | assumption) (by ktr_room) (by ktr_units)
    intro h9' tk9' F9' N9'
    (try dsimp only); (try k_sweep); (try k_fold)
  k_with "call ref cons nil" =>
    with_reducible show wpAny _ _ (call (Value.ref 265) [_, _, _, _]) _ _ _
    refine PutP.go (c_rmput h1 hn1 hn2 hn3 h12 h13 h23 hi hl hn hb hb2 h0 hu hU hc) ?_ (by k_asm) (by k_asm) (by k_asm) (by k_asm) (by k_asm) (by first | exact rfl | assumption) (by ktr_room) (by ktr_units)
    rintro st9 va9 n3 n4 tq9 h9' tk9' F9' N9' f1 f2 f3 f4 f5
    (try dsimp only); (try k_sweep); (try k_fold)
  refine wpAny_call ?_
  k_dflt cell_enter
  k_steps
  exact hret _ _ _ _ (by assumption) (by assumption) ⟨_, _, _, _, _, rfl, rfl, f1, f2, f3, f4, f5⟩
end
section
inductive ClsP (w : World) (news news' : Led) (y : Value) : Prop
  | mk (r : Nat) (o : Obj) (t1 t2 : Tok) (q1 : .ref r = y) (q2 : (r, o) :: news = news') (q3 : (r == sysModules) = false) (q4 : o.IsDictOf (intKind PG w) [(769, .int 230 t1), (803, .int 220 t2)]) (q5 : (∀ p ∈ news, p.1 ≠ r)) : ClsP w news news' y
theorem ClsP.go {wz : World} {fz : Addr} {vz : List Value} {kz : Nat} {ledz : Led} {w : World} {news : Led} (Cz : CC wz fz vz kz ledz (ClsP w news))
  {pz : Program} {lz : List Str} {mnz : ExcName → Option Value} {mgz mbz : Str → Option Value} {dpz unz : Nat} {gdz : Option (List Code)} {cnz : Str} {csz : Scope} {az : Addr} {cdz : Value} {clz : List (Str × Addr)} {otz : List Env} {A₀ : Around} {basez h₀ : Heap} {Lz : Addr} {mz : Str → Option Value} {sz : Shared} {Qz Ez : Value → Shared → Prop}
  (ret : ∀ (r : Nat) (o : Obj) (t1 t2 : Tok) (hz : Heap) (tkz : Nat), Fr h₀ Lz hz mz → News h₀ Lz hz ((r, o) :: news) → ((r == sysModules) = false) → (o.IsDictOf (intKind PG w) [(769, .int 230 t1), (803, .int 220 t2)]) → ((∀ p ∈ news, p.1 ≠ r)) → Qz (.ref r) { sz with heap := hz, toks := tkz })
  (F : Fr h₀ Lz sz.heap mz) (N : News h₀ Lz sz.heap ledz) (B : Below A₀ basez otz h₀) (X : (hd.heap_1_39 wz.params).In h₀) (T : Top pz lz mnz mgz mbz h₀) (hk : csz.kind = .function)
  (hd : dpz + kz < recursionLimit) (hu : unz + 8 * kz < cLine) :
    wpAny (model PySem.Challenge.rw_on0371_01.prog wz) (ktrTop dpz unz gdz cnz csz Lz az cdz clz otz) (call (.ref fz) vz) Qz Ez sz := by
  refine cc_go Cz (fun v news9 h9 tk9 F9 N9 P9 => ?_) F N B X T hk hd hu
  obtain ⟨r, o, t1, t2, rfl, rfl, q3, q4, q5⟩ := P9
  exact ret r o t1 t2 h9 tk9 F9 N9 q3 q4 q5
set_option maxRecDepth 100000 in
set_option maxHeartbeats 8000000 in
theorem c_lcls {w : World} {news : Led} : CC w 348 [] 4 news (ClsP w news) := by
  refine CC.mk ?_; k_fill; intro p loose mean mg mb dp un gd cn cs a ccd cl outer A₀ base h₀ L m s Q E B F X N T hk hdp hun hret
  have hMk : KstMark := kstMark
  k_with_none
  k_with "m_allIn" => first | exact List.forall_mem_nil _ | (refine sub_cons (by k_memK) ?_; k_extra "m_allIn") | (intro p9 h9; kst_mem)
  k_with "m_ra" => first | assumption | exact And.right (by first | assumption | exact And.right (by first | assumption | exact And.right (by first | assumption | exact And.right (by first | assumption | exact And.right (by first | assumption | exact And.right (by first | assumption | exact And.right (by first | assumption | exact And.right (by assumption))))))))
  k_with "m_and" => first | k_extra "m_ra" | exact And.left (by k_extra "m_ra")
  k_with "m_neA" => first | k_extra "m_and" | (refine Ne.symm ?_; k_extra "m_and") | (refine Nat.ne_of_lt ?_; k_extra "m_and") | (refine Nat.ne_of_gt ?_; k_extra "m_and") | (refine Nat.ne_of_lt (Nat.lt_succ_of_lt ?_); k_extra "m_and")
  k_with "m_lt" => first | assumption | exact allLt_of (by assumption) | k_extra "m_and"
  k_with "kst_in" => (try dsimp only); with_unfolding_all ((try simp only [List.nil_append, List.cons_append]); k_extra "m_allIn")
  k_with "k_ne" => refine neN ?_; (try dsimp only); first | (with_reducible assumption) | (with_reducible exact Ne.symm (by assumption)) | (with_reducible exact Nat.ne_of_lt (by assumption)) | (with_reducible exact Nat.ne_of_gt (by assumption)) | with_reducible k_extra "m_neA" | k_extra "m_neA" | omega
  k_with "k_all" => first | exact List.forall_mem_nil _ | assumption | exact lt_ne (by assumption) | exact lt_ne (by k_extra "m_lt") | exact lt_ne1 (by k_extra "m_lt") | (refine ne_cons ?_ ?_; (focus k_ne); k_all) | (refine List.forall_mem_cons.mpr (And.intro ?_ ?_); (focus k_ne); k_all)
  k_with "k_in" => (rename Fr _ _ _ _ => lF8); (rename Frag.In _ _ => lX8); exact Frag.In.keeps lX8 (Fr.keep lF8)
  k_with "ktr_room" => k_dflt (first | exact rmA (by assumption) (by exact rfl) | exact rmB (by assumption))
  k_with "ktr_units" => k_dflt (first | exact unA (by assumption) (by exact rfl) | exact unC (by assumption) (by exact rfl))
  k_with "MPost" => dsimp only [MPost]
  k_with "execs cons" => with_reducible refine gen_tok ?_; intro tk9
  k_with "m_for" => k_here; (rename Fr _ _ _ _ => lF'); k_dflt (refine' For_invVF ?zF ?zk1 ?zk2 ?_ ?zs ?ze; (case zF => exact lF'); (case zk1 => exact rfl); (case zk2 => exact rfl); (case zs => (intro _; rfl)); (case ze => passes_own); k_whole)
  k_with "exec For Name Name cons nil" => k_extra "m_for"
  k_with "exec For Name Subscript cons nil" => k_extra "m_for"
  k_with "exec For Name Call cons nil" => k_extra "m_for"
  k_with "exec For Name Attribute cons nil" => k_extra "m_for"
  k_with "exec For Name Tuple cons nil" => k_extra "m_for"
  k_with "compareOp NotEq ref ref" => k_here; (with_reducible show wpAny _ _ (compareOp CmpOp.NotEq (Value.ref _) (Value.ref _)) _ _ _); k_dflt (first | refine ke_ne_ints (by is_list) (by is_list) (by l_ints) (by l_ints) (by ktr_units) ?_ | ((refine ne_dataH (by ke_read) (by ke_read) (by ke_shaped) (by ke_shaped) (by ktr_units) ?_); ke_norm))
  k_with "compareOp Eq ref ref" => k_here; (with_reducible show wpAny _ _ (compareOp CmpOp.Eq (Value.ref _) (Value.ref _)) _ _ _); k_dflt (first | refine ke_eq_ints (by is_list) (by is_list) (by l_ints) (by l_ints) (by ktr_units) ?_ | ((refine eq_dataH (by ke_read) (by ke_read) (by ke_shaped) (by ke_shaped) (by ktr_units) ?_); ke_norm))
  w_top off
  k_with "m_dictI" => (k_dflt (refine' kdn_int ?q ?F ?N ?b ?a ?l ?e ?n ?_; (case q => rfl); (case F => k_asm); (case N => k_asm); (case b => exact Top.nolimit (by k_asm)); (case a => rfl); (case l => rfl); (case e => exact List.cons_ne_nil _ _); (case n => exact Nat.le_of_ble_eq_true rfl)); intro d' h' o' F' N' l1 lo' hd'; (try k_lt l1))
  k_with "KdnMade" => (k_here; k_dflt (first | (refine' m_madeS ?yF ?yN ?yU ?yd ?yk ?yn ?_; (case yF => k_asm); (case yN => k_asm); (case yU => k_updF); (case yd => k_asm); (case yk => rfl); (case yn => exact of_decide_eq_true (by first | rfl | kernel_rfl!)); intro h' o' tk' F' N' hd') | (refine' m_madeI ?yF ?yN ?yU ?yd ?yk ?yn ?_; (case yF => k_asm); (case yN => k_asm); (case yU => k_updF); (case yd => k_asm); (case yk => rfl); (case yn => exact of_decide_eq_true (by first | rfl | kernel_rfl!)); intro h' o' tk' F' N' hd')); (try dsimp only at N'); (try k_sweep))
  k_with "eval Dict cons cons" =>
    walk_at "m_dictI"
  refine wpAny_call ?_
  (k_dflt (refine' code_def ?k1 ?k2 ?k3 ?k4 ?k5 ?kA ?kF ?kK ?k6 ?k7 ?k8 ?k9 ?kB ?_ ?c2 ?c3 ?c4 ?c5; (case kA => exact rfl); (case kF => exact rfl); (case kK => assumption); (case k1 => k_asm); (case k2 => k_asm); (case k3 => k_asm); (case k4 => k_asm); (case k5 => k_asm); (case k6 => k_is); (case k7 => k_is); (case k8 => ktr_room); (case k9 => first | exact BindsTo.of_eq rfl | exact binds_K (by k_in) rfl (by k_is) rfl rfl rfl); (case c5 => decide); (case kB => exact locs rfl); (case c2 => exact rfl); (case c3 => exact rfl); (case c4 => exact rfl); k_whole; intro g' L' h' FG' F' N' B' X' T'; (try dsimp only); (try k_lift B'); (try k_fold)))
  k_steps
  rename Fr _ _ _ _ => lF'
  rename News _ _ _ _ => lN'
  refine' hret _ _ _ _ lF' (kst_newsOf lN' ?zs) ⟨_, _, _, _, rfl, rfl, ?zl, ?zd, ?za⟩
  case zs => kst_in
  case zd => assumption
  case zl => assumption
  case za => k_all
end
section
inductive PrtP (w : World) (news news' : Led) (y : Value) : Prop
  | mk (r a b : Nat) (o : Obj) (t3 t4 t5 t6 : Tok) (q1 : .ref r = y) (q2 : (b, tupO (List.toArray [.int 69 t5, .int 769 t6]) 0) :: (a, tupO (List.toArray [.int 101 t3, .int 769 t4]) 0) :: (r, o) :: news = news') (q3 : (r == sysModules) = false) (q4 : o.IsDictOf (intKind PG w) [(233, .ref a), (201, .ref b)]) (q5 : (∀ p ∈ news, p.1 ≠ a)) (q6 : (∀ p ∈ news, p.1 ≠ b)) (q7 : @Ne Nat a b) (q8 : (∀ p ∈ news, p.1 ≠ r)) : PrtP w news news' y
theorem PrtP.go {wz : World} {fz : Addr} {vz : List Value} {kz : Nat} {ledz : Led} {w : World} {news : Led} (Cz : CC wz fz vz kz ledz (PrtP w news))
  {pz : Program} {lz : List Str} {mnz : ExcName → Option Value} {mgz mbz : Str → Option Value} {dpz unz : Nat} {gdz : Option (List Code)} {cnz : Str} {csz : Scope} {az : Addr} {cdz : Value} {clz : List (Str × Addr)} {otz : List Env} {A₀ : Around} {basez h₀ : Heap} {Lz : Addr} {mz : Str → Option Value} {sz : Shared} {Qz Ez : Value → Shared → Prop}
  (ret : ∀ (r a b : Nat) (o : Obj) (t3 t4 t5 t6 : Tok) (hz : Heap) (tkz : Nat), Fr h₀ Lz hz mz → News h₀ Lz hz ((b, tupO (List.toArray [.int 69 t5, .int 769 t6]) 0) :: (a, tupO (List.toArray [.int 101 t3, .int 769 t4]) 0) :: (r, o) :: news) → ((r == sysModules) = false) → (o.IsDictOf (intKind PG w) [(233, .ref a), (201, .ref b)]) → ((∀ p ∈ news, p.1 ≠ a)) → ((∀ p ∈ news, p.1 ≠ b)) → (@Ne Nat a b) → ((∀ p ∈ news, p.1 ≠ r)) → Qz (.ref r) { sz with heap := hz, toks := tkz })
  (F : Fr h₀ Lz sz.heap mz) (N : News h₀ Lz sz.heap ledz) (B : Below A₀ basez otz h₀) (X : (hd.heap_1_39 wz.params).In h₀) (T : Top pz lz mnz mgz mbz h₀) (hk : csz.kind = .function)
  (hd : dpz + kz < recursionLimit) (hu : unz + 8 * kz < cLine) :
    wpAny (model PySem.Challenge.rw_on0371_01.prog wz) (ktrTop dpz unz gdz cnz csz Lz az cdz clz otz) (call (.ref fz) vz) Qz Ez sz := by
  refine cc_go Cz (fun v news9 h9 tk9 F9 N9 P9 => ?_) F N B X T hk hd hu
  obtain ⟨r, a, b, o, t3, t4, t5, t6, rfl, rfl, q3, q4, q5, q6, q7, q8⟩ := P9
  exact ret r a b o t3 t4 t5 t6 h9 tk9 F9 N9 q3 q4 q5 q6 q7 q8
set_option maxRecDepth 100000 in
set_option maxHeartbeats 8000000 in
theorem c_lprt {w : World} {news : Led} : CC w 355 [] 4 news (PrtP w news) := by
  refine CC.mk ?_; k_fill; intro p loose mean mg mb dp un gd cn cs a ccd cl outer A₀ base h₀ L m s Q E B F X N T hk hdp hun hret
  have hMk : KstMark := kstMark
  k_with_none
  k_with "m_allIn" => first | exact List.forall_mem_nil _ | (refine sub_cons (by k_memK) ?_; k_extra "m_allIn") | (intro p9 h9; kst_mem)
  k_with "m_ra" => first | assumption | exact And.right (by first | assumption | exact And.right (by first | assumption | exact And.right (by first | assumption | exact And.right (by first | assumption | exact And.right (by first | assumption | exact And.right (by first | assumption | exact And.right (by first | assumption | exact And.right (by assumption))))))))
  k_with "m_and" => first | k_extra "m_ra" | exact And.left (by k_extra "m_ra")
  k_with "m_neA" => first | k_extra "m_and" | (refine Ne.symm ?_; k_extra "m_and") | (refine Nat.ne_of_lt ?_; k_extra "m_and") | (refine Nat.ne_of_gt ?_; k_extra "m_and") | (refine Nat.ne_of_lt (Nat.lt_succ_of_lt ?_); k_extra "m_and")
  k_with "m_lt" => first | assumption | exact allLt_of (by assumption) | k_extra "m_and"
  k_with "kst_in" => (try dsimp only); with_unfolding_all ((try simp only [List.nil_append, List.cons_append]); k_extra "m_allIn")
  k_with "k_ne" => refine neN ?_; (try dsimp only); first | (with_reducible assumption) | (with_reducible exact Ne.symm (by assumption)) | (with_reducible exact Nat.ne_of_lt (by assumption)) | (with_reducible exact Nat.ne_of_gt (by assumption)) | with_reducible k_extra "m_neA" | k_extra "m_neA" | omega
  k_with "k_all" => first | exact List.forall_mem_nil _ | assumption | exact lt_ne (by assumption) | exact lt_ne (by k_extra "m_lt") | exact lt_ne1 (by k_extra "m_lt") | (refine ne_cons ?_ ?_; (focus k_ne); k_all) | (refine List.forall_mem_cons.mpr (And.intro ?_ ?_); (focus k_ne); k_all)
  k_with "k_in" => (rename Fr _ _ _ _ => lF8); (rename Frag.In _ _ => lX8); exact Frag.In.keeps lX8 (Fr.keep lF8)
  k_with "ktr_room" => k_dflt (first | exact rmA (by assumption) (by exact rfl) | exact rmB (by assumption))
  k_with "ktr_units" => k_dflt (first | exact unA (by assumption) (by exact rfl) | exact unC (by assumption) (by exact rfl))
  k_with "MPost" => dsimp only [MPost]
  k_with "execs cons" => with_reducible refine gen_tok ?_; intro tk9
  k_with "m_for" => k_here; (rename Fr _ _ _ _ => lF'); k_dflt (refine' For_invVF ?zF ?zk1 ?zk2 ?_ ?zs ?ze; (case zF => exact lF'); (case zk1 => exact rfl); (case zk2 => exact rfl); (case zs => (intro _; rfl)); (case ze => passes_own); k_whole)
  k_with "exec For Name Name cons nil" => k_extra "m_for"
  k_with "exec For Name Subscript cons nil" => k_extra "m_for"
  k_with "exec For Name Call cons nil" => k_extra "m_for"
  k_with "exec For Name Attribute cons nil" => k_extra "m_for"
  k_with "exec For Name Tuple cons nil" => k_extra "m_for"
  k_with "compareOp NotEq ref ref" => k_here; (with_reducible show wpAny _ _ (compareOp CmpOp.NotEq (Value.ref _) (Value.ref _)) _ _ _); k_dflt (first | refine ke_ne_ints (by is_list) (by is_list) (by l_ints) (by l_ints) (by ktr_units) ?_ | ((refine ne_dataH (by ke_read) (by ke_read) (by ke_shaped) (by ke_shaped) (by ktr_units) ?_); ke_norm))
  k_with "compareOp Eq ref ref" => k_here; (with_reducible show wpAny _ _ (compareOp CmpOp.Eq (Value.ref _) (Value.ref _)) _ _ _); k_dflt (first | refine ke_eq_ints (by is_list) (by is_list) (by l_ints) (by l_ints) (by ktr_units) ?_ | ((refine eq_dataH (by ke_read) (by ke_read) (by ke_shaped) (by ke_shaped) (by ktr_units) ?_); ke_norm))
  w_top off
  k_with "m_dictI" => (k_dflt (refine' kdn_int ?q ?F ?N ?b ?a ?l ?e ?n ?_; (case q => rfl); (case F => k_asm); (case N => k_asm); (case b => exact Top.nolimit (by k_asm)); (case a => rfl); (case l => rfl); (case e => exact List.cons_ne_nil _ _); (case n => exact Nat.le_of_ble_eq_true rfl)); intro d' h' o' F' N' l1 lo' hd'; (try k_lt l1))
  k_with "KdnMade" => (k_here; k_dflt (first | (refine' m_madeS ?yF ?yN ?yU ?yd ?yk ?yn ?_; (case yF => k_asm); (case yN => k_asm); (case yU => k_updF); (case yd => k_asm); (case yk => rfl); (case yn => exact of_decide_eq_true (by first | rfl | kernel_rfl!)); intro h' o' tk' F' N' hd') | (refine' m_madeI ?yF ?yN ?yU ?yd ?yk ?yn ?_; (case yF => k_asm); (case yN => k_asm); (case yU => k_updF); (case yd => k_asm); (case yk => rfl); (case yn => exact of_decide_eq_true (by first | rfl | kernel_rfl!)); intro h' o' tk' F' N' hd')); (try dsimp only at N'); (try k_sweep))
  k_with "eval Dict cons cons" =>
    walk_at "m_dictI"
  refine wpAny_call ?_
  (k_dflt (refine' code_def ?k1 ?k2 ?k3 ?k4 ?k5 ?kA ?kF ?kK ?k6 ?k7 ?k8 ?k9 ?kB ?_ ?c2 ?c3 ?c4 ?c5; (case kA => exact rfl); (case kF => exact rfl); (case kK => assumption); (case k1 => k_asm); (case k2 => k_asm); (case k3 => k_asm); (case k4 => k_asm); (case k5 => k_asm); (case k6 => k_is); (case k7 => k_is); (case k8 => ktr_room); (case k9 => first | exact BindsTo.of_eq rfl | exact binds_K (by k_in) rfl (by k_is) rfl rfl rfl); (case c5 => decide); (case kB => exact locs rfl); (case c2 => exact rfl); (case c3 => exact rfl); (case c4 => exact rfl); k_whole; intro g' L' h' FG' F' N' B' X' T'; (try dsimp only); (try k_lift B'); (try k_fold)))
  k_steps
  rename Fr _ _ _ _ => lF'
  rename News _ _ _ _ => lN'
  refine' hret _ _ _ _ lF' (kst_newsOf lN' ?zs) ⟨_, _, _, _, _, _, _, _, rfl, rfl, ?_, ?_, ?_, ?_, ?_, ?_⟩
  case zs => kst_in
  · assumption
  · assumption
  · k_all
  · k_all
  · k_ne
  · k_all
end
section
inductive ToldP (w : World) (news news' : Led) (y : Value) : Prop
  | mk (r a1 a2 a3 a4 a5 a6 : Nat) (o : Obj) (u1 u2 u3 u4 u5 u6 : Tok) (q1 : .ref r = y) (q2 : (a6, tupO (List.toArray []) 0) :: (a5, tupO (List.toArray [.int 107 u6]) 0) :: (a4, tupO (List.toArray [.int 102 u4, .int 105 u5]) 0) :: (a3, tupO (List.toArray [.int 97 u3]) 0) :: (a2, tupO (List.toArray [.int 233 u2]) 0) :: (a1, tupO (List.toArray [.int 101 u1]) 0) :: (r, o) :: news = news') (q3 : (r == sysModules) = false) (q4 : o.IsDictOf (intKind PG w) [(69, .ref a1), (201, .ref a2), (65, .ref a3), (64257, .ref a4), (8490, .ref a5), (173, .ref a6)]) (q5 : (∀ p ∈ news, p.1 ≠ a1)) (q6 : (∀ p ∈ news, p.1 ≠ a2)) (q7 : (∀ p ∈ news, p.1 ≠ a3)) (q8 : (∀ p ∈ news, p.1 ≠ a4)) (q9 : (∀ p ∈ news, p.1 ≠ a5)) (q10 : (∀ p ∈ news, p.1 ≠ a6)) (q11 : (∀ p ∈ news, p.1 ≠ r)) : ToldP w news news' y
theorem ToldP.go {wz : World} {fz : Addr} {vz : List Value} {kz : Nat} {ledz : Led} {w : World} {news : Led} (Cz : CC wz fz vz kz ledz (ToldP w news))
  {pz : Program} {lz : List Str} {mnz : ExcName → Option Value} {mgz mbz : Str → Option Value} {dpz unz : Nat} {gdz : Option (List Code)} {cnz : Str} {csz : Scope} {az : Addr} {cdz : Value} {clz : List (Str × Addr)} {otz : List Env} {A₀ : Around} {basez h₀ : Heap} {Lz : Addr} {mz : Str → Option Value} {sz : Shared} {Qz Ez : Value → Shared → Prop}
  (ret : ∀ (r a1 a2 a3 a4 a5 a6 : Nat) (o : Obj) (u1 u2 u3 u4 u5 u6 : Tok) (hz : Heap) (tkz : Nat), Fr h₀ Lz hz mz → News h₀ Lz hz ((a6, tupO (List.toArray []) 0) :: (a5, tupO (List.toArray [.int 107 u6]) 0) :: (a4, tupO (List.toArray [.int 102 u4, .int 105 u5]) 0) :: (a3, tupO (List.toArray [.int 97 u3]) 0) :: (a2, tupO (List.toArray [.int 233 u2]) 0) :: (a1, tupO (List.toArray [.int 101 u1]) 0) :: (r, o) :: news) → ((r == sysModules) = false) → (o.IsDictOf (intKind PG w) [(69, .ref a1), (201, .ref a2), (65, .ref a3), (64257, .ref a4), (8490, .ref a5), (173, .ref a6)]) → ((∀ p ∈ news, p.1 ≠ a1)) → ((∀ p ∈ news, p.1 ≠ a2)) → ((∀ p ∈ news, p.1 ≠ a3)) → ((∀ p ∈ news, p.1 ≠ a4)) → ((∀ p ∈ news, p.1 ≠ a5)) → ((∀ p ∈ news, p.1 ≠ a6)) → ((∀ p ∈ news, p.1 ≠ r)) → Qz (.ref r) { sz with heap := hz, toks := tkz })
  (F : Fr h₀ Lz sz.heap mz) (N : News h₀ Lz sz.heap ledz) (B : Below A₀ basez otz h₀) (X : (hd.heap_1_39 wz.params).In h₀) (T : Top pz lz mnz mgz mbz h₀) (hk : csz.kind = .function)
  (hd : dpz + kz < recursionLimit) (hu : unz + 8 * kz < cLine) :
    wpAny (model PySem.Challenge.rw_on0371_01.prog wz) (ktrTop dpz unz gdz cnz csz Lz az cdz clz otz) (call (.ref fz) vz) Qz Ez sz := by
  refine cc_go Cz (fun v news9 h9 tk9 F9 N9 P9 => ?_) F N B X T hk hd hu
  obtain ⟨r, a1, a2, a3, a4, a5, a6, o, u1, u2, u3, u4, u5, u6, rfl, rfl, q3, q4, q5, q6, q7, q8, q9, q10, q11⟩ := P9
  exact ret r a1 a2 a3 a4 a5 a6 o u1 u2 u3 u4 u5 u6 h9 tk9 F9 N9 q3 q4 q5 q6 q7 q8 q9 q10 q11
set_option maxRecDepth 100000 in
set_option maxHeartbeats 8000000 in
theorem c_ltold {w : World} {news : Led} : CC w 362 [] 4 news (ToldP w news) := by
  refine CC.mk ?_; k_fill; intro p loose mean mg mb dp un gd cn cs a ccd cl outer A₀ base h₀ L m s Q E B F X N T hk hdp hun hret
  have hMk : KstMark := kstMark
  k_with_none
  k_with "m_allIn" => first | exact List.forall_mem_nil _ | (refine sub_cons (by k_memK) ?_; k_extra "m_allIn") | (intro p9 h9; kst_mem)
  k_with "m_ra" => first | assumption | exact And.right (by first | assumption | exact And.right (by first | assumption | exact And.right (by first | assumption | exact And.right (by first | assumption | exact And.right (by first | assumption | exact And.right (by first | assumption | exact And.right (by first | assumption | exact And.right (by assumption))))))))
  k_with "m_and" => first | k_extra "m_ra" | exact And.left (by k_extra "m_ra")
  k_with "m_neA" => first | k_extra "m_and" | (refine Ne.symm ?_; k_extra "m_and") | (refine Nat.ne_of_lt ?_; k_extra "m_and") | (refine Nat.ne_of_gt ?_; k_extra "m_and") | (refine Nat.ne_of_lt (Nat.lt_succ_of_lt ?_); k_extra "m_and")
  k_with "m_lt" => first | assumption | exact allLt_of (by assumption) | k_extra "m_and"
  k_with "kst_in" => (try dsimp only); with_unfolding_all ((try simp only [List.nil_append, List.cons_append]); k_extra "m_allIn")
  k_with "k_ne" => refine neN ?_; (try dsimp only); first | (with_reducible assumption) | (with_reducible exact Ne.symm (by assumption)) | (with_reducible exact Nat.ne_of_lt (by assumption)) | (with_reducible exact Nat.ne_of_gt (by assumption)) | with_reducible k_extra "m_neA" | k_extra "m_neA" | omega
  k_with "k_all" => first | exact List.forall_mem_nil _ | assumption | exact lt_ne (by assumption) | exact lt_ne (by k_extra "m_lt") | exact lt_ne1 (by k_extra "m_lt") | (refine ne_cons ?_ ?_; (focus k_ne); k_all) | (refine List.forall_mem_cons.mpr (And.intro ?_ ?_); (focus k_ne); k_all)
  k_with "k_in" => (rename Fr _ _ _ _ => lF8); (rename Frag.In _ _ => lX8); exact Frag.In.keeps lX8 (Fr.keep lF8)
  k_with "ktr_room" => k_dflt (first | exact rmA (by assumption) (by exact rfl) | exact rmB (by assumption))
  k_with "ktr_units" => k_dflt (first | exact unA (by assumption) (by exact rfl) | exact unC (by assumption) (by exact rfl))
  k_with "MPost" => dsimp only [MPost]
  k_with "execs cons" => with_reducible refine gen_tok ?_; intro tk9
  k_with "m_for" => k_here; (rename Fr _ _ _ _ => lF'); k_dflt (refine' For_invVF ?zF ?zk1 ?zk2 ?_ ?zs ?ze; (case zF => exact lF'); (case zk1 => exact rfl); (case zk2 => exact rfl); (case zs => (intro _; rfl)); (case ze => passes_own); k_whole)
  k_with "exec For Name Name cons nil" => k_extra "m_for"
  k_with "exec For Name Subscript cons nil" => k_extra "m_for"
  k_with "exec For Name Call cons nil" => k_extra "m_for"
  k_with "exec For Name Attribute cons nil" => k_extra "m_for"
  k_with "exec For Name Tuple cons nil" => k_extra "m_for"
  k_with "compareOp NotEq ref ref" => k_here; (with_reducible show wpAny _ _ (compareOp CmpOp.NotEq (Value.ref _) (Value.ref _)) _ _ _); k_dflt (first | refine ke_ne_ints (by is_list) (by is_list) (by l_ints) (by l_ints) (by ktr_units) ?_ | ((refine ne_dataH (by ke_read) (by ke_read) (by ke_shaped) (by ke_shaped) (by ktr_units) ?_); ke_norm))
  k_with "compareOp Eq ref ref" => k_here; (with_reducible show wpAny _ _ (compareOp CmpOp.Eq (Value.ref _) (Value.ref _)) _ _ _); k_dflt (first | refine ke_eq_ints (by is_list) (by is_list) (by l_ints) (by l_ints) (by ktr_units) ?_ | ((refine eq_dataH (by ke_read) (by ke_read) (by ke_shaped) (by ke_shaped) (by ktr_units) ?_); ke_norm))
  w_top off
  k_with "m_dictI" => (k_dflt (refine' kdn_int ?q ?F ?N ?b ?a ?l ?e ?n ?_; (case q => rfl); (case F => k_asm); (case N => k_asm); (case b => exact Top.nolimit (by k_asm)); (case a => rfl); (case l => rfl); (case e => exact List.cons_ne_nil _ _); (case n => exact Nat.le_of_ble_eq_true rfl)); intro d' h' o' F' N' l1 lo' hd'; (try k_lt l1))
  k_with "KdnMade" => (k_here; k_dflt (first | (refine' m_madeS ?yF ?yN ?yU ?yd ?yk ?yn ?_; (case yF => k_asm); (case yN => k_asm); (case yU => k_updF); (case yd => k_asm); (case yk => rfl); (case yn => exact of_decide_eq_true (by first | rfl | kernel_rfl!)); intro h' o' tk' F' N' hd') | (refine' m_madeI ?yF ?yN ?yU ?yd ?yk ?yn ?_; (case yF => k_asm); (case yN => k_asm); (case yU => k_updF); (case yd => k_asm); (case yk => rfl); (case yn => exact of_decide_eq_true (by first | rfl | kernel_rfl!)); intro h' o' tk' F' N' hd')); (try dsimp only at N'); (try k_sweep))
  k_with "eval Dict cons cons" =>
    walk_at "m_dictI"
  refine wpAny_call ?_
  (k_dflt (refine' code_def ?k1 ?k2 ?k3 ?k4 ?k5 ?kA ?kF ?kK ?k6 ?k7 ?k8 ?k9 ?kB ?_ ?c2 ?c3 ?c4 ?c5; (case kA => exact rfl); (case kF => exact rfl); (case kK => assumption); (case k1 => k_asm); (case k2 => k_asm); (case k3 => k_asm); (case k4 => k_asm); (case k5 => k_asm); (case k6 => k_is); (case k7 => k_is); (case k8 => ktr_room); (case k9 => first | exact BindsTo.of_eq rfl | exact binds_K (by k_in) rfl (by k_is) rfl rfl rfl); (case c5 => decide); (case kB => exact locs rfl); (case c2 => exact rfl); (case c3 => exact rfl); (case c4 => exact rfl); k_whole; intro g' L' h' FG' F' N' B' X' T'; (try dsimp only); (try k_lift B'); (try k_fold)))
  k_steps
  rename Fr _ _ _ _ => lF'
  rename News _ _ _ _ => lN'
  refine' hret _ _ _ _ lF' (kst_newsOf lN' ?zs) ⟨_, _, _, _, _, _, _, _, _, _, _, _, _, _, rfl, rfl, ?_, ?_, ?_, ?_, ?_, ?_, ?_, ?_, ?_⟩
  case zs => kst_in
  · assumption
  · assumption
  · k_all
  · k_all
  · k_all
  · k_all
  · k_all
  · k_all
  · k_all
end
section
section
variable {prog : Program} {w : World} {A : Around} {E : Value → Shared → Prop} {s : Shared} {env : Env} {h₀ : Heap} {x : Str} {body : List Stmt} {Q : Flow → Shared → Prop}
theorem mforT {σ : Type} {l : Addr} {vs : Array Value} {nn : Nat} {m₀ : Str → Option Value} (Led : σ → Led) (ps : σ → List (Str × Value)) (stored : List Str) (P : Nat → σ → Prop) (c₀ : σ)
    (hh : A.handled = none) (hl : ∀ c, (l, tupO vs nn) ∈ Led c) (F : Fr h₀ env.locals s.heap m₀) (N : News h₀ env.locals s.heap (Led c₀)) (hk : ∀ p ∈ ps c₀, m₀ p.1 = some p.2) (hp : P 0 c₀)
    (turn : ∀ (I : Addr) (oI : Obj) (c : σ) i v (u : Str → Option Value) h tk, vs[i]? = some v → P i c → (∀ p ∈ Led c, p.1 ≠ I) →
      Fr h₀ env.locals h (fun y => if y = x then some v else kstB (fun z => if stored.contains z then u z else m₀ z) (ps c) y) → News h₀ env.locals h ((I, oI) :: Led c) →
      wpAny (model prog w) A (execs body env) (MPost h₀ env.locals I oI (MJ Led ps x stored m₀ P (i + 1)) { s with heap := h, toks := tk } Q) E { s with heap := h, toks := tk })
    (done : ∀ (c : σ) (u : Str → Option Value) h tk, P vs.size c → Fr h₀ env.locals h (fun y => if y = x then u y else kstB (fun z => if stored.contains z then u z else m₀ z) (ps c) y) → News h₀ env.locals h (Led c) → Q .next { s with heap := h, toks := tk }) :
    wpAny (model prog w) A (pyIter (.ref l)) (fun it s₂ => LoopAtV prog w A h₀ env x body Q E it s₂) E s := by
  have hol : s.heap.get? l = some (tupO vs nn) := (N _ (hl c₀)).1
  have hls : s.heap.IsTuple l vs := ⟨_, hol, rfl, nn, rfl⟩
  have hne : l ≠ s.heap.objs.size := Nat.ne_of_lt (Heap.lt_size hol)
  refine wpAny_pyIter_tuple hls ?_
  have W := Walks.tuple (prog := prog) (w := w) hh s.heap.objs.size l hne vs
  refine mloop (fun i m nx => MJ Led ps x stored m₀ P i m nx) W (fun i h st => ?_) ?_ ?_ (next_is_new F) ?_ ⟨⟨_, Heap.get?_push_size _ rfl, rfl, rfl⟩, hls.at fun o e => Heap.get?_push_of_some _ e⟩ (F.push _) (fun p hp => ⟨Heap.get?_push_of_some _ (N p hp).1, (N p hp).2⟩)
    ⟨c₀, rfl, hk, fun _ _ _ _ => rfl, hp⟩ ?_ ?_
  · obtain ⟨o, ho, _⟩ := st.1
    exact ⟨o, ho⟩
  · intro b hb
    rcases List.mem_cons.mp hb with e | hb
    · exact .inl e
    · refine .inr ⟨tupO vs nn, ?_⟩
      rintro i m nx ⟨c, rfl, _⟩
      rw [List.mem_singleton.mp hb]
      exact hl c
  · intro hm
    rcases List.mem_cons.mp hm with e | hm
    · exact absurd F.ns.lt (e ▸ Nat.lt_irrefl _)
    · exact (N _ (hl c₀)).2.1 ((List.mem_singleton.mp hm).symm)
  · intro p hp e
    exact absurd (Heap.lt_size (N p hp).1) (e ▸ Nat.lt_irrefl _)
  · rintro oI i v m₁ news₁ h tk hi hv ⟨c, rfl, h1, h2, hp'⟩ hne' F₁ N₁
    exact turn _ oI c i v m₁ h tk hv hp' hne' (kst_fr h1 h2 F₁) N₁
  · rintro m₁ news₁ h tk ⟨c, rfl, h1, h2, hp'⟩ F₁ N₁
    exact done c m₁ h tk hp' (kst_frOut h1 h2 F₁) N₁

end
theorem valueAt_stored {K : Type} [DecidableEq K] (kvs : List (K × Value)) (k : K) (v : Value) (k' : K) : valueAt (stored kvs k v) k' = if k' = k then some v else valueAt kvs k' := by
  unfold stored
  by_cases h : kvs.any (fun kv => decide (kv.1 = k)) = true
  · rw [if_pos h]
    unfold valueAt
    induction kvs with
    | nil => simp at h
    | cons a l ih =>
      rw [List.map_cons, List.find?_cons, List.find?_cons]
      by_cases e : a.1 = k
      · by_cases e' : k' = k
        · simp [e, e']
        · have e2 : ¬ k = k' := fun q => e' q.symm
          simp only [e, if_true, e2, decide_false]
          by_cases hl : l.any (fun kv => decide (kv.1 = k)) = true
          · rw [ih hl]
          · congr 2
            have : l.map (fun kv => if kv.1 = k then (kv.1, v) else kv) = l := by
              conv => rhs; rw [← List.map_id l]
              refine List.map_congr_left fun x hx => ?_
              have : x.1 ≠ k := fun q => hl (List.any_eq_true.mpr ⟨x, hx, by simpa using q⟩)
              simp [this]
            rw [this, if_neg e']
      · have hl : l.any (fun kv => decide (kv.1 = k)) = true := by simpa [e] using h
        simp only [e, if_false]
        by_cases e' : a.1 = k'
        · have e3 : ¬ k' = k := fun q => e (e'.trans q)
          simp [e', e3]
        · simp only [e', decide_false]
          exact ih hl
  · rw [if_neg h]
    unfold valueAt
    rw [List.find?_append]
    by_cases e' : k' = k
    · subst e'
      have : kvs.find? (fun kv => decide (kv.1 = k')) = none := by
        rw [List.find?_eq_none]
        intro x hx q
        exact h (List.any_eq_true.mpr ⟨x, hx, q⟩)
      simp [this]
    · have e2 : ¬ k = k' := fun q => e' q.symm
      simp [e2, e']
end
section
local macro_rules | `(tactic| kst_in) => `(tactic| ((try dsimp only); with_unfolding_all ((try simp only [List.nil_append, List.cons_append]); kst_allIn)))
def KP (names : List Str) (R : Value → Prop) (B i : Nat) (kvs0 kvs : List (Str × Value)) : Prop :=
  kvs.length ≤ B + i ∧ (∀ k, k ∉ names.take i → valueAt kvs k = valueAt kvs0 k) ∧ ∀ k ∈ names.take i, ∃ u, valueAt kvs k = some u ∧ R u
theorem kp0 {names : List Str} {R : Value → Prop} {B : Nat} {kvs : List (Str × Value)} (h : kvs.length ≤ B) : KP names R B 0 kvs kvs := ⟨h, fun _ _ => rfl, fun k hk => by simp at hk⟩
theorem kp_succ {names : List Str} {R : Value → Prop} {B i : Nat} {kvs0 kvs : List (Str × Value)} {y : Str} {v : Value} (h : KP names R B i kvs0 kvs) (hy : names[i]? = some y) (hv : R v) : KP names R B (i + 1) kvs0 (stored kvs y v) := by
  obtain ⟨h1, h2, h3⟩ := h
  have ht : names.take (i + 1) = names.take i ++ [y] := by rw [List.take_add_one, hy]; rfl
  refine ⟨Nat.le_trans (stored_le h1) (by omega), fun k hk => ?_, fun k hk => ?_⟩
  · rw [ht, List.mem_append, not_or] at hk
    rw [valueAt_stored, if_neg (by simpa using hk.2)]
    exact h2 k hk.1
  · rw [valueAt_stored]
    by_cases e : k = y
    · rw [if_pos e]; exact ⟨v, rfl, hv⟩
    · rw [if_neg e]
      rw [ht, List.mem_append] at hk
      exact h3 k (hk.resolve_right (by simpa using e))
abbrev kvD {w : World} {o : Obj} {kvs : List (Str × Value)} (_ : o.IsDictOf (strKind PG w) kvs) : List (Str × Value) := kvs
abbrev oD {w : World} {o : Obj} {kvs : List (Str × Value)} (_ : o.IsDictOf (strKind PG w) kvs) : Obj := o
theorem m_toList {a : Array Value} {i : Nat} {v : Value} (h : a[i]? = some v) : a.toList[i]? = some v := by simpa using h
structure DefS where
  fd : Nat
  o : Obj
  kvs : List (Str × Value)
inductive DefP (w : World) (names : List Str) (R : Value → Prop) (B : Nat) (kvs0 : List (Str × Value)) (l : Nat) (news : Led) (i : Nat) (c : DefS) : Prop
  | mk  (q1 : c.o.IsDictOf (strKind PG w) c.kvs) (q2 : KP names R B i kvs0 c.kvs) (q3 : AllLt c.fd news) (q4 : @Ne Nat c.fd l) (q5 : (c.fd == sysModules) = false) : DefP w names R B kvs0 l news i c
abbrev DefL (l : Nat) (o : Obj) (news : Led) (c : DefS) : Led := (l, o) :: (c.fd, c.o) :: news
def mforD {prog : Program} {w : World} {A : Around} {E : Value → Shared → Prop} {s : Shared} {env : Env} {h₀ : Heap} {x : Str} {body : List Stmt} {Q : Flow → Shared → Prop} {m₀ : Str → Option Value} (names : List Str) (R : Value → Prop) (B : Nat) (kvs0 : List (Str × Value)) {l : Addr} {vs : Array Value} {nn : Nat} (news : Led) (c₀ : DefS) :=
  mforT (prog := prog) (w := w) (A := A) (E := E) (s := s) (env := env) (h₀ := h₀) (x := x) (body := body) (Q := Q) (m₀ := m₀) (l := l) (vs := vs) (nn := nn) (σ := DefS) (DefL l (tupO vs nn) news) (fun c => [(Str.ofString "found", .ref c.fd)]) [] (DefP w names R B kvs0 l news) c₀
def N1 : List Str := [Str.ofString "gcb", Str.ofString "wb", Str.ofString "sb"]
def N2 : List Str := [Str.ofString "ex", Str.ofString "sd", Str.ofString "cased", Str.ofString "ci", Str.ofString "ep", Str.ofString "di", Str.ofString "ids", Str.ofString "idc", Str.ofString "xids", Str.ofString "xidc", Str.ofString "pat_syn", Str.ofString "pat_ws", Str.ofString "idst"]
def N3 : List Str := [Str.ofString "dm", Str.ofString "uc", Str.ofString "lc", Str.ofString "tc", Str.ofString "cf", Str.ofString "bm", Str.ofString "bpb", Str.ofString "scx", Str.ofString "nt", Str.ofString "nv", Str.ofString "name", Str.ofString "conf", Str.ofString "nfkc_cf"]
def N4 : List Str := [Str.ofString "suc", Str.ofString "slc", Str.ofString "stc", Str.ofString "alias"]
inductive DdP (w : World) (news news' : Led) (y : Value) : Prop
  | mk (r : Nat) (o : Obj) (kvs : List (Str × Value)) (t0 : Tok) (q1 : .ref r = y) (q2 : (r, o) :: news = news') (q3 : (r == sysModules) = false) (q4 : AllLt r news) (q5 : o.IsDictOf (strKind PG w) kvs) (q6 : valueAt kvs (Str.ofString "ex") = some (.bool false)) (q7 : valueAt kvs (Str.ofString "ccc") = some (.int 0 t0)) (q8 : valueAt kvs (Str.ofString "dm") = some .none) (q9 : valueAt kvs (Str.ofString "nfkc_cf") = some .none) : DdP w news news' y
theorem DdP.go {wz : World} {fz : Addr} {vz : List Value} {kz : Nat} {ledz : Led} {w : World} {news : Led} (Cz : CC wz fz vz kz ledz (DdP w news))
  {pz : Program} {lz : List Str} {mnz : ExcName → Option Value} {mgz mbz : Str → Option Value} {dpz unz : Nat} {gdz : Option (List Code)} {cnz : Str} {csz : Scope} {az : Addr} {cdz : Value} {clz : List (Str × Addr)} {otz : List Env} {A₀ : Around} {basez h₀ : Heap} {Lz : Addr} {mz : Str → Option Value} {sz : Shared} {Qz Ez : Value → Shared → Prop}
  (ret : ∀ (r : Nat) (o : Obj) (kvs : List (Str × Value)) (t0 : Tok) (hz : Heap) (tkz : Nat), Fr h₀ Lz hz mz → News h₀ Lz hz ((r, o) :: news) → ((r == sysModules) = false) → (AllLt r news) → (o.IsDictOf (strKind PG w) kvs) → (valueAt kvs (Str.ofString "ex") = some (.bool false)) → (valueAt kvs (Str.ofString "ccc") = some (.int 0 t0)) → (valueAt kvs (Str.ofString "dm") = some .none) → (valueAt kvs (Str.ofString "nfkc_cf") = some .none) → Qz (.ref r) { sz with heap := hz, toks := tkz })
  (F : Fr h₀ Lz sz.heap mz) (N : News h₀ Lz sz.heap ledz) (B : Below A₀ basez otz h₀) (X : (hd.heap_1_39 wz.params).In h₀) (T : Top pz lz mnz mgz mbz h₀) (hk : csz.kind = .function)
  (hd : dpz + kz < recursionLimit) (hu : unz + 8 * kz < cLine) :
    wpAny (model PySem.Challenge.rw_on0371_01.prog wz) (ktrTop dpz unz gdz cnz csz Lz az cdz clz otz) (call (.ref fz) vz) Qz Ez sz := by
  refine cc_go Cz (fun v news9 h9 tk9 F9 N9 P9 => ?_) F N B X T hk hd hu
  obtain ⟨r, o, kvs, t0, rfl, rfl, q3, q4, q5, q6, q7, q8, q9⟩ := P9
  exact ret r o kvs t0 h9 tk9 F9 N9 q3 q4 q5 q6 q7 q8 q9
set_option maxRecDepth 100000 in
set_option maxHeartbeats 8000000 in
theorem c_ddef {w : World} {news : Led} : CC w 298 [] 4 news (DdP w news) := by
  refine CC.mk ?_; k_fill; intro p loose mean mg mb dp un gd cn cs a ccd cl outer A₀ base h₀ L m s Q E B F X N T hk hdp hun hret
  have hMk : KstMark := kstMark
  k_with_none
  k_with "m_allIn" => first | exact List.forall_mem_nil _ | (refine sub_cons (by k_memK) ?_; k_extra "m_allIn") | (intro p9 h9; kst_mem)
  k_with "m_ra" => first | assumption | exact And.right (by first | assumption | exact And.right (by first | assumption | exact And.right (by first | assumption | exact And.right (by first | assumption | exact And.right (by first | assumption | exact And.right (by first | assumption | exact And.right (by first | assumption | exact And.right (by assumption))))))))
  k_with "m_and" => first | k_extra "m_ra" | exact And.left (by k_extra "m_ra")
  k_with "m_neA" => first | k_extra "m_and" | (refine Ne.symm ?_; k_extra "m_and") | (refine Nat.ne_of_lt ?_; k_extra "m_and") | (refine Nat.ne_of_gt ?_; k_extra "m_and") | (refine Nat.ne_of_lt (Nat.lt_succ_of_lt ?_); k_extra "m_and")
  k_with "m_lt" => first | assumption | exact allLt_of (by assumption) | k_extra "m_and"
  k_with "kst_in" => (try dsimp only); with_unfolding_all ((try simp only [List.nil_append, List.cons_append]); k_extra "m_allIn")
  k_with "k_ne" => refine neN ?_; (try dsimp only); first | (with_reducible assumption) | (with_reducible exact Ne.symm (by assumption)) | (with_reducible exact Nat.ne_of_lt (by assumption)) | (with_reducible exact Nat.ne_of_gt (by assumption)) | with_reducible k_extra "m_neA" | k_extra "m_neA" | omega
  k_with "k_all" => first | exact List.forall_mem_nil _ | assumption | exact lt_ne (by assumption) | exact lt_ne (by k_extra "m_lt") | exact lt_ne1 (by k_extra "m_lt") | (refine ne_cons ?_ ?_; (focus k_ne); k_all) | (refine List.forall_mem_cons.mpr (And.intro ?_ ?_); (focus k_ne); k_all)
  k_with "k_in" => (rename Fr _ _ _ _ => lF8); (rename Frag.In _ _ => lX8); exact Frag.In.keeps lX8 (Fr.keep lF8)
  k_with "ktr_room" => k_dflt (first | exact rmA (by assumption) (by exact rfl) | exact rmB (by assumption))
  k_with "ktr_units" => k_dflt (first | exact unA (by assumption) (by exact rfl) | exact unC (by assumption) (by exact rfl))
  k_with "MPost" => dsimp only [MPost]
  k_with "execs cons" => with_reducible refine gen_tok ?_; intro tk9
  k_with "m_for" => k_here; (rename Fr _ _ _ _ => lF'); k_dflt (refine' For_invVF ?zF ?zk1 ?zk2 ?_ ?zs ?ze; (case zF => exact lF'); (case zk1 => exact rfl); (case zk2 => exact rfl); (case zs => (intro _; rfl)); (case ze => passes_own); k_whole)
  k_with "exec For Name Name cons nil" => k_extra "m_for"
  k_with "exec For Name Subscript cons nil" => k_extra "m_for"
  k_with "exec For Name Call cons nil" => k_extra "m_for"
  k_with "exec For Name Attribute cons nil" => k_extra "m_for"
  k_with "exec For Name Tuple cons nil" => k_extra "m_for"
  k_with "compareOp NotEq ref ref" => k_here; (with_reducible show wpAny _ _ (compareOp CmpOp.NotEq (Value.ref _) (Value.ref _)) _ _ _); k_dflt (first | refine ke_ne_ints (by is_list) (by is_list) (by l_ints) (by l_ints) (by ktr_units) ?_ | ((refine ne_dataH (by ke_read) (by ke_read) (by ke_shaped) (by ke_shaped) (by ktr_units) ?_); ke_norm))
  k_with "compareOp Eq ref ref" => k_here; (with_reducible show wpAny _ _ (compareOp CmpOp.Eq (Value.ref _) (Value.ref _)) _ _ _); k_dflt (first | refine ke_eq_ints (by is_list) (by is_list) (by l_ints) (by l_ints) (by ktr_units) ?_ | ((refine eq_dataH (by ke_read) (by ke_read) (by ke_shaped) (by ke_shaped) (by ktr_units) ?_); ke_norm))
  w_top off
  k_with "m_dictS" => (k_dflt (refine' kdn_str ?q ?F ?N ?b ?a ?l ?e ?n ?_; (case q => rfl); (case F => k_asm); (case N => k_asm); (case b => exact Top.nolimit (by k_asm)); (case a => rfl); (case l => rfl); (case e => exact List.cons_ne_nil _ _); (case n => exact Nat.le_of_ble_eq_true rfl)); intro d' h' o' F' N' l1 lo' hd'; (try k_lt l1))
  k_with "KdnMade" => (k_here; k_dflt (first | (refine' m_madeS ?yF ?yN ?yU ?yd ?yk ?yn ?_; (case yF => k_asm); (case yN => k_asm); (case yU => k_updF); (case yd => k_asm); (case yk => rfl); (case yn => exact of_decide_eq_true (by first | rfl | kernel_rfl!)); intro h' o' tk' F' N' hd') | (refine' m_madeI ?yF ?yN ?yU ?yd ?yk ?yn ?_; (case yF => k_asm); (case yN => k_asm); (case yU => k_updF); (case yd => k_asm); (case yk => rfl); (case yn => exact of_decide_eq_true (by first | rfl | kernel_rfl!)); intro h' o' tk' F' N' hd')); (try dsimp only at N'); (try k_sweep))
  k_with "eval Dict cons cons" =>
    walk_at "m_dictS"
  k_with "pyIter ref" =>
    rename Fr _ _ _ _ => lF'
    rename News _ _ _ _ => lN'
    rename Obj.IsDictOf _ _ _ => hd7
    first
      | ((with_unfolding_all refine' mforD N1 (fun _ => True) 8 (kvD hd7) news ⟨_, oD hd7, kvD hd7⟩ rfl (fun c => .head _) lF' (kst_newsOf lN' ?sub) ?kk ?pp ?_ ?_); (case kk => kst_all); (case sub => dsimp only [DefL]; kst_in); (case pp => ((refine ⟨hd7, kp0 ?_, ?_, ?_, ?_⟩); (focus (first | assumption | k_dflt (exact Nat.le_of_ble_eq_true rfl))); (focus walk_at "m_lt"); (focus k_ne); assumption)); clear lF' lN'; (rintro I9 oI9 ⟨fd, o9, kvs9⟩ i9 v9 u9 h9 tk9 hv9 hP9 hne9 F9 N9); (obtain ⟨q1, q2, q3, q4, q5⟩ := hP9); (dsimp only [DefL] at q1 q2 q3 q4 q5 N9 F9 hne9); (have g9 := gnNe_of hne9); (dsimp only [GnNe] at g9); (refine' Exists.elim (StrsAre.item (ys := N1) ?zs i9 v9 (m_toList hv9)) ?_); (case zs => (k_dflt (exact (.cons _ _ (.cons _ _ (.cons _ _ .nil)))))); (rintro y9 ⟨t9, rfl, hy9⟩); (have hi9 : i9 < 3 := (List.getElem?_eq_some_iff.mp hy9).1); (have hz9 : kvs9.length ≤ 100 := Nat.le_trans q2.1 (by omega)); (try k_fold); rotate_left 1; (rintro ⟨fd, o9, kvs9⟩ u9 h9 tk9 hP9 F9 N9); (obtain ⟨q1, q2, q3, q4, q5⟩ := hP9); (dsimp only [DefL] at q1 q3 q4 q5 N9 F9); (have q6 : KP N1 (fun _ => True) 8 3 _ kvs9 := q2); clear q2; (have hz9 : kvs9.length ≤ 8 + 3 := q6.1); (simp only [Nat.reduceAdd] at hz9); (try k_fold); rotate_left 1)
      | ((with_unfolding_all refine' mforD N2 (fun u => u = .bool false) 11 (kvD hd7) news ⟨_, oD hd7, kvD hd7⟩ rfl (fun c => .head _) lF' (kst_newsOf lN' ?sub) ?kk ?pp ?_ ?_); (case kk => kst_all); (case sub => dsimp only [DefL]; kst_in); (case pp => ((refine ⟨hd7, kp0 ?_, ?_, ?_, ?_⟩); (focus (first | assumption | k_dflt (exact Nat.le_of_ble_eq_true rfl))); (focus walk_at "m_lt"); (focus k_ne); assumption)); clear lF' lN'; (rintro I9 oI9 ⟨fd, o9, kvs9⟩ i9 v9 u9 h9 tk9 hv9 hP9 hne9 F9 N9); (obtain ⟨q1, q2, q3, q4, q5⟩ := hP9); (dsimp only [DefL] at q1 q2 q3 q4 q5 N9 F9 hne9); (have g9 := gnNe_of hne9); (dsimp only [GnNe] at g9); (refine' Exists.elim (StrsAre.item (ys := N2) ?zs i9 v9 (m_toList hv9)) ?_); (case zs => (k_dflt (exact (.cons _ _ (.cons _ _ (.cons _ _ (.cons _ _ (.cons _ _ (.cons _ _ (.cons _ _ (.cons _ _ (.cons _ _ (.cons _ _ (.cons _ _ (.cons _ _ (.cons _ _ .nil)))))))))))))))); (rintro y9 ⟨t9, rfl, hy9⟩); (have hi9 : i9 < 13 := (List.getElem?_eq_some_iff.mp hy9).1); (have hz9 : kvs9.length ≤ 100 := Nat.le_trans q2.1 (by omega)); (try k_fold); rotate_left 1; (rintro ⟨fd, o9, kvs9⟩ u9 h9 tk9 hP9 F9 N9); (obtain ⟨q1, q2, q3, q4, q5⟩ := hP9); (dsimp only [DefL] at q1 q3 q4 q5 N9 F9); (have q6 : KP N2 (fun u => u = .bool false) 11 13 _ kvs9 := q2); clear q2; (have hz9 : kvs9.length ≤ 11 + 13 := q6.1); (simp only [Nat.reduceAdd] at hz9); (try k_fold); rotate_left 1)
      | ((with_unfolding_all refine' mforD N3 (fun u => u = .none) 24 (kvD hd7) news ⟨_, oD hd7, kvD hd7⟩ rfl (fun c => .head _) lF' (kst_newsOf lN' ?sub) ?kk ?pp ?_ ?_); (case kk => kst_all); (case sub => dsimp only [DefL]; kst_in); (case pp => ((refine ⟨hd7, kp0 ?_, ?_, ?_, ?_⟩); (focus (first | assumption | k_dflt (exact Nat.le_of_ble_eq_true rfl))); (focus walk_at "m_lt"); (focus k_ne); assumption)); clear lF' lN'; (rintro I9 oI9 ⟨fd, o9, kvs9⟩ i9 v9 u9 h9 tk9 hv9 hP9 hne9 F9 N9); (obtain ⟨q1, q2, q3, q4, q5⟩ := hP9); (dsimp only [DefL] at q1 q2 q3 q4 q5 N9 F9 hne9); (have g9 := gnNe_of hne9); (dsimp only [GnNe] at g9); (refine' Exists.elim (StrsAre.item (ys := N3) ?zs i9 v9 (m_toList hv9)) ?_); (case zs => (k_dflt (exact (.cons _ _ (.cons _ _ (.cons _ _ (.cons _ _ (.cons _ _ (.cons _ _ (.cons _ _ (.cons _ _ (.cons _ _ (.cons _ _ (.cons _ _ (.cons _ _ (.cons _ _ .nil)))))))))))))))); (rintro y9 ⟨t9, rfl, hy9⟩); (have hi9 : i9 < 13 := (List.getElem?_eq_some_iff.mp hy9).1); (have hz9 : kvs9.length ≤ 100 := Nat.le_trans q2.1 (by omega)); (try k_fold); rotate_left 1; (rintro ⟨fd, o9, kvs9⟩ u9 h9 tk9 hP9 F9 N9); (obtain ⟨q1, q2, q3, q4, q5⟩ := hP9); (dsimp only [DefL] at q1 q3 q4 q5 N9 F9); (have q6 : KP N3 (fun u => u = .none) 24 13 _ kvs9 := q2); clear q2; (have hz9 : kvs9.length ≤ 24 + 13 := q6.1); (simp only [Nat.reduceAdd] at hz9); (try k_fold); rotate_left 1)
      | ((with_unfolding_all refine' mforD N4 (fun _ => True) 37 (kvD hd7) news ⟨_, oD hd7, kvD hd7⟩ rfl (fun c => .head _) lF' (kst_newsOf lN' ?sub) ?kk ?pp ?_ ?_); (case kk => kst_all); (case sub => dsimp only [DefL]; kst_in); (case pp => ((refine ⟨hd7, kp0 ?_, ?_, ?_, ?_⟩); (focus (first | assumption | k_dflt (exact Nat.le_of_ble_eq_true rfl))); (focus walk_at "m_lt"); (focus k_ne); assumption)); clear lF' lN'; (rintro I9 oI9 ⟨fd, o9, kvs9⟩ i9 v9 u9 h9 tk9 hv9 hP9 hne9 F9 N9); (obtain ⟨q1, q2, q3, q4, q5⟩ := hP9); (dsimp only [DefL] at q1 q2 q3 q4 q5 N9 F9 hne9); (have g9 := gnNe_of hne9); (dsimp only [GnNe] at g9); (refine' Exists.elim (StrsAre.item (ys := N4) ?zs i9 v9 (m_toList hv9)) ?_); (case zs => (k_dflt (exact (.cons _ _ (.cons _ _ (.cons _ _ (.cons _ _ .nil))))))); (rintro y9 ⟨t9, rfl, hy9⟩); (have hi9 : i9 < 4 := (List.getElem?_eq_some_iff.mp hy9).1); (have hz9 : kvs9.length ≤ 100 := Nat.le_trans q2.1 (by omega)); (try k_fold); rotate_left 1; (rintro ⟨fd, o9, kvs9⟩ u9 h9 tk9 hP9 F9 N9); (obtain ⟨q1, q2, q3, q4, q5⟩ := hP9); (dsimp only [DefL] at q1 q3 q4 q5 N9 F9); (have q6 : KP N4 (fun _ => True) 37 4 _ kvs9 := q2); clear q2; (have hz9 : kvs9.length ≤ 37 + 4 := q6.1); (simp only [Nat.reduceAdd] at hz9); (try k_fold); rotate_left 1)
  k_with "setItem ref str str" =>
    k_dflt (refine' m_setItemU (knd := PySem.strKind PG w) ?yF ?yN ?yU ?yd ?yk ?yz ?_; (case yF => k_asm); (case yN => k_asm); (case yU => k_updF); (case yd => exact q1); (case yk => exact strKind_is _ _ _ _); (case yz => exact Nat.le_trans hz9 (by decide)))
    intro h' o' tk' F' N' hd'; (try dsimp only at N'); (try k_sweep)
  k_with "setItem ref str bool" =>
    k_dflt (refine' m_setItemU (knd := PySem.strKind PG w) ?yF ?yN ?yU ?yd ?yk ?yz ?_; (case yF => k_asm); (case yN => k_asm); (case yU => k_updF); (case yd => exact q1); (case yk => exact strKind_is _ _ _ _); (case yz => exact Nat.le_trans hz9 (by decide)))
    intro h' o' tk' F' N' hd'; (try dsimp only at N'); (try k_sweep)
  k_with "setItem ref str none" =>
    k_dflt (refine' m_setItemU (knd := PySem.strKind PG w) ?yF ?yN ?yU ?yd ?yk ?yz ?_; (case yF => k_asm); (case yN => k_asm); (case yU => k_updF); (case yd => exact q1); (case yk => exact strKind_is _ _ _ _); (case yz => exact Nat.le_trans hz9 (by decide)))
    intro h' o' tk' F' N' hd'; (try dsimp only at N'); (try k_sweep)
  k_with "setItem ref str ref" =>
    k_dflt (refine' m_setItemU (knd := PySem.strKind PG w) ?yF ?yN ?yU ?yd ?yk ?yz ?_; (case yF => k_asm); (case yN => k_asm); (case yU => k_updF); (case yd => exact q1); (case yk => exact strKind_is _ _ _ _); (case yz => exact Nat.le_trans hz9 (by decide)))
    intro h' o' tk' F' N' hd'; (try dsimp only at N'); (try k_sweep)
  k_with "MEnd" =>
    rename Fr _ _ _ _ => lF'
    rename News _ _ _ _ => lN'
    rename Obj.IsDictOf _ _ _ => hd7
    refine' mend (⟨fd, oD hd7, kvD hd7⟩ : DefS) lF' lN' ?hI ?hn ?hne ?hk ?hr ?hp
    (case hp => exact ⟨hd7, kp_succ q2 hy9 (by first | exact True.intro | rfl), q3, q4, q5⟩)
    (case hk => kst_all)
    (case hI => k_mem)
    (case hn => dsimp only [DefL]; kst_in)
    (case hne => exact ne_map hne9 rfl)
    (case hr => (intro z9 g1 g2 g3; (simp only [List.forall_mem_cons, List.not_mem_nil, false_implies, implies_true, and_true, ne_eq] at g2); (simp only [List.contains_cons, List.contains_nil, Bool.or_false, Bool.or_eq_false_iff, beq_eq_false_iff_ne, ne_eq] at g3); (simp [kstB, g1, g2, g3]; done)))
  refine wpAny_call ?_
  (k_dflt (refine' code_def ?k1 ?k2 ?k3 ?k4 ?k5 ?kA ?kF ?kK ?k6 ?k7 ?k8 ?k9 ?kB ?_ ?c2 ?c3 ?c4 ?c5; (case kA => exact rfl); (case kF => exact rfl); (case kK => assumption); (case k1 => k_asm); (case k2 => k_asm); (case k3 => k_asm); (case k4 => k_asm); (case k5 => k_asm); (case k6 => k_is); (case k7 => k_is); (case k8 => ktr_room); (case k9 => first | exact BindsTo.of_eq rfl | exact binds_K (by k_in) rfl (by k_is) rfl rfl rfl); (case c5 => decide); (case kB => exact locs rfl); (case c2 => exact rfl); (case c3 => exact rfl); (case c4 => exact rfl); k_whole; intro g' L' h' FG' F' N' B' X' T'; (try dsimp only); (try k_lift B'); (try k_fold)))
  k_steps
  rename Fr _ _ _ _ => lF'
  rename News _ _ _ _ => lN'
  rename Obj.IsDictOf _ _ _ => hd6
  rename KP N1 _ _ _ _ _ => z1
  rename KP N2 _ _ _ _ _ => z2
  rename KP N3 _ _ _ _ _ => z3
  rename KP N4 _ _ _ _ _ => z4
  have e1 := z4.2.1 (Str.ofString "ex") (by decide)
  have e2 := z3.2.1 (Str.ofString "ex") (by decide)
  have e3 := z4.2.1 (Str.ofString "ccc") (by decide)
  have e4 := z3.2.1 (Str.ofString "ccc") (by decide)
  have e5 := z2.2.1 (Str.ofString "ccc") (by decide)
  have e6 := z1.2.1 (Str.ofString "ccc") (by decide)
  have e7 := z4.2.1 (Str.ofString "dm") (by decide)
  have e8 := z4.2.1 (Str.ofString "nfkc_cf") (by decide)
  obtain ⟨x1, y1, w1⟩ := z2.2.2 (Str.ofString "ex") (by decide)
  obtain ⟨x2, y2, w2⟩ := z3.2.2 (Str.ofString "dm") (by decide)
  obtain ⟨x3, y3, w3⟩ := z3.2.2 (Str.ofString "nfkc_cf") (by decide)
  have w1' : x1 = .bool false := w1
  have w2' : x2 = .none := w2
  have w3' : x3 = .none := w3
  subst w1' w2' w3'
  obtain ⟨t0, f2'⟩ : ∃ t0, _ = some (Value.int 0 t0) := ⟨_, e3.trans (e4.trans (e5.trans (e6.trans rfl)))⟩
  refine' hret _ _ _ _ lF' (kst_newsOf lN' ?zs) ⟨_, _, _, t0, rfl, rfl, ?zl, ?za, hd6, ?f1, ?f2, ?f3, ?f4⟩
  (case zs => kst_in)
  (case zl => assumption)
  (case za => walk_at "m_lt")
  (case f1 => rw [valueAt_stored, if_neg (by decide)]; exact e1.trans (e2.trans y1))
  (case f2 => rw [valueAt_stored, if_neg (by decide)]; exact f2')
  (case f3 => rw [valueAt_stored, if_neg (by decide)]; exact e7.trans y2)
  (case f4 => rw [valueAt_stored, if_neg (by decide)]; exact e8.trans y3)
end
section
inductive DnP (w : World) (news news' : Led) (y : Value) : Prop
  | mk (d dx df mp pr wd : Nat) (od om o1 o2 : Obj) (dk : List (Str × Value)) (u1 u2 u3 u4 t0 : Tok) (q1 : .ref d = y) (q2 : (d, instObj 336 dx) :: (dx, daDict w u1 u2 u3 u4 4 df mp pr wd) :: (df, od) :: (mp, om) :: (pr, o1) :: (wd, o2) :: news = news') (q3 : (df == sysModules) = false) (q4 : (mp == sysModules) = false) (q5 : od.IsDictOf (strKind PG w) dk) (q6 : om.IsDictOf (strKind PG w) []) (q7 : valueAt dk (Str.ofString "ex") = some (.bool false)) (q8 : valueAt dk (Str.ofString "ccc") = some (.int 0 t0)) (q9 : valueAt dk (Str.ofString "dm") = some .none) (q10 : valueAt dk (Str.ofString "nfkc_cf") = some .none) (q11 : (∀ p ∈ (d, instObj 336 dx) :: (dx, daDict w u1 u2 u3 u4 4 df mp pr wd) :: (df, od) :: (pr, o1) :: (wd, o2) :: news, p.1 ≠ mp)) (q12 : (∀ p ∈ news, p.1 ≠ d)) (q13 : (∀ p ∈ news, p.1 ≠ dx)) (q14 : (∀ p ∈ news, p.1 ≠ df)) (q15 : (∀ p ∈ news, p.1 ≠ pr)) (q16 : (∀ p ∈ news, p.1 ≠ wd)) : DnP w news news' y
theorem DnP.go {wz : World} {fz : Addr} {vz : List Value} {kz : Nat} {ledz : Led} {w : World} {news : Led} (Cz : CC wz fz vz kz ledz (DnP w news))
  {pz : Program} {lz : List Str} {mnz : ExcName → Option Value} {mgz mbz : Str → Option Value} {dpz unz : Nat} {gdz : Option (List Code)} {cnz : Str} {csz : Scope} {az : Addr} {cdz : Value} {clz : List (Str × Addr)} {otz : List Env} {A₀ : Around} {basez h₀ : Heap} {Lz : Addr} {mz : Str → Option Value} {sz : Shared} {Qz Ez : Value → Shared → Prop}
  (ret : ∀ (d dx df mp pr wd : Nat) (od om o1 o2 : Obj) (dk : List (Str × Value)) (u1 u2 u3 u4 t0 : Tok) (hz : Heap) (tkz : Nat), Fr h₀ Lz hz mz → News h₀ Lz hz ((d, instObj 336 dx) :: (dx, daDict w u1 u2 u3 u4 4 df mp pr wd) :: (df, od) :: (mp, om) :: (pr, o1) :: (wd, o2) :: news) → ((df == sysModules) = false) → ((mp == sysModules) = false) → (od.IsDictOf (strKind PG w) dk) → (om.IsDictOf (strKind PG w) []) → (valueAt dk (Str.ofString "ex") = some (.bool false)) → (valueAt dk (Str.ofString "ccc") = some (.int 0 t0)) → (valueAt dk (Str.ofString "dm") = some .none) → (valueAt dk (Str.ofString "nfkc_cf") = some .none) → ((∀ p ∈ (d, instObj 336 dx) :: (dx, daDict w u1 u2 u3 u4 4 df mp pr wd) :: (df, od) :: (pr, o1) :: (wd, o2) :: news, p.1 ≠ mp)) → ((∀ p ∈ news, p.1 ≠ d)) → ((∀ p ∈ news, p.1 ≠ dx)) → ((∀ p ∈ news, p.1 ≠ df)) → ((∀ p ∈ news, p.1 ≠ pr)) → ((∀ p ∈ news, p.1 ≠ wd)) → Qz (.ref d) { sz with heap := hz, toks := tkz })
  (F : Fr h₀ Lz sz.heap mz) (N : News h₀ Lz sz.heap ledz) (B : Below A₀ basez otz h₀) (X : (hd.heap_1_39 wz.params).In h₀) (T : Top pz lz mnz mgz mbz h₀) (hk : csz.kind = .function)
  (hd : dpz + kz < recursionLimit) (hu : unz + 8 * kz < cLine) :
    wpAny (model PySem.Challenge.rw_on0371_01.prog wz) (ktrTop dpz unz gdz cnz csz Lz az cdz clz otz) (call (.ref fz) vz) Qz Ez sz := by
  refine cc_go Cz (fun v news9 h9 tk9 F9 N9 P9 => ?_) F N B X T hk hd hu
  obtain ⟨d, dx, df, mp, pr, wd, od, om, o1, o2, dk, u1, u2, u3, u4, t0, rfl, rfl, q3, q4, q5, q6, q7, q8, q9, q10, q11, q12, q13, q14, q15, q16⟩ := P9
  exact ret d dx df mp pr wd od om o1 o2 dk u1 u2 u3 u4 t0 h9 tk9 F9 N9 q3 q4 q5 q6 q7 q8 q9 q10 q11 q12 q13 q14 q15 q16
theorem lt_up2 {a b : Nat} {l : Led} (h : a < b) (H : ∀ p ∈ l, p.1 < a) : ∀ p ∈ l, p.1 ≠ b := fun p hp => Nat.ne_of_lt (Nat.lt_trans (H p hp) h)
theorem lt_up3 {a : Nat} {l : Led} (H : ∀ p ∈ l, p.1 < a) : ∀ p ∈ l, p.1 ≠ a := fun p hp => Nat.ne_of_lt (H p hp)
set_option maxRecDepth 100000 in
set_option maxHeartbeats 8000000 in
theorem c_dnew {w : World} {news : Led} : CC w 336 [] 20 news (DnP w news) := by
  refine CC.mk ?_; k_fill; intro p loose mean mg mb dp un gd cn cs a ccd cl outer A₀ base h₀ L m s Q E B F X N T hk hdp hun hret
  have hMk : KstMark := kstMark
  k_with_none
  k_with "m_allIn" => first | exact List.forall_mem_nil _ | (refine sub_cons (by k_memK) ?_; k_extra "m_allIn") | (intro p9 h9; kst_mem)
  k_with "m_ra" => first | assumption | exact And.right (by first | assumption | exact And.right (by first | assumption | exact And.right (by first | assumption | exact And.right (by first | assumption | exact And.right (by first | assumption | exact And.right (by first | assumption | exact And.right (by first | assumption | exact And.right (by assumption))))))))
  k_with "m_and" => first | k_extra "m_ra" | exact And.left (by k_extra "m_ra")
  k_with "m_neA" => first | k_extra "m_and" | (refine Ne.symm ?_; k_extra "m_and") | (refine Nat.ne_of_lt ?_; k_extra "m_and") | (refine Nat.ne_of_gt ?_; k_extra "m_and") | (refine Nat.ne_of_lt (Nat.lt_succ_of_lt ?_); k_extra "m_and")
  k_with "m_lt" => first | assumption | exact allLt_of (by assumption) | k_extra "m_and"
  k_with "kst_in" => (try dsimp only); with_unfolding_all ((try simp only [List.nil_append, List.cons_append]); k_extra "m_allIn")
  k_with "k_ne" => refine neN ?_; (try dsimp only); first | (with_reducible assumption) | (with_reducible exact Ne.symm (by assumption)) | (with_reducible exact Nat.ne_of_lt (by assumption)) | (with_reducible exact Nat.ne_of_gt (by assumption)) | with_reducible k_extra "m_neA" | k_extra "m_neA" | omega
  k_with "k_all" => first | exact List.forall_mem_nil _ | assumption | exact lt_ne (by assumption) | exact lt_ne (by k_extra "m_lt") | exact lt_ne1 (by k_extra "m_lt") | (refine ne_cons ?_ ?_; (focus k_ne); k_all) | (refine List.forall_mem_cons.mpr (And.intro ?_ ?_); (focus k_ne); k_all)
  k_with "k_in" => (rename Fr _ _ _ _ => lF8); (rename Frag.In _ _ => lX8); exact Frag.In.keeps lX8 (Fr.keep lF8)
  k_with "ktr_room" => k_dflt (first | exact rmA (by assumption) (by exact rfl) | exact rmB (by assumption))
  k_with "ktr_units" => k_dflt (first | exact unA (by assumption) (by exact rfl) | exact unC (by assumption) (by exact rfl))
  k_with "MPost" => dsimp only [MPost]
  k_with "execs cons" => with_reducible refine gen_tok ?_; intro tk9
  k_with "m_for" => k_here; (rename Fr _ _ _ _ => lF'); k_dflt (refine' For_invVF ?zF ?zk1 ?zk2 ?_ ?zs ?ze; (case zF => exact lF'); (case zk1 => exact rfl); (case zk2 => exact rfl); (case zs => (intro _; rfl)); (case ze => passes_own); k_whole)
  k_with "exec For Name Name cons nil" => k_extra "m_for"
  k_with "exec For Name Subscript cons nil" => k_extra "m_for"
  k_with "exec For Name Call cons nil" => k_extra "m_for"
  k_with "exec For Name Attribute cons nil" => k_extra "m_for"
  k_with "exec For Name Tuple cons nil" => k_extra "m_for"
  k_with "compareOp NotEq ref ref" => k_here; (with_reducible show wpAny _ _ (compareOp CmpOp.NotEq (Value.ref _) (Value.ref _)) _ _ _); k_dflt (first | refine ke_ne_ints (by is_list) (by is_list) (by l_ints) (by l_ints) (by ktr_units) ?_ | ((refine ne_dataH (by ke_read) (by ke_read) (by ke_shaped) (by ke_shaped) (by ktr_units) ?_); ke_norm))
  k_with "compareOp Eq ref ref" => k_here; (with_reducible show wpAny _ _ (compareOp CmpOp.Eq (Value.ref _) (Value.ref _)) _ _ _); k_dflt (first | refine ke_eq_ints (by is_list) (by is_list) (by l_ints) (by l_ints) (by ktr_units) ?_ | ((refine eq_dataH (by ke_read) (by ke_read) (by ke_shaped) (by ke_shaped) (by ktr_units) ?_); ke_norm))
  w_top off
  k_with "m_new" => k_dflt (refine' call_cls ?k1 ?k2 ?k3 ?k4 ?k5 ?k6 ?_; (case k1 => k_asm); (case k2 => k_asm); (case k3 => k_asm); (case k4 => k_is); (case k5 => k_is); (case k6 => k_is); k_whole; intro x' d' h' F' N' l1 l2; (try k_lt l1); (try k_lt2 l2); (try k_sweep); (k_dflt (refine' code_def ?k1 ?k2 ?k3 ?k4 ?k5 ?kA ?kF ?kK ?k6 ?k7 ?k8 ?k9 ?kB ?_ ?c2 ?c3 ?c4 ?c5; (case kA => exact rfl); (case kF => exact rfl); (case kK => assumption); (case k1 => k_asm); (case k2 => k_asm); (case k3 => k_asm); (case k4 => k_asm); (case k5 => k_asm); (case k6 => k_is); (case k7 => k_is); (case k8 => ktr_room); (case k9 => first | exact BindsTo.of_eq rfl | exact binds_K (by k_in) rfl (by k_is) rfl rfl rfl); (case c5 => decide); (case kB => exact locs rfl); (case c2 => exact rfl); (case c3 => exact rfl); (case c4 => exact rfl); k_whole; intro g' L' h' FG' F' N' B' X' T'; (try dsimp only); (try k_lift B'); (try k_fold))))
  k_with "call ref nil" =>
    k_dflt show wpAny _ _ (call (Value.ref 298) []) _ _ _
    refine DdP.go c_ddef ?_ (by k_asm) (by k_asm) (by k_asm) (by k_asm) (by k_asm) (by first | exact rfl | assumption) (by ktr_room) (by (simp only [units_deeper, PyProof.Rows.units_under_make]; omega))
    rintro df8 od8 dk8 t08 h9' tk9' F9' N9' q1 q2 q3 q4 q5 q6 q7
    (try dsimp only); (try k_sweep); (try k_fold)
  walk_at "m_new"
  k_steps
  rename Fr _ _ _ _ => lF'
  rename News _ _ _ _ => lN'
  rename Obj.IsDictOf (strKind _ _) _ [] => hx9
  refine' hret _ _ _ _ lF' (kst_newsOf lN' ?zs) ⟨_, _, _, _, _, _, _, _, _, _, _, _, _, _, _, t08, rfl, rfl, q1, ?zl, q3, ?zd, q4, q5, q6, q7, ?za, ?fa, ?fb, ?fc, ?fd, ?fe⟩
  (case zs => kst_in)
  (case zl => assumption)
  (case zd => assumption)
  (case za => k_all)
  all_goals first | k_all | exact lt_up2 (by assumption) (by assumption) | exact lt_up3 (by assumption)
end
section
/-- the dict of pairs: tuple keys -/
abbrev PX := List (List Int × Addr × Value)
inductive TO (w : World) (xs : PX) (o : Obj) : Prop
  | mk (es : _) (ep : _) (q1 : o.ExactDict) (q2 : o.data = .dict es ep) (q3 : es.toList = xs.map (entryOfKey (tupleKind (intKind PG w)))) (q4 : (xs.map (·.1)).Nodup) : TO w xs o
def KeysIn (w : World) (xs : PX) (news : Led) : Prop := ∀ x ∈ xs, ∃ ok, (x.2.1, ok) ∈ news ∧ TupKeyObj (intKind PG w) x.1 ok
theorem TO.dict {w : World} {xs : PX} {o : Obj} {h₀ h : Heap} {L d : Addr} {news : Led} (T : TO w xs o) (hk : KeysIn w xs news) (N : News h₀ L h news) (hm : (d, o) ∈ news) : h.DictOfH (tupleKind (intKind PG w)) d xs :=
  let ⟨es, ep, hc, hd, he, hn⟩ := T
  ⟨o, es, ep, N.get hm, hc, hd, he, fun x hx => let ⟨_, hmk, t⟩ := hk x hx; t.key (N.get hmk), hn⟩
theorem TO.empty {w : World} {K' : Type} [DecidableEq K'] {knd' : KeyKind PG w K'} {o : Obj} (hd : o.IsDictOf knd' []) : TO w [] o := by
  obtain ⟨es, ep, hc, hdat, _, hp, _⟩ := hd
  have he : es.toList = [] := List.length_eq_zero_iff.mp hp.length
  exact ⟨es, ep, hc, hdat, he, List.nodup_nil⟩
theorem tupKey2 {w : World} {x y : Int} {t1 t2 : Tok} {n : Nat} : TupKeyObj (intKind PG w) [x, y] (tupO (List.toArray [.int x t1, .int y t2]) n) :=
  ⟨rfl, _, _, rfl, .cons (intKind_is _ _ _ _) (.cons (intKind_is _ _ _ _) .nil)⟩
section
variable {w : World} {A : Around} {E : Value → Shared → Prop} {s : Shared} {h₀ : Heap} {L d a : Addr} {m : Str → Option Value} {news : Led} {o ok : Obj} {xs : PX} {ks : List Int}
theorem m_tnotin {Q : Value → Shared → Prop} (hu : A.units + 1 < cLine) (N : News h₀ L s.heap news) (T : TO w xs o) (hk : KeysIn w xs news) (hm : (d, o) ∈ news) (lo : (d == sysModules) = false) (hka : (a, ok) ∈ news) (tk : TupKeyObj (intKind PG w) ks ok)
    {b : Bool} (hb : (!(atKey xs ks).isSome) = b) (h : ∀ tk', Q (.bool b) { s with toks := tk' }) : wpAny (model PG w) A (compareOp .NotIn (.ref a) (.ref d)) Q E s :=
  wpAny_notIn_heap (knd := tupleKind (intKind PG w)) (tupleKind_room_in1 hu) (tk.key (N.get hka)) lo (T.dict hk N hm) (by rw [hb]; exact h _)
theorem m_tset {g : Obj → Led} {v : Value} {Q : Unit → Shared → Prop} (hu : A.units + 1 < cLine) (F : Fr h₀ L s.heap m) (N : News h₀ L s.heap news) (U : UpdF d o news g) (T : TO w xs o) (hk : KeysIn w xs news) (hka : (a, ok) ∈ news) (tk : TupKeyObj (intKind PG w) ks ok) (hz : xs.length ≤ 100)
    (h : ∀ h' o' tk', Fr h₀ L h' m → News h₀ L h' (g o') → TO w (storedH xs ks a v) o' → Q () { s with heap := h', toks := tk' }) :
    wpAny (model PG w) A (setItem (.ref d) (.ref a) v) Q E s := by
  obtain ⟨pre, post, rfl, hg, aa, bb⟩ := U.split
  have hm := N (d, o) (List.mem_append_right _ (.head _))
  refine wpAny_setItem_heap (hsz := by rw [sizeLine_eq]; omega) (knd := tupleKind (intKind PG w)) (tupleKind_room_in1 hu) (tk.key (N.get hka)) (T.dict hk N (List.mem_append_right _ (.head _))) fun h' hm' hs => ?_
  obtain ⟨o', es', ep', ho', hc', hd', he', _, hn'⟩ := hm'
  exact h h' o' _ (F.change hs hm.2.1 hm.2.2) (hg o' ▸ N.setIn aa bb hs ho') ⟨es', ep', hc', hd', he', hn'⟩
theorem m_tget2 {dflt r : Value} {Q : Value → Shared → Prop} (hu : A.units + 1 < cLine) (N : News h₀ L s.heap news) (T : TO w xs o) (hk : KeysIn w xs news) (hm : (d, o) ∈ news) (lo : (d == sysModules) = false) (hka : (a, ok) ∈ news) (tk : TupKeyObj (intKind PG w) ks ok)
    (hr : ((atKey xs ks).map (·.2)).getD dflt = r) (h : ∀ tk', Q r { s with toks := tk' }) : wpAny (model PG w) A (call (.builtin "dict.get") [.ref d, .ref a, dflt]) Q E s := by
  have hd := T.dict hk N hm
  refine call_meetsIn PySem.F.slot_dict_get hd.typeIs PySem.F.entry_dict_get (PySem.F.args_dict_get_3 _ _ _) (meetsH_dict_get_default (tupleKind (intKind PG w)) d a lo dflt) ⟨tupleKind_room_in1 hu, ks, xs, tk.key (N.get hka), hd, ?_⟩
  rw [hr]
  exact h _
theorem m_tgetm {pl : Sem Bool} {Q : Value × List Value → Shared → Prop} (N : News h₀ L s.heap news) (T : TO w xs o) (hk : KeysIn w xs news) (hm : (d, o) ∈ news) (h : Q (.builtin "dict.get", [.ref d]) s) :
    wpAny (model PG w) A (getMethod (.ref d) (Str.ofString "get") pl) Q E s :=
  have hd := T.dict hk N hm
  getMethod_builtin hd.typeIs PySem.F.plainAttrs_dict PySem.F.slot_dict_get PySem.F.type_dict_get (dictOfH_noDict hd) h
end
theorem keys0 {w : World} {news : Led} : KeysIn w [] news := fun _ h => nomatch h
theorem keysC {w : World} {news : Led} {xs : PX} {a n : Nat} {x y : Int} {t1 t2 : Tok} {v : Value} (hm : (a, tupO (List.toArray [.int x t1, .int y t2]) n) ∈ news) (h : KeysIn w xs news) : KeysIn w (([x, y], a, v) :: xs) news := fun z hz => by
  rcases List.mem_cons.mp hz with rfl | hz
  · exact ⟨_, hm, tupKey2⟩
  · exact h z hz
/-- the two pairs of letters stand as tuples -/
inductive Keys2 (ca cb : Nat) (news : Led) : Prop
  | mk (v1 : _) (v2 : _) (n1 : _) (v3 : _) (v4 : _) (n2 : _) (q1 : (ca, tupO (List.toArray [.int 69 v1, .int 769 v2]) n1) ∈ news) (q2 : (cb, tupO (List.toArray [.int 101 v3, .int 769 v4]) n2) ∈ news) : Keys2 ca cb news
theorem Keys2.keys {w : World} {ca cb : Nat} {news : Led} {x y : Value} (h : Keys2 ca cb news) : KeysIn w [([69, 769], ca, x), ([101, 769], cb, y)] news :=
  let ⟨_, _, _, _, _, _, h1, h2⟩ := h
  keysC h1 (keysC h2 keys0)
theorem Keys2.mono {ca cb : Nat} {news news' : Led} (h : Keys2 ca cb news) (hs : ∀ p ∈ news, p ∈ news') : Keys2 ca cb news' :=
  let ⟨v1, v2, n1, v3, v4, n2, h1, h2⟩ := h
  ⟨v1, v2, n1, v3, v4, n2, hs _ h1, hs _ h2⟩
theorem memDrop {ca n : Nat} {ts : Array Value} {a : Addr × Obj} {l : Led} (h : (ca, tupO ts n) ∈ a :: l) (hc : a.2.cls ≠ .type "tuple") : (ca, tupO ts n) ∈ l := by
  rcases List.mem_cons.mp h with e | h
  · exact absurd (by rw [← e]) hc
  · exact h
theorem Keys2.drop {ca cb : Nat} {a : Addr × Obj} {l : Led} (h : Keys2 ca cb (a :: l)) (hc : a.2.cls ≠ .type "tuple") : Keys2 ca cb l :=
  let ⟨v1, v2, n1, v3, v4, n2, h1, h2⟩ := h
  ⟨v1, v2, n1, v3, v4, n2, memDrop h1 hc, memDrop h2 hc⟩
end
section
inductive PcP (w : World) (news news' : Led) (y : Value) : Prop
  | mk (r ca cb : Nat) (o : Obj) (t1 t2 : Tok) (q1 : .ref r = y) (q2 : (r, o) :: news = news') (q3 : (r == sysModules) = false) (q4 : AllLt r news) (q5 : TO w [([69, 769], ca, .int 201 t1), ([101, 769], cb, .int 233 t2)] o) (q6 : Keys2 ca cb news) : PcP w news news' y
theorem PcP.go {wz : World} {fz : Addr} {vz : List Value} {kz : Nat} {ledz : Led} {w : World} {news : Led} (Cz : CC wz fz vz kz ledz (PcP w news))
  {pz : Program} {lz : List Str} {mnz : ExcName → Option Value} {mgz mbz : Str → Option Value} {dpz unz : Nat} {gdz : Option (List Code)} {cnz : Str} {csz : Scope} {az : Addr} {cdz : Value} {clz : List (Str × Addr)} {otz : List Env} {A₀ : Around} {basez h₀ : Heap} {Lz : Addr} {mz : Str → Option Value} {sz : Shared} {Qz Ez : Value → Shared → Prop}
  (ret : ∀ (r ca cb : Nat) (o : Obj) (t1 t2 : Tok) (hz : Heap) (tkz : Nat), Fr h₀ Lz hz mz → News h₀ Lz hz ((r, o) :: news) → ((r == sysModules) = false) → (AllLt r news) → (TO w [([69, 769], ca, .int 201 t1), ([101, 769], cb, .int 233 t2)] o) → (Keys2 ca cb news) → Qz (.ref r) { sz with heap := hz, toks := tkz })
  (F : Fr h₀ Lz sz.heap mz) (N : News h₀ Lz sz.heap ledz) (B : Below A₀ basez otz h₀) (X : (hd.heap_1_39 wz.params).In h₀) (T : Top pz lz mnz mgz mbz h₀) (hk : csz.kind = .function)
  (hd : dpz + kz < recursionLimit) (hu : unz + 8 * kz < cLine) :
    wpAny (model PySem.Challenge.rw_on0371_01.prog wz) (ktrTop dpz unz gdz cnz csz Lz az cdz clz otz) (call (.ref fz) vz) Qz Ez sz := by
  refine cc_go Cz (fun v news9 h9 tk9 F9 N9 P9 => ?_) F N B X T hk hd hu
  obtain ⟨r, ca, cb, o, t1, t2, rfl, rfl, q3, q4, q5, q6⟩ := P9
  exact ret r ca cb o t1 t2 h9 tk9 F9 N9 q3 q4 q5 q6
set_option maxRecDepth 100000 in
set_option maxHeartbeats 8000000 in
theorem c_prim {w : World} {news : Led} {d : Nat} (hD : DataOK w news d) : CC w 130 [.ref d] 24 news (PcP w news) := by
  refine CC.mk ?_; k_fill; intro p loose mean mg mb dp un gd cn cs a9 ccd cl outer A₀ base h₀ L m s Q E B F X N T hk hdp hun hret
  have hMk : KstMark := kstMark
  k_with_none
  k_with "m_allIn" => first | exact List.forall_mem_nil _ | (refine sub_cons (by k_memK) ?_; k_extra "m_allIn") | (intro p9 h9; kst_mem)
  k_with "m_ra" => first | assumption | exact And.right (by first | assumption | exact And.right (by first | assumption | exact And.right (by first | assumption | exact And.right (by first | assumption | exact And.right (by first | assumption | exact And.right (by first | assumption | exact And.right (by first | assumption | exact And.right (by assumption))))))))
  k_with "m_and" => first | k_extra "m_ra" | exact And.left (by k_extra "m_ra")
  k_with "m_neA" => first | k_extra "m_and" | (refine Ne.symm ?_; k_extra "m_and") | (refine Nat.ne_of_lt ?_; k_extra "m_and") | (refine Nat.ne_of_gt ?_; k_extra "m_and") | (refine Nat.ne_of_lt (Nat.lt_succ_of_lt ?_); k_extra "m_and")
  k_with "m_lt" => first | assumption | exact allLt_of (by assumption) | k_extra "m_and"
  k_with "kst_in" => (try dsimp only); with_unfolding_all ((try simp only [List.nil_append, List.cons_append]); k_extra "m_allIn")
  k_with "k_ne" => refine neN ?_; (try dsimp only); first | (with_reducible assumption) | (with_reducible exact Ne.symm (by assumption)) | (with_reducible exact Nat.ne_of_lt (by assumption)) | (with_reducible exact Nat.ne_of_gt (by assumption)) | with_reducible k_extra "m_neA" | k_extra "m_neA" | omega
  k_with "k_all" => first | exact List.forall_mem_nil _ | assumption | exact lt_ne (by assumption) | exact lt_ne (by k_extra "m_lt") | exact lt_ne1 (by k_extra "m_lt") | (refine ne_cons ?_ ?_; (focus k_ne); k_all) | (refine List.forall_mem_cons.mpr (And.intro ?_ ?_); (focus k_ne); k_all)
  k_with "k_in" => (rename Fr _ _ _ _ => lF8); (rename Frag.In _ _ => lX8); exact Frag.In.keeps lX8 (Fr.keep lF8)
  k_with "ktr_room" => k_dflt (first | exact rmA (by assumption) (by exact rfl) | exact rmB (by assumption))
  k_with "ktr_units" => k_dflt (first | exact unA (by assumption) (by exact rfl) | exact unC (by assumption) (by exact rfl))
  k_with "MPost" => dsimp only [MPost]
  k_with "execs cons" => with_reducible refine gen_tok ?_; intro tk9
  k_with "m_for" => k_here; (rename Fr _ _ _ _ => lF'); k_dflt (refine' For_invVF ?zF ?zk1 ?zk2 ?_ ?zs ?ze; (case zF => exact lF'); (case zk1 => exact rfl); (case zk2 => exact rfl); (case zs => (intro _; rfl)); (case ze => passes_own); k_whole)
  k_with "exec For Name Name cons nil" => k_extra "m_for"
  k_with "exec For Name Subscript cons nil" => k_extra "m_for"
  k_with "exec For Name Call cons nil" => k_extra "m_for"
  k_with "exec For Name Attribute cons nil" => k_extra "m_for"
  k_with "exec For Name Tuple cons nil" => k_extra "m_for"
  k_with "compareOp NotEq ref ref" => k_here; (with_reducible show wpAny _ _ (compareOp CmpOp.NotEq (Value.ref _) (Value.ref _)) _ _ _); k_dflt (first | refine ke_ne_ints (by is_list) (by is_list) (by l_ints) (by l_ints) (by ktr_units) ?_ | ((refine ne_dataH (by ke_read) (by ke_read) (by ke_shaped) (by ke_shaped) (by ktr_units) ?_); ke_norm))
  k_with "compareOp Eq ref ref" => k_here; (with_reducible show wpAny _ _ (compareOp CmpOp.Eq (Value.ref _) (Value.ref _)) _ _ _); k_dflt (first | refine ke_eq_ints (by is_list) (by is_list) (by l_ints) (by l_ints) (by ktr_units) ?_ | ((refine eq_dataH (by ke_read) (by ke_read) (by ke_shaped) (by ke_shaped) (by ktr_units) ?_); ke_norm))
  w_top off
  obtain ⟨dx, df, mp, pr, wd, u1, u2, u3, u4, n4, om, mk, rd, vd, g1, g2, g3, g4, g5, g6, ⟨rx, t1, t2, t3, n5, st, va, k1, k2, sv, h1, h2, h3, hi3, h4⟩, a, b, rfl, ha, hb⟩ := g_maps hD
  obtain ⟨s1, s2, s3, s4, s5, rfl⟩ := ints5 hi3
  obtain ⟨p1, p2, p3, p4, p5, p6, p7, p8⟩ := id ha
  obtain ⟨q1, q2, q3, q4, q5, q6, q7, q8⟩ := id hb
  k_with "call ref cons nil" =>
    with_reducible show wpAny _ _ (call (Value.ref 333) [_, _]) _ _ _
    rename News _ _ _ _ => lN'
    refine' cc_goE (c_mapof (news := _ :: news) (.tail _ g1) (.tail _ g2) (.tail _ g3) g4 g5 g6) ?_ (by k_asm) (by k_asm) (by k_asm) (by k_asm) (by k_asm) (by first | exact rfl | assumption) (by ktr_room) (by ktr_units)
    intro h9' tk9' F9' N9'
    (try dsimp only); (try k_sweep); (try k_fold)
  k_with "call ref cons nil" =>
    with_reducible show wpAny _ _ (call (Value.ref 270) [_]) _ _ _
    refine' RngP.go (c_ranges (.tail _ h1) (.tail _ h2) (.tail _ h3) (.tail _ h4) (ha.mono ?zm1) (hb.mono ?zm2)) ?_ (by k_asm) (by k_asm) (by k_asm) (by k_asm) (by k_asm) (by first | exact rfl | assumption) (by ktr_room) (by ktr_units)
    (case zm1 => kst_in)
    (case zm2 => kst_in)
    rintro R8 n8 e2 e4 w2 w4 v2 v4 h9' tk9' F9' N9' f1 f2 f3
    have g8 := gnNe_of f1
    have g7 := gnNe_of f2
    have g6' := gnNe_of f3
    dsimp only [GnNe] at g8 g7 g6'
    (try dsimp only); (try k_sweep); (try k_fold)
  k_with "call ref nil" =>
    k_dflt show wpAny _ _ (call (Value.ref 333) [_, _]) _ _ _
    rename News _ _ _ _ => lN'
    refine' cc_goE (c_mapof (news := _ :: news) (.tail _ g1) (.tail _ g2) (.tail _ g3) g4 g5 g6) ?_ (by k_asm) (by k_asm) (by k_asm) (by k_asm) (by k_asm) (by first | exact rfl | assumption) (by ktr_room) (by ktr_units)
    intro h9' tk9' F9' N9'
    (try dsimp only); (try k_sweep); (try k_fold)
  k_with "call ref nil" =>
    k_dflt show wpAny _ _ (call (Value.ref 270) [_]) _ _ _
    refine' RngP.go (c_ranges (.tail _ h1) (.tail _ h2) (.tail _ h3) (.tail _ h4) (ha.mono ?zm1) (hb.mono ?zm2)) ?_ (by k_asm) (by k_asm) (by k_asm) (by k_asm) (by k_asm) (by first | exact rfl | assumption) (by ktr_room) (by ktr_units)
    (case zm1 => kst_in)
    (case zm2 => kst_in)
    rintro R8 n8 e2 e4 w2 w4 v2 v4 h9' tk9' F9' N9' f1 f2 f3
    have g8 := gnNe_of f1
    have g7 := gnNe_of f2
    have g6' := gnNe_of f3
    dsimp only [GnNe] at g8 g7 g6'
    (try dsimp only); (try k_sweep); (try k_fold)
  k_with "exec For Tuple Call cons nil" =>
    (rename Fr _ _ _ _ => lF')
    k_dflt (refine' For_turns ?zF ?_ ?zs ?ze; (case zF => exact lF'); (case zs => (intro _; rfl)); (case ze => passes_own); k_whole)
  k_with "call ref cons nil" =>
    k_dflt show wpAny _ _ (call (Value.ref 137) [_, _, _]) _ _ _
    first
      | (refine' cc_goE (c_fip (c := 201) (x := 69) (hD.mono ?zm1) (by decide) rfl (by decide) rfl ?zm2) ?_ (by k_asm) (by k_asm) (by k_asm) (by k_asm) (by k_asm) (by first | exact rfl | assumption) (by ktr_room) (by ktr_units); (case zm2 => k_mem); (case zm1 => kst_in))
      | (refine' cc_goE (c_fip (c := 233) (x := 101) (hD.mono ?zm1) (by decide) rfl (by decide) rfl ?zm2) ?_ (by k_asm) (by k_asm) (by k_asm) (by k_asm) (by k_asm) (by first | exact rfl | assumption) (by ktr_room) (by ktr_units); (case zm2 => k_mem); (case zm1 => kst_in))
    intro h9' tk9' F9' N9'
    (try dsimp only); (try k_sweep); (try k_fold)
  k_with "pyIter ref" =>
    rename Fr _ _ _ _ => lF'
    rename News _ _ _ _ => lN'
    with_unfolding_all refine iter_listTurns (lo := listOf (List.toArray [.ref e2, .ref e4]) n8) (vs := [.ref e2, .ref e4]) (by rfl) lF' lN' (by k_mem) (by rfl) (by rfl) ?_
    clear lF'
    intro i' l1
    (try k_lt l1)
  k_with "compareOp NotIn ref ref" =>
    rename News _ _ _ _ => lN'
    first
      | (rename TO _ _ _ => hT7; refine' m_tnotin (a := q2) (ks := [101, 769]) (by ktr_units) lN' hT7 ?zk ?zm ?zl ?za tupKey2 (b := true) (by k_dflt rfl) ?_; (case zk => ((refine' keysC ?zk1 keys0); (case zk1 => k_mem))); (case zm => k_mem); (case zl => assumption); (case za => k_mem))
      | (refine' m_tnotin (xs := []) (a := p2) (ks := [69, 769]) (by ktr_units) lN' (TO.empty (K' := Int) (knd' := intKind PG w) ?zh) keys0 ?zm ?zl ?za tupKey2 (b := true) (by k_dflt rfl) ?_; (case zh => assumption); (case zm => k_mem); (case zl => assumption); (case za => k_mem))
    intro tk'
  k_with "setItem ref ref int" =>
    rename Fr _ _ _ _ => lF'
    rename News _ _ _ _ => lN'
    first
      | (rename TO _ _ _ => hT7; refine' m_tset (a := q2) (ks := [101, 769]) (by ktr_units) lF' lN' ?zU hT7 ?zk ?za tupKey2 (by k_dflt exact Nat.le_of_ble_eq_true rfl) ?_; (case zU => k_updF); (case zk => ((refine' keysC ?zk1 keys0); (case zk1 => k_mem))); (case za => k_mem); intro h' o' tk' F' N' hT'; (rw [storedH_new (by k_dflt rfl)] at hT'); (k_dflt have hT8 : TO w [([69, 769], p2, _), ([101, 769], q2, _)] _ := hT'); clear hT7 hT')
      | (refine' m_tset (xs := []) (a := p2) (ks := [69, 769]) (by ktr_units) lF' lN' ?zU (TO.empty (K' := Int) (knd' := intKind PG w) ?zh) keys0 ?za tupKey2 (by decide) ?_; (case zh => assumption); (case zU => k_updF); (case za => k_mem); intro h' o' tk' F' N' hT'; (have hT8 : TO w [([69, 769], p2, _)] _ := hT'); clear hT')
    (try dsimp only at N'); (try k_sweep)
  k_with "UnrEndW cons" =>
    refine' unrEnd0 (by assumption) (by first | assumption | exact news_swap (by assumption) | exact news_tail (by assumption)) ?zh1 ?_
    (case zh1 => k_all)
    refine ⟨?zh2, ?_⟩
    (case zh2 => k_subL)
  k_with "UnrEnd" =>
    refine ⟨_, _, _, _, rfl, by assumption, (by first | assumption | exact news_swap (by assumption)), ?zh1, ?_⟩
    (case zh1 => k_all)
  refine wpAny_call ?_
  (k_dflt (refine' code_def ?k1 ?k2 ?k3 ?k4 ?k5 ?kA ?kF ?kK ?k6 ?k7 ?k8 ?k9 ?kB ?_ ?c2 ?c3 ?c4 ?c5; (case kA => exact rfl); (case kF => exact rfl); (case kK => assumption); (case k1 => k_asm); (case k2 => k_asm); (case k3 => k_asm); (case k4 => k_asm); (case k5 => k_asm); (case k6 => k_is); (case k7 => k_is); (case k8 => ktr_room); (case k9 => first | exact BindsTo.of_eq rfl | exact binds_K (by k_in) rfl (by k_is) rfl rfl rfl); (case c5 => decide); (case kB => exact locs rfl); (case c2 => exact rfl); (case c3 => exact rfl); (case c4 => exact rfl); k_whole; intro g' L' h' FG' F' N' B' X' T'; (try dsimp only); (try k_lift B'); (try k_fold)))
  k_steps
  rename Fr _ _ _ _ => lF'
  rename News _ _ _ _ => lN'
  rename TO _ _ _ => hT9
  refine' hret _ _ _ _ lF' (kst_newsOf lN' ?zs) ⟨_, p2, q2, _, _, _, rfl, rfl, ?zl, ?za, hT9, ?zk⟩
  (case zs => kst_in)
  (case zl => assumption)
  (case za => walk_at "m_lt")
  (case zk => exact ⟨_, _, _, _, _, _, p8, q8⟩)
end
section
/-! a loop over a dict, by its entries as they stand (no kind of key asked) -/
def RawD (h : Heap) (d : Addr) (es : List DictEntry) (ep : Nat) : Prop := ∃ o, h.get? d = some o ∧ o.cls = .type "dict" ∧ o.data = .dict es.toArray ep
section
variable {prog : Program} {w : World} {A : Around} {E : Value → Shared → Prop} {s : Shared}
theorem RawD.keep {h h' : Heap} {d : Addr} {es : List DictEntry} {ep : Nat} (x : RawD h d es ep) (hk : ∀ o, h.get? d = some o → h'.get? d = some o) : RawD h' d es ep :=
  let ⟨o, ho, r⟩ := x; ⟨o, hk o ho, r⟩
theorem m_pyIterD {d : Addr} {es : List DictEntry} {ep : Nat} {Q : Value → Shared → Prop} (hd : (d == sysModules) = false) (hm : RawD s.heap d es ep)
    (hQ : Q (.ref s.heap.objs.size) { s with heap := s.heap.push { cls := .type "dict_keyiterator", data := .fields #[.ref d, .int 0 0, .int es.length 0, .int ep 0] } }) :
    wpAny (model prog w) A (pyIter (.ref d)) Q E s := by
  obtain ⟨o, ho, hc, hdat⟩ := id hm
  have hT : s.TypeIs (.ref d) "dict" := ⟨o, ho, hc⟩
  refine wpAny_pyIter_slot hT F.slot_dict_iter (wpAny_call_entry F.slot_dict_iter hT F.entry_dict_iter ?_ (F.args_dict_iter_1 _))
  unfold Builtin.«dict.__iter__» Builtin.Dict.dictSlotNone
  refine wpAny_bind (wpAny_bind (wpAny_notOrdered_dict hT ?_))
  show wpAny _ _ (pure (Value.ref d)) _ _ s
  refine wpAny_pure ?_
  show wpAny _ _ (Builtin.Dict.showsAll d >>= _) _ _ s
  unfold Builtin.Dict.showsAll
  rw [if_neg (by rw [hd]; exact Bool.false_ne_true)]
  refine wpAny_bind (wpAny_pure (wpAny_bind (wpAny_dictEntries ho hdat (wpAny_bind (wpAny_dictEpoch ho hdat ?_)))))
  refine wpAny_bind (wpAny_newObj_type (wpAny_pure ⟨_, rfl, "dict_keyiterator", _, ⟨_, Heap.get?_push_size _ rfl, rfl⟩, F.slot_dict_keyiterator_next.lookup, ?_⟩))
  simpa [rawInt] using hQ
theorem m_nextD {it d : Addr} {i ep : Nat} {es : List DictEntry} {e : DictEntry} {Q : Option Value → Shared → Prop} (hit : s.heap.IsKeyIter it d i es.length ep) (hm : RawD s.heap d es ep) (hx : es[i]? = some e)
    (hQ : ∀ h', h'.IsKeyIter it d (i + 1) es.length ep → Heap.SameBut it s.heap h' → Q (some e.key) { s with heap := h' }) : wpAny (model prog w) A (pyNext (.ref it)) Q E s := by
  obtain ⟨o, ho, hc, hd⟩ := id hit
  obtain ⟨od, hod, hcd, hdd⟩ := id hm
  unfold pyNext
  refine wpAny_bind (wpAny_attempt (wpAny_callSpecial?_slot (name := Str.ofString "__next__") hit.typeIs F.slot_dict_keyiterator_next
    (wpAny_call_entry F.slot_dict_keyiterator_next hit.typeIs F.entry_dict_keyiterator_next ?_ (F.args_dict_keyiterator_next_1 _))))
  refine wpAny_bind (wpAny_pure (wpAny_bind (wpAny_bind ?_)))
  first | refine wpAny_bind (wpAny_typeNameOfWhole_keyiter hit.typeIs (wpAny_pure ?_)) | refine wpAny_bind (wpAny_typeNameOf_keyiter hit.typeIs (wpAny_pure ?_))
  refine wpAny_bind (wpAny_fieldsOf ho hd ?_)
  simp only [show Builtin.Dict_items.ownsTuple "dict_keyiterator" = false by decide, Bool.false_eq_true, if_false]
  show wpAny _ _ (if (Value.ref d == Value.none) = true then _ else _) _ _ s
  rw [if_neg (show ¬ ((Value.ref d == Value.none) = true) from Bool.false_ne_true)]
  refine wpAny_bind (wpAny_pure (wpAny_bind (wpAny_dictEntries hod hdd ?_)))
  rw [if_neg (by simp)]
  refine wpAny_bind (wpAny_pure (wpAny_bind (wpAny_dictEpoch hod hdd ?_)))
  rw [if_neg (by simp)]
  refine wpAny_pure ?_
  have hlt : i < es.toArray.size := by simpa using (List.getElem?_eq_some_iff.mp hx).1
  have he : es.toArray[i] = e := by simpa using (List.getElem?_eq_some_iff.mp hx).2
  simp only [show ¬ ((i : Int) < 0) from by omega, if_false, Int.toNat_natCast, Array.getElem?_eq_getElem hlt]
  refine wpAny_bind ?_
  first | refine wpAny_bind (wpAny_typeNameOfWhole_keyiter hit.typeIs (wpAny_pure ?_)) | refine wpAny_bind (wpAny_typeNameOf_keyiter hit.typeIs (wpAny_pure ?_))
  refine wpAny_bind (wpAny_isOneOf_keyiter hit.typeIs ?_)
  show wpAny _ _ (setField (.ref it) 1 (rawInt ((i : Int) + 1)) >>= _) _ _ s
  refine wpAny_bind (wpAny_setField ho hd (by simp) ?_)
  have hit' : (s.heap.update it (Obj.mapFields (·.setIfInBounds 1 (rawInt ((i : Int) + 1))))).IsKeyIter it d (i + 1) es.length ep :=
    ⟨_, Heap.get?_update_self _ ho (Obj.isFreed_of_fields (Obj.data_mapFields hd _)), (Obj.cls_mapFields ..).trans hc, by rw [Obj.data_mapFields hd]; simp [rawInt]⟩
  refine wpAny_bind (wpAny_holding (wpAny_bind (wpAny_isOneOf_keyiter (s := { s with heap := s.heap.update it (Obj.mapFields (·.setIfInBounds 1 (rawInt ((i : Int) + 1)))) }) hit'.typeIs ?_)))
  show wpAny _ _ (pure es.toArray[i].key) _ _ _
  rw [he]
  exact wpAny_pure (wpAny_pure ⟨_, rfl, wpAny_pure (hQ _ hit' (Heap.SameBut.update ..))⟩)
theorem m_endD {it d : Addr} {ep : Nat} {es : List DictEntry} {Q : Option Value → Shared → Prop} (hh : A.handled = none) (hit : s.heap.IsKeyIter it d es.length es.length ep) (hm : RawD s.heap d es ep)
    (hQ : ∀ h', Heap.ExtBut it s.heap h' → Q none { s with heap := h' }) : wpAny (model prog w) A (pyNext (.ref it)) Q E s := by
  obtain ⟨o, ho, hc, hd⟩ := id hit
  obtain ⟨od, hod, hcd, hdd⟩ := id hm
  unfold pyNext
  refine wpAny_bind (wpAny_attempt (wpAny_callSpecial?_slot (name := Str.ofString "__next__") hit.typeIs F.slot_dict_keyiterator_next
    (wpAny_call_entry F.slot_dict_keyiterator_next hit.typeIs F.entry_dict_keyiterator_next ?_ (F.args_dict_keyiterator_next_1 _))))
  refine wpAny_bind (wpAny_pure (wpAny_bind (wpAny_bind ?_)))
  first | refine wpAny_bind (wpAny_typeNameOfWhole_keyiter hit.typeIs (wpAny_pure ?_)) | refine wpAny_bind (wpAny_typeNameOf_keyiter hit.typeIs (wpAny_pure ?_))
  refine wpAny_bind (wpAny_fieldsOf ho hd ?_)
  simp only [show Builtin.Dict_items.ownsTuple "dict_keyiterator" = false by decide, Bool.false_eq_true, if_false]
  show wpAny _ _ (if (Value.ref d == Value.none) = true then _ else _) _ _ s
  rw [if_neg (show ¬ ((Value.ref d == Value.none) = true) from Bool.false_ne_true)]
  refine wpAny_bind (wpAny_pure (wpAny_bind (wpAny_dictEntries hod hdd ?_)))
  rw [if_neg (by simp)]
  refine wpAny_bind (wpAny_pure (wpAny_bind (wpAny_dictEpoch hod hdd ?_)))
  rw [if_neg (by simp)]
  refine wpAny_pure ?_
  have hge : es.toArray.size ≤ es.length := by simp
  simp only [show ¬ ((es.length : Int) < 0) from by omega, if_false, Int.toNat_natCast, Array.getElem?_eq_none hge]
  refine wpAny_bind ?_
  first | refine wpAny_bind (wpAny_typeNameOfWhole_keyiter hit.typeIs (wpAny_pure ?_)) | refine wpAny_bind (wpAny_typeNameOf_keyiter hit.typeIs (wpAny_pure ?_))
  show wpAny _ _ (setField (.ref it) 0 .none >>= _) _ _ s
  refine wpAny_bind (wpAny_setField ho hd (by simp) ?_)
  show wpAny _ _ (newExc (.type "StopIteration") [] >>= _) _ _ _
  refine wpAny_bind ?_
  simp only [newExc, newTuple]
  refine wpAny_bind (wpAny_newObj_type ?_ (by size_fits))
  refine wpAny_bind (m := firstArgMember _ _) (wpAny_of_eq (a := Value.none) (by first | rfl | (simp only [firstArgMember]; rfl)) ?_)
  refine wpAny_newObj_type ?_ (by size_fits)
  simp only [raiseNew]
  refine wpAny_bind (wpAny_handled ?_)
  rw [show A.in1.handled = none from hh]
  refine wpAny_bind (wpAny_pure (wpAny_throw ?_))
  refine wpAny_bind (wpAny_isInstance (T := "StopIteration") (b := true) ⟨_, Heap.get?_push_size _ rfl, rfl⟩ isSubtype_stop ?_)
  exact wpAny_pure (hQ _ (((Heap.SameBut.update ..).extBut.push _).push _))
theorem m_walkD (hh : A.handled = none) (I d : Addr) (hne : d ≠ I) (es : List DictEntry) (ep : Nat) :
    Walks prog w A I [I, d] [I] es.length (fun i v => ∃ e, es[i]? = some e ∧ v = e.key) (fun i h => h.IsKeyIter I d i es.length ep ∧ RawD h d es ep) where
  sub := fun b hb => by simp at hb; simp [hb]
  frame := fun _ _ _ st hk => ⟨st.1.at fun o e => hk I (by simp) o e, st.2.keep fun o e => hk d (by simp) o e⟩
  item := fun i s Q E hi st hQ => by
    obtain ⟨e, hx⟩ : ∃ p, es[i]? = some p := ⟨es[i], by simp [hi]⟩
    refine m_nextD st.1 st.2 hx fun h' hit' hs' => ?_
    exact hQ e.key h' s.toks ⟨e, hx, rfl⟩ ⟨hit', st.2.keep fun o e => hs'.extBut d o hne e⟩ fun b o hb e => hs'.extBut b o (fun h => hb (by simp [h])) e
  done := fun s Q E st hQ => m_endD hh st.1 st.2 fun h' he' => hQ h' s.toks fun b o hb e => he' b o (fun h => hb (by simp [h])) e
  self := fun _ _ _ _ st hQ => wpAny_pyIter_keyiter st.1 hQ
end
section
variable {prog : Program} {w : World} {A : Around} {E : Value → Shared → Prop} {s : Shared} {env : Env} {h₀ : Heap} {target : Expr} {body : List Stmt} {Q : Flow → Shared → Prop}
theorem m_iterD {ax : Addr} {lo : Obj} {es : List DictEntry} {ep : Nat} {m₀ : Str → Option Value} {news : Led}
    (hh : A.handled = none) (F : Fr h₀ env.locals s.heap m₀) (N : News h₀ env.locals s.heap news) (hm : (ax, lo) ∈ news) (hc : lo.cls = .type "dict") (hd : lo.data = .dict es.toArray ep) (lw : (ax == sysModules) = false)
    (rest₀ : ∀ I : Addr, (∀ p ∈ news, p.1 < I) → ItemsRest prog w A E h₀ env target body Q s [(I, "dict_keyiterator")] [(ax, lo)] (es.map fun e => .val e.key) m₀ news) :
    wpAny (model prog w) A (pyIter (.ref ax)) (fun it s₂ => TurnsAt prog w A h₀ env target body Q E it s₂) E s := by
  have hax := N _ hm
  have hl : RawD s.heap ax es ep := ⟨lo, hax.1, hc, hd⟩
  have hlt : ax < s.heap.objs.size := Heap.lt_size hax.1
  have hne : ax ≠ s.heap.objs.size := Nat.ne_of_lt hlt
  refine m_pyIterD lw hl ?_
  refine ktu_core (tk0 := s.toks) (keep := [(ax, lo)]) (KTurns.ofWalks (m_walkD hh s.heap.objs.size ax hne es ep) fun i v s Q E st q => letGo_keyiter st.1 q) (by simp) (fun i v h hp => ?_) (fun i h st => ?_) (fun b hb => ?_) (fun b hb => by simpa using hb) (fun b hb => ?_) ?_ (fun p hp hI => ?_) ?_ (F.push _) (fun p hp => ⟨Heap.get?_push_of_some _ (N p hp).1, (N p hp).2⟩) (And.intro hm trivial) (rest₀ _ fun p hp => Heap.lt_size (N p hp).1)
  · obtain ⟨e, he, rfl⟩ := hp
    exact ⟨.val e.key, by simp [he], rfl⟩
  · obtain ⟨it, hit, hic, _⟩ := st.1
    exact ⟨[(s.heap.objs.size, it)], ⟨⟨rfl, hic⟩, trivial⟩, fun p hp => by rw [List.mem_singleton.mp hp]; exact hit⟩
  · have hb' : b = s.heap.objs.size := by simpa using hb
    rw [hb']
    exact ⟨List.mem_cons_self .., next_is_new F⟩
  · have hb' : b = s.heap.objs.size ∨ b = ax := by simpa using hb
    rcases hb' with e | e
    · exact .inl (by simp [e])
    · exact .inr ⟨lo, by simp [e]⟩
  · intro hI
    rcases List.mem_cons.mp hI with e | hI
    · exact absurd F.ns.lt (e ▸ Nat.lt_irrefl _)
    · exact hax.2.1 (List.mem_singleton.mp hI).symm
  · exact absurd (Heap.lt_size (N p hp).1) ((List.mem_singleton.mp hI) ▸ Nat.lt_irrefl _)
  · exact ⟨⟨_, Heap.get?_push_size _ rfl, rfl, rfl⟩, hl.keep fun o e => Heap.get?_push_of_some _ e⟩
end
end
section
abbrev coDict (w : World) (t1 t2 : Tok) (n : Nat) (p s : Addr) : Obj := dictOf [ent w (Str.ofString "pairs") t1 (.ref p), ent w (Str.ofString "seconds") t2 (.ref s)] n
theorem dictNe {es : List DictEntry} {n : Nat} : (dictOf es n).cls ≠ .type "tuple" := by
  show Value.type "dict" ≠ Value.type "tuple"
  decide
theorem TO.es {w : World} {xs : PX} {o : Obj} (T : TO w xs o) : ∃ ep, o.cls = .type "dict" ∧ o.data = .dict (xs.map (entryOfKey (tupleKind (intKind PG w)))).toArray ep := by
  obtain ⟨es, ep, hc, hd, he, hn⟩ := T
  refine ⟨ep, hc.1, ?_⟩
  rw [hd, ← he]
inductive CoP (w : World) (news news' : Led) (y : Value) : Prop
  | mk (c cx p s n ca cb : Nat) (o : Obj) (t1 t2 u1 u2 : Tok) (q1 : .ref c = y) (q2 : (c, instObj 168 cx) :: (cx, coDict w u1 u2 n p s) :: (p, o) :: news = news') (q3 : (p == sysModules) = false) (q4 : TO w [([69, 769], ca, .int 201 t1), ([101, 769], cb, .int 233 t2)] o) (q5 : Keys2 ca cb news) : CoP w news news' y
theorem CoP.go {wz : World} {fz : Addr} {vz : List Value} {kz : Nat} {ledz : Led} {w : World} {news : Led} (Cz : CC wz fz vz kz ledz (CoP w news))
  {pz : Program} {lz : List Str} {mnz : ExcName → Option Value} {mgz mbz : Str → Option Value} {dpz unz : Nat} {gdz : Option (List Code)} {cnz : Str} {csz : Scope} {az : Addr} {cdz : Value} {clz : List (Str × Addr)} {otz : List Env} {A₀ : Around} {basez h₀ : Heap} {Lz : Addr} {mz : Str → Option Value} {sz : Shared} {Qz Ez : Value → Shared → Prop}
  (ret : ∀ (c cx p s n ca cb : Nat) (o : Obj) (t1 t2 u1 u2 : Tok) (hz : Heap) (tkz : Nat), Fr h₀ Lz hz mz → News h₀ Lz hz ((c, instObj 168 cx) :: (cx, coDict w u1 u2 n p s) :: (p, o) :: news) → ((p == sysModules) = false) → (TO w [([69, 769], ca, .int 201 t1), ([101, 769], cb, .int 233 t2)] o) → (Keys2 ca cb news) → Qz (.ref c) { sz with heap := hz, toks := tkz })
  (F : Fr h₀ Lz sz.heap mz) (N : News h₀ Lz sz.heap ledz) (B : Below A₀ basez otz h₀) (X : (hd.heap_1_39 wz.params).In h₀) (T : Top pz lz mnz mgz mbz h₀) (hk : csz.kind = .function)
  (hd : dpz + kz < recursionLimit) (hu : unz + 8 * kz < cLine) :
    wpAny (model PySem.Challenge.rw_on0371_01.prog wz) (ktrTop dpz unz gdz cnz csz Lz az cdz clz otz) (call (.ref fz) vz) Qz Ez sz := by
  refine cc_go Cz (fun v news9 h9 tk9 F9 N9 P9 => ?_) F N B X T hk hd hu
  obtain ⟨c, cx, p, s, n, ca, cb, o, t1, t2, u1, u2, rfl, rfl, q3, q4, q5⟩ := P9
  exact ret c cx p s n ca cb o t1 t2 u1 u2 h9 tk9 F9 N9 q3 q4 q5
set_option maxRecDepth 100000 in
set_option maxHeartbeats 8000000 in
theorem c_cnew {w : World} {news : Led} {d : Nat} (hD : DataOK w news d) : CC w 168 [.ref d] 40 news (CoP w news) := by
  refine CC.mk ?_; k_fill; intro p loose mean mg mb dp un gd cn cs a9 ccd cl outer A₀ base h₀ L m s Q E B F X N T hk hdp hun hret
  have hMk : KstMark := kstMark
  k_with_none
  k_with "m_allIn" => first | exact List.forall_mem_nil _ | (refine sub_cons (by k_memK) ?_; k_extra "m_allIn") | (intro p9 h9; kst_mem)
  k_with "m_ra" => first | assumption | exact And.right (by first | assumption | exact And.right (by first | assumption | exact And.right (by first | assumption | exact And.right (by first | assumption | exact And.right (by first | assumption | exact And.right (by first | assumption | exact And.right (by first | assumption | exact And.right (by assumption))))))))
  k_with "m_and" => first | k_extra "m_ra" | exact And.left (by k_extra "m_ra")
  k_with "m_neA" => first | k_extra "m_and" | (refine Ne.symm ?_; k_extra "m_and") | (refine Nat.ne_of_lt ?_; k_extra "m_and") | (refine Nat.ne_of_gt ?_; k_extra "m_and") | (refine Nat.ne_of_lt (Nat.lt_succ_of_lt ?_); k_extra "m_and")
  k_with "m_lt" => first | assumption | exact allLt_of (by assumption) | k_extra "m_and"
  k_with "kst_in" => (try dsimp only); with_unfolding_all ((try simp only [List.nil_append, List.cons_append]); k_extra "m_allIn")
  k_with "k_ne" => refine neN ?_; (try dsimp only); first | (with_reducible assumption) | (with_reducible exact Ne.symm (by assumption)) | (with_reducible exact Nat.ne_of_lt (by assumption)) | (with_reducible exact Nat.ne_of_gt (by assumption)) | with_reducible k_extra "m_neA" | k_extra "m_neA" | omega
  k_with "k_all" => first | exact List.forall_mem_nil _ | assumption | exact lt_ne (by assumption) | exact lt_ne (by k_extra "m_lt") | exact lt_ne1 (by k_extra "m_lt") | (refine ne_cons ?_ ?_; (focus k_ne); k_all) | (refine List.forall_mem_cons.mpr (And.intro ?_ ?_); (focus k_ne); k_all)
  k_with "k_in" => (rename Fr _ _ _ _ => lF8); (rename Frag.In _ _ => lX8); exact Frag.In.keeps lX8 (Fr.keep lF8)
  k_with "ktr_room" => k_dflt (first | exact rmA (by assumption) (by exact rfl) | exact rmB (by assumption))
  k_with "ktr_units" => k_dflt (first | exact unA (by assumption) (by exact rfl) | exact unC (by assumption) (by exact rfl))
  k_with "MPost" => dsimp only [MPost]
  k_with "execs cons" => with_reducible refine gen_tok ?_; intro tk9
  k_with "m_for" => k_here; (rename Fr _ _ _ _ => lF'); k_dflt (refine' For_invVF ?zF ?zk1 ?zk2 ?_ ?zs ?ze; (case zF => exact lF'); (case zk1 => exact rfl); (case zk2 => exact rfl); (case zs => (intro _; rfl)); (case ze => passes_own); k_whole)
  k_with "exec For Name Name cons nil" => k_extra "m_for"
  k_with "exec For Name Subscript cons nil" => k_extra "m_for"
  k_with "exec For Name Call cons nil" => k_extra "m_for"
  k_with "exec For Name Attribute cons nil" => k_extra "m_for"
  k_with "exec For Name Tuple cons nil" => k_extra "m_for"
  k_with "compareOp NotEq ref ref" => k_here; (with_reducible show wpAny _ _ (compareOp CmpOp.NotEq (Value.ref _) (Value.ref _)) _ _ _); k_dflt (first | refine ke_ne_ints (by is_list) (by is_list) (by l_ints) (by l_ints) (by ktr_units) ?_ | ((refine ne_dataH (by ke_read) (by ke_read) (by ke_shaped) (by ke_shaped) (by ktr_units) ?_); ke_norm))
  k_with "compareOp Eq ref ref" => k_here; (with_reducible show wpAny _ _ (compareOp CmpOp.Eq (Value.ref _) (Value.ref _)) _ _ _); k_dflt (first | refine ke_eq_ints (by is_list) (by is_list) (by l_ints) (by l_ints) (by ktr_units) ?_ | ((refine eq_dataH (by ke_read) (by ke_read) (by ke_shaped) (by ke_shaped) (by ktr_units) ?_); ke_norm))
  w_top off
  k_with "m_new" => k_dflt (refine' call_cls ?k1 ?k2 ?k3 ?k4 ?k5 ?k6 ?_; (case k1 => k_asm); (case k2 => k_asm); (case k3 => k_asm); (case k4 => k_is); (case k5 => k_is); (case k6 => k_is); k_whole; intro x' d' h' F' N' l1 l2; (try k_lt l1); (try k_lt2 l2); (try k_sweep); (k_dflt (refine' code_def ?k1 ?k2 ?k3 ?k4 ?k5 ?kA ?kF ?kK ?k6 ?k7 ?k8 ?k9 ?kB ?_ ?c2 ?c3 ?c4 ?c5; (case kA => exact rfl); (case kF => exact rfl); (case kK => assumption); (case k1 => k_asm); (case k2 => k_asm); (case k3 => k_asm); (case k4 => k_asm); (case k5 => k_asm); (case k6 => k_is); (case k7 => k_is); (case k8 => ktr_room); (case k9 => first | exact BindsTo.of_eq rfl | exact binds_K (by k_in) rfl (by k_is) rfl rfl rfl); (case c5 => decide); (case kB => exact locs rfl); (case c2 => exact rfl); (case c3 => exact rfl); (case c4 => exact rfl); k_whole; intro g' L' h' FG' F' N' B' X' T'; (try dsimp only); (try k_lift B'); (try k_fold))))
  k_with "call ref cons nil" =>
    with_reducible show wpAny _ _ (call (Value.ref 130) [_]) _ _ _
    refine PcP.go (c_prim (hD.mono ?zm1)) ?_ (by k_asm) (by k_asm) (by k_asm) (by k_asm) (by k_asm) (by first | exact rfl | assumption) (by ktr_room) (by (simp only [units_deeper, PyProof.Rows.units_under_make]; omega))
    (case zm1 => kst_in)
    rintro r8 ca cb o8 t1 t2 h9' tk9' F9' N9' q1 q2 q3 q4
    have q5 : Keys2 ca cb news := (q4.drop (fun h => by cases h)).drop dictNe
    obtain ⟨v1, v2, n1, v3, v4, n2, m1, m2⟩ := id q5
    clear q4
    obtain ⟨ep8, e1, e2⟩ := TO.es q3
    (try dsimp only); (try k_sweep); (try k_fold)
  k_with "exec For Tuple Attribute cons nil" =>
    (rename Fr _ _ _ _ => lF')
    k_dflt (refine' For_turns ?zF ?_ ?zs ?ze; (case zF => exact lF'); (case zs => (intro _; rfl)); (case ze => passes_own); k_whole)
  k_with "pyIter ref" =>
    rename Fr _ _ _ _ => lF'
    rename News _ _ _ _ => lN'
    with_unfolding_all refine m_iterD (lo := o8) (by rfl) lF' lN' (by k_mem) e1 e2 q1 ?_
    clear lF'
    intro i' l1
    (try k_lt l1)
    with_unfolding_all show ItemsRest _ _ _ _ _ _ _ _ _ _ _ _ [.val (.ref ca), .val (.ref cb)] _ _
  k_with "UnrEndW cons" =>
    refine' unrEnd0 (by assumption) (by first | assumption | exact news_swap (by assumption) | exact news_tail (by assumption)) ?zh1 ?_
    (case zh1 => k_all)
    refine ⟨?zh2, ?_⟩
    (case zh2 => k_subL)
  k_with "setItem ref int bool" =>
    rename Fr _ _ _ _ => lF'
    rename News _ _ _ _ => lN'
    rename Obj.IsDictOf (intKind _ _) _ _ => hd7
    k_dflt (refine' m_setItemU (knd := intKind PG w) lF' lN' ?yU hd7 (intKind_is _ _ _ _) ?yz ?_; (case yU => k_updF); (case yz => exact Nat.le_of_ble_eq_true rfl))
    intro h' o' tk' F' N' hd'; (try dsimp only at N'); (try k_sweep)
  walk_at "m_new"
  k_steps
  rename Fr _ _ _ _ => lF'
  rename News _ _ _ _ => lN'
  refine' hret _ _ _ _ lF' (kst_newsOf lN' ?zs) ⟨_, _, r8, _, _, ca, cb, o8, t1, t2, _, _, rfl, rfl, q1, q3, q5⟩
  kst_in
end
section
def pr2 (a b : Int) : Option Int := if a = 69 ∧ b = 769 then some 201 else if a = 101 ∧ b = 769 then some 233 else none
theorem pairR (a b : Int) (ca cb : Nat) (t1 t2 : Tok) : (pr2 a b = none ∧ ((atKey [([69, 769], ca, Value.int 201 t1), ([101, 769], cb, Value.int 233 t2)] [a, b]).map (·.2)).getD .none = .none) ∨
    ∃ v t, pr2 a b = some v ∧ ((atKey [([69, 769], ca, Value.int 201 t1), ([101, 769], cb, Value.int 233 t2)] [a, b]).map (·.2)).getD .none = .int v t := by
  by_cases h1 : a = 69 ∧ b = 769
  · obtain ⟨rfl, rfl⟩ := h1
    exact .inr ⟨201, t1, rfl, rfl⟩
  · by_cases h2 : a = 101 ∧ b = 769
    · obtain ⟨rfl, rfl⟩ := h2
      exact .inr ⟨233, t2, rfl, rfl⟩
    · refine .inl ⟨by unfold pr2; rw [if_neg h1, if_neg h2], ?_⟩
      have e1 : ¬ ([69, 769] : List Int) = [a, b] := fun e => h1 (by simpa [eq_comm] using e)
      have e2 : ¬ ([101, 769] : List Int) = [a, b] := fun e => h2 (by simpa [eq_comm] using e)
      simp [atKey, e1, e2]
def PairP (a b : Int) (news news' : Led) (y : Value) : Prop := news = news' ∧ ((pr2 a b = none ∧ y = .none) ∨ ∃ v t, pr2 a b = some v ∧ y = .int v t)
set_option maxRecDepth 100000 in
set_option maxHeartbeats 8000000 in
theorem c_pair {w : World} {news : Led} {c cx p s n ca cb : Nat} {o : Obj} {t1 t2 u1 u2 ta tb : Tok} {a b : Int} (g1 : (c, instObj 168 cx) ∈ news) (g2 : (cx, coDict w u1 u2 n p s) ∈ news) (g3 : (p, o) ∈ news) (lo : (p == sysModules) = false)
  (T9 : TO w [([69, 769], ca, .int 201 t1), ([101, 769], cb, .int 233 t2)] o) (hK2 : Keys2 ca cb news) (ha : a ∈ AL) :
  CC w 158 [.ref c, .int a ta, .int b tb] 10 news (PairP a b news) := by
  refine CC.mk ?_; k_fill; intro p9 loose mean mg mb dp un gd cn cs a9 ccd cl outer A₀ base h₀ L m s9 Q E B F X N T hk hdp hun hret
  have hMk : KstMark := kstMark
  k_with_none
  k_with "m_allIn" => first | exact List.forall_mem_nil _ | (refine sub_cons (by k_memK) ?_; k_extra "m_allIn") | (intro p9 h9; kst_mem)
  k_with "m_ra" => first | assumption | exact And.right (by first | assumption | exact And.right (by first | assumption | exact And.right (by first | assumption | exact And.right (by first | assumption | exact And.right (by first | assumption | exact And.right (by first | assumption | exact And.right (by first | assumption | exact And.right (by assumption))))))))
  k_with "m_and" => first | k_extra "m_ra" | exact And.left (by k_extra "m_ra")
  k_with "m_neA" => first | k_extra "m_and" | (refine Ne.symm ?_; k_extra "m_and") | (refine Nat.ne_of_lt ?_; k_extra "m_and") | (refine Nat.ne_of_gt ?_; k_extra "m_and") | (refine Nat.ne_of_lt (Nat.lt_succ_of_lt ?_); k_extra "m_and")
  k_with "m_lt" => first | assumption | exact allLt_of (by assumption) | k_extra "m_and"
  k_with "kst_in" => (try dsimp only); with_unfolding_all ((try simp only [List.nil_append, List.cons_append]); k_extra "m_allIn")
  k_with "k_ne" => refine neN ?_; (try dsimp only); first | (with_reducible assumption) | (with_reducible exact Ne.symm (by assumption)) | (with_reducible exact Nat.ne_of_lt (by assumption)) | (with_reducible exact Nat.ne_of_gt (by assumption)) | with_reducible k_extra "m_neA" | k_extra "m_neA" | omega
  k_with "k_all" => first | exact List.forall_mem_nil _ | assumption | exact lt_ne (by assumption) | exact lt_ne (by k_extra "m_lt") | exact lt_ne1 (by k_extra "m_lt") | (refine ne_cons ?_ ?_; (focus k_ne); k_all) | (refine List.forall_mem_cons.mpr (And.intro ?_ ?_); (focus k_ne); k_all)
  k_with "k_in" => (rename Fr _ _ _ _ => lF8); (rename Frag.In _ _ => lX8); exact Frag.In.keeps lX8 (Fr.keep lF8)
  k_with "ktr_room" => k_dflt (first | exact rmA (by assumption) (by exact rfl) | exact rmB (by assumption))
  k_with "ktr_units" => k_dflt (first | exact unA (by assumption) (by exact rfl) | exact unC (by assumption) (by exact rfl))
  k_with "MPost" => dsimp only [MPost]
  k_with "execs cons" => with_reducible refine gen_tok ?_; intro tk9
  k_with "m_for" => k_here; (rename Fr _ _ _ _ => lF'); k_dflt (refine' For_invVF ?zF ?zk1 ?zk2 ?_ ?zs ?ze; (case zF => exact lF'); (case zk1 => exact rfl); (case zk2 => exact rfl); (case zs => (intro _; rfl)); (case ze => passes_own); k_whole)
  k_with "exec For Name Name cons nil" => k_extra "m_for"
  k_with "exec For Name Subscript cons nil" => k_extra "m_for"
  k_with "exec For Name Call cons nil" => k_extra "m_for"
  k_with "exec For Name Attribute cons nil" => k_extra "m_for"
  k_with "exec For Name Tuple cons nil" => k_extra "m_for"
  k_with "compareOp NotEq ref ref" => k_here; (with_reducible show wpAny _ _ (compareOp CmpOp.NotEq (Value.ref _) (Value.ref _)) _ _ _); k_dflt (first | refine ke_ne_ints (by is_list) (by is_list) (by l_ints) (by l_ints) (by ktr_units) ?_ | ((refine ne_dataH (by ke_read) (by ke_read) (by ke_shaped) (by ke_shaped) (by ktr_units) ?_); ke_norm))
  k_with "compareOp Eq ref ref" => k_here; (with_reducible show wpAny _ _ (compareOp CmpOp.Eq (Value.ref _) (Value.ref _)) _ _ _); k_dflt (first | refine ke_eq_ints (by is_list) (by is_list) (by l_ints) (by l_ints) (by ktr_units) ?_ | ((refine eq_dataH (by ke_read) (by ke_read) (by ke_shaped) (by ke_shaped) (by ktr_units) ?_); ke_norm))
  w_top off
  have hK : KeysIn w [([69, 769], ca, .int 201 t1), ([101, 769], cb, .int 233 t2)] news := hK2.keys
  k_with "call ref cons nil" =>
    with_reducible show wpAny _ _ (call (Value.ref 89) [Value.int _ _, Value.int _ _]) _ _ _
    refine cc_goE (c_hpair (AL_h ha) (AL_h2 ha)) ?_ (by k_asm) (by k_asm) (by k_asm) (by k_asm) (by k_asm) (by first | exact rfl | assumption) (by ktr_room) (by ktr_units)
    intro h9' tk9' F9' N9'
    (try dsimp only); (try k_sweep); (try k_fold)
  k_with "getMethod ref" =>
    rename News _ _ _ _ => lN'
    refine m_tgetm lN' T9 hK g3 ?_
  k_with "call builtin:dict.get cons nil" =>
    rename News _ _ _ _ => lN'
    refine' m_tget2 (by ktr_units) lN' T9 (fun x hx => let ⟨ok, hm, t⟩ := hK x hx; ⟨ok, .tail _ hm, t⟩) (.tail _ g3) lo (.head _) tupKey2 rfl ?_
    intro tk'
  refine wpAny_call ?_
  k_dflt cell_enter
  k_steps
  rename Fr _ _ _ _ => lF'
  rename News _ _ _ _ => lN'
  exact hret _ _ _ _ lF' (fun q hq => lN' q (by simp [hq])) ⟨rfl, pairR a b ca cb t1 t2⟩
end
section
def cmpP (f : List Int) (st mo c : Int) : Option Int := if 0 ≤ st ∧ (st = (f.length : Int) - 1 ∨ mo < cls c) then pr2 (f.getD st.toNat 0) c else none
def cmpGo : List Int → List Int → Int → Int → List Int
  | [], f, _, _ => f
  | c :: t, f, st, mo => match cmpP f st mo c with
    | some v => cmpGo t (f.set st.toNat v) st mo
    | none => if cls c = 0 then cmpGo t (f ++ [c]) f.length (-1) else cmpGo t (f ++ [c]) st (if cls c > mo then cls c else mo)
def cmp (xs : List Int) : List Int := cmpGo xs [] (-1) (-1)
theorem cmpGo_hit {c : Int} {t f : List Int} {st mo v : Int} (h : cmpP f st mo c = some v) : cmpGo (c :: t) f st mo = cmpGo t (f.set st.toNat v) st mo := by rw [cmpGo, h]
theorem cmpGo_zero {c : Int} {t f : List Int} {st mo : Int} (h : cmpP f st mo c = none) (h0 : cls c = 0) : cmpGo (c :: t) f st mo = cmpGo t (f ++ [c]) f.length (-1) := by rw [cmpGo, h]; simp [h0]
theorem cmpGo_mark {c : Int} {t f : List Int} {st mo : Int} (h : cmpP f st mo c = none) (h0 : ¬ cls c = 0) : cmpGo (c :: t) f st mo = cmpGo t (f ++ [c]) st (if cls c > mo then cls c else mo) := by rw [cmpGo, h]; simp [h0]
theorem cmpP_t {f : List Int} {st mo c y : Int} {r : Option Int} (h0 : 0 ≤ st) (h1 : st = (f.length : Int) - 1 ∨ mo < cls c) (hy : f[st.toNat]? = some y) (hp : pr2 y c = r) : cmpP f st mo c = r := by
  unfold cmpP
  rw [if_pos ⟨h0, h1⟩, List.getD_eq_getElem?_getD, hy]
  exact hp
theorem cmpP_f {f : List Int} {st mo c : Int} (h : ¬ (0 ≤ st ∧ (st = (f.length : Int) - 1 ∨ mo < cls c))) : cmpP f st mo c = none := by unfold cmpP; rw [if_neg h]
theorem pr2_al {a b v : Int} (h : pr2 a b = some v) : v ∈ AL := by
  unfold pr2 at h
  split at h
  · cases h; decide
  · split at h
    · cases h; decide
    · cases h
theorem ints_set {vs : List Value} {ns : List Int} (h : IntsAre vs ns) : ∀ (k : Nat) (a : Int) (t : Tok), IntsAre (vs.set k (.int a t)) (ns.set k a) := by
  induction h with
  | nil => intro k a t; exact .nil
  | cons x t' h ih =>
    intro k a t
    cases k with
    | zero => exact .cons a t h
    | succ k => exact .cons x t' (ih k a t)
theorem ki_setL_some : ∀ (l : List Value) (k : Nat) (v : Value), k < l.length → ki_setL l k v = some (l.set k v)
  | [], _, _, h => absurd h (Nat.not_lt_zero _)
  | _ :: _, 0, _, _ => rfl
  | x :: r, k + 1, v, h => by
    unfold ki_setL
    rw [ki_setL_some r k v (Nat.lt_of_succ_lt_succ h)]
    rfl
theorem m_setL {prog : Program} {w : World} {A : Around} {E : Value → Shared → Prop} {s : Shared} {h₀ : Heap} {L D : Addr} {m : Str → Option Value} {news : Led} {g : Obj → Led} {n : Nat} {vs : List Value} {k : Int} {t : Tok} {v : Value} {Q : Unit → Shared → Prop}
    (F : Fr h₀ L s.heap m) (N : News h₀ L s.heap news) (U : UpdF D (listOf vs.toArray n) news g) (h0 : 0 ≤ k) (h1 : k < vs.length) (hz : vs.length ≤ 10000)
    (h : ∀ h' n', Fr h₀ L h' m → News h₀ L h' (g (listOf (List.toArray (vs.set k.toNat v)) n')) → Q () { s with heap := h' }) :
    wpAny (model prog w) A (setItem (.ref D) (.int k t) v) Q E s := by
  obtain ⟨pre, post, rfl, hg, aa, bb⟩ := U.split
  have hm := N (D, listOf vs.toArray n) (List.mem_append_right _ (.head _))
  have hl : s.heap.IsList D vs.toArray := ⟨_, hm.1, rfl, n, rfl⟩
  exact ki_set F N h0 (by omega) (ki_setL_some _ _ _ (by simpa using (by omega : k.toNat < vs.length))) (updF_upd U _) fun h' F' N' => h h' _ F' N'
theorem cm_le {a b i n : Nat} (h1 : a = b) (h2 : b ≤ i) (h3 : i < n) (h4 : n < 64) : a ≤ 10000 := by omega
theorem cm_st {st : Int} {a b : Nat} (h0 : 0 ≤ st) (h : st < b) (e : a = b) : st.toNat < a := by omega
theorem cm_st2 {st : Int} {a b : Nat} (h : st < b) (e : a = b) (h2 : a ≤ 10000) : st < 2 ^ 63 := by omega
theorem cm_st3 {st : Int} {a b : Nat} (h : st < b) (e : a = b) : st < a := e ▸ h
inductive RetL (news : Led) (xs : List Int) (news' : Led) (y : Value) : Prop
  | mk (r n : Nat) (vs : List Value) (q1 : Value.ref r = y) (q2 : (r, listOf vs.toArray n) :: news = news') (q3 : (∀ p ∈ news, p.1 ≠ r)) (q4 : IntsAre vs xs) : RetL news xs news' y
theorem RetL.go {wz : World} {fz : Addr} {vz : List Value} {kz : Nat} {ledz : Led} {news : Led} {xs : List Int} (Cz : CC wz fz vz kz ledz (RetL news xs))
  {pz : Program} {lz : List Str} {mnz : ExcName → Option Value} {mgz mbz : Str → Option Value} {dpz unz : Nat} {gdz : Option (List Code)} {cnz : Str} {csz : Scope} {az : Addr} {cdz : Value} {clz : List (Str × Addr)} {otz : List Env} {A₀ : Around} {basez h₀ : Heap} {Lz : Addr} {mz : Str → Option Value} {sz : Shared} {Qz Ez : Value → Shared → Prop}
  (ret : ∀ (r n : Nat) (vs : List Value) (hz : Heap) (tkz : Nat), Fr h₀ Lz hz mz → News h₀ Lz hz ((r, listOf vs.toArray n) :: news) → ((∀ p ∈ news, p.1 ≠ r)) → (IntsAre vs xs) → Qz (Value.ref r) { sz with heap := hz, toks := tkz })
  (F : Fr h₀ Lz sz.heap mz) (N : News h₀ Lz sz.heap ledz) (B : Below A₀ basez otz h₀) (X : (hd.heap_1_39 wz.params).In h₀) (T : Top pz lz mnz mgz mbz h₀) (hk : csz.kind = .function)
  (hd : dpz + kz < recursionLimit) (hu : unz + 8 * kz < cLine) :
    wpAny (model PySem.Challenge.rw_on0371_01.prog wz) (ktrTop dpz unz gdz cnz csz Lz az cdz clz otz) (call (.ref fz) vz) Qz Ez sz := by
  refine cc_go Cz (fun v news9 h9 tk9 F9 N9 P9 => ?_) F N B X T hk hd hu
  obtain ⟨r, n, vs, rfl, rfl, q3, q4⟩ := P9
  exact ret r n vs h9 tk9 F9 N9 q3 q4
structure CmpS where
  fa : Nat
  fvs : List Value
  fcs : List Int
  fn : Nat
  st : Int
  stT : Tok
  mo : Int
  moT : Tok
inductive CmpI (base : Led) (xs : List Int) (i : Nat) (c : CmpS) : Prop
  | mk  (q1 : IntsAre c.fvs c.fcs) (q2 : cmpGo (xs.drop i) c.fcs c.st c.mo = cmp xs) (q3 : (∀ x ∈ c.fcs, x ∈ AL)) (q4 : -1 ≤ c.st) (q5 : c.st < c.fcs.length) (q6 : c.fcs.length ≤ i) (q7 : AllLt c.fa base) : CmpI base xs i c
abbrev CmpL (base : Led) (c : CmpS) : Led := (c.fa, listOf c.fvs.toArray c.fn) :: base
set_option maxRecDepth 100000 in
set_option maxHeartbeats 8000000 in
theorem c_cmp {w : World} {news : Led} {l k d : Nat} {vs : List Value} {xs : List Int} (hD : DataOK w news d) (hl : (l, listOf vs.toArray k) ∈ news) (hi : IntsAre vs xs) (hx : ∀ x ∈ xs, x ∈ AL) (h64 : xs.length < 64) :
    CC w 180 [.ref l, .ref d, .none] 60 news (RetL news (cmp xs)) := by
  refine CC.mk ?_; k_fill; intro p9 loose mean mg mb dp un gd cn cs a9 ccd cl outer A₀ base h₀ L m s Q E B F X N T hk hdp hun hret
  have hMk : KstMark := kstMark
  k_with_none
  k_with "m_allIn" => first | exact List.forall_mem_nil _ | (refine sub_cons (by k_memK) ?_; k_extra "m_allIn") | (intro p9 h9; kst_mem)
  k_with "m_ra" => first | assumption | exact And.right (by first | assumption | exact And.right (by first | assumption | exact And.right (by first | assumption | exact And.right (by first | assumption | exact And.right (by first | assumption | exact And.right (by first | assumption | exact And.right (by first | assumption | exact And.right (by assumption))))))))
  k_with "m_and" => first | k_extra "m_ra" | exact And.left (by k_extra "m_ra")
  k_with "m_neA" => first | k_extra "m_and" | (refine Ne.symm ?_; k_extra "m_and") | (refine Nat.ne_of_lt ?_; k_extra "m_and") | (refine Nat.ne_of_gt ?_; k_extra "m_and") | (refine Nat.ne_of_lt (Nat.lt_succ_of_lt ?_); k_extra "m_and")
  k_with "m_lt" => first | assumption | exact allLt_of (by assumption) | k_extra "m_and"
  k_with "kst_in" => (try dsimp only); with_unfolding_all ((try simp only [List.nil_append, List.cons_append]); k_extra "m_allIn")
  k_with "k_ne" => refine neN ?_; (try dsimp only); first | (with_reducible assumption) | (with_reducible exact Ne.symm (by assumption)) | (with_reducible exact Nat.ne_of_lt (by assumption)) | (with_reducible exact Nat.ne_of_gt (by assumption)) | with_reducible k_extra "m_neA" | k_extra "m_neA" | omega
  k_with "k_all" => first | exact List.forall_mem_nil _ | assumption | exact lt_ne (by assumption) | exact lt_ne (by k_extra "m_lt") | exact lt_ne1 (by k_extra "m_lt") | (refine ne_cons ?_ ?_; (focus k_ne); k_all) | (refine List.forall_mem_cons.mpr (And.intro ?_ ?_); (focus k_ne); k_all)
  k_with "k_in" => (rename Fr _ _ _ _ => lF8); (rename Frag.In _ _ => lX8); exact Frag.In.keeps lX8 (Fr.keep lF8)
  k_with "ktr_room" => k_dflt (first | exact rmA (by assumption) (by exact rfl) | exact rmB (by assumption))
  k_with "ktr_units" => k_dflt (first | exact unA (by assumption) (by exact rfl) | exact unC (by assumption) (by exact rfl))
  k_with "MPost" => dsimp only [MPost]
  k_with "execs cons" => with_reducible refine gen_tok ?_; intro tk9
  k_with "m_for" => k_here; (rename Fr _ _ _ _ => lF'); k_dflt (refine' For_invVF ?zF ?zk1 ?zk2 ?_ ?zs ?ze; (case zF => exact lF'); (case zk1 => exact rfl); (case zk2 => exact rfl); (case zs => (intro _; rfl)); (case ze => passes_own); k_whole)
  k_with "exec For Name Name cons nil" => k_extra "m_for"
  k_with "exec For Name Subscript cons nil" => k_extra "m_for"
  k_with "exec For Name Call cons nil" => k_extra "m_for"
  k_with "exec For Name Attribute cons nil" => k_extra "m_for"
  k_with "exec For Name Tuple cons nil" => k_extra "m_for"
  k_with "compareOp NotEq ref ref" => k_here; (with_reducible show wpAny _ _ (compareOp CmpOp.NotEq (Value.ref _) (Value.ref _)) _ _ _); k_dflt (first | refine ke_ne_ints (by is_list) (by is_list) (by l_ints) (by l_ints) (by ktr_units) ?_ | ((refine ne_dataH (by ke_read) (by ke_read) (by ke_shaped) (by ke_shaped) (by ktr_units) ?_); ke_norm))
  k_with "compareOp Eq ref ref" => k_here; (with_reducible show wpAny _ _ (compareOp CmpOp.Eq (Value.ref _) (Value.ref _)) _ _ _); k_dflt (first | refine ke_eq_ints (by is_list) (by is_list) (by l_ints) (by l_ints) (by ktr_units) ?_ | ((refine eq_dataH (by ke_read) (by ke_read) (by ke_shaped) (by ke_shaped) (by ktr_units) ?_); ke_norm))
  w_top off
  obtain ⟨dx, df, mp, pr, wd, w1, w2, w3, w4, n4, i1, i2⟩ := hD.inst
  k_with "call ref cons nil" =>
    with_reducible show wpAny _ _ (call (Value.ref 168) [_]) _ _ _
    refine CoP.go (c_cnew hD) ?_ (by k_asm) (by k_asm) (by k_asm) (by k_asm) (by k_asm) (by first | exact rfl | assumption) (by ktr_room) (by ktr_units)
    rintro c8 cx8 p8 s8 n8 ca cb o8 t1 t2 u1 u2 h9' tk9' F9' N9' q1 q3 q5
    (try dsimp only); (try k_sweep); (try k_fold)
  k_with "pyIter ref" =>
    rename Fr _ _ _ _ => lF'
    rename News _ _ _ _ => lN'
    with_unfolding_all refine' mfor (σ := CmpS) (l := l) (vs := vs.toArray) (nn := k) (CmpL ((c8, instObj 168 cx8) :: (cx8, coDict w u1 u2 n8 p8 s8) :: (p8, o8) :: news)) (fun c => [(Str.ofString "found", .ref c.fa), (Str.ofString "starter", .int c.st c.stT), (Str.ofString "most", .int c.mo c.moT)]) [Str.ofString "weight", Str.ofString "pair"] (CmpI ((c8, instObj 168 cx8) :: (cx8, coDict w u1 u2 n8 p8 s8) :: (p8, o8) :: news) xs) ⟨_, [], [], 0, -1, _, -1, _⟩ rfl (fun c => .tail _ (.tail _ (.tail _ (.tail _ hl)))) lF' (kst_newsOf lN' ?sub) ?kk ?pp ?_ ?_
    (case kk => kst_all)
    (case sub => dsimp only [CmpL]; kst_in)
    (case pp => exact ⟨.nil, rfl, (fun _ h => nomatch h), (show (-1 : Int) ≤ -1 by decide), (show (-1 : Int) < ((0 : Nat) : Int) by decide), Nat.le_refl _, by walk_at "m_lt"⟩)
    clear lF' lN'
    rintro I9 oI9 ⟨fa, fvs, fcs, fn, st, stT, mo, moT⟩ i9 v9 u9 h9 tk9 hv9 hP9 hne9 F9 N9
    obtain ⟨p1, p2, p3, p4, p5, p6, p7⟩ := hP9
    (dsimp only [CmpL] at p1 p2 p3 p4 p5 p6 p7 N9 F9 hne9)
    (have g9 := gnNe_of hne9); (dsimp only [GnNe] at g9)
    obtain ⟨x9, t9, rfl, hx9⟩ := IntsAre.at hi i9 v9 (by simpa using hv9)
    have hxA := hx x9 (List.mem_of_getElem? hx9)
    have hil : i9 < xs.length := (List.getElem?_eq_some_iff.mp hx9).1
    have hdr : xs.drop i9 = x9 :: xs.drop (i9 + 1) := by rw [List.drop_eq_getElem_cons hil, (List.getElem?_eq_some_iff.mp hx9).2]
    rw [hdr] at p2
    have hlen9 := p1.length
    have hz9 := cm_le hlen9 p6 hil h64
    (try k_fold)
    rotate_left 1
    rintro ⟨fa, fvs, fcs, fn, st, stT, mo, moT⟩ u9 h9 tk9 hP9 F9 N9
    obtain ⟨p1, p2, p3, p4, p5, p6, p7⟩ := hP9
    (dsimp only [CmpL] at p1 p2 p3 p4 p5 p6 p7 N9 F9)
    rw [List.drop_of_length_le (by have := hi.length; simp; omega)] at p2
    (try k_fold)
    rotate_left 1
  k_with "call ref cons nil" =>
    with_reducible show wpAny _ _ (call (Value.ref 326) [Value.ref _, Value.str _ _, Value.int _ _]) _ _ _
    refine cc_goI (g_ccc (hD.mono ?kM) hxA _ _) ?_ (by k_asm) (by k_asm) (by k_asm) (by k_asm) (by k_asm) (by first | exact rfl | assumption) (by ktr_room) (by ktr_units)
    (case kM => kst_in)
    intro tq9 h9' tk9' F9' N9'
    (try dsimp only); (try k_sweep); (try k_fold)
  k_with "subscriptTail Name Name ref int" =>
    have hst9 : 0 ≤ st := by first | assumption | omega
    have hsl9 := cm_st hst9 p5 hlen9
    obtain ⟨y9, ty9, hv8, hy9⟩ := IntsAre.at p1 st.toNat fvs[st.toNat] (List.getElem?_eq_getElem hsl9)
    have hyA := p3 y9 (List.mem_of_getElem? hy9)
    have hg9 : fvs[st.toNat]? = some (Value.int y9 ty9) := by rw [← hv8]; exact List.getElem?_eq_getElem hsl9
    k_dflt (refine m_item (vs := fvs) (v := .int y9 ty9) ⟨_, (News.get (by k_asm) (a := fa) (by k_mem)), rfl, _, rfl⟩ hst9 (cm_st2 p5 hlen9 hz9) hg9 ?_)
  k_with "call ref cons nil" =>
    with_reducible show wpAny _ _ (call (Value.ref 158) [Value.ref _, Value.int _ _, Value.int _ _]) _ _ _
    refine' cc_go (c_pair ?za ?zb ?zc q1 q3 (q5.mono ?zd) hyA) ?_ (by k_asm) (by k_asm) (by k_asm) (by k_asm) (by k_asm) (by first | exact rfl | assumption) (by ktr_room) (by ktr_units)
    (case za => k_mem)
    (case zb => k_mem)
    (case zc => k_mem)
    (case zd => kst_in)
    intro v9' news9 h9' tk9' F9' N9' P9'
    obtain ⟨rfl, ⟨hp9, rfl⟩ | ⟨r9, tr9, hp9, rfl⟩⟩ := P9'
    all_goals ((try dsimp only); (try k_sweep); (try k_fold))
  k_with "setItem ref int int" =>
    k_dflt (refine' m_setL (vs := fvs) ?yF ?yN ?yU hst9 ?y1 ?yz ?_; (case yF => k_asm); (case yN => k_asm); (case yU => k_updF); (case y1 => exact cm_st3 p5 hlen9); (case yz => exact hz9))
    intro h' n' F' N'; (try dsimp only at N'); (try k_sweep)
  k_with "call builtin:list.append cons nil" =>
    k_dflt (refine' m_append (vs := fvs) ?yF ?yN ?yU ?yz ?_; (case yF => k_asm); (case yN => k_asm); (case yU => k_updF); (case yz => exact hz9))
    intro h' n' F' N'; (try dsimp only at N'); (try k_sweep)
  k_with "exec If BoolOp cons nil" =>
    fail_if_success (have hz8 := hJn; clear hz8)
    rename Fr _ _ _ _ => lF'
    rename News _ _ _ _ => lN'
    k_dflt (refine' if_joinC lF' lN' (Str.ofString "pair") (cmpP fcs st mo x9 = none) ?_ ?_)
    have hJn := True.intro
    (try k_fold)
    rotate_left 1
    rintro h8 tk8 u8 F8 N8 hc9
    have hJn := True.intro
    (try k_fold)
    rotate_left 1
  k_with "JoinC" =>
    first
      | (refine' JoinC.cont rfl ?_)
      | (rename Fr _ _ _ _ => lF'; rename News _ _ _ _ => lN'; first | (k_dflt (refine' JoinC.next rfl ⟨_, _, _, rfl, fr_self lF', kst_newsOf lN' ?zi, cmpP_f (by omega)⟩); (case zi => kst_in)) | (k_dflt (refine' JoinC.next rfl ⟨_, _, _, rfl, lF', kst_newsOf lN' ?zi, cmpP_t hst9 (by omega) hy9 hp9⟩); (case zi => kst_in)))
  k_with "MEnd" =>
    rename Fr _ _ _ _ => lF'
    rename News _ _ _ _ => lN'
    first
      | (refine' mend (⟨fa, fvs.set st.toNat _, fcs.set st.toNat r9, _, st, stT, mo, moT⟩ : CmpS) lF' lN' ?hI ?hn ?hne ?hk ?hr ?_; (case hk => kst_all); (case hn => dsimp only [CmpL]; kst_in))
      | (refine' mend (⟨fa, fvs ++ [_], fcs ++ [x9], _, st, stT, _, _⟩ : CmpS) lF' lN' ?hI ?hn ?hne ?hk ?hr ?_; (case hk => kst_all); (case hn => dsimp only [CmpL]; kst_in))
      | (refine' mend (⟨fa, fvs ++ [_], fcs ++ [x9], _, _, _, -1, _⟩ : CmpS) lF' lN' ?hI ?hn ?hne ?hk ?hr ?_; (case hk => kst_all); (case hn => dsimp only [CmpL]; kst_in))
    (case hI => k_mem)
    (case hne => exact ne_map hne9 rfl)
    (case hr => (intro z9 g1 g2 g3; (simp only [List.forall_mem_cons, List.not_mem_nil, false_implies, implies_true, and_true, ne_eq] at g2); (simp only [List.contains_cons, List.contains_nil, Bool.or_false, Bool.or_eq_false_iff, beq_eq_false_iff_ne, ne_eq] at g3); (simp [kstB, g1, g2, g3]; done)))
  refine wpAny_call ?_
  (k_dflt (refine' code_def ?k1 ?k2 ?k3 ?k4 ?k5 ?kA ?kF ?kK ?k6 ?k7 ?k8 ?k9 ?kB ?_ ?c2 ?c3 ?c4 ?c5; (case kA => exact rfl); (case kF => exact rfl); (case kK => assumption); (case k1 => k_asm); (case k2 => k_asm); (case k3 => k_asm); (case k4 => k_asm); (case k5 => k_asm); (case k6 => k_is); (case k7 => k_is); (case k8 => ktr_room); (case k9 => first | exact BindsTo.of_eq rfl | exact binds_K (by k_in) rfl (by k_is) rfl rfl rfl); (case c5 => decide); (case kB => exact locs rfl); (case c2 => exact rfl); (case c3 => exact rfl); (case c4 => exact rfl); k_whole; intro g' L' h' FG' F' N' B' X' T'; (try dsimp only); (try k_lift B'); (try k_fold)))
  k_steps
  all_goals first
    | (have hc9 : cmpP fcs st mo x9 = some r9 := cmpP_t hst9 (by omega) hy9 hp9
       rw [cmpGo_hit hc9] at p2
       refine ⟨ints_set p1 _ _ _, p2, fun z hz => ?_, p4, by simpa using p5, by simp; omega, p7⟩
       rcases List.mem_or_eq_of_mem_set hz with hz | rfl
       · exact p3 z hz
       · exact pr2_al hp9)
    | (have hc9 : cmpP fcs st mo x9 = none := by first | exact hc9 | exact cmpP_t hst9 (by omega) hy9 hp9 | exact cmpP_f (by omega)
       first
         | (rw [cmpGo_zero hc9 (by omega)] at p2
            refine ⟨IntsAre.append p1 (.cons _ _ .nil), p2, fun z hz => ?_, by dsimp only; omega, by (dsimp only; simp only [List.length_append, List.length_singleton]; omega), by simp; omega, p7⟩
            rcases List.mem_append.mp hz with hz | hz
            · exact p3 z hz
            · rw [List.mem_singleton.mp hz]; exact hxA)
         | (rw [cmpGo_mark hc9 (by omega)] at p2
            refine ⟨IntsAre.append p1 (.cons _ _ .nil), p2, fun z hz => ?_, p4, by simp; omega, by simp; omega, p7⟩
            rcases List.mem_append.mp hz with hz | hz
            · exact p3 z hz
            · rw [List.mem_singleton.mp hz]; exact hxA))
    | skip
  rename Fr _ _ _ _ => lF'
  rename News _ _ _ _ => lN'
  have e : fcs = cmp xs := p2
  refine' hret _ _ _ _ lF' (kst_newsOf lN' ?zs) ⟨_, _, _, rfl, rfl, ?zr, e ▸ p1⟩
  (case zs => kst_in)
  (case zr => exact lt_ne p7.2.2.2)
end
section
theorem srt_mem {x : Int} {cs : List Int} (h : x ∈ srt cs) : x ∈ cs := by
  unfold srt at h
  rcases List.mem_append.mp h with h | h <;> exact (List.mem_filter.mp h).1
theorem ordGo_mem : ∀ (xs run f : List Int) (y : Int), y ∈ ordGo xs run f → y ∈ xs ∨ y ∈ run ∨ y ∈ f
  | [], run, f, y, h => by
    rcases List.mem_append.mp h with h | h
    · exact .inr (.inr h)
    · exact .inr (.inl (srt_mem h))
  | c :: t, run, f, y, h => by
    rw [ordGo] at h
    split at h
    · rcases ordGo_mem t _ _ y h with h | h | h
      · exact .inl (.tail _ h)
      · rcases List.mem_append.mp h with h | h
        · exact .inr (.inl h)
        · rw [List.mem_singleton.mp h]; exact .inl (.head _)
      · exact .inr (.inr h)
    · rcases ordGo_mem t _ _ y h with h | h | h
      · exact .inl (.tail _ h)
      · cases h
      · rcases List.mem_append.mp h with h | h
        · rcases List.mem_append.mp h with h | h
          · exact .inr (.inr h)
          · exact .inr (.inl (srt_mem h))
        · rw [List.mem_singleton.mp h]; exact .inl (.head _)
theorem ord_al {xs : List Int} (h : ∀ x ∈ xs, x ∈ AL) : ∀ y ∈ ord xs, y ∈ AL := fun y hy => by
  rcases ordGo_mem xs [] [] y hy with h1 | h1 | h1
  · exact h y h1
  · cases h1
  · cases h1
theorem ordGo_len : ∀ (xs run f : List Int), (∀ x ∈ run, x = 769 ∨ x = 803) → (ordGo xs run f).length = xs.length + run.length + f.length
  | [], run, f, h => by rw [ordGo, List.length_append, srt_len h]; simp; omega
  | c :: t, run, f, h => by
    rw [ordGo]
    split
    · rename_i hc
      rw [ordGo_len t (run ++ [c]) f (fun x hx => by
        rcases List.mem_append.mp hx with hx | hx
        · exact h x hx
        · rw [List.mem_singleton.mp hx]; exact cls_pos hc)]
      simp; omega
    · rw [ordGo_len t [] _ (fun x hx => nomatch hx)]
      simp [srt_len h]; omega
theorem ord_len (xs : List Int) : (ord xs).length = xs.length := by
  unfold ord; rw [ordGo_len xs [] [] (fun x hx => nomatch hx)]; simp
set_option maxRecDepth 100000 in
set_option maxHeartbeats 8000000 in
theorem c_formd {w : World} {news : Led} {l k d C : Nat} {T O : Obj} {t : Tok} {vs : List Value} {xs : List Int} (hT : TabS T C O) (hD : DataOK w news d) (hl : (l, listOf vs.toArray k) ∈ news) (hi : IntsAre vs xs) (hx : ∀ x ∈ xs, x ∈ AL) (h64 : (exps xs).length < 64) (h112 : ∀ p ∈ news, p.1 ≠ 112) (hC : ∀ p ∈ news, p.1 ≠ C) :
    CC w 188 [.ref l, .ref d, .str (Str.ofString "nfd") t] 70 ((112, T) :: (C, O) :: news) (TNewL news (ord (exps xs))) := by
  refine CC.mk ?_; k_fill; intro p loose mean mg mb dp un gd cn cs a ccd cl outer A₀ base h₀ L m s Q E B F X N T9 hk hdp hun hret
  have hMk : KstMark := kstMark
  k_with_none
  k_with "m_allIn" => first | exact List.forall_mem_nil _ | (refine sub_cons (by k_memK) ?_; k_extra "m_allIn") | (intro p9 h9; kst_mem)
  k_with "m_ra" => first | assumption | exact And.right (by first | assumption | exact And.right (by first | assumption | exact And.right (by first | assumption | exact And.right (by first | assumption | exact And.right (by first | assumption | exact And.right (by first | assumption | exact And.right (by first | assumption | exact And.right (by assumption))))))))
  k_with "m_and" => first | k_extra "m_ra" | exact And.left (by k_extra "m_ra")
  k_with "m_neA" => first | k_extra "m_and" | (refine Ne.symm ?_; k_extra "m_and") | (refine Nat.ne_of_lt ?_; k_extra "m_and") | (refine Nat.ne_of_gt ?_; k_extra "m_and") | (refine Nat.ne_of_lt (Nat.lt_succ_of_lt ?_); k_extra "m_and")
  k_with "m_lt" => first | assumption | exact allLt_of (by assumption) | k_extra "m_and"
  k_with "kst_in" => (try dsimp only); with_unfolding_all ((try simp only [List.nil_append, List.cons_append]); k_extra "m_allIn")
  k_with "k_ne" => refine neN ?_; (try dsimp only); first | (with_reducible assumption) | (with_reducible exact Ne.symm (by assumption)) | (with_reducible exact Nat.ne_of_lt (by assumption)) | (with_reducible exact Nat.ne_of_gt (by assumption)) | with_reducible k_extra "m_neA" | k_extra "m_neA" | omega
  k_with "k_all" => first | exact List.forall_mem_nil _ | assumption | exact lt_ne (by assumption) | exact lt_ne (by k_extra "m_lt") | exact lt_ne1 (by k_extra "m_lt") | (refine ne_cons ?_ ?_; (focus k_ne); k_all) | (refine List.forall_mem_cons.mpr (And.intro ?_ ?_); (focus k_ne); k_all)
  k_with "k_in" => (rename Fr _ _ _ _ => lF8); (rename Frag.In _ _ => lX8); exact Frag.In.keeps lX8 (Fr.keep lF8)
  k_with "ktr_room" => k_dflt (first | exact rmA (by assumption) (by exact rfl) | exact rmB (by assumption))
  k_with "ktr_units" => k_dflt (first | exact unA (by assumption) (by exact rfl) | exact unC (by assumption) (by exact rfl))
  k_with "MPost" => dsimp only [MPost]
  k_with "execs cons" => with_reducible refine gen_tok ?_; intro tk9
  k_with "m_for" => k_here; (rename Fr _ _ _ _ => lF'); k_dflt (refine' For_invVF ?zF ?zk1 ?zk2 ?_ ?zs ?ze; (case zF => exact lF'); (case zk1 => exact rfl); (case zk2 => exact rfl); (case zs => (intro _; rfl)); (case ze => passes_own); k_whole)
  k_with "exec For Name Name cons nil" => k_extra "m_for"
  k_with "exec For Name Subscript cons nil" => k_extra "m_for"
  k_with "exec For Name Call cons nil" => k_extra "m_for"
  k_with "exec For Name Attribute cons nil" => k_extra "m_for"
  k_with "exec For Name Tuple cons nil" => k_extra "m_for"
  k_with "compareOp NotEq ref ref" => k_here; (with_reducible show wpAny _ _ (compareOp CmpOp.NotEq (Value.ref _) (Value.ref _)) _ _ _); k_dflt (first | refine ke_ne_ints (by is_list) (by is_list) (by l_ints) (by l_ints) (by ktr_units) ?_ | ((refine ne_dataH (by ke_read) (by ke_read) (by ke_shaped) (by ke_shaped) (by ktr_units) ?_); ke_norm))
  k_with "compareOp Eq ref ref" => k_here; (with_reducible show wpAny _ _ (compareOp CmpOp.Eq (Value.ref _) (Value.ref _)) _ _ _); k_dflt (first | refine ke_eq_ints (by is_list) (by is_list) (by l_ints) (by l_ints) (by ktr_units) ?_ | ((refine eq_dataH (by ke_read) (by ke_read) (by ke_shaped) (by ke_shaped) (by ktr_units) ?_); ke_norm))
  w_top off
  k_with "call ref cons nil" =>
    with_reducible show wpAny _ _ (call (Value.ref 123) [_, _, _]) _ _ _
    rename News _ _ _ _ => lN'
    refine' TNewL.go (c_dec hT hD hl hi hx h64 h112 hC) ?_ (by k_asm) (kst_newsOf lN' ?zsub) (by k_asm) (by k_asm) (by k_asm) (by first | exact rfl | assumption) (by ktr_room) (by ktr_units)
    (case zsub => kst_in)
    rintro r8 n8 vs8 T8 C8 O8 h9' tk9' F9' N9' hr8 hi8 hT8 hC8
    (try dsimp only); (try k_sweep); (try k_fold)
  refine wpAny_call ?_
  (k_dflt (refine' code_def ?k1 ?k2 ?k3 ?k4 ?k5 ?kA ?kF ?kK ?k6 ?k7 ?k8 ?k9 ?kB ?_ ?c2 ?c3 ?c4 ?c5; (case kA => exact rfl); (case kF => exact rfl); (case kK => assumption); (case k1 => k_asm); (case k2 => k_asm); (case k3 => k_asm); (case k4 => k_asm); (case k5 => k_asm); (case k6 => k_is); (case k7 => k_is); (case k8 => ktr_room); (case k9 => first | exact BindsTo.of_eq rfl | exact binds_K (by k_in) rfl (by k_is) rfl rfl rfl); (case c5 => decide); (case kB => exact locs rfl); (case c2 => exact rfl); (case c3 => exact rfl); (case c4 => exact rfl); k_whole; intro g' L' h' FG' F' N' B' X' T'; (try dsimp only); (try k_lift B'); (try k_fold)))
  k_steps
  rename Fr _ _ _ _ => lF'
  rename News _ _ _ _ => lN'
  refine' tnewL_end hret lF' lN' ?hm hi8 hr8 hT8 hC8
  case hm => kst_in
set_option maxRecDepth 100000 in
set_option maxHeartbeats 8000000 in
theorem c_formc {w : World} {news : Led} {l k d C : Nat} {T O : Obj} {t : Tok} {vs : List Value} {xs : List Int} (hT : TabS T C O) (hD : DataOK w news d) (hl : (l, listOf vs.toArray k) ∈ news) (hi : IntsAre vs xs) (hx : ∀ x ∈ xs, x ∈ AL) (h64 : (exps xs).length < 64) (h112 : ∀ p ∈ news, p.1 ≠ 112) (hC : ∀ p ∈ news, p.1 ≠ C) :
    CC w 188 [.ref l, .ref d, .str (Str.ofString "nfc") t] 70 ((112, T) :: (C, O) :: news) (TNewL news (cmp (ord (exps xs)))) := by
  refine CC.mk ?_; k_fill; intro p loose mean mg mb dp un gd cn cs a ccd cl outer A₀ base h₀ L m s Q E B F X N T9 hk hdp hun hret
  have hMk : KstMark := kstMark
  k_with_none
  k_with "m_allIn" => first | exact List.forall_mem_nil _ | (refine sub_cons (by k_memK) ?_; k_extra "m_allIn") | (intro p9 h9; kst_mem)
  k_with "m_ra" => first | assumption | exact And.right (by first | assumption | exact And.right (by first | assumption | exact And.right (by first | assumption | exact And.right (by first | assumption | exact And.right (by first | assumption | exact And.right (by first | assumption | exact And.right (by first | assumption | exact And.right (by assumption))))))))
  k_with "m_and" => first | k_extra "m_ra" | exact And.left (by k_extra "m_ra")
  k_with "m_neA" => first | k_extra "m_and" | (refine Ne.symm ?_; k_extra "m_and") | (refine Nat.ne_of_lt ?_; k_extra "m_and") | (refine Nat.ne_of_gt ?_; k_extra "m_and") | (refine Nat.ne_of_lt (Nat.lt_succ_of_lt ?_); k_extra "m_and")
  k_with "m_lt" => first | assumption | exact allLt_of (by assumption) | k_extra "m_and"
  k_with "kst_in" => (try dsimp only); with_unfolding_all ((try simp only [List.nil_append, List.cons_append]); k_extra "m_allIn")
  k_with "k_ne" => refine neN ?_; (try dsimp only); first | (with_reducible assumption) | (with_reducible exact Ne.symm (by assumption)) | (with_reducible exact Nat.ne_of_lt (by assumption)) | (with_reducible exact Nat.ne_of_gt (by assumption)) | with_reducible k_extra "m_neA" | k_extra "m_neA" | omega
  k_with "k_all" => first | exact List.forall_mem_nil _ | assumption | exact lt_ne (by assumption) | exact lt_ne (by k_extra "m_lt") | exact lt_ne1 (by k_extra "m_lt") | (refine ne_cons ?_ ?_; (focus k_ne); k_all) | (refine List.forall_mem_cons.mpr (And.intro ?_ ?_); (focus k_ne); k_all)
  k_with "k_in" => (rename Fr _ _ _ _ => lF8); (rename Frag.In _ _ => lX8); exact Frag.In.keeps lX8 (Fr.keep lF8)
  k_with "ktr_room" => k_dflt (first | exact rmA (by assumption) (by exact rfl) | exact rmB (by assumption))
  k_with "ktr_units" => k_dflt (first | exact unA (by assumption) (by exact rfl) | exact unC (by assumption) (by exact rfl))
  k_with "MPost" => dsimp only [MPost]
  k_with "execs cons" => with_reducible refine gen_tok ?_; intro tk9
  k_with "m_for" => k_here; (rename Fr _ _ _ _ => lF'); k_dflt (refine' For_invVF ?zF ?zk1 ?zk2 ?_ ?zs ?ze; (case zF => exact lF'); (case zk1 => exact rfl); (case zk2 => exact rfl); (case zs => (intro _; rfl)); (case ze => passes_own); k_whole)
  k_with "exec For Name Name cons nil" => k_extra "m_for"
  k_with "exec For Name Subscript cons nil" => k_extra "m_for"
  k_with "exec For Name Call cons nil" => k_extra "m_for"
  k_with "exec For Name Attribute cons nil" => k_extra "m_for"
  k_with "exec For Name Tuple cons nil" => k_extra "m_for"
  k_with "compareOp NotEq ref ref" => k_here; (with_reducible show wpAny _ _ (compareOp CmpOp.NotEq (Value.ref _) (Value.ref _)) _ _ _); k_dflt (first | refine ke_ne_ints (by is_list) (by is_list) (by l_ints) (by l_ints) (by ktr_units) ?_ | ((refine ne_dataH (by ke_read) (by ke_read) (by ke_shaped) (by ke_shaped) (by ktr_units) ?_); ke_norm))
  k_with "compareOp Eq ref ref" => k_here; (with_reducible show wpAny _ _ (compareOp CmpOp.Eq (Value.ref _) (Value.ref _)) _ _ _); k_dflt (first | refine ke_eq_ints (by is_list) (by is_list) (by l_ints) (by l_ints) (by ktr_units) ?_ | ((refine eq_dataH (by ke_read) (by ke_read) (by ke_shaped) (by ke_shaped) (by ktr_units) ?_); ke_norm))
  w_top off
  k_with "call ref cons nil" =>
    with_reducible show wpAny _ _ (call (Value.ref 123) [_, _, _]) _ _ _
    rename News _ _ _ _ => lN'
    refine' TNewL.go (c_dec hT hD hl hi hx h64 h112 hC) ?_ (by k_asm) (kst_newsOf lN' ?zsub) (by k_asm) (by k_asm) (by k_asm) (by first | exact rfl | assumption) (by ktr_room) (by ktr_units)
    (case zsub => kst_in)
    rintro r8 n8 vs8 T8 C8 O8 h9' tk9' F9' N9' hr8 hi8 hT8 hC8
    (try dsimp only); (try k_sweep); (try k_fold)
  k_with "call ref cons nil" =>
    with_reducible show wpAny _ _ (call (Value.ref 180) [_, _, _]) _ _ _
    rename News _ _ _ _ => lN'
    refine' RetL.go (c_cmp (news := (r8, listOf vs8.toArray n8) :: (112, T8) :: (C8, O8) :: news) (hD.mono ?zmo) (.head _) hi8 (ord_al (exps_al hx)) (by rw [ord_len]; exact h64)) ?_ (by k_asm) (kst_newsOf lN' ?zsub) (by k_asm) (by k_asm) (by k_asm) (by first | exact rfl | assumption) (by ktr_room) (by ktr_units)
    (case zsub => kst_in)
    (case zmo => kst_in)
    rintro r7 n7 vs7 h9' tk9' F9' N9' hr7 hi7
    (try dsimp only); (try k_sweep); (try k_fold)
  refine wpAny_call ?_
  (k_dflt (refine' code_def ?k1 ?k2 ?k3 ?k4 ?k5 ?kA ?kF ?kK ?k6 ?k7 ?k8 ?k9 ?kB ?_ ?c2 ?c3 ?c4 ?c5; (case kA => exact rfl); (case kF => exact rfl); (case kK => assumption); (case k1 => k_asm); (case k2 => k_asm); (case k3 => k_asm); (case k4 => k_asm); (case k5 => k_asm); (case k6 => k_is); (case k7 => k_is); (case k8 => ktr_room); (case k9 => first | exact BindsTo.of_eq rfl | exact binds_K (by k_in) rfl (by k_is) rfl rfl rfl); (case c5 => decide); (case kB => exact locs rfl); (case c2 => exact rfl); (case c3 => exact rfl); (case c4 => exact rfl); k_whole; intro g' L' h' FG' F' N' B' X' T'; (try dsimp only); (try k_lift B'); (try k_fold)))
  k_steps
  rename Fr _ _ _ _ => lF'
  rename News _ _ _ _ => lN'
  refine' tnewL_end hret lF' lN' ?hm hi7 (fun p hp => hr7 p (.tail _ hp)) hT8 hC8
  case hm => kst_in
end
section
theorem m_extendT {prog : Program} {w : World} {A : Around} {E : Value → Shared → Prop} {s : Shared} {h₀ : Heap} {L D b : Addr} {m : Str → Option Value} {news : Led} {g : Obj → Led} {n n2 : Nat} {vs us : List Value} {Q : Value → Shared → Prop}
    (F : Fr h₀ L s.heap m) (N : News h₀ L s.heap news) (U : UpdF D (listOf vs.toArray n) news g) (hb : (b, tupO us.toArray n2) ∈ news) (hz : vs.length + us.length ≤ 10000)
    (h : ∀ h' n', Fr h₀ L h' m → News h₀ L h' (g (listOf (List.toArray (vs ++ us)) n')) → Q .none { s with heap := h' }) :
    wpAny (model prog w) A (call (.builtin "list.extend") [.ref D, .ref b]) Q E s := by
  have hd : ¬(!vs.toArray.isEmpty && Builtin.List.listTooLong (vs.toArray.size + us.toArray.size)) = true := by
    intro e
    rw [Bool.and_eq_true] at e
    have e2 := of_decide_eq_true e.2
    rw [sizeLine_eq] at e2
    simp only [List.size_toArray] at e2
    omega
  have hz1 : vs.toArray.toList.length ≤ sizeLine := by rw [sizeLine_eq]; simp; omega
  have hz2 : vs.toArray.size + us.toArray.size ≤ sizeLine + 1 := by rw [sizeLine_eq]; simp; omega
  by_cases hu : us = []
  · subst hu
    have U' := updF_upd U (listOf vs.toArray n)
    obtain ⟨pre, post, rfl, e, a, c⟩ := U'.split
    have z := N (D, listOf vs.toArray n) (List.mem_append.mpr (.inr (.head _)))
    refine call_meets PySem.F.slot_list_extend ⟨_, z.1, rfl⟩ PySem.F.entry_list_extend (PySem.F.args_list_extend_2 _ _) (PySem.AutoSeq1.list_extend_list_tuple_0 D vs.toArray n b #[] n2 hd (by simpa using hz1) hz2) ⟨z.1, (N _ hb).1, h _ n (F.change (Heap.SameBut.update ..) z.2.1 z.2.2) ?_⟩
    rw [List.append_nil, e]
    exact kl_turn0 (fun x => x ++ #[]) N a c (by simp) rfl
  · refine kup_extend F N hb (l := vs ++ us) (by simp) ?_ (updF_upd U _) hd hz1 hz2 fun h' F' N' => h h' _ F' N'
    intro e
    exact hu (List.length_eq_zero_iff.mp (by simpa using e))
def fold1 (c : Int) : List Int := (told c).getD [c]
def folds (xs : List Int) : List Int := xs.flatMap fold1
theorem folds_snoc {xs : List Int} {i : Nat} {x : Int} (h : xs[i]? = some x) : folds (xs.take (i + 1)) = folds (xs.take i) ++ fold1 x := by
  unfold folds
  rw [List.take_add_one, h]
  simp
theorem folds_le {xs : List Int} (i : Nat) : (folds (xs.take i)).length ≤ (folds xs).length := by
  have h : folds xs = folds (xs.take i) ++ folds (xs.drop i) := by
    unfold folds
    rw [← List.flatMap_append, List.take_append_drop]
  rw [h, List.length_append]
  omega
theorem fold1_al {x : Int} (h : x ∈ AL) : ∀ y ∈ fold1 x, y ∈ AL := by
  simp only [AL, List.mem_cons, List.not_mem_nil, or_false] at h
  rcases h with rfl | rfl | rfl | rfl | rfl | rfl | rfl | rfl | rfl | rfl | rfl | rfl | rfl | rfl <;> decide
theorem folds_al {xs : List Int} (h : ∀ x ∈ xs, x ∈ AL) : ∀ y ∈ folds xs, y ∈ AL := by
  intro y hy
  obtain ⟨x, hx, hy'⟩ := List.mem_flatMap.mp hy
  exact fold1_al (h x hx) y hy'
def nfkc (xs : List Int) : List Int := cmp (ord (exps (folds xs)))
set_option maxRecDepth 100000 in
set_option maxHeartbeats 8000000 in
theorem c_nfd {w : World} {news : Led} {l k d C : Nat} {T O : Obj} {vs : List Value} {xs : List Int} (hT : TabS T C O) (hD : DataOK w news d) (hl : (l, listOf vs.toArray k) ∈ news) (hi : IntsAre vs xs) (hx : ∀ x ∈ xs, x ∈ AL) (h64 : (exps xs).length < 64) (h112 : ∀ p ∈ news, p.1 ≠ 112) (hC : ∀ p ∈ news, p.1 ≠ C) :
    CC w 195 [.ref l, .ref d] 80 ((112, T) :: (C, O) :: news) (TNewL news (ord (exps xs))) := by
  refine CC.mk ?_; k_fill; intro p loose mean mg mb dp un gd cn cs a ccd cl outer A₀ base h₀ L m s Q E B F X N T9 hk hdp hun hret
  have hMk : KstMark := kstMark
  k_with_none
  k_with "m_allIn" => first | exact List.forall_mem_nil _ | (refine sub_cons (by k_memK) ?_; k_extra "m_allIn") | (intro p9 h9; kst_mem)
  k_with "m_ra" => first | assumption | exact And.right (by first | assumption | exact And.right (by first | assumption | exact And.right (by first | assumption | exact And.right (by first | assumption | exact And.right (by first | assumption | exact And.right (by first | assumption | exact And.right (by first | assumption | exact And.right (by assumption))))))))
  k_with "m_and" => first | k_extra "m_ra" | exact And.left (by k_extra "m_ra")
  k_with "m_neA" => first | k_extra "m_and" | (refine Ne.symm ?_; k_extra "m_and") | (refine Nat.ne_of_lt ?_; k_extra "m_and") | (refine Nat.ne_of_gt ?_; k_extra "m_and") | (refine Nat.ne_of_lt (Nat.lt_succ_of_lt ?_); k_extra "m_and")
  k_with "m_lt" => first | assumption | exact allLt_of (by assumption) | k_extra "m_and"
  k_with "kst_in" => (try dsimp only); with_unfolding_all ((try simp only [List.nil_append, List.cons_append]); k_extra "m_allIn")
  k_with "k_ne" => refine neN ?_; (try dsimp only); first | (with_reducible assumption) | (with_reducible exact Ne.symm (by assumption)) | (with_reducible exact Nat.ne_of_lt (by assumption)) | (with_reducible exact Nat.ne_of_gt (by assumption)) | with_reducible k_extra "m_neA" | k_extra "m_neA" | omega
  k_with "k_all" => first | exact List.forall_mem_nil _ | assumption | exact lt_ne (by assumption) | exact lt_ne (by k_extra "m_lt") | exact lt_ne1 (by k_extra "m_lt") | (refine ne_cons ?_ ?_; (focus k_ne); k_all) | (refine List.forall_mem_cons.mpr (And.intro ?_ ?_); (focus k_ne); k_all)
  k_with "k_in" => (rename Fr _ _ _ _ => lF8); (rename Frag.In _ _ => lX8); exact Frag.In.keeps lX8 (Fr.keep lF8)
  k_with "ktr_room" => k_dflt (first | exact rmA (by assumption) (by exact rfl) | exact rmB (by assumption))
  k_with "ktr_units" => k_dflt (first | exact unA (by assumption) (by exact rfl) | exact unC (by assumption) (by exact rfl))
  k_with "MPost" => dsimp only [MPost]
  k_with "execs cons" => with_reducible refine gen_tok ?_; intro tk9
  k_with "m_for" => k_here; (rename Fr _ _ _ _ => lF'); k_dflt (refine' For_invVF ?zF ?zk1 ?zk2 ?_ ?zs ?ze; (case zF => exact lF'); (case zk1 => exact rfl); (case zk2 => exact rfl); (case zs => (intro _; rfl)); (case ze => passes_own); k_whole)
  k_with "exec For Name Name cons nil" => k_extra "m_for"
  k_with "exec For Name Subscript cons nil" => k_extra "m_for"
  k_with "exec For Name Call cons nil" => k_extra "m_for"
  k_with "exec For Name Attribute cons nil" => k_extra "m_for"
  k_with "exec For Name Tuple cons nil" => k_extra "m_for"
  k_with "compareOp NotEq ref ref" => k_here; (with_reducible show wpAny _ _ (compareOp CmpOp.NotEq (Value.ref _) (Value.ref _)) _ _ _); k_dflt (first | refine ke_ne_ints (by is_list) (by is_list) (by l_ints) (by l_ints) (by ktr_units) ?_ | ((refine ne_dataH (by ke_read) (by ke_read) (by ke_shaped) (by ke_shaped) (by ktr_units) ?_); ke_norm))
  k_with "compareOp Eq ref ref" => k_here; (with_reducible show wpAny _ _ (compareOp CmpOp.Eq (Value.ref _) (Value.ref _)) _ _ _); k_dflt (first | refine ke_eq_ints (by is_list) (by is_list) (by l_ints) (by l_ints) (by ktr_units) ?_ | ((refine eq_dataH (by ke_read) (by ke_read) (by ke_shaped) (by ke_shaped) (by ktr_units) ?_); ke_norm))
  w_top off
  k_with "call ref cons nil" =>
    with_reducible show wpAny _ _ (call (Value.ref 188) [_, _, _]) _ _ _
    rename News _ _ _ _ => lN'
    refine' TNewL.go (c_formd hT hD hl hi hx h64 h112 hC) ?_ (by k_asm) (kst_newsOf lN' ?zsub) (by k_asm) (by k_asm) (by k_asm) (by first | exact rfl | assumption) (by ktr_room) (by ktr_units)
    (case zsub => kst_in)
    rintro r8 n8 vs8 T8 C8 O8 h9' tk9' F9' N9' hr8 hi8 hT8 hC8
    (try dsimp only); (try k_sweep); (try k_fold)
  refine wpAny_call ?_
  (k_dflt (refine' code_def ?k1 ?k2 ?k3 ?k4 ?k5 ?kA ?kF ?kK ?k6 ?k7 ?k8 ?k9 ?kB ?_ ?c2 ?c3 ?c4 ?c5; (case kA => exact rfl); (case kF => exact rfl); (case kK => assumption); (case k1 => k_asm); (case k2 => k_asm); (case k3 => k_asm); (case k4 => k_asm); (case k5 => k_asm); (case k6 => k_is); (case k7 => k_is); (case k8 => ktr_room); (case k9 => first | exact BindsTo.of_eq rfl | exact binds_K (by k_in) rfl (by k_is) rfl rfl rfl); (case c5 => decide); (case kB => exact locs rfl); (case c2 => exact rfl); (case c3 => exact rfl); (case c4 => exact rfl); k_whole; intro g' L' h' FG' F' N' B' X' T'; (try dsimp only); (try k_lift B'); (try k_fold)))
  k_steps
  rename Fr _ _ _ _ => lF'
  rename News _ _ _ _ => lN'
  refine' tnewL_end hret lF' lN' ?hm hi8 hr8 hT8 hC8
  case hm => kst_in
set_option maxRecDepth 100000 in
set_option maxHeartbeats 8000000 in
theorem c_nfc {w : World} {news : Led} {l k d C : Nat} {T O : Obj} {vs : List Value} {xs : List Int} (hT : TabS T C O) (hD : DataOK w news d) (hl : (l, listOf vs.toArray k) ∈ news) (hi : IntsAre vs xs) (hx : ∀ x ∈ xs, x ∈ AL) (h64 : (exps xs).length < 64) (h112 : ∀ p ∈ news, p.1 ≠ 112) (hC : ∀ p ∈ news, p.1 ≠ C) :
    CC w 202 [.ref l, .ref d] 80 ((112, T) :: (C, O) :: news) (TNewL news (cmp (ord (exps xs)))) := by
  refine CC.mk ?_; k_fill; intro p loose mean mg mb dp un gd cn cs a ccd cl outer A₀ base h₀ L m s Q E B F X N T9 hk hdp hun hret
  have hMk : KstMark := kstMark
  k_with_none
  k_with "m_allIn" => first | exact List.forall_mem_nil _ | (refine sub_cons (by k_memK) ?_; k_extra "m_allIn") | (intro p9 h9; kst_mem)
  k_with "m_ra" => first | assumption | exact And.right (by first | assumption | exact And.right (by first | assumption | exact And.right (by first | assumption | exact And.right (by first | assumption | exact And.right (by first | assumption | exact And.right (by first | assumption | exact And.right (by first | assumption | exact And.right (by assumption))))))))
  k_with "m_and" => first | k_extra "m_ra" | exact And.left (by k_extra "m_ra")
  k_with "m_neA" => first | k_extra "m_and" | (refine Ne.symm ?_; k_extra "m_and") | (refine Nat.ne_of_lt ?_; k_extra "m_and") | (refine Nat.ne_of_gt ?_; k_extra "m_and") | (refine Nat.ne_of_lt (Nat.lt_succ_of_lt ?_); k_extra "m_and")
  k_with "m_lt" => first | assumption | exact allLt_of (by assumption) | k_extra "m_and"
  k_with "kst_in" => (try dsimp only); with_unfolding_all ((try simp only [List.nil_append, List.cons_append]); k_extra "m_allIn")
  k_with "k_ne" => refine neN ?_; (try dsimp only); first | (with_reducible assumption) | (with_reducible exact Ne.symm (by assumption)) | (with_reducible exact Nat.ne_of_lt (by assumption)) | (with_reducible exact Nat.ne_of_gt (by assumption)) | with_reducible k_extra "m_neA" | k_extra "m_neA" | omega
  k_with "k_all" => first | exact List.forall_mem_nil _ | assumption | exact lt_ne (by assumption) | exact lt_ne (by k_extra "m_lt") | exact lt_ne1 (by k_extra "m_lt") | (refine ne_cons ?_ ?_; (focus k_ne); k_all) | (refine List.forall_mem_cons.mpr (And.intro ?_ ?_); (focus k_ne); k_all)
  k_with "k_in" => (rename Fr _ _ _ _ => lF8); (rename Frag.In _ _ => lX8); exact Frag.In.keeps lX8 (Fr.keep lF8)
  k_with "ktr_room" => k_dflt (first | exact rmA (by assumption) (by exact rfl) | exact rmB (by assumption))
  k_with "ktr_units" => k_dflt (first | exact unA (by assumption) (by exact rfl) | exact unC (by assumption) (by exact rfl))
  k_with "MPost" => dsimp only [MPost]
  k_with "execs cons" => with_reducible refine gen_tok ?_; intro tk9
  k_with "m_for" => k_here; (rename Fr _ _ _ _ => lF'); k_dflt (refine' For_invVF ?zF ?zk1 ?zk2 ?_ ?zs ?ze; (case zF => exact lF'); (case zk1 => exact rfl); (case zk2 => exact rfl); (case zs => (intro _; rfl)); (case ze => passes_own); k_whole)
  k_with "exec For Name Name cons nil" => k_extra "m_for"
  k_with "exec For Name Subscript cons nil" => k_extra "m_for"
  k_with "exec For Name Call cons nil" => k_extra "m_for"
  k_with "exec For Name Attribute cons nil" => k_extra "m_for"
  k_with "exec For Name Tuple cons nil" => k_extra "m_for"
  k_with "compareOp NotEq ref ref" => k_here; (with_reducible show wpAny _ _ (compareOp CmpOp.NotEq (Value.ref _) (Value.ref _)) _ _ _); k_dflt (first | refine ke_ne_ints (by is_list) (by is_list) (by l_ints) (by l_ints) (by ktr_units) ?_ | ((refine ne_dataH (by ke_read) (by ke_read) (by ke_shaped) (by ke_shaped) (by ktr_units) ?_); ke_norm))
  k_with "compareOp Eq ref ref" => k_here; (with_reducible show wpAny _ _ (compareOp CmpOp.Eq (Value.ref _) (Value.ref _)) _ _ _); k_dflt (first | refine ke_eq_ints (by is_list) (by is_list) (by l_ints) (by l_ints) (by ktr_units) ?_ | ((refine eq_dataH (by ke_read) (by ke_read) (by ke_shaped) (by ke_shaped) (by ktr_units) ?_); ke_norm))
  w_top off
  k_with "call ref cons nil" =>
    with_reducible show wpAny _ _ (call (Value.ref 188) [_, _, _]) _ _ _
    rename News _ _ _ _ => lN'
    refine' TNewL.go (c_formc hT hD hl hi hx h64 h112 hC) ?_ (by k_asm) (kst_newsOf lN' ?zsub) (by k_asm) (by k_asm) (by k_asm) (by first | exact rfl | assumption) (by ktr_room) (by ktr_units)
    (case zsub => kst_in)
    rintro r8 n8 vs8 T8 C8 O8 h9' tk9' F9' N9' hr8 hi8 hT8 hC8
    (try dsimp only); (try k_sweep); (try k_fold)
  refine wpAny_call ?_
  (k_dflt (refine' code_def ?k1 ?k2 ?k3 ?k4 ?k5 ?kA ?kF ?kK ?k6 ?k7 ?k8 ?k9 ?kB ?_ ?c2 ?c3 ?c4 ?c5; (case kA => exact rfl); (case kF => exact rfl); (case kK => assumption); (case k1 => k_asm); (case k2 => k_asm); (case k3 => k_asm); (case k4 => k_asm); (case k5 => k_asm); (case k6 => k_is); (case k7 => k_is); (case k8 => ktr_room); (case k9 => first | exact BindsTo.of_eq rfl | exact binds_K (by k_in) rfl (by k_is) rfl rfl rfl); (case c5 => decide); (case kB => exact locs rfl); (case c2 => exact rfl); (case c3 => exact rfl); (case c4 => exact rfl); k_whole; intro g' L' h' FG' F' N' B' X' T'; (try dsimp only); (try k_lift B'); (try k_fold)))
  k_steps
  rename Fr _ _ _ _ => lF'
  rename News _ _ _ _ => lN'
  refine' tnewL_end hret lF' lN' ?hm hi8 hr8 hT8 hC8
  case hm => kst_in
set_option maxRecDepth 100000 in
set_option maxHeartbeats 8000000 in
theorem c_nfkc {w : World} {news : Led} {l k d C : Nat} {T O : Obj} {vs : List Value} {xs : List Int} (hT : TabS T C O) (hD : DataOK w news d) (hl : (l, listOf vs.toArray k) ∈ news) (hi : IntsAre vs xs) (hx : ∀ x ∈ xs, x ∈ AL) (hF64 : (folds xs).length < 64) (h64 : (exps (folds xs)).length < 64) (h112 : ∀ p ∈ news, p.1 ≠ 112) (hC : ∀ p ∈ news, p.1 ≠ C) :
    CC w 209 [.ref l, .ref d] 90 ((112, T) :: (C, O) :: news) (TNewL news (nfkc xs)) := by
  refine CC.mk ?_; k_fill; intro p loose mean mg mb dp un gd cn cs a ccd cl outer A₀ base h₀ L m s Q E B F X N T9 hk hdp hun hret
  have hMk : KstMark := kstMark
  k_with_none
  k_with "m_allIn" => first | exact List.forall_mem_nil _ | (refine sub_cons (by k_memK) ?_; k_extra "m_allIn") | (intro p9 h9; kst_mem)
  k_with "m_ra" => first | assumption | exact And.right (by first | assumption | exact And.right (by first | assumption | exact And.right (by first | assumption | exact And.right (by first | assumption | exact And.right (by first | assumption | exact And.right (by first | assumption | exact And.right (by first | assumption | exact And.right (by assumption))))))))
  k_with "m_and" => first | k_extra "m_ra" | exact And.left (by k_extra "m_ra")
  k_with "m_neA" => first | k_extra "m_and" | (refine Ne.symm ?_; k_extra "m_and") | (refine Nat.ne_of_lt ?_; k_extra "m_and") | (refine Nat.ne_of_gt ?_; k_extra "m_and") | (refine Nat.ne_of_lt (Nat.lt_succ_of_lt ?_); k_extra "m_and")
  k_with "m_lt" => first | assumption | exact allLt_of (by assumption) | k_extra "m_and"
  k_with "kst_in" => (try dsimp only); with_unfolding_all ((try simp only [List.nil_append, List.cons_append]); k_extra "m_allIn")
  k_with "k_ne" => refine neN ?_; (try dsimp only); first | (with_reducible assumption) | (with_reducible exact Ne.symm (by assumption)) | (with_reducible exact Nat.ne_of_lt (by assumption)) | (with_reducible exact Nat.ne_of_gt (by assumption)) | with_reducible k_extra "m_neA" | k_extra "m_neA" | omega
  k_with "k_all" => first | exact List.forall_mem_nil _ | assumption | exact lt_ne (by assumption) | exact lt_ne (by k_extra "m_lt") | exact lt_ne1 (by k_extra "m_lt") | (refine ne_cons ?_ ?_; (focus k_ne); k_all) | (refine List.forall_mem_cons.mpr (And.intro ?_ ?_); (focus k_ne); k_all)
  k_with "k_in" => (rename Fr _ _ _ _ => lF8); (rename Frag.In _ _ => lX8); exact Frag.In.keeps lX8 (Fr.keep lF8)
  k_with "ktr_room" => k_dflt (first | exact rmA (by assumption) (by exact rfl) | exact rmB (by assumption))
  k_with "ktr_units" => k_dflt (first | exact unA (by assumption) (by exact rfl) | exact unC (by assumption) (by exact rfl))
  k_with "MPost" => dsimp only [MPost]
  k_with "execs cons" => with_reducible refine gen_tok ?_; intro tk9
  k_with "m_for" => k_here; (rename Fr _ _ _ _ => lF'); k_dflt (refine' For_invVF ?zF ?zk1 ?zk2 ?_ ?zs ?ze; (case zF => exact lF'); (case zk1 => exact rfl); (case zk2 => exact rfl); (case zs => (intro _; rfl)); (case ze => passes_own); k_whole)
  k_with "exec For Name Name cons nil" => k_extra "m_for"
  k_with "exec For Name Subscript cons nil" => k_extra "m_for"
  k_with "exec For Name Call cons nil" => k_extra "m_for"
  k_with "exec For Name Attribute cons nil" => k_extra "m_for"
  k_with "exec For Name Tuple cons nil" => k_extra "m_for"
  k_with "compareOp NotEq ref ref" => k_here; (with_reducible show wpAny _ _ (compareOp CmpOp.NotEq (Value.ref _) (Value.ref _)) _ _ _); k_dflt (first | refine ke_ne_ints (by is_list) (by is_list) (by l_ints) (by l_ints) (by ktr_units) ?_ | ((refine ne_dataH (by ke_read) (by ke_read) (by ke_shaped) (by ke_shaped) (by ktr_units) ?_); ke_norm))
  k_with "compareOp Eq ref ref" => k_here; (with_reducible show wpAny _ _ (compareOp CmpOp.Eq (Value.ref _) (Value.ref _)) _ _ _); k_dflt (first | refine ke_eq_ints (by is_list) (by is_list) (by l_ints) (by l_ints) (by ktr_units) ?_ | ((refine eq_dataH (by ke_read) (by ke_read) (by ke_shaped) (by ke_shaped) (by ktr_units) ?_); ke_norm))
  w_top off
  obtain ⟨dx, df, mp, pr, wd, w1, w2, w3, w4, n4, i1, i2⟩ := hD.inst
  k_with "pyIter ref" =>
    rename Fr _ _ _ _ => lF'
    rename News _ _ _ _ => lN'
    with_unfolding_all refine' mfor (σ := LstS) (l := l) (vs := vs.toArray) (nn := k) (LstL ((112, T) :: (C, O) :: news)) (fun c => [(Str.ofString "found", .ref c.fa)]) [Str.ofString "known"] (LstP ((112, T) :: (C, O) :: news) (fun i => folds (xs.take i))) ⟨_, [], [], 0⟩ rfl (fun c => .tail _ (.tail _ (.tail _ hl))) lF' (kst_newsOf lN' ?sub) ?kk ?pp ?_ ?_
    (case kk => kst_all)
    (case sub => dsimp only [LstL]; kst_in)
    (case pp => exact ⟨.nil, rfl, by walk_at "m_lt"⟩)
    clear lF' lN'
    rintro I9 oI9 ⟨fa, fvs, fcs, fn⟩ i9 v9 u9 h9 tk9 hv9 hP9 hne9 F9 N9
    obtain ⟨p1, p2, p3⟩ := hP9
    (dsimp only [LstL] at p1 p2 p3 N9 F9 hne9)
    (have g9 := gnNe_of hne9); (dsimp only [GnNe] at g9)
    obtain ⟨x9, t9, rfl, hx9⟩ := IntsAre.at hi i9 v9 (by simpa using hv9)
    have hxA := hx x9 (List.mem_of_getElem? hx9)
    have hes := folds_snoc hx9
    have hlen9 := p1.length
    have hle9 := folds_le (xs := xs) (i9 + 1)
    rw [hes, ← p2] at hle9
    (try k_fold)
    rotate_left 1
    rintro ⟨fa, fvs, fcs, fn⟩ u9 h9 tk9 hP9 F9 N9
    obtain ⟨p1, p2, p3⟩ := hP9
    (dsimp only [LstL] at p1 p2 p3 N9 F9)
    rw [List.take_of_length_le (by have := hi.length; simp; omega)] at p2
    subst p2
    (try k_fold)
    rotate_left 1
  k_with "call ref cons nil" =>
    with_reducible show wpAny _ _ (call (Value.ref 326) [Value.ref _, Value.str _ _, Value.int _ _]) _ _ _
    refine cc_go (g_cf (news0 := news) ?zM hD hxA _ _) ?_ (by k_asm) (by k_asm) (by k_asm) (by k_asm) (by k_asm) (by first | exact rfl | assumption) (by ktr_room) (by ktr_units)
    (case zM => kst_in)
    intro v9' news9 h9' tk9' F9' N9' P9'
    obtain ⟨rfl, ⟨ht9, rfl⟩ | ⟨a9, us9, ht9, rfl, ts9, nt9, hm9, hu9⟩⟩ := P9'
    all_goals ((try dsimp only); (try k_sweep); (try k_fold))
  k_with "call builtin:list.extend cons nil" =>
    have hul := hu9.length
    have hft : fold1 x9 = us9 := by unfold fold1; rw [ht9]; rfl
    k_dflt (refine' m_extendT (vs := fvs) (us := ts9) ?F ?N ?U ?b ?z ?_; (case F => k_asm); (case N => k_asm); (case U => k_updF); (case b => k_mem); (case z => (rw [hft] at hle9; simp only [List.length_append] at hle9; omega)))
    intro h' n' F' N'; (try dsimp only at N'); (try k_sweep)
  k_with "call builtin:list.append cons nil" =>
    have hft : fold1 x9 = [x9] := by unfold fold1; rw [ht9]; rfl
    k_dflt (refine' m_append (vs := fvs) ?F ?N ?U ?z ?_; (case F => k_asm); (case N => k_asm); (case U => k_updF); (case z => (simp only [List.length_append] at hle9; omega)))
    intro h' n' F' N'; (try dsimp only at N'); (try k_sweep)
  k_with "MEnd" =>
    rename Fr _ _ _ _ => lF'
    rename News _ _ _ _ => lN'
    first
      | (refine' mend (⟨fa, fvs ++ ts9, fcs ++ fold1 x9, _⟩ : LstS) lF' lN' ?hI ?hn ?hne ?hk ?hr ?hp; (case hp => exact ⟨IntsAre.append p1 (by rw [hft]; exact hu9), by dsimp only; rw [hes, ← p2], p3⟩))
      | (refine' mend (⟨fa, fvs ++ [.int x9 t9], fcs ++ fold1 x9, _⟩ : LstS) lF' lN' ?hI ?hn ?hne ?hk ?hr ?hp; (case hp => exact ⟨IntsAre.append p1 (by rw [hft]; exact .cons _ _ .nil), by dsimp only; rw [hes, ← p2], p3⟩))
    (case hk => kst_all)
    (case hI => k_mem)
    (case hn => dsimp only [LstL]; kst_in)
    (case hne => exact ne_map hne9 rfl)
    (case hr => (intro z9 g1 g2 g3; (simp only [List.forall_mem_cons, List.not_mem_nil, false_implies, implies_true, and_true, ne_eq] at g2); (simp only [List.contains_cons, List.contains_nil, Bool.or_false, Bool.or_eq_false_iff, beq_eq_false_iff_ne, ne_eq] at g3); (simp [kstB, g1, g2, g3]; done)))
  k_with "call ref cons nil" =>
    with_reducible show wpAny _ _ (call (Value.ref 202) [Value.ref _, Value.ref _]) _ _ _
    rename News _ _ _ _ => lN'
    refine' TNewL.go (c_nfc (news := (fa, listOf fvs.toArray fn) :: news) hT (hD.mono ?mo) (.head _) p1 ?al h64 ?x1 ?x2) ?_ (by k_asm) (kst_newsOf lN' ?sub) (by k_asm) (by k_asm) (by k_asm) (by first | exact rfl | assumption) (by ktr_room) (by ktr_units)
    (case sub => kst_in)
    (case mo => kst_in)
    (case al => exact folds_al hx)
    (case x1 => k_all)
    (case x2 => k_all)
    rintro r8 n8 vs8 T8 C8 O8 h9' tk9' F9' N9' hr8 hi8 hT8 hC8
    (try dsimp only); (try k_sweep); (try k_fold)
  refine wpAny_call ?_
  (k_dflt (refine' code_def ?k1 ?k2 ?k3 ?k4 ?k5 ?kA ?kF ?kK ?k6 ?k7 ?k8 ?k9 ?kB ?_ ?c2 ?c3 ?c4 ?c5; (case kA => exact rfl); (case kF => exact rfl); (case kK => assumption); (case k1 => k_asm); (case k2 => k_asm); (case k3 => k_asm); (case k4 => k_asm); (case k5 => k_asm); (case k6 => k_is); (case k7 => k_is); (case k8 => ktr_room); (case k9 => first | exact BindsTo.of_eq rfl | exact binds_K (by k_in) rfl (by k_is) rfl rfl rfl); (case c5 => decide); (case kB => exact locs rfl); (case c2 => exact rfl); (case c3 => exact rfl); (case c4 => exact rfl); k_whole; intro g' L' h' FG' F' N' B' X' T'; (try dsimp only); (try k_lift B'); (try k_fold)))
  k_steps
  rename Fr _ _ _ _ => lF'
  rename News _ _ _ _ => lN'
  refine' tnewL_end hret lF' lN' ?hm hi8 ?hr hT8 fun p hp => hC8 p (.tail _ hp)
  case hm => kst_in
  case hr => exact fun p hp => hr8 p (by revert p; kst_in)
end
section
def casl (xs : List Int) : List Int := nfkc (ord (exps xs))
/-- room for the foldings of a text -/
def Room (xs : List Int) : Prop := (exps xs).length < 64 ∧ (folds xs).length < 64 ∧ (exps (folds xs)).length < 64 ∧ (folds (ord (exps xs))).length < 64 ∧ (exps (folds (ord (exps xs)))).length < 64
inductive TBool (news : Led) (b : Bool) (news' : Led) (y : Value) : Prop
  | mk (T : Obj) (C : Nat) (O : Obj) (q1 : Value.bool b = y) (q2 : (112, T) :: (C, O) :: news = news') (q3 : TabS T C O) (q4 : ∀ p ∈ news, p.1 ≠ C) : TBool news b news' y
theorem TBool.go {wz : World} {fz : Addr} {vz : List Value} {kz : Nat} {ledz : Led} {news : Led} {b : Bool} (Cz : CC wz fz vz kz ledz (TBool news b))
  {pz : Program} {lz : List Str} {mnz : ExcName → Option Value} {mgz mbz : Str → Option Value} {dpz unz : Nat} {gdz : Option (List Code)} {cnz : Str} {csz : Scope} {az : Addr} {cdz : Value} {clz : List (Str × Addr)} {otz : List Env} {A₀ : Around} {basez h₀ : Heap} {Lz : Addr} {mz : Str → Option Value} {sz : Shared} {Qz Ez : Value → Shared → Prop}
  (ret : ∀ (T : Obj) (C : Nat) (O : Obj) (hz : Heap) (tkz : Nat), Fr h₀ Lz hz mz → News h₀ Lz hz ((112, T) :: (C, O) :: news) → (TabS T C O) → (∀ p ∈ news, p.1 ≠ C) → Qz (Value.bool b) { sz with heap := hz, toks := tkz })
  (F : Fr h₀ Lz sz.heap mz) (N : News h₀ Lz sz.heap ledz) (B : Below A₀ basez otz h₀) (X : (hd.heap_1_39 wz.params).In h₀) (T : Top pz lz mnz mgz mbz h₀) (hk : csz.kind = .function)
  (hd : dpz + kz < recursionLimit) (hu : unz + 8 * kz < cLine) :
    wpAny (model PySem.Challenge.rw_on0371_01.prog wz) (ktrTop dpz unz gdz cnz csz Lz az cdz clz otz) (call (.ref fz) vz) Qz Ez sz := by
  refine cc_go Cz (fun v news9 h9 tk9 F9 N9 P9 => ?_) F N B X T hk hd hu
  obtain ⟨T, C, O, rfl, rfl, q3, q4⟩ := P9
  exact ret T C O h9 tk9 F9 N9 q3 q4
set_option maxRecDepth 100000 in
set_option maxHeartbeats 8000000 in
theorem c_cas {w : World} {news : Led} {l k d C : Nat} {T O : Obj} {vs : List Value} {xs : List Int} (hT : TabS T C O) (hD : DataOK w news d) (hl : (l, listOf vs.toArray k) ∈ news) (hi : IntsAre vs xs) (hx : ∀ x ∈ xs, x ∈ AL) (hR : Room xs) (h112 : ∀ p ∈ news, p.1 ≠ 112) (hC : ∀ p ∈ news, p.1 ≠ C) :
    CC w 216 [.ref l, .ref d] 100 ((112, T) :: (C, O) :: news) (TNewL news (casl xs)) := by
  refine CC.mk ?_; k_fill; intro p loose mean mg mb dp un gd cn cs a ccd cl outer A₀ base h₀ L m s Q E B F X N T9 hk hdp hun hret
  have hMk : KstMark := kstMark
  k_with_none
  k_with "m_allIn" => first | exact List.forall_mem_nil _ | (refine sub_cons (by k_memK) ?_; k_extra "m_allIn") | (intro p9 h9; kst_mem)
  k_with "m_ra" => first | assumption | exact And.right (by first | assumption | exact And.right (by first | assumption | exact And.right (by first | assumption | exact And.right (by first | assumption | exact And.right (by first | assumption | exact And.right (by first | assumption | exact And.right (by first | assumption | exact And.right (by assumption))))))))
  k_with "m_and" => first | k_extra "m_ra" | exact And.left (by k_extra "m_ra")
  k_with "m_neA" => first | k_extra "m_and" | (refine Ne.symm ?_; k_extra "m_and") | (refine Nat.ne_of_lt ?_; k_extra "m_and") | (refine Nat.ne_of_gt ?_; k_extra "m_and") | (refine Nat.ne_of_lt (Nat.lt_succ_of_lt ?_); k_extra "m_and")
  k_with "m_lt" => first | assumption | exact allLt_of (by assumption) | k_extra "m_and"
  k_with "kst_in" => (try dsimp only); with_unfolding_all ((try simp only [List.nil_append, List.cons_append]); k_extra "m_allIn")
  k_with "k_ne" => refine neN ?_; (try dsimp only); first | (with_reducible assumption) | (with_reducible exact Ne.symm (by assumption)) | (with_reducible exact Nat.ne_of_lt (by assumption)) | (with_reducible exact Nat.ne_of_gt (by assumption)) | with_reducible k_extra "m_neA" | k_extra "m_neA" | omega
  k_with "k_all" => first | exact List.forall_mem_nil _ | assumption | exact lt_ne (by assumption) | exact lt_ne (by k_extra "m_lt") | exact lt_ne1 (by k_extra "m_lt") | (refine ne_cons ?_ ?_; (focus k_ne); k_all) | (refine List.forall_mem_cons.mpr (And.intro ?_ ?_); (focus k_ne); k_all)
  k_with "k_in" => (rename Fr _ _ _ _ => lF8); (rename Frag.In _ _ => lX8); exact Frag.In.keeps lX8 (Fr.keep lF8)
  k_with "ktr_room" => k_dflt (first | exact rmA (by assumption) (by exact rfl) | exact rmB (by assumption))
  k_with "ktr_units" => k_dflt (first | exact unA (by assumption) (by exact rfl) | exact unC (by assumption) (by exact rfl))
  k_with "MPost" => dsimp only [MPost]
  k_with "execs cons" => with_reducible refine gen_tok ?_; intro tk9
  k_with "m_for" => k_here; (rename Fr _ _ _ _ => lF'); k_dflt (refine' For_invVF ?zF ?zk1 ?zk2 ?_ ?zs ?ze; (case zF => exact lF'); (case zk1 => exact rfl); (case zk2 => exact rfl); (case zs => (intro _; rfl)); (case ze => passes_own); k_whole)
  k_with "exec For Name Name cons nil" => k_extra "m_for"
  k_with "exec For Name Subscript cons nil" => k_extra "m_for"
  k_with "exec For Name Call cons nil" => k_extra "m_for"
  k_with "exec For Name Attribute cons nil" => k_extra "m_for"
  k_with "exec For Name Tuple cons nil" => k_extra "m_for"
  k_with "compareOp NotEq ref ref" => k_here; (with_reducible show wpAny _ _ (compareOp CmpOp.NotEq (Value.ref _) (Value.ref _)) _ _ _); k_dflt (first | refine ke_ne_ints (by is_list) (by is_list) (by l_ints) (by l_ints) (by ktr_units) ?_ | ((refine ne_dataH (by ke_read) (by ke_read) (by ke_shaped) (by ke_shaped) (by ktr_units) ?_); ke_norm))
  k_with "compareOp Eq ref ref" => k_here; (with_reducible show wpAny _ _ (compareOp CmpOp.Eq (Value.ref _) (Value.ref _)) _ _ _); k_dflt (first | refine ke_eq_ints (by is_list) (by is_list) (by l_ints) (by l_ints) (by ktr_units) ?_ | ((refine eq_dataH (by ke_read) (by ke_read) (by ke_shaped) (by ke_shaped) (by ktr_units) ?_); ke_norm))
  w_top off
  k_with "call ref cons nil" =>
    with_reducible show wpAny _ _ (call (Value.ref 195) [_, _]) _ _ _
    rename News _ _ _ _ => lN'
    refine' TNewL.go (c_nfd hT hD hl hi hx hR.1 h112 hC) ?_ (by k_asm) (kst_newsOf lN' ?zsub) (by k_asm) (by k_asm) (by k_asm) (by first | exact rfl | assumption) (by ktr_room) (by ktr_units)
    (case zsub => kst_in)
    rintro r8 n8 vs8 T8 C8 O8 h9' tk9' F9' N9' hr8 hi8 hT8 hC8
    have g8 := hr8 _ (.head _)
    have g7 := hr8 _ (.tail _ (.head _))
    dsimp only at g8 g7
    (try dsimp only); (try k_sweep); (try k_fold)
  k_with "call ref cons nil" =>
    with_reducible show wpAny _ _ (call (Value.ref 209) [_, _]) _ _ _
    rename News _ _ _ _ => lN'
    refine' TNewL.go (c_nfkc (news := (r8, listOf vs8.toArray n8) :: news) hT8 (hD.mono ?zmo) (.head _) hi8 (ord_al (exps_al hx)) hR.2.2.2.1 hR.2.2.2.2 ?z1 ?z2) ?_ (by k_asm) (kst_newsOf lN' ?zsub) (by k_asm) (by k_asm) (by k_asm) (by first | exact rfl | assumption) (by ktr_room) (by ktr_units)
    (case zsub => kst_in)
    (case zmo => kst_in)
    (case z1 => exact List.forall_mem_cons.mpr ⟨Ne.symm g8, h112⟩)
    (case z2 => exact List.forall_mem_cons.mpr ⟨Ne.symm g7, hC8⟩)
    rintro r7 n7 vs7 T7 C7 O7 h9' tk9' F9' N9' hr7 hi7 hT7 hC7
    (try dsimp only); (try k_sweep); (try k_fold)
  refine wpAny_call ?_
  (k_dflt (refine' code_def ?k1 ?k2 ?k3 ?k4 ?k5 ?kA ?kF ?kK ?k6 ?k7 ?k8 ?k9 ?kB ?_ ?c2 ?c3 ?c4 ?c5; (case kA => exact rfl); (case kF => exact rfl); (case kK => assumption); (case k1 => k_asm); (case k2 => k_asm); (case k3 => k_asm); (case k4 => k_asm); (case k5 => k_asm); (case k6 => k_is); (case k7 => k_is); (case k8 => ktr_room); (case k9 => first | exact BindsTo.of_eq rfl | exact binds_K (by k_in) rfl (by k_is) rfl rfl rfl); (case c5 => decide); (case kB => exact locs rfl); (case c2 => exact rfl); (case c3 => exact rfl); (case c4 => exact rfl); k_whole; intro g' L' h' FG' F' N' B' X' T'; (try dsimp only); (try k_lift B'); (try k_fold)))
  k_steps
  rename Fr _ _ _ _ => lF'
  rename News _ _ _ _ => lN'
  refine' tnewL_end hret lF' lN' ?hm hi7 ?hr hT7 fun p hp => hC7 p (.tail _ hp)
  case hm => kst_in
  case hr => exact fun p hp => hr7 p (by revert p; kst_in)
set_option maxRecDepth 100000 in
set_option maxHeartbeats 8000000 in
theorem c_mat {w : World} {news : Led} {l1 k1 l2 k2 d C : Nat} {T O : Obj} {vs ws : List Value} {xs ys : List Int} (hT : TabS T C O) (hD : DataOK w news d) (hl1 : (l1, listOf vs.toArray k1) ∈ news) (hi1 : IntsAre vs xs) (hx1 : ∀ x ∈ xs, x ∈ AL) (hR1 : Room xs)
    (hl2 : (l2, listOf ws.toArray k2) ∈ news) (hi2 : IntsAre ws ys) (hx2 : ∀ x ∈ ys, x ∈ AL) (hR2 : Room ys) (h112 : ∀ p ∈ news, p.1 ≠ 112) (hC : ∀ p ∈ news, p.1 ≠ C) :
    CC w 223 [.ref l1, .ref l2, .ref d] 120 ((112, T) :: (C, O) :: news) (TBool news (decide (casl xs = casl ys))) := by
  refine CC.mk ?_; k_fill; intro p loose mean mg mb dp un gd cn cs a ccd cl outer A₀ base h₀ L m s Q E B F X N T9 hk hdp hun hret
  have hMk : KstMark := kstMark
  k_with_none
  k_with "m_allIn" => first | exact List.forall_mem_nil _ | (refine sub_cons (by k_memK) ?_; k_extra "m_allIn") | (intro p9 h9; kst_mem)
  k_with "m_ra" => first | assumption | exact And.right (by first | assumption | exact And.right (by first | assumption | exact And.right (by first | assumption | exact And.right (by first | assumption | exact And.right (by first | assumption | exact And.right (by first | assumption | exact And.right (by first | assumption | exact And.right (by assumption))))))))
  k_with "m_and" => first | k_extra "m_ra" | exact And.left (by k_extra "m_ra")
  k_with "m_neA" => first | k_extra "m_and" | (refine Ne.symm ?_; k_extra "m_and") | (refine Nat.ne_of_lt ?_; k_extra "m_and") | (refine Nat.ne_of_gt ?_; k_extra "m_and") | (refine Nat.ne_of_lt (Nat.lt_succ_of_lt ?_); k_extra "m_and")
  k_with "m_lt" => first | assumption | exact allLt_of (by assumption) | k_extra "m_and"
  k_with "kst_in" => (try dsimp only); with_unfolding_all ((try simp only [List.nil_append, List.cons_append]); k_extra "m_allIn")
  k_with "k_ne" => refine neN ?_; (try dsimp only); first | (with_reducible assumption) | (with_reducible exact Ne.symm (by assumption)) | (with_reducible exact Nat.ne_of_lt (by assumption)) | (with_reducible exact Nat.ne_of_gt (by assumption)) | with_reducible k_extra "m_neA" | k_extra "m_neA" | omega
  k_with "k_all" => first | exact List.forall_mem_nil _ | assumption | exact lt_ne (by assumption) | exact lt_ne (by k_extra "m_lt") | exact lt_ne1 (by k_extra "m_lt") | (refine ne_cons ?_ ?_; (focus k_ne); k_all) | (refine List.forall_mem_cons.mpr (And.intro ?_ ?_); (focus k_ne); k_all)
  k_with "k_in" => (rename Fr _ _ _ _ => lF8); (rename Frag.In _ _ => lX8); exact Frag.In.keeps lX8 (Fr.keep lF8)
  k_with "ktr_room" => k_dflt (first | exact rmA (by assumption) (by exact rfl) | exact rmB (by assumption))
  k_with "ktr_units" => k_dflt (first | exact unA (by assumption) (by exact rfl) | exact unC (by assumption) (by exact rfl))
  k_with "MPost" => dsimp only [MPost]
  k_with "execs cons" => with_reducible refine gen_tok ?_; intro tk9
  k_with "m_for" => k_here; (rename Fr _ _ _ _ => lF'); k_dflt (refine' For_invVF ?zF ?zk1 ?zk2 ?_ ?zs ?ze; (case zF => exact lF'); (case zk1 => exact rfl); (case zk2 => exact rfl); (case zs => (intro _; rfl)); (case ze => passes_own); k_whole)
  k_with "exec For Name Name cons nil" => k_extra "m_for"
  k_with "exec For Name Subscript cons nil" => k_extra "m_for"
  k_with "exec For Name Call cons nil" => k_extra "m_for"
  k_with "exec For Name Attribute cons nil" => k_extra "m_for"
  k_with "exec For Name Tuple cons nil" => k_extra "m_for"
  k_with "compareOp NotEq ref ref" => k_here; (with_reducible show wpAny _ _ (compareOp CmpOp.NotEq (Value.ref _) (Value.ref _)) _ _ _); k_dflt (first | refine ke_ne_ints (by is_list) (by is_list) (by l_ints) (by l_ints) (by ktr_units) ?_ | ((refine ne_dataH (by ke_read) (by ke_read) (by ke_shaped) (by ke_shaped) (by ktr_units) ?_); ke_norm))
  k_with "compareOp Eq ref ref" => k_here; (with_reducible show wpAny _ _ (compareOp CmpOp.Eq (Value.ref _) (Value.ref _)) _ _ _); k_dflt (first | refine ke_eq_ints (by is_list) (by is_list) (by l_ints) (by l_ints) (by ktr_units) ?_ | ((refine eq_dataH (by ke_read) (by ke_read) (by ke_shaped) (by ke_shaped) (by ktr_units) ?_); ke_norm))
  w_top off
  k_with "call ref cons nil" =>
    with_reducible show wpAny _ _ (call (Value.ref 216) [_, _]) _ _ _
    rename News _ _ _ _ => lN'
    first
      | (refine' TNewL.go (c_cas (news := (r8, listOf vs8.toArray n8) :: news) hT8 (hD.mono ?zmo) (.tail _ hl2) hi2 hx2 hR2 ?z1 ?z2) ?_ (by k_asm) (kst_newsOf lN' ?zsub) (by k_asm) (by k_asm) (by k_asm) (by first | exact rfl | assumption) (by ktr_room) (by ktr_units); (case zsub => kst_in); (case zmo => kst_in); (case z1 => exact List.forall_mem_cons.mpr ⟨Ne.symm g8, h112⟩); (case z2 => exact List.forall_mem_cons.mpr ⟨Ne.symm g7, hC8⟩); rintro r7 n7 vs7 T7 C7 O7 h9' tk9' F9' N9' hr7 hi7 hT7 hC7; (try dsimp only); (try k_sweep); (try k_fold))
      | (refine' TNewL.go (c_cas hT hD hl1 hi1 hx1 hR1 h112 hC) ?_ (by k_asm) (kst_newsOf lN' ?zsub) (by k_asm) (by k_asm) (by k_asm) (by first | exact rfl | assumption) (by ktr_room) (by ktr_units); (case zsub => kst_in); rintro r8 n8 vs8 T8 C8 O8 h9' tk9' F9' N9' hr8 hi8 hT8 hC8; have g8 := hr8 _ (.head _); have g7 := hr8 _ (.tail _ (.head _)); dsimp only at g8 g7; (try dsimp only); (try k_sweep); (try k_fold))
  refine wpAny_call ?_
  (k_dflt (refine' code_def ?k1 ?k2 ?k3 ?k4 ?k5 ?kA ?kF ?kK ?k6 ?k7 ?k8 ?k9 ?kB ?_ ?c2 ?c3 ?c4 ?c5; (case kA => exact rfl); (case kF => exact rfl); (case kK => assumption); (case k1 => k_asm); (case k2 => k_asm); (case k3 => k_asm); (case k4 => k_asm); (case k5 => k_asm); (case k6 => k_is); (case k7 => k_is); (case k8 => ktr_room); (case k9 => first | exact BindsTo.of_eq rfl | exact binds_K (by k_in) rfl (by k_is) rfl rfl rfl); (case c5 => decide); (case kB => exact locs rfl); (case c2 => exact rfl); (case c3 => exact rfl); (case c4 => exact rfl); k_whole; intro g' L' h' FG' F' N' B' X' T'; (try dsimp only); (try k_lift B'); (try k_fold)))
  k_steps
  rename Fr _ _ _ _ => lF'
  rename News _ _ _ _ => lN'
  refine' hret _ _ _ _ lF' (kst_newsOf lN' ?zs) ⟨T7, C7, O7, rfl, rfl, hT7, fun p hp => hC7 p (.tail _ hp)⟩
  case zs => kst_in
set_option maxRecDepth 100000 in
set_option maxHeartbeats 8000000 in
theorem c_chg {w : World} {news : Led} {l k d C : Nat} {T O : Obj} {vs : List Value} {xs : List Int} (hT : TabS T C O) (hD : DataOK w news d) (hl : (l, listOf vs.toArray k) ∈ news) (hi : IntsAre vs xs) (hx : ∀ x ∈ xs, x ∈ AL) (hR : Room xs) (hL : xs.length < 64) (h112 : ∀ p ∈ news, p.1 ≠ 112) (hC : ∀ p ∈ news, p.1 ≠ C) :
    CC w 230 [.ref l, .ref d] 100 ((112, T) :: (C, O) :: news) (TBool news (!decide (nfkc xs = xs))) := by
  refine CC.mk ?_; k_fill; intro p loose mean mg mb dp un gd cn cs a ccd cl outer A₀ base h₀ L m s Q E B F X N T9 hk hdp hun hret
  have hMk : KstMark := kstMark
  k_with_none
  k_with "m_allIn" => first | exact List.forall_mem_nil _ | (refine sub_cons (by k_memK) ?_; k_extra "m_allIn") | (intro p9 h9; kst_mem)
  k_with "m_ra" => first | assumption | exact And.right (by first | assumption | exact And.right (by first | assumption | exact And.right (by first | assumption | exact And.right (by first | assumption | exact And.right (by first | assumption | exact And.right (by first | assumption | exact And.right (by first | assumption | exact And.right (by assumption))))))))
  k_with "m_and" => first | k_extra "m_ra" | exact And.left (by k_extra "m_ra")
  k_with "m_neA" => first | k_extra "m_and" | (refine Ne.symm ?_; k_extra "m_and") | (refine Nat.ne_of_lt ?_; k_extra "m_and") | (refine Nat.ne_of_gt ?_; k_extra "m_and") | (refine Nat.ne_of_lt (Nat.lt_succ_of_lt ?_); k_extra "m_and")
  k_with "m_lt" => first | assumption | exact allLt_of (by assumption) | k_extra "m_and"
  k_with "kst_in" => (try dsimp only); with_unfolding_all ((try simp only [List.nil_append, List.cons_append]); k_extra "m_allIn")
  k_with "k_ne" => refine neN ?_; (try dsimp only); first | (with_reducible assumption) | (with_reducible exact Ne.symm (by assumption)) | (with_reducible exact Nat.ne_of_lt (by assumption)) | (with_reducible exact Nat.ne_of_gt (by assumption)) | with_reducible k_extra "m_neA" | k_extra "m_neA" | omega
  k_with "k_all" => first | exact List.forall_mem_nil _ | assumption | exact lt_ne (by assumption) | exact lt_ne (by k_extra "m_lt") | exact lt_ne1 (by k_extra "m_lt") | (refine ne_cons ?_ ?_; (focus k_ne); k_all) | (refine List.forall_mem_cons.mpr (And.intro ?_ ?_); (focus k_ne); k_all)
  k_with "k_in" => (rename Fr _ _ _ _ => lF8); (rename Frag.In _ _ => lX8); exact Frag.In.keeps lX8 (Fr.keep lF8)
  k_with "ktr_room" => k_dflt (first | exact rmA (by assumption) (by exact rfl) | exact rmB (by assumption))
  k_with "ktr_units" => k_dflt (first | exact unA (by assumption) (by exact rfl) | exact unC (by assumption) (by exact rfl))
  k_with "MPost" => dsimp only [MPost]
  k_with "execs cons" => with_reducible refine gen_tok ?_; intro tk9
  k_with "m_for" => k_here; (rename Fr _ _ _ _ => lF'); k_dflt (refine' For_invVF ?zF ?zk1 ?zk2 ?_ ?zs ?ze; (case zF => exact lF'); (case zk1 => exact rfl); (case zk2 => exact rfl); (case zs => (intro _; rfl)); (case ze => passes_own); k_whole)
  k_with "exec For Name Name cons nil" => k_extra "m_for"
  k_with "exec For Name Subscript cons nil" => k_extra "m_for"
  k_with "exec For Name Call cons nil" => k_extra "m_for"
  k_with "exec For Name Attribute cons nil" => k_extra "m_for"
  k_with "exec For Name Tuple cons nil" => k_extra "m_for"
  k_with "compareOp NotEq ref ref" => k_here; (with_reducible show wpAny _ _ (compareOp CmpOp.NotEq (Value.ref _) (Value.ref _)) _ _ _); k_dflt (first | refine ke_ne_ints (by is_list) (by is_list) (by l_ints) (by l_ints) (by ktr_units) ?_ | ((refine ne_dataH (by ke_read) (by ke_read) (by ke_shaped) (by ke_shaped) (by ktr_units) ?_); ke_norm))
  k_with "compareOp Eq ref ref" => k_here; (with_reducible show wpAny _ _ (compareOp CmpOp.Eq (Value.ref _) (Value.ref _)) _ _ _); k_dflt (first | refine ke_eq_ints (by is_list) (by is_list) (by l_ints) (by l_ints) (by ktr_units) ?_ | ((refine eq_dataH (by ke_read) (by ke_read) (by ke_shaped) (by ke_shaped) (by ktr_units) ?_); ke_norm))
  w_top off
  k_with "call ref cons nil" =>
    with_reducible show wpAny _ _ (call (Value.ref 209) [_, _]) _ _ _
    rename News _ _ _ _ => lN'
    refine' TNewL.go (c_nfkc hT hD hl hi hx hR.2.1 hR.2.2.1 h112 hC) ?_ (by k_asm) (kst_newsOf lN' ?zsub) (by k_asm) (by k_asm) (by k_asm) (by first | exact rfl | assumption) (by ktr_room) (by ktr_units)
    (case zsub => kst_in)
    rintro r8 n8 vs8 T8 C8 O8 h9' tk9' F9' N9' hr8 hi8 hT8 hC8
    (try dsimp only); (try k_sweep); (try k_fold)
  k_with "call type:list cons nil" =>
    rename Fr _ _ _ _ => lF'
    rename News _ _ _ _ => lN'
    k_dflt (refine' kup_listOf (zs := vs) lF' lN' (b := l) ?zb rfl ?_ ?zz; (case zb => k_mem); (case zz => (rw [sizeLine_eq]; have := hi.length; simp; omega)))
    intro D' c' h' F' N' l1; (try k_lt l1); (try k_sweep)
  refine wpAny_call ?_
  (k_dflt (refine' code_def ?k1 ?k2 ?k3 ?k4 ?k5 ?kA ?kF ?kK ?k6 ?k7 ?k8 ?k9 ?kB ?_ ?c2 ?c3 ?c4 ?c5; (case kA => exact rfl); (case kF => exact rfl); (case kK => assumption); (case k1 => k_asm); (case k2 => k_asm); (case k3 => k_asm); (case k4 => k_asm); (case k5 => k_asm); (case k6 => k_is); (case k7 => k_is); (case k8 => ktr_room); (case k9 => first | exact BindsTo.of_eq rfl | exact binds_K (by k_in) rfl (by k_is) rfl rfl rfl); (case c5 => decide); (case kB => exact locs rfl); (case c2 => exact rfl); (case c3 => exact rfl); (case c4 => exact rfl); k_whole; intro g' L' h' FG' F' N' B' X' T'; (try dsimp only); (try k_lift B'); (try k_fold)))
  k_steps
  rename Fr _ _ _ _ => lF'
  rename News _ _ _ _ => lN'
  refine' hret _ _ _ _ lF' (kst_newsOf lN' ?zs) ⟨T8, C8, O8, rfl, rfl, hT8, hC8⟩
  case zs => kst_in
end
section
theorem ints_of : ∀ (vs : List Value) (ks : List Int), vs.length = ks.length → (∀ (j : Nat) (v : Value), vs[j]? = some v → ∃ k t, ks[j]? = some k ∧ v = .int k t) → IntsAre vs ks
  | [], [], _, _ => .nil
  | [], _ :: _, h, _ => by simp at h
  | _ :: _, [], h, _ => by simp at h
  | v :: vs, k :: ks, h, hv => by
    obtain ⟨k', t, e, rfl⟩ := hv 0 v rfl
    cases e
    exact .cons k t (ints_of vs ks (by simpa using h) fun j u hu => hv (j + 1) u hu)
theorem m_sortedD {prog : Program} {w : World} {A : Around} {E : Value → Shared → Prop} {s : Shared} {h₀ : Heap} {L d : Addr} {m : Str → Option Value} {news : Led} {o : Obj} {kvs : List (Int × Value)} {q : List Int} {Q : Value → Shared → Prop}
    (hh : A.handled = none) (F : Fr h₀ L s.heap m) (N : News h₀ L s.heap news) (hm : (d, o) ∈ news) (lo : (d == sysModules) = false) (hd : o.IsDictOf (intKind prog w) kvs) (hz : kvs.length < 64)
    (hv : ∀ vs, IntsAre vs (kvs.map (·.1)) → kf_ints vs = true ∧ lks_ok vs q = true ∧ vs.isEmpty = false)
    (h : ∀ D h' tk t c, Fr h₀ L h' m → News h₀ L h' ((D, listOf (lks_vals q 0 t).toArray c) :: news) → (∀ p ∈ news, p.1 < D) → Q (.ref D) { s with heap := h', toks := tk }) :
    wpAny (model prog w) A (call (.builtin "sorted") [.ref d]) Q E s := by
  obtain ⟨ep, hat⟩ := (Heap.dictOf_iff.mpr ⟨o, (N _ hm).1, hd⟩).dictAt
  refine kdu_sorted (kdl_dict (knd := intKind prog w) (kvs := kvs) (ep := ep) lo) hh F N hat (by rw [sizeLine_eq]; omega) fun B h' tk vs F' N' l1 hl hv' => ?_
  have hI : IntsAre vs (kvs.map (·.1)) := ints_of vs _ (by rw [List.length_map]; exact hl) fun j v hj => by
    obtain ⟨k, x, hx, hk⟩ := hv' j v hj
    obtain ⟨t, e⟩ := Value.isInt_shape hk
    exact ⟨k, t, by simp [hx], e⟩
  obtain ⟨a1, a2, a3⟩ := hv vs hI
  have hlen : vs.length < 64 := by omega
  exact lks_sort (q := q) (its := vs.toArray) F' N' (fun t => .head fun p hp => Nat.ne_of_lt (l1 p hp)) a1 a2 a3 hlen fun t h'' F'' N'' => h B h'' tk t _ F'' N'' l1
theorem sd_inv {sv : List Value} {a : Int} {l : List Int} (h : IntsAre sv (a :: l)) : ∃ t r, sv = .int a t :: r ∧ IntsAre r l := by
  cases h with | cons _ t h => exact ⟨t, _, rfl, h⟩
theorem sd_inv0 {sv : List Value} (h : IntsAre sv []) : sv = [] := by cases h; rfl
theorem sd2 {a b : Int} {q : List Int} (h : ∀ t1 t2, lks_ok [.int a t1, .int b t2] q = true) : ∀ vs, IntsAre vs [a, b] → kf_ints vs = true ∧ lks_ok vs q = true ∧ vs.isEmpty = false := by
  intro vs h1
  obtain ⟨t1, _, rfl, g1⟩ := sd_inv h1
  obtain ⟨t2, _, rfl, g2⟩ := sd_inv g1
  obtain rfl := sd_inv0 g2
  exact ⟨rfl, h t1 t2, rfl⟩
theorem sd6 {a b c d e f : Int} {q : List Int} (h : ∀ t1 t2 t3 t4 t5 t6, lks_ok [.int a t1, .int b t2, .int c t3, .int d t4, .int e t5, .int f t6] q = true) : ∀ vs, IntsAre vs [a, b, c, d, e, f] → kf_ints vs = true ∧ lks_ok vs q = true ∧ vs.isEmpty = false := by
  intro vs h1
  obtain ⟨t1, _, rfl, g1⟩ := sd_inv h1
  obtain ⟨t2, _, rfl, g2⟩ := sd_inv g1
  obtain ⟨t3, _, rfl, g3⟩ := sd_inv g2
  obtain ⟨t4, _, rfl, g4⟩ := sd_inv g3
  obtain ⟨t5, _, rfl, g5⟩ := sd_inv g4
  obtain ⟨t6, _, rfl, g6⟩ := sd_inv g5
  obtain rfl := sd_inv0 g6
  exact ⟨rfl, h t1 t2 t3 t4 t5 t6, rfl⟩
theorem news_pull {h₀ h : Heap} {L : Addr} {pre post : Led} {a : Addr × Obj} (N : News h₀ L h (pre ++ a :: post)) : News h₀ L h (a :: (pre ++ post)) := fun p hp => N p (by
  rcases List.mem_cons.mp hp with rfl | hp
  · simp
  · rcases List.mem_append.mp hp with hp | hp <;> simp [hp])
end
section
inductive PutN2 (w : World) (mk : List (Str × Value)) (name : Str) (dflt : Value) (mp : Nat) (c : Int) (v : Value) (news news' : Led) (y : Value) : Prop
  | mk (r rx st va k1 k2 : Nat) (t1 t2 t3 : Tok) (om : Obj) (sv vv : List Value) (q1 : .none = y) (q2 : (rx, rmDict w t1 t2 t3 3 dflt st va) :: (st, listOf sv.toArray k1) :: (va, listOf vv.toArray k2) :: (mp, om) :: (r, instObj 280 rx) :: news = news') (q3 : om.IsDictOf (strKind PG w) (mk ++ [(name, .ref r)])) (q4 : IntsAre sv [0, c, c + 1]) (q5 : vv = [dflt, v, dflt]) (q6 : (∀ p ∈ (mp, om) :: (r, instObj 280 rx) :: news, p.1 ≠ rx)) (q7 : (∀ p ∈ (mp, om) :: (r, instObj 280 rx) :: news, p.1 ≠ st)) (q8 : (∀ p ∈ (mp, om) :: (r, instObj 280 rx) :: news, p.1 ≠ va)) (q9 : @Ne Nat rx st) (q10 : @Ne Nat rx va) (q11 : @Ne Nat st va) (q12 : (∀ p ∈ (mp, om) :: news, p.1 ≠ r)) : PutN2 w mk name dflt mp c v news news' y
theorem PutN2.go {wz : World} {fz : Addr} {vz : List Value} {kz : Nat} {ledz : Led} {w : World} {mk : List (Str × Value)} {name : Str} {dflt : Value} {mp : Nat} {c : Int} {v : Value} {news : Led} (Cz : CC wz fz vz kz ledz (PutN2 w mk name dflt mp c v news))
  {pz : Program} {lz : List Str} {mnz : ExcName → Option Value} {mgz mbz : Str → Option Value} {dpz unz : Nat} {gdz : Option (List Code)} {cnz : Str} {csz : Scope} {az : Addr} {cdz : Value} {clz : List (Str × Addr)} {otz : List Env} {A₀ : Around} {basez h₀ : Heap} {Lz : Addr} {mz : Str → Option Value} {sz : Shared} {Qz Ez : Value → Shared → Prop}
  (ret : ∀ (r rx st va k1 k2 : Nat) (t1 t2 t3 : Tok) (om : Obj) (sv vv : List Value) (hz : Heap) (tkz : Nat), Fr h₀ Lz hz mz → News h₀ Lz hz ((rx, rmDict w t1 t2 t3 3 dflt st va) :: (st, listOf sv.toArray k1) :: (va, listOf vv.toArray k2) :: (mp, om) :: (r, instObj 280 rx) :: news) → (om.IsDictOf (strKind PG w) (mk ++ [(name, .ref r)])) → (IntsAre sv [0, c, c + 1]) → (vv = [dflt, v, dflt]) → ((∀ p ∈ (mp, om) :: (r, instObj 280 rx) :: news, p.1 ≠ rx)) → ((∀ p ∈ (mp, om) :: (r, instObj 280 rx) :: news, p.1 ≠ st)) → ((∀ p ∈ (mp, om) :: (r, instObj 280 rx) :: news, p.1 ≠ va)) → (@Ne Nat rx st) → (@Ne Nat rx va) → (@Ne Nat st va) → ((∀ p ∈ (mp, om) :: news, p.1 ≠ r)) → Qz (.none) { sz with heap := hz, toks := tkz })
  (F : Fr h₀ Lz sz.heap mz) (N : News h₀ Lz sz.heap ledz) (B : Below A₀ basez otz h₀) (X : (hd.heap_1_39 wz.params).In h₀) (T : Top pz lz mnz mgz mbz h₀) (hk : csz.kind = .function)
  (hd : dpz + kz < recursionLimit) (hu : unz + 8 * kz < cLine) :
    wpAny (model PySem.Challenge.rw_on0371_01.prog wz) (ktrTop dpz unz gdz cnz csz Lz az cdz clz otz) (call (.ref fz) vz) Qz Ez sz := by
  refine cc_go Cz (fun v news9 h9 tk9 F9 N9 P9 => ?_) F N B X T hk hd hu
  obtain ⟨r, rx, st, va, k1, k2, t1, t2, t3, om, sv, vv, rfl, rfl, q3, q4, q5, q6, q7, q8, q9, q10, q11, q12⟩ := P9
  exact ret r rx st va k1 k2 t1 t2 t3 om sv vv h9 tk9 F9 N9 q3 q4 q5 q6 q7 q8 q9 q10 q11 q12
theorem c_dputN2 {w : World} {news : Led} {d dx df mp pr wd n : Nat} {u1 u2 u3 u4 t' tc tc' : Tok} {om od : Obj} {mk dk : List (Str × Value)} {name : Str} {dflt v : Value} {c : Int}
  (g1 : (d, instObj 336 dx) ∈ news) (g2 : (dx, daDict w u1 u2 u3 u4 n df mp pr wd) ∈ news) (lo : (mp == sysModules) = false) (gd : om.IsDictOf (strKind PG w) mk) (gf : valueAt mk name = none)
  (g6 : (df, od) ∈ news) (lo2 : (df == sysModules) = false) (gd2 : od.IsDictOf (strKind PG w) dk) (gdf : valueAt dk name = some dflt) (hz : mk.length ≤ 100) (hmp : ∀ p ∈ news, p.1 ≠ mp)
  (hU : Unl news dflt v) (hc1 : 0 < c) (hc : c < 1114111) :
  CC w 319 [.ref d, .str name t', .int c tc, .int c tc', v] 24 ((mp, om) :: news) (PutN2 w mk name dflt mp c v news) :=
  (c_dputN g1 g2 lo gd gf g6 lo2 gd2 (by rw [gdf]; rfl) hz hmp hU hc1 hc).mono fun n y h => by
    obtain ⟨r, rx, st, va, k1, k2, t1, t2, t3, t0, tq, om, e, e', hd, f1, f2, f3, f4, f5, f6, f7⟩ := h
    exact ⟨r, rx, st, va, k1, k2, t1, t2, t3, om, _, _, e, e', hd, .cons _ _ (.cons _ _ (.cons _ _ .nil)), rfl, f1, f2, f3, f4, f5, f6, f7⟩
inductive PutO2 (w : World) (dflt : Value) (news : Led) (rx : Nat) (t1 t2 t3 : Tok) (c : Int) (ns : List Int) (vv : List Value) (v u : Value) (news' : Led) (y : Value) : Prop
  | mk (st va k1 k2 : Nat) (sv' vv' : List Value) (q1 : .none = y) (q2 : (rx, rmDict w t1 t2 t3 3 dflt st va) :: (st, listOf sv'.toArray k1) :: (va, listOf vv'.toArray k2) :: news = news') (q3 : IntsAre sv' (ns ++ [c, c + 1])) (q4 : vv' = vv ++ [v, u]) (q5 : (∀ p ∈ news, p.1 ≠ st)) (q6 : (∀ p ∈ news, p.1 ≠ va)) (q7 : @Ne Nat rx st) (q8 : @Ne Nat rx va) (q9 : @Ne Nat st va) : PutO2 w dflt news rx t1 t2 t3 c ns vv v u news' y
theorem PutO2.go {wz : World} {fz : Addr} {vz : List Value} {kz : Nat} {ledz : Led} {w : World} {dflt : Value} {news : Led} {rx : Nat} {t1 : Tok} {t2 : Tok} {t3 : Tok} {c : Int} {ns : List Int} {vv : List Value} {v : Value} {u : Value} (Cz : CC wz fz vz kz ledz (PutO2 w dflt news rx t1 t2 t3 c ns vv v u))
  {pz : Program} {lz : List Str} {mnz : ExcName → Option Value} {mgz mbz : Str → Option Value} {dpz unz : Nat} {gdz : Option (List Code)} {cnz : Str} {csz : Scope} {az : Addr} {cdz : Value} {clz : List (Str × Addr)} {otz : List Env} {A₀ : Around} {basez h₀ : Heap} {Lz : Addr} {mz : Str → Option Value} {sz : Shared} {Qz Ez : Value → Shared → Prop}
  (ret : ∀ (st va k1 k2 : Nat) (sv' vv' : List Value) (hz : Heap) (tkz : Nat), Fr h₀ Lz hz mz → News h₀ Lz hz ((rx, rmDict w t1 t2 t3 3 dflt st va) :: (st, listOf sv'.toArray k1) :: (va, listOf vv'.toArray k2) :: news) → (IntsAre sv' (ns ++ [c, c + 1])) → (vv' = vv ++ [v, u]) → ((∀ p ∈ news, p.1 ≠ st)) → ((∀ p ∈ news, p.1 ≠ va)) → (@Ne Nat rx st) → (@Ne Nat rx va) → (@Ne Nat st va) → Qz (.none) { sz with heap := hz, toks := tkz })
  (F : Fr h₀ Lz sz.heap mz) (N : News h₀ Lz sz.heap ledz) (B : Below A₀ basez otz h₀) (X : (hd.heap_1_39 wz.params).In h₀) (T : Top pz lz mnz mgz mbz h₀) (hk : csz.kind = .function)
  (hd : dpz + kz < recursionLimit) (hu : unz + 8 * kz < cLine) :
    wpAny (model PySem.Challenge.rw_on0371_01.prog wz) (ktrTop dpz unz gdz cnz csz Lz az cdz clz otz) (call (.ref fz) vz) Qz Ez sz := by
  refine cc_go Cz (fun v news9 h9 tk9 F9 N9 P9 => ?_) F N B X T hk hd hu
  obtain ⟨st, va, k1, k2, sv', vv', rfl, rfl, q3, q4, q5, q6, q7, q8, q9⟩ := P9
  exact ret st va k1 k2 sv' vv' h9 tk9 F9 N9 q3 q4 q5 q6 q7 q8 q9
theorem c_dputO2 {w : World} {news : Led} {d dx df mp pr wd n r rx st va k1 k2 : Nat} {u1 u2 u3 u4 t' t1 t2 t3 tc tc' : Tok} {om : Obj} {mk : List (Str × Value)} {name : Str} {dflt v u : Value} {sv vv : List Value} {ns : List Int} {c : Int}
  (g1 : (d, instObj 336 dx) ∈ news) (g2 : (dx, daDict w u1 u2 u3 u4 n df mp pr wd) ∈ news) (g3 : (mp, om) ∈ news) (lo : (mp == sysModules) = false) (gd : om.IsDictOf (strKind PG w) mk) (gf : valueAt mk name = some (.ref r))
  (h1 : (r, instObj 280 rx) ∈ news) (hn1 : ∀ p ∈ news, p.1 ≠ rx) (hn2 : ∀ p ∈ news, p.1 ≠ st) (hn3 : ∀ p ∈ news, p.1 ≠ va) (h12 : @Ne Nat rx st) (h13 : @Ne Nat rx va) (h23 : @Ne Nat st va)
  (hi : IntsAre sv ns) (hl : vv.length = ns.length) (hn : ns.length < 1000) (hb : bs ns (c - 1) = ns.length) (hb2 : bs ns (c + 1) = ns.length) (h0 : 0 < ns.length) (hu : vv[ns.length - 1]? = some u) (hU : Unl news u v) (hc : c < 1114111) :
  CC w 319 [.ref d, .str name t', .int c tc, .int c tc', v] 24 ((rx, rmDict w t1 t2 t3 3 dflt st va) :: (st, listOf sv.toArray k1) :: (va, listOf vv.toArray k2) :: news) (PutO2 w dflt news rx t1 t2 t3 c ns vv v u) :=
  (c_dputO g1 g2 g3 lo gd gf h1 hn1 hn2 hn3 h12 h13 h23 hi hl hn hb hb2 h0 hu hU hc).mono fun n y h => by
    obtain ⟨st', va', k1', k2', tq, e, e', f1, f2, f3, f4, f5⟩ := h
    exact ⟨st', va', k1', k2', _, _, e, e', IntsAre.append hi (.cons _ _ (.cons _ _ .nil)), rfl, f1, f2, f3, f4, f5⟩
theorem unl_tup1 {news : Led} {a n : Nat} {xs : List Int} {ts : List Value} (hm : (a, tupO ts.toArray n) ∈ news) (hi : IntsAre ts xs) (hs : PySem.SeqAt.shaped (.tuple (xs.map PyData.int)) = true) : Unl news .none (.ref a) := fun N hu q => by
  have r : ∀ {vs : List Value} {ys : List Int} (h : Heap), IntsAre vs ys → ∃ as, ReadsAll h vs (ys.map PyData.int) as := by
    intro vs ys h hv
    induction hv with
    | nil => exact ⟨_, .nil⟩
    | cons x t _ ih =>
      obtain ⟨as, r⟩ := ih
      exact ⟨_, .cons (.int _ _) r⟩
  obtain ⟨as, r⟩ := r _ hi
  exact eq_dataH .none (.tuple (N _ hm).1 rfl rfl r) rfl hs hu q
theorem unl_tup2 {news : Led} {a b n n' : Nat} {t t1 t2 : Tok} {x y : Int} (h1 : (a, tupO (List.toArray [.str (Str.ofString "") t, .ref b]) n) ∈ news) (h2 : (b, tupO (List.toArray [.int x t1, .int y t2]) n') ∈ news) : Unl news .none (.ref a) := fun {w A E s h₀ L Q} N hu q => by
  have r : Reads s.heap (.ref a) (.tuple [.str (Str.ofString ""), .tuple [.int x, .int y]]) ([] ++ (([] ++ ([] ++ [])) ++ [])) :=
    .tuple (N _ h1).1 rfl rfl (.cons (.str _ _) (.cons (.tuple (N _ h2).1 rfl rfl (.cons (.int _ _) (.cons (.int _ _) .nil))) .nil))
  exact eq_dataH .none r rfl (by with_unfolding_all rfl) hu q
abbrev emp : Str := Str.ofString ""
/-- puts of the letters' parts: the value is a tuple of tuples -/
inductive PutN3 (w : World) (mk : List (Str × Value)) (name : Str) (mp : Nat) (c x y : Int) (news news' : Led) (z : Value) : Prop
  | mk (r rx st va k1 k2 A B n n' : Nat) (t1 t2 t3 t t4 t5 : Tok) (om : Obj) (sv vv : List Value) (q1 : .none = z) (q2 : (rx, rmDict w t1 t2 t3 3 .none st va) :: (st, listOf sv.toArray k1) :: (va, listOf vv.toArray k2) :: (mp, om) :: (r, instObj 280 rx) :: (A, tupO (List.toArray [.str emp t, .ref B]) n) :: (B, tupO (List.toArray [.int x t4, .int y t5]) n') :: news = news') (q3 : om.IsDictOf (strKind PG w) (mk ++ [(name, .ref r)])) (q4 : IntsAre sv [0, c, c + 1]) (q5 : vv = [.none, .ref A, .none]) (q6 : (∀ p ∈ (mp, om) :: (r, instObj 280 rx) :: (A, tupO (List.toArray [.str emp t, .ref B]) n) :: (B, tupO (List.toArray [.int x t4, .int y t5]) n') :: news, p.1 ≠ rx ∧ p.1 ≠ st ∧ p.1 ≠ va)) (q7 : @Ne Nat rx st) (q8 : @Ne Nat rx va) (q9 : @Ne Nat st va) (q10 : (∀ p ∈ news, p.1 ≠ A)) (q11 : (∀ p ∈ news, p.1 ≠ B)) (q12 : @Ne Nat A mp) (q13 : @Ne Nat B mp) (q14 : (∀ p ∈ (mp, om) :: (A, tupO (List.toArray [.str emp t, .ref B]) n) :: (B, tupO (List.toArray [.int x t4, .int y t5]) n') :: news, p.1 ≠ r)) : PutN3 w mk name mp c x y news news' z
theorem PutN3.go {wz : World} {fz : Addr} {vz : List Value} {kz : Nat} {ledz : Led} {w : World} {mk : List (Str × Value)} {name : Str} {mp : Nat} {c : Int} {x : Int} {y : Int} {news : Led} (Cz : CC wz fz vz kz ledz (PutN3 w mk name mp c x y news))
  {pz : Program} {lz : List Str} {mnz : ExcName → Option Value} {mgz mbz : Str → Option Value} {dpz unz : Nat} {gdz : Option (List Code)} {cnz : Str} {csz : Scope} {az : Addr} {cdz : Value} {clz : List (Str × Addr)} {otz : List Env} {A₀ : Around} {basez h₀ : Heap} {Lz : Addr} {mz : Str → Option Value} {sz : Shared} {Qz Ez : Value → Shared → Prop}
  (ret : ∀ (r rx st va k1 k2 A B n n' : Nat) (t1 t2 t3 t t4 t5 : Tok) (om : Obj) (sv vv : List Value) (hz : Heap) (tkz : Nat), Fr h₀ Lz hz mz → News h₀ Lz hz ((rx, rmDict w t1 t2 t3 3 .none st va) :: (st, listOf sv.toArray k1) :: (va, listOf vv.toArray k2) :: (mp, om) :: (r, instObj 280 rx) :: (A, tupO (List.toArray [.str emp t, .ref B]) n) :: (B, tupO (List.toArray [.int x t4, .int y t5]) n') :: news) → (om.IsDictOf (strKind PG w) (mk ++ [(name, .ref r)])) → (IntsAre sv [0, c, c + 1]) → (vv = [.none, .ref A, .none]) → ((∀ p ∈ (mp, om) :: (r, instObj 280 rx) :: (A, tupO (List.toArray [.str emp t, .ref B]) n) :: (B, tupO (List.toArray [.int x t4, .int y t5]) n') :: news, p.1 ≠ rx ∧ p.1 ≠ st ∧ p.1 ≠ va)) → (@Ne Nat rx st) → (@Ne Nat rx va) → (@Ne Nat st va) → ((∀ p ∈ news, p.1 ≠ A)) → ((∀ p ∈ news, p.1 ≠ B)) → (@Ne Nat A mp) → (@Ne Nat B mp) → ((∀ p ∈ (mp, om) :: (A, tupO (List.toArray [.str emp t, .ref B]) n) :: (B, tupO (List.toArray [.int x t4, .int y t5]) n') :: news, p.1 ≠ r)) → Qz (.none) { sz with heap := hz, toks := tkz })
  (F : Fr h₀ Lz sz.heap mz) (N : News h₀ Lz sz.heap ledz) (B : Below A₀ basez otz h₀) (X : (hd.heap_1_39 wz.params).In h₀) (T : Top pz lz mnz mgz mbz h₀) (hk : csz.kind = .function)
  (hd : dpz + kz < recursionLimit) (hu : unz + 8 * kz < cLine) :
    wpAny (model PySem.Challenge.rw_on0371_01.prog wz) (ktrTop dpz unz gdz cnz csz Lz az cdz clz otz) (call (.ref fz) vz) Qz Ez sz := by
  refine cc_go Cz (fun v news9 h9 tk9 F9 N9 P9 => ?_) F N B X T hk hd hu
  obtain ⟨r, rx, st, va, k1, k2, A, B, n, n', t1, t2, t3, t, t4, t5, om, sv, vv, rfl, rfl, q3, q4, q5, q6, q7, q8, q9, q10, q11, q12, q13, q14⟩ := P9
  exact ret r rx st va k1 k2 A B n n' t1 t2 t3 t t4 t5 om sv vv h9 tk9 F9 N9 q3 q4 q5 q6 q7 q8 q9 q10 q11 q12 q13 q14
theorem c_dputN3 {w : World} {news : Led} {d dx df mp pr wd n A B m m' : Nat} {u1 u2 u3 u4 t' tc tc' t t4 t5 : Tok} {om od : Obj} {mk dk : List (Str × Value)} {name : Str} {c x y : Int}
  (g1 : (d, instObj 336 dx) ∈ news) (g2 : (dx, daDict w u1 u2 u3 u4 n df mp pr wd) ∈ news) (lo : (mp == sysModules) = false) (gd : om.IsDictOf (strKind PG w) mk) (gf : valueAt mk name = none)
  (g6 : (df, od) ∈ news) (lo2 : (df == sysModules) = false) (gd2 : od.IsDictOf (strKind PG w) dk) (gdf : valueAt dk name = some .none) (hz : mk.length ≤ 100) (hmp : ∀ p ∈ (A, tupO (List.toArray [.str emp t, .ref B]) m) :: (B, tupO (List.toArray [.int x t4, .int y t5]) m') :: news, p.1 ≠ mp)
  (hc1 : 0 < c) (hc : c < 1114111) (hA : ∀ p ∈ news, p.1 ≠ A) (hB : ∀ p ∈ news, p.1 ≠ B) :
  CC w 319 [.ref d, .str name t', .int c tc, .int c tc', .ref A] 24 ((mp, om) :: (A, tupO (List.toArray [.str emp t, .ref B]) m) :: (B, tupO (List.toArray [.int x t4, .int y t5]) m') :: news) (PutN3 w mk name mp c x y news) :=
  (c_dputN2 (.tail _ (.tail _ g1)) (.tail _ (.tail _ g2)) lo gd gf (.tail _ (.tail _ g6)) lo2 gd2 gdf hz hmp (unl_tup2 (.head _) (.tail _ (.head _))) hc1 hc).mono fun _ z h => by
    obtain ⟨r, rx, st, va, k1, k2, t1, t2, t3, om, sv, vv, e, e', hd, hi, hv, f1, f2, f3, f4, f5, f6, f7⟩ := h
    exact ⟨r, rx, st, va, k1, k2, A, B, _, _, t1, t2, t3, _, _, _, om, sv, vv, e, e', hd, hi, hv, fun p hp => ⟨f1 p hp, f2 p hp, f3 p hp⟩, f4, f5, f6, hA, hB, hmp _ (.head _), hmp _ (.tail _ (.head _)), f7⟩
inductive PutO3 (w : World) (news : Led) (rx : Nat) (t1 t2 t3 : Tok) (c x y : Int) (ns : List Int) (vv : List Value) (news' : Led) (z : Value) : Prop
  | mk (st va k1 k2 A B n n' : Nat) (t t4 t5 : Tok) (sv' vv' : List Value) (q1 : .none = z) (q2 : (rx, rmDict w t1 t2 t3 3 .none st va) :: (st, listOf sv'.toArray k1) :: (va, listOf vv'.toArray k2) :: (A, tupO (List.toArray [.str emp t, .ref B]) n) :: (B, tupO (List.toArray [.int x t4, .int y t5]) n') :: news = news') (q3 : IntsAre sv' (ns ++ [c, c + 1])) (q4 : vv' = vv ++ [.ref A, .none]) (q5 : (∀ p ∈ (A, tupO (List.toArray [.str emp t, .ref B]) n) :: (B, tupO (List.toArray [.int x t4, .int y t5]) n') :: news, p.1 ≠ rx ∧ p.1 ≠ st ∧ p.1 ≠ va)) (q6 : @Ne Nat rx st) (q7 : @Ne Nat rx va) (q8 : @Ne Nat st va) (q9 : (∀ p ∈ news, p.1 ≠ A)) (q10 : (∀ p ∈ news, p.1 ≠ B)) : PutO3 w news rx t1 t2 t3 c x y ns vv news' z
theorem PutO3.go {wz : World} {fz : Addr} {vz : List Value} {kz : Nat} {ledz : Led} {w : World} {news : Led} {rx : Nat} {t1 : Tok} {t2 : Tok} {t3 : Tok} {c : Int} {x : Int} {y : Int} {ns : List Int} {vv : List Value} (Cz : CC wz fz vz kz ledz (PutO3 w news rx t1 t2 t3 c x y ns vv))
  {pz : Program} {lz : List Str} {mnz : ExcName → Option Value} {mgz mbz : Str → Option Value} {dpz unz : Nat} {gdz : Option (List Code)} {cnz : Str} {csz : Scope} {az : Addr} {cdz : Value} {clz : List (Str × Addr)} {otz : List Env} {A₀ : Around} {basez h₀ : Heap} {Lz : Addr} {mz : Str → Option Value} {sz : Shared} {Qz Ez : Value → Shared → Prop}
  (ret : ∀ (st va k1 k2 A B n n' : Nat) (t t4 t5 : Tok) (sv' vv' : List Value) (hz : Heap) (tkz : Nat), Fr h₀ Lz hz mz → News h₀ Lz hz ((rx, rmDict w t1 t2 t3 3 .none st va) :: (st, listOf sv'.toArray k1) :: (va, listOf vv'.toArray k2) :: (A, tupO (List.toArray [.str emp t, .ref B]) n) :: (B, tupO (List.toArray [.int x t4, .int y t5]) n') :: news) → (IntsAre sv' (ns ++ [c, c + 1])) → (vv' = vv ++ [.ref A, .none]) → ((∀ p ∈ (A, tupO (List.toArray [.str emp t, .ref B]) n) :: (B, tupO (List.toArray [.int x t4, .int y t5]) n') :: news, p.1 ≠ rx ∧ p.1 ≠ st ∧ p.1 ≠ va)) → (@Ne Nat rx st) → (@Ne Nat rx va) → (@Ne Nat st va) → ((∀ p ∈ news, p.1 ≠ A)) → ((∀ p ∈ news, p.1 ≠ B)) → Qz (.none) { sz with heap := hz, toks := tkz })
  (F : Fr h₀ Lz sz.heap mz) (N : News h₀ Lz sz.heap ledz) (B : Below A₀ basez otz h₀) (X : (hd.heap_1_39 wz.params).In h₀) (T : Top pz lz mnz mgz mbz h₀) (hk : csz.kind = .function)
  (hd : dpz + kz < recursionLimit) (hu : unz + 8 * kz < cLine) :
    wpAny (model PySem.Challenge.rw_on0371_01.prog wz) (ktrTop dpz unz gdz cnz csz Lz az cdz clz otz) (call (.ref fz) vz) Qz Ez sz := by
  refine cc_go Cz (fun v news9 h9 tk9 F9 N9 P9 => ?_) F N B X T hk hd hu
  obtain ⟨st, va, k1, k2, A, B, n, n', t, t4, t5, sv', vv', rfl, rfl, q3, q4, q5, q6, q7, q8, q9, q10⟩ := P9
  exact ret st va k1 k2 A B n n' t t4 t5 sv' vv' h9 tk9 F9 N9 q3 q4 q5 q6 q7 q8 q9 q10
theorem c_dputO3 {w : World} {news : Led} {d dx df mp pr wd n r rx st va k1 k2 A B m m' : Nat} {u1 u2 u3 u4 t' t1 t2 t3 tc tc' t t4 t5 : Tok} {om : Obj} {mk : List (Str × Value)} {name : Str} {sv vv : List Value} {ns : List Int} {c x y : Int}
  (g1 : (d, instObj 336 dx) ∈ news) (g2 : (dx, daDict w u1 u2 u3 u4 n df mp pr wd) ∈ news) (g3 : (mp, om) ∈ news) (lo : (mp == sysModules) = false) (gd : om.IsDictOf (strKind PG w) mk) (gf : valueAt mk name = some (.ref r))
  (h1 : (r, instObj 280 rx) ∈ news) (hn : ∀ p ∈ (A, tupO (List.toArray [.str emp t, .ref B]) m) :: (B, tupO (List.toArray [.int x t4, .int y t5]) m') :: news, p.1 ≠ rx ∧ p.1 ≠ st ∧ p.1 ≠ va) (h12 : @Ne Nat rx st) (h13 : @Ne Nat rx va) (h23 : @Ne Nat st va)
  (hi : IntsAre sv ns) (hl : vv.length = ns.length) (hn9 : ns.length < 1000) (hb : bs ns (c - 1) = ns.length) (hb2 : bs ns (c + 1) = ns.length) (h0 : 0 < ns.length) (hu : vv[ns.length - 1]? = some .none) (hc : c < 1114111) (hA : ∀ p ∈ news, p.1 ≠ A) (hB : ∀ p ∈ news, p.1 ≠ B) :
  CC w 319 [.ref d, .str name t', .int c tc, .int c tc', .ref A] 24 ((rx, rmDict w t1 t2 t3 3 .none st va) :: (st, listOf sv.toArray k1) :: (va, listOf vv.toArray k2) :: (A, tupO (List.toArray [.str emp t, .ref B]) m) :: (B, tupO (List.toArray [.int x t4, .int y t5]) m') :: news) (PutO3 w news rx t1 t2 t3 c x y ns vv) :=
  (c_dputO2 (.tail _ (.tail _ g1)) (.tail _ (.tail _ g2)) (.tail _ (.tail _ g3)) lo gd gf (.tail _ (.tail _ h1)) (fun p hp => (hn p hp).1) (fun p hp => (hn p hp).2.1) (fun p hp => (hn p hp).2.2) h12 h13 h23 hi hl hn9 hb hb2 h0 hu (unl_tup2 (.head _) (.tail _ (.head _))) hc).mono fun _ z h => by
    obtain ⟨st', va', k1', k2', sv', vv', e, e', hi', hv', f1, f2, f3, f4, f5⟩ := h
    exact ⟨st', va', k1', k2', A, B, _, _, _, _, _, sv', vv', e, e', hi', hv', fun p hp => ⟨(hn p hp).1, f1 p hp, f2 p hp⟩, f3, f4, f5, hA, hB⟩
/-- puts of the foldings: the value is a tuple of numbers -/
inductive PutN4 (w : World) (mk : List (Str × Value)) (name : Str) (mp : Nat) (c : Int) (xs : List Int) (news news' : Led) (z : Value) : Prop
  | mk (r rx st va k1 k2 A n : Nat) (t1 t2 t3 : Tok) (om : Obj) (ts sv vv : List Value) (q1 : .none = z) (q2 : (rx, rmDict w t1 t2 t3 3 .none st va) :: (st, listOf sv.toArray k1) :: (va, listOf vv.toArray k2) :: (mp, om) :: (r, instObj 280 rx) :: (A, tupO ts.toArray n) :: news = news') (q3 : om.IsDictOf (strKind PG w) (mk ++ [(name, .ref r)])) (q4 : IntsAre ts xs) (q5 : IntsAre sv [0, c, c + 1]) (q6 : vv = [.none, .ref A, .none]) (q7 : (∀ p ∈ (mp, om) :: (r, instObj 280 rx) :: (A, tupO ts.toArray n) :: news, p.1 ≠ rx ∧ p.1 ≠ st ∧ p.1 ≠ va)) (q8 : @Ne Nat rx st) (q9 : @Ne Nat rx va) (q10 : @Ne Nat st va) (q11 : (∀ p ∈ news, p.1 ≠ A)) (q12 : (∀ p ∈ (A, tupO ts.toArray n) :: news, p.1 ≠ r)) : PutN4 w mk name mp c xs news news' z
theorem c_dputN4 {w : World} {news : Led} {d dx df mp pr wd n A m : Nat} {u1 u2 u3 u4 t' tc tc' : Tok} {om od : Obj} {mk dk : List (Str × Value)} {name : Str} {c : Int} {ts : List Value} (xs : List Int)
  (g1 : (d, instObj 336 dx) ∈ news) (g2 : (dx, daDict w u1 u2 u3 u4 n df mp pr wd) ∈ news) (lo : (mp == sysModules) = false) (gd : om.IsDictOf (strKind PG w) mk) (gf : valueAt mk name = none)
  (g6 : (df, od) ∈ news) (lo2 : (df == sysModules) = false) (gd2 : od.IsDictOf (strKind PG w) dk) (gdf : valueAt dk name = some .none) (hz : mk.length ≤ 100) (hmp : ∀ p ∈ (A, tupO ts.toArray m) :: news, p.1 ≠ mp)
  (hc1 : 0 < c) (hc : c < 1114111) (ht : IntsAre ts xs) (hs : PySem.SeqAt.shaped (.tuple (xs.map PyData.int)) = true) (hA : ∀ p ∈ news, p.1 ≠ A) :
  CC w 319 [.ref d, .str name t', .int c tc, .int c tc', .ref A] 24 ((mp, om) :: (A, tupO ts.toArray m) :: news) (PutN4 w mk name mp c xs news) :=
  (c_dputN2 (.tail _ g1) (.tail _ g2) lo gd gf (.tail _ g6) lo2 gd2 gdf hz hmp (unl_tup1 (.head _) ht hs) hc1 hc).mono fun _ z h => by
    obtain ⟨r, rx, st, va, k1, k2, t1, t2, t3, om, sv, vv, e, e', hd, hi, hv, f1, f2, f3, f4, f5, f6, f7⟩ := h
    exact ⟨r, rx, st, va, k1, k2, A, _, t1, t2, t3, om, ts, sv, vv, e, e', hd, ht, hi, hv, fun p hp => ⟨f1 p hp, f2 p hp, f3 p hp⟩, f4, f5, f6, hA, fun p hp => f7 p (.tail _ hp)⟩
inductive PutO4 (w : World) (news : Led) (rx : Nat) (t1 t2 t3 : Tok) (c : Int) (xs ns : List Int) (vv : List Value) (news' : Led) (z : Value) : Prop
  | mk (st va k1 k2 A n : Nat) (ts sv' vv' : List Value) (q1 : .none = z) (q2 : (rx, rmDict w t1 t2 t3 3 .none st va) :: (st, listOf sv'.toArray k1) :: (va, listOf vv'.toArray k2) :: (A, tupO ts.toArray n) :: news = news') (q3 : IntsAre ts xs) (q4 : IntsAre sv' (ns ++ [c, c + 1])) (q5 : vv' = vv ++ [.ref A, .none]) (q6 : (∀ p ∈ (A, tupO ts.toArray n) :: news, p.1 ≠ rx ∧ p.1 ≠ st ∧ p.1 ≠ va)) (q7 : @Ne Nat rx st) (q8 : @Ne Nat rx va) (q9 : @Ne Nat st va) (q10 : (∀ p ∈ news, p.1 ≠ A)) : PutO4 w news rx t1 t2 t3 c xs ns vv news' z
theorem c_dputO4 {w : World} {news : Led} {d dx df mp pr wd n r rx st va k1 k2 A m : Nat} {u1 u2 u3 u4 t' t1 t2 t3 tc tc' : Tok} {om : Obj} {mk : List (Str × Value)} {name : Str} {ts sv vv : List Value} {ns : List Int} {c : Int} (xs : List Int)
  (g1 : (d, instObj 336 dx) ∈ news) (g2 : (dx, daDict w u1 u2 u3 u4 n df mp pr wd) ∈ news) (g3 : (mp, om) ∈ news) (lo : (mp == sysModules) = false) (gd : om.IsDictOf (strKind PG w) mk) (gf : valueAt mk name = some (.ref r))
  (h1 : (r, instObj 280 rx) ∈ news) (hn : ∀ p ∈ (A, tupO ts.toArray m) :: news, p.1 ≠ rx ∧ p.1 ≠ st ∧ p.1 ≠ va) (h12 : @Ne Nat rx st) (h13 : @Ne Nat rx va) (h23 : @Ne Nat st va)
  (hi : IntsAre sv ns) (hl : vv.length = ns.length) (hn9 : ns.length < 1000) (hb : bs ns (c - 1) = ns.length) (hb2 : bs ns (c + 1) = ns.length) (h0 : 0 < ns.length) (hu : vv[ns.length - 1]? = some .none) (hc : c < 1114111) (ht : IntsAre ts xs) (hs : PySem.SeqAt.shaped (.tuple (xs.map PyData.int)) = true) (hA : ∀ p ∈ news, p.1 ≠ A) :
  CC w 319 [.ref d, .str name t', .int c tc, .int c tc', .ref A] 24 ((rx, rmDict w t1 t2 t3 3 .none st va) :: (st, listOf sv.toArray k1) :: (va, listOf vv.toArray k2) :: (A, tupO ts.toArray m) :: news) (PutO4 w news rx t1 t2 t3 c xs ns vv) :=
  (c_dputO2 (.tail _ g1) (.tail _ g2) (.tail _ g3) lo gd gf (.tail _ h1) (fun p hp => (hn p hp).1) (fun p hp => (hn p hp).2.1) (fun p hp => (hn p hp).2.2) h12 h13 h23 hi hl hn9 hb hb2 h0 hu (unl_tup1 (.head _) ht hs) hc).mono fun _ z h => by
    obtain ⟨st', va', k1', k2', sv', vv', e, e', hi', hv', f1, f2, f3, f4, f5⟩ := h
    exact ⟨st', va', k1', k2', A, _, ts, sv', vv', e, e', ht, hi', hv', fun p hp => ⟨(hn p hp).1, f1 p hp, f2 p hp⟩, f3, f4, f5, hA⟩
theorem pull5 {h₀ h : Heap} {L : Addr} {a b c d e i : Addr × Obj} {l : Led} (N : News h₀ L h (a :: b :: c :: d :: e :: i :: l)) : News h₀ L h (i :: a :: b :: c :: d :: e :: l) := fun p hp => N p (by
  simp only [List.mem_cons] at hp ⊢; grind)
theorem pull6 {h₀ h : Heap} {L : Addr} {a b c d e f i : Addr × Obj} {l : Led} (N : News h₀ L h (a :: b :: c :: d :: e :: f :: i :: l)) : News h₀ L h (i :: a :: b :: c :: d :: e :: f :: l) := fun p hp => N p (by
  simp only [List.mem_cons] at hp ⊢; grind)
theorem pull7 {h₀ h : Heap} {L : Addr} {a b c d e f g i : Addr × Obj} {l : Led} (N : News h₀ L h (a :: b :: c :: d :: e :: f :: g :: i :: l)) : News h₀ L h (i :: a :: b :: c :: d :: e :: f :: g :: l) := fun p hp => N p (by
  simp only [List.mem_cons] at hp ⊢; grind)
theorem tup_ne_dict {h₀ h : Heap} {L : Addr} {news : Led} {prog : Program} {w : World} {K : Type} [DecidableEq K] {knd : KeyKind prog w K} {a b n : Nat} {ts : Array Value} {o : Obj} {kvs : List (K × Value)} (N : News h₀ L h news) (h1 : (a, tupO ts n) ∈ news) (h2 : (b, o) ∈ news) (hd : o.IsDictOf knd kvs) : a ≠ b := by
  rintro rfl
  obtain ⟨es, ep, hc, _⟩ := hd
  have e : tupO ts n = o := Option.some.inj ((N _ h1).1.symm.trans (N _ h2).1)
  have e2 := hc.1
  rw [← e] at e2
  exact absurd e2 (show ¬ Value.type "tuple" = Value.type "dict" by decide)
end
section
/-! the law's own folding, as plain functions -/
/-- one pass of the law's sorting: positions at .. end -/
def passGo : Int → List Int → List Int
  | a, [] => [a]
  | a, b :: t => if cls a > cls b ∧ cls b > 0 then b :: passGo a t else a :: passGo b t
def pass : List Int → List Int
  | [] => []
  | a :: t => passGo a t
theorem pass0 : pass [] = [] := rfl
theorem pass1 (a : Int) : pass [a] = [a] := rfl
theorem pass2 (a b : Int) (t : List Int) : pass (a :: b :: t) = if cls a > cls b ∧ cls b > 0 then b :: pass (a :: t) else a :: pass (b :: t) := rfl
def passes : Nat → List Int → List Int
  | 0, l => l
  | n + 1, l => passes n (pass l)
def lapart (xs : List Int) : List Int := passes (exps xs).length (exps xs)
def lcmpGo : List Int → List Int → Int → List Int
  | [], f, _ => f
  | c :: t, f, st =>
    let ahead := if 0 ≤ st then f.getD st.toNat 0 else 0
    let free := if 0 ≤ st then ((f.drop (st + 1).toNat).filter (fun one => cls one ≥ 230)).isEmpty else false
    if c = 769 ∧ free = true ∧ (ahead = 101 ∨ ahead = 69) then lcmpGo t (f.set st.toNat (if ahead = 101 then 233 else 201)) st
    else if cls c = 0 then lcmpGo t (f ++ [c]) f.length
    else lcmpGo t (f ++ [c]) st
def lcmp (xs : List Int) : List Int := lcmpGo (lapart xs) [] (-1)
def lfold (xs : List Int) : List Int := lcmp (folds xs)
end
section
theorem cls_769 {x : Int} (h : 230 ≤ cls x) : x = 769 := by
  unfold cls at h
  split at h
  · assumption
  · split at h <;> omega
theorem pr2_some {a b v : Int} (h : pr2 a b = some v) : b = 769 ∧ ((a = 69 ∧ v = 201) ∨ (a = 101 ∧ v = 233)) := by
  unfold pr2 at h
  split at h
  · rename_i e; cases h; exact ⟨e.2, .inl ⟨e.1, rfl⟩⟩
  · split at h
    · rename_i e; cases h; exact ⟨e.2, .inr ⟨e.1, rfl⟩⟩
    · cases h
/-- what the two composings share: mo is the highest class behind the starter -/
def Inv (f : List Int) (st mo : Int) : Prop := -1 ≤ st ∧ st < f.length ∧ (0 ≤ st → (mo < 230 ↔ ∀ x ∈ f.drop (st + 1).toNat, cls x < 230)) ∧ (0 ≤ st → st = (f.length : Int) - 1 → mo = -1)
theorem cmp_lcmp : ∀ (zs f : List Int) (st mo : Int), Inv f st mo → cmpGo zs f st mo = lcmpGo zs f st
  | [], f, st, mo, h => rfl
  | c :: t, f, st, mo, h => by
    obtain ⟨h1, h2, h3, h4⟩ := h
    have hfree : ∀ (g : List Int), (g.filter (fun one => decide (cls one ≥ 230))).isEmpty = true ↔ ∀ x ∈ g, cls x < 230 := by
      intro g
      rw [List.isEmpty_iff, List.filter_eq_nil_iff]
      constructor
      · intro hg x hx; have := hg x hx; simp at this; omega
      · intro hg x hx; have := hg x hx; simp; omega
    cases hp : cmpP f st mo c with
    | some v =>
      rw [cmpGo_hit hp]
      unfold cmpP at hp
      split at hp
      · rename_i hc
        obtain ⟨rfl, hv⟩ := pr2_some hp
        have hmo : mo < 230 := by
          rcases hc.2 with e | e
          · have := h4 hc.1 e; omega
          · exact e
        have hfr := (hfree (f.drop (st + 1).toNat)).mpr ((h3 hc.1).mp hmo)
        have hlen : (f.set st.toNat v).length = f.length := List.length_set
        have hdrop : (f.set st.toNat v).drop (st + 1).toNat = f.drop (st + 1).toNat := by
          rw [List.drop_set_of_lt (by omega)]
        rw [lcmpGo]
        simp only [if_pos hc.1, hfr]
        rcases hv with ⟨ha, rfl⟩ | ⟨ha, rfl⟩
        · rw [if_pos ⟨trivial, trivial, .inr ha⟩, if_neg (by omega)]
          exact cmp_lcmp t _ st mo ⟨h1, by rw [hlen]; exact h2, fun q => by rw [hdrop]; exact h3 q, fun q e => h4 q (by rw [hlen] at e; exact e)⟩
        · rw [if_pos ⟨trivial, trivial, .inl ha⟩, if_pos ha]
          exact cmp_lcmp t _ st mo ⟨h1, by rw [hlen]; exact h2, fun q => by rw [hdrop]; exact h3 q, fun q e => h4 q (by rw [hlen] at e; exact e)⟩
      · cases hp
    | none =>
      have hno : ¬ (c = 769 ∧ (if 0 ≤ st then ((f.drop (st + 1).toNat).filter (fun one => cls one ≥ 230)).isEmpty else false) = true ∧ ((if 0 ≤ st then f.getD st.toNat 0 else 0) = 101 ∨ (if 0 ≤ st then f.getD st.toNat 0 else 0) = 69)) := by
        rintro ⟨rfl, e1, e2⟩
        by_cases hs : 0 ≤ st
        · rw [if_pos hs] at e1 e2
          have hm := (h3 hs).mpr ((hfree _).mp e1)
          unfold cmpP at hp
          rw [if_pos ⟨hs, .inr (show mo < cls 769 from hm)⟩] at hp
          unfold pr2 at hp
          rcases e2 with e2 | e2 <;> rw [e2] at hp <;> simp at hp
        · rw [if_neg hs] at e1; cases e1
      rw [lcmpGo]
      simp only [if_neg hno]
      by_cases h0 : cls c = 0
      · rw [cmpGo_zero hp h0, if_pos h0]
        refine cmp_lcmp t _ _ _ ⟨by omega, by (simp only [List.length_append, List.length_singleton]; omega), fun _ => ?_, fun _ _ => rfl⟩
        have : (f ++ [c]).drop ((f.length : Int) + 1).toNat = [] := List.drop_of_length_le (by simp)
        rw [this]
        simp
      · rw [cmpGo_mark hp h0, if_neg h0]
        refine cmp_lcmp t _ _ _ ⟨h1, by simp; omega, fun hs => ?_, fun hs e => by simp at e; omega⟩
        have hd : (f ++ [c]).drop (st + 1).toNat = f.drop (st + 1).toNat ++ [c] := List.drop_append_of_le_length (by omega)
        rw [hd]
        have h3' := h3 hs
        constructor
        · intro hm x hx
          rcases List.mem_append.mp hx with hx | hx
          · refine h3'.mp ?_ x hx
            split at hm <;> omega
          · rw [List.mem_singleton.mp hx]
            split at hm <;> omega
        · intro hm
          have ha := h3'.mpr fun x hx => hm x (List.mem_append_left _ hx)
          have hb := hm c (List.mem_append_right _ (List.mem_singleton.mpr rfl))
          split <;> omega
theorem cmp_eq (zs : List Int) : cmp zs = lcmpGo zs [] (-1) := cmp_lcmp zs [] (-1) (-1) ⟨by omega, by simp, fun h => by omega, fun h => by omega⟩
end
section
def SrtEq (r r' : List Int) : Prop := r.filter (· == 803) = r'.filter (· == 803) ∧ r.filter (· == 769) = r'.filter (· == 769)
theorem ordGo_congr : ∀ (t run run' f : List Int), SrtEq run run' → ordGo t run f = ordGo t run' f
  | [], run, run', f, h => by rw [ordGo, ordGo]; unfold srt; rw [h.1, h.2]
  | c :: t, run, run', f, h => by
    rw [ordGo, ordGo]
    split
    · exact ordGo_congr t _ _ f ⟨by rw [List.filter_append, List.filter_append, h.1], by rw [List.filter_append, List.filter_append, h.2]⟩
    · unfold srt; rw [h.1, h.2]
theorem cls_swap {a b : Int} (h : cls a > cls b ∧ cls b > 0) : a = 769 ∧ b = 803 := by
  obtain ⟨h1, h2⟩ := h
  rcases cls_pos h2 with rfl | rfl
  · have := cls_769 (x := a) (by have : cls 769 = 230 := rfl; omega)
    subst this; omega
  · rcases cls_pos (show cls a > 0 by omega) with rfl | rfl
    · exact ⟨rfl, rfl⟩
    · omega
theorem ord_pass : ∀ (n : Nat) (l : List Int), l.length ≤ n → ∀ run f, ordGo (pass l) run f = ordGo l run f
  | _, [], _, run, f => by rw [pass0]
  | _, [a], _, run, f => by rw [pass1]
  | 0, a :: b :: t, h, run, f => by simp at h
  | n + 1, a :: b :: t, h, run, f => by
    have hl : (a :: t).length ≤ n := by simp at h ⊢; omega
    have hl' : (b :: t).length ≤ n := by simp at h ⊢; omega
    rw [pass2]
    split
    · rename_i hc
      obtain ⟨rfl, rfl⟩ := cls_swap hc
      rw [ordGo, if_pos (by decide), ord_pass n _ hl, ordGo, if_pos (by decide), ordGo, if_pos (by decide), ordGo, if_pos (by decide)]
      exact ordGo_congr _ _ _ _ ⟨by simp, by simp⟩
    · rw [ordGo.eq_def (a :: pass (b :: t)), ordGo.eq_def (a :: b :: t)]
      simp only
      split
      · exact ord_pass n _ hl' _ _
      · exact ord_pass n _ hl' _ _
theorem pass_len : ∀ (n : Nat) (l : List Int), l.length ≤ n → (pass l).length = l.length
  | _, [], _ => by rw [pass0]
  | _, [a], _ => by rw [pass1]
  | 0, a :: b :: t, h => by simp at h
  | n + 1, a :: b :: t, h => by
    rw [pass2]
    split
    · rw [List.length_cons, pass_len n _ (by simp at h ⊢; omega)]; simp
    · rw [List.length_cons, pass_len n _ (by simp at h ⊢; omega)]; simp
def dep : Nat → List Int → Nat
  | _, [] => 0
  | k, c :: t => if c = 803 then max k (dep k t) else if c = 769 then dep (k + 1) t else dep 0 t
theorem dep_le : ∀ (l : List Int) (k : Nat), dep k l ≤ k + l.length
  | [], k => by simp [dep]
  | c :: t, k => by
    have h1 := dep_le t k
    have h2 := dep_le t (k + 1)
    have h3 := dep_le t 0
    rw [dep]
    split
    · simp; omega
    · split <;> simp <;> omega
theorem dep_pass : ∀ (m : Nat) (l : List Int), l.length ≤ m → (∀ n, dep 0 l ≤ n + 1 → dep 0 (pass l) ≤ n) ∧ (∀ k n, dep k (769 :: l) ≤ n + 1 → dep k (pass (769 :: l)) ≤ n)
  | m, [], h => ⟨fun n _ => by rw [pass0]; simp [dep], fun k n _ => by rw [pass1]; simp [dep]⟩
  | 0, c :: t, h => by simp at h
  | m + 1, c :: t, h => by
    have hl : t.length ≤ m := by simpa using h
    obtain ⟨i1, i2⟩ := dep_pass m t hl
    have two : ∀ k n, dep k (769 :: c :: t) ≤ n + 1 → dep k (pass (769 :: c :: t)) ≤ n := by
      intro k n hd
      by_cases hc : c = 803
      · subst hc
        rw [pass2, if_pos (by decide)]
        rw [dep, if_neg (by decide), if_pos rfl, dep, if_pos rfl] at hd
        rw [dep, if_pos rfl]
        have := i2 k n (by rw [dep, if_neg (by decide), if_pos rfl]; omega)
        omega
      · have hns : ¬ (cls 769 > cls c ∧ cls c > 0) := fun q => hc (cls_swap q).2
        rw [pass2, if_neg hns, dep, if_neg (by decide), if_pos rfl]
        rw [dep, if_neg (by decide), if_pos rfl] at hd
        by_cases hc9 : c = 769
        · subst hc9
          exact i2 (k + 1) n hd
        · -- a letter ends the run
          rw [dep, if_neg hc, if_neg hc9] at hd
          cases t with
          | nil => rw [pass1]; simp [dep, hc, hc9]
          | cons d u =>
            have hns2 : ¬ (cls c > cls d ∧ cls d > 0) := fun q => hc9 (cls_swap q).1
            rw [pass2, if_neg hns2, dep, if_neg hc, if_neg hc9]
            exact i1 n hd
    refine ⟨fun n hd => ?_, two⟩
    by_cases hc9 : c = 769
    · subst hc9
      exact i2 0 n hd
    · cases t with
      | nil => rw [pass1]; rw [dep]; split <;> simp [dep]
      | cons d u =>
        have hns2 : ¬ (cls c > cls d ∧ cls d > 0) := fun q => hc9 (cls_swap q).1
        rw [pass2, if_neg hns2]
        by_cases hc : c = 803
        · subst hc
          rw [dep, if_pos rfl] at hd ⊢
          have := i1 n (by omega)
          omega
        · rw [dep, if_neg hc, if_neg hc9] at hd ⊢
          exact i1 n hd
theorem ord_of_dep : ∀ (l run f : List Int), srt run = run → dep (run.filter (· == 769)).length l = 0 → ordGo l run f = f ++ run ++ l
  | [], run, f, h, _ => by rw [ordGo, h]; simp
  | c :: t, run, f, h, hd => by
    rw [ordGo]
    split
    · rename_i hc
      rcases cls_pos hc with rfl | rfl
      · rw [dep, if_neg (by decide), if_pos rfl] at hd
        rw [ord_of_dep t (run ++ [769]) f (by unfold srt at h ⊢; rw [List.filter_append, List.filter_append]; simp; rw [← List.append_assoc, h]) (by rw [List.filter_append]; simpa using hd)]
        simp
      · rw [dep, if_pos rfl] at hd
        have h0 : run.filter (· == 769) = [] := List.length_eq_zero_iff.mp (by omega)
        have hr : run.filter (· == 803) = run := by unfold srt at h; rw [h0] at h; simpa using h
        rw [ord_of_dep t (run ++ [803]) f (by unfold srt; rw [List.filter_append, List.filter_append, h0, hr]; simp) (by rw [List.filter_append, h0]; rw [h0] at hd; simp at hd ⊢; exact hd)]
        simp
    · rename_i hc
      have hn3 : c ≠ 803 := fun e => hc (by rw [e]; decide)
      have hn9 : c ≠ 769 := fun e => hc (by rw [e]; decide)
      rw [dep, if_neg hn3, if_neg hn9] at hd
      rw [ord_of_dep t [] _ rfl (by simpa using hd), h]
      simp
theorem passes_ord : ∀ (n : Nat) (l : List Int), dep 0 l ≤ n → passes n l = ord l
  | 0, l, h => by
    rw [passes]
    have := ord_of_dep l [] [] rfl (by simpa using h)
    unfold ord
    rw [this]; simp
  | n + 1, l, h => by
    rw [passes, passes_ord n _ ((dep_pass _ l (Nat.le_refl _)).1 n h)]
    exact ord_pass _ l (Nat.le_refl _) [] []
theorem lapart_eq (xs : List Int) : lapart xs = ord (exps xs) := passes_ord _ _ (by have := dep_le (exps xs) 0; omega)
theorem dep_ord (l : List Int) : dep 0 (ord l) = 0 := by
  have key : ∀ (n : Nat) (l : List Int), dep 0 l ≤ n → dep 0 (passes n l) = 0 := by
    intro n
    induction n with
    | zero => intro l h; rw [passes]; omega
    | succ n ih => intro l h; rw [passes]; exact ih _ ((dep_pass _ l (Nat.le_refl _)).1 n h)
  have h := key l.length l (by have := dep_le l 0; omega)
  rw [passes_ord _ _ (by have := dep_le l 0; omega)] at h
  exact h
theorem ord_ord (l : List Int) : ord (ord l) = ord l := by
  have := ord_of_dep (ord l) [] [] rfl (by simpa using dep_ord l)
  unfold ord at this ⊢
  simpa using this
theorem nfkc_eq (xs : List Int) : nfkc xs = lfold xs := by
  unfold nfkc lfold lcmp
  rw [cmp_eq, lapart_eq]
theorem casl_eq (xs : List Int) : casl xs = lfold (lapart xs) := by
  unfold casl
  rw [nfkc_eq, lapart_eq]
end
section
theorem exps_append (a b : List Int) : exps (a ++ b) = exps a ++ exps b := by unfold exps; exact List.flatMap_append
theorem exps_cons (c : Int) (b : List Int) : exps (c :: b) = exp1 c ++ exps b := by unfold exps; exact List.flatMap_cons
/-- marks may be moved within their run -/
theorem ordGo_move : ∀ (g : List Int), (∀ x ∈ g, x = 769 ∨ x = 803) → ∀ (t run f : List Int), ordGo (769 :: (g ++ t)) run f = ordGo (g ++ 769 :: t) run f
  | [], _, t, run, f => rfl
  | a :: g, h, t, run, f => by
    have ih := ordGo_move g (fun x hx => h x (.tail _ hx)) t
    rcases h a (.head _) with rfl | rfl
    · show ordGo (769 :: 769 :: (g ++ t)) run f = ordGo (769 :: (g ++ 769 :: t)) run f
      rw [ordGo, if_pos (by decide), ih, ordGo.eq_def (769 :: (g ++ 769 :: t))]
      simp only
      rw [if_pos (by decide)]
    · show ordGo (769 :: 803 :: (g ++ t)) run f = ordGo (803 :: (g ++ 769 :: t)) run f
      rw [ordGo.eq_def (803 :: (g ++ 769 :: t))]
      simp only
      rw [if_pos (by decide), ← ih, ordGo, if_pos (by decide), ordGo, if_pos (by decide), ordGo, if_pos (by decide)]
      exact ordGo_congr _ _ _ _ ⟨by simp, by simp⟩
theorem ordGo_pre : ∀ (a : List Int) {x y : List Int}, (∀ run f, ordGo x run f = ordGo y run f) → ∀ run f, ordGo (a ++ x) run f = ordGo (a ++ y) run f
  | [], x, y, h, run, f => h run f
  | c :: a, x, y, h, run, f => by
    show ordGo (c :: (a ++ x)) run f = ordGo (c :: (a ++ y)) run f
    rw [ordGo, ordGo]
    split
    · exact ordGo_pre a h _ _
    · exact ordGo_pre a h _ _
/-- a composed text taken apart again: the same in order -/
def Inv2 (f : List Int) (st : Int) : Prop := -1 ≤ st ∧ st < f.length ∧ (∀ x ∈ f.drop (st + 1).toNat, 0 ≤ st → x = 769 ∨ x = 803)
theorem exp1_mark {x : Int} (h : x = 769 ∨ x = 803) : exp1 x = [x] := by rcases h with rfl | rfl <;> rfl
theorem exps_marks : ∀ (g : List Int), (∀ x ∈ g, x = 769 ∨ x = 803) → exps g = g
  | [], _ => rfl
  | a :: g, h => by rw [exps_cons, exp1_mark (h a (.head _)), exps_marks g fun x hx => h x (.tail _ hx)]; rfl
theorem cmp_apart : ∀ (t f : List Int) (st mo : Int), Inv2 f st → (∀ x ∈ t, exp1 x = [x]) → ∀ run f0, ordGo (exps (cmpGo t f st mo)) run f0 = ordGo (exps f ++ t) run f0
  | [], f, st, mo, _, _, run, f0 => by rw [cmpGo]; simp
  | c :: t, f, st, mo, ⟨h1, h2, h3⟩, ht, run, f0 => by
    have ht' : ∀ x ∈ t, exp1 x = [x] := fun x hx => ht x (.tail _ hx)
    have hc1 := ht c (.head _)
    have happ : exps (f ++ [c]) ++ t = exps f ++ c :: t := by rw [exps_append, exps_cons, hc1]; simp [exps]
    cases hp : cmpP f st mo c with
    | some v =>
      rw [cmpGo_hit hp]
      unfold cmpP at hp
      split at hp
      · rename_i hc
        obtain ⟨rfl, hv⟩ := pr2_some hp
        have hs : st.toNat < f.length := by omega
        have hnext : (st + 1).toNat = st.toNat + 1 := by omega
        have hfe : f = f.take st.toNat ++ f[st.toNat] :: f.drop (st.toNat + 1) := by rw [List.getElem_cons_drop, List.take_append_drop]
        have hget : f.getD st.toNat 0 = f[st.toNat] := by simp [List.getD_eq_getElem?_getD, hs]
        have hse : f.set st.toNat v = f.take st.toNat ++ v :: f.drop (st.toNat + 1) := List.set_eq_take_append_cons_drop.trans (if_pos hs)
        have hg : ∀ x ∈ f.drop (st.toNat + 1), x = 769 ∨ x = 803 := fun x hx => h3 x (by rw [hnext]; exact hx) hc.1
        have hvx : exp1 v = [f[st.toNat], 769] := by
          rw [hget] at hv
          rcases hv with ⟨ha, rfl⟩ | ⟨ha, rfl⟩ <;> rw [ha] <;> rfl
        have hax : exp1 f[st.toNat] = [f[st.toNat]] := by
          rw [hget] at hv
          rcases hv with ⟨ha, -⟩ | ⟨ha, -⟩ <;> rw [ha] <;> rfl
        rw [cmp_apart t (f.set st.toNat v) st mo ⟨h1, by rw [List.length_set]; exact h2, fun x hx => by
          rw [List.drop_set_of_lt (by omega)] at hx; exact h3 x hx⟩ ht']
        have e1 : exps (f.set st.toNat v) ++ t = (exps (f.take st.toNat) ++ [f[st.toNat]]) ++ (769 :: (f.drop (st.toNat + 1) ++ t)) := by
          rw [hse, exps_append, exps_cons, hvx, exps_marks _ hg]; simp
        have e2 : exps f ++ 769 :: t = (exps (f.take st.toNat) ++ [f[st.toNat]]) ++ (f.drop (st.toNat + 1) ++ 769 :: t) := by
          conv => lhs; rw [hfe]
          rw [exps_append, exps_cons, hax, exps_marks _ hg]; simp
          rw [List.drop_eq_getElem_cons hs]; rfl
        rw [e1, e2]
        exact ordGo_pre _ (fun run f => ordGo_move _ hg t run f) run f0
      · cases hp
    | none =>
      by_cases h0 : cls c = 0
      · rw [cmpGo_zero hp h0, cmp_apart t _ _ _ ⟨by omega, by (simp only [List.length_append, List.length_singleton]; omega), fun x hx => by
          rw [List.drop_of_length_le (by simp)] at hx; cases hx⟩ ht', happ]
      · have hm : c = 769 ∨ c = 803 := by
          refine cls_pos ?_
          unfold cls at h0 ⊢
          split
          · omega
          · split <;> simp_all
        rw [cmpGo_mark hp h0, cmp_apart t _ _ _ ⟨h1, by (simp only [List.length_append, List.length_singleton]; omega), fun x hx hs => by
          rw [List.drop_append_of_le_length (by omega)] at hx
          rcases List.mem_append.mp hx with hx | hx
          · exact h3 x hx hs
          · rw [List.mem_singleton.mp hx]; exact hm⟩ ht', happ]
theorem exps_exp1 {ys : List Int} : ∀ x ∈ exps ys, exp1 x = [x] := fun x hx => by
  obtain ⟨y, _, hy⟩ := List.mem_flatMap.mp hx
  by_cases h1 : y = 233
  · subst h1
    have : x = 101 ∨ x = 769 := by simpa [exp1, prt] using hy
    rcases this with rfl | rfl <;> rfl
  · by_cases h2 : y = 201
    · subst h2
      have : x = 69 ∨ x = 769 := by simpa [exp1, prt] using hy
      rcases this with rfl | rfl <;> rfl
    · have e : exp1 y = [y] := by unfold exp1; simp [h1, h2]
      rw [e] at hy
      rw [List.mem_singleton.mp hy]; exact e
theorem ord_exps_cmp (ys : List Int) : ord (exps (cmp (ord (exps ys)))) = ord (exps ys) := by
  have hx : ∀ x ∈ ord (exps ys), exp1 x = [x] := fun x hx => by
    rcases ordGo_mem _ [] [] x hx with h | h | h
    · exact exps_exp1 x h
    · cases h
    · cases h
  have h := cmp_apart (ord (exps ys)) [] (-1) (-1) ⟨by omega, by simp, fun x hx => by simp at hx⟩ hx [] []
  have e : ord (exps (cmp (ord (exps ys)))) = ord (ord (exps ys)) := by
    have h' : ordGo (exps (cmp (ord (exps ys)))) [] [] = ordGo (exps [] ++ ord (exps ys)) [] [] := h
    unfold ord at h' ⊢
    simpa [exps] using h'
  rw [e, ord_ord]
theorem nfkc_of_stay {z : List Int} (h : folds z = z) : nfkc z = cmp (ord (exps z)) := by unfold nfkc; rw [h]
/-- the signs that stay under the folding and after it -/
def ST : List Int := [101, 97, 233, 769, 803, 107, 102, 105]
theorem fold1_st {x : Int} (h : x ∈ AL) : ∀ y ∈ fold1 x, y ∈ ST := by
  simp only [AL, List.mem_cons, List.not_mem_nil, or_false] at h
  rcases h with rfl | rfl | rfl | rfl | rfl | rfl | rfl | rfl | rfl | rfl | rfl | rfl | rfl | rfl <;> decide
theorem exp1_st {x : Int} (h : x ∈ ST) : ∀ y ∈ exp1 x, y ∈ ST := by
  simp only [ST, List.mem_cons, List.not_mem_nil, or_false] at h
  rcases h with rfl | rfl | rfl | rfl | rfl | rfl | rfl | rfl <;> decide
theorem fold1_id {x : Int} (h : x ∈ ST) : fold1 x = [x] := by
  simp only [ST, List.mem_cons, List.not_mem_nil, or_false] at h
  rcases h with rfl | rfl | rfl | rfl | rfl | rfl | rfl | rfl <;> rfl
theorem folds_id : ∀ (z : List Int), (∀ x ∈ z, x ∈ ST) → folds z = z
  | [], _ => rfl
  | x :: z, h => by
    have := folds_id z fun y hy => h y (.tail _ hy)
    unfold folds at this ⊢
    rw [List.flatMap_cons, this, fold1_id (h x (.head _))]; rfl
theorem cmp_st : ∀ (t f : List Int) (st mo : Int), (∀ x ∈ f, x ∈ ST) → (∀ x ∈ t, x ∈ ST) → ∀ x ∈ cmpGo t f st mo, x ∈ ST
  | [], f, st, mo, hf, _ => by rw [cmpGo]; exact hf
  | c :: t, f, st, mo, hf, ht => by
    have ht' : ∀ x ∈ t, x ∈ ST := fun x hx => ht x (.tail _ hx)
    have hap : ∀ x ∈ f ++ [c], x ∈ ST := fun x hx => by
      rcases List.mem_append.mp hx with hx | hx
      · exact hf x hx
      · rw [List.mem_singleton.mp hx]; exact ht c (.head _)
    cases hp : cmpP f st mo c with
    | some v =>
      rw [cmpGo_hit hp]
      refine cmp_st t _ st mo (fun x hx => ?_) ht'
      rcases List.mem_or_eq_of_mem_set hx with hx | rfl
      · exact hf x hx
      · unfold cmpP at hp
        split at hp
        · rename_i hc
          obtain ⟨-, ⟨ha, rfl⟩ | ⟨ha, rfl⟩⟩ := pr2_some hp
          · exfalso
            by_cases hl : st.toNat < f.length
            · have : (69 : Int) ∈ ST := by
                rw [← ha, List.getD_eq_getElem?_getD, List.getElem?_eq_getElem hl]
                exact hf _ (List.getElem_mem hl)
              exact absurd this (by decide)
            · rw [List.getD_eq_getElem?_getD, List.getElem?_eq_none (by omega)] at ha
              exact absurd ha (by decide)
          · decide
        · cases hp
    | none =>
      by_cases h0 : cls c = 0
      · rw [cmpGo_zero hp h0]; exact cmp_st t _ _ _ hap ht'
      · rw [cmpGo_mark hp h0]; exact cmp_st t _ _ _ hap ht'
theorem nfkc_st {xs : List Int} (hx : ∀ x ∈ xs, x ∈ AL) : ∀ x ∈ nfkc xs, x ∈ ST := by
  refine cmp_st _ [] (-1) (-1) (fun x h => nomatch h) fun x h => ?_
  rcases ordGo_mem _ [] [] x h with h | h | h
  · obtain ⟨y, hy, hxy⟩ := List.mem_flatMap.mp h
    obtain ⟨z, hz, hyz⟩ := List.mem_flatMap.mp hy
    exact exp1_st (fold1_st (hx z hz) y hyz) x hxy
  · cases h
  · cases h
theorem nfkc_idem {xs : List Int} (hx : ∀ x ∈ xs, x ∈ AL) : nfkc (nfkc xs) = nfkc xs := by
  rw [nfkc_of_stay (folds_id _ (nfkc_st hx))]
  unfold nfkc
  rw [ord_exps_cmp]
theorem st_al {x : Int} (h : x ∈ ST) : x ∈ AL := by
  simp only [ST, List.mem_cons, List.not_mem_nil, or_false] at h
  rcases h with rfl | rfl | rfl | rfl | rfl | rfl | rfl | rfl <;> decide
end
section
theorem flat_len {h : Int → List Int} : ∀ (z : List Int), (∀ x ∈ z, (h x).length ≤ 2) → (z.flatMap h).length ≤ 2 * z.length
  | [], _ => by simp
  | x :: z, hx => by
    have h1 := flat_len z fun y hy => hx y (.tail _ hy)
    have h2 := hx x (.head _)
    rw [List.flatMap_cons, List.length_append, List.length_cons]
    omega
theorem flat_pass (h : Int → List Int) : ∀ (n : Nat) (l : List Int), l.length ≤ n → ((pass l).flatMap h).length = (l.flatMap h).length
  | _, [], _ => by rw [pass0]
  | _, [a], _ => by rw [pass1]
  | 0, a :: b :: t, hn => by simp at hn
  | n + 1, a :: b :: t, hn => by
    rw [pass2]
    split
    · rw [List.flatMap_cons, List.length_append, flat_pass h n _ (by simp at hn ⊢; omega)]; simp; omega
    · rw [List.flatMap_cons, List.length_append, flat_pass h n _ (by simp at hn ⊢; omega)]; simp
theorem flat_passes (h : Int → List Int) : ∀ (n : Nat) (l : List Int), ((passes n l).flatMap h).length = (l.flatMap h).length
  | 0, l => rfl
  | n + 1, l => by rw [passes, flat_passes h n, flat_pass h _ l (Nat.le_refl _)]
theorem flat_ord (h : Int → List Int) (l : List Int) : ((ord l).flatMap h).length = (l.flatMap h).length := by
  rw [← passes_ord l.length l (by have := dep_le l 0; omega), flat_passes]
theorem al_len {x : Int} (h : x ∈ AL) : (exp1 x).length ≤ 2 ∧ (fold1 x).length ≤ 2 ∧ ((fold1 x).flatMap exp1).length ≤ 2 ∧ ((exp1 x).flatMap fold1).length ≤ 2 ∧ ((exp1 x).flatMap fun y => (fold1 y).flatMap exp1).length ≤ 2 := by
  simp only [AL, List.mem_cons, List.not_mem_nil, or_false] at h
  rcases h with rfl | rfl | rfl | rfl | rfl | rfl | rfl | rfl | rfl | rfl | rfl | rfl | rfl | rfl <;> decide
theorem room_of {xs : List Int} (hx : ∀ x ∈ xs, x ∈ AL) (hl : xs.length ≤ 24) : Room xs := by
  have e1 := flat_len (h := exp1) xs fun x h => (al_len (hx x h)).1
  have e2 := flat_len (h := fold1) xs fun x h => (al_len (hx x h)).2.1
  have e3 := flat_len (h := fun x => (fold1 x).flatMap exp1) xs fun x h => (al_len (hx x h)).2.2.1
  have e4 := flat_len (h := fun x => (exp1 x).flatMap fold1) xs fun x h => (al_len (hx x h)).2.2.2.1
  have e5 := flat_len (h := fun x => (exp1 x).flatMap fun y => (fold1 y).flatMap exp1) xs fun x h => (al_len (hx x h)).2.2.2.2
  have f3 : exps (folds xs) = xs.flatMap fun x => (fold1 x).flatMap exp1 := by unfold exps folds; rw [List.flatMap_assoc]
  have f4 : (folds (ord (exps xs))).length = (xs.flatMap fun x => (exp1 x).flatMap fold1).length := by
    unfold folds
    rw [flat_ord]
    unfold exps
    rw [List.flatMap_assoc]
  have f5 : (exps (folds (ord (exps xs)))).length = (xs.flatMap fun x => (exp1 x).flatMap fun y => (fold1 y).flatMap exp1).length := by
    have : exps (folds (ord (exps xs))) = (ord (exps xs)).flatMap fun y => (fold1 y).flatMap exp1 := by unfold folds; rw [exps, List.flatMap_assoc]
    rw [this, flat_ord]
    unfold exps
    rw [List.flatMap_assoc]
  refine ⟨?_, ?_, ?_, ?_, ?_⟩
  · unfold exps; omega
  · unfold folds; omega
  · rw [f3]; omega
  · rw [f4]; omega
  · rw [f5]; omega
theorem cmpGo_len : ∀ (t f : List Int) (st mo : Int), (cmpGo t f st mo).length ≤ f.length + t.length
  | [], f, st, mo => by rw [cmpGo]; simp
  | c :: t, f, st, mo => by
    cases hp : cmpP f st mo c with
    | some v => rw [cmpGo_hit hp]; have := cmpGo_len t (f.set st.toNat v) st mo; rw [List.length_set] at this; simp; omega
    | none =>
      by_cases h0 : cls c = 0
      · rw [cmpGo_zero hp h0]; have := cmpGo_len t (f ++ [c]) f.length (-1); simp at this ⊢; omega
      · rw [cmpGo_mark hp h0]; have := cmpGo_len t (f ++ [c]) st (if cls c > mo then cls c else mo); simp at this ⊢; omega
theorem nfkc_len {xs : List Int} (hx : ∀ x ∈ xs, x ∈ AL) : (nfkc xs).length ≤ 2 * xs.length := by
  have h1 := cmpGo_len (ord (exps (folds xs))) [] (-1) (-1)
  rw [ord_len] at h1
  have f3 : exps (folds xs) = xs.flatMap fun x => (fold1 x).flatMap exp1 := by unfold exps folds; rw [List.flatMap_assoc]
  have e3 := flat_len (h := fun x => (fold1 x).flatMap exp1) xs fun x h => (al_len (hx x h)).2.2.1
  rw [f3] at h1
  unfold nfkc cmp
  rw [f3]
  simp only [List.length_nil, Nat.zero_add] at h1
  omega
theorem nfkc_al {xs : List Int} (hx : ∀ x ∈ xs, x ∈ AL) : ∀ x ∈ nfkc xs, x ∈ AL := fun x h => st_al (nfkc_st hx x h)
end
section
theorem prtGet (x : Int) (a b : Nat) (d : Value) : (x = 233 ∧ (valueAt [((233 : Int), Value.ref a), (201, Value.ref b)] x).getD d = .ref a) ∨ (x = 201 ∧ (valueAt [((233 : Int), Value.ref a), (201, Value.ref b)] x).getD d = .ref b) ∨ (exp1 x = [x] ∧ (valueAt [((233 : Int), Value.ref a), (201, Value.ref b)] x).getD d = d) := by
  by_cases h1 : x = 233
  · subst h1; exact .inl ⟨rfl, rfl⟩
  · by_cases h2 : x = 201
    · subst h2; exact .inr (.inl ⟨rfl, rfl⟩)
    · refine .inr (.inr ⟨by unfold exp1; rw [if_neg h1, if_neg h2], ?_⟩)
      have e1 : ¬ (233 : Int) = x := fun e => h1 e.symm
      have e2 : ¬ (201 : Int) = x := fun e => h2 e.symm
      simp [valueAt, e1, e2]
theorem clsGet (x : Int) (t1 t2 t0 : Tok) : ∃ t, (valueAt [((769 : Int), Value.int 230 t1), (803, .int 220 t2)] x).getD (.int 0 t0) = .int (cls x) t := by
  unfold cls
  by_cases h1 : x = 769
  · subst h1; exact ⟨t1, rfl⟩
  · by_cases h2 : x = 803
    · subst h2; exact ⟨t2, rfl⟩
    · have e1 : ¬ (769 : Int) = x := fun e => h1 e.symm
      have e2 : ¬ (803 : Int) = x := fun e => h2 e.symm
      exact ⟨t0, by simp [valueAt, e1, e2, h1, h2]⟩
theorem ints_get {vs : List Value} {ns : List Int} (h : IntsAre vs ns) {i : Nat} (hi : i < ns.length) : ∃ t, vs[i]? = some (.int (ns.getD i 0) t) := by
  have hv : i < vs.length := by rw [h.length]; exact hi
  obtain ⟨x, t, e, hx⟩ := IntsAre.at h i vs[i] (List.getElem?_eq_getElem hv)
  refine ⟨t, ?_⟩
  rw [List.getElem?_eq_getElem hv, e, List.getD_eq_getElem?_getD, hx]
  rfl
theorem rg_size (n : Nat) : Builtin.Range.rangeSize 0 (n : Int) 1 = ((n : Nat) : Int) := by
  unfold Builtin.Range.rangeSize
  simp
  omega
theorem rg_small {n : Nat} (h : n < 1000) : Builtin.Range.small 0 (n : Int) 1 = true := by
  unfold Builtin.Range.small
  rw [rg_size]
  simp [Builtin.Range.rangeFitsLong]
  omega
theorem rg_small' {m n : Nat} (e : m = n) (h : n < 64) : Builtin.Range.small 0 ((m : Int) - 1) 1 = true := by
  subst e
  rcases Nat.eq_zero_or_pos m with rfl | h'
  · decide
  · rw [show (m : Int) - 1 = ((m - 1 : Nat) : Int) by omega]; exact rg_small (by omega)
theorem rg_size' {m n : Nat} (e : m = n) (h : 0 < n) : Builtin.Range.rangeSize 0 ((m : Int) - 1) 1 = ((n - 1 : Nat) : Int) := by
  subst e
  rw [show (m : Int) - 1 = ((m - 1 : Nat) : Int) by omega]; exact rg_size _
def bump (i : Nat) (l : List Int) : List Int := if cls (l.getD i 0) > cls (l.getD (i + 1) 0) ∧ cls (l.getD (i + 1) 0) > 0 then (l.set i (l.getD (i + 1) 0)).set (i + 1) (l.getD i 0) else l
def bumps (j : Nat) : Nat → List Int → List Int
  | 0, l => l
  | n + 1, l => bump (j + n) (bumps j n l)
theorem bumps_first (j : Nat) : ∀ (n : Nat) (l : List Int), bumps j (n + 1) l = bumps (j + 1) n (bump j l)
  | 0, _ => rfl
  | n + 1, l => by rw [bumps, bumps_first j n l, bumps]; congr 1; omega
theorem bump_cons (i : Nat) (a : Int) (t : List Int) : bump (i + 1) (a :: t) = a :: bump i t := by
  unfold bump
  simp only [List.getD_cons_succ, List.set_cons_succ]
  split <;> rfl
theorem bumps_cons (j : Nat) (a : Int) (t : List Int) : ∀ n, bumps (j + 1) n (a :: t) = a :: bumps j n t
  | 0 => rfl
  | n + 1 => by rw [bumps, bumps_cons j a t n, bumps, show j + 1 + n = (j + n) + 1 by omega, bump_cons]
theorem bumps_pass : ∀ (n : Nat) (l : List Int), l.length = n + 1 → bumps 0 n l = pass l
  | 0, [a], _ => by simp [bumps, pass1]
  | n + 1, a :: b :: t, h => by
    rw [bumps_first, pass2]
    have hl : ∀ x : Int, (x :: t).length = n + 1 := fun x => by simpa using h
    have e : bump 0 (a :: b :: t) = if cls a > cls b ∧ cls b > 0 then b :: a :: t else a :: b :: t := rfl
    rw [e]
    split
    · rw [bumps_cons, bumps_pass n (a :: t) (hl a)]
    · rw [bumps_cons, bumps_pass n (b :: t) (hl b)]
theorem passes_snoc : ∀ (n : Nat) (l : List Int), passes (n + 1) l = pass (passes n l)
  | 0, _ => rfl
  | n + 1, l => by rw [passes, passes_snoc n (pass l), passes]
theorem passes_len : ∀ (n : Nat) (l : List Int), (passes n l).length = l.length
  | 0, _ => rfl
  | n + 1, l => by rw [passes, passes_len n, pass_len _ _ (Nat.le_refl _)]
theorem bump_len (i : Nat) (l : List Int) : (bump i l).length = l.length := by unfold bump; split <;> simp
theorem bumps_len (j : Nat) : ∀ (n : Nat) (l : List Int), (bumps j n l).length = l.length
  | 0, _ => rfl
  | n + 1, l => by rw [bumps, bump_len, bumps_len j n]
theorem m_cget {w : World} {A : Around} {E : Value → Shared → Prop} {s : Shared} {h₀ : Heap} {L r : Addr} {news : Led} {o : Obj} {t1 t2 t t0 : Tok} {x : Int} {Q : Value → Shared → Prop}
    (N : News h₀ L s.heap news) (hm : (r, o) ∈ news) (lo : (r == sysModules) = false) (hd : o.IsDictOf (intKind PG w) [(769, .int 230 t1), (803, .int 220 t2)])
    (h : ∀ t', Q (.int (cls x) t') { s with toks := s.toks + 1 }) : wpAny (model PG w) A (call (.builtin "dict.get") [.ref r, .int x t, .int 0 t0]) Q E s := by
  obtain ⟨t', e⟩ := clsGet x t1 t2 t0
  exact m_get2 N hm lo hd (intKind_is _ _ _ _) e (h t')
theorem bumps_stay1 {n : Nat} {l fcs : List Int} (e : fcs = bumps 0 n l) (h : ¬ cls (fcs.getD (0 + (n : Int) + 1).toNat 0) < cls (fcs.getD (0 + (n : Int)).toNat 0)) : fcs = bumps 0 (n + 1) l := by
  subst e
  rw [show (0 + (n : Int) + 1).toNat = n + 1 by omega, show (0 + (n : Int)).toNat = n by omega] at h
  rw [bumps, Nat.zero_add, bump, if_neg (fun q => h q.1)]
theorem bumps_stay2 {n : Nat} {l fcs : List Int} (e : fcs = bumps 0 n l) (_ : cls (fcs.getD (0 + (n : Int) + 1).toNat 0) < cls (fcs.getD (0 + (n : Int)).toNat 0)) (h : ¬ 0 < cls (fcs.getD (0 + (n : Int) + 1).toNat 0)) : fcs = bumps 0 (n + 1) l := by
  subst e
  rw [show (0 + (n : Int) + 1).toNat = n + 1 by omega] at h
  rw [bumps, Nat.zero_add, bump, if_neg (fun q => h q.2)]
theorem bumps_swap {n : Nat} {l fcs : List Int} (e : fcs = bumps 0 n l) (h1 : cls (fcs.getD (0 + (n : Int) + 1).toNat 0) < cls (fcs.getD (0 + (n : Int)).toNat 0)) (h : 0 < cls (fcs.getD (0 + (n : Int) + 1).toNat 0)) :
    bumps 0 (n + 1) l = (fcs.set (0 + (n : Int)).toNat (fcs.getD (0 + (n : Int) + 1).toNat 0)).set (0 + (n : Int) + 1).toNat (fcs.getD (0 + (n : Int)).toNat 0) := by
  subst e
  rw [show (0 + (n : Int) + 1).toNat = n + 1 by omega, show (0 + (n : Int)).toNat = n by omega] at *
  rw [bumps, Nat.zero_add, bump, if_pos ⟨h1, h⟩]
theorem passes_step {i : Nat} {l fcs : List Int} (e : fcs = bumps 0 (l.length - 1) (passes i l)) (h : i < l.length) : fcs = passes (i + 1) l := by
  rw [e, passes_snoc, bumps_pass _ _ (by rw [passes_len]; omega)]
theorem toldGet {led : Led} {a1 a2 a3 a4 a5 a6 DV n : Nat} {u1 u2 u3 u4 u5 u6 t : Tok} {x : Int} {e : Value} {rest : List Value} (hr : rest = [] ∨ rest = [e])
    (h6 : (a6, tupO (List.toArray []) 0) ∈ led) (h5 : (a5, tupO (List.toArray [.int 107 u6]) 0) ∈ led) (h4 : (a4, tupO (List.toArray [.int 102 u4, .int 105 u5]) 0) ∈ led) (h3 : (a3, tupO (List.toArray [.int 97 u3]) 0) ∈ led) (h2 : (a2, tupO (List.toArray [.int 233 u2]) 0) ∈ led) (h1 : (a1, tupO (List.toArray [.int 101 u1]) 0) ∈ led) (hD : (DV, tupO (List.toArray (.int x t :: rest)) n) ∈ led) :
    ∃ a ts m, (valueAt [((69 : Int), Value.ref a1), (201, .ref a2), (65, .ref a3), (64257, .ref a4), (8490, .ref a5), (173, .ref a6)] x).getD (.ref DV) = .ref a ∧ (a, tupO (List.toArray ts) m) ∈ led ∧ ((∃ l, told x = some l ∧ IntsAre ts l) ∨ (told x = none ∧ ts = .int x t :: rest)) := by
  unfold told
  by_cases k1 : x = 69
  · subst k1; exact ⟨a1, _, _, rfl, h1, .inl ⟨_, rfl, .cons _ _ .nil⟩⟩
  by_cases k2 : x = 201
  · subst k2; exact ⟨a2, _, _, rfl, h2, .inl ⟨_, rfl, .cons _ _ .nil⟩⟩
  by_cases k3 : x = 65
  · subst k3; exact ⟨a3, _, _, rfl, h3, .inl ⟨_, rfl, .cons _ _ .nil⟩⟩
  by_cases k4 : x = 64257
  · subst k4; exact ⟨a4, _, _, rfl, h4, .inl ⟨_, rfl, .cons _ _ (.cons _ _ .nil)⟩⟩
  by_cases k5 : x = 8490
  · subst k5; exact ⟨a5, _, _, rfl, h5, .inl ⟨_, rfl, .cons _ _ .nil⟩⟩
  by_cases k6 : x = 173
  · subst k6; exact ⟨a6, _, _, rfl, h6, .inl ⟨_, rfl, .nil⟩⟩
  have e1 : ¬ (69 : Int) = x := fun e => k1 e.symm
  have e2 : ¬ (201 : Int) = x := fun e => k2 e.symm
  have e3 : ¬ (65 : Int) = x := fun e => k3 e.symm
  have e4 : ¬ (64257 : Int) = x := fun e => k4 e.symm
  have e5 : ¬ (8490 : Int) = x := fun e => k5 e.symm
  have e6 : ¬ (173 : Int) = x := fun e => k6 e.symm
  exact ⟨DV, _, _, by simp [valueAt, e1, e2, e3, e4, e5, e6], hD, .inr ⟨by simp [k1, k2, k3, k4, k5, k6], rfl⟩⟩
theorem toldGetN {h₀ h : Heap} {L : Addr} {led : Led} {a1 a2 a3 a4 a5 a6 DV n : Nat} {u1 u2 u3 u4 u5 u6 t : Tok} {x : Int} {rest : List Value} (_ : News h₀ L h led)
    (h6 : (a6, tupO (List.toArray []) 0) ∈ led) (h5 : (a5, tupO (List.toArray [.int 107 u6]) 0) ∈ led) (h4 : (a4, tupO (List.toArray [.int 102 u4, .int 105 u5]) 0) ∈ led) (h3 : (a3, tupO (List.toArray [.int 97 u3]) 0) ∈ led) (h2 : (a2, tupO (List.toArray [.int 233 u2]) 0) ∈ led) (h1 : (a1, tupO (List.toArray [.int 101 u1]) 0) ∈ led) (hD : (DV, tupO (List.toArray (.int x t :: rest)) n) ∈ led)
    (hr : rest = [] ∨ ∃ e, rest = [e]) :
    ∃ a ts m, (valueAt [((69 : Int), Value.ref a1), (201, .ref a2), (65, .ref a3), (64257, .ref a4), (8490, .ref a5), (173, .ref a6)] x).getD (.ref DV) = .ref a ∧ (a, tupO (List.toArray ts) m) ∈ led ∧ ((∃ l, told x = some l ∧ IntsAre ts l) ∨ (told x = none ∧ ts = .int x t :: rest)) := by
  rcases hr with rfl | ⟨e, rfl⟩
  · exact toldGet (e := .none) (.inl rfl) h6 h5 h4 h3 h2 h1 hD
  · exact toldGet (.inr rfl) h6 h5 h4 h3 h2 h1 hD
theorem tup_ne_list {h₀ h : Heap} {L : Addr} {led : Led} {a b m n : Nat} {ts vs : Array Value} (N : News h₀ L h led) (h1 : (a, tupO ts m) ∈ led) (h2 : (b, listOf vs n) ∈ led) : @Ne Nat a b := by
  rintro rfl
  have e := (N _ h1).1.symm.trans (N _ h2).1
  have e2 := congrArg (fun o : Option Obj => o.map (·.cls)) e
  simp at e2
end
section
theorem la_nn (i : Nat) : (0 : Int) ≤ 0 + (i : Int) := by omega
theorem la_nn1 (i : Nat) : (0 : Int) ≤ 0 + (i : Int) + 1 := by omega
theorem la_lt {i e f : Nat} (h : i < e - 1) (hv : f = e) : 0 + (i : Int) < (f : Int) := by omega
theorem la_lt1 {i e f : Nat} (h : i < e - 1) (hv : f = e) : 0 + (i : Int) + 1 < (f : Int) := by omega
theorem la_b {i e f : Nat} (h : i < e - 1) (hv : f = e) : i < f := by omega
theorem la_b1 {i e f : Nat} (h : i < e - 1) (hv : f = e) : i + 1 < f := by omega
theorem la_le {e f : Nat} (hv : f = e) (h : e < 64) : f ≤ 10000 := by omega
set_option maxRecDepth 100000 in
set_option maxHeartbeats 8000000 in
theorem c_lapart {w : World} {news : Led} {l k : Nat} {vs : List Value} {xs : List Int} (hl : (l, listOf vs.toArray k) ∈ news) (hi : IntsAre vs xs) (hx : ∀ x ∈ xs, x ∈ AL) (h64 : (exps xs).length < 64) :
    CC w 388 [.ref l] 30 news (NewL news (lapart xs)) := by
  refine CC.mk ?_; k_fill; intro p loose mean mg mb dp un gd cn cs a ccd cl outer A₀ base h₀ L m s Q E B F X N T9 hk hdp hun hret
  have hMk : KstMark := kstMark
  k_with_none
  k_with "m_allIn" => first | exact List.forall_mem_nil _ | (refine sub_cons (by k_memK) ?_; k_extra "m_allIn") | (intro p9 h9; kst_mem)
  k_with "m_ra" => first | assumption | exact And.right (by first | assumption | exact And.right (by first | assumption | exact And.right (by first | assumption | exact And.right (by first | assumption | exact And.right (by first | assumption | exact And.right (by first | assumption | exact And.right (by first | assumption | exact And.right (by assumption))))))))
  k_with "m_and" => first | k_extra "m_ra" | exact And.left (by k_extra "m_ra")
  k_with "m_neA" => first | k_extra "m_and" | (refine Ne.symm ?_; k_extra "m_and") | (refine Nat.ne_of_lt ?_; k_extra "m_and") | (refine Nat.ne_of_gt ?_; k_extra "m_and") | (refine Nat.ne_of_lt (Nat.lt_succ_of_lt ?_); k_extra "m_and")
  k_with "m_lt" => first | assumption | exact allLt_of (by assumption) | k_extra "m_and"
  k_with "kst_in" => (try dsimp only); with_unfolding_all ((try simp only [List.nil_append, List.cons_append]); k_extra "m_allIn")
  k_with "k_ne" => refine neN ?_; (try dsimp only); first | (with_reducible assumption) | (with_reducible exact Ne.symm (by assumption)) | (with_reducible exact Nat.ne_of_lt (by assumption)) | (with_reducible exact Nat.ne_of_gt (by assumption)) | with_reducible k_extra "m_neA" | k_extra "m_neA" | omega
  k_with "k_all" => first | exact List.forall_mem_nil _ | assumption | exact lt_ne (by assumption) | exact lt_ne (by k_extra "m_lt") | exact lt_ne1 (by k_extra "m_lt") | (refine ne_cons ?_ ?_; (focus k_ne); k_all) | (refine List.forall_mem_cons.mpr (And.intro ?_ ?_); (focus k_ne); k_all)
  k_with "k_in" => (rename Fr _ _ _ _ => lF8); (rename Frag.In _ _ => lX8); exact Frag.In.keeps lX8 (Fr.keep lF8)
  k_with "ktr_room" => k_dflt (first | exact rmA (by assumption) (by exact rfl) | exact rmB (by assumption))
  k_with "ktr_units" => k_dflt (first | exact unA (by assumption) (by exact rfl) | exact unC (by assumption) (by exact rfl))
  k_with "MPost" => dsimp only [MPost]
  k_with "execs cons" => with_reducible refine gen_tok ?_; intro tk9
  k_with "m_for" => k_here; (rename Fr _ _ _ _ => lF'); k_dflt (refine' For_invVF ?zF ?zk1 ?zk2 ?_ ?zs ?ze; (case zF => exact lF'); (case zk1 => exact rfl); (case zk2 => exact rfl); (case zs => (intro _; rfl)); (case ze => passes_own); k_whole)
  k_with "exec For Name Name cons nil" => k_extra "m_for"
  k_with "exec For Name Subscript cons nil" => k_extra "m_for"
  k_with "exec For Name Call cons nil" => k_extra "m_for"
  k_with "exec For Name Attribute cons nil" => k_extra "m_for"
  k_with "exec For Name Tuple cons nil" => k_extra "m_for"
  k_with "compareOp NotEq ref ref" => k_here; (with_reducible show wpAny _ _ (compareOp CmpOp.NotEq (Value.ref _) (Value.ref _)) _ _ _); k_dflt (first | refine ke_ne_ints (by is_list) (by is_list) (by l_ints) (by l_ints) (by ktr_units) ?_ | ((refine ne_dataH (by ke_read) (by ke_read) (by ke_shaped) (by ke_shaped) (by ktr_units) ?_); ke_norm))
  k_with "compareOp Eq ref ref" => k_here; (with_reducible show wpAny _ _ (compareOp CmpOp.Eq (Value.ref _) (Value.ref _)) _ _ _); k_dflt (first | refine ke_eq_ints (by is_list) (by is_list) (by l_ints) (by l_ints) (by ktr_units) ?_ | ((refine eq_dataH (by ke_read) (by ke_read) (by ke_shaped) (by ke_shaped) (by ktr_units) ?_); ke_norm))
  w_top off
  k_with "pyIter ref" =>
    rename Fr _ _ _ _ => lF'
    rename News _ _ _ _ => lN'
    with_unfolding_all refine' mfor (σ := LstS) (l := l) (vs := vs.toArray) (nn := k) (LstL news) (fun c => [(Str.ofString "found", .ref c.fa)]) [] (LstP news (fun i => exps (xs.take i))) ⟨_, [], [], 0⟩ rfl (fun c => .tail _ hl) lF' (kst_newsOf lN' ?sub) ?kk ?pp ?_ ?_
    (case kk => kst_all)
    (case sub => dsimp only [LstL]; kst_in)
    (case pp => exact ⟨.nil, rfl, by walk_at "m_lt"⟩)
    clear lF' lN'
    rintro I9 oI9 ⟨fa, fvs, fcs, fn⟩ i9 v9 u9 h9 tk9 hv9 hP9 hne9 F9 N9
    obtain ⟨p1, p2, p3⟩ := hP9
    (dsimp only [LstL] at p1 p2 p3 N9 F9 hne9)
    (have g9 := gnNe_of hne9); (dsimp only [GnNe] at g9)
    obtain ⟨x9, t9, rfl, hx9⟩ := IntsAre.at hi i9 v9 (by simpa using hv9)
    have hxA := hx x9 (List.mem_of_getElem? hx9)
    have hes := exps_snoc hx9
    have hlen9 := p1.length
    have hle9 := exps_le (xs := xs) (i9 + 1)
    rw [hes, ← p2] at hle9
    (try k_fold)
    rotate_left 1
    rintro ⟨fa, fvs, fcs, fn⟩ u9 h9 tk9 hP9 F9 N9
    obtain ⟨p1, p2, p3⟩ := hP9
    (dsimp only [LstL] at p1 p2 p3 N9 F9)
    rw [List.take_of_length_le (by have := hi.length; simp; omega)] at p2
    subst p2
    have hv64 : fvs.length < 64 := by rw [p1.length]; exact h64
    (try k_fold)
    rotate_left 1
  k_with "pyIter ref" =>
    rename IsRange _ _ _ _ _ _ _ _ => rgX
    rename Fr _ _ _ _ => lF'
    rename News _ _ _ _ => lN'
    with_unfolding_all refine' mforR (x := Str.ofString "turn") (σ := LstS) (n := (exps xs).length) (LstL news) (fun c => [(Str.ofString "found", .ref c.fa)]) [Str.ofString "at"] (LstP news (fun i => passes i (exps xs))) ⟨fa, fvs, exps xs, fn⟩ rfl rgX (rg_small ?hsm) (rg_size _) lF' (kst_newsOf lN' ?sub) ?kk ?pp ?_ ?_
    (case hsm => omega)
    (case kk => kst_all)
    (case sub => dsimp only [LstL]; kst_in)
    (case pp => k_dflt exact ⟨p1, rfl, by walk_at "m_lt"⟩)
    clear lF' lN' rgX
    rintro I9 oI9 ⟨fa, fvs, fcs, fn⟩ i9 ti9 u9 h9 tk9 hi9 hP9 hne9 F9 N9
    k_dflt (obtain ⟨p1, p2, p3⟩ := hP9)
    (dsimp only [LstL] at p1 p2 p3 N9 F9 hne9)
    (have g9 := gnNe_of hne9); (dsimp only [GnNe] at g9)
    subst p2
    have hpl : (passes i9 (exps xs)).length < 64 := by rw [passes_len]; exact h64
    (try k_fold)
    rotate_left 1
    rintro ⟨fa, fvs, fcs, fn⟩ u9 h9 tk9 hP9 F9 N9
    k_dflt (obtain ⟨p1, p2, p3⟩ := hP9)
    (dsimp only [LstL] at p1 p2 p3 N9 F9)
    (try k_fold)
    rotate_left 1
  k_with "pyIter ref" =>
    rename IsRange _ _ _ _ _ _ _ _ => rgX
    rename Fr _ _ _ _ => lF'
    rename News _ _ _ _ => lN'
    have hfa := p3
    with_unfolding_all refine' mforR (x := Str.ofString "at") (σ := LstS) (n := (exps xs).length - 1) (fun c => (I9, oI9) :: (fa, listOf c.fvs.toArray c.fn) :: news) (fun _ => [(Str.ofString "found", .ref fa)]) [] (LstP news (fun i => bumps 0 i (passes i9 (exps xs)))) ⟨fa, fvs, passes i9 (exps xs), fn⟩ rfl rgX ?hsm ?hsz lF' (kst_newsOf lN' ?sub) ?kk ?pp ?_ ?_
    (case hsm => exact rg_small' (passes_len _ _) h64)
    (case hsz => exact rg_size' (passes_len _ _) (by omega))
    (case kk => kst_all)
    (case sub => dsimp only [LstL]; kst_in)
    (case pp => k_dflt exact ⟨p1, rfl, by walk_at "m_lt"⟩)
    clear lF' lN' rgX
    rintro I8 oI8 ⟨fa8, fvs, fcs, fn⟩ i8 ti8 u8 h8 tk8 hi8 hP8 hne8 F8 N8
    k_dflt (obtain ⟨p1, p2, p3⟩ := hP8)
    (dsimp only [LstL] at p1 p2 p3 N8 F8 hne8)
    (have g8 := gnNe_of hne8); (dsimp only [GnNe] at g8)
    have hpl : fcs.length = (exps xs).length := by rw [p2, bumps_len, passes_len]
    have hvl : fvs.length = (exps xs).length := by rw [p1.length, hpl]
    have hk80 := la_nn i8
    have hk81 := la_nn1 i8
    have hk82 := la_lt hi8 hvl
    have hk86 := la_lt1 hi8 hvl
    have hk83 : ∀ v, 0 + (i8 : Int) + 1 < (fvs.set (0 + (i8 : Int)).toNat v).length := fun v => by rw [List.length_set]; exact hk86
    have hk84 := la_le hvl h64
    have hk85 : ∀ v, (fvs.set (0 + (i8 : Int)).toNat v).length ≤ 10000 := fun v => by rw [List.length_set]; exact hk84
    obtain ⟨ta8, ha8⟩ := ints_get p1 (i := i8) (la_b hi8 hpl)
    obtain ⟨tb8, hb8⟩ := ints_get p1 (i := i8 + 1) (la_b1 hi8 hpl)
    (try k_fold)
    rotate_left 1
    rintro ⟨fa8, fvs, fcs, fn⟩ u8 h8 tk8 hP8 F8 N8
    k_dflt (obtain ⟨p1, p2, p3⟩ := hP8)
    (dsimp only [LstL] at p1 p2 p3 N8 F8)
    (try k_fold)
    rotate_left 1
  k_with "call ref nil" =>
    k_dflt show wpAny _ _ (call (Value.ref _) []) _ _ _
    with_reducible show wpAny _ _ (call (Value.ref 355) []) _ _ _
    refine PrtP.go c_lprt ?_ (by k_asm) (by k_asm) (by k_asm) (by k_asm) (by k_asm) (by first | exact rfl | assumption) (by ktr_room) (by ktr_units)
    rintro rp ap bp op tp3 tp4 tp5 tp6 h9' tk9' F9' N9' lop gp na nb nab nr
    have ga := gnNe_of na
    have gb := gnNe_of nb
    have gr := gnNe_of nr
    dsimp only [GnNe] at ga gb gr
    (try dsimp only); (try k_sweep); (try k_fold)
  k_with "call ref nil" =>
    k_dflt show wpAny _ _ (call (Value.ref _) []) _ _ _
    with_reducible show wpAny _ _ (call (Value.ref 348) []) _ _ _
    refine ClsP.go c_lcls ?_ (by k_asm) (by k_asm) (by k_asm) (by k_asm) (by k_asm) (by first | exact rfl | assumption) (by ktr_room) (by ktr_units)
    rintro rc oc tc1 tc2 h9' tk9' F9' N9' loc gc nrc
    have gr := gnNe_of nrc
    dsimp only [GnNe] at gr
    (repeat (with_reducible rename _ ∧ _ => hs9; have hs8 := And.left hs9; have hs7 := And.right hs9; clear hs9))
    (try dsimp only); (try k_sweep); (try k_fold)
  k_with "newTuple cons int nil" =>
    k_dflt (refine' kup_newTuple ?yF ?yN ?_ ?yz; (case yF => k_asm); (case yN => k_asm); (case yz => kmk_size))
    intro DV h' F' N' l1; (try k_lt l1); (try k_sweep)
  k_with "call builtin:dict.get cons nil" =>
    rename News _ _ _ _ => lN'
    rcases prtGet x9 ap bp (.ref DV) with ⟨q1, q2⟩ | ⟨q1, q2⟩ | ⟨q1, q2⟩
    all_goals (k_dflt (refine' m_get2 lN' ?zm lop gp (intKind_is _ _ _ _) q2 ?_; (case zm => k_mem)))
  k_with "call builtin:dict.get cons nil" =>
    rename News _ _ _ _ => lN'
    k_dflt (refine' m_cget lN' ?zm loc gc ?_; (case zm => k_mem))
    intro tg
  k_with "setItem ref int int" =>
    rename Fr _ _ _ _ => lF'
    rename News _ _ _ _ => lN'
    k_dflt (refine' m_setL lF' lN' ?yU ?y0 ?y1 ?yz ?_; (case yU => k_updF); (case y0 => first | exact hk80 | exact hk81); (case y1 => first | exact hk82 | exact hk83 _); (case yz => first | exact hk84 | exact hk85 _))
    clear lF' lN'
    intro h' n' F' N'; (try dsimp only at N'); (try k_sweep)
  k_with "call builtin:list.extend cons nil" =>
    first
      | (have hft : exp1 x9 = [101, 769] := by (rw [q1]; rfl)
         rw [hft] at hle9
         k_dflt (refine' m_extendT (vs := fvs) (us := [.int 101 tp3, .int 769 tp4]) (b := ap) ?yF ?yN ?yU ?yb ?yz ?_; (case yF => k_asm); (case yN => k_asm); (case yU => k_updF); (case yb => k_mem); (case yz => (simp only [List.length_append, List.length_cons, List.length_nil] at hle9 ⊢; omega))))
      | (have hft : exp1 x9 = [69, 769] := by (rw [q1]; rfl)
         rw [hft] at hle9
         k_dflt (refine' m_extendT (vs := fvs) (us := [.int 69 tp5, .int 769 tp6]) (b := bp) ?yF ?yN ?yU ?yb ?yz ?_; (case yF => k_asm); (case yN => k_asm); (case yU => k_updF); (case yb => k_mem); (case yz => (simp only [List.length_append, List.length_cons, List.length_nil] at hle9 ⊢; omega))))
      | (have hft : exp1 x9 = [x9] := q1
         rw [hft] at hle9
         k_dflt (refine' m_extendT (vs := fvs) (us := [.int x9 t9]) (b := DV) ?yF ?yN ?yU ?yb ?yz ?_; (case yF => k_asm); (case yN => k_asm); (case yU => k_updF); (case yb => k_mem); (case yz => (simp only [List.length_append, List.length_cons, List.length_nil] at hle9 ⊢; omega))))
    intro h' n' F' N'; (try dsimp only at N'); (try k_sweep)
  k_with "MEnd" =>
    rename Fr _ _ _ _ => lF'
    rename News _ _ _ _ => lN'
    first
      | (refine' mend (⟨fa, fvs ++ [.int 101 tp3, .int 769 tp4], fcs ++ exp1 x9, _⟩ : LstS) lF' lN' ?hI ?hn ?hne ?hk ?hr ?hp; (case hn => dsimp only [LstL]; kst_in))
      | (refine' mend (⟨fa, fvs ++ [.int 69 tp5, .int 769 tp6], fcs ++ exp1 x9, _⟩ : LstS) lF' lN' ?hI ?hn ?hne ?hk ?hr ?hp; (case hn => dsimp only [LstL]; kst_in))
      | (refine' mend (⟨fa, fvs ++ [.int x9 t9], fcs ++ exp1 x9, _⟩ : LstS) lF' lN' ?hI ?hn ?hne ?hk ?hr ?hp; (case hn => dsimp only [LstL]; kst_in))
    (case hk => kst_all)
    (case hI => k_dflt k_mem)
    (case hne => exact ne_map hne9 rfl)
    (case hr => (intro z9 g1 g2 g3; (simp only [List.forall_mem_cons, List.not_mem_nil, false_implies, implies_true, and_true, ne_eq] at g2); (simp only [List.contains_cons, List.contains_nil, Bool.or_false, Bool.or_eq_false_iff, beq_eq_false_iff_ne, ne_eq] at g3); (simp [kstB, g1, g2, g3]; done)))
    (case hp => exact ⟨IntsAre.append p1 (by rw [hft]; first | exact .cons _ _ (.cons _ _ .nil) | exact .cons _ _ .nil), by dsimp only; rw [hes, ← p2], p3⟩)
  k_with "MEnd" =>
    rename Fr _ _ _ _ => lF'
    rename News _ _ _ _ => lN'
    first
      | (rename_i c1 c2; refine' mend (⟨fa8, fvs, fcs, fn⟩ : LstS) lF' lN' ?hI ?hn ?hne ?hk ?hr ?hp; (case hn => dsimp only [LstL]; kst_in); (case hp => k_dflt exact ⟨p1, by rw [bumps_stay2 (n := i8) p2 c1 c2], p3⟩))
      | (rename_i c1; refine' mend (⟨fa8, fvs, fcs, fn⟩ : LstS) lF' lN' ?hI ?hn ?hne ?hk ?hr ?hp; (case hn => dsimp only [LstL]; kst_in); (case hp => k_dflt exact ⟨p1, by rw [bumps_stay1 (n := i8) p2 c1], p3⟩))
      | (k_dflt (refine' mend (⟨fa8, (fvs.set (0 + (i8 : Int)).toNat (.int (fcs.getD (0 + (i8 : Int) + 1).toNat 0) _)).set (0 + (i8 : Int) + 1).toNat (.int (fcs.getD (0 + (i8 : Int)).toNat 0) _), bumps 0 (i8 + 1) (passes i9 (exps xs)), _⟩ : LstS) lF' lN' ?hI ?hn ?hne ?hk ?hr ?hp); (case hn => dsimp only [LstL]; kst_in); (case hp => k_dflt exact ⟨by rw [bumps_swap (n := i8) p2 (by assumption) (by assumption)]; exact ints_set (ints_set p1 _ _ _) _ _ _, rfl, p3⟩))
      | (refine' mend (⟨fa, fvs, fcs, fn⟩ : LstS) lF' lN' ?hI ?hn ?hne ?hk ?hr ?hp; (case hn => dsimp only [LstL]; kst_in); (case hp => k_dflt exact ⟨p1, passes_step p2 hi9, hfa⟩))
    (case hk => kst_all)
    (case hI => k_dflt k_mem)
    (case hne => first | exact ne_map hne8 rfl | exact ne_map hne9 rfl)
    (case hr => (intro z9 g1 g2 g3; (simp only [List.forall_mem_cons, List.not_mem_nil, false_implies, implies_true, and_true, ne_eq] at g2); (simp only [List.contains_cons, List.contains_nil, Bool.or_false, Bool.or_eq_false_iff, beq_eq_false_iff_ne, ne_eq] at g3); (simp [kstB, g1, g2, g3]; done)))
  refine wpAny_call ?_
  (k_dflt (refine' code_def ?k1 ?k2 ?k3 ?k4 ?k5 ?kA ?kF ?kK ?k6 ?k7 ?k8 ?k9 ?kB ?_ ?c2 ?c3 ?c4 ?c5; (case kA => exact rfl); (case kF => exact rfl); (case kK => assumption); (case k1 => k_asm); (case k2 => k_asm); (case k3 => k_asm); (case k4 => k_asm); (case k5 => k_asm); (case k6 => k_is); (case k7 => k_is); (case k8 => ktr_room); (case k9 => first | exact BindsTo.of_eq rfl | exact binds_K (by k_in) rfl (by k_is) rfl rfl rfl); (case c5 => decide); (case kB => exact locs rfl); (case c2 => exact rfl); (case c3 => exact rfl); (case c4 => exact rfl); k_whole; intro g' L' h' FG' F' N' B' X' T'; (try dsimp only); (try k_lift B'); (try k_fold)))
  k_steps
  rename Fr _ _ _ _ => lF'
  rename News _ _ _ _ => lN'
  exact newL_end hret lF' lN' (by rw [p2] at p1; exact p1) p3
end
section
inductive LdP (w : World) (news news' : Led) (y : Value) : Prop
  | mk (d : Nat) (ext : Led) (q1 : .ref d = y) (q2 : ext ++ news = news') (q3 : DataOK w ext d) (q4 : ∀ q ∈ ext, ∀ p ∈ news, p.1 ≠ q.1) : LdP w news news' y
theorem LdP.go {wz : World} {fz : Addr} {vz : List Value} {kz : Nat} {ledz : Led} {w : World} {news : Led} (Cz : CC wz fz vz kz ledz (LdP w news))
  {pz : Program} {lz : List Str} {mnz : ExcName → Option Value} {mgz mbz : Str → Option Value} {dpz unz : Nat} {gdz : Option (List Code)} {cnz : Str} {csz : Scope} {az : Addr} {cdz : Value} {clz : List (Str × Addr)} {otz : List Env} {A₀ : Around} {basez h₀ : Heap} {Lz : Addr} {mz : Str → Option Value} {sz : Shared} {Qz Ez : Value → Shared → Prop}
  (ret : ∀ (d : Nat) (ext : Led) (hz : Heap) (tkz : Nat), Fr h₀ Lz hz mz → News h₀ Lz hz (ext ++ news) → (DataOK w ext d) → (∀ q ∈ ext, ∀ p ∈ news, p.1 ≠ q.1) → Qz (.ref d) { sz with heap := hz, toks := tkz })
  (F : Fr h₀ Lz sz.heap mz) (N : News h₀ Lz sz.heap ledz) (B : Below A₀ basez otz h₀) (X : (hd.heap_1_39 wz.params).In h₀) (T : Top pz lz mnz mgz mbz h₀) (hk : csz.kind = .function)
  (hd : dpz + kz < recursionLimit) (hu : unz + 8 * kz < cLine) :
    wpAny (model PySem.Challenge.rw_on0371_01.prog wz) (ktrTop dpz unz gdz cnz csz Lz az cdz clz otz) (call (.ref fz) vz) Qz Ez sz := by
  refine cc_go Cz (fun v news9 h9 tk9 F9 N9 P9 => ?_) F N B X T hk hd hu
  obtain ⟨d, ext, rfl, rfl, q3, q4⟩ := P9
  exact ret d ext h9 tk9 F9 N9 q3 q4
section
variable {w : World} {h₀ h : Heap} {L : Addr} {news news1 ext1 led : Led} {mp d dx df pr wd : Nat} {om od o1 o2 : Obj} {u1 u2 u3 u4 : Tok}
theorem coll0 (N : News h₀ L h ((d, instObj 336 dx) :: (dx, daDict w u1 u2 u3 u4 4 df mp pr wd) :: (df, od) :: (mp, om) :: (pr, o1) :: (wd, o2) :: news))
    (hm : ∀ p ∈ (d, instObj 336 dx) :: (dx, daDict w u1 u2 u3 u4 4 df mp pr wd) :: (df, od) :: (pr, o1) :: (wd, o2) :: news, p.1 ≠ mp) (a1 : ∀ p ∈ news, p.1 ≠ d) (a2 : ∀ p ∈ news, p.1 ≠ dx) (a3 : ∀ p ∈ news, p.1 ≠ df) (a4 : ∀ p ∈ news, p.1 ≠ pr) (a5 : ∀ p ∈ news, p.1 ≠ wd) :
    ∃ ext1 news1 : Led, News h₀ L h ((mp, om) :: news1) ∧ news1 = ext1 ++ news ∧ (d, instObj 336 dx) ∈ ext1 ∧ (dx, daDict w u1 u2 u3 u4 4 df mp pr wd) ∈ ext1 ∧ (df, od) ∈ ext1 ∧
      (d, instObj 336 dx) ∈ news1 ∧ (dx, daDict w u1 u2 u3 u4 4 df mp pr wd) ∈ news1 ∧ (df, od) ∈ news1 ∧ (∀ p ∈ news1, p.1 ≠ mp) ∧ ∀ q ∈ ext1, ∀ p ∈ news, p.1 ≠ q.1 :=
  ⟨[(d, instObj 336 dx), (dx, daDict w u1 u2 u3 u4 4 df mp pr wd), (df, od), (pr, o1), (wd, o2)], _, fun p hp => N p (by simp at hp ⊢; grind), rfl, by simp, by simp, by simp, by simp, by simp, by simp, hm, List.forall_mem_cons.mpr ⟨a1, List.forall_mem_cons.mpr ⟨a2, List.forall_mem_cons.mpr ⟨a3, List.forall_mem_cons.mpr ⟨a4, List.forall_mem_cons.mpr ⟨a5, List.forall_mem_nil _⟩⟩⟩⟩⟩⟩
theorem coll {rx st va r k1 k2 : Nat} {t1 t2 t3 : Tok} {dflt : Value} {sv vv : List Value} {ns : List Int} (vals : Led) (N : News h₀ L h led)
    (hs : ∀ p ∈ (rx, rmDict w t1 t2 t3 3 dflt st va) :: (st, listOf sv.toArray k1) :: (va, listOf vv.toArray k2) :: (r, instObj 280 rx) :: (mp, om) :: (vals ++ news1), p ∈ led)
    (e : news1 = ext1 ++ news) (hi : IntsAre sv ns) (hm : ∀ p ∈ (rx, rmDict w t1 t2 t3 3 dflt st va) :: (st, listOf sv.toArray k1) :: (va, listOf vv.toArray k2) :: (r, instObj 280 rx) :: vals, p.1 ≠ mp) (hn : ∀ p ∈ news1, p.1 ≠ mp) (hx1 : ∀ q ∈ ext1, ∀ p ∈ news, p.1 ≠ q.1) (hfr : ∀ q ∈ (rx, rmDict w t1 t2 t3 3 dflt st va) :: (st, listOf sv.toArray k1) :: (va, listOf vv.toArray k2) :: (r, instObj 280 rx) :: vals, ∀ p ∈ news1, p.1 ≠ q.1) :
    ∃ ext2 news2 : Led, News h₀ L h ((mp, om) :: news2) ∧ news2 = ext2 ++ news ∧ (∀ p ∈ ext1, p ∈ ext2) ∧ (∀ p ∈ news1, p ∈ news2) ∧ (∀ p ∈ vals, p ∈ ext2) ∧ (∀ p ∈ news2, p.1 ≠ mp) ∧ (∀ q ∈ ext2, ∀ p ∈ news, p.1 ≠ q.1) ∧ MapAt w ext2 r dflt ns vv := by
  refine ⟨(rx, rmDict w t1 t2 t3 3 dflt st va) :: (st, listOf sv.toArray k1) :: (va, listOf vv.toArray k2) :: (r, instObj 280 rx) :: (vals ++ ext1), _, fun p hp => N p (hs p ?_), rfl, fun p hp => by simp [hp], fun p hp => ?_, fun p hp => by simp [hp], fun p hp => ?_, fun q hq => ?_, ⟨rx, t1, t2, t3, 3, st, va, k1, k2, sv, by simp, by simp, by simp, hi, by simp⟩⟩
  · rw [e]
    simp only [List.mem_cons, List.mem_append, List.cons_append] at hp ⊢
    grind
  · rw [e] at hp
    simp only [List.mem_cons, List.mem_append, List.cons_append] at hp ⊢
    grind
  · have hp' : p ∈ (rx, rmDict w t1 t2 t3 3 dflt st va) :: (st, listOf sv.toArray k1) :: (va, listOf vv.toArray k2) :: (r, instObj 280 rx) :: vals ∨ p ∈ news1 := by
      rw [e]
      simp only [List.mem_cons, List.mem_append, List.cons_append] at hp ⊢
      grind
    exact hp'.elim (hm p) (hn p)
  · have hq' : q ∈ (rx, rmDict w t1 t2 t3 3 dflt st va) :: (st, listOf sv.toArray k1) :: (va, listOf vv.toArray k2) :: (r, instObj 280 rx) :: vals ∨ q ∈ ext1 := by
      simp only [List.mem_cons, List.mem_append] at hq ⊢
      grind
    exact hq'.elim (fun h p hp => hfr q h p (by rw [e]; exact List.mem_append_right _ hp)) (hx1 q)
theorem ld_fin {rx st va r k1 k2 r1 r2 : Nat} {t1 t2 t3 t0 : Tok} {sv vv vc vd : List Value} {dk : List (Str × Value)} (vals : Led) (N : News h₀ L h led)
    (hs : ∀ p ∈ (rx, rmDict w t1 t2 t3 3 .none st va) :: (st, listOf sv.toArray k1) :: (va, listOf vv.toArray k2) :: (r, instObj 280 rx) :: (mp, om) :: (vals ++ news1), p ∈ led)
    (e : news1 = ext1 ++ news) (hi : IntsAre sv NSF) (gd : (d, instObj 336 dx) ∈ ext1) (gx : (dx, daDict w u1 u2 u3 u4 4 df mp pr wd) ∈ ext1) (gf : (df, od) ∈ ext1)
    (lm : (mp == sysModules) = false) (hd : om.IsDictOf (strKind PG w) [(Str.ofString "ccc", .ref r1), (Str.ofString "dm", .ref r2), (Str.ofString "nfkc_cf", .ref r)]) (lf : (df == sysModules) = false) (hdk : od.IsDictOf (strKind PG w) dk)
    (e1 : valueAt dk (Str.ofString "ex") = some (.bool false)) (hM1 : MapAt w ext1 r1 (.int 0 t0) NSC vc) (hM2 : MapAt w ext1 r2 .none NSD vd) (hc : CVal vc) (hv : DVal ext1 vd) (hf : FVal vals vv) (hn : ∀ p ∈ news1, p.1 ≠ mp) (hx1 : ∀ q ∈ ext1, ∀ p ∈ news, p.1 ≠ q.1) (hfr : ∀ q ∈ (rx, rmDict w t1 t2 t3 3 .none st va) :: (st, listOf sv.toArray k1) :: (va, listOf vv.toArray k2) :: (r, instObj 280 rx) :: vals, ∀ p ∈ news1, p.1 ≠ q.1) :
    ∃ news', News h₀ L h news' ∧ LdP w news news' (.ref d) := by
  refine ⟨_, fun p hp => N p (hs p ?_), d, (rx, rmDict w t1 t2 t3 3 .none st va) :: (st, listOf sv.toArray k1) :: (va, listOf vv.toArray k2) :: (r, instObj 280 rx) :: (mp, om) :: (vals ++ ext1), rfl, rfl, ?_, fun q hq => ?_⟩
  · rw [e]
    simp only [List.mem_cons, List.mem_append, List.cons_append] at hp ⊢
    grind
  · have hx : ∀ p ∈ ext1, p ∈ (rx, rmDict w t1 t2 t3 3 .none st va) :: (st, listOf sv.toArray k1) :: (va, listOf vv.toArray k2) :: (r, instObj 280 rx) :: (mp, om) :: (vals ++ ext1) := fun p hp => by simp [hp]
    have hx2 : ∀ p ∈ vals, p ∈ (rx, rmDict w t1 t2 t3 3 .none st va) :: (st, listOf sv.toArray k1) :: (va, listOf vv.toArray k2) :: (r, instObj 280 rx) :: (mp, om) :: (vals ++ ext1) := fun p hp => by simp [hp]
    exact ⟨dx, df, mp, pr, wd, u1, u2, u3, u4, 4, om, _, od, dk, r1, r2, r, t0, vc, vd, vv, hx _ gd, hx _ gx, by simp, lm, hd, hx _ gf, lf, hdk, rfl, by rw [e1]; rfl, rfl, rfl, rfl, hM1.mono hx, hM2.mono hx,
      ⟨rx, t1, t2, t3, 3, st, va, k1, k2, sv, by simp, by simp, by simp, hi, by simp⟩, hc, hv.mono hx, hf.mono hx2⟩
  · have hq' : q ∈ (rx, rmDict w t1 t2 t3 3 .none st va) :: (st, listOf sv.toArray k1) :: (va, listOf vv.toArray k2) :: (r, instObj 280 rx) :: vals ∨ q = (mp, om) ∨ q ∈ ext1 := by
      simp only [List.mem_cons, List.mem_append] at hq ⊢
      grind
    have hnn : ∀ p ∈ news, p ∈ news1 := fun p hp => by rw [e]; exact List.mem_append_right _ hp
    rcases hq' with h | rfl | h
    · exact fun p hp => hfr q h p (hnn p hp)
    · exact fun p hp => hn p (hnn p hp)
    · exact hx1 q h
end
theorem ne_sub {l l' : Led} {a : Addr} (h : ∀ p ∈ l, p.1 ≠ a) (hs : ∀ p ∈ l', p ∈ l) : ∀ p ∈ l', p.1 ≠ a := fun p hp => h p (hs p hp)
end
section
def ldQ (i : Nat) : Int := [65, 69, 173, 201, 8490, 64257].getD i 0
def ldX (i : Nat) : List Int := [[97], [101], [], [233], [107], [102, 105]].getD i []
def ldN : Nat → List Int
  | 0 => [0]
  | i + 1 => ldN i ++ [ldQ i, ldQ i + 1]
abbrev ldName : Str := Str.ofString "nfkc_cf"
/-- what the map's values are after i puts, and the tuples that they name -/
inductive LdV : Nat → List Value → Led → Prop
  | zero : LdV 0 [.none] []
  | succ {i : Nat} {vv : List Value} {tups : Led} (h : LdV i vv tups) (A n : Nat) (ts : List Value) (ht : IntsAre ts (ldX i)) : LdV (i + 1) (vv ++ [.ref A, .none]) ((A, tupO ts.toArray n) :: tups)
theorem ldN_len : ∀ i, (ldN i).length = 2 * i + 1
  | 0 => rfl
  | i + 1 => by
    show (ldN i ++ [_, _]).length = _
    rw [List.length_append, ldN_len i]; rfl
theorem LdV.len {i : Nat} {vv : List Value} {tups : Led} (h : LdV i vv tups) : vv.length = 2 * i + 1 ∧ vv[2 * i]? = some .none := by
  induction h with
  | zero => exact ⟨rfl, rfl⟩
  | @succ i vv tups h A n ts ht ih =>
    have e : (vv ++ [Value.ref A, .none]).length = 2 * (i + 1) + 1 := by rw [List.length_append, ih.1]; rfl
    refine ⟨e, ?_⟩
    rw [List.getElem?_append_right (by rw [ih.1]; exact Nat.le_succ _), ih.1, show 2 * (i + 1) - (2 * i + 1) = 1 from Nat.add_sub_cancel_left (2 * i + 1) 1]
    rfl
inductive LdI (w : World) (mp : Nat) (om2 : Obj) (news3 : Led) (mk : List (Str × Value)) : Nat → Led → Prop
  | zero : LdI w mp om2 news3 mk 0 ((mp, om2) :: news3)
  | succ {i : Nat} {r rx st va k1 k2 : Nat} {t1 t2 t3 : Tok} {om : Obj} {sv vv : List Value} {tups : Led} (hd : om.IsDictOf (strKind PG w) (mk ++ [(ldName, .ref r)])) (hi : IntsAre sv (ldN (i + 1))) (hv : LdV (i + 1) vv tups)
    (hne : ∀ p ∈ (mp, om) :: (r, instObj 280 rx) :: (tups ++ news3), p.1 ≠ rx ∧ p.1 ≠ st ∧ p.1 ≠ va) (h12 : @Ne Nat rx st) (h13 : @Ne Nat rx va) (h23 : @Ne Nat st va) (hr : ∀ p ∈ news3, p.1 ≠ r) (htu : ∀ q ∈ tups, ∀ p ∈ news3, p.1 ≠ q.1) :
    LdI w mp om2 news3 mk (i + 1) ((rx, rmDict w t1 t2 t3 3 .none st va) :: (st, listOf sv.toArray k1) :: (va, listOf vv.toArray k2) :: (mp, om) :: (r, instObj 280 rx) :: (tups ++ news3))
inductive LdJ (w : World) (mp : Nat) (om2 : Obj) (news3 : Led) (mk : List (Str × Value)) (D : Nat) (i : Nat) (c : Led) : Prop
  | mk (h : LdI w mp om2 news3 mk i c) (hD : ∀ p ∈ c, p.1 ≠ D) : LdJ w mp om2 news3 mk D i c
theorem LdI.sub {w : World} {mp : Nat} {om2 : Obj} {news3 : Led} {mk : List (Str × Value)} {i : Nat} {c : Led} (h : LdI w mp om2 news3 mk i c) : ∀ p ∈ news3, p ∈ c := by
  cases h with
  | zero => exact fun p hp => .tail _ hp
  | succ => exact fun p hp => .tail _ (.tail _ (.tail _ (.tail _ (.tail _ (List.mem_append_right _ hp)))))
theorem lt_sub {l l' : Led} {D : Nat} (h : ∀ p ∈ l, p.1 < D) (hs : ∀ p ∈ l', p ∈ l) : ∀ p ∈ l', p.1 ≠ D := fun p hp => Nat.ne_of_lt (h p (hs p hp))
theorem ld_item {t : Nat → Tok} {i : Nat} {v : Value} (h : (List.toArray [.int 65 (t 0), .int 69 (t 1), .int 173 (t 2), .int 201 (t 3), .int 8490 (t 4), .int 64257 (t 5)])[i]? = some v) : i < 6 ∧ ∃ u, v = .int (ldQ i) u := by
  match i, h with
  | 0, h => exact ⟨by decide, t 0, (Option.some.inj h).symm⟩
  | 1, h => exact ⟨by decide, t 1, (Option.some.inj h).symm⟩
  | 2, h => exact ⟨by decide, t 2, (Option.some.inj h).symm⟩
  | 3, h => exact ⟨by decide, t 3, (Option.some.inj h).symm⟩
  | 4, h => exact ⟨by decide, t 4, (Option.some.inj h).symm⟩
  | 5, h => exact ⟨by decide, t 5, (Option.some.inj h).symm⟩
inductive ToldAt (led news : Led) (kvs : List (Int × Value)) (i : Nat) : Prop
  | mk (A m : Nat) (ts : List Value) (q1 : valueAt kvs (ldQ i) = some (.ref A)) (q2 : (A, tupO ts.toArray m) ∈ led) (q3 : IntsAre ts (ldX i)) (q4 : ∀ p ∈ news, p.1 ≠ A) : ToldAt led news kvs i
theorem told_at {h₀ h : Heap} {L : Addr} {news tl : Led} {a1 a2 a3 a4 a5 a6 : Nat} {u1 u2 u3 u4 u5 u6 : Tok} {i : Nat} (hi : i < 6) (_N : News h₀ L h ((a6, tupO (List.toArray []) 0) :: (a5, tupO (List.toArray [.int 107 u6]) 0) :: (a4, tupO (List.toArray [.int 102 u4, .int 105 u5]) 0) :: (a3, tupO (List.toArray [.int 97 u3]) 0) :: (a2, tupO (List.toArray [.int 233 u2]) 0) :: (a1, tupO (List.toArray [.int 101 u1]) 0) :: tl)) (n1 : ∀ p ∈ news, p.1 ≠ a1) (n2 : ∀ p ∈ news, p.1 ≠ a2) (n3 : ∀ p ∈ news, p.1 ≠ a3) (n4 : ∀ p ∈ news, p.1 ≠ a4) (n5 : ∀ p ∈ news, p.1 ≠ a5) (n6 : ∀ p ∈ news, p.1 ≠ a6) :
    ToldAt ((a6, tupO (List.toArray []) 0) :: (a5, tupO (List.toArray [.int 107 u6]) 0) :: (a4, tupO (List.toArray [.int 102 u4, .int 105 u5]) 0) :: (a3, tupO (List.toArray [.int 97 u3]) 0) :: (a2, tupO (List.toArray [.int 233 u2]) 0) :: (a1, tupO (List.toArray [.int 101 u1]) 0) :: tl) news
      [(69, .ref a1), (201, .ref a2), (65, .ref a3), (64257, .ref a4), (8490, .ref a5), (173, .ref a6)] i := by
  match i, hi with
  | 0, _ => exact ⟨a3, 0, _, rfl, .tail _ (.tail _ (.tail _ (.head _))), .cons _ _ .nil, n3⟩
  | 1, _ => exact ⟨a1, 0, _, rfl, .tail _ (.tail _ (.tail _ (.tail _ (.tail _ (.head _))))), .cons _ _ .nil, n1⟩
  | 2, _ => exact ⟨a6, 0, _, rfl, .head _, .nil, n6⟩
  | 3, _ => exact ⟨a2, 0, _, rfl, .tail _ (.tail _ (.tail _ (.tail _ (.head _)))), .cons _ _ .nil, n2⟩
  | 4, _ => exact ⟨a5, 0, _, rfl, .tail _ (.head _), .cons _ _ .nil, n5⟩
  | 5, _ => exact ⟨a4, 0, _, rfl, .tail _ (.tail _ (.head _)), .cons _ _ (.cons _ _ .nil), n4⟩
theorem ld_shaped (i : Nat) (hi : i < 6) : PySem.SeqAt.shaped (.tuple ((ldX i).map PyData.int)) = true := by
  match i, hi with
  | 0, _ => with_unfolding_all rfl
  | 1, _ => with_unfolding_all rfl
  | 2, _ => with_unfolding_all rfl
  | 3, _ => with_unfolding_all rfl
  | 4, _ => with_unfolding_all rfl
  | 5, _ => with_unfolding_all rfl
theorem ld_bs (i : Nat) (hi : i + 1 < 6) : bs (ldN (i + 1)) (ldQ (i + 1) - 1) = (ldN (i + 1)).length ∧ bs (ldN (i + 1)) (ldQ (i + 1) + 1) = (ldN (i + 1)).length ∧ ldQ (i + 1) < 1114111 := by
  match i, hi with
  | 0, _ => decide
  | 1, _ => decide
  | 2, _ => decide
  | 3, _ => decide
  | 4, _ => decide
inductive LdS (w : World) (mp : Nat) (om2 : Obj) (news3 : Led) (mk : List (Str × Value)) (i : Nat) (ex news' : Led) (z : Value) : Prop
  | mk (led' : Led) (q1 : .none = z) (q2 : ∀ p ∈ ex ++ led', p ∈ news') (q3 : LdI w mp om2 news3 mk (i + 1) led') (q4 : ∀ p ∈ ex, ∀ q ∈ led', p.1 ≠ q.1) : LdS w mp om2 news3 mk i ex news' z
theorem mem_sw {a : Addr × Obj} {ex l : Led} {p : Addr × Obj} (hp : p ∈ ex ++ a :: l) : p = a ∨ p ∈ ex ++ l := by
  rcases List.mem_append.mp hp with hp | hp
  · exact .inr (List.mem_append_left _ hp)
  · rcases List.mem_cons.mp hp with hp | hp
    · exact .inl hp
    · exact .inr (List.mem_append_right _ hp)
theorem ld_step {w : World} {news3 led ex : Led} {d dx df mp pr wd n A m i : Nat} {u1 u2 u3 u4 t' tc tc' : Tok} {om2 od : Obj} {mk dk : List (Str × Value)} {ts : List Value}
  (g1 : (d, instObj 336 dx) ∈ news3) (g2 : (dx, daDict w u1 u2 u3 u4 n df mp pr wd) ∈ news3) (lo : (mp == sysModules) = false) (gd : om2.IsDictOf (strKind PG w) mk) (gf : valueAt mk ldName = none) (gf2 : ∀ r, valueAt (mk ++ [(ldName, .ref r)]) ldName = some (.ref r))
  (g6 : (df, od) ∈ news3) (lo2 : (df == sysModules) = false) (gd2 : od.IsDictOf (strKind PG w) dk) (gdf : valueAt dk ldName = some .none) (hz : mk.length ≤ 100) (hmp : ∀ p ∈ news3, p.1 ≠ mp)
  (hP : LdI w mp om2 news3 mk i led) (hi : i < 6) (ht : IntsAre ts (ldX i)) (hA : ∀ p ∈ ex ++ led, p.1 ≠ A) (hE : ∀ p ∈ ex, ∀ q ∈ led, p.1 ≠ q.1) :
  CC w 319 [.ref d, .str ldName t', .int (ldQ i) tc, .int (ldQ i) tc', .ref A] 24 ((A, tupO ts.toArray m) :: (ex ++ led)) (LdS w mp om2 news3 mk i ex) := by
  have exM : ∀ {l : Led} {p : Addr × Obj}, p ∈ l → p ∈ ex ++ l := fun hp => List.mem_append_right _ hp
  cases hP with
  | zero =>
    refine CC.led (CC.mono (c_dputN4 (m := m) (news := ex ++ news3) (ldX 0) (exM g1) (exM g2) lo gd gf (exM g6) lo2 gd2 gdf hz ?_ (by decide) (by decide) ht (ld_shaped 0 hi) ?_) ?_) ?_
    · refine List.forall_mem_cons.mpr ⟨(hA _ (exM (.head _))).symm, fun p hp => ?_⟩
      exact (List.mem_append.mp hp).elim (fun h => hE p h _ (.head _)) (hmp p)
    · exact fun p hp => hA p ((List.mem_append.mp hp).elim (List.mem_append_left _) fun h => exM (.tail _ h))
    · rintro news' z ⟨r, rx, st, va, k1, k2, A', n', t1, t2, t3, om, ts', sv, vv, rfl, rfl, q3, q4, q5, rfl, q7, q8, q9, q10, q11, q12⟩
      refine ⟨_, rfl, ?_, .succ (t1 := t1) (t2 := t2) (t3 := t3) (k1 := k1) (k2 := k2) q3 q5 (.succ .zero A' n' ts' q4) ?_ q8 q9 q10 ?_ ?_, ?_⟩
      · intro p hp
        rcases List.mem_append.mp hp with hp | hp
        · exact .tail _ (.tail _ (.tail _ (.tail _ (.tail _ (.tail _ (List.mem_append_left _ hp))))))
        · simp only [List.mem_cons, List.nil_append, List.cons_append, List.mem_append] at hp ⊢
          grind
      · intro p hp
        refine q7 p ?_
        simp only [List.mem_cons, List.nil_append, List.cons_append, List.mem_append] at hp ⊢
        grind
      · exact fun p hp => q12 p (.tail _ (exM hp))
      · exact fun q hq p hp => by rw [List.mem_singleton.mp hq]; exact q11 p (exM hp)
      · intro p hp q hq
        have hx := q7 p (.tail _ (.tail _ (.tail _ (List.mem_append_left _ hp))))
        rcases List.mem_cons.mp hq with rfl | hq
        · exact hx.1
        rcases List.mem_cons.mp hq with rfl | hq
        · exact hx.2.1
        rcases List.mem_cons.mp hq with rfl | hq
        · exact hx.2.2
        rcases List.mem_cons.mp hq with rfl | hq
        · exact hE p hp (mp, om2) (.head _)
        rcases List.mem_cons.mp hq with rfl | hq
        · exact q12 p (.tail _ (List.mem_append_left _ hp))
        rcases List.mem_cons.mp hq with rfl | hq
        · exact q11 p (List.mem_append_left _ hp)
        · exact hE p hp q (.tail _ hq)
    · intro p hp
      simp only [List.mem_cons, List.mem_append] at hp ⊢
      grind
  | @succ i r rx st va k1 k2 t1 t2 t3 om sv vv tups hd hiv hv hne h12 h13 h23 hr htu =>
    have hl := ldN_len (i + 1)
    have hv2 := hv.len
    have hb := ld_bs i hi
    have hin : ∀ {p : Addr × Obj}, p ∈ (mp, om) :: (r, instObj 280 rx) :: (ex ++ (tups ++ news3)) → p ∈ ex ∨ p ∈ (mp, om) :: (r, instObj 280 rx) :: (tups ++ news3) := by
      intro p hp
      simp only [List.mem_cons, List.mem_append] at hp ⊢
      grind
    have hnx : ∀ p ∈ (mp, om) :: (r, instObj 280 rx) :: (ex ++ (tups ++ news3)), p.1 ≠ rx ∧ p.1 ≠ st ∧ p.1 ≠ va := fun p hp => (hin hp).elim (fun h => ⟨hE p h (rx, _) (.head _), hE p h (st, _) (.tail _ (.head _)), hE p h (va, _) (.tail _ (.tail _ (.head _)))⟩) (hne p)
    have hAx : ∀ p ∈ (mp, om) :: (r, instObj 280 rx) :: (ex ++ (tups ++ news3)), p.1 ≠ A := fun p hp => hA p ((hin hp).elim (List.mem_append_left _) fun h => exM (.tail _ (.tail _ (.tail _ h))))
    have n3 : ∀ {p : Addr × Obj}, p ∈ news3 → p ∈ (mp, om) :: (r, instObj 280 rx) :: (ex ++ (tups ++ news3)) := fun h => .tail _ (.tail _ (exM (List.mem_append_right _ h)))
    refine CC.led (CC.mono (c_dputO4 (m := m) (news := (mp, om) :: (r, instObj 280 rx) :: (ex ++ (tups ++ news3))) (st := st) (va := va) (sv := sv) (vv := vv) (ns := ldN (i + 1)) (k1 := k1) (k2 := k2) (t1 := t1) (t2 := t2) (t3 := t3) (ldX (i + 1)) (n3 g1) (n3 g2) (.head _) lo hd (gf2 r) (.tail _ (.head _)) ?_ h12 h13 h23 hiv (by rw [hv2.1, hl]) (by rw [hl]; omega) hb.1 hb.2.1 (by rw [hl]; omega) (by rw [hl]; exact hv2.2) hb.2.2 ht (ld_shaped (i + 1) hi) hAx) ?_) ?_
    · exact List.forall_mem_cons.mpr ⟨⟨(hA (rx, _) (exM (.head _))).symm, (hA (st, _) (exM (.tail _ (.head _)))).symm, (hA (va, _) (exM (.tail _ (.tail _ (.head _))))).symm⟩, hnx⟩
    · rintro news' z ⟨st', va', k1', k2', A', n', ts', sv', vv', rfl, rfl, q3, q4, rfl, q6, q7, q8, q9, q10⟩
      refine ⟨_, rfl, ?_, .succ (t1 := t1) (t2 := t2) (t3 := t3) (k1 := k1') (k2 := k2') (tups := (A', tupO ts'.toArray n') :: tups) hd q4 (.succ hv A' n' ts' q3) ?_ q7 q8 q9 hr ?_, ?_⟩
      · intro p hp
        simp only [List.mem_cons, List.cons_append, List.mem_append] at hp ⊢
        grind
      · intro p hp
        refine q6 p ?_
        simp only [List.mem_cons, List.cons_append, List.mem_append] at hp ⊢
        grind
      · exact List.forall_mem_cons.mpr ⟨fun p hp => q10 p (n3 hp), htu⟩
      · intro p hp q hq
        have hpn : p ∈ (mp, om) :: (r, instObj 280 rx) :: (ex ++ (tups ++ news3)) := .tail _ (.tail _ (List.mem_append_left _ hp))
        have hx := q6 p (.tail _ hpn)
        rcases List.mem_cons.mp hq with rfl | hq
        · exact hx.1
        rcases List.mem_cons.mp hq with rfl | hq
        · exact hx.2.1
        rcases List.mem_cons.mp hq with rfl | hq
        · exact hx.2.2
        rcases List.mem_cons.mp hq with rfl | hq
        · exact hE p hp (mp, om) (.tail _ (.tail _ (.tail _ (.head _))))
        rcases List.mem_cons.mp hq with rfl | hq
        · exact hE p hp (r, instObj 280 rx) (.tail _ (.tail _ (.tail _ (.tail _ (.head _)))))
        rcases List.mem_cons.mp hq with rfl | hq
        · exact q10 p hpn
        · exact hE p hp q (.tail _ (.tail _ (.tail _ (.tail _ (.tail _ hq)))))
    · intro p hp
      simp only [List.mem_cons, List.mem_append] at hp ⊢
      grind
theorem LdV.inv {i : Nat} {vv : List Value} {tups : Led} (h : LdV (i + 1) vv tups) : ∃ vv' A tups', vv = vv' ++ [.ref A, .none] ∧ TupI tups A (ldX i) ∧ (∀ p ∈ tups', p ∈ tups) ∧ LdV i vv' tups' := by
  cases h with | succ h A n ts ht => exact ⟨_, A, _, rfl, ⟨ts, n, .head _, ht⟩, fun _ hp => .tail _ hp, h⟩
theorem LdV.zero_inv {vv : List Value} {tups : Led} (h : LdV 0 vv tups) : vv = [.none] := by cases h; rfl
theorem LdV.fval {vv : List Value} {tups : Led} (h : LdV 6 vv tups) : FVal tups vv := by
  obtain ⟨_, A6, _, rfl, h6, s6, g1⟩ := h.inv
  obtain ⟨_, A5, _, rfl, h5, s5, g2⟩ := g1.inv
  obtain ⟨_, A4, _, rfl, h4, s4, g3⟩ := g2.inv
  obtain ⟨_, A3, _, rfl, h3, s3, g4⟩ := g3.inv
  obtain ⟨_, A2, _, rfl, h2, s2, g5⟩ := g4.inv
  obtain ⟨_, A1, _, rfl, h1, s1, g6⟩ := g5.inv
  obtain rfl := g6.zero_inv
  exact ⟨A1, A2, A3, A4, A5, A6, rfl, ((((h1.mono s2).mono s3).mono s4).mono s5).mono s6, (((h2.mono s3).mono s4).mono s5).mono s6, ((h3.mono s4).mono s5).mono s6, (h4.mono s5).mono s6, h5.mono s6, h6⟩
theorem ld_fin3 {w : World} {h₀ h : Heap} {L : Addr} {news news1 ext1 led c : Led} {mp d dx df pr wd r1 r2 : Nat} {od om2 : Obj} {u1 u2 u3 u4 t0 : Tok} {vc vd : List Value} {dk : List (Str × Value)} (N : News h₀ L h led) (hs : ∀ p ∈ c, p ∈ led) (hP : LdI w mp om2 news1 [(Str.ofString "ccc", .ref r1), (Str.ofString "dm", .ref r2)] 6 c)
    (e : news1 = ext1 ++ news) (gd : (d, instObj 336 dx) ∈ ext1) (gx : (dx, daDict w u1 u2 u3 u4 4 df mp pr wd) ∈ ext1) (gf : (df, od) ∈ ext1)
    (lm : (mp == sysModules) = false) (lf : (df == sysModules) = false) (hdk : od.IsDictOf (strKind PG w) dk)
    (e1 : valueAt dk (Str.ofString "ex") = some (.bool false)) (hM1 : MapAt w ext1 r1 (.int 0 t0) NSC vc) (hM2 : MapAt w ext1 r2 .none NSD vd) (hc : CVal vc) (hv : DVal ext1 vd) (hn : ∀ p ∈ news1, p.1 ≠ mp) (hx1 : ∀ q ∈ ext1, ∀ p ∈ news, p.1 ≠ q.1) :
    ∃ news', News h₀ L h news' ∧ LdP w news news' (.ref d) := by
  cases hP with | @succ _ r rx st va k1 k2 t1 t2 t3 om sv vv tups hd hiv hvv hne h12 h13 h23 hr htu =>
  have hnn : ∀ p ∈ news1, p.1 ≠ rx ∧ p.1 ≠ st ∧ p.1 ≠ va := fun p hp => hne p (.tail _ (.tail _ (List.mem_append_right _ hp)))
  refine ld_fin (t1 := t1) (t2 := t2) (t3 := t3) (k1 := k1) (k2 := k2) tups N (fun p hp => hs p ?_) e hiv gd gx gf lm hd lf hdk e1 hM1 hM2 hc hv hvv.fval hn hx1 (List.forall_mem_cons.mpr ⟨fun p hp => (hnn p hp).1, List.forall_mem_cons.mpr ⟨fun p hp => (hnn p hp).2.1, List.forall_mem_cons.mpr ⟨fun p hp => (hnn p hp).2.2, List.forall_mem_cons.mpr ⟨hr, htu⟩⟩⟩⟩)
  simp only [List.mem_cons] at hp ⊢
  grind
end
section
set_option maxRecDepth 100000 in
set_option maxHeartbeats 16000000 in
theorem c_ldata {w : World} {news : Led} : CC w 381 [] 60 news (LdP w news) := by
  refine CC.mk ?_; k_fill; intro p loose mean mg mb dp un gd cn cs a ccd cl outer A₀ base h₀ L m s Q E B F X N T9 hk hdp hun hret
  have hMk : KstMark := kstMark
  k_with_none
  k_with "m_allIn" => first | exact List.forall_mem_nil _ | (refine sub_cons (by k_memK) ?_; k_extra "m_allIn") | (intro p9 h9; kst_mem)
  k_with "m_ra" => first | assumption | exact And.right (by first | assumption | exact And.right (by first | assumption | exact And.right (by first | assumption | exact And.right (by first | assumption | exact And.right (by first | assumption | exact And.right (by first | assumption | exact And.right (by first | assumption | exact And.right (by assumption))))))))
  k_with "m_and" => first | k_extra "m_ra" | exact And.left (by k_extra "m_ra")
  k_with "m_neA" => first | k_extra "m_and" | (refine Ne.symm ?_; k_extra "m_and") | (refine Nat.ne_of_lt ?_; k_extra "m_and") | (refine Nat.ne_of_gt ?_; k_extra "m_and") | (refine Nat.ne_of_lt (Nat.lt_succ_of_lt ?_); k_extra "m_and")
  k_with "m_lt" => first | assumption | exact allLt_of (by assumption) | k_extra "m_and"
  k_with "kst_in" => (try dsimp only); with_unfolding_all ((try simp only [List.nil_append, List.cons_append]); k_extra "m_allIn")
  k_with "k_ne" => refine neN ?_; (try dsimp only); first | (with_reducible assumption) | (with_reducible exact Ne.symm (by assumption)) | (with_reducible exact Nat.ne_of_lt (by assumption)) | (with_reducible exact Nat.ne_of_gt (by assumption)) | with_reducible k_extra "m_neA" | k_extra "m_neA" | omega
  k_with "k_all" => first | exact List.forall_mem_nil _ | assumption | exact lt_ne (by assumption) | exact lt_ne (by k_extra "m_lt") | exact lt_ne1 (by k_extra "m_lt") | (refine ne_cons ?_ ?_; (focus k_ne); k_all) | (refine List.forall_mem_cons.mpr (And.intro ?_ ?_); (focus k_ne); k_all)
  k_with "k_in" => (rename Fr _ _ _ _ => lF8); (rename Frag.In _ _ => lX8); exact Frag.In.keeps lX8 (Fr.keep lF8)
  k_with "ktr_room" => k_dflt (first | exact rmA (by assumption) (by exact rfl) | exact rmB (by assumption))
  k_with "ktr_units" => k_dflt (first | exact unA (by assumption) (by exact rfl) | exact unC (by assumption) (by exact rfl))
  k_with "MPost" => dsimp only [MPost]
  k_with "execs cons" => with_reducible refine gen_tok ?_; intro tk9
  k_with "m_for" => k_here; (rename Fr _ _ _ _ => lF'); k_dflt (refine' For_invVF ?zF ?zk1 ?zk2 ?_ ?zs ?ze; (case zF => exact lF'); (case zk1 => exact rfl); (case zk2 => exact rfl); (case zs => (intro _; rfl)); (case ze => passes_own); k_whole)
  k_with "exec For Name Name cons nil" => k_extra "m_for"
  k_with "exec For Name Subscript cons nil" => k_extra "m_for"
  k_with "exec For Name Call cons nil" => k_extra "m_for"
  k_with "exec For Name Attribute cons nil" => k_extra "m_for"
  k_with "exec For Name Tuple cons nil" => k_extra "m_for"
  k_with "compareOp NotEq ref ref" => k_here; (with_reducible show wpAny _ _ (compareOp CmpOp.NotEq (Value.ref _) (Value.ref _)) _ _ _); k_dflt (first | refine ke_ne_ints (by is_list) (by is_list) (by l_ints) (by l_ints) (by ktr_units) ?_ | ((refine ne_dataH (by ke_read) (by ke_read) (by ke_shaped) (by ke_shaped) (by ktr_units) ?_); ke_norm))
  k_with "compareOp Eq ref ref" => k_here; (with_reducible show wpAny _ _ (compareOp CmpOp.Eq (Value.ref _) (Value.ref _)) _ _ _); k_dflt (first | refine ke_eq_ints (by is_list) (by is_list) (by l_ints) (by l_ints) (by ktr_units) ?_ | ((refine eq_dataH (by ke_read) (by ke_read) (by ke_shaped) (by ke_shaped) (by ktr_units) ?_); ke_norm))
  w_top off
  k_with "m_allQ" => (repeat (first | exact List.forall_mem_nil _ | (with_reducible assumption) | (with_reducible exact lt_ne (by assumption)) | (refine ne_cons ?_ ?_; (focus (first | walk_at "m_neQ" | k_ne)))))
  k_with "m_neQ" => (refine neN ?_; (try dsimp only); first | (with_reducible assumption) | (with_reducible exact Ne.symm (by assumption)) | (with_reducible exact Nat.ne_of_lt (by assumption)) | (with_reducible exact Nat.ne_of_gt (by assumption)))
  k_with "call ref nil" =>
    k_dflt show wpAny _ _ (call (Value.ref _) []) _ _ _
    with_reducible show wpAny _ _ (call (Value.ref 336) []) _ _ _
    refine DnP.go c_dnew ?_ (by k_asm) (by k_asm) (by k_asm) (by k_asm) (by k_asm) (by first | exact rfl | assumption) (by ktr_room) (by ktr_units)
    rintro d dx df mp pr wd od om0 o1 o2 dk u1 u2 u3 u4 t0 h9' tk9' F9' N9' lod lom gdk gmk e1 e2 e3 e4 hmp za1 za2 za3 za4 za5
    obtain ⟨ext1, news1, N8', eN1, xd1, xx1, xf1, md1, mx1, mf1, hmn1, hfr1⟩ := coll0 N9' hmp za1 za2 za3 za4 za5
    clear N9' hmp za1 za2 za3 za4 za5
    (try dsimp only); (try k_sweep); (try k_fold)
  k_with "call ref nil" =>
    k_dflt show wpAny _ _ (call (Value.ref _) []) _ _ _
    with_reducible show wpAny _ _ (call (Value.ref 348) []) _ _ _
    refine ClsP.go c_lcls ?_ (by k_asm) (by k_asm) (by k_asm) (by k_asm) (by k_asm) (by first | exact rfl | assumption) (by ktr_room) (by ktr_units)
    rintro rc oc tc1 tc2 h9' tk9' F9' N9' loc gc nrc
    (try dsimp only); (try k_sweep); (try k_fold)
  k_with "call ref nil" =>
    k_dflt show wpAny _ _ (call (Value.ref _) []) _ _ _
    with_reducible show wpAny _ _ (call (Value.ref 355) []) _ _ _
    refine PrtP.go c_lprt ?_ (by k_asm) (by k_asm) (by k_asm) (by k_asm) (by k_asm) (by first | exact rfl | assumption) (by ktr_room) (by ktr_units)
    rintro rp ap bp op tp3 tp4 tp5 tp6 h9' tk9' F9' N9' lop gp na nb nab nr
    have ga := gnNe_of na
    have gb := gnNe_of nb
    dsimp only [GnNe] at ga gb
    have nan : ∀ p ∈ news2, p.1 ≠ ap := fun p hp => na p (by simp [hp])
    have nbn : ∀ p ∈ news2, p.1 ≠ bp := fun p hp => nb p (by simp [hp])
    (repeat (with_reducible rename _ ∧ _ => hs9; have hs8 := And.left hs9; have hs7 := And.right hs9; clear hs9))
    (try dsimp only); (try k_sweep); (try k_fold)
  k_with "call ref nil" =>
    k_dflt show wpAny _ _ (call (Value.ref _) []) _ _ _
    with_reducible show wpAny _ _ (call (Value.ref 362) []) _ _ _
    refine ToldP.go c_ltold ?_ (by k_asm) (by k_asm) (by k_asm) (by k_asm) (by k_asm) (by first | exact rfl | assumption) (by ktr_room) (by ktr_units)
    rintro rt a1 a2 a3 a4 a5 a6 ot x1 x2 x3 x4 x5 x6 h9' tk9' F9' N9' lot gt na1 na2 na3 na4 na5 na6 nrt
    (try dsimp only); (try k_sweep); (try k_fold)
  k_with "newTuple cons str cons" =>
    k_dflt (refine' kup_newTuple ?yF ?yN ?_ ?yz; (case yF => k_asm); (case yN => k_asm); (case yz => kmk_size))
    intro DV h' F' N' l1; (try k_lt l1); ((repeat (with_reducible rename _ ∧ _ => hs9; have hs8 := And.left hs9; have hs7 := And.right hs9; clear hs9))); (try k_sweep)
  k_with "call builtin:sorted cons nil" =>
    rename Fr _ _ _ _ => lF'
    rename News _ _ _ _ => lN'
    first
      | (k_dflt (refine' m_sortedD (q := [65, 69, 173, 201, 8490, 64257]) rfl lF' lN' ?zm lot gt ?zz (sd6 ?zv) ?_; (case zm => k_mem); (case zz => exact Nat.le_of_ble_eq_true rfl); (case zv => intro t1 t2 t3 t4 t5 t6; rfl)); clear lF' lN'; intro D' h' tk' t' c' F' N' l1; (have hD8 : ∀ p ∈ (mp, om2) :: news3, p.1 ≠ D' := lt_sub l1 (by kst_in)); k_dflt (have N2 : News _ _ _ ((D', listOf (List.toArray [.int 65 (t' 0), .int 69 (t' 1), .int 173 (t' 2), .int 201 (t' 3), .int 8490 (t' 4), .int 64257 (t' 5)]) c') :: _) := N'; clear N'))
      | (k_dflt (refine' m_sortedD (q := [201, 233]) rfl lF' lN' ?zm lop gp ?zz (sd2 ?zv) ?_; (case zm => k_mem); (case zz => exact Nat.le_of_ble_eq_true rfl); (case zv => intro t1 t2; rfl)); clear lF' lN'; intro D' h' tk' t' c' F' N' l1; k_dflt (have N2 : News _ _ _ ((D', listOf (List.toArray [.int 201 (t' 0), .int 233 (t' 1)]) c') :: _) := N'; clear N'))
      | (k_dflt (refine' m_sortedD (q := [769, 803]) rfl lF' lN' ?zm loc gc ?zz (sd2 ?zv) ?_; (case zm => k_mem); (case zz => exact Nat.le_of_ble_eq_true rfl); (case zv => intro t1 t2; rfl)); clear lF' lN'; intro D' h' tk' t' c' F' N' l1; k_dflt (have N2 : News _ _ _ ((D', listOf (List.toArray [.int 769 (t' 0), .int 803 (t' 1)]) c') :: _) := N'; clear N'))
    (try k_lt l1); ((repeat (with_reducible rename _ ∧ _ => hs9; have hs8 := And.left hs9; have hs7 := And.right hs9; clear hs9))); (try k_sweep)
  k_with "pyIter ref" =>
    rename Fr _ _ _ _ => lF'
    rename News _ _ _ _ => lN'
    first
      | (have hz8 := hD8; clear hz8; k_dflt (refine' mfor (σ := List (Addr × Obj)) (fun c => (D', listOf (List.toArray [.int 65 (t' 0), .int 69 (t' 1), .int 173 (t' 2), .int 201 (t' 3), .int 8490 (t' 4), .int 64257 (t' 5)]) c') :: c) (fun _ => []) [] (LdJ w mp om2 news3 [(Str.ofString "ccc", .ref r1), (Str.ofString "dm", .ref r2)] D') ((mp, om2) :: news3) rfl (fun c => .head _) lF' (kst_newsOf lN' ?zN) ?kk ?pp ?_ ?_); (case zN => kst_in); (case kk => exact fun _ h => nomatch h); (case pp => exact ⟨.zero, hD8⟩); clear lF' lN' hD8 na1 na2 na3 na4 na5 na6 nrt gt lot; rintro I9 oI9 c9 i9 v9 u9 h9 tk9 hv9 hP9 hne9 F9 N9; obtain ⟨hi9, tq, rfl⟩ := ld_item hv9; obtain ⟨hJ9, hD9⟩ := hP9; have hI9 : ∀ p ∈ c9, p.1 ≠ I9 := fun p hp => hne9 p (.tail _ hp); have hDI := hne9 _ (.head _); have md9 := hJ9.sub _ md3; have mx9 := hJ9.sub _ mx3; (try k_fold); rotate_left 1; rintro c9 u9 h9 tk9 hP9 F9 N9; obtain ⟨hJ9, hD9⟩ := hP9; (try k_fold); rotate_left 1)
      | (k_dflt (refine' munr_list rfl lF' lN' ?_ ?zhm); (case zhm => k_mem); refine ⟨by k_mem, ?_⟩; clear lF' lN'; intro I9 oI9 h9 tk9 hne9 F9 N9; (have g9 := gnNe_of hne9); (dsimp only [GnNe] at g9); (repeat (with_reducible rename _ ∧ _ => hs9; have hs8 := And.left hs9; have hs7 := And.right hs9; clear hs9)); (first | (have gI9 : ∀ p ∈ news2, p.1 ≠ I9 := fun p hp => hne9 p (by simp [hp])) | (have gI9 : ∀ p ∈ news1, p.1 ≠ I9 := fun p hp => hne9 p (by simp [hp]))); (try k_fold))
  k_with "MEnd" =>
    rename Fr _ _ _ _ => lF'
    rename News _ _ _ _ => lN'
    first
      | (have hz8 := hq3; clear hz8; k_dflt (refine' mend (led9 : List (Addr × Obj)) lF' lN' ?hI ?hn ?hne ?hk ?hr ?hp); (case hk => exact fun _ h => nomatch h); (case hI => k_mem); (case hn => kst_in); (case hne => exact List.forall_mem_cons.mpr ⟨hDI, hI8⟩); (case hr => (intro z9 g1 g2 g3; (simp only [List.forall_mem_cons, List.not_mem_nil, false_implies, implies_true, and_true, ne_eq] at g2); (simp only [List.contains_cons, List.contains_nil, Bool.or_false, Bool.or_eq_false_iff, beq_eq_false_iff_ne, ne_eq] at g3); (simp [kstB, g1, g2, g3]; done))); (case hp => exact ⟨hq3, hD7⟩))
      | ((first | (refine ⟨_, _, _, _, rfl, lF', pull5 lN', ?zh1, ?_⟩) | (refine ⟨_, _, _, _, rfl, lF', pull6 lN', ?zh1, ?_⟩) | (refine ⟨_, _, _, _, rfl, lF', pull7 lN', ?zh1, ?_⟩)); (case zh1 => walk_at "m_allQ"); (first | (refine ⟨by k_mem, ?_⟩; intro I9 oI9 h9 tk9 hne9 F9 N9; (have g9 := gnNe_of hne9); (dsimp only [GnNe] at g9); ((repeat (with_reducible rename _ ∧ _ => hs9; have hs8 := And.left hs9; have hs7 := And.right hs9; clear hs9))); (first | (have gI9 : ∀ p ∈ news2, p.1 ≠ I9 := fun p hp => hne9 p (by simp [hp])) | (have gI9 : ∀ p ∈ news1, p.1 ≠ I9 := fun p hp => hne9 p (by simp [hp]))); (try k_fold)) | (refine ⟨by k_mem, ?_⟩; intro h9 tk9 F9 N9; obtain ⟨ext3, news3, N8, eN3, hx3, hn3, hv3, hmn3, hfr3, hM2⟩ := coll [(A2_1, tupO (List.toArray [.str emp q2_1, .ref B2_1]) m2_1), (B2_1, tupO (List.toArray [.int 101 y2_1, .int 769 z2_1]) n2_1), (A2_0, tupO (List.toArray [.str emp q2_0, .ref B2_0]) m2_0), (B2_0, tupO (List.toArray [.int 69 y2_0, .int 769 z2_0]) n2_0)] N9 (by kst_in) eN2 hi2_1 (by walk_at "m_allQ") hmn2 hfr2 (List.forall_mem_cons.mpr ⟨fun p hp => (nt9 p hp).1, List.forall_mem_cons.mpr ⟨fun p hp => (nt9 p hp).2.1, List.forall_mem_cons.mpr ⟨fun p hp => (nt9 p hp).2.2, List.forall_mem_cons.mpr ⟨nR2, List.forall_mem_cons.mpr ⟨nA1, List.forall_mem_cons.mpr ⟨nB1, List.forall_mem_cons.mpr ⟨nA0, List.forall_mem_cons.mpr ⟨nB0, List.forall_mem_nil _⟩⟩⟩⟩⟩⟩⟩⟩); clear N9; (repeat (with_reducible rename _ ≠ _ => hz9; clear hz9)); have md3 := hn3 _ md2; have mx3 := hn3 _ mx2; have mf3 := hn3 _ mf2; have xd3 := hx3 _ xd2; have xx3 := hx3 _ xx2; have xf3 := hx3 _ xf2; (try k_fold)) | (refine ⟨by k_mem, ?_⟩; intro h9 tk9 F9 N9; obtain ⟨ext2, news2, N8, eN2, hx2, hn2, hv2, hmn2, hfr2, hM1⟩ := coll [] N9 (by kst_in) eN1 hi1_1 (by walk_at "m_allQ") hmn1 hfr1 (List.forall_mem_cons.mpr ⟨n1a, List.forall_mem_cons.mpr ⟨n2b, List.forall_mem_cons.mpr ⟨n2c, List.forall_mem_cons.mpr ⟨n1g, List.forall_mem_nil _⟩⟩⟩⟩); clear N9; (repeat (with_reducible rename _ ≠ _ => hz9; clear hz9)); have md2 := hn2 _ md1; have mx2 := hn2 _ mx1; have mf2 := hn2 _ mf1; have xd2 := hx2 _ xd1; have xx2 := hx2 _ xx1; have xf2 := hx2 _ xf1; (try k_fold))))
  k_with "subscriptTail Call Name nil nil Name ref int" =>
    rename News _ _ _ _ => lN'
    obtain ⟨A9, m9, ts9, hA1, hA2, hA3, hA4⟩ := told_at hi9 lN' na1 na2 na3 na4 na5 na6
    k_dflt (refine' m_ditem lN' ?zm gt (intKind_is _ _ _ _) hA1 ?_; (case zm => k_mem))
  k_with "call ref cons nil" =>
    with_reducible show wpAny _ _ (call (Value.ref 319) [_, _, _, _, _]) _ _ _
    rename Fr _ _ _ _ => lF'
    rename News _ _ _ _ => lN'
    first
      | (refine' cc_go (ld_step (ex := [(I9, oI9), (D', listOf (List.toArray [.int 65 (t' 0), .int 69 (t' 1), .int 173 (t' 2), .int 201 (t' 3), .int 8490 (t' 4), .int 64257 (t' 5)]) c')]) md3 mx3 lom hd2 rfl (fun _ => rfl) mf3 lod gdk e4 (by k_dflt exact Nat.le_of_ble_eq_true rfl) hmn3 hJ9 hi9 hA3 hA4 (List.forall_mem_cons.mpr ⟨fun q hq => (hI9 q hq).symm, List.forall_mem_cons.mpr ⟨fun q hq => (hD9 q hq).symm, List.forall_mem_nil _⟩⟩)) ?_ (by k_asm) (kst_newsOf lN' ?zsub) (by k_asm) (by k_asm) (by k_asm) (by first | exact rfl | assumption) (by ktr_room) (by ktr_units); (case zsub => kst_in); clear lF' lN'; rintro v9' news9 h9' tk9' F9' N9' ⟨led9, rfl, hq2, hq3, hq4⟩; (have N7' := kst_newsOf N9' hq2); clear N9'; (have hI8 : ∀ p ∈ led9, p.1 ≠ I9 := fun p hp => (hq4 _ (.head _) p hp).symm); (have hD7 : ∀ p ∈ led9, p.1 ≠ D' := fun p hp => (hq4 _ (.tail _ (.head _)) p hp).symm); (try simp only [List.cons_append, List.nil_append] at N7'); (try dsimp only); (try k_sweep); (try k_fold))
      | (refine' PutO3.go (c_dputO3  (A := DV) (B := ap) (x := 101) (y := 769) (news := (mp, om2) :: (r2, instObj 280 rx2) :: (I9, oI9) :: (D', listOf (List.toArray [.int 201 (t' 0), .int 233 (t' 1)]) c') :: (A2_0, tupO (List.toArray [.str emp q2_0, .ref B2_0]) m2_0) :: (B2_0, tupO (List.toArray [.int 69 y2_0, .int 769 z2_0]) n2_0) :: news2) (mp := mp) (om := om2) (mk := [(Str.ofString "ccc", .ref r1), (Str.ofString "dm", .ref r2)]) (r := r2) (rx := rx2) (st := st2_0) (va := va2_0) (sv := sv2_0) (vv := vv2_0) (ns := [0, 201, 201 + 1]) ?g1 ?g2 ?g3 lom hd2 rfl ?g4 ?zn1 g45 g46 g47 hi2_0 (by rw [hv2_0]; rfl) (by decide) (by decide) (by decide) (by decide) (by rw [hv2_0]; rfl) (by decide) ?hA ?hB) ?_ (by k_asm) (kst_newsOf lN' ?zsub) (by k_asm) (by k_asm) (by k_asm) (by first | exact rfl | assumption) (by ktr_room) (by ktr_units); (case zsub => kst_in); (case g1 => k_mem); (case g2 => k_mem); (case g3 => k_mem); (case g4 => k_mem); (case zn1 => (repeat (first | exact nt9 | (refine List.forall_mem_cons.mpr (And.intro ?_ ?_); (focus (first | exact f2 _ (by k_mem) | exact ⟨by (first | walk_at "m_neQ" | k_ne), by (first | walk_at "m_neQ" | k_ne), by (first | walk_at "m_neQ" | k_ne)⟩)))))); (case hA => walk_at "m_allQ"); (case hB => walk_at "m_allQ"); rintro st2_1 va2_1 ka2_1 kb2_1 A2_1 B2_1 m2_1 n2_1 q2_1 y2_1 z2_1 sv2_1 vv2_1 h9' tk9' F9' N9' hi2_1 hv2_1 f2 g45 g46 g47 cA cB; (have nt9 : ∀ p ∈ news2, p.1 ≠ rx2 ∧ p.1 ≠ st2_1 ∧ p.1 ≠ va2_1 := fun p hp => f2 p (by simp [hp])); (have f2M := f2 (mp, om2) (.tail _ (.tail _ (.head _)))); (dsimp only at f2M); (have f2I := f2 (I9, oI9) (.tail _ (.tail _ (.tail _ (.tail _ (.head _)))))); (dsimp only at f2I); (have gA := gnNe_of cA); (have gB := gnNe_of cB); (dsimp only [GnNe] at gA gB); (have nA1 : ∀ p ∈ news2, p.1 ≠ A2_1 := fun p hp => cA p (by simp [hp])); (have nB1 : ∀ p ∈ news2, p.1 ≠ B2_1 := fun p hp => cB p (by simp [hp])); ((repeat (with_reducible rename _ ∧ _ => hs9; have hs8 := And.left hs9; have hs7 := And.right hs9; clear hs9))); (try dsimp only); (try k_sweep); (try k_fold))
      | (refine' PutN3.go (c_dputN3  (A := DV) (B := bp) (x := 69) (y := 769) (news := (I9, oI9) :: (D', listOf (List.toArray [.int 201 (t' 0), .int 233 (t' 1)]) c') :: news2) (mp := mp) (om := om1) (mk := [(Str.ofString "ccc", .ref r1)]) ?g1 ?g2 lom hd1 rfl ?g6 lod gdk e3 (by k_dflt exact Nat.le_of_ble_eq_true rfl) ?zhmp (by decide) (by decide) ?hA ?hB) ?_ (by k_asm) (kst_newsOf lN' ?zsub) (by k_asm) (by k_asm) (by k_asm) (by first | exact rfl | assumption) (by ktr_room) (by ktr_units); (case zsub => kst_in); (case g1 => k_mem); (case g2 => k_mem); (case g6 => k_mem); (case zhmp => (repeat (first | exact hmn2 | (refine List.forall_mem_cons.mpr (And.intro ?_ ?_); (focus (first | walk_at "m_neQ" | exact tup_ne_dict lN' (by k_mem) (by k_mem) hd1 | k_ne)))))); (case hA => walk_at "m_allQ"); (case hB => walk_at "m_allQ"); rintro r2 rx2 st2_0 va2_0 ka2_0 kb2_0 A2_0 B2_0 m2_0 n2_0 v21 v22 v23 q2_0 y2_0 z2_0 om2 sv2_0 vv2_0 h9' tk9' F9' N9' hd2 hi2_0 hv2_0 f2 g45 g46 g47 cA cB cAm cBm cR; (have nt9 : ∀ p ∈ news2, p.1 ≠ rx2 ∧ p.1 ≠ st2_0 ∧ p.1 ≠ va2_0 := fun p hp => f2 p (by simp [hp])); (have gR := gnNe_of cR); (dsimp only [GnNe] at gR); (have nR2 : ∀ p ∈ news2, p.1 ≠ r2 := fun p hp => cR p (by simp [hp])); (have f2M := f2 (mp, om2) (.head _)); (dsimp only at f2M); (have f2I := f2 (I9, oI9) (.tail _ (.tail _ (.tail _ (.tail _ (.head _)))))); (dsimp only at f2I); (have gA := gnNe_of cA); (have gB := gnNe_of cB); (dsimp only [GnNe] at gA gB); (have nA0 : ∀ p ∈ news2, p.1 ≠ A2_0 := fun p hp => cA p (by simp [hp])); (have nB0 : ∀ p ∈ news2, p.1 ≠ B2_0 := fun p hp => cB p (by simp [hp])); ((repeat (with_reducible rename _ ∧ _ => hs9; have hs8 := And.left hs9; have hs7 := And.right hs9; clear hs9))); (try dsimp only); (try k_sweep); (try k_fold))
      | (refine' PutO2.go (c_dputO2 (news := (mp, om1) :: (r1, instObj 280 rx1) :: (I9, oI9) :: (D', listOf (List.toArray [.int 769 (t' 0), .int 803 (t' 1)]) c') :: news1) (mp := mp) (om := om1) (mk := [(Str.ofString "ccc", .ref r1)]) (r := r1) (rx := rx1) (st := st1_0) (va := va1_0) (sv := sv1_0) (vv := vv1_0) (ns := [0, 769, 769 + 1]) (u := (.int 0 t0)) ?g1 ?g2 ?g3 lom hd1 rfl ?g4 ?zn1 ?zn2 ?zn3 ?zn4 ?zn5 ?zn6 hi1_0 (by rw [hv1_0]; rfl) (by decide) (by decide) (by decide) (by decide) (by rw [hv1_0]; rfl) (unl_int (by decide)) (by decide)) ?_ (by k_asm) (kst_newsOf lN' ?zsub) (by k_asm) (by k_asm) (by k_asm) (by first | exact rfl | assumption) (by ktr_room) (by ktr_units); (case zsub => kst_in); (case g1 => k_mem); (case g2 => k_mem); (case g3 => k_mem); (case g4 => k_mem); (case zn1 => walk_at "m_allQ"); (case zn2 => walk_at "m_allQ"); (case zn3 => walk_at "m_allQ"); (case zn4 => k_ne); (case zn5 => k_ne); (case zn6 => k_ne); rintro st1_1 va1_1 ka1_1 kb1_1 sv1_1 vv1_1 h9' tk9' F9' N9' hi1_1 hv1_1 fb fc g55 g56 g57; (have h2b := gnNe_of fb); (have h2c := gnNe_of fc); (dsimp only [GnNe] at h2b h2c); (have n2b : ∀ p ∈ news1, p.1 ≠ st1_1 := fun p hp => fb p (by simp [hp])); (have n2c : ∀ p ∈ news1, p.1 ≠ va1_1 := fun p hp => fc p (by simp [hp])); ((repeat (with_reducible rename _ ∧ _ => hs9; have hs8 := And.left hs9; have hs7 := And.right hs9; clear hs9))); (try dsimp only); (try k_sweep); (try k_fold))
      | (refine' PutN2.go (c_dputN2 (news := (I9, oI9) :: (D', listOf (List.toArray [.int 769 (t' 0), .int 803 (t' 1)]) c') :: news1) (mp := mp) (om := om0) (mk := []) ?g1 ?g2 lom gmk rfl ?g6 lod gdk e2 (by k_dflt exact Nat.le_of_ble_eq_true rfl) ?zhmp (unl_int (by decide)) (by decide) (by decide)) ?_ (by k_asm) (kst_newsOf lN' ?zsub) (by k_asm) (by k_asm) (by k_asm) (by first | exact rfl | assumption) (by ktr_room) (by ktr_units); (case zsub => kst_in); (case g1 => k_mem); (case g2 => k_mem); (case g6 => k_mem); (case zhmp => walk_at "m_allQ"); rintro r1 rx1 st1_0 va1_0 ka1_0 kb1_0 v11 v12 v13 om1 sv1_0 vv1_0 h9' tk9' F9' N9' hd1 hi1_0 hv1_0 fa fb fc g45 g46 g47 fg; (have h1a := gnNe_of fa); (have h1b := gnNe_of fb); (have h1c := gnNe_of fc); (have h1g := gnNe_of fg); (dsimp only [GnNe] at h1a h1b h1c h1g); (have n1a : ∀ p ∈ news1, p.1 ≠ rx1 := fun p hp => fa p (by simp [hp])); (have n1b : ∀ p ∈ news1, p.1 ≠ st1_0 := fun p hp => fb p (by simp [hp])); (have n1c : ∀ p ∈ news1, p.1 ≠ va1_0 := fun p hp => fc p (by simp [hp])); (have n1g : ∀ p ∈ news1, p.1 ≠ r1 := fun p hp => fg p (by simp [hp])); ((repeat (with_reducible rename _ ∧ _ => hs9; have hs8 := And.left hs9; have hs7 := And.right hs9; clear hs9))); (try dsimp only); (try k_sweep); (try k_fold))
  refine wpAny_call ?_
  (k_dflt (refine' code_def ?k1 ?k2 ?k3 ?k4 ?k5 ?kA ?kF ?kK ?k6 ?k7 ?k8 ?k9 ?kB ?_ ?c2 ?c3 ?c4 ?c5; (case kA => exact rfl); (case kF => exact rfl); (case kK => assumption); (case k1 => k_asm); (case k2 => k_asm); (case k3 => k_asm); (case k4 => k_asm); (case k5 => k_asm); (case k6 => k_is); (case k7 => k_is); (case k8 => ktr_room); (case k9 => first | exact BindsTo.of_eq rfl | exact binds_K (by k_in) rfl (by k_is) rfl rfl rfl); (case c5 => decide); (case kB => exact locs rfl); (case c2 => exact rfl); (case c3 => exact rfl); (case c4 => exact rfl); k_whole; intro g' L' h' FG' F' N' B' X' T'; (try dsimp only); (try k_lift B'); (try k_fold)))
  k_steps
  rename Fr _ _ _ _ => lF'
  rename News _ _ _ _ => lN'
  have hM1' : MapAt w ext3 r1 (.int 0 t0) NSC vv1_1 := hM1.mono hx3
  have hM2' : MapAt w ext3 r2 .none NSD vv2_1 := hM2
  obtain ⟨news', N', P'⟩ := ld_fin3 lN' (fun p hp => .tail _ hp) hJ9 eN3 xd3 xx3 xf3 lom lod gdk e1 hM1' hM2'
    ⟨_, _, _, _, _, by rw [hv1_1, hv1_0]; rfl⟩
    ⟨A2_0, A2_1, by rw [hv2_1, hv2_0]; rfl, ⟨q2_0, B2_0, m2_0, y2_0, z2_0, n2_0, hv3 _ (by simp), hv3 _ (by simp)⟩, ⟨q2_1, B2_1, m2_1, y2_1, z2_1, n2_1, hv3 _ (by simp), hv3 _ (by simp)⟩⟩
    hmn3 hfr3
  exact hret _ _ _ _ lF' N' P'
end
section
theorem pick_drop (vs : List Value) {y : Int} (h0 : 0 ≤ y) (h : y ≤ vs.length) : (slicePick vs.toArray (some y) none none).toList = vs.drop y.toNat := by
  obtain ⟨k, rfl⟩ := Int.eq_ofNat_of_zero_le h0
  have e : sliceBounds (some (k : Int)) none none vs.toArray.size = ((k : Int), ((vs.length : Nat) : Int), 1) := by
    simp only [sliceBounds, Option.getD_none, show (1 : Int) > 0 by decide, if_true, if_neg (Int.not_lt.mpr h0), List.size_toArray]
    congr 1
    rw [Int.min_eq_left h, Int.max_eq_right h0]
  rw [kmk_pick_nat _ e]
  simp
  rw [List.take_of_length_le (by rw [List.length_drop]; exact Nat.le_refl _)]
theorem ints_drop {vs : List Value} {ns : List Int} (h : IntsAre vs ns) : ∀ k, IntsAre (vs.drop k) (ns.drop k) := by
  induction h with
  | nil => intro k; simp only [List.drop_nil]; exact .nil
  | cons x t h ih =>
    intro k
    cases k with
    | zero => exact .cons x t h
    | succ k => exact ih k
theorem m_testRest {prog : Program} {w : World} {A : Around} {h₀ : Heap} {L : Addr} {m : Str → Option Value} {env : Env} {ct elt : Expr} {x : Str} {scope : Scope} {cl : List (Str × Addr)} {s : Shared} {ax : Addr} {nn : Nat} {Fin : List Value → List (Addr × Obj) → Prop} {news : List (Addr × Obj)} {vs : List Value} {cs : List Int} {ok : Int → Bool}
    (hi : IntsAre vs cs) (hs : (ax, listOf vs.toArray nn) ∈ news)
    (fin : ∀ ys, IntsAre ys (cs.filter ok) → Fin ys news)
    (turn : ∀ (c : Int) (t : Tok) (ys : List Value) (R1 : Value → Led → Prop) (R0 : Value → Led → Prop) I oI C oC D m₂ h tk (E' : Value → Shared → Prop), c ∈ cs → (ok c = true → ∀ t', R1 (.int c t') news) → (ok c = false → ∀ v, R0 v news) → LCg.NsObj oC m₂ → m₂ x = some (.int c t) → Fr h₀ L h m → News h₀ L h ((I, oI) :: (C, oC) :: (D, LCg.lst ys) :: news) → LCg.Off3 I C D news → ((@Ne Nat I C) ∧ (@Ne Nat I D) ∧ (@Ne Nat C D)) →
      wpAny (model prog w) A (isTrue ct (compEnvC scope cl C env) (eval ct (compEnvC scope cl C env))) (fun ok' s' => if ok' = true then
        wpAny (model prog w) A (eval elt (compEnvC scope cl C env)) (LCg.CompEnd h₀ L m { s with heap := h, toks := tk } I oI C oC D (LCg.lst ys) (LCg.SrcAt h₀ ax vs.toArray) R1) E' s'
        else LCg.CompEnd h₀ L m { s with heap := h, toks := tk } I oI C oC D (LCg.lst ys) (LCg.SrcAt h₀ ax vs.toArray) R0 Value.none s') E' { s with heap := h, toks := tk }) :
    LCt.CompRestT prog w A h₀ L m env ct elt x scope cl s (LCg.SrcAt h₀ ax vs.toArray) (fun i v => vs.toArray[i]? = some v) Fin vs.toArray.size 0 [] news := by
  have key : ∀ (j i : Nat) (ys : List Value), i + j = vs.length → IntsAre ys ((cs.take i).filter ok) → LCt.CompRestT prog w A h₀ L m env ct elt x scope cl s (LCg.SrcAt h₀ ax vs.toArray) (fun i v => vs.toArray[i]? = some v) Fin j i ys news := by
    intro j
    induction j with
    | zero =>
      intro i ys hj hy
      have e : cs.take i = cs := List.take_of_length_le (by have := hi.length; omega)
      exact fin ys (e ▸ hy)
    | succ j ih =>
      intro i ys hj hy
      refine LCt.CompRestT.succ fun v I oI C oC D m₂ h tk E' hv hC hx F N off ne => ?_
      have hil : i < cs.length := by have := hi.length; omega
      obtain ⟨c, t, rfl, hc⟩ := IntsAre.at hi i v (by simpa using hv)
      refine turn c t ys _ _ I oI C oC D m₂ h tk E' (List.mem_of_getElem? hc) (fun h1 t' => ?_) (fun h1 _ => ?_) hC hx F N off ne
      · refine ih (i + 1) _ (by omega) ?_
        rw [List.take_add_one, hc, List.filter_append]
        simp only [Option.toList, List.filter_cons, h1, if_true, List.filter_nil]
        exact IntsAre.append hy (.cons c t' .nil)
      · refine ih (i + 1) _ (by omega) ?_
        rw [List.take_add_one, hc, List.filter_append]
        simp only [Option.toList, List.filter_cons, h1, List.filter_nil]
        simpa using hy
  have h0 := key vs.length 0 [] (by omega) (by simpa using IntsAre.nil)
  simpa using h0
theorem m_cgetI {w : World} {A : Around} {E : Value → Shared → Prop} {s : Shared} {h₀ : Heap} {L r : Addr} {news : Led} {o : Obj} {t1 t2 t : Tok} {x : Int} {Q : Value → Shared → Prop}
    (N : News h₀ L s.heap news) (hm : (r, o) ∈ news) (hd : o.IsDictOf (intKind PG w) [(769, .int 230 t1), (803, .int 220 t2)]) (hx : x = 769 ∨ x = 803)
    (h : ∀ t', Q (.int (cls x) t') { s with toks := s.toks + 1 }) : wpAny (model PG w) A (getItem (.ref r) (.int x t)) Q E s := by
  have hmp := m_map N hm hd
  rcases hx with rfl | rfl
  · exact wpAny_getItem_of (intKind_is _ _ _ _) hmp rfl (h t1)
  · exact wpAny_getItem_of (intKind_is _ _ _ _) hmp rfl (h t2)
theorem m_cnotin {w : World} {A : Around} {E : Value → Shared → Prop} {s : Shared} {h₀ : Heap} {L r : Addr} {news : Led} {o : Obj} {t1 t2 t : Tok} {x : Int} {Q : Value → Shared → Prop}
    (N : News h₀ L s.heap news) (hm : (r, o) ∈ news) (lo : (r == sysModules) = false) (hd : o.IsDictOf (intKind PG w) [(769, .int 230 t1), (803, .int 220 t2)])
    (h : Q (.bool (decide (cls x = 0))) { s with toks := s.toks + 1 }) : wpAny (model PG w) A (compareOp .NotIn (.int x t) (.ref r)) Q E s := by
  refine m_notin (b := decide (cls x = 0)) N hm lo hd (intKind_is _ _ _ _) ?_ h
  unfold cls
  by_cases h1 : x = 769
  · subst h1; rfl
  · by_cases h2 : x = 803
    · subst h2; rfl
    · have e1 : ¬ (769 : Int) = x := fun e => h1 e.symm
      have e2 : ¬ (803 : Int) = x := fun e => h2 e.symm
      simp [valueAt, e1, e2, h1, h2]
end
section
structure LcS where
  fa : Nat
  fvs : List Value
  fcs : List Int
  fn : Nat
  st : Int
  stT : Tok
inductive LcI (base : Led) (l2 : Nat) (xs : List Int) (i : Nat) (c : LcS) : Prop
  | mk  (q1 : IntsAre c.fvs c.fcs) (q2 : lcmpGo (xs.drop i) c.fcs c.st = lcmpGo xs [] (-1)) (q3 : (-1 ≤ c.st ∧ c.st < c.fcs.length ∧ (∀ x ∈ c.fcs.drop (c.st + 1).toNat, 0 ≤ c.st → x = 769 ∨ x = 803))) (q4 : c.fcs.length ≤ i) (q5 : AllLt c.fa base) (q6 : @Ne Nat l2 c.fa) : LcI base l2 xs i c
abbrev LcL (base : Led) (c : LcS) : Led := (c.fa, listOf c.fvs.toArray c.fn) :: base
theorem lm_le {a b i n : Nat} (h1 : a = b) (h2 : b ≤ i) (h3 : i < n) (h4 : n < 64) : a ≤ 10000 := by omega
theorem lm_lt {st : Int} {a b : Nat} (h : st < b) (e : a = b) : st < a := e ▸ h
theorem lm_s1 {st : Int} (h : -1 ≤ st) : 0 ≤ st + 1 := by omega
theorem lm_s2 {st : Int} {a b : Nat} (h : st < b) (e : a = b) : st + 1 ≤ a := by omega
theorem lc_hit {t f : List Int} {st c v : Int} (h0 : 0 ≤ st) (hc : c = 769) (hf : decide (List.filter (fun c => decide (230 ≤ cls c)) (List.drop (st + 1).toNat f) = []) = true) (ha : ([101, 69].any fun x => x == f.getD st.toNat 0) = true)
    (hv : (if f.getD st.toNat 0 = 101 then 233 else 201) = v) : lcmpGo (c :: t) f st = lcmpGo t (f.set st.toNat v) st := by
  have hf' : ((List.drop (st + 1).toNat f).filter (fun one => decide (cls one ≥ 230))).isEmpty = true := by
    have := of_decide_eq_true hf
    simp only [ge_iff_le]
    rw [this]; rfl
  have ha' : f.getD st.toNat 0 = 101 ∨ f.getD st.toNat 0 = 69 := by
    simp only [List.any_cons, List.any_nil, Bool.or_false, Bool.or_eq_true, beq_iff_eq] at ha
    omega
  rw [lcmpGo]
  simp only [if_pos h0, hf', hc, true_and]
  rw [if_pos ha', hv]
theorem lc_miss {t f : List Int} {st c : Int} (h : (¬ 0 ≤ st) ∨ (c ≠ 769) ∨ decide (List.filter (fun c => decide (230 ≤ cls c)) (List.drop (st + 1).toNat f) = []) = false ∨ ([101, 69].any fun x => x == f.getD st.toNat 0) = false) :
    lcmpGo (c :: t) f st = if cls c = 0 then lcmpGo t (f ++ [c]) f.length else lcmpGo t (f ++ [c]) st := by
  rw [lcmpGo]
  refine if_neg ?_
  rintro ⟨h1, h2, h3⟩
  by_cases h0 : 0 ≤ st
  · rw [if_pos h0] at h2 h3
    rcases h with h | h | h | h
    · exact h h0
    · exact h h1
    · refine of_decide_eq_false h ?_
      simpa [List.isEmpty_iff, ge_iff_le] using h2
    · simp only [List.any_cons, List.any_nil, Bool.or_false, Bool.or_eq_false_iff, beq_eq_false_iff_ne, ne_eq] at h
      omega
  · rw [if_neg h0] at h2
    cases h2
theorem lcI_hit {base : Led} {l2 fa fn i : Nat} {xs fcs : List Int} {fvs : List Value} {st x : Int} {stT t : Tok} (v : Int) (p1 : IntsAre fvs fcs) (p2 : lcmpGo (x :: xs.drop (i + 1)) fcs st = lcmpGo xs [] (-1)) (p4 : -1 ≤ st) (p5 : st < fcs.length)
    (p8 : ∀ y ∈ fcs.drop (st + 1).toNat, 0 ≤ st → y = 769 ∨ y = 803) (p6 : fcs.length ≤ i) (p7 : AllLt fa base) (p10 : @Ne Nat l2 fa) (h0 : 0 ≤ st) (hx : x = 769) (hf : decide (List.filter (fun c => decide (230 ≤ cls c)) (List.drop (st + 1).toNat fcs) = []) = true)
    (ha : ([101, 69].any fun x => x == fcs.getD st.toNat 0) = true) (hv : (if fcs.getD st.toNat 0 = 101 then 233 else 201) = v) : LcI base l2 xs (i + 1) ⟨fa, fvs.set st.toNat (.int v t), fcs.set st.toNat v, fn, st, stT⟩ := by
  rw [lc_hit h0 hx hf ha hv] at p2
  refine ⟨ints_set p1 _ _ _, p2, ⟨p4, by simpa using p5, fun y hy h => ?_⟩, by simp; omega, p7, p10⟩
  dsimp only at hy h
  rw [List.drop_set_of_lt (by omega)] at hy
  exact p8 y hy h
theorem lcI_zero {base : Led} {l2 fa fn i : Nat} {xs fcs : List Int} {fvs : List Value} {st x : Int} {stT t : Tok} (p1 : IntsAre fvs fcs) (p2 : lcmpGo (x :: xs.drop (i + 1)) fcs st = lcmpGo xs [] (-1))
    (p6 : fcs.length ≤ i) (p7 : AllLt fa base) (p10 : @Ne Nat l2 fa) (hm : (¬ 0 ≤ st) ∨ (x ≠ 769) ∨ decide (List.filter (fun c => decide (230 ≤ cls c)) (List.drop (st + 1).toNat fcs) = []) = false ∨ ([101, 69].any fun x => x == fcs.getD st.toNat 0) = false) (h : cls x = 0) :
    LcI base l2 xs (i + 1) ⟨fa, fvs ++ [.int x t], fcs ++ [x], fn, (fcs.length : Int), stT⟩ := by
  rw [lc_miss hm, if_pos h] at p2
  refine ⟨IntsAre.append p1 (.cons _ _ .nil), p2, ⟨by dsimp only; omega, by dsimp only; rw [List.length_append, List.length_singleton]; omega, fun y hy _ => ?_⟩, by dsimp only; rw [List.length_append, List.length_singleton]; omega, p7, p10⟩
  dsimp only at hy
  rw [List.drop_of_length_le (by rw [List.length_append, List.length_singleton]; omega)] at hy
  cases hy
theorem lcI_mark {base : Led} {l2 fa fn i : Nat} {xs fcs : List Int} {fvs : List Value} {st x : Int} {stT t : Tok} (p1 : IntsAre fvs fcs) (p2 : lcmpGo (x :: xs.drop (i + 1)) fcs st = lcmpGo xs [] (-1)) (p4 : -1 ≤ st) (p5 : st < fcs.length)
    (p8 : ∀ y ∈ fcs.drop (st + 1).toNat, 0 ≤ st → y = 769 ∨ y = 803) (p6 : fcs.length ≤ i) (p7 : AllLt fa base) (p10 : @Ne Nat l2 fa) (hm : (¬ 0 ≤ st) ∨ (x ≠ 769) ∨ decide (List.filter (fun c => decide (230 ≤ cls c)) (List.drop (st + 1).toNat fcs) = []) = false ∨ ([101, 69].any fun x => x == fcs.getD st.toNat 0) = false) (h : ¬ cls x = 0) :
    LcI base l2 xs (i + 1) ⟨fa, fvs ++ [.int x t], fcs ++ [x], fn, st, stT⟩ := by
  rw [lc_miss hm, if_neg h] at p2
  refine ⟨IntsAre.append p1 (.cons _ _ .nil), p2, ⟨p4, by dsimp only; rw [List.length_append, List.length_singleton]; omega, fun y hy h0 => ?_⟩, by dsimp only; rw [List.length_append, List.length_singleton]; omega, p7, p10⟩
  dsimp only at hy h0
  rw [List.drop_append_of_le_length (by omega)] at hy
  rcases List.mem_append.mp hy with hy | hy
  · exact p8 y hy h0
  · rw [List.mem_singleton.mp hy]
    unfold cls at h
    by_cases h1 : x = 769
    · exact .inl h1
    · rw [if_neg h1] at h
      by_cases h2 : x = 803
      · exact .inr h2
      · rw [if_neg h2] at h; exact absurd rfl h
set_option maxRecDepth 100000 in
set_option maxHeartbeats 8000000 in
theorem c_lcmp {w : World} {news : Led} {l k : Nat} {vs : List Value} {xs : List Int} (hl : (l, listOf vs.toArray k) ∈ news) (hi : IntsAre vs xs) (hx : ∀ x ∈ xs, x ∈ AL) (h64 : (exps xs).length < 64) :
    CC w 393 [.ref l] 50 news (NewL news (lcmp xs)) := by
  refine CC.mk ?_; k_fill; intro p9 loose mean mg mb dp un gd cn cs a9 ccd cl outer A₀ base h₀ L m s Q E B F X N T hk hdp hun hret
  have hMk : KstMark := kstMark
  k_with_none
  k_with "m_allIn" => first | exact List.forall_mem_nil _ | (refine sub_cons (by k_memK) ?_; k_extra "m_allIn") | (intro p9 h9; kst_mem)
  k_with "m_ra" => first | assumption | exact And.right (by first | assumption | exact And.right (by first | assumption | exact And.right (by first | assumption | exact And.right (by first | assumption | exact And.right (by first | assumption | exact And.right (by first | assumption | exact And.right (by first | assumption | exact And.right (by assumption))))))))
  k_with "m_and" => first | k_extra "m_ra" | exact And.left (by k_extra "m_ra")
  k_with "m_neA" => first | k_extra "m_and" | (refine Ne.symm ?_; k_extra "m_and") | (refine Nat.ne_of_lt ?_; k_extra "m_and") | (refine Nat.ne_of_gt ?_; k_extra "m_and") | (refine Nat.ne_of_lt (Nat.lt_succ_of_lt ?_); k_extra "m_and")
  k_with "m_lt" => first | assumption | exact allLt_of (by assumption) | k_extra "m_and"
  k_with "kst_in" => (try dsimp only); with_unfolding_all ((try simp only [List.nil_append, List.cons_append]); k_extra "m_allIn")
  k_with "k_ne" => refine neN ?_; (try dsimp only); first | (with_reducible assumption) | (with_reducible exact Ne.symm (by assumption)) | (with_reducible exact Nat.ne_of_lt (by assumption)) | (with_reducible exact Nat.ne_of_gt (by assumption)) | with_reducible k_extra "m_neA" | k_extra "m_neA" | omega
  k_with "k_all" => first | exact List.forall_mem_nil _ | assumption | exact lt_ne (by assumption) | exact lt_ne (by k_extra "m_lt") | exact lt_ne1 (by k_extra "m_lt") | (refine ne_cons ?_ ?_; (focus k_ne); k_all) | (refine List.forall_mem_cons.mpr (And.intro ?_ ?_); (focus k_ne); k_all)
  k_with "k_in" => (rename Fr _ _ _ _ => lF8); (rename Frag.In _ _ => lX8); exact Frag.In.keeps lX8 (Fr.keep lF8)
  k_with "ktr_room" => k_dflt (first | exact rmA (by assumption) (by exact rfl) | exact rmB (by assumption))
  k_with "ktr_units" => k_dflt (first | exact unA (by assumption) (by exact rfl) | exact unC (by assumption) (by exact rfl))
  k_with "MPost" => dsimp only [MPost]
  k_with "execs cons" => with_reducible refine gen_tok ?_; intro tk9
  k_with "m_for" => k_here; (rename Fr _ _ _ _ => lF'); k_dflt (refine' For_invVF ?zF ?zk1 ?zk2 ?_ ?zs ?ze; (case zF => exact lF'); (case zk1 => exact rfl); (case zk2 => exact rfl); (case zs => (intro _; rfl)); (case ze => passes_own); k_whole)
  k_with "exec For Name Name cons nil" => k_extra "m_for"
  k_with "exec For Name Subscript cons nil" => k_extra "m_for"
  k_with "exec For Name Call cons nil" => k_extra "m_for"
  k_with "exec For Name Attribute cons nil" => k_extra "m_for"
  k_with "exec For Name Tuple cons nil" => k_extra "m_for"
  k_with "compareOp NotEq ref ref" => k_here; (with_reducible show wpAny _ _ (compareOp CmpOp.NotEq (Value.ref _) (Value.ref _)) _ _ _); k_dflt (first | refine ke_ne_ints (by is_list) (by is_list) (by l_ints) (by l_ints) (by ktr_units) ?_ | ((refine ne_dataH (by ke_read) (by ke_read) (by ke_shaped) (by ke_shaped) (by ktr_units) ?_); ke_norm))
  k_with "compareOp Eq ref ref" => k_here; (with_reducible show wpAny _ _ (compareOp CmpOp.Eq (Value.ref _) (Value.ref _)) _ _ _); k_dflt (first | refine ke_eq_ints (by is_list) (by is_list) (by l_ints) (by l_ints) (by ktr_units) ?_ | ((refine eq_dataH (by ke_read) (by ke_read) (by ke_shaped) (by ke_shaped) (by ktr_units) ?_); ke_norm))
  w_top off
  k_with "call ref cons nil" =>
    with_reducible show wpAny _ _ (call (Value.ref 388) [_]) _ _ _
    refine' NewL.go (c_lapart ?hl hi hx h64) ?_ (by k_asm) (by k_asm) (by k_asm) (by k_asm) (by k_asm) (by first | exact rfl | assumption) (by ktr_room) (by ktr_units)
    (case hl => k_mem)
    rintro l2 n2 vs2 h9' tk9' F9' N9' hi2 la2
    have h642 : (lapart xs).length < 64 := by rw [lapart, passes_len]; exact h64
    (try dsimp only); (try k_sweep); (try k_fold)
  k_with "pyIter ref" =>
    rename Fr _ _ _ _ => lF'
    rename News _ _ _ _ => lN'
    with_unfolding_all refine' mfor (σ := LcS) (l := l2) (vs := vs2.toArray) (nn := n2) (LcL ((l2, listOf vs2.toArray n2) :: news)) (fun c => [(Str.ofString "found", .ref c.fa), (Str.ofString "letter", .int c.st c.stT)]) [Str.ofString "ahead", Str.ofString "is_free"] (LcI news l2 (lapart xs)) ⟨_, [], [], 0, -1, _⟩ rfl (fun c => .tail _ (.head _)) lF' (kst_newsOf lN' ?sub) ?kk ?pp ?_ ?_
    (case kk => kst_all)
    (case sub => dsimp only [LcL]; kst_in)
    (case pp => exact ⟨.nil, rfl, ⟨(show (-1 : Int) ≤ -1 by decide), (show (-1 : Int) < ((0 : Nat) : Int) by decide), fun _ _ h => absurd h (show ¬ (0 : Int) ≤ -1 by decide)⟩, Nat.le_refl _, by walk_at "m_lt", by k_ne⟩)
    clear lF' lN'
    rintro I9 oI9 ⟨fa, fvs, fcs, fn, st, stT⟩ i9 v9 u9 h9 tk9 hv9 hP9 hne9 F9 N9
    k_dflt (obtain ⟨p1, p2, ⟨p4, p5, p8⟩, p6, p7, p10⟩ := hP9)
    (dsimp only [LcL] at p1 p2 p4 p5 p6 p7 p8 p10 N9 F9 hne9)
    (have g9 := gnNe_of hne9); (dsimp only [GnNe] at g9)
    obtain ⟨x9, t9, rfl, hx9⟩ := IntsAre.at hi2 i9 v9 (by simpa using hv9)
    have hil : i9 < (lapart xs).length := (List.getElem?_eq_some_iff.mp hx9).1
    have hdr : (lapart xs).drop i9 = x9 :: (lapart xs).drop (i9 + 1) := by rw [List.drop_eq_getElem_cons hil, (List.getElem?_eq_some_iff.mp hx9).2]
    rw [hdr] at p2
    have hlen9 := p1.length
    have hz8 := lm_le hlen9 p6 hil h642
    (try k_fold)
    rotate_left 1
    rintro ⟨fa, fvs, fcs, fn, st, stT⟩ u9 h9 tk9 hP9 F9 N9
    k_dflt (obtain ⟨p1, p2, ⟨p4, p5, p8⟩, p6, p7, p10⟩ := hP9)
    (dsimp only [LcL] at p1 p2 p4 p5 p6 p7 p8 p10 N9 F9)
    rw [List.drop_of_length_le (by have := hi2.length; simp; omega)] at p2
    (try k_fold)
    rotate_left 1
  k_with "call ref nil" =>
    k_dflt show wpAny _ _ (call (Value.ref _) []) _ _ _
    with_reducible show wpAny _ _ (call (Value.ref 348) []) _ _ _
    refine ClsP.go c_lcls ?_ (by k_asm) (by k_asm) (by k_asm) (by k_asm) (by k_asm) (by first | exact rfl | assumption) (by ktr_room) (by ktr_units)
    rintro rc oc tc1 tc2 h9' tk9' F9' N9' loc gc nrc
    have gr := gnNe_of nrc
    dsimp only [GnNe] at gr
    (repeat (with_reducible rename _ ∧ _ => hs9; have hs8 := And.left hs9; have hs7 := And.right hs9; clear hs9))
    (try dsimp only); (try k_sweep); (try k_fold)
  k_with "eval ListComp Name cons" =>
    k_dflt (refine LCt.ListComp_T (F₀ := by k_asm) (by with_unfolding_all rfl) (by decide) (by rfl) (by decide) (by rfl) ?_)
  k_with "CompSrcT Compare Name nil ref" =>
    k_dflt (refine' LCt.CompSrcT.ledger (its := (fvs.drop (st + 1).toNat).toArray) (by rfl) (by k_asm) (by k_asm) (by k_mem) (by (rw [sizeLine_eq, List.size_toArray, List.length_drop]; exact Nat.le_trans (Nat.sub_le _ _) (Nat.le_trans hz8 (Nat.le_of_ble_eq_true rfl)))) ?_)
    intro g9'
    k_dflt (refine' m_testRest (nn := 0) (ok := fun c => decide (230 ≤ cls c)) (ints_drop p1 _) (by k_mem) ?_ ?_)
    intro ys9 hy9
    unfold LCg.FinE
    intro D8 h' tk' F' N' o1'
    (try simp only [List.nil_append, List.cons_append] at N')
    (try dsimp only)
    have o9 := off1_mem o1'
    have go9 := gnNe_of o9
    dsimp only [GnNe] at go9
    (repeat (with_reducible rename _ ∧ _ => hs9; have hs8 := And.left hs9; have hs7 := And.right hs9; clear hs9))
    rotate_left 1
    intro c8 t8 ys8 R1 R0 I8 oI8 C8 oC8 D8 m8 h8 tk8 E8 hc8 hR1 hR0 hC8 hx8 F8 N8 off8 ne8
    have hcm : c8 = 769 ∨ c8 = 803 := p8 c8 hc8 (by omega)
    rotate_left 1
  k_with "getItem ref int" =>
    rename News _ _ _ _ => lN'
    k_dflt (refine' m_cgetI lN' ?zm gc hcm ?_; (case zm => k_mem))
    intro tg8
  k_with "CompEnd none" =>
    k_dflt (refine' m_cend (h' := _) ?zF ?zN ?zo ?zS (hR0 ?zr _); (case zr => exact decide_eq_false (by assumption)); (case zF => assumption); (case zN => exact kst_newsOf (by k_asm) (by kst_in)); (case zo => exact off8); (case zS => exact Or.inr ⟨_, by k_mem, rfl, _, rfl⟩))
  k_with "CompEnd int" =>
    k_dflt (refine' m_cend (h' := _) ?zF ?zN ?zo ?zS (hR1 ?zr _); (case zr => exact decide_eq_true (by assumption)); (case zF => assumption); (case zN => exact kst_newsOf (by k_asm) (by kst_in)); (case zo => exact off8); (case zS => exact Or.inr ⟨_, by k_mem, rfl, _, rfl⟩))
  k_with "compareOp NotIn int ref" =>
    rename News _ _ _ _ => lN'
    k_dflt (refine' m_cnotin lN' ?zm loc gc ?_; (case zm => k_mem))
  k_with "subscriptTail Name Slice ref ref" =>
    k_dflt (refine' kmk_slice_lit (its := fvs.toArray) (zs := fvs.drop (st + 1).toNat) ?yF ?yN ?yl ?yp ?yq ?ye ?_ ?ys ?yt ?yz; (case yF => k_asm); (case yN => k_asm); (case yl => kmk_list); (case yp => kmk_part); (case yq => kmk_part); (case ye => exact pick_drop fvs (lm_s1 p4) (lm_s2 p5 hlen9)); (case ys => with_unfolding_all rfl); (case yt => kmk_pure); (case yz => (rw [sizeLine_eq, List.size_toArray]; exact Nat.le_trans hz8 (Nat.le_of_ble_eq_true rfl))))
    intro D9 h' F' N' l1; (try k_lt l1); ((repeat (with_reducible rename _ ∧ _ => hs9; have hs8 := And.left hs9; have hs7 := And.right hs9; clear hs9))); (try k_sweep)
  k_with "setItem ref int int" =>
    have hst9 : 0 ≤ st := by first | assumption | omega
    have hst8 := lm_lt p5 hlen9
    rename Fr _ _ _ _ => lF'
    rename News _ _ _ _ => lN'
    k_dflt (have lN2 : News _ _ _ ((I9, oI9) :: (fa, listOf fvs.toArray fn) :: (l2, listOf vs2.toArray n2) :: news) := kst_newsOf lN' (by kst_in))
    k_dflt (refine' m_setL (vs := fvs) lF' lN2 ?yU hst9 hst8 hz8 ?_; (case yU => k_updF))
    clear lF' lN' lN2
    intro h' n' F' N'; (try dsimp only at N'); (try k_sweep)
  k_with "call builtin:list.append cons nil" =>
    rename Fr _ _ _ _ => lF'
    rename News _ _ _ _ => lN'
    k_dflt (have lN2 : News _ _ _ ((I9, oI9) :: (fa, listOf fvs.toArray fn) :: (l2, listOf vs2.toArray n2) :: news) := kst_newsOf lN' (by kst_in))
    k_dflt (refine' m_append (vs := fvs) lF' lN2 ?yU hz8 ?_; (case yU => k_updF))
    clear lF' lN' lN2
    intro h' n' F' N'; (try dsimp only at N'); (try k_sweep)
  k_with "exec If BoolOp cons nil" =>
    fail_if_success (have hz7 := hJn; clear hz7)
    rename Fr _ _ _ _ => lF'
    rename News _ _ _ _ => lN'
    k_dflt (refine' if_joinC lF' lN' (Str.ofString "ahead") ((¬ 0 ≤ st) ∨ (x9 ≠ 769) ∨ decide (List.filter (fun c => decide (230 ≤ cls c)) (List.drop (st + 1).toNat fcs) = []) = false ∨ ([101, 69].any fun x => x == fcs.getD st.toNat 0) = false) ?_ ?_)
    have hJn := True.intro
    (try k_fold)
    rotate_left 1
    rintro h8 tk8 u8 F8 N8 hm9
    have hJn := True.intro
    (try k_fold)
    rotate_left 1
  k_with "JoinC" =>
    first
      | (refine' JoinC.cont rfl ?_)
      | (rename Fr _ _ _ _ => lF'; rename News _ _ _ _ => lN'; k_dflt (refine' JoinC.next rfl ⟨_, _, _, rfl, fr_self lF', kst_newsOf lN' ?zi, (by (first | exact hm9 | exact .inl (by assumption) | exact .inr (.inl (by assumption)) | exact .inr (.inr (.inl (by assumption))) | exact .inr (.inr (.inr (by assumption)))))⟩); (case zi => kst_in))
  k_with "MEnd" =>
    rename Fr _ _ _ _ => lF'
    rename News _ _ _ _ => lN'
    first
      | (k_dflt (refine' mend (⟨fa, fvs.set st.toNat (.int 233 _), fcs.set st.toNat 233, _, st, stT⟩ : LcS) lF' lN' ?hI ?hn ?hne ?hk ?hr ?hp); (case hn => dsimp only [LcL]; kst_in); (case hk => kst_all); (case hp => k_dflt exact lcI_hit 233 p1 p2 p4 p5 p8 p6 p7 p10 hst9 (by assumption) (by assumption) (by assumption) (if_pos (by assumption))); (case hI => k_dflt k_mem); (case hne => exact ne_map hne9 rfl); (case hr => (intro z9 g1 g2 g3; (simp only [List.forall_mem_cons, List.not_mem_nil, false_implies, implies_true, and_true, ne_eq] at g2); (simp only [List.contains_cons, List.contains_nil, Bool.or_false, Bool.or_eq_false_iff, beq_eq_false_iff_ne, ne_eq] at g3); (simp [kstB, g1, g2, g3]; done))))
      | (k_dflt (refine' mend (⟨fa, fvs.set st.toNat (.int 201 _), fcs.set st.toNat 201, _, st, stT⟩ : LcS) lF' lN' ?hI ?hn ?hne ?hk ?hr ?hp); (case hn => dsimp only [LcL]; kst_in); (case hk => kst_all); (case hp => k_dflt exact lcI_hit 201 p1 p2 p4 p5 p8 p6 p7 p10 hst9 (by assumption) (by assumption) (by assumption) (if_neg (by assumption))); (case hI => k_dflt k_mem); (case hne => exact ne_map hne9 rfl); (case hr => (intro z9 g1 g2 g3; (simp only [List.forall_mem_cons, List.not_mem_nil, false_implies, implies_true, and_true, ne_eq] at g2); (simp only [List.contains_cons, List.contains_nil, Bool.or_false, Bool.or_eq_false_iff, beq_eq_false_iff_ne, ne_eq] at g3); (simp [kstB, g1, g2, g3]; done))))
      | (k_dflt (refine' mend (⟨fa, fvs ++ [.int x9 _], fcs ++ [x9], _, (fcs.length : Int), _⟩ : LcS) lF' lN' ?hI ?hn ?hne ?hk ?hr ?hp); (case hn => dsimp only [LcL]; kst_in); (case hk => kst_all); (case hp => k_dflt exact lcI_zero p1 p2 p6 p7 p10 (by (first | exact hm9 | exact .inl (by assumption) | exact .inr (.inl (by assumption)) | exact .inr (.inr (.inl (by assumption))) | exact .inr (.inr (.inr (by assumption))))) (by assumption)); (case hI => k_dflt k_mem); (case hne => exact ne_map hne9 rfl); (case hr => (intro z9 g1 g2 g3; (simp only [List.forall_mem_cons, List.not_mem_nil, false_implies, implies_true, and_true, ne_eq] at g2); (simp only [List.contains_cons, List.contains_nil, Bool.or_false, Bool.or_eq_false_iff, beq_eq_false_iff_ne, ne_eq] at g3); (simp [kstB, g1, g2, g3]; done))))
      | (k_dflt (refine' mend (⟨fa, fvs ++ [.int x9 _], fcs ++ [x9], _, st, stT⟩ : LcS) lF' lN' ?hI ?hn ?hne ?hk ?hr ?hp); (case hn => dsimp only [LcL]; kst_in); (case hk => kst_all); (case hp => k_dflt exact lcI_mark p1 p2 p4 p5 p8 p6 p7 p10 (by (first | exact hm9 | exact .inl (by assumption) | exact .inr (.inl (by assumption)) | exact .inr (.inr (.inl (by assumption))) | exact .inr (.inr (.inr (by assumption))))) (by assumption)); (case hI => k_dflt k_mem); (case hne => exact ne_map hne9 rfl); (case hr => (intro z9 g1 g2 g3; (simp only [List.forall_mem_cons, List.not_mem_nil, false_implies, implies_true, and_true, ne_eq] at g2); (simp only [List.contains_cons, List.contains_nil, Bool.or_false, Bool.or_eq_false_iff, beq_eq_false_iff_ne, ne_eq] at g3); (simp [kstB, g1, g2, g3]; done))))
  refine wpAny_call ?_
  (k_dflt (refine' code_def ?k1 ?k2 ?k3 ?k4 ?k5 ?kA ?kF ?kK ?k6 ?k7 ?k8 ?k9 ?kB ?_ ?c2 ?c3 ?c4 ?c5; (case kA => exact rfl); (case kF => exact rfl); (case kK => assumption); (case k1 => k_asm); (case k2 => k_asm); (case k3 => k_asm); (case k4 => k_asm); (case k5 => k_asm); (case k6 => k_is); (case k7 => k_is); (case k8 => ktr_room); (case k9 => first | exact BindsTo.of_eq rfl | exact binds_K (by k_in) rfl (by k_is) rfl rfl rfl); (case c5 => decide); (case kB => exact locs rfl); (case c2 => exact rfl); (case c3 => exact rfl); (case c4 => exact rfl); k_whole; intro g' L' h' FG' F' N' B' X' T'; (try dsimp only); (try k_lift B'); (try k_fold)))
  k_steps
  rename Fr _ _ _ _ => lF'
  rename News _ _ _ _ => lN'
  exact newL_end hret lF' (kst_newsOf lN' (by kst_in)) (by have e : fcs = lcmp xs := p2; rw [e] at p1; exact p1) p7
end
section
theorem fold_told {x : Int} {t : Tok} {ts : List Value} (h : (∃ l, told x = some l ∧ IntsAre ts l) ∨ (told x = none ∧ ts = .int x t :: [])) : IntsAre ts (fold1 x) := by
  unfold fold1
  rcases h with ⟨l, e, hi⟩ | ⟨e, rfl⟩
  · rw [e]; exact hi
  · rw [e]; exact .cons _ _ .nil
theorem fold_step {a b c d : List Int} (h : a = b ++ c) (e : d = b) : d ++ c = a := by rw [h, e]
set_option maxRecDepth 100000 in
set_option maxHeartbeats 8000000 in
theorem c_lfold {w : World} {news : Led} {l k : Nat} {vs : List Value} {xs : List Int} (hl : (l, listOf vs.toArray k) ∈ news) (hi : IntsAre vs xs) (hx : ∀ x ∈ xs, x ∈ AL) (hF : (folds xs).length < 64) (h64 : (exps (folds xs)).length < 64) :
    CC w 400 [.ref l] 80 news (NewL news (lfold xs)) := by
  refine CC.mk ?_; k_fill; intro p loose mean mg mb dp un gd cn cs a ccd cl outer A₀ base h₀ L m s Q E B F X N T9 hk hdp hun hret
  have hMk : KstMark := kstMark
  k_with_none
  k_with "m_allIn" => first | exact List.forall_mem_nil _ | (refine sub_cons (by k_memK) ?_; k_extra "m_allIn") | (intro p9 h9; kst_mem)
  k_with "m_ra" => first | assumption | exact And.right (by first | assumption | exact And.right (by first | assumption | exact And.right (by first | assumption | exact And.right (by first | assumption | exact And.right (by first | assumption | exact And.right (by first | assumption | exact And.right (by first | assumption | exact And.right (by assumption))))))))
  k_with "m_and" => first | k_extra "m_ra" | exact And.left (by k_extra "m_ra")
  k_with "m_neA" => first | k_extra "m_and" | (refine Ne.symm ?_; k_extra "m_and") | (refine Nat.ne_of_lt ?_; k_extra "m_and") | (refine Nat.ne_of_gt ?_; k_extra "m_and") | (refine Nat.ne_of_lt (Nat.lt_succ_of_lt ?_); k_extra "m_and")
  k_with "m_lt" => first | assumption | exact allLt_of (by assumption) | k_extra "m_and"
  k_with "kst_in" => (try dsimp only); with_unfolding_all ((try simp only [List.nil_append, List.cons_append]); k_extra "m_allIn")
  k_with "k_ne" => refine neN ?_; (try dsimp only); first | (with_reducible assumption) | (with_reducible exact Ne.symm (by assumption)) | (with_reducible exact Nat.ne_of_lt (by assumption)) | (with_reducible exact Nat.ne_of_gt (by assumption)) | with_reducible k_extra "m_neA" | k_extra "m_neA" | omega
  k_with "k_all" => first | exact List.forall_mem_nil _ | assumption | exact lt_ne (by assumption) | exact lt_ne (by k_extra "m_lt") | exact lt_ne1 (by k_extra "m_lt") | (refine ne_cons ?_ ?_; (focus k_ne); k_all) | (refine List.forall_mem_cons.mpr (And.intro ?_ ?_); (focus k_ne); k_all)
  k_with "k_in" => (rename Fr _ _ _ _ => lF8); (rename Frag.In _ _ => lX8); exact Frag.In.keeps lX8 (Fr.keep lF8)
  k_with "ktr_room" => k_dflt (first | exact rmA (by assumption) (by exact rfl) | exact rmB (by assumption))
  k_with "ktr_units" => k_dflt (first | exact unA (by assumption) (by exact rfl) | exact unC (by assumption) (by exact rfl))
  k_with "MPost" => dsimp only [MPost]
  k_with "execs cons" => with_reducible refine gen_tok ?_; intro tk9
  k_with "m_for" => k_here; (rename Fr _ _ _ _ => lF'); k_dflt (refine' For_invVF ?zF ?zk1 ?zk2 ?_ ?zs ?ze; (case zF => exact lF'); (case zk1 => exact rfl); (case zk2 => exact rfl); (case zs => (intro _; rfl)); (case ze => passes_own); k_whole)
  k_with "exec For Name Name cons nil" => k_extra "m_for"
  k_with "exec For Name Subscript cons nil" => k_extra "m_for"
  k_with "exec For Name Call cons nil" => k_extra "m_for"
  k_with "exec For Name Attribute cons nil" => k_extra "m_for"
  k_with "exec For Name Tuple cons nil" => k_extra "m_for"
  k_with "compareOp NotEq ref ref" => k_here; (with_reducible show wpAny _ _ (compareOp CmpOp.NotEq (Value.ref _) (Value.ref _)) _ _ _); k_dflt (first | refine ke_ne_ints (by is_list) (by is_list) (by l_ints) (by l_ints) (by ktr_units) ?_ | ((refine ne_dataH (by ke_read) (by ke_read) (by ke_shaped) (by ke_shaped) (by ktr_units) ?_); ke_norm))
  k_with "compareOp Eq ref ref" => k_here; (with_reducible show wpAny _ _ (compareOp CmpOp.Eq (Value.ref _) (Value.ref _)) _ _ _); k_dflt (first | refine ke_eq_ints (by is_list) (by is_list) (by l_ints) (by l_ints) (by ktr_units) ?_ | ((refine eq_dataH (by ke_read) (by ke_read) (by ke_shaped) (by ke_shaped) (by ktr_units) ?_); ke_norm))
  w_top off
  k_with "pyIter ref" =>
    rename Fr _ _ _ _ => lF'
    rename News _ _ _ _ => lN'
    with_unfolding_all refine' mfor (σ := LstS) (l := l) (vs := vs.toArray) (nn := k) (LstL news) (fun c => [(Str.ofString "found", .ref c.fa)]) [] (LstP news (fun i => folds (xs.take i))) ⟨_, [], [], 0⟩ rfl (fun c => .tail _ hl) lF' (kst_newsOf lN' ?sub) ?kk ?pp ?_ ?_
    (case kk => kst_all)
    (case sub => dsimp only [LstL]; kst_in)
    (case pp => exact ⟨.nil, rfl, by walk_at "m_lt"⟩)
    clear lF' lN'
    rintro I9 oI9 ⟨fa, fvs, fcs, fn⟩ i9 v9 u9 h9 tk9 hv9 hP9 hne9 F9 N9
    obtain ⟨p1, p2, p3⟩ := hP9
    (dsimp only [LstL] at p1 p2 p3 N9 F9 hne9)
    (have g9 := gnNe_of hne9); (dsimp only [GnNe] at g9)
    obtain ⟨x9, t9, rfl, hx9⟩ := IntsAre.at hi i9 v9 (by simpa using hv9)
    have hxA := hx x9 (List.mem_of_getElem? hx9)
    have hes := folds_snoc hx9
    have hlen9 := p1.length
    have hle9 := folds_le (xs := xs) (i9 + 1)
    rw [hes, ← p2] at hle9
    (try k_fold)
    rotate_left 1
    rintro ⟨fa, fvs, fcs, fn⟩ u9 h9 tk9 hP9 F9 N9
    obtain ⟨p1, p2, p3⟩ := hP9
    (dsimp only [LstL] at p1 p2 p3 N9 F9)
    rw [List.take_of_length_le (by have := hi.length; simp; omega)] at p2
    subst p2
    (try k_fold)
    rotate_left 1
  k_with "call ref nil" =>
    k_dflt show wpAny _ _ (call (Value.ref _) []) _ _ _
    with_reducible show wpAny _ _ (call (Value.ref 362) []) _ _ _
    refine ToldP.go c_ltold ?_ (by k_asm) (by k_asm) (by k_asm) (by k_asm) (by k_asm) (by first | exact rfl | assumption) (by ktr_room) (by ktr_units)
    rintro rt a1 a2 a3 a4 a5 a6 ot x1 x2 x3 x4 x5 x6 h9' tk9' F9' N9' lot gt na1 na2 na3 na4 na5 na6 nrt
    (try dsimp only); (try k_sweep); (try k_fold)
  k_with "newTuple cons int nil" =>
    k_dflt (refine' kup_newTuple ?yF ?yN ?_ ?yz; (case yF => k_asm); (case yN => k_asm); (case yz => kmk_size))
    intro DV h' F' N' l1; (try k_lt l1); (try k_sweep)
  k_with "call builtin:dict.get cons nil" =>
    rename News _ _ _ _ => lN'
    k_dflt (obtain ⟨ag, tsg, mg9, eg, hmg, htg⟩ := toldGetN (x := x9) (t := t9) (n := 0) (DV := DV) (rest := []) lN' (by k_mem) (by k_mem) (by k_mem) (by k_mem) (by k_mem) (by k_mem) (by k_mem) (.inl rfl))
    k_dflt (have hgf := tup_ne_list lN' hmg (b := fa) (vs := fvs.toArray) (n := fn) (by k_mem))
    k_dflt (have lN3 : News _ _ _ ((I9, oI9) :: (fa, listOf fvs.toArray fn) :: (ag, tupO (List.toArray tsg) mg9) :: news) := kst_newsOf lN' (List.forall_mem_cons.mpr ⟨by k_mem, List.forall_mem_cons.mpr ⟨by k_mem, List.forall_mem_cons.mpr ⟨hmg, by kst_in⟩⟩⟩))
    k_dflt (refine' m_get2 lN' ?zm lot gt (intKind_is _ _ _ _) eg ?_; (case zm => k_mem))
    clear lN' hmg
    have hgt : IntsAre tsg (fold1 x9) := fold_told htg
    have hgl := hgt.length
  k_with "call builtin:list.extend cons nil" =>
    rename Fr _ _ _ _ => lF'
    rename News _ _ _ _ => lN'
    k_dflt (refine' m_extendT (vs := fvs) (us := tsg) (b := ag) lF' lN' ?yU ?yb ?yz ?_; (case yU => k_updF); (case yb => k_mem); (case yz => (simp only [List.length_append] at hle9; omega)))
    clear lF' lN'
    intro h' n' F' N'; (try dsimp only at N'); (try k_sweep)
  k_with "call ref cons nil" =>
    with_reducible show wpAny _ _ (call (Value.ref 393) [_]) _ _ _
    rename News _ _ _ _ => lN'
    refine' NewL.go (c_lcmp (news := (fa, listOf fvs.toArray fn) :: news) (.head _) p1 (folds_al hx) h64) ?_ (by k_asm) (kst_newsOf lN' ?zsub) (by k_asm) (by k_asm) (by k_asm) (by first | exact rfl | assumption) (by ktr_room) (by ktr_units)
    (case zsub => kst_in)
    rintro l2 n2 vs2 h9' tk9' F9' N9' hi2 la2
    (try dsimp only); (try k_sweep); (try k_fold)
  k_with "MEnd" =>
    rename Fr _ _ _ _ => lF'
    rename News _ _ _ _ => lN'
    first
      | (k_dflt (refine' mend (⟨fa, fvs ++ tsg, fcs ++ fold1 x9, _⟩ : LstS) lF' lN' ?hI ?hn ?hne ?hk ?hr ?hp); (case hn => dsimp only [LstL]; kst_in); (case hk => kst_all); (case hp => k_dflt exact ⟨IntsAre.append p1 hgt, fold_step hes p2, p3⟩); (case hI => k_dflt k_mem); (case hne => exact ne_map hne9 rfl); (case hr => (intro z9 g1 g2 g3; (simp only [List.forall_mem_cons, List.not_mem_nil, false_implies, implies_true, and_true, ne_eq] at g2); (simp only [List.contains_cons, List.contains_nil, Bool.or_false, Bool.or_eq_false_iff, beq_eq_false_iff_ne, ne_eq] at g3); (simp [kstB, g1, g2, g3]; done))))
  refine wpAny_call ?_
  (k_dflt (refine' code_def ?k1 ?k2 ?k3 ?k4 ?k5 ?kA ?kF ?kK ?k6 ?k7 ?k8 ?k9 ?kB ?_ ?c2 ?c3 ?c4 ?c5; (case kA => exact rfl); (case kF => exact rfl); (case kK => assumption); (case k1 => k_asm); (case k2 => k_asm); (case k3 => k_asm); (case k4 => k_asm); (case k5 => k_asm); (case k6 => k_is); (case k7 => k_is); (case k8 => ktr_room); (case k9 => first | exact BindsTo.of_eq rfl | exact binds_K (by k_in) rfl (by k_is) rfl rfl rfl); (case c5 => decide); (case kB => exact locs rfl); (case c2 => exact rfl); (case c3 => exact rfl); (case c4 => exact rfl); k_whole; intro g' L' h' FG' F' N' B' X' T'; (try dsimp only); (try k_lift B'); (try k_fold)))
  k_steps
  rename Fr _ _ _ _ => lF'
  rename News _ _ _ _ => lN'
  exact newL_end hret lF' (kst_newsOf lN' (by kst_in)) hi2 la2.2
end
section
/-- the deck: a dict of what is left of the script and a number -/
inductive DeckAt (w : World) (news news' : Led) (dk : Nat) : Prop
  | mk (dl k : Nat) (od : Obj) (vs : List Value) (ys : List Int) (x : Int) (t : Tok) (q1 : (dk, od) :: (dl, listOf vs.toArray k) :: news = news') (q2 : (dk == sysModules) = false) (q3 : od.IsDictOf (strKind PG w) [(Str.ofString "left", .ref dl), (Str.ofString "mixed", .int x t)]) (q4 : IntsAre vs ys) (q5 : vs.length < 64) (q6 : (∀ p ∈ news, p.1 ≠ dk)) (q7 : (∀ p ∈ news, p.1 ≠ dl)) (q8 : @Ne Nat dk dl) : DeckAt w news news' dk
def DrawP (w : World) (news : Led) (dk : Nat) (n : Int) (news' : Led) (y : Value) : Prop := (∃ r t, .int r t = y ∧ 0 ≤ r ∧ r < n) ∧ DeckAt w news news' dk
theorem DrawP.go {wz : World} {fz : Addr} {vz : List Value} {kz : Nat} {ledz : Led} {w : World} {news : Led} {dk : Nat} {n : Int} (Cz : CC wz fz vz kz ledz (DrawP w news dk n))
  {pz : Program} {lz : List Str} {mnz : ExcName → Option Value} {mgz mbz : Str → Option Value} {dpz unz : Nat} {gdz : Option (List Code)} {cnz : Str} {csz : Scope} {az : Addr} {cdz : Value} {clz : List (Str × Addr)} {otz : List Env} {A₀ : Around} {basez h₀ : Heap} {Lz : Addr} {mz : Str → Option Value} {sz : Shared} {Qz Ez : Value → Shared → Prop}
  (ret : ∀ (r : Int) (tr : Tok) (dl k : Nat) (od : Obj) (vs : List Value) (ys : List Int) (x : Int) (t : Tok) (hz : Heap) (tkz : Nat), Fr h₀ Lz hz mz → News h₀ Lz hz ((dk, od) :: (dl, listOf vs.toArray k) :: news) → 0 ≤ r → r < n → (dk == sysModules) = false → od.IsDictOf (strKind PG w) [(Str.ofString "left", .ref dl), (Str.ofString "mixed", .int x t)] → IntsAre vs ys → vs.length < 64 → (∀ p ∈ news, p.1 ≠ dk) → (∀ p ∈ news, p.1 ≠ dl) → @Ne Nat dk dl → Qz (.int r tr) { sz with heap := hz, toks := tkz })
  (F : Fr h₀ Lz sz.heap mz) (N : News h₀ Lz sz.heap ledz) (B : Below A₀ basez otz h₀) (X : (hd.heap_1_39 wz.params).In h₀) (T : Top pz lz mnz mgz mbz h₀) (hk : csz.kind = .function)
  (hd : dpz + kz < recursionLimit) (hu : unz + 8 * kz < cLine) :
    wpAny (model PySem.Challenge.rw_on0371_01.prog wz) (ktrTop dpz unz gdz cnz csz Lz az cdz clz otz) (call (.ref fz) vz) Qz Ez sz := by
  refine cc_go Cz (fun v news9 h9 tk9 F9 N9 P9 => ?_) F N B X T hk hd hu
  obtain ⟨⟨r, tr, rfl, a1, a2⟩, dl, k, od, vs, ys, x, t, rfl, q2, q3, q4, q5, q6, q7, q8⟩ := P9
  exact ret r tr dl k od vs ys x t h9 tk9 F9 N9 a1 a2 q2 q3 q4 q5 q6 q7 q8
theorem m_pop0 {prog : Program} {w : World} {A : Around} {E : Value → Shared → Prop} {s : Shared} {h₀ : Heap} {L D : Addr} {m : Str → Option Value} {news : Led} {g : Obj → Led} {n : Nat} {v : Value} {vs : List Value} {u : Tok} {Q : Value → Shared → Prop}
    (F : Fr h₀ L s.heap m) (N : News h₀ L s.heap news) (U : UpdF D (listOf (v :: vs).toArray n) news g) (hz : vs.length < 1000)
    (h : ∀ h', Fr h₀ L h' m → News h₀ L h' (g (listOf vs.toArray (n + 1))) → Q v { s with heap := h' }) : wpAny (model prog w) A (call (.builtin "list.pop") [.ref D, .int 0 u]) Q E s := by
  refine kl_popAt (k := 0) (p := []) (q := vs) (y := v) F N rfl ?_ ?_ (updF_upd U _) ?_ h
  · unfold seqIndex?
    simp
  · rfl
  · rw [sizeLine_eq]; simp; omega
theorem ints_cons {vs : List Value} {ys : List Int} (h : IntsAre vs ys) (e : decide (ys = []) = false) : ∃ c t ys' vs', vs = .int c t :: vs' ∧ ys = c :: ys' ∧ IntsAre vs' ys' := by
  cases h with
  | nil => cases e
  | cons c t h => exact ⟨c, t, _, _, rfl, rfl, h⟩
theorem draw_end {w : World} {news : Led} {dk dl k : Nat} {od : Obj} {vs : List Value} {ys : List Int} {x n c : Int} {t tr : Tok} {h₀ h' : Heap} {L : Addr} {m : Str → Option Value} {led : Led} {s : Shared} {Q : Value → Shared → Prop} {tk' : Nat}
    (hret : ∀ (v : Value) (news' : Led) (h' : Heap) (tk' : Nat), Fr h₀ L h' m → News h₀ L h' news' → DrawP w news dk n news' v → Q v { s with heap := h', toks := tk' })
    (F : Fr h₀ L h' m) (N : News h₀ L h' led) (hs : ∀ p ∈ (dk, od) :: (dl, listOf vs.toArray k) :: news, p ∈ led) (lo : (dk == sysModules) = false) (hd : od.IsDictOf (strKind PG w) [(Str.ofString "left", .ref dl), (Str.ofString "mixed", .int x t)])
    (hi : IntsAre vs ys) (hv : vs.length < 64) (n1 : ∀ p ∈ news, p.1 ≠ dk) (n2 : ∀ p ∈ news, p.1 ≠ dl) (n3 : @Ne Nat dk dl) (hn : 0 < n) : Q (.int (c.fmod n) tr) { s with heap := h', toks := tk' } :=
  hret _ _ _ _ F (fun p hp => N p (hs p hp)) ⟨⟨_, _, rfl, Int.fmod_nonneg_of_pos _ hn, Int.fmod_lt_of_pos _ hn⟩, dl, k, od, vs, ys, x, t, rfl, lo, hd, hi, hv, n1, n2, n3⟩
set_option maxRecDepth 100000 in
set_option maxHeartbeats 8000000 in
theorem c_draw {w : World} {news : Led} {dk dl k : Nat} {od : Obj} {vs : List Value} {ys : List Int} {x n : Int} {t tn : Tok} (lo : (dk == sysModules) = false) (hd : od.IsDictOf (strKind PG w) [(Str.ofString "left", .ref dl), (Str.ofString "mixed", .int x t)]) (hi : IntsAre vs ys) (hv : vs.length < 64) (n1 : ∀ p ∈ news, p.1 ≠ dk) (n2 : ∀ p ∈ news, p.1 ≠ dl) (n3 : @Ne Nat dk dl) (hn : 0 < n) :
    CC w 374 [.ref dk, .int n tn] 20 ((dk, od) :: (dl, listOf vs.toArray k) :: news) (DrawP w news dk n) := by
  refine CC.mk ?_; k_fill; intro p loose mean mg mb dp un gd cn cs a ccd cl outer A₀ base h₀ L m s Q E B F X N T9 hk hdp hun hret
  have hMk : KstMark := kstMark
  k_with_none
  k_with "m_allIn" => first | exact List.forall_mem_nil _ | (refine sub_cons (by k_memK) ?_; k_extra "m_allIn") | (intro p9 h9; kst_mem)
  k_with "m_ra" => first | assumption | exact And.right (by first | assumption | exact And.right (by first | assumption | exact And.right (by first | assumption | exact And.right (by first | assumption | exact And.right (by first | assumption | exact And.right (by first | assumption | exact And.right (by first | assumption | exact And.right (by assumption))))))))
  k_with "m_and" => first | k_extra "m_ra" | exact And.left (by k_extra "m_ra")
  k_with "m_neA" => first | k_extra "m_and" | (refine Ne.symm ?_; k_extra "m_and") | (refine Nat.ne_of_lt ?_; k_extra "m_and") | (refine Nat.ne_of_gt ?_; k_extra "m_and") | (refine Nat.ne_of_lt (Nat.lt_succ_of_lt ?_); k_extra "m_and")
  k_with "m_lt" => first | assumption | exact allLt_of (by assumption) | k_extra "m_and"
  k_with "kst_in" => (try dsimp only); with_unfolding_all ((try simp only [List.nil_append, List.cons_append]); k_extra "m_allIn")
  k_with "k_ne" => refine neN ?_; (try dsimp only); first | (with_reducible assumption) | (with_reducible exact Ne.symm (by assumption)) | (with_reducible exact Nat.ne_of_lt (by assumption)) | (with_reducible exact Nat.ne_of_gt (by assumption)) | with_reducible k_extra "m_neA" | k_extra "m_neA" | omega
  k_with "k_all" => first | exact List.forall_mem_nil _ | assumption | exact lt_ne (by assumption) | exact lt_ne (by k_extra "m_lt") | exact lt_ne1 (by k_extra "m_lt") | (refine ne_cons ?_ ?_; (focus k_ne); k_all) | (refine List.forall_mem_cons.mpr (And.intro ?_ ?_); (focus k_ne); k_all)
  k_with "k_in" => (rename Fr _ _ _ _ => lF8); (rename Frag.In _ _ => lX8); exact Frag.In.keeps lX8 (Fr.keep lF8)
  k_with "ktr_room" => k_dflt (first | exact rmA (by assumption) (by exact rfl) | exact rmB (by assumption))
  k_with "ktr_units" => k_dflt (first | exact unA (by assumption) (by exact rfl) | exact unC (by assumption) (by exact rfl))
  k_with "MPost" => dsimp only [MPost]
  k_with "execs cons" => with_reducible refine gen_tok ?_; intro tk9
  k_with "m_for" => k_here; (rename Fr _ _ _ _ => lF'); k_dflt (refine' For_invVF ?zF ?zk1 ?zk2 ?_ ?zs ?ze; (case zF => exact lF'); (case zk1 => exact rfl); (case zk2 => exact rfl); (case zs => (intro _; rfl)); (case ze => passes_own); k_whole)
  k_with "exec For Name Name cons nil" => k_extra "m_for"
  k_with "exec For Name Subscript cons nil" => k_extra "m_for"
  k_with "exec For Name Call cons nil" => k_extra "m_for"
  k_with "exec For Name Attribute cons nil" => k_extra "m_for"
  k_with "exec For Name Tuple cons nil" => k_extra "m_for"
  k_with "compareOp NotEq ref ref" => k_here; (with_reducible show wpAny _ _ (compareOp CmpOp.NotEq (Value.ref _) (Value.ref _)) _ _ _); k_dflt (first | refine ke_ne_ints (by is_list) (by is_list) (by l_ints) (by l_ints) (by ktr_units) ?_ | ((refine ne_dataH (by ke_read) (by ke_read) (by ke_shaped) (by ke_shaped) (by ktr_units) ?_); ke_norm))
  k_with "compareOp Eq ref ref" => k_here; (with_reducible show wpAny _ _ (compareOp CmpOp.Eq (Value.ref _) (Value.ref _)) _ _ _); k_dflt (first | refine ke_eq_ints (by is_list) (by is_list) (by l_ints) (by l_ints) (by ktr_units) ?_ | ((refine eq_dataH (by ke_read) (by ke_read) (by ke_shaped) (by ke_shaped) (by ktr_units) ?_); ke_norm))
  w_top off
  k_with "subscriptTail Name Constant ref str" =>
    rename News _ _ _ _ => lN'
    k_dflt (refine' m_ditem lN' ?zm hd (strKind_is _ _ _ _) rfl ?_; (case zm => k_mem))
  k_with "call builtin:list.pop cons nil" =>
    rename Fr _ _ _ _ => lF'
    rename News _ _ _ _ => lN'
    obtain ⟨c9, t9, ys9, vs9, rfl, rfl, hi9⟩ := ints_cons hi (by assumption)
    have hv9 : vs9.length < 63 := by simp only [List.length_cons] at hv; omega
    k_dflt (have lN2 : News _ _ _ ((dk, od) :: (dl, listOf (Value.int c9 t9 :: vs9).toArray k) :: news) := kst_newsOf lN' (by kst_in))
    k_dflt (refine' m_pop0 lF' lN2 ?yU ?yz ?_; (case yU => k_updF); (case yz => omega))
    clear lF' lN' lN2
    intro h' F' N'; (try dsimp only at N'); (try k_sweep)
  k_with "setItem ref str int" =>
    rename Fr _ _ _ _ => lF'
    rename News _ _ _ _ => lN'
    k_dflt (have lN2 : News _ _ _ ((dk, od) :: (dl, listOf vs.toArray k) :: news) := kst_newsOf lN' (by kst_in))
    k_dflt (refine' m_setItemU lF' lN2 ?yU hd (strKind_is _ _ _ _) ?yz ?_; (case yU => k_updF); (case yz => exact Nat.le_of_ble_eq_true rfl))
    clear lF' lN' lN2
    intro h' o' tk' F' N' hd'
    k_dflt (have hd2 : o'.IsDictOf (strKind PG w) [(Str.ofString "left", .ref dl), (Str.ofString "mixed", .int ((x * 4801 + 1).fmod 1000003) _)] := hd')
    (try dsimp only at N'); (try k_sweep)
  k_with "subscriptTail Name Constant ref str" =>
    rename News _ _ _ _ => lN'
    k_dflt (refine' m_ditem lN' ?zm hd2 (strKind_is _ _ _ _) rfl ?_; (case zm => k_mem))
  refine wpAny_call ?_
  (k_dflt (refine' code_def ?k1 ?k2 ?k3 ?k4 ?k5 ?kA ?kF ?kK ?k6 ?k7 ?k8 ?k9 ?kB ?_ ?c2 ?c3 ?c4 ?c5; (case kA => exact rfl); (case kF => exact rfl); (case kK => assumption); (case k1 => k_asm); (case k2 => k_asm); (case k3 => k_asm); (case k4 => k_asm); (case k5 => k_asm); (case k6 => k_is); (case k7 => k_is); (case k8 => ktr_room); (case k9 => first | exact BindsTo.of_eq rfl | exact binds_K (by k_in) rfl (by k_is) rfl rfl rfl); (case c5 => decide); (case kB => exact locs rfl); (case c2 => exact rfl); (case c3 => exact rfl); (case c4 => exact rfl); k_whole; intro g' L' h' FG' F' N' B' X' T'; (try dsimp only); (try k_lift B'); (try k_fold)))
  k_steps
  all_goals (rename Fr _ _ _ _ => lF'; rename News _ _ _ _ => lN')
  · exact draw_end hret lF' lN' (by kst_in) lo hd2 hi hv n1 n2 n3 hn
  · exact draw_end hret lF' lN' (by kst_in) lo hd hi9 (by omega) n1 n2 n3 hn
end
section
structure OtS where
  fa : Nat
  fvs : List Value
  fcs : List Int
  fn : Nat
  dl : Nat
  kk : Nat
  od : Obj
  dvs : List Value
  dys : List Int
  x : Int
  t : Tok
theorem ot_le {a b i n : Nat} (h1 : a = b) (h2 : b ≤ 2 * i) (h3 : i < n) (h4 : n < 20) : a ≤ 10000 := by omega
theorem ot_le2 {a b c e i n : Nat} (h1 : a = b) (h2 : b ≤ 2 * i) (h3 : i < n) (h4 : n < 20) (hc : c = e) (he : e ≤ 2) : a + c ≤ 10000 := by omega
inductive OtI (w : World) (news : Led) (dk : Nat) (i : Nat) (c : OtS) : Prop
  | mk  (q1 : (IntsAre c.fvs c.fcs ∧ (∀ z ∈ c.fcs, z ∈ AL) ∧ c.fcs.length ≤ 2 * i ∧ AllLt c.fa news)) (q2 : c.od.IsDictOf (strKind PG w) [(Str.ofString "left", .ref c.dl), (Str.ofString "mixed", .int c.x c.t)]) (q3 : IntsAre c.dvs c.dys) (q4 : c.dvs.length < 64) (q5 : (∀ p ∈ (c.fa, listOf c.fvs.toArray c.fn) :: news, p.1 ≠ dk)) (q6 : (∀ p ∈ (c.fa, listOf c.fvs.toArray c.fn) :: news, p.1 ≠ c.dl)) (q7 : @Ne Nat dk c.dl) : OtI w news dk i c
abbrev OtL (news : Led) (dk : Nat) (c : OtS) : Led := (c.fa, listOf c.fvs.toArray c.fn) :: (dk, c.od) :: (c.dl, listOf c.dvs.toArray c.kk) :: news
inductive OthP (w : World) (news : Led) (dk : Nat) (b : Nat) (news' : Led) (y : Value) : Prop
  | mk (fa fn : Nat) (fvs : List Value) (fcs : List Int) (q1 : .ref fa = y) (q2 : IntsAre fvs fcs) (q3 : (∀ z ∈ fcs, z ∈ AL)) (q4 : fcs.length ≤ b) (q5 : AllLt fa news) (q6 : DeckAt w ((fa, listOf fvs.toArray fn) :: news) news' dk) : OthP w news dk b news' y
theorem OthP.go {wz : World} {fz : Addr} {vz : List Value} {kz : Nat} {ledz : Led} {w : World} {news : Led} {dk b : Nat} (Cz : CC wz fz vz kz ledz (OthP w news dk b))
  {pz : Program} {lz : List Str} {mnz : ExcName → Option Value} {mgz mbz : Str → Option Value} {dpz unz : Nat} {gdz : Option (List Code)} {cnz : Str} {csz : Scope} {az : Addr} {cdz : Value} {clz : List (Str × Addr)} {otz : List Env} {A₀ : Around} {basez h₀ : Heap} {Lz : Addr} {mz : Str → Option Value} {sz : Shared} {Qz Ez : Value → Shared → Prop}
  (ret : ∀ (fa fn : Nat) (fvs : List Value) (fcs : List Int) (dl k : Nat) (od : Obj) (vs : List Value) (ys : List Int) (x : Int) (t : Tok) (hz : Heap) (tkz : Nat), Fr h₀ Lz hz mz → News h₀ Lz hz ((dk, od) :: (dl, listOf vs.toArray k) :: (fa, listOf fvs.toArray fn) :: news) → IntsAre fvs fcs → (∀ z ∈ fcs, z ∈ AL) → fcs.length ≤ b → AllLt fa news → (dk == sysModules) = false → od.IsDictOf (strKind PG w) [(Str.ofString "left", .ref dl), (Str.ofString "mixed", .int x t)] → IntsAre vs ys → vs.length < 64 → (∀ p ∈ (fa, listOf fvs.toArray fn) :: news, p.1 ≠ dk) → (∀ p ∈ (fa, listOf fvs.toArray fn) :: news, p.1 ≠ dl) → @Ne Nat dk dl → Qz (.ref fa) { sz with heap := hz, toks := tkz })
  (F : Fr h₀ Lz sz.heap mz) (N : News h₀ Lz sz.heap ledz) (B : Below A₀ basez otz h₀) (X : (hd.heap_1_39 wz.params).In h₀) (T : Top pz lz mnz mgz mbz h₀) (hk : csz.kind = .function)
  (hd : dpz + kz < recursionLimit) (hu : unz + 8 * kz < cLine) :
    wpAny (model PySem.Challenge.rw_on0371_01.prog wz) (ktrTop dpz unz gdz cnz csz Lz az cdz clz otz) (call (.ref fz) vz) Qz Ez sz := by
  refine cc_go Cz (fun v news9 h9 tk9 F9 N9 P9 => ?_) F N B X T hk hd hu
  obtain ⟨fa, fn, fvs, fcs, rfl, a1, a2, a3, a4, dl, k, od, vs, ys, x, t, rfl, q2, q3, q4, q5, q6, q7, q8⟩ := P9
  exact ret fa fn fvs fcs dl k od vs ys x t h9 tk9 F9 N9 a1 a2 a3 a4 q2 q3 q4 q5 q6 q7 q8
section
variable {w : World} {A : Around} {E : Value → Shared → Prop} {s : Shared} {h₀ : Heap} {L r a b : Addr} {news : Led} {o : Obj} {t : Tok} {x : Int}
theorem prt_has (x : Int) (a b : Value) : (valueAt [((233 : Int), a), (201, b)] x).isSome = decide (x = 233 ∨ x = 201) := by
  by_cases h1 : x = 233
  · subst h1; rfl
  · by_cases h2 : x = 201
    · subst h2; rfl
    · have e1 : ¬ (233 : Int) = x := fun e => h1 e.symm
      have e2 : ¬ (201 : Int) = x := fun e => h2 e.symm
      simp [valueAt, e1, e2, h1, h2]
theorem m_pin {Q : Value → Shared → Prop} (N : News h₀ L s.heap news) (hm : (r, o) ∈ news) (lo : (r == sysModules) = false) (hd : o.IsDictOf (intKind PG w) [(233, .ref a), (201, .ref b)])
    (h : Q (.bool (decide (x = 233 ∨ x = 201))) { s with toks := s.toks + 1 }) : wpAny (model PG w) A (compareOp .In (.int x t) (.ref r)) Q E s :=
  m_in N hm lo hd (intKind_is _ _ _ _) (prt_has _ _ _) h
theorem m_pgetI {t3 t4 t5 t6 : Tok} {n1 n2 : Nat} {Q : Value → Shared → Prop} (N : News h₀ L s.heap news) (hm : (r, o) ∈ news) (hd : o.IsDictOf (intKind PG w) [(233, .ref a), (201, .ref b)])
    (ha : (a, tupO (List.toArray [.int 101 t3, .int 769 t4]) n1) ∈ news) (hb : (b, tupO (List.toArray [.int 69 t5, .int 769 t6]) n2) ∈ news) (hx : x = 233 ∨ x = 201)
    (h : ∀ ag tsg mg lg, (ag, tupO (List.toArray tsg) mg) ∈ news → IntsAre tsg lg → (∀ z ∈ lg, z ∈ AL) → lg.length ≤ 2 → Q (.ref ag) { s with toks := s.toks + 1 }) : wpAny (model PG w) A (getItem (.ref r) (.int x t)) Q E s := by
  have hmp := m_map N hm hd
  rcases hx with rfl | rfl
  · exact wpAny_getItem_of (intKind_is _ _ _ _) hmp rfl (h a _ _ [101, 769] ha (.cons _ _ (.cons _ _ .nil)) (by decide) (by decide))
  · exact wpAny_getItem_of (intKind_is _ _ _ _) hmp rfl (h b _ _ [69, 769] hb (.cons _ _ (.cons _ _ .nil)) (by decide) (by decide))
theorem told_fin {t' : Tok} {ts : List Value} (hx : x ∈ AL) (h : (∃ l, told x = some l ∧ IntsAre ts l) ∨ (told x = none ∧ ts = .int x t :: [.int 173 t'])) : ∃ lg, IntsAre ts lg ∧ (∀ z ∈ lg, z ∈ AL) ∧ lg.length ≤ 2 := by
  rcases h with ⟨l, e, hi⟩ | ⟨e, rfl⟩
  · refine ⟨l, hi, ?_⟩
    have h1 : ∀ y ∈ AL, ∀ l, told y = some l → (∀ z ∈ l, z ∈ AL) ∧ l.length ≤ 2 := by
      intro y hy
      simp only [AL, List.mem_cons, List.not_mem_nil, or_false] at hy
      rcases hy with rfl | rfl | rfl | rfl | rfl | rfl | rfl | rfl | rfl | rfl | rfl | rfl | rfl | rfl <;> (intro l e; simp only [told] at e; first | (cases e; decide) | (cases e))
    exact h1 x hx l e
  · refine ⟨[x, 173], .cons _ _ (.cons _ _ .nil), fun z hz => ?_, Nat.le_refl _⟩
    rcases List.mem_cons.mp hz with rfl | hz
    · exact hx
    · rw [List.mem_singleton.mp hz]; decide
end
theorem ot_ext {w : World} {news : Led} {dk fa fn fn' dl kk i : Nat} {fvs dvs tsg : List Value} {fcs dys lg : List Int} {od : Obj} {x : Int} {t : Tok} (p1 : IntsAre fvs fcs) (p2 : ∀ z ∈ fcs, z ∈ AL) (p3 : fcs.length ≤ 2 * i) (p4 : AllLt fa news)
    (hd : od.IsDictOf (strKind PG w) [(Str.ofString "left", .ref dl), (Str.ofString "mixed", .int x t)]) (hid : IntsAre dvs dys) (hv : dvs.length < 64) (m1 : ∀ p ∈ (fa, listOf fvs.toArray fn) :: news, p.1 ≠ dk) (m2 : ∀ p ∈ (fa, listOf fvs.toArray fn) :: news, p.1 ≠ dl) (m3 : @Ne Nat dk dl)
    (hg : IntsAre tsg lg) (hA : ∀ z ∈ lg, z ∈ AL) (h2 : lg.length ≤ 2) : OtI w news dk (i + 1) ⟨fa, fvs ++ tsg, fcs ++ lg, fn', dl, kk, od, dvs, dys, x, t⟩ := by
  refine ⟨⟨IntsAre.append p1 hg, fun z hz => ?_, by dsimp only; rw [List.length_append]; omega, p4⟩, hd, hid, hv, List.forall_mem_cons.mpr ⟨(List.forall_mem_cons.mp m1).1, (List.forall_mem_cons.mp m1).2⟩, List.forall_mem_cons.mpr ⟨(List.forall_mem_cons.mp m2).1, (List.forall_mem_cons.mp m2).2⟩, m3⟩
  rcases List.mem_append.mp hz with hz | hz
  · exact p2 z hz
  · exact hA z hz
set_option maxRecDepth 100000 in
set_option maxHeartbeats 8000000 in
theorem c_other {w : World} {news : Led} {dk dl k l k2 : Nat} {od : Obj} {dvs vs : List Value} {dys xs : List Int} {x : Int} {t : Tok} (lo : (dk == sysModules) = false) (hd : od.IsDictOf (strKind PG w) [(Str.ofString "left", .ref dl), (Str.ofString "mixed", .int x t)]) (hid : IntsAre dvs dys) (hv : dvs.length < 64) (n1 : ∀ p ∈ news, p.1 ≠ dk) (n2 : ∀ p ∈ news, p.1 ≠ dl) (n3 : @Ne Nat dk dl)
    (hl : (l, listOf vs.toArray k2) ∈ news) (hi : IntsAre vs xs) (hx : ∀ x ∈ xs, x ∈ AL) (h6 : xs.length < 20) :
    CC w 407 [.ref dk, .ref l] 40 ((dk, od) :: (dl, listOf dvs.toArray k) :: news) (OthP w news dk (2 * xs.length)) := by
  refine CC.mk ?_; k_fill; intro p loose mean mg mb dp un gd cn cs a ccd cl outer A₀ base h₀ L m s Q E B F X N T9 hk hdp hun hret
  have hMk : KstMark := kstMark
  k_with_none
  k_with "m_allIn" => first | exact List.forall_mem_nil _ | (refine sub_cons (by k_memK) ?_; k_extra "m_allIn") | (intro p9 h9; kst_mem)
  k_with "m_ra" => first | assumption | exact And.right (by first | assumption | exact And.right (by first | assumption | exact And.right (by first | assumption | exact And.right (by first | assumption | exact And.right (by first | assumption | exact And.right (by first | assumption | exact And.right (by first | assumption | exact And.right (by assumption))))))))
  k_with "m_and" => first | k_extra "m_ra" | exact And.left (by k_extra "m_ra")
  k_with "m_neA" => first | k_extra "m_and" | (refine Ne.symm ?_; k_extra "m_and") | (refine Nat.ne_of_lt ?_; k_extra "m_and") | (refine Nat.ne_of_gt ?_; k_extra "m_and") | (refine Nat.ne_of_lt (Nat.lt_succ_of_lt ?_); k_extra "m_and")
  k_with "m_lt" => first | assumption | exact allLt_of (by assumption) | k_extra "m_and"
  k_with "kst_in" => (try dsimp only); with_unfolding_all ((try simp only [List.nil_append, List.cons_append]); k_extra "m_allIn")
  k_with "k_ne" => refine neN ?_; (try dsimp only); first | (with_reducible assumption) | (with_reducible exact Ne.symm (by assumption)) | (with_reducible exact Nat.ne_of_lt (by assumption)) | (with_reducible exact Nat.ne_of_gt (by assumption)) | with_reducible k_extra "m_neA" | k_extra "m_neA" | omega
  k_with "k_all" => first | exact List.forall_mem_nil _ | assumption | exact lt_ne (by assumption) | exact lt_ne (by k_extra "m_lt") | exact lt_ne1 (by k_extra "m_lt") | (refine ne_cons ?_ ?_; (focus k_ne); k_all) | (refine List.forall_mem_cons.mpr (And.intro ?_ ?_); (focus k_ne); k_all)
  k_with "k_in" => (rename Fr _ _ _ _ => lF8); (rename Frag.In _ _ => lX8); exact Frag.In.keeps lX8 (Fr.keep lF8)
  k_with "ktr_room" => k_dflt (first | exact rmA (by assumption) (by exact rfl) | exact rmB (by assumption))
  k_with "ktr_units" => k_dflt (first | exact unA (by assumption) (by exact rfl) | exact unC (by assumption) (by exact rfl))
  k_with "MPost" => dsimp only [MPost]
  k_with "execs cons" => with_reducible refine gen_tok ?_; intro tk9
  k_with "m_for" => k_here; (rename Fr _ _ _ _ => lF'); k_dflt (refine' For_invVF ?zF ?zk1 ?zk2 ?_ ?zs ?ze; (case zF => exact lF'); (case zk1 => exact rfl); (case zk2 => exact rfl); (case zs => (intro _; rfl)); (case ze => passes_own); k_whole)
  k_with "exec For Name Name cons nil" => k_extra "m_for"
  k_with "exec For Name Subscript cons nil" => k_extra "m_for"
  k_with "exec For Name Call cons nil" => k_extra "m_for"
  k_with "exec For Name Attribute cons nil" => k_extra "m_for"
  k_with "exec For Name Tuple cons nil" => k_extra "m_for"
  k_with "compareOp NotEq ref ref" => k_here; (with_reducible show wpAny _ _ (compareOp CmpOp.NotEq (Value.ref _) (Value.ref _)) _ _ _); k_dflt (first | refine ke_ne_ints (by is_list) (by is_list) (by l_ints) (by l_ints) (by ktr_units) ?_ | ((refine ne_dataH (by ke_read) (by ke_read) (by ke_shaped) (by ke_shaped) (by ktr_units) ?_); ke_norm))
  k_with "compareOp Eq ref ref" => k_here; (with_reducible show wpAny _ _ (compareOp CmpOp.Eq (Value.ref _) (Value.ref _)) _ _ _); k_dflt (first | refine ke_eq_ints (by is_list) (by is_list) (by l_ints) (by l_ints) (by ktr_units) ?_ | ((refine eq_dataH (by ke_read) (by ke_read) (by ke_shaped) (by ke_shaped) (by ktr_units) ?_); ke_norm))
  w_top off
  k_with "m_allQ" => (repeat (first | exact List.forall_mem_nil _ | (with_reducible assumption) | (with_reducible exact lt_ne (by assumption)) | (refine ne_cons ?_ ?_; (focus (first | walk_at "m_neQ" | k_ne)))))
  k_with "m_neQ" => (refine neN ?_; (try dsimp only); first | (with_reducible assumption) | (with_reducible exact Ne.symm (by assumption)) | (with_reducible exact Nat.ne_of_lt (by assumption)) | (with_reducible exact Nat.ne_of_gt (by assumption)))
  k_with "pyIter ref" =>
    rename Fr _ _ _ _ => lF'
    rename News _ _ _ _ => lN'
    with_unfolding_all refine' mfor (σ := OtS) (l := l) (vs := vs.toArray) (nn := k2) (OtL news dk) (fun c => [(Str.ofString "found", .ref c.fa)]) [] (OtI w news dk) ⟨_, [], [], 0, dl, k, od, dvs, dys, x, t⟩ rfl (fun c => .tail _ (.tail _ (.tail _ hl))) lF' (kst_newsOf lN' ?sub) ?kk ?pp ?_ ?_
    (case kk => kst_all)
    (case sub => dsimp only [OtL]; kst_in)
    (case pp => k_dflt exact ⟨⟨.nil, (fun _ h => nomatch h), Nat.le_refl _, by walk_at "m_lt"⟩, hd, hid, hv, List.forall_mem_cons.mpr ⟨by k_ne, n1⟩, List.forall_mem_cons.mpr ⟨by k_ne, n2⟩, n3⟩)
    clear lF' lN'
    rintro I9 oI9 ⟨fa, fvs, fcs, fn, dl, kk, od, dvs, dys, x, t⟩ i9 v9 u9 h9 tk9 hv9 hP9 hne9 F9 N9
    k_dflt (obtain ⟨⟨p1, p2, p3, p4⟩, hd, hid, hv, m1, m2, m3⟩ := hP9)
    (dsimp only [OtL] at p1 p2 p3 p4 hd hid hv m1 m2 m3 N9 F9 hne9)
    (have g9 := gnNe_of hne9); (dsimp only [GnNe] at g9); ((repeat (with_reducible rename _ ∧ _ => hs9; have hs8 := And.left hs9; have hs7 := And.right hs9; clear hs9)))
    have gI9 : ∀ p ∈ news, p.1 ≠ I9 := fun p hp => hne9 p (by simp [hp])
    obtain ⟨x9, t9, rfl, hx9⟩ := IntsAre.at hi i9 v9 (by simpa using hv9)
    have hxA := hx x9 (List.mem_of_getElem? hx9)
    have hil : i9 < xs.length := (List.getElem?_eq_some_iff.mp hx9).1
    have hlen9 := p1.length
    (try k_fold)
    rotate_left 1
    rintro ⟨fa, fvs, fcs, fn, dl, kk, od, dvs, dys, x, t⟩ u9 h9 tk9 hP9 F9 N9
    k_dflt (obtain ⟨⟨p1, p2, p3, p4⟩, hd, hid, hv, m1, m2, m3⟩ := hP9)
    (dsimp only [OtL] at p1 p2 p3 p4 hd hid hv m1 m2 m3 N9 F9)
    have hbx : fcs.length ≤ 2 * xs.length := by have := hi.length; simp at p3; omega
    (try k_fold)
    rotate_left 1
  k_with "call ref cons nil" =>
    with_reducible show wpAny _ _ (call (Value.ref 374) [_, _]) _ _ _
    rename News _ _ _ _ => lN'
    have hI9k : @Ne Nat I9 dk := by k_ne
    have hI9l : @Ne Nat I9 dl := by k_ne
    refine' DrawP.go (c_draw (news := (I9, oI9) :: (fa, listOf fvs.toArray fn) :: news) lo hd hid hv (List.forall_mem_cons.mpr ⟨hI9k, m1⟩) (List.forall_mem_cons.mpr ⟨hI9l, m2⟩) m3 (by decide)) ?_ (by k_asm) (kst_newsOf lN' ?zsub) (by k_asm) (by k_asm) (by k_asm) (by first | exact rfl | assumption) (by ktr_room) (by ktr_units)
    (case zsub => kst_in)
    clear lN' hI9k hI9l
    rintro r9 tr9 dl kk od dvs dys x t h9' tk9' F9' N9' hr1 hr2 lo' hd hid hv q1 q2 m3
    have hI9k : @Ne Nat I9 dk := q1 (I9, oI9) (.head _)
    have hI9l : @Ne Nat I9 dl := q2 (I9, oI9) (.head _)
    have m1 := (List.forall_mem_cons.mp q1).2
    have m2 := (List.forall_mem_cons.mp q2).2
    (try dsimp only); (try k_sweep); (try k_fold)
  k_with "call ref nil" =>
    k_dflt show wpAny _ _ (call (Value.ref _) []) _ _ _
    with_reducible show wpAny _ _ (call (Value.ref 355) []) _ _ _
    refine PrtP.go c_lprt ?_ (by k_asm) (by k_asm) (by k_asm) (by k_asm) (by k_asm) (by first | exact rfl | assumption) (by ktr_room) (by ktr_units)
    rintro rp ap bp op tp3 tp4 tp5 tp6 h9' tk9' F9' N9' lop gp na nb nab nr
    (try dsimp only); (try k_sweep); (try k_fold)
  k_with "call ref nil" =>
    k_dflt show wpAny _ _ (call (Value.ref _) []) _ _ _
    with_reducible show wpAny _ _ (call (Value.ref 362) []) _ _ _
    refine ToldP.go c_ltold ?_ (by k_asm) (by k_asm) (by k_asm) (by k_asm) (by k_asm) (by first | exact rfl | assumption) (by ktr_room) (by ktr_units)
    rintro rt a1 a2 a3 a4 a5 a6 ot x1 x2 x3 x4 x5 x6 h9' tk9' F9' N9' lot gt na1 na2 na3 na4 na5 na6 nrt
    (try dsimp only); (try k_sweep); (try k_fold)
  k_with "compareOp In int ref" =>
    rename News _ _ _ _ => lN'
    k_dflt (refine' m_pin lN' ?zm lop gp ?_; (case zm => k_mem))
  k_with "getItem ref int" =>
    rename News _ _ _ _ => lN'
    k_dflt (refine' m_pgetI lN' ?zm gp ?za ?zb ?zx ?_; (case zm => k_mem); (case za => k_mem); (case zb => k_mem); (case zx => first | assumption | exact of_decide_eq_true (by assumption)))
    intro ag tsg mg9 lg hmg hgt hgA hg2
    k_dflt (have hgf := tup_ne_list lN' hmg (b := fa) (vs := fvs.toArray) (n := fn) (by k_mem))
    k_dflt (have lN3 : News _ _ _ ((I9, oI9) :: (fa, listOf fvs.toArray fn) :: (ag, tupO (List.toArray tsg) mg9) :: (dk, od) :: (dl, listOf dvs.toArray kk) :: news) := kst_newsOf lN' (List.forall_mem_cons.mpr ⟨by k_mem, List.forall_mem_cons.mpr ⟨by k_mem, List.forall_mem_cons.mpr ⟨hmg, by kst_in⟩⟩⟩))
    clear lN' hmg
  k_with "newTuple cons int cons" =>
    k_dflt (refine' kup_newTuple ?yF ?yN ?_ ?yz; (case yF => k_asm); (case yN => k_asm); (case yz => kmk_size))
    intro DV h' F' N' l1; (try k_lt l1); (try k_sweep)
  k_with "call builtin:dict.get cons nil" =>
    rename News _ _ _ _ => lN'
    k_dflt (obtain ⟨ag, tsg, mg9, eg, hmg, htg⟩ := toldGetN (x := x9) (t := t9) (n := 0) (DV := DV) (rest := [.int 173 _]) lN' (by k_mem) (by k_mem) (by k_mem) (by k_mem) (by k_mem) (by k_mem) (by k_mem) (.inr ⟨_, rfl⟩))
    k_dflt (have hgf := tup_ne_list lN' hmg (b := fa) (vs := fvs.toArray) (n := fn) (by k_mem))
    k_dflt (have lN3 : News _ _ _ ((I9, oI9) :: (fa, listOf fvs.toArray fn) :: (ag, tupO (List.toArray tsg) mg9) :: (dk, od) :: (dl, listOf dvs.toArray kk) :: news) := kst_newsOf lN' (List.forall_mem_cons.mpr ⟨by k_mem, List.forall_mem_cons.mpr ⟨by k_mem, List.forall_mem_cons.mpr ⟨hmg, by kst_in⟩⟩⟩))
    k_dflt (refine' m_get2 lN' ?zm lot gt (intKind_is _ _ _ _) eg ?_; (case zm => k_mem))
    clear lN' hmg
    obtain ⟨lg, hgt, hgA, hg2⟩ := told_fin hxA htg
  k_with "call builtin:list.append cons nil" =>
    rename Fr _ _ _ _ => lF'
    rename News _ _ _ _ => lN'
    have e1 : @Ne Nat fa dk := m1 (fa, _) (.head _)
    have e2 : @Ne Nat fa dl := m2 (fa, _) (.head _)
    have hz8 := ot_le hlen9 p3 hil h6
    k_dflt (have lN2 : News _ _ _ ((I9, oI9) :: (fa, listOf fvs.toArray fn) :: (dk, od) :: (dl, listOf dvs.toArray kk) :: news) := kst_newsOf lN' (by kst_in))
    k_dflt (refine' m_append lF' lN2 ?yU hz8 ?_; (case yU => k_updF))
    clear lF' lN' lN2
    intro h' n' F' N'; (try dsimp only at N'); (try k_sweep)
  k_with "call builtin:list.extend cons nil" =>
    rename Fr _ _ _ _ => lF'
    rename News _ _ _ _ => lN'
    have e1 : @Ne Nat fa dk := m1 (fa, _) (.head _)
    have e2 : @Ne Nat fa dl := m2 (fa, _) (.head _)
    have hgl := hgt.length
    have hz8 := ot_le2 hlen9 p3 hil h6 hgl hg2
    k_dflt (have lN2 : News _ _ _ ((I9, oI9) :: (fa, listOf fvs.toArray fn) :: (ag, tupO (List.toArray tsg) mg9) :: (dk, od) :: (dl, listOf dvs.toArray kk) :: news) := kst_newsOf lN' (by kst_in))
    k_dflt (refine' m_extendT (vs := fvs) (us := tsg) (b := ag) lF' lN2 ?yU ?yb hz8 ?_; (case yU => k_updF); (case yb => k_mem))
    clear lF' lN' lN2
    intro h' n' F' N'; (try dsimp only at N'); (try k_sweep)
  k_with "MEnd" =>
    rename Fr _ _ _ _ => lF'
    rename News _ _ _ _ => lN'
    first
      | (k_dflt (refine' mend (⟨fa, fvs ++ tsg, fcs ++ lg, _, dl, kk, od, dvs, dys, x, t⟩ : OtS) lF' lN' ?hI ?hn ?hne ?hk ?hr ?hp); (case hn => dsimp only [OtL]; kst_in); (case hk => kst_all); (case hp => k_dflt exact ot_ext p1 p2 p3 p4 hd hid hv m1 m2 m3 hgt hgA hg2); (case hI => k_dflt k_mem); (case hne => dsimp only [OtL]; walk_at "m_allQ"); (case hr => (intro z9 g1 g2 g3; (simp only [List.forall_mem_cons, List.not_mem_nil, false_implies, implies_true, and_true, ne_eq] at g2); (simp only [List.contains_cons, List.contains_nil, Bool.or_false, Bool.or_eq_false_iff, beq_eq_false_iff_ne, ne_eq] at g3); (simp [kstB, g1, g2, g3]; done))))
      | (k_dflt (refine' mend (⟨fa, fvs ++ [.int x9 t9], fcs ++ [x9], _, dl, kk, od, dvs, dys, x, t⟩ : OtS) lF' lN' ?hI ?hn ?hne ?hk ?hr ?hp); (case hn => dsimp only [OtL]; kst_in); (case hk => kst_all); (case hp => k_dflt exact ot_ext p1 p2 p3 p4 hd hid hv m1 m2 m3 (.cons x9 t9 .nil) (fun z hz => (List.mem_singleton.mp hz).symm ▸ hxA) (Nat.le_succ 1)); (case hI => k_dflt k_mem); (case hne => dsimp only [OtL]; walk_at "m_allQ"); (case hr => (intro z9 g1 g2 g3; (simp only [List.forall_mem_cons, List.not_mem_nil, false_implies, implies_true, and_true, ne_eq] at g2); (simp only [List.contains_cons, List.contains_nil, Bool.or_false, Bool.or_eq_false_iff, beq_eq_false_iff_ne, ne_eq] at g3); (simp [kstB, g1, g2, g3]; done))))
  refine wpAny_call ?_
  (k_dflt (refine' code_def ?k1 ?k2 ?k3 ?k4 ?k5 ?kA ?kF ?kK ?k6 ?k7 ?k8 ?k9 ?kB ?_ ?c2 ?c3 ?c4 ?c5; (case kA => exact rfl); (case kF => exact rfl); (case kK => assumption); (case k1 => k_asm); (case k2 => k_asm); (case k3 => k_asm); (case k4 => k_asm); (case k5 => k_asm); (case k6 => k_is); (case k7 => k_is); (case k8 => ktr_room); (case k9 => first | exact BindsTo.of_eq rfl | exact binds_K (by k_in) rfl (by k_is) rfl rfl rfl); (case c5 => decide); (case kB => exact locs rfl); (case c2 => exact rfl); (case c3 => exact rfl); (case c4 => exact rfl); k_whole; intro g' L' h' FG' F' N' B' X' T'; (try dsimp only); (try k_lift B'); (try k_fold)))
  k_steps
  rename Fr _ _ _ _ => lF'
  rename News _ _ _ _ => lN'
  exact hret _ _ _ _ lF' (kst_newsOf lN' (by kst_in)) ⟨fa, fn, fvs, fcs, rfl, p1, p2, hbx, p4, dl, kk, od, dvs, dys, x, t, rfl, lo, hd, hid, hv, m1, m2, m3⟩
end
section
theorem pick_take (vs : List Value) {y : Int} (h0 : 0 ≤ y) : (slicePick vs.toArray none (some y) none).toList = vs.take y.toNat := by
  obtain ⟨k, rfl⟩ := Int.eq_ofNat_of_zero_le h0
  have e : sliceBounds none (some (k : Int)) none vs.toArray.size = (((0 : Nat) : Int), ((min k vs.length : Nat) : Int), 1) := by
    simp only [sliceBounds, Option.getD_none, show (1 : Int) > 0 by decide, if_true, if_neg (Int.not_lt.mpr h0), List.size_toArray]
    congr 1
    congr 1
    rw [Int.max_eq_right (Int.le_min.mpr ⟨h0, Int.natCast_nonneg _⟩)]
    rcases Nat.le_total k vs.length with q | q
    · rw [Nat.min_eq_left q, Int.min_eq_left (Int.ofNat_le.mpr q)]
    · rw [Nat.min_eq_right q, Int.min_eq_right (Int.ofNat_le.mpr q)]
  rw [kmk_pick_nat _ e]
  simp
theorem ints_take {vs : List Value} {ns : List Int} (h : IntsAre vs ns) : ∀ k, IntsAre (vs.take k) (ns.take k) := by
  induction h with
  | nil => intro k; simp only [List.take_nil]; exact .nil
  | cons x t h ih =>
    intro k
    cases k with
    | zero => exact .nil
    | succ k => exact .cons x t (ih k)
theorem m_mapRest {prog : Program} {w : World} {A : Around} {h₀ : Heap} {L : Addr} {m : Str → Option Value} {env : Env} {elt : Expr} {x : Str} {scope : Scope} {cl : List (Str × Addr)} {s : Shared} {S : List (Addr × Obj) → Prop} {P : Nat → Value → Prop} {Fin : List Value → List (Addr × Obj) → Prop} {news : List (Addr × Obj)}
    (Inv : Led → Prop) (Good : Int → Prop) (n : Nat)
    (fin : ∀ ys cs nx, IntsAre ys cs → cs.length = n → (∀ c ∈ cs, Good c) → Inv nx → Fin ys nx)
    (turn : ∀ (i : Nat) (v : Value) (ys : List Value) (R : Value → Led → Prop) (nx : Led) I oI C oC D m₂ h tk (E' : Value → Shared → Prop), i < n → P i v → Inv nx → (∀ c t' nx', Good c → Inv nx' → R (.int c t') nx') → LCg.NsObj oC m₂ → m₂ x = some v → Fr h₀ L h m → News h₀ L h ((I, oI) :: (C, oC) :: (D, LCg.lst ys) :: nx) → LCg.Off3 I C D nx → ((@Ne Nat I C) ∧ (@Ne Nat I D) ∧ (@Ne Nat C D)) →
      wpAny (model prog w) A (eval elt (compEnvC scope cl C env)) (LCg.CompEnd h₀ L m { s with heap := h, toks := tk } I oI C oC D (LCg.lst ys) S R) E' { s with heap := h, toks := tk })
    (h0 : Inv news) : LCg.CompRest prog w A h₀ L m env elt x scope cl s S P Fin n 0 [] news := by
  have key : ∀ (j i : Nat) (ys : List Value) (cs : List Int) (nx : Led), i + j = n → IntsAre ys cs → cs.length = i → (∀ c ∈ cs, Good c) → Inv nx → LCg.CompRest prog w A h₀ L m env elt x scope cl s S P Fin j i ys nx := by
    intro j
    induction j with
    | zero =>
      intro i ys cs nx hj hy hl hg hI
      exact fin ys cs nx hy (by omega) hg hI
    | succ j ih =>
      intro i ys cs nx hj hy hl hg hI
      refine LCg.CompRest.succ fun v I oI C oC D m₂ h tk E' hv hC hx F N off ne => ?_
      refine turn i v ys _ nx I oI C oC D m₂ h tk E' (by omega) hv hI (fun c t' nx' hc hI' => ?_) hC hx F N off ne
      refine ih (i + 1) _ (cs ++ [c]) nx' (by omega) (IntsAre.append hy (.cons c t' .nil)) (by rw [List.length_append, hl]; rfl) (fun z hz => ?_) hI'
      rcases List.mem_append.mp hz with hz | hz
      · exact hg z hz
      · rw [List.mem_singleton.mp hz]; exact hc
  exact key n 0 [] [] news (by omega) .nil rfl (fun _ h => nomatch h) h0
end
section
structure CCH (P : Heap → Prop) (w : World) (f : Addr) (vs : List Value) (k : Nat) (news : Led) (Post : Led → Value → Prop) : Prop where
  go : ∀ {p : Program} {loose : List Str} {mean : ExcName → Option Value} {mg mb : Str → Option Value} {dp un : Nat} {gd : Option (List Code)} {cn : Str} {cs : Scope} {a : Addr} {ccd : Value} {cl : List (Str × Addr)} {outer : List Env} {A₀ : Around} {base h₀ : Heap} {L : Addr} {m : Str → Option Value} {s : Shared} {Q E : Value → Shared → Prop},
    P h₀ → Below A₀ base outer h₀ → Fr h₀ L s.heap m → (hd.heap_1_39 w.params).In h₀ → News h₀ L s.heap news → Top p loose mean mg mb h₀ → cs.kind = .function →
    dp + k < recursionLimit → un + 8 * k < cLine →
    (∀ (v : Value) (news' : Led) (h' : Heap) (tk' : Nat), Fr h₀ L h' m → News h₀ L h' news' → Post news' v → Q v { s with heap := h', toks := tk' }) →
    wpAny (model PySem.Challenge.rw_on0371_01.prog w) (ktrTop dp un gd cn cs L a ccd cl outer) (call (.ref f) vs) Q E s
set_option maxRecDepth 100000 in
set_option maxHeartbeats 8000000 in
theorem c_deck {w : World} {news : Led} {l : Nat} {vs : List Value} {xs : List Int} (hi : IntsAre vs xs) (h63 : vs.length < 64) :
    CCH (fun h => h.IsList l vs.toArray) w 367 [.ref l] 40 news (fun news' y => ∃ dk, .ref dk = y ∧ DeckAt w news news' dk) := by
  refine CCH.mk ?_; k_fill; intro p loose mean mg mb dp un gd cn cs a ccd cl outer A₀ base h₀ L m s Q E hL B F X N T9 hk hdp hun hret
  have hMk : KstMark := kstMark
  k_with_none
  k_with "m_allIn" => first | exact List.forall_mem_nil _ | (refine sub_cons (by k_memK) ?_; k_extra "m_allIn") | (intro p9 h9; kst_mem)
  k_with "m_ra" => first | assumption | exact And.right (by first | assumption | exact And.right (by first | assumption | exact And.right (by first | assumption | exact And.right (by first | assumption | exact And.right (by first | assumption | exact And.right (by first | assumption | exact And.right (by first | assumption | exact And.right (by assumption))))))))
  k_with "m_and" => first | k_extra "m_ra" | exact And.left (by k_extra "m_ra")
  k_with "m_neA" => first | k_extra "m_and" | (refine Ne.symm ?_; k_extra "m_and") | (refine Nat.ne_of_lt ?_; k_extra "m_and") | (refine Nat.ne_of_gt ?_; k_extra "m_and") | (refine Nat.ne_of_lt (Nat.lt_succ_of_lt ?_); k_extra "m_and")
  k_with "m_lt" => first | assumption | exact allLt_of (by assumption) | k_extra "m_and"
  k_with "kst_in" => (try dsimp only); with_unfolding_all ((try simp only [List.nil_append, List.cons_append]); k_extra "m_allIn")
  k_with "k_ne" => refine neN ?_; (try dsimp only); first | (with_reducible assumption) | (with_reducible exact Ne.symm (by assumption)) | (with_reducible exact Nat.ne_of_lt (by assumption)) | (with_reducible exact Nat.ne_of_gt (by assumption)) | with_reducible k_extra "m_neA" | k_extra "m_neA" | omega
  k_with "k_all" => first | exact List.forall_mem_nil _ | assumption | exact lt_ne (by assumption) | exact lt_ne (by k_extra "m_lt") | exact lt_ne1 (by k_extra "m_lt") | (refine ne_cons ?_ ?_; (focus k_ne); k_all) | (refine List.forall_mem_cons.mpr (And.intro ?_ ?_); (focus k_ne); k_all)
  k_with "k_in" => (rename Fr _ _ _ _ => lF8); (rename Frag.In _ _ => lX8); exact Frag.In.keeps lX8 (Fr.keep lF8)
  k_with "ktr_room" => k_dflt (first | exact rmA (by assumption) (by exact rfl) | exact rmB (by assumption))
  k_with "ktr_units" => k_dflt (first | exact unA (by assumption) (by exact rfl) | exact unC (by assumption) (by exact rfl))
  k_with "MPost" => dsimp only [MPost]
  k_with "execs cons" => with_reducible refine gen_tok ?_; intro tk9
  k_with "m_for" => k_here; (rename Fr _ _ _ _ => lF'); k_dflt (refine' For_invVF ?zF ?zk1 ?zk2 ?_ ?zs ?ze; (case zF => exact lF'); (case zk1 => exact rfl); (case zk2 => exact rfl); (case zs => (intro _; rfl)); (case ze => passes_own); k_whole)
  k_with "exec For Name Name cons nil" => k_extra "m_for"
  k_with "exec For Name Subscript cons nil" => k_extra "m_for"
  k_with "exec For Name Call cons nil" => k_extra "m_for"
  k_with "exec For Name Attribute cons nil" => k_extra "m_for"
  k_with "exec For Name Tuple cons nil" => k_extra "m_for"
  k_with "compareOp NotEq ref ref" => k_here; (with_reducible show wpAny _ _ (compareOp CmpOp.NotEq (Value.ref _) (Value.ref _)) _ _ _); k_dflt (first | refine ke_ne_ints (by is_list) (by is_list) (by l_ints) (by l_ints) (by ktr_units) ?_ | ((refine ne_dataH (by ke_read) (by ke_read) (by ke_shaped) (by ke_shaped) (by ktr_units) ?_); ke_norm))
  k_with "compareOp Eq ref ref" => k_here; (with_reducible show wpAny _ _ (compareOp CmpOp.Eq (Value.ref _) (Value.ref _)) _ _ _); k_dflt (first | refine ke_eq_ints (by is_list) (by is_list) (by l_ints) (by l_ints) (by ktr_units) ?_ | ((refine eq_dataH (by ke_read) (by ke_read) (by ke_shaped) (by ke_shaped) (by ktr_units) ?_); ke_norm))
  w_top off
  k_with "m_dictS" => (k_dflt (refine' kdn_str ?q ?F ?N ?b ?a ?l ?e ?n ?_; (case q => rfl); (case F => k_asm); (case N => k_asm); (case b => exact Top.nolimit (by k_asm)); (case a => rfl); (case l => rfl); (case e => exact List.cons_ne_nil _ _); (case n => exact Nat.le_of_ble_eq_true rfl)); intro d' h' o' F' N' l1 lo' hd'; (try k_lt l1))
  k_with "KdnMade" => (k_here; k_dflt (first | (refine' m_madeS ?yF ?yN ?yU ?yd ?yk ?yn ?_; (case yF => k_asm); (case yN => k_asm); (case yU => k_updF); (case yd => k_asm); (case yk => rfl); (case yn => exact of_decide_eq_true (by first | rfl | kernel_rfl!)); intro h' o' tk' F' N' hd') | (refine' m_madeI ?yF ?yN ?yU ?yd ?yk ?yn ?_; (case yF => k_asm); (case yN => k_asm); (case yU => k_updF); (case yd => k_asm); (case yk => rfl); (case yn => exact of_decide_eq_true (by first | rfl | kernel_rfl!)); intro h' o' tk' F' N' hd')); (try dsimp only at N'); (try k_sweep))
  k_with "eval ListComp BinOp cons" =>
    k_dflt (refine LCg.ListComp_U (F₀ := by k_asm) (by with_unfolding_all rfl) (by decide) (by rfl) (by decide) (by rfl) ?_)
  k_with "subscriptTail Name Slice ref ref" =>
    rename Fr _ _ _ _ => lF'
    k_dflt (refine' kmk_slice_lit (its := vs.toArray) (zs := vs.take 20) ?yF ?yN ?yl ?yp ?yq ?ye ?_ ?ys ?yt ?yz; (case yF => exact lF'); (case yN => k_asm); (case yl => exact Fr.lst lF' lL2); (case yp => kmk_part); (case yq => kmk_part); (case ye => exact pick_take vs (by decide)); (case ys => with_unfolding_all rfl); (case yt => kmk_pure); (case yz => (rw [sizeLine_eq, List.size_toArray]; omega)))
    clear lF'
    intro D9 h' F' N' l1; (try k_lt l1); (try k_sweep)
  k_with "CompSrc BinOp nil ref" =>
    have hi20 := ints_take hi 20
    k_dflt (refine' LCg.CompSrc.ledger (its := (vs.take 20).toArray) (by rfl) (by k_asm) (by k_asm) (by k_mem) (by (rw [sizeLine_eq, List.size_toArray, List.length_take]; omega)) ?_)
    intro g9'
    k_dflt (refine' m_mapRest (fun nx => nx = (D9, listOf (vs.take 20).toArray 0) :: news) (fun _ => True) _ ?_ ?_ rfl)
    rintro ys9 cs9 nx9 hy9 hl9 - rfl
    unfold LCg.FinE
    intro D8 h' tk' F' N' o1'
    (try simp only [List.nil_append, List.cons_append] at N')
    (try dsimp only)
    have o9 := off1_mem o1'
    have go9 := gnNe_of o9
    dsimp only [GnNe] at go9
    (repeat (with_reducible rename _ ∧ _ => hs9; have hs8 := And.left hs9; have hs7 := And.right hs9; clear hs9))
    rotate_left 1
    rintro i8 v8 ys8 R nx8 I8 oI8 C8 oC8 D8 m8 h8 tk8 E8 hi8 hP8 rfl hR8 hC8 hx8 F8 N8 off8 ne8
    obtain ⟨c8, t8, rfl, hc8⟩ := IntsAre.at hi20 i8 v8 (by simpa using hP8)
    rotate_left 1
  k_with "CompEnd int" =>
    k_dflt (refine' m_cend (h' := _) ?zF ?zN ?zo ?zS (hR8 _ _ _ trivial rfl); (case zF => assumption); (case zN => exact kst_newsOf (by k_asm) (by kst_in)); (case zo => exact off8); (case zS => exact Or.inr ⟨_, by k_mem, rfl, _, rfl⟩))
  k_with "eval Dict cons cons" =>
    walk_at "m_dictS"
  k_with "pyIter ref" =>
    rename Fr _ _ _ _ => lF'
    rename News _ _ _ _ => lN'
    with_unfolding_all refine' mfor (σ := Int × Tok) (l := D8) (vs := ys9.toArray) (nn := ys9.length) (fun _ => (D8, listOf ys9.toArray ys9.length) :: news) (fun c => [(Str.ofString "left", .ref D8), (Str.ofString "mixed", .int c.1 c.2)]) [] (fun _ _ => True) (1515, _) rfl (fun c => .head _) lF' (kst_newsOf lN' ?sub) ?kk trivial ?_ ?_
    (case kk => kst_all)
    (case sub => kst_in)
    clear lF' lN'
    rintro I9 oI9 ⟨mx, mt⟩ i9 v9 u9 h9 tk9 hv9 - hne9 F9 N9
    (dsimp only at N9 F9 hne9)
    obtain ⟨x9, t9, rfl, hx9⟩ := IntsAre.at hy9 i9 v9 (by simpa using hv9)
    (try k_fold)
    rotate_left 1
    rintro ⟨mx, mt⟩ u9 h9 tk9 - F9 N9
    (dsimp only at N9 F9)
    (try k_fold)
    rotate_left 1
  k_with "MEnd" =>
    rename Fr _ _ _ _ => lF'
    rename News _ _ _ _ => lN'
    first
      | (k_dflt (refine' mend (((mx * 31 + x9 + 103).fmod 1000003, _) : Int × Tok) lF' lN' ?hI ?hn ?hne ?hk ?hr trivial); (case hn => kst_in); (case hk => kst_all); (case hI => k_dflt k_mem); (case hne => exact hne9); (case hr => (intro z9 g1 g2 g3; (simp only [List.forall_mem_cons, List.not_mem_nil, false_implies, implies_true, and_true, ne_eq] at g2); (simp only [List.contains_cons, List.contains_nil, Bool.or_false, Bool.or_eq_false_iff, beq_eq_false_iff_ne, ne_eq] at g3); (simp [kstB, g1, g2, g3]; done))))
  refine wpAny_call ?_
  (k_dflt (refine' code_def ?k1 ?k2 ?k3 ?k4 ?k5 ?kA ?kF ?kK ?k6 ?k7 ?k8 ?k9 ?kB ?_ ?c2 ?c3 ?c4 ?c5; (case kA => exact rfl); (case kF => exact rfl); (case kK => assumption); (case k1 => k_asm); (case k2 => k_asm); (case k3 => k_asm); (case k4 => k_asm); (case k5 => k_asm); (case k6 => k_is); (case k7 => k_is); (case k8 => ktr_room); (case k9 => first | exact BindsTo.of_eq rfl | exact binds_K (by k_in) rfl (by k_is) rfl rfl rfl); (case c5 => decide); (case kB => exact locs rfl); (case c2 => exact rfl); (case c3 => exact rfl); (case c4 => exact rfl); k_whole; intro g' L' h' FG' F' N' B' X' T'; (try dsimp only); (try k_lift B'); (try k_fold)))
  rename Fr h₀ _ _ _ => lG
  have lL2 := Fr.lst lG hL
  k_steps
  rename Fr _ _ _ _ => lF'
  rename News _ _ _ _ => lN'
  have hz9 : ys9.length < 64 := by
    have h1 := hy9.length
    rw [List.size_toArray, List.length_take] at hl9
    omega
  refine' hret _ _ _ _ lF' (kst_newsOf lN' ?zs) ⟨_, rfl, D8, _, _, ys9, cs9, mx, mt, rfl, ?zl, ?zd, hy9, hz9, ?za, fun p hp => o9 p (.tail _ hp), ?zc⟩
  case zs => kst_in
  case zd => assumption
  case zl => assumption
  case za => k_all
  case zc => k_ne
theorem cch_go {P : Heap → Prop} {w : World} {f : Addr} {vs : List Value} {k : Nat} {news : Led} {Post : Led → Value → Prop} (C : CCH P w f vs k news Post)
  {p : Program} {loose : List Str} {mean : ExcName → Option Value} {mg mb : Str → Option Value} {dp un : Nat} {gd : Option (List Code)} {cn : Str} {cs : Scope} {a : Addr} {ccd : Value} {cl : List (Str × Addr)} {outer : List Env} {A₀ : Around} {base h₀ : Heap} {L : Addr} {m : Str → Option Value} {s : Shared} {Q E : Value → Shared → Prop} (hP : P h₀)
  (ret : ∀ (v : Value) (news' : Led) (h' : Heap) (tk' : Nat), Fr h₀ L h' m → News h₀ L h' news' → Post news' v → Q v { s with heap := h', toks := tk' })
  (F : Fr h₀ L s.heap m) (N : News h₀ L s.heap news) (B : Below A₀ base outer h₀) (X : (hd.heap_1_39 w.params).In h₀) (T : Top p loose mean mg mb h₀) (hk : cs.kind = .function)
  (hd : dp + k < recursionLimit) (hu : un + 8 * k < cLine) :
    wpAny (model PySem.Challenge.rw_on0371_01.prog w) (ktrTop dp un gd cn cs L a ccd cl outer) (call (.ref f) vs) Q E s :=
  C.go hP B F X N T hk hd hu ret
end
section
section
variable {w : World} {h₀ h : Heap} {L : Addr} {led ext rest : Led} {c dk dl kk d X : Nat} {co co0 od oX T0 : Obj} {dvs : List Value}
theorem law_coll (hm1 : ∀ p ∈ (c, co0) :: (112, T0) :: [], p.1 ≠ dk) (hm2 : ∀ p ∈ (c, co0) :: (112, T0) :: [], p.1 ≠ dl) (N : News h₀ L h led) (h1 : (dk, od) ∈ led) (h2 : (dl, listOf dvs.toArray kk) ∈ led) (h3 : (c, co) ∈ led) (h4 : (112, T0) ∈ led) (h5 : ∀ p ∈ ext, p ∈ led)
    (hfx : ∀ q ∈ ext, ∀ p ∈ (dk, od) :: (dl, listOf dvs.toArray kk) :: (c, co0) :: (112, T0) :: [], p.1 ≠ q.1) (hc : @Ne Nat c 112) (hD : DataOK w ext d) :
    ∃ rest : Led, News h₀ L h ((dk, od) :: (dl, listOf dvs.toArray kk) :: (112, T0) :: rest) ∧ (c, co) ∈ rest ∧ DataOK w rest d ∧ (∀ p ∈ (112, T0) :: rest, p.1 ≠ dk) ∧ (∀ p ∈ (112, T0) :: rest, p.1 ≠ dl) ∧ (∀ p ∈ rest, p.1 ≠ 112) := by
  refine ⟨(c, co) :: ext, fun p hp => N p ?_, .head _, hD.mono fun p hp => .tail _ hp, ?_, ?_, ?_⟩
  · rcases List.mem_cons.mp hp with rfl | hp
    · exact h1
    rcases List.mem_cons.mp hp with rfl | hp
    · exact h2
    rcases List.mem_cons.mp hp with rfl | hp
    · exact h4
    rcases List.mem_cons.mp hp with rfl | hp
    · exact h3
    · exact h5 p hp
  · exact List.forall_mem_cons.mpr ⟨hm1 (112, T0) (.tail _ (.head _)), List.forall_mem_cons.mpr ⟨hm1 (c, co0) (.head _), fun q hq => ((hfx q hq) (dk, od) (.head _)).symm⟩⟩
  · exact List.forall_mem_cons.mpr ⟨hm2 (112, T0) (.tail _ (.head _)), List.forall_mem_cons.mpr ⟨hm2 (c, co0) (.head _), fun q hq => ((hfx q hq) (dl, listOf dvs.toArray kk) (.tail _ (.head _))).symm⟩⟩
  · exact List.forall_mem_cons.mpr ⟨hc, fun q hq => ((hfx q hq) (112, T0) (.tail _ (.tail _ (.tail _ (.head _))))).symm⟩
theorem coll_add (N : News h₀ L h led) (hs : ∀ p ∈ (dk, od) :: (dl, listOf dvs.toArray kk) :: (112, T0) :: (X, oX) :: rest, p ∈ led) (x1 : @Ne Nat X dk) (x2 : @Ne Nat X dl) (x3 : @Ne Nat X 112) (hcl : (c, co) ∈ rest) (hD : DataOK w rest d)
    (q1 : ∀ p ∈ (112, T0) :: rest, p.1 ≠ dk) (q2 : ∀ p ∈ (112, T0) :: rest, p.1 ≠ dl) (q3 : ∀ p ∈ rest, p.1 ≠ 112) :
    ∃ rest' : Led, News h₀ L h ((dk, od) :: (dl, listOf dvs.toArray kk) :: (112, T0) :: rest') ∧ (X, oX) ∈ rest' ∧ (∀ p ∈ rest, p ∈ rest') ∧ (c, co) ∈ rest' ∧ DataOK w rest' d ∧ (∀ p ∈ (112, T0) :: rest', p.1 ≠ dk) ∧ (∀ p ∈ (112, T0) :: rest', p.1 ≠ dl) ∧ (∀ p ∈ rest', p.1 ≠ 112) :=
  ⟨(X, oX) :: rest, fun p hp => N p (hs p hp), .head _, fun p hp => .tail _ hp, .tail _ hcl, hD.mono fun p hp => .tail _ hp,
    List.forall_mem_cons.mpr ⟨(List.forall_mem_cons.mp q1).1, List.forall_mem_cons.mpr ⟨x1, (List.forall_mem_cons.mp q1).2⟩⟩, List.forall_mem_cons.mpr ⟨(List.forall_mem_cons.mp q2).1, List.forall_mem_cons.mpr ⟨x2, (List.forall_mem_cons.mp q2).2⟩⟩, List.forall_mem_cons.mpr ⟨x3, q3⟩⟩
end
def signOK (v : Value) : Bool := match v with | .int c _ => decide (c ∈ AL) | _ => false
theorem m_sign {prog : Program} {w : World} {A : Around} {E : Value → Shared → Prop} {s : Shared} {K : Frag} {h₀ : Heap} {L a : Addr} {m : Str → Option Value} {n i : Nat} {value slice : Expr} {l : List Value} {dd : Option Addr} {sl : Array (Option Value)} {u : Tok} {Q : Value → Shared → Prop} (F : Fr h₀ L s.heap m) (X₀ : K.In h₀) (hl : K.lookup a = some ⟨.type "list", dd, .seq l.toArray n, sl⟩)
    (h1 : l.length = 12) (h2 : l.all signOK = true) (hi : i < 12) (h : ∀ c t, c ∈ AL → Q (.int c t) s)
    (hs : subscripted slice false (.ref a) (.int (i : Int) u) = operate [.ref a, .int (i : Int) u] (getItem (.ref a) (.int (i : Int) u)) := by with_unfolding_all rfl) :
    wpAny (model prog w) A (subscriptTail value slice (.ref a) (.int (i : Int) u)) Q E s := by
  have hil : i < l.length := by omega
  have hx : l[(i : Int).toNat]? = some l[i] := by rw [Int.toNat_natCast]; exact List.getElem?_eq_getElem hil
  have hg := List.all_eq_true.mp h2 l[i] (List.getElem_mem hil)
  refine topList_K F X₀ hl (by omega) (by omega) hx ?_ hs
  generalize l[i] = v at hg
  cases v with
  | int c t => exact h c t (of_decide_eq_true hg)
  | _ => cases hg
section
variable {w : World} {h₀ h : Heap} {L : Addr} {led rest : Led} {TP d n : Nat} {ts : Array Value} {T0 : Obj}
theorem tp_coll (N : News h₀ L h led) (h1 : (TP, tupO ts n) ∈ led) (h2 : (112, T0) ∈ led) (h3 : ∀ p ∈ rest, p ∈ led) (hTP : @Ne Nat TP 112) (hD : DataOK w rest d) (r3 : ∀ p ∈ rest, p.1 ≠ 112) :
    ∃ rest' : Led, News h₀ L h ((112, T0) :: (112, T0) :: rest') ∧ (TP, tupO ts n) ∈ rest' ∧ (∀ p ∈ rest, p ∈ rest') ∧ DataOK w rest' d ∧ (∀ p ∈ rest', p.1 ≠ 112) :=
  ⟨(TP, tupO ts n) :: rest, fun p hp => N p (by
    rcases List.mem_cons.mp hp with rfl | hp
    · exact h2
    rcases List.mem_cons.mp hp with rfl | hp
    · exact h2
    rcases List.mem_cons.mp hp with rfl | hp
    · exact h1
    · exact h3 p hp), .head _, fun p hp => .tail _ hp, hD.mono fun p hp => .tail _ hp, List.forall_mem_cons.mpr ⟨hTP, r3⟩⟩
end
theorem nfkc_ok {vs : List Value} {xs : List Int} (h : IntsAre vs (nfkc xs)) : IntsAre vs (lfold xs) := nfkc_eq xs ▸ h
theorem nfkc_ok2 {vs : List Value} {xs : List Int} (hx : ∀ x ∈ xs, x ∈ AL) (h : IntsAre vs (nfkc (lfold xs))) : IntsAre vs (lfold xs) := by
  rw [← nfkc_eq, nfkc_idem hx] at h
  rw [← nfkc_eq]
  exact h
theorem casl_ok {vs : List Value} {xs : List Int} (h : IntsAre vs (casl xs)) : IntsAre vs (lfold (lapart xs)) := casl_eq xs ▸ h
theorem lapart_al {xs : List Int} (hx : ∀ x ∈ xs, x ∈ AL) : ∀ x ∈ lapart xs, x ∈ AL := by rw [lapart_eq]; exact ord_al (exps_al hx)
structure RoomL (xs : List Int) : Prop where
  f : (folds xs).length < 64
  ef : (exps (folds xs)).length < 64
  e : (exps xs).length < 64
  fl : (folds (lapart xs)).length < 64
  efl : (exps (folds (lapart xs))).length < 64
  al : ∀ z ∈ lfold xs, z ∈ AL
  r : Room xs
  fd : (folds (lfold xs)).length < 64
  efd : (exps (folds (lfold xs))).length < 64
  n : xs.length < 64
theorem roomL {xs : List Int} (hx : ∀ x ∈ xs, x ∈ AL) (hl : xs.length ≤ 12) : RoomL xs := by
  have hR := room_of hx (by omega)
  have hA : ∀ z ∈ lfold xs, z ∈ AL := by rw [← nfkc_eq]; exact nfkc_al hx
  have hL : (lfold xs).length ≤ 24 := by rw [← nfkc_eq]; have := nfkc_len hx; omega
  have hR2 := room_of hA hL
  obtain ⟨a1, a2, a3, a4, a5⟩ := id hR
  obtain ⟨b1, b2, b3, b4, b5⟩ := hR2
  exact ⟨a2, a3, a1, by rw [lapart_eq]; exact a4, by rw [lapart_eq]; exact a5, hA, hR, b2, b3, by omega⟩
section
variable {prog : Program} {w : World} {A : Around} {E : Value → Shared → Prop} {s : Shared} {a b : Addr} {xs ys : List Value} {ns : List Int} {Q : Value → Shared → Prop}
theorem ke_ne_same (ha : s.heap.IsList a xs.toArray) (hb : s.heap.IsList b ys.toArray) (hi : IntsAre xs ns) (hj : IntsAre ys ns) (hu : A.units + 64 < cLine) (h : Q (.bool false) s) :
    wpAny (model prog w) A (compareOp .NotEq (.ref a) (.ref b)) Q E s := ke_ne_ints ha hb hi hj hu (by simpa using h)
end
theorem deq_comm (a b : List Int) : decide (a = b) = decide (b = a) := by
  by_cases h : a = b
  · subst h; rfl
  · rw [decide_eq_false h, decide_eq_false (fun e => h e.symm)]
end
section
theorem law_end {l : OpenLaw} {cl : Str → Option Addr} {mean : ExcName → Option Value} {args : List WData} {s₁ s' : Shared} {L : Addr} {m : Str → Option Value} (F : Fr s₁.heap L s'.heap m) (hg : s'.gens = #[]) (hos : s'.os = s₁.os) :
    GoodW l.row.toRowW.claim cl mean args s₁ (.ok (.ret (.bool true))) s' := by
  refine goodW_bool F hg (fun _ => rfl) (postW_of (r := l.row.toRowW) ?_ (X := true) ?_ rfl) hos
  · show WShape.has [] (.bool true) .bool = true
    rfl
  · show (WTm.eq .res (.lit (.bool true))).value [] { args := args, res := some (.bool true), after := args } = _
    wtm_val
theorem grown_end {h₀ h : Heap} {L C a : Addr} {T O : Obj} {led : Led} (hT : TabS T C O) (N : News h₀ L h led) (hm : (112, T) ∈ led) : GrownAll [(a, 112)] h := by
  refine ⟨?_, True.intro⟩
  rcases hT with ⟨rfl, _, _⟩ | ⟨rfl, _, _⟩
  · exact ⟨_, (N _ hm).1⟩
  · exact ⟨_, (N _ hm).1⟩
end
section
theorem app_pull {h₀ h : Heap} {L : Addr} {ext l : Led} (N : News h₀ L h (ext ++ l)) : News h₀ L h (l ++ ext) := fun p hp => N p (by simp only [List.mem_append] at hp ⊢; exact hp.symm)
inductive OneOK (rest : Led) (v : Value) : Prop
  | mk (X k : Nat) (vs : List Value) (xs : List Int) (q1 : v = .ref X) (q2 : (X, listOf vs.toArray k) ∈ rest) (q3 : IntsAre vs xs) (q4 : ∀ x ∈ xs, x ∈ AL) (q5 : xs.length ≤ 12) : OneOK rest v
theorem one_ok {rest : Led} {X Y k k' i : Nat} {vs us : List Value} {xs ys : List Int} {v : Value} (h1 : (X, listOf vs.toArray k) ∈ rest) (h2 : IntsAre vs xs) (h3 : ∀ x ∈ xs, x ∈ AL) (h4 : xs.length ≤ 12)
    (g1 : (Y, listOf us.toArray k') ∈ rest) (g2 : IntsAre us ys) (g3 : ∀ x ∈ ys, x ∈ AL) (g4 : ys.length ≤ 12) (h : (List.toArray [Value.ref X, Value.ref Y])[i]? = some v) : OneOK rest v := by
  rcases i with _ | _ | i
  · obtain rfl : Value.ref X = v := by simpa using h
    exact ⟨_, _, _, _, rfl, h1, h2, h3, h4⟩
  · obtain rfl : Value.ref Y = v := by simpa using h
    exact ⟨_, _, _, _, rfl, g1, g2, g3, g4⟩
  · simp at h
structure LwS where
  T : Obj
  C : Nat
  O : Obj
def LwL (rest : Led) (c : LwS) : Led := (112, c.T) :: (c.C, c.O) :: rest
inductive LwP (rest : Led) (i : Nat) (c : LwS) : Prop
  | mk (q1 : TabS c.T c.C c.O) (q2 : ∀ p ∈ rest, p.1 ≠ c.C) : LwP rest i c
inductive AfterIf (w : World) (h₀ : Heap) (L : Addr) (m1 : Str → Option Value) (d Xt nt : Nat) (yt : List Value) (s s' : Shared) : Prop
  | mk (h' : Heap) (tk X k : Nat) (vs : List Value) (xs : List Int) (rest : Led) (q1 : s' = { s with heap := h', toks := tk }) (q2 : Fr h₀ L h' (fun y => if y = Str.ofString "other" then some (.ref X) else m1 y)) (q3 : News h₀ L h' ((112, tabObj #[]) :: rest))
    (q4 : (X, listOf vs.toArray k) ∈ rest) (q5 : IntsAre vs xs) (q6 : ∀ x ∈ xs, x ∈ AL) (q7 : xs.length ≤ 12) (q8 : (Xt, listOf yt.toArray nt) ∈ rest) (q9 : DataOK w rest d) (q10 : ∀ p ∈ rest, p.1 ≠ 112) : AfterIf w h₀ L m1 d Xt nt yt s s'
inductive JoinP (P : Shared → Prop) (f : Flow) (s : Shared) : Prop
  | mk (e : f = .next) (p : P s) : JoinP P f s
theorem if_join {M : Model} {A : Around} {E : Value → Shared → Prop} {s : Shared} {st : Stmt} {env : Env} {Q : Flow → Shared → Prop} {w : World} {h₀ : Heap} {L : Addr} {m1 : Str → Option Value} {d Xt nt : Nat} {yt : List Value} {rest : Led} (_F : Fr h₀ L s.heap m1) (_hX : (Xt, listOf yt.toArray nt) ∈ rest) (_hD : DataOK w rest d)
    (h : wpAny M A (exec st env) (JoinP (AfterIf w h₀ L m1 d Xt nt yt s)) E s) (k : ∀ s', AfterIf w h₀ L m1 d Xt nt yt s s' → Q .next s') : wpAny M A (exec st env) Q E s :=
  wpAny_mono h (fun _ s' q => by obtain ⟨e, p⟩ := q; subst e; exact k s' p) (fun _ _ e => e)
theorem fr_same {h₀ h : Heap} {L : Addr} {m : Str → Option Value} {x : Str} {v : Value} (F : Fr h₀ L h m) (e : ∀ p ∈ [(x, v)], m p.1 = some p.2) : Fr h₀ L h (fun y => if y = x then some v else m y) := by
  have e1 := e _ (.head _)
  have : (fun y => if y = x then some v else m y) = m := funext fun y => by
    by_cases h : y = x
    · subst h; simp only [if_true]; exact e1.symm
    · simp only [if_neg h]
  rw [this]; exact F
local macro_rules | `(tactic| walk_at "m_close") => `(tactic| ((with_reducible show GoodW _ _ _ _ _ (Except.ok (Flow.ret (Value.bool true))) _); (rename Fr _ _ _ _ => lF'); k_dflt (exact law_end lF' (by assumption) (by rfl))))
local macro_rules | `(tactic| wrow_close) => `(tactic| walk_at "m_close")
local macro_rules | `(tactic| kc_close) => `(tactic| walk_at "m_close")
set_option maxRecDepth 100000 in
set_option maxHeartbeats 16000000 in
theorem law_walk : PySem.Challenge.rw_on0371_01.Holds := hd.top (by
  (k_go0; (all_goals try k_fold))
  have hMk : KstMark := kstMark
  k_with_none
  k_with "m_allIn" => first | exact List.forall_mem_nil _ | (refine sub_cons (by k_memK) ?_; k_extra "m_allIn") | (intro p9 h9; kst_mem)
  k_with "m_ra" => first | assumption | exact And.right (by first | assumption | exact And.right (by first | assumption | exact And.right (by first | assumption | exact And.right (by first | assumption | exact And.right (by first | assumption | exact And.right (by first | assumption | exact And.right (by first | assumption | exact And.right (by assumption))))))))
  k_with "m_and" => first | k_extra "m_ra" | exact And.left (by k_extra "m_ra")
  k_with "m_neA" => first | k_extra "m_and" | (refine Ne.symm ?_; k_extra "m_and") | (refine Nat.ne_of_lt ?_; k_extra "m_and") | (refine Nat.ne_of_gt ?_; k_extra "m_and") | (refine Nat.ne_of_lt (Nat.lt_succ_of_lt ?_); k_extra "m_and")
  k_with "m_lt" => first | assumption | exact allLt_of (by assumption) | k_extra "m_and"
  k_with "kst_in" => (try dsimp only); with_unfolding_all ((try simp only [List.nil_append, List.cons_append]); k_extra "m_allIn")
  k_with "k_ne" => refine neN ?_; (try dsimp only); first | (with_reducible assumption) | (with_reducible exact Ne.symm (by assumption)) | (with_reducible exact Nat.ne_of_lt (by assumption)) | (with_reducible exact Nat.ne_of_gt (by assumption)) | with_reducible k_extra "m_neA" | k_extra "m_neA" | omega
  k_with "k_all" => first | exact List.forall_mem_nil _ | assumption | exact lt_ne (by assumption) | exact lt_ne (by k_extra "m_lt") | exact lt_ne1 (by k_extra "m_lt") | (refine ne_cons ?_ ?_; (focus k_ne); k_all) | (refine List.forall_mem_cons.mpr (And.intro ?_ ?_); (focus k_ne); k_all)
  k_with "k_in" => (rename Fr _ _ _ _ => lF8); (rename Frag.In _ _ => lX8); exact Frag.In.keeps lX8 (Fr.keep lF8)
  k_with "ktr_room" => k_dflt (first | exact rmA (by assumption) (by exact rfl) | exact rmB (by assumption))
  k_with "ktr_units" => k_dflt (first | exact unA (by assumption) (by exact rfl) | exact unC (by assumption) (by exact rfl))
  k_with "MPost" => dsimp only [MPost]
  k_with "execs cons" => with_reducible refine gen_tok ?_; intro tk9
  k_with "m_for" => k_here; (rename Fr _ _ _ _ => lF'); k_dflt (refine' For_invVF ?zF ?zk1 ?zk2 ?_ ?zs ?ze; (case zF => exact lF'); (case zk1 => exact rfl); (case zk2 => exact rfl); (case zs => (intro _; rfl)); (case ze => passes_own); k_whole)
  k_with "exec For Name Name cons nil" => k_extra "m_for"
  k_with "exec For Name Subscript cons nil" => k_extra "m_for"
  k_with "exec For Name Call cons nil" => k_extra "m_for"
  k_with "exec For Name Attribute cons nil" => k_extra "m_for"
  k_with "exec For Name Tuple cons nil" => k_extra "m_for"
  k_with "compareOp NotEq ref ref" => k_here; (with_reducible show wpAny _ _ (compareOp CmpOp.NotEq (Value.ref _) (Value.ref _)) _ _ _); k_dflt (first | refine ke_ne_ints (by is_list) (by is_list) (by l_ints) (by l_ints) (by ktr_units) ?_ | ((refine ne_dataH (by ke_read) (by ke_read) (by ke_shaped) (by ke_shaped) (by ktr_units) ?_); ke_norm))
  k_with "compareOp Eq ref ref" => k_here; (with_reducible show wpAny _ _ (compareOp CmpOp.Eq (Value.ref _) (Value.ref _)) _ _ _); k_dflt (first | refine ke_eq_ints (by is_list) (by is_list) (by l_ints) (by l_ints) (by ktr_units) ?_ | ((refine eq_dataH (by ke_read) (by ke_read) (by ke_shaped) (by ke_shaped) (by ktr_units) ?_); ke_norm))
  rename World => w
  rename IntsAre _ _ => hIs
  rename Heap.IsList _ _ _ => hLs
  k_with "call ref cons nil" =>
    with_reducible show wpAny _ _ (call (Value.ref 367) [_]) _ _ _
    refine' cch_go (c_deck hIs ?zlen) hLs ?_ (by k_asm) (by k_asm) (by k_asm) (by k_asm) (by k_asm) (by first | exact rfl | assumption) (by ktr_room) (by ktr_units)
    (case zlen => (have := hIs.length; omega))
    intro v9' news9 h9' tk9' F9' N9' P9'
    obtain ⟨dk, rfl, dl, kk, od, dvs, dys, x, t, rfl, lod, hdd, hid, hvd, m1, m2, m3⟩ := P9'
    have gm1 := gnNe_of m1
    have gm2 := gnNe_of m2
    dsimp only [GnNe] at gm1 gm2
    (repeat (with_reducible rename _ ∧ _ => hs9; have hs8 := And.left hs9; have hs7 := And.right hs9; clear hs9))
    (try dsimp only); (try k_sweep); (try k_fold)
  k_with "call ref nil" =>
    k_dflt show wpAny _ _ (call (Value.ref _) []) _ _ _
    with_reducible show wpAny _ _ (call (Value.ref 381) []) _ _ _
    refine LdP.go c_ldata ?_ (by k_asm) (by k_asm) (by k_asm) (by k_asm) (by k_asm) (by first | exact rfl | assumption) (by ktr_room) (by ktr_units)
    rintro d ext h9' tk9' F9' N9' hD hfx
    have N8' := app_pull N9'
    clear N9'
    have e1 : ∀ q ∈ ext, q.1 ≠ _ := fun q hq => ((hfx q hq) _ (.head _)).symm
    have e2 : ∀ q ∈ ext, q.1 ≠ _ := fun q hq => ((hfx q hq) _ (.tail _ (.head _))).symm
    have e3 : ∀ q ∈ ext, q.1 ≠ _ := fun q hq => ((hfx q hq) _ (.tail _ (.tail _ (.head _)))).symm
    have e4 : ∀ q ∈ ext, q.1 ≠ _ := fun q hq => ((hfx q hq) _ (.tail _ (.tail _ (.tail _ (.head _))))).symm
    dsimp only at e1 e2 e3 e4
    (try simp only [List.cons_append, List.nil_append] at N8'); (try dsimp only); (try k_sweep); (try k_fold)
  k_with "exec Assign cons ListComp" =>
    first
      | (have hz8 := hcl; clear hz8)
      | (rename News _ _ _ _ => lN'; k_dflt (obtain ⟨rest, N8, hcl, hDr, r1, r2, r3⟩ := law_coll (ext := ext) (od := od) (dvs := dvs) (kk := kk) m1 m2 lN' (by k_mem) (by k_mem) (by k_mem) (by k_mem) (by kst_in) hfx (by omega) hD); clear lN')
    k_dflt (refine LCg.Assign_ListComp_U (F₀ := by k_asm) (by rfl) (by with_unfolding_all rfl) (by with_unfolding_all rfl) (by decide) (by rfl) (by decide) (by rfl) (by rfl) (by rfl) ?_)
  k_with "call ref cons nil" =>
    with_reducible show wpAny _ _ (call (Value.ref 374) [_, _]) _ _ _
    rename News _ _ _ _ => lN'
    first
      | (refine' DrawP.go (c_draw (news := (I8, oI8) :: (C8, oC8) :: (D8, LCg.lst ys8) :: (112, tabObj #[]) :: rest) lod hdd hid hvd (List.forall_mem_cons.mpr ⟨(LCg.Off3.mem off8 _ (.head _)).1.symm, List.forall_mem_cons.mpr ⟨(LCg.Off3.mem off8 _ (.head _)).2.1.symm, List.forall_mem_cons.mpr ⟨(LCg.Off3.mem off8 _ (.head _)).2.2.symm, r1⟩⟩⟩) (List.forall_mem_cons.mpr ⟨(LCg.Off3.mem off8 _ (.tail _ (.head _))).1.symm, List.forall_mem_cons.mpr ⟨(LCg.Off3.mem off8 _ (.tail _ (.head _))).2.1.symm, List.forall_mem_cons.mpr ⟨(LCg.Off3.mem off8 _ (.tail _ (.head _))).2.2.symm, r2⟩⟩⟩) m3 (by decide)) ?_ (by k_asm) (kst_newsOf lN' ?zsub) (by k_asm) (by k_asm) (by k_asm) (by first | exact rfl | assumption) (by ktr_room) (by ktr_units); (case zsub => kst_in); clear lN'; rintro r9 tr9 dl kk od dvs dys x t h9' tk9' F9' N9' hr1 hr2 lod' hdd hid hvd w1 w2 m3; (have off9 : LCg.Off3 I8 C8 D8 ((dk, od) :: (dl, listOf dvs.toArray kk) :: (112, tabObj #[]) :: rest) := ⟨⟨(w1 _ (.head _)).symm, (w1 _ (.tail _ (.head _))).symm, (w1 _ (.tail _ (.tail _ (.head _)))).symm⟩, ⟨(w2 _ (.head _)).symm, (w2 _ (.tail _ (.head _))).symm, (w2 _ (.tail _ (.tail _ (.head _)))).symm⟩, off8.2.2⟩))
      | (refine' DrawP.go (c_draw (news := (112, tabObj #[]) :: rest) lod hdd hid hvd r1 r2 m3 (by decide)) ?_ (by k_asm) (kst_newsOf lN' ?zsub) (by k_asm) (by k_asm) (by k_asm) (by first | exact rfl | assumption) (by ktr_room) (by ktr_units); (case zsub => kst_in); clear lN'; rintro r9 tr9 dl kk od dvs dys x t h9' tk9' F9' N9' hr1 hr2 lod' hdd hid hvd r1 r2 m3)
    obtain ⟨n9, rfl⟩ := Int.eq_ofNat_of_zero_le hr1
    (try dsimp only); (try k_sweep); (try k_fold)
  k_with "CompSrc Subscript cons ref" =>
    rename IsRange _ _ _ _ _ _ _ _ => rgX
    rename News _ _ _ _ => lN'
    k_dflt (have lN2 : News _ _ _ ((dk, od) :: (dl, listOf dvs.toArray kk) :: (112, tabObj #[]) :: rest) := kst_newsOf lN' (by kst_in))
    k_dflt (refine' LCg.CompSrc.range (n := n9) (by rfl) (by k_asm) lN2 rgX (rg_small (by omega)) (rg_size _) (by (rw [sizeLine_eq]; omega)) ?_)
    clear lN' lN2
    intro g9'
    k_dflt (refine' m_mapRest (fun nx => DeckAt w ((112, tabObj #[]) :: rest) nx dk) (fun c => c ∈ AL) n9 ?_ ?_ ⟨dl, kk, od, dvs, dys, x, t, rfl, lod, hdd, hid, hvd, r1, r2, m3⟩)
    rintro ys9 cs9 nx9 hy9 hl9 hg9 hI9
    k_dflt (obtain ⟨dl, kk, od, dvs, dys, x, t, rfl, lod', hdd, hid, hvd, r1, r2, m3⟩ := hI9)
    unfold LCg.FinA
    intro D9 h' tk' F' N' o1'
    have o9 := off1_mem o1'
    k_dflt (obtain ⟨rest, N8, hXo, hrs, hcl, hDr, r1, r2, r3⟩ := coll_add N' (by kst_in) (o9 _ (.head _)).symm (o9 _ (.tail _ (.head _))).symm (o9 _ (.tail _ (.tail _ (.head _)))).symm hcl hDr r1 r2 r3)
    clear N' o9
    have hno : cs9.length ≤ 12 := by omega
    have hno6 : cs9.length ≤ 6 := by omega
    have hyo := hy9
    have hgo := hg9
    first
      | (have hXt := hrs _ hXt)
      | skip
    (try dsimp only)
    rotate_left 1
    rintro i8 v8 ys8 R8 nx8 I8 oI8 C8 oC8 D8 m8 h8 tk8 E8 hi8 hP8 hI8 hR8 hC8 hx8 F8 N8 off8 ne8
    k_dflt (obtain ⟨dl, kk, od, dvs, dys, x, t, rfl, lod', hdd, hid, hvd, r1, r2, m3⟩ := hI8)
    obtain ⟨t8, rfl⟩ := hP8
    rotate_left 1
  k_with "subscriptTail Name Call ref int" =>
    rename Fr _ _ _ _ => lF'
    rename Frag.In _ _ => lX'
    k_dflt (refine' m_sign lF' lX' ?zl ?za ?zb ?zi ?_; (case zl => k_is); (case za => rfl); (case zb => decide); (case zi => omega))
    intro csg tsg hsg
  k_with "CompEnd int" =>
    k_dflt (refine' m_cend (h' := _) ?zF ?zN ?zo trivial (hR8 _ _ ((dk, od) :: (dl, listOf dvs.toArray kk) :: (112, tabObj #[]) :: rest) hsg ⟨dl, kk, od, dvs, dys, x, t, rfl, lod, hdd, hid, hvd, List.forall_mem_cons.mp (List.forall_mem_cons.mp (List.forall_mem_cons.mp w1).2).2 |>.2, List.forall_mem_cons.mp (List.forall_mem_cons.mp (List.forall_mem_cons.mp w2).2).2 |>.2, m3⟩); (case zF => assumption); (case zN => exact kst_newsOf (by k_asm) (by kst_in)); (case zo => exact off9))
  k_with "call ref cons nil" =>
    with_reducible show wpAny _ _ (call (Value.ref 407) [_, _]) _ _ _
    rename News _ _ _ _ => lN'
    k_dflt (refine' OthP.go (c_other (news := (112, tabObj #[]) :: rest) lod hdd hid hvd r1 r2 m3 (.tail _ hXo) hyo hgo (by omega)) ?_ (by k_asm) (kst_newsOf lN' ?zsub) (by k_asm) (by k_asm) (by k_asm) (by first | exact rfl | assumption) (by ktr_room) (by ktr_units))
    (case zsub => kst_in)
    clear lN'
    rintro fa fn fvs fcs dl kk od dvs dys x t h9' tk9' F9' N9' hyf hgf hnf hlo lod' hdd hid hvd w1 w2 m3
    k_dflt (obtain ⟨rest, N8, hXf, hrs, hcl, hDr, r1, r2, r3⟩ := coll_add N9' (by kst_in) (w1 (fa, _) (.head _)) (w2 (fa, _) (.head _)) (Nat.ne_of_gt hlo.1) hcl hDr (List.forall_mem_cons.mp w1).2 (List.forall_mem_cons.mp w2).2 r3)
    clear N9'
    have hXt := hrs _ hXo
    have hyt := hyo
    have hgt := hgo
    have hnt := hno
    clear hXo hyo hgo hno
    have hXo := hXf
    have hyo := hyf
    have hgo := hgf
    have hno : fcs.length ≤ 12 := by omega
    (try dsimp only); (try k_sweep); (try k_fold)
  k_with "newTuple cons ref cons" =>
    k_dflt (refine' kup_newTuple ?yF ?yN ?_ ?yz; (case yF => k_asm); (case yN => k_asm); (case yz => kmk_size))
    intro TP h' F' N' l1; (try k_lt l1); ((repeat (with_reducible rename _ ∧ _ => hs9; have hs8 := And.left hs9; have hs7 := And.right hs9; clear hs9))); (try k_sweep)
  k_with "exec If Compare cons nil" =>
    fail_if_success (have hz8 := hJn; clear hz8)
    with_reducible show wpAny _ _ (exec (Stmt.If (Expr.Compare _ [CmpOp.Eq] _ _) _ _ _) _) _ _ _
    rename Fr _ _ _ _ => lF'
    k_dflt (refine' if_join lF' hXt hDr ?_ ?_)
    have hJn := True.intro
    (try k_fold)
    rotate_left 1
    rintro s8 ⟨h8, tk8, X8, k8, vs8, xs8, rest, rfl, F8, N8, hXo, hyo, hgo, hno, hXt, hDr, r3⟩
    have hJn := True.intro
    (try k_fold)
    rotate_left 1
  k_with "JoinP" =>
    rename Fr _ _ _ _ => lF'
    rename News _ _ _ _ => lN'
    first
      | (k_dflt (refine' ⟨rfl, _, _, _, _, _, _, _, rfl, lF', kst_newsOf lN' ?zi, hXo, hyo, hgo, hno, hXt, hDr, r3⟩); (case zi => kst_in))
      | (k_dflt (refine' ⟨rfl, _, _, _, _, _, _, _, rfl, fr_same lF' ?zf, kst_newsOf lN' ?zi, hXo, hyo, hgo, hno, hXt, hDr, r3⟩); (case zi => kst_in); (case zf => kst_all))
  k_with "pyIter ref" =>
    rename Fr _ _ _ _ => lF'
    rename News _ _ _ _ => lN'
    have hTP2 : @Ne Nat TP 112 := by k_ne
    k_dflt (obtain ⟨rest, N8, hTP, hrs, hDr, r3⟩ := tp_coll lN' (T0 := tabObj #[]) (TP := TP) (rest := rest) (by k_mem) (by k_mem) (by kst_in) hTP2 hDr r3)
    have hXt := hrs _ hXt
    have hXo := hrs _ hXo
    clear lN'
    k_dflt (refine' mforT (σ := LwS) (LwL rest) (fun _ => []) [Str.ofString "due"] (LwP rest) ⟨tabObj #[], 112, tabObj #[]⟩ rfl (fun c => .tail _ (.tail _ hTP)) lF' N8 ?kk ?pp ?_ ?_; (case kk => exact fun _ h => nomatch h); (case pp => exact ⟨.inl ⟨rfl, rfl, rfl⟩, r3⟩))
    clear N8 lF'
    rintro I9 oI9 ⟨T, C, O⟩ i9 v9 u9 h9 tk9 hv9 hP9 hne9 F9 N9
    obtain ⟨hT, hC0⟩ := hP9
    (dsimp only [LwL] at hT hC0 hne9 F9 N9)
    obtain ⟨X9, k9, yv9, cs9, rfl, hla, hia, hxa, hn9⟩ := one_ok hXt hyt hgt hnt hXo hyo hgo hno hv9
    have hro := roomL hxa hn9
    have h1I : ∀ p ∈ (I9, oI9) :: rest, p.1 ≠ 112 := List.forall_mem_cons.mpr ⟨(hne9 _ (.head _)).symm, r3⟩
    have hCI : ∀ p ∈ (I9, oI9) :: rest, p.1 ≠ C := List.forall_mem_cons.mpr ⟨(hne9 _ (.tail _ (.head _))).symm, hC0⟩
    (try k_fold)
    rotate_left 1
    rintro ⟨T, C, O⟩ u9 h9 tk9 hP9 F9 N9
    obtain ⟨hT, hC0⟩ := hP9
    (dsimp only [LwL] at hT hC0 F9 N9)
    (try k_fold)
    rotate_left 1
  k_with "MEnd" =>
    rename Fr _ _ _ _ => lF'
    rename News _ _ _ _ => lN'
    have hIT : @Ne Nat 112 I9 := (h1I _ (.head _)).symm
    have hIC : @Ne Nat C I9 := (hCN _ (.tail _ (.head _))).symm
    have hIr : ∀ p ∈ rest, p.1 ≠ I9 := fun p hp => hne9 p (.tail _ (.tail _ hp))
    have hC0 : ∀ p ∈ rest, p.1 ≠ C := (List.forall_mem_cons.mp (List.forall_mem_cons.mp hCN).2).2
    k_dflt (refine' mend (⟨T, C, O⟩ : LwS) lF' lN' ?hI ?hn ?hne ?hk ?hr ?hp)
    (case hk => exact fun _ h => nomatch h)
    (case hI => k_mem)
    (case hn => dsimp only [LwL]; kst_in)
    (case hne => exact List.forall_mem_cons.mpr ⟨hIT, List.forall_mem_cons.mpr ⟨hIC, hIr⟩⟩)
    (case hr => (intro z9 g1 g2 g3; (simp only [List.forall_mem_cons, List.not_mem_nil, false_implies, implies_true, and_true, ne_eq] at g2); (simp only [List.contains_cons, List.contains_nil, Bool.or_false, Bool.or_eq_false_iff, beq_eq_false_iff_ne, ne_eq] at g3); (simp [kstB, g1, g2, g3]; done)))
    (case hp => exact ⟨hT, hC0⟩)
  k_with "call ref cons nil" =>
    with_reducible show wpAny _ _ (call (Value.ref 400) [_]) _ _ _
    rename News _ _ _ _ => lN'
    first
      | (k_dflt (refine' NewL.go (c_lfold (news := (112, T) :: (C, O) :: (I9, oI9) :: rest) (.tail _ (.tail _ (.tail _ hla))) hia hxa hro.f hro.ef) ?_ (by k_asm) (kst_newsOf lN' ?zsub) (by k_asm) (by k_asm) (by k_asm) (by first | exact rfl | assumption) (by ktr_room) (by ktr_units); (case zsub => kst_in)); clear lN'; rintro ldu ndu vdu h9' tk9' F9' N9' hidu ladu; (have h1N : ∀ p ∈ (ldu, listOf vdu.toArray ndu) :: (I9, oI9) :: rest, p.1 ≠ 112 := List.forall_mem_cons.mpr ⟨Nat.ne_of_gt ladu.1, h1I⟩); (have hCN : ∀ p ∈ (ldu, listOf vdu.toArray ndu) :: (I9, oI9) :: rest, p.1 ≠ C := List.forall_mem_cons.mpr ⟨Nat.ne_of_gt ladu.2.1, hCI⟩))
      | (k_dflt (refine' NewL.go (c_lfold ?zm hi2 (lapart_al hx2) hro2.fl hro2.efl) ?_ (by k_asm) (by k_asm) (by k_asm) (by k_asm) (by k_asm) (by first | exact rfl | assumption) (by ktr_room) (by ktr_units); (case zm => k_mem)); clear lN'; rintro l3 n3 vs3 h9' tk9' F9' N9' hi3 la3)
    (try dsimp only); (try k_sweep); (try k_fold)
  k_with "call ref cons nil" =>
    with_reducible show wpAny _ _ (call (Value.ref 388) [_]) _ _ _
    first
      | (k_dflt (refine' NewL.go (c_lapart ?zm hia hxa hro.e) ?_ (by k_asm) (by k_asm) (by k_asm) (by k_asm) (by k_asm) (by first | exact rfl | assumption) (by ktr_room) (by ktr_units); (case zm => k_mem)); rintro l2 n2 vs2 h9' tk9' F9' N9' hi2 la2; have hx2 := hxa; have hro2 := hro)
      | (k_dflt (refine' NewL.go (c_lapart ?zm hyt hgt (roomL hgt hnt).e) ?_ (by k_asm) (by k_asm) (by k_asm) (by k_asm) (by k_asm) (by first | exact rfl | assumption) (by ktr_room) (by ktr_units); (case zm => k_mem)); rintro l2 n2 vs2 h9' tk9' F9' N9' hi2 la2; have hx2 := hgt; have hro2 := roomL hgt hnt)
      | (k_dflt (refine' NewL.go (c_lapart ?zm hyo hgo (roomL hgo hno).e) ?_ (by k_asm) (by k_asm) (by k_asm) (by k_asm) (by k_asm) (by first | exact rfl | assumption) (by ktr_room) (by ktr_units); (case zm => k_mem)); rintro l2 n2 vs2 h9' tk9' F9' N9' hi2 la2; have hx2 := hgo; have hro2 := roomL hgo hno)
    (try dsimp only); (try k_sweep); (try k_fold)
  k_with "call ref cons nil" =>
    with_reducible show wpAny _ _ (call (Value.ref 209) [_, _]) _ _ _
    rename News _ _ _ _ => lN'
    first
      | (k_dflt (refine' TNewL.go (c_nfkc (news := (ldu, listOf vdu.toArray ndu) :: (I9, oI9) :: rest) hT (hDr.mono ?zmo) (.tail _ (.tail _ hla)) hia hxa hro.f hro.ef h1N hCN) ?_ (by k_asm) (kst_newsOf lN' ?zsub) (by k_asm) (by k_asm) (by k_asm) (by first | exact rfl | assumption) (by ktr_room) (by ktr_units); (case zsub => kst_in); (case zmo => kst_in)); clear lN'; rintro r8 n8 vs8 T C O h9' tk9' F9' N9' hr8 hi8 hT hCN; have hi8 := nfkc_ok hi8)
      | (k_dflt (refine' TNewL.go (c_nfkc (news := (ldu, listOf vdu.toArray ndu) :: (I9, oI9) :: rest) hT (hDr.mono ?zmo) (.head _) hidu hro.al hro.fd hro.efd h1N hCN) ?_ (by k_asm) (kst_newsOf lN' ?zsub) (by k_asm) (by k_asm) (by k_asm) (by first | exact rfl | assumption) (by ktr_room) (by ktr_units); (case zsub => kst_in); (case zmo => kst_in)); clear lN'; rintro r8 n8 vs8 T C O h9' tk9' F9' N9' hr8 hi8 hT hCN; have hi8 := nfkc_ok2 hxa hi8)
    (try dsimp only); (try k_sweep); (try k_fold)
  k_with "call ref cons nil" =>
    with_reducible show wpAny _ _ (call (Value.ref 216) [_, _]) _ _ _
    rename News _ _ _ _ => lN'
    first
      | (k_dflt (refine' TNewL.go (c_cas (news := (ldu, listOf vdu.toArray ndu) :: (I9, oI9) :: rest) hT (hDr.mono ?zmo) (.tail _ (.tail _ hla)) hia hxa hro.r h1N hCN) ?_ (by k_asm) (kst_newsOf lN' ?zsub) (by k_asm) (by k_asm) (by k_asm) (by first | exact rfl | assumption) (by ktr_room) (by ktr_units); (case zsub => kst_in); (case zmo => kst_in)); clear lN'; rintro r8 n8 vs8 T C O h9' tk9' F9' N9' hr8 hi8 hT hCN; have hi8 := casl_ok hi8)
    (try dsimp only); (try k_sweep); (try k_fold)
  k_with "call ref cons nil" =>
    with_reducible show wpAny _ _ (call (Value.ref 230) [_, _]) _ _ _
    rename News _ _ _ _ => lN'
    first
      | (k_dflt (refine' cc_go (c_chg (news := (ldu, listOf vdu.toArray ndu) :: (I9, oI9) :: rest) hT (hDr.mono ?zmo) (.tail _ (.tail _ hla)) hia hxa hro.r hro.n h1N hCN) ?_ (by k_asm) (kst_newsOf lN' ?zsub) (by k_asm) (by k_asm) (by k_asm) (by first | exact rfl | assumption) (by ktr_room) (by ktr_units); (case zsub => kst_in); (case zmo => kst_in)); clear lN'; intro v9' news9 h9' tk9' F9' N9' P9'; rw [nfkc_eq] at P9'; obtain ⟨T, C, O, rfl, rfl, hT, hCN⟩ := P9')
    (try dsimp only); (try k_sweep); (try k_fold)
  k_with "call ref cons nil" =>
    with_reducible show wpAny _ _ (call (Value.ref 223) [_, _, _]) _ _ _
    rename News _ _ _ _ => lN'
    first
      | (k_dflt (refine' cc_go (c_mat (news := rest) hT hDr hXt hyt hgt (roomL hgt hnt).r hXo hyo hgo (roomL hgo hno).r r3 hC0) ?_ (by k_asm) (kst_newsOf lN' ?zsub) (by k_asm) (by k_asm) (by k_asm) (by first | exact rfl | assumption) (by ktr_room) (by ktr_units); (case zsub => kst_in)); clear lN'; intro v9' news9 h9' tk9' F9' N9' P9'; rw [casl_eq, casl_eq] at P9'; obtain ⟨T, C, O, rfl, rfl, hT, hC0⟩ := P9')
      | (k_dflt (refine' cc_go (c_mat (news := rest) hT hDr hXo hyo hgo (roomL hgo hno).r hXt hyt hgt (roomL hgt hnt).r r3 hC0) ?_ (by k_asm) (kst_newsOf lN' ?zsub) (by k_asm) (by k_asm) (by k_asm) (by first | exact rfl | assumption) (by ktr_room) (by ktr_units); (case zsub => kst_in)); clear lN'; intro v9' news9 h9' tk9' F9' N9' P9'; rw [casl_eq, casl_eq, deq_comm] at P9'; obtain ⟨T, C, O, rfl, rfl, hT, hC0⟩ := P9')
    (try dsimp only); (try k_sweep); (try k_fold)
  k_with "compareOp NotEq ref ref" =>
    rename News _ _ _ _ => lN'
    first
      | (k_dflt (refine' ke_ne_same (News.isList lN' ?za) (News.isList lN' ?zb) hi8 hidu ?zu ?_; (case za => k_mem); (case zb => k_mem); (case zu => ktr_units)))
      | (k_dflt (refine' ke_ne_same (News.isList lN' ?za) (News.isList lN' ?zb) hi8 hi3 ?zu ?_; (case za => k_mem); (case zb => k_mem); (case zu => ktr_units)))
      | (k_dflt (refine' ke_ne_ints (News.isList lN' ?za) (News.isList lN' ?zb) hidu hia ?zu ?_; (case za => k_mem); (case zb => k_mem); (case zu => ktr_units)))
  k_with "compareOp IsNot bool bool" =>
    k_dflt (refine wpAny_isNot_self (by rfl) ?_)
  k_with "GoodW cons ok" =>
    rename Fr _ _ _ _ => lF'
    k_dflt (exact law_end lF' (by assumption) (by rfl))
  k_with "GrownAll" =>
    rename News _ _ _ _ => lN'
    k_dflt (exact grown_end hT lN' (by k_mem))
  k_steps)
end
end Mine
theorem PySem.Challenge.cw_on0371_01_holds : PySem.Challenge.rw_on0371_01.Holds := by
  exact Mine.law_walk
