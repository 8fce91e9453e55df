import PyProof.Rows.All
import Wide.All
import OpenK.AllK
import Wide.FinOn
import Lean
import PySem.Challenge.RW_oj0030_01
open PySem PySem.W PyProof.Rows
set_option Elab.async false
set_option linter.unusedVariables false
set_option rowWalk.seconds 0
namespace Mine
theorem qe : @PyProof.Rows.importsNone = PyProof.Rows.importsNone := rfl
end Mine
name_quick tw10002761785312853091 for PyProof.Rows.importsNone by Mine.qe
name_quick tw9697512110049397445 for PyProof.Rows.importsNone by Mine.qe
name_quick tw7615264395923872581 for PyProof.Rows.importsNone by Mine.qe
name_quick tw5368380235373115269 for PyProof.Rows.importsNone by Mine.qe
name_quick tw16317912014791525384 for PyProof.Rows.importsNone by Mine.qe
name_quick tw1742388947695640072 for PyProof.Rows.importsNone by Mine.qe
name_quick tw8478436911231091946 for PyProof.Rows.importsNone by Mine.qe
name_quick tw12284757191763014986 for PyProof.Rows.importsNone by Mine.qe
name_quick tw5158170892008066961 for PyProof.Rows.importsNone by Mine.qe
name_quick tw4889476309725832403 for PyProof.Rows.importsNone by Mine.qe
name_quick tw7208748513896859956 for PyProof.Rows.importsNone by Mine.qe
name_quick tw12933145988944269653 for PyProof.Rows.importsNone by Mine.qe
name_quick tw17992926767131195383 for PyProof.Rows.importsNone by Mine.qe
name_quick tw17988542015724977305 for PyProof.Rows.importsNone by Mine.qe
name_quick tw16249284716132810425 for PyProof.Rows.importsNone by Mine.qe
name_quick tw13215998728584607739 for PyProof.Rows.importsNone by Mine.qe
name_quick tw8075568018651887793 for PyProof.Rows.importsNone by Mine.qe
name_quick tw16610689646536062925 for PyProof.Rows.importsNone by Mine.qe
name_quick tw14979626087600564940 for PyProof.Rows.importsNone by Mine.qe
name_quick tw2598896648098034083 for PyProof.Rows.importsNone by Mine.qe
name_quick tw15916391134991225584 for PyProof.Rows.importsNone by Mine.qe
name_quick tw730712270737158604 for PyProof.Rows.importsNone by Mine.qe
name_quick tw10181792811725400092 for PyProof.Rows.importsNone by Mine.qe
name_quick tw535072334866317008 for PyProof.Rows.importsNone by Mine.qe
name_quick tw16169079960738659147 for PyProof.Rows.importsNone by Mine.qe
name_quick tw11771066687659743156 for PyProof.Rows.importsNone by Mine.qe
name_quick tw13160144027095335755 for PyProof.Rows.importsNone by Mine.qe
name_quick tw12488000419048109807 for PyProof.Rows.importsNone by Mine.qe
name_quick tw6714822604882049554 for PyProof.Rows.importsNone by Mine.qe
name_quick tw9626621113073979434 for PyProof.Rows.importsNone by Mine.qe
name_quick tw12393455550290869266 for PyProof.Rows.importsNone by Mine.qe
name_quick tw13141144453892091621 for PyProof.Rows.importsNone by Mine.qe
name_quick tw11186114360453789277 for PyProof.Rows.importsNone by Mine.qe
name_quick tw14896874001708588922 for PyProof.Rows.importsNone by Mine.qe
name_quick tw15974313266725837768 for PyProof.Rows.importsNone by Mine.qe
name_quick tw14394814588863196821 for PyProof.Rows.importsNone by Mine.qe
name_quick tw470574548607681690 for PyProof.Rows.importsNone by Mine.qe
name_quick tw17111948838632640456 for PyProof.Rows.importsNone by Mine.qe
name_quick tw4679858250743294509 for PyProof.Rows.importsNone by Mine.qe
name_quick tw10029231156530900338 for PyProof.Rows.importsNone by Mine.qe
name_quick tw6148621092414575339 for PyProof.Rows.importsNone by Mine.qe
name_quick tw15041003319150489328 for PyProof.Rows.importsNone by Mine.qe
name_quick tw6179359751918216688 for PyProof.Rows.importsNone by Mine.qe
name_quick tw15902184279288820625 for PyProof.Rows.importsNone by Mine.qe
name_quick tw2502411970723609615 for PyProof.Rows.importsNone by Mine.qe
name_quick tw3619232141914619222 for PyProof.Rows.importsNone by Mine.qe
name_quick tw9467589175468403638 for PyProof.Rows.importsNone by Mine.qe
name_quick tw14126943448341045398 for PyProof.Rows.importsNone by Mine.qe
name_quick tw13900631225919944168 for PyProof.Rows.importsNone by Mine.qe
name_quick tw4071324889030633612 for PyProof.Rows.importsNone by Mine.qe
name_quick tw2460228577881660442 for PyProof.Rows.importsNone by Mine.qe
name_quick tw12268644228514654432 for PyProof.Rows.importsNone by Mine.qe
name_quick tw7401281599722004195 for PyProof.Rows.importsNone by Mine.qe
name_quick tw14023627001141898710 for PyProof.Rows.importsNone by Mine.qe
name_quick tw10819683100428557426 for PyProof.Rows.importsNone by Mine.qe
name_quick tw12832477231654346042 for PyProof.Rows.importsNone by Mine.qe
name_quick tw7299303143086499733 for PyProof.Rows.importsNone by Mine.qe
name_quick tw7581352650102555174 for PyProof.Rows.importsNone by Mine.qe
name_quick tw196644378293983589 for PyProof.Rows.importsNone by Mine.qe
name_quick tw3764465048917985505 for PyProof.Rows.importsNone by Mine.qe
name_quick tw4075660801711882420 for PyProof.Rows.importsNone by Mine.qe
name_quick tw14553827428707814869 for PyProof.Rows.importsNone by Mine.qe
name_quick tw313226197891681235 for PyProof.Rows.importsNone by Mine.qe
name_quick tw15980859228951719591 for PyProof.Rows.importsNone by Mine.qe
name_quick tw1370275717833778536 for PyProof.Rows.importsNone by Mine.qe
name_quick tw17975652961387846372 for PyProof.Rows.importsNone by Mine.qe
name_quick tw17476080006546285661 for PyProof.Rows.importsNone by Mine.qe
name_quick tw10317580896714288900 for PyProof.Rows.importsNone by Mine.qe
name_quick tw8719427161674164953 for PyProof.Rows.importsNone by Mine.qe
name_quick tw8753696776887207221 for PyProof.Rows.importsNone by Mine.qe
name_quick tw15376083050721069600 for PyProof.Rows.importsNone by Mine.qe
name_quick tw15034313371233782410 for PyProof.Rows.importsNone by Mine.qe
name_quick tw11636919720809706868 for PyProof.Rows.importsNone by Mine.qe
name_quick tw8206430501311747189 for PyProof.Rows.importsNone by Mine.qe
name_quick tw2447775223705975068 for PyProof.Rows.importsNone by Mine.qe
name_quick tw3880421473898291048 for PyProof.Rows.importsNone by Mine.qe
name_quick tw12224578244612797663 for PyProof.Rows.importsNone by Mine.qe
name_quick tw9285146279643344392 for PyProof.Rows.importsNone by Mine.qe
name_quick tw6722154040420286063 for PyProof.Rows.importsNone by Mine.qe
name_quick tw11519604305632133818 for PyProof.Rows.importsNone by Mine.qe
name_quick tw13642483538084851733 for PyProof.Rows.importsNone by Mine.qe
name_quick tw12635813782599140982 for PyProof.Rows.importsNone by Mine.qe
name_quick tw1869930749605803152 for PyProof.Rows.importsNone by Mine.qe
name_quick tw7286323032743288035 for PyProof.Rows.importsNone by Mine.qe
name_quick tw9376109419431680627 for PyProof.Rows.importsNone by Mine.qe
name_quick tw18273839248471157720 for PyProof.Rows.importsNone by Mine.qe
name_quick tw6127375697748050860 for PyProof.Rows.importsNone by Mine.qe
name_quick tw7035115661146626270 for PyProof.Rows.importsNone by Mine.qe
name_quick tw12734952128020822468 for PyProof.Rows.importsNone by Mine.qe
name_quick tw11838138170533393997 for PyProof.Rows.importsNone by Mine.qe
name_quick tw16697116713213952808 for PyProof.Rows.importsNone by Mine.qe
name_quick tw1574873078441994576 for PyProof.Rows.importsNone by Mine.qe
name_quick tw11939915149646268982 for PyProof.Rows.importsNone by Mine.qe
name_quick tw1258717718454355964 for PyProof.Rows.importsNone by Mine.qe
name_quick tw8098380416015320538 for PyProof.Rows.importsNone by Mine.qe
name_quick tw13317431791736044220 for PyProof.Rows.importsNone by Mine.qe
name_quick tw13145125596335152023 for PyProof.Rows.importsNone by Mine.qe
name_quick tw18101931140130867144 for PyProof.Rows.importsNone by Mine.qe
name_quick tw3436264866546951355 for PyProof.Rows.importsNone by Mine.qe
name_quick tw8119918657739134586 for PyProof.Rows.importsNone by Mine.qe
name_quick tw5701610774189311196 for PyProof.Rows.importsNone by Mine.qe
name_quick tw3442601649717412197 for PyProof.Rows.importsNone by Mine.qe
name_quick tw7788680626742099145 for PyProof.Rows.importsNone by Mine.qe
name_quick tw14285029430470858289 for PyProof.Rows.importsNone by Mine.qe
name_quick tw8642067239939848140 for PyProof.Rows.importsNone by Mine.qe
name_quick tw18220123701641295943 for PyProof.Rows.importsNone by Mine.qe
name_quick tw16916688483869632129 for PyProof.Rows.importsNone by Mine.qe
name_quick tw1617757218408452269 for PyProof.Rows.importsNone by Mine.qe
name_quick tw14530364306720264245 for PyProof.Rows.importsNone by Mine.qe
name_quick tw17730428716208468724 for PyProof.Rows.importsNone by Mine.qe
name_quick tw607167704815816724 for PyProof.Rows.importsNone by Mine.qe
name_quick tw16643379632663270332 for PyProof.Rows.importsNone by Mine.qe
name_quick tw11788150170368784547 for PyProof.Rows.importsNone by Mine.qe
name_quick tw18108327449220761227 for PyProof.Rows.importsNone by Mine.qe
name_quick tw3093977132361051618 for PyProof.Rows.importsNone by Mine.qe
name_quick tw17803129079492736432 for PyProof.Rows.importsNone by Mine.qe
name_quick tw3267979357774110234 for PyProof.Rows.importsNone by Mine.qe
name_quick tw11625766737575182897 for PyProof.Rows.importsNone by Mine.qe
name_quick tw13789449189825218787 for PyProof.Rows.importsNone by Mine.qe
name_quick tw9458956999447867950 for PyProof.Rows.importsNone by Mine.qe
name_quick tw12182807814244774211 for PyProof.Rows.importsNone by Mine.qe
name_quick tw17475289236778735526 for PyProof.Rows.importsNone by Mine.qe
name_quick tw7581816359482902497 for PyProof.Rows.importsNone by Mine.qe
name_quick tw10323183001455561277 for PyProof.Rows.importsNone by Mine.qe
name_quick tw1414301608579184545 for PyProof.Rows.importsNone by Mine.qe
name_quick tw2283851925072248500 for PyProof.Rows.importsNone by Mine.qe
name_quick tw7250012664060256230 for PyProof.Rows.importsNone by Mine.qe
name_quick tw5032809538720368765 for PyProof.Rows.importsNone by Mine.qe
name_quick tw4434333111790514575 for PyProof.Rows.importsNone by Mine.qe
name_quick tw11310463157757771331 for PyProof.Rows.importsNone by Mine.qe
name_quick tw15278061642289888581 for PyProof.Rows.importsNone by Mine.qe
name_quick tw9413167413068371254 for PyProof.Rows.importsNone by Mine.qe
name_quick tw14326252917377295143 for PyProof.Rows.importsNone by Mine.qe
name_quick tw16292439048969090190 for PyProof.Rows.importsNone by Mine.qe
name_quick tw16417370028952169744 for PyProof.Rows.importsNone by Mine.qe
name_quick tw16865151637890581275 for PyProof.Rows.importsNone by Mine.qe
name_quick tw6654550962395885724 for PyProof.Rows.importsNone by Mine.qe
name_quick tw7269565832213808900 for PyProof.Rows.importsNone by Mine.qe
name_quick tw5076957145309523181 for PyProof.Rows.importsNone by Mine.qe
name_quick tw10073347824450446311 for PyProof.Rows.importsNone by Mine.qe
name_quick tw724751600484774222 for PyProof.Rows.importsNone by Mine.qe
name_quick tw13678640442995254988 for PyProof.Rows.importsNone by Mine.qe
name_quick tw16374537267813192141 for PyProof.Rows.importsNone by Mine.qe
name_quick tw558745408833754511 for PyProof.Rows.importsNone by Mine.qe
name_quick tw15742981410569661332 for PyProof.Rows.importsNone by Mine.qe
name_quick tw15168306246750427876 for PyProof.Rows.importsNone by Mine.qe
name_quick tw13833065179229638619 for PyProof.Rows.importsNone by Mine.qe
name_quick tw3891137856419664920 for PyProof.Rows.importsNone by Mine.qe
name_quick tw17804436615005485693 for PyProof.Rows.importsNone by Mine.qe
name_quick tw563124612126607214 for PyProof.Rows.importsNone by Mine.qe
name_quick tw17026713947507217902 for PyProof.Rows.importsNone by Mine.qe
name_quick tw13981391230805400906 for PyProof.Rows.importsNone by Mine.qe
name_quick tw17554001833073541016 for PyProof.Rows.importsNone by Mine.qe
name_quick tw11543547407058413889 for PyProof.Rows.importsNone by Mine.qe
name_quick tw17325535178939296128 for PyProof.Rows.importsNone by Mine.qe
name_quick tw4681523508651956083 for PyProof.Rows.importsNone by Mine.qe
name_quick tw6245536207120538393 for PyProof.Rows.importsNone by Mine.qe
name_quick tw15195428891847259777 for PyProof.Rows.importsNone by Mine.qe
name_quick tw16817318245366136608 for PyProof.Rows.importsNone by Mine.qe
name_quick tw1962928258387122110 for PyProof.Rows.importsNone by Mine.qe
name_quick tw14224011070414065920 for PyProof.Rows.importsNone by Mine.qe
name_quick tw1702518465993881591 for PyProof.Rows.importsNone by Mine.qe
name_quick tw17943406268862710625 for PyProof.Rows.importsNone by Mine.qe
name_quick tw716658179208862652 for PyProof.Rows.importsNone by Mine.qe
name_quick tw5396446701170858492 for PyProof.Rows.importsNone by Mine.qe
name_quick tw7081425507203772304 for PyProof.Rows.importsNone by Mine.qe
name_quick tw10887116778572429059 for PyProof.Rows.importsNone by Mine.qe
name_quick tw3470799630455053000 for PyProof.Rows.importsNone by Mine.qe
name_quick tw16328912562034613984 for PyProof.Rows.importsNone by Mine.qe
name_quick tw4039474712603431140 for PyProof.Rows.importsNone by Mine.qe
name_quick tw1355338860687761863 for PyProof.Rows.importsNone by Mine.qe
name_quick tw16548257151911338427 for PyProof.Rows.importsNone by Mine.qe
name_quick tw6550987210724342151 for PyProof.Rows.importsNone by Mine.qe
name_quick tw5862295025349918931 for PyProof.Rows.importsNone by Mine.qe
name_quick tw17139780236743587250 for PyProof.Rows.importsNone by Mine.qe
name_quick tw6587116730350146372 for PyProof.Rows.importsNone by Mine.qe
name_quick tw16413264400604254196 for PyProof.Rows.importsNone by Mine.qe
name_quick tw1085346719588807367 for PyProof.Rows.importsNone by Mine.qe
name_quick tw7469732015759309437 for PyProof.Rows.importsNone by Mine.qe
name_quick tw12450158673883907302 for PyProof.Rows.importsNone by Mine.qe
name_quick tw18211773271919218964 for PyProof.Rows.importsNone by Mine.qe
name_quick tw13512673800721320934 for PyProof.Rows.importsNone by Mine.qe
name_quick tw13607416678640721797 for PyProof.Rows.importsNone by Mine.qe
name_quick tw16593013826814733010 for PyProof.Rows.importsNone by Mine.qe
name_quick tw10007627690174824804 for PyProof.Rows.importsNone by Mine.qe
name_quick tw6380047634161181297 for PyProof.Rows.importsNone by Mine.qe
name_quick tw5978237884098788730 for PyProof.Rows.importsNone by Mine.qe
name_quick tw3766158894648301139 for PyProof.Rows.importsNone by Mine.qe
name_quick tw17164873540382356111 for PyProof.Rows.importsNone by Mine.qe
name_quick tw12647630874787467225 for PyProof.Rows.importsNone by Mine.qe
name_quick tw17503288770812694035 for PyProof.Rows.importsNone by Mine.qe
name_quick tw5565278806992967083 for PyProof.Rows.importsNone by Mine.qe
name_quick tw11161088081135249708 for PyProof.Rows.importsNone by Mine.qe
name_quick tw5518745428033880147 for PyProof.Rows.importsNone by Mine.qe
name_quick tw10670733350059645105 for PyProof.Rows.importsNone by Mine.qe
name_quick tw1184552218554016812 for PyProof.Rows.importsNone by Mine.qe
name_quick tw9577309144901391297 for PyProof.Rows.importsNone by Mine.qe
name_quick tw15560853006256673968 for PyProof.Rows.importsNone by Mine.qe
name_quick tw17183712847048597117 for PyProof.Rows.importsNone by Mine.qe
name_quick tw6144853644547557980 for PyProof.Rows.importsNone by Mine.qe
name_quick tw2504098582860672743 for PyProof.Rows.importsNone by Mine.qe
name_quick tw12945968074294007009 for PyProof.Rows.importsNone by Mine.qe
name_quick tw5823794197072137003 for PyProof.Rows.importsNone by Mine.qe
name_quick tw8987815912523675519 for PyProof.Rows.importsNone by Mine.qe
name_quick tw4405960384096086239 for PyProof.Rows.importsNone by Mine.qe
name_quick tw9676229304581654039 for PyProof.Rows.importsNone by Mine.qe
name_quick tw4748654258956052638 for PyProof.Rows.importsNone by Mine.qe
name_quick tw8656719876789144132 for PyProof.Rows.importsNone by Mine.qe
name_quick tw12821735335276811757 for PyProof.Rows.importsNone by Mine.qe
name_quick tw8693227569615203950 for PyProof.Rows.importsNone by Mine.qe
name_quick tw618205885557783147 for PyProof.Rows.importsNone by Mine.qe
name_quick tw325292655437039998 for PyProof.Rows.importsNone by Mine.qe
name_quick tw10015664371746657536 for PyProof.Rows.importsNone by Mine.qe
name_quick tw16180483070735683940 for PyProof.Rows.importsNone by Mine.qe
name_quick tw17341736924252097559 for PyProof.Rows.importsNone by Mine.qe
name_quick tw5697894365363955025 for PyProof.Rows.importsNone by Mine.qe
name_quick tw14311459727803291754 for PyProof.Rows.importsNone by Mine.qe
name_quick tw10424941004445345732 for PyProof.Rows.importsNone by Mine.qe
name_quick tw13036272033356848781 for PyProof.Rows.importsNone by Mine.qe
name_quick tw15202239659555905331 for PyProof.Rows.importsNone by Mine.qe
name_quick tw1189734492583310 for PyProof.Rows.importsNone by Mine.qe
name_quick tw4936483359421988267 for PyProof.Rows.importsNone by Mine.qe
name_quick tw15468230090516036684 for PyProof.Rows.importsNone by Mine.qe
name_quick tw3131671291697673992 for PyProof.Rows.importsNone by Mine.qe
name_quick tw10919533547850550483 for PyProof.Rows.importsNone by Mine.qe
name_quick tw2193789692954389824 for PyProof.Rows.importsNone by Mine.qe
name_quick tw15423634916342008072 for PyProof.Rows.importsNone by Mine.qe
name_quick tw17352973434858128600 for PyProof.Rows.importsNone by Mine.qe
name_quick tw757081541053455785 for PyProof.Rows.importsNone by Mine.qe
name_quick tw17520869792638436183 for PyProof.Rows.importsNone by Mine.qe
name_quick tw14323765505736481980 for PyProof.Rows.importsNone by Mine.qe
name_quick tw6993175162768986339 for PyProof.Rows.importsNone by Mine.qe
name_quick tw6952355047532471503 for PyProof.Rows.importsNone by Mine.qe
name_quick tw6213141578215901147 for PyProof.Rows.importsNone by Mine.qe
name_quick tw9265879793445154701 for PyProof.Rows.importsNone by Mine.qe
name_quick tw11796506867022685745 for PyProof.Rows.importsNone by Mine.qe
name_quick tw10057510723706494237 for PyProof.Rows.importsNone by Mine.qe
name_quick tw8881496252177385917 for PyProof.Rows.importsNone by Mine.qe
name_quick tw16414604833108395602 for PyProof.Rows.importsNone by Mine.qe
name_quick tw14214133299417103183 for PyProof.Rows.importsNone by Mine.qe
name_quick tw1107438419126420414 for PyProof.Rows.importsNone by Mine.qe
name_quick tw6967401301877209104 for PyProof.Rows.importsNone by Mine.qe
name_quick tw10227693086864044499 for PyProof.Rows.importsNone by Mine.qe
name_quick tw11445135464325071761 for PyProof.Rows.importsNone by Mine.qe
name_quick tw4797165386629745026 for PyProof.Rows.importsNone by Mine.qe
name_quick tw7275051467321613617 for PyProof.Rows.importsNone by Mine.qe
name_quick tw151948405760981731 for PyProof.Rows.importsNone by Mine.qe
name_quick tw16349216596472256690 for PyProof.Rows.importsNone by Mine.qe
name_quick tw9504726810853072989 for PyProof.Rows.importsNone by Mine.qe
name_quick tw7397068168572129948 for PyProof.Rows.importsNone by Mine.qe
name_quick tw10352308551163946355 for PyProof.Rows.importsNone by Mine.qe
name_quick tw7503421922109321716 for PyProof.Rows.importsNone by Mine.qe
name_quick tw7009043117176579089 for PyProof.Rows.importsNone by Mine.qe
name_quick tw7299951869573292228 for PyProof.Rows.importsNone by Mine.qe
name_quick tw1886563365779066154 for PyProof.Rows.importsNone by Mine.qe
name_quick tw16494616584097029746 for PyProof.Rows.importsNone by Mine.qe
name_quick tw3325841961599345399 for PyProof.Rows.importsNone by Mine.qe
name_quick tw13471461260053382970 for PyProof.Rows.importsNone by Mine.qe
name_quick tw17100903815162463580 for PyProof.Rows.importsNone by Mine.qe
name_quick tw11707433790658880453 for PyProof.Rows.importsNone by Mine.qe
name_quick tw17842620306162639686 for PyProof.Rows.importsNone by Mine.qe
name_quick tw11957962974430299695 for PyProof.Rows.importsNone by Mine.qe
name_quick tw16792545251062261874 for PyProof.Rows.importsNone by Mine.qe
name_quick tw1708024556718086227 for PyProof.Rows.importsNone by Mine.qe
name_quick tw18345786424863182364 for PyProof.Rows.importsNone by Mine.qe
name_quick tw13871001218405608335 for PyProof.Rows.importsNone by Mine.qe
name_quick tw4172830789200971933 for PyProof.Rows.importsNone by Mine.qe
name_quick tw7504490480230193789 for PyProof.Rows.importsNone by Mine.qe
name_quick tw8450942572126056277 for PyProof.Rows.importsNone by Mine.qe
name_quick tw7499937903120025604 for PyProof.Rows.importsNone by Mine.qe
name_quick tw14209830616999942402 for PyProof.Rows.importsNone by Mine.qe
name_quick tw347637069881736656 for PyProof.Rows.importsNone by Mine.qe
name_quick tw11166942722945506595 for PyProof.Rows.importsNone by Mine.qe
name_quick tw15880737140895825463 for PyProof.Rows.importsNone by Mine.qe
name_quick tw8796240567053077481 for PyProof.Rows.importsNone by Mine.qe
name_quick tw7198390536060210744 for PyProof.Rows.importsNone by Mine.qe
name_quick tw15806122291839087668 for PyProof.Rows.importsNone by Mine.qe
name_quick tw13925586954763233925 for PyProof.Rows.importsNone by Mine.qe
name_quick tw11013792430000457035 for PyProof.Rows.importsNone by Mine.qe
name_quick tw2378363196638174374 for PyProof.Rows.importsNone by Mine.qe
name_quick tw8047484207015712433 for PyProof.Rows.importsNone by Mine.qe
name_quick tw8017206721242287953 for PyProof.Rows.importsNone by Mine.qe
name_quick tw17517737089405305841 for PyProof.Rows.importsNone by Mine.qe
name_quick tw2599325451414397859 for PyProof.Rows.importsNone by Mine.qe
name_quick tw11277413387252134812 for PyProof.Rows.importsNone by Mine.qe
name_quick tw4858009861420398278 for PyProof.Rows.importsNone by Mine.qe
name_quick tw17101871299007795629 for PyProof.Rows.importsNone by Mine.qe
name_quick tw17827458813498177553 for PyProof.Rows.importsNone by Mine.qe
name_quick tw10939839348159177617 for PyProof.Rows.importsNone by Mine.qe
name_quick tw15199281503961881116 for PyProof.Rows.importsNone by Mine.qe
name_quick tw2001226814458364393 for PyProof.Rows.importsNone by Mine.qe
name_quick tw9281714027785469542 for PyProof.Rows.importsNone by Mine.qe
name_quick tw9821368406582625841 for PyProof.Rows.importsNone by Mine.qe
name_quick tw930746551332336609 for PyProof.Rows.importsNone by Mine.qe
name_quick tw17814930658547583709 for PyProof.Rows.importsNone by Mine.qe
name_quick tw12835720964997663042 for PyProof.Rows.importsNone by Mine.qe
name_quick tw4527066259768149269 for PyProof.Rows.importsNone by Mine.qe
name_quick tw16643706677886111943 for PyProof.Rows.importsNone by Mine.qe
name_quick tw3315324234476444515 for PyProof.Rows.importsNone by Mine.qe
name_quick tw17434858337260393937 for PyProof.Rows.importsNone by Mine.qe
name_quick tw8400853705098224536 for PyProof.Rows.importsNone by Mine.qe
name_quick tw8424611434330503625 for PyProof.Rows.importsNone by Mine.qe
name_quick tw16296994325663420285 for PyProof.Rows.importsNone by Mine.qe
name_quick tw13236226663087606529 for PyProof.Rows.importsNone by Mine.qe
name_quick tw16439824349840649037 for PyProof.Rows.importsNone by Mine.qe
name_quick tw15007238320947547705 for PyProof.Rows.importsNone by Mine.qe
name_quick tw11277716924127702174 for PyProof.Rows.importsNone by Mine.qe
name_quick tw16049961110935095269 for PyProof.Rows.importsNone by Mine.qe
name_quick tw16979880578912567463 for PyProof.Rows.importsNone by Mine.qe
name_quick tw15736541856241217950 for PyProof.Rows.importsNone by Mine.qe
name_quick tw13559156169165276386 for PyProof.Rows.importsNone by Mine.qe
name_quick tw39160002569200845 for PyProof.Rows.importsNone by Mine.qe
name_quick tw16741492637210864865 for PyProof.Rows.importsNone by Mine.qe
name_quick tw18416463498863911781 for PyProof.Rows.importsNone by Mine.qe
name_quick tw900395245841561262 for PyProof.Rows.importsNone by Mine.qe
name_quick tw10205541121877940668 for PyProof.Rows.importsNone by Mine.qe
name_quick tw1735497430108182060 for PyProof.Rows.importsNone by Mine.qe
name_quick tw16241802466949684156 for PyProof.Rows.importsNone by Mine.qe
name_quick tw14821650378409806113 for PyProof.Rows.importsNone by Mine.qe
name_quick tw1102190903223815498 for PyProof.Rows.importsNone by Mine.qe
name_quick tw11306939235166856333 for PyProof.Rows.importsNone by Mine.qe
name_quick tw12290603225136948437 for PyProof.Rows.importsNone by Mine.qe
name_quick tw3094477031063562474 for PyProof.Rows.importsNone by Mine.qe
name_quick tw3152983702415266003 for PyProof.Rows.importsNone by Mine.qe
name_quick tw16145008321745377990 for PyProof.Rows.importsNone by Mine.qe
name_quick tw18056578402003937789 for PyProof.Rows.importsNone by Mine.qe
name_quick tw3856783459128436802 for PyProof.Rows.importsNone by Mine.qe
name_quick tw8603108125212654177 for PyProof.Rows.importsNone by Mine.qe
name_quick tw117213463901210413 for PyProof.Rows.importsNone by Mine.qe
name_quick tw3577408171920636059 for PyProof.Rows.importsNone by Mine.qe
name_quick tw3282434896037501709 for PyProof.Rows.importsNone by Mine.qe
name_quick tw4658958612460137192 for PyProof.Rows.importsNone by Mine.qe
name_quick tw16039550372008468697 for PyProof.Rows.importsNone by Mine.qe
name_quick tw7745614565497352828 for PyProof.Rows.importsNone by Mine.qe
name_quick tw392140993173905013 for PyProof.Rows.importsNone by Mine.qe
name_quick tw667198328695590252 for PyProof.Rows.importsNone by Mine.qe
name_quick tw10833955939284561965 for PyProof.Rows.importsNone by Mine.qe
name_quick tw14223099787259518943 for PyProof.Rows.importsNone by Mine.qe
name_quick tw2660918139993853925 for PyProof.Rows.importsNone by Mine.qe
name_quick tw13912434898499826684 for PyProof.Rows.importsNone by Mine.qe
name_quick tw1333364371103165705 for PyProof.Rows.importsNone by Mine.qe
name_quick tw6711915476519705758 for PyProof.Rows.importsNone by Mine.qe
name_quick tw17000458434675057986 for PyProof.Rows.importsNone by Mine.qe
name_quick tw17888162413812561239 for PyProof.Rows.importsNone by Mine.qe
name_quick tw11270796479367742343 for PyProof.Rows.importsNone by Mine.qe
name_quick tw4090926877573551719 for PyProof.Rows.importsNone by Mine.qe
name_quick tw219737044198020058 for PyProof.Rows.importsNone by Mine.qe
name_quick tw15263041282635125899 for PyProof.Rows.importsNone by Mine.qe
name_quick tw14073706353221006472 for PyProof.Rows.importsNone by Mine.qe
name_quick tw12233582284571471492 for PyProof.Rows.importsNone by Mine.qe
name_quick tw14971970265804392439 for PyProof.Rows.importsNone by Mine.qe
name_quick tw3362959441861295915 for PyProof.Rows.importsNone by Mine.qe
name_quick tw460243522976405022 for PyProof.Rows.importsNone by Mine.qe
name_quick tw13252181687094117063 for PyProof.Rows.importsNone by Mine.qe
name_quick tw8860024209350480642 for PyProof.Rows.importsNone by Mine.qe
name_quick tw5732905514179830355 for PyProof.Rows.importsNone by Mine.qe
name_quick tw17274371674624000324 for PyProof.Rows.importsNone by Mine.qe
name_quick tw8579058602437062094 for PyProof.Rows.importsNone by Mine.qe
name_quick tw13640514254501968386 for PyProof.Rows.importsNone by Mine.qe
name_quick tw2354101950205528012 for PyProof.Rows.importsNone by Mine.qe
name_quick tw12359285113459375979 for PyProof.Rows.importsNone by Mine.qe
name_quick tw15323854079317868165 for PyProof.Rows.importsNone by Mine.qe
name_quick tw11518781747449614426 for PyProof.Rows.importsNone by Mine.qe
name_quick tw5068434257544371817 for PyProof.Rows.importsNone by Mine.qe
name_quick tw16874561944515371726 for PyProof.Rows.importsNone by Mine.qe
name_quick tw18410474027866654770 for PyProof.Rows.importsNone by Mine.qe
name_quick tw8459811325457737761 for PyProof.Rows.importsNone by Mine.qe
name_quick tw15490439104401381959 for PyProof.Rows.importsNone by Mine.qe
name_quick tw9674257727999782656 for PyProof.Rows.importsNone by Mine.qe
name_quick tw16349804527192203551 for PyProof.Rows.importsNone by Mine.qe
name_quick tw13809362725867891129 for PyProof.Rows.importsNone by Mine.qe
name_quick tw16432479971616331241 for PyProof.Rows.importsNone by Mine.qe
name_quick tw9862997608875712007 for PyProof.Rows.importsNone by Mine.qe
name_quick tw18260038339965228139 for PyProof.Rows.importsNone by Mine.qe
name_quick tw1537898542681612871 for PyProof.Rows.importsNone by Mine.qe
name_quick tw9305782018832362445 for PyProof.Rows.importsNone by Mine.qe
name_quick tw7276740287692124622 for PyProof.Rows.importsNone by Mine.qe
name_quick tw14834023430324568649 for PyProof.Rows.importsNone by Mine.qe
name_quick tw10706342367453228570 for PyProof.Rows.importsNone by Mine.qe
name_quick tw11729385059970357855 for PyProof.Rows.importsNone by Mine.qe
name_quick tw16176465441171805009 for PyProof.Rows.importsNone by Mine.qe
name_quick tw2408619945344806742 for PyProof.Rows.importsNone by Mine.qe
name_quick tw16531745337717519161 for PyProof.Rows.importsNone by Mine.qe
name_quick tw5200128776193632040 for PyProof.Rows.importsNone by Mine.qe
name_quick tw15900120412870309639 for PyProof.Rows.importsNone by Mine.qe
name_quick tw3039592710220408265 for PyProof.Rows.importsNone by Mine.qe
name_quick tw6834602518627153040 for PyProof.Rows.importsNone by Mine.qe
name_quick tw11495947367809530248 for PyProof.Rows.importsNone by Mine.qe
name_quick tw17863021456227041891 for PyProof.Rows.importsNone by Mine.qe
name_quick tw7365555872484859036 for PyProof.Rows.importsNone by Mine.qe
name_quick tw1377046205977697930 for PyProof.Rows.importsNone by Mine.qe
name_quick tw16437185098154296904 for PyProof.Rows.importsNone by Mine.qe
name_quick tw13526986893379352335 for PyProof.Rows.importsNone by Mine.qe
name_quick tw16846860572762119324 for PyProof.Rows.importsNone by Mine.qe
name_quick tw7783732958741208154 for PyProof.Rows.importsNone by Mine.qe
name_quick tw16413963553889246368 for PyProof.Rows.importsNone by Mine.qe
name_quick tw505943868828395459 for PyProof.Rows.importsNone by Mine.qe
name_quick tw6457013986912069697 for PyProof.Rows.importsNone by Mine.qe
name_quick tw1503297043503765363 for PyProof.Rows.importsNone by Mine.qe
name_quick tw11462045893675790159 for PyProof.Rows.importsNone by Mine.qe
name_quick tw18350330562280901221 for PyProof.Rows.importsNone by Mine.qe
name_quick tw16180582048198870337 for PyProof.Rows.importsNone by Mine.qe
name_quick tw7802139600951554647 for PyProof.Rows.importsNone by Mine.qe
name_quick tw1620339239838986703 for PyProof.Rows.importsNone by Mine.qe
name_quick tw7955060689067889023 for PyProof.Rows.importsNone by Mine.qe
name_quick tw9206804518496725263 for PyProof.Rows.importsNone by Mine.qe
name_quick tw8620020772036689432 for PyProof.Rows.importsNone by Mine.qe
name_quick tw10042830170769951172 for PyProof.Rows.importsNone by Mine.qe
name_quick tw3355348695024010778 for PyProof.Rows.importsNone by Mine.qe
name_quick tw5450187663091677483 for PyProof.Rows.importsNone by Mine.qe
name_quick tw13581749221687468397 for PyProof.Rows.importsNone by Mine.qe
name_quick tw17913803186225011329 for PyProof.Rows.importsNone by Mine.qe
name_quick tw3386650904741475044 for PyProof.Rows.importsNone by Mine.qe
name_quick tw13776390136698705113 for PyProof.Rows.importsNone by Mine.qe
name_quick tw1092655722715705105 for PyProof.Rows.importsNone by Mine.qe
name_quick tw5189142188285759775 for PyProof.Rows.importsNone by Mine.qe
name_quick tw13016732220969518872 for PyProof.Rows.importsNone by Mine.qe
name_quick tw6090905460779295987 for PyProof.Rows.importsNone by Mine.qe
name_quick tw6580340599500149305 for PyProof.Rows.importsNone by Mine.qe
name_quick tw7483462131439158144 for PyProof.Rows.importsNone by Mine.qe
name_quick tw10758392820592806131 for PyProof.Rows.importsNone by Mine.qe
namespace Mine
set_option maxRecDepth 100000 in
set_option maxHeartbeats 8000000 in
open_top hd for PySem.Challenge.rw_oj0030_01
section
theorem lines_S0_0 : True := by
  k_with_none
  trivial
theorem warm : hd.heap_39 = hd.heap_39 ∧ PySem.Challenge.rw_oj0030_01 = PySem.Challenge.rw_oj0030_01 := by
  k_fill
  exact ⟨rfl, rfl⟩
/-- more room is a weaker promise -/
theorem around_le {α : Type} {M : Model} {t : Sem α} {Q : α → Shared → Prop} {E : Value → Shared → Prop} {s : Shared}
    {dp un D U : Nat} {gd : Option (List Code)} {cn : Str} {cs : Scope} {L a : Addr} {ccd : Value} {cl : List (Str × Addr)} {outer : List Env}
    (h : wpAny M (ktrTop D U none cn cs L a ccd cl outer) t Q E s) (h1 : dp ≤ D) (h2 : un ≤ U) :
    wpAny M (ktrTop dp un gd cn cs L a ccd cl outer) t Q E s := fun Γ p hΓ =>
  h Γ p ⟨hΓ.1, Nat.le_trans hΓ.2.1 h1, hΓ.2.2.1, (by intro g e; cases e), Nat.le_trans hΓ.2.2.2.2 h2⟩
/-- an entry taken out of a ledger -/
inductive Pick (d : Addr) (o : Obj) : List (Addr × Obj) → List (Addr × Obj) → Prop
  | head {r} : Pick d o ((d, o) :: r) r
  | tail {q r r'} : Pick d o r r' → Pick d o (q :: r) (q :: r')
theorem Pick.mem {d : Addr} {o : Obj} : ∀ {l r : List (Addr × Obj)}, Pick d o l r → ∀ q ∈ (d, o) :: r, q ∈ l
  | _, _, .head, _, h => h
  | _, _, .tail h, q, hq => by
    rcases List.mem_cons.mp hq with rfl | hq
    · exact .tail _ (h.mem _ (.head _))
    · rcases List.mem_cons.mp hq with rfl | hq
      · exact .head _
      · exact .tail _ (h.mem _ (.tail _ hq))
theorem Pick.news {h₀ h : Heap} {L d : Addr} {o : Obj} {l r : List (Addr × Obj)} (P : Pick d o l r) (N : News h₀ L h l) : News h₀ L h ((d, o) :: r) := fun q hq => N q (P.mem q hq)
theorem drinker {α : Type} {P : α → Prop} (h : Nonempty α) : ∃ x, P x → ∀ y, P y := by
  by_cases g : ∀ y, P y
  · exact h.elim fun a => ⟨a, fun _ => g⟩
  · obtain ⟨y, hy⟩ := Classical.not_forall.mp g
    exact ⟨y, fun z => absurd z hy⟩
def world0 : World := ⟨fun _ _ => 0, { strHash := fun _ => 0, shareClass := fun _ => 0, mergeTok := id, idOf := fun _ => 0, idOfShared := fun _ _ => 0, followText := fun _ => false, idOfImm := fun _ => 0 }⟩
end
section
open PySem.Calls Builtin Builtin.ObjectAttr
open Sem (wp)
set_option maxRecDepth 100000
theorem lines_X0_0 : True := by
  k_with_none
  trivial
/-- a tree that leaves every object's link to its dict as it is -/
def Tame {α : Type} : Sem α → Prop
  | .pure _ => True
  | .raise _ => True
  | .unsupported _ => True
  | .finish _ => True
  | .rule _ k => Tame (k ())
  | .at _ k => Tame (k ())
  | .load _ _ k => ∀ o, Tame (k o)
  | .update _ _ f k => (∀ o, (f o).dict = o.dict ∧ (f o).isFreed = o.isFreed) ∧ Tame (k ())
  | .loadIfAlive _ k => ∀ o, Tame (k o)
  | .point _ k => Tame (k ())
  | .register _ _ => True
  | .alloc _ k => ∀ a, Tame (k a)
  | .stack k => ∀ l, Tame (k l)
  | _ => False
def DictAt (h : Heap) (e : Addr) (d : Option Addr) : Prop := ∃ o, h.get? e = some o ∧ o.dict = d
theorem DictAt.push {h : Heap} {e : Addr} {d : Option Addr} (x : DictAt h e d) (o : Obj) : DictAt (h.push o) e d := let ⟨q, a, b⟩ := x; ⟨q, Heap.get?_push_of_some _ a, b⟩
theorem DictAt.update {h : Heap} {e a : Addr} {d : Option Addr} {f : Obj → Obj} (x : DictAt h e d) (hf : ∀ o, (f o).dict = o.dict ∧ (f o).isFreed = o.isFreed) : DictAt (h.update a f) e d := by
  obtain ⟨o, ho, hd⟩ := x
  by_cases q : a = e
  · subst q
    exact ⟨_, Heap.get?_update_self _ ho ((hf o).2.trans (Heap.get?_some_iff.mp ho).2), (hf o).1.trans hd⟩
  · exact ⟨o, (Heap.get?_update_other _ _ q).trans ho, hd⟩
theorem tame_wp {α : Type} {M : Model} {Γ : Ctx} {e : Addr} {d : Option Addr} : ∀ {t : Sem α} {Q : α → Pos → Shared → Prop} {E : Value → Pos → Shared → Prop} {p : Pos} {s : Shared},
    Tame t → wp M Γ t Q E p s → DictAt s.heap e d → wp M Γ t (fun a p s' => Q a p s' ∧ DictAt s'.heap e d) E p s := by
  intro t
  induction t with
  | pure a => intro Q E p s _ h x; rw [Sem.wp] at h ⊢; exact ⟨h, x⟩
  | raise v => intro Q E p s _ h x; rw [Sem.wp] at h ⊢; exact h
  | unsupported _ => intro Q E p s _ h x; rw [Sem.wp] at h; exact h.elim
  | finish _ => intro Q E p s _ h x; rw [Sem.wp] at h; exact h.elim
  | rule _ k ih => intro Q E p s T h x; rw [Sem.wp] at h ⊢; exact ih () T h x
  | «at» _ k ih => intro Q E p s T h x; rw [Sem.wp] at h ⊢; exact ih () T h x
  | load a _ k ih => intro Q E p s T h x; rw [Sem.wp] at h ⊢; obtain ⟨o, ho, h⟩ := h; exact ⟨o, ho, ih o (T o) h x⟩
  | update a _ f k ih => intro Q E p s T h x; rw [Sem.wp] at h ⊢; exact ⟨h.1, ih () T.2 h.2 (x.update T.1)⟩
  | loadIfAlive a k ih => intro Q E p s T h x; rw [Sem.wp] at h ⊢; exact ih _ (T _) h x
  | point _ k ih => intro Q E p s T h x; rw [Sem.wp] at h ⊢; exact ih () T h x
  | register _ _ => intro Q E p s _ h x; rw [Sem.wp] at h; exact h.elim
  | alloc o k ih => intro Q E p s T h x; rw [Sem.wp] at h ⊢; exact ih _ (T _) h (x.push o)
  | stack k ih => intro Q E p s T h x; rw [Sem.wp] at h ⊢; exact ih _ (T _) h x
  | _ => intro Q E p s T; exact T.elim
theorem tame_any {α : Type} {M : Model} {A : Around} {e : Addr} {d : Option Addr} {t : Sem α} {Q : α → Shared → Prop} {E : Value → Shared → Prop} {s : Shared}
    (T : Tame t) (x : DictAt s.heap e d) (h : wpAny M A t Q E s) : wpAny M A t (fun a s' => Q a s' ∧ DictAt s'.heap e d) E s := fun Γ p hΓ => tame_wp T (h Γ p hΓ) x
theorem Tame.bind {α β : Type} {m : Sem α} {f : α → Sem β} (T : Tame m) (U : ∀ a, Tame (f a)) : Tame (m >>= f) := by
  show Tame (m.bind f)
  induction m with
  | pure a => exact U a
  | raise _ => trivial
  | unsupported _ => trivial
  | finish _ => trivial
  | rule _ k ih => exact ih () T
  | «at» _ k ih => exact ih () T
  | load a _ k ih => exact fun o => ih o (T o)
  | update a _ f k ih => exact ⟨T.1, ih () T.2⟩
  | loadIfAlive a k ih => exact fun o => ih o (T o)
  | point _ k ih => exact ih () T
  | register _ _ => trivial
  | alloc o k ih => exact fun o => ih o (T o)
  | stack k ih => exact fun o => ih o (T o)
  | _ => exact T.elim
theorem Tame.load {a : Addr} : Tame (load a) := fun _ => trivial
theorem Tame.stack : Tame stack := fun _ => trivial
theorem Tame.update {a : Addr} {f : Obj → Obj} (hf : ∀ o, (f o).dict = o.dict ∧ (f o).isFreed = o.isFreed) : Tame (update a f) := ⟨hf, trivial⟩
theorem Tame.alloc {o : Obj} : Tame (alloc o) := fun _ => trivial
theorem tame_fieldsOf (v : Value) : Tame (fieldsOf v) := by
  unfold fieldsOf
  split
  · exact Tame.load.bind fun o => by split <;> trivial
  · trivial
theorem tame_field (v : Value) (i : Nat) : Tame (field v i) := by
  unfold field
  exact (tame_fieldsOf v).bind fun o => by split <;> trivial
theorem mapFields_dict (f : Array Value → Array Value) (o : Obj) : (Obj.mapFields f o).dict = o.dict ∧ (Obj.mapFields f o).isFreed = o.isFreed := by
  obtain ⟨c, d, dt, sl⟩ := o
  cases dt <;> exact ⟨rfl, rfl⟩
theorem tame_setField (v : Value) (i : Nat) (x : Value) : Tame (setField v i x) := by
  unfold setField
  split
  · unfold updateField
    refine Tame.load.bind fun o => ?_
    split
    · split
      · exact Tame.update fun o => mapFields_dict _ o
      · trivial
    · trivial
  · trivial
theorem tame_ready : ∀ l : List Env, Tame (readyFrames l)
  | [] => trivial
  | env :: outer => by
    unfold readyFrames
    split
    · refine Tame.load.bind fun o => ?_
      split
      · trivial
      · refine Tame.bind (m := behindIsImport env outer) ?_ fun b => ?_
        · unfold behindIsImport
          split
          · trivial
          · split
            · trivial
            · exact (tame_field _ _).bind fun _ => trivial
        · refine Tame.bind (m := keptBack env b outer) ?_ fun v => ?_
          · unfold keptBack
            split
            · split
              · trivial
              · exact Tame.bind (Tame.bind Tame.stack fun _ => trivial) fun _ => by split <;> trivial
            · trivial
          · exact Tame.bind (Tame.update fun o => ⟨rfl, kts_isFreed o _⟩) fun _ => tame_ready outer
    · trivial
theorem tame_frameOf (env : Env) : Tame (PySem.frameOf env) := by
  unfold PySem.frameOf
  refine Tame.bind (m := frameEnvs) (Tame.bind Tame.stack fun _ => trivial) fun l => Tame.bind ?_ fun o => by split <;> trivial
  unfold frameObject
  split
  · trivial
  · exact (tame_ready _).bind fun _ => trivial
theorem Tame.ite {α : Type} {c : Prop} [Decidable c] {a b : Sem α} (x : Tame a) (y : Tame b) : Tame (if c then a else b) := by split <;> assumption
theorem newAsIs {T : String} {d : Data} : Tame (newObjAsIs (.type T) d) := by
  unfold newObjAsIs
  exact Tame.alloc.bind fun _ => trivial
theorem tame_newEntry (a b c d e : Value) (l : List Value) : Tame (EntryCells.newEntry a b c d e l) := by
  unfold EntryCells.newEntry newFields newObj
  dsimp only
  refine Tame.ite (Tame.bind (m := unsupported _) trivial fun _ => newAsIs) newAsIs
theorem tame_entryPlace (f : Addr) (b : Bool) : Tame (entryPlaceOf f b) := by
  unfold entryPlaceOf
  refine Tame.stack.bind fun l => ?_
  dsimp only
  split <;> trivial
theorem tame_noteFrame (v : Value) (env : Env) : Tame (noteFrame v env) := by
  have last : ∀ f h, Tame (do setField v 1 (← EntryCells.newEntry h (← PySem.frameOf env) .none (rawInt f) .none (← entryPlaceOf f (h != .none)))) := fun f h =>
    (tame_frameOf env).bind fun _ => (tame_entryPlace _ _).bind fun _ => (tame_newEntry _ _ _ _ _ _).bind fun _ => tame_setField _ _ _
  unfold noteFrame
  split
  · refine (tame_field _ _).bind fun h => ?_
    split
    · refine (tame_field _ _).bind fun x => ?_
      split
      · trivial
      · exact (tame_setField _ _ _).bind fun _ => last _ _
    · exact last _ _
  · trivial
theorem tame_setFlight (v : Value) (f : Option Addr) : Tame (setFlight v f) := by
  unfold setFlight
  refine (tame_field _ _).bind fun h => ?_
  split
  · exact tame_setField _ _ _
  · trivial
theorem tame_leaving (env : Env) (v : Value) : Tame (leaving env v) := (tame_noteFrame v env).bind fun _ => tame_setFlight v none
end
section
set_option maxRecDepth 100000
theorem lines_R0_0 : True := by
  k_with_none
  trivial
section
variable {prog : Program} {w : World} {A : Around} {E : Value → Shared → Prop} {s : Shared}
theorem sz_le {a n m k : Nat} (h : n + m ≤ 20000) : min a n - 0 + m + (min n n - k) ≤ 16777216 + 1 := by
  have h1 : min a n - 0 ≤ n := Nat.le_trans (Nat.sub_le _ _) (Nat.min_le_right a n)
  have h2 : min n n - k ≤ n := Nat.le_trans (Nat.sub_le _ _) (Nat.min_le_left n n)
  exact Nat.le_trans (Nat.add_le_add (Nat.add_le_add_right h1 m) h2) (by omega)
theorem setItem_slice {c sl d : Addr} {items new : Array Value} {x y : Int} {tx ty : Tok} {Q : Unit → Shared → Prop} (hl : s.heap.IsList c items) (hd : s.heap.IsList d new)
    (hs : s.heap.IsSliceOf sl (.int x tx) (.int y ty) .none) (hx : 0 ≤ x) (hxy : x ≤ y) (hy : y ≤ items.size) (hz : items.size + new.size ≤ 20000)
    (h : Q () { s with heap := s.heap.update c (Obj.mapSeq fun xs => xs.extract 0 x.toNat ++ new ++ xs.extract y.toNat xs.size) }) :
    wpAny (model prog w) A (setItem (.ref c) (.ref sl) (.ref d)) Q E s := by
  obtain ⟨o, ho, hc, ne, hdt⟩ := id hl
  obtain ⟨od, hod, hdc, nd, hdd⟩ := id hd
  obtain ⟨os, hos, hcs, hds⟩ := id hs
  have hTs : s.TypeIs (.ref sl) "slice" := ⟨os, hos, hcs⟩
  have hTd : s.TypeIs (.ref d) "list" := ⟨od, hod, hdc⟩
  have eb : sliceBounds (some x) (some y) none items.size = (x, y, 1) := by
    have h1 : (1 : Int) > 0 := by decide
    simp only [sliceBounds, Option.getD_none, h1, if_true]
    refine Prod.ext ?_ (Prod.ext ?_ rfl)
    · show max 0 (min (if x < 0 then x + items.size else x) (items.size : Int)) = x
      rw [if_neg (by omega)]; omega
    · show max 0 (min (if y < 0 then y + items.size else y) (items.size : Int)) = y
      rw [if_neg (by omega)]; omega
  unfold setItem
  try with_reducible refine wpAny_holding ?_
  first | refine wpAny_bind (wpAny_pure ?_) | skip
  refine wpAny_bind (wpAny_sequenceKey hl.typeIs (by decide) ?_)
  refine wpAny_bind (wpAny_callSpecial?_slot (name := Str.ofString "__setitem__") hl.typeIs slot_list_setitem
    (wpAny_call_entry slot_list_setitem hl.typeIs entry_list_setitem ?_ (args_list_setitem _ _ _)))
  show wpAny _ _ (Builtin.List.listSubscript? (.ref sl) >>= _) _ _ s
  refine wpAny_bind ?_
  unfold Builtin.List.listSubscript?
  refine wpAny_bind (wpAny_specialOf hTs slice_no_index ?_)
  simp only [Option.isNone_none, if_true]
  refine wpAny_pure ?_
  show wpAny _ _ (typeOf (.ref sl) >>= _) _ _ s
  refine wpAny_bind (wpAny_typeOf hTs ?_)
  rw [if_neg (by decide)]
  rw [listSliceParts_eq]
  refine wpAny_bind (wpAny_bind (wpAny_field hos hds (x := .none) rfl (wpAny_bind (wpAny_listPart .none ?_))))
  rw [if_neg (show ¬ ((rawPart none == rawInt 0) = true) from Bool.false_ne_true)]
  refine wpAny_bind (wpAny_field hos hds (x := .int x tx) rfl (wpAny_bind (wpAny_listPart (.int x tx) ?_)))
  refine wpAny_bind (wpAny_field hos hds (x := .int y ty) rfl (wpAny_bind (wpAny_listPart (.int y ty) (wpAny_pure ?_))))
  have hit : ∀ {R : Array Value → Shared → Prop} {E' : Value → Shared → Prop} {A' : Around}, R new s → wpAny (model prog w) A' (Builtin.List.listItems (.ref d)) R E' s := fun hR => by
    unfold Builtin.List.listItems
    exact wpAny_bind (wpAny_seqItems hod hdd (wpAny_pure hR))
  have hall : ∀ {R : Array Value → Shared → Prop} {E' : Value → Shared → Prop} {A' : Around}, R new s → wpAny (model prog w) A' (Builtin.List.listAllItems (.ref d) "must assign iterable to extended slice") R E' s := fun hR => by
    unfold Builtin.List.listAllItems
    refine wpAny_bind (wpAny_typeOf hTd ?_)
    rw [if_pos (by decide)]
    exact hit hR
  have emax : (max x y).toNat = y.toNat := by rw [Int.max_eq_right hxy]
  refine wpAny_ite ?_
  split
  · refine wpAny_bind (m := Builtin.List.listItems (.ref d)) (hit ?_)
    refine wpAny_bind (m := Builtin.List.listItems (.ref c)) ?_
    unfold Builtin.List.listItems
    refine wpAny_bind (wpAny_seqItems ho hdt (wpAny_pure ?_))
    refine wpAny_bind (wpAny_of_eq (sliceIndices_raw (some x) (some y) none items.size (by simp)) ?_)
    rw [eb]
    show wpAny _ _ (if ((1 : Int) == 1) = true then _ else _) _ _ s
    rw [if_pos (by decide)]
    refine wpAny_bind (wpAny_rule ?_)
    rw [if_neg (by unfold Builtin.List.listTooLong; rw [sizeLine_eq]; simp; omega)]
    dsimp only
    rw [emax]
    refine wpAny_bind (listUpdate_at ho hdt ?_ (by rw [sizeLine_eq]; omega) (by simp only [Array.size_append, Array.size_extract]; rw [sizeLine_eq]; exact sz_le hz))
    refine wpAny_bind (wpAny_letGo ?_)
    first
      | exact wpAny_bind (wpAny_pure (wpAny_pure ⟨.none, rfl, wpAny_pure h⟩))
      | exact wpAny_pure ⟨.none, rfl, wpAny_pure h⟩
  · refine wpAny_bind (m := Builtin.List.listAllItems (.ref d) "must assign iterable to extended slice") (hall ?_)
    refine wpAny_bind (m := Builtin.List.listItems (.ref c)) ?_
    unfold Builtin.List.listItems
    refine wpAny_bind (wpAny_seqItems ho hdt (wpAny_pure ?_))
    refine wpAny_bind (wpAny_of_eq (sliceIndices_raw (some x) (some y) none items.size (by simp)) ?_)
    rw [eb]
    show wpAny _ _ (if ((1 : Int) == 1) = true then _ else _) _ _ s
    rw [if_pos (by decide)]
    refine wpAny_bind (wpAny_rule ?_)
    rw [if_neg (by unfold Builtin.List.listTooLong; rw [sizeLine_eq]; simp; omega)]
    dsimp only
    rw [emax]
    refine wpAny_bind (listUpdate_at ho hdt ?_ (by rw [sizeLine_eq]; omega) (by simp only [Array.size_append, Array.size_extract]; rw [sizeLine_eq]; exact sz_le hz))
    refine wpAny_bind (wpAny_letGo ?_)
    first
      | exact wpAny_bind (wpAny_pure (wpAny_pure ⟨.none, rfl, wpAny_pure h⟩))
      | exact wpAny_pure ⟨.none, rfl, wpAny_pure h⟩
end
theorem ints_append : ∀ {vs ws : List Value} {ns zs : List Int}, IntsAre vs ns → IntsAre ws zs → IntsAre (vs ++ ws) (ns ++ zs)
  | _, _, _, _, .nil, h => h
  | _, _, _, _, .cons n t h', h => .cons n t (ints_append h' h)
theorem ints_take : ∀ (k : Nat) {vs : List Value} {ns : List Int}, IntsAre vs ns → IntsAre (vs.take k) (ns.take k)
  | 0, _, _, _ => by simpa using IntsAre.nil
  | _ + 1, _, _, .nil => .nil
  | k + 1, _, _, .cons n t h => .cons n t (ints_take k h)
theorem ints_drop : ∀ (k : Nat) {vs : List Value} {ns : List Int}, IntsAre vs ns → IntsAre (vs.drop k) (ns.drop k)
  | 0, _, _, h => h
  | _ + 1, _, _, .nil => .nil
  | k + 1, _, _, .cons _ _ h => ints_drop k h
section
variable {prog : Program} {w : World} {A : Around} {E : Value → Shared → Prop} {s : Shared} {h₀ : Heap} {L c d l : Addr} {m : Str → Option Value} {news : List (Addr × Obj)} {value slice : PySem.Expr} {vs ws : List Value} {ns zs : List Int} {x y : Int} {n n' : Nat}
theorem my_setslice {Q : Unit → Shared → Prop} {g : Obj → List (Addr × Obj)} {tx ty : Tok} (F : Fr h₀ L s.heap m) (N : News h₀ L s.heap news) (hm : (d, listOf ws.toArray n') ∈ news) (U : UpdF c (listOf vs.toArray n) news g)
    (hi : IntsAre vs ns) (hw : IntsAre ws zs) (hx : 0 ≤ x) (hxy : x ≤ y) (hy : y ≤ ns.length) (hz : ns.length + zs.length ≤ 20000)
    (h : ∀ vs' n2 h' ns', Fr h₀ L h' m → News h₀ L h' (g (listOf (List.toArray vs') n2)) → IntsAre vs' ns' → ns' = ns.take x.toNat ++ zs ++ ns.drop y.toNat → (ns'.length : Int) = ns.length - (y - x) + zs.length → Q () { s with heap := h' }) :
    wpAny (model prog w) A (setItem (.ref c) (.ref s.heap.objs.size) (.ref d)) Q E { s with heap := s.heap.push { cls := .type "slice", data := .fields #[.int x tx, .int y ty, .none] } } := by
  obtain ⟨pre, post, rfl, hg, a, b⟩ := U.split
  have z := N (c, listOf vs.toArray n) (List.mem_append.mpr (.inr (.head _)))
  have e1 : vs.length = ns.length := hi.length
  have e2 : ws.length = zs.length := hw.length
  have Np : News h₀ L (s.heap.push { cls := .type "slice", data := .fields #[.int x tx, .int y ty, .none] }) (pre ++ (c, listOf vs.toArray n) :: post) := fun q hq => ⟨Heap.get?_push_of_some _ (N q hq).1, (N q hq).2⟩
  have hc : (s.heap.push { cls := .type "slice", data := .fields #[.int x tx, .int y ty, .none] }).IsList c vs.toArray := News.isList Np (List.mem_append.mpr (.inr (.head _)))
  have hd : (s.heap.push { cls := .type "slice", data := .fields #[.int x tx, .int y ty, .none] }).IsList d ws.toArray := News.isList Np hm
  refine setItem_slice (s := { s with heap := _ }) hc hd (Heap.IsSliceOf.new ..) hx hxy (by rw [List.size_toArray]; omega) (by rw [List.size_toArray, List.size_toArray]; omega) ?_
  have ef : (vs.toArray.extract 0 x.toNat ++ ws.toArray ++ vs.toArray.extract y.toNat vs.toArray.size) = (vs.take x.toNat ++ ws ++ vs.drop y.toNat).toArray := by
    apply Array.toList_inj.mp
    simp
    exact List.take_of_length_le (by rw [List.length_drop]; omega)
  have hn := ki_turn (fun xs => xs.extract 0 x.toNat ++ ws.toArray ++ xs.extract y.toNat xs.size) Np a b ef rfl
  refine h _ _ _ _ (((F.push _).change (Heap.SameBut.update ..) z.2.1 z.2.2)) (hg _ ▸ hn) (ints_append (ints_append (ints_take _ hi) hw) (ints_drop _ hi)) rfl ?_
  simp only [List.length_append, List.length_take, List.length_drop]
  rw [Nat.min_eq_left (Int.toNat_le.mpr (Int.le_trans hxy hy)), Int.natCast_add, Int.natCast_add, Int.toNat_of_nonneg hx, Int.ofNat_sub (Int.toNat_le.mpr hy), Int.toNat_of_nonneg (Int.le_trans hx hxy)]
  omega
/-- a slice of ints, both ends within or beyond -/
theorem my_slice {Q : Value → Shared → Prop} {tx ty : Tok} (F : Fr h₀ L s.heap m) (N : News h₀ L s.heap news) (hl : (l, listOf vs.toArray n) ∈ news) (hi : IntsAre vs ns) (hx : 0 ≤ x) (hy : 0 ≤ y) (hz : ns.length ≤ 10000)
    (h : ∀ D ws h' zs, Fr h₀ L h' m → News h₀ L h' ((D, listOf (List.toArray ws) 0) :: news) → (∀ p ∈ news, p.1 < D) → IntsAre ws zs → zs = (ns.drop x.toNat).take (y.toNat - x.toNat) → zs.length = min (y.toNat - x.toNat) (ns.length - x.toNat) → Q (.ref D) { s with heap := h' })
    (hs : subscripted slice false (.ref l) (.ref s.heap.objs.size) = operate [.ref s.heap.objs.size, .ref l] (getItem (.ref l) (.ref s.heap.objs.size))) (ht : ∀ r, letTemporaryGo value (.ref l) r = pure ()) :
    wpAny (model prog w) A (subscriptTail value slice (.ref l) (.ref s.heap.objs.size)) Q E { s with heap := s.heap.push { cls := .type "slice", data := .fields #[.int x tx, .int y ty, .none] } } := by
  have e : (ns.drop x.toNat).take (min y.toNat ns.length - x.toNat) = (ns.drop x.toNat).take (y.toNat - x.toNat) := by
    by_cases q : y.toNat ≤ ns.length
    · rw [Nat.min_eq_left q]
    · rw [Nat.min_eq_right (by omega), List.take_of_length_le (by rw [List.length_drop]; omega), List.take_of_length_le (by rw [List.length_drop]; omega)]
  refine kmk_slice_ints (c := _) F N (News.isList N hl) (.int x tx) (.int y ty) hi (kmk_run hi hx hy) rfl (fun D ws h' F' N' l1 hi' _ _ => h D ws h' _ F' N' l1 hi' e ?_) hs ht ?_
  · rw [e, List.length_take, List.length_drop]
  · rw [kmk_size_eq hi, sizeLine_eq]; omega
theorem my_len {Q : Value → Shared → Prop} (N : News h₀ L s.heap news) (hl : (l, listOf vs.toArray n) ∈ news) (hi : IntsAre vs ns) (hz : ns.length ≤ 10000)
    (h : Q (.int ns.length (s.toks + 1)) { s with toks := s.toks + 2 }) : wpAny (model prog w) A (call (.builtin "len") [.ref l]) Q E s := by
  have e := kmk_size_eq hi
  exact len_list (News.isList N hl) (by rw [e]; omega) (by rw [e]; exact h)
end
end
section
set_option maxRecDepth 100000
theorem lines_C0_0 : True := by
  k_with_none
  trivial
/-- what every call stands on -/
structure Cx (w : World) (p : Program) (loose : List Str) (mean : ExcName → Option Value) (mg mb : Str → Option Value) (A₀ : Around) (base : Heap) (outer : List Env) (h₀ : Heap) (L : Addr) (h : Heap) (m : Str → Option Value) (cs : Scope) : Prop where
  B : Below A₀ base outer h₀
  F : Fr h₀ L h m
  X : (hd.heap_39 w.params).In h₀
  T : Top p loose mean mg mb h₀
  hk : cs.kind = .function
inductive Picks : List (Addr × Obj) → List (Addr × Obj) → List (Addr × Obj) → Prop
  | nil {l} : Picks [] l l
  | cons {d o ds l r r'} : Pick d o l r → Picks ds r r' → Picks ((d, o) :: ds) l r'
theorem Picks.mem : ∀ {ds l r : List (Addr × Obj)}, Picks ds l r → ∀ q ∈ ds ++ r, q ∈ l
  | _, _, _, .nil, _, h => h
  | _, _, _, .cons P Ps, q, hq => by
    rcases List.mem_cons.mp hq with rfl | hq
    · exact P.mem _ (.head _)
    · exact P.mem _ (.tail _ (Ps.mem _ hq))
/-- the end of a list -/
inductive Suff : List (Addr × Obj) → List (Addr × Obj) → Prop
  | refl {l} : Suff l l
  | tail {q l r} : Suff l r → Suff l (q :: r)
theorem Suff.mem : ∀ {l r : List (Addr × Obj)}, Suff l r → ∀ q ∈ l, q ∈ r
  | _, _, .refl, _, h => h
  | _, _, .tail h, q, hq => .tail _ (h.mem q hq)
theorem news_picks {h₀ h : Heap} {L : Addr} {ds l r : List (Addr × Obj)} (N : News h₀ L h l) (P : Picks ds l r) : News h₀ L h (ds ++ r) := fun q hq => N q (P.mem q hq)
theorem news_back {h₀ h : Heap} {L : Addr} {ds l r rest : List (Addr × Obj)} (N : News h₀ L h l) (P : Picks ds l r) (S : Suff rest r) : News h₀ L h (ds ++ rest) := fun q hq => N q (P.mem q (by
  rcases List.mem_append.mp hq with hq | hq
  · exact List.mem_append_left _ hq
  · exact List.mem_append_right _ (S.mem q hq)))
theorem Pick.mem' {d : Addr} {o : Obj} : ∀ {l r : List (Addr × Obj)}, Pick d o l r → ∀ q ∈ l, q ∈ (d, o) :: r
  | _, _, .head, _, h => h
  | _, _, .tail h, q, hq => by
    rcases List.mem_cons.mp hq with rfl | hq
    · exact .tail _ (.head _)
    · rcases List.mem_cons.mp (h.mem' q hq) with rfl | hq
      · exact .head _
      · exact .tail _ (.tail _ hq)
theorem Picks.mem' : ∀ {ds l r : List (Addr × Obj)}, Picks ds l r → ∀ q ∈ l, q ∈ ds ++ r
  | _, _, _, .nil, _, h => h
  | _, _, _, .cons P Ps, q, hq => by
    rcases List.mem_cons.mp (P.mem' q hq) with rfl | hq
    · exact .head _
    · exact .tail _ (Ps.mem' q hq)
/-- nothing of the ledger was turned: it is as it was -/
theorem news_unpick {h₀ h : Heap} {L : Addr} {ds l r l' r' : List (Addr × Obj)} (N : News h₀ L h l') (P' : Picks ds l' r') (S : Suff r r') (P : Picks ds l r) : News h₀ L h l := fun q hq => news_back N P' S q (P.mem' q hq)
theorem news_unpick1 {h₀ h : Heap} {L d : Addr} {o : Obj} {ds l r l' r' : List (Addr × Obj)} (N : News h₀ L h l') (P' : Picks ((d, o) :: ds) l' r') (S : Suff r r') (P : Picks ds l r) : News h₀ L h ((d, o) :: l) := fun q hq => by
  rcases List.mem_cons.mp hq with rfl | hq
  · exact news_back N P' S _ (.head _)
  · exact news_back N P' S q (.tail _ (P.mem' q hq))
theorem lt_of_all {d : Addr} {l : List (Addr × Obj)} (h : AllLt d l) : ∀ q ∈ l, q.1 < d := by
  induction l with
  | nil => intro q hq; cases hq
  | cons p r ih =>
    intro q hq
    rcases List.mem_cons.mp hq with rfl | hq
    · exact h.1
    · exact ih h.2 q hq
theorem Picks.lt {d : Addr} {ds l r : List (Addr × Obj)} (P : Picks ds l r) (h : AllLt d (ds ++ r)) : ∀ q ∈ l, q.1 < d := fun q hq => lt_of_all h q (P.mem' q hq)
theorem ne_of_all {d : Addr} {l : List (Addr × Obj)} (h : AllLt d l) : ∀ q ∈ l, q.1 ≠ d := fun q hq => Nat.ne_of_lt (lt_of_all h q hq)
theorem fr_binds {h₀ h : Heap} {L : Addr} {binds bs : List (Str × Value)} (F : Fr h₀ L h (fun y => binds.reverse.lookup y)) (e : binds = bs) : Fr h₀ L h (fun y => bs.reverse.lookup y) := e ▸ F
/-- the text of a gap text -/
def gtext (ns : List Int) (gs ge : Int) : List Int := ns.take gs.toNat ++ ns.drop ge.toNat
theorem tn {i : Int} {n : Nat} (e : i = n) : i.toNat = n := e ▸ rfl
theorem take_len {ns : List Int} {n : Nat} (h : n ≤ ns.length) : (ns.take n).length = n := (List.length_take ..).trans (Nat.min_eq_left h)
theorem drop_in {A B : List Int} {n : Nat} (e : A.length = n) (x : Nat) : (A ++ B).drop (n + x) = B.drop x := by subst e; exact List.drop_length_add_append ..
theorem take_in {A B : List Int} {n : Nat} (e : A.length = n) (x : Nat) : (A ++ B).take (n + x) = A ++ B.take x := by subst e; exact List.take_length_add_append ..
theorem drop_left_in {ns B : List Int} {a x : Nat} (h : a + x ≤ ns.length) : (ns.take (a + x) ++ B).drop a = (ns.drop a).take x ++ B := by
  rw [List.take_add, List.append_assoc]; exact List.drop_left' (take_len (Nat.le_trans (Nat.le_add_right ..) h))
theorem gtext_length {ns : List Int} {gs ge : Int} (h0 : 0 ≤ gs) (h1 : gs ≤ ge) (h2 : ge ≤ ns.length) : ((gtext ns gs ge).length : Int) = ns.length - ge + gs := by
  obtain ⟨a, rfl⟩ := Int.eq_ofNat_of_zero_le h0
  obtain ⟨d, rfl⟩ := Int.le.dest h1
  obtain ⟨r, hr⟩ := Int.le.dest h2
  have e : ns.length = a + d + r := Int.ofNat_inj.mp hr.symm
  rw [gtext, List.length_append, tn (i := a) (n := a) rfl, tn (i := a + d) (n := a + d) rfl, take_len (by omega), List.length_drop, e, Nat.add_sub_cancel_left]
  omega
theorem gtext_left {ns : List Int} {i j gs ge : Int} (h3 : 0 ≤ i) (h4 : i ≤ j) (h : j ≤ gs) (h5 : gs ≤ ge) (h6 : ge ≤ ns.length) : (ns.drop i.toNat).take (j.toNat - i.toNat) = ((gtext ns gs ge).drop i.toNat).take (j.toNat - i.toNat) := by
  obtain ⟨i, rfl⟩ := Int.eq_ofNat_of_zero_le h3
  obtain ⟨x, rfl⟩ := Int.le.dest h4
  obtain ⟨y, rfl⟩ := Int.le.dest h
  obtain ⟨d, rfl⟩ := Int.le.dest h5
  have h7 : i + x + y ≤ ns.length := Int.ofNat_le.mp (Int.le_trans h5 h6)
  rw [gtext, tn (i := i + x + y) (n := i + (x + y)) (Int.add_assoc ..), tn (i := i + x) (n := i + x) rfl, tn (i := i) (n := i) rfl, Nat.add_sub_cancel_left, drop_left_in (Nat.add_assoc i x y ▸ h7), List.take_append_of_le_length (by rw [List.length_take, List.length_drop]; omega), List.take_take, Nat.min_eq_left (Nat.le_add_right ..)]
theorem gtext_right {ns : List Int} {i j gs ge : Int} (h3 : 0 ≤ i) (h4 : i ≤ j) (h : gs ≤ i) (h0 : 0 ≤ gs) (h5 : gs ≤ ge) (h6 : ge ≤ ns.length) :
    (ns.drop (i + (ge - gs)).toNat).take ((j + (ge - gs)).toNat - (i + (ge - gs)).toNat) = ((gtext ns gs ge).drop i.toNat).take (j.toNat - i.toNat) := by
  obtain ⟨a, rfl⟩ := Int.eq_ofNat_of_zero_le h0
  obtain ⟨x, rfl⟩ := Int.le.dest h
  obtain ⟨y, rfl⟩ := Int.le.dest h4
  obtain ⟨d, rfl⟩ := Int.le.dest h5
  rw [Int.add_comm (a : Int) d, Int.add_sub_cancel, Int.add_comm (d : Int) a, gtext, tn (i := a + x + y + d) (n := a + x + d + y) (Int.add_right_comm ..), tn (i := a + x + d) (n := a + x + d) rfl, tn (i := a + x + y) (n := a + x + y) rfl, tn (i := a + x) (n := a + x) rfl, tn (i := a + d) (n := a + d) rfl, tn (i := a) (n := a) rfl, Nat.add_sub_cancel_left, Nat.add_sub_cancel_left, drop_in (take_len (by omega)), List.drop_drop, Nat.add_right_comm]
theorem gtext_mid {ns : List Int} {i j gs ge : Int} (h3 : 0 ≤ i) (h1 : i < gs) (h2 : gs < j) (h5 : gs ≤ ge) (h6 : ge ≤ ns.length) :
    (ns.drop i.toNat).take (gs.toNat - i.toNat) ++ (ns.drop ge.toNat).take ((j + (ge - gs)).toNat - ge.toNat) = ((gtext ns gs ge).drop i.toNat).take (j.toNat - i.toNat) := by
  obtain ⟨i, rfl⟩ := Int.eq_ofNat_of_zero_le h3
  obtain ⟨x, rfl⟩ := Int.le.dest (Int.le_of_lt h1)
  obtain ⟨y, rfl⟩ := Int.le.dest (Int.le_of_lt h2)
  obtain ⟨d, rfl⟩ := Int.le.dest h5
  have h7 : i + x ≤ ns.length := Int.ofNat_le.mp (Int.le_trans h5 h6)
  rw [Int.add_comm (i + x : Int) d, Int.add_sub_cancel, Int.add_comm (d : Int), gtext, tn (i := i + x + y + d) (n := i + x + d + y) (Int.add_right_comm ..), tn (i := i + x + d) (n := i + x + d) rfl, tn (i := i + x + y) (n := i + (x + y)) (Int.add_assoc ..), tn (i := i + x) (n := i + x) rfl, tn (i := i) (n := i) rfl, Nat.add_sub_cancel_left, Nat.add_sub_cancel_left, Nat.add_sub_cancel_left, drop_left_in h7, take_in]
  rw [List.length_take, List.length_drop]; omega
theorem gtext_move_left {ns : List Int} {i gs ge : Int} (h3 : 0 ≤ i) (h1 : i < gs) (h5 : gs ≤ ge) (h6 : ge ≤ ns.length) {zs : List Int} (hz : zs = (ns.drop i.toNat).take (gs.toNat - i.toNat)) (hl : zs.length = min (gs.toNat - i.toNat) (ns.length - i.toNat)) :
    gtext (ns.take (ge - zs.length).toNat ++ zs ++ ns.drop ge.toNat) i (ge - zs.length) = gtext ns gs ge := by
  obtain ⟨i, rfl⟩ := Int.eq_ofNat_of_zero_le h3
  obtain ⟨x, rfl⟩ := Int.le.dest (Int.le_of_lt h1)
  obtain ⟨d, rfl⟩ := Int.le.dest h5
  have h7 : i + x + d ≤ ns.length := Int.ofNat_le.mp h6
  rw [tn (i := i + x) (n := i + x) rfl, tn (i := i) (n := i) rfl, Nat.add_sub_cancel_left] at hz hl
  have e0 : zs.length = x := by omega
  rw [e0, Int.add_right_comm, Int.add_sub_cancel, gtext, gtext, tn (i := i + x) (n := i + x) rfl, tn (i := i) (n := i) rfl, tn (i := i + d) (n := i + d) rfl, tn (i := i + d + x) (n := i + x + d) (Int.add_right_comm ..), List.take_add (i := i) (j := x), ← hz, List.append_assoc (ns.take (i + d)), List.take_append_of_le_length (by rw [take_len (by omega)]; exact Nat.le_add_right ..), List.take_take, Nat.min_eq_left (Nat.le_add_right ..), List.drop_left' (take_len (by omega)), List.append_assoc]
theorem gtext_move_right {ns : List Int} {i gs ge : Int} (h0 : 0 ≤ gs) (h1 : ¬ i < gs) (h5 : gs ≤ ge) (h6 : ge ≤ ns.length) (h4 : i ≤ ns.length - ge + gs) {zs : List Int} (hz : zs = (ns.drop ge.toNat).take ((ge + i - gs).toNat - ge.toNat)) (hl : zs.length = min ((ge + i - gs).toNat - ge.toNat) (ns.length - ge.toNat)) :
    gtext (ns.take gs.toNat ++ zs ++ ns.drop (gs + zs.length).toNat) i (ge + zs.length) = gtext ns gs ge := by
  obtain ⟨a, rfl⟩ := Int.eq_ofNat_of_zero_le h0
  obtain ⟨x, rfl⟩ := Int.le.dest (Int.not_lt.mp h1)
  obtain ⟨d, rfl⟩ := Int.le.dest h5
  have h7 : a + d + x ≤ ns.length := by omega
  rw [tn (i := (a + d : Int) + (a + x) - a) (n := a + d + x) (by omega), tn (i := a + d) (n := a + d) rfl, Nat.add_sub_cancel_left] at hz hl
  have e0 : zs.length = x := by omega
  have l1 : (ns.take a).length = a := take_len (by omega)
  have l2 : (ns.take a ++ zs).length = a + x := by rw [List.length_append, l1, e0]
  rw [e0, gtext, gtext, tn (i := a + x) (n := a + x) rfl, tn (i := a + d + x) (n := a + x + d) (Int.add_right_comm ..), tn (i := a + d) (n := a + d) rfl, tn (i := a) (n := a) rfl, List.take_left' l2, drop_in l2, List.drop_drop, List.append_assoc, hz, Nat.add_right_comm a x d, ← List.drop_drop (i := x) (j := a + d), List.take_append_drop]
theorem gtext_widen {ns : List Int} {gs ge : Int} (h0 : 0 ≤ gs) (h5 : gs ≤ ge) (h6 : ge ≤ ns.length) (zs : List Int) {ge' : Int} (e : ge' = ge + zs.length) :
    gtext (ns.take ge.toNat ++ zs ++ ns.drop ge.toNat) gs ge' = gtext ns gs ge := by
  subst e
  obtain ⟨a, rfl⟩ := Int.eq_ofNat_of_zero_le h0
  obtain ⟨d, rfl⟩ := Int.le.dest h5
  have l1 : (ns.take (a + d)).length = a + d := take_len (Int.ofNat_le.mp h6)
  have l2 : (ns.take (a + d) ++ zs).length = a + d + zs.length := by rw [List.length_append, l1]
  rw [gtext, gtext, tn (i := a + d + zs.length) (n := a + d + zs.length) rfl, tn (i := a + d) (n := a + d) rfl, tn (i := a) (n := a) rfl, List.drop_left' l2, List.append_assoc, List.take_append_of_le_length (by rw [l1]; exact Nat.le_add_right ..), List.take_take, Nat.min_eq_left (Nat.le_add_right ..)]
theorem gtext_put {ns zs : List Int} {i ge : Int} (h0 : 0 ≤ i) (h5 : i + zs.length ≤ ge) (h6 : ge ≤ ns.length) :
    gtext (ns.take i.toNat ++ zs ++ ns.drop (i + zs.length).toNat) (i + zs.length) ge = (gtext ns i ge).take i.toNat ++ zs ++ (gtext ns i ge).drop i.toNat := by
  obtain ⟨i, rfl⟩ := Int.eq_ofNat_of_zero_le h0
  obtain ⟨d, rfl⟩ := Int.le.dest h5
  have l1 : (ns.take i).length = i := take_len (by omega)
  have l2 : (ns.take i ++ zs).length = i + zs.length := by rw [List.length_append, l1]
  rw [gtext, gtext, tn (i := i + zs.length + d) (n := i + zs.length + d) rfl, tn (i := i + zs.length) (n := i + zs.length) rfl, tn (i := i) (n := i) rfl, List.take_left' l2, drop_in l2, List.drop_drop, List.take_left' l1, List.drop_left' l1]
theorem gtext_cut {ns : List Int} {i j g0 e0 e1 : Int} (h0 : 0 ≤ i) (h1 : i ≤ g0) (h2 : g0 ≤ j) (h5 : g0 ≤ e0) (h6 : e0 ≤ ns.length) (e : e1 = e0 + j - g0) :
    gtext ns i e1 = (gtext ns g0 e0).take i.toNat ++ (gtext ns g0 e0).drop j.toNat := by
  obtain ⟨i, rfl⟩ := Int.eq_ofNat_of_zero_le h0
  obtain ⟨a, rfl⟩ := Int.le.dest h1
  obtain ⟨y, rfl⟩ := Int.le.dest h2
  obtain ⟨d, rfl⟩ := Int.le.dest h5
  have l1 : (ns.take (i + a)).length = i + a := take_len (Int.ofNat_le.mp (Int.le_trans h5 h6))
  rw [gtext, gtext, tn (i := e1) (n := i + a + d + y) (by omega), tn (i := i + a + d) (n := i + a + d) rfl, tn (i := i + a + y) (n := i + a + y) rfl, tn (i := i + a) (n := i + a) rfl, tn (i := i) (n := i) rfl, drop_in l1, List.take_append_of_le_length (by rw [l1]; exact Nat.le_add_right ..), List.take_take, Nat.min_eq_left (Nat.le_add_right ..), List.drop_drop]
theorem cut_put {T zs D : List Int} {a : Nat} (h : a ≤ T.length) : (T.take a ++ D).take a ++ zs ++ (T.take a ++ D).drop a = T.take a ++ zs ++ D := by
  rw [List.take_left' (take_len h), List.drop_left' (take_len h)]
theorem AllLt.get {d a : Addr} {o : Obj} : ∀ {l : List (Addr × Obj)}, AllLt d l → (a, o) ∈ l → @LT.lt Nat _ a d
  | _ :: _, h, m => by
    rcases List.mem_cons.mp m with rfl | m
    · exact h.1
    · exact AllLt.get h.2 m
/-- made one behind the other -/
def Apart : List Nat → Prop
  | a :: b :: r => a < b ∧ Apart (b :: r)
  | _ => True
/-- the one stands ahead of the other -/
inductive Bef (a b : Nat) : List Nat → Prop
  | head {r} : b ∈ r → Bef a b (a :: r)
  | tail {x r} : Bef a b r → Bef a b (x :: r)
theorem Apart.tl {a : Nat} : ∀ {l : List Nat}, Apart (a :: l) → Apart l
  | [], _ => trivial
  | _ :: _, h => h.2
theorem Apart.far {a b : Nat} : ∀ {l : List Nat}, Apart (a :: l) → b ∈ l → a < b
  | x :: r, h, m => by
    rcases List.mem_cons.mp m with rfl | m
    · exact h.1
    · exact Nat.lt_trans h.1 (Apart.far h.2 m)
theorem Apart.bef {a b : Nat} : ∀ {l : List Nat}, Apart l → Bef a b l → a < b
  | _, h, .head m => h.far m
  | _, h, .tail m => Apart.bef h.tl m
/-- the chosen entries, then all from the n-th on -/
def nsel (l : List (Addr × Obj)) (n : Nat) : List Nat → List (Addr × Obj)
  | [] => l.drop n
  | i :: r => (l.drop i).head?.toList ++ nsel l n r
theorem nsel_mem {l : List (Addr × Obj)} (n : Nat) (is : List Nat) {q : Addr × Obj} (h : q ∈ nsel l n is) : q ∈ l := by
  induction is with
  | nil => exact List.mem_of_mem_drop h
  | cons i r ih => exact (List.mem_append.mp h).elim (fun h => List.mem_of_mem_drop (List.mem_of_head? (Option.mem_toList.mp h))) ih
theorem news_sel {h₀ h : Heap} {L : Addr} {l : List (Addr × Obj)} (N : News h₀ L h l) (n : Nat) (is : List Nat) : News h₀ L h (nsel l n is) := fun q hq => N q (nsel_mem n is hq)
theorem mem_last {l r : List (Addr × Obj)} {x q : Addr × Obj} (h : q ∈ x :: (l ++ r)) : q ∈ l ++ (r ++ [x]) := by
  rw [← List.append_assoc]
  exact (List.mem_cons.mp h).elim (fun h => h ▸ List.mem_append_right _ (.head _)) (List.mem_append_left _)
theorem news_last {h₀ h : Heap} {L : Addr} {l r : List (Addr × Obj)} {x : Addr × Obj} (N : News h₀ L h (l ++ (r ++ [x]))) : News h₀ L h (x :: (l ++ r)) := fun q hq => N q (mem_last hq)
theorem slice_len {x y : Int} {n k : Nat} (h : k = min (y.toNat - x.toNat) (n - x.toNat)) (hx : 0 ≤ x) (hxy : x ≤ y) (hy : y ≤ n) : (k : Int) = y - x := by
  rw [h, Nat.min_eq_left (Nat.sub_le_sub_right (Int.toNat_le.mpr hy) _), Int.ofNat_sub (Int.toNat_le_toNat hxy), Int.toNat_of_nonneg hx, Int.toNat_of_nonneg (Int.le_trans hx hxy)]
theorem st_gen {P : Shared → Prop} (s : Shared) {h : Heap} {T : Nat} (H : ∀ t : Nat, P { s with heap := h, toks := t }) : P { s with heap := h, toks := T } := H T
end
section
open PySem.Calls
set_option maxRecDepth 100000
theorem lines_R1_0 : True := by
  k_with_none
  trivial
section
variable {prog : Program} {w : World} {A : Around} {E : Value → Shared → Prop} {s : Shared} {env : Env} {h₀ : Heap} {x : Str} {body : List Stmt} {Q : Flow → Shared → Prop}
/-- no item: no turn -/
theorem iter_empty {l : Addr} {n : Nat} {m : Str → Option Value} {news : List (Addr × Obj)} (hh : A.handled = none) (F : Fr h₀ env.locals s.heap m) (N : News h₀ env.locals s.heap news) (hm : (l, listOf #[] n) ∈ news)
    (done : ∀ h' tk, Fr h₀ env.locals h' m → News h₀ env.locals h' news → Q .next { s with heap := h', toks := tk }) :
    wpAny (model prog w) A (pyIter (.ref l)) (fun it s₂ => LoopAtV prog w A h₀ env x body Q E it s₂) E s := by
  have hls : s.heap.IsList l (#[] : Array Value) := News.isList N hm
  have hlt : l < s.heap.objs.size := Heap.lt_size (N _ hm).1
  refine wpAny_pyIter_list hls ?_
  have W := Walks.list (prog := prog) (w := w) hh s.heap.objs.size l (Nat.ne_of_lt hlt) (#[] : Array Value)
  refine ⟨_, _, _, 0, _, _, m, news, fun _ m' news' => m' = m ∧ news' = news, rfl, W, ?_, ?_, ?_, ⟨⟨_, Heap.get?_push_size _ rfl, rfl, rfl⟩, hls.at fun o e => Heap.get?_push_of_some _ e⟩, F.push _, (fun p hp => ⟨Heap.get?_push_of_some _ (N p hp).1, (N p hp).2⟩), ⟨rfl, rfl⟩, ?_, ?_⟩
  · intro hb
    rcases List.mem_cons.mp hb with e | hb
    · exact absurd F.ns.lt (e ▸ Nat.lt_irrefl _)
    · exact (N _ hm).2.1 (List.mem_singleton.mp hb).symm
  · intro b hb
    rw [List.mem_singleton.mp hb]
    exact next_is_new F
  · intro p hp hI
    exact absurd (Heap.lt_size (N p hp).1) ((List.mem_singleton.mp hI) ▸ Nat.lt_irrefl _)
  · intro i v m₁ news₁ s₁ own _ hi
    exact absurd hi (Nat.not_lt_zero _)
  · rintro h' tk m' news' F' N' _ ⟨rfl, rfl⟩
    exact done h' tk F' N'
theorem iter_empty2 {l : Addr} {n : Nat} {vs : List Value} {ns : List Int} {m : Str → Option Value} {news : List (Addr × Obj)} (hh : A.handled = none) (F : Fr h₀ env.locals s.heap m) (N : News h₀ env.locals s.heap news) (hm : (l, listOf vs.toArray n) ∈ news)
    (hi : IntsAre vs ns) (h0 : ns.length = 0) (done : ∀ h' tk, Fr h₀ env.locals h' m → News h₀ env.locals h' news → Q .next { s with heap := h', toks := tk }) :
    wpAny (model prog w) A (pyIter (.ref l)) (fun it s₂ => LoopAtV prog w A h₀ env x body Q E it s₂) E s := by
  have e : vs = [] := List.length_eq_zero_iff.mp (hi.length.trans h0)
  subst e
  exact iter_empty hh F N hm done
end
end
local macro_rules | `(tactic| k_all) => `(tactic| k_extra "k_all")
local macro_rules | `(tactic| k_ne) => `(tactic| k_extra "k_ne")
local macro_rules | `(tactic| k_lt $h:ident) => `(tactic| (have kLt := allLt_of $h; replace $h := kLt; dsimp only [AllLt] at $h:ident))
local macro_rules | `(tactic| tb_start) => `(tactic| k_extra "tb_start")
local macro_rules | `(tactic| tb_rel) => `(tactic| k_extra "tb_rel")
local macro_rules | `(tactic| ktr_rel) => `(tactic| k_extra "ktr_rel")
local macro_rules | `(tactic| ktr_unf) => `(tactic| k_extra "ktr_unf")
local macro_rules | `(tactic| walk_at $s:str) => `(tactic| k_extra $s)
section
set_option genInjectivity false in
set_option genSizeOf false in
structure GKeys where
  h1 : Int
  k1 : Tok
  room : Int
  u1 : Tok
  h2 : Int
  k2 : Tok
  h3 : Int
  k3 : Tok
  h4 : Int
  k4 : Tok
def gkeys0 : GKeys := by constructor <;> first | exact (0 : Int) | exact (0 : Nat)
abbrev gapD (K : GKeys) (c : Addr) (gs : Int) (t3 : Tok) (ge : Int) (t4 : Tok) : Obj :=
  dictOf [⟨K.h1, .str (Str.ofString "room") K.k1, .int K.room K.u1⟩, ⟨K.h2, .str (Str.ofString "cells") K.k2, .ref c⟩, ⟨K.h3, .str (Str.ofString "gap_start") K.k3, .int gs t3⟩, ⟨K.h4, .str (Str.ofString "gap_end") K.k4, .int ge t4⟩] 4
theorem lines_C1_1 : True := by
  k_with_none
  k_with "k_all" => with_reducible assumption
  k_with "ne_mem" => with_reducible first | exact List.mem_cons_self | (refine List.mem_cons_of_mem _ ?_; k_extra "ne_mem") | (refine List.mem_append_right _ ?_; k_extra "ne_mem")
  k_with "ne_bef" => with_reducible first | (refine Bef.head ?_; k_extra "ne_mem") | (refine Bef.tail ?_; k_extra "ne_bef")
  k_with "lt_ap" => (with_reducible rename Apart _ => kqA; first | (with_reducible exact Apart.bef kqA (by k_extra "ne_bef")) | (clear kqA; k_extra "lt_ap"))
  k_with "lt_go" => first | (with_reducible assumption) | (with_reducible exact AllLt.get (by assumption) (by k_extra "ne_mem")) | k_extra "lt_ap" | ((with_reducible refine Nat.lt_trans ?kq1 ?kq2); (case kq2 => with_reducible assumption); (case kq1 => k_extra "lt_go")) | ((with_reducible refine Nat.lt_trans ?kq1 ?kq2); (case kq1 => with_reducible assumption); (case kq2 => k_extra "lt_ap"))
  k_with "ne_lt" => with_reducible first | exact Nat.ne_of_lt (AllLt.get (by assumption) (by k_extra "ne_mem")) | exact Nat.ne_of_gt (AllLt.get (by assumption) (by k_extra "ne_mem"))
  k_with "ne_ap" => (with_reducible rename Apart _ => kqA; first | (with_reducible exact Nat.ne_of_lt (Apart.bef kqA (by k_extra "ne_bef"))) | (with_reducible exact Nat.ne_of_gt (Apart.bef kqA (by k_extra "ne_bef"))) | (clear kqA; k_extra "ne_ap"))
  k_with "k_ne" => (refine neN ?_; (try dsimp only); first | (with_reducible assumption) | (with_reducible exact Ne.symm (by assumption)) | (with_reducible exact Nat.ne_of_lt (by assumption)) | (with_reducible exact Nat.ne_of_gt (by assumption)) | k_extra "ne_lt" | k_extra "ne_ap" | omega | ((try simp only [AllLt] at *); omega))
  k_with "ne_all" => first | (with_reducible assumption) | (refine And.intro ?_ ?_ <;> k_extra "ne_all") | k_ne
  k_with "mem_hq" => first | exact hq | exact List.mem_append_left _ hq | (refine List.mem_cons_of_mem _ ?_; k_extra "mem_hq")
  k_with "perm" => first | (refine List.forall_mem_cons.mpr (And.intro ?kqa ?kqb); (case kqa => k_extra "ne_mem"); (case kqb => k_extra "perm")) | exact List.forall_mem_nil _ | (intro q hq; k_extra "mem_hq")
  k_with "ord" => first | (with_reducible assumption) | ((with_reducible show @LT.lt Nat _ _ _); k_extra "lt_go") | k_ne | omega | ((try simp only [AllLt] at *); omega)
  k_with "tb_start" => first | exact Pick.head | (apply Pick.tail; tb_start)
  k_with "tb_rel" => first | exact Suff.refl | (refine' Suff.tail ?_; tb_rel)
  k_with "ktr_rel" => first | exact Picks.nil | (refine' Picks.cons ?kqp ?kqq; (case kqp => tb_start); (case kqq => ktr_rel))
  k_with "ktr_unf" => exact ⟨by k_asm, by k_asm, by k_asm, by k_asm, by first | exact rfl | assumption⟩
  k_with "subscriptTail Attribute Name Slice" => (k_here; k_dflt (refine kba_turn (value' := PySem.Expr.Name (PySem.Str.ofString "_") ⟨0, 0, 0, 0⟩) (fun _ => rfl) ?_))
  k_with "subscriptTail Name Slice ref ref" => (k_here; (with_reducible show wpAny _ _ (subscriptTail _ (PySem.Expr.Slice (some _) (some _) none _) (Value.ref _) (Value.ref _)) _ _ _); k_dflt (refine' my_slice ?kqF ?kqN ?kql ?kqi ?kqx ?kqy ?kqz ?_ ?kqs ?kqt; (case kqF => k_asm); (case kqN => k_asm); (case kql => k_mem); (case kqi => k_asm); (case kqx => first | (with_reducible assumption) | omega | ((try simp only [AllLt] at *); omega)); (case kqy => first | (with_reducible assumption) | omega | ((try simp only [AllLt] at *); omega)); (case kqz => first | (with_reducible assumption) | omega | ((try simp only [AllLt] at *); omega)); (case kqs => with_unfolding_all rfl); (case kqt => kmk_pure); k_whole); intro D' ws' h' zs' F' N' l1 hI' hZ' hL'; (try (replace hL' := slice_len hL' (by first | (with_reducible assumption) | omega) (by first | (with_reducible assumption) | omega) (by first | (with_reducible assumption) | omega))); (try k_lt l1); (try k_sweep))
  k_with "setItem ref ref ref" => (k_here; k_dflt (refine' my_setslice ?kqF ?kqN ?kql ?kqU ?kqi ?kqw ?kqx ?kqy ?kqz ?kqzz ?_; (case kqF => k_asm); (case kqN => k_asm); (case kql => k_mem); (case kqU => k_updF); (case kqi => k_asm); (case kqw => k_asm); (case kqx => first | (with_reducible assumption) | omega | ((try simp only [AllLt] at *); omega)); (case kqy => first | (with_reducible assumption) | omega | ((try simp only [AllLt] at *); omega)); (case kqz => first | (with_reducible assumption) | omega | ((try simp only [AllLt] at *); omega)); (case kqzz => first | (with_reducible assumption) | omega | ((try simp only [AllLt] at *); omega)); k_whole); intro vs' n2' h' ns' F' N' hI' hZ' hL'; (try dsimp only at N'); (try k_sweep))
  k_with "call builtin:len" => (k_here; (with_reducible show wpAny _ _ (call (Value.builtin "len") [Value.ref _]) _ _ _); k_dflt (refine' my_len ?kqN ?kql ?kqi ?kqz ?_; (case kqN => k_asm); (case kql => k_mem); (case kqi => k_asm); (case kqz => first | (with_reducible assumption) | omega | ((try simp only [AllLt] at *); omega)); k_whole))
  trivial
variable {prog : Program} {w : World} {p : Program} {loose : List Str} {mean : ExcName → Option Value} {mg mb : Str → Option Value} {cn : Str} {cs : Scope} {a : Addr} {ccd : Value} {cl : List (Str × Addr)} {outer : List Env} {A₀ : Around} {base h₀ : Heap} {L : Addr} {m : Str → Option Value} {s : Shared} {Q E : Value → Shared → Prop} in
set_option maxRecDepth 100000 in
set_option maxHeartbeats 8000000 in
theorem size_spec {g dg c : Addr} {vs : List Value} {ns : List Int} {n2 : Nat} {news rest : List (Addr × Obj)} {K : GKeys} {gs ge : Int} {t3 t4 : Tok}
 (C : Cx w p loose mean mg mb A₀ base outer h₀ L s.heap m cs) (N : News h₀ L s.heap news) (P : Picks [(g, instObj 411 dg), (dg, gapD K c gs t3 ge t4), (c, listOf vs.toArray n2)] news rest)
 (hi : IntsAre vs ns) (hlen : ns.length ≤ 10000)
 (ret : ∀ t h' tk', Fr h₀ L h' m → News h₀ L h' news → Q (.int (ns.length - ge + gs) t) { s with heap := h', toks := tk' }) :
 wpAny (model prog w) (ktrTop 950 9500 none cn cs L a ccd cl outer) (call (.ref 345) [.ref g]) Q E s := by
  obtain ⟨B, F, X, T, hk⟩ := C
  replace N := news_picks N P
  simp only [List.cons_append, List.nil_append] at N
  refine wpAny_call ?_
  k_dflt cell_enter
  k_steps
  all_goals first
    | exact ret _ _ _ (by assumption) (news_unpick (by assumption) (by ktr_rel) (by tb_rel) P)
    | w_report
def codes_spec_H (g : Addr) (dg : Addr) (c : Addr) (vs : List Value) (ns : List Int) (n2 : Nat) (news : List (Addr × Obj)) (rest : List (Addr × Obj)) (K : GKeys) (gs : Int) (ge : Int) (t3 : Tok) (t4 : Tok) (i : Int) (j : Int) (ti : Tok) (tj : Tok) (prog : Program) (w : World) (p : Program) (loose : List Str) (mean : ExcName → Option Value) (mg : Str → Option Value) (mb : Str → Option Value) (cn : Str) (cs : Scope) (a : Addr) (ccd : Value) (cl : List (Str × Addr)) (outer : List Env) (A₀ : Around) (base : Heap) (h₀ : Heap) (L : Addr) (m : Str → Option Value) (s : Shared) (Q : Value → Shared → Prop) (E : Value → Shared → Prop) (zR : Prop) : Prop := ∀ (C : Cx w p loose mean mg mb A₀ base outer h₀ L s.heap m cs) (N : News h₀ L s.heap news) (P : Picks [(g, instObj 411 dg), (dg, gapD K c gs t3 ge t4), (c, listOf vs.toArray n2)] news rest) (hi : IntsAre vs ns) (hlen : ns.length ≤ 10000) (h0 : 0 ≤ gs) (h1 : gs ≤ ge) (h2 : ge ≤ ns.length) (h3 : 0 ≤ i) (h4 : i ≤ j) (h5 : j ≤ ns.length - ge + gs) (ret : ∀ D ws n h' tk', Fr h₀ L h' m → News h₀ L h' ((D, listOf (List.toArray ws) n) :: news) → (∀ q ∈ news, q.1 < D) → IntsAre ws (((gtext ns gs ge).drop i.toNat).take (j.toNat - i.toNat)) → Q (.ref D) { s with heap := h', toks := tk' }), zR
set_option maxRecDepth 100000 in
set_option maxHeartbeats 8000000 in
noncomputable def codes_spec_k (g : Addr) (dg : Addr) (c : Addr) (vs : List Value) (ns : List Int) (n2 : Nat) (news : List (Addr × Obj)) (rest : List (Addr × Obj)) (K : GKeys) (gs : Int) (ge : Int) (t3 : Tok) (t4 : Tok) (i : Int) (j : Int) (ti : Tok) (tj : Tok) (prog : Program) (w : World) (p : Program) (loose : List Str) (mean : ExcName → Option Value) (mg : Str → Option Value) (mb : Str → Option Value) (cn : Str) (cs : Scope) (a : Addr) (ccd : Value) (cl : List (Str × Addr)) (outer : List Env) (A₀ : Around) (base : Heap) (h₀ : Heap) (L : Addr) (m : Str → Option Value) (s : Shared) (Q : Value → Shared → Prop) (E : Value → Shared → Prop) : PSigma (fun zP : Heap → Addr → Heap → Prop => (∀ zq1 zq2 zq3, codes_spec_H g dg c vs ns n2 news rest K gs ge t3 t4 i j ti tj prog w p loose mean mg mb cn cs a ccd cl outer A₀ base h₀ L m s Q E (zP zq1 zq2 zq3)) → codes_spec_H g dg c vs ns n2 news rest K gs ge t3 t4 i j ti tj prog w p loose mean mg mb cn cs a ccd cl outer A₀ base h₀ L m s Q E (wpAny (model prog w) (ktrTop 950 9500 none cn cs L a ccd cl outer) (call (.ref 359) [.ref g, .int i ti, .int j tj]) Q E s)) := by
  refine ⟨?zG, fun zH C N P hi hlen h0 h1 h2 h3 h4 h5 ret => ?zh⟩
  case zh =>
    have zc := fun zq1 zq2 zq3 => zH zq1 zq2 zq3 C N P hi hlen h0 h1 h2 h3 h4 h5 ret
    clear zH
    obtain ⟨B, F, X, T, hk⟩ := C
    replace N := news_picks N P
    simp only [List.cons_append, List.nil_append] at N
    refine wpAny_call ?_
    k_dflt cell_enter
    rename_i g9 L9 h9 FG9 F9 N9 B9 X9 T9
    revert FG9 F9 N9 B9 X9 T9
    exact zc g9 L9 h9
abbrev codes_spec_P : Type := ((((((Heap × Addr) × Heap) × ((Addr × Addr) × Addr)) × ((((List Value) × (List Int)) × Nat) × ((List (Addr × Obj)) × (List (Addr × Obj))))) × ((((GKeys × Int) × Int) × (Tok × Tok)) × (((Int × Int) × Tok) × (Tok × Program)))) × (((((World × Program) × (List Str)) × ((ExcName → Option Value) × (Str → Option Value))) × ((((Str → Option Value) × Str) × Scope) × (Addr × Value))) × (((((List (Str × Addr)) × (List Env)) × Around) × (Heap × Heap)) × (((Addr × (Str → Option Value)) × Shared) × ((Value → Shared → Prop) × (Value → Shared → Prop))))))
abbrev codes_spec_F (x : codes_spec_P) : Prop := codes_spec_H (x.1.1.1.2.1.1) (x.1.1.1.2.1.2) (x.1.1.1.2.2) (x.1.1.2.1.1.1) (x.1.1.2.1.1.2) (x.1.1.2.1.2) (x.1.1.2.2.1) (x.1.1.2.2.2) (x.1.2.1.1.1.1) (x.1.2.1.1.1.2) (x.1.2.1.1.2) (x.1.2.1.2.1) (x.1.2.1.2.2) (x.1.2.2.1.1.1) (x.1.2.2.1.1.2) (x.1.2.2.1.2) (x.1.2.2.2.1) (x.1.2.2.2.2) (x.2.1.1.1.1.1) (x.2.1.1.1.1.2) (x.2.1.1.1.2) (x.2.1.1.2.1) (x.2.1.1.2.2) (x.2.1.2.1.1.1) (x.2.1.2.1.1.2) (x.2.1.2.1.2) (x.2.1.2.2.1) (x.2.1.2.2.2) (x.2.2.1.1.1.1) (x.2.2.1.1.1.2) (x.2.2.1.1.2) (x.2.2.1.2.1) (x.2.2.1.2.2) (x.2.2.2.1.1.1) (x.2.2.2.1.1.2) (x.2.2.2.1.2) (x.2.2.2.2.1) (x.2.2.2.2.2)  ((codes_spec_k (x.1.1.1.2.1.1) (x.1.1.1.2.1.2) (x.1.1.1.2.2) (x.1.1.2.1.1.1) (x.1.1.2.1.1.2) (x.1.1.2.1.2) (x.1.1.2.2.1) (x.1.1.2.2.2) (x.1.2.1.1.1.1) (x.1.2.1.1.1.2) (x.1.2.1.1.2) (x.1.2.1.2.1) (x.1.2.1.2.2) (x.1.2.2.1.1.1) (x.1.2.2.1.1.2) (x.1.2.2.1.2) (x.1.2.2.2.1) (x.1.2.2.2.2) (x.2.1.1.1.1.1) (x.2.1.1.1.1.2) (x.2.1.1.1.2) (x.2.1.1.2.1) (x.2.1.1.2.2) (x.2.1.2.1.1.1) (x.2.1.2.1.1.2) (x.2.1.2.1.2) (x.2.1.2.2.1) (x.2.1.2.2.2) (x.2.2.1.1.1.1) (x.2.2.1.1.1.2) (x.2.2.1.1.2) (x.2.2.1.2.1) (x.2.2.1.2.2) (x.2.2.2.1.1.1) (x.2.2.2.1.1.2) (x.2.2.2.1.2) (x.2.2.2.2.1) (x.2.2.2.2.2) ).1 (x.1.1.1.1.1.1) (x.1.1.1.1.1.2) (x.1.1.1.1.2))
theorem codes_spec_ex : ∃ x : codes_spec_P, codes_spec_F x → ∀ y : codes_spec_P, codes_spec_F y := drinker ⟨((((((default, (0 : Nat)), default), (((0 : Nat), (0 : Nat)), (0 : Nat))), ((([], []), 0), ([], []))), ((((gkeys0, 0), 0), ((0 : Nat), (0 : Nat))), (((0, 0), (0 : Nat)), ((0 : Nat), default)))), (((((world0, default), []), (fun _ => none, fun _ => none)), (((fun _ => none, default), default), ((0 : Nat), .none))), (((([], []), {}), (default, default)), ((((0 : Nat), fun _ => none), {}), (fun _ _ => True, fun _ _ => True)))))⟩
noncomputable def codes_spec_x : codes_spec_P := codes_spec_ex.choose
namespace codes_spec_n
noncomputable def g9 : Heap := codes_spec_x.1.1.1.1.1.1
noncomputable def L9 : Addr := codes_spec_x.1.1.1.1.1.2
noncomputable def h9 : Heap := codes_spec_x.1.1.1.1.2
noncomputable def g : Addr := codes_spec_x.1.1.1.2.1.1
noncomputable def dg : Addr := codes_spec_x.1.1.1.2.1.2
noncomputable def c : Addr := codes_spec_x.1.1.1.2.2
noncomputable def vs : List Value := codes_spec_x.1.1.2.1.1.1
noncomputable def ns : List Int := codes_spec_x.1.1.2.1.1.2
noncomputable def n2 : Nat := codes_spec_x.1.1.2.1.2
noncomputable def news : List (Addr × Obj) := codes_spec_x.1.1.2.2.1
noncomputable def rest : List (Addr × Obj) := codes_spec_x.1.1.2.2.2
noncomputable def K : GKeys := codes_spec_x.1.2.1.1.1.1
noncomputable def gs : Int := codes_spec_x.1.2.1.1.1.2
noncomputable def ge : Int := codes_spec_x.1.2.1.1.2
noncomputable def t3 : Tok := codes_spec_x.1.2.1.2.1
noncomputable def t4 : Tok := codes_spec_x.1.2.1.2.2
noncomputable def i : Int := codes_spec_x.1.2.2.1.1.1
noncomputable def j : Int := codes_spec_x.1.2.2.1.1.2
noncomputable def ti : Tok := codes_spec_x.1.2.2.1.2
noncomputable def tj : Tok := codes_spec_x.1.2.2.2.1
noncomputable def prog : Program := codes_spec_x.1.2.2.2.2
noncomputable def w : World := codes_spec_x.2.1.1.1.1.1
noncomputable def p : Program := codes_spec_x.2.1.1.1.1.2
noncomputable def loose : List Str := codes_spec_x.2.1.1.1.2
noncomputable def mean : ExcName → Option Value := codes_spec_x.2.1.1.2.1
noncomputable def mg : Str → Option Value := codes_spec_x.2.1.1.2.2
noncomputable def mb : Str → Option Value := codes_spec_x.2.1.2.1.1.1
noncomputable def cn : Str := codes_spec_x.2.1.2.1.1.2
noncomputable def cs : Scope := codes_spec_x.2.1.2.1.2
noncomputable def a : Addr := codes_spec_x.2.1.2.2.1
noncomputable def ccd : Value := codes_spec_x.2.1.2.2.2
noncomputable def cl : List (Str × Addr) := codes_spec_x.2.2.1.1.1.1
noncomputable def outer : List Env := codes_spec_x.2.2.1.1.1.2
noncomputable def A₀ : Around := codes_spec_x.2.2.1.1.2
noncomputable def base : Heap := codes_spec_x.2.2.1.2.1
noncomputable def h₀ : Heap := codes_spec_x.2.2.1.2.2
noncomputable def L : Addr := codes_spec_x.2.2.2.1.1.1
noncomputable def m : Str → Option Value := codes_spec_x.2.2.2.1.1.2
noncomputable def s : Shared := codes_spec_x.2.2.2.1.2
noncomputable def Q : Value → Shared → Prop := codes_spec_x.2.2.2.2.1
noncomputable def E : Value → Shared → Prop := codes_spec_x.2.2.2.2.2
set_option maxRecDepth 100000 in
set_option maxHeartbeats 8000000 in
theorem main  : codes_spec_H g dg c vs ns n2 news rest K gs ge t3 t4 i j ti tj prog w p loose mean mg mb cn cs a ccd cl outer A₀ base h₀ L m s Q E ((codes_spec_k g dg c vs ns n2 news rest K gs ge t3 t4 i j ti tj prog w p loose mean mg mb cn cs a ccd cl outer A₀ base h₀ L m s Q E).1 g9 L9 h9) := by
  intro C N P hi hlen h0 h1 h2 h3 h4 h5 ret
  obtain ⟨B, F, X, T, hk⟩ := C
  replace N := news_picks N P
  simp only [List.cons_append, List.nil_append] at N
  delta codes_spec_k
  dsimp only
  intro _ _ _ _ _ _
  k_steps
  · exact ret _ _ _ _ _ (by k_asm) (news_unpick1 (by k_asm) (by ktr_rel) (by tb_rel) P) (P.lt (by simp only [List.cons_append, List.nil_append, AllLt]; simp [*])) (by rw [← gtext_left h3 h4 (by assumption) h1 h2]; subst_vars; assumption)
  · exact ret _ _ _ _ _ (by k_asm) (news_unpick1 (by k_asm) (by ktr_rel) (by tb_rel) P) (P.lt (by simp only [List.cons_append, List.nil_append, AllLt]; simp [*])) (by rw [← gtext_right h3 h4 (by assumption) h0 h1 h2]; subst_vars; assumption)
  · exact ret _ _ _ _ _ (by k_asm) (news_unpick1 (by k_asm) (by ktr_rel) (by tb_rel) P) (P.lt (by simp only [List.cons_append, List.nil_append, AllLt]; simp [*])) (by rw [← gtext_mid h3 (by k_extra "ord") (by k_extra "ord") h1 h2]; subst_vars; assumption)
end codes_spec_n
theorem codes_spec {prog : Program} {w : World} {p : Program} {loose : List Str} {mean : ExcName → Option Value} {mg : Str → Option Value} {mb : Str → Option Value} {cn : Str} {cs : Scope} {a : Addr} {ccd : Value} {cl : List (Str × Addr)} {outer : List Env} {A₀ : Around} {base : Heap} {h₀ : Heap} {L : Addr} {m : Str → Option Value} {s : Shared} {Q : Value → Shared → Prop} {E : Value → Shared → Prop} {g : Addr} {dg : Addr} {c : Addr} {vs : List Value} {ns : List Int} {n2 : Nat} {news : List (Addr × Obj)} {rest : List (Addr × Obj)} {K : GKeys} {gs : Int} {ge : Int} {t3 : Tok} {t4 : Tok} {i : Int} {j : Int} {ti : Tok} {tj : Tok} : codes_spec_H g dg c vs ns n2 news rest K gs ge t3 t4 i j ti tj prog w p loose mean mg mb cn cs a ccd cl outer A₀ base h₀ L m s Q E (wpAny (model prog w) (ktrTop 950 9500 none cn cs L a ccd cl outer) (call (.ref 359) [.ref g, .int i ti, .int j tj]) Q E s) := (codes_spec_k g dg c vs ns n2 news rest K gs ge t3 t4 i j ti tj prog w p loose mean mg mb cn cs a ccd cl outer A₀ base h₀ L m s Q E).2 (fun g9 L9 h9 => codes_spec_ex.choose_spec (codes_spec_n.main ) ((((((g9, L9), h9), ((g, dg), c)), (((vs, ns), n2), (news, rest))), ((((K, gs), ge), (t3, t4)), (((i, j), ti), (tj, prog)))), (((((w, p), loose), (mean, mg)), (((mb, cn), cs), (a, ccd))), ((((cl, outer), A₀), (base, h₀)), (((L, m), s), (Q, E))))) )
def move_spec_H (g : Addr) (dg : Addr) (c : Addr) (vs : List Value) (ns : List Int) (n2 : Nat) (news : List (Addr × Obj)) (rest : List (Addr × Obj)) (K : GKeys) (gs : Int) (ge : Int) (t3 : Tok) (t4 : Tok) (i : Int) (ti : Tok) (prog : Program) (w : World) (p : Program) (loose : List Str) (mean : ExcName → Option Value) (mg : Str → Option Value) (mb : Str → Option Value) (cn : Str) (cs : Scope) (a : Addr) (ccd : Value) (cl : List (Str × Addr)) (outer : List Env) (A₀ : Around) (base : Heap) (h₀ : Heap) (L : Addr) (m : Str → Option Value) (s : Shared) (Q : Value → Shared → Prop) (E : Value → Shared → Prop) (zR : Prop) : Prop := ∀ (C : Cx w p loose mean mg mb A₀ base outer h₀ L s.heap m cs) (N : News h₀ L s.heap news) (P : Picks [(g, instObj 411 dg), (dg, gapD K c gs t3 ge t4), (c, listOf vs.toArray n2)] news rest) (e1 : @Ne Nat g c) (e2 : @Ne Nat dg c) (e3 : @Ne Nat g dg) (r1 : ∀ q ∈ rest, q.1 ≠ c) (r2 : ∀ q ∈ rest, q.1 ≠ dg) (hi : IntsAre vs ns) (hlen : ns.length ≤ 10000) (h0 : 0 ≤ gs) (h1 : gs ≤ ge) (h2 : ge ≤ ns.length) (h3 : 0 ≤ i) (h4 : i ≤ ns.length - ge + gs) (ret : ∀ vs' ns' n2' ge' t4' h' tk', Fr h₀ L h' m → News h₀ L h' ((g, instObj 411 dg) :: (dg, gapD K c i ti ge' t4') :: (c, listOf (List.toArray vs') n2') :: rest) → IntsAre vs' ns' → ns'.length = ns.length → ge' = ge + i - gs → gtext ns' i ge' = gtext ns gs ge → Q .none { s with heap := h', toks := tk' }), zR
set_option maxRecDepth 100000 in
set_option maxHeartbeats 8000000 in
noncomputable def move_spec_k (g : Addr) (dg : Addr) (c : Addr) (vs : List Value) (ns : List Int) (n2 : Nat) (news : List (Addr × Obj)) (rest : List (Addr × Obj)) (K : GKeys) (gs : Int) (ge : Int) (t3 : Tok) (t4 : Tok) (i : Int) (ti : Tok) (prog : Program) (w : World) (p : Program) (loose : List Str) (mean : ExcName → Option Value) (mg : Str → Option Value) (mb : Str → Option Value) (cn : Str) (cs : Scope) (a : Addr) (ccd : Value) (cl : List (Str × Addr)) (outer : List Env) (A₀ : Around) (base : Heap) (h₀ : Heap) (L : Addr) (m : Str → Option Value) (s : Shared) (Q : Value → Shared → Prop) (E : Value → Shared → Prop) : PSigma (fun zP : Heap → Addr → Heap → Prop => (∀ zq1 zq2 zq3, move_spec_H g dg c vs ns n2 news rest K gs ge t3 t4 i ti prog w p loose mean mg mb cn cs a ccd cl outer A₀ base h₀ L m s Q E (zP zq1 zq2 zq3)) → move_spec_H g dg c vs ns n2 news rest K gs ge t3 t4 i ti prog w p loose mean mg mb cn cs a ccd cl outer A₀ base h₀ L m s Q E (wpAny (model prog w) (ktrTop 950 9500 none cn cs L a ccd cl outer) (call (.ref 366) [.ref g, .int i ti]) Q E s)) := by
  refine ⟨?zG, fun zH C N P e1 e2 e3 r1 r2 hi hlen h0 h1 h2 h3 h4 ret => ?zh⟩
  case zh =>
    have zc := fun zq1 zq2 zq3 => zH zq1 zq2 zq3 C N P e1 e2 e3 r1 r2 hi hlen h0 h1 h2 h3 h4 ret
    clear zH
    obtain ⟨B, F, X, T, hk⟩ := C
    replace N := news_picks N P
    simp only [List.cons_append, List.nil_append] at N
    refine wpAny_call ?_
    k_dflt cell_enter
    rename_i g9 L9 h9 FG9 F9 N9 B9 X9 T9
    revert FG9 F9 N9 B9 X9 T9
    exact zc g9 L9 h9
abbrev move_spec_P : Type := ((((((Heap × Addr) × Heap) × (Addr × Addr)) × (((Addr × (List Value)) × (List Int)) × (Nat × (List (Addr × Obj))))) × (((((List (Addr × Obj)) × GKeys) × Int) × (Int × Tok)) × (((Tok × Int) × Tok) × (Program × World)))) × (((((Program × (List Str)) × (ExcName → Option Value)) × ((Str → Option Value) × (Str → Option Value))) × (((Str × Scope) × Addr) × (Value × (List (Str × Addr))))) × (((((List Env) × Around) × Heap) × (Heap × Addr)) × (((Str → Option Value) × Shared) × ((Value → Shared → Prop) × (Value → Shared → Prop))))))
abbrev move_spec_F (x : move_spec_P) : Prop := move_spec_H (x.1.1.1.2.1) (x.1.1.1.2.2) (x.1.1.2.1.1.1) (x.1.1.2.1.1.2) (x.1.1.2.1.2) (x.1.1.2.2.1) (x.1.1.2.2.2) (x.1.2.1.1.1.1) (x.1.2.1.1.1.2) (x.1.2.1.1.2) (x.1.2.1.2.1) (x.1.2.1.2.2) (x.1.2.2.1.1.1) (x.1.2.2.1.1.2) (x.1.2.2.1.2) (x.1.2.2.2.1) (x.1.2.2.2.2) (x.2.1.1.1.1.1) (x.2.1.1.1.1.2) (x.2.1.1.1.2) (x.2.1.1.2.1) (x.2.1.1.2.2) (x.2.1.2.1.1.1) (x.2.1.2.1.1.2) (x.2.1.2.1.2) (x.2.1.2.2.1) (x.2.1.2.2.2) (x.2.2.1.1.1.1) (x.2.2.1.1.1.2) (x.2.2.1.1.2) (x.2.2.1.2.1) (x.2.2.1.2.2) (x.2.2.2.1.1) (x.2.2.2.1.2) (x.2.2.2.2.1) (x.2.2.2.2.2)  ((move_spec_k (x.1.1.1.2.1) (x.1.1.1.2.2) (x.1.1.2.1.1.1) (x.1.1.2.1.1.2) (x.1.1.2.1.2) (x.1.1.2.2.1) (x.1.1.2.2.2) (x.1.2.1.1.1.1) (x.1.2.1.1.1.2) (x.1.2.1.1.2) (x.1.2.1.2.1) (x.1.2.1.2.2) (x.1.2.2.1.1.1) (x.1.2.2.1.1.2) (x.1.2.2.1.2) (x.1.2.2.2.1) (x.1.2.2.2.2) (x.2.1.1.1.1.1) (x.2.1.1.1.1.2) (x.2.1.1.1.2) (x.2.1.1.2.1) (x.2.1.1.2.2) (x.2.1.2.1.1.1) (x.2.1.2.1.1.2) (x.2.1.2.1.2) (x.2.1.2.2.1) (x.2.1.2.2.2) (x.2.2.1.1.1.1) (x.2.2.1.1.1.2) (x.2.2.1.1.2) (x.2.2.1.2.1) (x.2.2.1.2.2) (x.2.2.2.1.1) (x.2.2.2.1.2) (x.2.2.2.2.1) (x.2.2.2.2.2) ).1 (x.1.1.1.1.1.1) (x.1.1.1.1.1.2) (x.1.1.1.1.2))
theorem move_spec_ex : ∃ x : move_spec_P, move_spec_F x → ∀ y : move_spec_P, move_spec_F y := drinker ⟨((((((default, (0 : Nat)), default), ((0 : Nat), (0 : Nat))), ((((0 : Nat), []), []), (0, []))), (((([], gkeys0), 0), (0, (0 : Nat))), ((((0 : Nat), 0), (0 : Nat)), (default, world0)))), (((((default, []), fun _ => none), (fun _ => none, fun _ => none)), (((default, default), (0 : Nat)), (.none, []))), (((([], {}), default), (default, (0 : Nat))), ((fun _ => none, {}), (fun _ _ => True, fun _ _ => True)))))⟩
noncomputable def move_spec_x : move_spec_P := move_spec_ex.choose
namespace move_spec_n
noncomputable def g9 : Heap := move_spec_x.1.1.1.1.1.1
noncomputable def L9 : Addr := move_spec_x.1.1.1.1.1.2
noncomputable def h9 : Heap := move_spec_x.1.1.1.1.2
noncomputable def g : Addr := move_spec_x.1.1.1.2.1
noncomputable def dg : Addr := move_spec_x.1.1.1.2.2
noncomputable def c : Addr := move_spec_x.1.1.2.1.1.1
noncomputable def vs : List Value := move_spec_x.1.1.2.1.1.2
noncomputable def ns : List Int := move_spec_x.1.1.2.1.2
noncomputable def n2 : Nat := move_spec_x.1.1.2.2.1
noncomputable def news : List (Addr × Obj) := move_spec_x.1.1.2.2.2
noncomputable def rest : List (Addr × Obj) := move_spec_x.1.2.1.1.1.1
noncomputable def K : GKeys := move_spec_x.1.2.1.1.1.2
noncomputable def gs : Int := move_spec_x.1.2.1.1.2
noncomputable def ge : Int := move_spec_x.1.2.1.2.1
noncomputable def t3 : Tok := move_spec_x.1.2.1.2.2
noncomputable def t4 : Tok := move_spec_x.1.2.2.1.1.1
noncomputable def i : Int := move_spec_x.1.2.2.1.1.2
noncomputable def ti : Tok := move_spec_x.1.2.2.1.2
noncomputable def prog : Program := move_spec_x.1.2.2.2.1
noncomputable def w : World := move_spec_x.1.2.2.2.2
noncomputable def p : Program := move_spec_x.2.1.1.1.1.1
noncomputable def loose : List Str := move_spec_x.2.1.1.1.1.2
noncomputable def mean : ExcName → Option Value := move_spec_x.2.1.1.1.2
noncomputable def mg : Str → Option Value := move_spec_x.2.1.1.2.1
noncomputable def mb : Str → Option Value := move_spec_x.2.1.1.2.2
noncomputable def cn : Str := move_spec_x.2.1.2.1.1.1
noncomputable def cs : Scope := move_spec_x.2.1.2.1.1.2
noncomputable def a : Addr := move_spec_x.2.1.2.1.2
noncomputable def ccd : Value := move_spec_x.2.1.2.2.1
noncomputable def cl : List (Str × Addr) := move_spec_x.2.1.2.2.2
noncomputable def outer : List Env := move_spec_x.2.2.1.1.1.1
noncomputable def A₀ : Around := move_spec_x.2.2.1.1.1.2
noncomputable def base : Heap := move_spec_x.2.2.1.1.2
noncomputable def h₀ : Heap := move_spec_x.2.2.1.2.1
noncomputable def L : Addr := move_spec_x.2.2.1.2.2
noncomputable def m : Str → Option Value := move_spec_x.2.2.2.1.1
noncomputable def s : Shared := move_spec_x.2.2.2.1.2
noncomputable def Q : Value → Shared → Prop := move_spec_x.2.2.2.2.1
noncomputable def E : Value → Shared → Prop := move_spec_x.2.2.2.2.2
set_option maxRecDepth 100000 in
set_option maxHeartbeats 8000000 in
theorem main  : move_spec_H g dg c vs ns n2 news rest K gs ge t3 t4 i ti prog w p loose mean mg mb cn cs a ccd cl outer A₀ base h₀ L m s Q E ((move_spec_k g dg c vs ns n2 news rest K gs ge t3 t4 i ti prog w p loose mean mg mb cn cs a ccd cl outer A₀ base h₀ L m s Q E).1 g9 L9 h9) := by
  intro C N P e1 e2 e3 r1 r2 hi hlen h0 h1 h2 h3 h4 ret
  obtain ⟨B, F, X, T, hk⟩ := C
  replace N := news_picks N P
  simp only [List.cons_append, List.nil_append] at N
  delta move_spec_k
  dsimp only
  intro _ _ _ _ _ _
  k_steps
  · exact ret _ _ _ _ _ _ _ (by k_asm) (news_back (ds := [_, _, _]) (by k_asm) (by ktr_rel) (by tb_rel)) (by assumption) (by k_extra "ord") (by k_extra "ord") (by subst_vars; exact gtext_move_left h3 (by assumption) h1 h2 rfl (by rw [List.length_take, List.length_drop]))
  · exact ret _ _ _ _ _ _ _ (by k_asm) (news_back (ds := [_, _, _]) (by k_asm) (by ktr_rel) (by tb_rel)) (by assumption) (by k_extra "ord") (by k_extra "ord") (by subst_vars; exact gtext_move_right h0 (by assumption) h1 h2 h4 rfl (by rw [List.length_take, List.length_drop]))
end move_spec_n
theorem move_spec {prog : Program} {w : World} {p : Program} {loose : List Str} {mean : ExcName → Option Value} {mg : Str → Option Value} {mb : Str → Option Value} {cn : Str} {cs : Scope} {a : Addr} {ccd : Value} {cl : List (Str × Addr)} {outer : List Env} {A₀ : Around} {base : Heap} {h₀ : Heap} {L : Addr} {m : Str → Option Value} {s : Shared} {Q : Value → Shared → Prop} {E : Value → Shared → Prop} {g : Addr} {dg : Addr} {c : Addr} {vs : List Value} {ns : List Int} {n2 : Nat} {news : List (Addr × Obj)} {rest : List (Addr × Obj)} {K : GKeys} {gs : Int} {ge : Int} {t3 : Tok} {t4 : Tok} {i : Int} {ti : Tok} : move_spec_H g dg c vs ns n2 news rest K gs ge t3 t4 i ti prog w p loose mean mg mb cn cs a ccd cl outer A₀ base h₀ L m s Q E (wpAny (model prog w) (ktrTop 950 9500 none cn cs L a ccd cl outer) (call (.ref 366) [.ref g, .int i ti]) Q E s) := (move_spec_k g dg c vs ns n2 news rest K gs ge t3 t4 i ti prog w p loose mean mg mb cn cs a ccd cl outer A₀ base h₀ L m s Q E).2 (fun g9 L9 h9 => move_spec_ex.choose_spec (move_spec_n.main ) ((((((g9, L9), h9), (g, dg)), (((c, vs), ns), (n2, news))), ((((rest, K), gs), (ge, t3)), (((t4, i), ti), (prog, w)))), (((((p, loose), mean), (mg, mb)), (((cn, cs), a), (ccd, cl))), ((((outer, A₀), base), (h₀, L)), ((m, s), (Q, E))))) )
end
section
theorem lines_C2_1 : True := by
  k_with_none
  k_with "k_all" => with_reducible assumption
  k_with "ne_mem" => with_reducible first | exact List.mem_cons_self | (refine List.mem_cons_of_mem _ ?_; k_extra "ne_mem") | (refine List.mem_append_right _ ?_; k_extra "ne_mem")
  k_with "ne_bef" => with_reducible first | (refine Bef.head ?_; k_extra "ne_mem") | (refine Bef.tail ?_; k_extra "ne_bef")
  k_with "lt_ap" => (with_reducible rename Apart _ => kqA; first | (with_reducible exact Apart.bef kqA (by k_extra "ne_bef")) | (clear kqA; k_extra "lt_ap"))
  k_with "lt_go" => first | (with_reducible assumption) | (with_reducible exact AllLt.get (by assumption) (by k_extra "ne_mem")) | k_extra "lt_ap" | ((with_reducible refine Nat.lt_trans ?kq1 ?kq2); (case kq2 => with_reducible assumption); (case kq1 => k_extra "lt_go")) | ((with_reducible refine Nat.lt_trans ?kq1 ?kq2); (case kq1 => with_reducible assumption); (case kq2 => k_extra "lt_ap"))
  k_with "ne_lt" => with_reducible first | exact Nat.ne_of_lt (AllLt.get (by assumption) (by k_extra "ne_mem")) | exact Nat.ne_of_gt (AllLt.get (by assumption) (by k_extra "ne_mem"))
  k_with "ne_ap" => (with_reducible rename Apart _ => kqA; first | (with_reducible exact Nat.ne_of_lt (Apart.bef kqA (by k_extra "ne_bef"))) | (with_reducible exact Nat.ne_of_gt (Apart.bef kqA (by k_extra "ne_bef"))) | (clear kqA; k_extra "ne_ap"))
  k_with "k_ne" => (refine neN ?_; (try dsimp only); first | (with_reducible assumption) | (with_reducible exact Ne.symm (by assumption)) | (with_reducible exact Nat.ne_of_lt (by assumption)) | (with_reducible exact Nat.ne_of_gt (by assumption)) | k_extra "ne_lt" | k_extra "ne_ap" | omega | ((try simp only [AllLt] at *); omega))
  k_with "ne_all" => first | (with_reducible assumption) | (refine And.intro ?_ ?_ <;> k_extra "ne_all") | k_ne
  k_with "mem_hq" => first | exact hq | exact List.mem_append_left _ hq | (refine List.mem_cons_of_mem _ ?_; k_extra "mem_hq")
  k_with "perm" => first | (refine List.forall_mem_cons.mpr (And.intro ?kqa ?kqb); (case kqa => k_extra "ne_mem"); (case kqb => k_extra "perm")) | exact List.forall_mem_nil _ | (intro q hq; k_extra "mem_hq")
  k_with "ord" => first | (with_reducible assumption) | ((with_reducible show @LT.lt Nat _ _ _); k_extra "lt_go") | k_ne | omega | ((try simp only [AllLt] at *); omega)
  k_with "tb_start" => first | exact Pick.head | (apply Pick.tail; tb_start)
  k_with "tb_rel" => first | exact Suff.refl | (refine' Suff.tail ?_; tb_rel)
  k_with "ktr_rel" => first | exact Picks.nil | (refine' Picks.cons ?kqp ?kqq; (case kqp => tb_start); (case kqq => ktr_rel))
  k_with "ktr_unf" => exact ⟨by k_asm, by k_asm, by k_asm, by k_asm, by first | exact rfl | assumption⟩
  k_with "subscriptTail Attribute Name Slice" => (k_here; k_dflt (refine kba_turn (value' := PySem.Expr.Name (PySem.Str.ofString "_") ⟨0, 0, 0, 0⟩) (fun _ => rfl) ?_))
  k_with "subscriptTail Name Slice ref ref" => (k_here; (with_reducible show wpAny _ _ (subscriptTail _ (PySem.Expr.Slice (some _) (some _) none _) (Value.ref _) (Value.ref _)) _ _ _); k_dflt (refine' my_slice ?kqF ?kqN ?kql ?kqi ?kqx ?kqy ?kqz ?_ ?kqs ?kqt; (case kqF => k_asm); (case kqN => k_asm); (case kql => k_mem); (case kqi => k_asm); (case kqx => first | (with_reducible assumption) | omega | ((try simp only [AllLt] at *); omega)); (case kqy => first | (with_reducible assumption) | omega | ((try simp only [AllLt] at *); omega)); (case kqz => first | (with_reducible assumption) | omega | ((try simp only [AllLt] at *); omega)); (case kqs => with_unfolding_all rfl); (case kqt => kmk_pure); k_whole); intro D' ws' h' zs' F' N' l1 hI' hZ' hL'; (try (replace hL' := slice_len hL' (by first | (with_reducible assumption) | omega) (by first | (with_reducible assumption) | omega) (by first | (with_reducible assumption) | omega))); (try k_lt l1); (try k_sweep))
  k_with "setItem ref ref ref" => (k_here; k_dflt (refine' my_setslice ?kqF ?kqN ?kql ?kqU ?kqi ?kqw ?kqx ?kqy ?kqz ?kqzz ?_; (case kqF => k_asm); (case kqN => k_asm); (case kql => k_mem); (case kqU => k_updF); (case kqi => k_asm); (case kqw => k_asm); (case kqx => first | (with_reducible assumption) | omega | ((try simp only [AllLt] at *); omega)); (case kqy => first | (with_reducible assumption) | omega | ((try simp only [AllLt] at *); omega)); (case kqz => first | (with_reducible assumption) | omega | ((try simp only [AllLt] at *); omega)); (case kqzz => first | (with_reducible assumption) | omega | ((try simp only [AllLt] at *); omega)); k_whole); intro vs' n2' h' ns' F' N' hI' hZ' hL'; (try dsimp only at N'); (try k_sweep))
  k_with "call builtin:len" => (k_here; (with_reducible show wpAny _ _ (call (Value.builtin "len") [Value.ref _]) _ _ _); k_dflt (refine' my_len ?kqN ?kql ?kqi ?kqz ?_; (case kqN => k_asm); (case kql => k_mem); (case kqi => k_asm); (case kqz => first | (with_reducible assumption) | omega | ((try simp only [AllLt] at *); omega)); k_whole))
  trivial
def widen_spec_H (g : Addr) (dg : Addr) (c : Addr) (vs : List Value) (ns : List Int) (n2 : Nat) (news : List (Addr × Obj)) (rest : List (Addr × Obj)) (K : GKeys) (gs : Int) (ge : Int) (t3 : Tok) (t4 : Tok) (i : Int) (ti : Tok) (prog : Program) (w : World) (p : Program) (loose : List Str) (mean : ExcName → Option Value) (mg : Str → Option Value) (mb : Str → Option Value) (cn : Str) (cs : Scope) (a : Addr) (ccd : Value) (cl : List (Str × Addr)) (outer : List Env) (A₀ : Around) (base : Heap) (h₀ : Heap) (L : Addr) (m : Str → Option Value) (s : Shared) (Q : Value → Shared → Prop) (E : Value → Shared → Prop) (zR : Prop) : Prop := ∀ (C : Cx w p loose mean mg mb A₀ base outer h₀ L s.heap m cs) (N : News h₀ L s.heap news) (P : Picks [(g, instObj 411 dg), (dg, gapD K c gs t3 ge t4), (c, listOf vs.toArray n2)] news rest) (e1 : @Ne Nat g c) (e2 : @Ne Nat dg c) (e3 : @Ne Nat g dg) (r1 : ∀ q ∈ rest, q.1 ≠ c) (r2 : ∀ q ∈ rest, q.1 ≠ dg) (hi : IntsAre vs ns) (hlen : ns.length ≤ 5000) (h0 : 0 ≤ gs) (h1 : gs ≤ ge) (h2 : ge ≤ ns.length) (h3 : 0 ≤ i) (h4 : i ≤ 100) (hr : K.room = 8) (ret : ∀ vs' ns' n2' ge' t4' h' tk', Fr h₀ L h' m → News h₀ L h' ((g, instObj 411 dg) :: (dg, gapD K c gs t3 ge' t4') :: (c, listOf (List.toArray vs') n2') :: rest) → IntsAre vs' ns' → ns'.length ≤ ns.length + i + 8 → gs + i ≤ ge' → ge' ≤ ns'.length → (ns'.length : Int) - ge' = ns.length - ge → gtext ns' gs ge' = gtext ns gs ge → Q .none { s with heap := h', toks := tk' }), zR
set_option maxRecDepth 100000 in
set_option maxHeartbeats 8000000 in
noncomputable def widen_spec_k (g : Addr) (dg : Addr) (c : Addr) (vs : List Value) (ns : List Int) (n2 : Nat) (news : List (Addr × Obj)) (rest : List (Addr × Obj)) (K : GKeys) (gs : Int) (ge : Int) (t3 : Tok) (t4 : Tok) (i : Int) (ti : Tok) (prog : Program) (w : World) (p : Program) (loose : List Str) (mean : ExcName → Option Value) (mg : Str → Option Value) (mb : Str → Option Value) (cn : Str) (cs : Scope) (a : Addr) (ccd : Value) (cl : List (Str × Addr)) (outer : List Env) (A₀ : Around) (base : Heap) (h₀ : Heap) (L : Addr) (m : Str → Option Value) (s : Shared) (Q : Value → Shared → Prop) (E : Value → Shared → Prop) : PSigma (fun zP : Heap → Addr → Heap → Prop => (∀ zq1 zq2 zq3, widen_spec_H g dg c vs ns n2 news rest K gs ge t3 t4 i ti prog w p loose mean mg mb cn cs a ccd cl outer A₀ base h₀ L m s Q E (zP zq1 zq2 zq3)) → widen_spec_H g dg c vs ns n2 news rest K gs ge t3 t4 i ti prog w p loose mean mg mb cn cs a ccd cl outer A₀ base h₀ L m s Q E (wpAny (model prog w) (ktrTop 950 9500 none cn cs L a ccd cl outer) (call (.ref 373) [.ref g, .int i ti]) Q E s)) := by
  refine ⟨?zG, fun zH C N P e1 e2 e3 r1 r2 hi hlen h0 h1 h2 h3 h4 hr ret => ?zh⟩
  case zh =>
    have zc := fun zq1 zq2 zq3 => zH zq1 zq2 zq3 C N P e1 e2 e3 r1 r2 hi hlen h0 h1 h2 h3 h4 hr ret
    clear zH
    obtain ⟨B, F, X, T, hk⟩ := C
    replace N := news_picks N P
    simp only [List.cons_append, List.nil_append] at N
    refine wpAny_call ?_
    k_dflt cell_enter
    rename_i g9 L9 h9 FG9 F9 N9 B9 X9 T9
    revert FG9 F9 N9 B9 X9 T9
    exact zc g9 L9 h9
abbrev widen_spec_P : Type := ((((((Heap × Addr) × Heap) × (Addr × Addr)) × (((Addr × (List Value)) × (List Int)) × (Nat × (List (Addr × Obj))))) × (((((List (Addr × Obj)) × GKeys) × Int) × (Int × Tok)) × (((Tok × Int) × Tok) × (Program × World)))) × (((((Program × (List Str)) × (ExcName → Option Value)) × ((Str → Option Value) × (Str → Option Value))) × (((Str × Scope) × Addr) × (Value × (List (Str × Addr))))) × (((((List Env) × Around) × Heap) × (Heap × Addr)) × (((Str → Option Value) × Shared) × ((Value → Shared → Prop) × (Value → Shared → Prop))))))
abbrev widen_spec_F (x : widen_spec_P) : Prop := widen_spec_H (x.1.1.1.2.1) (x.1.1.1.2.2) (x.1.1.2.1.1.1) (x.1.1.2.1.1.2) (x.1.1.2.1.2) (x.1.1.2.2.1) (x.1.1.2.2.2) (x.1.2.1.1.1.1) (x.1.2.1.1.1.2) (x.1.2.1.1.2) (x.1.2.1.2.1) (x.1.2.1.2.2) (x.1.2.2.1.1.1) (x.1.2.2.1.1.2) (x.1.2.2.1.2) (x.1.2.2.2.1) (x.1.2.2.2.2) (x.2.1.1.1.1.1) (x.2.1.1.1.1.2) (x.2.1.1.1.2) (x.2.1.1.2.1) (x.2.1.1.2.2) (x.2.1.2.1.1.1) (x.2.1.2.1.1.2) (x.2.1.2.1.2) (x.2.1.2.2.1) (x.2.1.2.2.2) (x.2.2.1.1.1.1) (x.2.2.1.1.1.2) (x.2.2.1.1.2) (x.2.2.1.2.1) (x.2.2.1.2.2) (x.2.2.2.1.1) (x.2.2.2.1.2) (x.2.2.2.2.1) (x.2.2.2.2.2)  ((widen_spec_k (x.1.1.1.2.1) (x.1.1.1.2.2) (x.1.1.2.1.1.1) (x.1.1.2.1.1.2) (x.1.1.2.1.2) (x.1.1.2.2.1) (x.1.1.2.2.2) (x.1.2.1.1.1.1) (x.1.2.1.1.1.2) (x.1.2.1.1.2) (x.1.2.1.2.1) (x.1.2.1.2.2) (x.1.2.2.1.1.1) (x.1.2.2.1.1.2) (x.1.2.2.1.2) (x.1.2.2.2.1) (x.1.2.2.2.2) (x.2.1.1.1.1.1) (x.2.1.1.1.1.2) (x.2.1.1.1.2) (x.2.1.1.2.1) (x.2.1.1.2.2) (x.2.1.2.1.1.1) (x.2.1.2.1.1.2) (x.2.1.2.1.2) (x.2.1.2.2.1) (x.2.1.2.2.2) (x.2.2.1.1.1.1) (x.2.2.1.1.1.2) (x.2.2.1.1.2) (x.2.2.1.2.1) (x.2.2.1.2.2) (x.2.2.2.1.1) (x.2.2.2.1.2) (x.2.2.2.2.1) (x.2.2.2.2.2) ).1 (x.1.1.1.1.1.1) (x.1.1.1.1.1.2) (x.1.1.1.1.2))
theorem widen_spec_ex : ∃ x : widen_spec_P, widen_spec_F x → ∀ y : widen_spec_P, widen_spec_F y := drinker ⟨((((((default, (0 : Nat)), default), ((0 : Nat), (0 : Nat))), ((((0 : Nat), []), []), (0, []))), (((([], gkeys0), 0), (0, (0 : Nat))), ((((0 : Nat), 0), (0 : Nat)), (default, world0)))), (((((default, []), fun _ => none), (fun _ => none, fun _ => none)), (((default, default), (0 : Nat)), (.none, []))), (((([], {}), default), (default, (0 : Nat))), ((fun _ => none, {}), (fun _ _ => True, fun _ _ => True)))))⟩
noncomputable def widen_spec_x : widen_spec_P := widen_spec_ex.choose
namespace widen_spec_n
noncomputable def g9 : Heap := widen_spec_x.1.1.1.1.1.1
noncomputable def L9 : Addr := widen_spec_x.1.1.1.1.1.2
noncomputable def h9 : Heap := widen_spec_x.1.1.1.1.2
noncomputable def g : Addr := widen_spec_x.1.1.1.2.1
noncomputable def dg : Addr := widen_spec_x.1.1.1.2.2
noncomputable def c : Addr := widen_spec_x.1.1.2.1.1.1
noncomputable def vs : List Value := widen_spec_x.1.1.2.1.1.2
noncomputable def ns : List Int := widen_spec_x.1.1.2.1.2
noncomputable def n2 : Nat := widen_spec_x.1.1.2.2.1
noncomputable def news : List (Addr × Obj) := widen_spec_x.1.1.2.2.2
noncomputable def rest : List (Addr × Obj) := widen_spec_x.1.2.1.1.1.1
noncomputable def K : GKeys := widen_spec_x.1.2.1.1.1.2
noncomputable def gs : Int := widen_spec_x.1.2.1.1.2
noncomputable def ge : Int := widen_spec_x.1.2.1.2.1
noncomputable def t3 : Tok := widen_spec_x.1.2.1.2.2
noncomputable def t4 : Tok := widen_spec_x.1.2.2.1.1.1
noncomputable def i : Int := widen_spec_x.1.2.2.1.1.2
noncomputable def ti : Tok := widen_spec_x.1.2.2.1.2
noncomputable def prog : Program := widen_spec_x.1.2.2.2.1
noncomputable def w : World := widen_spec_x.1.2.2.2.2
noncomputable def p : Program := widen_spec_x.2.1.1.1.1.1
noncomputable def loose : List Str := widen_spec_x.2.1.1.1.1.2
noncomputable def mean : ExcName → Option Value := widen_spec_x.2.1.1.1.2
noncomputable def mg : Str → Option Value := widen_spec_x.2.1.1.2.1
noncomputable def mb : Str → Option Value := widen_spec_x.2.1.1.2.2
noncomputable def cn : Str := widen_spec_x.2.1.2.1.1.1
noncomputable def cs : Scope := widen_spec_x.2.1.2.1.1.2
noncomputable def a : Addr := widen_spec_x.2.1.2.1.2
noncomputable def ccd : Value := widen_spec_x.2.1.2.2.1
noncomputable def cl : List (Str × Addr) := widen_spec_x.2.1.2.2.2
noncomputable def outer : List Env := widen_spec_x.2.2.1.1.1.1
noncomputable def A₀ : Around := widen_spec_x.2.2.1.1.1.2
noncomputable def base : Heap := widen_spec_x.2.2.1.1.2
noncomputable def h₀ : Heap := widen_spec_x.2.2.1.2.1
noncomputable def L : Addr := widen_spec_x.2.2.1.2.2
noncomputable def m : Str → Option Value := widen_spec_x.2.2.2.1.1
noncomputable def s : Shared := widen_spec_x.2.2.2.1.2
noncomputable def Q : Value → Shared → Prop := widen_spec_x.2.2.2.2.1
noncomputable def E : Value → Shared → Prop := widen_spec_x.2.2.2.2.2
set_option maxRecDepth 100000 in
set_option maxHeartbeats 8000000 in
theorem main  : widen_spec_H g dg c vs ns n2 news rest K gs ge t3 t4 i ti prog w p loose mean mg mb cn cs a ccd cl outer A₀ base h₀ L m s Q E ((widen_spec_k g dg c vs ns n2 news rest K gs ge t3 t4 i ti prog w p loose mean mg mb cn cs a ccd cl outer A₀ base h₀ L m s Q E).1 g9 L9 h9) := by
  intro C N P e1 e2 e3 r1 r2 hi hlen h0 h1 h2 h3 h4 hr ret
  obtain ⟨B, F, X, T, hk⟩ := C
  replace N := news_picks N P
  simp only [List.cons_append, List.nil_append] at N
  delta widen_spec_k
  dsimp only
  intro _ _ _ _ _ _
  k_steps
  · exact ret _ _ _ _ _ _ _ (by k_asm) (news_back (ds := [_, _, _]) (by k_asm) (by ktr_rel) (by tb_rel)) (by assumption) (by k_extra "ord") (by k_extra "ord") (by k_extra "ord") (by k_extra "ord") (by subst_vars; exact gtext_widen h0 h1 h2 _ (by k_extra "ord"))
  · exact ret _ _ _ _ _ _ _ (by k_asm) (by k_asm) (by assumption) (by k_extra "ord") (by k_extra "ord") (by k_extra "ord") rfl rfl
end widen_spec_n
theorem widen_spec {prog : Program} {w : World} {p : Program} {loose : List Str} {mean : ExcName → Option Value} {mg : Str → Option Value} {mb : Str → Option Value} {cn : Str} {cs : Scope} {a : Addr} {ccd : Value} {cl : List (Str × Addr)} {outer : List Env} {A₀ : Around} {base : Heap} {h₀ : Heap} {L : Addr} {m : Str → Option Value} {s : Shared} {Q : Value → Shared → Prop} {E : Value → Shared → Prop} {g : Addr} {dg : Addr} {c : Addr} {vs : List Value} {ns : List Int} {n2 : Nat} {news : List (Addr × Obj)} {rest : List (Addr × Obj)} {K : GKeys} {gs : Int} {ge : Int} {t3 : Tok} {t4 : Tok} {i : Int} {ti : Tok} : widen_spec_H g dg c vs ns n2 news rest K gs ge t3 t4 i ti prog w p loose mean mg mb cn cs a ccd cl outer A₀ base h₀ L m s Q E (wpAny (model prog w) (ktrTop 950 9500 none cn cs L a ccd cl outer) (call (.ref 373) [.ref g, .int i ti]) Q E s) := (widen_spec_k g dg c vs ns n2 news rest K gs ge t3 t4 i ti prog w p loose mean mg mb cn cs a ccd cl outer A₀ base h₀ L m s Q E).2 (fun g9 L9 h9 => widen_spec_ex.choose_spec (widen_spec_n.main ) ((((((g9, L9), h9), (g, dg)), (((c, vs), ns), (n2, news))), ((((rest, K), gs), (ge, t3)), (((t4, i), ti), (prog, w)))), (((((p, loose), mean), (mg, mb)), (((cn, cs), a), (ccd, cl))), ((((outer, A₀), base), (h₀, L)), ((m, s), (Q, E))))) )
theorem lines_C2_2 : True := by
  k_with "call ref" => (k_here; (with_reducible show wpAny _ _ (call (Value.ref 345) _) _ _ _); k_dflt (refine' around_le (size_spec ?kqC ?kqN ?kqP ?kqi ?kql ?_) ?kqd ?kqu; (case kqC => ktr_unf); (case kqN => k_asm); (case kqP => ktr_rel); (case kqi => k_asm); (case kql => first | (with_reducible assumption) | omega | ((try simp only [AllLt] at *); omega)); (case kqd => exact Nat.le_of_ble_eq_true rfl); (case kqu => exact Nat.le_of_ble_eq_true rfl)); intro t' h' tk' F' N'; (try dsimp only); (try k_sweep); (try k_fold))
  k_with "call ref" => (k_here; (with_reducible show wpAny _ _ (call (Value.ref 359) _) _ _ _); k_dflt (refine' around_le (codes_spec ?kqC ?kqN ?kqP ?kqi ?kql ?kqh0 ?kqh1 ?kqh2 ?kqh3 ?kqh4 ?kqh5 ?_) ?kqd ?kqu; (case kqC => ktr_unf); (case kqN => k_asm); (case kqP => ktr_rel); (case kqi => k_asm); (case kql => first | (with_reducible assumption) | omega | ((try simp only [AllLt] at *); omega)); (case kqh0 => first | (with_reducible assumption) | omega | ((try simp only [AllLt] at *); omega)); (case kqh1 => first | (with_reducible assumption) | omega | ((try simp only [AllLt] at *); omega)); (case kqh2 => first | (with_reducible assumption) | omega | ((try simp only [AllLt] at *); omega)); (case kqh3 => first | (with_reducible assumption) | omega | ((try simp only [AllLt] at *); omega)); (case kqh4 => first | (with_reducible assumption) | omega | ((try simp only [AllLt] at *); omega)); (case kqh5 => first | (with_reducible assumption) | omega | ((try simp only [AllLt] at *); omega)); (case kqd => exact Nat.le_of_ble_eq_true rfl); (case kqu => exact Nat.le_of_ble_eq_true rfl)); intro D' ws' n' h' tk' F' N' l1 hI'; (try k_lt l1); (try dsimp only); (try k_sweep); (try k_fold))
  k_with "call ref" => (k_here; (with_reducible show wpAny _ _ (call (Value.ref 366) _) _ _ _); k_dflt (refine' around_le (move_spec ?kqC ?kqN ?kqP ?kqe1 ?kqe2 ?kqe3 ?kqr1 ?kqr2 ?kqi ?kql ?kqh0 ?kqh1 ?kqh2 ?kqh3 ?kqh4 ?_) ?kqd ?kqu; (case kqC => ktr_unf); (case kqN => k_asm); (case kqP => ktr_rel); (case kqe1 => first | k_extra "ne_all" | omega); (case kqe2 => first | k_extra "ne_all" | omega); (case kqe3 => first | k_extra "ne_all" | omega); (case kqr1 => k_all); (case kqr2 => k_all); (case kqi => k_asm); (case kql => first | (with_reducible assumption) | omega | ((try simp only [AllLt] at *); omega)); (case kqh0 => first | (with_reducible assumption) | omega | ((try simp only [AllLt] at *); omega)); (case kqh1 => first | (with_reducible assumption) | omega | ((try simp only [AllLt] at *); omega)); (case kqh2 => first | (with_reducible assumption) | omega | ((try simp only [AllLt] at *); omega)); (case kqh3 => first | (with_reducible assumption) | omega | ((try simp only [AllLt] at *); omega)); (case kqh4 => first | (with_reducible assumption) | omega | ((try simp only [AllLt] at *); omega)); (case kqd => exact Nat.le_of_ble_eq_true rfl); (case kqu => exact Nat.le_of_ble_eq_true rfl)); intro vs' ns' n2' ge' t4' h' tk' F' N' hI' hL' hG' hT'; (try dsimp only); (try k_sweep); (try k_fold))
  k_with "call ref" => (k_here; (with_reducible show wpAny _ _ (call (Value.ref 373) _) _ _ _); k_dflt (refine' around_le (widen_spec ?kqC ?kqN ?kqP ?kqe1 ?kqe2 ?kqe3 ?kqr1 ?kqr2 ?kqi ?kql ?kqh0 ?kqh1 ?kqh2 ?kqh3 ?kqh4 ?kqhr ?_) ?kqd ?kqu; (case kqC => ktr_unf); (case kqN => k_asm); (case kqP => ktr_rel); (case kqe1 => first | k_extra "ne_all" | omega); (case kqe2 => first | k_extra "ne_all" | omega); (case kqe3 => first | k_extra "ne_all" | omega); (case kqr1 => k_all); (case kqr2 => k_all); (case kqi => k_asm); (case kql => first | (with_reducible assumption) | omega | ((try simp only [AllLt] at *); omega)); (case kqh0 => first | (with_reducible assumption) | omega | ((try simp only [AllLt] at *); omega)); (case kqh1 => first | (with_reducible assumption) | omega | ((try simp only [AllLt] at *); omega)); (case kqh2 => first | (with_reducible assumption) | omega | ((try simp only [AllLt] at *); omega)); (case kqh3 => first | (with_reducible assumption) | omega | ((try simp only [AllLt] at *); omega)); (case kqh4 => first | (with_reducible assumption) | omega | ((try simp only [AllLt] at *); omega)); (case kqhr => assumption); (case kqd => exact Nat.le_of_ble_eq_true rfl); (case kqu => exact Nat.le_of_ble_eq_true rfl)); intro vs' ns' n2' ge' t4' h' tk' F' N' hI' hL' hG' hG2' hG3' hT'; (try dsimp only); (try k_sweep); (try k_fold))
  trivial
def ginsert_spec_H (g : Addr) (dg : Addr) (c : Addr) (l : Addr) (vs : List Value) (ws : List Value) (ns : List Int) (zs : List Int) (n2 : Nat) (nl : Nat) (news : List (Addr × Obj)) (rest : List (Addr × Obj)) (K : GKeys) (gs : Int) (ge : Int) (t3 : Tok) (t4 : Tok) (i : Int) (ti : Tok) (prog : Program) (w : World) (p : Program) (loose : List Str) (mean : ExcName → Option Value) (mg : Str → Option Value) (mb : Str → Option Value) (cn : Str) (cs : Scope) (a : Addr) (ccd : Value) (cl : List (Str × Addr)) (outer : List Env) (A₀ : Around) (base : Heap) (h₀ : Heap) (L : Addr) (m : Str → Option Value) (s : Shared) (Q : Value → Shared → Prop) (E : Value → Shared → Prop) (zR : Prop) : Prop := ∀ (C : Cx w p loose mean mg mb A₀ base outer h₀ L s.heap m cs) (N : News h₀ L s.heap news) (P : Picks [(g, instObj 411 dg), (dg, gapD K c gs t3 ge t4), (c, listOf vs.toArray n2), (l, listOf ws.toArray nl)] news rest) (e1 : @Ne Nat g c) (e2 : @Ne Nat dg c) (e3 : @Ne Nat g dg) (e4 : @Ne Nat l c) (e5 : @Ne Nat l dg) (r1 : ∀ q ∈ rest, q.1 ≠ c) (r2 : ∀ q ∈ rest, q.1 ≠ dg) (hi : IntsAre vs ns) (hw : IntsAre ws zs) (hlen : ns.length ≤ 4000) (h0 : 0 ≤ gs) (h1 : gs ≤ ge) (h2 : ge ≤ ns.length) (h3 : 0 ≤ i) (h4 : i ≤ ns.length - ge + gs) (h5 : zs.length ≤ 100) (hr : K.room = 8) (ret : ∀ vs' ns' n2' gs' t3' ge' t4' h' tk', Fr h₀ L h' m → News h₀ L h' ((g, instObj 411 dg) :: (dg, gapD K c gs' t3' ge' t4') :: (c, listOf (List.toArray vs') n2') :: (l, listOf ws.toArray nl) :: rest) → IntsAre vs' ns' → ns'.length ≤ ns.length + zs.length + 8 → 0 ≤ gs' → gs' ≤ ge' → ge' ≤ ns'.length → (ns'.length : Int) - ge' + gs' = ns.length - ge + gs + zs.length →
   gtext ns' gs' ge' = (gtext ns gs ge).take i.toNat ++ zs ++ (gtext ns gs ge).drop i.toNat → Q .none { s with heap := h', toks := tk' }), zR
set_option maxRecDepth 100000 in
set_option maxHeartbeats 8000000 in
noncomputable def ginsert_spec_k (g : Addr) (dg : Addr) (c : Addr) (l : Addr) (vs : List Value) (ws : List Value) (ns : List Int) (zs : List Int) (n2 : Nat) (nl : Nat) (news : List (Addr × Obj)) (rest : List (Addr × Obj)) (K : GKeys) (gs : Int) (ge : Int) (t3 : Tok) (t4 : Tok) (i : Int) (ti : Tok) (prog : Program) (w : World) (p : Program) (loose : List Str) (mean : ExcName → Option Value) (mg : Str → Option Value) (mb : Str → Option Value) (cn : Str) (cs : Scope) (a : Addr) (ccd : Value) (cl : List (Str × Addr)) (outer : List Env) (A₀ : Around) (base : Heap) (h₀ : Heap) (L : Addr) (m : Str → Option Value) (s : Shared) (Q : Value → Shared → Prop) (E : Value → Shared → Prop) : PSigma (fun zP : Heap → Addr → Heap → Prop => (∀ zq1 zq2 zq3, ginsert_spec_H g dg c l vs ws ns zs n2 nl news rest K gs ge t3 t4 i ti prog w p loose mean mg mb cn cs a ccd cl outer A₀ base h₀ L m s Q E (zP zq1 zq2 zq3)) → ginsert_spec_H g dg c l vs ws ns zs n2 nl news rest K gs ge t3 t4 i ti prog w p loose mean mg mb cn cs a ccd cl outer A₀ base h₀ L m s Q E (wpAny (model prog w) (ktrTop 940 9400 none cn cs L a ccd cl outer) (call (.ref 380) [.ref g, .int i ti, .ref l]) Q E s)) := by
  refine ⟨?zG, fun zH C N P e1 e2 e3 e4 e5 r1 r2 hi hw hlen h0 h1 h2 h3 h4 h5 hr ret => ?zh⟩
  case zh =>
    have zc := fun zq1 zq2 zq3 => zH zq1 zq2 zq3 C N P e1 e2 e3 e4 e5 r1 r2 hi hw hlen h0 h1 h2 h3 h4 h5 hr ret
    clear zH
    obtain ⟨B, F, X, T, hk⟩ := C
    replace N := news_picks N P
    simp only [List.cons_append, List.nil_append] at N
    refine wpAny_call ?_
    k_dflt cell_enter
    rename_i g9 L9 h9 FG9 F9 N9 B9 X9 T9
    revert FG9 F9 N9 B9 X9 T9
    exact zc g9 L9 h9
abbrev ginsert_spec_P : Type := ((((((Heap × Addr) × Heap) × ((Addr × Addr) × Addr)) × (((Addr × (List Value)) × (List Value)) × ((List Int) × (List Int)))) × ((((Nat × Nat) × (List (Addr × Obj))) × (((List (Addr × Obj)) × GKeys) × Int)) × (((Int × Tok) × Tok) × (Int × Tok)))) × (((((Program × World) × Program) × (((List Str) × (ExcName → Option Value)) × (Str → Option Value))) × ((((Str → Option Value) × Str) × Scope) × (Addr × Value))) × (((((List (Str × Addr)) × (List Env)) × Around) × (Heap × Heap)) × (((Addr × (Str → Option Value)) × Shared) × ((Value → Shared → Prop) × (Value → Shared → Prop))))))
abbrev ginsert_spec_F (x : ginsert_spec_P) : Prop := ginsert_spec_H (x.1.1.1.2.1.1) (x.1.1.1.2.1.2) (x.1.1.1.2.2) (x.1.1.2.1.1.1) (x.1.1.2.1.1.2) (x.1.1.2.1.2) (x.1.1.2.2.1) (x.1.1.2.2.2) (x.1.2.1.1.1.1) (x.1.2.1.1.1.2) (x.1.2.1.1.2) (x.1.2.1.2.1.1) (x.1.2.1.2.1.2) (x.1.2.1.2.2) (x.1.2.2.1.1.1) (x.1.2.2.1.1.2) (x.1.2.2.1.2) (x.1.2.2.2.1) (x.1.2.2.2.2) (x.2.1.1.1.1.1) (x.2.1.1.1.1.2) (x.2.1.1.1.2) (x.2.1.1.2.1.1) (x.2.1.1.2.1.2) (x.2.1.1.2.2) (x.2.1.2.1.1.1) (x.2.1.2.1.1.2) (x.2.1.2.1.2) (x.2.1.2.2.1) (x.2.1.2.2.2) (x.2.2.1.1.1.1) (x.2.2.1.1.1.2) (x.2.2.1.1.2) (x.2.2.1.2.1) (x.2.2.1.2.2) (x.2.2.2.1.1.1) (x.2.2.2.1.1.2) (x.2.2.2.1.2) (x.2.2.2.2.1) (x.2.2.2.2.2)  ((ginsert_spec_k (x.1.1.1.2.1.1) (x.1.1.1.2.1.2) (x.1.1.1.2.2) (x.1.1.2.1.1.1) (x.1.1.2.1.1.2) (x.1.1.2.1.2) (x.1.1.2.2.1) (x.1.1.2.2.2) (x.1.2.1.1.1.1) (x.1.2.1.1.1.2) (x.1.2.1.1.2) (x.1.2.1.2.1.1) (x.1.2.1.2.1.2) (x.1.2.1.2.2) (x.1.2.2.1.1.1) (x.1.2.2.1.1.2) (x.1.2.2.1.2) (x.1.2.2.2.1) (x.1.2.2.2.2) (x.2.1.1.1.1.1) (x.2.1.1.1.1.2) (x.2.1.1.1.2) (x.2.1.1.2.1.1) (x.2.1.1.2.1.2) (x.2.1.1.2.2) (x.2.1.2.1.1.1) (x.2.1.2.1.1.2) (x.2.1.2.1.2) (x.2.1.2.2.1) (x.2.1.2.2.2) (x.2.2.1.1.1.1) (x.2.2.1.1.1.2) (x.2.2.1.1.2) (x.2.2.1.2.1) (x.2.2.1.2.2) (x.2.2.2.1.1.1) (x.2.2.2.1.1.2) (x.2.2.2.1.2) (x.2.2.2.2.1) (x.2.2.2.2.2) ).1 (x.1.1.1.1.1.1) (x.1.1.1.1.1.2) (x.1.1.1.1.2))
theorem ginsert_spec_ex : ∃ x : ginsert_spec_P, ginsert_spec_F x → ∀ y : ginsert_spec_P, ginsert_spec_F y := drinker ⟨((((((default, (0 : Nat)), default), (((0 : Nat), (0 : Nat)), (0 : Nat))), ((((0 : Nat), []), []), ([], []))), ((((0, 0), []), (([], gkeys0), 0)), (((0, (0 : Nat)), (0 : Nat)), (0, (0 : Nat))))), (((((default, world0), default), (([], fun _ => none), fun _ => none)), (((fun _ => none, default), default), ((0 : Nat), .none))), (((([], []), {}), (default, default)), ((((0 : Nat), fun _ => none), {}), (fun _ _ => True, fun _ _ => True)))))⟩
noncomputable def ginsert_spec_x : ginsert_spec_P := ginsert_spec_ex.choose
namespace ginsert_spec_n
noncomputable def g9 : Heap := ginsert_spec_x.1.1.1.1.1.1
noncomputable def L9 : Addr := ginsert_spec_x.1.1.1.1.1.2
noncomputable def h9 : Heap := ginsert_spec_x.1.1.1.1.2
noncomputable def g : Addr := ginsert_spec_x.1.1.1.2.1.1
noncomputable def dg : Addr := ginsert_spec_x.1.1.1.2.1.2
noncomputable def c : Addr := ginsert_spec_x.1.1.1.2.2
noncomputable def l : Addr := ginsert_spec_x.1.1.2.1.1.1
noncomputable def vs : List Value := ginsert_spec_x.1.1.2.1.1.2
noncomputable def ws : List Value := ginsert_spec_x.1.1.2.1.2
noncomputable def ns : List Int := ginsert_spec_x.1.1.2.2.1
noncomputable def zs : List Int := ginsert_spec_x.1.1.2.2.2
noncomputable def n2 : Nat := ginsert_spec_x.1.2.1.1.1.1
noncomputable def nl : Nat := ginsert_spec_x.1.2.1.1.1.2
noncomputable def news : List (Addr × Obj) := ginsert_spec_x.1.2.1.1.2
noncomputable def rest : List (Addr × Obj) := ginsert_spec_x.1.2.1.2.1.1
noncomputable def K : GKeys := ginsert_spec_x.1.2.1.2.1.2
noncomputable def gs : Int := ginsert_spec_x.1.2.1.2.2
noncomputable def ge : Int := ginsert_spec_x.1.2.2.1.1.1
noncomputable def t3 : Tok := ginsert_spec_x.1.2.2.1.1.2
noncomputable def t4 : Tok := ginsert_spec_x.1.2.2.1.2
noncomputable def i : Int := ginsert_spec_x.1.2.2.2.1
noncomputable def ti : Tok := ginsert_spec_x.1.2.2.2.2
noncomputable def prog : Program := ginsert_spec_x.2.1.1.1.1.1
noncomputable def w : World := ginsert_spec_x.2.1.1.1.1.2
noncomputable def p : Program := ginsert_spec_x.2.1.1.1.2
noncomputable def loose : List Str := ginsert_spec_x.2.1.1.2.1.1
noncomputable def mean : ExcName → Option Value := ginsert_spec_x.2.1.1.2.1.2
noncomputable def mg : Str → Option Value := ginsert_spec_x.2.1.1.2.2
noncomputable def mb : Str → Option Value := ginsert_spec_x.2.1.2.1.1.1
noncomputable def cn : Str := ginsert_spec_x.2.1.2.1.1.2
noncomputable def cs : Scope := ginsert_spec_x.2.1.2.1.2
noncomputable def a : Addr := ginsert_spec_x.2.1.2.2.1
noncomputable def ccd : Value := ginsert_spec_x.2.1.2.2.2
noncomputable def cl : List (Str × Addr) := ginsert_spec_x.2.2.1.1.1.1
noncomputable def outer : List Env := ginsert_spec_x.2.2.1.1.1.2
noncomputable def A₀ : Around := ginsert_spec_x.2.2.1.1.2
noncomputable def base : Heap := ginsert_spec_x.2.2.1.2.1
noncomputable def h₀ : Heap := ginsert_spec_x.2.2.1.2.2
noncomputable def L : Addr := ginsert_spec_x.2.2.2.1.1.1
noncomputable def m : Str → Option Value := ginsert_spec_x.2.2.2.1.1.2
noncomputable def s : Shared := ginsert_spec_x.2.2.2.1.2
noncomputable def Q : Value → Shared → Prop := ginsert_spec_x.2.2.2.2.1
noncomputable def E : Value → Shared → Prop := ginsert_spec_x.2.2.2.2.2
set_option maxRecDepth 100000 in
set_option maxHeartbeats 8000000 in
theorem main  : ginsert_spec_H g dg c l vs ws ns zs n2 nl news rest K gs ge t3 t4 i ti prog w p loose mean mg mb cn cs a ccd cl outer A₀ base h₀ L m s Q E ((ginsert_spec_k g dg c l vs ws ns zs n2 nl news rest K gs ge t3 t4 i ti prog w p loose mean mg mb cn cs a ccd cl outer A₀ base h₀ L m s Q E).1 g9 L9 h9) := by
  intro C N P e1 e2 e3 e4 e5 r1 r2 hi hw hlen h0 h1 h2 h3 h4 h5 hr ret
  obtain ⟨B, F, X, T, hk⟩ := C
  have hgl := gtext_length h0 h1 h2
  replace N := news_picks N P
  simp only [List.cons_append, List.nil_append] at N
  delta ginsert_spec_k
  dsimp only
  intro _ _ _ _ _ _
  k_steps
  · exact ret _ _ _ _ _ _ _ _ _ (by k_asm) (news_back (ds := [_, _, _, _]) (by k_asm) (by ktr_rel) (by tb_rel)) (by assumption) (by k_extra "ord") (by k_extra "ord") (by k_extra "ord") (by k_extra "ord") (by k_extra "ord")
      (by subst_vars; rw [gtext_put h3 (by k_extra "ord") (by k_extra "ord")]; simp only [‹gtext _ i _ = gtext _ gs _›, ‹gtext _ gs _ = gtext ns gs ge›])
end ginsert_spec_n
theorem ginsert_spec {prog : Program} {w : World} {p : Program} {loose : List Str} {mean : ExcName → Option Value} {mg : Str → Option Value} {mb : Str → Option Value} {cn : Str} {cs : Scope} {a : Addr} {ccd : Value} {cl : List (Str × Addr)} {outer : List Env} {A₀ : Around} {base : Heap} {h₀ : Heap} {L : Addr} {m : Str → Option Value} {s : Shared} {Q : Value → Shared → Prop} {E : Value → Shared → Prop} {g : Addr} {dg : Addr} {c : Addr} {l : Addr} {vs : List Value} {ws : List Value} {ns : List Int} {zs : List Int} {n2 : Nat} {nl : Nat} {news : List (Addr × Obj)} {rest : List (Addr × Obj)} {K : GKeys} {gs : Int} {ge : Int} {t3 : Tok} {t4 : Tok} {i : Int} {ti : Tok} : ginsert_spec_H g dg c l vs ws ns zs n2 nl news rest K gs ge t3 t4 i ti prog w p loose mean mg mb cn cs a ccd cl outer A₀ base h₀ L m s Q E (wpAny (model prog w) (ktrTop 940 9400 none cn cs L a ccd cl outer) (call (.ref 380) [.ref g, .int i ti, .ref l]) Q E s) := (ginsert_spec_k g dg c l vs ws ns zs n2 nl news rest K gs ge t3 t4 i ti prog w p loose mean mg mb cn cs a ccd cl outer A₀ base h₀ L m s Q E).2 (fun g9 L9 h9 => ginsert_spec_ex.choose_spec (ginsert_spec_n.main ) ((((((g9, L9), h9), ((g, dg), c)), (((l, vs), ws), (ns, zs))), ((((n2, nl), news), ((rest, K), gs)), (((ge, t3), t4), (i, ti)))), (((((prog, w), p), ((loose, mean), mg)), (((mb, cn), cs), (a, ccd))), ((((cl, outer), A₀), (base, h₀)), (((L, m), s), (Q, E))))) )
def gdelete_spec_H (g : Addr) (dg : Addr) (c : Addr) (vs : List Value) (ns : List Int) (n2 : Nat) (news : List (Addr × Obj)) (rest : List (Addr × Obj)) (K : GKeys) (t3 : Tok) (t4 : Tok) (ti : Tok) (tj : Tok) (prog : Program) (w : World) (p : Program) (loose : List Str) (mean : ExcName → Option Value) (mg : Str → Option Value) (mb : Str → Option Value) (cn : Str) (cs : Scope) (a : Addr) (ccd : Value) (cl : List (Str × Addr)) (outer : List Env) (A₀ : Around) (base : Heap) (h₀ : Heap) (L : Addr) (m : Str → Option Value) (s : Shared) (Q : Value → Shared → Prop) (E : Value → Shared → Prop) (gs : Int) (ge : Int) (i : Int) (j : Int) (zR : Prop) : Prop := ∀ (C : Cx w p loose mean mg mb A₀ base outer h₀ L s.heap m cs) (N : News h₀ L s.heap news) (P : Picks [(g, instObj 411 dg), (dg, gapD K c gs t3 ge t4), (c, listOf vs.toArray n2)] news rest) (e1 : @Ne Nat g c) (e2 : @Ne Nat dg c) (e3 : @Ne Nat g dg) (r1 : ∀ q ∈ rest, q.1 ≠ c) (r2 : ∀ q ∈ rest, q.1 ≠ dg) (hi : IntsAre vs ns) (hlen : ns.length ≤ 4000) (h0 : 0 ≤ gs) (h1 : gs ≤ ge) (h2 : ge ≤ ns.length) (h3 : 0 ≤ i) (h4 : i ≤ j) (h5 : j ≤ ns.length - ge + gs) (ret : ∀ D ws nd vs' ns' n2' gs' t3' ge' t4' h' tk', Fr h₀ L h' m → News h₀ L h' ((D, listOf (List.toArray ws) nd) :: (g, instObj 411 dg) :: (dg, gapD K c gs' t3' ge' t4') :: (c, listOf (List.toArray vs') n2') :: rest) → (∀ q ∈ news, q.1 < D) → IntsAre vs' ns' → ns'.length = ns.length → 0 ≤ gs' → gs' ≤ ge' → ge' ≤ ns'.length → (ns'.length : Int) - ge' + gs' = ns.length - ge + gs - (j - i) →
   gtext ns' gs' ge' = (gtext ns gs ge).take i.toNat ++ (gtext ns gs ge).drop j.toNat → Q (.ref D) { s with heap := h', toks := tk' }), zR
set_option maxRecDepth 100000 in
set_option maxHeartbeats 8000000 in
noncomputable def gdelete_spec_k (g : Addr) (dg : Addr) (c : Addr) (vs : List Value) (ns : List Int) (n2 : Nat) (news : List (Addr × Obj)) (rest : List (Addr × Obj)) (K : GKeys) (t3 : Tok) (t4 : Tok) (ti : Tok) (tj : Tok) (prog : Program) (w : World) (p : Program) (loose : List Str) (mean : ExcName → Option Value) (mg : Str → Option Value) (mb : Str → Option Value) (cn : Str) (cs : Scope) (a : Addr) (ccd : Value) (cl : List (Str × Addr)) (outer : List Env) (A₀ : Around) (base : Heap) (h₀ : Heap) (L : Addr) (m : Str → Option Value) (s : Shared) (Q : Value → Shared → Prop) (E : Value → Shared → Prop) (gs : Int) (ge : Int) (i : Int) (j : Int) : PSigma (fun zP : Heap → Addr → Heap → Prop => (∀ zq1 zq2 zq3, gdelete_spec_H g dg c vs ns n2 news rest K t3 t4 ti tj prog w p loose mean mg mb cn cs a ccd cl outer A₀ base h₀ L m s Q E gs ge i j (zP zq1 zq2 zq3)) → gdelete_spec_H g dg c vs ns n2 news rest K t3 t4 ti tj prog w p loose mean mg mb cn cs a ccd cl outer A₀ base h₀ L m s Q E gs ge i j (wpAny (model prog w) (ktrTop 940 9400 none cn cs L a ccd cl outer) (call (.ref 387) [.ref g, .int i ti, .int j tj]) Q E s)) := by
  refine ⟨?zG, fun zH C N P e1 e2 e3 r1 r2 hi hlen h0 h1 h2 h3 h4 h5 ret => ?zh⟩
  case zh =>
    have zc := fun zq1 zq2 zq3 => zH zq1 zq2 zq3 C N P e1 e2 e3 r1 r2 hi hlen h0 h1 h2 h3 h4 h5 ret
    clear zH
    obtain ⟨B, F, X, T, hk⟩ := C
    replace N := news_picks N P
    simp only [List.cons_append, List.nil_append] at N
    refine wpAny_call ?_
    k_dflt cell_enter
    rename_i g9 L9 h9 FG9 F9 N9 B9 X9 T9
    revert FG9 F9 N9 B9 X9 T9
    exact zc g9 L9 h9
abbrev gdelete_spec_P : Type := ((((((Heap × Addr) × Heap) × (Addr × Addr)) × (((Addr × (List Value)) × (List Int)) × (Nat × (List (Addr × Obj))))) × (((((List (Addr × Obj)) × GKeys) × Tok) × (Tok × Tok)) × ((Tok × Program) × (World × Program)))) × ((((((List Str) × (ExcName → Option Value)) × (Str → Option Value)) × ((Str → Option Value) × Str)) × ((Scope × Addr) × (Value × (List (Str × Addr))))) × (((((List Env) × Around) × Heap) × (Heap × Addr)) × (((Str → Option Value) × Shared) × ((Value → Shared → Prop) × (Value → Shared → Prop))))))
abbrev gdelete_spec_F (x : gdelete_spec_P) : Prop := ∀ (gs : Int) (ge : Int) (i : Int) (j : Int), gdelete_spec_H (x.1.1.1.2.1) (x.1.1.1.2.2) (x.1.1.2.1.1.1) (x.1.1.2.1.1.2) (x.1.1.2.1.2) (x.1.1.2.2.1) (x.1.1.2.2.2) (x.1.2.1.1.1.1) (x.1.2.1.1.1.2) (x.1.2.1.1.2) (x.1.2.1.2.1) (x.1.2.1.2.2) (x.1.2.2.1.1) (x.1.2.2.1.2) (x.1.2.2.2.1) (x.1.2.2.2.2) (x.2.1.1.1.1.1) (x.2.1.1.1.1.2) (x.2.1.1.1.2) (x.2.1.1.2.1) (x.2.1.1.2.2) (x.2.1.2.1.1) (x.2.1.2.1.2) (x.2.1.2.2.1) (x.2.1.2.2.2) (x.2.2.1.1.1.1) (x.2.2.1.1.1.2) (x.2.2.1.1.2) (x.2.2.1.2.1) (x.2.2.1.2.2) (x.2.2.2.1.1) (x.2.2.2.1.2) (x.2.2.2.2.1) (x.2.2.2.2.2) gs ge i j ((gdelete_spec_k (x.1.1.1.2.1) (x.1.1.1.2.2) (x.1.1.2.1.1.1) (x.1.1.2.1.1.2) (x.1.1.2.1.2) (x.1.1.2.2.1) (x.1.1.2.2.2) (x.1.2.1.1.1.1) (x.1.2.1.1.1.2) (x.1.2.1.1.2) (x.1.2.1.2.1) (x.1.2.1.2.2) (x.1.2.2.1.1) (x.1.2.2.1.2) (x.1.2.2.2.1) (x.1.2.2.2.2) (x.2.1.1.1.1.1) (x.2.1.1.1.1.2) (x.2.1.1.1.2) (x.2.1.1.2.1) (x.2.1.1.2.2) (x.2.1.2.1.1) (x.2.1.2.1.2) (x.2.1.2.2.1) (x.2.1.2.2.2) (x.2.2.1.1.1.1) (x.2.2.1.1.1.2) (x.2.2.1.1.2) (x.2.2.1.2.1) (x.2.2.1.2.2) (x.2.2.2.1.1) (x.2.2.2.1.2) (x.2.2.2.2.1) (x.2.2.2.2.2) gs ge i j).1 (x.1.1.1.1.1.1) (x.1.1.1.1.1.2) (x.1.1.1.1.2))
theorem gdelete_spec_ex : ∃ x : gdelete_spec_P, gdelete_spec_F x → ∀ y : gdelete_spec_P, gdelete_spec_F y := drinker ⟨((((((default, (0 : Nat)), default), ((0 : Nat), (0 : Nat))), ((((0 : Nat), []), []), (0, []))), (((([], gkeys0), (0 : Nat)), ((0 : Nat), (0 : Nat))), (((0 : Nat), default), (world0, default)))), ((((([], fun _ => none), fun _ => none), (fun _ => none, default)), ((default, (0 : Nat)), (.none, []))), (((([], {}), default), (default, (0 : Nat))), ((fun _ => none, {}), (fun _ _ => True, fun _ _ => True)))))⟩
noncomputable def gdelete_spec_x : gdelete_spec_P := gdelete_spec_ex.choose
namespace gdelete_spec_n
noncomputable def g9 : Heap := gdelete_spec_x.1.1.1.1.1.1
noncomputable def L9 : Addr := gdelete_spec_x.1.1.1.1.1.2
noncomputable def h9 : Heap := gdelete_spec_x.1.1.1.1.2
noncomputable def g : Addr := gdelete_spec_x.1.1.1.2.1
noncomputable def dg : Addr := gdelete_spec_x.1.1.1.2.2
noncomputable def c : Addr := gdelete_spec_x.1.1.2.1.1.1
noncomputable def vs : List Value := gdelete_spec_x.1.1.2.1.1.2
noncomputable def ns : List Int := gdelete_spec_x.1.1.2.1.2
noncomputable def n2 : Nat := gdelete_spec_x.1.1.2.2.1
noncomputable def news : List (Addr × Obj) := gdelete_spec_x.1.1.2.2.2
noncomputable def rest : List (Addr × Obj) := gdelete_spec_x.1.2.1.1.1.1
noncomputable def K : GKeys := gdelete_spec_x.1.2.1.1.1.2
noncomputable def t3 : Tok := gdelete_spec_x.1.2.1.1.2
noncomputable def t4 : Tok := gdelete_spec_x.1.2.1.2.1
noncomputable def ti : Tok := gdelete_spec_x.1.2.1.2.2
noncomputable def tj : Tok := gdelete_spec_x.1.2.2.1.1
noncomputable def prog : Program := gdelete_spec_x.1.2.2.1.2
noncomputable def w : World := gdelete_spec_x.1.2.2.2.1
noncomputable def p : Program := gdelete_spec_x.1.2.2.2.2
noncomputable def loose : List Str := gdelete_spec_x.2.1.1.1.1.1
noncomputable def mean : ExcName → Option Value := gdelete_spec_x.2.1.1.1.1.2
noncomputable def mg : Str → Option Value := gdelete_spec_x.2.1.1.1.2
noncomputable def mb : Str → Option Value := gdelete_spec_x.2.1.1.2.1
noncomputable def cn : Str := gdelete_spec_x.2.1.1.2.2
noncomputable def cs : Scope := gdelete_spec_x.2.1.2.1.1
noncomputable def a : Addr := gdelete_spec_x.2.1.2.1.2
noncomputable def ccd : Value := gdelete_spec_x.2.1.2.2.1
noncomputable def cl : List (Str × Addr) := gdelete_spec_x.2.1.2.2.2
noncomputable def outer : List Env := gdelete_spec_x.2.2.1.1.1.1
noncomputable def A₀ : Around := gdelete_spec_x.2.2.1.1.1.2
noncomputable def base : Heap := gdelete_spec_x.2.2.1.1.2
noncomputable def h₀ : Heap := gdelete_spec_x.2.2.1.2.1
noncomputable def L : Addr := gdelete_spec_x.2.2.1.2.2
noncomputable def m : Str → Option Value := gdelete_spec_x.2.2.2.1.1
noncomputable def s : Shared := gdelete_spec_x.2.2.2.1.2
noncomputable def Q : Value → Shared → Prop := gdelete_spec_x.2.2.2.2.1
noncomputable def E : Value → Shared → Prop := gdelete_spec_x.2.2.2.2.2
set_option maxRecDepth 100000 in
set_option maxHeartbeats 8000000 in
theorem main (gs : Int) (ge : Int) (i : Int) (j : Int) : gdelete_spec_H g dg c vs ns n2 news rest K t3 t4 ti tj prog w p loose mean mg mb cn cs a ccd cl outer A₀ base h₀ L m s Q E gs ge i j ((gdelete_spec_k g dg c vs ns n2 news rest K t3 t4 ti tj prog w p loose mean mg mb cn cs a ccd cl outer A₀ base h₀ L m s Q E gs ge i j).1 g9 L9 h9) := by
  intro C N P e1 e2 e3 r1 r2 hi hlen h0 h1 h2 h3 h4 h5 ret
  obtain ⟨B, F, X, T, hk⟩ := C
  have hgl := gtext_length h0 h1 h2
  replace N := news_picks N P
  simp only [List.cons_append, List.nil_append] at N
  delta gdelete_spec_k
  dsimp only
  intro _ _ _ _ _ _
  k_steps
  · exact ret _ _ _ _ _ _ _ _ _ _ _ _ (by k_asm) (news_back (ds := [_, _, _, _]) (by k_asm) (by ktr_rel) (by tb_rel)) (P.lt (by simp only [List.cons_append, List.nil_append, AllLt]; simp [*])) (by assumption) (by k_extra "ord") (by k_extra "ord") (by k_extra "ord") (by k_extra "ord") (by k_extra "ord")
      (by subst_vars; rw [← ‹gtext _ j _ = gtext ns gs ge›]; exact gtext_cut h3 h4 (Int.le_refl _) (by k_extra "ord") (by k_extra "ord") rfl)
  · exact ret _ _ _ _ _ _ _ _ _ _ _ _ (by k_asm) (news_back (ds := [_, _, _, _]) (by k_asm) (by ktr_rel) (by tb_rel)) (P.lt (by simp only [List.cons_append, List.nil_append, AllLt]; simp [*])) (by assumption) (by k_extra "ord") (by k_extra "ord") (by k_extra "ord") (by k_extra "ord") (by k_extra "ord")
      (by subst_vars; rw [← ‹gtext _ i _ = gtext ns gs ge›]; exact gtext_cut h3 (Int.le_refl _) h4 (by k_extra "ord") (by k_extra "ord") rfl)
  · exact ret _ _ _ _ _ _ _ _ _ _ _ _ (by k_asm) (news_back (ds := [_, _, _, _]) (by k_asm) (by ktr_rel) (by tb_rel)) (P.lt (by simp only [List.cons_append, List.nil_append, AllLt]; simp [*])) (by assumption) (by k_extra "ord") (by k_extra "ord") (by k_extra "ord") (by k_extra "ord") (by k_extra "ord")
      (by subst_vars; exact gtext_cut h3 (by k_extra "ord") (by k_extra "ord") h1 h2 rfl)
end gdelete_spec_n
theorem gdelete_spec {prog : Program} {w : World} {p : Program} {loose : List Str} {mean : ExcName → Option Value} {mg : Str → Option Value} {mb : Str → Option Value} {cn : Str} {cs : Scope} {a : Addr} {ccd : Value} {cl : List (Str × Addr)} {outer : List Env} {A₀ : Around} {base : Heap} {h₀ : Heap} {L : Addr} {m : Str → Option Value} {s : Shared} {Q : Value → Shared → Prop} {E : Value → Shared → Prop} {g : Addr} {dg : Addr} {c : Addr} {vs : List Value} {ns : List Int} {n2 : Nat} {news : List (Addr × Obj)} {rest : List (Addr × Obj)} {K : GKeys} {gs : Int} {ge : Int} {t3 : Tok} {t4 : Tok} {i : Int} {j : Int} {ti : Tok} {tj : Tok} : gdelete_spec_H g dg c vs ns n2 news rest K t3 t4 ti tj prog w p loose mean mg mb cn cs a ccd cl outer A₀ base h₀ L m s Q E gs ge i j (wpAny (model prog w) (ktrTop 940 9400 none cn cs L a ccd cl outer) (call (.ref 387) [.ref g, .int i ti, .int j tj]) Q E s) := (gdelete_spec_k g dg c vs ns n2 news rest K t3 t4 ti tj prog w p loose mean mg mb cn cs a ccd cl outer A₀ base h₀ L m s Q E gs ge i j).2 (fun g9 L9 h9 => gdelete_spec_ex.choose_spec (fun gs ge i j => gdelete_spec_n.main gs ge i j) ((((((g9, L9), h9), (g, dg)), (((c, vs), ns), (n2, news))), ((((rest, K), t3), (t4, ti)), ((tj, prog), (w, p)))), (((((loose, mean), mg), (mb, cn)), ((cs, a), (ccd, cl))), ((((outer, A₀), base), (h₀, L)), ((m, s), (Q, E))))) gs ge i j)
end
section
open PySem.Calls
set_option maxRecDepth 100000
theorem lines_X5_0 : True := by
  k_with_none
  trivial
section
variable {prog : Program} {w : World} {A : Around} {E : Value → Shared → Prop} {s : Shared} {env : Env} {h₀ : Heap} {target : PySem.Expr} {body : List Stmt} {Q : Flow → Shared → Prop}
theorem off_of_map {wr : List Addr} {l l' : List (Addr × Obj)} (h : ∀ p ∈ l, p.1 ∉ wr) (e : l'.map (·.1) = l.map (·.1)) : ∀ p ∈ l', p.1 ∉ wr := fun p hp => by
  have : p.1 ∈ l.map (·.1) := e ▸ List.mem_map_of_mem hp
  obtain ⟨q, hq, e⟩ := List.mem_map.mp this
  exact e ▸ h q hq
/-- a turn for each item of a list of the ledger: what the body leaves is told of the state ahead of the loop -/
theorem loop_made {R : Result → Shared → Prop} {I l : Addr} {n : Nat} {vs : List Value} {m : Str → Option Value} {news : List (Addr × Obj)} (J : Nat → (Str → Option Value) → List (Addr × Obj) → Prop) (hh : A.handled = none) (hne : l ≠ I) (hI : s.heap.IsListIter I l 0) (hLI : I ≠ env.locals) (hI0 : h₀.get? I = none)
    (F : Fr h₀ env.locals s.heap m) (N : News h₀ env.locals s.heap news) (hoff : ∀ p ∈ news, p.1 ≠ I) (hJm : ∀ i m' news', J i m' news' → (l, listOf vs.toArray n) ∈ news') (h0 : J 0 m news)
    (go : ∀ v (s' : Shared) (Q' : Unit → Shared → Prop) i, s'.heap.IsListIter I l i → Q' () s' → wpAny (model prog w) A (letOwnedTupleGo target (.ref I) v) Q' (notedBy (model prog w) A env fun e s' => R (.error e) s') s')
    (turn : ∀ i v m₁ news₁ h₁ tk₁ oI, vs[i]? = some v → J i m₁ news₁ → (∀ p ∈ news₁, p.1 ≠ I) → Fr h₀ env.locals h₁ m₁ → News h₀ env.locals h₁ ((I, oI) :: news₁) →
      wpAny (model prog w) A (assign target env v) (fun _ s₃ => wpAny (model prog w) A (execs body env) (LoopStepU h₀ env.locals [I] [(I, oI)] (J (i + 1)) { s with heap := h₁, toks := tk₁ }) (notedBy (model prog w) A env fun e s' => R (.error e) s') s₃) (notedBy (model prog w) A env fun e s' => R (.error e) s') { s with heap := h₁, toks := tk₁ })
    (done : ∀ h' tk m' news', Fr h₀ env.locals h' m' → News h₀ env.locals h' news' → J vs.length m' news' → R (.ok .next) { s with heap := h', toks := tk }) :
    codeAny (model prog w) A (.forLoop target (.ref I) body [] env) R s := by
  have W := Walks.list (prog := prog) (w := w) hh I l hne vs.toArray
  refine codeAny_forLoop_any
    (fun k s' => ∃ h' tk m' news' i, s' = { s with heap := h', toks := tk } ∧ h'.IsListIter I l i ∧ Fr h₀ env.locals h' m' ∧ News h₀ env.locals h' news' ∧ (∀ p ∈ news', p.1 ≠ I) ∧ J i m' news' ∧ i ≤ vs.length ∧ k = vs.length + 1 - i) ?_ (vs.length + 1)
    ⟨s.heap, s.toks, m, news, 0, rfl, hI, F, N, hoff, h0, Nat.zero_le _, rfl⟩
  rintro k s' ⟨h', tk, m', news', i, rfl, hit, F', N', hoff', hJ, hi, rfl⟩
  have hls : h'.IsList l vs.toArray := News.isList N' (hJm _ _ _ hJ)
  have next : ∀ h₁ : Heap, (∀ b o, b ∉ [I] → h'.get? b = some o → h₁.get? b = some o) → Fr h₀ env.locals h₁ m' ∧ News h₀ env.locals h₁ news' := fun h₁ hk =>
    ⟨⟨F'.ns.at' fun o e => hk _ o (fun z => hLI (List.mem_singleton.mp z).symm) e, fun b o e => hk b o (fun z => by rw [List.mem_singleton.mp z, hI0] at e; cases e) (F'.keep b o e), F'.above⟩,
      fun p hp => ⟨hk _ _ (fun z => hoff' p hp (List.mem_singleton.mp z)) (N' p hp).1, (N' p hp).2⟩⟩
  by_cases hlt : i < vs.length
  · refine W.item i _ _ _ (by simpa using hlt) ⟨hit, hls⟩ fun v h₁ tk₁ hv hst hk => ?_
    obtain ⟨F₁, N₁⟩ := next h₁ hk
    obtain ⟨oI, hoI, q1, q2⟩ := id hst.1
    refine go v _ _ (i + 1) hst.1 ?_
    refine wpAny_mono (turn i v m' news' h₁ tk₁ oI (by simpa using hv) hJ hoff' F₁ (fun q hq => by
      rcases List.mem_cons.mp hq with rfl | hq
      · exact ⟨hoI, hLI, hI0⟩
      · exact N₁ q hq)) (fun _ s₂ h₂ => wpAny_mono h₂ (fun f s₃ h₃ => ?_) fun _ _ e => e) fun _ _ e => e
    obtain ⟨rfl, h₃', tk₃, m₂, news₂, rfl, F₃, N₃, ha₃, hJ₃⟩ := h₃
    exact ⟨vs.length + 1 - (i + 1), by omega, h₃', tk₃, m₂, news₂, i + 1, rfl, ⟨oI, (N₃ _ (.head _)).1, q1, q2⟩, F₃, (fun q hq => N₃ q (.tail _ hq)), (fun p hp z => ha₃ p hp (by rw [z]; exact .head _)), hJ₃, hlt, rfl⟩
  · have hin : i = vs.length := by omega
    subst hin
    refine W.done _ _ _ ⟨by simpa using hit, hls⟩ fun h₁ tk₁ hk => wpAny_execs_nil ?_
    obtain ⟨F₁, N₁⟩ := next h₁ hk
    exact done h₁ tk₁ m' news' F₁ N₁ hJ
theorem for_made {iter : PySem.Expr} {pos : Pos} {l : Addr} {n : Nat} {vs : List Value} {m : Str → Option Value} {news : List (Addr × Obj)} (J : Nat → (Str → Option Value) → List (Addr × Obj) → Prop) (hh : A.handled = none) (F : Fr h₀ env.locals s.heap m) (N : News h₀ env.locals s.heap news)
    (hi : wpAny (model prog w) A (eval iter env) (fun v s₁ => v = .ref l ∧ s₁ = s) E s) (hJm : ∀ i m' news', J i m' news' → (l, listOf vs.toArray n) ∈ news') (h0 : J 0 m news)
    (turn : ∀ I i v m₁ news₁ h₁ tk₁ oI, vs[i]? = some v → J i m₁ news₁ → (∀ p ∈ news₁, p.1 ≠ I) → Fr h₀ env.locals h₁ m₁ → News h₀ env.locals h₁ ((I, oI) :: news₁) →
      wpAny (model prog w) A (assign target env v) (fun _ s₃ => wpAny (model prog w) A (execs body env) (LoopStepU h₀ env.locals [I] [(I, oI)] (J (i + 1)) { s with heap := h₁, toks := tk₁ }) E s₃) E { s with heap := h₁, toks := tk₁ })
    (done : ∀ h' tk m' news', Fr h₀ env.locals h' m' → News h₀ env.locals h' news' → J vs.length m' news' → Q .next { s with heap := h', toks := tk })
    (hs : ∀ x, foldedSetIterable iter env x = pure x) (hE : PassesOwn (model prog w) A env E) :
    wpAny (model prog w) A (exec (.For target iter body [] pos) env) Q E s := by
  refine wpAny_For (wpAny_mono hi (fun v s₁ h₁ => ?_) fun _ _ e => e) hs
  obtain ⟨rfl, rfl⟩ := h₁
  have hm := hJm _ _ _ h0
  have hls : s₁.heap.IsList l vs.toArray := News.isList N hm
  have hlt : l < s₁.heap.objs.size := Heap.lt_size (N _ hm).1
  refine wpAny_pyIter_list hls ?_
  refine loop_made (s := { s₁ with heap := _ }) (vs := vs) (n := n) (R := fun r s' => match r with | .ok f => Q f s' | .error e => cameBackBy (model prog w) A env E e s') J hh (Nat.ne_of_lt hlt) ⟨_, Heap.get?_push_size _ rfl, rfl, rfl⟩ (Nat.ne_of_gt F.ns.lt) (next_is_new F) (F.push _) (fun p hp => ⟨Heap.get?_push_of_some _ (N p hp).1, (N p hp).2⟩)
    (fun p hp => Nat.ne_of_lt (Heap.lt_size (N p hp).1)) hJm h0 (fun v s' Q' i st hQ' => letGo_listiter st hQ')
    (fun i v m₁ news₁ h₁ tk₁ oI a b c d e => wpAny_mono (turn _ i v m₁ news₁ h₁ tk₁ oI a b c d e) (fun _ _ x => wpAny_passesOwn hE x) hE) done
theorem loop_range {R : Result → Shared → Prop} {I : Addr} {a : Int} {n : Nat} {m : Str → Option Value} {news : List (Addr × Obj)} (J : Nat → (Str → Option Value) → List (Addr × Obj) → Prop) (hh : A.handled = none) (hI : IsRangeIter s.heap I (a + ((0 : Nat) : Int) * 1) ((n : Int) - ((0 : Nat) : Int)) 1) (hLI : I ≠ env.locals) (hI0 : h₀.get? I = none)
    (F : Fr h₀ env.locals s.heap m) (N : News h₀ env.locals s.heap news) (hoff : ∀ p ∈ news, p.1 ≠ I) (h0 : J 0 m news)
    (go : ∀ v (s' : Shared) (Q' : Unit → Shared → Prop) i, IsRangeIter s'.heap I (a + ((i : Nat) : Int) * 1) ((n : Int) - (i : Nat)) 1 → Q' () s' → wpAny (model prog w) A (letOwnedTupleGo target (.ref I) v) Q' (notedBy (model prog w) A env fun e s' => R (.error e) s') s')
    (turn : ∀ i t m₁ news₁ h₁ tk₁ oI, i < n → J i m₁ news₁ → (∀ p ∈ news₁, p.1 ≠ I) → Fr h₀ env.locals h₁ m₁ → News h₀ env.locals h₁ ((I, oI) :: news₁) →
      wpAny (model prog w) A (assign target env (.int (a + (i : Int)) t)) (fun _ s₃ => wpAny (model prog w) A (execs body env) (LoopStepU h₀ env.locals [I] [(I, oI)] (J (i + 1)) { s with heap := h₁, toks := tk₁ }) (notedBy (model prog w) A env fun e s' => R (.error e) s') s₃) (notedBy (model prog w) A env fun e s' => R (.error e) s') { s with heap := h₁, toks := tk₁ })
    (done : ∀ h' tk m' news', Fr h₀ env.locals h' m' → News h₀ env.locals h' news' → J n m' news' → R (.ok .next) { s with heap := h', toks := tk }) :
    codeAny (model prog w) A (.forLoop target (.ref I) body [] env) R s := by
  have W := Walks.range (prog := prog) (w := w) hh I a 1 n
  refine codeAny_forLoop_any
    (fun k s' => ∃ h' tk m' news' i, s' = { s with heap := h', toks := tk } ∧ IsRangeIter h' I (a + ((i : Nat) : Int) * 1) ((n : Int) - (i : Nat)) 1 ∧ Fr h₀ env.locals h' m' ∧ News h₀ env.locals h' news' ∧ (∀ p ∈ news', p.1 ≠ I) ∧ J i m' news' ∧ i ≤ n ∧ k = n + 1 - i) ?_ (n + 1)
    ⟨s.heap, s.toks, m, news, 0, rfl, hI, F, N, hoff, h0, Nat.zero_le _, rfl⟩
  rintro k s' ⟨h', tk, m', news', i, rfl, hit, F', N', hoff', hJ, hi, rfl⟩
  have next : ∀ h₁ : Heap, (∀ b o, b ∉ [I] → h'.get? b = some o → h₁.get? b = some o) → Fr h₀ env.locals h₁ m' ∧ News h₀ env.locals h₁ news' := fun h₁ hk =>
    ⟨⟨F'.ns.at' fun o e => hk _ o (fun z => hLI (List.mem_singleton.mp z).symm) e, fun b o e => hk b o (fun z => by rw [List.mem_singleton.mp z, hI0] at e; cases e) (F'.keep b o e), F'.above⟩,
      fun p hp => ⟨hk _ _ (fun z => hoff' p hp (List.mem_singleton.mp z)) (N' p hp).1, (N' p hp).2⟩⟩
  by_cases hlt : i < n
  · refine W.item i _ _ _ hlt hit fun v h₁ tk₁ hv hst hk => ?_
    obtain ⟨F₁, N₁⟩ := next h₁ hk
    obtain ⟨t, rfl⟩ := hv
    rw [Int.mul_one]
    refine go _ _ _ (i + 1) hst ?_
    refine wpAny_mono (turn i t m' news' h₁ tk₁ _ hlt hJ hoff' F₁ (fun q hq => by
      rcases List.mem_cons.mp hq with rfl | hq
      · exact ⟨hst, hLI, hI0⟩
      · exact N₁ q hq)) (fun _ s₂ h₂ => wpAny_mono h₂ (fun f s₃ h₃ => ?_) fun _ _ e => e) fun _ _ e => e
    obtain ⟨rfl, h₃', tk₃, m₂, news₂, rfl, F₃, N₃, ha₃, hJ₃⟩ := h₃
    exact ⟨n + 1 - (i + 1), by omega, h₃', tk₃, m₂, news₂, i + 1, rfl, (N₃ _ (.head _)).1, F₃, (fun q hq => N₃ q (.tail _ hq)), (fun p hp z => ha₃ p hp (by rw [z]; exact .head _)), hJ₃, hlt, rfl⟩
  · have hin : i = n := by omega
    subst hin
    refine W.done _ _ _ hit fun h₁ tk₁ hk => wpAny_execs_nil ?_
    obtain ⟨F₁, N₁⟩ := next h₁ hk
    exact done h₁ tk₁ m' news' F₁ N₁ hJ
theorem range_go {r : Addr} {n : Nat} {t u v : Tok} {m : Str → Option Value} {news : List (Addr × Obj)} (J : Nat → (Str → Option Value) → List (Addr × Obj) → Prop) (hh : A.handled = none) (hr : IsRange s.heap r 0 (n : Int) 1 t u v) (hn : n ≤ 1000) (F : Fr h₀ env.locals s.heap m) (N : News h₀ env.locals s.heap news) (h0 : J 0 m news)
    (turn : ∀ I i t m₁ news₁ h₁ tk₁ oI, i < n → J i m₁ news₁ → (∀ p ∈ news₁, p.1 ≠ I) → Fr h₀ env.locals h₁ m₁ → News h₀ env.locals h₁ ((I, oI) :: news₁) →
      wpAny (model prog w) A (assign target env (.int ((i : Nat) : Int) t)) (fun _ s₃ => wpAny (model prog w) A (execs body env) (LoopStepU h₀ env.locals [I] [(I, oI)] (J (i + 1)) { s with heap := h₁, toks := tk₁ }) E s₃) E { s with heap := h₁, toks := tk₁ })
    (done : ∀ h' tk m' news', Fr h₀ env.locals h' m' → News h₀ env.locals h' news' → J n m' news' → Q .next { s with heap := h', toks := tk })
    (hE : PassesOwn (model prog w) A env E)
    (go : ∀ I v (s' : Shared) (Q' : Unit → Shared → Prop) i, IsRangeIter s'.heap I (0 + ((i : Nat) : Int) * 1) ((n : Int) - (i : Nat)) 1 → Q' () s' → wpAny (model prog w) A (letOwnedTupleGo target (.ref I) v) Q' E s') :
    wpAny (model prog w) A (pyIter (.ref r)) (fun it s₂ => codeAny (model prog w) A (.forLoop target it body [] env) (fun r s' => match r with | .ok f => Q f s' | .error e => cameBackBy (model prog w) A env E e s') s₂) E s := by
  refine wpAny_pyIter_range hr (small_one (by omega) (by omega) (by omega) (by omega)) ?_
  refine loop_range (s := { s with heap := _ }) (a := 0) (n := n) (R := fun r s' => match r with | .ok f => Q f s' | .error e => cameBackBy (model prog w) A env E e s') J hh ?_ (Nat.ne_of_gt F.ns.lt) (next_is_new F) (F.push _) (fun p hp => ⟨Heap.get?_push_of_some _ (N p hp).1, (N p hp).2⟩)
    (fun p hp => Nat.ne_of_lt (Heap.lt_size (N p hp).1)) h0 (fun v s' Q' i st hQ' => wpAny_passesOwn hE (go _ v s' Q' i st hQ'))
    (fun i t m₁ news₁ h₁ tk₁ oI a b c d e => ?_) done
  · show IsRangeIter _ _ _ _ _
    rw [rangeSize_nat]
    simpa using Heap.get?_push_size _ rfl
  · rw [Int.zero_add]
    exact wpAny_mono (turn _ i t m₁ news₁ h₁ tk₁ oI a b c d e) (fun _ _ x => wpAny_passesOwn hE x) hE
end
/-- an edit: its tuple, its list of codes -/
structure Ed where
  t : Addr
  n : Nat
  s : Int
  e : Int
  ts : Tok
  te : Tok
  c : Addr
  vs : List Value
  ns : List Int
  nc : Nat
abbrev Ed.tup (d : Ed) : Obj := { cls := .type "tuple", data := .seq #[.int d.s d.ts, .int d.e d.te, .ref d.c] d.n }
def Ed.busy (d : Ed) : Bool := decide (d.s < d.e) || decide (0 < d.ns.length)
def edEnts (l : List Ed) : List (Addr × Obj) := l.flatMap fun d => [(d.t, d.tup), (d.c, listOf d.vs.toArray d.nc)]
def edVals (l : List Ed) : List Value := l.map fun d => .ref d.t
theorem edEnts_t {l : List Ed} {d : Ed} (h : d ∈ l) : (d.t, d.tup) ∈ edEnts l := List.mem_flatMap.mpr ⟨d, h, .head _⟩
theorem edEnts_c {l : List Ed} {d : Ed} (h : d ∈ l) : (d.c, listOf d.vs.toArray d.nc) ∈ edEnts l := List.mem_flatMap.mpr ⟨d, h, .tail _ (.head _)⟩
/-- the edits from behind: each ends where the one before starts, or ahead of it -/
def EdDesc (ls : Addr) : Int → List Ed → Prop
  | _, [] => True
  | b, d :: r => IntsAre d.vs d.ns ∧ d.ns.length ≤ 10 ∧ 1 ≤ d.s ∧ d.s ≤ d.e ∧ d.e ≤ b ∧ @LT.lt Nat _ ls d.t ∧ @LT.lt Nat _ ls d.c ∧ EdDesc ls d.s r
def put1 (T : List Int) (d : Ed) : List Int := T.take (d.s - 1).toNat ++ d.ns ++ T.drop (d.e - 1).toNat
theorem EdDesc.at {ls : Addr} : ∀ {l : List Ed} {b : Int} {i : Nat} {d : Ed}, EdDesc ls b l → l[i]? = some d →
    IntsAre d.vs d.ns ∧ d.ns.length ≤ 10 ∧ 1 ≤ d.s ∧ d.s ≤ d.e ∧ d.e ≤ b ∧ @LT.lt Nat _ ls d.t ∧ @LT.lt Nat _ ls d.c ∧ EdDesc ls d.s (l.drop (i + 1))
  | [], _, _, _, _, h => by cases h
  | d' :: r, b, 0, d, h, e => by cases e; exact h
  | d' :: r, b, i + 1, d, h, e => by
    obtain ⟨h1, h2, h3, h4, h5, h6, h7, h8⟩ := h
    obtain ⟨g1, g2, g3, g4, g5, g6⟩ := h8.at e
    exact ⟨g1, g2, g3, g4, Int.le_trans g5 (Int.le_trans h4 h5), g6⟩
theorem put1_idle {T : List Int} {d : Ed} (h : d.busy = false) (h1 : d.s ≤ d.e) : put1 T d = T := by
  simp only [Ed.busy, Bool.or_eq_false_iff, decide_eq_false_iff_not] at h
  have e1 : d.e = d.s := by omega
  have e2 : d.ns = [] := List.length_eq_zero_iff.mp (by omega)
  simp only [put1, e1, e2, List.append_nil, List.take_append_drop]
theorem put1_length {T : List Int} {d : Ed} (h1 : 1 ≤ d.s) (h2 : d.s ≤ d.e) (h3 : d.e ≤ T.length + 1) : ((put1 T d).length : Int) = T.length - (d.e - d.s) + d.ns.length := by
  simp only [put1, List.length_append, List.length_take, List.length_drop]
  have e1 : ((d.s - 1).toNat : Int) = d.s - 1 := Int.toNat_of_nonneg (by omega)
  have e2 : ((d.e - 1).toNat : Int) = d.e - 1 := Int.toNat_of_nonneg (by omega)
  generalize (d.s - 1).toNat = a at *
  generalize (d.e - 1).toNat = b at *
  rw [Nat.min_eq_left (by omega)]
  omega
end
section
open PySem.Calls Builtin Builtin.ObjectAttr
set_option maxRecDepth 100000
abbrev excO (t : Addr) (d : Option Addr) : Obj := { cls := .ref 38, dict := d, data := .fields #[.ref t, .none, .none, .none, .bool false, .none] }
abbrev cls38O : Obj := excClassObj (Str.ofString "LispSignal") (Str.ofString "LispSignal") 38 37 [.type "Exception"] [.type "Exception", .type "BaseException", .type "object"] true [] [] false none none (some (.ref 22)) none (some (.str (Str.ofString "LispSignal") 196)) (some (.str (Str.ofString "LispSignal") 204)) (some (.bool true)) "Exception.__new__"
theorem cls38 (w : PySem.Params) : List.lookup 38 (hd.heap_39 w) = some cls38O := by with_unfolding_all rfl
theorem clsIn38 (w : PySem.Params) : clsIn (hd.heap_39 w) 38 = some { name := Str.ofString "LispSignal", bases := [.type "Exception"], mro := [.ref 38, .type "Exception", .type "BaseException", .type "object"], ns := 37, qualname := Str.ofString "LispSignal" } := by with_unfolding_all rfl
theorem fn35 (w : PySem.Params) : (List.lookup 35 (hd.heap_39 w)).any (fun o => o.cls == .type "function") = true := by with_unfolding_all rfl
theorem ns37 (w : PySem.Params) : nsIn (hd.heap_39 w) 37 (Str.ofString "__init__") = some (some (.ref 35)) := by k_is
theorem ns_some_of {K : Frag} {h : Heap} {N : Addr} {mg : Str → Option Value} {n : Str} {v : Value} (X : K.In h) (G : h.Ns N mg) (e : nsIn K N n = some (some v)) : mg n = some v := by
  obtain ⟨o, es, ep, ho, hd, _, hf⟩ := G
  unfold nsIn at e
  split at e
  · rename_i c d es' n' sl q
    have := X _ _ q
    rw [ho] at this
    cases this
    cases hd
    rw [← hf]
    unfold nsFind findBy
    rw [← Array.find?_toList]
    split at e
    · rename_i en he
      rw [he]; cases e; rfl
    · split at e <;> cases e
  · cases e
theorem nsOk37 (w : PySem.Params) : nsOkIn (hd.heap_39 w) 37 = true := by with_unfolding_all rfl
section
variable {prog : Program} {w : World} {A : Around} {E : Value → Shared → Prop} {s : Shared} {K : Frag} {x L : Addr} {h₀ : Heap} {m : Str → Option Value} {news : List (Addr × Obj)} {name : Str} {v : Value} {R : Result → Shared → Prop}
/-- storing in an own exception: nothing stands between -/
theorem xs_open {ox : Obj} {od : Option Obj} {tk : Tok} (X : (hd.heap_39 w.params).In s.heap) (I : InstAt s.heap x ox 38 od) (ha : findIn (hd.heap_39 w.params) (.ref 38) name = some none)
    (h : wpAny (model prog w) A.in1 (storeInOwnDict (.ref x) (.ref 38) (.str name tk) name v false)
      (fun fin s' => match fin with | .done f => R (.ok f) s' | .again c' => c'.quiet = true ∧ codeAny (model prog w) A c' R s') (fun e s' => R (.error e) s') s) :
    codeAny (model prog w) A (.call (.builtin "object.__setattr__") ⟨[.ref x, .str name tk, v], []⟩) R s := by
  have SF := PySem.F.store_Exception
  have hc := clsIn38 w.params
  have sub : Looks (model prog w) s.heap (isInstance (.ref x) (.type "object")) true := I.type.andThen (looks_mroIn X (by unfold mroIn; rw [hc]; rfl))
  have hm : Looks (model prog w) s.heap (mroOf (.ref 38)) [.ref 38, .type "Exception", .type "BaseException", .type "object"] := (looks_clsIn X hc).andThen .now
  refine codeAny_call_builtin SF.slot.plain SF.entry (@check_slot (model prog w) _ _ s "object.__setattr__" "object" "__setattr__" (.ref x) [.str name tk, v] [] _ SF.kind SF.split sub (SF.args (.ref x) (.str name tk) v) ?_)
  rw [osa_eq, refuse_eq]
  refine wpAny_bind (wpAny_bind (I.type.here (wpAny_bind (hm.here ?_))))
  rw [refuseLoop_ref, SF.passes]
  exact wpAny_pure (wpAny_bind (I.type.here (wpAny_bind ((looks_findIn X ha).here (wpAny_bind (wpAny_pure h))))))
/-- a name put into a dict of the ledger -/
theorem xs_put {Q : Fin → Shared → Prop} {dx : Addr} {es : List DictEntry} {n : Nat} {tk : Tok} {news : List (Addr × Obj)} (F : Fr h₀ L s.heap m) (N : News h₀ L s.heap ((dx, dictOf es n) :: news))
    (h2 : ∀ p ∈ news, p.1 ≠ dx) (hl : (es.any (·.refKey)) = false) (hz : (putL name (PyData.keyHash w.params name) (.str name s.toks) v es).length ≤ 1000)
    (h : ∀ h', Fr h₀ L h' m → News h₀ L h' ((dx, dictOf (putL name (PyData.keyHash w.params name) (.str name s.toks) v es) (putN name es n)) :: news) → Q (.done (.ret .none)) { s with heap := h', toks := s.toks + 1 }) :
    wpAny (model prog w) A (storeInDict dx (.str name tk) name v) Q E s := by
  obtain ⟨U1, U2⟩ := news_upd (pre := []) (f := Obj.putName name (PyData.keyHash w.params name) (.str name s.toks) v) F N (fun _ q => nomatch q) h2 (putName_dict name _ _ v es n) rfl
  have D := (N (dx, dictOf es n) (.head _)).1
  have D' := (U2 (dx, _) (.head _)).1
  unfold storeInDict newKeyGuard
  refine wpAny_bind (wpAny_pure (wpAny_bind ?_))
  unfold nsSet
  refine wpAny_bind (wpAny_bind (wpAny_askSetting (wpAny_pure (wpAny_bind (wpAny_mkText (wpAny_bind (wpAny_loadPart D ?_)))))))
  dsimp only
  rw [aRefKeyMayBeTheName_at, show (!es.toArray.any (·.key.isStr name) && es.toArray.any (·.refKey)) = false from by rw [List.any_toArray, List.any_toArray, hl, Bool.and_false]]
  refine wpAny_updatePart D ?_
  refine wpAny_bind (wpAny_lookBehind D' (pastItsLine_dict (by rw [List.size_toArray, sizeLine_eq]; omega)) ?_)
  exact wpAny_pure (h _ U1 U2)
theorem xs_in {Q : Fin → Shared → Prop} {tk : Tok} {b : Bool} {t : Addr} {d : Option Addr} (X : (hd.heap_39 w.params).In s.heap) (hx : s.heap.get? x = some (excO t d))
    (h : match d with
      | some dx => wpAny (model prog w) A (storeInDict dx (.str name tk) name v) Q E s
      | none => wpAny (model prog w) A (storeInDict s.heap.objs.size (.str name tk) name v) Q E { s with heap := (s.heap.push emptyDict).update x fun o => { o with dict := some s.heap.objs.size } }) :
    wpAny (model prog w) A (storeInOwnDict (.ref x) (.ref 38) (.str name tk) name v b) Q E s := by
  unfold storeInOwnDict
  refine wpAny_bind (wpAny_pure (wpAny_bind (wpAny_bind (wpAny_loadPart hx (wpAny_bind ((looks_clsIn X (clsIn38 w.params)).here ?_))))))
  cases d with
  | some dx => exact wpAny_pure (a := some dx) h
  | none =>
    refine wpAny_bind (wpAny_alloc (wpAny_bind (wpAny_update (Heap.get?_push_of_some _ hx) (wpAny_pure ?_))))
    exact h
/-- the first name stored in an own exception: its dict is made -/
theorem xs_new {Q : Unit → Shared → Prop} {t : Addr} (F : Fr h₀ L s.heap m) (X₀ : (hd.heap_39 w.params).In h₀) (N : News h₀ L s.heap ((x, excO t none) :: news)) (hne : ∀ p ∈ news, p.1 ≠ x)
    (ha : findIn (hd.heap_39 w.params) (.ref 38) name = some none) (hs : findIn (hd.heap_39 w.params) (.ref 38) "__setattr__" = some (some (.builtin "object.__setattr__")))
    (h : ∀ d es h' tk', es = [⟨PyData.keyHash w.params name, .str name (tk' - 1), v⟩] → Fr h₀ L h' m → News h₀ L h' ((d, dictOf es 1) :: (x, excO t (some d)) :: news) → (∀ p ∈ news, p.1 < d) → @LT.lt Nat _ x d → Q () { s with heap := h', toks := tk' }) :
    wpAny (model prog w) A (setAttr (.ref x) name v) Q E s := by
  have X := X₀.keeps F.keep
  have hx := (N _ (.head _)).1
  have I : InstAt s.heap x (excO t none) 38 none := ⟨hx, rfl, rfl, trivial⟩
  have hlt := Heap.lt_size hx
  refine set_plain X I hs (xs_open (s := { s with toks := s.toks + 1 }) X I ha ?_)
  refine xs_in (s := { s with toks := s.toks + 1 }) (t := t) (d := none) X hx ?_
  have F1 : Fr h₀ L (s.heap.push emptyDict) m := F.push _
  have N1 : News h₀ L (s.heap.push emptyDict) ([(s.heap.objs.size, emptyDict)] ++ (x, excO t none) :: news) := N.push F emptyDict
  obtain ⟨F2, N2⟩ := news_upd (pre := [(s.heap.objs.size, emptyDict)]) (d := x) (f := fun o => { o with dict := some s.heap.objs.size }) F1 N1
    (fun p hp => by rw [List.mem_singleton.mp hp]; exact Nat.ne_of_gt hlt) hne rfl rfl
  refine xs_put (s := { s with toks := s.toks + 1, heap := _ }) (es := []) (n := 0) F2 N2 (fun p hp => ?_) rfl ?_ fun h' F' N' => ?_
  · rcases List.mem_cons.mp hp with rfl | hp
    · exact Nat.ne_of_lt hlt
    · exact Nat.ne_of_lt (Heap.lt_size (N p (.tail _ hp)).1)
  · exact Nat.le_of_ble_eq_true rfl
  · exact h _ _ h' (s.toks + 2) rfl F' N' (fun p hp => Heap.lt_size (N p (.tail _ hp)).1) hlt
theorem xs_old {Q : Unit → Shared → Prop} {t d : Addr} {es : List DictEntry} {n : Nat} (F : Fr h₀ L s.heap m) (X₀ : (hd.heap_39 w.params).In h₀) (N : News h₀ L s.heap ((d, dictOf es n) :: (x, excO t (some d)) :: news)) (hne : ∀ p ∈ (x, excO t (some d)) :: news, p.1 ≠ d)
    (ha : findIn (hd.heap_39 w.params) (.ref 38) name = some none) (hs : findIn (hd.heap_39 w.params) (.ref 38) "__setattr__" = some (some (.builtin "object.__setattr__"))) (hl : (es.any (·.refKey)) = false) (hz : ∀ tk, (putL name (PyData.keyHash w.params name) (.str name tk) v es).length ≤ 1000)
    (h : ∀ h' tk', Fr h₀ L h' m → News h₀ L h' ((d, dictOf (putL name (PyData.keyHash w.params name) (.str name (tk' - 1)) v es) (putN name es n)) :: (x, excO t (some d)) :: news) → Q () { s with heap := h', toks := tk' }) :
    wpAny (model prog w) A (setAttr (.ref x) name v) Q E s := by
  have X := X₀.keeps F.keep
  have hx := (N (x, _) (.tail _ (.head _))).1
  have I : InstAt s.heap x (excO t (some d)) 38 (some (dictOf es n)) := ⟨hx, rfl, rfl, (N (d, _) (.head _)).1⟩
  refine set_plain X I hs (xs_open (s := { s with toks := s.toks + 1 }) X I ha ?_)
  refine xs_in (s := { s with toks := s.toks + 1 }) (t := t) (d := some d) X hx ?_
  exact xs_put (s := { s with toks := s.toks + 1 }) F N hne hl (hz _) fun h' F' N' => h h' (s.toks + 2) F' N'
end
section
variable {prog : Program} {w : World} {A : Around} {E : Value → Shared → Prop} {s : Shared} {x L : Addr} {h₀ : Heap} {m : Str → Option Value} {news : List (Addr × Obj)} {name : Str} {v : Value}
/-- a field of an own exception read -/
theorem xs_get {Q : Value → Shared → Prop} {ox : Obj} {d : Addr} {es : List DictEntry} {n : Nat} {expr : Bool} (X : (hd.heap_39 w.params).In s.heap) (hx : s.heap.get? x = some ox) (hcx : ox.cls = .ref 38) (hdx : ox.dict = some d) (hnx : notCls ox = true) (hd' : s.heap.get? d = some (dictOf es n))
    (hga : findIn (hd.heap_39 w.params) (.ref 38) "__getattribute__" = some (some (.builtin "BaseException.__getattribute__"))) (hgn : findIn (hd.heap_39 w.params) (.ref 38) "__getattr__" = some none)
    (ha : findIn (hd.heap_39 w.params) (.ref 38) name = some none) (hl : getL name es = some (some v)) (hv : handedIn v = true) (h : Q v { s with toks := s.toks + 1 }) :
    wpAny (model prog w) A (getAttr (.ref x) name expr) Q E s := by
  have I : InstAt s.heap x ox 38 (some (dictOf es n)) := ⟨hx, hcx, hnx, by rw [hdx]; exact hd'⟩
  have FB := PySem.F.attr_Exception
  have hc := clsIn38 w.params
  have L0 := I.type (M := model prog w)
  have L1 := looks_findIn (M := model prog w) X hga
  have L2 := looks_findIn (M := model prog w) X hgn
  have hf : findObj (hd.heap_39 w.params) 38 (some (dictOf es n)) name = some (.value v) := by
    unfold findObj
    rw [hc, Option.bind_some, ha, Option.bind_some]
    have ho : lookIn name (dictOf es n) = some (some v) := hl
    simp [W.ownOf, ho]
  have L3 := looks_find (M := model prog w) X I hf
  have sub : Looks (model prog w) s.heap (isInstance (.ref x) (.type "BaseException")) true := L0.andThen (looks_mroIn X (by unfold mroIn; rw [hc]; rfl))
  unfold getAttr getAttrBy
  refine wpAny_bind (wpAny_mkText (wpAny_holding (wpAny_bind (L0 _ _ _ _ (fun _ _ e => e) (wpAny_bind (L1 _ _ _ _ (fun _ _ e => e) ?_))))))
  show wpAny _ _ (getAttrByItsOwn _ _ _ _ _ _) _ _ _
  unfold getAttrByItsOwn
  refine wpAny_bind (L2 _ _ _ _ (fun _ _ e => e) (wpAny_bind (wpAny_attempt (wpAny_holding ?_))))
  unfold callGetattribute
  rw [if_neg (by cases expr <;> decide)]
  unfold boundAndCalled
  rw [FB.ga.bind]
  refine wpAny_bind (wpAny_pure (wpAny_call (codeAny_call_builtin FB.ga.plain F.entry_bexc_ga (@check_slot (model prog w) _ _ { s with toks := s.toks + 1 } "BaseException.__getattribute__" "BaseException" "__getattribute__" (.ref x) [.str name s.toks] [] _ (by decide +kernel) (by decide +kernel) sub (F.args_bexc_ga (.ref x) (.str name s.toks)) ?_))))
  refine wpAny_bind (wpAny_pure (wpAny_bind (wpAny_pure (wpAny_bind (L0 _ _ _ _ (fun _ _ e => e) (wpAny_bind (L3 _ _ _ _ (fun _ _ e => e) ?_)))))))
  refine wpAny_pure ?_
  show wpAny _ _ (handedOut v) _ _ _
  rw [handedOut_of hv]
  exact wpAny_pure h
/-- raising an own exception that has been made -/
def RaiseBack (w : World) (E : Value → Shared → Prop) (v : Value) (s : Shared) : Prop := ∃ e t d, v = .ref e ∧ (hd.heap_39 w.params).In s.heap ∧ s.heap.get? e = some (excO t d) ∧ E (.ref e) s
theorem xs_raise {env : Env} {y : Sem Value} {Q : Flow → Shared → Prop} (hh : A.handled = none) (h : wpAny (model prog w) A y (RaiseBack w E) E s) :
    wpAny (model prog w) A (raiseStmt env (some y) none) Q E s := by
  have hcB : (Value.ref 38 :: [Value.type "Exception", .type "BaseException", .type "object"]).contains (.type "BaseException") = true := by decide +kernel
  unfold raiseStmt
  refine wpAny_bind (wpAny_mono h (fun v s₁ h₁ => ?_) fun _ _ x => x)
  obtain ⟨e, t, d, rfl, X, he, hE⟩ := h₁
  have hC := X _ _ (cls38 w.params)
  obtain ⟨hp, g, dr, tk, os⟩ := s₁
  repeat (first | with_reducible refine wpAny_loadPart_at he ?_ | with_reducible refine wpAny_loadPart_at hC ?_ | (with_reducible refine wpAny_isSubtype_exc hC ?_; rw [hcB]) | wp_step)
  exact wpAny_raiseNew_none hh hE
theorem xs_Raise {y : PySem.Expr} {pos : Pos} {env : Env} {Q : Flow → Shared → Prop} (hh : A.handled = none) (h : wpAny (model prog w) A (eval y env) (RaiseBack w E) E s) :
    wpAny (model prog w) A (exec (.Raise (some y) none pos) env) Q E s := by
  rw [arm_exec_Raise]
  refine wpAny_bind (wpAny_standAt (xs_raise hh ?_))
  exact wpAny_bind (wpAny_mono h (fun v s₃ h₃ => wpAny_bind (wpAny_standAt (wpAny_pure h₃))) fun _ _ x => x)
end
theorem lines_X2_1 : True := by
  k_with_none
  k_with "k_all" => with_reducible assumption
  k_with "ne_mem" => with_reducible first | exact List.mem_cons_self | (refine List.mem_cons_of_mem _ ?_; k_extra "ne_mem") | (refine List.mem_append_right _ ?_; k_extra "ne_mem")
  k_with "ne_bef" => with_reducible first | (refine Bef.head ?_; k_extra "ne_mem") | (refine Bef.tail ?_; k_extra "ne_bef")
  k_with "lt_ap" => (with_reducible rename Apart _ => kqA; first | (with_reducible exact Apart.bef kqA (by k_extra "ne_bef")) | (clear kqA; k_extra "lt_ap"))
  k_with "lt_go" => first | (with_reducible assumption) | (with_reducible exact AllLt.get (by assumption) (by k_extra "ne_mem")) | k_extra "lt_ap" | ((with_reducible refine Nat.lt_trans ?kq1 ?kq2); (case kq2 => with_reducible assumption); (case kq1 => k_extra "lt_go")) | ((with_reducible refine Nat.lt_trans ?kq1 ?kq2); (case kq1 => with_reducible assumption); (case kq2 => k_extra "lt_ap"))
  k_with "ne_lt" => with_reducible first | exact Nat.ne_of_lt (AllLt.get (by assumption) (by k_extra "ne_mem")) | exact Nat.ne_of_gt (AllLt.get (by assumption) (by k_extra "ne_mem"))
  k_with "ne_ap" => (with_reducible rename Apart _ => kqA; first | (with_reducible exact Nat.ne_of_lt (Apart.bef kqA (by k_extra "ne_bef"))) | (with_reducible exact Nat.ne_of_gt (Apart.bef kqA (by k_extra "ne_bef"))) | (clear kqA; k_extra "ne_ap"))
  k_with "k_ne" => (refine neN ?_; (try dsimp only); first | (with_reducible assumption) | (with_reducible exact Ne.symm (by assumption)) | (with_reducible exact Nat.ne_of_lt (by assumption)) | (with_reducible exact Nat.ne_of_gt (by assumption)) | k_extra "ne_lt" | k_extra "ne_ap" | omega | ((try simp only [AllLt] at *); omega))
  k_with "ne_all" => first | (with_reducible assumption) | (refine And.intro ?_ ?_ <;> k_extra "ne_all") | k_ne
  k_with "mem_hq" => first | exact hq | exact List.mem_append_left _ hq | (refine List.mem_cons_of_mem _ ?_; k_extra "mem_hq")
  k_with "perm" => first | (refine List.forall_mem_cons.mpr (And.intro ?kqa ?kqb); (case kqa => k_extra "ne_mem"); (case kqb => k_extra "perm")) | exact List.forall_mem_nil _ | (intro q hq; k_extra "mem_hq")
  k_with "ord" => first | (with_reducible assumption) | ((with_reducible show @LT.lt Nat _ _ _); k_extra "lt_go") | k_ne | omega | ((try simp only [AllLt] at *); omega)
  k_with "tb_start" => first | exact Pick.head | (apply Pick.tail; tb_start)
  k_with "tb_rel" => first | exact Suff.refl | (refine' Suff.tail ?_; tb_rel)
  k_with "ktr_rel" => first | exact Picks.nil | (refine' Picks.cons ?kqp ?kqq; (case kqp => tb_start); (case kqq => ktr_rel))
  k_with "ktr_unf" => exact ⟨by k_asm, by k_asm, by k_asm, by k_asm, by first | exact rfl | assumption⟩
  k_with "subscriptTail Attribute Name Slice" => (k_here; k_dflt (refine kba_turn (value' := PySem.Expr.Name (PySem.Str.ofString "_") ⟨0, 0, 0, 0⟩) (fun _ => rfl) ?_))
  k_with "subscriptTail Name Slice ref ref" => (k_here; (with_reducible show wpAny _ _ (subscriptTail _ (PySem.Expr.Slice (some _) (some _) none _) (Value.ref _) (Value.ref _)) _ _ _); k_dflt (refine' my_slice ?kqF ?kqN ?kql ?kqi ?kqx ?kqy ?kqz ?_ ?kqs ?kqt; (case kqF => k_asm); (case kqN => k_asm); (case kql => k_mem); (case kqi => k_asm); (case kqx => first | (with_reducible assumption) | omega | ((try simp only [AllLt] at *); omega)); (case kqy => first | (with_reducible assumption) | omega | ((try simp only [AllLt] at *); omega)); (case kqz => first | (with_reducible assumption) | omega | ((try simp only [AllLt] at *); omega)); (case kqs => with_unfolding_all rfl); (case kqt => kmk_pure); k_whole); intro D' ws' h' zs' F' N' l1 hI' hZ' hL'; (try (replace hL' := slice_len hL' (by first | (with_reducible assumption) | omega) (by first | (with_reducible assumption) | omega) (by first | (with_reducible assumption) | omega))); (try k_lt l1); (try k_sweep))
  k_with "setItem ref ref ref" => (k_here; k_dflt (refine' my_setslice ?kqF ?kqN ?kql ?kqU ?kqi ?kqw ?kqx ?kqy ?kqz ?kqzz ?_; (case kqF => k_asm); (case kqN => k_asm); (case kql => k_mem); (case kqU => k_updF); (case kqi => k_asm); (case kqw => k_asm); (case kqx => first | (with_reducible assumption) | omega | ((try simp only [AllLt] at *); omega)); (case kqy => first | (with_reducible assumption) | omega | ((try simp only [AllLt] at *); omega)); (case kqz => first | (with_reducible assumption) | omega | ((try simp only [AllLt] at *); omega)); (case kqzz => first | (with_reducible assumption) | omega | ((try simp only [AllLt] at *); omega)); k_whole); intro vs' n2' h' ns' F' N' hI' hZ' hL'; (try dsimp only at N'); (try k_sweep))
  k_with "call builtin:len" => (k_here; (with_reducible show wpAny _ _ (call (Value.builtin "len") [Value.ref _]) _ _ _); k_dflt (refine' my_len ?kqN ?kql ?kqi ?kqz ?_; (case kqN => k_asm); (case kql => k_mem); (case kqi => k_asm); (case kqz => first | (with_reducible assumption) | omega | ((try simp only [AllLt] at *); omega)); k_whole))
  k_with "pyIter ref" => (k_here; k_dflt (first | (refine' iter_empty ?kqh ?kqF ?kqN ?kqm ?_; (case kqh => exact rfl); (case kqF => k_asm); (case kqN => k_asm); (case kqm => k_mem)) | (refine' iter_empty2 ?kqh ?kqF ?kqN ?kqm ?kqi ?kqz ?_; (case kqh => exact rfl); (case kqF => k_asm); (case kqN => k_asm); (case kqm => k_mem); (case kqi => k_asm); (case kqz => k_asm))); intro h' tk' F' N'; (try dsimp only); (try k_sweep))
  trivial
section
variable {prog : Program} {w : World} {p : Program} {loose : List Str} {mean : ExcName → Option Value} {mg mb : Str → Option Value}
  {cn : Str} {cs : Scope} {a : Addr} {ccd : Value} {cl : List (Str × Addr)} {outer : List Env} {A₀ : Around} {base h₀ : Heap} {L : Addr} {m : Str → Option Value} {s : Shared} {Q E : Value → Shared → Prop}
theorem symKeep {sy : Str} {ts tk : Tok} {dl : Value} {w : PySem.Params} {a b : Int} : getL (Str.ofString "symbol") (putL (Str.ofString "data") a (.str (Str.ofString "data") tk) dl [⟨b, .str (Str.ofString "symbol") ts, .str sy ts⟩]) = some (some (.str sy ts)) := by rfl
set_option maxRecDepth 100000 in
set_option maxHeartbeats 8000000 in
theorem init_spec {e t dl : Addr} {sy : Str} {ts : Tok} {news : List (Addr × Obj)}
 (C : Cx w p loose mean mg mb A₀ base outer h₀ L s.heap m cs) (N : News h₀ L s.heap ((e, excO t none) :: news)) (hne : ∀ p ∈ news, p.1 ≠ e)
 (ret : ∀ d es h' tk', Fr h₀ L h' m → News h₀ L h' ((d, dictOf es 2) :: (e, excO t (some d)) :: news) → @LT.lt Nat _ e d → (∀ p ∈ news, p.1 < d) → getL (Str.ofString "symbol") es = some (some (.str sy ts)) → Q .none { s with heap := h', toks := tk' }) :
 wpAny (model prog w) (ktrTop 960 9600 none cn cs L a ccd cl outer) (call (.ref 35) [.ref e, .str sy ts, .ref dl]) Q E s := by
  obtain ⟨B, F, X, T, hk⟩ := C
  have i1 : findIn (hd.heap_39 w.params) (.ref 38) (Str.ofString "symbol") = some none := by k_is
  have i2 : findIn (hd.heap_39 w.params) (.ref 38) (Str.ofString "data") = some none := by k_is
  have i3 : findIn (hd.heap_39 w.params) (.ref 38) (Str.ofString "__setattr__") = some (some (.builtin "object.__setattr__")) := by k_is
  refine wpAny_call ?_
  k_dflt cell_enter
  k_steps
  refine xs_new (by k_asm) (by k_asm) (by k_asm) hne i1 i3 ?_
  intro d es h' tk' hes F' N' lt1 lt2
  subst hes
  k_steps
  refine xs_old (by k_asm) (by k_asm) (by k_asm) ?_ i2 i3 rfl (fun tk => Nat.le_of_ble_eq_true rfl) ?_
  · intro p hp
    rcases List.mem_cons.mp hp with rfl | hp
    · exact Nat.ne_of_lt lt2
    · exact Nat.ne_of_lt (lt1 p hp)
  intro h'' tk'' F'' N''
  k_steps
  exact ret _ _ _ _ (by k_asm) (by k_asm) lt2 lt1 rfl
end
end
section
theorem lines_C3_1 : True := by
  k_with_none
  k_with "k_all" => with_reducible assumption
  k_with "ne_mem" => with_reducible first | exact List.mem_cons_self | (refine List.mem_cons_of_mem _ ?_; k_extra "ne_mem") | (refine List.mem_append_right _ ?_; k_extra "ne_mem")
  k_with "ne_bef" => with_reducible first | (refine Bef.head ?_; k_extra "ne_mem") | (refine Bef.tail ?_; k_extra "ne_bef")
  k_with "lt_ap" => (with_reducible rename Apart _ => kqA; first | (with_reducible exact Apart.bef kqA (by k_extra "ne_bef")) | (clear kqA; k_extra "lt_ap"))
  k_with "lt_go" => first | (with_reducible assumption) | (with_reducible exact AllLt.get (by assumption) (by k_extra "ne_mem")) | k_extra "lt_ap" | ((with_reducible refine Nat.lt_trans ?kq1 ?kq2); (case kq2 => with_reducible assumption); (case kq1 => k_extra "lt_go")) | ((with_reducible refine Nat.lt_trans ?kq1 ?kq2); (case kq1 => with_reducible assumption); (case kq2 => k_extra "lt_ap"))
  k_with "ne_lt" => with_reducible first | exact Nat.ne_of_lt (AllLt.get (by assumption) (by k_extra "ne_mem")) | exact Nat.ne_of_gt (AllLt.get (by assumption) (by k_extra "ne_mem"))
  k_with "ne_ap" => (with_reducible rename Apart _ => kqA; first | (with_reducible exact Nat.ne_of_lt (Apart.bef kqA (by k_extra "ne_bef"))) | (with_reducible exact Nat.ne_of_gt (Apart.bef kqA (by k_extra "ne_bef"))) | (clear kqA; k_extra "ne_ap"))
  k_with "k_ne" => (refine neN ?_; (try dsimp only); first | (with_reducible assumption) | (with_reducible exact Ne.symm (by assumption)) | (with_reducible exact Nat.ne_of_lt (by assumption)) | (with_reducible exact Nat.ne_of_gt (by assumption)) | k_extra "ne_lt" | k_extra "ne_ap" | omega | ((try simp only [AllLt] at *); omega))
  k_with "ne_all" => first | (with_reducible assumption) | (refine And.intro ?_ ?_ <;> k_extra "ne_all") | k_ne
  k_with "mem_hq" => first | exact hq | exact List.mem_append_left _ hq | (refine List.mem_cons_of_mem _ ?_; k_extra "mem_hq")
  k_with "perm" => first | (refine List.forall_mem_cons.mpr (And.intro ?kqa ?kqb); (case kqa => k_extra "ne_mem"); (case kqb => k_extra "perm")) | exact List.forall_mem_nil _ | (intro q hq; k_extra "mem_hq")
  k_with "ord" => first | (with_reducible assumption) | ((with_reducible show @LT.lt Nat _ _ _); k_extra "lt_go") | k_ne | omega | ((try simp only [AllLt] at *); omega)
  k_with "tb_start" => first | exact Pick.head | (apply Pick.tail; tb_start)
  k_with "tb_rel" => first | exact Suff.refl | (refine' Suff.tail ?_; tb_rel)
  k_with "ktr_rel" => first | exact Picks.nil | (refine' Picks.cons ?kqp ?kqq; (case kqp => tb_start); (case kqq => ktr_rel))
  k_with "ktr_unf" => exact ⟨by k_asm, by k_asm, by k_asm, by k_asm, by first | exact rfl | assumption⟩
  k_with "subscriptTail Attribute Name Slice" => (k_here; k_dflt (refine kba_turn (value' := PySem.Expr.Name (PySem.Str.ofString "_") ⟨0, 0, 0, 0⟩) (fun _ => rfl) ?_))
  k_with "subscriptTail Name Slice ref ref" => (k_here; (with_reducible show wpAny _ _ (subscriptTail _ (PySem.Expr.Slice (some _) (some _) none _) (Value.ref _) (Value.ref _)) _ _ _); k_dflt (refine' my_slice ?kqF ?kqN ?kql ?kqi ?kqx ?kqy ?kqz ?_ ?kqs ?kqt; (case kqF => k_asm); (case kqN => k_asm); (case kql => k_mem); (case kqi => k_asm); (case kqx => first | (with_reducible assumption) | omega | ((try simp only [AllLt] at *); omega)); (case kqy => first | (with_reducible assumption) | omega | ((try simp only [AllLt] at *); omega)); (case kqz => first | (with_reducible assumption) | omega | ((try simp only [AllLt] at *); omega)); (case kqs => with_unfolding_all rfl); (case kqt => kmk_pure); k_whole); intro D' ws' h' zs' F' N' l1 hI' hZ' hL'; (try (replace hL' := slice_len hL' (by first | (with_reducible assumption) | omega) (by first | (with_reducible assumption) | omega) (by first | (with_reducible assumption) | omega))); (try k_lt l1); (try k_sweep))
  k_with "setItem ref ref ref" => (k_here; k_dflt (refine' my_setslice ?kqF ?kqN ?kql ?kqU ?kqi ?kqw ?kqx ?kqy ?kqz ?kqzz ?_; (case kqF => k_asm); (case kqN => k_asm); (case kql => k_mem); (case kqU => k_updF); (case kqi => k_asm); (case kqw => k_asm); (case kqx => first | (with_reducible assumption) | omega | ((try simp only [AllLt] at *); omega)); (case kqy => first | (with_reducible assumption) | omega | ((try simp only [AllLt] at *); omega)); (case kqz => first | (with_reducible assumption) | omega | ((try simp only [AllLt] at *); omega)); (case kqzz => first | (with_reducible assumption) | omega | ((try simp only [AllLt] at *); omega)); k_whole); intro vs' n2' h' ns' F' N' hI' hZ' hL'; (try dsimp only at N'); (try k_sweep))
  k_with "call builtin:len" => (k_here; (with_reducible show wpAny _ _ (call (Value.builtin "len") [Value.ref _]) _ _ _); k_dflt (refine' my_len ?kqN ?kql ?kqi ?kqz ?_; (case kqN => k_asm); (case kql => k_mem); (case kqi => k_asm); (case kqz => first | (with_reducible assumption) | omega | ((try simp only [AllLt] at *); omega)); k_whole))
  trivial
section
variable {prog : Program} {w : World} {p : Program} {loose : List Str} {mean : ExcName → Option Value} {mg mb : Str → Option Value}
  {cn : Str} {cs : Scope} {a : Addr} {ccd : Value} {cl : List (Str × Addr)} {outer : List Env} {A₀ : Around} {base h₀ : Heap} {L : Addr} {m : Str → Option Value} {s : Shared} {Q E : Value → Shared → Prop}
set_option maxRecDepth 100000 in
set_option maxHeartbeats 8000000 in
theorem draw_spec {D A : Addr} {vs : List Value} {ns : List Int} {k many : Int} {t t' : Tok} {n1 n2 : Nat} {news rest : List (Addr × Obj)}
 (C : Cx w p loose mean mg mb A₀ base outer h₀ L s.heap m cs) (N : News h₀ L s.heap news) (P : Picks [(D, listOf #[.ref A, .int k t] n1), (A, listOf vs.toArray n2)] news rest)
 (hne : @Ne Nat A D) (hr : ∀ q ∈ rest, q.1 ≠ D)
 (hi : IntsAre vs ns) (hlen : ns.length ≤ 63) (h0 : 0 ≤ k) (hk9 : k < 1000) (hm : 0 < many)
 (ret : ∀ r t t' h' tk', Fr h₀ L h' m → News h₀ L h' ((D, listOf #[.ref A, .int (k+1) t'] n1) :: (A, listOf vs.toArray n2) :: rest) → 0 ≤ r → r < many → Q (.int r t) { s with heap := h', toks := tk' }) :
 wpAny (model prog w) (ktrTop 950 9500 none cn cs L a ccd cl outer) (call (.ref 631) [.ref D, .int many t']) Q E s := by
  obtain ⟨B, F, X, T, hk⟩ := C
  replace N := news_picks N P
  simp only [List.cons_append, List.nil_append] at N
  refine wpAny_call ?_
  k_dflt cell_enter
  k_steps
  all_goals exact ret _ _ _ _ _ (by assumption) (by assumption) (by first | exact Int.fmod_nonneg_of_pos _ hm | exact Int.fmod_nonneg _ (by k_extra "ord")) (Int.fmod_lt_of_pos _ hm)
end
end
section
abbrev mkD (hm : Int) (km : Tok) (rw : Addr) : Obj := dictOf [⟨hm, .str (Str.ofString "rows") km, .ref rw⟩] 1
theorem lines_M1_1 : True := by
  k_with_none
  k_with "k_all" => with_reducible assumption
  k_with "ne_mem" => with_reducible first | exact List.mem_cons_self | (refine List.mem_cons_of_mem _ ?_; k_extra "ne_mem") | (refine List.mem_append_right _ ?_; k_extra "ne_mem")
  k_with "ne_bef" => with_reducible first | (refine Bef.head ?_; k_extra "ne_mem") | (refine Bef.tail ?_; k_extra "ne_bef")
  k_with "lt_ap" => (with_reducible rename Apart _ => kqA; first | (with_reducible exact Apart.bef kqA (by k_extra "ne_bef")) | (clear kqA; k_extra "lt_ap"))
  k_with "lt_go" => first | (with_reducible assumption) | (with_reducible exact AllLt.get (by assumption) (by k_extra "ne_mem")) | k_extra "lt_ap" | ((with_reducible refine Nat.lt_trans ?kq1 ?kq2); (case kq2 => with_reducible assumption); (case kq1 => k_extra "lt_go")) | ((with_reducible refine Nat.lt_trans ?kq1 ?kq2); (case kq1 => with_reducible assumption); (case kq2 => k_extra "lt_ap"))
  k_with "ne_lt" => with_reducible first | exact Nat.ne_of_lt (AllLt.get (by assumption) (by k_extra "ne_mem")) | exact Nat.ne_of_gt (AllLt.get (by assumption) (by k_extra "ne_mem"))
  k_with "ne_ap" => (with_reducible rename Apart _ => kqA; first | (with_reducible exact Nat.ne_of_lt (Apart.bef kqA (by k_extra "ne_bef"))) | (with_reducible exact Nat.ne_of_gt (Apart.bef kqA (by k_extra "ne_bef"))) | (clear kqA; k_extra "ne_ap"))
  k_with "k_ne" => (refine neN ?_; (try dsimp only); first | (with_reducible assumption) | (with_reducible exact Ne.symm (by assumption)) | (with_reducible exact Nat.ne_of_lt (by assumption)) | (with_reducible exact Nat.ne_of_gt (by assumption)) | k_extra "ne_lt" | k_extra "ne_ap" | omega | ((try simp only [AllLt] at *); omega))
  k_with "ne_all" => first | (with_reducible assumption) | (refine And.intro ?_ ?_ <;> k_extra "ne_all") | k_ne
  k_with "mem_hq" => first | exact hq | exact List.mem_append_left _ hq | (refine List.mem_cons_of_mem _ ?_; k_extra "mem_hq")
  k_with "perm" => first | (refine List.forall_mem_cons.mpr (And.intro ?kqa ?kqb); (case kqa => k_extra "ne_mem"); (case kqb => k_extra "perm")) | exact List.forall_mem_nil _ | (intro q hq; k_extra "mem_hq")
  k_with "ord" => first | (with_reducible assumption) | ((with_reducible show @LT.lt Nat _ _ _); k_extra "lt_go") | k_ne | omega | ((try simp only [AllLt] at *); omega)
  k_with "tb_start" => first | exact Pick.head | (apply Pick.tail; tb_start)
  k_with "tb_rel" => first | exact Suff.refl | (refine' Suff.tail ?_; tb_rel)
  k_with "ktr_rel" => first | exact Picks.nil | (refine' Picks.cons ?kqp ?kqq; (case kqp => tb_start); (case kqq => ktr_rel))
  k_with "ktr_unf" => exact ⟨by k_asm, by k_asm, by k_asm, by k_asm, by first | exact rfl | assumption⟩
  k_with "subscriptTail Attribute Name Slice" => (k_here; k_dflt (refine kba_turn (value' := PySem.Expr.Name (PySem.Str.ofString "_") ⟨0, 0, 0, 0⟩) (fun _ => rfl) ?_))
  k_with "subscriptTail Name Slice ref ref" => (k_here; (with_reducible show wpAny _ _ (subscriptTail _ (PySem.Expr.Slice (some _) (some _) none _) (Value.ref _) (Value.ref _)) _ _ _); k_dflt (refine' my_slice ?kqF ?kqN ?kql ?kqi ?kqx ?kqy ?kqz ?_ ?kqs ?kqt; (case kqF => k_asm); (case kqN => k_asm); (case kql => k_mem); (case kqi => k_asm); (case kqx => first | (with_reducible assumption) | omega | ((try simp only [AllLt] at *); omega)); (case kqy => first | (with_reducible assumption) | omega | ((try simp only [AllLt] at *); omega)); (case kqz => first | (with_reducible assumption) | omega | ((try simp only [AllLt] at *); omega)); (case kqs => with_unfolding_all rfl); (case kqt => kmk_pure); k_whole); intro D' ws' h' zs' F' N' l1 hI' hZ' hL'; (try (replace hL' := slice_len hL' (by first | (with_reducible assumption) | omega) (by first | (with_reducible assumption) | omega) (by first | (with_reducible assumption) | omega))); (try k_lt l1); (try k_sweep))
  k_with "setItem ref ref ref" => (k_here; k_dflt (refine' my_setslice ?kqF ?kqN ?kql ?kqU ?kqi ?kqw ?kqx ?kqy ?kqz ?kqzz ?_; (case kqF => k_asm); (case kqN => k_asm); (case kql => k_mem); (case kqU => k_updF); (case kqi => k_asm); (case kqw => k_asm); (case kqx => first | (with_reducible assumption) | omega | ((try simp only [AllLt] at *); omega)); (case kqy => first | (with_reducible assumption) | omega | ((try simp only [AllLt] at *); omega)); (case kqz => first | (with_reducible assumption) | omega | ((try simp only [AllLt] at *); omega)); (case kqzz => first | (with_reducible assumption) | omega | ((try simp only [AllLt] at *); omega)); k_whole); intro vs' n2' h' ns' F' N' hI' hZ' hL'; (try dsimp only at N'); (try k_sweep))
  k_with "call builtin:len" => (k_here; (with_reducible show wpAny _ _ (call (Value.builtin "len") [Value.ref _]) _ _ _); k_dflt (refine' my_len ?kqN ?kql ?kqi ?kqz ?_; (case kqN => k_asm); (case kql => k_mem); (case kqi => k_asm); (case kqz => first | (with_reducible assumption) | omega | ((try simp only [AllLt] at *); omega)); k_whole))
  k_with "pyIter ref" => (k_here; k_dflt (first | (refine' iter_empty ?kqh ?kqF ?kqN ?kqm ?_; (case kqh => exact rfl); (case kqF => k_asm); (case kqN => k_asm); (case kqm => k_mem)) | (refine' iter_empty2 ?kqh ?kqF ?kqN ?kqm ?kqi ?kqz ?_; (case kqh => exact rfl); (case kqF => k_asm); (case kqN => k_asm); (case kqm => k_mem); (case kqi => k_asm); (case kqz => k_asm))); intro h' tk' F' N'; (try dsimp only); (try k_sweep))
  trivial
section
variable {prog : Program} {w : World} {p : Program} {loose : List Str} {mean : ExcName → Option Value} {mg mb : Str → Option Value}
  {cn : Str} {cs : Scope} {a : Addr} {ccd : Value} {cl : List (Str × Addr)} {outer : List Env} {A₀ : Around} {base h₀ : Heap} {L : Addr} {m : Str → Option Value} {s : Shared} {Q E : Value → Shared → Prop}
set_option maxRecDepth 100000 in
set_option maxHeartbeats 8000000 in
theorem minserted_spec {mk dm rw : Addr} {hm : Int} {km : Tok} {orw : Obj} {news rest : List (Addr × Obj)} {i j : Int} {ti tj : Tok} {bb : Bool}
 (C : Cx w p loose mean mg mb A₀ base outer h₀ L s.heap m cs) (N : News h₀ L s.heap news) (P : Picks [(mk, instObj 481 dm), (dm, mkD hm km rw), (rw, orw)] news rest)
 (lo : (rw == sysModules) = false) (d1 : orw.IsDictOf (strKind prog w) []) (d2 : orw.IsDictOf (intKind prog w) [])
 (ret : ∀ h' tk', Fr h₀ L h' m → News h₀ L h' news → Q .none { s with heap := h', toks := tk' }) :
 wpAny (model prog w) (ktrTop 940 9400 none cn cs L a ccd cl outer) (call (.ref 464) [.ref mk, .int i ti, .int j tj, .bool bb]) Q E s := by
  obtain ⟨B, F, X, T, hk⟩ := C
  have fs : PyProof.V.FlatPairs PyData.str [] [] := .nil
  have fi : PyProof.V.FlatPairs PyData.int [] [] := .nil
  replace N := news_picks N P
  simp only [List.cons_append, List.nil_append] at N
  refine wpAny_call ?_
  k_dflt cell_enter
  k_steps
  all_goals first
    | exact ret _ _ (by assumption) (news_unpick (by assumption) (by ktr_rel) (by tb_rel) P)
    | w_report
set_option maxRecDepth 100000 in
set_option maxHeartbeats 8000000 in
theorem mdeleted_spec {mk dm rw : Addr} {hm : Int} {km : Tok} {orw : Obj} {news rest : List (Addr × Obj)} {i j : Int} {ti tj : Tok}
 (C : Cx w p loose mean mg mb A₀ base outer h₀ L s.heap m cs) (N : News h₀ L s.heap news) (P : Picks [(mk, instObj 481 dm), (dm, mkD hm km rw), (rw, orw)] news rest)
 (lo : (rw == sysModules) = false) (d1 : orw.IsDictOf (strKind prog w) []) (d2 : orw.IsDictOf (intKind prog w) [])
 (ret : ∀ h' tk', Fr h₀ L h' m → News h₀ L h' news → Q .none { s with heap := h', toks := tk' }) :
 wpAny (model prog w) (ktrTop 940 9400 none cn cs L a ccd cl outer) (call (.ref 471) [.ref mk, .int i ti, .int j tj]) Q E s := by
  obtain ⟨B, F, X, T, hk⟩ := C
  have fs : PyProof.V.FlatPairs PyData.str [] [] := .nil
  have fi : PyProof.V.FlatPairs PyData.int [] [] := .nil
  replace N := news_picks N P
  simp only [List.cons_append, List.nil_append] at N
  refine wpAny_call ?_
  k_dflt cell_enter
  k_steps
  all_goals first
    | exact ret _ _ (by assumption) (news_unpick (by assumption) (by ktr_rel) (by tb_rel) P)
    | w_report
set_option maxRecDepth 100000 in
set_option maxHeartbeats 8000000 in
theorem mreplaced_spec {mk dm rw : Addr} {hm : Int} {km : Tok} {orw : Obj} {news rest : List (Addr × Obj)} {i j : Int} {ti tj : Tok} {kq : Int} {tq : Tok}
 (C : Cx w p loose mean mg mb A₀ base outer h₀ L s.heap m cs) (N : News h₀ L s.heap news) (P : Picks [(mk, instObj 481 dm), (dm, mkD hm km rw), (rw, orw)] news rest)
 (lo : (rw == sysModules) = false) (d1 : orw.IsDictOf (strKind prog w) []) (d2 : orw.IsDictOf (intKind prog w) [])
 (ret : ∀ h' tk', Fr h₀ L h' m → News h₀ L h' news → Q .none { s with heap := h', toks := tk' }) :
 wpAny (model prog w) (ktrTop 940 9400 none cn cs L a ccd cl outer) (call (.ref 478) [.ref mk, .int i ti, .int j tj, .int kq tq]) Q E s := by
  obtain ⟨B, F, X, T, hk⟩ := C
  have fs : PyProof.V.FlatPairs PyData.str [] [] := .nil
  have fi : PyProof.V.FlatPairs PyData.int [] [] := .nil
  replace N := news_picks N P
  simp only [List.cons_append, List.nil_append] at N
  refine wpAny_call ?_
  k_dflt cell_enter
  k_steps
  all_goals first
    | exact ret _ _ (by assumption) (news_unpick (by assumption) (by ktr_rel) (by tb_rel) P)
    | w_report
end
end
section
set_option genInjectivity false in
set_option genSizeOf false in
structure BKeys where
  h0 : Int
  k0 : Tok
  h1 : Int
  k1 : Tok
  h2 : Int
  k2 : Tok
  h3 : Int
  k3 : Tok
  h4 : Int
  k4 : Tok
  h5 : Int
  k5 : Tok
  h6 : Int
  k6 : Tok
  h7 : Int
  k7 : Tok
  h8 : Int
  k8 : Tok
  h9 : Int
  k9 : Tok
  h10 : Int
  k10 : Tok
  h11 : Int
  k11 : Tok
  h12 : Int
  k12 : Tok
  h13 : Int
  k13 : Tok
  h14 : Int
  k14 : Tok
  h15 : Int
  k15 : Tok
  h16 : Int
  k16 : Tok
  h17 : Int
  k17 : Tok
  h18 : Int
  k18 : Tok
  h19 : Int
  k19 : Tok
  n0 : Tok
  n1 : Tok
  n5 : Tok
def bkeys0 : BKeys := by constructor <;> first | exact (0 : Int) | exact (0 : Nat)
abbrev bufD (K : BKeys) (g mk ls : Addr) (pt : Int) (p1 : Tok) (zv : Int) (z1 : Tok) (ro : Bool) (tk : Int) (t1 : Tok) (ck : Int) (c1 : Tok) (sk : Int) (s1 : Tok) : Obj :=
  dictOf [⟨K.h0, .str (Str.ofString "number") K.k0, .int 1 K.n0⟩, ⟨K.h1, .str (Str.ofString "name") K.k1, .str (Str.ofString "a") K.n1⟩, ⟨K.h2, .str (Str.ofString "text") K.k2, .ref g⟩, ⟨K.h3, .str (Str.ofString "markers") K.k3, .ref mk⟩, ⟨K.h4, .str (Str.ofString "point") K.k4, .int pt p1⟩, ⟨K.h5, .str (Str.ofString "begv") K.k5, .int 1 K.n5⟩, ⟨K.h6, .str (Str.ofString "zv") K.k6, .int zv z1⟩, ⟨K.h7, .str (Str.ofString "mark") K.k7, .none⟩, ⟨K.h8, .str (Str.ofString "is_live") K.k8, .bool true⟩, ⟨K.h9, .str (Str.ofString "is_read_only") K.k9, .bool ro⟩, ⟨K.h10, .str (Str.ofString "ticks") K.k10, .int tk t1⟩, ⟨K.h11, .str (Str.ofString "codes_ticks") K.k11, .int ck c1⟩, ⟨K.h12, .str (Str.ofString "saved_ticks") K.k12, .int sk s1⟩, ⟨K.h13, .str (Str.ofString "listeners") K.k13, .ref ls⟩, ⟨K.h14, .str (Str.ofString "undo") K.k14, .none⟩, ⟨K.h15, .str (Str.ofString "props") K.k15, .none⟩, ⟨K.h16, .str (Str.ofString "overlays") K.k16, .none⟩, ⟨K.h17, .str (Str.ofString "locals") K.k17, .none⟩, ⟨K.h18, .str (Str.ofString "syntax") K.k18, .none⟩, ⟨K.h19, .str (Str.ofString "file") K.k19, .none⟩] 20
theorem lines_B1_1 : True := by
  k_with_none
  k_with "k_all" => with_reducible assumption
  k_with "ne_mem" => with_reducible first | exact List.mem_cons_self | (refine List.mem_cons_of_mem _ ?_; k_extra "ne_mem") | (refine List.mem_append_right _ ?_; k_extra "ne_mem")
  k_with "ne_bef" => with_reducible first | (refine Bef.head ?_; k_extra "ne_mem") | (refine Bef.tail ?_; k_extra "ne_bef")
  k_with "lt_ap" => (with_reducible rename Apart _ => kqA; first | (with_reducible exact Apart.bef kqA (by k_extra "ne_bef")) | (clear kqA; k_extra "lt_ap"))
  k_with "lt_go" => first | (with_reducible assumption) | (with_reducible exact AllLt.get (by assumption) (by k_extra "ne_mem")) | k_extra "lt_ap" | ((with_reducible refine Nat.lt_trans ?kq1 ?kq2); (case kq2 => with_reducible assumption); (case kq1 => k_extra "lt_go")) | ((with_reducible refine Nat.lt_trans ?kq1 ?kq2); (case kq1 => with_reducible assumption); (case kq2 => k_extra "lt_ap"))
  k_with "ne_lt" => with_reducible first | exact Nat.ne_of_lt (AllLt.get (by assumption) (by k_extra "ne_mem")) | exact Nat.ne_of_gt (AllLt.get (by assumption) (by k_extra "ne_mem"))
  k_with "ne_ap" => (with_reducible rename Apart _ => kqA; first | (with_reducible exact Nat.ne_of_lt (Apart.bef kqA (by k_extra "ne_bef"))) | (with_reducible exact Nat.ne_of_gt (Apart.bef kqA (by k_extra "ne_bef"))) | (clear kqA; k_extra "ne_ap"))
  k_with "k_ne" => (refine neN ?_; (try dsimp only); first | (with_reducible assumption) | (with_reducible exact Ne.symm (by assumption)) | (with_reducible exact Nat.ne_of_lt (by assumption)) | (with_reducible exact Nat.ne_of_gt (by assumption)) | k_extra "ne_lt" | k_extra "ne_ap" | omega | ((try simp only [AllLt] at *); omega))
  k_with "ne_all" => first | (with_reducible assumption) | (refine And.intro ?_ ?_ <;> k_extra "ne_all") | k_ne
  k_with "mem_hq" => first | exact hq | exact List.mem_append_left _ hq | (refine List.mem_cons_of_mem _ ?_; k_extra "mem_hq")
  k_with "perm" => first | (refine List.forall_mem_cons.mpr (And.intro ?kqa ?kqb); (case kqa => k_extra "ne_mem"); (case kqb => k_extra "perm")) | exact List.forall_mem_nil _ | (intro q hq; k_extra "mem_hq")
  k_with "ord" => first | (with_reducible assumption) | ((with_reducible show @LT.lt Nat _ _ _); k_extra "lt_go") | k_ne | omega | ((try simp only [AllLt] at *); omega)
  k_with "tb_start" => first | exact Pick.head | (apply Pick.tail; tb_start)
  k_with "tb_rel" => first | exact Suff.refl | (refine' Suff.tail ?_; tb_rel)
  k_with "ktr_rel" => first | exact Picks.nil | (refine' Picks.cons ?kqp ?kqq; (case kqp => tb_start); (case kqq => ktr_rel))
  k_with "ktr_unf" => exact ⟨by k_asm, by k_asm, by k_asm, by k_asm, by first | exact rfl | assumption⟩
  k_with "subscriptTail Attribute Name Slice" => (k_here; k_dflt (refine kba_turn (value' := PySem.Expr.Name (PySem.Str.ofString "_") ⟨0, 0, 0, 0⟩) (fun _ => rfl) ?_))
  k_with "subscriptTail Name Slice ref ref" => (k_here; (with_reducible show wpAny _ _ (subscriptTail _ (PySem.Expr.Slice (some _) (some _) none _) (Value.ref _) (Value.ref _)) _ _ _); k_dflt (refine' my_slice ?kqF ?kqN ?kql ?kqi ?kqx ?kqy ?kqz ?_ ?kqs ?kqt; (case kqF => k_asm); (case kqN => k_asm); (case kql => k_mem); (case kqi => k_asm); (case kqx => first | (with_reducible assumption) | omega | ((try simp only [AllLt] at *); omega)); (case kqy => first | (with_reducible assumption) | omega | ((try simp only [AllLt] at *); omega)); (case kqz => first | (with_reducible assumption) | omega | ((try simp only [AllLt] at *); omega)); (case kqs => with_unfolding_all rfl); (case kqt => kmk_pure); k_whole); intro D' ws' h' zs' F' N' l1 hI' hZ' hL'; (try (replace hL' := slice_len hL' (by first | (with_reducible assumption) | omega) (by first | (with_reducible assumption) | omega) (by first | (with_reducible assumption) | omega))); (try k_lt l1); (try k_sweep))
  k_with "setItem ref ref ref" => (k_here; k_dflt (refine' my_setslice ?kqF ?kqN ?kql ?kqU ?kqi ?kqw ?kqx ?kqy ?kqz ?kqzz ?_; (case kqF => k_asm); (case kqN => k_asm); (case kql => k_mem); (case kqU => k_updF); (case kqi => k_asm); (case kqw => k_asm); (case kqx => first | (with_reducible assumption) | omega | ((try simp only [AllLt] at *); omega)); (case kqy => first | (with_reducible assumption) | omega | ((try simp only [AllLt] at *); omega)); (case kqz => first | (with_reducible assumption) | omega | ((try simp only [AllLt] at *); omega)); (case kqzz => first | (with_reducible assumption) | omega | ((try simp only [AllLt] at *); omega)); k_whole); intro vs' n2' h' ns' F' N' hI' hZ' hL'; (try dsimp only at N'); (try k_sweep))
  k_with "call builtin:len" => (k_here; (with_reducible show wpAny _ _ (call (Value.builtin "len") [Value.ref _]) _ _ _); k_dflt (refine' my_len ?kqN ?kql ?kqi ?kqz ?_; (case kqN => k_asm); (case kql => k_mem); (case kqi => k_asm); (case kqz => first | (with_reducible assumption) | omega | ((try simp only [AllLt] at *); omega)); k_whole))
  k_with "pyIter ref" => (k_here; k_dflt (first | (refine' iter_empty ?kqh ?kqF ?kqN ?kqm ?_; (case kqh => exact rfl); (case kqF => k_asm); (case kqN => k_asm); (case kqm => k_mem)) | (refine' iter_empty2 ?kqh ?kqF ?kqN ?kqm ?kqi ?kqz ?_; (case kqh => exact rfl); (case kqF => k_asm); (case kqN => k_asm); (case kqm => k_mem); (case kqi => k_asm); (case kqz => k_asm))); intro h' tk' F' N'; (try dsimp only); (try k_sweep))
  trivial
variable {prog : Program} {w : World} {p : Program} {loose : List Str} {mean : ExcName → Option Value} {mg mb : Str → Option Value} {cn : Str} {cs : Scope} {a : Addr} {ccd : Value} {cl : List (Str × Addr)} {outer : List Env} {A₀ : Around} {base h₀ : Heap} {L : Addr} {m : Str → Option Value} {s : Shared} {Q E : Value → Shared → Prop} in
set_option maxRecDepth 100000 in
set_option maxHeartbeats 8000000 in
theorem nw_spec {b db g mk ls : Addr} {K : BKeys} {pt zv tk ck sk : Int} {p1 z1 t1 c1 s1 : Tok} {news rest : List (Addr × Obj)}
 (C : Cx w p loose mean mg mb A₀ base outer h₀ L s.heap m cs) (N : News h₀ L s.heap news) (P : Picks [(b, instObj 622 db), (db, bufD K g mk ls pt p1 zv z1 false tk t1 ck c1 sk s1)] news rest)
 (ret : ∀ h' tk', Fr h₀ L h' m → News h₀ L h' news → Q .none { s with heap := h', toks := tk' }) :
 wpAny (model prog w) (ktrTop 950 9500 none cn cs L a ccd cl outer) (call (.ref 48) [.ref b]) Q E s := by
  obtain ⟨B, F, X, T, hk⟩ := C
  replace N := news_picks N P
  simp only [List.cons_append, List.nil_append] at N
  refine wpAny_call ?_
  k_dflt cell_enter
  k_steps
  · exact ret _ _ (by assumption) (news_unpick (by assumption) (by ktr_rel) (by tb_rel) P)
variable {prog : Program} {w : World} {p : Program} {loose : List Str} {mean : ExcName → Option Value} {mg mb : Str → Option Value} {cn : Str} {cs : Scope} {a : Addr} {ccd : Value} {cl : List (Str × Addr)} {outer : List Env} {A₀ : Around} {base h₀ : Heap} {L : Addr} {m : Str → Option Value} {s : Shared} {Q E : Value → Shared → Prop} in
set_option maxRecDepth 100000 in
set_option maxHeartbeats 8000000 in
theorem reached_spec {b db g mk ls : Addr} {K : BKeys} {pt zv tk ck sk : Int} {p1 z1 t1 c1 s1 : Tok} {ro : Bool} {news rest : List (Addr × Obj)} {i j : Int} {ti tj : Tok}
 (C : Cx w p loose mean mg mb A₀ base outer h₀ L s.heap m cs) (N : News h₀ L s.heap news) (P : Picks [(b, instObj 622 db), (db, bufD K g mk ls pt p1 zv z1 ro tk t1 ck c1 sk s1)] news rest) (h1 : 1 ≤ i) (h2 : i ≤ j) (h3 : j ≤ zv)
 (ret : ∀ D ta tb n h' tk', Fr h₀ L h' m → News h₀ L h' ((D, ({ cls := .type "tuple", data := .seq #[.int i ta, .int j tb] n } : Obj)) :: news) → (∀ q ∈ news, q.1 < D) → Q (.ref D) { s with heap := h', toks := tk' }) :
 wpAny (model prog w) (ktrTop 950 9500 none cn cs L a ccd cl outer) (call (.ref 55) [.ref b, .int i ti, .int j tj]) Q E s := by
  obtain ⟨B, F, X, T, hk⟩ := C
  replace N := news_picks N P
  simp only [List.cons_append, List.nil_append] at N
  refine wpAny_call ?_
  k_dflt cell_enter
  k_steps
  · have q1 : (if j < i then j else i) = i := by split <;> omega
    have q2 : (if j > i then j else i) = j := by split <;> omega
    simp only [q1, q2] at *
    exact ret _ _ _ _ _ _ (by assumption) (news_unpick1 (by assumption) (by ktr_rel) (by tb_rel) P) (P.lt (by simp only [List.cons_append, List.nil_append, AllLt]; simp [*]))
variable {prog : Program} {w : World} {p : Program} {loose : List Str} {mean : ExcName → Option Value} {mg mb : Str → Option Value} {cn : Str} {cs : Scope} {a : Addr} {ccd : Value} {cl : List (Str × Addr)} {outer : List Env} {A₀ : Around} {base h₀ : Heap} {L : Addr} {m : Str → Option Value} {s : Shared} {Q E : Value → Shared → Prop} in
set_option maxRecDepth 100000 in
set_option maxHeartbeats 8000000 in
theorem ta_spec {b db g mk ls : Addr} {K : BKeys} {pt zv tk ck sk : Int} {p1 z1 t1 c1 s1 : Tok} {ro : Bool} {news rest : List (Addr × Obj)} {i j : Int} {ti tj : Tok} {n : Nat}
 (C : Cx w p loose mean mg mb A₀ base outer h₀ L s.heap m cs) (N : News h₀ L s.heap news) (P : Picks [(b, instObj 622 db), (db, bufD K g mk ls pt p1 zv z1 ro tk t1 ck c1 sk s1), (ls, listOf #[] n)] news rest)
 (ret : ∀ h' tk', Fr h₀ L h' m → News h₀ L h' news → Q .none { s with heap := h', toks := tk' }) :
 wpAny (model prog w) (ktrTop 950 9500 none cn cs L a ccd cl outer) (call (.ref 62) [.ref b, .int i ti, .int j tj]) Q E s := by
  obtain ⟨B, F, X, T, hk⟩ := C
  replace N := news_picks N P
  simp only [List.cons_append, List.nil_append] at N
  refine wpAny_call ?_
  k_dflt cell_enter
  k_steps
  · exact ret _ _ (by assumption) (news_unpick (by assumption) (by ktr_rel) (by tb_rel) P)
def tb_spec_H (b : Addr) (db : Addr) (g : Addr) (mk : Addr) (ls : Addr) (K : BKeys) (pt : Int) (zv : Int) (tk : Int) (ck : Int) (sk : Int) (p1 : Tok) (z1 : Tok) (t1 : Tok) (c1 : Tok) (s1 : Tok) (ro : Bool) (news : List (Addr × Obj)) (rest : List (Addr × Obj)) (i : Int) (j : Int) (o : Int) (ti : Tok) (tj : Tok) (to : Tok) (n : Nat) (prog : Program) (w : World) (p : Program) (loose : List Str) (mean : ExcName → Option Value) (mg : Str → Option Value) (mb : Str → Option Value) (cn : Str) (cs : Scope) (a : Addr) (ccd : Value) (cl : List (Str × Addr)) (outer : List Env) (A₀ : Around) (base : Heap) (h₀ : Heap) (L : Addr) (m : Str → Option Value) (s : Shared) (Q : Value → Shared → Prop) (E : Value → Shared → Prop) (zR : Prop) : Prop := ∀ (C : Cx w p loose mean mg mb A₀ base outer h₀ L s.heap m cs) (N : News h₀ L s.heap news) (P : Picks [(b, instObj 622 db), (db, bufD K g mk ls pt p1 zv z1 ro tk t1 ck c1 sk s1), (ls, listOf #[] n)] news rest) (e1 : @Ne Nat b db) (e2 : @Ne Nat ls db) (r3 : ∀ q ∈ rest, q.1 ≠ db) (ret : ∀ t1' c1' h' tk', Fr h₀ L h' m → News h₀ L h' ([(b, instObj 622 db), (db, bufD K g mk ls pt p1 zv z1 ro (tk + 1) t1' (tk + 1) c1' sk s1), (ls, listOf #[] n)] ++ rest) → Q .none { s with heap := h', toks := tk' }), zR
set_option maxRecDepth 100000 in
set_option maxHeartbeats 8000000 in
noncomputable def tb_spec_k (b : Addr) (db : Addr) (g : Addr) (mk : Addr) (ls : Addr) (K : BKeys) (pt : Int) (zv : Int) (tk : Int) (ck : Int) (sk : Int) (p1 : Tok) (z1 : Tok) (t1 : Tok) (c1 : Tok) (s1 : Tok) (ro : Bool) (news : List (Addr × Obj)) (rest : List (Addr × Obj)) (i : Int) (j : Int) (o : Int) (ti : Tok) (tj : Tok) (to : Tok) (n : Nat) (prog : Program) (w : World) (p : Program) (loose : List Str) (mean : ExcName → Option Value) (mg : Str → Option Value) (mb : Str → Option Value) (cn : Str) (cs : Scope) (a : Addr) (ccd : Value) (cl : List (Str × Addr)) (outer : List Env) (A₀ : Around) (base : Heap) (h₀ : Heap) (L : Addr) (m : Str → Option Value) (s : Shared) (Q : Value → Shared → Prop) (E : Value → Shared → Prop) : PSigma (fun zP : Heap → Addr → Heap → Prop => (∀ zq1 zq2 zq3, tb_spec_H b db g mk ls K pt zv tk ck sk p1 z1 t1 c1 s1 ro news rest i j o ti tj to n prog w p loose mean mg mb cn cs a ccd cl outer A₀ base h₀ L m s Q E (zP zq1 zq2 zq3)) → tb_spec_H b db g mk ls K pt zv tk ck sk p1 z1 t1 c1 s1 ro news rest i j o ti tj to n prog w p loose mean mg mb cn cs a ccd cl outer A₀ base h₀ L m s Q E (wpAny (model prog w) (ktrTop 940 9400 none cn cs L a ccd cl outer) (call (.ref 69) [.ref b, .int i ti, .int j tj, .int o to]) Q E s)) := by
  refine ⟨?zG, fun zH C N P e1 e2 r3 ret => ?zh⟩
  case zh =>
    have zc := fun zq1 zq2 zq3 => zH zq1 zq2 zq3 C N P e1 e2 r3 ret
    clear zH
    obtain ⟨B, F, X, T, hk⟩ := C
    replace N := news_picks N P
    simp only [List.cons_append, List.nil_append] at N
    refine wpAny_call ?_
    k_dflt cell_enter
    rename_i g9 L9 h9 FG9 F9 N9 B9 X9 T9
    revert FG9 F9 N9 B9 X9 T9
    exact zc g9 L9 h9
abbrev tb_spec_P : Type := ((((((Heap × Addr) × (Heap × Addr)) × ((Addr × Addr) × Addr)) × (((Addr × BKeys) × Int) × ((Int × Int) × Int))) × ((((Int × Tok) × Tok) × ((Tok × Tok) × Tok)) × (((Bool × (List (Addr × Obj))) × (List (Addr × Obj))) × ((Int × Int) × Int)))) × (((((Tok × Tok) × (Tok × Nat)) × ((Program × World) × Program)) × ((((List Str) × (ExcName → Option Value)) × (Str → Option Value)) × (((Str → Option Value) × Str) × Scope))) × ((((Addr × Value) × (List (Str × Addr))) × (((List Env) × Around) × Heap)) × (((Heap × Addr) × (Str → Option Value)) × ((Shared × (Value → Shared → Prop)) × (Value → Shared → Prop))))))
abbrev tb_spec_F (x : tb_spec_P) : Prop := tb_spec_H (x.1.1.1.1.2.2) (x.1.1.1.2.1.1) (x.1.1.1.2.1.2) (x.1.1.1.2.2) (x.1.1.2.1.1.1) (x.1.1.2.1.1.2) (x.1.1.2.1.2) (x.1.1.2.2.1.1) (x.1.1.2.2.1.2) (x.1.1.2.2.2) (x.1.2.1.1.1.1) (x.1.2.1.1.1.2) (x.1.2.1.1.2) (x.1.2.1.2.1.1) (x.1.2.1.2.1.2) (x.1.2.1.2.2) (x.1.2.2.1.1.1) (x.1.2.2.1.1.2) (x.1.2.2.1.2) (x.1.2.2.2.1.1) (x.1.2.2.2.1.2) (x.1.2.2.2.2) (x.2.1.1.1.1.1) (x.2.1.1.1.1.2) (x.2.1.1.1.2.1) (x.2.1.1.1.2.2) (x.2.1.1.2.1.1) (x.2.1.1.2.1.2) (x.2.1.1.2.2) (x.2.1.2.1.1.1) (x.2.1.2.1.1.2) (x.2.1.2.1.2) (x.2.1.2.2.1.1) (x.2.1.2.2.1.2) (x.2.1.2.2.2) (x.2.2.1.1.1.1) (x.2.2.1.1.1.2) (x.2.2.1.1.2) (x.2.2.1.2.1.1) (x.2.2.1.2.1.2) (x.2.2.1.2.2) (x.2.2.2.1.1.1) (x.2.2.2.1.1.2) (x.2.2.2.1.2) (x.2.2.2.2.1.1) (x.2.2.2.2.1.2) (x.2.2.2.2.2)  ((tb_spec_k (x.1.1.1.1.2.2) (x.1.1.1.2.1.1) (x.1.1.1.2.1.2) (x.1.1.1.2.2) (x.1.1.2.1.1.1) (x.1.1.2.1.1.2) (x.1.1.2.1.2) (x.1.1.2.2.1.1) (x.1.1.2.2.1.2) (x.1.1.2.2.2) (x.1.2.1.1.1.1) (x.1.2.1.1.1.2) (x.1.2.1.1.2) (x.1.2.1.2.1.1) (x.1.2.1.2.1.2) (x.1.2.1.2.2) (x.1.2.2.1.1.1) (x.1.2.2.1.1.2) (x.1.2.2.1.2) (x.1.2.2.2.1.1) (x.1.2.2.2.1.2) (x.1.2.2.2.2) (x.2.1.1.1.1.1) (x.2.1.1.1.1.2) (x.2.1.1.1.2.1) (x.2.1.1.1.2.2) (x.2.1.1.2.1.1) (x.2.1.1.2.1.2) (x.2.1.1.2.2) (x.2.1.2.1.1.1) (x.2.1.2.1.1.2) (x.2.1.2.1.2) (x.2.1.2.2.1.1) (x.2.1.2.2.1.2) (x.2.1.2.2.2) (x.2.2.1.1.1.1) (x.2.2.1.1.1.2) (x.2.2.1.1.2) (x.2.2.1.2.1.1) (x.2.2.1.2.1.2) (x.2.2.1.2.2) (x.2.2.2.1.1.1) (x.2.2.2.1.1.2) (x.2.2.2.1.2) (x.2.2.2.2.1.1) (x.2.2.2.2.1.2) (x.2.2.2.2.2) ).1 (x.1.1.1.1.1.1) (x.1.1.1.1.1.2) (x.1.1.1.1.2.1))
theorem tb_spec_ex : ∃ x : tb_spec_P, tb_spec_F x → ∀ y : tb_spec_P, tb_spec_F y := drinker ⟨((((((default, (0 : Nat)), (default, (0 : Nat))), (((0 : Nat), (0 : Nat)), (0 : Nat))), ((((0 : Nat), bkeys0), 0), ((0, 0), 0))), ((((0, (0 : Nat)), (0 : Nat)), (((0 : Nat), (0 : Nat)), (0 : Nat))), (((false, []), []), ((0, 0), 0)))), ((((((0 : Nat), (0 : Nat)), ((0 : Nat), 0)), ((default, world0), default)), ((([], fun _ => none), fun _ => none), ((fun _ => none, default), default))), (((((0 : Nat), .none), []), (([], {}), default)), (((default, (0 : Nat)), fun _ => none), (({}, fun _ _ => True), fun _ _ => True)))))⟩
noncomputable def tb_spec_x : tb_spec_P := tb_spec_ex.choose
namespace tb_spec_n
noncomputable def g9 : Heap := tb_spec_x.1.1.1.1.1.1
noncomputable def L9 : Addr := tb_spec_x.1.1.1.1.1.2
noncomputable def h9 : Heap := tb_spec_x.1.1.1.1.2.1
noncomputable def b : Addr := tb_spec_x.1.1.1.1.2.2
noncomputable def db : Addr := tb_spec_x.1.1.1.2.1.1
noncomputable def g : Addr := tb_spec_x.1.1.1.2.1.2
noncomputable def mk : Addr := tb_spec_x.1.1.1.2.2
noncomputable def ls : Addr := tb_spec_x.1.1.2.1.1.1
noncomputable def K : BKeys := tb_spec_x.1.1.2.1.1.2
noncomputable def pt : Int := tb_spec_x.1.1.2.1.2
noncomputable def zv : Int := tb_spec_x.1.1.2.2.1.1
noncomputable def tk : Int := tb_spec_x.1.1.2.2.1.2
noncomputable def ck : Int := tb_spec_x.1.1.2.2.2
noncomputable def sk : Int := tb_spec_x.1.2.1.1.1.1
noncomputable def p1 : Tok := tb_spec_x.1.2.1.1.1.2
noncomputable def z1 : Tok := tb_spec_x.1.2.1.1.2
noncomputable def t1 : Tok := tb_spec_x.1.2.1.2.1.1
noncomputable def c1 : Tok := tb_spec_x.1.2.1.2.1.2
noncomputable def s1 : Tok := tb_spec_x.1.2.1.2.2
noncomputable def ro : Bool := tb_spec_x.1.2.2.1.1.1
noncomputable def news : List (Addr × Obj) := tb_spec_x.1.2.2.1.1.2
noncomputable def rest : List (Addr × Obj) := tb_spec_x.1.2.2.1.2
noncomputable def i : Int := tb_spec_x.1.2.2.2.1.1
noncomputable def j : Int := tb_spec_x.1.2.2.2.1.2
noncomputable def o : Int := tb_spec_x.1.2.2.2.2
noncomputable def ti : Tok := tb_spec_x.2.1.1.1.1.1
noncomputable def tj : Tok := tb_spec_x.2.1.1.1.1.2
noncomputable def to : Tok := tb_spec_x.2.1.1.1.2.1
noncomputable def n : Nat := tb_spec_x.2.1.1.1.2.2
noncomputable def prog : Program := tb_spec_x.2.1.1.2.1.1
noncomputable def w : World := tb_spec_x.2.1.1.2.1.2
noncomputable def p : Program := tb_spec_x.2.1.1.2.2
noncomputable def loose : List Str := tb_spec_x.2.1.2.1.1.1
noncomputable def mean : ExcName → Option Value := tb_spec_x.2.1.2.1.1.2
noncomputable def mg : Str → Option Value := tb_spec_x.2.1.2.1.2
noncomputable def mb : Str → Option Value := tb_spec_x.2.1.2.2.1.1
noncomputable def cn : Str := tb_spec_x.2.1.2.2.1.2
noncomputable def cs : Scope := tb_spec_x.2.1.2.2.2
noncomputable def a : Addr := tb_spec_x.2.2.1.1.1.1
noncomputable def ccd : Value := tb_spec_x.2.2.1.1.1.2
noncomputable def cl : List (Str × Addr) := tb_spec_x.2.2.1.1.2
noncomputable def outer : List Env := tb_spec_x.2.2.1.2.1.1
noncomputable def A₀ : Around := tb_spec_x.2.2.1.2.1.2
noncomputable def base : Heap := tb_spec_x.2.2.1.2.2
noncomputable def h₀ : Heap := tb_spec_x.2.2.2.1.1.1
noncomputable def L : Addr := tb_spec_x.2.2.2.1.1.2
noncomputable def m : Str → Option Value := tb_spec_x.2.2.2.1.2
noncomputable def s : Shared := tb_spec_x.2.2.2.2.1.1
noncomputable def Q : Value → Shared → Prop := tb_spec_x.2.2.2.2.1.2
noncomputable def E : Value → Shared → Prop := tb_spec_x.2.2.2.2.2
set_option maxRecDepth 100000 in
set_option maxHeartbeats 8000000 in
theorem main  : tb_spec_H b db g mk ls K pt zv tk ck sk p1 z1 t1 c1 s1 ro news rest i j o ti tj to n prog w p loose mean mg mb cn cs a ccd cl outer A₀ base h₀ L m s Q E ((tb_spec_k b db g mk ls K pt zv tk ck sk p1 z1 t1 c1 s1 ro news rest i j o ti tj to n prog w p loose mean mg mb cn cs a ccd cl outer A₀ base h₀ L m s Q E).1 g9 L9 h9) := by
  intro C N P e1 e2 r3 ret
  obtain ⟨B, F, X, T, hk⟩ := C
  replace N := news_picks N P
  simp only [List.cons_append, List.nil_append] at N
  delta tb_spec_k
  dsimp only
  intro _ _ _ _ _ _
  k_steps
  · exact ret _ _ _ _ (by k_asm) (news_back (by k_asm) (by ktr_rel) (by tb_rel))
end tb_spec_n
theorem tb_spec {prog : Program} {w : World} {p : Program} {loose : List Str} {mean : ExcName → Option Value} {mg : Str → Option Value} {mb : Str → Option Value} {cn : Str} {cs : Scope} {a : Addr} {ccd : Value} {cl : List (Str × Addr)} {outer : List Env} {A₀ : Around} {base : Heap} {h₀ : Heap} {L : Addr} {m : Str → Option Value} {s : Shared} {Q : Value → Shared → Prop} {E : Value → Shared → Prop} {b : Addr} {db : Addr} {g : Addr} {mk : Addr} {ls : Addr} {K : BKeys} {pt : Int} {zv : Int} {tk : Int} {ck : Int} {sk : Int} {p1 : Tok} {z1 : Tok} {t1 : Tok} {c1 : Tok} {s1 : Tok} {ro : Bool} {news : List (Addr × Obj)} {rest : List (Addr × Obj)} {i : Int} {j : Int} {o : Int} {ti : Tok} {tj : Tok} {to : Tok} {n : Nat} : tb_spec_H b db g mk ls K pt zv tk ck sk p1 z1 t1 c1 s1 ro news rest i j o ti tj to n prog w p loose mean mg mb cn cs a ccd cl outer A₀ base h₀ L m s Q E (wpAny (model prog w) (ktrTop 940 9400 none cn cs L a ccd cl outer) (call (.ref 69) [.ref b, .int i ti, .int j tj, .int o to]) Q E s) := (tb_spec_k b db g mk ls K pt zv tk ck sk p1 z1 t1 c1 s1 ro news rest i j o ti tj to n prog w p loose mean mg mb cn cs a ccd cl outer A₀ base h₀ L m s Q E).2 (fun g9 L9 h9 => tb_spec_ex.choose_spec (tb_spec_n.main ) ((((((g9, L9), (h9, b)), ((db, g), mk)), (((ls, K), pt), ((zv, tk), ck))), ((((sk, p1), z1), ((t1, c1), s1)), (((ro, news), rest), ((i, j), o)))), (((((ti, tj), (to, n)), ((prog, w), p)), (((loose, mean), mg), ((mb, cn), cs))), ((((a, ccd), cl), ((outer, A₀), base)), (((h₀, L), m), ((s, Q), E))))) )
variable {prog : Program} {w : World} {p : Program} {loose : List Str} {mean : ExcName → Option Value} {mg mb : Str → Option Value} {cn : Str} {cs : Scope} {a : Addr} {ccd : Value} {cl : List (Str × Addr)} {outer : List Env} {A₀ : Around} {base h₀ : Heap} {L : Addr} {m : Str → Option Value} {s : Shared} {Q E : Value → Shared → Prop} in
set_option maxRecDepth 100000 in
set_option maxHeartbeats 8000000 in
theorem ho_spec {b db g mk ls : Addr} {K : BKeys} {pt zv tk ck sk : Int} {p1 z1 t1 c1 s1 : Tok} {ro : Bool} {news rest : List (Addr × Obj)} {i j : Int} {ti tj : Tok}
 (C : Cx w p loose mean mg mb A₀ base outer h₀ L s.heap m cs) (N : News h₀ L s.heap news) (P : Picks [(b, instObj 622 db), (db, bufD K g mk ls pt p1 zv z1 ro tk t1 ck c1 sk s1)] news rest)
 (ret : ∀ h' tk', Fr h₀ L h' m → News h₀ L h' news → Q .none { s with heap := h', toks := tk' }) :
 wpAny (model prog w) (ktrTop 950 9500 none cn cs L a ccd cl outer) (call (.ref 90) [.ref b, .int i ti, .int j tj]) Q E s := by
  obtain ⟨B, F, X, T, hk⟩ := C
  replace N := news_picks N P
  simp only [List.cons_append, List.nil_append] at N
  refine wpAny_call ?_
  k_dflt cell_enter
  k_steps
  · exact ret _ _ (by assumption) (news_unpick (by assumption) (by ktr_rel) (by tb_rel) P)
variable {prog : Program} {w : World} {p : Program} {loose : List Str} {mean : ExcName → Option Value} {mg mb : Str → Option Value} {cn : Str} {cs : Scope} {a : Addr} {ccd : Value} {cl : List (Str × Addr)} {outer : List Env} {A₀ : Around} {base h₀ : Heap} {L : Addr} {m : Str → Option Value} {s : Shared} {Q E : Value → Shared → Prop} in
set_option maxRecDepth 100000 in
set_option maxHeartbeats 8000000 in
theorem hi_spec {b db g mk ls : Addr} {K : BKeys} {pt zv tk ck sk : Int} {p1 z1 t1 c1 s1 : Tok} {ro bb : Bool} {news rest : List (Addr × Obj)} {i j : Int} {ti tj : Tok}
 (C : Cx w p loose mean mg mb A₀ base outer h₀ L s.heap m cs) (N : News h₀ L s.heap news) (P : Picks [(b, instObj 622 db), (db, bufD K g mk ls pt p1 zv z1 ro tk t1 ck c1 sk s1)] news rest)
 (ret : ∀ h' tk', Fr h₀ L h' m → News h₀ L h' news → Q .none { s with heap := h', toks := tk' }) :
 wpAny (model prog w) (ktrTop 950 9500 none cn cs L a ccd cl outer) (call (.ref 97) [.ref b, .int i ti, .int j tj, .bool bb]) Q E s := by
  obtain ⟨B, F, X, T, hk⟩ := C
  replace N := news_picks N P
  simp only [List.cons_append, List.nil_append] at N
  refine wpAny_call ?_
  k_dflt cell_enter
  k_steps
  · exact ret _ _ (by assumption) (news_unpick (by assumption) (by ktr_rel) (by tb_rel) P)
end
section
open PySem.Calls
set_option maxRecDepth 100000
theorem lines_X3_0 : True := by
  k_with_none
  trivial
section
variable {prog : Program} {w : World} {p : Program} {loose : List Str} {mean : ExcName → Option Value} {mg mb : Str → Option Value}
  {cn : Str} {cs : Scope} {a : Addr} {ccd : Value} {cl : List (Str × Addr)} {outer : List Env} {A₀ : Around} {base h₀ : Heap} {L : Addr} {m : Str → Option Value} {s : Shared} {Q E : Value → Shared → Prop}
theorem call38_spec {dl : Addr} {sy : Str} {ts : Tok} {news : List (Addr × Obj)}
 (C : Cx w p loose mean mg mb A₀ base outer h₀ L s.heap m cs) (N : News h₀ L s.heap news)
 (ret : ∀ e t d es h' tk', Fr h₀ L h' m → News h₀ L h' ((d, dictOf es 2) :: (e, excO t (some d)) :: news) → (∀ p ∈ news, p.1 ≠ e) → @Ne Nat d e → getL (Str.ofString "symbol") es = some (some (.str sy ts)) → Q (.ref e) { s with heap := h', toks := tk' }) :
 wpAny (model prog w) (ktrTop 950 9500 none cn cs L a ccd cl outer) (call (.ref 38) [.str sy ts, .ref dl]) Q E s := by
  have C' := C
  obtain ⟨B, F, X, T, hk⟩ := C
  have X1 := X.keeps F.keep
  obtain ⟨o35, h35, c35⟩ := any_some (fn35 w.params)
  have hn := Heap.Ns.of_isNs (isNs_of_in X1 (nsOk37 w.params))
  obtain ⟨hp, g, dr, tk, os⟩ := s
  refine wpAny_call_exc_init PySem.F.excBase_Exception (X1 _ _ (cls38 w.params)) hn (ns_some_of X1 hn (ns37 w.params)) (X1 _ _ h35) (beq_iff_eq.mp c35) fun h' e hm => ?_
  obtain ⟨t, he, ht, _⟩ := hm.there
  have hne : ∀ p ∈ news, p.1 ≠ e := fun p hp q => by have := (N p hp).1; rw [q, hm.new] at this; cases this
  have F1 := F.keeps hm.keeps
  have N1 : News h₀ L h' ((e, excO t none) :: news) := fun q hq => by
    rcases List.mem_cons.mp hq with rfl | hq
    · refine ⟨he, fun q => ?_, ?_⟩
      · obtain ⟨oL, _, _, hL, _⟩ := F.ns
        have := hm.new
        rw [show e = L from q, hL] at this
        cases this
      · cases q : h₀.get? e with
        | none => rfl
        | some o => have := hm.new; rw [F.keep _ _ q] at this; cases this
    · exact ⟨hm.keeps _ _ (N q hq).1, (N q hq).2⟩
  refine around_le (init_spec (s := ⟨h', g, dr, tk, os⟩) (t := t) ⟨B, F1, X, T, hk⟩ N1 hne ?_) ?_ ?_
  · intro d es h'' tk' F2 N2 l1 l2 hl
    exact ⟨rfl, ret e t d es h'' tk' F2 N2 hne (Nat.ne_of_gt l1) hl⟩
  · exact Nat.le_of_ble_eq_true rfl
  · exact Nat.le_of_ble_eq_true rfl
end
/-- an own exception in flight: the ledger stands beneath it -/
def Fly (base : Heap) (l : List Env) (e : Addr) (sy : Str) (nss : List (Addr × (Str → Option Value))) (news : List (Addr × Obj)) (h : Heap) : Prop :=
  ∃ B t d es n ts, (∀ q ∈ nss, h.Ns q.1 q.2) ∧ base.StaysIn B ∧ (∀ q ∈ news, B.get? q.1 = some q.2 ∧ base.get? q.1 = none) ∧ Heap.FlyingW B l e (.ref 38) (.ref t) h ∧ DictAt h e (some d) ∧ (B.get? d = some (dictOf es n) ∧ base.get? d = none) ∧ getL (Str.ofString "symbol") es = some (some (.str sy ts))
theorem Fly.sub {base h : Heap} {l : List Env} {e : Addr} {sy : Str} {nss : List (Addr × (Str → Option Value))} {news news' : List (Addr × Obj)} (x : Fly base l e sy nss news h) (k : ∀ q ∈ news', q ∈ news) : Fly base l e sy nss news' h := by
  obtain ⟨B, t, d, es, n, ts, x0, x1, x2, x⟩ := x
  exact ⟨B, t, d, es, n, ts, x0, x1, fun q hq => x2 q (k q hq), x⟩
theorem Fly.tail {base h : Heap} {l : List Env} {e : Addr} {sy : Str} {q : Addr × (Str → Option Value)} {nss : List (Addr × (Str → Option Value))} {news : List (Addr × Obj)} (x : Fly base l e sy (q :: nss) news h) : Fly base l e sy nss news h := by
  obtain ⟨B, t, d, es, n, ts, x0, x⟩ := x
  exact ⟨B, t, d, es, n, ts, fun q hq => x0 q (.tail _ hq), x⟩
theorem nss_up {h₀ g : Heap} {L : Addr} {m : Str → Option Value} {nss : List (Addr × (Str → Option Value))} (F : Fr h₀ L g m) (h : ∀ q ∈ nss, h₀.Ns q.1 q.2) : ∀ q ∈ (L, m) :: nss, g.Ns q.1 q.2 := fun q hq => by
  rcases List.mem_cons.mp hq with rfl | hq
  · exact F.ns
  · exact (h q hq).at' fun o e => F.keep _ _ e
theorem hideE {h : Heap} {e : Addr} {r : List Addr} : hideAll h (e :: r) = hideAll (h.hide e) r := rfl
section
variable {M : Model} {A : Around} {E : Value → Shared → Prop} {s' : Shared} {base g : Heap} {outer : List Env} {L a e : Addr} {m : Str → Option Value} {name : Str} {scope : Scope} {cd : Value} {cells : List (Str × Addr)} {Q : Unit → Shared → Prop} {news : List (Addr × Obj)} {sy : Str} {nss : List (Addr × (Str → Option Value))}
theorem fly_first {t d : Addr} {es : List DictEntry} {n : Nat} {ts : Tok} (K : Below A base outer g) (F : Fr g L s'.heap m) (N : News g L s'.heap ((d, dictOf es n) :: (e, excO t (some d)) :: news)) (hne : ∀ q ∈ news, q.1 ≠ e) (hde : @Ne Nat d e)
    (hsy : getL (Str.ofString "symbol") es = some (some (.str sy ts))) (hns : ∀ q ∈ nss, g.Ns q.1 q.2) (hQ : ∀ h', Fly base outer e sy nss news h' → Q () { s' with heap := h' }) (hk : scope.kind = .function := by rfl) :
    wpAny M (A.deeper (envX name scope L a cd cells)) (leaving (envX name scope L a cd cells) (.ref e)) Q E s' := by
  have K' := pushX (env := envX name scope L a cd cells) K F rfl hk
  have hin : ∀ env ∈ (envX name scope L a cd cells :: outer), ∀ b, env.frame = some b → b ∈ e :: (envX name scope L a cd cells :: outer).filterMap (·.frame) := fun env he b hb => .tail _ (List.mem_filterMap.mpr ⟨env, he, hb⟩)
  have hn : ∀ q ∈ (d, dictOf es n) :: (e, excO t (some d)) :: news, q.1 ∉ (envX name scope L a cd cells :: outer).filterMap (·.frame) := fun q hq hm => by
    obtain ⟨env, he, hf⟩ := List.mem_filterMap.mp hm
    rcases List.mem_cons.mp he with rfl | he
    · exact (N q hq).2.1 (Option.some.inj hf).symm
    · obtain ⟨o, ho, _⟩ := (K.frames.mem (List.mem_filterMap.mpr ⟨env, he, hf⟩)).2
      rw [(N q hq).2.2] at ho; cases ho
  have he := (N (e, excO t (some d)) (.tail _ (.head _))).1
  have st : base.StaysIn (hideAll s'.heap (e :: (envX name scope L a cd cells :: outer).filterMap (·.frame))) := fun b o q => hideAll_get _ (K'.stays b o q) fun hm => by
    rcases List.mem_cons.mp hm with rfl | hm
    · have := (N (b, excO t (some d)) (.tail _ (.head _))).2.2
      rw [K.stays _ _ q] at this
      cases this
    · rw [(K'.frames.mem hm).1] at q; cases q
  have keepN : ∀ q ∈ (d, dictOf es n) :: (e, excO t (some d)) :: news, q.1 ≠ e → (hideAll s'.heap (e :: (envX name scope L a cd cells :: outer).filterMap (·.frame))).get? q.1 = some q.2 := fun q hq ne =>
    hideAll_get _ (N q hq).1 fun hm => by
      rcases List.mem_cons.mp hm with z | hm
      · exact ne z
      · exact hn q hq hm
  refine wpAny_mono (tame_any (tame_leaving _ _) ⟨_, he, rfl⟩ (wpAny_leaving_firstW (Q := fun _ s₂ => ∃ h', Heap.LeftW (hideAll s'.heap (e :: (envX name scope L a cd cells :: outer).filterMap (·.frame))) (envX name scope L a cd cells :: outer) e (.ref 38) (.ref t) s'.heap h' ∧ s₂ = { s' with heap := h' })
    (base := hideAll s'.heap (e :: (envX name scope L a cd cells :: outer).filterMap (·.frame))) K'.stack (funFrames_hide K'.frames hin) rfl he (fun b o q => of_hideAll _ q) (hideAll_none _ (.head _)) rfl rfl rfl fun h' x => ⟨h', x, rfl⟩)) ?_ fun _ _ x => x
  rintro _ s₂ ⟨⟨h', x, rfl⟩, dd⟩
  obtain ⟨k1, ⟨_, _, k2⟩, k3, k4⟩ := x
  exact hQ h' ⟨_, t, d, es, n, ts, fun q hq => Heap.UpToSlots.ns k4 ((hns q hq).at' fun o e => F.keep _ _ e), st, fun q hq => ⟨keepN q (.tail _ (.tail _ hq)) (hne q hq), fresh_of_stays K.stays (N q (.tail _ (.tail _ hq))).2.2⟩, ⟨k1, hideAll_none _ (.head _), k2, k3⟩, dd, ⟨keepN (d, dictOf es n) (.head _) hde, fresh_of_stays K.stays (N _ (.head _)).2.2⟩, hsy⟩
theorem fly_on (K : Below A base outer g) (x : Fly base (envX name scope L a cd cells :: outer) e sy nss news s'.heap) (hQ : ∀ h', Fly base outer e sy nss news h' → Q () { s' with heap := h' }) :
    wpAny M (A.deeper (envX name scope L a cd cells)) (leaving (envX name scope L a cd cells) (.ref e)) Q E s' := by
  obtain ⟨B, t, d, es, n, ts, x0, x1, x2, x3, x4, x5⟩ := x
  refine wpAny_mono (tame_any (tame_leaving _ _) x4 (wpAny_leaves_onW (Q := fun _ s₂ => ∃ h', Heap.FlyingW B outer e (.ref 38) (.ref t) h' ∧ s'.heap.UpToSlots h' ∧ s₂ = { s' with heap := h' }) (Around.frames_deeper K.stack) rfl x3 fun h' y z => ⟨h', y, z, rfl⟩)) ?_ fun _ _ x => x
  rintro _ s₂ ⟨⟨h', y, z, rfl⟩, dd⟩
  exact hQ h' ⟨B, t, d, es, n, ts, fun q hq => z.ns (x0 q hq), x1, x2, y, dd, x5⟩
end
end
section
open PySem.Calls
set_option maxRecDepth 100000
theorem lines_X16_0 : True := by
  k_with_none
  trivial
section
variable {prog : Program} {w : World} {s : Shared} {h₀ : Heap}
theorem loop_range2 {A : Around} {env : Env} {target : PySem.Expr} {body : List Stmt} {E : Value → Shared → Prop} {R : Result → Shared → Prop} {I : Addr} {a : Int} {n : Nat} {m : Str → Option Value} {news : List (Addr × Obj)} (J : Nat → (Str → Option Value) → List (Addr × Obj) → Prop) (hh : A.handled = none) (hI : IsRangeIter s.heap I (a + ((0 : Nat) : Int) * 1) ((n : Int) - ((0 : Nat) : Int)) 1) (hLI : I ≠ env.locals) (hI0 : h₀.get? I = none)
    (F : Fr h₀ env.locals s.heap m) (N : News h₀ env.locals s.heap news) (hoff : ∀ p ∈ news, p.1 ≠ I) (h0 : J 0 m news)
    (go : ∀ v (s' : Shared) (Q' : Unit → Shared → Prop) i, IsRangeIter s'.heap I (a + ((i : Nat) : Int) * 1) ((n : Int) - (i : Nat)) 1 → Q' () s' → wpAny (model prog w) A (letOwnedTupleGo target (.ref I) v) Q' (notedBy (model prog w) A env fun e s' => R (.error e) s') s')
    (turn : ∀ i t m₁ news₁ h₁ tk₁ oI, i < n → J i m₁ news₁ → (∀ p ∈ news₁, p.1 ≠ I) → (∃ fs, oI.data = .fields fs) → Fr h₀ env.locals h₁ m₁ → News h₀ env.locals h₁ ((I, oI) :: news₁) →
      wpAny (model prog w) A (assign target env (.int (a + (i : Int)) t)) (fun _ s₃ => wpAny (model prog w) A (execs body env) (LoopStepU h₀ env.locals [I] [(I, oI)] (J (i + 1)) { s with heap := h₁, toks := tk₁ }) (notedBy (model prog w) A env fun e s' => R (.error e) s') s₃) (notedBy (model prog w) A env fun e s' => R (.error e) s') { s with heap := h₁, toks := tk₁ })
    (done : ∀ h' tk m' news', Fr h₀ env.locals h' m' → News h₀ env.locals h' news' → J n m' news' → R (.ok .next) { s with heap := h', toks := tk }) :
    codeAny (model prog w) A (.forLoop target (.ref I) body [] env) R s := by
  have W := Walks.range (prog := prog) (w := w) hh I a 1 n
  refine codeAny_forLoop_any
    (fun k s' => ∃ h' tk m' news' i, s' = { s with heap := h', toks := tk } ∧ IsRangeIter h' I (a + ((i : Nat) : Int) * 1) ((n : Int) - (i : Nat)) 1 ∧ Fr h₀ env.locals h' m' ∧ News h₀ env.locals h' news' ∧ (∀ p ∈ news', p.1 ≠ I) ∧ J i m' news' ∧ i ≤ n ∧ k = n + 1 - i) ?_ (n + 1)
    ⟨s.heap, s.toks, m, news, 0, rfl, hI, F, N, hoff, h0, Nat.zero_le _, rfl⟩
  rintro k s' ⟨h', tk, m', news', i, rfl, hit, F', N', hoff', hJ, hi, rfl⟩
  have next : ∀ h₁ : Heap, (∀ b o, b ∉ [I] → h'.get? b = some o → h₁.get? b = some o) → Fr h₀ env.locals h₁ m' ∧ News h₀ env.locals h₁ news' := fun h₁ hk =>
    ⟨⟨F'.ns.at' fun o e => hk _ o (fun z => hLI (List.mem_singleton.mp z).symm) e, fun b o e => hk b o (fun z => by rw [List.mem_singleton.mp z, hI0] at e; cases e) (F'.keep b o e), F'.above⟩,
      fun p hp => ⟨hk _ _ (fun z => hoff' p hp (List.mem_singleton.mp z)) (N' p hp).1, (N' p hp).2⟩⟩
  by_cases hlt : i < n
  · refine W.item i _ _ _ hlt hit fun v h₁ tk₁ hv hst hk => ?_
    obtain ⟨F₁, N₁⟩ := next h₁ hk
    obtain ⟨t, rfl⟩ := hv
    rw [Int.mul_one]
    refine go _ _ _ (i + 1) hst ?_
    refine wpAny_mono (turn i t m' news' h₁ tk₁ _ hlt hJ hoff' ⟨_, rfl⟩ F₁ (fun q hq => by
      rcases List.mem_cons.mp hq with rfl | hq
      · exact ⟨hst, hLI, hI0⟩
      · exact N₁ q hq)) (fun _ s₂ h₂ => wpAny_mono h₂ (fun f s₃ h₃ => ?_) fun _ _ e => e) fun _ _ e => e
    obtain ⟨rfl, h₃', tk₃, m₂, news₂, rfl, F₃, N₃, ha₃, hJ₃⟩ := h₃
    exact ⟨n + 1 - (i + 1), by omega, h₃', tk₃, m₂, news₂, i + 1, rfl, (N₃ _ (.head _)).1, F₃, (fun q hq => N₃ q (.tail _ hq)), (fun p hp z => ha₃ p hp (by rw [z]; exact .head _)), hJ₃, hlt, rfl⟩
  · have hin : i = n := by omega
    subst hin
    refine W.done _ _ _ hit fun h₁ tk₁ hk => wpAny_execs_nil ?_
    obtain ⟨F₁, N₁⟩ := next h₁ hk
    exact done h₁ tk₁ m' news' F₁ N₁ hJ
theorem range_go2 {A : Around} {env : Env} {target : PySem.Expr} {body : List Stmt} {E : Value → Shared → Prop} {Q : Flow → Shared → Prop} {r : Addr} {n : Nat} {t u v : Tok} {m : Str → Option Value} {news : List (Addr × Obj)} (J : Nat → (Str → Option Value) → List (Addr × Obj) → Prop) (hh : A.handled = none) (hr : IsRange s.heap r 0 (n : Int) 1 t u v) (hn : n ≤ 1000) (F : Fr h₀ env.locals s.heap m) (N : News h₀ env.locals s.heap news) (h0 : J 0 m news)
    (turn : ∀ I i t m₁ news₁ h₁ tk₁ oI, (∀ p ∈ news, @LT.lt Nat _ p.1 I) → i < n → J i m₁ news₁ → (∀ p ∈ news₁, p.1 ≠ I) → (∃ fs, oI.data = .fields fs) → Fr h₀ env.locals h₁ m₁ → News h₀ env.locals h₁ ((I, oI) :: news₁) →
      wpAny (model prog w) A (assign target env (.int ((i : Nat) : Int) t)) (fun _ s₃ => wpAny (model prog w) A (execs body env) (LoopStepU h₀ env.locals [I] [(I, oI)] (J (i + 1)) { s with heap := h₁, toks := tk₁ }) E s₃) E { s with heap := h₁, toks := tk₁ })
    (done : ∀ h' tk m' news', Fr h₀ env.locals h' m' → News h₀ env.locals h' news' → J n m' news' → Q .next { s with heap := h', toks := tk })
    (hE : PassesOwn (model prog w) A env E)
    (go : ∀ I v (s' : Shared) (Q' : Unit → Shared → Prop) i, IsRangeIter s'.heap I (0 + ((i : Nat) : Int) * 1) ((n : Int) - (i : Nat)) 1 → Q' () s' → wpAny (model prog w) A (letOwnedTupleGo target (.ref I) v) Q' E s') :
    wpAny (model prog w) A (pyIter (.ref r)) (fun it s₂ => codeAny (model prog w) A (.forLoop target it body [] env) (fun r s' => match r with | .ok f => Q f s' | .error e => cameBackBy (model prog w) A env E e s') s₂) E s := by
  refine wpAny_pyIter_range hr (small_one (by omega) (by omega) (by omega) (by omega)) ?_
  refine loop_range2 (s := { s with heap := _ }) (E := E) (a := 0) (n := n) (R := fun r s' => match r with | .ok f => Q f s' | .error e => cameBackBy (model prog w) A env E e s') J hh ?_ (Nat.ne_of_gt F.ns.lt) (next_is_new F) (F.push _) (fun p hp => ⟨Heap.get?_push_of_some _ (N p hp).1, (N p hp).2⟩)
    (fun p hp => Nat.ne_of_lt (Heap.lt_size (N p hp).1)) h0 (fun v s' Q' i st hQ' => wpAny_passesOwn hE (go _ v s' Q' i st hQ'))
    (fun i t m₁ news₁ h₁ tk₁ oI a b c f d e => ?_) done
  · show IsRangeIter _ _ _ _ _
    rw [rangeSize_nat]
    simpa using Heap.get?_push_size _ rfl
  · rw [Int.zero_add]
    exact wpAny_mono (turn _ i t m₁ news₁ h₁ tk₁ oI (fun p hp => Heap.lt_size (N p hp).1) a b c f d e) (fun _ _ x => wpAny_passesOwn hE x) hE
end
end
section
theorem lines_B2_1 : True := by
  k_with_none
  k_with "k_all" => with_reducible assumption
  k_with "ne_mem" => with_reducible first | exact List.mem_cons_self | (refine List.mem_cons_of_mem _ ?_; k_extra "ne_mem") | (refine List.mem_append_right _ ?_; k_extra "ne_mem")
  k_with "ne_bef" => with_reducible first | (refine Bef.head ?_; k_extra "ne_mem") | (refine Bef.tail ?_; k_extra "ne_bef")
  k_with "lt_ap" => (with_reducible rename Apart _ => kqA; first | (with_reducible exact Apart.bef kqA (by k_extra "ne_bef")) | (clear kqA; k_extra "lt_ap"))
  k_with "lt_go" => first | (with_reducible assumption) | (with_reducible exact AllLt.get (by assumption) (by k_extra "ne_mem")) | k_extra "lt_ap" | ((with_reducible refine Nat.lt_trans ?kq1 ?kq2); (case kq2 => with_reducible assumption); (case kq1 => k_extra "lt_go")) | ((with_reducible refine Nat.lt_trans ?kq1 ?kq2); (case kq1 => with_reducible assumption); (case kq2 => k_extra "lt_ap"))
  k_with "ne_lt" => with_reducible first | exact Nat.ne_of_lt (AllLt.get (by assumption) (by k_extra "ne_mem")) | exact Nat.ne_of_gt (AllLt.get (by assumption) (by k_extra "ne_mem"))
  k_with "ne_ap" => (with_reducible rename Apart _ => kqA; first | (with_reducible exact Nat.ne_of_lt (Apart.bef kqA (by k_extra "ne_bef"))) | (with_reducible exact Nat.ne_of_gt (Apart.bef kqA (by k_extra "ne_bef"))) | (clear kqA; k_extra "ne_ap"))
  k_with "k_ne" => (refine neN ?_; (try dsimp only); first | (with_reducible assumption) | (with_reducible exact Ne.symm (by assumption)) | (with_reducible exact Nat.ne_of_lt (by assumption)) | (with_reducible exact Nat.ne_of_gt (by assumption)) | k_extra "ne_lt" | k_extra "ne_ap" | omega | ((try simp only [AllLt] at *); omega))
  k_with "ne_all" => first | (with_reducible assumption) | (refine And.intro ?_ ?_ <;> k_extra "ne_all") | k_ne
  k_with "mem_hq" => first | exact hq | exact List.mem_append_left _ hq | (refine List.mem_cons_of_mem _ ?_; k_extra "mem_hq")
  k_with "perm" => first | (refine List.forall_mem_cons.mpr (And.intro ?kqa ?kqb); (case kqa => k_extra "ne_mem"); (case kqb => k_extra "perm")) | exact List.forall_mem_nil _ | (intro q hq; k_extra "mem_hq")
  k_with "ord" => first | (with_reducible assumption) | ((with_reducible show @LT.lt Nat _ _ _); k_extra "lt_go") | k_ne | omega | ((try simp only [AllLt] at *); omega)
  k_with "tb_start" => first | exact Pick.head | (apply Pick.tail; tb_start)
  k_with "tb_rel" => first | exact Suff.refl | (refine' Suff.tail ?_; tb_rel)
  k_with "ktr_rel" => first | exact Picks.nil | (refine' Picks.cons ?kqp ?kqq; (case kqp => tb_start); (case kqq => ktr_rel))
  k_with "ktr_unf" => exact ⟨by k_asm, by k_asm, by k_asm, by k_asm, by first | exact rfl | assumption⟩
  k_with "subscriptTail Attribute Name Slice" => (k_here; k_dflt (refine kba_turn (value' := PySem.Expr.Name (PySem.Str.ofString "_") ⟨0, 0, 0, 0⟩) (fun _ => rfl) ?_))
  k_with "subscriptTail Name Slice ref ref" => (k_here; (with_reducible show wpAny _ _ (subscriptTail _ (PySem.Expr.Slice (some _) (some _) none _) (Value.ref _) (Value.ref _)) _ _ _); k_dflt (refine' my_slice ?kqF ?kqN ?kql ?kqi ?kqx ?kqy ?kqz ?_ ?kqs ?kqt; (case kqF => k_asm); (case kqN => k_asm); (case kql => k_mem); (case kqi => k_asm); (case kqx => first | (with_reducible assumption) | omega | ((try simp only [AllLt] at *); omega)); (case kqy => first | (with_reducible assumption) | omega | ((try simp only [AllLt] at *); omega)); (case kqz => first | (with_reducible assumption) | omega | ((try simp only [AllLt] at *); omega)); (case kqs => with_unfolding_all rfl); (case kqt => kmk_pure); k_whole); intro D' ws' h' zs' F' N' l1 hI' hZ' hL'; (try (replace hL' := slice_len hL' (by first | (with_reducible assumption) | omega) (by first | (with_reducible assumption) | omega) (by first | (with_reducible assumption) | omega))); (try k_lt l1); (try k_sweep))
  k_with "setItem ref ref ref" => (k_here; k_dflt (refine' my_setslice ?kqF ?kqN ?kql ?kqU ?kqi ?kqw ?kqx ?kqy ?kqz ?kqzz ?_; (case kqF => k_asm); (case kqN => k_asm); (case kql => k_mem); (case kqU => k_updF); (case kqi => k_asm); (case kqw => k_asm); (case kqx => first | (with_reducible assumption) | omega | ((try simp only [AllLt] at *); omega)); (case kqy => first | (with_reducible assumption) | omega | ((try simp only [AllLt] at *); omega)); (case kqz => first | (with_reducible assumption) | omega | ((try simp only [AllLt] at *); omega)); (case kqzz => first | (with_reducible assumption) | omega | ((try simp only [AllLt] at *); omega)); k_whole); intro vs' n2' h' ns' F' N' hI' hZ' hL'; (try dsimp only at N'); (try k_sweep))
  k_with "call builtin:len" => (k_here; (with_reducible show wpAny _ _ (call (Value.builtin "len") [Value.ref _]) _ _ _); k_dflt (refine' my_len ?kqN ?kql ?kqi ?kqz ?_; (case kqN => k_asm); (case kql => k_mem); (case kqi => k_asm); (case kqz => first | (with_reducible assumption) | omega | ((try simp only [AllLt] at *); omega)); k_whole))
  k_with "pyIter ref" => (k_here; k_dflt (first | (refine' iter_empty ?kqh ?kqF ?kqN ?kqm ?_; (case kqh => exact rfl); (case kqF => k_asm); (case kqN => k_asm); (case kqm => k_mem)) | (refine' iter_empty2 ?kqh ?kqF ?kqN ?kqm ?kqi ?kqz ?_; (case kqh => exact rfl); (case kqF => k_asm); (case kqN => k_asm); (case kqm => k_mem); (case kqi => k_asm); (case kqz => k_asm))); intro h' tk' F' N'; (try dsimp only); (try k_sweep))
  k_with "call ref" => (k_here; (with_reducible show wpAny _ _ (call (Value.ref 380) _) _ _ _); k_dflt (refine' around_le (ginsert_spec ?kqC ?kqN ?kqP ?kqe1 ?kqe2 ?kqe3 ?kqe4 ?kqe5 ?kqr1 ?kqr2 ?kqi ?kqw ?kql ?kqh0 ?kqh1 ?kqh2 ?kqh3 ?kqh4 ?kqh5 ?kqhr ?_) ?kqd ?kqu; (case kqC => ktr_unf); (case kqN => k_asm); (case kqP => ktr_rel); (case kqe1 => first | k_extra "ne_all" | omega); (case kqe2 => first | k_extra "ne_all" | omega); (case kqe3 => first | k_extra "ne_all" | omega); (case kqe4 => first | k_extra "ne_all" | omega); (case kqe5 => first | k_extra "ne_all" | omega); (case kqr1 => k_all); (case kqr2 => k_all); (case kqi => k_asm); (case kqw => k_asm); (case kql => first | (with_reducible assumption) | omega | ((try simp only [AllLt] at *); omega)); (case kqh0 => first | (with_reducible assumption) | omega | ((try simp only [AllLt] at *); omega)); (case kqh1 => first | (with_reducible assumption) | omega | ((try simp only [AllLt] at *); omega)); (case kqh2 => first | (with_reducible assumption) | omega | ((try simp only [AllLt] at *); omega)); (case kqh3 => first | (with_reducible assumption) | omega | ((try simp only [AllLt] at *); omega)); (case kqh4 => first | (with_reducible assumption) | omega | ((try simp only [AllLt] at *); omega)); (case kqh5 => first | (with_reducible assumption) | omega | ((try simp only [AllLt] at *); omega)); (case kqhr => k_asm);  (case kqd => exact Nat.le_of_ble_eq_true rfl); (case kqu => exact Nat.le_of_ble_eq_true rfl)); intro vs' ns' n2' gs' t3' ge' t4' h' tk' F' N' hI' hL' hG0' hG1' hG2' hG3' hT'; (try simp only [List.cons_append, List.nil_append] at N'); (try dsimp only); (try k_sweep); (try k_fold))
  k_with "call ref" => (k_here; (with_reducible show wpAny _ _ (call (Value.ref 387) _) _ _ _); k_dflt (refine' around_le (gdelete_spec ?kqC ?kqN ?kqP ?kqe1 ?kqe2 ?kqe3 ?kqr1 ?kqr2 ?kqi ?kql ?kqh0 ?kqh1 ?kqh2 ?kqh3 ?kqh4 ?kqh5 ?_) ?kqd ?kqu; (case kqC => ktr_unf); (case kqN => k_asm); (case kqP => ktr_rel); (case kqe1 => first | k_extra "ne_all" | omega); (case kqe2 => first | k_extra "ne_all" | omega); (case kqe3 => first | k_extra "ne_all" | omega); (case kqr1 => k_all); (case kqr2 => k_all); (case kqi => k_asm); (case kql => first | (with_reducible assumption) | omega | ((try simp only [AllLt] at *); omega)); (case kqh0 => first | (with_reducible assumption) | omega | ((try simp only [AllLt] at *); omega)); (case kqh1 => first | (with_reducible assumption) | omega | ((try simp only [AllLt] at *); omega)); (case kqh2 => first | (with_reducible assumption) | omega | ((try simp only [AllLt] at *); omega)); (case kqh3 => first | (with_reducible assumption) | omega | ((try simp only [AllLt] at *); omega)); (case kqh4 => first | (with_reducible assumption) | omega | ((try simp only [AllLt] at *); omega)); (case kqh5 => first | (with_reducible assumption) | omega | ((try simp only [AllLt] at *); omega));  (case kqd => exact Nat.le_of_ble_eq_true rfl); (case kqu => exact Nat.le_of_ble_eq_true rfl)); intro D' ws' nd' vs' ns' n2' gs' t3' ge' t4' h' tk' F' N' l1 hI' hL' hG0' hG1' hG2' hG3' hT'; (try k_lt l1); (try simp only [List.cons_append, List.nil_append] at N'); (try dsimp only); (try k_sweep); (try k_fold))
  trivial
def tout_spec_H (b : Addr) (db : Addr) (g : Addr) (mk : Addr) (ls : Addr) (K : BKeys) (pt : Int) (zv : Int) (tk : Int) (ck : Int) (sk : Int) (p1 : Tok) (z1 : Tok) (t1 : Tok) (c1 : Tok) (s1 : Tok) (dg : Addr) (c : Addr) (vs : List Value) (ns : List Int) (n2 : Nat) (G : GKeys) (gs : Int) (ge : Int) (t3 : Tok) (t4 : Tok) (ro : Bool) (news : List (Addr × Obj)) (rest : List (Addr × Obj)) (i : Int) (j : Int) (ti : Tok) (tj : Tok) (prog : Program) (w : World) (p : Program) (loose : List Str) (mean : ExcName → Option Value) (mg : Str → Option Value) (mb : Str → Option Value) (cn : Str) (cs : Scope) (a : Addr) (ccd : Value) (cl : List (Str × Addr)) (outer : List Env) (A₀ : Around) (base : Heap) (h₀ : Heap) (L : Addr) (m : Str → Option Value) (s : Shared) (Q : Value → Shared → Prop) (E : Value → Shared → Prop) (zR : Prop) : Prop := ∀ (C : Cx w p loose mean mg mb A₀ base outer h₀ L s.heap m cs) (N : News h₀ L s.heap news) (P : Picks [(b, instObj 622 db), (db, bufD K g mk ls pt p1 zv z1 ro tk t1 ck c1 sk s1), (g, instObj 411 dg), (dg, gapD G c gs t3 ge t4), (c, listOf (List.toArray vs) n2)] news rest) (ap : Apart [db, b, dg, g, c]) (r1 : ∀ q ∈ rest, q.1 ≠ c) (r2 : ∀ q ∈ rest, q.1 ≠ dg) (r3 : ∀ q ∈ rest, q.1 ≠ db) (hi : IntsAre vs ns) (hlen : ns.length ≤ 4000) (h0 : 0 ≤ gs) (h1 : gs ≤ ge) (h2 : ge ≤ ns.length) (hz : zv = ns.length - ge + gs + 1) (h3 : 1 ≤ i) (h4 : i ≤ j) (h5 : j ≤ zv) (ret : ∀ D ws nd vs' ns' n2' gs' t3' ge' t4' pt' p1' z1' h' tk', Fr h₀ L h' m → News h₀ L h' ([(D, listOf (List.toArray ws) nd), (b, instObj 622 db), (db, bufD K g mk ls pt' p1' (zv - (j - i)) z1' ro tk t1 ck c1 sk s1), (g, instObj 411 dg), (dg, gapD G c gs' t3' ge' t4'), (c, listOf (List.toArray vs') n2')] ++ rest) → (∀ q ∈ news, q.1 < D) → IntsAre vs' ns' → ns'.length = ns.length → 0 ≤ gs' → gs' ≤ ge' → ge' ≤ ns'.length → zv - (j - i) = ns'.length - ge' + gs' + 1 → gtext ns' gs' ge' = (gtext ns gs ge).take (i - 1).toNat ++ (gtext ns gs ge).drop (j - 1).toNat → Q (.ref D) { s with heap := h', toks := tk' }), zR
set_option maxRecDepth 100000 in
set_option maxHeartbeats 8000000 in
noncomputable def tout_spec_k (b : Addr) (db : Addr) (g : Addr) (mk : Addr) (ls : Addr) (K : BKeys) (pt : Int) (zv : Int) (tk : Int) (ck : Int) (sk : Int) (p1 : Tok) (z1 : Tok) (t1 : Tok) (c1 : Tok) (s1 : Tok) (dg : Addr) (c : Addr) (vs : List Value) (ns : List Int) (n2 : Nat) (G : GKeys) (gs : Int) (ge : Int) (t3 : Tok) (t4 : Tok) (ro : Bool) (news : List (Addr × Obj)) (rest : List (Addr × Obj)) (i : Int) (j : Int) (ti : Tok) (tj : Tok) (prog : Program) (w : World) (p : Program) (loose : List Str) (mean : ExcName → Option Value) (mg : Str → Option Value) (mb : Str → Option Value) (cn : Str) (cs : Scope) (a : Addr) (ccd : Value) (cl : List (Str × Addr)) (outer : List Env) (A₀ : Around) (base : Heap) (h₀ : Heap) (L : Addr) (m : Str → Option Value) (s : Shared) (Q : Value → Shared → Prop) (E : Value → Shared → Prop) : PSigma (fun zP : Heap → Addr → Heap → Prop => (∀ zq1 zq2 zq3, tout_spec_H b db g mk ls K pt zv tk ck sk p1 z1 t1 c1 s1 dg c vs ns n2 G gs ge t3 t4 ro news rest i j ti tj prog w p loose mean mg mb cn cs a ccd cl outer A₀ base h₀ L m s Q E (zP zq1 zq2 zq3)) → tout_spec_H b db g mk ls K pt zv tk ck sk p1 z1 t1 c1 s1 dg c vs ns n2 G gs ge t3 t4 ro news rest i j ti tj prog w p loose mean mg mb cn cs a ccd cl outer A₀ base h₀ L m s Q E (wpAny (model prog w) (ktrTop 930 9300 none cn cs L a ccd cl outer) (call (.ref 76) [.ref b, .int i ti, .int j tj]) Q E s)) := by
  refine ⟨?zG, fun zH C N P ap r1 r2 r3 hi hlen h0 h1 h2 hz h3 h4 h5 ret => ?zh⟩
  case zh =>
    have zc := fun zq1 zq2 zq3 => zH zq1 zq2 zq3 C N P ap r1 r2 r3 hi hlen h0 h1 h2 hz h3 h4 h5 ret
    clear zH
    obtain ⟨B, F, X, T, hk⟩ := C
    replace N := news_picks N P
    simp only [List.cons_append, List.nil_append] at N
    refine wpAny_call ?_
    k_dflt cell_enter
    rename_i g9 L9 h9 FG9 F9 N9 B9 X9 T9
    revert FG9 F9 N9 B9 X9 T9
    exact zc g9 L9 h9
abbrev tout_spec_P : Type := ((((((Heap × Addr) × (Heap × Addr)) × ((Addr × Addr) × (Addr × Addr))) × (((BKeys × Int) × (Int × Int)) × ((Int × Int) × Tok))) × ((((Tok × Tok) × (Tok × Tok)) × ((Addr × Addr) × (List Value))) × ((((List Int) × Nat) × (GKeys × Int)) × ((Int × Tok) × Tok)))) × (((((Bool × (List (Addr × Obj))) × ((List (Addr × Obj)) × Int)) × ((Int × Tok) × Tok)) × (((Program × World) × (Program × (List Str))) × (((ExcName → Option Value) × (Str → Option Value)) × (Str → Option Value)))) × ((((Str × Scope) × (Addr × Value)) × (((List (Str × Addr)) × (List Env)) × Around)) × (((Heap × Heap) × (Addr × (Str → Option Value))) × ((Shared × (Value → Shared → Prop)) × (Value → Shared → Prop))))))
abbrev tout_spec_F (x : tout_spec_P) : Prop := tout_spec_H (x.1.1.1.1.2.2) (x.1.1.1.2.1.1) (x.1.1.1.2.1.2) (x.1.1.1.2.2.1) (x.1.1.1.2.2.2) (x.1.1.2.1.1.1) (x.1.1.2.1.1.2) (x.1.1.2.1.2.1) (x.1.1.2.1.2.2) (x.1.1.2.2.1.1) (x.1.1.2.2.1.2) (x.1.1.2.2.2) (x.1.2.1.1.1.1) (x.1.2.1.1.1.2) (x.1.2.1.1.2.1) (x.1.2.1.1.2.2) (x.1.2.1.2.1.1) (x.1.2.1.2.1.2) (x.1.2.1.2.2) (x.1.2.2.1.1.1) (x.1.2.2.1.1.2) (x.1.2.2.1.2.1) (x.1.2.2.1.2.2) (x.1.2.2.2.1.1) (x.1.2.2.2.1.2) (x.1.2.2.2.2) (x.2.1.1.1.1.1) (x.2.1.1.1.1.2) (x.2.1.1.1.2.1) (x.2.1.1.1.2.2) (x.2.1.1.2.1.1) (x.2.1.1.2.1.2) (x.2.1.1.2.2) (x.2.1.2.1.1.1) (x.2.1.2.1.1.2) (x.2.1.2.1.2.1) (x.2.1.2.1.2.2) (x.2.1.2.2.1.1) (x.2.1.2.2.1.2) (x.2.1.2.2.2) (x.2.2.1.1.1.1) (x.2.2.1.1.1.2) (x.2.2.1.1.2.1) (x.2.2.1.1.2.2) (x.2.2.1.2.1.1) (x.2.2.1.2.1.2) (x.2.2.1.2.2) (x.2.2.2.1.1.1) (x.2.2.2.1.1.2) (x.2.2.2.1.2.1) (x.2.2.2.1.2.2) (x.2.2.2.2.1.1) (x.2.2.2.2.1.2) (x.2.2.2.2.2)  ((tout_spec_k (x.1.1.1.1.2.2) (x.1.1.1.2.1.1) (x.1.1.1.2.1.2) (x.1.1.1.2.2.1) (x.1.1.1.2.2.2) (x.1.1.2.1.1.1) (x.1.1.2.1.1.2) (x.1.1.2.1.2.1) (x.1.1.2.1.2.2) (x.1.1.2.2.1.1) (x.1.1.2.2.1.2) (x.1.1.2.2.2) (x.1.2.1.1.1.1) (x.1.2.1.1.1.2) (x.1.2.1.1.2.1) (x.1.2.1.1.2.2) (x.1.2.1.2.1.1) (x.1.2.1.2.1.2) (x.1.2.1.2.2) (x.1.2.2.1.1.1) (x.1.2.2.1.1.2) (x.1.2.2.1.2.1) (x.1.2.2.1.2.2) (x.1.2.2.2.1.1) (x.1.2.2.2.1.2) (x.1.2.2.2.2) (x.2.1.1.1.1.1) (x.2.1.1.1.1.2) (x.2.1.1.1.2.1) (x.2.1.1.1.2.2) (x.2.1.1.2.1.1) (x.2.1.1.2.1.2) (x.2.1.1.2.2) (x.2.1.2.1.1.1) (x.2.1.2.1.1.2) (x.2.1.2.1.2.1) (x.2.1.2.1.2.2) (x.2.1.2.2.1.1) (x.2.1.2.2.1.2) (x.2.1.2.2.2) (x.2.2.1.1.1.1) (x.2.2.1.1.1.2) (x.2.2.1.1.2.1) (x.2.2.1.1.2.2) (x.2.2.1.2.1.1) (x.2.2.1.2.1.2) (x.2.2.1.2.2) (x.2.2.2.1.1.1) (x.2.2.2.1.1.2) (x.2.2.2.1.2.1) (x.2.2.2.1.2.2) (x.2.2.2.2.1.1) (x.2.2.2.2.1.2) (x.2.2.2.2.2) ).1 (x.1.1.1.1.1.1) (x.1.1.1.1.1.2) (x.1.1.1.1.2.1))
theorem tout_spec_ex : ∃ x : tout_spec_P, tout_spec_F x → ∀ y : tout_spec_P, tout_spec_F y := drinker ⟨((((((default, (0 : Nat)), (default, (0 : Nat))), (((0 : Nat), (0 : Nat)), ((0 : Nat), (0 : Nat)))), (((bkeys0, 0), (0, 0)), ((0, 0), (0 : Nat)))), (((((0 : Nat), (0 : Nat)), ((0 : Nat), (0 : Nat))), (((0 : Nat), (0 : Nat)), [])), ((([], 0), (gkeys0, 0)), ((0, (0 : Nat)), (0 : Nat))))), (((((false, []), ([], 0)), ((0, (0 : Nat)), (0 : Nat))), (((default, world0), (default, [])), ((fun _ => none, fun _ => none), fun _ => none))), ((((default, default), ((0 : Nat), .none)), (([], []), {})), (((default, default), ((0 : Nat), fun _ => none)), (({}, fun _ _ => True), fun _ _ => True)))))⟩
noncomputable def tout_spec_x : tout_spec_P := tout_spec_ex.choose
namespace tout_spec_n
noncomputable def g9 : Heap := tout_spec_x.1.1.1.1.1.1
noncomputable def L9 : Addr := tout_spec_x.1.1.1.1.1.2
noncomputable def h9 : Heap := tout_spec_x.1.1.1.1.2.1
noncomputable def b : Addr := tout_spec_x.1.1.1.1.2.2
noncomputable def db : Addr := tout_spec_x.1.1.1.2.1.1
noncomputable def g : Addr := tout_spec_x.1.1.1.2.1.2
noncomputable def mk : Addr := tout_spec_x.1.1.1.2.2.1
noncomputable def ls : Addr := tout_spec_x.1.1.1.2.2.2
noncomputable def K : BKeys := tout_spec_x.1.1.2.1.1.1
noncomputable def pt : Int := tout_spec_x.1.1.2.1.1.2
noncomputable def zv : Int := tout_spec_x.1.1.2.1.2.1
noncomputable def tk : Int := tout_spec_x.1.1.2.1.2.2
noncomputable def ck : Int := tout_spec_x.1.1.2.2.1.1
noncomputable def sk : Int := tout_spec_x.1.1.2.2.1.2
noncomputable def p1 : Tok := tout_spec_x.1.1.2.2.2
noncomputable def z1 : Tok := tout_spec_x.1.2.1.1.1.1
noncomputable def t1 : Tok := tout_spec_x.1.2.1.1.1.2
noncomputable def c1 : Tok := tout_spec_x.1.2.1.1.2.1
noncomputable def s1 : Tok := tout_spec_x.1.2.1.1.2.2
noncomputable def dg : Addr := tout_spec_x.1.2.1.2.1.1
noncomputable def c : Addr := tout_spec_x.1.2.1.2.1.2
noncomputable def vs : List Value := tout_spec_x.1.2.1.2.2
noncomputable def ns : List Int := tout_spec_x.1.2.2.1.1.1
noncomputable def n2 : Nat := tout_spec_x.1.2.2.1.1.2
noncomputable def G : GKeys := tout_spec_x.1.2.2.1.2.1
noncomputable def gs : Int := tout_spec_x.1.2.2.1.2.2
noncomputable def ge : Int := tout_spec_x.1.2.2.2.1.1
noncomputable def t3 : Tok := tout_spec_x.1.2.2.2.1.2
noncomputable def t4 : Tok := tout_spec_x.1.2.2.2.2
noncomputable def ro : Bool := tout_spec_x.2.1.1.1.1.1
noncomputable def news : List (Addr × Obj) := tout_spec_x.2.1.1.1.1.2
noncomputable def rest : List (Addr × Obj) := tout_spec_x.2.1.1.1.2.1
noncomputable def i : Int := tout_spec_x.2.1.1.1.2.2
noncomputable def j : Int := tout_spec_x.2.1.1.2.1.1
noncomputable def ti : Tok := tout_spec_x.2.1.1.2.1.2
noncomputable def tj : Tok := tout_spec_x.2.1.1.2.2
noncomputable def prog : Program := tout_spec_x.2.1.2.1.1.1
noncomputable def w : World := tout_spec_x.2.1.2.1.1.2
noncomputable def p : Program := tout_spec_x.2.1.2.1.2.1
noncomputable def loose : List Str := tout_spec_x.2.1.2.1.2.2
noncomputable def mean : ExcName → Option Value := tout_spec_x.2.1.2.2.1.1
noncomputable def mg : Str → Option Value := tout_spec_x.2.1.2.2.1.2
noncomputable def mb : Str → Option Value := tout_spec_x.2.1.2.2.2
noncomputable def cn : Str := tout_spec_x.2.2.1.1.1.1
noncomputable def cs : Scope := tout_spec_x.2.2.1.1.1.2
noncomputable def a : Addr := tout_spec_x.2.2.1.1.2.1
noncomputable def ccd : Value := tout_spec_x.2.2.1.1.2.2
noncomputable def cl : List (Str × Addr) := tout_spec_x.2.2.1.2.1.1
noncomputable def outer : List Env := tout_spec_x.2.2.1.2.1.2
noncomputable def A₀ : Around := tout_spec_x.2.2.1.2.2
noncomputable def base : Heap := tout_spec_x.2.2.2.1.1.1
noncomputable def h₀ : Heap := tout_spec_x.2.2.2.1.1.2
noncomputable def L : Addr := tout_spec_x.2.2.2.1.2.1
noncomputable def m : Str → Option Value := tout_spec_x.2.2.2.1.2.2
noncomputable def s : Shared := tout_spec_x.2.2.2.2.1.1
noncomputable def Q : Value → Shared → Prop := tout_spec_x.2.2.2.2.1.2
noncomputable def E : Value → Shared → Prop := tout_spec_x.2.2.2.2.2
set_option maxRecDepth 100000 in
set_option maxHeartbeats 8000000 in
theorem main  : tout_spec_H b db g mk ls K pt zv tk ck sk p1 z1 t1 c1 s1 dg c vs ns n2 G gs ge t3 t4 ro news rest i j ti tj prog w p loose mean mg mb cn cs a ccd cl outer A₀ base h₀ L m s Q E ((tout_spec_k b db g mk ls K pt zv tk ck sk p1 z1 t1 c1 s1 dg c vs ns n2 G gs ge t3 t4 ro news rest i j ti tj prog w p loose mean mg mb cn cs a ccd cl outer A₀ base h₀ L m s Q E).1 g9 L9 h9) := by
  intro C N P ap r1 r2 r3 hi hlen h0 h1 h2 hz h3 h4 h5 ret
  obtain ⟨B, F, X, T, hk⟩ := C
  have ap1 := ap
  simp only [Apart, and_true] at ap1
  have hgl := gtext_length h0 h1 h2
  replace N := news_picks N P
  simp only [List.cons_append, List.nil_append] at N
  delta tout_spec_k
  dsimp only
  intro _ _ _ _ _ _
  k_steps
  all_goals exact ret _ _ _ _ _ _ _ _ _ _ _ _ _ _ _ (by k_asm) (news_back (by k_asm) (by ktr_rel) (by tb_rel)) (P.lt (by simp only [List.cons_append, List.nil_append, AllLt]; simp [*])) (by assumption) (by k_extra "ord") (by k_extra "ord") (by k_extra "ord") (by k_extra "ord") (by k_extra "ord") (by assumption)
end tout_spec_n
theorem tout_spec {prog : Program} {w : World} {p : Program} {loose : List Str} {mean : ExcName → Option Value} {mg : Str → Option Value} {mb : Str → Option Value} {cn : Str} {cs : Scope} {a : Addr} {ccd : Value} {cl : List (Str × Addr)} {outer : List Env} {A₀ : Around} {base : Heap} {h₀ : Heap} {L : Addr} {m : Str → Option Value} {s : Shared} {Q : Value → Shared → Prop} {E : Value → Shared → Prop} {b : Addr} {db : Addr} {g : Addr} {mk : Addr} {ls : Addr} {K : BKeys} {pt : Int} {zv : Int} {tk : Int} {ck : Int} {sk : Int} {p1 : Tok} {z1 : Tok} {t1 : Tok} {c1 : Tok} {s1 : Tok} {dg : Addr} {c : Addr} {vs : List Value} {ns : List Int} {n2 : Nat} {G : GKeys} {gs : Int} {ge : Int} {t3 : Tok} {t4 : Tok} {ro : Bool} {news : List (Addr × Obj)} {rest : List (Addr × Obj)} {i : Int} {j : Int} {ti : Tok} {tj : Tok} : tout_spec_H b db g mk ls K pt zv tk ck sk p1 z1 t1 c1 s1 dg c vs ns n2 G gs ge t3 t4 ro news rest i j ti tj prog w p loose mean mg mb cn cs a ccd cl outer A₀ base h₀ L m s Q E (wpAny (model prog w) (ktrTop 930 9300 none cn cs L a ccd cl outer) (call (.ref 76) [.ref b, .int i ti, .int j tj]) Q E s) := (tout_spec_k b db g mk ls K pt zv tk ck sk p1 z1 t1 c1 s1 dg c vs ns n2 G gs ge t3 t4 ro news rest i j ti tj prog w p loose mean mg mb cn cs a ccd cl outer A₀ base h₀ L m s Q E).2 (fun g9 L9 h9 => tout_spec_ex.choose_spec (tout_spec_n.main ) ((((((g9, L9), (h9, b)), ((db, g), (mk, ls))), (((K, pt), (zv, tk)), ((ck, sk), p1))), ((((z1, t1), (c1, s1)), ((dg, c), vs)), (((ns, n2), (G, gs)), ((ge, t3), t4)))), (((((ro, news), (rest, i)), ((j, ti), tj)), (((prog, w), (p, loose)), ((mean, mg), mb))), ((((cn, cs), (a, ccd)), ((cl, outer), A₀)), (((base, h₀), (L, m)), ((s, Q), E))))) )
def tin_spec_H (b : Addr) (db : Addr) (g : Addr) (mk : Addr) (ls : Addr) (K : BKeys) (pt : Int) (zv : Int) (tk : Int) (ck : Int) (sk : Int) (p1 : Tok) (z1 : Tok) (t1 : Tok) (c1 : Tok) (s1 : Tok) (dg : Addr) (c : Addr) (vs : List Value) (ns : List Int) (n2 : Nat) (G : GKeys) (gs : Int) (ge : Int) (t3 : Tok) (t4 : Tok) (l : Addr) (ws : List Value) (zs : List Int) (nl2 : Nat) (ro : Bool) (news : List (Addr × Obj)) (rest : List (Addr × Obj)) (i : Int) (ti : Tok) (prog : Program) (w : World) (p : Program) (loose : List Str) (mean : ExcName → Option Value) (mg : Str → Option Value) (mb : Str → Option Value) (cn : Str) (cs : Scope) (a : Addr) (ccd : Value) (cl : List (Str × Addr)) (outer : List Env) (A₀ : Around) (base : Heap) (h₀ : Heap) (L : Addr) (m : Str → Option Value) (s : Shared) (Q : Value → Shared → Prop) (E : Value → Shared → Prop) (zR : Prop) : Prop := ∀ (C : Cx w p loose mean mg mb A₀ base outer h₀ L s.heap m cs) (N : News h₀ L s.heap news) (P : Picks [(b, instObj 622 db), (db, bufD K g mk ls pt p1 zv z1 ro tk t1 ck c1 sk s1), (g, instObj 411 dg), (dg, gapD G c gs t3 ge t4), (c, listOf (List.toArray vs) n2), (l, listOf ws.toArray nl2)] news rest) (ap : Apart [db, b, dg, g, c]) (e4 : @Ne Nat l c) (e5 : @Ne Nat l dg) (e6 : @Ne Nat l db) (r1 : ∀ q ∈ rest, q.1 ≠ c) (r2 : ∀ q ∈ rest, q.1 ≠ dg) (r3 : ∀ q ∈ rest, q.1 ≠ db) (hi : IntsAre vs ns) (hw : IntsAre ws zs) (hlen : ns.length ≤ 4000) (h0 : 0 ≤ gs) (h1 : gs ≤ ge) (h2 : ge ≤ ns.length) (hz : zv = ns.length - ge + gs + 1) (h3 : 1 ≤ i) (h4 : i ≤ zv) (h5 : zs.length ≤ 100) (hr : G.room = 8) (ret : ∀ vs' ns' n2' gs' t3' ge' t4' pt' p1' z1' h' tk', Fr h₀ L h' m → News h₀ L h' ([(b, instObj 622 db), (db, bufD K g mk ls pt' p1' (zv + zs.length) z1' ro tk t1 ck c1 sk s1), (g, instObj 411 dg), (dg, gapD G c gs' t3' ge' t4'), (c, listOf (List.toArray vs') n2'), (l, listOf ws.toArray nl2)] ++ rest) → IntsAre vs' ns' → ns'.length ≤ ns.length + zs.length + 8 → 0 ≤ gs' → gs' ≤ ge' → ge' ≤ ns'.length → zv + zs.length = ns'.length - ge' + gs' + 1 → gtext ns' gs' ge' = (gtext ns gs ge).take (i - 1).toNat ++ zs ++ (gtext ns gs ge).drop (i - 1).toNat → Q .none { s with heap := h', toks := tk' }), zR
set_option maxRecDepth 100000 in
set_option maxHeartbeats 8000000 in
noncomputable def tin_spec_k (b : Addr) (db : Addr) (g : Addr) (mk : Addr) (ls : Addr) (K : BKeys) (pt : Int) (zv : Int) (tk : Int) (ck : Int) (sk : Int) (p1 : Tok) (z1 : Tok) (t1 : Tok) (c1 : Tok) (s1 : Tok) (dg : Addr) (c : Addr) (vs : List Value) (ns : List Int) (n2 : Nat) (G : GKeys) (gs : Int) (ge : Int) (t3 : Tok) (t4 : Tok) (l : Addr) (ws : List Value) (zs : List Int) (nl2 : Nat) (ro : Bool) (news : List (Addr × Obj)) (rest : List (Addr × Obj)) (i : Int) (ti : Tok) (prog : Program) (w : World) (p : Program) (loose : List Str) (mean : ExcName → Option Value) (mg : Str → Option Value) (mb : Str → Option Value) (cn : Str) (cs : Scope) (a : Addr) (ccd : Value) (cl : List (Str × Addr)) (outer : List Env) (A₀ : Around) (base : Heap) (h₀ : Heap) (L : Addr) (m : Str → Option Value) (s : Shared) (Q : Value → Shared → Prop) (E : Value → Shared → Prop) : PSigma (fun zP : Heap → Addr → Heap → Prop => (∀ zq1 zq2 zq3, tin_spec_H b db g mk ls K pt zv tk ck sk p1 z1 t1 c1 s1 dg c vs ns n2 G gs ge t3 t4 l ws zs nl2 ro news rest i ti prog w p loose mean mg mb cn cs a ccd cl outer A₀ base h₀ L m s Q E (zP zq1 zq2 zq3)) → tin_spec_H b db g mk ls K pt zv tk ck sk p1 z1 t1 c1 s1 dg c vs ns n2 G gs ge t3 t4 l ws zs nl2 ro news rest i ti prog w p loose mean mg mb cn cs a ccd cl outer A₀ base h₀ L m s Q E (wpAny (model prog w) (ktrTop 930 9300 none cn cs L a ccd cl outer) (call (.ref 83) [.ref b, .int i ti, .ref l]) Q E s)) := by
  refine ⟨?zG, fun zH C N P ap e4 e5 e6 r1 r2 r3 hi hw hlen h0 h1 h2 hz h3 h4 h5 hr ret => ?zh⟩
  case zh =>
    have zc := fun zq1 zq2 zq3 => zH zq1 zq2 zq3 C N P ap e4 e5 e6 r1 r2 r3 hi hw hlen h0 h1 h2 hz h3 h4 h5 hr ret
    clear zH
    obtain ⟨B, F, X, T, hk⟩ := C
    replace N := news_picks N P
    simp only [List.cons_append, List.nil_append] at N
    refine wpAny_call ?_
    k_dflt cell_enter
    rename_i g9 L9 h9 FG9 F9 N9 B9 X9 T9
    revert FG9 F9 N9 B9 X9 T9
    exact zc g9 L9 h9
abbrev tin_spec_P : Type := ((((((Heap × Addr) × (Heap × Addr)) × ((Addr × Addr) × (Addr × Addr))) × (((BKeys × Int) × (Int × Int)) × ((Int × Int) × Tok))) × ((((Tok × Tok) × (Tok × Tok)) × ((Addr × Addr) × ((List Value) × (List Int)))) × (((Nat × GKeys) × (Int × Int)) × ((Tok × Tok) × Addr)))) × ((((((List Value) × (List Int)) × (Nat × Bool)) × (((List (Addr × Obj)) × (List (Addr × Obj))) × (Int × Tok))) × (((Program × World) × (Program × (List Str))) × (((ExcName → Option Value) × (Str → Option Value)) × (Str → Option Value)))) × ((((Str × Scope) × (Addr × Value)) × (((List (Str × Addr)) × (List Env)) × Around)) × (((Heap × Heap) × (Addr × (Str → Option Value))) × ((Shared × (Value → Shared → Prop)) × (Value → Shared → Prop))))))
abbrev tin_spec_F (x : tin_spec_P) : Prop := tin_spec_H (x.1.1.1.1.2.2) (x.1.1.1.2.1.1) (x.1.1.1.2.1.2) (x.1.1.1.2.2.1) (x.1.1.1.2.2.2) (x.1.1.2.1.1.1) (x.1.1.2.1.1.2) (x.1.1.2.1.2.1) (x.1.1.2.1.2.2) (x.1.1.2.2.1.1) (x.1.1.2.2.1.2) (x.1.1.2.2.2) (x.1.2.1.1.1.1) (x.1.2.1.1.1.2) (x.1.2.1.1.2.1) (x.1.2.1.1.2.2) (x.1.2.1.2.1.1) (x.1.2.1.2.1.2) (x.1.2.1.2.2.1) (x.1.2.1.2.2.2) (x.1.2.2.1.1.1) (x.1.2.2.1.1.2) (x.1.2.2.1.2.1) (x.1.2.2.1.2.2) (x.1.2.2.2.1.1) (x.1.2.2.2.1.2) (x.1.2.2.2.2) (x.2.1.1.1.1.1) (x.2.1.1.1.1.2) (x.2.1.1.1.2.1) (x.2.1.1.1.2.2) (x.2.1.1.2.1.1) (x.2.1.1.2.1.2) (x.2.1.1.2.2.1) (x.2.1.1.2.2.2) (x.2.1.2.1.1.1) (x.2.1.2.1.1.2) (x.2.1.2.1.2.1) (x.2.1.2.1.2.2) (x.2.1.2.2.1.1) (x.2.1.2.2.1.2) (x.2.1.2.2.2) (x.2.2.1.1.1.1) (x.2.2.1.1.1.2) (x.2.2.1.1.2.1) (x.2.2.1.1.2.2) (x.2.2.1.2.1.1) (x.2.2.1.2.1.2) (x.2.2.1.2.2) (x.2.2.2.1.1.1) (x.2.2.2.1.1.2) (x.2.2.2.1.2.1) (x.2.2.2.1.2.2) (x.2.2.2.2.1.1) (x.2.2.2.2.1.2) (x.2.2.2.2.2)  ((tin_spec_k (x.1.1.1.1.2.2) (x.1.1.1.2.1.1) (x.1.1.1.2.1.2) (x.1.1.1.2.2.1) (x.1.1.1.2.2.2) (x.1.1.2.1.1.1) (x.1.1.2.1.1.2) (x.1.1.2.1.2.1) (x.1.1.2.1.2.2) (x.1.1.2.2.1.1) (x.1.1.2.2.1.2) (x.1.1.2.2.2) (x.1.2.1.1.1.1) (x.1.2.1.1.1.2) (x.1.2.1.1.2.1) (x.1.2.1.1.2.2) (x.1.2.1.2.1.1) (x.1.2.1.2.1.2) (x.1.2.1.2.2.1) (x.1.2.1.2.2.2) (x.1.2.2.1.1.1) (x.1.2.2.1.1.2) (x.1.2.2.1.2.1) (x.1.2.2.1.2.2) (x.1.2.2.2.1.1) (x.1.2.2.2.1.2) (x.1.2.2.2.2) (x.2.1.1.1.1.1) (x.2.1.1.1.1.2) (x.2.1.1.1.2.1) (x.2.1.1.1.2.2) (x.2.1.1.2.1.1) (x.2.1.1.2.1.2) (x.2.1.1.2.2.1) (x.2.1.1.2.2.2) (x.2.1.2.1.1.1) (x.2.1.2.1.1.2) (x.2.1.2.1.2.1) (x.2.1.2.1.2.2) (x.2.1.2.2.1.1) (x.2.1.2.2.1.2) (x.2.1.2.2.2) (x.2.2.1.1.1.1) (x.2.2.1.1.1.2) (x.2.2.1.1.2.1) (x.2.2.1.1.2.2) (x.2.2.1.2.1.1) (x.2.2.1.2.1.2) (x.2.2.1.2.2) (x.2.2.2.1.1.1) (x.2.2.2.1.1.2) (x.2.2.2.1.2.1) (x.2.2.2.1.2.2) (x.2.2.2.2.1.1) (x.2.2.2.2.1.2) (x.2.2.2.2.2) ).1 (x.1.1.1.1.1.1) (x.1.1.1.1.1.2) (x.1.1.1.1.2.1))
theorem tin_spec_ex : ∃ x : tin_spec_P, tin_spec_F x → ∀ y : tin_spec_P, tin_spec_F y := drinker ⟨((((((default, (0 : Nat)), (default, (0 : Nat))), (((0 : Nat), (0 : Nat)), ((0 : Nat), (0 : Nat)))), (((bkeys0, 0), (0, 0)), ((0, 0), (0 : Nat)))), (((((0 : Nat), (0 : Nat)), ((0 : Nat), (0 : Nat))), (((0 : Nat), (0 : Nat)), ([], []))), (((0, gkeys0), (0, 0)), (((0 : Nat), (0 : Nat)), (0 : Nat))))), ((((([], []), (0, false)), (([], []), (0, (0 : Nat)))), (((default, world0), (default, [])), ((fun _ => none, fun _ => none), fun _ => none))), ((((default, default), ((0 : Nat), .none)), (([], []), {})), (((default, default), ((0 : Nat), fun _ => none)), (({}, fun _ _ => True), fun _ _ => True)))))⟩
noncomputable def tin_spec_x : tin_spec_P := tin_spec_ex.choose
namespace tin_spec_n
noncomputable def g9 : Heap := tin_spec_x.1.1.1.1.1.1
noncomputable def L9 : Addr := tin_spec_x.1.1.1.1.1.2
noncomputable def h9 : Heap := tin_spec_x.1.1.1.1.2.1
noncomputable def b : Addr := tin_spec_x.1.1.1.1.2.2
noncomputable def db : Addr := tin_spec_x.1.1.1.2.1.1
noncomputable def g : Addr := tin_spec_x.1.1.1.2.1.2
noncomputable def mk : Addr := tin_spec_x.1.1.1.2.2.1
noncomputable def ls : Addr := tin_spec_x.1.1.1.2.2.2
noncomputable def K : BKeys := tin_spec_x.1.1.2.1.1.1
noncomputable def pt : Int := tin_spec_x.1.1.2.1.1.2
noncomputable def zv : Int := tin_spec_x.1.1.2.1.2.1
noncomputable def tk : Int := tin_spec_x.1.1.2.1.2.2
noncomputable def ck : Int := tin_spec_x.1.1.2.2.1.1
noncomputable def sk : Int := tin_spec_x.1.1.2.2.1.2
noncomputable def p1 : Tok := tin_spec_x.1.1.2.2.2
noncomputable def z1 : Tok := tin_spec_x.1.2.1.1.1.1
noncomputable def t1 : Tok := tin_spec_x.1.2.1.1.1.2
noncomputable def c1 : Tok := tin_spec_x.1.2.1.1.2.1
noncomputable def s1 : Tok := tin_spec_x.1.2.1.1.2.2
noncomputable def dg : Addr := tin_spec_x.1.2.1.2.1.1
noncomputable def c : Addr := tin_spec_x.1.2.1.2.1.2
noncomputable def vs : List Value := tin_spec_x.1.2.1.2.2.1
noncomputable def ns : List Int := tin_spec_x.1.2.1.2.2.2
noncomputable def n2 : Nat := tin_spec_x.1.2.2.1.1.1
noncomputable def G : GKeys := tin_spec_x.1.2.2.1.1.2
noncomputable def gs : Int := tin_spec_x.1.2.2.1.2.1
noncomputable def ge : Int := tin_spec_x.1.2.2.1.2.2
noncomputable def t3 : Tok := tin_spec_x.1.2.2.2.1.1
noncomputable def t4 : Tok := tin_spec_x.1.2.2.2.1.2
noncomputable def l : Addr := tin_spec_x.1.2.2.2.2
noncomputable def ws : List Value := tin_spec_x.2.1.1.1.1.1
noncomputable def zs : List Int := tin_spec_x.2.1.1.1.1.2
noncomputable def nl2 : Nat := tin_spec_x.2.1.1.1.2.1
noncomputable def ro : Bool := tin_spec_x.2.1.1.1.2.2
noncomputable def news : List (Addr × Obj) := tin_spec_x.2.1.1.2.1.1
noncomputable def rest : List (Addr × Obj) := tin_spec_x.2.1.1.2.1.2
noncomputable def i : Int := tin_spec_x.2.1.1.2.2.1
noncomputable def ti : Tok := tin_spec_x.2.1.1.2.2.2
noncomputable def prog : Program := tin_spec_x.2.1.2.1.1.1
noncomputable def w : World := tin_spec_x.2.1.2.1.1.2
noncomputable def p : Program := tin_spec_x.2.1.2.1.2.1
noncomputable def loose : List Str := tin_spec_x.2.1.2.1.2.2
noncomputable def mean : ExcName → Option Value := tin_spec_x.2.1.2.2.1.1
noncomputable def mg : Str → Option Value := tin_spec_x.2.1.2.2.1.2
noncomputable def mb : Str → Option Value := tin_spec_x.2.1.2.2.2
noncomputable def cn : Str := tin_spec_x.2.2.1.1.1.1
noncomputable def cs : Scope := tin_spec_x.2.2.1.1.1.2
noncomputable def a : Addr := tin_spec_x.2.2.1.1.2.1
noncomputable def ccd : Value := tin_spec_x.2.2.1.1.2.2
noncomputable def cl : List (Str × Addr) := tin_spec_x.2.2.1.2.1.1
noncomputable def outer : List Env := tin_spec_x.2.2.1.2.1.2
noncomputable def A₀ : Around := tin_spec_x.2.2.1.2.2
noncomputable def base : Heap := tin_spec_x.2.2.2.1.1.1
noncomputable def h₀ : Heap := tin_spec_x.2.2.2.1.1.2
noncomputable def L : Addr := tin_spec_x.2.2.2.1.2.1
noncomputable def m : Str → Option Value := tin_spec_x.2.2.2.1.2.2
noncomputable def s : Shared := tin_spec_x.2.2.2.2.1.1
noncomputable def Q : Value → Shared → Prop := tin_spec_x.2.2.2.2.1.2
noncomputable def E : Value → Shared → Prop := tin_spec_x.2.2.2.2.2
set_option maxRecDepth 100000 in
set_option maxHeartbeats 8000000 in
theorem main  : tin_spec_H b db g mk ls K pt zv tk ck sk p1 z1 t1 c1 s1 dg c vs ns n2 G gs ge t3 t4 l ws zs nl2 ro news rest i ti prog w p loose mean mg mb cn cs a ccd cl outer A₀ base h₀ L m s Q E ((tin_spec_k b db g mk ls K pt zv tk ck sk p1 z1 t1 c1 s1 dg c vs ns n2 G gs ge t3 t4 l ws zs nl2 ro news rest i ti prog w p loose mean mg mb cn cs a ccd cl outer A₀ base h₀ L m s Q E).1 g9 L9 h9) := by
  intro C N P ap e4 e5 e6 r1 r2 r3 hi hw hlen h0 h1 h2 hz h3 h4 h5 hr ret
  obtain ⟨B, F, X, T, hk⟩ := C
  have ap1 := ap
  simp only [Apart, and_true] at ap1
  have hgl := gtext_length h0 h1 h2
  replace N := news_picks N P
  simp only [List.cons_append, List.nil_append] at N
  delta tin_spec_k
  dsimp only
  intro _ _ _ _ _ _
  k_steps
  all_goals exact ret _ _ _ _ _ _ _ _ _ _ _ _ (by k_asm) (news_back (by k_asm) (by ktr_rel) (by tb_rel)) (by assumption) (by k_extra "ord") (by k_extra "ord") (by k_extra "ord") (by k_extra "ord") (by k_extra "ord") (by assumption)
end tin_spec_n
theorem tin_spec {prog : Program} {w : World} {p : Program} {loose : List Str} {mean : ExcName → Option Value} {mg : Str → Option Value} {mb : Str → Option Value} {cn : Str} {cs : Scope} {a : Addr} {ccd : Value} {cl : List (Str × Addr)} {outer : List Env} {A₀ : Around} {base : Heap} {h₀ : Heap} {L : Addr} {m : Str → Option Value} {s : Shared} {Q : Value → Shared → Prop} {E : Value → Shared → Prop} {b : Addr} {db : Addr} {g : Addr} {mk : Addr} {ls : Addr} {K : BKeys} {pt : Int} {zv : Int} {tk : Int} {ck : Int} {sk : Int} {p1 : Tok} {z1 : Tok} {t1 : Tok} {c1 : Tok} {s1 : Tok} {dg : Addr} {c : Addr} {vs : List Value} {ns : List Int} {n2 : Nat} {G : GKeys} {gs : Int} {ge : Int} {t3 : Tok} {t4 : Tok} {l : Addr} {ws : List Value} {zs : List Int} {nl2 : Nat} {ro : Bool} {news : List (Addr × Obj)} {rest : List (Addr × Obj)} {i : Int} {ti : Tok} : tin_spec_H b db g mk ls K pt zv tk ck sk p1 z1 t1 c1 s1 dg c vs ns n2 G gs ge t3 t4 l ws zs nl2 ro news rest i ti prog w p loose mean mg mb cn cs a ccd cl outer A₀ base h₀ L m s Q E (wpAny (model prog w) (ktrTop 930 9300 none cn cs L a ccd cl outer) (call (.ref 83) [.ref b, .int i ti, .ref l]) Q E s) := (tin_spec_k b db g mk ls K pt zv tk ck sk p1 z1 t1 c1 s1 dg c vs ns n2 G gs ge t3 t4 l ws zs nl2 ro news rest i ti prog w p loose mean mg mb cn cs a ccd cl outer A₀ base h₀ L m s Q E).2 (fun g9 L9 h9 => tin_spec_ex.choose_spec (tin_spec_n.main ) ((((((g9, L9), (h9, b)), ((db, g), (mk, ls))), (((K, pt), (zv, tk)), ((ck, sk), p1))), ((((z1, t1), (c1, s1)), ((dg, c), (vs, ns))), (((n2, G), (gs, ge)), ((t3, t4), l)))), (((((ws, zs), (nl2, ro)), ((news, rest), (i, ti))), (((prog, w), (p, loose)), ((mean, mg), mb))), ((((cn, cs), (a, ccd)), ((cl, outer), A₀)), (((base, h₀), (L, m)), ((s, Q), E))))) )
end
section
theorem lines_B3_1 : True := by
  k_with_none
  k_with "k_all" => with_reducible assumption
  k_with "ne_mem" => with_reducible first | exact List.mem_cons_self | (refine List.mem_cons_of_mem _ ?_; k_extra "ne_mem") | (refine List.mem_append_right _ ?_; k_extra "ne_mem")
  k_with "ne_bef" => with_reducible first | (refine Bef.head ?_; k_extra "ne_mem") | (refine Bef.tail ?_; k_extra "ne_bef")
  k_with "lt_ap" => (with_reducible rename Apart _ => kqA; first | (with_reducible exact Apart.bef kqA (by k_extra "ne_bef")) | (clear kqA; k_extra "lt_ap"))
  k_with "lt_go" => first | (with_reducible assumption) | (with_reducible exact AllLt.get (by assumption) (by k_extra "ne_mem")) | k_extra "lt_ap" | ((with_reducible refine Nat.lt_trans ?kq1 ?kq2); (case kq2 => with_reducible assumption); (case kq1 => k_extra "lt_go")) | ((with_reducible refine Nat.lt_trans ?kq1 ?kq2); (case kq1 => with_reducible assumption); (case kq2 => k_extra "lt_ap"))
  k_with "ne_lt" => with_reducible first | exact Nat.ne_of_lt (AllLt.get (by assumption) (by k_extra "ne_mem")) | exact Nat.ne_of_gt (AllLt.get (by assumption) (by k_extra "ne_mem"))
  k_with "ne_ap" => (with_reducible rename Apart _ => kqA; first | (with_reducible exact Nat.ne_of_lt (Apart.bef kqA (by k_extra "ne_bef"))) | (with_reducible exact Nat.ne_of_gt (Apart.bef kqA (by k_extra "ne_bef"))) | (clear kqA; k_extra "ne_ap"))
  k_with "k_ne" => (refine neN ?_; (try dsimp only); first | (with_reducible assumption) | (with_reducible exact Ne.symm (by assumption)) | (with_reducible exact Nat.ne_of_lt (by assumption)) | (with_reducible exact Nat.ne_of_gt (by assumption)) | k_extra "ne_lt" | k_extra "ne_ap" | omega | ((try simp only [AllLt] at *); omega))
  k_with "ne_all" => first | (with_reducible assumption) | (refine And.intro ?_ ?_ <;> k_extra "ne_all") | k_ne
  k_with "mem_hq" => first | exact hq | exact List.mem_append_left _ hq | (refine List.mem_cons_of_mem _ ?_; k_extra "mem_hq")
  k_with "perm" => first | (refine List.forall_mem_cons.mpr (And.intro ?kqa ?kqb); (case kqa => k_extra "ne_mem"); (case kqb => k_extra "perm")) | exact List.forall_mem_nil _ | (intro q hq; k_extra "mem_hq")
  k_with "ord" => first | (with_reducible assumption) | ((with_reducible show @LT.lt Nat _ _ _); k_extra "lt_go") | k_ne | omega | ((try simp only [AllLt] at *); omega)
  k_with "tb_start" => first | exact Pick.head | (apply Pick.tail; tb_start)
  k_with "tb_rel" => first | exact Suff.refl | (refine' Suff.tail ?_; tb_rel)
  k_with "ktr_rel" => first | exact Picks.nil | (refine' Picks.cons ?kqp ?kqq; (case kqp => tb_start); (case kqq => ktr_rel))
  k_with "ktr_unf" => exact ⟨by k_asm, by k_asm, by k_asm, by k_asm, by first | exact rfl | assumption⟩
  k_with "subscriptTail Attribute Name Slice" => (k_here; k_dflt (refine kba_turn (value' := PySem.Expr.Name (PySem.Str.ofString "_") ⟨0, 0, 0, 0⟩) (fun _ => rfl) ?_))
  k_with "subscriptTail Name Slice ref ref" => (k_here; (with_reducible show wpAny _ _ (subscriptTail _ (PySem.Expr.Slice (some _) (some _) none _) (Value.ref _) (Value.ref _)) _ _ _); k_dflt (refine' my_slice ?kqF ?kqN ?kql ?kqi ?kqx ?kqy ?kqz ?_ ?kqs ?kqt; (case kqF => k_asm); (case kqN => k_asm); (case kql => k_mem); (case kqi => k_asm); (case kqx => first | (with_reducible assumption) | omega | ((try simp only [AllLt] at *); omega)); (case kqy => first | (with_reducible assumption) | omega | ((try simp only [AllLt] at *); omega)); (case kqz => first | (with_reducible assumption) | omega | ((try simp only [AllLt] at *); omega)); (case kqs => with_unfolding_all rfl); (case kqt => kmk_pure); k_whole); intro D' ws' h' zs' F' N' l1 hI' hZ' hL'; (try (replace hL' := slice_len hL' (by first | (with_reducible assumption) | omega) (by first | (with_reducible assumption) | omega) (by first | (with_reducible assumption) | omega))); (try k_lt l1); (try k_sweep))
  k_with "setItem ref ref ref" => (k_here; k_dflt (refine' my_setslice ?kqF ?kqN ?kql ?kqU ?kqi ?kqw ?kqx ?kqy ?kqz ?kqzz ?_; (case kqF => k_asm); (case kqN => k_asm); (case kql => k_mem); (case kqU => k_updF); (case kqi => k_asm); (case kqw => k_asm); (case kqx => first | (with_reducible assumption) | omega | ((try simp only [AllLt] at *); omega)); (case kqy => first | (with_reducible assumption) | omega | ((try simp only [AllLt] at *); omega)); (case kqz => first | (with_reducible assumption) | omega | ((try simp only [AllLt] at *); omega)); (case kqzz => first | (with_reducible assumption) | omega | ((try simp only [AllLt] at *); omega)); k_whole); intro vs' n2' h' ns' F' N' hI' hZ' hL'; (try dsimp only at N'); (try k_sweep))
  k_with "call builtin:len" => (k_here; (with_reducible show wpAny _ _ (call (Value.builtin "len") [Value.ref _]) _ _ _); k_dflt (refine' my_len ?kqN ?kql ?kqi ?kqz ?_; (case kqN => k_asm); (case kql => k_mem); (case kqi => k_asm); (case kqz => first | (with_reducible assumption) | omega | ((try simp only [AllLt] at *); omega)); k_whole))
  k_with "pyIter ref" => (k_here; k_dflt (first | (refine' iter_empty ?kqh ?kqF ?kqN ?kqm ?_; (case kqh => exact rfl); (case kqF => k_asm); (case kqN => k_asm); (case kqm => k_mem)) | (refine' iter_empty2 ?kqh ?kqF ?kqN ?kqm ?kqi ?kqz ?_; (case kqh => exact rfl); (case kqF => k_asm); (case kqN => k_asm); (case kqm => k_mem); (case kqi => k_asm); (case kqz => k_asm))); intro h' tk' F' N'; (try dsimp only); (try k_sweep))
  k_with "call ref" => (k_here; (with_reducible show wpAny _ _ (call (Value.ref 48) _) _ _ _); k_dflt (refine' around_le (nw_spec ?kqC ?kqN ?kqP ?_) ?kqd ?kqu; (case kqC => ktr_unf); (case kqN => k_asm); (case kqP => ktr_rel);  (case kqd => exact Nat.le_of_ble_eq_true rfl); (case kqu => exact Nat.le_of_ble_eq_true rfl)); intro h' tk' F' N'; (try dsimp only); (try k_sweep); (try k_fold))
  k_with "call ref" => (k_here; (with_reducible show wpAny _ _ (call (Value.ref 55) _) _ _ _); k_dflt (refine' around_le (reached_spec ?kqC ?kqN ?kqP ?kqh1 ?kqh2 ?kqh3 ?_) ?kqd ?kqu; (case kqC => ktr_unf); (case kqN => k_asm); (case kqP => ktr_rel); (case kqh1 => first | (with_reducible assumption) | omega | ((try simp only [AllLt] at *); omega)); (case kqh2 => first | (with_reducible assumption) | omega | ((try simp only [AllLt] at *); omega)); (case kqh3 => first | (with_reducible assumption) | omega | ((try simp only [AllLt] at *); omega));  (case kqd => exact Nat.le_of_ble_eq_true rfl); (case kqu => exact Nat.le_of_ble_eq_true rfl)); intro D' ta' tb' n' h' tk' F' N' l1; (try k_lt l1); (try dsimp only); (try k_sweep); (try k_fold))
  k_with "call ref" => (k_here; (with_reducible show wpAny _ _ (call (Value.ref 62) _) _ _ _); k_dflt (refine' around_le (ta_spec ?kqC ?kqN ?kqP ?_) ?kqd ?kqu; (case kqC => ktr_unf); (case kqN => k_asm); (case kqP => ktr_rel);  (case kqd => exact Nat.le_of_ble_eq_true rfl); (case kqu => exact Nat.le_of_ble_eq_true rfl)); intro h' tk' F' N'; (try dsimp only); (try k_sweep); (try k_fold))
  k_with "call ref" => (k_here; (with_reducible show wpAny _ _ (call (Value.ref 69) _) _ _ _); k_dflt (refine' around_le (tb_spec ?kqC ?kqN ?kqP ?kqe1 ?kqe2 ?kqr3 ?_) ?kqd ?kqu; (case kqC => ktr_unf); (case kqN => k_asm); (case kqP => ktr_rel); (case kqe1 => first | k_extra "ne_all" | omega); (case kqe2 => first | k_extra "ne_all" | omega); (case kqr3 => k_all);  (case kqd => exact Nat.le_of_ble_eq_true rfl); (case kqu => exact Nat.le_of_ble_eq_true rfl)); intro t1' c1' h' tk' F' N'; (try simp only [List.cons_append, List.nil_append] at N'); (try dsimp only); (try k_sweep); (try k_fold))
  k_with "call ref" => (k_here; (with_reducible show wpAny _ _ (call (Value.ref 90) _) _ _ _); k_dflt (refine' around_le (ho_spec ?kqC ?kqN ?kqP ?_) ?kqd ?kqu; (case kqC => ktr_unf); (case kqN => k_asm); (case kqP => ktr_rel);  (case kqd => exact Nat.le_of_ble_eq_true rfl); (case kqu => exact Nat.le_of_ble_eq_true rfl)); intro h' tk' F' N'; (try dsimp only); (try k_sweep); (try k_fold))
  k_with "call ref" => (k_here; (with_reducible show wpAny _ _ (call (Value.ref 97) _) _ _ _); k_dflt (refine' around_le (hi_spec ?kqC ?kqN ?kqP ?_) ?kqd ?kqu; (case kqC => ktr_unf); (case kqN => k_asm); (case kqP => ktr_rel);  (case kqd => exact Nat.le_of_ble_eq_true rfl); (case kqu => exact Nat.le_of_ble_eq_true rfl)); intro h' tk' F' N'; (try dsimp only); (try k_sweep); (try k_fold))
  k_with "call ref" => (k_here; (with_reducible show wpAny _ _ (call (Value.ref 464) _) _ _ _); k_dflt (refine' around_le (minserted_spec ?kqC ?kqN ?kqP ?kqlo ?kqd1 ?kqd2 ?_) ?kqd ?kqu; (case kqC => ktr_unf); (case kqN => k_asm); (case kqP => ktr_rel); (case kqlo => k_asm); (case kqd1 => k_asm); (case kqd2 => k_asm);  (case kqd => exact Nat.le_of_ble_eq_true rfl); (case kqu => exact Nat.le_of_ble_eq_true rfl)); intro h' tk' F' N'; (try dsimp only); (try k_sweep); (try k_fold))
  k_with "call ref" => (k_here; (with_reducible show wpAny _ _ (call (Value.ref 471) _) _ _ _); k_dflt (refine' around_le (mdeleted_spec ?kqC ?kqN ?kqP ?kqlo ?kqd1 ?kqd2 ?_) ?kqd ?kqu; (case kqC => ktr_unf); (case kqN => k_asm); (case kqP => ktr_rel); (case kqlo => k_asm); (case kqd1 => k_asm); (case kqd2 => k_asm);  (case kqd => exact Nat.le_of_ble_eq_true rfl); (case kqu => exact Nat.le_of_ble_eq_true rfl)); intro h' tk' F' N'; (try dsimp only); (try k_sweep); (try k_fold))
  k_with "call ref" => (k_here; (with_reducible show wpAny _ _ (call (Value.ref 478) _) _ _ _); k_dflt (refine' around_le (mreplaced_spec ?kqC ?kqN ?kqP ?kqlo ?kqd1 ?kqd2 ?_) ?kqd ?kqu; (case kqC => ktr_unf); (case kqN => k_asm); (case kqP => ktr_rel); (case kqlo => k_asm); (case kqd1 => k_asm); (case kqd2 => k_asm);  (case kqd => exact Nat.le_of_ble_eq_true rfl); (case kqu => exact Nat.le_of_ble_eq_true rfl)); intro h' tk' F' N'; (try dsimp only); (try k_sweep); (try k_fold))
  k_with "call ref" => (k_here; (with_reducible show wpAny _ _ (call (Value.ref 76) _) _ _ _); k_dflt (refine' around_le (tout_spec ?kqC ?kqN ?kqP ?kqap ?kqr1 ?kqr2 ?kqr3 ?kqi ?kql ?kqh0 ?kqh1 ?kqh2 ?kqhz ?kqh3 ?kqh4 ?kqh5 ?_) ?kqd ?kqu; (case kqC => ktr_unf); (case kqN => k_asm); (case kqP => ktr_rel); (case kqap => k_asm); (case kqr1 => k_all); (case kqr2 => k_all); (case kqr3 => k_all); (case kqi => k_asm); (case kql => first | (with_reducible assumption) | omega | ((try simp only [AllLt] at *); omega)); (case kqh0 => first | (with_reducible assumption) | omega | ((try simp only [AllLt] at *); omega)); (case kqh1 => first | (with_reducible assumption) | omega | ((try simp only [AllLt] at *); omega)); (case kqh2 => first | (with_reducible assumption) | omega | ((try simp only [AllLt] at *); omega)); (case kqhz => first | (with_reducible assumption) | omega | ((try simp only [AllLt] at *); omega)); (case kqh3 => first | (with_reducible assumption) | omega | ((try simp only [AllLt] at *); omega)); (case kqh4 => first | (with_reducible assumption) | omega | ((try simp only [AllLt] at *); omega)); (case kqh5 => first | (with_reducible assumption) | omega | ((try simp only [AllLt] at *); omega));  (case kqd => exact Nat.le_of_ble_eq_true rfl); (case kqu => exact Nat.le_of_ble_eq_true rfl)); intro D' ws' nd' vs' ns' n2' gs' t3' ge' t4' pt' p1' z1' h' tk' F' N' l1 hI' hL' hG0' hG1' hG2' hG3' hT'; (try k_lt l1); (try simp only [List.cons_append, List.nil_append] at N'); (try dsimp only); (try k_sweep); (try k_fold))
  k_with "call ref" => (k_here; (with_reducible show wpAny _ _ (call (Value.ref 83) _) _ _ _); k_dflt (refine' around_le (tin_spec ?kqC ?kqN ?kqP ?kqap ?kqe4 ?kqe5 ?kqe6 ?kqr1 ?kqr2 ?kqr3 ?kqi ?kqw ?kql ?kqh0 ?kqh1 ?kqh2 ?kqhz ?kqh3 ?kqh4 ?kqh5 ?kqhr ?_) ?kqd ?kqu; (case kqC => ktr_unf); (case kqN => k_asm); (case kqP => ktr_rel); (case kqap => k_asm); (case kqe4 => first | k_extra "ne_all" | omega); (case kqe5 => first | k_extra "ne_all" | omega); (case kqe6 => first | k_extra "ne_all" | omega); (case kqr1 => k_all); (case kqr2 => k_all); (case kqr3 => k_all); (case kqi => k_asm); (case kqw => k_asm); (case kql => first | (with_reducible assumption) | omega | ((try simp only [AllLt] at *); omega)); (case kqh0 => first | (with_reducible assumption) | omega | ((try simp only [AllLt] at *); omega)); (case kqh1 => first | (with_reducible assumption) | omega | ((try simp only [AllLt] at *); omega)); (case kqh2 => first | (with_reducible assumption) | omega | ((try simp only [AllLt] at *); omega)); (case kqhz => first | (with_reducible assumption) | omega | ((try simp only [AllLt] at *); omega)); (case kqh3 => first | (with_reducible assumption) | omega | ((try simp only [AllLt] at *); omega)); (case kqh4 => first | (with_reducible assumption) | omega | ((try simp only [AllLt] at *); omega)); (case kqh5 => first | (with_reducible assumption) | omega | ((try simp only [AllLt] at *); omega)); (case kqhr => k_asm);  (case kqd => exact Nat.le_of_ble_eq_true rfl); (case kqu => exact Nat.le_of_ble_eq_true rfl)); intro vs' ns' n2' gs' t3' ge' t4' pt' p1' z1' h' tk' F' N' hI' hL' hG0' hG1' hG2' hG3' hT'; (try simp only [List.cons_append, List.nil_append] at N'); (try dsimp only); (try k_sweep); (try k_fold))
  trivial
def putin_spec_H (b : Addr) (db : Addr) (g : Addr) (mk : Addr) (ls : Addr) (K : BKeys) (pt : Int) (zv : Int) (tk : Int) (ck : Int) (sk : Int) (p1 : Tok) (z1 : Tok) (t1 : Tok) (c1 : Tok) (s1 : Tok) (dg : Addr) (c : Addr) (vs : List Value) (ns : List Int) (n2 : Nat) (G : GKeys) (gs : Int) (ge : Int) (t3 : Tok) (t4 : Tok) (dm : Addr) (rw : Addr) (hm : Int) (km : Tok) (orw : Obj) (nl : Nat) (l : Addr) (ws : List Value) (nl2 : Nat) (news : List (Addr × Obj)) (rest : List (Addr × Obj)) (i : Int) (ti : Tok) (bm : Bool) (bp : Bool) (prog : Program) (w : World) (p : Program) (loose : List Str) (mean : ExcName → Option Value) (mg : Str → Option Value) (mb : Str → Option Value) (cn : Str) (cs : Scope) (a : Addr) (ccd : Value) (cl : List (Str × Addr)) (outer : List Env) (A₀ : Around) (base : Heap) (h₀ : Heap) (L : Addr) (m : Str → Option Value) (s : Shared) (Q : Value → Shared → Prop) (E : Value → Shared → Prop) (zs : List Int) (zR : Prop) : Prop := ∀ (C : Cx w p loose mean mg mb A₀ base outer h₀ L s.heap m cs) (N : News h₀ L s.heap news) (P : Picks [(b, instObj 622 db), (db, bufD K g mk ls pt p1 zv z1 false tk t1 ck c1 sk s1), (g, instObj 411 dg), (dg, gapD G c gs t3 ge t4), (c, listOf (List.toArray vs) n2), (mk, instObj 481 dm), (dm, mkD hm km rw), (rw, orw), (ls, listOf #[] nl), (l, listOf ws.toArray nl2)] news rest) (ap : Apart [db, b, dg, g, c, dm, mk, rw, ls]) (e4 : @Ne Nat l db ∧ @Ne Nat l dg ∧ @Ne Nat l c) (r1 : ∀ q ∈ rest, q.1 ≠ c) (r2 : ∀ q ∈ rest, q.1 ≠ dg) (r3 : ∀ q ∈ rest, q.1 ≠ db) (hi : IntsAre vs ns) (hlen : ns.length ≤ 3000) (h0 : 0 ≤ gs) (h1 : gs ≤ ge) (h2 : ge ≤ ns.length) (hz : zv = ns.length - ge + gs + 1) (hr : G.room = 8) (lo : (rw == sysModules) = false) (d1 : orw.IsDictOf (strKind prog w) []) (d2 : orw.IsDictOf (intKind prog w) []) (hw : IntsAre ws zs) (h3 : 1 ≤ i) (h4 : i ≤ zv) (h5 : zs.length ≤ 100) (ret : ∀ vs' ns' n2' gs' t3' ge' t4' pt' p1' zv' z1' tk1' t1' ck1' c1' h' tk', Fr h₀ L h' m → News h₀ L h' ([(b, instObj 622 db), (db, bufD K g mk ls pt' p1' zv' z1' false tk1' t1' ck1' c1' sk s1), (g, instObj 411 dg), (dg, gapD G c gs' t3' ge' t4'), (c, listOf (List.toArray vs') n2'), (mk, instObj 481 dm), (dm, mkD hm km rw), (rw, orw), (ls, listOf #[] nl), (l, listOf ws.toArray nl2)] ++ rest) → IntsAre vs' ns' → ns'.length ≤ ns.length + zs.length + 8 → 0 ≤ gs' → gs' ≤ ge' → ge' ≤ ns'.length → zv' = ns'.length - ge' + gs' + 1 → zv' = zv + zs.length → (0 < zs.length → tk1' = tk + 1) → gtext ns' gs' ge' = (gtext ns gs ge).take (i - 1).toNat ++ zs ++ (gtext ns gs ge).drop (i - 1).toNat → Q .none { s with heap := h', toks := tk' }), zR
set_option maxRecDepth 100000 in
set_option maxHeartbeats 8000000 in
noncomputable def putin_spec_k (b : Addr) (db : Addr) (g : Addr) (mk : Addr) (ls : Addr) (K : BKeys) (pt : Int) (zv : Int) (tk : Int) (ck : Int) (sk : Int) (p1 : Tok) (z1 : Tok) (t1 : Tok) (c1 : Tok) (s1 : Tok) (dg : Addr) (c : Addr) (vs : List Value) (ns : List Int) (n2 : Nat) (G : GKeys) (gs : Int) (ge : Int) (t3 : Tok) (t4 : Tok) (dm : Addr) (rw : Addr) (hm : Int) (km : Tok) (orw : Obj) (nl : Nat) (l : Addr) (ws : List Value) (nl2 : Nat) (news : List (Addr × Obj)) (rest : List (Addr × Obj)) (i : Int) (ti : Tok) (bm : Bool) (bp : Bool) (prog : Program) (w : World) (p : Program) (loose : List Str) (mean : ExcName → Option Value) (mg : Str → Option Value) (mb : Str → Option Value) (cn : Str) (cs : Scope) (a : Addr) (ccd : Value) (cl : List (Str × Addr)) (outer : List Env) (A₀ : Around) (base : Heap) (h₀ : Heap) (L : Addr) (m : Str → Option Value) (s : Shared) (Q : Value → Shared → Prop) (E : Value → Shared → Prop) (zs : List Int) : PSigma (fun zP : Heap → Addr → Heap → Prop => (∀ zq1 zq2 zq3, putin_spec_H b db g mk ls K pt zv tk ck sk p1 z1 t1 c1 s1 dg c vs ns n2 G gs ge t3 t4 dm rw hm km orw nl l ws nl2 news rest i ti bm bp prog w p loose mean mg mb cn cs a ccd cl outer A₀ base h₀ L m s Q E zs (zP zq1 zq2 zq3)) → putin_spec_H b db g mk ls K pt zv tk ck sk p1 z1 t1 c1 s1 dg c vs ns n2 G gs ge t3 t4 dm rw hm km orw nl l ws nl2 news rest i ti bm bp prog w p loose mean mg mb cn cs a ccd cl outer A₀ base h₀ L m s Q E zs (wpAny (model prog w) (ktrTop 920 9200 none cn cs L a ccd cl outer) (call (.ref 104) [.ref b, .int i ti, .ref l, .bool bm, .bool bp]) Q E s)) := by
  refine ⟨?zG, fun zH C N P ap e4 r1 r2 r3 hi hlen h0 h1 h2 hz hr lo d1 d2 hw h3 h4 h5 ret => ?zh⟩
  case zh =>
    have zc := fun zq1 zq2 zq3 => zH zq1 zq2 zq3 C N P ap e4 r1 r2 r3 hi hlen h0 h1 h2 hz hr lo d1 d2 hw h3 h4 h5 ret
    clear zH
    obtain ⟨B, F, X, T, hk⟩ := C
    replace N := news_picks N P
    simp only [List.cons_append, List.nil_append] at N
    refine wpAny_call ?_
    k_dflt cell_enter
    rename_i g9 L9 h9 FG9 F9 N9 B9 X9 T9
    revert FG9 F9 N9 B9 X9 T9
    exact zc g9 L9 h9
abbrev putin_spec_P : Type := (((((((Heap × Addr) × Heap) × (Addr × Addr)) × ((Addr × Addr) × (Addr × BKeys))) × (((Int × Int) × (Int × Int)) × ((Int × Tok) × (Tok × Tok)))) × ((((Tok × Tok) × (Addr × Addr)) × (((List Value) × (List Int)) × (Nat × GKeys))) × (((Int × Int) × (Tok × Tok)) × ((Addr × Addr) × (Int × Tok))))) × (((((Obj × Nat) × (Addr × (List Value))) × ((Nat × (List (Addr × Obj))) × ((List (Addr × Obj)) × Int))) × (((Tok × Bool) × (Bool × Program)) × ((World × Program) × ((List Str) × (ExcName → Option Value))))) × (((((Str → Option Value) × (Str → Option Value)) × (Str × Scope)) × ((Addr × Value) × ((List (Str × Addr)) × (List Env)))) × (((Around × Heap) × (Heap × Addr)) × (((Str → Option Value) × Shared) × ((Value → Shared → Prop) × (Value → Shared → Prop)))))))
abbrev putin_spec_F (x : putin_spec_P) : Prop := ∀ (zs : List Int), putin_spec_H (x.1.1.1.1.2.1) (x.1.1.1.1.2.2) (x.1.1.1.2.1.1) (x.1.1.1.2.1.2) (x.1.1.1.2.2.1) (x.1.1.1.2.2.2) (x.1.1.2.1.1.1) (x.1.1.2.1.1.2) (x.1.1.2.1.2.1) (x.1.1.2.1.2.2) (x.1.1.2.2.1.1) (x.1.1.2.2.1.2) (x.1.1.2.2.2.1) (x.1.1.2.2.2.2) (x.1.2.1.1.1.1) (x.1.2.1.1.1.2) (x.1.2.1.1.2.1) (x.1.2.1.1.2.2) (x.1.2.1.2.1.1) (x.1.2.1.2.1.2) (x.1.2.1.2.2.1) (x.1.2.1.2.2.2) (x.1.2.2.1.1.1) (x.1.2.2.1.1.2) (x.1.2.2.1.2.1) (x.1.2.2.1.2.2) (x.1.2.2.2.1.1) (x.1.2.2.2.1.2) (x.1.2.2.2.2.1) (x.1.2.2.2.2.2) (x.2.1.1.1.1.1) (x.2.1.1.1.1.2) (x.2.1.1.1.2.1) (x.2.1.1.1.2.2) (x.2.1.1.2.1.1) (x.2.1.1.2.1.2) (x.2.1.1.2.2.1) (x.2.1.1.2.2.2) (x.2.1.2.1.1.1) (x.2.1.2.1.1.2) (x.2.1.2.1.2.1) (x.2.1.2.1.2.2) (x.2.1.2.2.1.1) (x.2.1.2.2.1.2) (x.2.1.2.2.2.1) (x.2.1.2.2.2.2) (x.2.2.1.1.1.1) (x.2.2.1.1.1.2) (x.2.2.1.1.2.1) (x.2.2.1.1.2.2) (x.2.2.1.2.1.1) (x.2.2.1.2.1.2) (x.2.2.1.2.2.1) (x.2.2.1.2.2.2) (x.2.2.2.1.1.1) (x.2.2.2.1.1.2) (x.2.2.2.1.2.1) (x.2.2.2.1.2.2) (x.2.2.2.2.1.1) (x.2.2.2.2.1.2) (x.2.2.2.2.2.1) (x.2.2.2.2.2.2) zs ((putin_spec_k (x.1.1.1.1.2.1) (x.1.1.1.1.2.2) (x.1.1.1.2.1.1) (x.1.1.1.2.1.2) (x.1.1.1.2.2.1) (x.1.1.1.2.2.2) (x.1.1.2.1.1.1) (x.1.1.2.1.1.2) (x.1.1.2.1.2.1) (x.1.1.2.1.2.2) (x.1.1.2.2.1.1) (x.1.1.2.2.1.2) (x.1.1.2.2.2.1) (x.1.1.2.2.2.2) (x.1.2.1.1.1.1) (x.1.2.1.1.1.2) (x.1.2.1.1.2.1) (x.1.2.1.1.2.2) (x.1.2.1.2.1.1) (x.1.2.1.2.1.2) (x.1.2.1.2.2.1) (x.1.2.1.2.2.2) (x.1.2.2.1.1.1) (x.1.2.2.1.1.2) (x.1.2.2.1.2.1) (x.1.2.2.1.2.2) (x.1.2.2.2.1.1) (x.1.2.2.2.1.2) (x.1.2.2.2.2.1) (x.1.2.2.2.2.2) (x.2.1.1.1.1.1) (x.2.1.1.1.1.2) (x.2.1.1.1.2.1) (x.2.1.1.1.2.2) (x.2.1.1.2.1.1) (x.2.1.1.2.1.2) (x.2.1.1.2.2.1) (x.2.1.1.2.2.2) (x.2.1.2.1.1.1) (x.2.1.2.1.1.2) (x.2.1.2.1.2.1) (x.2.1.2.1.2.2) (x.2.1.2.2.1.1) (x.2.1.2.2.1.2) (x.2.1.2.2.2.1) (x.2.1.2.2.2.2) (x.2.2.1.1.1.1) (x.2.2.1.1.1.2) (x.2.2.1.1.2.1) (x.2.2.1.1.2.2) (x.2.2.1.2.1.1) (x.2.2.1.2.1.2) (x.2.2.1.2.2.1) (x.2.2.1.2.2.2) (x.2.2.2.1.1.1) (x.2.2.2.1.1.2) (x.2.2.2.1.2.1) (x.2.2.2.1.2.2) (x.2.2.2.2.1.1) (x.2.2.2.2.1.2) (x.2.2.2.2.2.1) (x.2.2.2.2.2.2) zs).1 (x.1.1.1.1.1.1.1) (x.1.1.1.1.1.1.2) (x.1.1.1.1.1.2))
theorem putin_spec_ex : ∃ x : putin_spec_P, putin_spec_F x → ∀ y : putin_spec_P, putin_spec_F y := drinker ⟨(((((((default, (0 : Nat)), default), ((0 : Nat), (0 : Nat))), (((0 : Nat), (0 : Nat)), ((0 : Nat), bkeys0))), (((0, 0), (0, 0)), ((0, (0 : Nat)), ((0 : Nat), (0 : Nat))))), (((((0 : Nat), (0 : Nat)), ((0 : Nat), (0 : Nat))), (([], []), (0, gkeys0))), (((0, 0), ((0 : Nat), (0 : Nat))), (((0 : Nat), (0 : Nat)), (0, (0 : Nat)))))), (((((default, 0), ((0 : Nat), [])), ((0, []), ([], 0))), ((((0 : Nat), false), (false, default)), ((world0, default), ([], fun _ => none)))), ((((fun _ => none, fun _ => none), (default, default)), (((0 : Nat), .none), ([], []))), ((({}, default), (default, (0 : Nat))), ((fun _ => none, {}), (fun _ _ => True, fun _ _ => True))))))⟩
noncomputable def putin_spec_x : putin_spec_P := putin_spec_ex.choose
namespace putin_spec_n
noncomputable def g9 : Heap := putin_spec_x.1.1.1.1.1.1.1
noncomputable def L9 : Addr := putin_spec_x.1.1.1.1.1.1.2
noncomputable def h9 : Heap := putin_spec_x.1.1.1.1.1.2
noncomputable def b : Addr := putin_spec_x.1.1.1.1.2.1
noncomputable def db : Addr := putin_spec_x.1.1.1.1.2.2
noncomputable def g : Addr := putin_spec_x.1.1.1.2.1.1
noncomputable def mk : Addr := putin_spec_x.1.1.1.2.1.2
noncomputable def ls : Addr := putin_spec_x.1.1.1.2.2.1
noncomputable def K : BKeys := putin_spec_x.1.1.1.2.2.2
noncomputable def pt : Int := putin_spec_x.1.1.2.1.1.1
noncomputable def zv : Int := putin_spec_x.1.1.2.1.1.2
noncomputable def tk : Int := putin_spec_x.1.1.2.1.2.1
noncomputable def ck : Int := putin_spec_x.1.1.2.1.2.2
noncomputable def sk : Int := putin_spec_x.1.1.2.2.1.1
noncomputable def p1 : Tok := putin_spec_x.1.1.2.2.1.2
noncomputable def z1 : Tok := putin_spec_x.1.1.2.2.2.1
noncomputable def t1 : Tok := putin_spec_x.1.1.2.2.2.2
noncomputable def c1 : Tok := putin_spec_x.1.2.1.1.1.1
noncomputable def s1 : Tok := putin_spec_x.1.2.1.1.1.2
noncomputable def dg : Addr := putin_spec_x.1.2.1.1.2.1
noncomputable def c : Addr := putin_spec_x.1.2.1.1.2.2
noncomputable def vs : List Value := putin_spec_x.1.2.1.2.1.1
noncomputable def ns : List Int := putin_spec_x.1.2.1.2.1.2
noncomputable def n2 : Nat := putin_spec_x.1.2.1.2.2.1
noncomputable def G : GKeys := putin_spec_x.1.2.1.2.2.2
noncomputable def gs : Int := putin_spec_x.1.2.2.1.1.1
noncomputable def ge : Int := putin_spec_x.1.2.2.1.1.2
noncomputable def t3 : Tok := putin_spec_x.1.2.2.1.2.1
noncomputable def t4 : Tok := putin_spec_x.1.2.2.1.2.2
noncomputable def dm : Addr := putin_spec_x.1.2.2.2.1.1
noncomputable def rw : Addr := putin_spec_x.1.2.2.2.1.2
noncomputable def hm : Int := putin_spec_x.1.2.2.2.2.1
noncomputable def km : Tok := putin_spec_x.1.2.2.2.2.2
noncomputable def orw : Obj := putin_spec_x.2.1.1.1.1.1
noncomputable def nl : Nat := putin_spec_x.2.1.1.1.1.2
noncomputable def l : Addr := putin_spec_x.2.1.1.1.2.1
noncomputable def ws : List Value := putin_spec_x.2.1.1.1.2.2
noncomputable def nl2 : Nat := putin_spec_x.2.1.1.2.1.1
noncomputable def news : List (Addr × Obj) := putin_spec_x.2.1.1.2.1.2
noncomputable def rest : List (Addr × Obj) := putin_spec_x.2.1.1.2.2.1
noncomputable def i : Int := putin_spec_x.2.1.1.2.2.2
noncomputable def ti : Tok := putin_spec_x.2.1.2.1.1.1
noncomputable def bm : Bool := putin_spec_x.2.1.2.1.1.2
noncomputable def bp : Bool := putin_spec_x.2.1.2.1.2.1
noncomputable def prog : Program := putin_spec_x.2.1.2.1.2.2
noncomputable def w : World := putin_spec_x.2.1.2.2.1.1
noncomputable def p : Program := putin_spec_x.2.1.2.2.1.2
noncomputable def loose : List Str := putin_spec_x.2.1.2.2.2.1
noncomputable def mean : ExcName → Option Value := putin_spec_x.2.1.2.2.2.2
noncomputable def mg : Str → Option Value := putin_spec_x.2.2.1.1.1.1
noncomputable def mb : Str → Option Value := putin_spec_x.2.2.1.1.1.2
noncomputable def cn : Str := putin_spec_x.2.2.1.1.2.1
noncomputable def cs : Scope := putin_spec_x.2.2.1.1.2.2
noncomputable def a : Addr := putin_spec_x.2.2.1.2.1.1
noncomputable def ccd : Value := putin_spec_x.2.2.1.2.1.2
noncomputable def cl : List (Str × Addr) := putin_spec_x.2.2.1.2.2.1
noncomputable def outer : List Env := putin_spec_x.2.2.1.2.2.2
noncomputable def A₀ : Around := putin_spec_x.2.2.2.1.1.1
noncomputable def base : Heap := putin_spec_x.2.2.2.1.1.2
noncomputable def h₀ : Heap := putin_spec_x.2.2.2.1.2.1
noncomputable def L : Addr := putin_spec_x.2.2.2.1.2.2
noncomputable def m : Str → Option Value := putin_spec_x.2.2.2.2.1.1
noncomputable def s : Shared := putin_spec_x.2.2.2.2.1.2
noncomputable def Q : Value → Shared → Prop := putin_spec_x.2.2.2.2.2.1
noncomputable def E : Value → Shared → Prop := putin_spec_x.2.2.2.2.2.2
set_option maxRecDepth 100000 in
set_option maxHeartbeats 8000000 in
theorem main (zs : List Int) : putin_spec_H b db g mk ls K pt zv tk ck sk p1 z1 t1 c1 s1 dg c vs ns n2 G gs ge t3 t4 dm rw hm km orw nl l ws nl2 news rest i ti bm bp prog w p loose mean mg mb cn cs a ccd cl outer A₀ base h₀ L m s Q E zs ((putin_spec_k b db g mk ls K pt zv tk ck sk p1 z1 t1 c1 s1 dg c vs ns n2 G gs ge t3 t4 dm rw hm km orw nl l ws nl2 news rest i ti bm bp prog w p loose mean mg mb cn cs a ccd cl outer A₀ base h₀ L m s Q E zs).1 g9 L9 h9) := by
  intro C N P ap e4 r1 r2 r3 hi hlen h0 h1 h2 hz hr lo d1 d2 hw h3 h4 h5 ret
  obtain ⟨B, F, X, T, hk⟩ := C
  have ap1 := ap
  simp only [Apart, and_true] at ap1
  have ap5 : Apart [db, b, dg, g, c] := by simp only [Apart, and_true]; omega
  have hgl := gtext_length h0 h1 h2
  replace N := news_picks N P
  simp only [List.cons_append, List.nil_append] at N
  delta putin_spec_k
  dsimp only
  intro _ _ _ _ _ _
  (rename Fr _ _ _ _ => F9); replace F9 := fr_binds F9 (bs := [(Str.ofString "buffer", _), (Str.ofString "place", _), (Str.ofString "codes", _), (Str.ofString "before_markers", _), (Str.ofString "is_point_behind", _)]) rfl
  k_steps
  all_goals exact ret _ _ _ _ _ _ _ _ _ _ _ _ _ _ _ _ _ (by k_asm) (news_back (by k_asm) (by ktr_rel) (by tb_rel)) (by assumption) (by k_extra "ord") (by k_extra "ord") (by k_extra "ord") (by k_extra "ord") (by k_extra "ord") (by k_extra "ord") (by intro; omega) (by first | assumption | (have e : zs = [] := List.length_eq_zero_iff.mp (by k_extra "ord"); subst e; simp))
end putin_spec_n
theorem putin_spec {prog : Program} {w : World} {p : Program} {loose : List Str} {mean : ExcName → Option Value} {mg : Str → Option Value} {mb : Str → Option Value} {cn : Str} {cs : Scope} {a : Addr} {ccd : Value} {cl : List (Str × Addr)} {outer : List Env} {A₀ : Around} {base : Heap} {h₀ : Heap} {L : Addr} {m : Str → Option Value} {s : Shared} {Q : Value → Shared → Prop} {E : Value → Shared → Prop} {b : Addr} {db : Addr} {g : Addr} {mk : Addr} {ls : Addr} {K : BKeys} {pt : Int} {zv : Int} {tk : Int} {ck : Int} {sk : Int} {p1 : Tok} {z1 : Tok} {t1 : Tok} {c1 : Tok} {s1 : Tok} {dg : Addr} {c : Addr} {vs : List Value} {ns : List Int} {n2 : Nat} {G : GKeys} {gs : Int} {ge : Int} {t3 : Tok} {t4 : Tok} {dm : Addr} {rw : Addr} {hm : Int} {km : Tok} {orw : Obj} {nl : Nat} {l : Addr} {ws : List Value} {zs : List Int} {nl2 : Nat} {news : List (Addr × Obj)} {rest : List (Addr × Obj)} {i : Int} {ti : Tok} {bm : Bool} {bp : Bool} : putin_spec_H b db g mk ls K pt zv tk ck sk p1 z1 t1 c1 s1 dg c vs ns n2 G gs ge t3 t4 dm rw hm km orw nl l ws nl2 news rest i ti bm bp prog w p loose mean mg mb cn cs a ccd cl outer A₀ base h₀ L m s Q E zs (wpAny (model prog w) (ktrTop 920 9200 none cn cs L a ccd cl outer) (call (.ref 104) [.ref b, .int i ti, .ref l, .bool bm, .bool bp]) Q E s) := (putin_spec_k b db g mk ls K pt zv tk ck sk p1 z1 t1 c1 s1 dg c vs ns n2 G gs ge t3 t4 dm rw hm km orw nl l ws nl2 news rest i ti bm bp prog w p loose mean mg mb cn cs a ccd cl outer A₀ base h₀ L m s Q E zs).2 (fun g9 L9 h9 => putin_spec_ex.choose_spec (fun zs => putin_spec_n.main zs) (((((((g9, L9), h9), (b, db)), ((g, mk), (ls, K))), (((pt, zv), (tk, ck)), ((sk, p1), (z1, t1)))), ((((c1, s1), (dg, c)), ((vs, ns), (n2, G))), (((gs, ge), (t3, t4)), ((dm, rw), (hm, km))))), (((((orw, nl), (l, ws)), ((nl2, news), (rest, i))), (((ti, bm), (bp, prog)), ((w, p), (loose, mean)))), ((((mg, mb), (cn, cs)), ((a, ccd), (cl, outer))), (((A₀, base), (h₀, L)), ((m, s), (Q, E)))))) zs)
end
section
theorem lines_B4_1 : True := by
  k_with_none
  k_with "k_all" => with_reducible assumption
  k_with "ne_mem" => with_reducible first | exact List.mem_cons_self | (refine List.mem_cons_of_mem _ ?_; k_extra "ne_mem") | (refine List.mem_append_right _ ?_; k_extra "ne_mem")
  k_with "ne_bef" => with_reducible first | (refine Bef.head ?_; k_extra "ne_mem") | (refine Bef.tail ?_; k_extra "ne_bef")
  k_with "lt_ap" => (with_reducible rename Apart _ => kqA; first | (with_reducible exact Apart.bef kqA (by k_extra "ne_bef")) | (clear kqA; k_extra "lt_ap"))
  k_with "lt_go" => first | (with_reducible assumption) | (with_reducible exact AllLt.get (by assumption) (by k_extra "ne_mem")) | k_extra "lt_ap" | ((with_reducible refine Nat.lt_trans ?kq1 ?kq2); (case kq2 => with_reducible assumption); (case kq1 => k_extra "lt_go")) | ((with_reducible refine Nat.lt_trans ?kq1 ?kq2); (case kq1 => with_reducible assumption); (case kq2 => k_extra "lt_ap"))
  k_with "ne_lt" => with_reducible first | exact Nat.ne_of_lt (AllLt.get (by assumption) (by k_extra "ne_mem")) | exact Nat.ne_of_gt (AllLt.get (by assumption) (by k_extra "ne_mem"))
  k_with "ne_ap" => (with_reducible rename Apart _ => kqA; first | (with_reducible exact Nat.ne_of_lt (Apart.bef kqA (by k_extra "ne_bef"))) | (with_reducible exact Nat.ne_of_gt (Apart.bef kqA (by k_extra "ne_bef"))) | (clear kqA; k_extra "ne_ap"))
  k_with "k_ne" => (refine neN ?_; (try dsimp only); first | (with_reducible assumption) | (with_reducible exact Ne.symm (by assumption)) | (with_reducible exact Nat.ne_of_lt (by assumption)) | (with_reducible exact Nat.ne_of_gt (by assumption)) | k_extra "ne_lt" | k_extra "ne_ap" | omega | ((try simp only [AllLt] at *); omega))
  k_with "ne_all" => first | (with_reducible assumption) | (refine And.intro ?_ ?_ <;> k_extra "ne_all") | k_ne
  k_with "mem_hq" => first | exact hq | exact List.mem_append_left _ hq | (refine List.mem_cons_of_mem _ ?_; k_extra "mem_hq")
  k_with "perm" => first | (refine List.forall_mem_cons.mpr (And.intro ?kqa ?kqb); (case kqa => k_extra "ne_mem"); (case kqb => k_extra "perm")) | exact List.forall_mem_nil _ | (intro q hq; k_extra "mem_hq")
  k_with "ord" => first | (with_reducible assumption) | ((with_reducible show @LT.lt Nat _ _ _); k_extra "lt_go") | k_ne | omega | ((try simp only [AllLt] at *); omega)
  k_with "tb_start" => first | exact Pick.head | (apply Pick.tail; tb_start)
  k_with "tb_rel" => first | exact Suff.refl | (refine' Suff.tail ?_; tb_rel)
  k_with "ktr_rel" => first | exact Picks.nil | (refine' Picks.cons ?kqp ?kqq; (case kqp => tb_start); (case kqq => ktr_rel))
  k_with "ktr_unf" => exact ⟨by k_asm, by k_asm, by k_asm, by k_asm, by first | exact rfl | assumption⟩
  k_with "subscriptTail Attribute Name Slice" => (k_here; k_dflt (refine kba_turn (value' := PySem.Expr.Name (PySem.Str.ofString "_") ⟨0, 0, 0, 0⟩) (fun _ => rfl) ?_))
  k_with "subscriptTail Name Slice ref ref" => (k_here; (with_reducible show wpAny _ _ (subscriptTail _ (PySem.Expr.Slice (some _) (some _) none _) (Value.ref _) (Value.ref _)) _ _ _); k_dflt (refine' my_slice ?kqF ?kqN ?kql ?kqi ?kqx ?kqy ?kqz ?_ ?kqs ?kqt; (case kqF => k_asm); (case kqN => k_asm); (case kql => k_mem); (case kqi => k_asm); (case kqx => first | (with_reducible assumption) | omega | ((try simp only [AllLt] at *); omega)); (case kqy => first | (with_reducible assumption) | omega | ((try simp only [AllLt] at *); omega)); (case kqz => first | (with_reducible assumption) | omega | ((try simp only [AllLt] at *); omega)); (case kqs => with_unfolding_all rfl); (case kqt => kmk_pure); k_whole); intro D' ws' h' zs' F' N' l1 hI' hZ' hL'; (try (replace hL' := slice_len hL' (by first | (with_reducible assumption) | omega) (by first | (with_reducible assumption) | omega) (by first | (with_reducible assumption) | omega))); (try k_lt l1); (try k_sweep))
  k_with "setItem ref ref ref" => (k_here; k_dflt (refine' my_setslice ?kqF ?kqN ?kql ?kqU ?kqi ?kqw ?kqx ?kqy ?kqz ?kqzz ?_; (case kqF => k_asm); (case kqN => k_asm); (case kql => k_mem); (case kqU => k_updF); (case kqi => k_asm); (case kqw => k_asm); (case kqx => first | (with_reducible assumption) | omega | ((try simp only [AllLt] at *); omega)); (case kqy => first | (with_reducible assumption) | omega | ((try simp only [AllLt] at *); omega)); (case kqz => first | (with_reducible assumption) | omega | ((try simp only [AllLt] at *); omega)); (case kqzz => first | (with_reducible assumption) | omega | ((try simp only [AllLt] at *); omega)); k_whole); intro vs' n2' h' ns' F' N' hI' hZ' hL'; (try dsimp only at N'); (try k_sweep))
  k_with "call builtin:len" => (k_here; (with_reducible show wpAny _ _ (call (Value.builtin "len") [Value.ref _]) _ _ _); k_dflt (refine' my_len ?kqN ?kql ?kqi ?kqz ?_; (case kqN => k_asm); (case kql => k_mem); (case kqi => k_asm); (case kqz => first | (with_reducible assumption) | omega | ((try simp only [AllLt] at *); omega)); k_whole))
  k_with "pyIter ref" => (k_here; k_dflt (first | (refine' iter_empty ?kqh ?kqF ?kqN ?kqm ?_; (case kqh => exact rfl); (case kqF => k_asm); (case kqN => k_asm); (case kqm => k_mem)) | (refine' iter_empty2 ?kqh ?kqF ?kqN ?kqm ?kqi ?kqz ?_; (case kqh => exact rfl); (case kqF => k_asm); (case kqN => k_asm); (case kqm => k_mem); (case kqi => k_asm); (case kqz => k_asm))); intro h' tk' F' N'; (try dsimp only); (try k_sweep))
  k_with "call ref" => (k_here; (with_reducible show wpAny _ _ (call (Value.ref 48) _) _ _ _); k_dflt (refine' around_le (nw_spec ?kqC ?kqN ?kqP ?_) ?kqd ?kqu; (case kqC => ktr_unf); (case kqN => k_asm); (case kqP => ktr_rel);  (case kqd => exact Nat.le_of_ble_eq_true rfl); (case kqu => exact Nat.le_of_ble_eq_true rfl)); intro h' tk' F' N'; (try dsimp only); (try k_sweep); (try k_fold))
  k_with "call ref" => (k_here; (with_reducible show wpAny _ _ (call (Value.ref 55) _) _ _ _); k_dflt (refine' around_le (reached_spec ?kqC ?kqN ?kqP ?kqh1 ?kqh2 ?kqh3 ?_) ?kqd ?kqu; (case kqC => ktr_unf); (case kqN => k_asm); (case kqP => ktr_rel); (case kqh1 => first | (with_reducible assumption) | omega | ((try simp only [AllLt] at *); omega)); (case kqh2 => first | (with_reducible assumption) | omega | ((try simp only [AllLt] at *); omega)); (case kqh3 => first | (with_reducible assumption) | omega | ((try simp only [AllLt] at *); omega));  (case kqd => exact Nat.le_of_ble_eq_true rfl); (case kqu => exact Nat.le_of_ble_eq_true rfl)); intro D' ta' tb' n' h' tk' F' N' l1; (try k_lt l1); (try dsimp only); (try k_sweep); (try k_fold))
  k_with "call ref" => (k_here; (with_reducible show wpAny _ _ (call (Value.ref 62) _) _ _ _); k_dflt (refine' around_le (ta_spec ?kqC ?kqN ?kqP ?_) ?kqd ?kqu; (case kqC => ktr_unf); (case kqN => k_asm); (case kqP => ktr_rel);  (case kqd => exact Nat.le_of_ble_eq_true rfl); (case kqu => exact Nat.le_of_ble_eq_true rfl)); intro h' tk' F' N'; (try dsimp only); (try k_sweep); (try k_fold))
  k_with "call ref" => (k_here; (with_reducible show wpAny _ _ (call (Value.ref 69) _) _ _ _); k_dflt (refine' around_le (tb_spec ?kqC ?kqN ?kqP ?kqe1 ?kqe2 ?kqr3 ?_) ?kqd ?kqu; (case kqC => ktr_unf); (case kqN => k_asm); (case kqP => ktr_rel); (case kqe1 => first | k_extra "ne_all" | omega); (case kqe2 => first | k_extra "ne_all" | omega); (case kqr3 => k_all);  (case kqd => exact Nat.le_of_ble_eq_true rfl); (case kqu => exact Nat.le_of_ble_eq_true rfl)); intro t1' c1' h' tk' F' N'; (try simp only [List.cons_append, List.nil_append] at N'); (try dsimp only); (try k_sweep); (try k_fold))
  k_with "call ref" => (k_here; (with_reducible show wpAny _ _ (call (Value.ref 90) _) _ _ _); k_dflt (refine' around_le (ho_spec ?kqC ?kqN ?kqP ?_) ?kqd ?kqu; (case kqC => ktr_unf); (case kqN => k_asm); (case kqP => ktr_rel);  (case kqd => exact Nat.le_of_ble_eq_true rfl); (case kqu => exact Nat.le_of_ble_eq_true rfl)); intro h' tk' F' N'; (try dsimp only); (try k_sweep); (try k_fold))
  k_with "call ref" => (k_here; (with_reducible show wpAny _ _ (call (Value.ref 97) _) _ _ _); k_dflt (refine' around_le (hi_spec ?kqC ?kqN ?kqP ?_) ?kqd ?kqu; (case kqC => ktr_unf); (case kqN => k_asm); (case kqP => ktr_rel);  (case kqd => exact Nat.le_of_ble_eq_true rfl); (case kqu => exact Nat.le_of_ble_eq_true rfl)); intro h' tk' F' N'; (try dsimp only); (try k_sweep); (try k_fold))
  k_with "call ref" => (k_here; (with_reducible show wpAny _ _ (call (Value.ref 464) _) _ _ _); k_dflt (refine' around_le (minserted_spec ?kqC ?kqN ?kqP ?kqlo ?kqd1 ?kqd2 ?_) ?kqd ?kqu; (case kqC => ktr_unf); (case kqN => k_asm); (case kqP => ktr_rel); (case kqlo => k_asm); (case kqd1 => k_asm); (case kqd2 => k_asm);  (case kqd => exact Nat.le_of_ble_eq_true rfl); (case kqu => exact Nat.le_of_ble_eq_true rfl)); intro h' tk' F' N'; (try dsimp only); (try k_sweep); (try k_fold))
  k_with "call ref" => (k_here; (with_reducible show wpAny _ _ (call (Value.ref 471) _) _ _ _); k_dflt (refine' around_le (mdeleted_spec ?kqC ?kqN ?kqP ?kqlo ?kqd1 ?kqd2 ?_) ?kqd ?kqu; (case kqC => ktr_unf); (case kqN => k_asm); (case kqP => ktr_rel); (case kqlo => k_asm); (case kqd1 => k_asm); (case kqd2 => k_asm);  (case kqd => exact Nat.le_of_ble_eq_true rfl); (case kqu => exact Nat.le_of_ble_eq_true rfl)); intro h' tk' F' N'; (try dsimp only); (try k_sweep); (try k_fold))
  k_with "call ref" => (k_here; (with_reducible show wpAny _ _ (call (Value.ref 478) _) _ _ _); k_dflt (refine' around_le (mreplaced_spec ?kqC ?kqN ?kqP ?kqlo ?kqd1 ?kqd2 ?_) ?kqd ?kqu; (case kqC => ktr_unf); (case kqN => k_asm); (case kqP => ktr_rel); (case kqlo => k_asm); (case kqd1 => k_asm); (case kqd2 => k_asm);  (case kqd => exact Nat.le_of_ble_eq_true rfl); (case kqu => exact Nat.le_of_ble_eq_true rfl)); intro h' tk' F' N'; (try dsimp only); (try k_sweep); (try k_fold))
  k_with "call ref" => (k_here; (with_reducible show wpAny _ _ (call (Value.ref 76) _) _ _ _); k_dflt (refine' around_le (tout_spec ?kqC ?kqN ?kqP ?kqap ?kqr1 ?kqr2 ?kqr3 ?kqi ?kql ?kqh0 ?kqh1 ?kqh2 ?kqhz ?kqh3 ?kqh4 ?kqh5 ?_) ?kqd ?kqu; (case kqC => ktr_unf); (case kqN => k_asm); (case kqP => ktr_rel); (case kqap => k_asm); (case kqr1 => k_all); (case kqr2 => k_all); (case kqr3 => k_all); (case kqi => k_asm); (case kql => first | (with_reducible assumption) | omega | ((try simp only [AllLt] at *); omega)); (case kqh0 => first | (with_reducible assumption) | omega | ((try simp only [AllLt] at *); omega)); (case kqh1 => first | (with_reducible assumption) | omega | ((try simp only [AllLt] at *); omega)); (case kqh2 => first | (with_reducible assumption) | omega | ((try simp only [AllLt] at *); omega)); (case kqhz => first | (with_reducible assumption) | omega | ((try simp only [AllLt] at *); omega)); (case kqh3 => first | (with_reducible assumption) | omega | ((try simp only [AllLt] at *); omega)); (case kqh4 => first | (with_reducible assumption) | omega | ((try simp only [AllLt] at *); omega)); (case kqh5 => first | (with_reducible assumption) | omega | ((try simp only [AllLt] at *); omega));  (case kqd => exact Nat.le_of_ble_eq_true rfl); (case kqu => exact Nat.le_of_ble_eq_true rfl)); intro D' ws' nd' vs' ns' n2' gs' t3' ge' t4' pt' p1' z1' h' tk' F' N' l1 hI' hL' hG0' hG1' hG2' hG3' hT'; (try k_lt l1); (try simp only [List.cons_append, List.nil_append] at N'); (try dsimp only); (try k_sweep); (try k_fold))
  k_with "call ref" => (k_here; (with_reducible show wpAny _ _ (call (Value.ref 83) _) _ _ _); k_dflt (refine' around_le (tin_spec ?kqC ?kqN ?kqP ?kqap ?kqe4 ?kqe5 ?kqe6 ?kqr1 ?kqr2 ?kqr3 ?kqi ?kqw ?kql ?kqh0 ?kqh1 ?kqh2 ?kqhz ?kqh3 ?kqh4 ?kqh5 ?kqhr ?_) ?kqd ?kqu; (case kqC => ktr_unf); (case kqN => k_asm); (case kqP => ktr_rel); (case kqap => k_asm); (case kqe4 => first | k_extra "ne_all" | omega); (case kqe5 => first | k_extra "ne_all" | omega); (case kqe6 => first | k_extra "ne_all" | omega); (case kqr1 => k_all); (case kqr2 => k_all); (case kqr3 => k_all); (case kqi => k_asm); (case kqw => k_asm); (case kql => first | (with_reducible assumption) | omega | ((try simp only [AllLt] at *); omega)); (case kqh0 => first | (with_reducible assumption) | omega | ((try simp only [AllLt] at *); omega)); (case kqh1 => first | (with_reducible assumption) | omega | ((try simp only [AllLt] at *); omega)); (case kqh2 => first | (with_reducible assumption) | omega | ((try simp only [AllLt] at *); omega)); (case kqhz => first | (with_reducible assumption) | omega | ((try simp only [AllLt] at *); omega)); (case kqh3 => first | (with_reducible assumption) | omega | ((try simp only [AllLt] at *); omega)); (case kqh4 => first | (with_reducible assumption) | omega | ((try simp only [AllLt] at *); omega)); (case kqh5 => first | (with_reducible assumption) | omega | ((try simp only [AllLt] at *); omega)); (case kqhr => k_asm);  (case kqd => exact Nat.le_of_ble_eq_true rfl); (case kqu => exact Nat.le_of_ble_eq_true rfl)); intro vs' ns' n2' gs' t3' ge' t4' pt' p1' z1' h' tk' F' N' hI' hL' hG0' hG1' hG2' hG3' hT'; (try simp only [List.cons_append, List.nil_append] at N'); (try dsimp only); (try k_sweep); (try k_fold))
  k_with "call ref" => (k_here; (with_reducible show wpAny _ _ (call (Value.ref 104) _) _ _ _); k_dflt (refine' around_le (putin_spec ?kqC ?kqN ?kqP ?kqap ?kqe4 ?kqr1 ?kqr2 ?kqr3 ?kqi ?kql ?kqh0 ?kqh1 ?kqh2 ?kqhz ?kqhr ?kqlo ?kqd1 ?kqd2 ?kqw ?kqh3 ?kqh4 ?kqh5 ?_) ?kqd ?kqu; (case kqC => ktr_unf); (case kqN => k_asm); (case kqP => ktr_rel); (case kqap => k_asm); (case kqe4 => first | k_extra "ne_all" | omega); (case kqr1 => k_all); (case kqr2 => k_all); (case kqr3 => k_all); (case kqi => k_asm); (case kql => first | (with_reducible assumption) | omega | ((try simp only [AllLt] at *); omega)); (case kqh0 => first | (with_reducible assumption) | omega | ((try simp only [AllLt] at *); omega)); (case kqh1 => first | (with_reducible assumption) | omega | ((try simp only [AllLt] at *); omega)); (case kqh2 => first | (with_reducible assumption) | omega | ((try simp only [AllLt] at *); omega)); (case kqhz => first | (with_reducible assumption) | omega | ((try simp only [AllLt] at *); omega)); (case kqhr => k_asm); (case kqlo => k_asm); (case kqd1 => k_asm); (case kqd2 => k_asm); (case kqw => k_asm); (case kqh3 => first | (with_reducible assumption) | omega | ((try simp only [AllLt] at *); omega)); (case kqh4 => first | (with_reducible assumption) | omega | ((try simp only [AllLt] at *); omega)); (case kqh5 => first | (with_reducible assumption) | omega | ((try simp only [AllLt] at *); omega));  (case kqd => exact Nat.le_of_ble_eq_true rfl); (case kqu => exact Nat.le_of_ble_eq_true rfl)); intro vs' ns' n2' gs' t3' ge' t4' pt' p1' zv' z1' tk1' t1' ck1' c1' h' tk' F' N' hI' hL' hG0' hG1' hG2' hz' hzz' hk' hT'; (try simp only [List.cons_append, List.nil_append] at N'); (try dsimp only); (try k_sweep); (try k_fold))
  trivial
def delete_spec_H (b : Addr) (db : Addr) (g : Addr) (mk : Addr) (ls : Addr) (K : BKeys) (pt : Int) (zv : Int) (tk : Int) (ck : Int) (sk : Int) (p1 : Tok) (z1 : Tok) (t1 : Tok) (c1 : Tok) (s1 : Tok) (dg : Addr) (c : Addr) (vs : List Value) (ns : List Int) (n2 : Nat) (G : GKeys) (gs : Int) (ge : Int) (t3 : Tok) (t4 : Tok) (dm : Addr) (rw : Addr) (hm : Int) (km : Tok) (orw : Obj) (nl : Nat) (news : List (Addr × Obj)) (rest : List (Addr × Obj)) (i : Int) (j : Int) (ti : Tok) (tj : Tok) (prog : Program) (w : World) (p : Program) (loose : List Str) (mean : ExcName → Option Value) (mg : Str → Option Value) (mb : Str → Option Value) (cn : Str) (cs : Scope) (a : Addr) (ccd : Value) (cl : List (Str × Addr)) (outer : List Env) (A₀ : Around) (base : Heap) (h₀ : Heap) (L : Addr) (m : Str → Option Value) (s : Shared) (Q : Value → Shared → Prop) (E : Value → Shared → Prop) (zR : Prop) : Prop := ∀ (C : Cx w p loose mean mg mb A₀ base outer h₀ L s.heap m cs) (N : News h₀ L s.heap news) (P : Picks [(b, instObj 622 db), (db, bufD K g mk ls pt p1 zv z1 false tk t1 ck c1 sk s1), (g, instObj 411 dg), (dg, gapD G c gs t3 ge t4), (c, listOf (List.toArray vs) n2), (mk, instObj 481 dm), (dm, mkD hm km rw), (rw, orw), (ls, listOf #[] nl)] news rest) (ap : Apart [db, b, dg, g, c, dm, mk, rw, ls]) (r1 : ∀ q ∈ rest, q.1 ≠ c) (r2 : ∀ q ∈ rest, q.1 ≠ dg) (r3 : ∀ q ∈ rest, q.1 ≠ db) (hi : IntsAre vs ns) (hlen : ns.length ≤ 3000) (h0 : 0 ≤ gs) (h1 : gs ≤ ge) (h2 : ge ≤ ns.length) (hz : zv = ns.length - ge + gs + 1) (hr : G.room = 8) (lo : (rw == sysModules) = false) (d1 : orw.IsDictOf (strKind prog w) []) (d2 : orw.IsDictOf (intKind prog w) []) (h3 : 1 ≤ i) (h4 : i < j) (h5 : j ≤ zv) (ret : ∀ D vs' ns' n2' gs' t3' ge' t4' pt' p1' zv' z1' tk1' t1' ck1' c1' h' tk', Fr h₀ L h' m → News h₀ L h' ([(b, instObj 622 db), (db, bufD K g mk ls pt' p1' zv' z1' false tk1' t1' ck1' c1' sk s1), (g, instObj 411 dg), (dg, gapD G c gs' t3' ge' t4'), (c, listOf (List.toArray vs') n2'), (mk, instObj 481 dm), (dm, mkD hm km rw), (rw, orw), (ls, listOf #[] nl)] ++ rest) → IntsAre vs' ns' → ns'.length ≤ ns.length + 8 → 0 ≤ gs' → gs' ≤ ge' → ge' ≤ ns'.length → zv' = ns'.length - ge' + gs' + 1 → zv' = zv - (j - i) → tk1' = tk + 1 → gtext ns' gs' ge' = (gtext ns gs ge).take (i - 1).toNat ++ (gtext ns gs ge).drop (j - 1).toNat → Q (.ref D) { s with heap := h', toks := tk' }), zR
set_option maxRecDepth 100000 in
set_option maxHeartbeats 8000000 in
noncomputable def delete_spec_k (b : Addr) (db : Addr) (g : Addr) (mk : Addr) (ls : Addr) (K : BKeys) (pt : Int) (zv : Int) (tk : Int) (ck : Int) (sk : Int) (p1 : Tok) (z1 : Tok) (t1 : Tok) (c1 : Tok) (s1 : Tok) (dg : Addr) (c : Addr) (vs : List Value) (ns : List Int) (n2 : Nat) (G : GKeys) (gs : Int) (ge : Int) (t3 : Tok) (t4 : Tok) (dm : Addr) (rw : Addr) (hm : Int) (km : Tok) (orw : Obj) (nl : Nat) (news : List (Addr × Obj)) (rest : List (Addr × Obj)) (i : Int) (j : Int) (ti : Tok) (tj : Tok) (prog : Program) (w : World) (p : Program) (loose : List Str) (mean : ExcName → Option Value) (mg : Str → Option Value) (mb : Str → Option Value) (cn : Str) (cs : Scope) (a : Addr) (ccd : Value) (cl : List (Str × Addr)) (outer : List Env) (A₀ : Around) (base : Heap) (h₀ : Heap) (L : Addr) (m : Str → Option Value) (s : Shared) (Q : Value → Shared → Prop) (E : Value → Shared → Prop) : PSigma (fun zP : Heap → Addr → Heap → Prop => (∀ zq1 zq2 zq3, delete_spec_H b db g mk ls K pt zv tk ck sk p1 z1 t1 c1 s1 dg c vs ns n2 G gs ge t3 t4 dm rw hm km orw nl news rest i j ti tj prog w p loose mean mg mb cn cs a ccd cl outer A₀ base h₀ L m s Q E (zP zq1 zq2 zq3)) → delete_spec_H b db g mk ls K pt zv tk ck sk p1 z1 t1 c1 s1 dg c vs ns n2 G gs ge t3 t4 dm rw hm km orw nl news rest i j ti tj prog w p loose mean mg mb cn cs a ccd cl outer A₀ base h₀ L m s Q E (wpAny (model prog w) (ktrTop 920 9200 none cn cs L a ccd cl outer) (call (.ref 127) [.ref b, .int i ti, .int j tj]) Q E s)) := by
  refine ⟨?zG, fun zH C N P ap r1 r2 r3 hi hlen h0 h1 h2 hz hr lo d1 d2 h3 h4 h5 ret => ?zh⟩
  case zh =>
    have zc := fun zq1 zq2 zq3 => zH zq1 zq2 zq3 C N P ap r1 r2 r3 hi hlen h0 h1 h2 hz hr lo d1 d2 h3 h4 h5 ret
    clear zH
    obtain ⟨B, F, X, T, hk⟩ := C
    replace N := news_picks N P
    simp only [List.cons_append, List.nil_append] at N
    refine wpAny_call ?_
    k_dflt cell_enter
    rename_i g9 L9 h9 FG9 F9 N9 B9 X9 T9
    revert FG9 F9 N9 B9 X9 T9
    exact zc g9 L9 h9
abbrev delete_spec_P : Type := ((((((Heap × Addr) × (Heap × Addr)) × ((Addr × Addr) × (Addr × Addr))) × (((BKeys × Int) × (Int × Int)) × ((Int × Int) × (Tok × Tok)))) × ((((Tok × Tok) × (Tok × Addr)) × ((Addr × (List Value)) × ((List Int) × Nat))) × (((GKeys × Int) × (Int × Tok)) × ((Tok × Addr) × Addr)))) × (((((Int × Tok) × (Obj × Nat)) × (((List (Addr × Obj)) × (List (Addr × Obj))) × (Int × Int))) × (((Tok × Tok) × (Program × World)) × ((Program × (List Str)) × ((ExcName → Option Value) × (Str → Option Value))))) × (((((Str → Option Value) × Str) × (Scope × Addr)) × ((Value × (List (Str × Addr))) × ((List Env) × Around))) × (((Heap × Heap) × (Addr × (Str → Option Value))) × ((Shared × (Value → Shared → Prop)) × (Value → Shared → Prop))))))
abbrev delete_spec_F (x : delete_spec_P) : Prop := delete_spec_H (x.1.1.1.1.2.2) (x.1.1.1.2.1.1) (x.1.1.1.2.1.2) (x.1.1.1.2.2.1) (x.1.1.1.2.2.2) (x.1.1.2.1.1.1) (x.1.1.2.1.1.2) (x.1.1.2.1.2.1) (x.1.1.2.1.2.2) (x.1.1.2.2.1.1) (x.1.1.2.2.1.2) (x.1.1.2.2.2.1) (x.1.1.2.2.2.2) (x.1.2.1.1.1.1) (x.1.2.1.1.1.2) (x.1.2.1.1.2.1) (x.1.2.1.1.2.2) (x.1.2.1.2.1.1) (x.1.2.1.2.1.2) (x.1.2.1.2.2.1) (x.1.2.1.2.2.2) (x.1.2.2.1.1.1) (x.1.2.2.1.1.2) (x.1.2.2.1.2.1) (x.1.2.2.1.2.2) (x.1.2.2.2.1.1) (x.1.2.2.2.1.2) (x.1.2.2.2.2) (x.2.1.1.1.1.1) (x.2.1.1.1.1.2) (x.2.1.1.1.2.1) (x.2.1.1.1.2.2) (x.2.1.1.2.1.1) (x.2.1.1.2.1.2) (x.2.1.1.2.2.1) (x.2.1.1.2.2.2) (x.2.1.2.1.1.1) (x.2.1.2.1.1.2) (x.2.1.2.1.2.1) (x.2.1.2.1.2.2) (x.2.1.2.2.1.1) (x.2.1.2.2.1.2) (x.2.1.2.2.2.1) (x.2.1.2.2.2.2) (x.2.2.1.1.1.1) (x.2.2.1.1.1.2) (x.2.2.1.1.2.1) (x.2.2.1.1.2.2) (x.2.2.1.2.1.1) (x.2.2.1.2.1.2) (x.2.2.1.2.2.1) (x.2.2.1.2.2.2) (x.2.2.2.1.1.1) (x.2.2.2.1.1.2) (x.2.2.2.1.2.1) (x.2.2.2.1.2.2) (x.2.2.2.2.1.1) (x.2.2.2.2.1.2) (x.2.2.2.2.2)  ((delete_spec_k (x.1.1.1.1.2.2) (x.1.1.1.2.1.1) (x.1.1.1.2.1.2) (x.1.1.1.2.2.1) (x.1.1.1.2.2.2) (x.1.1.2.1.1.1) (x.1.1.2.1.1.2) (x.1.1.2.1.2.1) (x.1.1.2.1.2.2) (x.1.1.2.2.1.1) (x.1.1.2.2.1.2) (x.1.1.2.2.2.1) (x.1.1.2.2.2.2) (x.1.2.1.1.1.1) (x.1.2.1.1.1.2) (x.1.2.1.1.2.1) (x.1.2.1.1.2.2) (x.1.2.1.2.1.1) (x.1.2.1.2.1.2) (x.1.2.1.2.2.1) (x.1.2.1.2.2.2) (x.1.2.2.1.1.1) (x.1.2.2.1.1.2) (x.1.2.2.1.2.1) (x.1.2.2.1.2.2) (x.1.2.2.2.1.1) (x.1.2.2.2.1.2) (x.1.2.2.2.2) (x.2.1.1.1.1.1) (x.2.1.1.1.1.2) (x.2.1.1.1.2.1) (x.2.1.1.1.2.2) (x.2.1.1.2.1.1) (x.2.1.1.2.1.2) (x.2.1.1.2.2.1) (x.2.1.1.2.2.2) (x.2.1.2.1.1.1) (x.2.1.2.1.1.2) (x.2.1.2.1.2.1) (x.2.1.2.1.2.2) (x.2.1.2.2.1.1) (x.2.1.2.2.1.2) (x.2.1.2.2.2.1) (x.2.1.2.2.2.2) (x.2.2.1.1.1.1) (x.2.2.1.1.1.2) (x.2.2.1.1.2.1) (x.2.2.1.1.2.2) (x.2.2.1.2.1.1) (x.2.2.1.2.1.2) (x.2.2.1.2.2.1) (x.2.2.1.2.2.2) (x.2.2.2.1.1.1) (x.2.2.2.1.1.2) (x.2.2.2.1.2.1) (x.2.2.2.1.2.2) (x.2.2.2.2.1.1) (x.2.2.2.2.1.2) (x.2.2.2.2.2) ).1 (x.1.1.1.1.1.1) (x.1.1.1.1.1.2) (x.1.1.1.1.2.1))
theorem delete_spec_ex : ∃ x : delete_spec_P, delete_spec_F x → ∀ y : delete_spec_P, delete_spec_F y := drinker ⟨((((((default, (0 : Nat)), (default, (0 : Nat))), (((0 : Nat), (0 : Nat)), ((0 : Nat), (0 : Nat)))), (((bkeys0, 0), (0, 0)), ((0, 0), ((0 : Nat), (0 : Nat))))), (((((0 : Nat), (0 : Nat)), ((0 : Nat), (0 : Nat))), (((0 : Nat), []), ([], 0))), (((gkeys0, 0), (0, (0 : Nat))), (((0 : Nat), (0 : Nat)), (0 : Nat))))), (((((0, (0 : Nat)), (default, 0)), (([], []), (0, 0))), ((((0 : Nat), (0 : Nat)), (default, world0)), ((default, []), (fun _ => none, fun _ => none)))), ((((fun _ => none, default), (default, (0 : Nat))), ((.none, []), ([], {}))), (((default, default), ((0 : Nat), fun _ => none)), (({}, fun _ _ => True), fun _ _ => True)))))⟩
noncomputable def delete_spec_x : delete_spec_P := delete_spec_ex.choose
namespace delete_spec_n
noncomputable def g9 : Heap := delete_spec_x.1.1.1.1.1.1
noncomputable def L9 : Addr := delete_spec_x.1.1.1.1.1.2
noncomputable def h9 : Heap := delete_spec_x.1.1.1.1.2.1
noncomputable def b : Addr := delete_spec_x.1.1.1.1.2.2
noncomputable def db : Addr := delete_spec_x.1.1.1.2.1.1
noncomputable def g : Addr := delete_spec_x.1.1.1.2.1.2
noncomputable def mk : Addr := delete_spec_x.1.1.1.2.2.1
noncomputable def ls : Addr := delete_spec_x.1.1.1.2.2.2
noncomputable def K : BKeys := delete_spec_x.1.1.2.1.1.1
noncomputable def pt : Int := delete_spec_x.1.1.2.1.1.2
noncomputable def zv : Int := delete_spec_x.1.1.2.1.2.1
noncomputable def tk : Int := delete_spec_x.1.1.2.1.2.2
noncomputable def ck : Int := delete_spec_x.1.1.2.2.1.1
noncomputable def sk : Int := delete_spec_x.1.1.2.2.1.2
noncomputable def p1 : Tok := delete_spec_x.1.1.2.2.2.1
noncomputable def z1 : Tok := delete_spec_x.1.1.2.2.2.2
noncomputable def t1 : Tok := delete_spec_x.1.2.1.1.1.1
noncomputable def c1 : Tok := delete_spec_x.1.2.1.1.1.2
noncomputable def s1 : Tok := delete_spec_x.1.2.1.1.2.1
noncomputable def dg : Addr := delete_spec_x.1.2.1.1.2.2
noncomputable def c : Addr := delete_spec_x.1.2.1.2.1.1
noncomputable def vs : List Value := delete_spec_x.1.2.1.2.1.2
noncomputable def ns : List Int := delete_spec_x.1.2.1.2.2.1
noncomputable def n2 : Nat := delete_spec_x.1.2.1.2.2.2
noncomputable def G : GKeys := delete_spec_x.1.2.2.1.1.1
noncomputable def gs : Int := delete_spec_x.1.2.2.1.1.2
noncomputable def ge : Int := delete_spec_x.1.2.2.1.2.1
noncomputable def t3 : Tok := delete_spec_x.1.2.2.1.2.2
noncomputable def t4 : Tok := delete_spec_x.1.2.2.2.1.1
noncomputable def dm : Addr := delete_spec_x.1.2.2.2.1.2
noncomputable def rw : Addr := delete_spec_x.1.2.2.2.2
noncomputable def hm : Int := delete_spec_x.2.1.1.1.1.1
noncomputable def km : Tok := delete_spec_x.2.1.1.1.1.2
noncomputable def orw : Obj := delete_spec_x.2.1.1.1.2.1
noncomputable def nl : Nat := delete_spec_x.2.1.1.1.2.2
noncomputable def news : List (Addr × Obj) := delete_spec_x.2.1.1.2.1.1
noncomputable def rest : List (Addr × Obj) := delete_spec_x.2.1.1.2.1.2
noncomputable def i : Int := delete_spec_x.2.1.1.2.2.1
noncomputable def j : Int := delete_spec_x.2.1.1.2.2.2
noncomputable def ti : Tok := delete_spec_x.2.1.2.1.1.1
noncomputable def tj : Tok := delete_spec_x.2.1.2.1.1.2
noncomputable def prog : Program := delete_spec_x.2.1.2.1.2.1
noncomputable def w : World := delete_spec_x.2.1.2.1.2.2
noncomputable def p : Program := delete_spec_x.2.1.2.2.1.1
noncomputable def loose : List Str := delete_spec_x.2.1.2.2.1.2
noncomputable def mean : ExcName → Option Value := delete_spec_x.2.1.2.2.2.1
noncomputable def mg : Str → Option Value := delete_spec_x.2.1.2.2.2.2
noncomputable def mb : Str → Option Value := delete_spec_x.2.2.1.1.1.1
noncomputable def cn : Str := delete_spec_x.2.2.1.1.1.2
noncomputable def cs : Scope := delete_spec_x.2.2.1.1.2.1
noncomputable def a : Addr := delete_spec_x.2.2.1.1.2.2
noncomputable def ccd : Value := delete_spec_x.2.2.1.2.1.1
noncomputable def cl : List (Str × Addr) := delete_spec_x.2.2.1.2.1.2
noncomputable def outer : List Env := delete_spec_x.2.2.1.2.2.1
noncomputable def A₀ : Around := delete_spec_x.2.2.1.2.2.2
noncomputable def base : Heap := delete_spec_x.2.2.2.1.1.1
noncomputable def h₀ : Heap := delete_spec_x.2.2.2.1.1.2
noncomputable def L : Addr := delete_spec_x.2.2.2.1.2.1
noncomputable def m : Str → Option Value := delete_spec_x.2.2.2.1.2.2
noncomputable def s : Shared := delete_spec_x.2.2.2.2.1.1
noncomputable def Q : Value → Shared → Prop := delete_spec_x.2.2.2.2.1.2
noncomputable def E : Value → Shared → Prop := delete_spec_x.2.2.2.2.2
set_option maxRecDepth 100000 in
set_option maxHeartbeats 8000000 in
theorem main  : delete_spec_H b db g mk ls K pt zv tk ck sk p1 z1 t1 c1 s1 dg c vs ns n2 G gs ge t3 t4 dm rw hm km orw nl news rest i j ti tj prog w p loose mean mg mb cn cs a ccd cl outer A₀ base h₀ L m s Q E ((delete_spec_k b db g mk ls K pt zv tk ck sk p1 z1 t1 c1 s1 dg c vs ns n2 G gs ge t3 t4 dm rw hm km orw nl news rest i j ti tj prog w p loose mean mg mb cn cs a ccd cl outer A₀ base h₀ L m s Q E).1 g9 L9 h9) := by
  intro C N P ap r1 r2 r3 hi hlen h0 h1 h2 hz hr lo d1 d2 h3 h4 h5 ret
  obtain ⟨B, F, X, T, hk⟩ := C
  have ap1 := ap
  simp only [Apart, and_true] at ap1
  have ap5 : Apart [db, b, dg, g, c] := by simp only [Apart, and_true]; omega
  have hgl := gtext_length h0 h1 h2
  replace N := news_picks N P
  simp only [List.cons_append, List.nil_append] at N
  delta delete_spec_k
  dsimp only
  intro _ _ _ _ _ _
  (rename Fr _ _ _ _ => F9); replace F9 := fr_binds F9 (bs := [(Str.ofString "buffer", _), (Str.ofString "start", _), (Str.ofString "end", _)]) rfl
  k_steps
  all_goals exact ret _ _ _ _ _ _ _ _ _ _ _ _ _ _ _ _ _ _ (by k_asm) (news_back (by k_asm) (by ktr_rel) (by tb_rel)) (by assumption) (by k_extra "ord") (by k_extra "ord") (by k_extra "ord") (by k_extra "ord") (by k_extra "ord") (by k_extra "ord") (by k_extra "ord") (by first | assumption | (exfalso; omega))
end delete_spec_n
theorem delete_spec {prog : Program} {w : World} {p : Program} {loose : List Str} {mean : ExcName → Option Value} {mg : Str → Option Value} {mb : Str → Option Value} {cn : Str} {cs : Scope} {a : Addr} {ccd : Value} {cl : List (Str × Addr)} {outer : List Env} {A₀ : Around} {base : Heap} {h₀ : Heap} {L : Addr} {m : Str → Option Value} {s : Shared} {Q : Value → Shared → Prop} {E : Value → Shared → Prop} {b : Addr} {db : Addr} {g : Addr} {mk : Addr} {ls : Addr} {K : BKeys} {pt : Int} {zv : Int} {tk : Int} {ck : Int} {sk : Int} {p1 : Tok} {z1 : Tok} {t1 : Tok} {c1 : Tok} {s1 : Tok} {dg : Addr} {c : Addr} {vs : List Value} {ns : List Int} {n2 : Nat} {G : GKeys} {gs : Int} {ge : Int} {t3 : Tok} {t4 : Tok} {dm : Addr} {rw : Addr} {hm : Int} {km : Tok} {orw : Obj} {nl : Nat} {news : List (Addr × Obj)} {rest : List (Addr × Obj)} {i : Int} {j : Int} {ti : Tok} {tj : Tok} : delete_spec_H b db g mk ls K pt zv tk ck sk p1 z1 t1 c1 s1 dg c vs ns n2 G gs ge t3 t4 dm rw hm km orw nl news rest i j ti tj prog w p loose mean mg mb cn cs a ccd cl outer A₀ base h₀ L m s Q E (wpAny (model prog w) (ktrTop 920 9200 none cn cs L a ccd cl outer) (call (.ref 127) [.ref b, .int i ti, .int j tj]) Q E s) := (delete_spec_k b db g mk ls K pt zv tk ck sk p1 z1 t1 c1 s1 dg c vs ns n2 G gs ge t3 t4 dm rw hm km orw nl news rest i j ti tj prog w p loose mean mg mb cn cs a ccd cl outer A₀ base h₀ L m s Q E).2 (fun g9 L9 h9 => delete_spec_ex.choose_spec (delete_spec_n.main ) ((((((g9, L9), (h9, b)), ((db, g), (mk, ls))), (((K, pt), (zv, tk)), ((ck, sk), (p1, z1)))), ((((t1, c1), (s1, dg)), ((c, vs), (ns, n2))), (((G, gs), (ge, t3)), ((t4, dm), rw)))), (((((hm, km), (orw, nl)), ((news, rest), (i, j))), (((ti, tj), (prog, w)), ((p, loose), (mean, mg)))), ((((mb, cn), (cs, a)), ((ccd, cl), (outer, A₀))), (((base, h₀), (L, m)), ((s, Q), E))))) )
theorem lines_B4_2 : True := by
  k_with "call ref" => (k_here; (with_reducible show wpAny _ _ (call (Value.ref 127) _) _ _ _); k_dflt (refine' around_le (delete_spec ?kqC ?kqN ?kqP ?kqap ?kqr1 ?kqr2 ?kqr3 ?kqi ?kql ?kqh0 ?kqh1 ?kqh2 ?kqhz ?kqhr ?kqlo ?kqd1 ?kqd2 ?kqh3 ?kqh4 ?kqh5 ?_) ?kqd ?kqu; (case kqC => ktr_unf); (case kqN => k_asm); (case kqP => ktr_rel); (case kqap => k_asm); (case kqr1 => k_all); (case kqr2 => k_all); (case kqr3 => k_all); (case kqi => k_asm); (case kql => first | (with_reducible assumption) | omega | ((try simp only [AllLt] at *); omega)); (case kqh0 => first | (with_reducible assumption) | omega | ((try simp only [AllLt] at *); omega)); (case kqh1 => first | (with_reducible assumption) | omega | ((try simp only [AllLt] at *); omega)); (case kqh2 => first | (with_reducible assumption) | omega | ((try simp only [AllLt] at *); omega)); (case kqhz => first | (with_reducible assumption) | omega | ((try simp only [AllLt] at *); omega)); (case kqhr => k_asm); (case kqlo => k_asm); (case kqd1 => k_asm); (case kqd2 => k_asm); (case kqh3 => first | (with_reducible assumption) | omega | ((try simp only [AllLt] at *); omega)); (case kqh4 => first | (with_reducible assumption) | omega | ((try simp only [AllLt] at *); omega)); (case kqh5 => first | (with_reducible assumption) | omega | ((try simp only [AllLt] at *); omega));  (case kqd => exact Nat.le_of_ble_eq_true rfl); (case kqu => exact Nat.le_of_ble_eq_true rfl)); intro D' vs' ns' n2' gs' t3' ge' t4' pt' p1' zv' z1' tk1' t1' ck1' c1' h' tk' F' N' hI' hL' hG0' hG1' hG2' hz' hzz' hk' hT'; (try simp only [List.cons_append, List.nil_append] at N'); (try dsimp only); (try k_sweep); (try k_fold))
  trivial
def replace_spec_H (b : Addr) (db : Addr) (g : Addr) (mk : Addr) (ls : Addr) (K : BKeys) (pt : Int) (zv : Int) (tk : Int) (ck : Int) (sk : Int) (p1 : Tok) (z1 : Tok) (t1 : Tok) (c1 : Tok) (s1 : Tok) (dg : Addr) (c : Addr) (vs : List Value) (ns : List Int) (n2 : Nat) (G : GKeys) (gs : Int) (ge : Int) (t3 : Tok) (t4 : Tok) (dm : Addr) (rw : Addr) (hm : Int) (km : Tok) (orw : Obj) (nl : Nat) (l : Addr) (ws : List Value) (nl2 : Nat) (news : List (Addr × Obj)) (rest : List (Addr × Obj)) (i : Int) (ti : Tok) (tj : Tok) (prog : Program) (w : World) (p : Program) (loose : List Str) (mean : ExcName → Option Value) (mg : Str → Option Value) (mb : Str → Option Value) (cn : Str) (cs : Scope) (a : Addr) (ccd : Value) (cl : List (Str × Addr)) (outer : List Env) (A₀ : Around) (base : Heap) (h₀ : Heap) (L : Addr) (m : Str → Option Value) (s : Shared) (Q : Value → Shared → Prop) (E : Value → Shared → Prop) (zs : List Int) (j : Int) (zR : Prop) : Prop := ∀ (C : Cx w p loose mean mg mb A₀ base outer h₀ L s.heap m cs) (N : News h₀ L s.heap news) (P : Picks [(b, instObj 622 db), (db, bufD K g mk ls pt p1 zv z1 false tk t1 ck c1 sk s1), (g, instObj 411 dg), (dg, gapD G c gs t3 ge t4), (c, listOf (List.toArray vs) n2), (mk, instObj 481 dm), (dm, mkD hm km rw), (rw, orw), (ls, listOf #[] nl), (l, listOf ws.toArray nl2)] news rest) (ap : Apart [db, b, dg, g, c, dm, mk, rw, ls]) (e4 : @LT.lt Nat _ ls l) (r1 : ∀ q ∈ rest, q.1 ≠ c) (r2 : ∀ q ∈ rest, q.1 ≠ dg) (r3 : ∀ q ∈ rest, q.1 ≠ db) (hi : IntsAre vs ns) (hlen : ns.length ≤ 3000) (h0 : 0 ≤ gs) (h1 : gs ≤ ge) (h2 : ge ≤ ns.length) (hz : zv = ns.length - ge + gs + 1) (hr : G.room = 8) (lo : (rw == sysModules) = false) (d1 : orw.IsDictOf (strKind prog w) []) (d2 : orw.IsDictOf (intKind prog w) []) (hw : IntsAre ws zs) (h3 : 1 ≤ i) (h4 : i ≤ j) (h5 : j ≤ zv) (h6 : zs.length ≤ 100) (h7 : i < j ∨ 0 < zs.length) (ret : ∀ D vs' ns' n2' gs' t3' ge' t4' pt' p1' zv' z1' tk1' t1' ck1' c1' h' tk', Fr h₀ L h' m → News h₀ L h' ([(b, instObj 622 db), (db, bufD K g mk ls pt' p1' zv' z1' false tk1' t1' ck1' c1' sk s1), (g, instObj 411 dg), (dg, gapD G c gs' t3' ge' t4'), (c, listOf (List.toArray vs') n2'), (mk, instObj 481 dm), (dm, mkD hm km rw), (rw, orw), (ls, listOf #[] nl), (l, listOf ws.toArray nl2)] ++ rest) → IntsAre vs' ns' → ns'.length ≤ ns.length + zs.length + 8 → 0 ≤ gs' → gs' ≤ ge' → ge' ≤ ns'.length → zv' = ns'.length - ge' + gs' + 1 → zv' = zv - (j - i) + zs.length → tk1' = tk + 1 → gtext ns' gs' ge' = (gtext ns gs ge).take (i - 1).toNat ++ zs ++ (gtext ns gs ge).drop (j - 1).toNat → Q (.ref D) { s with heap := h', toks := tk' }), zR
set_option maxRecDepth 100000 in
set_option maxHeartbeats 8000000 in
noncomputable def replace_spec_k (b : Addr) (db : Addr) (g : Addr) (mk : Addr) (ls : Addr) (K : BKeys) (pt : Int) (zv : Int) (tk : Int) (ck : Int) (sk : Int) (p1 : Tok) (z1 : Tok) (t1 : Tok) (c1 : Tok) (s1 : Tok) (dg : Addr) (c : Addr) (vs : List Value) (ns : List Int) (n2 : Nat) (G : GKeys) (gs : Int) (ge : Int) (t3 : Tok) (t4 : Tok) (dm : Addr) (rw : Addr) (hm : Int) (km : Tok) (orw : Obj) (nl : Nat) (l : Addr) (ws : List Value) (nl2 : Nat) (news : List (Addr × Obj)) (rest : List (Addr × Obj)) (i : Int) (ti : Tok) (tj : Tok) (prog : Program) (w : World) (p : Program) (loose : List Str) (mean : ExcName → Option Value) (mg : Str → Option Value) (mb : Str → Option Value) (cn : Str) (cs : Scope) (a : Addr) (ccd : Value) (cl : List (Str × Addr)) (outer : List Env) (A₀ : Around) (base : Heap) (h₀ : Heap) (L : Addr) (m : Str → Option Value) (s : Shared) (Q : Value → Shared → Prop) (E : Value → Shared → Prop) (zs : List Int) (j : Int) : PSigma (fun zP : Heap → Addr → Heap → Prop => (∀ zq1 zq2 zq3, replace_spec_H b db g mk ls K pt zv tk ck sk p1 z1 t1 c1 s1 dg c vs ns n2 G gs ge t3 t4 dm rw hm km orw nl l ws nl2 news rest i ti tj prog w p loose mean mg mb cn cs a ccd cl outer A₀ base h₀ L m s Q E zs j (zP zq1 zq2 zq3)) → replace_spec_H b db g mk ls K pt zv tk ck sk p1 z1 t1 c1 s1 dg c vs ns n2 G gs ge t3 t4 dm rw hm km orw nl l ws nl2 news rest i ti tj prog w p loose mean mg mb cn cs a ccd cl outer A₀ base h₀ L m s Q E zs j (wpAny (model prog w) (ktrTop 900 9000 none cn cs L a ccd cl outer) (call (.ref 134) [.ref b, .int i ti, .int j tj, .ref l]) Q E s)) := by
  refine ⟨?zG, fun zH C N P ap e4 r1 r2 r3 hi hlen h0 h1 h2 hz hr lo d1 d2 hw h3 h4 h5 h6 h7 ret => ?zh⟩
  case zh =>
    have zc := fun zq1 zq2 zq3 => zH zq1 zq2 zq3 C N P ap e4 r1 r2 r3 hi hlen h0 h1 h2 hz hr lo d1 d2 hw h3 h4 h5 h6 h7 ret
    clear zH
    obtain ⟨B, F, X, T, hk⟩ := C
    replace N := news_picks N P
    simp only [List.cons_append, List.nil_append] at N
    refine wpAny_call ?_
    k_dflt cell_enter
    rename_i g9 L9 h9 FG9 F9 N9 B9 X9 T9
    revert FG9 F9 N9 B9 X9 T9
    exact zc g9 L9 h9
abbrev replace_spec_P : Type := ((((((Heap × Addr) × (Heap × Addr)) × ((Addr × Addr) × (Addr × Addr))) × (((BKeys × Int) × (Int × Int)) × ((Int × Int) × (Tok × Tok)))) × ((((Tok × Tok) × (Tok × Addr)) × ((Addr × (List Value)) × ((List Int) × Nat))) × (((GKeys × Int) × (Int × Tok)) × ((Tok × Addr) × (Addr × Int))))) × (((((Tok × Obj) × (Nat × Addr)) × (((List Value) × Nat) × ((List (Addr × Obj)) × (List (Addr × Obj))))) × (((Int × Tok) × (Tok × Program)) × ((World × Program) × ((List Str) × (ExcName → Option Value))))) × (((((Str → Option Value) × (Str → Option Value)) × (Str × Scope)) × ((Addr × Value) × ((List (Str × Addr)) × (List Env)))) × (((Around × Heap) × (Heap × Addr)) × (((Str → Option Value) × Shared) × ((Value → Shared → Prop) × (Value → Shared → Prop)))))))
abbrev replace_spec_F (x : replace_spec_P) : Prop := ∀ (zs : List Int) (j : Int), replace_spec_H (x.1.1.1.1.2.2) (x.1.1.1.2.1.1) (x.1.1.1.2.1.2) (x.1.1.1.2.2.1) (x.1.1.1.2.2.2) (x.1.1.2.1.1.1) (x.1.1.2.1.1.2) (x.1.1.2.1.2.1) (x.1.1.2.1.2.2) (x.1.1.2.2.1.1) (x.1.1.2.2.1.2) (x.1.1.2.2.2.1) (x.1.1.2.2.2.2) (x.1.2.1.1.1.1) (x.1.2.1.1.1.2) (x.1.2.1.1.2.1) (x.1.2.1.1.2.2) (x.1.2.1.2.1.1) (x.1.2.1.2.1.2) (x.1.2.1.2.2.1) (x.1.2.1.2.2.2) (x.1.2.2.1.1.1) (x.1.2.2.1.1.2) (x.1.2.2.1.2.1) (x.1.2.2.1.2.2) (x.1.2.2.2.1.1) (x.1.2.2.2.1.2) (x.1.2.2.2.2.1) (x.1.2.2.2.2.2) (x.2.1.1.1.1.1) (x.2.1.1.1.1.2) (x.2.1.1.1.2.1) (x.2.1.1.1.2.2) (x.2.1.1.2.1.1) (x.2.1.1.2.1.2) (x.2.1.1.2.2.1) (x.2.1.1.2.2.2) (x.2.1.2.1.1.1) (x.2.1.2.1.1.2) (x.2.1.2.1.2.1) (x.2.1.2.1.2.2) (x.2.1.2.2.1.1) (x.2.1.2.2.1.2) (x.2.1.2.2.2.1) (x.2.1.2.2.2.2) (x.2.2.1.1.1.1) (x.2.2.1.1.1.2) (x.2.2.1.1.2.1) (x.2.2.1.1.2.2) (x.2.2.1.2.1.1) (x.2.2.1.2.1.2) (x.2.2.1.2.2.1) (x.2.2.1.2.2.2) (x.2.2.2.1.1.1) (x.2.2.2.1.1.2) (x.2.2.2.1.2.1) (x.2.2.2.1.2.2) (x.2.2.2.2.1.1) (x.2.2.2.2.1.2) (x.2.2.2.2.2.1) (x.2.2.2.2.2.2) zs j ((replace_spec_k (x.1.1.1.1.2.2) (x.1.1.1.2.1.1) (x.1.1.1.2.1.2) (x.1.1.1.2.2.1) (x.1.1.1.2.2.2) (x.1.1.2.1.1.1) (x.1.1.2.1.1.2) (x.1.1.2.1.2.1) (x.1.1.2.1.2.2) (x.1.1.2.2.1.1) (x.1.1.2.2.1.2) (x.1.1.2.2.2.1) (x.1.1.2.2.2.2) (x.1.2.1.1.1.1) (x.1.2.1.1.1.2) (x.1.2.1.1.2.1) (x.1.2.1.1.2.2) (x.1.2.1.2.1.1) (x.1.2.1.2.1.2) (x.1.2.1.2.2.1) (x.1.2.1.2.2.2) (x.1.2.2.1.1.1) (x.1.2.2.1.1.2) (x.1.2.2.1.2.1) (x.1.2.2.1.2.2) (x.1.2.2.2.1.1) (x.1.2.2.2.1.2) (x.1.2.2.2.2.1) (x.1.2.2.2.2.2) (x.2.1.1.1.1.1) (x.2.1.1.1.1.2) (x.2.1.1.1.2.1) (x.2.1.1.1.2.2) (x.2.1.1.2.1.1) (x.2.1.1.2.1.2) (x.2.1.1.2.2.1) (x.2.1.1.2.2.2) (x.2.1.2.1.1.1) (x.2.1.2.1.1.2) (x.2.1.2.1.2.1) (x.2.1.2.1.2.2) (x.2.1.2.2.1.1) (x.2.1.2.2.1.2) (x.2.1.2.2.2.1) (x.2.1.2.2.2.2) (x.2.2.1.1.1.1) (x.2.2.1.1.1.2) (x.2.2.1.1.2.1) (x.2.2.1.1.2.2) (x.2.2.1.2.1.1) (x.2.2.1.2.1.2) (x.2.2.1.2.2.1) (x.2.2.1.2.2.2) (x.2.2.2.1.1.1) (x.2.2.2.1.1.2) (x.2.2.2.1.2.1) (x.2.2.2.1.2.2) (x.2.2.2.2.1.1) (x.2.2.2.2.1.2) (x.2.2.2.2.2.1) (x.2.2.2.2.2.2) zs j).1 (x.1.1.1.1.1.1) (x.1.1.1.1.1.2) (x.1.1.1.1.2.1))
theorem replace_spec_ex : ∃ x : replace_spec_P, replace_spec_F x → ∀ y : replace_spec_P, replace_spec_F y := drinker ⟨((((((default, (0 : Nat)), (default, (0 : Nat))), (((0 : Nat), (0 : Nat)), ((0 : Nat), (0 : Nat)))), (((bkeys0, 0), (0, 0)), ((0, 0), ((0 : Nat), (0 : Nat))))), (((((0 : Nat), (0 : Nat)), ((0 : Nat), (0 : Nat))), (((0 : Nat), []), ([], 0))), (((gkeys0, 0), (0, (0 : Nat))), (((0 : Nat), (0 : Nat)), ((0 : Nat), 0))))), ((((((0 : Nat), default), (0, (0 : Nat))), (([], 0), ([], []))), (((0, (0 : Nat)), ((0 : Nat), default)), ((world0, default), ([], fun _ => none)))), ((((fun _ => none, fun _ => none), (default, default)), (((0 : Nat), .none), ([], []))), ((({}, default), (default, (0 : Nat))), ((fun _ => none, {}), (fun _ _ => True, fun _ _ => True))))))⟩
noncomputable def replace_spec_x : replace_spec_P := replace_spec_ex.choose
namespace replace_spec_n
noncomputable def g9 : Heap := replace_spec_x.1.1.1.1.1.1
noncomputable def L9 : Addr := replace_spec_x.1.1.1.1.1.2
noncomputable def h9 : Heap := replace_spec_x.1.1.1.1.2.1
noncomputable def b : Addr := replace_spec_x.1.1.1.1.2.2
noncomputable def db : Addr := replace_spec_x.1.1.1.2.1.1
noncomputable def g : Addr := replace_spec_x.1.1.1.2.1.2
noncomputable def mk : Addr := replace_spec_x.1.1.1.2.2.1
noncomputable def ls : Addr := replace_spec_x.1.1.1.2.2.2
noncomputable def K : BKeys := replace_spec_x.1.1.2.1.1.1
noncomputable def pt : Int := replace_spec_x.1.1.2.1.1.2
noncomputable def zv : Int := replace_spec_x.1.1.2.1.2.1
noncomputable def tk : Int := replace_spec_x.1.1.2.1.2.2
noncomputable def ck : Int := replace_spec_x.1.1.2.2.1.1
noncomputable def sk : Int := replace_spec_x.1.1.2.2.1.2
noncomputable def p1 : Tok := replace_spec_x.1.1.2.2.2.1
noncomputable def z1 : Tok := replace_spec_x.1.1.2.2.2.2
noncomputable def t1 : Tok := replace_spec_x.1.2.1.1.1.1
noncomputable def c1 : Tok := replace_spec_x.1.2.1.1.1.2
noncomputable def s1 : Tok := replace_spec_x.1.2.1.1.2.1
noncomputable def dg : Addr := replace_spec_x.1.2.1.1.2.2
noncomputable def c : Addr := replace_spec_x.1.2.1.2.1.1
noncomputable def vs : List Value := replace_spec_x.1.2.1.2.1.2
noncomputable def ns : List Int := replace_spec_x.1.2.1.2.2.1
noncomputable def n2 : Nat := replace_spec_x.1.2.1.2.2.2
noncomputable def G : GKeys := replace_spec_x.1.2.2.1.1.1
noncomputable def gs : Int := replace_spec_x.1.2.2.1.1.2
noncomputable def ge : Int := replace_spec_x.1.2.2.1.2.1
noncomputable def t3 : Tok := replace_spec_x.1.2.2.1.2.2
noncomputable def t4 : Tok := replace_spec_x.1.2.2.2.1.1
noncomputable def dm : Addr := replace_spec_x.1.2.2.2.1.2
noncomputable def rw : Addr := replace_spec_x.1.2.2.2.2.1
noncomputable def hm : Int := replace_spec_x.1.2.2.2.2.2
noncomputable def km : Tok := replace_spec_x.2.1.1.1.1.1
noncomputable def orw : Obj := replace_spec_x.2.1.1.1.1.2
noncomputable def nl : Nat := replace_spec_x.2.1.1.1.2.1
noncomputable def l : Addr := replace_spec_x.2.1.1.1.2.2
noncomputable def ws : List Value := replace_spec_x.2.1.1.2.1.1
noncomputable def nl2 : Nat := replace_spec_x.2.1.1.2.1.2
noncomputable def news : List (Addr × Obj) := replace_spec_x.2.1.1.2.2.1
noncomputable def rest : List (Addr × Obj) := replace_spec_x.2.1.1.2.2.2
noncomputable def i : Int := replace_spec_x.2.1.2.1.1.1
noncomputable def ti : Tok := replace_spec_x.2.1.2.1.1.2
noncomputable def tj : Tok := replace_spec_x.2.1.2.1.2.1
noncomputable def prog : Program := replace_spec_x.2.1.2.1.2.2
noncomputable def w : World := replace_spec_x.2.1.2.2.1.1
noncomputable def p : Program := replace_spec_x.2.1.2.2.1.2
noncomputable def loose : List Str := replace_spec_x.2.1.2.2.2.1
noncomputable def mean : ExcName → Option Value := replace_spec_x.2.1.2.2.2.2
noncomputable def mg : Str → Option Value := replace_spec_x.2.2.1.1.1.1
noncomputable def mb : Str → Option Value := replace_spec_x.2.2.1.1.1.2
noncomputable def cn : Str := replace_spec_x.2.2.1.1.2.1
noncomputable def cs : Scope := replace_spec_x.2.2.1.1.2.2
noncomputable def a : Addr := replace_spec_x.2.2.1.2.1.1
noncomputable def ccd : Value := replace_spec_x.2.2.1.2.1.2
noncomputable def cl : List (Str × Addr) := replace_spec_x.2.2.1.2.2.1
noncomputable def outer : List Env := replace_spec_x.2.2.1.2.2.2
noncomputable def A₀ : Around := replace_spec_x.2.2.2.1.1.1
noncomputable def base : Heap := replace_spec_x.2.2.2.1.1.2
noncomputable def h₀ : Heap := replace_spec_x.2.2.2.1.2.1
noncomputable def L : Addr := replace_spec_x.2.2.2.1.2.2
noncomputable def m : Str → Option Value := replace_spec_x.2.2.2.2.1.1
noncomputable def s : Shared := replace_spec_x.2.2.2.2.1.2
noncomputable def Q : Value → Shared → Prop := replace_spec_x.2.2.2.2.2.1
noncomputable def E : Value → Shared → Prop := replace_spec_x.2.2.2.2.2.2
set_option maxRecDepth 100000 in
set_option maxHeartbeats 8000000 in
theorem main (zs : List Int) (j : Int) : replace_spec_H b db g mk ls K pt zv tk ck sk p1 z1 t1 c1 s1 dg c vs ns n2 G gs ge t3 t4 dm rw hm km orw nl l ws nl2 news rest i ti tj prog w p loose mean mg mb cn cs a ccd cl outer A₀ base h₀ L m s Q E zs j ((replace_spec_k b db g mk ls K pt zv tk ck sk p1 z1 t1 c1 s1 dg c vs ns n2 G gs ge t3 t4 dm rw hm km orw nl l ws nl2 news rest i ti tj prog w p loose mean mg mb cn cs a ccd cl outer A₀ base h₀ L m s Q E zs j).1 g9 L9 h9) := by
  intro C N P ap e4 r1 r2 r3 hi hlen h0 h1 h2 hz hr lo d1 d2 hw h3 h4 h5 h6 h7 ret
  obtain ⟨B, F, X, T, hk⟩ := C
  have ap1 := ap
  simp only [Apart, and_true] at ap1
  have ap5 : Apart [db, b, dg, g, c] := by simp only [Apart, and_true]; omega
  have hgl := gtext_length h0 h1 h2
  replace N := news_picks N P
  simp only [List.cons_append, List.nil_append] at N
  delta replace_spec_k
  dsimp only
  intro _ _ _ _ _ _
  (rename Fr _ _ _ _ => F9); replace F9 := fr_binds F9 (bs := [(Str.ofString "buffer", _), (Str.ofString "start", _), (Str.ofString "end", _), (Str.ofString "codes", _)]) rfl
  k_steps
  all_goals exact ret _ _ _ _ _ _ _ _ _ _ _ _ _ _ _ _ _ _ (by k_asm) (news_back (by k_asm) (by ktr_rel) (by tb_rel)) (by assumption) (by k_extra "ord") (by k_extra "ord") (by k_extra "ord") (by k_extra "ord") (by k_extra "ord") (by k_extra "ord") (by k_extra "ord") (by first
    | (have e : i = j := (by k_extra "ord"); subst e; assumption)
    | (have e : zs = [] := List.length_eq_zero_iff.mp (by k_extra "ord"); subst e; simp only [List.append_nil]; assumption)
    | (refine Eq.trans (by assumption) ?_; rw [‹gtext _ _ _ = List.take _ _ ++ List.drop _ _›]; exact cut_put (by k_extra "ord"))
    | (exfalso; omega))
end replace_spec_n
theorem replace_spec {prog : Program} {w : World} {p : Program} {loose : List Str} {mean : ExcName → Option Value} {mg : Str → Option Value} {mb : Str → Option Value} {cn : Str} {cs : Scope} {a : Addr} {ccd : Value} {cl : List (Str × Addr)} {outer : List Env} {A₀ : Around} {base : Heap} {h₀ : Heap} {L : Addr} {m : Str → Option Value} {s : Shared} {Q : Value → Shared → Prop} {E : Value → Shared → Prop} {b : Addr} {db : Addr} {g : Addr} {mk : Addr} {ls : Addr} {K : BKeys} {pt : Int} {zv : Int} {tk : Int} {ck : Int} {sk : Int} {p1 : Tok} {z1 : Tok} {t1 : Tok} {c1 : Tok} {s1 : Tok} {dg : Addr} {c : Addr} {vs : List Value} {ns : List Int} {n2 : Nat} {G : GKeys} {gs : Int} {ge : Int} {t3 : Tok} {t4 : Tok} {dm : Addr} {rw : Addr} {hm : Int} {km : Tok} {orw : Obj} {nl : Nat} {l : Addr} {ws : List Value} {zs : List Int} {nl2 : Nat} {news : List (Addr × Obj)} {rest : List (Addr × Obj)} {i : Int} {j : Int} {ti : Tok} {tj : Tok} : replace_spec_H b db g mk ls K pt zv tk ck sk p1 z1 t1 c1 s1 dg c vs ns n2 G gs ge t3 t4 dm rw hm km orw nl l ws nl2 news rest i ti tj prog w p loose mean mg mb cn cs a ccd cl outer A₀ base h₀ L m s Q E zs j (wpAny (model prog w) (ktrTop 900 9000 none cn cs L a ccd cl outer) (call (.ref 134) [.ref b, .int i ti, .int j tj, .ref l]) Q E s) := (replace_spec_k b db g mk ls K pt zv tk ck sk p1 z1 t1 c1 s1 dg c vs ns n2 G gs ge t3 t4 dm rw hm km orw nl l ws nl2 news rest i ti tj prog w p loose mean mg mb cn cs a ccd cl outer A₀ base h₀ L m s Q E zs j).2 (fun g9 L9 h9 => replace_spec_ex.choose_spec (fun zs j => replace_spec_n.main zs j) ((((((g9, L9), (h9, b)), ((db, g), (mk, ls))), (((K, pt), (zv, tk)), ((ck, sk), (p1, z1)))), ((((t1, c1), (s1, dg)), ((c, vs), (ns, n2))), (((G, gs), (ge, t3)), ((t4, dm), (rw, hm))))), (((((km, orw), (nl, l)), ((ws, nl2), (news, rest))), (((i, ti), (tj, prog)), ((w, p), (loose, mean)))), ((((mg, mb), (cn, cs)), ((a, ccd), (cl, outer))), (((A₀, base), (h₀, L)), ((m, s), (Q, E)))))) zs j)
end
section
theorem lines_X4_1 : True := by
  k_with_none
  k_with "k_all" => with_reducible assumption
  k_with "ne_mem" => with_reducible first | exact List.mem_cons_self | (refine List.mem_cons_of_mem _ ?_; k_extra "ne_mem") | (refine List.mem_append_right _ ?_; k_extra "ne_mem")
  k_with "ne_bef" => with_reducible first | (refine Bef.head ?_; k_extra "ne_mem") | (refine Bef.tail ?_; k_extra "ne_bef")
  k_with "lt_ap" => (with_reducible rename Apart _ => kqA; first | (with_reducible exact Apart.bef kqA (by k_extra "ne_bef")) | (clear kqA; k_extra "lt_ap"))
  k_with "lt_go" => first | (with_reducible assumption) | (with_reducible exact AllLt.get (by assumption) (by k_extra "ne_mem")) | k_extra "lt_ap" | ((with_reducible refine Nat.lt_trans ?kq1 ?kq2); (case kq2 => with_reducible assumption); (case kq1 => k_extra "lt_go")) | ((with_reducible refine Nat.lt_trans ?kq1 ?kq2); (case kq1 => with_reducible assumption); (case kq2 => k_extra "lt_ap"))
  k_with "ne_lt" => with_reducible first | exact Nat.ne_of_lt (AllLt.get (by assumption) (by k_extra "ne_mem")) | exact Nat.ne_of_gt (AllLt.get (by assumption) (by k_extra "ne_mem"))
  k_with "ne_ap" => (with_reducible rename Apart _ => kqA; first | (with_reducible exact Nat.ne_of_lt (Apart.bef kqA (by k_extra "ne_bef"))) | (with_reducible exact Nat.ne_of_gt (Apart.bef kqA (by k_extra "ne_bef"))) | (clear kqA; k_extra "ne_ap"))
  k_with "k_ne" => (refine neN ?_; (try dsimp only); first | (with_reducible assumption) | (with_reducible exact Ne.symm (by assumption)) | (with_reducible exact Nat.ne_of_lt (by assumption)) | (with_reducible exact Nat.ne_of_gt (by assumption)) | k_extra "ne_lt" | k_extra "ne_ap" | omega | ((try simp only [AllLt] at *); omega))
  k_with "ne_all" => first | (with_reducible assumption) | (refine And.intro ?_ ?_ <;> k_extra "ne_all") | k_ne
  k_with "mem_hq" => first | exact hq | exact List.mem_append_left _ hq | (refine List.mem_cons_of_mem _ ?_; k_extra "mem_hq")
  k_with "perm" => first | (refine List.forall_mem_cons.mpr (And.intro ?kqa ?kqb); (case kqa => k_extra "ne_mem"); (case kqb => k_extra "perm")) | exact List.forall_mem_nil _ | (intro q hq; k_extra "mem_hq")
  k_with "ord" => first | (with_reducible assumption) | ((with_reducible show @LT.lt Nat _ _ _); k_extra "lt_go") | k_ne | omega | ((try simp only [AllLt] at *); omega)
  k_with "tb_start" => first | exact Pick.head | (apply Pick.tail; tb_start)
  k_with "tb_rel" => first | exact Suff.refl | (refine' Suff.tail ?_; tb_rel)
  k_with "ktr_rel" => first | exact Picks.nil | (refine' Picks.cons ?kqp ?kqq; (case kqp => tb_start); (case kqq => ktr_rel))
  k_with "ktr_unf" => exact ⟨by k_asm, by k_asm, by k_asm, by k_asm, by first | exact rfl | assumption⟩
  k_with "subscriptTail Attribute Name Slice" => (k_here; k_dflt (refine kba_turn (value' := PySem.Expr.Name (PySem.Str.ofString "_") ⟨0, 0, 0, 0⟩) (fun _ => rfl) ?_))
  k_with "subscriptTail Name Slice ref ref" => (k_here; (with_reducible show wpAny _ _ (subscriptTail _ (PySem.Expr.Slice (some _) (some _) none _) (Value.ref _) (Value.ref _)) _ _ _); k_dflt (refine' my_slice ?kqF ?kqN ?kql ?kqi ?kqx ?kqy ?kqz ?_ ?kqs ?kqt; (case kqF => k_asm); (case kqN => k_asm); (case kql => k_mem); (case kqi => k_asm); (case kqx => first | (with_reducible assumption) | omega | ((try simp only [AllLt] at *); omega)); (case kqy => first | (with_reducible assumption) | omega | ((try simp only [AllLt] at *); omega)); (case kqz => first | (with_reducible assumption) | omega | ((try simp only [AllLt] at *); omega)); (case kqs => with_unfolding_all rfl); (case kqt => kmk_pure); k_whole); intro D' ws' h' zs' F' N' l1 hI' hZ' hL'; (try (replace hL' := slice_len hL' (by first | (with_reducible assumption) | omega) (by first | (with_reducible assumption) | omega) (by first | (with_reducible assumption) | omega))); (try k_lt l1); (try k_sweep))
  k_with "setItem ref ref ref" => (k_here; k_dflt (refine' my_setslice ?kqF ?kqN ?kql ?kqU ?kqi ?kqw ?kqx ?kqy ?kqz ?kqzz ?_; (case kqF => k_asm); (case kqN => k_asm); (case kql => k_mem); (case kqU => k_updF); (case kqi => k_asm); (case kqw => k_asm); (case kqx => first | (with_reducible assumption) | omega | ((try simp only [AllLt] at *); omega)); (case kqy => first | (with_reducible assumption) | omega | ((try simp only [AllLt] at *); omega)); (case kqz => first | (with_reducible assumption) | omega | ((try simp only [AllLt] at *); omega)); (case kqzz => first | (with_reducible assumption) | omega | ((try simp only [AllLt] at *); omega)); k_whole); intro vs' n2' h' ns' F' N' hI' hZ' hL'; (try dsimp only at N'); (try k_sweep))
  k_with "call builtin:len" => (k_here; (with_reducible show wpAny _ _ (call (Value.builtin "len") [Value.ref _]) _ _ _); k_dflt (refine' my_len ?kqN ?kql ?kqi ?kqz ?_; (case kqN => k_asm); (case kql => k_mem); (case kqi => k_asm); (case kqz => first | (with_reducible assumption) | omega | ((try simp only [AllLt] at *); omega)); k_whole))
  k_with "pyIter ref" => (k_here; k_dflt (first | (refine' iter_empty ?kqh ?kqF ?kqN ?kqm ?_; (case kqh => exact rfl); (case kqF => k_asm); (case kqN => k_asm); (case kqm => k_mem)) | (refine' iter_empty2 ?kqh ?kqF ?kqN ?kqm ?kqi ?kqz ?_; (case kqh => exact rfl); (case kqF => k_asm); (case kqN => k_asm); (case kqm => k_mem); (case kqi => k_asm); (case kqz => k_asm))); intro h' tk' F' N'; (try dsimp only); (try k_sweep))
  k_with "exec Raise some none" => (k_here; k_dflt (refine' xs_Raise ?kqhh ?_; (case kqhh => rfl); k_whole))
  k_with "call ref" => (k_here; (with_reducible show wpAny _ _ (call (Value.ref 38) _) _ _ _); k_dflt (refine' around_le (call38_spec ?kqC ?kqN ?_) ?kqd ?kqu; (case kqC => ktr_unf); (case kqN => k_asm);  (case kqd => exact Nat.le_of_ble_eq_true rfl); (case kqu => exact Nat.le_of_ble_eq_true rfl)); intro e' t' d' es' h' tk' F' N' hne' hde' hsy'; (try dsimp only); (try k_sweep); (try k_fold))
  trivial
section
variable {prog : Program} {w : World} {p : Program} {loose : List Str} {mean : ExcName → Option Value} {mg mb : Str → Option Value}
  {cn : Str} {cs : Scope} {a : Addr} {ccd : Value} {cl : List (Str × Addr)} {outer : List Env} {A₀ : Around} {base h₀ : Heap} {L : Addr} {m : Str → Option Value} {s : Shared} {Q E : Value → Shared → Prop}
theorem raise_end {e t d : Addr} {es : List DictEntry} {ts : Tok} {sy : Str} {M : Model} {news news' : List (Addr × Obj)} {name : Str} {scope : Scope} {L' a' : Addr} {cd' : Value} {cells : List (Str × Addr)} {g : Heap} {m' : Str → Option Value} {E' : Value → Shared → Prop} {A : Around} {sh : Shared} {nss : List (Addr × (Str → Option Value))}
  (X : (hd.heap_39 w.params).In sh.heap) (B : Below A base outer g) (F : Fr g L' sh.heap m') (N : News g L' sh.heap ((d, dictOf es 2) :: (e, excO t (some d)) :: news)) (hne : ∀ p ∈ news, p.1 ≠ e) (hde : @Ne Nat d e) (hsy : getL (Str.ofString "symbol") es = some (some (.str sy ts)))
  (sub : ∀ q ∈ news', q ∈ news) (hns : ∀ q ∈ nss, g.Ns q.1 q.2) (hk : scope.kind = .function) (ret : ∀ h', Fly base outer e sy nss news' h' → E' (.ref e) { sh with heap := h' }) :
  RaiseBack w (fun v s' => wpAny M (A.deeper (envX name scope L' a' cd' cells)) (leaving (envX name scope L' a' cd' cells) v) (fun _ s'' => E' v s'') (fun e' s'' => E' e' s'') s') (.ref e) sh :=
  ⟨e, t, some d, rfl, X, (N _ (.tail _ (.head _))).1, fly_first B F N hne hde hsy hns (fun h' x => ret h' (x.sub sub)) hk⟩
set_option maxRecDepth 100000 in
set_option maxHeartbeats 8000000 in
theorem nw_raise {b db g mk ls : Addr} {K : BKeys} {pt zv tk ck sk : Int} {p1 z1 t1 c1 s1 : Tok} {nss : List (Addr × (Str → Option Value))} {news rest : List (Addr × Obj)}
 (C : Cx w p loose mean mg mb A₀ base outer h₀ L s.heap m cs) (N : News h₀ L s.heap news) (hns : ∀ q ∈ nss, h₀.Ns q.1 q.2) (P : Picks [(b, instObj 622 db), (db, bufD K g mk ls pt p1 zv z1 true tk t1 ck c1 sk s1)] news rest)
 (ret : ∀ e h' tk', Fly base (envX cn cs L a ccd cl :: outer) e (Str.ofString "buffer-read-only") ((L, m) :: nss) news h' → E (.ref e) { s with heap := h', toks := tk' }) :
 wpAny (model prog w) (ktrTop 930 9300 none cn cs L a ccd cl outer) (call (.ref 48) [.ref b]) Q E s := by
  obtain ⟨B, F, X, T, hk⟩ := C
  replace N := news_picks N P
  simp only [List.cons_append, List.nil_append] at N
  refine wpAny_call ?_
  k_dflt cell_enter
  k_steps
  rename _ = some (some (Value.str _ _)) => hsy
  exact raise_end (Frag.In.keeps (by k_asm) (Fr.keep (by k_asm))) (by k_asm) (by k_asm) (by k_asm) (by k_asm) (by k_asm) hsy (fun q hq => .tail _ (P.mem' q hq)) (nss_up (by assumption) hns) rfl fun h' x => ret _ _ _ x
theorem lines_X4_2 : True := by
  k_with "call ref" => (k_here; (with_reducible show wpAny _ _ (call (Value.ref 48) _) _ _ _); k_dflt (refine' around_le (nw_raise ?kqC ?kqN ?kqhn ?kqP ?_) ?kqd ?kqu; (case kqC => ktr_unf); (case kqN => k_asm); (case kqP => ktr_rel); (case kqhn => exact nss_up (by assumption) (by assumption));  (case kqd => exact Nat.le_of_ble_eq_true rfl); (case kqu => exact Nat.le_of_ble_eq_true rfl)); intro e' h' tk' fl'; (try dsimp only); (try k_sweep); (try k_fold))
  trivial
set_option maxRecDepth 100000 in
set_option maxHeartbeats 8000000 in
theorem replace_raise {b db g mk ls : Addr} {K : BKeys} {pt zv tk ck sk : Int} {p1 z1 t1 c1 s1 : Tok} {nss : List (Addr × (Str → Option Value))} {i j : Int} {ti tj : Tok} {l : Addr} {news rest : List (Addr × Obj)}
 (C : Cx w p loose mean mg mb A₀ base outer h₀ L s.heap m cs) (N : News h₀ L s.heap news) (hns : ∀ q ∈ nss, h₀.Ns q.1 q.2) (P : Picks [(b, instObj 622 db), (db, bufD K g mk ls pt p1 zv z1 true tk t1 ck c1 sk s1)] news rest)
 (ret : ∀ e h' tk', Fly base (envX cn cs L a ccd cl :: outer) e (Str.ofString "buffer-read-only") ((L, m) :: nss) news h' → E (.ref e) { s with heap := h', toks := tk' }) :
 wpAny (model prog w) (ktrTop 910 9100 none cn cs L a ccd cl outer) (call (.ref 134) [.ref b, .int i ti, .int j tj, .ref l]) Q E s := by
  obtain ⟨B, F, X, T, hk⟩ := C
  replace N := news_picks N P
  simp only [List.cons_append, List.nil_append] at N
  refine wpAny_call ?_
  k_dflt cell_enter
  k_steps
  exact fly_on (by k_asm) (by k_asm) fun h' x => ret _ _ _ (x.tail.sub fun q hq => P.mem' q hq)
end
end
section
theorem lines_X6_1 : True := by
  k_with_none
  k_with "k_all" => with_reducible assumption
  k_with "ne_mem" => with_reducible first | exact List.mem_cons_self | (refine List.mem_cons_of_mem _ ?_; k_extra "ne_mem") | (refine List.mem_append_right _ ?_; k_extra "ne_mem")
  k_with "ne_bef" => with_reducible first | (refine Bef.head ?_; k_extra "ne_mem") | (refine Bef.tail ?_; k_extra "ne_bef")
  k_with "lt_ap" => (with_reducible rename Apart _ => kqA; first | (with_reducible exact Apart.bef kqA (by k_extra "ne_bef")) | (clear kqA; k_extra "lt_ap"))
  k_with "lt_go" => first | (with_reducible assumption) | (with_reducible exact AllLt.get (by assumption) (by k_extra "ne_mem")) | k_extra "lt_ap" | ((with_reducible refine Nat.lt_trans ?kq1 ?kq2); (case kq2 => with_reducible assumption); (case kq1 => k_extra "lt_go")) | ((with_reducible refine Nat.lt_trans ?kq1 ?kq2); (case kq1 => with_reducible assumption); (case kq2 => k_extra "lt_ap"))
  k_with "ne_lt" => with_reducible first | exact Nat.ne_of_lt (AllLt.get (by assumption) (by k_extra "ne_mem")) | exact Nat.ne_of_gt (AllLt.get (by assumption) (by k_extra "ne_mem"))
  k_with "ne_ap" => (with_reducible rename Apart _ => kqA; first | (with_reducible exact Nat.ne_of_lt (Apart.bef kqA (by k_extra "ne_bef"))) | (with_reducible exact Nat.ne_of_gt (Apart.bef kqA (by k_extra "ne_bef"))) | (clear kqA; k_extra "ne_ap"))
  k_with "k_ne" => (refine neN ?_; (try dsimp only); first | (with_reducible assumption) | (with_reducible exact Ne.symm (by assumption)) | (with_reducible exact Nat.ne_of_lt (by assumption)) | (with_reducible exact Nat.ne_of_gt (by assumption)) | k_extra "ne_lt" | k_extra "ne_ap" | omega | ((try simp only [AllLt] at *); omega))
  k_with "ne_all" => first | (with_reducible assumption) | (refine And.intro ?_ ?_ <;> k_extra "ne_all") | k_ne
  k_with "mem_hq" => first | exact hq | exact List.mem_append_left _ hq | (refine List.mem_cons_of_mem _ ?_; k_extra "mem_hq")
  k_with "perm" => first | (refine List.forall_mem_cons.mpr (And.intro ?kqa ?kqb); (case kqa => k_extra "ne_mem"); (case kqb => k_extra "perm")) | exact List.forall_mem_nil _ | (intro q hq; k_extra "mem_hq")
  k_with "ord" => first | (with_reducible assumption) | ((with_reducible show @LT.lt Nat _ _ _); k_extra "lt_go") | k_ne | omega | ((try simp only [AllLt] at *); omega)
  k_with "tb_start" => first | exact Pick.head | (apply Pick.tail; tb_start)
  k_with "tb_rel" => first | exact Suff.refl | (refine' Suff.tail ?_; tb_rel)
  k_with "ktr_rel" => first | exact Picks.nil | (refine' Picks.cons ?kqp ?kqq; (case kqp => tb_start); (case kqq => ktr_rel))
  k_with "ktr_unf" => exact ⟨by k_asm, by k_asm, by k_asm, by k_asm, by first | exact rfl | assumption⟩
  k_with "subscriptTail Attribute Name Slice" => (k_here; k_dflt (refine kba_turn (value' := PySem.Expr.Name (PySem.Str.ofString "_") ⟨0, 0, 0, 0⟩) (fun _ => rfl) ?_))
  k_with "subscriptTail Name Slice ref ref" => (k_here; (with_reducible show wpAny _ _ (subscriptTail _ (PySem.Expr.Slice (some _) (some _) none _) (Value.ref _) (Value.ref _)) _ _ _); k_dflt (refine' my_slice ?kqF ?kqN ?kql ?kqi ?kqx ?kqy ?kqz ?_ ?kqs ?kqt; (case kqF => k_asm); (case kqN => k_asm); (case kql => k_mem); (case kqi => k_asm); (case kqx => first | (with_reducible assumption) | omega | ((try simp only [AllLt] at *); omega)); (case kqy => first | (with_reducible assumption) | omega | ((try simp only [AllLt] at *); omega)); (case kqz => first | (with_reducible assumption) | omega | ((try simp only [AllLt] at *); omega)); (case kqs => with_unfolding_all rfl); (case kqt => kmk_pure); k_whole); intro D' ws' h' zs' F' N' l1 hI' hZ' hL'; (try (replace hL' := slice_len hL' (by first | (with_reducible assumption) | omega) (by first | (with_reducible assumption) | omega) (by first | (with_reducible assumption) | omega))); (try k_lt l1); (try k_sweep))
  k_with "setItem ref ref ref" => (k_here; k_dflt (refine' my_setslice ?kqF ?kqN ?kql ?kqU ?kqi ?kqw ?kqx ?kqy ?kqz ?kqzz ?_; (case kqF => k_asm); (case kqN => k_asm); (case kql => k_mem); (case kqU => k_updF); (case kqi => k_asm); (case kqw => k_asm); (case kqx => first | (with_reducible assumption) | omega | ((try simp only [AllLt] at *); omega)); (case kqy => first | (with_reducible assumption) | omega | ((try simp only [AllLt] at *); omega)); (case kqz => first | (with_reducible assumption) | omega | ((try simp only [AllLt] at *); omega)); (case kqzz => first | (with_reducible assumption) | omega | ((try simp only [AllLt] at *); omega)); k_whole); intro vs' n2' h' ns' F' N' hI' hZ' hL'; (try dsimp only at N'); (try k_sweep))
  k_with "call builtin:len" => (k_here; (with_reducible show wpAny _ _ (call (Value.builtin "len") [Value.ref _]) _ _ _); k_dflt (refine' my_len ?kqN ?kql ?kqi ?kqz ?_; (case kqN => k_asm); (case kql => k_mem); (case kqi => k_asm); (case kqz => first | (with_reducible assumption) | omega | ((try simp only [AllLt] at *); omega)); k_whole))
  k_with "pyIter ref" => (k_here; k_dflt (first | (refine' iter_empty ?kqh ?kqF ?kqN ?kqm ?_; (case kqh => exact rfl); (case kqF => k_asm); (case kqN => k_asm); (case kqm => k_mem)) | (refine' iter_empty2 ?kqh ?kqF ?kqN ?kqm ?kqi ?kqz ?_; (case kqh => exact rfl); (case kqF => k_asm); (case kqN => k_asm); (case kqm => k_mem); (case kqi => k_asm); (case kqz => k_asm))); intro h' tk' F' N'; (try dsimp only); (try k_sweep))
  trivial
def Halt (p : Prop) : Prop := p
theorem halt {p : Prop} (h : Halt p) : p := h
theorem lines_X6_2 : True := by
  k_with "exec For" => (k_here; k_dflt (refine' halt ?_))
  k_with "call ref" => (k_here; (with_reducible show wpAny _ _ (call (Value.ref 134) _) _ _ _); k_dflt (refine' around_le (replace_raise ?kqC ?kqN ?kqhn ?kqP ?_) ?kqd ?kqu; (case kqC => ktr_unf); (case kqN => k_asm); (case kqP => ktr_rel); (case kqhn => exact nss_up (by assumption) (by assumption));  (case kqd => exact Nat.le_of_ble_eq_true rfl); (case kqu => exact Nat.le_of_ble_eq_true rfl)); intro e' h' tk' fl'; (try dsimp only); (try k_sweep); (try k_fold))
  trivial
variable {prog : Program} {w : World} {p : Program} {loose : List Str} {mean : ExcName → Option Value} {mg mb : Str → Option Value} {cn : Str} {cs : Scope} {a : Addr} {ccd : Value} {cl : List (Str × Addr)} {outer : List Env} {A₀ : Around} {base h₀ : Heap} {L : Addr} {m : Str → Option Value} {s : Shared} {Q E : Value → Shared → Prop} in
theorem news_in {h : Heap} {own own' news : List (Addr × Obj)} (N : News h₀ L h (own ++ news)) (k : ∀ q ∈ own', q ∈ news) : News h₀ L h (own' ++ (news ++ own)) := fun q hq => by
  rcases List.mem_append.mp hq with hq | hq
  · exact N q (List.mem_append_right _ (k q hq))
  · rcases List.mem_append.mp hq with hq | hq
    · exact N q (List.mem_append_right _ hq)
    · exact N q (List.mem_append_left _ hq)
variable {prog : Program} {w : World} {p : Program} {loose : List Str} {mean : ExcName → Option Value} {mg mb : Str → Option Value} {cn : Str} {cs : Scope} {a : Addr} {ccd : Value} {cl : List (Str × Addr)} {outer : List Env} {A₀ : Around} {base h₀ : Heap} {L : Addr} {m : Str → Option Value} {s : Shared} {Q E : Value → Shared → Prop} in
theorem news_of {h : Heap} {news news' : List (Addr × Obj)} (N : News h₀ L h news) (k : ∀ q ∈ news', q ∈ news) : News h₀ L h news' := fun q hq => N q (k q hq)
def applied_ro_H (b : Addr) (db : Addr) (g : Addr) (mk : Addr) (ls : Addr) (K : BKeys) (pt : Int) (zv : Int) (tq : Int) (ck : Int) (sk : Int) (p1 : Tok) (z1 : Tok) (t1 : Tok) (c1 : Tok) (s1 : Tok) (nss : List (Addr × (Str → Option Value))) (el : Addr) (l : List Ed) (n0 : Nat) (b0 : Int) (news : List (Addr × Obj)) (rest : List (Addr × Obj)) (prog : Program) (w : World) (p : Program) (loose : List Str) (mean : ExcName → Option Value) (mg : Str → Option Value) (mb : Str → Option Value) (cn : Str) (cs : Scope) (a : Addr) (ccd : Value) (cl : List (Str × Addr)) (outer : List Env) (A₀ : Around) (base : Heap) (h₀ : Heap) (L : Addr) (m : Str → Option Value) (s : Shared) (Q : Value → Shared → Prop) (E : Value → Shared → Prop) (zR : Prop) : Prop := ∀ (C : Cx w p loose mean mg mb A₀ base outer h₀ L s.heap m cs) (N : News h₀ L s.heap news) (hns : ∀ q ∈ nss, h₀.Ns q.1 q.2) (P : Picks [(b, instObj 622 db), (db, bufD K g mk ls pt p1 zv z1 true tq t1 ck c1 sk s1), (el, listOf (edVals l).toArray n0)] news rest) (hed : EdDesc ls b0 l) (hsub : ∀ q ∈ edEnts l, q ∈ rest) (retN : (∀ d ∈ l, d.busy = false) → ∀ h' tk', Fr h₀ L h' m → News h₀ L h' news → Q .none { s with heap := h', toks := tk' }) (retE : (∃ d ∈ l, d.busy = true) → ∀ e h' tk', Fly base (envX cn cs L a ccd cl :: outer) e (Str.ofString "buffer-read-only") ((L, m) :: nss) news h' → E (.ref e) { s with heap := h', toks := tk' }), zR
set_option maxRecDepth 100000 in
set_option maxHeartbeats 8000000 in
noncomputable def applied_ro_k (b : Addr) (db : Addr) (g : Addr) (mk : Addr) (ls : Addr) (K : BKeys) (pt : Int) (zv : Int) (tq : Int) (ck : Int) (sk : Int) (p1 : Tok) (z1 : Tok) (t1 : Tok) (c1 : Tok) (s1 : Tok) (nss : List (Addr × (Str → Option Value))) (el : Addr) (l : List Ed) (n0 : Nat) (b0 : Int) (news : List (Addr × Obj)) (rest : List (Addr × Obj)) (prog : Program) (w : World) (p : Program) (loose : List Str) (mean : ExcName → Option Value) (mg : Str → Option Value) (mb : Str → Option Value) (cn : Str) (cs : Scope) (a : Addr) (ccd : Value) (cl : List (Str × Addr)) (outer : List Env) (A₀ : Around) (base : Heap) (h₀ : Heap) (L : Addr) (m : Str → Option Value) (s : Shared) (Q : Value → Shared → Prop) (E : Value → Shared → Prop) : PSigma (fun zP : Heap → Addr → Heap → Prop => (∀ zq1 zq2 zq3, applied_ro_H b db g mk ls K pt zv tq ck sk p1 z1 t1 c1 s1 nss el l n0 b0 news rest prog w p loose mean mg mb cn cs a ccd cl outer A₀ base h₀ L m s Q E (zP zq1 zq2 zq3)) → applied_ro_H b db g mk ls K pt zv tq ck sk p1 z1 t1 c1 s1 nss el l n0 b0 news rest prog w p loose mean mg mb cn cs a ccd cl outer A₀ base h₀ L m s Q E (wpAny (model prog w) (ktrTop 890 8900 none cn cs L a ccd cl outer) (call (.ref 296) [.ref b, .ref el]) Q E s)) := by
  refine ⟨?zG, fun zH C N hns P hed hsub retN retE => ?zh⟩
  case zh =>
    have zc := fun zq1 zq2 zq3 => zH zq1 zq2 zq3 C N hns P hed hsub retN retE
    clear zH
    obtain ⟨B, F, X, T, hk⟩ := C
    replace N := news_picks N P
    simp only [List.cons_append, List.nil_append] at N
    refine wpAny_call ?_
    k_dflt cell_enter
    rename_i g9 L9 h9 FG9 F9 N9 B9 X9 T9
    revert FG9 F9 N9 B9 X9 T9
    exact zc g9 L9 h9
abbrev applied_ro_P : Type := ((((((Heap × Addr) × Heap) × ((Addr × Addr) × Addr)) × (((Addr × Addr) × BKeys) × ((Int × Int) × Int))) × ((((Int × Int) × Tok) × ((Tok × Tok) × Tok)) × (((Tok × (List (Addr × (Str → Option Value)))) × Addr) × (((List Ed) × Nat) × Int)))) × ((((((List (Addr × Obj)) × (List (Addr × Obj))) × Program) × ((World × Program) × (List Str))) × ((((ExcName → Option Value) × (Str → Option Value)) × (Str → Option Value)) × ((Str × Scope) × Addr))) × ((((Value × (List (Str × Addr))) × (List Env)) × ((Around × Heap) × Heap)) × (((Addr × (Str → Option Value)) × Shared) × ((Value → Shared → Prop) × (Value → Shared → Prop))))))
abbrev applied_ro_F (x : applied_ro_P) : Prop := applied_ro_H (x.1.1.1.2.1.1) (x.1.1.1.2.1.2) (x.1.1.1.2.2) (x.1.1.2.1.1.1) (x.1.1.2.1.1.2) (x.1.1.2.1.2) (x.1.1.2.2.1.1) (x.1.1.2.2.1.2) (x.1.1.2.2.2) (x.1.2.1.1.1.1) (x.1.2.1.1.1.2) (x.1.2.1.1.2) (x.1.2.1.2.1.1) (x.1.2.1.2.1.2) (x.1.2.1.2.2) (x.1.2.2.1.1.1) (x.1.2.2.1.1.2) (x.1.2.2.1.2) (x.1.2.2.2.1.1) (x.1.2.2.2.1.2) (x.1.2.2.2.2) (x.2.1.1.1.1.1) (x.2.1.1.1.1.2) (x.2.1.1.1.2) (x.2.1.1.2.1.1) (x.2.1.1.2.1.2) (x.2.1.1.2.2) (x.2.1.2.1.1.1) (x.2.1.2.1.1.2) (x.2.1.2.1.2) (x.2.1.2.2.1.1) (x.2.1.2.2.1.2) (x.2.1.2.2.2) (x.2.2.1.1.1.1) (x.2.2.1.1.1.2) (x.2.2.1.1.2) (x.2.2.1.2.1.1) (x.2.2.1.2.1.2) (x.2.2.1.2.2) (x.2.2.2.1.1.1) (x.2.2.2.1.1.2) (x.2.2.2.1.2) (x.2.2.2.2.1) (x.2.2.2.2.2)  ((applied_ro_k (x.1.1.1.2.1.1) (x.1.1.1.2.1.2) (x.1.1.1.2.2) (x.1.1.2.1.1.1) (x.1.1.2.1.1.2) (x.1.1.2.1.2) (x.1.1.2.2.1.1) (x.1.1.2.2.1.2) (x.1.1.2.2.2) (x.1.2.1.1.1.1) (x.1.2.1.1.1.2) (x.1.2.1.1.2) (x.1.2.1.2.1.1) (x.1.2.1.2.1.2) (x.1.2.1.2.2) (x.1.2.2.1.1.1) (x.1.2.2.1.1.2) (x.1.2.2.1.2) (x.1.2.2.2.1.1) (x.1.2.2.2.1.2) (x.1.2.2.2.2) (x.2.1.1.1.1.1) (x.2.1.1.1.1.2) (x.2.1.1.1.2) (x.2.1.1.2.1.1) (x.2.1.1.2.1.2) (x.2.1.1.2.2) (x.2.1.2.1.1.1) (x.2.1.2.1.1.2) (x.2.1.2.1.2) (x.2.1.2.2.1.1) (x.2.1.2.2.1.2) (x.2.1.2.2.2) (x.2.2.1.1.1.1) (x.2.2.1.1.1.2) (x.2.2.1.1.2) (x.2.2.1.2.1.1) (x.2.2.1.2.1.2) (x.2.2.1.2.2) (x.2.2.2.1.1.1) (x.2.2.2.1.1.2) (x.2.2.2.1.2) (x.2.2.2.2.1) (x.2.2.2.2.2) ).1 (x.1.1.1.1.1.1) (x.1.1.1.1.1.2) (x.1.1.1.1.2))
theorem applied_ro_ex : ∃ x : applied_ro_P, applied_ro_F x → ∀ y : applied_ro_P, applied_ro_F y := drinker ⟨((((((default, (0 : Nat)), default), (((0 : Nat), (0 : Nat)), (0 : Nat))), ((((0 : Nat), (0 : Nat)), bkeys0), ((0, 0), 0))), ((((0, 0), (0 : Nat)), (((0 : Nat), (0 : Nat)), (0 : Nat))), ((((0 : Nat), []), (0 : Nat)), (([], 0), 0)))), ((((([], []), default), ((world0, default), [])), (((fun _ => none, fun _ => none), fun _ => none), ((default, default), (0 : Nat)))), ((((.none, []), []), (({}, default), default)), ((((0 : Nat), fun _ => none), {}), (fun _ _ => True, fun _ _ => True)))))⟩
noncomputable def applied_ro_x : applied_ro_P := applied_ro_ex.choose
namespace applied_ro_n
noncomputable def g9 : Heap := applied_ro_x.1.1.1.1.1.1
noncomputable def L9 : Addr := applied_ro_x.1.1.1.1.1.2
noncomputable def h9 : Heap := applied_ro_x.1.1.1.1.2
noncomputable def b : Addr := applied_ro_x.1.1.1.2.1.1
noncomputable def db : Addr := applied_ro_x.1.1.1.2.1.2
noncomputable def g : Addr := applied_ro_x.1.1.1.2.2
noncomputable def mk : Addr := applied_ro_x.1.1.2.1.1.1
noncomputable def ls : Addr := applied_ro_x.1.1.2.1.1.2
noncomputable def K : BKeys := applied_ro_x.1.1.2.1.2
noncomputable def pt : Int := applied_ro_x.1.1.2.2.1.1
noncomputable def zv : Int := applied_ro_x.1.1.2.2.1.2
noncomputable def tq : Int := applied_ro_x.1.1.2.2.2
noncomputable def ck : Int := applied_ro_x.1.2.1.1.1.1
noncomputable def sk : Int := applied_ro_x.1.2.1.1.1.2
noncomputable def p1 : Tok := applied_ro_x.1.2.1.1.2
noncomputable def z1 : Tok := applied_ro_x.1.2.1.2.1.1
noncomputable def t1 : Tok := applied_ro_x.1.2.1.2.1.2
noncomputable def c1 : Tok := applied_ro_x.1.2.1.2.2
noncomputable def s1 : Tok := applied_ro_x.1.2.2.1.1.1
noncomputable def nss : List (Addr × (Str → Option Value)) := applied_ro_x.1.2.2.1.1.2
noncomputable def el : Addr := applied_ro_x.1.2.2.1.2
noncomputable def l : List Ed := applied_ro_x.1.2.2.2.1.1
noncomputable def n0 : Nat := applied_ro_x.1.2.2.2.1.2
noncomputable def b0 : Int := applied_ro_x.1.2.2.2.2
noncomputable def news : List (Addr × Obj) := applied_ro_x.2.1.1.1.1.1
noncomputable def rest : List (Addr × Obj) := applied_ro_x.2.1.1.1.1.2
noncomputable def prog : Program := applied_ro_x.2.1.1.1.2
noncomputable def w : World := applied_ro_x.2.1.1.2.1.1
noncomputable def p : Program := applied_ro_x.2.1.1.2.1.2
noncomputable def loose : List Str := applied_ro_x.2.1.1.2.2
noncomputable def mean : ExcName → Option Value := applied_ro_x.2.1.2.1.1.1
noncomputable def mg : Str → Option Value := applied_ro_x.2.1.2.1.1.2
noncomputable def mb : Str → Option Value := applied_ro_x.2.1.2.1.2
noncomputable def cn : Str := applied_ro_x.2.1.2.2.1.1
noncomputable def cs : Scope := applied_ro_x.2.1.2.2.1.2
noncomputable def a : Addr := applied_ro_x.2.1.2.2.2
noncomputable def ccd : Value := applied_ro_x.2.2.1.1.1.1
noncomputable def cl : List (Str × Addr) := applied_ro_x.2.2.1.1.1.2
noncomputable def outer : List Env := applied_ro_x.2.2.1.1.2
noncomputable def A₀ : Around := applied_ro_x.2.2.1.2.1.1
noncomputable def base : Heap := applied_ro_x.2.2.1.2.1.2
noncomputable def h₀ : Heap := applied_ro_x.2.2.1.2.2
noncomputable def L : Addr := applied_ro_x.2.2.2.1.1.1
noncomputable def m : Str → Option Value := applied_ro_x.2.2.2.1.1.2
noncomputable def s : Shared := applied_ro_x.2.2.2.1.2
noncomputable def Q : Value → Shared → Prop := applied_ro_x.2.2.2.2.1
noncomputable def E : Value → Shared → Prop := applied_ro_x.2.2.2.2.2
set_option maxRecDepth 100000 in
set_option maxHeartbeats 8000000 in
theorem main  : applied_ro_H b db g mk ls K pt zv tq ck sk p1 z1 t1 c1 s1 nss el l n0 b0 news rest prog w p loose mean mg mb cn cs a ccd cl outer A₀ base h₀ L m s Q E ((applied_ro_k b db g mk ls K pt zv tq ck sk p1 z1 t1 c1 s1 nss el l n0 b0 news rest prog w p loose mean mg mb cn cs a ccd cl outer A₀ base h₀ L m s Q E).1 g9 L9 h9) := by
  intro C N hns P hed hsub retN retE
  obtain ⟨B, F, X, T, hk⟩ := C
  replace N := news_picks N P
  simp only [List.cons_append, List.nil_append] at N
  delta applied_ro_k
  dsimp only
  intro _ _ _ _ _ _
  k_steps
  change wpAny _ _ _ _ _ _
  refine for_made (l := el) (n := n0) (vs := edVals l) (fun i m' news' => news' = (b, instObj 622 db) :: (db, bufD K g mk ls pt p1 zv z1 true tq t1 ck c1 sk s1) :: (el, listOf (edVals l).toArray n0) :: rest ∧ m' (Str.ofString "buffer") = some (.ref b) ∧ (∀ d ∈ l.take i, d.busy = false)) rfl (by k_asm) (by k_asm) ?_ ?_ ⟨rfl, rfl, fun d hd => nomatch hd⟩ ?_ ?_ (fun _ => rfl) (by passes_own)
  · k_steps
  · rintro i m' news' ⟨rfl, _⟩
    exact .tail _ (.tail _ (.head _))
  · intro I i v m₁ news₁ h₁ tk₁ oI hv hJ hoff F1 N1
    obtain ⟨rfl, hmb, hidle⟩ := hJ
    simp only [edVals, List.getElem?_map] at hv
    obtain ⟨d, hd, rfl⟩ := Option.map_eq_some_iff.mp hv
    have hdm : d ∈ l := List.mem_of_getElem? hd
    obtain ⟨hi, hl10, hs1, hse, heb, lt1, lt2, hrest⟩ := hed.at hd
    have hmf : m₁ = fun y => if y = Str.ofString "buffer" then some (.ref b) else m₁ y := by funext y; split <;> simp_all
    rw [hmf] at F1
    have N2 := news_in (own := [(I, oI)]) (own' := [(d.t, d.tup), (d.c, listOf d.vs.toArray d.nc)]) N1 (fun q hq => by
      rcases List.mem_cons.mp hq with rfl | hq
      · exact .tail _ (.tail _ (.tail _ (hsub _ (edEnts_t hdm))))
      · rw [List.mem_singleton.mp hq]; exact .tail _ (.tail _ (.tail _ (hsub _ (edEnts_c hdm)))))
    simp only [List.cons_append, List.nil_append] at N2
    clear N1
    k_steps
    · exact fly_on (by k_asm) (by k_asm) fun h' x => retE ⟨d, hdm, by simp only [Ed.busy]; simp [*]⟩ _ _ _ (x.tail.sub fun q hq => (show ∀ q ∈ _ :: _ :: _ :: rest, q ∈ _ from by k_extra "perm") q (P.mem' q hq))
    · exact fly_on (by k_asm) (by k_asm) fun h' x => retE ⟨d, hdm, by simp only [Ed.busy, Bool.or_eq_true, decide_eq_true_eq]; omega⟩ _ _ _ (x.tail.sub fun q hq => (show ∀ q ∈ _ :: _ :: _ :: rest, q ∈ _ from by k_extra "perm") q (P.mem' q hq))
    · refine LoopStepU.intro (news₂ := (b, instObj 622 db) :: (db, bufD K g mk ls pt p1 zv z1 true tq t1 ck c1 sk s1) :: (el, listOf (edVals l).toArray n0) :: rest) (by k_asm) (news_of (by k_asm) (show ∀ q ∈ _ :: _ :: _ :: _ :: rest, q ∈ _ from by k_extra "perm")) (fun p hp z => hoff p hp (List.mem_singleton.mp z)) ⟨rfl, rfl, ?_⟩
      · intro d' hd'
        rw [List.take_add_one, hd] at hd'
        rcases List.mem_append.mp hd' with h | h
        · exact hidle d' h
        · rw [List.mem_singleton.mp h]
          simp only [Ed.busy, Bool.or_eq_false_iff, decide_eq_false_iff_not]
          omega
  · intro h' tk' m' news' F' N' hJ
    obtain ⟨rfl, hmb, hidle⟩ := hJ
    have hidle : ∀ d ∈ l, d.busy = false := fun d hd => hidle d (by simpa [edVals] using hd)
    (try dsimp only)
    k_steps
    exact retN hidle _ _ (by k_asm) (news_unpick (by k_asm) (by ktr_rel) (by tb_rel) P)
end applied_ro_n
theorem applied_ro {prog : Program} {w : World} {p : Program} {loose : List Str} {mean : ExcName → Option Value} {mg : Str → Option Value} {mb : Str → Option Value} {cn : Str} {cs : Scope} {a : Addr} {ccd : Value} {cl : List (Str × Addr)} {outer : List Env} {A₀ : Around} {base : Heap} {h₀ : Heap} {L : Addr} {m : Str → Option Value} {s : Shared} {Q : Value → Shared → Prop} {E : Value → Shared → Prop} {b : Addr} {db : Addr} {g : Addr} {mk : Addr} {ls : Addr} {K : BKeys} {pt : Int} {zv : Int} {tq : Int} {ck : Int} {sk : Int} {p1 : Tok} {z1 : Tok} {t1 : Tok} {c1 : Tok} {s1 : Tok} {nss : List (Addr × (Str → Option Value))} {el : Addr} {l : List Ed} {n0 : Nat} {b0 : Int} {news : List (Addr × Obj)} {rest : List (Addr × Obj)} : applied_ro_H b db g mk ls K pt zv tq ck sk p1 z1 t1 c1 s1 nss el l n0 b0 news rest prog w p loose mean mg mb cn cs a ccd cl outer A₀ base h₀ L m s Q E (wpAny (model prog w) (ktrTop 890 8900 none cn cs L a ccd cl outer) (call (.ref 296) [.ref b, .ref el]) Q E s) := (applied_ro_k b db g mk ls K pt zv tq ck sk p1 z1 t1 c1 s1 nss el l n0 b0 news rest prog w p loose mean mg mb cn cs a ccd cl outer A₀ base h₀ L m s Q E).2 (fun g9 L9 h9 => applied_ro_ex.choose_spec (applied_ro_n.main ) ((((((g9, L9), h9), ((b, db), g)), (((mk, ls), K), ((pt, zv), tq))), ((((ck, sk), p1), ((z1, t1), c1)), (((s1, nss), el), ((l, n0), b0)))), (((((news, rest), prog), ((w, p), loose)), (((mean, mg), mb), ((cn, cs), a))), ((((ccd, cl), outer), ((A₀, base), h₀)), (((L, m), s), (Q, E))))) )
end
section
theorem lines_X7_1 : True := by
  k_with_none
  k_with "k_all" => with_reducible assumption
  k_with "ne_mem" => with_reducible first | exact List.mem_cons_self | (refine List.mem_cons_of_mem _ ?_; k_extra "ne_mem") | (refine List.mem_append_right _ ?_; k_extra "ne_mem")
  k_with "ne_bef" => with_reducible first | (refine Bef.head ?_; k_extra "ne_mem") | (refine Bef.tail ?_; k_extra "ne_bef")
  k_with "lt_ap" => (with_reducible rename Apart _ => kqA; first | (with_reducible exact Apart.bef kqA (by k_extra "ne_bef")) | (clear kqA; k_extra "lt_ap"))
  k_with "lt_go" => first | (with_reducible assumption) | (with_reducible exact AllLt.get (by assumption) (by k_extra "ne_mem")) | k_extra "lt_ap" | ((with_reducible refine Nat.lt_trans ?kq1 ?kq2); (case kq2 => with_reducible assumption); (case kq1 => k_extra "lt_go")) | ((with_reducible refine Nat.lt_trans ?kq1 ?kq2); (case kq1 => with_reducible assumption); (case kq2 => k_extra "lt_ap"))
  k_with "ne_lt" => with_reducible first | exact Nat.ne_of_lt (AllLt.get (by assumption) (by k_extra "ne_mem")) | exact Nat.ne_of_gt (AllLt.get (by assumption) (by k_extra "ne_mem"))
  k_with "ne_ap" => (with_reducible rename Apart _ => kqA; first | (with_reducible exact Nat.ne_of_lt (Apart.bef kqA (by k_extra "ne_bef"))) | (with_reducible exact Nat.ne_of_gt (Apart.bef kqA (by k_extra "ne_bef"))) | (clear kqA; k_extra "ne_ap"))
  k_with "k_ne" => (refine neN ?_; (try dsimp only); first | (with_reducible assumption) | (with_reducible exact Ne.symm (by assumption)) | (with_reducible exact Nat.ne_of_lt (by assumption)) | (with_reducible exact Nat.ne_of_gt (by assumption)) | k_extra "ne_lt" | k_extra "ne_ap" | omega | ((try simp only [AllLt] at *); omega))
  k_with "ne_all" => first | (with_reducible assumption) | (refine And.intro ?_ ?_ <;> k_extra "ne_all") | k_ne
  k_with "mem_hq" => first | exact hq | exact List.mem_append_left _ hq | (refine List.mem_cons_of_mem _ ?_; k_extra "mem_hq")
  k_with "perm" => first | (refine List.forall_mem_cons.mpr (And.intro ?kqa ?kqb); (case kqa => k_extra "ne_mem"); (case kqb => k_extra "perm")) | exact List.forall_mem_nil _ | (intro q hq; k_extra "mem_hq")
  k_with "ord" => first | (with_reducible assumption) | ((with_reducible show @LT.lt Nat _ _ _); k_extra "lt_go") | k_ne | omega | ((try simp only [AllLt] at *); omega)
  k_with "tb_start" => first | exact Pick.head | (apply Pick.tail; tb_start)
  k_with "tb_rel" => first | exact Suff.refl | (refine' Suff.tail ?_; tb_rel)
  k_with "ktr_rel" => first | exact Picks.nil | (refine' Picks.cons ?kqp ?kqq; (case kqp => tb_start); (case kqq => ktr_rel))
  k_with "ktr_unf" => exact ⟨by k_asm, by k_asm, by k_asm, by k_asm, by first | exact rfl | assumption⟩
  k_with "subscriptTail Attribute Name Slice" => (k_here; k_dflt (refine kba_turn (value' := PySem.Expr.Name (PySem.Str.ofString "_") ⟨0, 0, 0, 0⟩) (fun _ => rfl) ?_))
  k_with "subscriptTail Name Slice ref ref" => (k_here; (with_reducible show wpAny _ _ (subscriptTail _ (PySem.Expr.Slice (some _) (some _) none _) (Value.ref _) (Value.ref _)) _ _ _); k_dflt (refine' my_slice ?kqF ?kqN ?kql ?kqi ?kqx ?kqy ?kqz ?_ ?kqs ?kqt; (case kqF => k_asm); (case kqN => k_asm); (case kql => k_mem); (case kqi => k_asm); (case kqx => first | (with_reducible assumption) | omega | ((try simp only [AllLt] at *); omega)); (case kqy => first | (with_reducible assumption) | omega | ((try simp only [AllLt] at *); omega)); (case kqz => first | (with_reducible assumption) | omega | ((try simp only [AllLt] at *); omega)); (case kqs => with_unfolding_all rfl); (case kqt => kmk_pure); k_whole); intro D' ws' h' zs' F' N' l1 hI' hZ' hL'; (try (replace hL' := slice_len hL' (by first | (with_reducible assumption) | omega) (by first | (with_reducible assumption) | omega) (by first | (with_reducible assumption) | omega))); (try k_lt l1); (try k_sweep))
  k_with "setItem ref ref ref" => (k_here; k_dflt (refine' my_setslice ?kqF ?kqN ?kql ?kqU ?kqi ?kqw ?kqx ?kqy ?kqz ?kqzz ?_; (case kqF => k_asm); (case kqN => k_asm); (case kql => k_mem); (case kqU => k_updF); (case kqi => k_asm); (case kqw => k_asm); (case kqx => first | (with_reducible assumption) | omega | ((try simp only [AllLt] at *); omega)); (case kqy => first | (with_reducible assumption) | omega | ((try simp only [AllLt] at *); omega)); (case kqz => first | (with_reducible assumption) | omega | ((try simp only [AllLt] at *); omega)); (case kqzz => first | (with_reducible assumption) | omega | ((try simp only [AllLt] at *); omega)); k_whole); intro vs' n2' h' ns' F' N' hI' hZ' hL'; (try dsimp only at N'); (try k_sweep))
  k_with "call builtin:len" => (k_here; (with_reducible show wpAny _ _ (call (Value.builtin "len") [Value.ref _]) _ _ _); k_dflt (refine' my_len ?kqN ?kql ?kqi ?kqz ?_; (case kqN => k_asm); (case kql => k_mem); (case kqi => k_asm); (case kqz => first | (with_reducible assumption) | omega | ((try simp only [AllLt] at *); omega)); k_whole))
  k_with "pyIter ref" => (k_here; k_dflt (first | (refine' iter_empty ?kqh ?kqF ?kqN ?kqm ?_; (case kqh => exact rfl); (case kqF => k_asm); (case kqN => k_asm); (case kqm => k_mem)) | (refine' iter_empty2 ?kqh ?kqF ?kqN ?kqm ?kqi ?kqz ?_; (case kqh => exact rfl); (case kqF => k_asm); (case kqN => k_asm); (case kqm => k_mem); (case kqi => k_asm); (case kqz => k_asm))); intro h' tk' F' N'; (try dsimp only); (try k_sweep))
  k_with "exec For" => (k_here; k_dflt (refine' halt ?_))
  k_with "call ref" => (k_here; (with_reducible show wpAny _ _ (call (Value.ref 134) _) _ _ _); k_dflt (refine' around_le (replace_spec ?kqC ?kqN ?kqP ?kqap ?kqe4 ?kqr1 ?kqr2 ?kqr3 ?kqi ?kql ?kqh0 ?kqh1 ?kqh2 ?kqhz ?kqhr ?kqlo ?kqd1 ?kqd2 ?kqw ?kqh3 ?kqh4 ?kqh5 ?kqh6 ?kqh7 ?_) ?kqd ?kqu; (case kqC => ktr_unf); (case kqN => k_asm); (case kqP => ktr_rel); (case kqap => k_asm); (case kqe4 => first | k_extra "ne_all" | omega); (case kqr1 => k_all); (case kqr2 => k_all); (case kqr3 => k_all); (case kqi => k_asm); (case kql => first | (with_reducible assumption) | omega | ((try simp only [AllLt] at *); omega)); (case kqh0 => first | (with_reducible assumption) | omega | ((try simp only [AllLt] at *); omega)); (case kqh1 => first | (with_reducible assumption) | omega | ((try simp only [AllLt] at *); omega)); (case kqh2 => first | (with_reducible assumption) | omega | ((try simp only [AllLt] at *); omega)); (case kqhz => first | (with_reducible assumption) | omega | ((try simp only [AllLt] at *); omega)); (case kqhr => k_asm); (case kqlo => k_asm); (case kqd1 => k_asm); (case kqd2 => k_asm); (case kqw => k_asm); (case kqh3 => first | (with_reducible assumption) | omega | ((try simp only [AllLt] at *); omega)); (case kqh4 => first | (with_reducible assumption) | omega | ((try simp only [AllLt] at *); omega)); (case kqh5 => first | (with_reducible assumption) | omega | ((try simp only [AllLt] at *); omega)); (case kqh6 => first | (with_reducible assumption) | omega | ((try simp only [AllLt] at *); omega)); (case kqh7 => first | (with_reducible assumption) | omega | ((try simp only [AllLt] at *); omega));  (case kqd => exact Nat.le_of_ble_eq_true rfl); (case kqu => exact Nat.le_of_ble_eq_true rfl)); intro D' vs' ns' n2' gs' t3' ge' t4' pt' p1' zv' z1' tk1' t1' ck1' c1' h' tk' F' N' hI' hL' hG0' hG1' hG2' hz' hzz' hk' hT'; (try simp only [List.cons_append, List.nil_append] at N'); (try dsimp only); (try k_sweep); (try k_fold))
  trivial
inductive RunJ (b db g mk ls : Addr) (K : BKeys) (sk : Int) (s1 : Tok) (dg c : Addr) (ns : List Int) (G : GKeys) (gs ge : Int) (dm rw : Addr) (hm : Int) (km : Tok) (orw : Obj) (nl : Nat) (el : Addr) (l : List Ed) (n0 : Nat) (rest : List (Addr × Obj)) (tq : Int) (i : Nat) (m' : Str → Option Value) (news' : List (Addr × Obj)) : Prop
  | mk (vsx : List Value) (nsx : List Int) (n2x : Nat) (gsx : Int) (t3x : Tok) (gex : Int) (t4x : Tok) (ptx : Int) (p1x : Tok) (zvx : Int) (z1x : Tok) (tk1x : Int) (t1x : Tok) (ck1x : Int) (c1x : Tok)
    (f0 : news' = (b, instObj 622 db) :: (db, bufD K g mk ls ptx p1x zvx z1x false tk1x t1x ck1x c1x sk s1) :: (g, instObj 411 dg) :: (dg, gapD G c gsx t3x gex t4x) :: (c, listOf (List.toArray vsx) n2x) :: (mk, instObj 481 dm) :: (dm, mkD hm km rw) :: (rw, orw) :: (ls, listOf #[] nl) :: (el, listOf (edVals l).toArray n0) :: rest)
    (f1 : m' (Str.ofString "buffer") = some (.ref b))
    (f2 : IntsAre vsx nsx)
    (f3 : nsx.length ≤ ns.length + 20 * i)
    (f4 : 0 ≤ gsx)
    (f5 : gsx ≤ gex)
    (f6 : gex ≤ nsx.length)
    (f7 : zvx = nsx.length - gex + gsx + 1)
    (f8 : (∃ bx, bx ≤ zvx ∧ EdDesc ls bx (l.drop i)))
    (f9 : tk1x = tq + ((l.take i).countP Ed.busy : Nat))
    (f10 : gtext nsx gsx gex = (l.take i).foldl put1 (gtext ns gs ge)) : RunJ b db g mk ls K sk s1 dg c ns G gs ge dm rw hm km orw nl el l n0 rest tq i m' news'
variable {prog : Program} {w : World} {p : Program} {loose : List Str} {mean : ExcName → Option Value} {mg mb : Str → Option Value} {cn : Str} {cs : Scope} {a : Addr} {ccd : Value} {cl : List (Str × Addr)} {outer : List Env} {A₀ : Around} {base h₀ : Heap} {L : Addr} {m : Str → Option Value} {s : Shared} {Q E : Value → Shared → Prop} in
theorem runN {hh : Heap} {b db g dg c mk dm rw ls el I : Addr} {o1 o2 o3 o4 o5 o6 o7 o8 o9 o10 oI : Obj} {x1 x2 : Addr × Obj} {rest rI : List (Addr × Obj)} (NN : News h₀ L hh ((b, o1) :: (db, o2) :: (g, o3) :: (dg, o4) :: (c, o5) :: (mk, o6) :: (dm, o7) :: (rw, o8) :: (ls, o9) :: x1 :: x2 :: (el, o10) :: rI)) (e : rest ++ [(I, oI)] = rI) :
    News h₀ L hh ([(I, oI)] ++ ((b, o1) :: (db, o2) :: (g, o3) :: (dg, o4) :: (c, o5) :: (mk, o6) :: (dm, o7) :: (rw, o8) :: (ls, o9) :: (el, o10) :: rest)) := by
  subst e
  exact news_last (l := [_, _, _, _, _, _, _, _, _, _]) (news_sel NN 12 [0, 1, 2, 3, 4, 5, 6, 7, 8, 11])
variable {prog : Program} {w : World} {p : Program} {loose : List Str} {mean : ExcName → Option Value} {mg mb : Str → Option Value} {cn : Str} {cs : Scope} {a : Addr} {ccd : Value} {cl : List (Str × Addr)} {outer : List Env} {A₀ : Around} {base h₀ : Heap} {L : Addr} {m : Str → Option Value} {s : Shared} {Q E : Value → Shared → Prop} in
theorem runN3 {hh : Heap} {b db g dg c mk dm rw ls el I : Addr} {o1 o2 o3 o4 o5 o6 o7 o8 o9 o10 oI : Obj} {x1 x2 : Addr × Obj} {rest rI : List (Addr × Obj)} (NN : News h₀ L hh (x1 :: x2 :: (b, o1) :: (db, o2) :: (g, o3) :: (dg, o4) :: (c, o5) :: (mk, o6) :: (dm, o7) :: (rw, o8) :: (ls, o9) :: (el, o10) :: rI)) (e : rest ++ [(I, oI)] = rI) :
    News h₀ L hh ([(I, oI)] ++ ((b, o1) :: (db, o2) :: (g, o3) :: (dg, o4) :: (c, o5) :: (mk, o6) :: (dm, o7) :: (rw, o8) :: (ls, o9) :: (el, o10) :: rest)) := by
  subst e
  exact news_last (l := [_, _, _, _, _, _, _, _, _, _]) (news_sel NN 12 [2, 3, 4, 5, 6, 7, 8, 9, 10, 11])
def applied_run_H (b : Addr) (db : Addr) (g : Addr) (mk : Addr) (ls : Addr) (K : BKeys) (pt : Int) (zv : Int) (tq : Int) (ck : Int) (sk : Int) (p1 : Tok) (z1 : Tok) (t1 : Tok) (c1 : Tok) (s1 : Tok) (dg : Addr) (c : Addr) (vs : List Value) (ns : List Int) (n2 : Nat) (G : GKeys) (gs : Int) (ge : Int) (t3 : Tok) (t4 : Tok) (dm : Addr) (rw : Addr) (hm : Int) (km : Tok) (orw : Obj) (nl : Nat) (el : Addr) (l : List Ed) (n0 : Nat) (news : List (Addr × Obj)) (rest : List (Addr × Obj)) (prog : Program) (w : World) (p : Program) (loose : List Str) (mean : ExcName → Option Value) (mg : Str → Option Value) (mb : Str → Option Value) (cn : Str) (cs : Scope) (a : Addr) (ccd : Value) (cl : List (Str × Addr)) (outer : List Env) (A₀ : Around) (base : Heap) (h₀ : Heap) (L : Addr) (m : Str → Option Value) (s : Shared) (Q : Value → Shared → Prop) (E : Value → Shared → Prop) (zR : Prop) : Prop := ∀ (C : Cx w p loose mean mg mb A₀ base outer h₀ L s.heap m cs) (N : News h₀ L s.heap news) (P : Picks [(b, instObj 622 db), (db, bufD K g mk ls pt p1 zv z1 false tq t1 ck c1 sk s1), (g, instObj 411 dg), (dg, gapD G c gs t3 ge t4), (c, listOf (List.toArray vs) n2), (mk, instObj 481 dm), (dm, mkD hm km rw), (rw, orw), (ls, listOf #[] nl), (el, listOf (edVals l).toArray n0)] news rest) (ap : Apart [db, b, dg, g, c, dm, mk, rw, ls]) (hel : @LT.lt Nat _ ls el) (r1 : ∀ q ∈ rest, q.1 ≠ c) (r2 : ∀ q ∈ rest, q.1 ≠ dg) (r3 : ∀ q ∈ rest, q.1 ≠ db) (hi : IntsAre vs ns) (hlen : ns.length ≤ 2800) (h0 : 0 ≤ gs) (h1 : gs ≤ ge) (h2 : ge ≤ ns.length) (hz : zv = ns.length - ge + gs + 1) (hr : G.room = 8) (lo : (rw == sysModules) = false) (d1 : orw.IsDictOf (strKind prog w) []) (d2 : orw.IsDictOf (intKind prog w) []) (hed : EdDesc ls zv l) (hsub : ∀ q ∈ edEnts l, q ∈ rest) (hl4 : l.length ≤ 4) (ret : ∀ vs' ns' n2' gs' t3' ge' t4' pt' p1' zv' z1' tk1' t1' ck1' c1' h' tk', Fr h₀ L h' m → News h₀ L h' ([(b, instObj 622 db), (db, bufD K g mk ls pt' p1' zv' z1' false tk1' t1' ck1' c1' sk s1), (g, instObj 411 dg), (dg, gapD G c gs' t3' ge' t4'), (c, listOf (List.toArray vs') n2'), (mk, instObj 481 dm), (dm, mkD hm km rw), (rw, orw), (ls, listOf #[] nl), (el, listOf (edVals l).toArray n0)] ++ rest) → IntsAre vs' ns' → ns'.length ≤ ns.length + 20 * l.length → 0 ≤ gs' → gs' ≤ ge' → ge' ≤ ns'.length → zv' = ns'.length - ge' + gs' + 1 → tk1' = tq + (l.countP Ed.busy : Nat) → gtext ns' gs' ge' = l.foldl put1 (gtext ns gs ge) → Q .none { s with heap := h', toks := tk' }), zR
set_option maxRecDepth 100000 in
set_option maxHeartbeats 8000000 in
noncomputable def applied_run_k (b : Addr) (db : Addr) (g : Addr) (mk : Addr) (ls : Addr) (K : BKeys) (pt : Int) (zv : Int) (tq : Int) (ck : Int) (sk : Int) (p1 : Tok) (z1 : Tok) (t1 : Tok) (c1 : Tok) (s1 : Tok) (dg : Addr) (c : Addr) (vs : List Value) (ns : List Int) (n2 : Nat) (G : GKeys) (gs : Int) (ge : Int) (t3 : Tok) (t4 : Tok) (dm : Addr) (rw : Addr) (hm : Int) (km : Tok) (orw : Obj) (nl : Nat) (el : Addr) (l : List Ed) (n0 : Nat) (news : List (Addr × Obj)) (rest : List (Addr × Obj)) (prog : Program) (w : World) (p : Program) (loose : List Str) (mean : ExcName → Option Value) (mg : Str → Option Value) (mb : Str → Option Value) (cn : Str) (cs : Scope) (a : Addr) (ccd : Value) (cl : List (Str × Addr)) (outer : List Env) (A₀ : Around) (base : Heap) (h₀ : Heap) (L : Addr) (m : Str → Option Value) (s : Shared) (Q : Value → Shared → Prop) (E : Value → Shared → Prop) : PSigma (fun zP : Heap → Addr → Heap → Prop => (∀ zq1 zq2 zq3, applied_run_H b db g mk ls K pt zv tq ck sk p1 z1 t1 c1 s1 dg c vs ns n2 G gs ge t3 t4 dm rw hm km orw nl el l n0 news rest prog w p loose mean mg mb cn cs a ccd cl outer A₀ base h₀ L m s Q E (zP zq1 zq2 zq3)) → applied_run_H b db g mk ls K pt zv tq ck sk p1 z1 t1 c1 s1 dg c vs ns n2 G gs ge t3 t4 dm rw hm km orw nl el l n0 news rest prog w p loose mean mg mb cn cs a ccd cl outer A₀ base h₀ L m s Q E (wpAny (model prog w) (ktrTop 880 8800 none cn cs L a ccd cl outer) (call (.ref 296) [.ref b, .ref el]) Q E s)) := by
  refine ⟨?zG, fun zH C N P ap hel r1 r2 r3 hi hlen h0 h1 h2 hz hr lo d1 d2 hed hsub hl4 ret => ?zh⟩
  case zh =>
    have zc := fun zq1 zq2 zq3 => zH zq1 zq2 zq3 C N P ap hel r1 r2 r3 hi hlen h0 h1 h2 hz hr lo d1 d2 hed hsub hl4 ret
    clear zH
    obtain ⟨B, F, X, T, hk⟩ := C
    replace N := news_picks N P
    simp only [List.cons_append, List.nil_append] at N
    refine wpAny_call ?_
    k_dflt cell_enter
    rename_i g9 L9 h9 FG9 F9 N9 B9 X9 T9
    revert FG9 F9 N9 B9 X9 T9
    exact zc g9 L9 h9
abbrev applied_run_P : Type := ((((((Heap × Addr) × (Heap × Addr)) × ((Addr × Addr) × (Addr × Addr))) × (((BKeys × Int) × (Int × Int)) × ((Int × Int) × (Tok × Tok)))) × ((((Tok × Tok) × (Tok × Addr)) × ((Addr × (List Value)) × ((List Int) × Nat))) × (((GKeys × Int) × (Int × Tok)) × ((Tok × Addr) × Addr)))) × (((((Int × Tok) × (Obj × Nat)) × ((Addr × (List Ed)) × (Nat × (List (Addr × Obj))))) × ((((List (Addr × Obj)) × Program) × (World × Program)) × (((List Str) × (ExcName → Option Value)) × (Str → Option Value)))) × (((((Str → Option Value) × Str) × (Scope × Addr)) × ((Value × (List (Str × Addr))) × ((List Env) × Around))) × (((Heap × Heap) × (Addr × (Str → Option Value))) × ((Shared × (Value → Shared → Prop)) × (Value → Shared → Prop))))))
abbrev applied_run_F (x : applied_run_P) : Prop := applied_run_H (x.1.1.1.1.2.2) (x.1.1.1.2.1.1) (x.1.1.1.2.1.2) (x.1.1.1.2.2.1) (x.1.1.1.2.2.2) (x.1.1.2.1.1.1) (x.1.1.2.1.1.2) (x.1.1.2.1.2.1) (x.1.1.2.1.2.2) (x.1.1.2.2.1.1) (x.1.1.2.2.1.2) (x.1.1.2.2.2.1) (x.1.1.2.2.2.2) (x.1.2.1.1.1.1) (x.1.2.1.1.1.2) (x.1.2.1.1.2.1) (x.1.2.1.1.2.2) (x.1.2.1.2.1.1) (x.1.2.1.2.1.2) (x.1.2.1.2.2.1) (x.1.2.1.2.2.2) (x.1.2.2.1.1.1) (x.1.2.2.1.1.2) (x.1.2.2.1.2.1) (x.1.2.2.1.2.2) (x.1.2.2.2.1.1) (x.1.2.2.2.1.2) (x.1.2.2.2.2) (x.2.1.1.1.1.1) (x.2.1.1.1.1.2) (x.2.1.1.1.2.1) (x.2.1.1.1.2.2) (x.2.1.1.2.1.1) (x.2.1.1.2.1.2) (x.2.1.1.2.2.1) (x.2.1.1.2.2.2) (x.2.1.2.1.1.1) (x.2.1.2.1.1.2) (x.2.1.2.1.2.1) (x.2.1.2.1.2.2) (x.2.1.2.2.1.1) (x.2.1.2.2.1.2) (x.2.1.2.2.2) (x.2.2.1.1.1.1) (x.2.2.1.1.1.2) (x.2.2.1.1.2.1) (x.2.2.1.1.2.2) (x.2.2.1.2.1.1) (x.2.2.1.2.1.2) (x.2.2.1.2.2.1) (x.2.2.1.2.2.2) (x.2.2.2.1.1.1) (x.2.2.2.1.1.2) (x.2.2.2.1.2.1) (x.2.2.2.1.2.2) (x.2.2.2.2.1.1) (x.2.2.2.2.1.2) (x.2.2.2.2.2)  ((applied_run_k (x.1.1.1.1.2.2) (x.1.1.1.2.1.1) (x.1.1.1.2.1.2) (x.1.1.1.2.2.1) (x.1.1.1.2.2.2) (x.1.1.2.1.1.1) (x.1.1.2.1.1.2) (x.1.1.2.1.2.1) (x.1.1.2.1.2.2) (x.1.1.2.2.1.1) (x.1.1.2.2.1.2) (x.1.1.2.2.2.1) (x.1.1.2.2.2.2) (x.1.2.1.1.1.1) (x.1.2.1.1.1.2) (x.1.2.1.1.2.1) (x.1.2.1.1.2.2) (x.1.2.1.2.1.1) (x.1.2.1.2.1.2) (x.1.2.1.2.2.1) (x.1.2.1.2.2.2) (x.1.2.2.1.1.1) (x.1.2.2.1.1.2) (x.1.2.2.1.2.1) (x.1.2.2.1.2.2) (x.1.2.2.2.1.1) (x.1.2.2.2.1.2) (x.1.2.2.2.2) (x.2.1.1.1.1.1) (x.2.1.1.1.1.2) (x.2.1.1.1.2.1) (x.2.1.1.1.2.2) (x.2.1.1.2.1.1) (x.2.1.1.2.1.2) (x.2.1.1.2.2.1) (x.2.1.1.2.2.2) (x.2.1.2.1.1.1) (x.2.1.2.1.1.2) (x.2.1.2.1.2.1) (x.2.1.2.1.2.2) (x.2.1.2.2.1.1) (x.2.1.2.2.1.2) (x.2.1.2.2.2) (x.2.2.1.1.1.1) (x.2.2.1.1.1.2) (x.2.2.1.1.2.1) (x.2.2.1.1.2.2) (x.2.2.1.2.1.1) (x.2.2.1.2.1.2) (x.2.2.1.2.2.1) (x.2.2.1.2.2.2) (x.2.2.2.1.1.1) (x.2.2.2.1.1.2) (x.2.2.2.1.2.1) (x.2.2.2.1.2.2) (x.2.2.2.2.1.1) (x.2.2.2.2.1.2) (x.2.2.2.2.2) ).1 (x.1.1.1.1.1.1) (x.1.1.1.1.1.2) (x.1.1.1.1.2.1))
theorem applied_run_ex : ∃ x : applied_run_P, applied_run_F x → ∀ y : applied_run_P, applied_run_F y := drinker ⟨((((((default, (0 : Nat)), (default, (0 : Nat))), (((0 : Nat), (0 : Nat)), ((0 : Nat), (0 : Nat)))), (((bkeys0, 0), (0, 0)), ((0, 0), ((0 : Nat), (0 : Nat))))), (((((0 : Nat), (0 : Nat)), ((0 : Nat), (0 : Nat))), (((0 : Nat), []), ([], 0))), (((gkeys0, 0), (0, (0 : Nat))), (((0 : Nat), (0 : Nat)), (0 : Nat))))), (((((0, (0 : Nat)), (default, 0)), (((0 : Nat), []), (0, []))), ((([], default), (world0, default)), (([], fun _ => none), fun _ => none))), ((((fun _ => none, default), (default, (0 : Nat))), ((.none, []), ([], {}))), (((default, default), ((0 : Nat), fun _ => none)), (({}, fun _ _ => True), fun _ _ => True)))))⟩
noncomputable def applied_run_x : applied_run_P := applied_run_ex.choose
namespace applied_run_n
noncomputable def g9 : Heap := applied_run_x.1.1.1.1.1.1
noncomputable def L9 : Addr := applied_run_x.1.1.1.1.1.2
noncomputable def h9 : Heap := applied_run_x.1.1.1.1.2.1
noncomputable def b : Addr := applied_run_x.1.1.1.1.2.2
noncomputable def db : Addr := applied_run_x.1.1.1.2.1.1
noncomputable def g : Addr := applied_run_x.1.1.1.2.1.2
noncomputable def mk : Addr := applied_run_x.1.1.1.2.2.1
noncomputable def ls : Addr := applied_run_x.1.1.1.2.2.2
noncomputable def K : BKeys := applied_run_x.1.1.2.1.1.1
noncomputable def pt : Int := applied_run_x.1.1.2.1.1.2
noncomputable def zv : Int := applied_run_x.1.1.2.1.2.1
noncomputable def tq : Int := applied_run_x.1.1.2.1.2.2
noncomputable def ck : Int := applied_run_x.1.1.2.2.1.1
noncomputable def sk : Int := applied_run_x.1.1.2.2.1.2
noncomputable def p1 : Tok := applied_run_x.1.1.2.2.2.1
noncomputable def z1 : Tok := applied_run_x.1.1.2.2.2.2
noncomputable def t1 : Tok := applied_run_x.1.2.1.1.1.1
noncomputable def c1 : Tok := applied_run_x.1.2.1.1.1.2
noncomputable def s1 : Tok := applied_run_x.1.2.1.1.2.1
noncomputable def dg : Addr := applied_run_x.1.2.1.1.2.2
noncomputable def c : Addr := applied_run_x.1.2.1.2.1.1
noncomputable def vs : List Value := applied_run_x.1.2.1.2.1.2
noncomputable def ns : List Int := applied_run_x.1.2.1.2.2.1
noncomputable def n2 : Nat := applied_run_x.1.2.1.2.2.2
noncomputable def G : GKeys := applied_run_x.1.2.2.1.1.1
noncomputable def gs : Int := applied_run_x.1.2.2.1.1.2
noncomputable def ge : Int := applied_run_x.1.2.2.1.2.1
noncomputable def t3 : Tok := applied_run_x.1.2.2.1.2.2
noncomputable def t4 : Tok := applied_run_x.1.2.2.2.1.1
noncomputable def dm : Addr := applied_run_x.1.2.2.2.1.2
noncomputable def rw : Addr := applied_run_x.1.2.2.2.2
noncomputable def hm : Int := applied_run_x.2.1.1.1.1.1
noncomputable def km : Tok := applied_run_x.2.1.1.1.1.2
noncomputable def orw : Obj := applied_run_x.2.1.1.1.2.1
noncomputable def nl : Nat := applied_run_x.2.1.1.1.2.2
noncomputable def el : Addr := applied_run_x.2.1.1.2.1.1
noncomputable def l : List Ed := applied_run_x.2.1.1.2.1.2
noncomputable def n0 : Nat := applied_run_x.2.1.1.2.2.1
noncomputable def news : List (Addr × Obj) := applied_run_x.2.1.1.2.2.2
noncomputable def rest : List (Addr × Obj) := applied_run_x.2.1.2.1.1.1
noncomputable def prog : Program := applied_run_x.2.1.2.1.1.2
noncomputable def w : World := applied_run_x.2.1.2.1.2.1
noncomputable def p : Program := applied_run_x.2.1.2.1.2.2
noncomputable def loose : List Str := applied_run_x.2.1.2.2.1.1
noncomputable def mean : ExcName → Option Value := applied_run_x.2.1.2.2.1.2
noncomputable def mg : Str → Option Value := applied_run_x.2.1.2.2.2
noncomputable def mb : Str → Option Value := applied_run_x.2.2.1.1.1.1
noncomputable def cn : Str := applied_run_x.2.2.1.1.1.2
noncomputable def cs : Scope := applied_run_x.2.2.1.1.2.1
noncomputable def a : Addr := applied_run_x.2.2.1.1.2.2
noncomputable def ccd : Value := applied_run_x.2.2.1.2.1.1
noncomputable def cl : List (Str × Addr) := applied_run_x.2.2.1.2.1.2
noncomputable def outer : List Env := applied_run_x.2.2.1.2.2.1
noncomputable def A₀ : Around := applied_run_x.2.2.1.2.2.2
noncomputable def base : Heap := applied_run_x.2.2.2.1.1.1
noncomputable def h₀ : Heap := applied_run_x.2.2.2.1.1.2
noncomputable def L : Addr := applied_run_x.2.2.2.1.2.1
noncomputable def m : Str → Option Value := applied_run_x.2.2.2.1.2.2
noncomputable def s : Shared := applied_run_x.2.2.2.2.1.1
noncomputable def Q : Value → Shared → Prop := applied_run_x.2.2.2.2.1.2
noncomputable def E : Value → Shared → Prop := applied_run_x.2.2.2.2.2
set_option maxRecDepth 100000 in
set_option maxHeartbeats 8000000 in
theorem main  : applied_run_H b db g mk ls K pt zv tq ck sk p1 z1 t1 c1 s1 dg c vs ns n2 G gs ge t3 t4 dm rw hm km orw nl el l n0 news rest prog w p loose mean mg mb cn cs a ccd cl outer A₀ base h₀ L m s Q E ((applied_run_k b db g mk ls K pt zv tq ck sk p1 z1 t1 c1 s1 dg c vs ns n2 G gs ge t3 t4 dm rw hm km orw nl el l n0 news rest prog w p loose mean mg mb cn cs a ccd cl outer A₀ base h₀ L m s Q E).1 g9 L9 h9) := by
  intro C N P ap hel r1 r2 r3 hi hlen h0 h1 h2 hz hr lo d1 d2 hed hsub hl4 ret
  obtain ⟨B, F, X, T, hk⟩ := C
  have ap1 := ap
  simp only [Apart, and_true] at ap1
  have ap5 : Apart [db, b, dg, g, c] := by simp only [Apart, and_true]; omega
  have hgl := gtext_length h0 h1 h2
  replace N := news_picks N P
  simp only [List.cons_append, List.nil_append] at N
  delta applied_run_k
  dsimp only
  intro _ _ _ _ _ _
  k_steps
  change wpAny _ _ _ _ _ _
  refine for_made (l := el) (n := n0) (vs := edVals l) (RunJ b db g mk ls K sk s1 dg c ns G gs ge dm rw hm km orw nl el l n0 rest tq) rfl (by k_asm) (by k_asm) ?_ ?_ ?_ ?_ ?_ (fun _ => rfl) (by passes_own)
  · k_steps
  · rintro i m' news' ⟨vsx, nsx, n2x, gsx, t3x, gex, t4x, ptx, p1x, zvx, z1x, tk1x, t1x, ck1x, c1x, rfl, _⟩
    exact .tail _ (.tail _ (.tail _ (.tail _ (.tail _ (.tail _ (.tail _ (.tail _ (.tail _ (.head _)))))))))
  · exact ⟨_, _, _, _, _, _, _, _, _, _, _, _, _, _, _, rfl, rfl, hi, by k_extra "ord", h0, h1, h2, hz, ⟨zv, Int.le_refl _, by simpa using hed⟩, by simp, by simp⟩
  · intro I i v m₁ news₁ h₁ tk₁ oI hv hJ hoff F1 N1
    obtain ⟨vsx, nsx, n2x, gsx, t3x, gex, t4x, ptx, p1x, zvx, z1x, tk1x, t1x, ck1x, c1x, rfl, hmb, ki, kl, k0, k1, k2, kz, ⟨bx, kb, ked⟩, kt, kg⟩ := hJ
    simp only [edVals, List.getElem?_map] at hv
    obtain ⟨d, hd, rfl⟩ := Option.map_eq_some_iff.mp hv
    have hdm : d ∈ l := List.mem_of_getElem? hd
    have hi4 : i < l.length := (List.getElem?_eq_some_iff.mp hd).1
    obtain ⟨hdi, hl10, hs1, hse, heb, lt1, lt2, hrest⟩ := ked.at (i := 0) (d := d) (by rw [List.getElem?_drop]; simpa using hd)
    have hmf : m₁ = fun y => if y = Str.ofString "buffer" then some (.ref b) else m₁ y := by funext y; split <;> simp_all
    rw [hmf] at F1
    have hgl := gtext_length k0 k1 k2
    have hrI : ∀ q ∈ rest ++ [(I, oI)], q.1 ≠ c ∧ q.1 ≠ dg ∧ q.1 ≠ db := by
      intro q hq
      rcases List.mem_append.mp hq with hq | hq
      · exact ⟨r1 q hq, r2 q hq, r3 q hq⟩
      · rw [List.mem_singleton.mp hq]
        have z1 := hoff (c, _) (.tail _ (.tail _ (.tail _ (.tail _ (.head _)))))
        have z2 := hoff (dg, _) (.tail _ (.tail _ (.tail _ (.head _))))
        have z3 := hoff (db, _) (.tail _ (.head _))
        exact ⟨fun z => z1 z.symm, fun z => z2 z.symm, fun z => z3 z.symm⟩
    have u1 : ∀ q ∈ rest ++ [(I, oI)], q.1 ≠ c := fun q hq => (hrI q hq).1
    have u2 : ∀ q ∈ rest ++ [(I, oI)], q.1 ≠ dg := fun q hq => (hrI q hq).2.1
    have u3 : ∀ q ∈ rest ++ [(I, oI)], q.1 ≠ db := fun q hq => (hrI q hq).2.2
    have N2 := news_in (own := [(I, oI)]) (own' := [(d.t, d.tup), (d.c, listOf d.vs.toArray d.nc)]) N1 (fun q hq => by
      rcases List.mem_cons.mp hq with rfl | hq
      · simp only [List.mem_cons]; iterate 10 refine .inr ?_
        exact hsub _ (edEnts_t hdm)
      · rw [List.mem_singleton.mp hq]; simp only [List.mem_cons]; iterate 10 refine .inr ?_
        exact hsub _ (edEnts_c hdm))
    simp only [List.cons_append, List.nil_append] at N2
    clear N1
    generalize hrr : rest ++ [(I, oI)] = rI at N2 u1 u2 u3
    clear hrI
    k_steps
    all_goals have htake : l.take (i + 1) = l.take i ++ [d] := by rw [List.take_add_one, hd]; rfl
    all_goals have hdrop : List.drop (0 + 1) (List.drop i l) = l.drop (i + 1) := by rw [List.drop_drop]
    · have hb : d.busy = true := by simp only [Ed.busy, Bool.or_eq_true, decide_eq_true_eq]; omega
      refine LoopStepU.intro (by k_asm) (runN (by k_asm) hrr) ?_ ⟨_, _, _, _, _, _, _, _, _, _, _, _, _, _, _, rfl, rfl, by assumption, by k_extra "ord", by assumption, by assumption, by assumption, by assumption, ⟨d.s, by k_extra "ord", hdrop ▸ hrest⟩, ?_, ?_⟩
      · exact off_of_map (fun p hp z => hoff p hp (List.mem_singleton.mp z)) rfl
      · rw [htake, List.countP_append, List.countP_singleton, if_pos hb]; omega
      · rw [htake, List.foldl_append, ← kg]; assumption
    · have hb : d.busy = true := by simp only [Ed.busy, Bool.or_eq_true, decide_eq_true_eq]; omega
      refine LoopStepU.intro (by k_asm) (runN (by k_asm) hrr) ?_ ⟨_, _, _, _, _, _, _, _, _, _, _, _, _, _, _, rfl, rfl, by assumption, by k_extra "ord", by assumption, by assumption, by assumption, by assumption, ⟨d.s, by k_extra "ord", hdrop ▸ hrest⟩, ?_, ?_⟩
      · exact off_of_map (fun p hp z => hoff p hp (List.mem_singleton.mp z)) rfl
      · rw [htake, List.countP_append, List.countP_singleton, if_pos hb]; omega
      · rw [htake, List.foldl_append, ← kg]; assumption
    · have hb : d.busy = false := by simp only [Ed.busy, Bool.or_eq_false_iff, decide_eq_false_iff_not]; omega
      refine LoopStepU.intro (by k_asm) (runN3 (by k_asm) hrr) ?_ ⟨_, _, _, _, _, _, _, _, _, _, _, _, _, _, _, rfl, rfl, by assumption, by k_extra "ord", by assumption, by assumption, by assumption, by assumption, ⟨d.s, by k_extra "ord", hdrop ▸ hrest⟩, ?_, ?_⟩
      · exact off_of_map (fun p hp z => hoff p hp (List.mem_singleton.mp z)) rfl
      · rw [htake, List.countP_append, List.countP_singleton, if_neg (by rw [hb]; decide)]; omega
      · rw [htake, List.foldl_append, ← kg]; exact (put1_idle hb hse).symm
  · rintro h' tk' m' news' F' N' ⟨vsx, nsx, n2x, gsx, t3x, gex, t4x, ptx, p1x, zvx, z1x, tk1x, t1x, ck1x, c1x, rfl, hmb, ki, kl, k0, k1, k2, kz, _, kt, kg⟩
    have hev : (edVals l).length = l.length := List.length_map ..
    rw [hev, List.take_length] at kt kg
    rw [hev] at kl
    (try dsimp only)
    k_steps
    exact ret _ _ _ _ _ _ _ _ _ _ _ _ _ _ _ _ _ (by k_asm) (news_back (by k_asm) (by ktr_rel) (by tb_rel)) ki kl k0 k1 k2 kz kt kg
end applied_run_n
theorem applied_run {prog : Program} {w : World} {p : Program} {loose : List Str} {mean : ExcName → Option Value} {mg : Str → Option Value} {mb : Str → Option Value} {cn : Str} {cs : Scope} {a : Addr} {ccd : Value} {cl : List (Str × Addr)} {outer : List Env} {A₀ : Around} {base : Heap} {h₀ : Heap} {L : Addr} {m : Str → Option Value} {s : Shared} {Q : Value → Shared → Prop} {E : Value → Shared → Prop} {b : Addr} {db : Addr} {g : Addr} {mk : Addr} {ls : Addr} {K : BKeys} {pt : Int} {zv : Int} {tq : Int} {ck : Int} {sk : Int} {p1 : Tok} {z1 : Tok} {t1 : Tok} {c1 : Tok} {s1 : Tok} {dg : Addr} {c : Addr} {vs : List Value} {ns : List Int} {n2 : Nat} {G : GKeys} {gs : Int} {ge : Int} {t3 : Tok} {t4 : Tok} {dm : Addr} {rw : Addr} {hm : Int} {km : Tok} {orw : Obj} {nl : Nat} {el : Addr} {l : List Ed} {n0 : Nat} {news : List (Addr × Obj)} {rest : List (Addr × Obj)} : applied_run_H b db g mk ls K pt zv tq ck sk p1 z1 t1 c1 s1 dg c vs ns n2 G gs ge t3 t4 dm rw hm km orw nl el l n0 news rest prog w p loose mean mg mb cn cs a ccd cl outer A₀ base h₀ L m s Q E (wpAny (model prog w) (ktrTop 880 8800 none cn cs L a ccd cl outer) (call (.ref 296) [.ref b, .ref el]) Q E s) := (applied_run_k b db g mk ls K pt zv tq ck sk p1 z1 t1 c1 s1 dg c vs ns n2 G gs ge t3 t4 dm rw hm km orw nl el l n0 news rest prog w p loose mean mg mb cn cs a ccd cl outer A₀ base h₀ L m s Q E).2 (fun g9 L9 h9 => applied_run_ex.choose_spec (applied_run_n.main ) ((((((g9, L9), (h9, b)), ((db, g), (mk, ls))), (((K, pt), (zv, tq)), ((ck, sk), (p1, z1)))), ((((t1, c1), (s1, dg)), ((c, vs), (ns, n2))), (((G, gs), (ge, t3)), ((t4, dm), rw)))), (((((hm, km), (orw, nl)), ((el, l), (n0, news))), (((rest, prog), (w, p)), ((loose, mean), mg))), ((((mb, cn), (cs, a)), ((ccd, cl), (outer, A₀))), (((base, h₀), (L, m)), ((s, Q), E))))) )
end
section
theorem lines_X8_1 : True := by
  k_with_none
  k_with "k_all" => with_reducible assumption
  k_with "ne_mem" => with_reducible first | exact List.mem_cons_self | (refine List.mem_cons_of_mem _ ?_; k_extra "ne_mem") | (refine List.mem_append_right _ ?_; k_extra "ne_mem")
  k_with "ne_bef" => with_reducible first | (refine Bef.head ?_; k_extra "ne_mem") | (refine Bef.tail ?_; k_extra "ne_bef")
  k_with "lt_ap" => (with_reducible rename Apart _ => kqA; first | (with_reducible exact Apart.bef kqA (by k_extra "ne_bef")) | (clear kqA; k_extra "lt_ap"))
  k_with "lt_go" => first | (with_reducible assumption) | (with_reducible exact AllLt.get (by assumption) (by k_extra "ne_mem")) | k_extra "lt_ap" | ((with_reducible refine Nat.lt_trans ?kq1 ?kq2); (case kq2 => with_reducible assumption); (case kq1 => k_extra "lt_go")) | ((with_reducible refine Nat.lt_trans ?kq1 ?kq2); (case kq1 => with_reducible assumption); (case kq2 => k_extra "lt_ap"))
  k_with "ne_lt" => with_reducible first | exact Nat.ne_of_lt (AllLt.get (by assumption) (by k_extra "ne_mem")) | exact Nat.ne_of_gt (AllLt.get (by assumption) (by k_extra "ne_mem"))
  k_with "ne_ap" => (with_reducible rename Apart _ => kqA; first | (with_reducible exact Nat.ne_of_lt (Apart.bef kqA (by k_extra "ne_bef"))) | (with_reducible exact Nat.ne_of_gt (Apart.bef kqA (by k_extra "ne_bef"))) | (clear kqA; k_extra "ne_ap"))
  k_with "k_ne" => (refine neN ?_; (try dsimp only); first | (with_reducible assumption) | (with_reducible exact Ne.symm (by assumption)) | (with_reducible exact Nat.ne_of_lt (by assumption)) | (with_reducible exact Nat.ne_of_gt (by assumption)) | k_extra "ne_lt" | k_extra "ne_ap" | omega | ((try simp only [AllLt] at *); omega))
  k_with "ne_all" => first | (with_reducible assumption) | (refine And.intro ?_ ?_ <;> k_extra "ne_all") | k_ne
  k_with "mem_hq" => first | exact hq | exact List.mem_append_left _ hq | (refine List.mem_cons_of_mem _ ?_; k_extra "mem_hq")
  k_with "perm" => first | (refine List.forall_mem_cons.mpr (And.intro ?kqa ?kqb); (case kqa => k_extra "ne_mem"); (case kqb => k_extra "perm")) | exact List.forall_mem_nil _ | (intro q hq; k_extra "mem_hq")
  k_with "ord" => first | (with_reducible assumption) | ((with_reducible show @LT.lt Nat _ _ _); k_extra "lt_go") | k_ne | omega | ((try simp only [AllLt] at *); omega)
  k_with "tb_start" => first | exact Pick.head | (apply Pick.tail; tb_start)
  k_with "tb_rel" => first | exact Suff.refl | (refine' Suff.tail ?_; tb_rel)
  k_with "ktr_rel" => first | exact Picks.nil | (refine' Picks.cons ?kqp ?kqq; (case kqp => tb_start); (case kqq => ktr_rel))
  k_with "ktr_unf" => exact ⟨by k_asm, by k_asm, by k_asm, by k_asm, by first | exact rfl | assumption⟩
  k_with "subscriptTail Attribute Name Slice" => (k_here; k_dflt (refine kba_turn (value' := PySem.Expr.Name (PySem.Str.ofString "_") ⟨0, 0, 0, 0⟩) (fun _ => rfl) ?_))
  k_with "subscriptTail Name Slice ref ref" => (k_here; (with_reducible show wpAny _ _ (subscriptTail _ (PySem.Expr.Slice (some _) (some _) none _) (Value.ref _) (Value.ref _)) _ _ _); k_dflt (refine' my_slice ?kqF ?kqN ?kql ?kqi ?kqx ?kqy ?kqz ?_ ?kqs ?kqt; (case kqF => k_asm); (case kqN => k_asm); (case kql => k_mem); (case kqi => k_asm); (case kqx => first | (with_reducible assumption) | omega | ((try simp only [AllLt] at *); omega)); (case kqy => first | (with_reducible assumption) | omega | ((try simp only [AllLt] at *); omega)); (case kqz => first | (with_reducible assumption) | omega | ((try simp only [AllLt] at *); omega)); (case kqs => with_unfolding_all rfl); (case kqt => kmk_pure); k_whole); intro D' ws' h' zs' F' N' l1 hI' hZ' hL'; (try (replace hL' := slice_len hL' (by first | (with_reducible assumption) | omega) (by first | (with_reducible assumption) | omega) (by first | (with_reducible assumption) | omega))); (try k_lt l1); (try k_sweep))
  k_with "setItem ref ref ref" => (k_here; k_dflt (refine' my_setslice ?kqF ?kqN ?kql ?kqU ?kqi ?kqw ?kqx ?kqy ?kqz ?kqzz ?_; (case kqF => k_asm); (case kqN => k_asm); (case kql => k_mem); (case kqU => k_updF); (case kqi => k_asm); (case kqw => k_asm); (case kqx => first | (with_reducible assumption) | omega | ((try simp only [AllLt] at *); omega)); (case kqy => first | (with_reducible assumption) | omega | ((try simp only [AllLt] at *); omega)); (case kqz => first | (with_reducible assumption) | omega | ((try simp only [AllLt] at *); omega)); (case kqzz => first | (with_reducible assumption) | omega | ((try simp only [AllLt] at *); omega)); k_whole); intro vs' n2' h' ns' F' N' hI' hZ' hL'; (try dsimp only at N'); (try k_sweep))
  k_with "call builtin:len" => (k_here; (with_reducible show wpAny _ _ (call (Value.builtin "len") [Value.ref _]) _ _ _); k_dflt (refine' my_len ?kqN ?kql ?kqi ?kqz ?_; (case kqN => k_asm); (case kql => k_mem); (case kqi => k_asm); (case kqz => first | (with_reducible assumption) | omega | ((try simp only [AllLt] at *); omega)); k_whole))
  k_with "pyIter ref" => (k_here; k_dflt (first | (refine' iter_empty ?kqh ?kqF ?kqN ?kqm ?_; (case kqh => exact rfl); (case kqF => k_asm); (case kqN => k_asm); (case kqm => k_mem)) | (refine' iter_empty2 ?kqh ?kqF ?kqN ?kqm ?kqi ?kqz ?_; (case kqh => exact rfl); (case kqF => k_asm); (case kqN => k_asm); (case kqm => k_mem); (case kqi => k_asm); (case kqz => k_asm))); intro h' tk' F' N'; (try dsimp only); (try k_sweep))
  k_with "exec For Name Call cons nil" => (k_here; k_dflt (refine' wpAny_For ?_ ?kqhs; (case kqhs => exact fun _ => rfl); k_whole))
  k_with "call type:range" => (k_here; k_dflt (refine' range1_rows ?kqF ?kqN ?_; (case kqF => k_asm); (case kqN => k_asm); k_whole); intro h' tk' t1' u1' v1' hIs' F' N' hkp'; (try k_sweep))
  k_with "call ref" => (k_here; (with_reducible show wpAny _ _ (call (Value.ref 631) _) _ _ _); k_dflt (refine' around_le (draw_spec ?kqC ?kqN ?kqP ?kqne ?kqr ?kqi ?kql ?kqh0 ?kqh1 ?kqh2 ?_) ?kqd ?kqu; (case kqC => ktr_unf); (case kqN => k_asm); (case kqP => ktr_rel); (case kqne => first | (with_reducible assumption) | omega | ((try simp only [AllLt] at *); omega)); (case kqr => k_all); (case kqi => k_asm); (case kql => first | (with_reducible assumption) | omega | ((try simp only [AllLt] at *); omega)); (case kqh0 => first | (with_reducible assumption) | omega | ((try simp only [AllLt] at *); omega)); (case kqh1 => first | (with_reducible assumption) | omega | ((try simp only [AllLt] at *); omega)); (case kqh2 => first | (with_reducible assumption) | omega | ((try simp only [AllLt] at *); omega));  (case kqd => exact Nat.le_of_ble_eq_true rfl); (case kqu => exact Nat.le_of_ble_eq_true rfl)); intro r' t' t2' h' tk' F' N' hr0' hr1'; (try dsimp only); (try k_sweep); (try k_fold))
  trivial
theorem ed_size {l : List Ed} (h : l.length ≤ 1000) : (edVals l).toArray.size ≤ sizeLine := by
  rw [List.size_toArray, edVals, List.length_map, sizeLine_eq]; omega
theorem lines_X8_2 : True := by
  k_with "call builtin:list.append" => (k_here; k_dflt (refine' append_K ?kqk1 ?kqk2 ?kqk3 ?_ ?kqz; (case kqk1 => k_asm); (case kqk2 => k_asm); (case kqk3 => k_upd); (case kqz => exact ed_size (by omega)); k_whole); intro h' F' N'; (try k_sweep))
  k_with "subscriptTail Name Slice ref ref" => (k_here; (with_reducible show wpAny _ _ (subscriptTail _ (PySem.Expr.Slice none none (some _) _) (Value.ref _) (Value.ref _)) _ _ _); k_dflt (refine' krv_lit ?kqF ?kqN ?kql ?kqk ?kqe ?_ ?kqs ?kqt ?kqz; (case kqF => k_asm); (case kqN => k_asm); (case kql => kmk_list); (case kqk => exact IsPart.int _ _); (case kqe => exact rfl); (case kqs => with_unfolding_all rfl); (case kqt => kmk_pure); (case kqz => exact ed_size (by omega))); intro D' h' F' N' l1; (try k_lt l1); (try k_sweep))
  trivial
inductive EdJ (D A ls : Addr) (oL : Obj) (vs : List Value) (n1 n2 : Nat) (rest : List (Addr × Obj)) (z : Int) (tz : Tok) (k : Int) (i : Nat) (m' : Str → Option Value) (news' : List (Addr × Obj)) : Prop
  | mk (fd : Addr) (asc : List Ed) (nf : Nat) (px : Int) (tp : Tok) (kx : Int) (tx : Tok)
    (f0 : news' = (fd, listOf (edVals asc).toArray nf) :: (D, listOf #[.ref A, .int kx tx] n1) :: (A, listOf vs.toArray n2) :: (ls, oL) :: (edEnts asc ++ rest))
    (f1 : m' (Str.ofString "deck") = some (.ref D))
    (f2 : m' (Str.ofString "size") = some (.int z tz))
    (f3 : m' (Str.ofString "found") = some (.ref fd))
    (f4 : m' (Str.ofString "place") = some (.int px tp))
    (f5 : EdDesc ls (px - 1) asc.reverse)
    (f6 : 1 ≤ px)
    (f7 : px ≤ z + 2)
    (f8 : asc.length ≤ i)
    (f9 : k + 1 ≤ kx)
    (f10 : kx ≤ k + 1 + 3 * (i : Int))
    (f11 : @LT.lt Nat _ D fd)
    (f12 : @LT.lt Nat _ A fd)
    (f13 : @LT.lt Nat _ ls fd)
    (f14 : (∀ q ∈ edEnts asc, @LT.lt Nat _ fd q.1))
    (f15 : (∀ q ∈ rest, @LT.lt Nat _ q.1 fd)) : EdJ D A ls oL vs n1 n2 rest z tz k i m' news'
variable {prog : Program} {w : World} {p : Program} {loose : List Str} {mean : ExcName → Option Value} {mg mb : Str → Option Value} {cn : Str} {cs : Scope} {a : Addr} {ccd : Value} {cl : List (Str × Addr)} {outer : List Env} {A₀ : Around} {base h₀ : Heap} {L : Addr} {m : Str → Option Value} {s : Shared} {Q E : Value → Shared → Prop} in
theorem flat_len {α : Type} {x : α} : ∀ {n : Nat}, (List.replicate n [x]).flatten.length = n
  | 0 => rfl
  | n + 1 => by rw [List.replicate_succ, List.flatten_cons, List.length_append, flat_len]; simp; omega
variable {prog : Program} {w : World} {p : Program} {loose : List Str} {mean : ExcName → Option Value} {mg mb : Str → Option Value} {cn : Str} {cs : Scope} {a : Addr} {ccd : Value} {cl : List (Str × Addr)} {outer : List Env} {A₀ : Around} {base h₀ : Heap} {L : Addr} {m : Str → Option Value} {s : Shared} {Q E : Value → Shared → Prop} in
theorem EdDesc.mono {ls : Addr} : ∀ {l : List Ed} {b b' : Int}, EdDesc ls b l → b ≤ b' → EdDesc ls b' l
  | [], _, _, _, _ => trivial
  | _ :: _, _, _, ⟨h1, h2, h3, h4, h5, h6⟩, h => ⟨h1, h2, h3, h4, Int.le_trans h5 h, h6⟩
variable {prog : Program} {w : World} {p : Program} {loose : List Str} {mean : ExcName → Option Value} {mg mb : Str → Option Value} {cn : Str} {cs : Scope} {a : Addr} {ccd : Value} {cl : List (Str × Addr)} {outer : List Env} {A₀ : Around} {base h₀ : Heap} {L : Addr} {m : Str → Option Value} {s : Shared} {Q E : Value → Shared → Prop} in
theorem edVals_push {asc : List Ed} {d : Ed} : (edVals (asc ++ [d])).toArray = (edVals asc).toArray.push (.ref d.t) := by simp [edVals]
variable {prog : Program} {w : World} {p : Program} {loose : List Str} {mean : ExcName → Option Value} {mg mb : Str → Option Value} {cn : Str} {cs : Scope} {a : Addr} {ccd : Value} {cl : List (Str × Addr)} {outer : List Env} {A₀ : Around} {base h₀ : Heap} {L : Addr} {m : Str → Option Value} {s : Shared} {Q E : Value → Shared → Prop} in
theorem edVals_rev {asc : List Ed} : (edVals asc).toArray.toList.reverse = edVals asc.reverse := by simp [edVals]
variable {prog : Program} {w : World} {p : Program} {loose : List Str} {mean : ExcName → Option Value} {mg mb : Str → Option Value} {cn : Str} {cs : Scope} {a : Addr} {ccd : Value} {cl : List (Str × Addr)} {outer : List Env} {A₀ : Around} {base h₀ : Heap} {L : Addr} {m : Str → Option Value} {s : Shared} {Q E : Value → Shared → Prop} in
theorem edEnts_snoc {asc : List Ed} {d : Ed} : edEnts (asc ++ [d]) = edEnts asc ++ [(d.t, d.tup), (d.c, listOf d.vs.toArray d.nc)] := by simp [edEnts]
variable {prog : Program} {w : World} {p : Program} {loose : List Str} {mean : ExcName → Option Value} {mg mb : Str → Option Value} {cn : Str} {cs : Scope} {a : Addr} {ccd : Value} {cl : List (Str × Addr)} {outer : List Env} {A₀ : Around} {base h₀ : Heap} {L : Addr} {m : Str → Option Value} {s : Shared} {Q E : Value → Shared → Prop} in
theorem edEnts_rev {asc : List Ed} : ∀ q ∈ edEnts asc.reverse, q ∈ edEnts asc := fun q hq => by
  obtain ⟨d, hd, h⟩ := List.mem_flatMap.mp hq
  exact List.mem_flatMap.mpr ⟨d, List.mem_reverse.mp hd, h⟩
variable {prog : Program} {w : World} {p : Program} {loose : List Str} {mean : ExcName → Option Value} {mg mb : Str → Option Value} {cn : Str} {cs : Scope} {a : Addr} {ccd : Value} {cl : List (Str × Addr)} {outer : List Env} {A₀ : Around} {base h₀ : Heap} {L : Addr} {m : Str → Option Value} {s : Shared} {Q E : Value → Shared → Prop} in
theorem news_mid {hh : Heap} {p l r t : List (Addr × Obj)} (N : News h₀ L hh (p ++ (l ++ r))) (T : News h₀ L hh t) : News h₀ L hh (p ++ ((l ++ t) ++ r)) := fun q hq =>
  (List.mem_append.mp hq).elim (fun h => N q (List.mem_append_left _ h)) fun h => (List.mem_append.mp h).elim (fun h => (List.mem_append.mp h).elim (fun h => N q (List.mem_append_right _ (List.mem_append_left _ h))) (T q)) fun h => N q (List.mem_append_right _ (List.mem_append_right _ h))
variable {prog : Program} {w : World} {p : Program} {loose : List Str} {mean : ExcName → Option Value} {mg mb : Str → Option Value} {cn : Str} {cs : Scope} {a : Addr} {ccd : Value} {cl : List (Str × Addr)} {outer : List Env} {A₀ : Around} {base h₀ : Heap} {L : Addr} {m : Str → Option Value} {s : Shared} {Q E : Value → Shared → Prop} in
theorem edits_more {hh : Heap} {T c D A fd ls I : Addr} {oD oA oL oI : Obj} {x : Addr × Obj} {asc : List Ed} {s e : Int} {ts te : Tok} {vs' : List Value} {ns' : List Int} {nf : Nat} {rest tl : List (Addr × Obj)} (_ : IntsAre vs' ns')
  (NN : News h₀ L hh ((T, { cls := .type "tuple", data := .seq #[.int s ts, .int e te, .ref c] }) :: (c, listOf vs'.toArray 0) :: (D, oD) :: (A, oA) :: x :: (fd, listOf ((edVals asc).toArray.push (.ref T)) (nf + 1)) :: (ls, oL) :: tl)) (htl : edEnts asc ++ (rest ++ [(I, oI)]) = tl) :
  News h₀ L hh ([(I, oI)] ++ ((fd, listOf (edVals (asc ++ [⟨T, 0, s, e, ts, te, c, vs', ns', 0⟩])).toArray (nf + 1)) :: (D, oD) :: (A, oA) :: (ls, oL) :: (edEnts (asc ++ [⟨T, 0, s, e, ts, te, c, vs', ns', 0⟩]) ++ rest))) := by
  subst htl
  rw [edVals_push, edEnts_snoc]
  exact news_mid (p := [_, _, _, _, _]) (news_last (l := _ :: _ :: _ :: _ :: edEnts asc) (news_sel NN 7 [5, 2, 3, 6])) (fun q hq => NN q (List.mem_append_left _ hq))
variable {prog : Program} {w : World} {p : Program} {loose : List Str} {mean : ExcName → Option Value} {mg mb : Str → Option Value} {cn : Str} {cs : Scope} {a : Addr} {ccd : Value} {cl : List (Str × Addr)} {outer : List Env} {A₀ : Around} {base h₀ : Heap} {L : Addr} {m : Str → Option Value} {s : Shared} {Q E : Value → Shared → Prop} in
theorem edits_same {hh : Heap} {D A fd ls I : Addr} {oD oA oF oL oI : Obj} {asc : List Ed} {rest tl : List (Addr × Obj)}
  (NN : News h₀ L hh ((D, oD) :: (A, oA) :: (fd, oF) :: (ls, oL) :: tl)) (htl : edEnts asc ++ (rest ++ [(I, oI)]) = tl) :
  News h₀ L hh ([(I, oI)] ++ ((fd, oF) :: (D, oD) :: (A, oA) :: (ls, oL) :: (edEnts asc ++ rest))) := by
  subst htl
  exact news_last (l := _ :: _ :: _ :: _ :: edEnts asc) (news_sel NN 4 [2, 0, 1, 3])
def edits_spec_H (D : Addr) (A : Addr) (ls : Addr) (oL : Obj) (vs : List Value) (ns : List Int) (k : Int) (z : Int) (t : Tok) (tz : Tok) (n1 : Nat) (n2 : Nat) (news : List (Addr × Obj)) (rest : List (Addr × Obj)) (prog : Program) (w : World) (p : Program) (loose : List Str) (mean : ExcName → Option Value) (mg : Str → Option Value) (mb : Str → Option Value) (cn : Str) (cs : Scope) (a : Addr) (ccd : Value) (cl : List (Str × Addr)) (outer : List Env) (A₀ : Around) (base : Heap) (h₀ : Heap) (L : Addr) (m : Str → Option Value) (s : Shared) (Q : Value → Shared → Prop) (E : Value → Shared → Prop) (zR : Prop) : Prop := ∀ (C : Cx w p loose mean mg mb A₀ base outer h₀ L s.heap m cs) (N : News h₀ L s.heap news) (P : Picks [(D, listOf #[.ref A, .int k t] n1), (A, listOf vs.toArray n2), (ls, oL)] news rest) (hne : @Ne Nat A D) (hr : ∀ q ∈ rest, q.1 ≠ D) (hDl : @LT.lt Nat _ D ls) (hAl : @LT.lt Nat _ A ls) (hi : IntsAre vs ns) (hlen : ns.length ≤ 63) (h0 : 0 ≤ k) (hk9 : k < 900) (hz0 : 0 ≤ z) (hz1 : z ≤ 100) (ret : ∀ el l n0 k' t' h' tk', EdDesc ls (z + 1) l → l.length ≤ 4 → k ≤ k' → k' ≤ k + 13 → Fr h₀ L h' m → News h₀ L h' ((el, listOf (edVals l).toArray n0) :: edEnts l ++ ([(D, listOf #[.ref A, .int k' t'] n1), (A, listOf vs.toArray n2), (ls, oL)] ++ rest)) → @LT.lt Nat _ ls el → Q (.ref el) { s with heap := h', toks := tk' }), zR
set_option maxRecDepth 100000 in
set_option maxHeartbeats 8000000 in
noncomputable def edits_spec_k (D : Addr) (A : Addr) (ls : Addr) (oL : Obj) (vs : List Value) (ns : List Int) (k : Int) (z : Int) (t : Tok) (tz : Tok) (n1 : Nat) (n2 : Nat) (news : List (Addr × Obj)) (rest : List (Addr × Obj)) (prog : Program) (w : World) (p : Program) (loose : List Str) (mean : ExcName → Option Value) (mg : Str → Option Value) (mb : Str → Option Value) (cn : Str) (cs : Scope) (a : Addr) (ccd : Value) (cl : List (Str × Addr)) (outer : List Env) (A₀ : Around) (base : Heap) (h₀ : Heap) (L : Addr) (m : Str → Option Value) (s : Shared) (Q : Value → Shared → Prop) (E : Value → Shared → Prop) : PSigma (fun zP : Heap → Addr → Heap → Prop => (∀ zq1 zq2 zq3, edits_spec_H D A ls oL vs ns k z t tz n1 n2 news rest prog w p loose mean mg mb cn cs a ccd cl outer A₀ base h₀ L m s Q E (zP zq1 zq2 zq3)) → edits_spec_H D A ls oL vs ns k z t tz n1 n2 news rest prog w p loose mean mg mb cn cs a ccd cl outer A₀ base h₀ L m s Q E (wpAny (model prog w) (ktrTop 930 9300 none cn cs L a ccd cl outer) (call (.ref 638) [.ref D, .int z tz]) Q E s)) := by
  refine ⟨?zG, fun zH C N P hne hr hDl hAl hi hlen h0 hk9 hz0 hz1 ret => ?zh⟩
  case zh =>
    have zc := fun zq1 zq2 zq3 => zH zq1 zq2 zq3 C N P hne hr hDl hAl hi hlen h0 hk9 hz0 hz1 ret
    clear zH
    obtain ⟨B, F, X, T, hk⟩ := C
    replace N := news_picks N P
    simp only [List.cons_append, List.nil_append] at N
    refine wpAny_call ?_
    k_dflt cell_enter
    rename_i g9 L9 h9 FG9 F9 N9 B9 X9 T9
    revert FG9 F9 N9 B9 X9 T9
    exact zc g9 L9 h9
abbrev edits_spec_P : Type := ((((((Heap × Addr) × Heap) × (Addr × Addr)) × (((Addr × Obj) × (List Value)) × ((List Int) × Int))) × ((((Int × Tok) × Tok) × (Nat × Nat)) × (((List (Addr × Obj)) × (List (Addr × Obj))) × (Program × World)))) × (((((Program × (List Str)) × (ExcName → Option Value)) × ((Str → Option Value) × (Str → Option Value))) × (((Str × Scope) × Addr) × (Value × (List (Str × Addr))))) × (((((List Env) × Around) × Heap) × (Heap × Addr)) × (((Str → Option Value) × Shared) × ((Value → Shared → Prop) × (Value → Shared → Prop))))))
abbrev edits_spec_F (x : edits_spec_P) : Prop := edits_spec_H (x.1.1.1.2.1) (x.1.1.1.2.2) (x.1.1.2.1.1.1) (x.1.1.2.1.1.2) (x.1.1.2.1.2) (x.1.1.2.2.1) (x.1.1.2.2.2) (x.1.2.1.1.1.1) (x.1.2.1.1.1.2) (x.1.2.1.1.2) (x.1.2.1.2.1) (x.1.2.1.2.2) (x.1.2.2.1.1) (x.1.2.2.1.2) (x.1.2.2.2.1) (x.1.2.2.2.2) (x.2.1.1.1.1.1) (x.2.1.1.1.1.2) (x.2.1.1.1.2) (x.2.1.1.2.1) (x.2.1.1.2.2) (x.2.1.2.1.1.1) (x.2.1.2.1.1.2) (x.2.1.2.1.2) (x.2.1.2.2.1) (x.2.1.2.2.2) (x.2.2.1.1.1.1) (x.2.2.1.1.1.2) (x.2.2.1.1.2) (x.2.2.1.2.1) (x.2.2.1.2.2) (x.2.2.2.1.1) (x.2.2.2.1.2) (x.2.2.2.2.1) (x.2.2.2.2.2)  ((edits_spec_k (x.1.1.1.2.1) (x.1.1.1.2.2) (x.1.1.2.1.1.1) (x.1.1.2.1.1.2) (x.1.1.2.1.2) (x.1.1.2.2.1) (x.1.1.2.2.2) (x.1.2.1.1.1.1) (x.1.2.1.1.1.2) (x.1.2.1.1.2) (x.1.2.1.2.1) (x.1.2.1.2.2) (x.1.2.2.1.1) (x.1.2.2.1.2) (x.1.2.2.2.1) (x.1.2.2.2.2) (x.2.1.1.1.1.1) (x.2.1.1.1.1.2) (x.2.1.1.1.2) (x.2.1.1.2.1) (x.2.1.1.2.2) (x.2.1.2.1.1.1) (x.2.1.2.1.1.2) (x.2.1.2.1.2) (x.2.1.2.2.1) (x.2.1.2.2.2) (x.2.2.1.1.1.1) (x.2.2.1.1.1.2) (x.2.2.1.1.2) (x.2.2.1.2.1) (x.2.2.1.2.2) (x.2.2.2.1.1) (x.2.2.2.1.2) (x.2.2.2.2.1) (x.2.2.2.2.2) ).1 (x.1.1.1.1.1.1) (x.1.1.1.1.1.2) (x.1.1.1.1.2))
theorem edits_spec_ex : ∃ x : edits_spec_P, edits_spec_F x → ∀ y : edits_spec_P, edits_spec_F y := drinker ⟨((((((default, (0 : Nat)), default), ((0 : Nat), (0 : Nat))), ((((0 : Nat), default), []), ([], 0))), ((((0, (0 : Nat)), (0 : Nat)), (0, 0)), (([], []), (default, world0)))), (((((default, []), fun _ => none), (fun _ => none, fun _ => none)), (((default, default), (0 : Nat)), (.none, []))), (((([], {}), default), (default, (0 : Nat))), ((fun _ => none, {}), (fun _ _ => True, fun _ _ => True)))))⟩
noncomputable def edits_spec_x : edits_spec_P := edits_spec_ex.choose
namespace edits_spec_n
noncomputable def g9 : Heap := edits_spec_x.1.1.1.1.1.1
noncomputable def L9 : Addr := edits_spec_x.1.1.1.1.1.2
noncomputable def h9 : Heap := edits_spec_x.1.1.1.1.2
noncomputable def D : Addr := edits_spec_x.1.1.1.2.1
noncomputable def A : Addr := edits_spec_x.1.1.1.2.2
noncomputable def ls : Addr := edits_spec_x.1.1.2.1.1.1
noncomputable def oL : Obj := edits_spec_x.1.1.2.1.1.2
noncomputable def vs : List Value := edits_spec_x.1.1.2.1.2
noncomputable def ns : List Int := edits_spec_x.1.1.2.2.1
noncomputable def k : Int := edits_spec_x.1.1.2.2.2
noncomputable def z : Int := edits_spec_x.1.2.1.1.1.1
noncomputable def t : Tok := edits_spec_x.1.2.1.1.1.2
noncomputable def tz : Tok := edits_spec_x.1.2.1.1.2
noncomputable def n1 : Nat := edits_spec_x.1.2.1.2.1
noncomputable def n2 : Nat := edits_spec_x.1.2.1.2.2
noncomputable def news : List (Addr × Obj) := edits_spec_x.1.2.2.1.1
noncomputable def rest : List (Addr × Obj) := edits_spec_x.1.2.2.1.2
noncomputable def prog : Program := edits_spec_x.1.2.2.2.1
noncomputable def w : World := edits_spec_x.1.2.2.2.2
noncomputable def p : Program := edits_spec_x.2.1.1.1.1.1
noncomputable def loose : List Str := edits_spec_x.2.1.1.1.1.2
noncomputable def mean : ExcName → Option Value := edits_spec_x.2.1.1.1.2
noncomputable def mg : Str → Option Value := edits_spec_x.2.1.1.2.1
noncomputable def mb : Str → Option Value := edits_spec_x.2.1.1.2.2
noncomputable def cn : Str := edits_spec_x.2.1.2.1.1.1
noncomputable def cs : Scope := edits_spec_x.2.1.2.1.1.2
noncomputable def a : Addr := edits_spec_x.2.1.2.1.2
noncomputable def ccd : Value := edits_spec_x.2.1.2.2.1
noncomputable def cl : List (Str × Addr) := edits_spec_x.2.1.2.2.2
noncomputable def outer : List Env := edits_spec_x.2.2.1.1.1.1
noncomputable def A₀ : Around := edits_spec_x.2.2.1.1.1.2
noncomputable def base : Heap := edits_spec_x.2.2.1.1.2
noncomputable def h₀ : Heap := edits_spec_x.2.2.1.2.1
noncomputable def L : Addr := edits_spec_x.2.2.1.2.2
noncomputable def m : Str → Option Value := edits_spec_x.2.2.2.1.1
noncomputable def s : Shared := edits_spec_x.2.2.2.1.2
noncomputable def Q : Value → Shared → Prop := edits_spec_x.2.2.2.2.1
noncomputable def E : Value → Shared → Prop := edits_spec_x.2.2.2.2.2
set_option maxRecDepth 100000 in
set_option maxHeartbeats 8000000 in
theorem main  : edits_spec_H D A ls oL vs ns k z t tz n1 n2 news rest prog w p loose mean mg mb cn cs a ccd cl outer A₀ base h₀ L m s Q E ((edits_spec_k D A ls oL vs ns k z t tz n1 n2 news rest prog w p loose mean mg mb cn cs a ccd cl outer A₀ base h₀ L m s Q E).1 g9 L9 h9) := by
  intro C N P hne hr hDl hAl hi hlen h0 hk9 hz0 hz1 ret
  obtain ⟨B, F, X, T, hk⟩ := C
  replace N := news_picks N P
  simp only [List.cons_append, List.nil_append] at N
  have hD1 : @Ne Nat D ls := Nat.ne_of_lt hDl
  delta edits_spec_k
  dsimp only
  intro _ _ _ _ _ _
  k_steps
  rename IsRange _ _ _ _ _ _ _ _ => hIs
  rename 0 ≤ _ => hr0
  rename _ < (5 : Int) => hr1
  obtain ⟨rn, hrn⟩ := Int.eq_ofNat_of_zero_le hr0
  subst hrn
  rename Fr _ _ _ _ => F9
  rename News _ _ _ _ => N9
  rename _ ∧ _ ∧ _ ∧ _ ∧ AllLt _ rest => lt5
  rename _ ∧ _ ∧ _ ∧ AllLt _ rest => lt4
  refine range_go (EdJ D A ls oL vs n1 n2 rest z tz k) rfl hIs (by k_extra "ord") F9 (news_of N9 ?k) ⟨_, [], (0 : Nat), (1 : Int), _, k + 1, ?tx, rfl, rfl, rfl, rfl, rfl, trivial, by k_extra "ord", by k_extra "ord", Nat.le_refl _, by k_extra "ord", by k_extra "ord", lt4.1, lt4.2.1, lt4.2.2.1, (fun q hq => nomatch hq), lt_of_all lt4.2.2.2⟩ ?turn ?done (by passes_own) (fun I v s' Q' i _ hQ' => wpAny_pure hQ')
  case k =>
    intro q hq
    rcases List.mem_cons.mp hq with rfl | hq
    · exact .tail _ (.tail _ (.tail _ (.head _)))
    · rcases List.mem_cons.mp hq with rfl | hq
      · exact .head _
      · rcases List.mem_cons.mp hq with rfl | hq
        · exact .tail _ (.head _)
        · rcases List.mem_cons.mp hq with rfl | hq
          · exact .tail _ (.tail _ (.tail _ (.tail _ (.head _))))
          · exact .tail _ (.tail _ (.tail _ (.tail _ (.tail _ hq))))
  case turn =>
    intro I i t₀ m₁ news₁ h₁ tk₁ oI hi4 hJ hoff F1 N1
    obtain ⟨fd, asc, nf, px, tp, kx, tx, rfl, md, mz, mf, mp, hed, hp1, hp2, hlen4, hk1, hk2, fl1, fl2, fl3, fl4, fl5⟩ := hJ
    have hmf : m₁ = fun y => if y = Str.ofString "deck" then some (.ref D) else if y = Str.ofString "size" then some (.int z tz) else if y = Str.ofString "found" then some (.ref fd) else if y = Str.ofString "place" then some (.int px tp) else m₁ y := by
      funext y
      split
      · simp_all
      · split
        · simp_all
        · split
          · simp_all
          · split <;> simp_all
    rw [hmf] at F1
    have N2 := news_in (own := [(I, oI)]) (own' := []) N1 (fun q hq => nomatch hq)
    simp only [List.cons_append, List.nil_append, List.append_assoc] at N2
    clear N1
    have u1 : ∀ q ∈ edEnts asc ++ (rest ++ [(I, oI)]), q.1 ≠ D := by
      intro q hq
      rcases List.mem_append.mp hq with hq | hq
      · exact Nat.ne_of_gt (Nat.lt_trans fl1 (fl4 q hq))
      · rcases List.mem_append.mp hq with hq | hq
        · exact hr q hq
        · rw [List.mem_singleton.mp hq]
          exact fun e => hoff (D, _) (.tail _ (.head _)) e.symm
    have u2 : ∀ q ∈ edEnts asc ++ (rest ++ [(I, oI)]), q.1 ≠ fd := by
      intro q hq
      rcases List.mem_append.mp hq with hq | hq
      · exact Nat.ne_of_gt (fl4 q hq)
      · rcases List.mem_append.mp hq with hq | hq
        · exact Nat.ne_of_lt (fl5 q hq)
        · rw [List.mem_singleton.mp hq]
          exact fun e => hoff (fd, _) (.head _) e.symm
    generalize htl : edEnts asc ++ (rest ++ [(I, oI)]) = tl at N2 u1 u2
    clear hmf
    k_steps
    · rename _ ∧ _ ∧ _ ∧ _ ∧ _ ∧ _ ∧ AllLt _ tl => lT
      rename _ ∧ _ ∧ _ ∧ _ ∧ _ ∧ AllLt _ tl => lc
      rename IntsAre (List.flatten _) _ => hns
      have hIm : (I, oI) ∈ tl := by rw [← htl]; simp
      have nT := Nat.ne_of_lt (lt_of_all lT.2.2.2.2.2.2 _ hIm)
      have nc := Nat.ne_of_lt (lt_of_all lc.2.2.2.2.2 _ hIm)
      refine LoopStepU.intro (by k_asm) (edits_more hns (by k_asm) htl) ?_ ⟨_, _, _, _, _, _, _, rfl, rfl, rfl, rfl, rfl, ?_, by k_extra "ord", by k_extra "ord", ?_, by k_extra "ord", by k_extra "ord", fl1, fl2, fl3, ?_, fl5⟩
      · intro p hp z
        have z := List.mem_singleton.mp z
        simp only [edEnts_snoc, List.mem_cons, List.mem_append, List.append_assoc, List.cons_append, List.nil_append] at hp
        rcases hp with h | h | h | h | h | h | h | h
        · exact hoff (fd, _) (.head _) (by rw [← z, h])
        · exact hoff (D, _) (.tail _ (.head _)) (by rw [← z, h])
        · exact hoff (A, _) (.tail _ (.tail _ (.head _))) (by rw [← z, h])
        · exact hoff (ls, _) (.tail _ (.tail _ (.tail _ (.head _)))) (by rw [← z, h])
        · exact hoff p (by simp [h]) z
        · exact nT (by rw [← z, h])
        · exact nc (by rw [← z, h])
        · exact hoff p (by simp [h]) z
      · rw [List.reverse_append]
        refine ⟨hns, ?_, by dsimp only; omega, by dsimp only; omega, by dsimp only; omega, lT.2.2.2.2.2.1, lc.2.2.2.2.1, hed.mono (by dsimp only; omega)⟩
        dsimp only; rw [flat_len]; omega
      · rw [List.length_append, List.length_cons, List.length_nil]; omega
      · intro q hq
        rw [edEnts_snoc] at hq
        rcases List.mem_append.mp hq with h | h
        · exact fl4 q h
        · rcases List.mem_cons.mp h with rfl | h
          · exact lT.2.2.2.2.1
          · rw [List.mem_singleton.mp h]; exact lc.2.2.2.1
    · refine LoopStepU.intro (by k_asm) (edits_same (by k_asm) htl) (fun p hp z => ?_) ⟨_, _, _, _, _, _, _, rfl, rfl, rfl, rfl, rfl, hed, hp1, hp2, by k_extra "ord", by k_extra "ord", by k_extra "ord", fl1, fl2, fl3, fl4, fl5⟩
      have z := List.mem_singleton.mp z
      simp only [List.mem_cons, List.mem_append] at hp
      rcases hp with h | h | h | h | h | h
      · exact hoff (fd, _) (.head _) (by rw [← z, h])
      · exact hoff (D, _) (.tail _ (.head _)) (by rw [← z, h])
      · exact hoff (A, _) (.tail _ (.tail _ (.head _))) (by rw [← z, h])
      · exact hoff (ls, _) (.tail _ (.tail _ (.tail _ (.head _)))) (by rw [← z, h])
      · exact hoff p (by simp [h]) z
      · exact hoff p (by simp [h]) z
  case done =>
    rintro h' tk' m' news' F' N' ⟨fd, asc, nf, px, tp, kx, tx, rfl, md, mz, mf, mp, hed, hp1, hp2, hlen4, hk1, hk2, fl1, fl2, fl3, fl4, fl5⟩
    have hmf : m' = fun y => if y = Str.ofString "found" then some (.ref fd) else m' y := by funext y; split <;> simp_all
    rw [hmf] at F'
    (try dsimp only)
    have u1 : ∀ q ∈ edEnts asc ++ rest, q.1 ≠ D := by
      intro q hq
      rcases List.mem_append.mp hq with hq | hq
      · exact Nat.ne_of_gt (Nat.lt_trans fl1 (fl4 q hq))
      · exact hr q hq
    generalize htl : edEnts asc ++ rest = tl at N' u1
    clear hmf
    k_steps
    rename News _ _ _ _ => NF
    rw [edVals_rev] at NF
    rename _ ∧ _ ∧ _ ∧ _ ∧ AllLt _ tl => lF
    subst htl
    refine ret _ asc.reverse 0 kx tx _ _ (hed.mono (by k_extra "ord")) (by rw [List.length_reverse]; omega) (by k_extra "ord") (by k_extra "ord") (by k_asm) (news_of NF fun q hq => ?_) lF.2.2.2.1
    simp only [List.cons_append, List.nil_append, List.mem_cons, List.mem_append] at hq ⊢
    rcases hq with h | h | h | h | h | h
    · simp [h]
    · simp [edEnts_rev _ h]
    · simp [h]
    · simp [h]
    · simp [h]
    · simp [h]
end edits_spec_n
theorem edits_spec {prog : Program} {w : World} {p : Program} {loose : List Str} {mean : ExcName → Option Value} {mg : Str → Option Value} {mb : Str → Option Value} {cn : Str} {cs : Scope} {a : Addr} {ccd : Value} {cl : List (Str × Addr)} {outer : List Env} {A₀ : Around} {base : Heap} {h₀ : Heap} {L : Addr} {m : Str → Option Value} {s : Shared} {Q : Value → Shared → Prop} {E : Value → Shared → Prop} {D : Addr} {A : Addr} {ls : Addr} {oL : Obj} {vs : List Value} {ns : List Int} {k : Int} {z : Int} {t : Tok} {tz : Tok} {n1 : Nat} {n2 : Nat} {news : List (Addr × Obj)} {rest : List (Addr × Obj)} : edits_spec_H D A ls oL vs ns k z t tz n1 n2 news rest prog w p loose mean mg mb cn cs a ccd cl outer A₀ base h₀ L m s Q E (wpAny (model prog w) (ktrTop 930 9300 none cn cs L a ccd cl outer) (call (.ref 638) [.ref D, .int z tz]) Q E s) := (edits_spec_k D A ls oL vs ns k z t tz n1 n2 news rest prog w p loose mean mg mb cn cs a ccd cl outer A₀ base h₀ L m s Q E).2 (fun g9 L9 h9 => edits_spec_ex.choose_spec (edits_spec_n.main ) ((((((g9, L9), h9), (D, A)), (((ls, oL), vs), (ns, k))), ((((z, t), tz), (n1, n2)), ((news, rest), (prog, w)))), (((((p, loose), mean), (mg, mb)), (((cn, cs), a), (ccd, cl))), ((((outer, A₀), base), (h₀, L)), ((m, s), (Q, E))))) )
end
section
theorem lines_X9_1 : True := by
  k_with_none
  k_with "k_all" => with_reducible assumption
  k_with "ne_mem" => with_reducible first | exact List.mem_cons_self | (refine List.mem_cons_of_mem _ ?_; k_extra "ne_mem") | (refine List.mem_append_right _ ?_; k_extra "ne_mem")
  k_with "ne_bef" => with_reducible first | (refine Bef.head ?_; k_extra "ne_mem") | (refine Bef.tail ?_; k_extra "ne_bef")
  k_with "lt_ap" => (with_reducible rename Apart _ => kqA; first | (with_reducible exact Apart.bef kqA (by k_extra "ne_bef")) | (clear kqA; k_extra "lt_ap"))
  k_with "lt_go" => first | (with_reducible assumption) | (with_reducible exact AllLt.get (by assumption) (by k_extra "ne_mem")) | k_extra "lt_ap" | ((with_reducible refine Nat.lt_trans ?kq1 ?kq2); (case kq2 => with_reducible assumption); (case kq1 => k_extra "lt_go")) | ((with_reducible refine Nat.lt_trans ?kq1 ?kq2); (case kq1 => with_reducible assumption); (case kq2 => k_extra "lt_ap"))
  k_with "ne_lt" => with_reducible first | exact Nat.ne_of_lt (AllLt.get (by assumption) (by k_extra "ne_mem")) | exact Nat.ne_of_gt (AllLt.get (by assumption) (by k_extra "ne_mem"))
  k_with "ne_ap" => (with_reducible rename Apart _ => kqA; first | (with_reducible exact Nat.ne_of_lt (Apart.bef kqA (by k_extra "ne_bef"))) | (with_reducible exact Nat.ne_of_gt (Apart.bef kqA (by k_extra "ne_bef"))) | (clear kqA; k_extra "ne_ap"))
  k_with "k_ne" => (refine neN ?_; (try dsimp only); first | (with_reducible assumption) | (with_reducible exact Ne.symm (by assumption)) | (with_reducible exact Nat.ne_of_lt (by assumption)) | (with_reducible exact Nat.ne_of_gt (by assumption)) | k_extra "ne_lt" | k_extra "ne_ap" | omega | ((try simp only [AllLt] at *); omega))
  k_with "ne_all" => first | (with_reducible assumption) | (refine And.intro ?_ ?_ <;> k_extra "ne_all") | k_ne
  k_with "mem_hq" => first | exact hq | exact List.mem_append_left _ hq | (refine List.mem_cons_of_mem _ ?_; k_extra "mem_hq")
  k_with "perm" => first | (refine List.forall_mem_cons.mpr (And.intro ?kqa ?kqb); (case kqa => k_extra "ne_mem"); (case kqb => k_extra "perm")) | exact List.forall_mem_nil _ | (intro q hq; k_extra "mem_hq")
  k_with "ord" => first | (with_reducible assumption) | ((with_reducible show @LT.lt Nat _ _ _); k_extra "lt_go") | k_ne | omega | ((try simp only [AllLt] at *); omega)
  k_with "tb_start" => first | exact Pick.head | (apply Pick.tail; tb_start)
  k_with "tb_rel" => first | exact Suff.refl | (refine' Suff.tail ?_; tb_rel)
  k_with "ktr_rel" => first | exact Picks.nil | (refine' Picks.cons ?kqp ?kqq; (case kqp => tb_start); (case kqq => ktr_rel))
  k_with "ktr_unf" => exact ⟨by k_asm, by k_asm, by k_asm, by k_asm, by first | exact rfl | assumption⟩
  k_with "subscriptTail Attribute Name Slice" => (k_here; k_dflt (refine kba_turn (value' := PySem.Expr.Name (PySem.Str.ofString "_") ⟨0, 0, 0, 0⟩) (fun _ => rfl) ?_))
  k_with "subscriptTail Name Slice ref ref" => (k_here; (with_reducible show wpAny _ _ (subscriptTail _ (PySem.Expr.Slice (some _) (some _) none _) (Value.ref _) (Value.ref _)) _ _ _); k_dflt (refine' my_slice ?kqF ?kqN ?kql ?kqi ?kqx ?kqy ?kqz ?_ ?kqs ?kqt; (case kqF => k_asm); (case kqN => k_asm); (case kql => k_mem); (case kqi => k_asm); (case kqx => first | (with_reducible assumption) | omega | ((try simp only [AllLt] at *); omega)); (case kqy => first | (with_reducible assumption) | omega | ((try simp only [AllLt] at *); omega)); (case kqz => first | (with_reducible assumption) | omega | ((try simp only [AllLt] at *); omega)); (case kqs => with_unfolding_all rfl); (case kqt => kmk_pure); k_whole); intro D' ws' h' zs' F' N' l1 hI' hZ' hL'; (try (replace hL' := slice_len hL' (by first | (with_reducible assumption) | omega) (by first | (with_reducible assumption) | omega) (by first | (with_reducible assumption) | omega))); (try k_lt l1); (try k_sweep))
  k_with "setItem ref ref ref" => (k_here; k_dflt (refine' my_setslice ?kqF ?kqN ?kql ?kqU ?kqi ?kqw ?kqx ?kqy ?kqz ?kqzz ?_; (case kqF => k_asm); (case kqN => k_asm); (case kql => k_mem); (case kqU => k_updF); (case kqi => k_asm); (case kqw => k_asm); (case kqx => first | (with_reducible assumption) | omega | ((try simp only [AllLt] at *); omega)); (case kqy => first | (with_reducible assumption) | omega | ((try simp only [AllLt] at *); omega)); (case kqz => first | (with_reducible assumption) | omega | ((try simp only [AllLt] at *); omega)); (case kqzz => first | (with_reducible assumption) | omega | ((try simp only [AllLt] at *); omega)); k_whole); intro vs' n2' h' ns' F' N' hI' hZ' hL'; (try dsimp only at N'); (try k_sweep))
  k_with "call builtin:len" => (k_here; (with_reducible show wpAny _ _ (call (Value.builtin "len") [Value.ref _]) _ _ _); k_dflt (refine' my_len ?kqN ?kql ?kqi ?kqz ?_; (case kqN => k_asm); (case kql => k_mem); (case kqi => k_asm); (case kqz => first | (with_reducible assumption) | omega | ((try simp only [AllLt] at *); omega)); k_whole))
  k_with "pyIter ref" => (k_here; k_dflt (first | (refine' iter_empty ?kqh ?kqF ?kqN ?kqm ?_; (case kqh => exact rfl); (case kqF => k_asm); (case kqN => k_asm); (case kqm => k_mem)) | (refine' iter_empty2 ?kqh ?kqF ?kqN ?kqm ?kqi ?kqz ?_; (case kqh => exact rfl); (case kqF => k_asm); (case kqN => k_asm); (case kqm => k_mem); (case kqi => k_asm); (case kqz => k_asm))); intro h' tk' F' N'; (try dsimp only); (try k_sweep))
  k_with "exec For" => (k_here; k_dflt (refine' wpAny_For ?_ ?kqhs; (case kqhs => exact fun _ => rfl); k_whole))
  k_with "call builtin:list.append" => (k_here; k_dflt (refine' append_K ?kqk1 ?kqk2 ?kqk3 ?_ ?kqz; (case kqk1 => k_asm); (case kqk2 => k_asm); (case kqk3 => k_upd); (case kqz => exact ed_size (by omega)); k_whole); intro h' F' N'; (try k_sweep))
  k_with "subscriptTail Name Slice ref ref" => (k_here; (with_reducible show wpAny _ _ (subscriptTail _ (PySem.Expr.Slice none none (some _) _) (Value.ref _) (Value.ref _)) _ _ _); k_dflt (refine' krv_lit ?kqF ?kqN ?kql ?kqk ?kqe ?_ ?kqs ?kqt ?kqz; (case kqF => k_asm); (case kqN => k_asm); (case kql => kmk_list); (case kqk => exact IsPart.int _ _); (case kqe => exact rfl); (case kqs => with_unfolding_all rfl); (case kqt => kmk_pure); (case kqz => exact ed_size (by omega))); intro _ _ F' N' l1; (try k_lt l1); (try k_sweep))
  trivial
variable {prog : Program} {w : World} {A : Around} {E : Value → Shared → Prop} {s : Shared} {h₀ : Heap} {L l : Addr} {m : Str → Option Value} {news : List (Addr × Obj)} {value slice : PySem.Expr} {vs : List Value} {ns : List Int} {x : Int} {n : Nat} in
theorem my_from {Q : Value → Shared → Prop} {tx : Tok} (F : Fr h₀ L s.heap m) (N : News h₀ L s.heap news) (hl : (l, listOf vs.toArray n) ∈ news) (hi : IntsAre vs ns) (hx : 0 ≤ x) (hz : ns.length ≤ 10000)
    (h : ∀ D ws h', Fr h₀ L h' m → News h₀ L h' ((D, listOf (List.toArray ws) 0) :: news) → (∀ p ∈ news, p.1 < D) → IntsAre ws (ns.drop x.toNat) → Q (.ref D) { s with heap := h' })
    (hs : subscripted slice false (.ref l) (.ref s.heap.objs.size) = operate [.ref s.heap.objs.size, .ref l] (getItem (.ref l) (.ref s.heap.objs.size))) (ht : ∀ r, letTemporaryGo value (.ref l) r = pure ()) :
    wpAny (model prog w) A (subscriptTail value slice (.ref l) (.ref s.heap.objs.size)) Q E { s with heap := s.heap.push { cls := .type "slice", data := .fields #[.int x tx, .none, .none] } } := by
  refine kmk_slice_ints (c := _) F N (News.isList N hl) (.int x tx) .none hi (kmk_from hi hx) rfl (fun D ws h' F' N' l1 hi' _ _ => h D ws h' F' N' l1 hi') hs ht ?_
  rw [kmk_size_eq hi, sizeLine_eq]; omega
theorem lines_X9_2 : True := by
  k_with "subscriptTail Name Slice ref ref" => (k_here; (with_reducible show wpAny _ _ (subscriptTail _ (PySem.Expr.Slice (some _) none none _) (Value.ref _) (Value.ref _)) _ _ _); k_dflt (refine' my_from ?kqF ?kqN ?kql ?kqi ?kqx ?kqz ?_ ?kqs ?kqt; (case kqF => k_asm); (case kqN => k_asm); (case kql => k_mem); (case kqi => k_asm); (case kqx => first | (with_reducible assumption) | omega | ((try simp only [AllLt] at *); omega)); (case kqz => first | (with_reducible assumption) | omega | ((try simp only [AllLt] at *); omega)); (case kqs => with_unfolding_all rfl); (case kqt => kmk_pure); k_whole); intro D' ws' h' F' N' l1 hI'; (try k_lt l1); (try k_sweep))
  trivial
/-- the edits from ahead, between two places -/
def EdAsc (ls : Addr) : Int → Int → List Ed → Prop
  | lo, hi, [] => lo ≤ hi
  | lo, hi, d :: r => IntsAre d.vs d.ns ∧ d.ns.length ≤ 10 ∧ lo ≤ d.s ∧ d.s ≤ d.e ∧ @LT.lt Nat _ ls d.t ∧ @LT.lt Nat _ ls d.c ∧ EdAsc ls d.e hi r
theorem EdAsc.le {ls : Addr} : ∀ {l : List Ed} {lo hi : Int}, EdAsc ls lo hi l → lo ≤ hi
  | [], _, _, h => h
  | _ :: _, _, _, ⟨_, _, h1, h2, _, _, h3⟩ => Int.le_trans h1 (Int.le_trans h2 h3.le)
theorem EdAsc.snoc {ls : Addr} {d : Ed} {hi : Int} (hd : IntsAre d.vs d.ns) (h1 : d.ns.length ≤ 10) (h3 : d.s ≤ d.e) (h4 : d.e ≤ hi) (h5 : @LT.lt Nat _ ls d.t) (h6 : @LT.lt Nat _ ls d.c) : ∀ {l : List Ed} {lo mid : Int}, EdAsc ls lo mid l → mid ≤ d.s → EdAsc ls lo hi (l ++ [d])
  | [], _, _, h, h2 => ⟨hd, h1, Int.le_trans h h2, h3, h5, h6, h4⟩
  | _ :: _, _, _, ⟨g1, g2, g3, g4, g5, g6, g7⟩, h2 => ⟨g1, g2, g3, g4, g5, g6, EdAsc.snoc hd h1 h3 h4 h5 h6 g7 h2⟩
theorem EdDesc.asc {ls : Addr} : ∀ {l : List Ed} {b : Int}, EdDesc ls b l → 1 ≤ b → EdAsc ls 1 b l.reverse
  | [], _, _, h => h
  | d :: r, b, ⟨h1, h2, h3, h4, h5, h6, h7, h8⟩, _ => by
    rw [List.reverse_cons]
    exact EdAsc.snoc h1 h2 h4 h5 h6 h7 (h8.asc h3) (Int.le_refl _)
def putFrom (T : List Int) : Int → List Ed → List Int
  | p, [] => T.drop (p - 1).toNat
  | p, d :: r => (T.drop (p - 1).toNat).take ((d.s - 1).toNat - (p - 1).toNat) ++ d.ns ++ putFrom T d.e r
theorem put_law {ls : Addr} {T : List Int} : ∀ {l : List Ed} {lo hi : Int}, EdAsc ls lo hi l → 1 ≤ lo → hi ≤ T.length + 1 → l.foldr (fun d T' => put1 T' d) T = T.take (lo - 1).toNat ++ putFrom T lo l
  | [], lo, hi, _, _, _ => (List.take_append_drop ..).symm
  | d :: r, lo, hi, ⟨g1, g2, g3, g4, g5, g6, g7⟩, h1, h2 => by
    have hle := g7.le
    have ih := put_law g7 (by k_extra "ord") h2
    have l1 : (T.take (d.e - 1).toNat).length = (d.e - 1).toNat := by rw [List.length_take]; omega
    rw [List.foldr_cons, ih]
    simp only [put1, putFrom]
    rw [List.drop_left' l1, List.take_append_of_le_length (by k_extra "ord"), List.take_take, Nat.min_eq_left (by k_extra "ord"), ← List.append_assoc, ← List.append_assoc]
    congr 2
    have e : (d.s - 1).toNat = (lo - 1).toNat + ((d.s - 1).toNat - (lo - 1).toNat) := by k_extra "ord"
    rw [e, List.take_add]
    congr 2
    omega
theorem put_law' {ls : Addr} {T : List Int} {l : List Ed} (h : EdDesc ls (T.length + 1) l) : putFrom T 1 l.reverse = l.foldl put1 T := by
  have := put_law (T := T) (h.asc (by k_extra "ord")) (Int.le_refl _) (Int.le_refl _)
  rw [List.foldr_reverse] at this
  rw [this]
  rfl
theorem EdAsc.at {ls : Addr} : ∀ {l : List Ed} {lo hi : Int} {i : Nat} {d : Ed}, EdAsc ls lo hi (l.drop i) → l[i]? = some d → IntsAre d.vs d.ns ∧ d.ns.length ≤ 10 ∧ lo ≤ d.s ∧ d.s ≤ d.e ∧ @LT.lt Nat _ ls d.t ∧ @LT.lt Nat _ ls d.c ∧ EdAsc ls d.e hi (l.drop (i + 1)) := by
  intro l lo hi i d h e
  obtain ⟨hi', rfl⟩ := List.getElem?_eq_some_iff.mp e
  rw [List.drop_eq_getElem_cons hi'] at h
  exact h
theorem putFrom_at {T : List Int} {l : List Ed} {p : Int} {i : Nat} {d : Ed} (e : l[i]? = some d) : putFrom T p (l.drop i) = (T.drop (p - 1).toNat).take ((d.s - 1).toNat - (p - 1).toNat) ++ d.ns ++ putFrom T d.e (l.drop (i + 1)) := by
  obtain ⟨hi', rfl⟩ := List.getElem?_eq_some_iff.mp e
  rw [List.drop_eq_getElem_cons hi']
  rfl
variable {prog : Program} {w : World} {A : Around} {E : Value → Shared → Prop} {s : Shared} {env : Env} {h₀ : Heap} {target : PySem.Expr} {body : List Stmt} {Q : Flow → Shared → Prop} in
theorem made_go {l : Addr} {n : Nat} {vs : List Value} {m : Str → Option Value} {news : List (Addr × Obj)} (J : Nat → (Str → Option Value) → List (Addr × Obj) → Prop) (hh : A.handled = none) (F : Fr h₀ env.locals s.heap m) (N : News h₀ env.locals s.heap news)
    (hJm : ∀ i m' news', J i m' news' → (l, listOf vs.toArray n) ∈ news') (h0 : J 0 m news)
    (turn : ∀ I i v m₁ news₁ h₁ tk₁ oI, vs[i]? = some v → J i m₁ news₁ → (∀ p ∈ news₁, p.1 ≠ I) → Fr h₀ env.locals h₁ m₁ → News h₀ env.locals h₁ ((I, oI) :: news₁) →
      wpAny (model prog w) A (assign target env v) (fun _ s₃ => wpAny (model prog w) A (execs body env) (LoopStepU h₀ env.locals [I] [(I, oI)] (J (i + 1)) { s with heap := h₁, toks := tk₁ }) E s₃) E { s with heap := h₁, toks := tk₁ })
    (done : ∀ h' tk m' news', Fr h₀ env.locals h' m' → News h₀ env.locals h' news' → J vs.length m' news' → Q .next { s with heap := h', toks := tk })
    (hE : PassesOwn (model prog w) A env E) :
    wpAny (model prog w) A (pyIter (.ref l)) (fun it s₂ => codeAny (model prog w) A (.forLoop target it body [] env) (fun r s' => match r with | .ok f => Q f s' | .error e => cameBackBy (model prog w) A env E e s') s₂) E s := by
  have hm := hJm _ _ _ h0
  have hls : s.heap.IsList l vs.toArray := News.isList N hm
  have hlt : l < s.heap.objs.size := Heap.lt_size (N _ hm).1
  refine wpAny_pyIter_list hls ?_
  refine loop_made (s := { s with heap := _ }) (vs := vs) (n := n) (R := fun r s' => match r with | .ok f => Q f s' | .error e => cameBackBy (model prog w) A env E e s') J hh (Nat.ne_of_lt hlt) ⟨_, Heap.get?_push_size _ rfl, rfl, rfl⟩ (Nat.ne_of_gt F.ns.lt) (next_is_new F) (F.push _) (fun p hp => ⟨Heap.get?_push_of_some _ (N p hp).1, (N p hp).2⟩)
    (fun p hp => Nat.ne_of_lt (Heap.lt_size (N p hp).1)) hJm h0 (fun v s' Q' i st hQ' => letGo_listiter st hQ')
    (fun i v m₁ news₁ h₁ tk₁ oI a b c d e => wpAny_mono (turn _ i v m₁ news₁ h₁ tk₁ oI a b c d e) (fun _ _ x => wpAny_passesOwn hE x) hE) done
inductive PutJ (cl' el ls : Addr) (cvs : List Value) (nc n0 : Nat) (rest : List (Addr × Obj)) (T : List Int) (l : List Ed) (rl : Addr) (i : Nat) (m' : Str → Option Value) (news' : List (Addr × Obj)) : Prop
  | mk (fd : Addr) (fvs : List Value) (fns : List Int) (nf : Nat) (px : Int) (tp : Tok)
    (f0 : news' = (fd, listOf (List.toArray fvs) nf) :: (rl, listOf (edVals l.reverse).toArray 0) :: (cl', listOf cvs.toArray nc) :: (el, listOf (edVals l).toArray n0) :: rest)
    (f1 : m' (Str.ofString "codes") = some (.ref cl'))
    (f2 : m' (Str.ofString "found") = some (.ref fd))
    (f3 : m' (Str.ofString "place") = some (.int px tp))
    (f4 : IntsAre fvs fns)
    (f5 : fns.length ≤ 110 * i)
    (f6 : 1 ≤ px)
    (f7 : EdAsc ls px (T.length + 1) (l.reverse.drop i))
    (f8 : fns ++ putFrom T px (l.reverse.drop i) = putFrom T 1 l.reverse) : PutJ cl' el ls cvs nc n0 rest T l rl i m' news'
variable {prog : Program} {w : World} {p : Program} {loose : List Str} {mean : ExcName → Option Value} {mg mb : Str → Option Value} {cn : Str} {cs : Scope} {a : Addr} {ccd : Value} {cl : List (Str × Addr)} {outer : List Env} {A₀ : Around} {base h₀ : Heap} {L : Addr} {m : Str → Option Value} {s : Shared} {Q E : Value → Shared → Prop} in
theorem putN {hh : Heap} {D3 rl c1 el I : Addr} {o1 o2 o3 o4 oI : Obj} {x1 x2 x3 x4 x5 : Addr × Obj} {rest tl : List (Addr × Obj)}
  (NN : News h₀ L hh ((D3, o1) :: x1 :: x2 :: x3 :: x4 :: x5 :: (rl, o2) :: (c1, o3) :: (el, o4) :: tl)) (htl : rest ++ [(I, oI)] = tl) :
  News h₀ L hh ([(I, oI)] ++ ((D3, o1) :: (rl, o2) :: (c1, o3) :: (el, o4) :: rest)) := by
  subst htl
  exact news_last (l := [_, _, _, _]) (news_sel NN 9 [0, 6, 7, 8])
def put_spec_H (cl' : Addr) (el : Addr) (ls : Addr) (cvs : List Value) (T : List Int) (l : List Ed) (nc : Nat) (n0 : Nat) (news : List (Addr × Obj)) (rest : List (Addr × Obj)) (prog : Program) (w : World) (p : Program) (loose : List Str) (mean : ExcName → Option Value) (mg : Str → Option Value) (mb : Str → Option Value) (cn : Str) (cs : Scope) (a : Addr) (ccd : Value) (cl : List (Str × Addr)) (outer : List Env) (A₀ : Around) (base : Heap) (h₀ : Heap) (L : Addr) (m : Str → Option Value) (s : Shared) (Q : Value → Shared → Prop) (E : Value → Shared → Prop) (zR : Prop) : Prop := ∀ (C : Cx w p loose mean mg mb A₀ base outer h₀ L s.heap m cs) (N : News h₀ L s.heap news) (P : Picks [(cl', listOf cvs.toArray nc), (el, listOf (edVals l).toArray n0)] news rest) (hi : IntsAre cvs T) (hlen : T.length ≤ 100) (hed : EdDesc ls (T.length + 1) l) (hl4 : l.length ≤ 4) (hsub : ∀ q ∈ edEnts l, q ∈ rest) (ret : ∀ D ws n' h' tk', IntsAre ws (l.foldl put1 T) → Fr h₀ L h' m → News h₀ L h' ((D, listOf (List.toArray ws) n') :: news) → (∀ q ∈ news, q.1 < D) → Q (.ref D) { s with heap := h', toks := tk' }), zR
set_option maxRecDepth 100000 in
set_option maxHeartbeats 8000000 in
noncomputable def put_spec_k (cl' : Addr) (el : Addr) (ls : Addr) (cvs : List Value) (T : List Int) (l : List Ed) (nc : Nat) (n0 : Nat) (news : List (Addr × Obj)) (rest : List (Addr × Obj)) (prog : Program) (w : World) (p : Program) (loose : List Str) (mean : ExcName → Option Value) (mg : Str → Option Value) (mb : Str → Option Value) (cn : Str) (cs : Scope) (a : Addr) (ccd : Value) (cl : List (Str × Addr)) (outer : List Env) (A₀ : Around) (base : Heap) (h₀ : Heap) (L : Addr) (m : Str → Option Value) (s : Shared) (Q : Value → Shared → Prop) (E : Value → Shared → Prop) : PSigma (fun zP : Heap → Addr → Heap → Prop => (∀ zq1 zq2 zq3, put_spec_H cl' el ls cvs T l nc n0 news rest prog w p loose mean mg mb cn cs a ccd cl outer A₀ base h₀ L m s Q E (zP zq1 zq2 zq3)) → put_spec_H cl' el ls cvs T l nc n0 news rest prog w p loose mean mg mb cn cs a ccd cl outer A₀ base h₀ L m s Q E (wpAny (model prog w) (ktrTop 930 9300 none cn cs L a ccd cl outer) (call (.ref 645) [.ref cl', .ref el]) Q E s)) := by
  refine ⟨?zG, fun zH C N P hi hlen hed hl4 hsub ret => ?zh⟩
  case zh =>
    have zc := fun zq1 zq2 zq3 => zH zq1 zq2 zq3 C N P hi hlen hed hl4 hsub ret
    clear zH
    obtain ⟨B, F, X, T', hk⟩ := C
    replace N := news_picks N P
    simp only [List.cons_append, List.nil_append] at N
    refine wpAny_call ?_
    k_dflt cell_enter
    rename_i g9 L9 h9 FG9 F9 N9 B9 X9 T9
    revert FG9 F9 N9 B9 X9 T9
    exact zc g9 L9 h9
abbrev put_spec_P : Type := ((((((Heap × Addr) × Heap) × (Addr × Addr)) × ((Addr × (List Value)) × ((List Int) × (List Ed)))) × (((Nat × Nat) × ((List (Addr × Obj)) × (List (Addr × Obj)))) × ((Program × World) × (Program × (List Str))))) × ((((((ExcName → Option Value) × (Str → Option Value)) × (Str → Option Value)) × (Str × Scope)) × ((Addr × Value) × ((List (Str × Addr)) × (List Env)))) × (((Around × Heap) × (Heap × Addr)) × (((Str → Option Value) × Shared) × ((Value → Shared → Prop) × (Value → Shared → Prop))))))
abbrev put_spec_F (x : put_spec_P) : Prop := put_spec_H (x.1.1.1.2.1) (x.1.1.1.2.2) (x.1.1.2.1.1) (x.1.1.2.1.2) (x.1.1.2.2.1) (x.1.1.2.2.2) (x.1.2.1.1.1) (x.1.2.1.1.2) (x.1.2.1.2.1) (x.1.2.1.2.2) (x.1.2.2.1.1) (x.1.2.2.1.2) (x.1.2.2.2.1) (x.1.2.2.2.2) (x.2.1.1.1.1.1) (x.2.1.1.1.1.2) (x.2.1.1.1.2) (x.2.1.1.2.1) (x.2.1.1.2.2) (x.2.1.2.1.1) (x.2.1.2.1.2) (x.2.1.2.2.1) (x.2.1.2.2.2) (x.2.2.1.1.1) (x.2.2.1.1.2) (x.2.2.1.2.1) (x.2.2.1.2.2) (x.2.2.2.1.1) (x.2.2.2.1.2) (x.2.2.2.2.1) (x.2.2.2.2.2)  ((put_spec_k (x.1.1.1.2.1) (x.1.1.1.2.2) (x.1.1.2.1.1) (x.1.1.2.1.2) (x.1.1.2.2.1) (x.1.1.2.2.2) (x.1.2.1.1.1) (x.1.2.1.1.2) (x.1.2.1.2.1) (x.1.2.1.2.2) (x.1.2.2.1.1) (x.1.2.2.1.2) (x.1.2.2.2.1) (x.1.2.2.2.2) (x.2.1.1.1.1.1) (x.2.1.1.1.1.2) (x.2.1.1.1.2) (x.2.1.1.2.1) (x.2.1.1.2.2) (x.2.1.2.1.1) (x.2.1.2.1.2) (x.2.1.2.2.1) (x.2.1.2.2.2) (x.2.2.1.1.1) (x.2.2.1.1.2) (x.2.2.1.2.1) (x.2.2.1.2.2) (x.2.2.2.1.1) (x.2.2.2.1.2) (x.2.2.2.2.1) (x.2.2.2.2.2) ).1 (x.1.1.1.1.1.1) (x.1.1.1.1.1.2) (x.1.1.1.1.2))
theorem put_spec_ex : ∃ x : put_spec_P, put_spec_F x → ∀ y : put_spec_P, put_spec_F y := drinker ⟨((((((default, (0 : Nat)), default), ((0 : Nat), (0 : Nat))), (((0 : Nat), []), ([], []))), (((0, 0), ([], [])), ((default, world0), (default, [])))), (((((fun _ => none, fun _ => none), fun _ => none), (default, default)), (((0 : Nat), .none), ([], []))), ((({}, default), (default, (0 : Nat))), ((fun _ => none, {}), (fun _ _ => True, fun _ _ => True)))))⟩
noncomputable def put_spec_x : put_spec_P := put_spec_ex.choose
namespace put_spec_n
noncomputable def g9 : Heap := put_spec_x.1.1.1.1.1.1
noncomputable def L9 : Addr := put_spec_x.1.1.1.1.1.2
noncomputable def h9 : Heap := put_spec_x.1.1.1.1.2
noncomputable def cl' : Addr := put_spec_x.1.1.1.2.1
noncomputable def el : Addr := put_spec_x.1.1.1.2.2
noncomputable def ls : Addr := put_spec_x.1.1.2.1.1
noncomputable def cvs : List Value := put_spec_x.1.1.2.1.2
noncomputable def T : List Int := put_spec_x.1.1.2.2.1
noncomputable def l : List Ed := put_spec_x.1.1.2.2.2
noncomputable def nc : Nat := put_spec_x.1.2.1.1.1
noncomputable def n0 : Nat := put_spec_x.1.2.1.1.2
noncomputable def news : List (Addr × Obj) := put_spec_x.1.2.1.2.1
noncomputable def rest : List (Addr × Obj) := put_spec_x.1.2.1.2.2
noncomputable def prog : Program := put_spec_x.1.2.2.1.1
noncomputable def w : World := put_spec_x.1.2.2.1.2
noncomputable def p : Program := put_spec_x.1.2.2.2.1
noncomputable def loose : List Str := put_spec_x.1.2.2.2.2
noncomputable def mean : ExcName → Option Value := put_spec_x.2.1.1.1.1.1
noncomputable def mg : Str → Option Value := put_spec_x.2.1.1.1.1.2
noncomputable def mb : Str → Option Value := put_spec_x.2.1.1.1.2
noncomputable def cn : Str := put_spec_x.2.1.1.2.1
noncomputable def cs : Scope := put_spec_x.2.1.1.2.2
noncomputable def a : Addr := put_spec_x.2.1.2.1.1
noncomputable def ccd : Value := put_spec_x.2.1.2.1.2
noncomputable def cl : List (Str × Addr) := put_spec_x.2.1.2.2.1
noncomputable def outer : List Env := put_spec_x.2.1.2.2.2
noncomputable def A₀ : Around := put_spec_x.2.2.1.1.1
noncomputable def base : Heap := put_spec_x.2.2.1.1.2
noncomputable def h₀ : Heap := put_spec_x.2.2.1.2.1
noncomputable def L : Addr := put_spec_x.2.2.1.2.2
noncomputable def m : Str → Option Value := put_spec_x.2.2.2.1.1
noncomputable def s : Shared := put_spec_x.2.2.2.1.2
noncomputable def Q : Value → Shared → Prop := put_spec_x.2.2.2.2.1
noncomputable def E : Value → Shared → Prop := put_spec_x.2.2.2.2.2
set_option maxRecDepth 100000 in
set_option maxHeartbeats 8000000 in
theorem main  : put_spec_H cl' el ls cvs T l nc n0 news rest prog w p loose mean mg mb cn cs a ccd cl outer A₀ base h₀ L m s Q E ((put_spec_k cl' el ls cvs T l nc n0 news rest prog w p loose mean mg mb cn cs a ccd cl outer A₀ base h₀ L m s Q E).1 g9 L9 h9) := by
  intro C N P hi hlen hed hl4 hsub ret
  obtain ⟨B, F, X, T', hk⟩ := C
  replace N := news_picks N P
  simp only [List.cons_append, List.nil_append] at N
  delta put_spec_k
  dsimp only
  intro _ _ _ _ _ _
  k_steps
  rename Fr _ _ _ _ => F9
  rename News _ _ _ _ => N9
  rename _ ∧ _ ∧ _ ∧ _ ∧ AllLt _ rest => lt5
  rename_i rl _ hX
  rw [edVals_rev] at N9
  have hasc := hed.asc (by k_extra "ord")
  refine made_go (l := rl) (n := 0) (vs := edVals l.reverse) (PutJ cl' el ls cvs nc n0 rest T l rl) rfl F9 (news_of N9 ?k) ?jm ⟨_, [], [], 0, (1 : Int), _, rfl, rfl, rfl, rfl, .nil, Nat.le_refl _, Int.le_refl _, hasc, rfl⟩ ?turn ?done (by passes_own)
  case k =>
    intro q hq
    rcases List.mem_cons.mp hq with rfl | hq
    · exact .tail _ (.tail _ (.head _))
    · rcases List.mem_cons.mp hq with rfl | hq
      · exact .head _
      · exact .tail _ (.tail _ (.tail _ hq))
  case jm =>
    rintro i m' news' ⟨fd, fvs, fns, nf, px, tp, rfl, _⟩
    exact .tail _ (.head _)
  case turn =>
    intro I i v m₁ news₁ h₁ tk₁ oI hv hJ hoff F1 N1
    obtain ⟨fd, fvs, fns, nf, px, tp, rfl, md, mf, mp, ki, kl, kp, kasc, kput⟩ := hJ
    simp only [edVals, List.getElem?_map] at hv
    obtain ⟨d, hd, rfl⟩ := Option.map_eq_some_iff.mp hv
    have hdm : d ∈ l := List.mem_reverse.mp (List.mem_of_getElem? hd)
    have hi4 : i < l.length := by have := (List.getElem?_eq_some_iff.mp hd).1; rwa [List.length_reverse] at this
    obtain ⟨hdi, hl10, hs1, hse, lt1, lt2, hrest⟩ := kasc.at hd
    have hde := hrest.le
    rw [putFrom_at hd] at kput
    have hmf : m₁ = fun y => if y = Str.ofString "codes" then some (.ref cl') else if y = Str.ofString "found" then some (.ref fd) else if y = Str.ofString "place" then some (.int px tp) else m₁ y := by
      funext y
      split
      · simp_all
      · split
        · simp_all
        · split <;> simp_all
    rw [hmf] at F1
    have N2 := news_in (own := [(I, oI)]) (own' := [(d.t, d.tup), (d.c, listOf d.vs.toArray d.nc)]) N1 (fun q hq => by
      rcases List.mem_cons.mp hq with rfl | hq
      · exact .tail _ (.tail _ (.tail _ (.tail _ (hsub _ (edEnts_t hdm)))))
      · rw [List.mem_singleton.mp hq]; exact .tail _ (.tail _ (.tail _ (.tail _ (hsub _ (edEnts_c hdm))))))
    simp only [List.cons_append, List.nil_append] at N2
    clear N1
    generalize htl : rest ++ [(I, oI)] = tl at N2
    clear hmf
    k_steps
    rename _ = List.take _ _ => hZ
    rename @Eq Int (@Nat.cast Int _ (List.length _)) (_ - _) => hL
    rename _ ∧ _ ∧ _ ∧ _ ∧ _ ∧ _ ∧ _ ∧ _ ∧ AllLt _ tl => lT
    have hIm : (I, oI) ∈ tl := by rw [← htl]; simp
    have nT := Nat.ne_of_lt (lt_of_all lT.2.2.2.2.2.2.2.2 _ hIm)
    subst hZ
    refine LoopStepU.intro (by k_asm) (putN (by k_asm) htl) (fun p hp z => ?_) ⟨_, _, _, _, _, _, rfl, rfl, rfl, rfl, by assumption, ?_, by k_extra "ord", hrest, ?_⟩
    · have z := List.mem_singleton.mp z
      simp only [List.mem_cons] at hp
      rcases hp with h | h | h | h | h
      · exact nT (by rw [← z, h])
      · exact hoff (rl, _) (.tail _ (.head _)) (by rw [← z, h])
      · exact hoff (cl', _) (.tail _ (.tail _ (.head _))) (by rw [← z, h])
      · exact hoff (el, _) (.tail _ (.tail _ (.tail _ (.head _)))) (by rw [← z, h])
      · exact hoff p (by simp [h]) z
    · rw [List.length_append, List.length_append]; omega
    · rw [← kput]; simp only [List.append_assoc]
  case done =>
    rintro h' tk' m' news' F' N' ⟨fd, fvs, fns, nf, px, tp, rfl, md, mf, mp, ki, kl, kp, kasc, kput⟩
    have hev : (edVals l.reverse).length = l.reverse.length := List.length_map ..
    have hmf : m' = fun y => if y = Str.ofString "codes" then some (.ref cl') else if y = Str.ofString "found" then some (.ref fd) else if y = Str.ofString "place" then some (.int px tp) else m' y := by
      funext y
      split
      · simp_all
      · split
        · simp_all
        · split <;> simp_all
    rw [hmf] at F'
    rw [hev, List.drop_length] at kput
    rw [hev, List.length_reverse] at kl
    (try dsimp only)
    clear hmf
    k_steps
    rename News _ _ _ _ => NF
    rename IntsAre _ (fns ++ _) => hF
    rename _ ∧ _ ∧ _ ∧ _ ∧ _ ∧ AllLt _ rest => lF
    have hF2 : fns ++ T.drop (px - 1).toNat = l.foldl put1 T := kput.trans (put_law' hed)
    rw [hF2] at hF
    exact ret _ _ 0 _ _ hF (by k_asm) (fun q hq => by
      rcases List.mem_cons.mp hq with rfl | hq
      · exact NF _ (.head _)
      · have := P.mem' q hq
        simp only [List.cons_append, List.nil_append, List.mem_cons] at this
        exact NF q (by rcases this with h | h | h <;> simp [h])) (P.lt (by simp only [List.cons_append, List.nil_append, AllLt]; simp [lF]))
end put_spec_n
theorem put_spec {prog : Program} {w : World} {p : Program} {loose : List Str} {mean : ExcName → Option Value} {mg : Str → Option Value} {mb : Str → Option Value} {cn : Str} {cs : Scope} {a : Addr} {ccd : Value} {cl : List (Str × Addr)} {outer : List Env} {A₀ : Around} {base : Heap} {h₀ : Heap} {L : Addr} {m : Str → Option Value} {s : Shared} {Q : Value → Shared → Prop} {E : Value → Shared → Prop} {cl' : Addr} {el : Addr} {ls : Addr} {cvs : List Value} {T : List Int} {l : List Ed} {nc : Nat} {n0 : Nat} {news : List (Addr × Obj)} {rest : List (Addr × Obj)} : put_spec_H cl' el ls cvs T l nc n0 news rest prog w p loose mean mg mb cn cs a ccd cl outer A₀ base h₀ L m s Q E (wpAny (model prog w) (ktrTop 930 9300 none cn cs L a ccd cl outer) (call (.ref 645) [.ref cl', .ref el]) Q E s) := (put_spec_k cl' el ls cvs T l nc n0 news rest prog w p loose mean mg mb cn cs a ccd cl outer A₀ base h₀ L m s Q E).2 (fun g9 L9 h9 => put_spec_ex.choose_spec (put_spec_n.main ) ((((((g9, L9), h9), (cl', el)), ((ls, cvs), (T, l))), (((nc, n0), (news, rest)), ((prog, w), (p, loose)))), (((((mean, mg), mb), (cn, cs)), ((a, ccd), (cl, outer))), (((A₀, base), (h₀, L)), ((m, s), (Q, E))))) )
end
section
theorem lines_X10_1 : True := by
  k_with_none
  k_with "k_all" => with_reducible assumption
  k_with "ne_mem" => with_reducible first | exact List.mem_cons_self | (refine List.mem_cons_of_mem _ ?_; k_extra "ne_mem") | (refine List.mem_append_right _ ?_; k_extra "ne_mem")
  k_with "ne_bef" => with_reducible first | (refine Bef.head ?_; k_extra "ne_mem") | (refine Bef.tail ?_; k_extra "ne_bef")
  k_with "lt_ap" => (with_reducible rename Apart _ => kqA; first | (with_reducible exact Apart.bef kqA (by k_extra "ne_bef")) | (clear kqA; k_extra "lt_ap"))
  k_with "lt_go" => first | (with_reducible assumption) | (with_reducible exact AllLt.get (by assumption) (by k_extra "ne_mem")) | k_extra "lt_ap" | ((with_reducible refine Nat.lt_trans ?kq1 ?kq2); (case kq2 => with_reducible assumption); (case kq1 => k_extra "lt_go")) | ((with_reducible refine Nat.lt_trans ?kq1 ?kq2); (case kq1 => with_reducible assumption); (case kq2 => k_extra "lt_ap"))
  k_with "ne_lt" => with_reducible first | exact Nat.ne_of_lt (AllLt.get (by assumption) (by k_extra "ne_mem")) | exact Nat.ne_of_gt (AllLt.get (by assumption) (by k_extra "ne_mem"))
  k_with "ne_ap" => (with_reducible rename Apart _ => kqA; first | (with_reducible exact Nat.ne_of_lt (Apart.bef kqA (by k_extra "ne_bef"))) | (with_reducible exact Nat.ne_of_gt (Apart.bef kqA (by k_extra "ne_bef"))) | (clear kqA; k_extra "ne_ap"))
  k_with "k_ne" => (refine neN ?_; (try dsimp only); first | (with_reducible assumption) | (with_reducible exact Ne.symm (by assumption)) | (with_reducible exact Nat.ne_of_lt (by assumption)) | (with_reducible exact Nat.ne_of_gt (by assumption)) | k_extra "ne_lt" | k_extra "ne_ap" | omega | ((try simp only [AllLt] at *); omega))
  k_with "ne_all" => first | (with_reducible assumption) | (refine And.intro ?_ ?_ <;> k_extra "ne_all") | k_ne
  k_with "mem_hq" => first | exact hq | exact List.mem_append_left _ hq | (refine List.mem_cons_of_mem _ ?_; k_extra "mem_hq")
  k_with "perm" => first | (refine List.forall_mem_cons.mpr (And.intro ?kqa ?kqb); (case kqa => k_extra "ne_mem"); (case kqb => k_extra "perm")) | exact List.forall_mem_nil _ | (intro q hq; k_extra "mem_hq")
  k_with "ord" => first | (with_reducible assumption) | ((with_reducible show @LT.lt Nat _ _ _); k_extra "lt_go") | k_ne | omega | ((try simp only [AllLt] at *); omega)
  k_with "tb_start" => first | exact Pick.head | (apply Pick.tail; tb_start)
  k_with "tb_rel" => first | exact Suff.refl | (refine' Suff.tail ?_; tb_rel)
  k_with "ktr_rel" => first | exact Picks.nil | (refine' Picks.cons ?kqp ?kqq; (case kqp => tb_start); (case kqq => ktr_rel))
  k_with "ktr_unf" => exact ⟨by k_asm, by k_asm, by k_asm, by k_asm, by first | exact rfl | assumption⟩
  k_with "subscriptTail Attribute Name Slice" => (k_here; k_dflt (refine kba_turn (value' := PySem.Expr.Name (PySem.Str.ofString "_") ⟨0, 0, 0, 0⟩) (fun _ => rfl) ?_))
  k_with "subscriptTail Name Slice ref ref" => (k_here; (with_reducible show wpAny _ _ (subscriptTail _ (PySem.Expr.Slice (some _) (some _) none _) (Value.ref _) (Value.ref _)) _ _ _); k_dflt (refine' my_slice ?kqF ?kqN ?kql ?kqi ?kqx ?kqy ?kqz ?_ ?kqs ?kqt; (case kqF => k_asm); (case kqN => k_asm); (case kql => k_mem); (case kqi => k_asm); (case kqx => first | (with_reducible assumption) | omega | ((try simp only [AllLt] at *); omega)); (case kqy => first | (with_reducible assumption) | omega | ((try simp only [AllLt] at *); omega)); (case kqz => first | (with_reducible assumption) | omega | ((try simp only [AllLt] at *); omega)); (case kqs => with_unfolding_all rfl); (case kqt => kmk_pure); k_whole); intro D' ws' h' zs' F' N' l1 hI' hZ' hL'; (try (replace hL' := slice_len hL' (by first | (with_reducible assumption) | omega) (by first | (with_reducible assumption) | omega) (by first | (with_reducible assumption) | omega))); (try k_lt l1); (try k_sweep))
  k_with "setItem ref ref ref" => (k_here; k_dflt (refine' my_setslice ?kqF ?kqN ?kql ?kqU ?kqi ?kqw ?kqx ?kqy ?kqz ?kqzz ?_; (case kqF => k_asm); (case kqN => k_asm); (case kql => k_mem); (case kqU => k_updF); (case kqi => k_asm); (case kqw => k_asm); (case kqx => first | (with_reducible assumption) | omega | ((try simp only [AllLt] at *); omega)); (case kqy => first | (with_reducible assumption) | omega | ((try simp only [AllLt] at *); omega)); (case kqz => first | (with_reducible assumption) | omega | ((try simp only [AllLt] at *); omega)); (case kqzz => first | (with_reducible assumption) | omega | ((try simp only [AllLt] at *); omega)); k_whole); intro vs' n2' h' ns' F' N' hI' hZ' hL'; (try dsimp only at N'); (try k_sweep))
  k_with "call builtin:len" => (k_here; (with_reducible show wpAny _ _ (call (Value.builtin "len") [Value.ref _]) _ _ _); k_dflt (refine' my_len ?kqN ?kql ?kqi ?kqz ?_; (case kqN => k_asm); (case kql => k_mem); (case kqi => k_asm); (case kqz => first | (with_reducible assumption) | omega | ((try simp only [AllLt] at *); omega)); k_whole))
  k_with "pyIter ref" => (k_here; k_dflt (first | (refine' iter_empty ?kqh ?kqF ?kqN ?kqm ?_; (case kqh => exact rfl); (case kqF => k_asm); (case kqN => k_asm); (case kqm => k_mem)) | (refine' iter_empty2 ?kqh ?kqF ?kqN ?kqm ?kqi ?kqz ?_; (case kqh => exact rfl); (case kqF => k_asm); (case kqN => k_asm); (case kqm => k_mem); (case kqi => k_asm); (case kqz => k_asm))); intro h' tk' F' N'; (try dsimp only); (try k_sweep))
  trivial
section
variable {prog : Program} {w : World} {A A₀ : Around} {s : Shared} {K : Frag} {L : Addr} {h₀ base : Heap} {m mg mb : Str → Option Value} {news : List (Addr × Obj)} {p : Program} {loose : List Str} {mean : ExcName → Option Value}
/-- a def entered: what it gives back is told both of the frame's end and straight -/
theorem code_both {env : Env} {outer : List Env} {R : Result → Shared → Prop} {name qual : Str} {params : Arguments} {body : List Stmt} {scope : Scope} {dV kV doc pm cdv ct oc : Value} {an od : Option Addr} {osl : Array (Option Value)} {f : Addr} {args : Args} {binds : List (Str × Value)}
    (B : Below A₀ base outer h₀) (F : Fr h₀ L s.heap m) (X₀ : K.In h₀) (N : News h₀ L s.heap news) (T : Top p loose mean mg mb h₀) (hA : A.frames = some (env :: outer)) (hf : env.frame = some L) (hke : env.scope.kind = .function)
    (ho : K.lookup f = some ⟨oc, od, .func (fnOf name qual params body scope dV kV doc pm an cdv ct), osl⟩) (hcd : codeIn K cdv qual = true) (hroom : A.depth < recursionLimit)
    (hbind : BindsTo s (fnOf name qual params body scope dV kV doc pm an cdv ct) args binds) (hloc : ∀ y ∈ binds, scope.names.lookup y.1 = some .local)
    (h : ∀ g L' h₁, Fr h₀ L g m → Fr g L' h₁ (fun y => binds.reverse.lookup y) → News g L' h₁ news → Below A base (env :: outer) g → K.In g → Top p loose mean mg mb g → @LT.lt Nat _ L L' → (∀ p ∈ news, @LT.lt Nat _ p.1 L') →
      (∀ v s', LeaveK h₀ L m g R v s' → R (.ok (.ret v)) s') →
      wpAny (model prog w) (A.deeper (envOf qual scope L' f cdv)) (execs body (envOf qual scope L' f cdv))
        (fun fl s' => R (.ok (.ret (match fl with | .ret v => v | _ => .none))) s')
        (fun e s' => wpAny (model prog w) (A.deeper (envOf qual scope L' f cdv)) (leaving (envOf qual scope L' f cdv) e) (fun _ s'' => R (.error e) s'') (fun e' s'' => R (.error e') s'') s')
        { s with heap := h₁, toks := s.toks + binds.length })
    (hco : scope.isCoroutine = false) (hgen : scope.isGenerator = false) (hk : scope.kind = .function)
    (hcell : ∀ x ∈ scope.names, x.2 ≠ .cell) : codeAny (model prog w) A (.call (.ref f) args) R s := by
  obtain ⟨FG, BG, st, lv⟩ := groundX (R := R) B F N hA hf hke
  refine codeAny_call_def (fd := fnX name qual params body scope [] dV kV doc pm an cdv ct) (body := body) (binds := binds) hroom ((X₀.keeps F.keep) _ _ ho) rfl (T.nolimit.keeps F.keep) (codeRec_of (X₀.keeps F.keep) hcd) rfl hbind hcell hloc (fun h₁ hns hk₁ => ?_) hco hgen hk
  refine h _ s.heap.objs.size h₁ FG ⟨hns, fun b o e => hk₁ b o (of_hideAll _ e), Nat.le_of_eq (hideAll_size _ _)⟩
    (fun p hp => ⟨hk₁ _ _ (N p hp).1, Nat.ne_of_lt (Heap.lt_size (N p hp).1), hideAll_none _ (List.mem_map_of_mem hp)⟩) BG (X₀.keeps st) (T.keeps st) F.ns.lt (fun p hp => Heap.lt_size (N p hp).1) lv
end
section
variable {prog : Program} {w : World} {A₀ : Around} {E : Value → Shared → Prop} {s' : Shared} {h₀ g hh : Heap} {outer : List Env} {L L' a' e : Addr} {m m' : Str → Option Value} {name : Str} {scope : Scope} {cd : Value} {envL : Env}
  {n : Str} {b₀ : Stmt} {suite : List Stmt} {pos np : Pos} {rest : List ExceptHandler} {Q : Flow → Shared → Prop} {news : List (Addr × Obj)} {x sy : Str} {KF : Frag}
  {p : Program} {loose : List Str} {mean : ExcName → Option Value} {mg mb : Str → Option Value}
theorem sig_caught (hfr : A₀.frames = some (envL :: outer)) (hfL : envL.frame = some L) (F : Fr h₀ L hh m) (hLL : h₀.objs.size ≤ L') (hne : @Ne Nat L L') (R : Fly h₀ (envOf name scope L' a' cd :: envL :: outer) e sy [(L', m'), (L, m)] news s'.heap)
    (X : (hd.heap_39 w.params).In h₀) (T : TopRead p loose mg mb h₀) (ex : nsIn (hd.heap_39 w.params) mainGlobals x = some (some (.ref 38)))
    (k : ∀ h' oL oe d es nn ts, Fr h₀ L' h' m' → News h₀ L' h' ((L, oL) :: (e, oe) :: (d, dictOf es nn) :: news) → (oe.cls = .ref 38 ∧ oe.dict = some d ∧ notCls oe = true) → getL (Str.ofString "symbol") es = some (some (.str sy ts)) →
      (∀ h₈, News h₀ L' h₈ ((L, oL) :: (e, oe) :: (d, dictOf es nn) :: news) → Fr h₀ L' h₈ m' ∨ True → h₀.StaysIn h₈ → Fr h₀ L h₈ m ∧ News h₀ L h₈ news) →
      wpAny (model prog w) ((A₀.deeper (envOf name scope L' a' cd)).mark (some (.ref e))) (storeName (envOf name scope L' a' cd) n (.ref e)) (fun _ s₂ =>
        wpAny (model prog w) ((A₀.deeper (envOf name scope L' a' cd)).mark (some (.ref e))) (execs (b₀ :: suite) (envOf name scope L' a' cd))
        (fun f s₄ => wpAny (model prog w) (A₀.deeper (envOf name scope L' a' cd)) (do bindName (envOf name scope L' a' cd) n .none; unbindBehindTheSuite (envOf name scope L' a' cd) n pos) (fun _ s₅ => Q f s₅) E s₄)
        (AsSuiteRaised (model prog w) ((A₀.deeper (envOf name scope L' a' cd)).mark (some (.ref e))) (envOf name scope L' a' cd) n pos (notedBy (model prog w) ((A₀.deeper (envOf name scope L' a' cd)).mark (some (.ref e))) (envOf name scope L' a' cd) (cameBackBy (model prog w) (A₀.deeper (envOf name scope L' a' cd)) (envOf name scope L' a' cd) E))) s₂)
        (notedBy (model prog w) ((A₀.deeper (envOf name scope L' a' cd)).mark (some (.ref e))) (envOf name scope L' a' cd) (cameBackBy (model prog w) (A₀.deeper (envOf name scope L' a' cd)) (envOf name scope L' a' cd) E))
        { s' with heap := h' })
    (hk : scope.kind = .function := by rfl) (hx : (envOf name scope L' a' cd).kindOf x = some .globalImplicit := by rfl) (hd : (x == ("__debug__" : Str)) = false := by decide) :
    wpAny (model prog w) (A₀.deeper (envOf name scope L' a' cd)) (noteFrame (.ref e) (envOf name scope L' a' cd))
      (fun _ s₂ => wpAny (model prog w) (A₀.deeper (envOf name scope L' a' cd)) (setFlight (.ref e) none) (fun _ s₃ =>
        wpAny (model prog w) (A₀.deeper (envOf name scope L' a' cd)) (handleBy (.ref e) (envOf name scope L' a' cd) (.ExceptHandler (some (.Name x np)) (some n) (b₀ :: suite) pos :: rest)) Q E s₃) E s₂) E s' := by
  obtain ⟨B, t, d, es, nn, ts, x0, hB, hl, hfl, dd, ⟨hBd, hd0⟩, hsy⟩ := R
  have hL' : B.get? L' = none := by
    obtain ⟨_, ⟨L₁, _, hf, hn', _⟩, _⟩ := hfl.2.2.1
    obtain rfl : L' = L₁ := Option.some.inj hf
    exact hn'
  have hL : B.get? L = none := by
    obtain ⟨_, _, _, ⟨L₁, _, hf, hn', _⟩, _⟩ := hfl.2.2.1
    obtain rfl : L = L₁ := Option.some.inj (hfL.symm.trans hf)
    exact hn'
  have hbase : [Value.type "Exception", .type "BaseException", .type "object"].contains (.type "BaseException") = true := by decide +kernel
  refine wpAny_mono (tame_any (tame_noteFrame _ _) dd (wpAny_looks_onW (Q := fun _ s₂ => ∃ h₄, Heap.HeldW B (envOf name scope L' a' cd :: envL :: outer) e (.ref 38) (.ref t) L' h₄ ∧ s'.heap.UpToSlots h₄ ∧ s₂ = { s' with heap := h₄ }) (Around.frames_deeper hfr) rfl hfl fun h₄ y z => ⟨h₄, y, z, rfl⟩)) ?_ fun _ _ x => x
  rintro _ s₂ ⟨⟨h₄, hheld₄, hsm₄, rfl⟩, dd₄⟩
  refine wpAny_mono (tame_any (tame_setFlight _ _) dd₄ (wpAny_landsW (Q := fun _ s₂ => ∃ h₅, Heap.FlyingW B (envOf name scope L' a' cd :: envL :: outer) e (.ref 38) (.ref t) h₅ ∧ h₄.UpToSlots h₅ ∧ s₂ = { s' with heap := h₅ }) hheld₄ fun h₅ y z => ⟨h₅, y, z, rfl⟩)) ?_ fun _ _ x => x
  rintro _ s₃ ⟨⟨h₅, hheld, hsm₅', rfl⟩, dd₅⟩
  have hsm₅ := hsm₄.trans hsm₅'
  have st₅ : h₀.StaysIn h₅ := fun b o q => hheld.1 b o (hB b o q)
  have F₅ : Fr h₀ L' h₅ m' := ⟨hsm₅.ns (x0 (L', m') (.head _)), st₅, hLL⟩
  obtain ⟨ob, hob, hobc⟩ := hheld.there
  refine wpAny_handleBy_cons (codeAny_handlers_test (name_K F₅ X T ex ?_ hk hx hd)) (by intro q; cases q)
  refine wpAny_excMatches_sub_self ((X.keeps F₅.keep) _ _ (cls38 w.params)) hob hobc hbase (codeAny_handlers_suite_as ?_)
  refine wpAny_mono (tame_any (tame_setFlight _ _) dd₅ (lands_againW (Q := fun _ s₂ => ∃ h₆, Heap.FlyingW B (envOf name scope L' a' cd :: envL :: outer) e (.ref 38) (.ref t) h₆ ∧ h₅.UpToSlots h₆ ∧ s₂ = { s' with heap := h₆ }) hheld fun h₆ y z => ⟨h₆, y, z, rfl⟩)) ?_ fun _ _ x => x
  rintro _ s₆ ⟨⟨h₆, hfl₆, hsm₆, rfl⟩, dd₆⟩
  have hsm := hsm₅.trans hsm₆
  have F₆ : Fr h₀ L' h₆ m' := ⟨hsm.ns (x0 (L', m') (.head _)), fun b o q => hfl₆.1 b o (hB b o q), hLL⟩
  have nL := hsm.ns (x0 (L, m) (.tail _ (.head _)))
  obtain ⟨oL, eL, epL, hoL, hdL, hkL, hfL'⟩ := nL
  obtain ⟨oe, hoe, hoed⟩ := dd₆
  obtain ⟨oe', hoe', hcl⟩ := hfl₆.there
  obtain rfl : oe = oe' := Option.some.inj (hoe.symm.trans hoe')
  have hnc : notCls oe = true := by
    obtain ⟨oe2, vs, T1, oT, tss, a1, a2, a3, _⟩ := hfl₆.2.2.2
    obtain rfl : oe = oe2 := Option.some.inj (hoe.symm.trans a1)
    unfold notCls; rw [a3]
  have fresh : ∀ {b}, B.get? b = none → h₀.get? b = none := fun hb => fresh_of_stays hB hb
  have N₆ : News h₀ L' h₆ ((L, oL) :: (e, oe) :: (d, dictOf es nn) :: news) := by
    intro q hq
    rcases List.mem_cons.mp hq with rfl | hq
    · exact ⟨hoL, hne, fresh hL⟩
    · rcases List.mem_cons.mp hq with rfl | hq
      · refine ⟨hoe, fun z => ?_, fresh hfl₆.2.1⟩
        obtain ⟨_, ⟨L₁, o₁, hf, _, ho₁, hd₁⟩, _⟩ := hfl₆.2.2.1
        obtain rfl : L' = L₁ := Option.some.inj hf
        obtain ⟨oe2, vs, T1, oT, tss, a1, a2, a3, _⟩ := hfl₆.2.2.2
        rw [show e = L' from z, ho₁] at a1
        cases a1
        exact hd₁ _ a3
      · rcases List.mem_cons.mp hq with rfl | hq
        · exact ⟨hfl₆.1 _ _ hBd, (fun z => by rw [show d = L' from z, hL'] at hBd; cases hBd), hd0⟩
        · have z := hl q hq
          exact ⟨hfl₆.1 _ _ z.1, (fun y => by rw [y, hL'] at z; cases z.1), z.2⟩
  refine k h₆ oL oe d es nn ts F₆ N₆ ⟨hcl, hoed, hnc⟩ hsy fun h₈ N₈ _ st => ⟨⟨⟨oL, eL, epL, (N₈ _ (.head _)).1, hdL, hkL, hfL'⟩, st, F.above⟩, fun q hq => ?_⟩
  have z := hl q hq
  exact ⟨(N₈ q (.tail _ (.tail _ (.tail _ hq)))).1, (fun y => by rw [y, hL] at z; cases z.1), z.2⟩
end
section
variable {prog : Program} {w : World} {p : Program} {loose : List Str} {mean : ExcName → Option Value} {mg mb : Str → Option Value}
  {cn : Str} {cs : Scope} {a : Addr} {ccd : Value} {cl : List (Str × Addr)} {outer : List Env} {A₀ : Around} {base h₀ : Heap} {L : Addr} {m : Str → Option Value} {s : Shared} {Q E : Value → Shared → Prop}
abbrev sigSc : Scope := { kind := .function, names := [(Str.ofString "call", .local), (Str.ofString "error", .local), (Str.ofString "LispSignal", .globalImplicit)], isGenerator := false, isCoroutine := false }
abbrev sigEnv (L : Addr) : Env := envX (Str.ofString "_law_signal") sigSc L 652 (.ref 651) []
set_option maxRecDepth 100000 in
set_option maxHeartbeats 8000000 in
theorem sig_spec {f : Addr} {fd : FuncData} {sy : Str} {news : List (Addr × Obj)} {Post₁ Post₂ : List (Addr × Obj) → Prop}
 (C : Cx w p loose mean mg mb A₀ h₀ outer h₀ L s.heap m cs) (N : News h₀ L s.heap news) (hf : (f, ({ cls := .type "function", data := .func fd } : Obj)) ∈ news)
 (call_ : ∀ (g : Heap) (L' : Addr) (h₁ : Heap) (tk : Nat) (A₁ : Around) (Q₁ : Value → Shared → Prop) (E₁ : Value → Shared → Prop) (m₁ : Str → Option Value), Cx w p loose mean mg mb A₁ h₀ (envX cn cs L a ccd cl :: outer) g L' h₁ m₁ sigSc → News g L' h₁ news → (∀ p ∈ news, @LT.lt Nat _ p.1 L') → (∀ q ∈ [(L, m)], g.Ns q.1 q.2) →
   (∀ v h' tk' news₁, Post₁ news₁ → Fr g L' h' m₁ → News g L' h' news₁ → Q₁ v { s with heap := h', toks := tk' }) →
   (∀ e h' tk' news₂, Post₂ news₂ → Fly h₀ (sigEnv L' :: envX cn cs L a ccd cl :: outer) e sy [(L', m₁), (L, m)] news₂ h' → E₁ (.ref e) { s with heap := h', toks := tk' }) →
   wpAny (model prog w) (ktrTop 861 8603 none (Str.ofString "_law_signal") sigSc L' 652 (.ref 651) [] (envX cn cs L a ccd cl :: outer)) (call (.ref f) []) Q₁ E₁ { s with heap := h₁, toks := tk })
 (retN : ∀ t h' tk' news₁, Post₁ news₁ → Fr h₀ L h' m → News h₀ L h' news₁ → Q (.str (Str.ofString "") t) { s with heap := h', toks := tk' })
 (retE : ∀ t h' tk' news₂, Post₂ news₂ → Fr h₀ L h' m → News h₀ L h' news₂ → Q (.str sy t) { s with heap := h', toks := tk' }) :
 wpAny (model prog w) (ktrTop 860 8600 none cn cs L a ccd cl outer) (call (.ref 652) [.ref f]) Q E s := by
  obtain ⟨B, F, X, T, hk⟩ := C
  refine wpAny_call ?_
  refine' code_both ?k1 ?k2 ?k3 ?k4 ?k5 ?kA ?kF ?kK ?k6 ?k7 ?k8 ?k9 ?kB ?_ ?c2 ?c3 ?c4 ?c5
  (case kA => exact rfl); (case kF => exact rfl); (case kK => assumption); (case k1 => k_asm); (case k2 => k_asm); (case k3 => k_asm); (case k4 => k_asm); (case k5 => k_asm); (case k6 => k_is); (case k7 => k_is); (case k8 => ktr_room); (case k9 => exact BindsTo.of_eq rfl); (case c5 => decide); (case kB => exact locs rfl); (case c2 => exact rfl); (case c3 => exact rfl); (case c4 => exact rfl); k_whole
  intro g L' h₁ FG F' N' B' X' T' hLL hNL lv
  replace F' := fr_binds F' (bs := [(Str.ofString "call", _)]) rfl
  (try dsimp only); (try k_lift B')
  k_steps
  refine callWith_F0 (FnAt.of (by k_asm) hf) ?_
  refine call_ g L' _ _ _ _ _ _ ⟨B', F', X', T', rfl⟩ N' hNL (nss_up FG (fun _ h => nomatch h)) ?_ ?_
  · intro v h' tk' news₁ hp F2 N2
    (try dsimp only)
    k_steps
    exact lv _ _ ⟨L', _, news₁, F2, N2, fun F3 N3 => retN _ _ _ news₁ hp F3 N3⟩
  · intro e h' tk' news₂ hp x
    (try dsimp only)
    refine sig_caught rfl rfl F (Nat.le_trans F.above (Nat.le_of_lt hLL)) (Nat.ne_of_lt hLL) x X (by k_asm) ?_ ?_
    · k_is
    · intro h₂ oL oe d es nn ts F2 N2 hoe hsy back
      have i1 : findIn (hd.heap_39 w.params) (.ref 38) (Str.ofString "symbol") = some none := by k_is
      have i2 : findIn (hd.heap_39 w.params) (.ref 38) (Str.ofString "__getattribute__") = some (some (.builtin "BaseException.__getattribute__")) := by k_is
      have i3 : findIn (hd.heap_39 w.params) (.ref 38) (Str.ofString "__getattr__") = some none := by k_is
      k_steps
      rename News _ _ _ _ => N5
      refine xs_get (Frag.In.keeps X (Fr.keep (by k_asm))) (N5 (e, oe) (.tail _ (.head _))).1 hoe.1 hoe.2.1 hoe.2.2 (N5 (d, _) (.tail _ (.tail _ (.head _)))).1 i2 i3 i1 hsy rfl ?_
      (try dsimp only)
      k_steps
      rename News _ _ _ _ => N9
      rename Fr _ _ _ _ => F9
      obtain ⟨F10, N10⟩ := back _ N9 (.inr trivial) F9.keep
      exact retE _ _ _ news₂ hp F10 N10
end
end
section
theorem lines_X11_1 : True := by
  k_with_none
  k_with "k_all" => with_reducible assumption
  k_with "ne_mem" => with_reducible first | exact List.mem_cons_self | (refine List.mem_cons_of_mem _ ?_; k_extra "ne_mem") | (refine List.mem_append_right _ ?_; k_extra "ne_mem")
  k_with "ne_bef" => with_reducible first | (refine Bef.head ?_; k_extra "ne_mem") | (refine Bef.tail ?_; k_extra "ne_bef")
  k_with "lt_ap" => (with_reducible rename Apart _ => kqA; first | (with_reducible exact Apart.bef kqA (by k_extra "ne_bef")) | (clear kqA; k_extra "lt_ap"))
  k_with "lt_go" => first | (with_reducible assumption) | (with_reducible exact AllLt.get (by assumption) (by k_extra "ne_mem")) | k_extra "lt_ap" | ((with_reducible refine Nat.lt_trans ?kq1 ?kq2); (case kq2 => with_reducible assumption); (case kq1 => k_extra "lt_go")) | ((with_reducible refine Nat.lt_trans ?kq1 ?kq2); (case kq1 => with_reducible assumption); (case kq2 => k_extra "lt_ap"))
  k_with "ne_lt" => with_reducible first | exact Nat.ne_of_lt (AllLt.get (by assumption) (by k_extra "ne_mem")) | exact Nat.ne_of_gt (AllLt.get (by assumption) (by k_extra "ne_mem"))
  k_with "ne_ap" => (with_reducible rename Apart _ => kqA; first | (with_reducible exact Nat.ne_of_lt (Apart.bef kqA (by k_extra "ne_bef"))) | (with_reducible exact Nat.ne_of_gt (Apart.bef kqA (by k_extra "ne_bef"))) | (clear kqA; k_extra "ne_ap"))
  k_with "k_ne" => (refine neN ?_; (try dsimp only); first | (with_reducible assumption) | (with_reducible exact Ne.symm (by assumption)) | (with_reducible exact Nat.ne_of_lt (by assumption)) | (with_reducible exact Nat.ne_of_gt (by assumption)) | k_extra "ne_lt" | k_extra "ne_ap" | omega | ((try simp only [AllLt] at *); omega))
  k_with "ne_all" => first | (with_reducible assumption) | (refine And.intro ?_ ?_ <;> k_extra "ne_all") | k_ne
  k_with "mem_hq" => first | exact hq | exact List.mem_append_left _ hq | (refine List.mem_cons_of_mem _ ?_; k_extra "mem_hq")
  k_with "perm" => first | (refine List.forall_mem_cons.mpr (And.intro ?kqa ?kqb); (case kqa => k_extra "ne_mem"); (case kqb => k_extra "perm")) | exact List.forall_mem_nil _ | (intro q hq; k_extra "mem_hq")
  k_with "ord" => first | (with_reducible assumption) | ((with_reducible show @LT.lt Nat _ _ _); k_extra "lt_go") | k_ne | omega | ((try simp only [AllLt] at *); omega)
  k_with "tb_start" => first | exact Pick.head | (apply Pick.tail; tb_start)
  k_with "tb_rel" => first | exact Suff.refl | (refine' Suff.tail ?_; tb_rel)
  k_with "ktr_rel" => first | exact Picks.nil | (refine' Picks.cons ?kqp ?kqq; (case kqp => tb_start); (case kqq => ktr_rel))
  k_with "ktr_unf" => exact ⟨by k_asm, by k_asm, by k_asm, by k_asm, by first | exact rfl | assumption⟩
  k_with "subscriptTail Attribute Name Slice" => (k_here; k_dflt (refine kba_turn (value' := PySem.Expr.Name (PySem.Str.ofString "_") ⟨0, 0, 0, 0⟩) (fun _ => rfl) ?_))
  k_with "subscriptTail Name Slice ref ref" => (k_here; (with_reducible show wpAny _ _ (subscriptTail _ (PySem.Expr.Slice (some _) (some _) none _) (Value.ref _) (Value.ref _)) _ _ _); k_dflt (refine' my_slice ?kqF ?kqN ?kql ?kqi ?kqx ?kqy ?kqz ?_ ?kqs ?kqt; (case kqF => k_asm); (case kqN => k_asm); (case kql => k_mem); (case kqi => k_asm); (case kqx => first | (with_reducible assumption) | omega | ((try simp only [AllLt] at *); omega)); (case kqy => first | (with_reducible assumption) | omega | ((try simp only [AllLt] at *); omega)); (case kqz => first | (with_reducible assumption) | omega | ((try simp only [AllLt] at *); omega)); (case kqs => with_unfolding_all rfl); (case kqt => kmk_pure); k_whole); intro D' ws' h' zs' F' N' l1 hI' hZ' hL'; (try (replace hL' := slice_len hL' (by first | (with_reducible assumption) | omega) (by first | (with_reducible assumption) | omega) (by first | (with_reducible assumption) | omega))); (try k_lt l1); (try k_sweep))
  k_with "setItem ref ref ref" => (k_here; k_dflt (refine' my_setslice ?kqF ?kqN ?kql ?kqU ?kqi ?kqw ?kqx ?kqy ?kqz ?kqzz ?_; (case kqF => k_asm); (case kqN => k_asm); (case kql => k_mem); (case kqU => k_updF); (case kqi => k_asm); (case kqw => k_asm); (case kqx => first | (with_reducible assumption) | omega | ((try simp only [AllLt] at *); omega)); (case kqy => first | (with_reducible assumption) | omega | ((try simp only [AllLt] at *); omega)); (case kqz => first | (with_reducible assumption) | omega | ((try simp only [AllLt] at *); omega)); (case kqzz => first | (with_reducible assumption) | omega | ((try simp only [AllLt] at *); omega)); k_whole); intro vs' n2' h' ns' F' N' hI' hZ' hL'; (try dsimp only at N'); (try k_sweep))
  k_with "call builtin:len" => (k_here; (with_reducible show wpAny _ _ (call (Value.builtin "len") [Value.ref _]) _ _ _); k_dflt (refine' my_len ?kqN ?kql ?kqi ?kqz ?_; (case kqN => k_asm); (case kql => k_mem); (case kqi => k_asm); (case kqz => first | (with_reducible assumption) | omega | ((try simp only [AllLt] at *); omega)); k_whole))
  k_with "pyIter ref" => (k_here; k_dflt (first | (refine' iter_empty ?kqh ?kqF ?kqN ?kqm ?_; (case kqh => exact rfl); (case kqF => k_asm); (case kqN => k_asm); (case kqm => k_mem)) | (refine' iter_empty2 ?kqh ?kqF ?kqN ?kqm ?kqi ?kqz ?_; (case kqh => exact rfl); (case kqF => k_asm); (case kqN => k_asm); (case kqm => k_mem); (case kqi => k_asm); (case kqz => k_asm))); intro h' tk' F' N'; (try dsimp only); (try k_sweep))
  k_with "exec Raise some none" => (k_here; k_dflt (refine' xs_Raise ?kqhh ?_; (case kqhh => rfl); k_whole))
  k_with "call ref" => (k_here; (with_reducible show wpAny _ _ (call (Value.ref 38) _) _ _ _); k_dflt (refine' around_le (call38_spec ?kqC ?kqN ?_) ?kqd ?kqu; (case kqC => ktr_unf); (case kqN => k_asm);  (case kqd => exact Nat.le_of_ble_eq_true rfl); (case kqu => exact Nat.le_of_ble_eq_true rfl)); intro e' t' d' es' h' tk' F' N' hne' hde' hsy'; (try dsimp only); (try k_sweep); (try k_fold))
  trivial
def go_ok_H (b : Addr) (db : Addr) (g : Addr) (mk : Addr) (ls : Addr) (K : BKeys) (pt : Int) (zv : Int) (tk : Int) (ck : Int) (sk : Int) (p1 : Tok) (z1 : Tok) (t1 : Tok) (c1 : Tok) (s1 : Tok) (ro : Bool) (t : Addr) (place : Int) (tp : Tok) (tw : Tok) (nt : Nat) (nss : List (Addr × (Str → Option Value))) (news : List (Addr × Obj)) (rest : List (Addr × Obj)) (prog : Program) (w : World) (p : Program) (loose : List Str) (mean : ExcName → Option Value) (mg : Str → Option Value) (mb : Str → Option Value) (cn : Str) (cs : Scope) (a : Addr) (ccd : Value) (cl : List (Str × Addr)) (outer : List Env) (A₀ : Around) (base : Heap) (h₀ : Heap) (L : Addr) (m : Str → Option Value) (s : Shared) (Q : Value → Shared → Prop) (E : Value → Shared → Prop) (zR : Prop) : Prop := ∀ (C : Cx w p loose mean mg mb A₀ base outer h₀ L s.heap m cs) (N : News h₀ L s.heap news) (hns : ∀ q ∈ nss, h₀.Ns q.1 q.2) (P : Picks [(b, instObj 622 db), (db, bufD K g mk ls pt p1 zv z1 ro tk t1 ck c1 sk s1), (t, ({ cls := .type "tuple", data := .seq #[.int place tp, .str (Str.ofString "") tw] nt } : Obj))] news rest) (e1 : @LT.lt Nat _ db b) (e2 : @LT.lt Nat _ db t) (r3 : ∀ q ∈ rest, q.1 ≠ db) (hp1 : 1 ≤ place) (hp2 : place ≤ zv) (ret : ∀ p1' h' tk', Fr h₀ L h' m → News h₀ L h' ([(b, instObj 622 db), (db, bufD K g mk ls place p1' zv z1 ro tk t1 ck c1 sk s1), (t, ({ cls := .type "tuple", data := .seq #[.int place tp, .str (Str.ofString "") tw] nt } : Obj))] ++ rest) → Q .none { s with heap := h', toks := tk' }), zR
set_option maxRecDepth 100000 in
set_option maxHeartbeats 8000000 in
noncomputable def go_ok_k (b : Addr) (db : Addr) (g : Addr) (mk : Addr) (ls : Addr) (K : BKeys) (pt : Int) (zv : Int) (tk : Int) (ck : Int) (sk : Int) (p1 : Tok) (z1 : Tok) (t1 : Tok) (c1 : Tok) (s1 : Tok) (ro : Bool) (t : Addr) (place : Int) (tp : Tok) (tw : Tok) (nt : Nat) (nss : List (Addr × (Str → Option Value))) (news : List (Addr × Obj)) (rest : List (Addr × Obj)) (prog : Program) (w : World) (p : Program) (loose : List Str) (mean : ExcName → Option Value) (mg : Str → Option Value) (mb : Str → Option Value) (cn : Str) (cs : Scope) (a : Addr) (ccd : Value) (cl : List (Str × Addr)) (outer : List Env) (A₀ : Around) (base : Heap) (h₀ : Heap) (L : Addr) (m : Str → Option Value) (s : Shared) (Q : Value → Shared → Prop) (E : Value → Shared → Prop) : PSigma (fun zP : Heap → Addr → Heap → Prop => (∀ zq1 zq2 zq3, go_ok_H b db g mk ls K pt zv tk ck sk p1 z1 t1 c1 s1 ro t place tp tw nt nss news rest prog w p loose mean mg mb cn cs a ccd cl outer A₀ base h₀ L m s Q E (zP zq1 zq2 zq3)) → go_ok_H b db g mk ls K pt zv tk ck sk p1 z1 t1 c1 s1 ro t place tp tw nt nss news rest prog w p loose mean mg mb cn cs a ccd cl outer A₀ base h₀ L m s Q E (wpAny (model prog w) (ktrTop 870 8700 none cn cs L a ccd cl outer) (call (.ref 303) [.ref b, .ref t]) Q E s)) := by
  refine ⟨?zG, fun zH C N hns P e1 e2 r3 hp1 hp2 ret => ?zh⟩
  case zh =>
    have zc := fun zq1 zq2 zq3 => zH zq1 zq2 zq3 C N hns P e1 e2 r3 hp1 hp2 ret
    clear zH
    obtain ⟨B, F, X, T, hk⟩ := C
    replace N := news_picks N P
    simp only [List.cons_append, List.nil_append] at N
    refine wpAny_call ?_
    k_dflt cell_enter
    rename_i g9 L9 h9 FG9 F9 N9 B9 X9 T9
    revert FG9 F9 N9 B9 X9 T9
    exact zc g9 L9 h9
abbrev go_ok_P : Type := ((((((Heap × Addr) × (Heap × Addr)) × ((Addr × Addr) × Addr)) × (((Addr × BKeys) × Int) × ((Int × Int) × Int))) × ((((Int × Tok) × Tok) × ((Tok × Tok) × Tok)) × (((Bool × Addr) × Int) × ((Tok × Tok) × Nat)))) × ((((((List (Addr × (Str → Option Value))) × (List (Addr × Obj))) × (List (Addr × Obj))) × ((Program × World) × Program)) × ((((List Str) × (ExcName → Option Value)) × (Str → Option Value)) × (((Str → Option Value) × Str) × Scope))) × ((((Addr × Value) × (List (Str × Addr))) × (((List Env) × Around) × Heap)) × (((Heap × Addr) × (Str → Option Value)) × ((Shared × (Value → Shared → Prop)) × (Value → Shared → Prop))))))
abbrev go_ok_F (x : go_ok_P) : Prop := go_ok_H (x.1.1.1.1.2.2) (x.1.1.1.2.1.1) (x.1.1.1.2.1.2) (x.1.1.1.2.2) (x.1.1.2.1.1.1) (x.1.1.2.1.1.2) (x.1.1.2.1.2) (x.1.1.2.2.1.1) (x.1.1.2.2.1.2) (x.1.1.2.2.2) (x.1.2.1.1.1.1) (x.1.2.1.1.1.2) (x.1.2.1.1.2) (x.1.2.1.2.1.1) (x.1.2.1.2.1.2) (x.1.2.1.2.2) (x.1.2.2.1.1.1) (x.1.2.2.1.1.2) (x.1.2.2.1.2) (x.1.2.2.2.1.1) (x.1.2.2.2.1.2) (x.1.2.2.2.2) (x.2.1.1.1.1.1) (x.2.1.1.1.1.2) (x.2.1.1.1.2) (x.2.1.1.2.1.1) (x.2.1.1.2.1.2) (x.2.1.1.2.2) (x.2.1.2.1.1.1) (x.2.1.2.1.1.2) (x.2.1.2.1.2) (x.2.1.2.2.1.1) (x.2.1.2.2.1.2) (x.2.1.2.2.2) (x.2.2.1.1.1.1) (x.2.2.1.1.1.2) (x.2.2.1.1.2) (x.2.2.1.2.1.1) (x.2.2.1.2.1.2) (x.2.2.1.2.2) (x.2.2.2.1.1.1) (x.2.2.2.1.1.2) (x.2.2.2.1.2) (x.2.2.2.2.1.1) (x.2.2.2.2.1.2) (x.2.2.2.2.2)  ((go_ok_k (x.1.1.1.1.2.2) (x.1.1.1.2.1.1) (x.1.1.1.2.1.2) (x.1.1.1.2.2) (x.1.1.2.1.1.1) (x.1.1.2.1.1.2) (x.1.1.2.1.2) (x.1.1.2.2.1.1) (x.1.1.2.2.1.2) (x.1.1.2.2.2) (x.1.2.1.1.1.1) (x.1.2.1.1.1.2) (x.1.2.1.1.2) (x.1.2.1.2.1.1) (x.1.2.1.2.1.2) (x.1.2.1.2.2) (x.1.2.2.1.1.1) (x.1.2.2.1.1.2) (x.1.2.2.1.2) (x.1.2.2.2.1.1) (x.1.2.2.2.1.2) (x.1.2.2.2.2) (x.2.1.1.1.1.1) (x.2.1.1.1.1.2) (x.2.1.1.1.2) (x.2.1.1.2.1.1) (x.2.1.1.2.1.2) (x.2.1.1.2.2) (x.2.1.2.1.1.1) (x.2.1.2.1.1.2) (x.2.1.2.1.2) (x.2.1.2.2.1.1) (x.2.1.2.2.1.2) (x.2.1.2.2.2) (x.2.2.1.1.1.1) (x.2.2.1.1.1.2) (x.2.2.1.1.2) (x.2.2.1.2.1.1) (x.2.2.1.2.1.2) (x.2.2.1.2.2) (x.2.2.2.1.1.1) (x.2.2.2.1.1.2) (x.2.2.2.1.2) (x.2.2.2.2.1.1) (x.2.2.2.2.1.2) (x.2.2.2.2.2) ).1 (x.1.1.1.1.1.1) (x.1.1.1.1.1.2) (x.1.1.1.1.2.1))
theorem go_ok_ex : ∃ x : go_ok_P, go_ok_F x → ∀ y : go_ok_P, go_ok_F y := drinker ⟨((((((default, (0 : Nat)), (default, (0 : Nat))), (((0 : Nat), (0 : Nat)), (0 : Nat))), ((((0 : Nat), bkeys0), 0), ((0, 0), 0))), ((((0, (0 : Nat)), (0 : Nat)), (((0 : Nat), (0 : Nat)), (0 : Nat))), (((false, (0 : Nat)), 0), (((0 : Nat), (0 : Nat)), 0)))), ((((([], []), []), ((default, world0), default)), ((([], fun _ => none), fun _ => none), ((fun _ => none, default), default))), (((((0 : Nat), .none), []), (([], {}), default)), (((default, (0 : Nat)), fun _ => none), (({}, fun _ _ => True), fun _ _ => True)))))⟩
noncomputable def go_ok_x : go_ok_P := go_ok_ex.choose
namespace go_ok_n
noncomputable def g9 : Heap := go_ok_x.1.1.1.1.1.1
noncomputable def L9 : Addr := go_ok_x.1.1.1.1.1.2
noncomputable def h9 : Heap := go_ok_x.1.1.1.1.2.1
noncomputable def b : Addr := go_ok_x.1.1.1.1.2.2
noncomputable def db : Addr := go_ok_x.1.1.1.2.1.1
noncomputable def g : Addr := go_ok_x.1.1.1.2.1.2
noncomputable def mk : Addr := go_ok_x.1.1.1.2.2
noncomputable def ls : Addr := go_ok_x.1.1.2.1.1.1
noncomputable def K : BKeys := go_ok_x.1.1.2.1.1.2
noncomputable def pt : Int := go_ok_x.1.1.2.1.2
noncomputable def zv : Int := go_ok_x.1.1.2.2.1.1
noncomputable def tk : Int := go_ok_x.1.1.2.2.1.2
noncomputable def ck : Int := go_ok_x.1.1.2.2.2
noncomputable def sk : Int := go_ok_x.1.2.1.1.1.1
noncomputable def p1 : Tok := go_ok_x.1.2.1.1.1.2
noncomputable def z1 : Tok := go_ok_x.1.2.1.1.2
noncomputable def t1 : Tok := go_ok_x.1.2.1.2.1.1
noncomputable def c1 : Tok := go_ok_x.1.2.1.2.1.2
noncomputable def s1 : Tok := go_ok_x.1.2.1.2.2
noncomputable def ro : Bool := go_ok_x.1.2.2.1.1.1
noncomputable def t : Addr := go_ok_x.1.2.2.1.1.2
noncomputable def place : Int := go_ok_x.1.2.2.1.2
noncomputable def tp : Tok := go_ok_x.1.2.2.2.1.1
noncomputable def tw : Tok := go_ok_x.1.2.2.2.1.2
noncomputable def nt : Nat := go_ok_x.1.2.2.2.2
noncomputable def nss : List (Addr × (Str → Option Value)) := go_ok_x.2.1.1.1.1.1
noncomputable def news : List (Addr × Obj) := go_ok_x.2.1.1.1.1.2
noncomputable def rest : List (Addr × Obj) := go_ok_x.2.1.1.1.2
noncomputable def prog : Program := go_ok_x.2.1.1.2.1.1
noncomputable def w : World := go_ok_x.2.1.1.2.1.2
noncomputable def p : Program := go_ok_x.2.1.1.2.2
noncomputable def loose : List Str := go_ok_x.2.1.2.1.1.1
noncomputable def mean : ExcName → Option Value := go_ok_x.2.1.2.1.1.2
noncomputable def mg : Str → Option Value := go_ok_x.2.1.2.1.2
noncomputable def mb : Str → Option Value := go_ok_x.2.1.2.2.1.1
noncomputable def cn : Str := go_ok_x.2.1.2.2.1.2
noncomputable def cs : Scope := go_ok_x.2.1.2.2.2
noncomputable def a : Addr := go_ok_x.2.2.1.1.1.1
noncomputable def ccd : Value := go_ok_x.2.2.1.1.1.2
noncomputable def cl : List (Str × Addr) := go_ok_x.2.2.1.1.2
noncomputable def outer : List Env := go_ok_x.2.2.1.2.1.1
noncomputable def A₀ : Around := go_ok_x.2.2.1.2.1.2
noncomputable def base : Heap := go_ok_x.2.2.1.2.2
noncomputable def h₀ : Heap := go_ok_x.2.2.2.1.1.1
noncomputable def L : Addr := go_ok_x.2.2.2.1.1.2
noncomputable def m : Str → Option Value := go_ok_x.2.2.2.1.2
noncomputable def s : Shared := go_ok_x.2.2.2.2.1.1
noncomputable def Q : Value → Shared → Prop := go_ok_x.2.2.2.2.1.2
noncomputable def E : Value → Shared → Prop := go_ok_x.2.2.2.2.2
set_option maxRecDepth 100000 in
set_option maxHeartbeats 8000000 in
theorem main  : go_ok_H b db g mk ls K pt zv tk ck sk p1 z1 t1 c1 s1 ro t place tp tw nt nss news rest prog w p loose mean mg mb cn cs a ccd cl outer A₀ base h₀ L m s Q E ((go_ok_k b db g mk ls K pt zv tk ck sk p1 z1 t1 c1 s1 ro t place tp tw nt nss news rest prog w p loose mean mg mb cn cs a ccd cl outer A₀ base h₀ L m s Q E).1 g9 L9 h9) := by
  intro C N hns P e1 e2 r3 hp1 hp2 ret
  obtain ⟨B, F, X, T, hk⟩ := C
  replace N := news_picks N P
  simp only [List.cons_append, List.nil_append] at N
  delta go_ok_k
  dsimp only
  intro _ _ _ _ _ _
  k_steps
  have q : (if zv < (if 1 > place then (1 : Int) else place) then zv else (if 1 > place then (1 : Int) else place)) = place := by
    rw [if_neg (show ¬ (1 > place) by k_extra "ord"), if_neg (show ¬ (zv < place) by k_extra "ord")]
  rename News _ _ _ _ => N9
  rw [q] at N9
  exact ret _ _ _ (by k_asm) (news_back N9 (by ktr_rel) (by tb_rel))
end go_ok_n
theorem go_ok {prog : Program} {w : World} {p : Program} {loose : List Str} {mean : ExcName → Option Value} {mg : Str → Option Value} {mb : Str → Option Value} {cn : Str} {cs : Scope} {a : Addr} {ccd : Value} {cl : List (Str × Addr)} {outer : List Env} {A₀ : Around} {base : Heap} {h₀ : Heap} {L : Addr} {m : Str → Option Value} {s : Shared} {Q : Value → Shared → Prop} {E : Value → Shared → Prop} {b : Addr} {db : Addr} {g : Addr} {mk : Addr} {ls : Addr} {K : BKeys} {pt : Int} {zv : Int} {tk : Int} {ck : Int} {sk : Int} {p1 : Tok} {z1 : Tok} {t1 : Tok} {c1 : Tok} {s1 : Tok} {ro : Bool} {t : Addr} {place : Int} {tp : Tok} {tw : Tok} {nt : Nat} {nss : List (Addr × (Str → Option Value))} {news : List (Addr × Obj)} {rest : List (Addr × Obj)} : go_ok_H b db g mk ls K pt zv tk ck sk p1 z1 t1 c1 s1 ro t place tp tw nt nss news rest prog w p loose mean mg mb cn cs a ccd cl outer A₀ base h₀ L m s Q E (wpAny (model prog w) (ktrTop 870 8700 none cn cs L a ccd cl outer) (call (.ref 303) [.ref b, .ref t]) Q E s) := (go_ok_k b db g mk ls K pt zv tk ck sk p1 z1 t1 c1 s1 ro t place tp tw nt nss news rest prog w p loose mean mg mb cn cs a ccd cl outer A₀ base h₀ L m s Q E).2 (fun g9 L9 h9 => go_ok_ex.choose_spec (go_ok_n.main ) ((((((g9, L9), (h9, b)), ((db, g), mk)), (((ls, K), pt), ((zv, tk), ck))), ((((sk, p1), z1), ((t1, c1), s1)), (((ro, t), place), ((tp, tw), nt)))), (((((nss, news), rest), ((prog, w), p)), (((loose, mean), mg), ((mb, cn), cs))), ((((a, ccd), cl), ((outer, A₀), base)), (((h₀, L), m), ((s, Q), E))))) )
def go_raise1_H (b : Addr) (db : Addr) (g : Addr) (mk : Addr) (ls : Addr) (K : BKeys) (pt : Int) (zv : Int) (tk : Int) (ck : Int) (sk : Int) (p1 : Tok) (z1 : Tok) (t1 : Tok) (c1 : Tok) (s1 : Tok) (ro : Bool) (t : Addr) (place : Int) (tp : Tok) (tw : Tok) (nt : Nat) (nss : List (Addr × (Str → Option Value))) (news : List (Addr × Obj)) (rest : List (Addr × Obj)) (prog : Program) (w : World) (p : Program) (loose : List Str) (mean : ExcName → Option Value) (mg : Str → Option Value) (mb : Str → Option Value) (cn : Str) (cs : Scope) (a : Addr) (ccd : Value) (cl : List (Str × Addr)) (outer : List Env) (A₀ : Around) (base : Heap) (h₀ : Heap) (L : Addr) (m : Str → Option Value) (s : Shared) (Q : Value → Shared → Prop) (E : Value → Shared → Prop) (zR : Prop) : Prop := ∀ (C : Cx w p loose mean mg mb A₀ base outer h₀ L s.heap m cs) (N : News h₀ L s.heap news) (hns : ∀ q ∈ nss, h₀.Ns q.1 q.2) (P : Picks [(b, instObj 622 db), (db, bufD K g mk ls pt p1 zv z1 ro tk t1 ck c1 sk s1), (t, ({ cls := .type "tuple", data := .seq #[.int place tp, .str (Str.ofString "end-of-buffer") tw] nt } : Obj))] news rest) (e1 : @LT.lt Nat _ db b) (e2 : @LT.lt Nat _ db t) (r3 : ∀ q ∈ rest, q.1 ≠ db) (hp1 : 1 ≤ place) (hp2 : place ≤ zv) (ret : ∀ p1' e h' tk', Fly base (envX cn cs L a ccd cl :: outer) e (Str.ofString "end-of-buffer") ((L, m) :: nss) ([(b, instObj 622 db), (db, bufD K g mk ls place p1' zv z1 ro tk t1 ck c1 sk s1), (t, ({ cls := .type "tuple", data := .seq #[.int place tp, .str (Str.ofString "end-of-buffer") tw] nt } : Obj))] ++ rest) h' → E (.ref e) { s with heap := h', toks := tk' }), zR
set_option maxRecDepth 100000 in
set_option maxHeartbeats 8000000 in
noncomputable def go_raise1_k (b : Addr) (db : Addr) (g : Addr) (mk : Addr) (ls : Addr) (K : BKeys) (pt : Int) (zv : Int) (tk : Int) (ck : Int) (sk : Int) (p1 : Tok) (z1 : Tok) (t1 : Tok) (c1 : Tok) (s1 : Tok) (ro : Bool) (t : Addr) (place : Int) (tp : Tok) (tw : Tok) (nt : Nat) (nss : List (Addr × (Str → Option Value))) (news : List (Addr × Obj)) (rest : List (Addr × Obj)) (prog : Program) (w : World) (p : Program) (loose : List Str) (mean : ExcName → Option Value) (mg : Str → Option Value) (mb : Str → Option Value) (cn : Str) (cs : Scope) (a : Addr) (ccd : Value) (cl : List (Str × Addr)) (outer : List Env) (A₀ : Around) (base : Heap) (h₀ : Heap) (L : Addr) (m : Str → Option Value) (s : Shared) (Q : Value → Shared → Prop) (E : Value → Shared → Prop) : PSigma (fun zP : Heap → Addr → Heap → Prop => (∀ zq1 zq2 zq3, go_raise1_H b db g mk ls K pt zv tk ck sk p1 z1 t1 c1 s1 ro t place tp tw nt nss news rest prog w p loose mean mg mb cn cs a ccd cl outer A₀ base h₀ L m s Q E (zP zq1 zq2 zq3)) → go_raise1_H b db g mk ls K pt zv tk ck sk p1 z1 t1 c1 s1 ro t place tp tw nt nss news rest prog w p loose mean mg mb cn cs a ccd cl outer A₀ base h₀ L m s Q E (wpAny (model prog w) (ktrTop 870 8700 none cn cs L a ccd cl outer) (call (.ref 303) [.ref b, .ref t]) Q E s)) := by
  refine ⟨?zG, fun zH C N hns P e1 e2 r3 hp1 hp2 ret => ?zh⟩
  case zh =>
    have zc := fun zq1 zq2 zq3 => zH zq1 zq2 zq3 C N hns P e1 e2 r3 hp1 hp2 ret
    clear zH
    obtain ⟨B, F, X, T, hk⟩ := C
    replace N := news_picks N P
    simp only [List.cons_append, List.nil_append] at N
    refine wpAny_call ?_
    k_dflt cell_enter
    rename_i g9 L9 h9 FG9 F9 N9 B9 X9 T9
    revert FG9 F9 N9 B9 X9 T9
    exact zc g9 L9 h9
abbrev go_raise1_P : Type := ((((((Heap × Addr) × (Heap × Addr)) × ((Addr × Addr) × Addr)) × (((Addr × BKeys) × Int) × ((Int × Int) × Int))) × ((((Int × Tok) × Tok) × ((Tok × Tok) × Tok)) × (((Bool × Addr) × Int) × ((Tok × Tok) × Nat)))) × ((((((List (Addr × (Str → Option Value))) × (List (Addr × Obj))) × (List (Addr × Obj))) × ((Program × World) × Program)) × ((((List Str) × (ExcName → Option Value)) × (Str → Option Value)) × (((Str → Option Value) × Str) × Scope))) × ((((Addr × Value) × (List (Str × Addr))) × (((List Env) × Around) × Heap)) × (((Heap × Addr) × (Str → Option Value)) × ((Shared × (Value → Shared → Prop)) × (Value → Shared → Prop))))))
abbrev go_raise1_F (x : go_raise1_P) : Prop := go_raise1_H (x.1.1.1.1.2.2) (x.1.1.1.2.1.1) (x.1.1.1.2.1.2) (x.1.1.1.2.2) (x.1.1.2.1.1.1) (x.1.1.2.1.1.2) (x.1.1.2.1.2) (x.1.1.2.2.1.1) (x.1.1.2.2.1.2) (x.1.1.2.2.2) (x.1.2.1.1.1.1) (x.1.2.1.1.1.2) (x.1.2.1.1.2) (x.1.2.1.2.1.1) (x.1.2.1.2.1.2) (x.1.2.1.2.2) (x.1.2.2.1.1.1) (x.1.2.2.1.1.2) (x.1.2.2.1.2) (x.1.2.2.2.1.1) (x.1.2.2.2.1.2) (x.1.2.2.2.2) (x.2.1.1.1.1.1) (x.2.1.1.1.1.2) (x.2.1.1.1.2) (x.2.1.1.2.1.1) (x.2.1.1.2.1.2) (x.2.1.1.2.2) (x.2.1.2.1.1.1) (x.2.1.2.1.1.2) (x.2.1.2.1.2) (x.2.1.2.2.1.1) (x.2.1.2.2.1.2) (x.2.1.2.2.2) (x.2.2.1.1.1.1) (x.2.2.1.1.1.2) (x.2.2.1.1.2) (x.2.2.1.2.1.1) (x.2.2.1.2.1.2) (x.2.2.1.2.2) (x.2.2.2.1.1.1) (x.2.2.2.1.1.2) (x.2.2.2.1.2) (x.2.2.2.2.1.1) (x.2.2.2.2.1.2) (x.2.2.2.2.2)  ((go_raise1_k (x.1.1.1.1.2.2) (x.1.1.1.2.1.1) (x.1.1.1.2.1.2) (x.1.1.1.2.2) (x.1.1.2.1.1.1) (x.1.1.2.1.1.2) (x.1.1.2.1.2) (x.1.1.2.2.1.1) (x.1.1.2.2.1.2) (x.1.1.2.2.2) (x.1.2.1.1.1.1) (x.1.2.1.1.1.2) (x.1.2.1.1.2) (x.1.2.1.2.1.1) (x.1.2.1.2.1.2) (x.1.2.1.2.2) (x.1.2.2.1.1.1) (x.1.2.2.1.1.2) (x.1.2.2.1.2) (x.1.2.2.2.1.1) (x.1.2.2.2.1.2) (x.1.2.2.2.2) (x.2.1.1.1.1.1) (x.2.1.1.1.1.2) (x.2.1.1.1.2) (x.2.1.1.2.1.1) (x.2.1.1.2.1.2) (x.2.1.1.2.2) (x.2.1.2.1.1.1) (x.2.1.2.1.1.2) (x.2.1.2.1.2) (x.2.1.2.2.1.1) (x.2.1.2.2.1.2) (x.2.1.2.2.2) (x.2.2.1.1.1.1) (x.2.2.1.1.1.2) (x.2.2.1.1.2) (x.2.2.1.2.1.1) (x.2.2.1.2.1.2) (x.2.2.1.2.2) (x.2.2.2.1.1.1) (x.2.2.2.1.1.2) (x.2.2.2.1.2) (x.2.2.2.2.1.1) (x.2.2.2.2.1.2) (x.2.2.2.2.2) ).1 (x.1.1.1.1.1.1) (x.1.1.1.1.1.2) (x.1.1.1.1.2.1))
theorem go_raise1_ex : ∃ x : go_raise1_P, go_raise1_F x → ∀ y : go_raise1_P, go_raise1_F y := drinker ⟨((((((default, (0 : Nat)), (default, (0 : Nat))), (((0 : Nat), (0 : Nat)), (0 : Nat))), ((((0 : Nat), bkeys0), 0), ((0, 0), 0))), ((((0, (0 : Nat)), (0 : Nat)), (((0 : Nat), (0 : Nat)), (0 : Nat))), (((false, (0 : Nat)), 0), (((0 : Nat), (0 : Nat)), 0)))), ((((([], []), []), ((default, world0), default)), ((([], fun _ => none), fun _ => none), ((fun _ => none, default), default))), (((((0 : Nat), .none), []), (([], {}), default)), (((default, (0 : Nat)), fun _ => none), (({}, fun _ _ => True), fun _ _ => True)))))⟩
noncomputable def go_raise1_x : go_raise1_P := go_raise1_ex.choose
namespace go_raise1_n
noncomputable def g9 : Heap := go_raise1_x.1.1.1.1.1.1
noncomputable def L9 : Addr := go_raise1_x.1.1.1.1.1.2
noncomputable def h9 : Heap := go_raise1_x.1.1.1.1.2.1
noncomputable def b : Addr := go_raise1_x.1.1.1.1.2.2
noncomputable def db : Addr := go_raise1_x.1.1.1.2.1.1
noncomputable def g : Addr := go_raise1_x.1.1.1.2.1.2
noncomputable def mk : Addr := go_raise1_x.1.1.1.2.2
noncomputable def ls : Addr := go_raise1_x.1.1.2.1.1.1
noncomputable def K : BKeys := go_raise1_x.1.1.2.1.1.2
noncomputable def pt : Int := go_raise1_x.1.1.2.1.2
noncomputable def zv : Int := go_raise1_x.1.1.2.2.1.1
noncomputable def tk : Int := go_raise1_x.1.1.2.2.1.2
noncomputable def ck : Int := go_raise1_x.1.1.2.2.2
noncomputable def sk : Int := go_raise1_x.1.2.1.1.1.1
noncomputable def p1 : Tok := go_raise1_x.1.2.1.1.1.2
noncomputable def z1 : Tok := go_raise1_x.1.2.1.1.2
noncomputable def t1 : Tok := go_raise1_x.1.2.1.2.1.1
noncomputable def c1 : Tok := go_raise1_x.1.2.1.2.1.2
noncomputable def s1 : Tok := go_raise1_x.1.2.1.2.2
noncomputable def ro : Bool := go_raise1_x.1.2.2.1.1.1
noncomputable def t : Addr := go_raise1_x.1.2.2.1.1.2
noncomputable def place : Int := go_raise1_x.1.2.2.1.2
noncomputable def tp : Tok := go_raise1_x.1.2.2.2.1.1
noncomputable def tw : Tok := go_raise1_x.1.2.2.2.1.2
noncomputable def nt : Nat := go_raise1_x.1.2.2.2.2
noncomputable def nss : List (Addr × (Str → Option Value)) := go_raise1_x.2.1.1.1.1.1
noncomputable def news : List (Addr × Obj) := go_raise1_x.2.1.1.1.1.2
noncomputable def rest : List (Addr × Obj) := go_raise1_x.2.1.1.1.2
noncomputable def prog : Program := go_raise1_x.2.1.1.2.1.1
noncomputable def w : World := go_raise1_x.2.1.1.2.1.2
noncomputable def p : Program := go_raise1_x.2.1.1.2.2
noncomputable def loose : List Str := go_raise1_x.2.1.2.1.1.1
noncomputable def mean : ExcName → Option Value := go_raise1_x.2.1.2.1.1.2
noncomputable def mg : Str → Option Value := go_raise1_x.2.1.2.1.2
noncomputable def mb : Str → Option Value := go_raise1_x.2.1.2.2.1.1
noncomputable def cn : Str := go_raise1_x.2.1.2.2.1.2
noncomputable def cs : Scope := go_raise1_x.2.1.2.2.2
noncomputable def a : Addr := go_raise1_x.2.2.1.1.1.1
noncomputable def ccd : Value := go_raise1_x.2.2.1.1.1.2
noncomputable def cl : List (Str × Addr) := go_raise1_x.2.2.1.1.2
noncomputable def outer : List Env := go_raise1_x.2.2.1.2.1.1
noncomputable def A₀ : Around := go_raise1_x.2.2.1.2.1.2
noncomputable def base : Heap := go_raise1_x.2.2.1.2.2
noncomputable def h₀ : Heap := go_raise1_x.2.2.2.1.1.1
noncomputable def L : Addr := go_raise1_x.2.2.2.1.1.2
noncomputable def m : Str → Option Value := go_raise1_x.2.2.2.1.2
noncomputable def s : Shared := go_raise1_x.2.2.2.2.1.1
noncomputable def Q : Value → Shared → Prop := go_raise1_x.2.2.2.2.1.2
noncomputable def E : Value → Shared → Prop := go_raise1_x.2.2.2.2.2
set_option maxRecDepth 100000 in
set_option maxHeartbeats 8000000 in
theorem main  : go_raise1_H b db g mk ls K pt zv tk ck sk p1 z1 t1 c1 s1 ro t place tp tw nt nss news rest prog w p loose mean mg mb cn cs a ccd cl outer A₀ base h₀ L m s Q E ((go_raise1_k b db g mk ls K pt zv tk ck sk p1 z1 t1 c1 s1 ro t place tp tw nt nss news rest prog w p loose mean mg mb cn cs a ccd cl outer A₀ base h₀ L m s Q E).1 g9 L9 h9) := by
  intro C N hns P e1 e2 r3 hp1 hp2 ret
  obtain ⟨B, F, X, T, hk⟩ := C
  replace N := news_picks N P
  simp only [List.cons_append, List.nil_append] at N
  delta go_raise1_k
  dsimp only
  intro _ _ _ _ _ _
  k_steps
  have q : (if zv < (if 1 > place then (1 : Int) else place) then zv else (if 1 > place then (1 : Int) else place)) = place := by
    rw [if_neg (show ¬ (1 > place) by k_extra "ord"), if_neg (show ¬ (zv < place) by k_extra "ord")]
  rename News _ _ _ _ => N9
  rw [q] at N9
  rename _ = some (some (Value.str _ _)) => hsy
  rename ∀ p ∈ _, Prod.fst p ≠ _ => hne
  rw [q] at hne
  exact raise_end (Frag.In.keeps (by k_asm) (Fr.keep (by k_asm))) (by k_asm) (by k_asm) N9 hne (by k_asm) hsy (fun q hq => .tail _ hq) (nss_up (by assumption) hns) rfl fun h' x => ret _ _ _ _ x
end go_raise1_n
theorem go_raise1 {prog : Program} {w : World} {p : Program} {loose : List Str} {mean : ExcName → Option Value} {mg : Str → Option Value} {mb : Str → Option Value} {cn : Str} {cs : Scope} {a : Addr} {ccd : Value} {cl : List (Str × Addr)} {outer : List Env} {A₀ : Around} {base : Heap} {h₀ : Heap} {L : Addr} {m : Str → Option Value} {s : Shared} {Q : Value → Shared → Prop} {E : Value → Shared → Prop} {b : Addr} {db : Addr} {g : Addr} {mk : Addr} {ls : Addr} {K : BKeys} {pt : Int} {zv : Int} {tk : Int} {ck : Int} {sk : Int} {p1 : Tok} {z1 : Tok} {t1 : Tok} {c1 : Tok} {s1 : Tok} {ro : Bool} {t : Addr} {place : Int} {tp : Tok} {tw : Tok} {nt : Nat} {nss : List (Addr × (Str → Option Value))} {news : List (Addr × Obj)} {rest : List (Addr × Obj)} : go_raise1_H b db g mk ls K pt zv tk ck sk p1 z1 t1 c1 s1 ro t place tp tw nt nss news rest prog w p loose mean mg mb cn cs a ccd cl outer A₀ base h₀ L m s Q E (wpAny (model prog w) (ktrTop 870 8700 none cn cs L a ccd cl outer) (call (.ref 303) [.ref b, .ref t]) Q E s) := (go_raise1_k b db g mk ls K pt zv tk ck sk p1 z1 t1 c1 s1 ro t place tp tw nt nss news rest prog w p loose mean mg mb cn cs a ccd cl outer A₀ base h₀ L m s Q E).2 (fun g9 L9 h9 => go_raise1_ex.choose_spec (go_raise1_n.main ) ((((((g9, L9), (h9, b)), ((db, g), mk)), (((ls, K), pt), ((zv, tk), ck))), ((((sk, p1), z1), ((t1, c1), s1)), (((ro, t), place), ((tp, tw), nt)))), (((((nss, news), rest), ((prog, w), p)), (((loose, mean), mg), ((mb, cn), cs))), ((((a, ccd), cl), ((outer, A₀), base)), (((h₀, L), m), ((s, Q), E))))) )
def go_raise2_H (b : Addr) (db : Addr) (g : Addr) (mk : Addr) (ls : Addr) (K : BKeys) (pt : Int) (zv : Int) (tk : Int) (ck : Int) (sk : Int) (p1 : Tok) (z1 : Tok) (t1 : Tok) (c1 : Tok) (s1 : Tok) (ro : Bool) (t : Addr) (place : Int) (tp : Tok) (tw : Tok) (nt : Nat) (nss : List (Addr × (Str → Option Value))) (news : List (Addr × Obj)) (rest : List (Addr × Obj)) (prog : Program) (w : World) (p : Program) (loose : List Str) (mean : ExcName → Option Value) (mg : Str → Option Value) (mb : Str → Option Value) (cn : Str) (cs : Scope) (a : Addr) (ccd : Value) (cl : List (Str × Addr)) (outer : List Env) (A₀ : Around) (base : Heap) (h₀ : Heap) (L : Addr) (m : Str → Option Value) (s : Shared) (Q : Value → Shared → Prop) (E : Value → Shared → Prop) (zR : Prop) : Prop := ∀ (C : Cx w p loose mean mg mb A₀ base outer h₀ L s.heap m cs) (N : News h₀ L s.heap news) (hns : ∀ q ∈ nss, h₀.Ns q.1 q.2) (P : Picks [(b, instObj 622 db), (db, bufD K g mk ls pt p1 zv z1 ro tk t1 ck c1 sk s1), (t, ({ cls := .type "tuple", data := .seq #[.int place tp, .str (Str.ofString "beginning-of-buffer") tw] nt } : Obj))] news rest) (e1 : @LT.lt Nat _ db b) (e2 : @LT.lt Nat _ db t) (r3 : ∀ q ∈ rest, q.1 ≠ db) (hp1 : 1 ≤ place) (hp2 : place ≤ zv) (ret : ∀ p1' e h' tk', Fly base (envX cn cs L a ccd cl :: outer) e (Str.ofString "beginning-of-buffer") ((L, m) :: nss) ([(b, instObj 622 db), (db, bufD K g mk ls place p1' zv z1 ro tk t1 ck c1 sk s1), (t, ({ cls := .type "tuple", data := .seq #[.int place tp, .str (Str.ofString "beginning-of-buffer") tw] nt } : Obj))] ++ rest) h' → E (.ref e) { s with heap := h', toks := tk' }), zR
set_option maxRecDepth 100000 in
set_option maxHeartbeats 8000000 in
noncomputable def go_raise2_k (b : Addr) (db : Addr) (g : Addr) (mk : Addr) (ls : Addr) (K : BKeys) (pt : Int) (zv : Int) (tk : Int) (ck : Int) (sk : Int) (p1 : Tok) (z1 : Tok) (t1 : Tok) (c1 : Tok) (s1 : Tok) (ro : Bool) (t : Addr) (place : Int) (tp : Tok) (tw : Tok) (nt : Nat) (nss : List (Addr × (Str → Option Value))) (news : List (Addr × Obj)) (rest : List (Addr × Obj)) (prog : Program) (w : World) (p : Program) (loose : List Str) (mean : ExcName → Option Value) (mg : Str → Option Value) (mb : Str → Option Value) (cn : Str) (cs : Scope) (a : Addr) (ccd : Value) (cl : List (Str × Addr)) (outer : List Env) (A₀ : Around) (base : Heap) (h₀ : Heap) (L : Addr) (m : Str → Option Value) (s : Shared) (Q : Value → Shared → Prop) (E : Value → Shared → Prop) : PSigma (fun zP : Heap → Addr → Heap → Prop => (∀ zq1 zq2 zq3, go_raise2_H b db g mk ls K pt zv tk ck sk p1 z1 t1 c1 s1 ro t place tp tw nt nss news rest prog w p loose mean mg mb cn cs a ccd cl outer A₀ base h₀ L m s Q E (zP zq1 zq2 zq3)) → go_raise2_H b db g mk ls K pt zv tk ck sk p1 z1 t1 c1 s1 ro t place tp tw nt nss news rest prog w p loose mean mg mb cn cs a ccd cl outer A₀ base h₀ L m s Q E (wpAny (model prog w) (ktrTop 870 8700 none cn cs L a ccd cl outer) (call (.ref 303) [.ref b, .ref t]) Q E s)) := by
  refine ⟨?zG, fun zH C N hns P e1 e2 r3 hp1 hp2 ret => ?zh⟩
  case zh =>
    have zc := fun zq1 zq2 zq3 => zH zq1 zq2 zq3 C N hns P e1 e2 r3 hp1 hp2 ret
    clear zH
    obtain ⟨B, F, X, T, hk⟩ := C
    replace N := news_picks N P
    simp only [List.cons_append, List.nil_append] at N
    refine wpAny_call ?_
    k_dflt cell_enter
    rename_i g9 L9 h9 FG9 F9 N9 B9 X9 T9
    revert FG9 F9 N9 B9 X9 T9
    exact zc g9 L9 h9
abbrev go_raise2_P : Type := ((((((Heap × Addr) × (Heap × Addr)) × ((Addr × Addr) × Addr)) × (((Addr × BKeys) × Int) × ((Int × Int) × Int))) × ((((Int × Tok) × Tok) × ((Tok × Tok) × Tok)) × (((Bool × Addr) × Int) × ((Tok × Tok) × Nat)))) × ((((((List (Addr × (Str → Option Value))) × (List (Addr × Obj))) × (List (Addr × Obj))) × ((Program × World) × Program)) × ((((List Str) × (ExcName → Option Value)) × (Str → Option Value)) × (((Str → Option Value) × Str) × Scope))) × ((((Addr × Value) × (List (Str × Addr))) × (((List Env) × Around) × Heap)) × (((Heap × Addr) × (Str → Option Value)) × ((Shared × (Value → Shared → Prop)) × (Value → Shared → Prop))))))
abbrev go_raise2_F (x : go_raise2_P) : Prop := go_raise2_H (x.1.1.1.1.2.2) (x.1.1.1.2.1.1) (x.1.1.1.2.1.2) (x.1.1.1.2.2) (x.1.1.2.1.1.1) (x.1.1.2.1.1.2) (x.1.1.2.1.2) (x.1.1.2.2.1.1) (x.1.1.2.2.1.2) (x.1.1.2.2.2) (x.1.2.1.1.1.1) (x.1.2.1.1.1.2) (x.1.2.1.1.2) (x.1.2.1.2.1.1) (x.1.2.1.2.1.2) (x.1.2.1.2.2) (x.1.2.2.1.1.1) (x.1.2.2.1.1.2) (x.1.2.2.1.2) (x.1.2.2.2.1.1) (x.1.2.2.2.1.2) (x.1.2.2.2.2) (x.2.1.1.1.1.1) (x.2.1.1.1.1.2) (x.2.1.1.1.2) (x.2.1.1.2.1.1) (x.2.1.1.2.1.2) (x.2.1.1.2.2) (x.2.1.2.1.1.1) (x.2.1.2.1.1.2) (x.2.1.2.1.2) (x.2.1.2.2.1.1) (x.2.1.2.2.1.2) (x.2.1.2.2.2) (x.2.2.1.1.1.1) (x.2.2.1.1.1.2) (x.2.2.1.1.2) (x.2.2.1.2.1.1) (x.2.2.1.2.1.2) (x.2.2.1.2.2) (x.2.2.2.1.1.1) (x.2.2.2.1.1.2) (x.2.2.2.1.2) (x.2.2.2.2.1.1) (x.2.2.2.2.1.2) (x.2.2.2.2.2)  ((go_raise2_k (x.1.1.1.1.2.2) (x.1.1.1.2.1.1) (x.1.1.1.2.1.2) (x.1.1.1.2.2) (x.1.1.2.1.1.1) (x.1.1.2.1.1.2) (x.1.1.2.1.2) (x.1.1.2.2.1.1) (x.1.1.2.2.1.2) (x.1.1.2.2.2) (x.1.2.1.1.1.1) (x.1.2.1.1.1.2) (x.1.2.1.1.2) (x.1.2.1.2.1.1) (x.1.2.1.2.1.2) (x.1.2.1.2.2) (x.1.2.2.1.1.1) (x.1.2.2.1.1.2) (x.1.2.2.1.2) (x.1.2.2.2.1.1) (x.1.2.2.2.1.2) (x.1.2.2.2.2) (x.2.1.1.1.1.1) (x.2.1.1.1.1.2) (x.2.1.1.1.2) (x.2.1.1.2.1.1) (x.2.1.1.2.1.2) (x.2.1.1.2.2) (x.2.1.2.1.1.1) (x.2.1.2.1.1.2) (x.2.1.2.1.2) (x.2.1.2.2.1.1) (x.2.1.2.2.1.2) (x.2.1.2.2.2) (x.2.2.1.1.1.1) (x.2.2.1.1.1.2) (x.2.2.1.1.2) (x.2.2.1.2.1.1) (x.2.2.1.2.1.2) (x.2.2.1.2.2) (x.2.2.2.1.1.1) (x.2.2.2.1.1.2) (x.2.2.2.1.2) (x.2.2.2.2.1.1) (x.2.2.2.2.1.2) (x.2.2.2.2.2) ).1 (x.1.1.1.1.1.1) (x.1.1.1.1.1.2) (x.1.1.1.1.2.1))
theorem go_raise2_ex : ∃ x : go_raise2_P, go_raise2_F x → ∀ y : go_raise2_P, go_raise2_F y := drinker ⟨((((((default, (0 : Nat)), (default, (0 : Nat))), (((0 : Nat), (0 : Nat)), (0 : Nat))), ((((0 : Nat), bkeys0), 0), ((0, 0), 0))), ((((0, (0 : Nat)), (0 : Nat)), (((0 : Nat), (0 : Nat)), (0 : Nat))), (((false, (0 : Nat)), 0), (((0 : Nat), (0 : Nat)), 0)))), ((((([], []), []), ((default, world0), default)), ((([], fun _ => none), fun _ => none), ((fun _ => none, default), default))), (((((0 : Nat), .none), []), (([], {}), default)), (((default, (0 : Nat)), fun _ => none), (({}, fun _ _ => True), fun _ _ => True)))))⟩
noncomputable def go_raise2_x : go_raise2_P := go_raise2_ex.choose
namespace go_raise2_n
noncomputable def g9 : Heap := go_raise2_x.1.1.1.1.1.1
noncomputable def L9 : Addr := go_raise2_x.1.1.1.1.1.2
noncomputable def h9 : Heap := go_raise2_x.1.1.1.1.2.1
noncomputable def b : Addr := go_raise2_x.1.1.1.1.2.2
noncomputable def db : Addr := go_raise2_x.1.1.1.2.1.1
noncomputable def g : Addr := go_raise2_x.1.1.1.2.1.2
noncomputable def mk : Addr := go_raise2_x.1.1.1.2.2
noncomputable def ls : Addr := go_raise2_x.1.1.2.1.1.1
noncomputable def K : BKeys := go_raise2_x.1.1.2.1.1.2
noncomputable def pt : Int := go_raise2_x.1.1.2.1.2
noncomputable def zv : Int := go_raise2_x.1.1.2.2.1.1
noncomputable def tk : Int := go_raise2_x.1.1.2.2.1.2
noncomputable def ck : Int := go_raise2_x.1.1.2.2.2
noncomputable def sk : Int := go_raise2_x.1.2.1.1.1.1
noncomputable def p1 : Tok := go_raise2_x.1.2.1.1.1.2
noncomputable def z1 : Tok := go_raise2_x.1.2.1.1.2
noncomputable def t1 : Tok := go_raise2_x.1.2.1.2.1.1
noncomputable def c1 : Tok := go_raise2_x.1.2.1.2.1.2
noncomputable def s1 : Tok := go_raise2_x.1.2.1.2.2
noncomputable def ro : Bool := go_raise2_x.1.2.2.1.1.1
noncomputable def t : Addr := go_raise2_x.1.2.2.1.1.2
noncomputable def place : Int := go_raise2_x.1.2.2.1.2
noncomputable def tp : Tok := go_raise2_x.1.2.2.2.1.1
noncomputable def tw : Tok := go_raise2_x.1.2.2.2.1.2
noncomputable def nt : Nat := go_raise2_x.1.2.2.2.2
noncomputable def nss : List (Addr × (Str → Option Value)) := go_raise2_x.2.1.1.1.1.1
noncomputable def news : List (Addr × Obj) := go_raise2_x.2.1.1.1.1.2
noncomputable def rest : List (Addr × Obj) := go_raise2_x.2.1.1.1.2
noncomputable def prog : Program := go_raise2_x.2.1.1.2.1.1
noncomputable def w : World := go_raise2_x.2.1.1.2.1.2
noncomputable def p : Program := go_raise2_x.2.1.1.2.2
noncomputable def loose : List Str := go_raise2_x.2.1.2.1.1.1
noncomputable def mean : ExcName → Option Value := go_raise2_x.2.1.2.1.1.2
noncomputable def mg : Str → Option Value := go_raise2_x.2.1.2.1.2
noncomputable def mb : Str → Option Value := go_raise2_x.2.1.2.2.1.1
noncomputable def cn : Str := go_raise2_x.2.1.2.2.1.2
noncomputable def cs : Scope := go_raise2_x.2.1.2.2.2
noncomputable def a : Addr := go_raise2_x.2.2.1.1.1.1
noncomputable def ccd : Value := go_raise2_x.2.2.1.1.1.2
noncomputable def cl : List (Str × Addr) := go_raise2_x.2.2.1.1.2
noncomputable def outer : List Env := go_raise2_x.2.2.1.2.1.1
noncomputable def A₀ : Around := go_raise2_x.2.2.1.2.1.2
noncomputable def base : Heap := go_raise2_x.2.2.1.2.2
noncomputable def h₀ : Heap := go_raise2_x.2.2.2.1.1.1
noncomputable def L : Addr := go_raise2_x.2.2.2.1.1.2
noncomputable def m : Str → Option Value := go_raise2_x.2.2.2.1.2
noncomputable def s : Shared := go_raise2_x.2.2.2.2.1.1
noncomputable def Q : Value → Shared → Prop := go_raise2_x.2.2.2.2.1.2
noncomputable def E : Value → Shared → Prop := go_raise2_x.2.2.2.2.2
set_option maxRecDepth 100000 in
set_option maxHeartbeats 8000000 in
theorem main  : go_raise2_H b db g mk ls K pt zv tk ck sk p1 z1 t1 c1 s1 ro t place tp tw nt nss news rest prog w p loose mean mg mb cn cs a ccd cl outer A₀ base h₀ L m s Q E ((go_raise2_k b db g mk ls K pt zv tk ck sk p1 z1 t1 c1 s1 ro t place tp tw nt nss news rest prog w p loose mean mg mb cn cs a ccd cl outer A₀ base h₀ L m s Q E).1 g9 L9 h9) := by
  intro C N hns P e1 e2 r3 hp1 hp2 ret
  obtain ⟨B, F, X, T, hk⟩ := C
  replace N := news_picks N P
  simp only [List.cons_append, List.nil_append] at N
  delta go_raise2_k
  dsimp only
  intro _ _ _ _ _ _
  k_steps
  have q : (if zv < (if 1 > place then (1 : Int) else place) then zv else (if 1 > place then (1 : Int) else place)) = place := by
    rw [if_neg (show ¬ (1 > place) by k_extra "ord"), if_neg (show ¬ (zv < place) by k_extra "ord")]
  rename News _ _ _ _ => N9
  rw [q] at N9
  rename _ = some (some (Value.str _ _)) => hsy
  rename ∀ p ∈ _, Prod.fst p ≠ _ => hne
  rw [q] at hne
  exact raise_end (Frag.In.keeps (by k_asm) (Fr.keep (by k_asm))) (by k_asm) (by k_asm) N9 hne (by k_asm) hsy (fun q hq => .tail _ hq) (nss_up (by assumption) hns) rfl fun h' x => ret _ _ _ _ x
end go_raise2_n
theorem go_raise2 {prog : Program} {w : World} {p : Program} {loose : List Str} {mean : ExcName → Option Value} {mg : Str → Option Value} {mb : Str → Option Value} {cn : Str} {cs : Scope} {a : Addr} {ccd : Value} {cl : List (Str × Addr)} {outer : List Env} {A₀ : Around} {base : Heap} {h₀ : Heap} {L : Addr} {m : Str → Option Value} {s : Shared} {Q : Value → Shared → Prop} {E : Value → Shared → Prop} {b : Addr} {db : Addr} {g : Addr} {mk : Addr} {ls : Addr} {K : BKeys} {pt : Int} {zv : Int} {tk : Int} {ck : Int} {sk : Int} {p1 : Tok} {z1 : Tok} {t1 : Tok} {c1 : Tok} {s1 : Tok} {ro : Bool} {t : Addr} {place : Int} {tp : Tok} {tw : Tok} {nt : Nat} {nss : List (Addr × (Str → Option Value))} {news : List (Addr × Obj)} {rest : List (Addr × Obj)} : go_raise2_H b db g mk ls K pt zv tk ck sk p1 z1 t1 c1 s1 ro t place tp tw nt nss news rest prog w p loose mean mg mb cn cs a ccd cl outer A₀ base h₀ L m s Q E (wpAny (model prog w) (ktrTop 870 8700 none cn cs L a ccd cl outer) (call (.ref 303) [.ref b, .ref t]) Q E s) := (go_raise2_k b db g mk ls K pt zv tk ck sk p1 z1 t1 c1 s1 ro t place tp tw nt nss news rest prog w p loose mean mg mb cn cs a ccd cl outer A₀ base h₀ L m s Q E).2 (fun g9 L9 h9 => go_raise2_ex.choose_spec (go_raise2_n.main ) ((((((g9, L9), (h9, b)), ((db, g), mk)), (((ls, K), pt), ((zv, tk), ck))), ((((sk, p1), z1), ((t1, c1), s1)), (((ro, t), place), ((tp, tw), nt)))), (((((nss, news), rest), ((prog, w), p)), (((loose, mean), mg), ((mb, cn), cs))), ((((a, ccd), cl), ((outer, A₀), base)), (((h₀, L), m), ((s, Q), E))))) )
variable {prog : Program} {w : World} {p : Program} {loose : List Str} {mean : ExcName → Option Value} {mg mb : Str → Option Value} {cn : Str} {cs : Scope} {a : Addr} {ccd : Value} {cl : List (Str × Addr)} {outer : List Env} {A₀ : Around} {base h₀ : Heap} {L : Addr} {m : Str → Option Value} {s : Shared} {Q E : Value → Shared → Prop} in
set_option maxRecDepth 100000 in
set_option maxHeartbeats 8000000 in
theorem kill_raise {t : Addr} {place : Int} {tp tw : Tok} {nt : Nat} {nss : List (Addr × (Str → Option Value))} {news rest : List (Addr × Obj)}
 (C : Cx w p loose mean mg mb A₀ base outer h₀ L s.heap m cs) (N : News h₀ L s.heap news) (hns : ∀ q ∈ nss, h₀.Ns q.1 q.2) (P : Picks [(t, ({ cls := .type "tuple", data := .seq #[.int place tp, .str (Str.ofString "end-of-buffer") tw] nt } : Obj))] news rest)
 (ret : ∀ e h' tk', Fly base (envX cn cs L a ccd cl :: outer) e (Str.ofString "end-of-buffer") ((L, m) :: nss) news h' → E (.ref e) { s with heap := h', toks := tk' }) :
 wpAny (model prog w) (ktrTop 870 8700 none cn cs L a ccd cl outer) (call (.ref 317) [.none, .ref t]) Q E s := by
  obtain ⟨B, F, X, T, hk⟩ := C
  replace N := news_picks N P
  simp only [List.cons_append, List.nil_append] at N
  refine wpAny_call ?_
  k_dflt cell_enter
  k_steps
  rename _ = some (some (Value.str _ _)) => hsy
  exact raise_end (Frag.In.keeps (by k_asm) (Fr.keep (by k_asm))) (by k_asm) (by k_asm) (by k_asm) (by k_asm) (by k_asm) hsy (fun q hq => .tail _ (P.mem' q hq)) (nss_up (by assumption) hns) rfl fun h' x => ret _ _ _ x
end
section
theorem lines_X12_1 : True := by
  k_with_none
  k_with "execs cons" => (k_here; (with_reducible show wpAny _ _ _ _ _ (Shared.mk _ _ _ (HAdd.hAdd _ _) _)); (with_reducible refine st_gen (P := fun s9 => wpAny _ _ _ _ _ s9) _ ?_); intro _)
  k_with "execs cons" => (k_here; (with_reducible show wpAny _ _ (execs (Stmt.Assign [PySem.Expr.Attribute _ (PySem.Str.ofString "point") _] _ _ :: _) _) _ _ _); (fail_if_success (have kq9 := Nre9)); (with_reducible rename News _ _ _ (_ :: (_, instObj 481 _) :: _) => N8); obtain ⟨tl9, htl9, u9, Nre9⟩ := news_hide N8 (by k_all); clear N8; dsimp only at u9)
  k_with "k_all" => with_reducible assumption
  k_with "ne_mem" => with_reducible first | exact List.mem_cons_self | (refine List.mem_cons_of_mem _ ?_; k_extra "ne_mem") | (refine List.mem_append_right _ ?_; k_extra "ne_mem")
  k_with "ne_bef" => with_reducible first | (refine Bef.head ?_; k_extra "ne_mem") | (refine Bef.tail ?_; k_extra "ne_bef")
  k_with "lt_ap" => (with_reducible rename Apart _ => kqA; first | (with_reducible exact Apart.bef kqA (by k_extra "ne_bef")) | (clear kqA; k_extra "lt_ap"))
  k_with "lt_go" => first | (with_reducible assumption) | (with_reducible exact AllLt.get (by assumption) (by k_extra "ne_mem")) | k_extra "lt_ap" | ((with_reducible refine Nat.lt_trans ?kq1 ?kq2); (case kq2 => with_reducible assumption); (case kq1 => k_extra "lt_go")) | ((with_reducible refine Nat.lt_trans ?kq1 ?kq2); (case kq1 => with_reducible assumption); (case kq2 => k_extra "lt_ap"))
  k_with "ne_lt" => with_reducible first | exact Nat.ne_of_lt (AllLt.get (by assumption) (by k_extra "ne_mem")) | exact Nat.ne_of_gt (AllLt.get (by assumption) (by k_extra "ne_mem"))
  k_with "ne_ap" => (with_reducible rename Apart _ => kqA; first | (with_reducible exact Nat.ne_of_lt (Apart.bef kqA (by k_extra "ne_bef"))) | (with_reducible exact Nat.ne_of_gt (Apart.bef kqA (by k_extra "ne_bef"))) | (clear kqA; k_extra "ne_ap"))
  k_with "k_ne" => (refine neN ?_; (try dsimp only); first | (with_reducible assumption) | (with_reducible exact Ne.symm (by assumption)) | (with_reducible exact Nat.ne_of_lt (by assumption)) | (with_reducible exact Nat.ne_of_gt (by assumption)) | k_extra "ne_lt" | k_extra "ne_ap" | omega | ((try simp only [AllLt] at *); omega))
  k_with "ne_all" => first | (with_reducible assumption) | (refine And.intro ?_ ?_ <;> k_extra "ne_all") | k_ne
  k_with "mem_hq" => first | exact hq | exact List.mem_append_left _ hq | (refine List.mem_cons_of_mem _ ?_; k_extra "mem_hq")
  k_with "perm" => first | (refine List.forall_mem_cons.mpr (And.intro ?kqa ?kqb); (case kqa => k_extra "ne_mem"); (case kqb => k_extra "perm")) | exact List.forall_mem_nil _ | (intro q hq; k_extra "mem_hq")
  k_with "ord" => first | (with_reducible assumption) | ((with_reducible show @LT.lt Nat _ _ _); k_extra "lt_go") | k_ne | omega | ((try simp only [AllLt] at *); omega)
  k_with "tb_start" => first | exact Pick.head | (apply Pick.tail; tb_start)
  k_with "tb_rel" => first | exact Suff.refl | (refine' Suff.tail ?_; tb_rel)
  k_with "ktr_rel" => first | exact Picks.nil | (refine' Picks.cons ?kqp ?kqq; (case kqp => tb_start); (case kqq => ktr_rel))
  k_with "ktr_unf" => exact ⟨by k_asm, by k_asm, by k_asm, by k_asm, by first | exact rfl | assumption⟩
  k_with "subscriptTail Attribute Name Slice" => (k_here; k_dflt (refine kba_turn (value' := PySem.Expr.Name (PySem.Str.ofString "_") ⟨0, 0, 0, 0⟩) (fun _ => rfl) ?_))
  k_with "subscriptTail Name Slice ref ref" => (k_here; (with_reducible show wpAny _ _ (subscriptTail _ (PySem.Expr.Slice (some _) (some _) none _) (Value.ref _) (Value.ref _)) _ _ _); k_dflt (refine' my_slice ?kqF ?kqN ?kql ?kqi ?kqx ?kqy ?kqz ?_ ?kqs ?kqt; (case kqF => k_asm); (case kqN => k_asm); (case kql => k_mem); (case kqi => k_asm); (case kqx => first | (with_reducible assumption) | omega | ((try simp only [AllLt] at *); omega)); (case kqy => first | (with_reducible assumption) | omega | ((try simp only [AllLt] at *); omega)); (case kqz => first | (with_reducible assumption) | omega | ((try simp only [AllLt] at *); omega)); (case kqs => with_unfolding_all rfl); (case kqt => kmk_pure); k_whole); intro D' ws' h' zs' F' N' l1 hI' hZ' hL'; (try (replace hL' := slice_len hL' (by first | (with_reducible assumption) | omega) (by first | (with_reducible assumption) | omega) (by first | (with_reducible assumption) | omega))); (try k_lt l1); (try k_sweep))
  k_with "setItem ref ref ref" => (k_here; k_dflt (refine' my_setslice ?kqF ?kqN ?kql ?kqU ?kqi ?kqw ?kqx ?kqy ?kqz ?kqzz ?_; (case kqF => k_asm); (case kqN => k_asm); (case kql => k_mem); (case kqU => k_updF); (case kqi => k_asm); (case kqw => k_asm); (case kqx => first | (with_reducible assumption) | omega | ((try simp only [AllLt] at *); omega)); (case kqy => first | (with_reducible assumption) | omega | ((try simp only [AllLt] at *); omega)); (case kqz => first | (with_reducible assumption) | omega | ((try simp only [AllLt] at *); omega)); (case kqzz => first | (with_reducible assumption) | omega | ((try simp only [AllLt] at *); omega)); k_whole); intro vs' n2' h' ns' F' N' hI' hZ' hL'; (try dsimp only at N'); (try k_sweep))
  k_with "call builtin:len" => (k_here; (with_reducible show wpAny _ _ (call (Value.builtin "len") [Value.ref _]) _ _ _); k_dflt (refine' my_len ?kqN ?kql ?kqi ?kqz ?_; (case kqN => k_asm); (case kql => k_mem); (case kqi => k_asm); (case kqz => first | (with_reducible assumption) | omega | ((try simp only [AllLt] at *); omega)); k_whole))
  k_with "pyIter ref" => (k_here; k_dflt (first | (refine' iter_empty ?kqh ?kqF ?kqN ?kqm ?_; (case kqh => exact rfl); (case kqF => k_asm); (case kqN => k_asm); (case kqm => k_mem)) | (refine' iter_empty2 ?kqh ?kqF ?kqN ?kqm ?kqi ?kqz ?_; (case kqh => exact rfl); (case kqF => k_asm); (case kqN => k_asm); (case kqm => k_mem); (case kqi => k_asm); (case kqz => k_asm))); intro h' tk' F' N'; (try dsimp only); (try k_sweep))
  trivial
variable {prog : Program} {w : World} {p : Program} {loose : List Str} {mean : ExcName → Option Value} {mg mb : Str → Option Value} {cn : Str} {cs : Scope} {a : Addr} {ccd : Value} {cl : List (Str × Addr)} {outer : List Env} {A₀ : Around} {base h₀ : Heap} {L : Addr} {m : Str → Option Value} {s : Shared} {Q E : Value → Shared → Prop} in
theorem news_hide {hh : Heap} {x1 x2 x3 x4 x5 x6 x7 x8 x9 x10 x11 x12 : Addr × Obj} {l : List (Addr × Obj)} (N : News h₀ L hh (x1 :: x2 :: x3 :: x4 :: x5 :: x6 :: x7 :: x8 :: x9 :: x10 :: x11 :: x12 :: l)) (u : ∀ q ∈ x1 :: x2 :: x3 :: x4 :: x5 :: x6 :: x7 :: x8 :: x9 :: x10 :: l, q.1 ≠ x12.1) : ∃ tl, tl = x1 :: x2 :: x3 :: x4 :: x5 :: x6 :: x7 :: x8 :: x9 :: x10 :: l ∧ (∀ q ∈ tl, q.1 ≠ x12.1) ∧ News h₀ L hh (x11 :: x12 :: tl) := ⟨_, rfl, u, news_sel N 12 [10, 11, 0, 1, 2, 3, 4, 5, 6, 7, 8, 9]⟩
theorem buf_pack {hh : Heap} {b db g dg c mk dm rw ls : Addr} {cv : Array Value} {nc nl : Nat} {orw : Obj} {hr hh0 hh1 hh2 hh3 hh4 hh5 hh6 hh7 hh8 hh9 hh10 hh11 hh12 hh13 hh14 hh15 hh16 hh17 hh18 hh19 ga0 ga1 ga2 ga3 : Int} {kr kk0 kk1 kk2 kk3 kk4 kk5 kk6 kk7 kk8 kk9 kk10 kk11 kk12 kk13 kk14 kk15 kk16 kk17 kk18 kk19 gb0 gb1 gb2 gb3 v0 v1 v5 p1 z1 tq1 c1 s1 u1 t3 t4 : Tok} {x1 x2 x3 x4 : Addr × Obj} {news : List (Addr × Obj)}
 (NN : News h₀ L hh ((ls, listOf #[] nl) :: (b, instObj 622 db) :: (db, dictOf [⟨hh0, .str (Str.ofString "number") kk0, .int 1 v0⟩, ⟨hh1, .str (Str.ofString "name") kk1, .str (Str.ofString "a") v1⟩, ⟨hh2, .str (Str.ofString "text") kk2, .ref g⟩, ⟨hh3, .str (Str.ofString "markers") kk3, .ref mk⟩, ⟨hh4, .str (Str.ofString "point") kk4, .int 1 p1⟩, ⟨hh5, .str (Str.ofString "begv") kk5, .int 1 v5⟩, ⟨hh6, .str (Str.ofString "zv") kk6, .int 1 z1⟩, ⟨hh7, .str (Str.ofString "mark") kk7, .none⟩, ⟨hh8, .str (Str.ofString "is_live") kk8, .bool true⟩, ⟨hh9, .str (Str.ofString "is_read_only") kk9, .bool false⟩, ⟨hh10, .str (Str.ofString "ticks") kk10, .int 1 tq1⟩, ⟨hh11, .str (Str.ofString "codes_ticks") kk11, .int 1 c1⟩, ⟨hh12, .str (Str.ofString "saved_ticks") kk12, .int 1 s1⟩, ⟨hh13, .str (Str.ofString "listeners") kk13, .ref ls⟩, ⟨hh14, .str (Str.ofString "undo") kk14, .none⟩, ⟨hh15, .str (Str.ofString "props") kk15, .none⟩, ⟨hh16, .str (Str.ofString "overlays") kk16, .none⟩, ⟨hh17, .str (Str.ofString "locals") kk17, .none⟩, ⟨hh18, .str (Str.ofString "syntax") kk18, .none⟩, ⟨hh19, .str (Str.ofString "file") kk19, .none⟩] 20) :: (rw, orw) :: (mk, instObj 481 dm) :: (dm, dictOf [⟨hr, .str (Str.ofString "rows") kr, .ref rw⟩] 1) :: (c, listOf cv nc) :: x1 :: x2 :: x3 :: (g, instObj 411 dg) :: (dg, dictOf [⟨ga0, .str (Str.ofString "room") gb0, .int 8 u1⟩, ⟨ga1, .str (Str.ofString "cells") gb1, .ref c⟩, ⟨ga2, .str (Str.ofString "gap_start") gb2, .int 0 t3⟩, ⟨ga3, .str (Str.ofString "gap_end") gb3, .int 8 t4⟩] 4) :: x4 :: news)) :
 ∃ K G hm km p1 z1 tq1 c1 s1 t3 t4, GKeys.room G = 8 ∧ News h₀ L hh ([(b, instObj 622 db), (db, bufD K g mk ls 1 p1 1 z1 false 1 tq1 1 c1 1 s1), (g, instObj 411 dg), (dg, gapD G c 0 t3 8 t4), (c, listOf cv nc), (mk, instObj 481 dm), (dm, mkD hm km rw), (rw, orw), (ls, listOf #[] nl)] ++ news) :=
  ⟨⟨hh0, kk0, hh1, kk1, hh2, kk2, hh3, kk3, hh4, kk4, hh5, kk5, hh6, kk6, hh7, kk7, hh8, kk8, hh9, kk9, hh10, kk10, hh11, kk11, hh12, kk12, hh13, kk13, hh14, kk14, hh15, kk15, hh16, kk16, hh17, kk17, hh18, kk18, hh19, kk19, v0, v1, v5⟩, ⟨ga0, gb0, 8, u1, ga1, gb1, ga2, gb2, ga3, gb3⟩, hr, kr, p1, z1, tq1, c1, s1, t3, t4, rfl, news_sel NN 13 [1, 2, 10, 11, 6, 4, 5, 3, 0]⟩
def buf_spec_H (t0 : Tok) (t1 : Tok) (news : List (Addr × Obj)) (prog : Program) (w : World) (p : Program) (loose : List Str) (mean : ExcName → Option Value) (mg : Str → Option Value) (mb : Str → Option Value) (cn : Str) (cs : Scope) (a : Addr) (ccd : Value) (cl : List (Str × Addr)) (outer : List Env) (A₀ : Around) (base : Heap) (h₀ : Heap) (L : Addr) (m : Str → Option Value) (s : Shared) (Q : Value → Shared → Prop) (E : Value → Shared → Prop) (zR : Prop) : Prop := ∀ (C : Cx w p loose mean mg mb A₀ base outer h₀ L s.heap m cs) (N : News h₀ L s.heap news) (ret : ∀ b db g dg c mk dm rw ls vs n2 K G hm km orw nl p1 z1 tq1 c1 s1 t3 t4 h' tk', Apart [db, b, dg, g, c, dm, mk, rw, ls] → GKeys.room G = 8 → (rw == sysModules) = false → Obj.IsDictOf (strKind prog w) orw [] → Obj.IsDictOf (intKind prog w) orw [] → IntsAre vs [0, 0, 0, 0, 0, 0, 0, 0] → Fr h₀ L h' m →
  News h₀ L h' ([(b, instObj 622 db), (db, bufD K g mk ls 1 p1 1 z1 false 1 tq1 1 c1 1 s1), (g, instObj 411 dg), (dg, gapD G c 0 t3 8 t4), (c, listOf (List.toArray vs) n2), (mk, instObj 481 dm), (dm, mkD hm km rw), (rw, orw), (ls, listOf #[] nl)] ++ news) → (∀ q ∈ news, q.1 < db) → Q (.ref b) { s with heap := h', toks := tk' }), zR
abbrev buf_spec_P : Type := (((((Tok × Tok) × (List (Addr × Obj))) × ((Program × World) × Program)) × ((((List Str) × (ExcName → Option Value)) × (Str → Option Value)) × (((Str → Option Value) × Str) × Scope))) × ((((Addr × Value) × (List (Str × Addr))) × (((List Env) × Around) × Heap)) × (((Heap × Addr) × (Str → Option Value)) × ((Shared × (Value → Shared → Prop)) × (Value → Shared → Prop)))))
def buf_spec_S (t0 : Tok) (t1 : Tok) (news : List (Addr × Obj)) (prog : Program) (w : World) (p : Program) (loose : List Str) (mean : ExcName → Option Value) (mg : Str → Option Value) (mb : Str → Option Value) (cn : Str) (cs : Scope) (a : Addr) (ccd : Value) (cl : List (Str × Addr)) (outer : List Env) (A₀ : Around) (base : Heap) (h₀ : Heap) (L : Addr) (m : Str → Option Value) (s : Shared) (Q : Value → Shared → Prop) (E : Value → Shared → Prop) : Prop := buf_spec_H t0 t1 news prog w p loose mean mg mb cn cs a ccd cl outer A₀ base h₀ L m s Q E (wpAny (model prog w) (ktrTop 890 8900 none cn cs L a ccd cl outer) (call (.ref 622) [.int 1 t0, .str (Str.ofString "a") t1]) Q E s)
abbrev buf_spec_F (x : buf_spec_P) : Prop := buf_spec_S (x.1.1.1.1.1) (x.1.1.1.1.2) (x.1.1.1.2) (x.1.1.2.1.1) (x.1.1.2.1.2) (x.1.1.2.2) (x.1.2.1.1.1) (x.1.2.1.1.2) (x.1.2.1.2) (x.1.2.2.1.1) (x.1.2.2.1.2) (x.1.2.2.2) (x.2.1.1.1.1) (x.2.1.1.1.2) (x.2.1.1.2) (x.2.1.2.1.1) (x.2.1.2.1.2) (x.2.1.2.2) (x.2.2.1.1.1) (x.2.2.1.1.2) (x.2.2.1.2) (x.2.2.2.1.1) (x.2.2.2.1.2) (x.2.2.2.2)
theorem buf_spec_ex : ∃ x : buf_spec_P, buf_spec_F x → ∀ y : buf_spec_P, buf_spec_F y := drinker ⟨((((((0 : Nat), (0 : Nat)), []), ((default, world0), default)), ((([], fun _ => none), fun _ => none), ((fun _ => none, default), default))), (((((0 : Nat), .none), []), (([], {}), default)), (((default, (0 : Nat)), fun _ => none), (({}, fun _ _ => True), fun _ _ => True))))⟩
noncomputable def buf_spec_x : buf_spec_P := buf_spec_ex.choose
namespace buf_spec_n
noncomputable def t0 : Tok := buf_spec_x.1.1.1.1.1
noncomputable def t1 : Tok := buf_spec_x.1.1.1.1.2
noncomputable def news : List (Addr × Obj) := buf_spec_x.1.1.1.2
noncomputable def prog : Program := buf_spec_x.1.1.2.1.1
noncomputable def w : World := buf_spec_x.1.1.2.1.2
noncomputable def p : Program := buf_spec_x.1.1.2.2
noncomputable def loose : List Str := buf_spec_x.1.2.1.1.1
noncomputable def mean : ExcName → Option Value := buf_spec_x.1.2.1.1.2
noncomputable def mg : Str → Option Value := buf_spec_x.1.2.1.2
noncomputable def mb : Str → Option Value := buf_spec_x.1.2.2.1.1
noncomputable def cn : Str := buf_spec_x.1.2.2.1.2
noncomputable def cs : Scope := buf_spec_x.1.2.2.2
noncomputable def a : Addr := buf_spec_x.2.1.1.1.1
noncomputable def ccd : Value := buf_spec_x.2.1.1.1.2
noncomputable def cl : List (Str × Addr) := buf_spec_x.2.1.1.2
noncomputable def outer : List Env := buf_spec_x.2.1.2.1.1
noncomputable def A₀ : Around := buf_spec_x.2.1.2.1.2
noncomputable def base : Heap := buf_spec_x.2.1.2.2
noncomputable def h₀ : Heap := buf_spec_x.2.2.1.1.1
noncomputable def L : Addr := buf_spec_x.2.2.1.1.2
noncomputable def m : Str → Option Value := buf_spec_x.2.2.1.2
noncomputable def s : Shared := buf_spec_x.2.2.2.1.1
noncomputable def Q : Value → Shared → Prop := buf_spec_x.2.2.2.1.2
noncomputable def E : Value → Shared → Prop := buf_spec_x.2.2.2.2
set_option maxRecDepth 100000 in
set_option maxHeartbeats 8000000 in
theorem main  : buf_spec_H t0 t1 news prog w p loose mean mg mb cn cs a ccd cl outer A₀ base h₀ L m s Q E (wpAny (model prog w) (ktrTop 890 8900 none cn cs L a ccd cl outer) (call (.ref 622) [.int 1 t0, .str (Str.ofString "a") t1]) Q E s) := by
  intro C N ret
  obtain ⟨B, F, X, T, hk⟩ := C
  k_dflt (refine' call_cls ?k1 ?k2 ?k3 ?k4 ?k5 ?k6 ?_; (case k1 => k_asm); (case k2 => k_asm); (case k3 => k_asm); (case k4 => k_is); (case k5 => k_is); (case k6 => k_is); k_whole; intro x' d' h' F' N' l1 l2; (try k_lt l1); (try k_lt2 l2); (try k_sweep); (refine' code_def ?k1 ?k2 ?k3 ?k4 ?k5 ?kA ?kF ?kK ?k6 ?k7 ?k8 ?k9 ?kB ?_ ?c2 ?c3 ?c4 ?c5; (case kA => exact rfl); (case kF => exact rfl); (case kK => assumption); (case k1 => k_asm); (case k2 => k_asm); (case k3 => k_asm); (case k4 => k_asm); (case k5 => k_asm); (case k6 => k_is); (case k7 => k_is); (case k8 => first | ktr_room | k_room); (case k9 => exact binds_K (by k_in) rfl (by k_is) rfl rfl rfl); (case c5 => decide); (case kB => exact locs rfl); (case c2 => exact rfl); (case c3 => exact rfl); (case c4 => exact rfl); k_whole; intro g' L' h' FG' F' N' B' X' T'; (try dsimp only); (try k_lift B'); (try k_fold)))
  k_steps
  subst htl9
  obtain ⟨K, G, hm, km, p1, z1, tq1, c1, s1, t3, t4, hroom, N9⟩ := buf_pack (by k_asm)
  rename IntsAre (List.replicate _ _).flatten _ => hrep
  exact ret _ _ _ _ _ _ _ _ _ [_, _, _, _, _, _, _, _] 0 K G hm km _ 0 p1 z1 tq1 c1 s1 t3 t4 _ _ (by simp only [Apart, and_true]; (try simp only [AllLt] at *); omega) hroom (by assumption) (by assumption) (by assumption) (by repeat constructor) (by k_asm) N9 (by assumption)
end buf_spec_n
theorem buf_spec {prog : Program} {w : World} {p : Program} {loose : List Str} {mean : ExcName → Option Value} {mg : Str → Option Value} {mb : Str → Option Value} {cn : Str} {cs : Scope} {a : Addr} {ccd : Value} {cl : List (Str × Addr)} {outer : List Env} {A₀ : Around} {base : Heap} {h₀ : Heap} {L : Addr} {m : Str → Option Value} {s : Shared} {Q : Value → Shared → Prop} {E : Value → Shared → Prop} {t0 : Tok} {t1 : Tok} {news : List (Addr × Obj)} : buf_spec_H t0 t1 news prog w p loose mean mg mb cn cs a ccd cl outer A₀ base h₀ L m s Q E (wpAny (model prog w) (ktrTop 890 8900 none cn cs L a ccd cl outer) (call (.ref 622) [.int 1 t0, .str (Str.ofString "a") t1]) Q E s) := buf_spec_ex.choose_spec (buf_spec_n.main ) (((((t0, t1), news), ((prog, w), p)), (((loose, mean), mg), ((mb, cn), cs))), ((((a, ccd), cl), ((outer, A₀), base)), (((h₀, L), m), ((s, Q), E))))
end
section
theorem lines_X13_1 : True := by
  k_with_none
  k_with "k_all" => with_reducible assumption
  k_with "ne_mem" => with_reducible first | exact List.mem_cons_self | (refine List.mem_cons_of_mem _ ?_; k_extra "ne_mem") | (refine List.mem_append_right _ ?_; k_extra "ne_mem")
  k_with "ne_bef" => with_reducible first | (refine Bef.head ?_; k_extra "ne_mem") | (refine Bef.tail ?_; k_extra "ne_bef")
  k_with "lt_ap" => (with_reducible rename Apart _ => kqA; first | (with_reducible exact Apart.bef kqA (by k_extra "ne_bef")) | (clear kqA; k_extra "lt_ap"))
  k_with "lt_go" => first | (with_reducible assumption) | (with_reducible exact AllLt.get (by assumption) (by k_extra "ne_mem")) | k_extra "lt_ap" | ((with_reducible refine Nat.lt_trans ?kq1 ?kq2); (case kq2 => with_reducible assumption); (case kq1 => k_extra "lt_go")) | ((with_reducible refine Nat.lt_trans ?kq1 ?kq2); (case kq1 => with_reducible assumption); (case kq2 => k_extra "lt_ap"))
  k_with "ne_lt" => with_reducible first | exact Nat.ne_of_lt (AllLt.get (by assumption) (by k_extra "ne_mem")) | exact Nat.ne_of_gt (AllLt.get (by assumption) (by k_extra "ne_mem"))
  k_with "ne_ap" => (with_reducible rename Apart _ => kqA; first | (with_reducible exact Nat.ne_of_lt (Apart.bef kqA (by k_extra "ne_bef"))) | (with_reducible exact Nat.ne_of_gt (Apart.bef kqA (by k_extra "ne_bef"))) | (clear kqA; k_extra "ne_ap"))
  k_with "k_ne" => (refine neN ?_; (try dsimp only); first | (with_reducible assumption) | (with_reducible exact Ne.symm (by assumption)) | (with_reducible exact Nat.ne_of_lt (by assumption)) | (with_reducible exact Nat.ne_of_gt (by assumption)) | k_extra "ne_lt" | k_extra "ne_ap" | omega | ((try simp only [AllLt] at *); omega))
  k_with "ne_all" => first | (with_reducible assumption) | (refine And.intro ?_ ?_ <;> k_extra "ne_all") | k_ne
  k_with "mem_hq" => first | exact hq | exact List.mem_append_left _ hq | (refine List.mem_cons_of_mem _ ?_; k_extra "mem_hq")
  k_with "perm" => first | (refine List.forall_mem_cons.mpr (And.intro ?kqa ?kqb); (case kqa => k_extra "ne_mem"); (case kqb => k_extra "perm")) | exact List.forall_mem_nil _ | (intro q hq; k_extra "mem_hq")
  k_with "ord" => first | (with_reducible assumption) | ((with_reducible show @LT.lt Nat _ _ _); k_extra "lt_go") | k_ne | omega | ((try simp only [AllLt] at *); omega)
  k_with "tb_start" => first | exact Pick.head | (apply Pick.tail; tb_start)
  k_with "tb_rel" => first | exact Suff.refl | (refine' Suff.tail ?_; tb_rel)
  k_with "ktr_rel" => first | exact Picks.nil | (refine' Picks.cons ?kqp ?kqq; (case kqp => tb_start); (case kqq => ktr_rel))
  k_with "ktr_unf" => exact ⟨by k_asm, by k_asm, by k_asm, by k_asm, by first | exact rfl | assumption⟩
  k_with "subscriptTail Attribute Name Slice" => (k_here; k_dflt (refine kba_turn (value' := PySem.Expr.Name (PySem.Str.ofString "_") ⟨0, 0, 0, 0⟩) (fun _ => rfl) ?_))
  k_with "subscriptTail Name Slice ref ref" => (k_here; (with_reducible show wpAny _ _ (subscriptTail _ (PySem.Expr.Slice (some _) (some _) none _) (Value.ref _) (Value.ref _)) _ _ _); k_dflt (refine' my_slice ?kqF ?kqN ?kql ?kqi ?kqx ?kqy ?kqz ?_ ?kqs ?kqt; (case kqF => k_asm); (case kqN => k_asm); (case kql => k_mem); (case kqi => k_asm); (case kqx => first | (with_reducible assumption) | omega | ((try simp only [AllLt] at *); omega)); (case kqy => first | (with_reducible assumption) | omega | ((try simp only [AllLt] at *); omega)); (case kqz => first | (with_reducible assumption) | omega | ((try simp only [AllLt] at *); omega)); (case kqs => with_unfolding_all rfl); (case kqt => kmk_pure); k_whole); intro D' ws' h' zs' F' N' l1 hI' hZ' hL'; (try (replace hL' := slice_len hL' (by first | (with_reducible assumption) | omega) (by first | (with_reducible assumption) | omega) (by first | (with_reducible assumption) | omega))); (try k_lt l1); (try k_sweep))
  k_with "setItem ref ref ref" => (k_here; k_dflt (refine' my_setslice ?kqF ?kqN ?kql ?kqU ?kqi ?kqw ?kqx ?kqy ?kqz ?kqzz ?_; (case kqF => k_asm); (case kqN => k_asm); (case kql => k_mem); (case kqU => k_updF); (case kqi => k_asm); (case kqw => k_asm); (case kqx => first | (with_reducible assumption) | omega | ((try simp only [AllLt] at *); omega)); (case kqy => first | (with_reducible assumption) | omega | ((try simp only [AllLt] at *); omega)); (case kqz => first | (with_reducible assumption) | omega | ((try simp only [AllLt] at *); omega)); (case kqzz => first | (with_reducible assumption) | omega | ((try simp only [AllLt] at *); omega)); k_whole); intro vs' n2' h' ns' F' N' hI' hZ' hL'; (try dsimp only at N'); (try k_sweep))
  k_with "call builtin:len" => (k_here; (with_reducible show wpAny _ _ (call (Value.builtin "len") [Value.ref _]) _ _ _); k_dflt (refine' my_len ?kqN ?kql ?kqi ?kqz ?_; (case kqN => k_asm); (case kql => k_mem); (case kqi => k_asm); (case kqz => first | (with_reducible assumption) | omega | ((try simp only [AllLt] at *); omega)); k_whole))
  k_with "pyIter ref" => (k_here; k_dflt (first | (refine' iter_empty ?kqh ?kqF ?kqN ?kqm ?_; (case kqh => exact rfl); (case kqF => k_asm); (case kqN => k_asm); (case kqm => k_mem)) | (refine' iter_empty2 ?kqh ?kqF ?kqN ?kqm ?kqi ?kqz ?_; (case kqh => exact rfl); (case kqF => k_asm); (case kqN => k_asm); (case kqm => k_mem); (case kqi => k_asm); (case kqz => k_asm))); intro h' tk' F' N'; (try dsimp only); (try k_sweep))
  k_with "call ref" => (k_here; (with_reducible show wpAny _ _ (call (Value.ref 104) _) _ _ _); k_dflt (refine' around_le (putin_spec ?kqC ?kqN ?kqP ?kqap ?kqe4 ?kqr1 ?kqr2 ?kqr3 ?kqi ?kql ?kqh0 ?kqh1 ?kqh2 ?kqhz ?kqhr ?kqlo ?kqd1 ?kqd2 ?kqw ?kqh3 ?kqh4 ?kqh5 ?_) ?kqd ?kqu; (case kqC => ktr_unf); (case kqN => k_asm); (case kqP => ktr_rel); (case kqap => k_asm); (case kqe4 => first | k_extra "ne_all" | omega); (case kqr1 => k_all); (case kqr2 => k_all); (case kqr3 => k_all); (case kqi => k_asm); (case kql => first | (with_reducible assumption) | omega | ((try simp only [AllLt] at *); omega)); (case kqh0 => first | (with_reducible assumption) | omega | ((try simp only [AllLt] at *); omega)); (case kqh1 => first | (with_reducible assumption) | omega | ((try simp only [AllLt] at *); omega)); (case kqh2 => first | (with_reducible assumption) | omega | ((try simp only [AllLt] at *); omega)); (case kqhz => first | (with_reducible assumption) | omega | ((try simp only [AllLt] at *); omega)); (case kqhr => k_asm); (case kqlo => k_asm); (case kqd1 => k_asm); (case kqd2 => k_asm); (case kqw => k_asm); (case kqh3 => first | (with_reducible assumption) | omega | ((try simp only [AllLt] at *); omega)); (case kqh4 => first | (with_reducible assumption) | omega | ((try simp only [AllLt] at *); omega)); (case kqh5 => first | (with_reducible assumption) | omega | ((try simp only [AllLt] at *); omega));  (case kqd => exact Nat.le_of_ble_eq_true rfl); (case kqu => exact Nat.le_of_ble_eq_true rfl)); intro vs' ns' n2' gs' t3' ge' t4' pt' p1' zv' z1' tk1' t1' ck1' c1' h' tk' F' N' hI' hL' hG0' hG1' hG2' hz' hzz' hk' hT'; (try simp only [List.cons_append, List.nil_append] at N'); (try dsimp only); (try k_sweep); (try k_fold))
  trivial
section
variable {prog : Program} {w : World} {p : Program} {loose : List Str} {mean : ExcName → Option Value} {mg mb : Str → Option Value}
  {cn : Str} {cs : Scope} {a : Addr} {ccd : Value} {cl : List (Str × Addr)} {outer : List Env} {A₀ : Around} {base h₀ : Heap} {L : Addr} {m : Str → Option Value} {s : Shared} {Q E : Value → Shared → Prop}
set_option maxRecDepth 100000 in
set_option maxHeartbeats 8000000 in
theorem insert_spec {b db g mk ls : Addr} {K : BKeys} {pt zv tq ck sk : Int} {p1 z1 t1 c1 s1 : Tok} {dg c : Addr} {vs : List Value} {ns : List Int} {n2 : Nat} {G : GKeys} {gs ge : Int} {t3 t4 : Tok} {dm rw : Addr} {hm : Int} {km : Tok} {orw : Obj} {nl : Nat} {l : Addr} {ws : List Value} {zs : List Int} {nl2 : Nat} {news rest : List (Addr × Obj)}
 (C : Cx w p loose mean mg mb A₀ base outer h₀ L s.heap m cs) (N : News h₀ L s.heap news) (P : Picks [(b, instObj 622 db), (db, bufD K g mk ls pt p1 zv z1 false tq t1 ck c1 sk s1), (g, instObj 411 dg), (dg, gapD G c gs t3 ge t4), (c, listOf (List.toArray vs) n2), (mk, instObj 481 dm), (dm, mkD hm km rw), (rw, orw), (ls, listOf #[] nl), (l, listOf ws.toArray nl2)] news rest) (ap : Apart [db, b, dg, g, c, dm, mk, rw, ls]) (e4 : @Ne Nat l db ∧ @Ne Nat l dg ∧ @Ne Nat l c) (r1 : ∀ q ∈ rest, q.1 ≠ c) (r2 : ∀ q ∈ rest, q.1 ≠ dg) (r3 : ∀ q ∈ rest, q.1 ≠ db)
 (hi : IntsAre vs ns) (hlen : ns.length ≤ 3000) (h0 : 0 ≤ gs) (h1 : gs ≤ ge) (h2 : ge ≤ ns.length) (hz : zv = ns.length - ge + gs + 1) (hr : G.room = 8)
 (lo : (rw == sysModules) = false) (d1 : orw.IsDictOf (strKind prog w) []) (d2 : orw.IsDictOf (intKind prog w) []) (hw : IntsAre ws zs) (h3 : 1 ≤ pt) (h4 : pt ≤ zv) (h5 : zs.length ≤ 100)
 (ret : ∀ vs' ns' n2' gs' t3' ge' t4' pt' p1' zv' z1' tk1' t1' ck1' c1' h' tk', Fr h₀ L h' m → News h₀ L h' ([(b, instObj 622 db), (db, bufD K g mk ls pt' p1' zv' z1' false tk1' t1' ck1' c1' sk s1), (g, instObj 411 dg), (dg, gapD G c gs' t3' ge' t4'), (c, listOf (List.toArray vs') n2'), (mk, instObj 481 dm), (dm, mkD hm km rw), (rw, orw), (ls, listOf #[] nl), (l, listOf ws.toArray nl2)] ++ rest) → IntsAre vs' ns' → ns'.length ≤ ns.length + zs.length + 8 → 0 ≤ gs' → gs' ≤ ge' → ge' ≤ ns'.length → zv' = ns'.length - ge' + gs' + 1 → zv' = zv + zs.length → (0 < zs.length → tk1' = tq + 1) → gtext ns' gs' ge' = (gtext ns gs ge).take (pt - 1).toNat ++ zs ++ (gtext ns gs ge).drop (pt - 1).toNat → Q .none { s with heap := h', toks := tk' }) :
 wpAny (model prog w) (ktrTop 900 9000 none cn cs L a ccd cl outer) (call (.ref 120) [.ref b, .ref l]) Q E s := by
  obtain ⟨B, F, X, T, hk⟩ := C
  have ap1 := ap
  simp only [Apart, and_true] at ap1
  replace N := news_picks N P
  simp only [List.cons_append, List.nil_append] at N
  refine wpAny_call ?_
  (refine' code_def ?k1 ?k2 ?k3 ?k4 ?k5 ?kA ?kF ?kK ?k6 ?k7 ?k8 ?k9 ?kB ?_ ?c2 ?c3 ?c4 ?c5; (case kA => exact rfl); (case kF => exact rfl); (case kK => assumption); (case k1 => k_asm); (case k2 => k_asm); (case k3 => k_asm); (case k4 => k_asm); (case k5 => k_asm); (case k6 => k_is); (case k7 => k_is); (case k8 => ktr_room); (case k9 => exact binds_K (by k_in) rfl (by k_is) rfl rfl rfl); (case c5 => decide); (case kB => exact locs rfl); (case c2 => exact rfl); (case c3 => exact rfl); (case c4 => exact rfl); k_whole; intro g' L' h' FG' F' N' B' X' T'; (try dsimp only); (try k_lift B'); (try k_fold))
  k_steps
  all_goals exact ret _ _ _ _ _ _ _ _ _ _ _ _ _ _ _ _ _ (by k_asm) (news_back (by k_asm) (by ktr_rel) (by tb_rel)) (by assumption) (by k_extra "ord") (by k_extra "ord") (by k_extra "ord") (by k_extra "ord") (by k_extra "ord") (by k_extra "ord") (by assumption) (by assumption)
end
end
section
theorem lines_X14_1 : True := by
  k_with_none
  k_with "k_all" => with_reducible assumption
  k_with "ne_mem" => with_reducible first | exact List.mem_cons_self | (refine List.mem_cons_of_mem _ ?_; k_extra "ne_mem") | (refine List.mem_append_right _ ?_; k_extra "ne_mem")
  k_with "ne_bef" => with_reducible first | (refine Bef.head ?_; k_extra "ne_mem") | (refine Bef.tail ?_; k_extra "ne_bef")
  k_with "lt_ap" => (with_reducible rename Apart _ => kqA; first | (with_reducible exact Apart.bef kqA (by k_extra "ne_bef")) | (clear kqA; k_extra "lt_ap"))
  k_with "lt_go" => first | (with_reducible assumption) | (with_reducible exact AllLt.get (by assumption) (by k_extra "ne_mem")) | k_extra "lt_ap" | ((with_reducible refine Nat.lt_trans ?kq1 ?kq2); (case kq2 => with_reducible assumption); (case kq1 => k_extra "lt_go")) | ((with_reducible refine Nat.lt_trans ?kq1 ?kq2); (case kq1 => with_reducible assumption); (case kq2 => k_extra "lt_ap"))
  k_with "ne_lt" => with_reducible first | exact Nat.ne_of_lt (AllLt.get (by assumption) (by k_extra "ne_mem")) | exact Nat.ne_of_gt (AllLt.get (by assumption) (by k_extra "ne_mem"))
  k_with "ne_ap" => (with_reducible rename Apart _ => kqA; first | (with_reducible exact Nat.ne_of_lt (Apart.bef kqA (by k_extra "ne_bef"))) | (with_reducible exact Nat.ne_of_gt (Apart.bef kqA (by k_extra "ne_bef"))) | (clear kqA; k_extra "ne_ap"))
  k_with "k_ne" => (refine neN ?_; (try dsimp only); first | (with_reducible assumption) | (with_reducible exact Ne.symm (by assumption)) | (with_reducible exact Nat.ne_of_lt (by assumption)) | (with_reducible exact Nat.ne_of_gt (by assumption)) | k_extra "ne_lt" | k_extra "ne_ap" | omega | ((try simp only [AllLt] at *); omega))
  k_with "ne_all" => first | (with_reducible assumption) | (refine And.intro ?_ ?_ <;> k_extra "ne_all") | k_ne
  k_with "mem_hq" => first | exact hq | exact List.mem_append_left _ hq | (refine List.mem_cons_of_mem _ ?_; k_extra "mem_hq")
  k_with "perm" => first | (refine List.forall_mem_cons.mpr (And.intro ?kqa ?kqb); (case kqa => k_extra "ne_mem"); (case kqb => k_extra "perm")) | exact List.forall_mem_nil _ | (intro q hq; k_extra "mem_hq")
  k_with "ord" => first | (with_reducible assumption) | ((with_reducible show @LT.lt Nat _ _ _); k_extra "lt_go") | k_ne | omega | ((try simp only [AllLt] at *); omega)
  k_with "tb_start" => first | exact Pick.head | (apply Pick.tail; tb_start)
  k_with "tb_rel" => first | exact Suff.refl | (refine' Suff.tail ?_; tb_rel)
  k_with "ktr_rel" => first | exact Picks.nil | (refine' Picks.cons ?kqp ?kqq; (case kqp => tb_start); (case kqq => ktr_rel))
  k_with "ktr_unf" => exact ⟨by k_asm, by k_asm, by k_asm, by k_asm, by first | exact rfl | assumption⟩
  k_with "subscriptTail Attribute Name Slice" => (k_here; k_dflt (refine kba_turn (value' := PySem.Expr.Name (PySem.Str.ofString "_") ⟨0, 0, 0, 0⟩) (fun _ => rfl) ?_))
  k_with "subscriptTail Name Slice ref ref" => (k_here; (with_reducible show wpAny _ _ (subscriptTail _ (PySem.Expr.Slice (some _) (some _) none _) (Value.ref _) (Value.ref _)) _ _ _); k_dflt (refine' my_slice ?kqF ?kqN ?kql ?kqi ?kqx ?kqy ?kqz ?_ ?kqs ?kqt; (case kqF => k_asm); (case kqN => k_asm); (case kql => k_mem); (case kqi => k_asm); (case kqx => first | (with_reducible assumption) | omega | ((try simp only [AllLt] at *); omega)); (case kqy => first | (with_reducible assumption) | omega | ((try simp only [AllLt] at *); omega)); (case kqz => first | (with_reducible assumption) | omega | ((try simp only [AllLt] at *); omega)); (case kqs => with_unfolding_all rfl); (case kqt => kmk_pure); k_whole); intro D' ws' h' zs' F' N' l1 hI' hZ' hL'; (try (replace hL' := slice_len hL' (by first | (with_reducible assumption) | omega) (by first | (with_reducible assumption) | omega) (by first | (with_reducible assumption) | omega))); (try k_lt l1); (try k_sweep))
  k_with "setItem ref ref ref" => (k_here; k_dflt (refine' my_setslice ?kqF ?kqN ?kql ?kqU ?kqi ?kqw ?kqx ?kqy ?kqz ?kqzz ?_; (case kqF => k_asm); (case kqN => k_asm); (case kql => k_mem); (case kqU => k_updF); (case kqi => k_asm); (case kqw => k_asm); (case kqx => first | (with_reducible assumption) | omega | ((try simp only [AllLt] at *); omega)); (case kqy => first | (with_reducible assumption) | omega | ((try simp only [AllLt] at *); omega)); (case kqz => first | (with_reducible assumption) | omega | ((try simp only [AllLt] at *); omega)); (case kqzz => first | (with_reducible assumption) | omega | ((try simp only [AllLt] at *); omega)); k_whole); intro vs' n2' h' ns' F' N' hI' hZ' hL'; (try dsimp only at N'); (try k_sweep))
  k_with "call builtin:len" => (k_here; (with_reducible show wpAny _ _ (call (Value.builtin "len") [Value.ref _]) _ _ _); k_dflt (refine' my_len ?kqN ?kql ?kqi ?kqz ?_; (case kqN => k_asm); (case kql => k_mem); (case kqi => k_asm); (case kqz => first | (with_reducible assumption) | omega | ((try simp only [AllLt] at *); omega)); k_whole))
  k_with "pyIter ref" => (k_here; k_dflt (first | (refine' iter_empty ?kqh ?kqF ?kqN ?kqm ?_; (case kqh => exact rfl); (case kqF => k_asm); (case kqN => k_asm); (case kqm => k_mem)) | (refine' iter_empty2 ?kqh ?kqF ?kqN ?kqm ?kqi ?kqz ?_; (case kqh => exact rfl); (case kqF => k_asm); (case kqN => k_asm); (case kqm => k_mem); (case kqi => k_asm); (case kqz => k_asm))); intro h' tk' F' N'; (try dsimp only); (try k_sweep))
  k_with "call ref" => (k_here; (with_reducible show wpAny _ _ (call (Value.ref 359) _) _ _ _); k_dflt (refine' around_le (codes_spec ?kqC ?kqN ?kqP ?kqi ?kql ?kqh0 ?kqh1 ?kqh2 ?kqh3 ?kqh4 ?kqh5 ?_) ?kqd ?kqu; (case kqC => ktr_unf); (case kqN => k_asm); (case kqP => ktr_rel); (case kqi => k_asm); (case kql => first | (with_reducible assumption) | omega | ((try simp only [AllLt] at *); omega)); (case kqh0 => first | (with_reducible assumption) | omega | ((try simp only [AllLt] at *); omega)); (case kqh1 => first | (with_reducible assumption) | omega | ((try simp only [AllLt] at *); omega)); (case kqh2 => first | (with_reducible assumption) | omega | ((try simp only [AllLt] at *); omega)); (case kqh3 => first | (with_reducible assumption) | omega | ((try simp only [AllLt] at *); omega)); (case kqh4 => first | (with_reducible assumption) | omega | ((try simp only [AllLt] at *); omega)); (case kqh5 => first | (with_reducible assumption) | omega | ((try simp only [AllLt] at *); omega));  (case kqd => exact Nat.le_of_ble_eq_true rfl); (case kqu => exact Nat.le_of_ble_eq_true rfl)); intro D' ws' n' h' tk' F' N' l1 hI'; (try k_lt l1); (try dsimp only); (try k_sweep); (try k_fold))
  k_with "call ref" => (k_here; (with_reducible show wpAny _ _ (call (Value.ref 345) _) _ _ _); k_dflt (refine' around_le (size_spec ?kqC ?kqN ?kqP ?kqi ?kql ?_) ?kqd ?kqu; (case kqC => ktr_unf); (case kqN => k_asm); (case kqP => ktr_rel); (case kqi => k_asm); (case kql => first | (with_reducible assumption) | omega | ((try simp only [AllLt] at *); omega));  (case kqd => exact Nat.le_of_ble_eq_true rfl); (case kqu => exact Nat.le_of_ble_eq_true rfl)); intro t' h' tk' F' N'; (try dsimp only); (try k_sweep); (try k_fold))
  trivial
section
variable {prog : Program} {w : World} {p : Program} {loose : List Str} {mean : ExcName → Option Value} {mg mb : Str → Option Value}
  {cn : Str} {cs : Scope} {a : Addr} {ccd : Value} {cl : List (Str × Addr)} {outer : List Env} {A₀ : Around} {base h₀ : Heap} {L : Addr} {m : Str → Option Value} {s : Shared} {Q E : Value → Shared → Prop}
set_option maxRecDepth 100000 in
set_option maxHeartbeats 8000000 in
theorem bcodes_spec {b db g mk ls : Addr} {K : BKeys} {pt zv tq ck sk : Int} {p1 z1 t1 c1 s1 : Tok} {dg c : Addr} {vs : List Value} {ns : List Int} {n2 : Nat} {G : GKeys} {gs ge : Int} {t3 t4 : Tok} {ro : Bool} {j : Int} {ti tj : Tok} {news rest : List (Addr × Obj)}
 (C : Cx w p loose mean mg mb A₀ base outer h₀ L s.heap m cs) (N : News h₀ L s.heap news) (P : Picks [(b, instObj 622 db), (db, bufD K g mk ls pt p1 zv z1 ro tq t1 ck c1 sk s1), (g, instObj 411 dg), (dg, gapD G c gs t3 ge t4), (c, listOf (List.toArray vs) n2)] news rest) (hi : IntsAre vs ns) (hlen : ns.length ≤ 3000) (h0 : 0 ≤ gs) (h1 : gs ≤ ge) (h2 : ge ≤ ns.length) (h3 : 1 ≤ j) (h4 : j ≤ ns.length - ge + gs + 1)
 (ret : ∀ D ws n' h' tk', IntsAre ws ((gtext ns gs ge).take (j - 1).toNat) → Fr h₀ L h' m → News h₀ L h' ((D, listOf (List.toArray ws) n') :: news) → (∀ q ∈ news, q.1 < D) → Q (.ref D) { s with heap := h', toks := tk' }) :
 wpAny (model prog w) (ktrTop 930 9300 none cn cs L a ccd cl outer) (call (.ref 584) [.ref b, .int 1 ti, .int j tj]) Q E s := by
  obtain ⟨B, F, X, T, hk⟩ := C
  replace N := news_picks N P
  simp only [List.cons_append, List.nil_append] at N
  refine wpAny_call ?_
  k_dflt cell_enter
  k_steps
  rename IntsAre _ (List.take _ (List.drop _ _)) => hz
  have hz2 : List.take ((j - 1).toNat - (1 - 1 : Int).toNat) (List.drop (1 - 1 : Int).toNat (gtext ns gs ge)) = List.take (j - 1).toNat (gtext ns gs ge) := by
    rw [show (1 - 1 : Int).toNat = 0 from rfl, Nat.sub_zero, List.drop_zero]
  rw [hz2] at hz
  exact ret _ _ _ _ _ hz (by k_asm) (news_unpick1 (by k_asm) (by ktr_rel) (by tb_rel) P) (P.lt (by simp only [List.cons_append, List.nil_append, AllLt]; simp [*]))
set_option maxRecDepth 100000 in
set_option maxHeartbeats 8000000 in
theorem bsize_spec {b db g mk ls : Addr} {K : BKeys} {pt zv tq ck sk : Int} {p1 z1 t1 c1 s1 : Tok} {dg c : Addr} {vs : List Value} {ns : List Int} {n2 : Nat} {G : GKeys} {gs ge : Int} {t3 t4 : Tok} {ro : Bool} {news rest : List (Addr × Obj)}
 (C : Cx w p loose mean mg mb A₀ base outer h₀ L s.heap m cs) (N : News h₀ L s.heap news) (P : Picks [(b, instObj 622 db), (db, bufD K g mk ls pt p1 zv z1 ro tq t1 ck c1 sk s1), (g, instObj 411 dg), (dg, gapD G c gs t3 ge t4), (c, listOf (List.toArray vs) n2)] news rest) (hi : IntsAre vs ns) (hlen : ns.length ≤ 3000) (h0 : 0 ≤ gs) (h1 : gs ≤ ge) (h2 : ge ≤ ns.length)
 (ret : ∀ t h' tk', Fr h₀ L h' m → News h₀ L h' news → Q (.int (ns.length - ge + gs) t) { s with heap := h', toks := tk' }) :
 wpAny (model prog w) (ktrTop 930 9300 none cn cs L a ccd cl outer) (call (.ref 570) [.ref b]) Q E s := by
  obtain ⟨B, F, X, T, hk⟩ := C
  replace N := news_picks N P
  simp only [List.cons_append, List.nil_append] at N
  refine wpAny_call ?_
  k_dflt cell_enter
  k_steps
  exact ret _ _ _ (by k_asm) (news_unpick (by k_asm) (by ktr_rel) (by tb_rel) P)
set_option maxRecDepth 100000 in
set_option maxHeartbeats 8000000 in
theorem ismod_spec {b db g mk ls : Addr} {K : BKeys} {pt zv tq ck sk : Int} {p1 z1 t1 c1 s1 : Tok} {ro : Bool} {news rest : List (Addr × Obj)}
 (C : Cx w p loose mean mg mb A₀ base outer h₀ L s.heap m cs) (N : News h₀ L s.heap news) (P : Picks [(b, instObj 622 db), (db, bufD K g mk ls pt p1 zv z1 ro tq t1 ck c1 sk s1)] news rest)
 (ret : ∀ h' tk', Fr h₀ L h' m → News h₀ L h' news → Q (.bool (decide (sk < tq))) { s with heap := h', toks := tk' }) :
 wpAny (model prog w) (ktrTop 940 9400 none cn cs L a ccd cl outer) (call (.ref 605) [.ref b]) Q E s := by
  obtain ⟨B, F, X, T, hk⟩ := C
  replace N := news_picks N P
  simp only [List.cons_append, List.nil_append] at N
  refine wpAny_call ?_
  k_dflt cell_enter
  k_steps
  exact ret _ _ (by k_asm) (news_unpick (by k_asm) (by ktr_rel) (by tb_rel) P)
set_option maxRecDepth 100000 in
set_option maxHeartbeats 8000000 in
theorem setmod_spec {b db g mk ls : Addr} {K : BKeys} {pt zv tq ck sk : Int} {p1 z1 t1 c1 s1 : Tok} {ro : Bool} {news rest : List (Addr × Obj)}
 (C : Cx w p loose mean mg mb A₀ base outer h₀ L s.heap m cs) (N : News h₀ L s.heap news) (P : Picks [(b, instObj 622 db), (db, bufD K g mk ls pt p1 zv z1 ro tq t1 ck c1 sk s1)] news rest) (e1 : @LT.lt Nat _ db b) (r3 : ∀ q ∈ rest, q.1 ≠ db)
 (ret : ∀ h' tk', Fr h₀ L h' m → News h₀ L h' ([(b, instObj 622 db), (db, bufD K g mk ls pt p1 zv z1 ro tq t1 ck c1 tq t1)] ++ rest) → Q .none { s with heap := h', toks := tk' }) :
 wpAny (model prog w) (ktrTop 930 9300 none cn cs L a ccd cl outer) (call (.ref 612) [.ref b, .bool false]) Q E s := by
  obtain ⟨B, F, X, T, hk⟩ := C
  replace N := news_picks N P
  simp only [List.cons_append, List.nil_append] at N
  refine wpAny_call ?_
  k_dflt cell_enter
  k_steps
  exact ret _ _ (by k_asm) (news_back (by k_asm) (by ktr_rel) (by tb_rel))
end
end
section
open PySem.Calls
set_option maxRecDepth 100000
theorem lines_X15_0 : True := by
  k_with_none
  trivial
theorem triples_snoc {a b : Nat} {v : Value} (l : List Value) (h : TriplesOk l) : TriplesOk (l ++ [rawInt a, rawInt b, v]) := by
  fun_induction TriplesOk l with
  | case1 => trivial
  | case2 _ _ _ _ _ r ih => exact ih h
  | case3 => exact h.elim
theorem codeAmong_of_snoc {a b : Nat} {c v : Value} {pos : Pos} (l : List Value) (h : TriplesOk l) (e : codeAmong pos (l ++ [rawInt a, rawInt b, c]) = some v) : codeAmong pos l = some v ∨ v = c := by
  fun_induction TriplesOk l with
  | case1 =>
    simp only [List.nil_append, rawInt, codeAmong] at e
    split at e
    · exact .inr (Option.some.inj e).symm
    · cases e
  | case2 _ _ _ _ _ r ih =>
    simp only [List.cons_append, codeAmong] at e ⊢
    split at e
    · rename_i q
      rw [if_pos q]
      exact .inl e
    · rename_i q
      rw [if_neg q]
      exact ih h e
  | case3 => exact h.elim
/-- the law's code table: the lambdas made so far -/
structure Lams (ls : Addr) (qual : Str) (kp : List (Addr × Obj)) (ps : Array Value) (cs : List (Addr × Obj)) : Prop where
  tri : TriplesOk ps.toList
  code : ∀ pos v, codeAmong pos ps.toList = some v → ∃ c' oc vs t, v = .ref c' ∧ (c', oc) ∈ cs ∧ oc.data = .fields vs ∧ vs[1]? = some (.str qual t)
  far : ∀ q ∈ cs, @LT.lt Nat _ ls q.1
  keep : ∀ q ∈ kp, q ∈ cs
  apart : ∀ pos c', codeAmong pos ps.toList = some (.ref c') → ∀ q ∈ kp, q.1 ≠ c'
theorem Lams.nil {ls : Addr} {qual : Str} : Lams ls qual [] #[] [] := ⟨trivial, (fun _ _ e => by cases e), (fun _ h => nomatch h), (fun _ h => nomatch h), fun _ _ _ _ h => nomatch h⟩
section
variable {M : Model} {A : Around} {E : Value → Shared → Prop} {s : Shared} {h₀ : Heap} {L a c P : Addr} {m mg mb : Str → Option Value} {cn : Str} {cs : Scope} {ccd : Value} {cl : List (Str × Addr)} {news : List (Addr × Obj)}
  {p : Program} {loose : List Str} {mean : ExcName → Option Value} {name qual : Str} {params : Arguments} {body : PySem.Expr} {scope : Scope} {ps : Array Value} {pos : Pos} {firstLine : Nat} {clos : List (Str × Addr)}
theorem lam_any {Q : Value → Shared → Prop} {ls : Addr} {kp : List (Addr × Obj)} {oL : Obj} {k : List (Addr × Obj)} {g : Obj → List (Addr × Obj)} (F : Fr h₀ L s.heap m) (N : News h₀ L s.heap news) (T : Top p loose mean mg mb h₀) (C : CodeHd h₀ c P) (hcd : ccd = .ref c) (U : UpdF P (tabObj ps) news g) (hm : (P, tabObj ps) ∈ news) (hg : g (tabObj ps) = news) (hL : Lams ls qual kp ps k) (hk : ∀ q ∈ k, q ∈ news) (hls : (ls, oL) ∈ news)
    (hcl : closureFor scope (envX cn cs L a ccd cl) = pure clos)
    (h : ∀ f c' oc vs t ctv ps' h' tk, Fr h₀ L h' m → News h₀ L h' ((f, kla_obj name qual params body scope clos ((mg "__name__").getD .none) c' ctv) :: (c', oc) :: g (tabObj ps')) → Lams ls qual kp ps' ((c', oc) :: k) →
      oc.data = .fields vs → vs[1]? = some (.str qual t) → (∀ q ∈ news, q.1 < f) → @LT.lt Nat _ c' f → @LT.lt Nat _ ls c' → Q (.ref f) { s with heap := h', toks := tk }) :
    wpAny M A (makeFunction name qual params (.expr body) scope (envX cn cs L a ccd cl) [] [] [] pos firstLine) Q E s := by
  cases e : codeAmong pos ps.toList with
  | none =>
    refine kla_nest F N T C hcd U hL.tri e hcl fun f c' oc vs t ctv h' tk F' N' hd hv l1 l2 => h f c' oc vs t ctv _ h' tk F' N' ⟨?_, ?_, ?_, ?_, ?_⟩ hd hv (fun q hq => Nat.lt_trans (l1 q hq) l2) l2 (l1 _ hls)
    · rw [Array.toList_append]; exact triples_snoc _ hL.tri
    · intro pos' v e'
      rw [Array.toList_append] at e'
      rcases codeAmong_of_snoc _ hL.tri e' with h1 | h1
      · obtain ⟨c2, oc2, vs2, t2, a1, a2, a3⟩ := hL.code _ _ h1
        exact ⟨c2, oc2, vs2, t2, a1, .tail _ a2, a3⟩
      · exact ⟨c', oc, vs, t, h1, .head _, hd, hv⟩
    · intro q hq
      rcases List.mem_cons.mp hq with rfl | hq
      · exact l1 _ hls
      · exact hL.far q hq
    · exact fun q hq => .tail _ (hL.keep q hq)
    · intro pos' c2 e' q hq
      rw [Array.toList_append] at e'
      rcases codeAmong_of_snoc _ hL.tri e' with h1 | h1
      · exact hL.apart _ _ h1 q hq
      · injection h1 with h1
        rw [h1]
        exact Nat.ne_of_lt (l1 q (hk q (hL.keep q hq)))
  | some v =>
    obtain ⟨c', oc, vs, t, rfl, hin, hd, hv⟩ := hL.code _ _ e
    refine kla_hit F N T C hcd hm hL.tri e hcl fun f ctv h' tk F' N' l1 => h f c' oc vs t ctv ps h' tk F' (fun q hq => ?_) ⟨hL.tri, fun pos' v' e' => ?_, fun q hq => ?_, fun q hq => .tail _ (hL.keep q hq), hL.apart⟩ hd hv l1 (l1 _ (hk _ hin)) (hL.far _ hin)
    · rw [hg] at hq
      rcases List.mem_cons.mp hq with rfl | hq
      · exact N' _ (.head _)
      · rcases List.mem_cons.mp hq with rfl | hq
        · exact N' _ (.tail _ (hk _ hin))
        · exact N' q (.tail _ hq)
    · obtain ⟨c2, oc2, vs2, t2, a1, a2, a3⟩ := hL.code _ _ e'
      exact ⟨c2, oc2, vs2, t2, a1, .tail _ a2, a3⟩
    · rcases List.mem_cons.mp hq with rfl | hq
      · exact hL.far _ hin
      · exact hL.far q hq
end
end
section
theorem lines_X19_1 : True := by
  k_with_none
  k_with "k_all" => with_reducible assumption
  k_with "ne_mem" => with_reducible first | exact List.mem_cons_self | (refine List.mem_cons_of_mem _ ?_; k_extra "ne_mem") | (refine List.mem_append_right _ ?_; k_extra "ne_mem")
  k_with "ne_bef" => with_reducible first | (refine Bef.head ?_; k_extra "ne_mem") | (refine Bef.tail ?_; k_extra "ne_bef")
  k_with "lt_ap" => (with_reducible rename Apart _ => kqA; first | (with_reducible exact Apart.bef kqA (by k_extra "ne_bef")) | (clear kqA; k_extra "lt_ap"))
  k_with "lt_go" => first | (with_reducible assumption) | (with_reducible exact AllLt.get (by assumption) (by k_extra "ne_mem")) | k_extra "lt_ap" | ((with_reducible refine Nat.lt_trans ?kq1 ?kq2); (case kq2 => with_reducible assumption); (case kq1 => k_extra "lt_go")) | ((with_reducible refine Nat.lt_trans ?kq1 ?kq2); (case kq1 => with_reducible assumption); (case kq2 => k_extra "lt_ap"))
  k_with "ne_lt" => with_reducible first | exact Nat.ne_of_lt (AllLt.get (by assumption) (by k_extra "ne_mem")) | exact Nat.ne_of_gt (AllLt.get (by assumption) (by k_extra "ne_mem"))
  k_with "ne_ap" => (with_reducible rename Apart _ => kqA; first | (with_reducible exact Nat.ne_of_lt (Apart.bef kqA (by k_extra "ne_bef"))) | (with_reducible exact Nat.ne_of_gt (Apart.bef kqA (by k_extra "ne_bef"))) | (clear kqA; k_extra "ne_ap"))
  k_with "k_ne" => (refine neN ?_; (try dsimp only); first | (with_reducible assumption) | (with_reducible exact Ne.symm (by assumption)) | (with_reducible exact Nat.ne_of_lt (by assumption)) | (with_reducible exact Nat.ne_of_gt (by assumption)) | k_extra "ne_lt" | k_extra "ne_ap" | omega | ((try simp only [AllLt] at *); omega))
  k_with "ne_all" => first | (with_reducible assumption) | (refine And.intro ?_ ?_ <;> k_extra "ne_all") | k_ne
  k_with "mem_hq" => first | exact hq | exact List.mem_append_left _ hq | (refine List.mem_cons_of_mem _ ?_; k_extra "mem_hq")
  k_with "perm" => first | (refine List.forall_mem_cons.mpr (And.intro ?kqa ?kqb); (case kqa => k_extra "ne_mem"); (case kqb => k_extra "perm")) | exact List.forall_mem_nil _ | (intro q hq; k_extra "mem_hq")
  k_with "ord" => first | (with_reducible assumption) | ((with_reducible show @LT.lt Nat _ _ _); k_extra "lt_go") | k_ne | omega | ((try simp only [AllLt] at *); omega)
  k_with "tb_start" => first | exact Pick.head | (apply Pick.tail; tb_start)
  k_with "tb_rel" => first | exact Suff.refl | (refine' Suff.tail ?_; tb_rel)
  k_with "ktr_rel" => first | exact Picks.nil | (refine' Picks.cons ?kqp ?kqq; (case kqp => tb_start); (case kqq => ktr_rel))
  k_with "ktr_unf" => exact ⟨by k_asm, by k_asm, by k_asm, by k_asm, by first | exact rfl | assumption⟩
  k_with "subscriptTail Attribute Name Slice" => (k_here; k_dflt (refine kba_turn (value' := PySem.Expr.Name (PySem.Str.ofString "_") ⟨0, 0, 0, 0⟩) (fun _ => rfl) ?_))
  k_with "subscriptTail Name Slice ref ref" => (k_here; (with_reducible show wpAny _ _ (subscriptTail _ (PySem.Expr.Slice (some _) (some _) none _) (Value.ref _) (Value.ref _)) _ _ _); k_dflt (refine' my_slice ?kqF ?kqN ?kql ?kqi ?kqx ?kqy ?kqz ?_ ?kqs ?kqt; (case kqF => k_asm); (case kqN => k_asm); (case kql => k_mem); (case kqi => k_asm); (case kqx => first | (with_reducible assumption) | omega | ((try simp only [AllLt] at *); omega)); (case kqy => first | (with_reducible assumption) | omega | ((try simp only [AllLt] at *); omega)); (case kqz => first | (with_reducible assumption) | omega | ((try simp only [AllLt] at *); omega)); (case kqs => with_unfolding_all rfl); (case kqt => kmk_pure); k_whole); intro D' ws' h' zs' F' N' l1 hI' hZ' hL'; (try (replace hL' := slice_len hL' (by first | (with_reducible assumption) | omega) (by first | (with_reducible assumption) | omega) (by first | (with_reducible assumption) | omega))); (try k_lt l1); (try k_sweep))
  k_with "setItem ref ref ref" => (k_here; k_dflt (refine' my_setslice ?kqF ?kqN ?kql ?kqU ?kqi ?kqw ?kqx ?kqy ?kqz ?kqzz ?_; (case kqF => k_asm); (case kqN => k_asm); (case kql => k_mem); (case kqU => k_updF); (case kqi => k_asm); (case kqw => k_asm); (case kqx => first | (with_reducible assumption) | omega | ((try simp only [AllLt] at *); omega)); (case kqy => first | (with_reducible assumption) | omega | ((try simp only [AllLt] at *); omega)); (case kqz => first | (with_reducible assumption) | omega | ((try simp only [AllLt] at *); omega)); (case kqzz => first | (with_reducible assumption) | omega | ((try simp only [AllLt] at *); omega)); k_whole); intro vs' n2' h' ns' F' N' hI' hZ' hL'; (try dsimp only at N'); (try k_sweep))
  k_with "call builtin:len" => (k_here; (with_reducible show wpAny _ _ (call (Value.builtin "len") [Value.ref _]) _ _ _); k_dflt (refine' my_len ?kqN ?kql ?kqi ?kqz ?_; (case kqN => k_asm); (case kql => k_mem); (case kqi => k_asm); (case kqz => first | (with_reducible assumption) | omega | ((try simp only [AllLt] at *); omega)); k_whole))
  k_with "pyIter ref" => (k_here; k_dflt (first | (refine' iter_empty ?kqh ?kqF ?kqN ?kqm ?_; (case kqh => exact rfl); (case kqF => k_asm); (case kqN => k_asm); (case kqm => k_mem)) | (refine' iter_empty2 ?kqh ?kqF ?kqN ?kqm ?kqi ?kqz ?_; (case kqh => exact rfl); (case kqF => k_asm); (case kqN => k_asm); (case kqm => k_mem); (case kqi => k_asm); (case kqz => k_asm))); intro h' tk' F' N'; (try dsimp only); (try k_sweep))
  trivial
variable {prog : Program} {w : World} {p : Program} {loose : List Str} {mean : ExcName → Option Value} {mg mb : Str → Option Value} {cn : Str} {cs : Scope} {a : Addr} {ccd : Value} {cl : List (Str × Addr)} {outer : List Env} {A₀ : Around} {base h₀ : Heap} {L : Addr} {m : Str → Option Value} {s : Shared} {Q E : Value → Shared → Prop} in
set_option maxRecDepth 100000 in
set_option maxHeartbeats 8000000 in
theorem nor_none {v : Int} {tv : Tok}  {news : List (Addr × Obj)}
 (C : Cx w p loose mean mg mb A₀ base outer h₀ L s.heap m cs) (N : News h₀ L s.heap news)
 (ret : ∀ h' tk', Fr h₀ L h' m → News h₀ L h' news → Q (.int v tv) { s with heap := h', toks := tk' }) :
 wpAny (model prog w) (ktrTop 930 9300 none cn cs L a ccd cl outer) (call (.ref 324) [.none, .int v tv]) Q E s := by
  obtain ⟨B, F, X, T, hk⟩ := C
  refine wpAny_call ?_
  k_dflt cell_enter
  k_steps
  exact ret _ _ (by k_asm) (by k_asm)
variable {prog : Program} {w : World} {p : Program} {loose : List Str} {mean : ExcName → Option Value} {mg mb : Str → Option Value} {cn : Str} {cs : Scope} {a : Addr} {ccd : Value} {cl : List (Str × Addr)} {outer : List Env} {A₀ : Around} {base h₀ : Heap} {L : Addr} {m : Str → Option Value} {s : Shared} {Q E : Value → Shared → Prop} in
set_option maxRecDepth 100000 in
set_option maxHeartbeats 8000000 in
theorem nor_str {v : Int} {tv : Tok} {ts : Tok} {news : List (Addr × Obj)}
 (C : Cx w p loose mean mg mb A₀ base outer h₀ L s.heap m cs) (N : News h₀ L s.heap news)
 (ret : ∀ t h' tk', Fr h₀ L h' m → News h₀ L h' news → Q (.int (-1) t) { s with heap := h', toks := tk' }) :
 wpAny (model prog w) (ktrTop 930 9300 none cn cs L a ccd cl outer) (call (.ref 324) [.str (Str.ofString "-") ts, .int v tv]) Q E s := by
  obtain ⟨B, F, X, T, hk⟩ := C
  refine wpAny_call ?_
  k_dflt cell_enter
  k_steps
  exact ret _ _ _ (by k_asm) (by k_asm)
variable {prog : Program} {w : World} {p : Program} {loose : List Str} {mean : ExcName → Option Value} {mg mb : Str → Option Value} {cn : Str} {cs : Scope} {a : Addr} {ccd : Value} {cl : List (Str × Addr)} {outer : List Env} {A₀ : Around} {base h₀ : Heap} {L : Addr} {m : Str → Option Value} {s : Shared} {Q E : Value → Shared → Prop} in
set_option maxRecDepth 100000 in
set_option maxHeartbeats 8000000 in
theorem nor_int {v : Int} {tv : Tok} {n : Int} {tn : Tok} {news : List (Addr × Obj)}
 (C : Cx w p loose mean mg mb A₀ base outer h₀ L s.heap m cs) (N : News h₀ L s.heap news)
 (ret : ∀ h' tk', Fr h₀ L h' m → News h₀ L h' news → Q (.int n tn) { s with heap := h', toks := tk' }) :
 wpAny (model prog w) (ktrTop 930 9300 none cn cs L a ccd cl outer) (call (.ref 324) [.int n tn, .int v tv]) Q E s := by
  obtain ⟨B, F, X, T, hk⟩ := C
  refine wpAny_call ?_
  k_dflt cell_enter
  k_steps
  exact ret _ _ (by k_asm) (by k_asm)
def nor_many_H (v : Int) (n : Int) (tv : Tok) (tn : Tok) (tk1 : Tok) (mm : Addr) (dm' : Addr) (hh : Int) (news : List (Addr × Obj)) (rest : List (Addr × Obj)) (prog : Program) (w : World) (p : Program) (loose : List Str) (mean : ExcName → Option Value) (mg : Str → Option Value) (mb : Str → Option Value) (cn : Str) (cs : Scope) (a : Addr) (ccd : Value) (cl : List (Str × Addr)) (outer : List Env) (A₀ : Around) (base : Heap) (h₀ : Heap) (L : Addr) (m : Str → Option Value) (s : Shared) (Q : Value → Shared → Prop) (E : Value → Shared → Prop) (zR : Prop) : Prop := ∀ (C : Cx w p loose mean mg mb A₀ base outer h₀ L s.heap m cs) (N : News h₀ L s.heap news) (P : Picks [(mm, instObj 151 dm'), (dm', dictOf [⟨hh, .str (Str.ofString "number") tk1, .int n tn⟩] 1)] news rest) (ret : ∀ h' tk', Fr h₀ L h' m → News h₀ L h' news → Q (.int n tn) { s with heap := h', toks := tk' }), zR
set_option maxRecDepth 100000 in
set_option maxHeartbeats 8000000 in
noncomputable def nor_many_k (v : Int) (n : Int) (tv : Tok) (tn : Tok) (tk1 : Tok) (mm : Addr) (dm' : Addr) (hh : Int) (news : List (Addr × Obj)) (rest : List (Addr × Obj)) (prog : Program) (w : World) (p : Program) (loose : List Str) (mean : ExcName → Option Value) (mg : Str → Option Value) (mb : Str → Option Value) (cn : Str) (cs : Scope) (a : Addr) (ccd : Value) (cl : List (Str × Addr)) (outer : List Env) (A₀ : Around) (base : Heap) (h₀ : Heap) (L : Addr) (m : Str → Option Value) (s : Shared) (Q : Value → Shared → Prop) (E : Value → Shared → Prop) : PSigma (fun zP : Heap → Addr → Heap → Prop => (∀ zq1 zq2 zq3, nor_many_H v n tv tn tk1 mm dm' hh news rest prog w p loose mean mg mb cn cs a ccd cl outer A₀ base h₀ L m s Q E (zP zq1 zq2 zq3)) → nor_many_H v n tv tn tk1 mm dm' hh news rest prog w p loose mean mg mb cn cs a ccd cl outer A₀ base h₀ L m s Q E (wpAny (model prog w) (ktrTop 930 9300 none cn cs L a ccd cl outer) (call (.ref 324) [.ref mm, .int v tv]) Q E s)) := by
  refine ⟨?zG, fun zH C N P ret => ?zh⟩
  case zh =>
    have zc := fun zq1 zq2 zq3 => zH zq1 zq2 zq3 C N P ret
    clear zH
    obtain ⟨B, F, X, T, hk⟩ := C
    replace N := news_picks N P
    simp only [List.cons_append, List.nil_append] at N
    refine wpAny_call ?_
    k_dflt cell_enter
    rename_i g9 L9 h9 FG9 F9 N9 B9 X9 T9
    revert FG9 F9 N9 B9 X9 T9
    exact zc g9 L9 h9
abbrev nor_many_P : Type := ((((((Heap × Addr) × Heap) × (Int × Int)) × ((Tok × Tok) × (Tok × Addr))) × (((Addr × Int) × ((List (Addr × Obj)) × (List (Addr × Obj)))) × ((Program × World) × (Program × (List Str))))) × ((((((ExcName → Option Value) × (Str → Option Value)) × (Str → Option Value)) × (Str × Scope)) × ((Addr × Value) × ((List (Str × Addr)) × (List Env)))) × (((Around × Heap) × (Heap × Addr)) × (((Str → Option Value) × Shared) × ((Value → Shared → Prop) × (Value → Shared → Prop))))))
abbrev nor_many_F (x : nor_many_P) : Prop := nor_many_H (x.1.1.1.2.1) (x.1.1.1.2.2) (x.1.1.2.1.1) (x.1.1.2.1.2) (x.1.1.2.2.1) (x.1.1.2.2.2) (x.1.2.1.1.1) (x.1.2.1.1.2) (x.1.2.1.2.1) (x.1.2.1.2.2) (x.1.2.2.1.1) (x.1.2.2.1.2) (x.1.2.2.2.1) (x.1.2.2.2.2) (x.2.1.1.1.1.1) (x.2.1.1.1.1.2) (x.2.1.1.1.2) (x.2.1.1.2.1) (x.2.1.1.2.2) (x.2.1.2.1.1) (x.2.1.2.1.2) (x.2.1.2.2.1) (x.2.1.2.2.2) (x.2.2.1.1.1) (x.2.2.1.1.2) (x.2.2.1.2.1) (x.2.2.1.2.2) (x.2.2.2.1.1) (x.2.2.2.1.2) (x.2.2.2.2.1) (x.2.2.2.2.2)  ((nor_many_k (x.1.1.1.2.1) (x.1.1.1.2.2) (x.1.1.2.1.1) (x.1.1.2.1.2) (x.1.1.2.2.1) (x.1.1.2.2.2) (x.1.2.1.1.1) (x.1.2.1.1.2) (x.1.2.1.2.1) (x.1.2.1.2.2) (x.1.2.2.1.1) (x.1.2.2.1.2) (x.1.2.2.2.1) (x.1.2.2.2.2) (x.2.1.1.1.1.1) (x.2.1.1.1.1.2) (x.2.1.1.1.2) (x.2.1.1.2.1) (x.2.1.1.2.2) (x.2.1.2.1.1) (x.2.1.2.1.2) (x.2.1.2.2.1) (x.2.1.2.2.2) (x.2.2.1.1.1) (x.2.2.1.1.2) (x.2.2.1.2.1) (x.2.2.1.2.2) (x.2.2.2.1.1) (x.2.2.2.1.2) (x.2.2.2.2.1) (x.2.2.2.2.2) ).1 (x.1.1.1.1.1.1) (x.1.1.1.1.1.2) (x.1.1.1.1.2))
theorem nor_many_ex : ∃ x : nor_many_P, nor_many_F x → ∀ y : nor_many_P, nor_many_F y := drinker ⟨((((((default, (0 : Nat)), default), (0, 0)), (((0 : Nat), (0 : Nat)), ((0 : Nat), (0 : Nat)))), ((((0 : Nat), 0), ([], [])), ((default, world0), (default, [])))), (((((fun _ => none, fun _ => none), fun _ => none), (default, default)), (((0 : Nat), .none), ([], []))), ((({}, default), (default, (0 : Nat))), ((fun _ => none, {}), (fun _ _ => True, fun _ _ => True)))))⟩
noncomputable def nor_many_x : nor_many_P := nor_many_ex.choose
namespace nor_many_n
noncomputable def g9 : Heap := nor_many_x.1.1.1.1.1.1
noncomputable def L9 : Addr := nor_many_x.1.1.1.1.1.2
noncomputable def h9 : Heap := nor_many_x.1.1.1.1.2
noncomputable def v : Int := nor_many_x.1.1.1.2.1
noncomputable def n : Int := nor_many_x.1.1.1.2.2
noncomputable def tv : Tok := nor_many_x.1.1.2.1.1
noncomputable def tn : Tok := nor_many_x.1.1.2.1.2
noncomputable def tk1 : Tok := nor_many_x.1.1.2.2.1
noncomputable def mm : Addr := nor_many_x.1.1.2.2.2
noncomputable def dm' : Addr := nor_many_x.1.2.1.1.1
noncomputable def hh : Int := nor_many_x.1.2.1.1.2
noncomputable def news : List (Addr × Obj) := nor_many_x.1.2.1.2.1
noncomputable def rest : List (Addr × Obj) := nor_many_x.1.2.1.2.2
noncomputable def prog : Program := nor_many_x.1.2.2.1.1
noncomputable def w : World := nor_many_x.1.2.2.1.2
noncomputable def p : Program := nor_many_x.1.2.2.2.1
noncomputable def loose : List Str := nor_many_x.1.2.2.2.2
noncomputable def mean : ExcName → Option Value := nor_many_x.2.1.1.1.1.1
noncomputable def mg : Str → Option Value := nor_many_x.2.1.1.1.1.2
noncomputable def mb : Str → Option Value := nor_many_x.2.1.1.1.2
noncomputable def cn : Str := nor_many_x.2.1.1.2.1
noncomputable def cs : Scope := nor_many_x.2.1.1.2.2
noncomputable def a : Addr := nor_many_x.2.1.2.1.1
noncomputable def ccd : Value := nor_many_x.2.1.2.1.2
noncomputable def cl : List (Str × Addr) := nor_many_x.2.1.2.2.1
noncomputable def outer : List Env := nor_many_x.2.1.2.2.2
noncomputable def A₀ : Around := nor_many_x.2.2.1.1.1
noncomputable def base : Heap := nor_many_x.2.2.1.1.2
noncomputable def h₀ : Heap := nor_many_x.2.2.1.2.1
noncomputable def L : Addr := nor_many_x.2.2.1.2.2
noncomputable def m : Str → Option Value := nor_many_x.2.2.2.1.1
noncomputable def s : Shared := nor_many_x.2.2.2.1.2
noncomputable def Q : Value → Shared → Prop := nor_many_x.2.2.2.2.1
noncomputable def E : Value → Shared → Prop := nor_many_x.2.2.2.2.2
set_option maxRecDepth 100000 in
set_option maxHeartbeats 8000000 in
theorem main  : nor_many_H v n tv tn tk1 mm dm' hh news rest prog w p loose mean mg mb cn cs a ccd cl outer A₀ base h₀ L m s Q E ((nor_many_k v n tv tn tk1 mm dm' hh news rest prog w p loose mean mg mb cn cs a ccd cl outer A₀ base h₀ L m s Q E).1 g9 L9 h9) := by
  intro C N P ret
  obtain ⟨B, F, X, T, hk⟩ := C
  replace N := news_picks N P
  simp only [List.cons_append, List.nil_append] at N
  delta nor_many_k
  dsimp only
  intro _ _ _ _ _ _
  k_steps
  exact ret _ _ (by k_asm) (news_unpick (by k_asm) (by ktr_rel) (by tb_rel) P)
end nor_many_n
theorem nor_many {prog : Program} {w : World} {p : Program} {loose : List Str} {mean : ExcName → Option Value} {mg : Str → Option Value} {mb : Str → Option Value} {cn : Str} {cs : Scope} {a : Addr} {ccd : Value} {cl : List (Str × Addr)} {outer : List Env} {A₀ : Around} {base : Heap} {h₀ : Heap} {L : Addr} {m : Str → Option Value} {s : Shared} {Q : Value → Shared → Prop} {E : Value → Shared → Prop} {v : Int} {n : Int} {tv : Tok} {tn : Tok} {tk1 : Tok} {mm : Addr} {dm' : Addr} {hh : Int} {news : List (Addr × Obj)} {rest : List (Addr × Obj)} : nor_many_H v n tv tn tk1 mm dm' hh news rest prog w p loose mean mg mb cn cs a ccd cl outer A₀ base h₀ L m s Q E (wpAny (model prog w) (ktrTop 930 9300 none cn cs L a ccd cl outer) (call (.ref 324) [.ref mm, .int v tv]) Q E s) := (nor_many_k v n tv tn tk1 mm dm' hh news rest prog w p loose mean mg mb cn cs a ccd cl outer A₀ base h₀ L m s Q E).2 (fun g9 L9 h9 => nor_many_ex.choose_spec (nor_many_n.main ) ((((((g9, L9), h9), (v, n)), ((tv, tn), (tk1, mm))), (((dm', hh), (news, rest)), ((prog, w), (p, loose)))), (((((mean, mg), mb), (cn, cs)), ((a, ccd), (cl, outer))), (((A₀, base), (h₀, L)), ((m, s), (Q, E))))) )
end
section
theorem lines_X18_1 : True := by
  k_with_none
  k_with "k_all" => with_reducible assumption
  k_with "ne_mem" => with_reducible first | exact List.mem_cons_self | (refine List.mem_cons_of_mem _ ?_; k_extra "ne_mem") | (refine List.mem_append_right _ ?_; k_extra "ne_mem")
  k_with "ne_bef" => with_reducible first | (refine Bef.head ?_; k_extra "ne_mem") | (refine Bef.tail ?_; k_extra "ne_bef")
  k_with "lt_ap" => (with_reducible rename Apart _ => kqA; first | (with_reducible exact Apart.bef kqA (by k_extra "ne_bef")) | (clear kqA; k_extra "lt_ap"))
  k_with "lt_go" => first | (with_reducible assumption) | (with_reducible exact AllLt.get (by assumption) (by k_extra "ne_mem")) | k_extra "lt_ap" | ((with_reducible refine Nat.lt_trans ?kq1 ?kq2); (case kq2 => with_reducible assumption); (case kq1 => k_extra "lt_go")) | ((with_reducible refine Nat.lt_trans ?kq1 ?kq2); (case kq1 => with_reducible assumption); (case kq2 => k_extra "lt_ap"))
  k_with "ne_lt" => with_reducible first | exact Nat.ne_of_lt (AllLt.get (by assumption) (by k_extra "ne_mem")) | exact Nat.ne_of_gt (AllLt.get (by assumption) (by k_extra "ne_mem"))
  k_with "ne_ap" => (with_reducible rename Apart _ => kqA; first | (with_reducible exact Nat.ne_of_lt (Apart.bef kqA (by k_extra "ne_bef"))) | (with_reducible exact Nat.ne_of_gt (Apart.bef kqA (by k_extra "ne_bef"))) | (clear kqA; k_extra "ne_ap"))
  k_with "ne_tr" => first | ((with_reducible refine Nat.ne_of_gt (Nat.lt_trans ?kq1 ?kq2)); (case kq2 => with_reducible assumption); (case kq1 => k_extra "lt_go")) | ((with_reducible refine Nat.ne_of_lt (Nat.lt_trans ?kq1 ?kq2)); (case kq2 => with_reducible assumption); (case kq1 => k_extra "lt_go"))
  k_with "k_ne" => (refine neN ?_; (try dsimp only); first | (with_reducible assumption) | (with_reducible exact Ne.symm (by assumption)) | (with_reducible exact Nat.ne_of_lt (by assumption)) | (with_reducible exact Nat.ne_of_gt (by assumption)) | k_extra "ne_lt" | k_extra "ne_ap" | k_extra "ne_tr" | omega | ((try simp only [AllLt] at *); omega))
  k_with "ne_all" => first | (with_reducible assumption) | (refine And.intro ?_ ?_ <;> k_extra "ne_all") | k_ne
  k_with "mem_hq" => first | exact hq | exact List.mem_append_left _ hq | (refine List.mem_cons_of_mem _ ?_; k_extra "mem_hq")
  k_with "perm" => first | (refine List.forall_mem_cons.mpr (And.intro ?kqa ?kqb); (case kqa => k_extra "ne_mem"); (case kqb => k_extra "perm")) | exact List.forall_mem_nil _ | (intro q hq; k_extra "mem_hq")
  k_with "ord" => first | (with_reducible assumption) | ((with_reducible show @LT.lt Nat _ _ _); k_extra "lt_go") | k_ne | omega | ((try simp only [AllLt] at *); omega)
  k_with "tb_start" => first | exact Pick.head | (apply Pick.tail; tb_start)
  k_with "tb_rel" => first | exact Suff.refl | (refine' Suff.tail ?_; tb_rel)
  k_with "ktr_rel" => first | exact Picks.nil | (refine' Picks.cons ?kqp ?kqq; (case kqp => tb_start); (case kqq => ktr_rel))
  k_with "ktr_unf" => exact ⟨by k_asm, by k_asm, by k_asm, by k_asm, by first | exact rfl | assumption⟩
  k_with "subscriptTail Attribute Name Slice" => (k_here; k_dflt (refine kba_turn (value' := PySem.Expr.Name (PySem.Str.ofString "_") ⟨0, 0, 0, 0⟩) (fun _ => rfl) ?_))
  k_with "subscriptTail Name Slice ref ref" => (k_here; (with_reducible show wpAny _ _ (subscriptTail _ (PySem.Expr.Slice (some _) (some _) none _) (Value.ref _) (Value.ref _)) _ _ _); k_dflt (refine' my_slice ?kqF ?kqN ?kql ?kqi ?kqx ?kqy ?kqz ?_ ?kqs ?kqt; (case kqF => k_asm); (case kqN => k_asm); (case kql => k_mem); (case kqi => k_asm); (case kqx => first | (with_reducible assumption) | omega | ((try simp only [AllLt] at *); omega)); (case kqy => first | (with_reducible assumption) | omega | ((try simp only [AllLt] at *); omega)); (case kqz => first | (with_reducible assumption) | omega | ((try simp only [AllLt] at *); omega)); (case kqs => with_unfolding_all rfl); (case kqt => kmk_pure); k_whole); intro D' ws' h' zs' F' N' l1 hI' hZ' hL'; (try (replace hL' := slice_len hL' (by first | (with_reducible assumption) | omega) (by first | (with_reducible assumption) | omega) (by first | (with_reducible assumption) | omega))); (try k_lt l1); (try k_sweep))
  k_with "setItem ref ref ref" => (k_here; k_dflt (refine' my_setslice ?kqF ?kqN ?kql ?kqU ?kqi ?kqw ?kqx ?kqy ?kqz ?kqzz ?_; (case kqF => k_asm); (case kqN => k_asm); (case kql => k_mem); (case kqU => k_updF); (case kqi => k_asm); (case kqw => k_asm); (case kqx => first | (with_reducible assumption) | omega | ((try simp only [AllLt] at *); omega)); (case kqy => first | (with_reducible assumption) | omega | ((try simp only [AllLt] at *); omega)); (case kqz => first | (with_reducible assumption) | omega | ((try simp only [AllLt] at *); omega)); (case kqzz => first | (with_reducible assumption) | omega | ((try simp only [AllLt] at *); omega)); k_whole); intro vs' n2' h' ns' F' N' hI' hZ' hL'; (try dsimp only at N'); (try k_sweep))
  k_with "call builtin:len" => (k_here; (with_reducible show wpAny _ _ (call (Value.builtin "len") [Value.ref _]) _ _ _); k_dflt (refine' my_len ?kqN ?kql ?kqi ?kqz ?_; (case kqN => k_asm); (case kql => k_mem); (case kqi => k_asm); (case kqz => first | (with_reducible assumption) | omega | ((try simp only [AllLt] at *); omega)); k_whole))
  k_with "pyIter ref" => (k_here; k_dflt (first | (refine' iter_empty ?kqh ?kqF ?kqN ?kqm ?_; (case kqh => exact rfl); (case kqF => k_asm); (case kqN => k_asm); (case kqm => k_mem)) | (refine' iter_empty2 ?kqh ?kqF ?kqN ?kqm ?kqi ?kqz ?_; (case kqh => exact rfl); (case kqF => k_asm); (case kqN => k_asm); (case kqm => k_mem); (case kqi => k_asm); (case kqz => k_asm))); intro h' tk' F' N'; (try dsimp only); (try k_sweep))
  k_with "call ref" => (k_here; (with_reducible show wpAny _ _ (call (Value.ref 631) _) _ _ _); k_dflt (refine' around_le (draw_spec ?kqC ?kqN ?kqP ?kqne ?kqr ?kqi ?kql ?kqh0 ?kqh1 ?kqh2 ?_) ?kqd ?kqu; (case kqC => ktr_unf); (case kqN => k_asm); (case kqP => ktr_rel); (case kqne => first | (with_reducible assumption) | omega | ((try simp only [AllLt] at *); omega)); (case kqr => k_all); (case kqi => k_asm); (case kql => first | (with_reducible assumption) | omega | ((try simp only [AllLt] at *); omega)); (case kqh0 => first | (with_reducible assumption) | omega | ((try simp only [AllLt] at *); omega)); (case kqh1 => first | (with_reducible assumption) | omega | ((try simp only [AllLt] at *); omega)); (case kqh2 => first | (with_reducible assumption) | omega | ((try simp only [AllLt] at *); omega));  (case kqd => exact Nat.le_of_ble_eq_true rfl); (case kqu => exact Nat.le_of_ble_eq_true rfl)); intro r' t' t2' h' tk' F' N' hr0' hr1'; (try dsimp only); (try k_sweep); (try k_fold))
  k_with "call ref" => (k_here; (with_reducible show wpAny _ _ (call (Value.ref 612) _) _ _ _); k_dflt (refine' around_le (setmod_spec ?kqC ?kqN ?kqP ?kqe1 ?kqr3 ?_) ?kqd ?kqu; (case kqC => ktr_unf); (case kqN => k_asm); (case kqP => ktr_rel); (case kqe1 => first | k_extra "ne_all" | omega); (case kqr3 => k_all);  (case kqd => exact Nat.le_of_ble_eq_true rfl); (case kqu => exact Nat.le_of_ble_eq_true rfl)); intro h' tk' F' N'; (try simp only [List.cons_append, List.nil_append] at N'); (try dsimp only); (try k_sweep); (try k_fold))
  k_with "call ref" => (k_here; (with_reducible show wpAny _ _ (call (Value.ref 638) _) _ _ _); k_dflt (refine' around_le (edits_spec ?kqC ?kqN ?kqP ?kqne ?kqr ?kqdl ?kqal ?kqi ?kql ?kqh0 ?kqh1 ?kqh2 ?kqh3 ?_) ?kqd ?kqu; (case kqC => ktr_unf); (case kqN => k_asm); (case kqP => ktr_rel); (case kqne => first | (with_reducible assumption) | omega | ((try simp only [AllLt] at *); omega)); (case kqr => k_all); (case kqdl => first | (with_reducible assumption) | omega | ((try simp only [AllLt] at *); omega)); (case kqal => first | (with_reducible assumption) | omega | ((try simp only [AllLt] at *); omega)); (case kqi => k_asm); (case kql => first | (with_reducible assumption) | omega | ((try simp only [AllLt] at *); omega)); (case kqh0 => first | (with_reducible assumption) | omega | ((try simp only [AllLt] at *); omega)); (case kqh1 => first | (with_reducible assumption) | omega | ((try simp only [AllLt] at *); omega)); (case kqh2 => first | (with_reducible assumption) | omega | ((try simp only [AllLt] at *); omega)); (case kqh3 => first | (with_reducible assumption) | omega | ((try simp only [AllLt] at *); omega));  (case kqd => exact Nat.le_of_ble_eq_true rfl); (case kqu => exact Nat.le_of_ble_eq_true rfl)); intro el' l' n0' k' t' h' tk' hD' hE' hk1' hk2' F' N' hel'; (try simp only [List.cons_append, List.nil_append, List.append_assoc] at N'); (try dsimp only); (try k_sweep); (try k_fold))
  k_with "call ref" => (k_here; (with_reducible show wpAny _ _ (call (Value.ref 584) _) _ _ _); k_dflt (refine' around_le (bcodes_spec ?kqC ?kqN ?kqP ?kqi ?kql ?kqh0 ?kqh1 ?kqh2 ?kqh3 ?kqh4 ?_) ?kqd ?kqu; (case kqC => ktr_unf); (case kqN => k_asm); (case kqP => ktr_rel); (case kqi => k_asm); (case kql => first | (with_reducible assumption) | omega | ((try simp only [AllLt] at *); omega)); (case kqh0 => first | (with_reducible assumption) | omega | ((try simp only [AllLt] at *); omega)); (case kqh1 => first | (with_reducible assumption) | omega | ((try simp only [AllLt] at *); omega)); (case kqh2 => first | (with_reducible assumption) | omega | ((try simp only [AllLt] at *); omega)); (case kqh3 => first | (with_reducible assumption) | omega | ((try simp only [AllLt] at *); omega)); (case kqh4 => first | (with_reducible assumption) | omega | ((try simp only [AllLt] at *); omega));  (case kqd => exact Nat.le_of_ble_eq_true rfl); (case kqu => exact Nat.le_of_ble_eq_true rfl)); intro D' ws' n' h' tk' hI' F' N' l1; (try k_lt l1); (try dsimp only); (try k_sweep); (try k_fold))
  k_with "call ref" => (k_here; (with_reducible show wpAny _ _ (call (Value.ref 570) _) _ _ _); k_dflt (refine' around_le (bsize_spec ?kqC ?kqN ?kqP ?kqi ?kql ?kqh0 ?kqh1 ?kqh2 ?_) ?kqd ?kqu; (case kqC => ktr_unf); (case kqN => k_asm); (case kqP => ktr_rel); (case kqi => k_asm); (case kql => first | (with_reducible assumption) | omega | ((try simp only [AllLt] at *); omega)); (case kqh0 => first | (with_reducible assumption) | omega | ((try simp only [AllLt] at *); omega)); (case kqh1 => first | (with_reducible assumption) | omega | ((try simp only [AllLt] at *); omega)); (case kqh2 => first | (with_reducible assumption) | omega | ((try simp only [AllLt] at *); omega));  (case kqd => exact Nat.le_of_ble_eq_true rfl); (case kqu => exact Nat.le_of_ble_eq_true rfl)); intro t' h' tk' F' N'; (try dsimp only); (try k_sweep); (try k_fold))
  k_with "call ref" => (k_here; (with_reducible show wpAny _ _ (call (Value.ref 605) _) _ _ _); k_dflt (refine' around_le (ismod_spec ?kqC ?kqN ?kqP ?_) ?kqd ?kqu; (case kqC => ktr_unf); (case kqN => k_asm); (case kqP => ktr_rel);  (case kqd => exact Nat.le_of_ble_eq_true rfl); (case kqu => exact Nat.le_of_ble_eq_true rfl)); intro h' tk' F' N'; (try dsimp only); (try k_sweep); (try k_fold))
  k_with "call ref" => (k_here; (with_reducible show wpAny _ _ (call (Value.ref 645) _) _ _ _); k_dflt (refine' around_le (put_spec ?kqC ?kqN ?kqP ?kqi ?kql ?kqed ?kql4 ?kqsub ?_) ?kqd ?kqu; (case kqC => ktr_unf); (case kqN => k_asm); (case kqP => ktr_rel); (case kqi => k_asm); (case kql => first | (with_reducible assumption) | omega | ((try simp only [AllLt] at *); omega)); (case kqed => k_asm); (case kql4 => first | (with_reducible assumption) | omega | ((try simp only [AllLt] at *); omega)); (case kqsub => k_asm);  (case kqd => exact Nat.le_of_ble_eq_true rfl); (case kqu => exact Nat.le_of_ble_eq_true rfl)); intro D' ws' n' h' tk' hI' F' N' l1; (try k_lt l1); (try dsimp only); (try k_sweep); (try k_fold))
  k_with "call ref" => (k_here; (with_reducible show wpAny _ _ (call (Value.ref 317) _) _ _ _); k_dflt (refine' around_le (kill_raise ?kqyC ?kqyN ?kqyn ?kqyP ?_) ?kqd ?kqu; (case kqyC => ktr_unf); (case kqyN => k_asm); (case kqyn => exact nss_up (by assumption) (by assumption)); (case kqyP => ktr_rel);  (case kqd => exact Nat.le_of_ble_eq_true rfl); (case kqu => exact Nat.le_of_ble_eq_true rfl)); intro e' h' tk' fl'; (try dsimp only); (try k_sweep); (try k_fold))
  k_with "call ref" => (k_here; (with_reducible show wpAny _ _ (call (Value.ref 324) _) _ _ _); k_dflt (first | (refine' around_le (nor_none ?kqyC ?kqyN ?_) ?kqyd ?kqyu; (case kqyC => ktr_unf); (case kqyN => k_asm); (case kqyd => exact Nat.le_of_ble_eq_true rfl); (case kqyu => exact Nat.le_of_ble_eq_true rfl); intro h' tk' F' N') | (refine' around_le (nor_int ?kqyC ?kqyN ?_) ?kqyd ?kqyu; (case kqyC => ktr_unf); (case kqyN => k_asm); (case kqyd => exact Nat.le_of_ble_eq_true rfl); (case kqyu => exact Nat.le_of_ble_eq_true rfl); intro h' tk' F' N') | (refine' around_le (nor_str ?kqyC ?kqyN ?_) ?kqyd ?kqyu; (case kqyC => ktr_unf); (case kqyN => k_asm); (case kqyd => exact Nat.le_of_ble_eq_true rfl); (case kqyu => exact Nat.le_of_ble_eq_true rfl); intro t' h' tk' F' N') | (refine' around_le (nor_many ?kqyC ?kqyN ?kqyP ?_) ?kqyd ?kqyu; (case kqyC => ktr_unf); (case kqyN => k_asm); (case kqyP => ktr_rel); (case kqyd => exact Nat.le_of_ble_eq_true rfl); (case kqyu => exact Nat.le_of_ble_eq_true rfl); intro h' tk' F' N')); (try dsimp only); (try k_sweep); (try k_fold))
  trivial
variable {prog : Program} {w : World} {A : Around} {E : Value → Shared → Prop} {s : Shared} {h₀ : Heap} {L : Addr} {news : List (Addr × Obj)} in
/-- a list against the empty one -/
theorem ne_nil {a b : Addr} {vs : List Value} {n k : Nat} {Q : Value → Shared → Prop} (N : News h₀ L s.heap news) (ha : (a, listOf vs.toArray n) ∈ news) (hb : (b, listOf #[] k) ∈ news) (hu : A.units + 64 < cLine)
    (h : Q (.bool (!vs.isEmpty)) s) : wpAny (model prog w) A (compareOp .NotEq (.ref a) (.ref b)) Q E s := by
  cases vs with
  | nil => exact ne_intsK (vs := []) (us := []) (News.isList N ha) .nil (News.isList N hb) .nil hu h
  | cons v r => exact SeqAt.RcNeAt.lists_lengths (News.isList N ha) (News.isList N hb) (by simp) (Nat.lt_of_le_of_lt (Nat.le_add_right _ 64) hu) prog w E Q h
variable {prog : Program} {w : World} {A : Around} {E : Value → Shared → Prop} {s : Shared} {h₀ : Heap} {L : Addr} {news : List (Addr × Obj)} in
theorem ne_ints2 {a b : Addr} {vs us : List Value} {ns ms : List Int} {n k : Nat} {Q : Value → Shared → Prop} (N : News h₀ L s.heap news) (ha : (a, listOf vs.toArray n) ∈ news) (hb : (b, listOf us.toArray k) ∈ news) (hi : IntsAre vs ns) (hj : IntsAre us ms) (hu : A.units + 64 < cLine)
    (h : Q (.bool (!decide (ns = ms))) s) : wpAny (model prog w) A (compareOp .NotEq (.ref a) (.ref b)) Q E s := ne_intsK (News.isList N ha) hi (News.isList N hb) hj hu h
theorem foldl_len : ∀ {l : List Ed} {ls : Addr} {b : Int} {T : List Int}, EdDesc ls b l → (l.foldl put1 T).length ≤ T.length + 10 * l.length
  | [], _, _, _, _ => by simp
  | d :: r, ls, b, T, ⟨_, h2, _, h4, _, _, _, h8⟩ => by
    have := foldl_len (T := put1 T d) h8
    have h : (put1 T d).length ≤ T.length + 10 := by
      simp only [put1, List.length_append, List.length_take, List.length_drop]
      have hab : (d.s - 1).toNat ≤ (d.e - 1).toNat := Int.toNat_le_toNat (by k_extra "ord")
      generalize (d.s - 1).toNat = a at *
      generalize (d.e - 1).toNat = b at *
      omega
    rw [List.foldl_cons, List.length_cons]
    omega
/-- the law's own text, out of the objects that the top leaves -/
noncomputable def lawFd (w : PySem.Params) : Option FuncData := (List.lookup 657 (hd.heap_39 w)).bind fun o => match o.data with | .func fd => some fd | _ => none
noncomputable def lawSc (w : PySem.Params) : Scope := match lawFd w with | some fd => fd.scope | none => { kind := .function, names := [], isGenerator := false, isCoroutine := false }
noncomputable def lawStmts (w : PySem.Params) : List Stmt := match lawFd w with | some fd => (match fd.body with | .stmts b => b | _ => []) | none => []
def lapOf : List Stmt → List Stmt
  | .For _ _ b _ _ :: _ => b
  | _ :: r => lapOf r
  | [] => []
noncomputable def lapBody (w : PySem.Params) : List Stmt := lapOf (lawStmts w)
theorem lines_X18_2 : True := by
  k_with "call ref" => (k_here; (with_reducible show wpAny _ _ (call (Value.ref 296) _) _ _ _); k_dflt (refine' halt ?_))
  k_with "call ref" => (k_here; (with_reducible show wpAny _ _ (call (Value.ref 638) _) _ _ _); k_dflt (refine' halt ?_))
  k_with "call ref" => (k_here; (with_reducible show wpAny _ _ (call (Value.ref 652) _) _ _ _); k_dflt (refine' halt ?_))
  k_with "exec Assign cons ListComp" => (k_here; k_dflt (refine' halt ?_))
  k_with "compareOp NotEq ref ref" => (k_here; (with_reducible show wpAny _ _ (compareOp CmpOp.NotEq (Value.ref _) (Value.ref _)) _ _ _); k_dflt (first | (refine' ne_ints2 ?kqyN ?kqya ?kqyb ?kqyi ?kqyj ?kqyu ?_; (case kqyN => k_asm); (case kqya => k_mem); (case kqyb => k_mem); (case kqyi => k_asm); (case kqyj => k_asm); (case kqyu => ke_room); k_whole) | (refine' ne_nil ?kqyN ?kqya ?kqyb ?kqyu ?_; (case kqyN => k_asm); (case kqya => k_mem); (case kqyb => k_mem); (case kqyu => ke_room); k_whole)))
  trivial
/-- a goal that nobody unfolds -/
structure Stand (p : Prop) : Prop where
  out : p
abbrev lamQ : Str := Str.ofString "law" ++ Str.ofString ".<locals>." ++ Str.ofString "<lambda>"
/-- the list of draws lies below the deck, apart from the law's own cells -/
def Low (L D A : Addr) : Prop := @LT.lt Nat _ (L + 1 + 1 + 1 + 1) D ∧ @LT.lt Nat _ A D ∧ @Ne Nat A D ∧ @Ne Nat A 654 ∧ @Ne Nat A (L + 1) ∧ @Ne Nat A (L + 1 + 1) ∧ @Ne Nat A (L + 1 + 1 + 1) ∧ @Ne Nat A (L + 1 + 1 + 1 + 1)
/-- a list apart from all that a lap turns -/
def Clr (L D db dg c x : Addr) : Prop := @Ne Nat x D ∧ @Ne Nat x db ∧ @Ne Nat x dg ∧ @Ne Nat x c ∧ @Ne Nat x (L + 1) ∧ @Ne Nat x (L + 1 + 1) ∧ @Ne Nat x (L + 1 + 1 + 1) ∧ @Ne Nat x (L + 1 + 1 + 1 + 1) ∧ @Ne Nat x 654
theorem clr_of {L D db dg c x ls : Addr} (h : @LT.lt Nat _ ls x) (a1 : @LT.lt Nat _ D ls) (a2 : @LT.lt Nat _ db ls) (a3 : @LT.lt Nat _ dg ls) (a4 : @LT.lt Nat _ c ls) (a8 : @LT.lt Nat _ (L + 1 + 1 + 1 + 1) ls) (a9 : @LT.lt Nat _ 654 ls) : Clr L D db dg c x := by
  have c8 : @LT.lt Nat _ (L + 1 + 1 + 1 + 1) x := Nat.lt_trans a8 h
  have c7 : @LT.lt Nat _ (L + 1 + 1 + 1) x := Nat.lt_of_succ_lt c8
  have c6 : @LT.lt Nat _ (L + 1 + 1) x := Nat.lt_of_succ_lt c7
  have c5 : @LT.lt Nat _ (L + 1) x := Nat.lt_of_succ_lt c6
  exact ⟨Nat.ne_of_gt (Nat.lt_trans a1 h), Nat.ne_of_gt (Nat.lt_trans a2 h), Nat.ne_of_gt (Nat.lt_trans a3 h), Nat.ne_of_gt (Nat.lt_trans a4 h), Nat.ne_of_gt c5, Nat.ne_of_gt c6, Nat.ne_of_gt c7, Nat.ne_of_gt c8, Nat.ne_of_gt (Nat.lt_trans a9 h)⟩
theorem low_chain {L D b db g dg c mk dm rw ls : Addr} (ap : Apart [db, b, dg, g, c, dm, mk, rw, ls]) (ap2 : Apart [654, L, D, db]) (h : @LT.lt Nat _ (L + 1 + 1 + 1 + 1) D) :
 Apart [654, L, L + 1, L + 1 + 1, L + 1 + 1 + 1, L + 1 + 1 + 1 + 1, D, db, b, dg, g, c, dm, mk, rw, ls] :=
  ⟨ap2.1, Nat.lt_succ_self _, Nat.lt_succ_self _, Nat.lt_succ_self _, Nat.lt_succ_self _, h, ap2.2.2.1, ap⟩
/-- what stands at the head of a lap -/
inductive LapSt (L D A b db g dg c mk dm rw ls : Addr) (vs0 : List Value) (n1 n2 : Nat) (K : BKeys) (G : GKeys) (hm : Int) (km : Tok) (orw : Obj) (nl : Nat) (kp : List (Addr × Obj)) (i : Nat) (m : Str → Option Value) (news : List (Addr × Obj)) : Prop
  | mk (kx : Int) (tx : Tok) (vs : List Value) (ns : List Int) (nv : Nat) (gs : Int) (t3 : Tok) (ge : Int) (t4 : Tok) (pt : Int) (p1 : Tok) (zv : Int) (z1 : Tok) (ro : Bool) (tq : Int) (t1 : Tok) (ck : Int) (c1 : Tok) (sk : Int) (s1 : Tok) (cl' : Addr) (cvs : List Value) (nc : Nat) (o1 o2 o3 o4 : Obj) (ps : Array Value) (kc tl : List (Addr × Obj))
    (c0 : news = (D, listOf #[.ref A, .int kx tx] n1) :: (A, listOf vs0.toArray n2) :: (b, instObj 622 db) :: (db, bufD K g mk ls pt p1 zv z1 ro tq t1 ck c1 sk s1) :: (g, instObj 411 dg) :: (dg, gapD G c gs t3 ge t4) :: (c, listOf vs.toArray nv) :: (mk, instObj 481 dm) :: (dm, mkD hm km rw) :: (rw, orw) :: (ls, listOf #[] nl) :: (cl', listOf cvs.toArray nc) :: (L + 1, o1) :: (L + 1 + 1, o2) :: (L + 1 + 1 + 1, o3) :: (L + 1 + 1 + 1 + 1, o4) :: (654, tabObj ps) :: tl)
    (c1 : m (Str.ofString "deck") = some (.ref D) ∧ m (Str.ofString "codes") = some (.ref cl'))
    (c2 : IntsAre vs ns ∧ ns.length ≤ 100 + 100 * i ∧ 0 ≤ gs ∧ gs ≤ ge ∧ ge ≤ ns.length ∧ zv = ns.length - ge + gs + 1 ∧ IntsAre cvs (gtext ns gs ge) ∧ (gtext ns gs ge).length ≤ 10 + 40 * i ∧ 0 ≤ kx ∧ kx ≤ 10 + 20 * i)
    (c3 : (∃ v, o1.data = .cell v) ∧ o2.data = .cell (some (.ref b)) ∧ (∃ v, o3.data = .cell v) ∧ (∃ v, o4.data = .cell v))
    (c4 : Lams ls lamQ kp ps kc ∧ (∀ q ∈ kc, q ∈ tl) ∧ Clr L D db dg c cl')
    (c5 : (∀ q ∈ tl, q.1 ≠ D) ∧ (∀ q ∈ tl, q.1 ≠ db) ∧ (∀ q ∈ tl, q.1 ≠ dg) ∧ (∀ q ∈ tl, q.1 ≠ c) ∧ (∀ q ∈ tl, q.1 ≠ L + 1) ∧ (∀ q ∈ tl, q.1 ≠ L + 1 + 1) ∧ (∀ q ∈ tl, q.1 ≠ L + 1 + 1 + 1) ∧ (∀ q ∈ tl, q.1 ≠ L + 1 + 1 + 1 + 1) ∧ (∀ q ∈ tl, q.1 ≠ 654)) : LapSt L D A b db g dg c mk dm rw ls vs0 n1 n2 K G hm km orw nl kp i m news
variable {prog : Program} {w : World} {p : Program} {loose : List Str} {mean : ExcName → Option Value} {mg mb : Str → Option Value} {cn : Str} {cs : Scope} {a : Addr} {ccd : Value} {cl : List (Str × Addr)} {outer : List Env} {A₀ : Around} {base h₀ : Heap} {L : Addr} {m : Str → Option Value} {s : Shared} {Q E : Value → Shared → Prop} in
theorem edits_spec2 {D A ls : Addr} {nl : Nat} {vs : List Value} {ns : List Int} {k z : Int} {t tz : Tok} {n1 n2 : Nat} {news rest : List (Addr × Obj)}
 (C : Cx w p loose mean mg mb A₀ base outer h₀ L s.heap m cs) (N : News h₀ L s.heap news) (P : Picks [(D, listOf #[.ref A, .int k t] n1), (A, listOf vs.toArray n2), (ls, listOf #[] nl)] news rest)
 (hne : @Ne Nat A D) (hr : ∀ q ∈ rest, q.1 ≠ D) (hDl : @LT.lt Nat _ D ls) (hAl : @LT.lt Nat _ A ls)
 (hi : IntsAre vs ns) (hlen : ns.length ≤ 63) (h0 : 0 ≤ k) (hk9 : k < 900) (hz0 : 0 ≤ z) (hz1 : z ≤ 100)
 (ret : ∀ el l n0 k' t' h' tk', EdDesc ls (z + 1) l → l.length ≤ 4 → k ≤ k' → k' ≤ k + 13 → Fr h₀ L h' m → News h₀ L h' ((el, listOf (edVals l).toArray n0) :: (D, listOf #[.ref A, .int k' t'] n1) :: (A, listOf vs.toArray n2) :: (ls, listOf #[] nl) :: (rest ++ edEnts l)) → @LT.lt Nat _ ls el → Q (.ref el) { s with heap := h', toks := tk' }) :
 wpAny (model prog w) (ktrTop 930 9300 none cn cs L a ccd cl outer) (call (.ref 638) [.ref D, .int z tz]) Q E s :=
  edits_spec C N P hne hr hDl hAl hi hlen h0 hk9 hz0 hz1 fun el l n0 k' t' h' tk' a1 a2 a3 a4 F' N' a5 => ret el l n0 k' t' h' tk' a1 a2 a3 a4 F' (news_of N' fun q hq => by
    simp only [List.cons_append, List.nil_append, List.mem_cons, List.mem_append] at hq ⊢
    rcases hq with h | h | h | h | h | h <;> simp [h]) a5
variable {prog : Program} {w : World} {p : Program} {loose : List Str} {mean : ExcName → Option Value} {mg mb : Str → Option Value} {cn : Str} {cs : Scope} {a : Addr} {ccd : Value} {cl : List (Str × Addr)} {outer : List Env} {A₀ : Around} {base h₀ : Heap} {L : Addr} {m : Str → Option Value} {s : Shared} {Q E : Value → Shared → Prop} in
theorem ed_off {ls x : Addr} {l : List Ed} {b : Int} (h : EdDesc ls b l) (hx : @LE.le Nat _ x ls) : ∀ q ∈ edEnts l, q.1 ≠ x := by
  induction l generalizing b with
  | nil => intro q hq; cases hq
  | cons d r ih =>
    obtain ⟨_, _, _, _, _, h6, h7, h8⟩ := h
    intro q hq
    rcases List.mem_append.mp hq with hq | hq
    · rcases List.mem_cons.mp hq with rfl | hq
      · exact Nat.ne_of_gt (Nat.lt_of_le_of_lt hx h6)
      · rw [List.mem_singleton.mp hq]; exact Nat.ne_of_gt (Nat.lt_of_le_of_lt hx h7)
    · exact ih h8 q hq
variable {prog : Program} {w : World} {p : Program} {loose : List Str} {mean : ExcName → Option Value} {mg mb : Str → Option Value} {cn : Str} {cs : Scope} {a : Addr} {ccd : Value} {cl : List (Str × Addr)} {outer : List Env} {A₀ : Around} {base h₀ : Heap} {L : Addr} {m : Str → Option Value} {s : Shared} {Q E : Value → Shared → Prop} in
theorem off_app {x : Addr} {l r : List (Addr × Obj)} (h1 : ∀ q ∈ l, q.1 ≠ x) (h2 : ∀ q ∈ r, q.1 ≠ x) : ∀ q ∈ l ++ r, q.1 ≠ x := fun q hq => (List.mem_append.mp hq).elim (h1 q) (h2 q)
variable {prog : Program} {w : World} {p : Program} {loose : List Str} {mean : ExcName → Option Value} {mg mb : Str → Option Value} {cn : Str} {cs : Scope} {a : Addr} {ccd : Value} {cl : List (Str × Addr)} {outer : List Env} {A₀ : Around} {base h₀ : Heap} {L : Addr} {m : Str → Option Value} {s : Shared} {Q E : Value → Shared → Prop} in
theorem ints_empty {vs : List Value} {ns : List Int} (h : IntsAre vs ns) : vs.isEmpty = decide (ns.length = 0) := by
  cases h <;> simp
variable {prog : Program} {w : World} {p : Program} {loose : List Str} {mean : ExcName → Option Value} {mg mb : Str → Option Value} {cn : Str} {cs : Scope} {a : Addr} {ccd : Value} {cl : List (Str × Addr)} {outer : List Env} {A₀ : Around} {base h₀ : Heap} {L : Addr} {m : Str → Option Value} {s : Shared} {Q E : Value → Shared → Prop} in
theorem comp_some {A : Around} {env : Env} {ct elt : PySem.Expr} {x : Str} {scope : Scope} {cl' : List (Str × Addr)} {S : List (Addr × Obj) → Prop} {Fin : List Value → List (Addr × Obj) → Prop} {news : List (Addr × Obj)} {l : List Ed}
  (turn : ∀ (i : Nat) (d : Ed) (ys : List Value) (I : Addr) (oI : Obj) (C : Addr) (oC : Obj) (D : Addr) (m₂ : Str → Option Value) (h : Heap) (tk : Tok) (E' : Value → Shared → Prop) (Rest : List Value → List (Addr × Obj) → Prop), l[i]? = some d → LCg.NsObj oC m₂ → m₂ x = some (.ref d.t) → Fr h₀ L h m → News h₀ L h ((I, oI) :: (C, oC) :: (D, LCg.lst ys) :: news) → LCg.Off3 I C D news → ((@Ne Nat I C) ∧ (@Ne Nat I D) ∧ (@Ne Nat C D)) →
    (d.busy = true → Rest (ys ++ [.ref d.t]) news) → (d.busy = false → Rest ys news) →
    wpAny (model prog w) A (isTrue ct (compEnvC scope cl' C env) (eval ct (compEnvC scope cl' C env))) (fun ok s' => if ok = true then
        wpAny (model prog w) A (eval elt (compEnvC scope cl' C env)) (LCg.CompEnd h₀ L m { s with heap := h, toks := tk } I oI C oC D (LCg.lst ys) S (fun y news' => Rest (ys ++ [y]) news')) E' s'
        else LCg.CompEnd h₀ L m { s with heap := h, toks := tk } I oI C oC D (LCg.lst ys) S (fun _ news' => Rest ys news') Value.none s') E' { s with heap := h, toks := tk })
  (fin : ∀ ys : List Value, (ys.isEmpty = true ↔ ∀ d ∈ l, d.busy = false) → Fin ys news) :
  LCt.CompRestT prog w A h₀ L m env ct elt x scope cl' s S (fun i v => (edVals l).toArray[i]? = some v) Fin (edVals l).toArray.size 0 [] news := by
  have key : ∀ (k i : Nat) (ys : List Value), i + k = l.length → (ys.isEmpty = true ↔ ∀ d ∈ l.take i, d.busy = false) → LCt.CompRestT prog w A h₀ L m env ct elt x scope cl' s S (fun i v => (edVals l).toArray[i]? = some v) Fin k i ys news := by
    intro k
    induction k with
    | zero =>
      intro i ys hik hy
      refine LCt.CompRestT.zero (fin ys ?_)
      rw [List.take_of_length_le (by k_extra "ord")] at hy
      exact hy
    | succ k ih =>
      intro i ys hik hy
      refine LCt.CompRestT.succ fun v I oI C oC D m₂ h tk E' hv hC hx F N off ne => ?_
      have hv2 : (edVals l)[i]? = some v := by simpa using hv
      simp only [edVals, List.getElem?_map] at hv2
      obtain ⟨d, hd, rfl⟩ := Option.map_eq_some_iff.mp hv2
      have htake : l.take (i + 1) = l.take i ++ [d] := by rw [List.take_add_one, hd]; rfl
      refine turn i d ys I oI C oC D m₂ h tk E' (fun ys' news' => LCt.CompRestT prog w A h₀ L m env ct elt x scope cl' s S (fun i v => (edVals l).toArray[i]? = some v) Fin k (i + 1) ys' news') hd hC hx F N off ne (fun hb => ih (i + 1) _ (by k_extra "ord") ?_) (fun hb => ih (i + 1) _ (by k_extra "ord") ?_)
      · rw [htake]
        constructor
        · intro h; simp at h
        · intro h
          have := h d (by simp)
          rw [hb] at this; cases this
      · rw [htake]
        constructor
        · intro h d' hd'
          rcases List.mem_append.mp hd' with h1 | h1
          · exact hy.mp h d' h1
          · rw [List.mem_singleton.mp h1]; exact hb
        · intro h
          exact hy.mpr fun d' hd' => h d' (List.mem_append_left _ hd')
  refine key _ 0 [] (by simp [edVals]) ?_
  constructor
  · intro _ d hd; cases hd
  · intro _; rfl
variable {prog : Program} {w : World} {p : Program} {loose : List Str} {mean : ExcName → Option Value} {mg mb : Str → Option Value} {cn : Str} {cs : Scope} {a : Addr} {ccd : Value} {cl : List (Str × Addr)} {outer : List Env} {A₀ : Around} {base h₀ : Heap} {L : Addr} {m : Str → Option Value} {s : Shared} {Q E : Value → Shared → Prop} in
theorem news_ins {h : Heap} {a b c x y : Addr × Obj} {r : List (Addr × Obj)} (N : News h₀ L h (a :: b :: c :: r)) (k : x ∈ r) (k2 : y ∈ r) : News h₀ L h (a :: b :: c :: x :: y :: r) := by
  obtain ⟨na, N⟩ := List.forall_mem_cons.mp N
  obtain ⟨nb, N⟩ := List.forall_mem_cons.mp N
  obtain ⟨nc, N⟩ := List.forall_mem_cons.mp N
  exact List.forall_mem_cons.mpr ⟨na, List.forall_mem_cons.mpr ⟨nb, List.forall_mem_cons.mpr ⟨nc, List.forall_mem_cons.mpr ⟨N _ k, List.forall_mem_cons.mpr ⟨N _ k2, N⟩⟩⟩⟩⟩
variable {prog : Program} {w : World} {p : Program} {loose : List Str} {mean : ExcName → Option Value} {mg mb : Str → Option Value} {cn : Str} {cs : Scope} {a : Addr} {ccd : Value} {cl : List (Str × Addr)} {outer : List Env} {A₀ : Around} {base h₀ : Heap} {L : Addr} {m : Str → Option Value} {s : Shared} {Q E : Value → Shared → Prop} in
theorem comp_end {h' : Heap} {tk : Nat} {s₁ : Shared} {I C D : Addr} {oI oC oD : Obj} {S : List (Addr × Obj) → Prop} {rest : Value → List (Addr × Obj) → Prop} {y : Value} {all news' : List (Addr × Obj)}
    (F : Fr h₀ L h' m) (N : News h₀ L h' all) (sub : ∀ p ∈ (I, oI) :: (C, oC) :: (D, oD) :: news', p ∈ all) (off : LCg.Off3 I C D news') (hS : S news') (r : rest y news') :
    LCg.CompEnd h₀ L m s₁ I oI C oC D oD S rest y { s₁ with heap := h', toks := tk } := LCg.CompEnd.intro F N news' sub off hS r
variable {prog : Program} {w : World} {p : Program} {loose : List Str} {mean : ExcName → Option Value} {mg mb : Str → Option Value} {cn : Str} {cs : Scope} {a : Addr} {ccd : Value} {cl : List (Str × Addr)} {outer : List Env} {A₀ : Around} {base h₀ : Heap} {L : Addr} {m : Str → Option Value} {s : Shared} {Q E : Value → Shared → Prop} in
theorem lam_any2 {M : Model} {A : Around} {c P : Addr} {clL : List (Str × Addr)} {name qual : Str} {params : Arguments} {body : PySem.Expr} {scope : Scope} {ps : Array Value} {pos : Pos} {firstLine : Nat} {clos : List (Str × Addr)} {news : List (Addr × Obj)} {Q : Value → Shared → Prop} {ls : Addr} {kp : List (Addr × Obj)} {nl : Nat} {k : List (Addr × Obj)} {g : Obj → List (Addr × Obj)} (hq : qual = lamQ) (F : Fr h₀ L s.heap m) (N : News h₀ L s.heap news) (T : Top p loose mean mg mb h₀) (C : CodeHd h₀ c P) (hcd : ccd = .ref c) (U : UpdF P (tabObj ps) news g) (hm : (P, tabObj ps) ∈ news) (hg : g (tabObj ps) = news) (hL : Lams ls lamQ kp ps k) (hk : ∀ q ∈ k, q ∈ news) (hls : (ls, listOf #[] nl) ∈ news)
    (hcl : closureFor scope (envX cn cs L a ccd clL) = pure clos)
    (h : ∀ f c' oc vs t ctv ps' h' tk, Fr h₀ L h' m → News h₀ L h' ((f, kla_obj name lamQ params body scope clos ((mg "__name__").getD .none) c' ctv) :: (c', oc) :: g (tabObj ps')) → Lams ls lamQ kp ps' ((c', oc) :: k) →
      oc.data = .fields vs → vs[1]? = some (.str lamQ t) → (∀ q ∈ news, q.1 < f) → @LT.lt Nat _ c' f → @LT.lt Nat _ ls c' → Q (.ref f) { s with heap := h', toks := tk }) :
    wpAny M A (makeFunction name qual params (.expr body) scope (envX cn cs L a ccd clL) [] [] [] pos firstLine) Q E s := by
  subst hq
  exact lam_any F N T C hcd U hm hg hL hk hls hcl h
variable {prog : Program} {w : World} {p : Program} {loose : List Str} {mean : ExcName → Option Value} {mg mb : Str → Option Value} {cn : Str} {cs : Scope} {a : Addr} {ccd : Value} {cl : List (Str × Addr)} {outer : List Env} {A₀ : Around} {base h₀ : Heap} {L : Addr} {m : Str → Option Value} {s : Shared} {Q E : Value → Shared → Prop} in
theorem kc_lit {k r : List (Addr × Obj)} {x : Addr × Obj} (h : ∀ q ∈ k, q ∈ r) : ∀ q ∈ k, q ∈ x :: r := fun q hq => .tail _ (h q hq)
variable {prog : Program} {w : World} {p : Program} {loose : List Str} {mean : ExcName → Option Value} {mg mb : Str → Option Value} {cn : Str} {cs : Scope} {a : Addr} {ccd : Value} {cl : List (Str × Addr)} {outer : List Env} {A₀ : Around} {base h₀ : Heap} {L : Addr} {m : Str → Option Value} {s : Shared} {Q E : Value → Shared → Prop} in
theorem kc_cons {k r : List (Addr × Obj)} {x : Addr × Obj} (h1 : x ∈ r) (h : ∀ q ∈ k, q ∈ r) : ∀ q ∈ x :: k, q ∈ r := fun q hq => by
  rcases List.mem_cons.mp hq with rfl | hq
  · exact h1
  · exact h q hq
theorem lines_X18_3 : True := by
  k_with "eval Lambda" => (k_here; k_dflt (refine' kla_eval ?kqyd0 ?_; (case kqyd0 => exact rfl)); k_dflt (refine' lam_any2 ?kqyq ?kqyF ?kqyN ?kqyT ?kqyC ?kqycd ?kqyU ?kqym ?kqyg ?kqyL ?kqyk ?kqyl ?kqycl ?_; (case kqyq => exact rfl); (case kqyF => k_asm); (case kqyN => k_asm); (case kqyT => k_asm); (case kqycd => exact rfl); (case kqyC => kn_code); (case kqyU => k_updF); (case kqym => k_mem); (case kqyg => exact rfl); (case kqyL => k_asm); (case kqyk => (repeat (first | (refine' kc_cons ?kqyk1 ?kqyk2; (case kqyk1 => k_mem)) | with_reducible assumption | refine' kc_lit ?_))); (case kqyl => k_mem); (case kqycl => exact rfl); k_whole); intro f' c' oc' vs' t' ct' ps' h' tk' F' N' L' d1' d2' l1 l2 l3; (try dsimp only at N'))
  trivial
variable {prog : Program} {w : World} {p : Program} {loose : List Str} {mean : ExcName → Option Value} {mg mb : Str → Option Value} {cn : Str} {cs : Scope} {a : Addr} {ccd : Value} {cl : List (Str × Addr)} {outer : List Env} {A₀ : Around} {base h₀ : Heap} {L : Addr} {m : Str → Option Value} {s : Shared} {Q E : Value → Shared → Prop} in
theorem sig_same {f : Addr} {fd : FuncData} {sy : Str} {news : List (Addr × Obj)} {P1 P2 : Prop}
 (C : Cx w p loose mean mg mb A₀ h₀ outer h₀ L s.heap m cs) (N : News h₀ L s.heap news) (hf : (f, ({ cls := .type "function", data := .func fd } : Obj)) ∈ news)
 (call_ : ∀ (g : Heap) (L' : Addr) (h₁ : Heap) (tk : Nat) (A₁ : Around) (Q₁ : Value → Shared → Prop) (E₁ : Value → Shared → Prop) (m₁ : Str → Option Value), Cx w p loose mean mg mb A₁ h₀ (envX cn cs L a ccd cl :: outer) g L' h₁ m₁ sigSc → News g L' h₁ news → (∀ p ∈ news, @LT.lt Nat _ p.1 L') → (∀ q ∈ [(L, m)], g.Ns q.1 q.2) →
   (∀ v h' tk', P1 → Fr g L' h' m₁ → News g L' h' news → Q₁ v { s with heap := h', toks := tk' }) →
   (∀ e h' tk', P2 → Fly h₀ (sigEnv L' :: envX cn cs L a ccd cl :: outer) e sy [(L', m₁), (L, m)] news h' → E₁ (.ref e) { s with heap := h', toks := tk' }) →
   wpAny (model prog w) (ktrTop 861 8603 none (Str.ofString "_law_signal") sigSc L' 652 (.ref 651) [] (envX cn cs L a ccd cl :: outer)) (call (.ref f) []) Q₁ E₁ { s with heap := h₁, toks := tk })
 (retN : ∀ t h' tk', P1 → Fr h₀ L h' m → News h₀ L h' news → Q (.str (Str.ofString "") t) { s with heap := h', toks := tk' })
 (retE : ∀ t h' tk', P2 → Fr h₀ L h' m → News h₀ L h' news → Q (.str sy t) { s with heap := h', toks := tk' }) :
 wpAny (model prog w) (ktrTop 860 8600 none cn cs L a ccd cl outer) (call (.ref 652) [.ref f]) Q E s :=
  sig_spec (Post₁ := fun n => n = news ∧ P1) (Post₂ := fun n => n = news ∧ P2) C N hf
    (fun g L' h₁ tk A₁ Q₁ E₁ m₁ C1 N1 hl hn hq he => call_ g L' h₁ tk A₁ Q₁ E₁ m₁ C1 N1 hl hn (fun v h' tk' p1 F2 N2 => hq v h' tk' news ⟨rfl, p1⟩ F2 N2) (fun e h' tk' p2 x => he e h' tk' news ⟨rfl, p2⟩ x))
    (fun t h' tk' n hp F2 N2 => by obtain ⟨rfl, p1⟩ := hp; exact retN t h' tk' p1 F2 N2)
    (fun t h' tk' n hp F2 N2 => by obtain ⟨rfl, p2⟩ := hp; exact retE t h' tk' p2 F2 N2)
variable {prog : Program} {w : World} {p : Program} {loose : List Str} {mean : ExcName → Option Value} {mg mb : Str → Option Value} {cn : Str} {cs : Scope} {a : Addr} {ccd : Value} {cl : List (Str × Addr)} {outer : List Env} {A₀ : Around} {base h₀ : Heap} {L : Addr} {m : Str → Option Value} {s : Shared} {Q E : Value → Shared → Prop} in
theorem lap_news {hh : Heap} {x1 x2 x3 x4 x5 x6 y1 y2 y3 y4 y5 y6 y7 y8 y9 z1 z2 z3 z4 z5 z6 z7 z8 z9 : Addr × Obj} {tl : List (Addr × Obj)}
 (N : News h₀ L hh (x1 :: x2 :: x3 :: x4 :: x5 :: y1 :: y2 :: x6 :: z9 :: y3 :: y4 :: y5 :: y6 :: y7 :: y8 :: y9 :: z1 :: z2 :: z3 :: z4 :: z5 :: z6 :: z7 :: z8 :: tl)) :
 News h₀ L hh (y1 :: y2 :: y3 :: y4 :: y5 :: y6 :: y7 :: y8 :: y9 :: z1 :: z2 :: z3 :: z4 :: z5 :: z6 :: z7 :: z8 :: z9 :: tl) := news_sel N 24 [5, 6, 9, 10, 11, 12, 13, 14, 15, 16, 17, 18, 19, 20, 21, 22, 23, 8]
variable {prog : Program} {w : World} {p : Program} {loose : List Str} {mean : ExcName → Option Value} {mg mb : Str → Option Value} {cn : Str} {cs : Scope} {a : Addr} {ccd : Value} {cl : List (Str × Addr)} {outer : List Env} {A₀ : Around} {base h₀ : Heap} {L : Addr} {m : Str → Option Value} {s : Shared} {Q E : Value → Shared → Prop} in
theorem off_cons {ls x c' : Addr} {o : Obj} {tl : List (Addr × Obj)} (h1 : @LT.lt Nat _ ls c') (h2 : @LT.lt Nat _ x ls) (hu : ∀ q ∈ tl, q.1 ≠ x) : ∀ q ∈ (c', o) :: tl, q.1 ≠ x := fun q hq => by
  rcases List.mem_cons.mp hq with rfl | hq
  · exact Nat.ne_of_gt (Nat.lt_trans h2 h1)
  · exact hu q hq
def lap5_spec_H (gd : Option (List Code)) (fa : Addr) (D : Addr) (A : Addr) (b : Addr) (db : Addr) (g : Addr) (dg : Addr) (c : Addr) (mk : Addr) (dm : Addr) (rw : Addr) (ls : Addr) (vs0 : List Value) (ns0 : List Int) (n1 : Nat) (n2 : Nat) (K : BKeys) (G : GKeys) (hm : Int) (km : Tok) (orw : Obj) (kp : List (Addr × Obj)) (nl : Nat) (i : Nat) (news : List (Addr × Obj)) (Q : Flow → Shared → Prop) (kx : Int) (tx : Tok) (vs : List Value) (ns : List Int) (nv : Nat) (gs : Int) (t3 : Tok) (ge : Int) (t4 : Tok) (pt : Int) (p1 : Tok) (zv : Int) (z1 : Tok) (ro : Bool) (tq : Int) (t1 : Tok) (ck : Int) (c1 : Tok) (sk : Int) (s1 : Tok) (cl' : Addr) (cvs : List Value) (nc : Nat) (o1 : Obj) (o2 : Obj) (o3 : Obj) (o4 : Obj) (ps : Array Value) (kc : List (Addr × Obj)) (tl : List (Addr × Obj)) (place : Int) (tp : Tok) (prog : Program) (w : World) (p : Program) (loose : List Str) (mean : ExcName → Option Value) (mg : Str → Option Value) (mb : Str → Option Value) (A₀ : Around) (h₀ : Heap) (L : Addr) (m : Str → Option Value) (s : Shared) (E : Value → Shared → Prop) (zR : Prop) : Prop := ∀ (C : Cx w p loose mean mg mb A₀ h₀ [] h₀ L s.heap m (lawSc w.params)) (HC : CodeHd h₀ 656 654) (N : News h₀ L s.heap news) (P : Picks [(D, listOf #[.ref A, .int kx tx] n1), (A, listOf vs0.toArray n2), (b, instObj 622 db), (db, bufD K g mk ls pt p1 zv z1 ro tq t1 ck c1 sk s1), (g, instObj 411 dg), (dg, gapD G c gs t3 ge t4), (c, listOf vs.toArray nv), (mk, instObj 481 dm), (dm, mkD hm km rw), (rw, orw), (ls, listOf #[] nl), (cl', listOf cvs.toArray nc), (L + 1, o1), (L + 1 + 1, o2), (L + 1 + 1 + 1, o3), (L + 1 + 1 + 1 + 1, o4), (654, tabObj ps)] news tl) (ap : Apart [db, b, dg, g, c, dm, mk, rw, ls]) (ap2 : Apart [654, L, D, db]) (ap3 : Low L D A) (hi0 : IntsAre vs0 ns0) (hlen0 : ns0.length ≤ 63) (hr : G.room = 8) (lo : (rw == sysModules) = false) (d1 : orw.IsDictOf (strKind prog w) []) (d2 : orw.IsDictOf (intKind prog w) []) (hi3 : i < 3) (hi : IntsAre vs ns) (h0 : 0 ≤ gs) (h1 : gs ≤ ge) (h2 : ge ≤ ns.length) (hz : zv = ns.length - ge + gs + 1) (hlen : ns.length ≤ 100 + 100 * (i + 1)) (hci : IntsAre cvs (gtext ns gs ge)) (hcl : (gtext ns gs ge).length ≤ 10 + 40 * (i + 1)) (hk0 : 0 ≤ kx) (hk9 : kx ≤ 10 + 20 * (i : Int) + 15) (e1 : o1.data = .cell (some (.int place tp))) (e2 : o2.data = .cell (some (.ref b))) (e3 : ∃ v, o3.data = .cell v) (e4 : ∃ v, o4.data = .cell v) (hL : Lams ls lamQ kp ps kc) (hkc : ∀ q ∈ kc, q ∈ tl) (hlc : @LT.lt Nat _ ls cl') (u1 : ∀ q ∈ tl, q.1 ≠ D) (u2 : ∀ q ∈ tl, q.1 ≠ db) (u3 : ∀ q ∈ tl, q.1 ≠ dg) (u4 : ∀ q ∈ tl, q.1 ≠ c) (u5 : ∀ q ∈ tl, q.1 ≠ L + 1) (u6 : ∀ q ∈ tl, q.1 ≠ L + 1 + 1) (u7 : ∀ q ∈ tl, q.1 ≠ L + 1 + 1 + 1) (u8 : ∀ q ∈ tl, q.1 ≠ L + 1 + 1 + 1 + 1) (u9 : ∀ q ∈ tl, q.1 ≠ 654) (md : m (Str.ofString "deck") = some (.ref D)) (mc : m (Str.ofString "codes") = some (.ref cl')) (ret : ∀ h' tk' m' news', Fr h₀ L h' m' → News h₀ L h' news' → LapSt L D A b db g dg c mk dm rw ls vs0 n1 n2 K G hm km orw nl kp (i + 1) m' news' → Q .next { s with heap := h', toks := tk' }), zR
abbrev lap5_spec_P : Type := ((((((((Option (List Code)) × Addr) × Addr) × (Addr × Addr)) × ((Addr × Addr) × (Addr × Addr))) × ((((Addr × Addr) × Addr) × (Addr × (List Value))) × (((List Int) × Nat) × (Nat × BKeys)))) × (((((GKeys × Int) × Tok) × (Obj × (List (Addr × Obj)))) × ((Nat × Nat) × ((List (Addr × Obj)) × (Flow → Shared → Prop)))) × ((((Int × Tok) × (List Value)) × ((List Int) × Nat)) × ((Int × Tok) × (Int × Tok))))) × ((((((Int × Tok) × Int) × (Tok × Bool)) × ((Int × Tok) × (Int × Tok))) × ((((Int × Tok) × Addr) × ((List Value) × Nat)) × ((Obj × Obj) × (Obj × Obj)))) × ((((((Array Value) × (List (Addr × Obj))) × (List (Addr × Obj))) × (Int × Tok)) × ((Program × World) × (Program × (List Str)))) × (((((ExcName → Option Value) × (Str → Option Value)) × (Str → Option Value)) × (Around × Heap)) × ((Addr × (Str → Option Value)) × (Shared × (Value → Shared → Prop)))))))
def lap5_spec_S (gd : Option (List Code)) (fa : Addr) (D : Addr) (A : Addr) (b : Addr) (db : Addr) (g : Addr) (dg : Addr) (c : Addr) (mk : Addr) (dm : Addr) (rw : Addr) (ls : Addr) (vs0 : List Value) (ns0 : List Int) (n1 : Nat) (n2 : Nat) (K : BKeys) (G : GKeys) (hm : Int) (km : Tok) (orw : Obj) (kp : List (Addr × Obj)) (nl : Nat) (i : Nat) (news : List (Addr × Obj)) (Q : Flow → Shared → Prop) (kx : Int) (tx : Tok) (vs : List Value) (ns : List Int) (nv : Nat) (gs : Int) (t3 : Tok) (ge : Int) (t4 : Tok) (pt : Int) (p1 : Tok) (zv : Int) (z1 : Tok) (ro : Bool) (tq : Int) (t1 : Tok) (ck : Int) (c1 : Tok) (sk : Int) (s1 : Tok) (cl' : Addr) (cvs : List Value) (nc : Nat) (o1 : Obj) (o2 : Obj) (o3 : Obj) (o4 : Obj) (ps : Array Value) (kc : List (Addr × Obj)) (tl : List (Addr × Obj)) (place : Int) (tp : Tok) (prog : Program) (w : World) (p : Program) (loose : List Str) (mean : ExcName → Option Value) (mg : Str → Option Value) (mb : Str → Option Value) (A₀ : Around) (h₀ : Heap) (L : Addr) (m : Str → Option Value) (s : Shared) (E : Value → Shared → Prop) : Prop := lap5_spec_H gd fa D A b db g dg c mk dm rw ls vs0 ns0 n1 n2 K G hm km orw kp nl i news Q kx tx vs ns nv gs t3 ge t4 pt p1 zv z1 ro tq t1 ck c1 sk s1 cl' cvs nc o1 o2 o3 o4 ps kc tl place tp prog w p loose mean mg mb A₀ h₀ L m s E (Stand (wpAny (model prog w) (ktrTop 400 400 gd (Str.ofString "law") (lawSc w.params) L fa (.ref 656) (cellsFrom (L + 1) (lawSc w.params).names []) []) (execs ((lapBody w.params).drop 12) (envX (Str.ofString "law") (lawSc w.params) L fa (.ref 656) (cellsFrom (L + 1) (lawSc w.params).names []))) Q E s))
abbrev lap5_spec_F (x : lap5_spec_P) : Prop := lap5_spec_S (x.1.1.1.1.1.1.1) (x.1.1.1.1.1.1.2) (x.1.1.1.1.1.2) (x.1.1.1.1.2.1) (x.1.1.1.1.2.2) (x.1.1.1.2.1.1) (x.1.1.1.2.1.2) (x.1.1.1.2.2.1) (x.1.1.1.2.2.2) (x.1.1.2.1.1.1.1) (x.1.1.2.1.1.1.2) (x.1.1.2.1.1.2) (x.1.1.2.1.2.1) (x.1.1.2.1.2.2) (x.1.1.2.2.1.1) (x.1.1.2.2.1.2) (x.1.1.2.2.2.1) (x.1.1.2.2.2.2) (x.1.2.1.1.1.1.1) (x.1.2.1.1.1.1.2) (x.1.2.1.1.1.2) (x.1.2.1.1.2.1) (x.1.2.1.1.2.2) (x.1.2.1.2.1.1) (x.1.2.1.2.1.2) (x.1.2.1.2.2.1) (x.1.2.1.2.2.2) (x.1.2.2.1.1.1.1) (x.1.2.2.1.1.1.2) (x.1.2.2.1.1.2) (x.1.2.2.1.2.1) (x.1.2.2.1.2.2) (x.1.2.2.2.1.1) (x.1.2.2.2.1.2) (x.1.2.2.2.2.1) (x.1.2.2.2.2.2) (x.2.1.1.1.1.1.1) (x.2.1.1.1.1.1.2) (x.2.1.1.1.1.2) (x.2.1.1.1.2.1) (x.2.1.1.1.2.2) (x.2.1.1.2.1.1) (x.2.1.1.2.1.2) (x.2.1.1.2.2.1) (x.2.1.1.2.2.2) (x.2.1.2.1.1.1.1) (x.2.1.2.1.1.1.2) (x.2.1.2.1.1.2) (x.2.1.2.1.2.1) (x.2.1.2.1.2.2) (x.2.1.2.2.1.1) (x.2.1.2.2.1.2) (x.2.1.2.2.2.1) (x.2.1.2.2.2.2) (x.2.2.1.1.1.1.1) (x.2.2.1.1.1.1.2) (x.2.2.1.1.1.2) (x.2.2.1.1.2.1) (x.2.2.1.1.2.2) (x.2.2.1.2.1.1) (x.2.2.1.2.1.2) (x.2.2.1.2.2.1) (x.2.2.1.2.2.2) (x.2.2.2.1.1.1.1) (x.2.2.2.1.1.1.2) (x.2.2.2.1.1.2) (x.2.2.2.1.2.1) (x.2.2.2.1.2.2) (x.2.2.2.2.1.1) (x.2.2.2.2.1.2) (x.2.2.2.2.2.1) (x.2.2.2.2.2.2)
theorem lap5_spec_ex : ∃ x : lap5_spec_P, lap5_spec_F x → ∀ y : lap5_spec_P, lap5_spec_F y := drinker ⟨(((((((none, (0 : Nat)), (0 : Nat)), ((0 : Nat), (0 : Nat))), (((0 : Nat), (0 : Nat)), ((0 : Nat), (0 : Nat)))), (((((0 : Nat), (0 : Nat)), (0 : Nat)), ((0 : Nat), [])), (([], 0), (0, bkeys0)))), (((((gkeys0, 0), (0 : Nat)), (default, [])), ((0, 0), ([], fun _ _ => True))), ((((0, (0 : Nat)), []), ([], 0)), ((0, (0 : Nat)), (0, (0 : Nat)))))), ((((((0, (0 : Nat)), 0), ((0 : Nat), false)), ((0, (0 : Nat)), (0, (0 : Nat)))), ((((0, (0 : Nat)), (0 : Nat)), ([], 0)), ((default, default), (default, default)))), (((((#[], []), []), (0, (0 : Nat))), ((default, world0), (default, []))), ((((fun _ => none, fun _ => none), fun _ => none), ({}, default)), (((0 : Nat), fun _ => none), ({}, fun _ _ => True))))))⟩
noncomputable def lap5_spec_x : lap5_spec_P := lap5_spec_ex.choose
namespace lap5_spec_n
noncomputable def gd : Option (List Code) := lap5_spec_x.1.1.1.1.1.1.1
noncomputable def fa : Addr := lap5_spec_x.1.1.1.1.1.1.2
noncomputable def D : Addr := lap5_spec_x.1.1.1.1.1.2
noncomputable def A : Addr := lap5_spec_x.1.1.1.1.2.1
noncomputable def b : Addr := lap5_spec_x.1.1.1.1.2.2
noncomputable def db : Addr := lap5_spec_x.1.1.1.2.1.1
noncomputable def g : Addr := lap5_spec_x.1.1.1.2.1.2
noncomputable def dg : Addr := lap5_spec_x.1.1.1.2.2.1
noncomputable def c : Addr := lap5_spec_x.1.1.1.2.2.2
noncomputable def mk : Addr := lap5_spec_x.1.1.2.1.1.1.1
noncomputable def dm : Addr := lap5_spec_x.1.1.2.1.1.1.2
noncomputable def rw : Addr := lap5_spec_x.1.1.2.1.1.2
noncomputable def ls : Addr := lap5_spec_x.1.1.2.1.2.1
noncomputable def vs0 : List Value := lap5_spec_x.1.1.2.1.2.2
noncomputable def ns0 : List Int := lap5_spec_x.1.1.2.2.1.1
noncomputable def n1 : Nat := lap5_spec_x.1.1.2.2.1.2
noncomputable def n2 : Nat := lap5_spec_x.1.1.2.2.2.1
noncomputable def K : BKeys := lap5_spec_x.1.1.2.2.2.2
noncomputable def G : GKeys := lap5_spec_x.1.2.1.1.1.1.1
noncomputable def hm : Int := lap5_spec_x.1.2.1.1.1.1.2
noncomputable def km : Tok := lap5_spec_x.1.2.1.1.1.2
noncomputable def orw : Obj := lap5_spec_x.1.2.1.1.2.1
noncomputable def kp : List (Addr × Obj) := lap5_spec_x.1.2.1.1.2.2
noncomputable def nl : Nat := lap5_spec_x.1.2.1.2.1.1
noncomputable def i : Nat := lap5_spec_x.1.2.1.2.1.2
noncomputable def news : List (Addr × Obj) := lap5_spec_x.1.2.1.2.2.1
noncomputable def Q : Flow → Shared → Prop := lap5_spec_x.1.2.1.2.2.2
noncomputable def kx : Int := lap5_spec_x.1.2.2.1.1.1.1
noncomputable def tx : Tok := lap5_spec_x.1.2.2.1.1.1.2
noncomputable def vs : List Value := lap5_spec_x.1.2.2.1.1.2
noncomputable def ns : List Int := lap5_spec_x.1.2.2.1.2.1
noncomputable def nv : Nat := lap5_spec_x.1.2.2.1.2.2
noncomputable def gs : Int := lap5_spec_x.1.2.2.2.1.1
noncomputable def t3 : Tok := lap5_spec_x.1.2.2.2.1.2
noncomputable def ge : Int := lap5_spec_x.1.2.2.2.2.1
noncomputable def t4 : Tok := lap5_spec_x.1.2.2.2.2.2
noncomputable def pt : Int := lap5_spec_x.2.1.1.1.1.1.1
noncomputable def p1 : Tok := lap5_spec_x.2.1.1.1.1.1.2
noncomputable def zv : Int := lap5_spec_x.2.1.1.1.1.2
noncomputable def z1 : Tok := lap5_spec_x.2.1.1.1.2.1
noncomputable def ro : Bool := lap5_spec_x.2.1.1.1.2.2
noncomputable def tq : Int := lap5_spec_x.2.1.1.2.1.1
noncomputable def t1 : Tok := lap5_spec_x.2.1.1.2.1.2
noncomputable def ck : Int := lap5_spec_x.2.1.1.2.2.1
noncomputable def c1 : Tok := lap5_spec_x.2.1.1.2.2.2
noncomputable def sk : Int := lap5_spec_x.2.1.2.1.1.1.1
noncomputable def s1 : Tok := lap5_spec_x.2.1.2.1.1.1.2
noncomputable def cl' : Addr := lap5_spec_x.2.1.2.1.1.2
noncomputable def cvs : List Value := lap5_spec_x.2.1.2.1.2.1
noncomputable def nc : Nat := lap5_spec_x.2.1.2.1.2.2
noncomputable def o1 : Obj := lap5_spec_x.2.1.2.2.1.1
noncomputable def o2 : Obj := lap5_spec_x.2.1.2.2.1.2
noncomputable def o3 : Obj := lap5_spec_x.2.1.2.2.2.1
noncomputable def o4 : Obj := lap5_spec_x.2.1.2.2.2.2
noncomputable def ps : Array Value := lap5_spec_x.2.2.1.1.1.1.1
noncomputable def kc : List (Addr × Obj) := lap5_spec_x.2.2.1.1.1.1.2
noncomputable def tl : List (Addr × Obj) := lap5_spec_x.2.2.1.1.1.2
noncomputable def place : Int := lap5_spec_x.2.2.1.1.2.1
noncomputable def tp : Tok := lap5_spec_x.2.2.1.1.2.2
noncomputable def prog : Program := lap5_spec_x.2.2.1.2.1.1
noncomputable def w : World := lap5_spec_x.2.2.1.2.1.2
noncomputable def p : Program := lap5_spec_x.2.2.1.2.2.1
noncomputable def loose : List Str := lap5_spec_x.2.2.1.2.2.2
noncomputable def mean : ExcName → Option Value := lap5_spec_x.2.2.2.1.1.1.1
noncomputable def mg : Str → Option Value := lap5_spec_x.2.2.2.1.1.1.2
noncomputable def mb : Str → Option Value := lap5_spec_x.2.2.2.1.1.2
noncomputable def A₀ : Around := lap5_spec_x.2.2.2.1.2.1
noncomputable def h₀ : Heap := lap5_spec_x.2.2.2.1.2.2
noncomputable def L : Addr := lap5_spec_x.2.2.2.2.1.1
noncomputable def m : Str → Option Value := lap5_spec_x.2.2.2.2.1.2
noncomputable def s : Shared := lap5_spec_x.2.2.2.2.2.1
noncomputable def E : Value → Shared → Prop := lap5_spec_x.2.2.2.2.2.2
set_option maxRecDepth 100000 in
set_option maxHeartbeats 8000000 in
theorem main  : lap5_spec_H gd fa D A b db g dg c mk dm rw ls vs0 ns0 n1 n2 K G hm km orw kp nl i news Q kx tx vs ns nv gs t3 ge t4 pt p1 zv z1 ro tq t1 ck c1 sk s1 cl' cvs nc o1 o2 o3 o4 ps kc tl place tp prog w p loose mean mg mb A₀ h₀ L m s E (Stand (wpAny (model prog w) (ktrTop 400 400 gd (Str.ofString "law") (lawSc w.params) L fa (.ref 656) (cellsFrom (L + 1) (lawSc w.params).names []) []) (execs ((lapBody w.params).drop 12) (envX (Str.ofString "law") (lawSc w.params) L fa (.ref 656) (cellsFrom (L + 1) (lawSc w.params).names []))) Q E s)) := by
  intro C HC N P ap ap2 ap3 hi0 hlen0 hr lo d1 d2 hi3 hi h0 h1 h2 hz hlen hci hcl hk0 hk9 e1 e2 e3 e4 hL hkc hlc u1 u2 u3 u4 u5 u6 u7 u8 u9 md mc ret
  refine ⟨?_⟩
  obtain ⟨B, F, X, T, hk⟩ := C
  have hgl := gtext_length h0 h1 h2
  have ap1 := ap
  have apc := low_chain ap ap2 ap3.1
  simp only [Apart, and_true] at ap1 ap2
  have ap4 := ap3
  unfold Low at ap4
  obtain ⟨hA0, hA1, hA2, hA3, hA4, hA5, hA6, hA7⟩ := ap4
  replace N := news_picks N P
  simp only [List.cons_append, List.nil_append] at N
  have k0 : 0 ≤ kx + 1 + 1 := by k_extra "ord"
  have k9 : kx + 1 + 1 ≤ 10 + 20 * ((i + 1 : Nat) : Int) := by k_extra "ord"
  have a1 : @LT.lt Nat _ D ls := by k_extra "ord"
  have a2 : @LT.lt Nat _ db ls := by k_extra "ord"
  have a3 : @LT.lt Nat _ dg ls := by k_extra "ord"
  have a4 : @LT.lt Nat _ c ls := by k_extra "ord"
  have a5 : @LT.lt Nat _ (L + 1) ls := by k_extra "ord"
  have a6 : @LT.lt Nat _ (L + 1 + 1) ls := by k_extra "ord"
  have a7 : @LT.lt Nat _ (L + 1 + 1 + 1) ls := by k_extra "ord"
  have a8 : @LT.lt Nat _ (L + 1 + 1 + 1 + 1) ls := by k_extra "ord"
  have a9 : @LT.lt Nat _ 654 ls := by k_extra "ord"
  have hmf : m = (fun y => if y = Str.ofString "deck" then some (.ref D) else if y = Str.ofString "codes" then some (.ref cl') else m y) := by
    funext y
    by_cases z0 : y = Str.ofString "deck"
    · rw [if_pos z0, z0]; exact md
    rw [if_neg z0]
    by_cases z1 : y = Str.ofString "codes"
    · rw [if_pos z1, z1]; exact mc
    rw [if_neg z1]
  rw [hmf] at F
  clear hmf
  with_unfolding_all change wpAny _ (ktrTop _ _ _ _ ⟨_, _, _, _, _⟩ _ _ _ [(_, _), (_, _), (_, _), (_, _)] _) (execs [_, _, _, _] (envX _ ⟨_, _, _, _, _⟩ _ _ _ [(_, _), (_, _), (_, _), (_, _)])) _ _ _
  k_steps
  change wpAny _ _ _ _ _ _
  refine around_le (sig_same (sy := Str.ofString "end-of-buffer") (P1 := False) (P2 := True) ⟨by k_asm, by k_asm, by k_asm, by k_asm, rfl⟩ (by k_asm) (.head _) ?zcall ?zn ?ze) (Nat.le_of_ble_eq_true rfl) (Nat.le_of_ble_eq_true rfl)
  case zn => exact fun _ _ _ hf => hf.elim
  case zcall =>
    intro g1 L1 h1 tk1 A₁ Q₁ E₁ m₁ C1 N1 hlt1 hns1 hq1 he1
    obtain ⟨B1, F1, X1, T1, hk1⟩ := C1
    k_steps
    exact fly_on (by k_asm) (by k_asm) fun h' x => he1 _ _ _ trivial (x.tail.sub fun q hq => .tail _ hq)
  case ze =>
    intro t5 h5 tk5 _ F5 N5
    (try dsimp only)
    k_steps
    · exfalso; rename _ ≠ _ => hh; exact hh rfl
    · rename News _ _ _ _ => N7
      rename Fr _ _ _ _ => F7
      rename Lams _ _ _ _ _ => L7
      have N8 := lap_news N7
      exact ret _ _ _ _ F7 N8 ⟨_, _, vs, ns, nv, gs, t3, ge, t4, pt, p1, zv, z1, ro, tq, t1, ck, c1, sk, s1, cl', cvs, nc, o1, o2, o3, o4, _, _, _, rfl, ⟨rfl, rfl⟩, ⟨hi, hlen, h0, h1, h2, hz, hci, hcl, k0, k9⟩, ⟨⟨_, e1⟩, e2, e3, e4⟩, ⟨L7, fun q hq => (List.mem_cons.mp hq).elim (fun h => h ▸ .head _) (fun h => .tail _ (hkc q h)), clr_of hlc a1 a2 a3 a4 a8 a9⟩, ⟨off_cons (L7.far _ (.head _)) a1 u1, off_cons (L7.far _ (.head _)) a2 u2, off_cons (L7.far _ (.head _)) a3 u3, off_cons (L7.far _ (.head _)) a4 u4, off_cons (L7.far _ (.head _)) a5 u5, off_cons (L7.far _ (.head _)) a6 u6, off_cons (L7.far _ (.head _)) a7 u7, off_cons (L7.far _ (.head _)) a8 u8, off_cons (L7.far _ (.head _)) a9 u9⟩⟩
end lap5_spec_n
theorem lap5_spec {prog : Program} {w : World} {p : Program} {loose : List Str} {mean : ExcName → Option Value} {mg : Str → Option Value} {mb : Str → Option Value} {A₀ : Around} {h₀ : Heap} {L : Addr} {m : Str → Option Value} {s : Shared} {E : Value → Shared → Prop} {gd : Option (List Code)} {fa : Addr} {D : Addr} {A : Addr} {b : Addr} {db : Addr} {g : Addr} {dg : Addr} {c : Addr} {mk : Addr} {dm : Addr} {rw : Addr} {ls : Addr} {vs0 : List Value} {ns0 : List Int} {n1 : Nat} {n2 : Nat} {K : BKeys} {G : GKeys} {hm : Int} {km : Tok} {orw : Obj} {kp : List (Addr × Obj)} {nl : Nat} {i : Nat} {news : List (Addr × Obj)} {Q : Flow → Shared → Prop} {kx : Int} {tx : Tok} {vs : List Value} {ns : List Int} {nv : Nat} {gs : Int} {t3 : Tok} {ge : Int} {t4 : Tok} {pt : Int} {p1 : Tok} {zv : Int} {z1 : Tok} {ro : Bool} {tq : Int} {t1 : Tok} {ck : Int} {c1 : Tok} {sk : Int} {s1 : Tok} {cl' : Addr} {cvs : List Value} {nc : Nat} {o1 : Obj} {o2 : Obj} {o3 : Obj} {o4 : Obj} {ps : Array Value} {kc : List (Addr × Obj)} {tl : List (Addr × Obj)} {place : Int} {tp : Tok} : lap5_spec_H gd fa D A b db g dg c mk dm rw ls vs0 ns0 n1 n2 K G hm km orw kp nl i news Q kx tx vs ns nv gs t3 ge t4 pt p1 zv z1 ro tq t1 ck c1 sk s1 cl' cvs nc o1 o2 o3 o4 ps kc tl place tp prog w p loose mean mg mb A₀ h₀ L m s E (Stand (wpAny (model prog w) (ktrTop 400 400 gd (Str.ofString "law") (lawSc w.params) L fa (.ref 656) (cellsFrom (L + 1) (lawSc w.params).names []) []) (execs ((lapBody w.params).drop 12) (envX (Str.ofString "law") (lawSc w.params) L fa (.ref 656) (cellsFrom (L + 1) (lawSc w.params).names []))) Q E s)) := lap5_spec_ex.choose_spec (lap5_spec_n.main ) (((((((gd, fa), D), (A, b)), ((db, g), (dg, c))), ((((mk, dm), rw), (ls, vs0)), ((ns0, n1), (n2, K)))), (((((G, hm), km), (orw, kp)), ((nl, i), (news, Q))), ((((kx, tx), vs), (ns, nv)), ((gs, t3), (ge, t4))))), ((((((pt, p1), zv), (z1, ro)), ((tq, t1), (ck, c1))), ((((sk, s1), cl'), (cvs, nc)), ((o1, o2), (o3, o4)))), (((((ps, kc), tl), (place, tp)), ((prog, w), (p, loose))), ((((mean, mg), mb), (A₀, h₀)), ((L, m), (s, E))))))
end
section
open PySem.Calls
set_option maxRecDepth 100000
theorem lines_X17_0 : True := by
  k_with_none
  trivial
theorem lams_in {ls I : Addr} {oI : Obj} {qual : Str} {ps : Array Value} {kc : List (Addr × Obj)} (h : Lams ls qual [] ps kc) (hI : @LT.lt Nat _ ls I) (hoff : ∀ q ∈ kc, q.1 ≠ I) : Lams ls qual [(I, oI)] ps ((I, oI) :: kc) :=
  ⟨h.tri, fun pos v e => by
    obtain ⟨c', oc, vs, t, a1, a2, a3⟩ := h.code pos v e
    exact ⟨c', oc, vs, t, a1, .tail _ a2, a3⟩,
   fun q hq => by
    rcases List.mem_cons.mp hq with rfl | hq
    · exact hI
    · exact h.far q hq,
   fun q hq => by
    rw [List.mem_singleton.mp hq]
    exact .head _,
   fun pos c' e q hq => by
    obtain ⟨c2, oc, vs, t, a1, a2, a3⟩ := h.code pos _ e
    injection a1 with a1
    rw [List.mem_singleton.mp hq]
    exact fun z => hoff _ a2 (a1.symm.trans z.symm)⟩
theorem lams_out {ls I : Addr} {oI : Obj} {qual : Str} {ps : Array Value} {kc : List (Addr × Obj)} (h : Lams ls qual [(I, oI)] ps kc) : Lams ls qual [] ps (kc.filter fun q => decide (q.1 ≠ I)) :=
  ⟨h.tri, fun pos v e => by
    obtain ⟨c', oc, vs, t, a1, a2, a3⟩ := h.code pos v e
    subst a1
    exact ⟨c', oc, vs, t, rfl, List.mem_filter.mpr ⟨a2, decide_eq_true (Ne.symm (h.apart pos c' e _ (.head _)))⟩, a3⟩,
   fun q hq => h.far q (List.mem_filter.mp hq).1, (fun _ h => nomatch h), fun _ _ _ _ h => nomatch h⟩
theorem apart_last {z : Nat} : ∀ {l : List Nat}, Apart (l ++ [z]) → ∀ x ∈ l, x < z
  | a :: l, h, x, hx => by
    rcases List.mem_cons.mp hx with rfl | hx
    · exact Apart.far h (List.mem_append_right _ (.head _))
    · exact apart_last h.tl x hx
theorem news_filt {l tl tl' : List (Addr × Obj)} {x : Addr × Obj} {h₀ h : Heap} {L : Addr} (N : News h₀ L h (l ++ tl)) (hx : x ∈ tl) (hf : ∀ q ∈ tl', q ∈ tl) : News h₀ L h (x :: (l ++ tl')) := fun q hq =>
  (List.mem_cons.mp hq).elim (fun e => N q (e ▸ List.mem_append_right _ hx)) fun h => (List.mem_append.mp h).elim (fun h => N q (List.mem_append_left _ h)) fun h => N q (List.mem_append_right _ (hf q h))
theorem lapst_in {L D A b db g dg c mk dm rw ls I : Addr} {oI : Obj} {vs0 : List Value} {n1 n2 : Nat} {K : BKeys} {G : GKeys} {hm : Int} {km : Tok} {orw : Obj} {nl i : Nat} {m m' : Str → Option Value} {news : List (Addr × Obj)} {h₀ h : Heap}
 (J : LapSt L D A b db g dg c mk dm rw ls vs0 n1 n2 K G hm km orw nl [] i m news) (N : News h₀ L h ((I, oI) :: news)) (hoff : ∀ p ∈ news, p.1 ≠ I) (hI : @LT.lt Nat _ ls I)
 (a1 : @LT.lt Nat _ D ls) (a2 : @LT.lt Nat _ db ls) (a3 : @LT.lt Nat _ dg ls) (a4 : @LT.lt Nat _ c ls) (a5 : @LT.lt Nat _ (L + 1) ls) (a6 : @LT.lt Nat _ (L + 1 + 1) ls) (a7 : @LT.lt Nat _ (L + 1 + 1 + 1) ls) (a8 : @LT.lt Nat _ (L + 1 + 1 + 1 + 1) ls) (a9 : @LT.lt Nat _ 654 ls)
 (hm1 : m' (Str.ofString "deck") = m (Str.ofString "deck")) (hm2 : m' (Str.ofString "codes") = m (Str.ofString "codes")) :
 ∃ news₂, News h₀ L h news₂ ∧ LapSt L D A b db g dg c mk dm rw ls vs0 n1 n2 K G hm km orw nl [(I, oI)] i m' news₂ := by
  obtain ⟨kx, tx, vs, ns, nv, gs, t3, ge, t4, pt, p1, zv, z1, ro, tq, t1, ck, c1, sk, s1, cl', cvs, nc, o1, o2, o3, o4, ps, kc, tl, rfl, ⟨md, mc⟩, q1, q2, ⟨hL, hkc, hlc⟩, ⟨u1, u2, u3, u4, u5, u6, u7, u8, u9⟩⟩ := J
  refine ⟨_, ?_, kx, tx, vs, ns, nv, gs, t3, ge, t4, pt, p1, zv, z1, ro, tq, t1, ck, c1, sk, s1, cl', cvs, nc, o1, o2, o3, o4, ps, (I, oI) :: kc, (I, oI) :: tl, rfl, ⟨hm1.trans md, hm2.trans mc⟩, q1, q2, ⟨lams_in hL hI (fun q hq => hoff q (List.mem_append_right [_, _, _, _, _, _, _, _, _, _, _, _, _, _, _, _, _] (hkc q hq))), ?_, hlc⟩, ⟨off_cons hI a1 u1, off_cons hI a2 u2, off_cons hI a3 u3, off_cons hI a4 u4, off_cons hI a5 u5, off_cons hI a6 u6, off_cons hI a7 u7, off_cons hI a8 u8, off_cons hI a9 u9⟩⟩
  · exact news_sel N 18 [1, 2, 3, 4, 5, 6, 7, 8, 9, 10, 11, 12, 13, 14, 15, 16, 17, 0]
  · intro q hq
    rcases List.mem_cons.mp hq with rfl | hq
    · exact .head _
    · exact .tail _ (hkc q hq)
theorem lapst_out {L D A b db g dg c mk dm rw ls I : Addr} {oI : Obj} {vs0 : List Value} {n1 n2 : Nat} {K : BKeys} {G : GKeys} {hm : Int} {km : Tok} {orw : Obj} {nl i : Nat} {m : Str → Option Value} {news : List (Addr × Obj)} {h₀ h : Heap}
 (J : LapSt L D A b db g dg c mk dm rw ls vs0 n1 n2 K G hm km orw nl [(I, oI)] i m news) (N : News h₀ L h news) (hI : @LT.lt Nat _ ls I) (hd : ∃ fs, oI.data = .fields fs)
 (ap : Apart [db, b, dg, g, c, dm, mk, rw, ls]) (a0 : @LT.lt Nat _ A D) (a1 : @LT.lt Nat _ D db) (a8 : @LT.lt Nat _ (L + 1 + 1 + 1 + 1) ls) (a9 : @LT.lt Nat _ 654 ls) :
 ∃ news₂, News h₀ L h ((I, oI) :: news₂) ∧ (∀ p ∈ news₂, p.1 ≠ I) ∧ LapSt L D A b db g dg c mk dm rw ls vs0 n1 n2 K G hm km orw nl [] i m news₂ := by
  obtain ⟨kx, tx, vs, ns, nv, gs, t3, ge, t4, pt, p1, zv, z1, ro, tq, t1, ck, c1, sk, s1, cl', cvs, nc, o1, o2, o3, o4, ps, kc, tl, rfl, ⟨md, mc⟩, q1, q2, ⟨hL, hkc, hlc⟩, ⟨u1, u2, u3, u4, u5, u6, u7, u8, u9⟩⟩ := J
  have hIn := hkc _ (hL.keep _ (.head _))
  have hf : ∀ {q : Addr × Obj}, q ∈ tl.filter (fun q => decide (q.1 ≠ I)) → q ∈ tl := fun h => (List.mem_filter.mp h).1
  have hcI : cl' ≠ I := by
    rintro rfl
    have e1 := (N (cl', listOf cvs.toArray nc) (List.mem_append_right [_, _, _, _, _, _, _, _, _, _, _] (.head _))).1
    have e2 := (N (cl', oI) (List.mem_append_right [_, _, _, _, _, _, _, _, _, _, _, _, _, _, _, _, _] hIn)).1
    simp only at e1 e2
    rw [e1] at e2
    obtain ⟨fs, hd⟩ := hd
    rw [← Option.some.inj e2] at hd
    cases hd
  refine ⟨_, ?_, ?_, kx, tx, vs, ns, nv, gs, t3, ge, t4, pt, p1, zv, z1, ro, tq, t1, ck, c1, sk, s1, cl', cvs, nc, o1, o2, o3, o4, ps, kc.filter (fun q => decide (q.1 ≠ I)), tl.filter (fun q => decide (q.1 ≠ I)), rfl, ⟨md, mc⟩, q1, q2, ⟨lams_out hL, ?_, hlc⟩, ⟨fun q h => u1 q (hf h), fun q h => u2 q (hf h), fun q h => u3 q (hf h), fun q h => u4 q (hf h), fun q h => u5 q (hf h), fun q h => u6 q (hf h), fun q h => u7 q (hf h), fun q h => u8 q (hf h), fun q h => u9 q (hf h)⟩⟩
  · exact news_filt (l := [_, _, _, _, _, _, _, _, _, _, _, _, _, _, _, _, _]) N hIn (fun q => hf)
  · have hls : ∀ {x : Nat}, x < ls → x ≠ I := fun h => Nat.ne_of_lt (Nat.lt_trans h hI)
    have q := apart_last (l := [_, _, _, _, _, _, _, _]) ap
    have qdb := q _ (.head _)
    have qD := Nat.lt_trans a1 qdb
    have q8 := fun {x : Nat} (h : x ≤ L + 1 + 1 + 1 + 1) => hls (Nat.lt_of_le_of_lt h a8)
    have fm := fun (x : Addr × Obj) (l : List (Addr × Obj)) (h1 : x.1 ≠ I) (h2 : ∀ p ∈ l, p.1 ≠ I) => (List.forall_mem_cons (p := fun p : Addr × Obj => p.1 ≠ I)).mpr ⟨h1, h2⟩
    exact fm _ _ (hls qD) (fm _ _ (hls (Nat.lt_trans a0 qD)) (fm _ _ (hls (q _ (.tail _ (.head _)))) (fm _ _ (hls qdb) (fm _ _ (hls (q _ (.tail _ (.tail _ (.tail _ (.head _)))))) (fm _ _ (hls (q _ (.tail _ (.tail _ (.head _))))) (fm _ _ (hls (q _ (.tail _ (.tail _ (.tail _ (.tail _ (.head _))))))) (fm _ _ (hls (q _ (.tail _ (.tail _ (.tail _ (.tail _ (.tail _ (.tail _ (.head _))))))))) (fm _ _ (hls (q _ (.tail _ (.tail _ (.tail _ (.tail _ (.tail _ (.head _)))))))) (fm _ _ (hls (q _ (.tail _ (.tail _ (.tail _ (.tail _ (.tail _ (.tail _ (.tail _ (.head _)))))))))) (fm _ _ (Nat.ne_of_lt hI) (fm _ _ hcI (fm _ _ (q8 (Nat.le_add_right (L + 1) 3)) (fm _ _ (q8 (Nat.le_add_right (L + 1 + 1) 2)) (fm _ _ (q8 (Nat.le_add_right (L + 1 + 1 + 1) 1)) (fm _ _ (q8 (Nat.le_refl _)) (fm _ _ (hls a9) fun q h => of_decide_eq_true (List.mem_filter.mp h).2))))))))))))))))
  · intro q hq
    have := List.mem_filter.mp hq
    exact List.mem_filter.mpr ⟨hkc q this.1, this.2⟩
end
section
theorem lines_X20_1 : True := by
  k_with_none
  k_with "k_all" => with_reducible assumption
  k_with "ne_mem" => with_reducible first | exact List.mem_cons_self | (refine List.mem_cons_of_mem _ ?_; k_extra "ne_mem") | (refine List.mem_append_right _ ?_; k_extra "ne_mem")
  k_with "ne_bef" => with_reducible first | (refine Bef.head ?_; k_extra "ne_mem") | (refine Bef.tail ?_; k_extra "ne_bef")
  k_with "lt_ap" => (with_reducible rename Apart _ => kqA; first | (with_reducible exact Apart.bef kqA (by k_extra "ne_bef")) | (clear kqA; k_extra "lt_ap"))
  k_with "lt_go" => first | (with_reducible assumption) | (with_reducible exact AllLt.get (by assumption) (by k_extra "ne_mem")) | k_extra "lt_ap" | ((with_reducible refine Nat.lt_trans ?kq1 ?kq2); (case kq2 => with_reducible assumption); (case kq1 => k_extra "lt_go")) | ((with_reducible refine Nat.lt_trans ?kq1 ?kq2); (case kq1 => with_reducible assumption); (case kq2 => k_extra "lt_ap"))
  k_with "ne_lt" => with_reducible first | exact Nat.ne_of_lt (AllLt.get (by assumption) (by k_extra "ne_mem")) | exact Nat.ne_of_gt (AllLt.get (by assumption) (by k_extra "ne_mem"))
  k_with "ne_ap" => (with_reducible rename Apart _ => kqA; first | (with_reducible exact Nat.ne_of_lt (Apart.bef kqA (by k_extra "ne_bef"))) | (with_reducible exact Nat.ne_of_gt (Apart.bef kqA (by k_extra "ne_bef"))) | (clear kqA; k_extra "ne_ap"))
  k_with "ne_tr" => first | ((with_reducible refine Nat.ne_of_gt (Nat.lt_trans ?kq1 ?kq2)); (case kq2 => with_reducible assumption); (case kq1 => k_extra "lt_go")) | ((with_reducible refine Nat.ne_of_lt (Nat.lt_trans ?kq1 ?kq2)); (case kq2 => with_reducible assumption); (case kq1 => k_extra "lt_go"))
  k_with "k_ne" => (refine neN ?_; (try dsimp only); first | (with_reducible assumption) | (with_reducible exact Ne.symm (by assumption)) | (with_reducible exact Nat.ne_of_lt (by assumption)) | (with_reducible exact Nat.ne_of_gt (by assumption)) | k_extra "ne_lt" | k_extra "ne_ap" | k_extra "ne_tr" | omega | ((try simp only [AllLt] at *); omega))
  k_with "ne_all" => first | (with_reducible assumption) | (refine And.intro ?_ ?_ <;> k_extra "ne_all") | k_ne
  k_with "mem_hq" => first | exact hq | exact List.mem_append_left _ hq | (refine List.mem_cons_of_mem _ ?_; k_extra "mem_hq")
  k_with "perm" => first | (refine List.forall_mem_cons.mpr (And.intro ?kqa ?kqb); (case kqa => k_extra "ne_mem"); (case kqb => k_extra "perm")) | exact List.forall_mem_nil _ | (intro q hq; k_extra "mem_hq")
  k_with "ord" => first | (with_reducible assumption) | ((with_reducible show @LT.lt Nat _ _ _); k_extra "lt_go") | k_ne | omega | ((try simp only [AllLt] at *); omega)
  k_with "tb_start" => first | exact Pick.head | (apply Pick.tail; tb_start)
  k_with "tb_rel" => first | exact Suff.refl | (refine' Suff.tail ?_; tb_rel)
  k_with "ktr_rel" => first | exact Picks.nil | (refine' Picks.cons ?kqp ?kqq; (case kqp => tb_start); (case kqq => ktr_rel))
  k_with "ktr_unf" => exact ⟨by k_asm, by k_asm, by k_asm, by k_asm, by first | exact rfl | assumption⟩
  k_with "subscriptTail Attribute Name Slice" => (k_here; k_dflt (refine kba_turn (value' := PySem.Expr.Name (PySem.Str.ofString "_") ⟨0, 0, 0, 0⟩) (fun _ => rfl) ?_))
  k_with "subscriptTail Name Slice ref ref" => (k_here; (with_reducible show wpAny _ _ (subscriptTail _ (PySem.Expr.Slice (some _) (some _) none _) (Value.ref _) (Value.ref _)) _ _ _); k_dflt (refine' my_slice ?kqF ?kqN ?kql ?kqi ?kqx ?kqy ?kqz ?_ ?kqs ?kqt; (case kqF => k_asm); (case kqN => k_asm); (case kql => k_mem); (case kqi => k_asm); (case kqx => first | (with_reducible assumption) | omega | ((try simp only [AllLt] at *); omega)); (case kqy => first | (with_reducible assumption) | omega | ((try simp only [AllLt] at *); omega)); (case kqz => first | (with_reducible assumption) | omega | ((try simp only [AllLt] at *); omega)); (case kqs => with_unfolding_all rfl); (case kqt => kmk_pure); k_whole); intro D' ws' h' zs' F' N' l1 hI' hZ' hL'; (try (replace hL' := slice_len hL' (by first | (with_reducible assumption) | omega) (by first | (with_reducible assumption) | omega) (by first | (with_reducible assumption) | omega))); (try k_lt l1); (try k_sweep))
  k_with "setItem ref ref ref" => (k_here; k_dflt (refine' my_setslice ?kqF ?kqN ?kql ?kqU ?kqi ?kqw ?kqx ?kqy ?kqz ?kqzz ?_; (case kqF => k_asm); (case kqN => k_asm); (case kql => k_mem); (case kqU => k_updF); (case kqi => k_asm); (case kqw => k_asm); (case kqx => first | (with_reducible assumption) | omega | ((try simp only [AllLt] at *); omega)); (case kqy => first | (with_reducible assumption) | omega | ((try simp only [AllLt] at *); omega)); (case kqz => first | (with_reducible assumption) | omega | ((try simp only [AllLt] at *); omega)); (case kqzz => first | (with_reducible assumption) | omega | ((try simp only [AllLt] at *); omega)); k_whole); intro vs' n2' h' ns' F' N' hI' hZ' hL'; (try dsimp only at N'); (try k_sweep))
  k_with "call builtin:len" => (k_here; (with_reducible show wpAny _ _ (call (Value.builtin "len") [Value.ref _]) _ _ _); k_dflt (refine' my_len ?kqN ?kql ?kqi ?kqz ?_; (case kqN => k_asm); (case kql => k_mem); (case kqi => k_asm); (case kqz => first | (with_reducible assumption) | omega | ((try simp only [AllLt] at *); omega)); k_whole))
  k_with "pyIter ref" => (k_here; k_dflt (first | (refine' iter_empty ?kqh ?kqF ?kqN ?kqm ?_; (case kqh => exact rfl); (case kqF => k_asm); (case kqN => k_asm); (case kqm => k_mem)) | (refine' iter_empty2 ?kqh ?kqF ?kqN ?kqm ?kqi ?kqz ?_; (case kqh => exact rfl); (case kqF => k_asm); (case kqN => k_asm); (case kqm => k_mem); (case kqi => k_asm); (case kqz => k_asm))); intro h' tk' F' N'; (try dsimp only); (try k_sweep))
  k_with "call ref" => (k_here; (with_reducible show wpAny _ _ (call (Value.ref 631) _) _ _ _); k_dflt (refine' around_le (draw_spec ?kqC ?kqN ?kqP ?kqne ?kqr ?kqi ?kql ?kqh0 ?kqh1 ?kqh2 ?_) ?kqd ?kqu; (case kqC => ktr_unf); (case kqN => k_asm); (case kqP => ktr_rel); (case kqne => first | (with_reducible assumption) | omega | ((try simp only [AllLt] at *); omega)); (case kqr => k_all); (case kqi => k_asm); (case kql => first | (with_reducible assumption) | omega | ((try simp only [AllLt] at *); omega)); (case kqh0 => first | (with_reducible assumption) | omega | ((try simp only [AllLt] at *); omega)); (case kqh1 => first | (with_reducible assumption) | omega | ((try simp only [AllLt] at *); omega)); (case kqh2 => first | (with_reducible assumption) | omega | ((try simp only [AllLt] at *); omega));  (case kqd => exact Nat.le_of_ble_eq_true rfl); (case kqu => exact Nat.le_of_ble_eq_true rfl)); intro r' t' t2' h' tk' F' N' hr0' hr1'; (try dsimp only); (try k_sweep); (try k_fold))
  k_with "call ref" => (k_here; (with_reducible show wpAny _ _ (call (Value.ref 612) _) _ _ _); k_dflt (refine' around_le (setmod_spec ?kqC ?kqN ?kqP ?kqe1 ?kqr3 ?_) ?kqd ?kqu; (case kqC => ktr_unf); (case kqN => k_asm); (case kqP => ktr_rel); (case kqe1 => first | k_extra "ne_all" | omega); (case kqr3 => k_all);  (case kqd => exact Nat.le_of_ble_eq_true rfl); (case kqu => exact Nat.le_of_ble_eq_true rfl)); intro h' tk' F' N'; (try simp only [List.cons_append, List.nil_append] at N'); (try dsimp only); (try k_sweep); (try k_fold))
  k_with "call ref" => (k_here; (with_reducible show wpAny _ _ (call (Value.ref 638) _) _ _ _); k_dflt (refine' around_le (edits_spec ?kqC ?kqN ?kqP ?kqne ?kqr ?kqdl ?kqal ?kqi ?kql ?kqh0 ?kqh1 ?kqh2 ?kqh3 ?_) ?kqd ?kqu; (case kqC => ktr_unf); (case kqN => k_asm); (case kqP => ktr_rel); (case kqne => first | (with_reducible assumption) | omega | ((try simp only [AllLt] at *); omega)); (case kqr => k_all); (case kqdl => first | (with_reducible assumption) | omega | ((try simp only [AllLt] at *); omega)); (case kqal => first | (with_reducible assumption) | omega | ((try simp only [AllLt] at *); omega)); (case kqi => k_asm); (case kql => first | (with_reducible assumption) | omega | ((try simp only [AllLt] at *); omega)); (case kqh0 => first | (with_reducible assumption) | omega | ((try simp only [AllLt] at *); omega)); (case kqh1 => first | (with_reducible assumption) | omega | ((try simp only [AllLt] at *); omega)); (case kqh2 => first | (with_reducible assumption) | omega | ((try simp only [AllLt] at *); omega)); (case kqh3 => first | (with_reducible assumption) | omega | ((try simp only [AllLt] at *); omega));  (case kqd => exact Nat.le_of_ble_eq_true rfl); (case kqu => exact Nat.le_of_ble_eq_true rfl)); intro el' l' n0' k' t' h' tk' hD' hE' hk1' hk2' F' N' hel'; (try simp only [List.cons_append, List.nil_append, List.append_assoc] at N'); (try dsimp only); (try k_sweep); (try k_fold))
  k_with "call ref" => (k_here; (with_reducible show wpAny _ _ (call (Value.ref 584) _) _ _ _); k_dflt (refine' around_le (bcodes_spec ?kqC ?kqN ?kqP ?kqi ?kql ?kqh0 ?kqh1 ?kqh2 ?kqh3 ?kqh4 ?_) ?kqd ?kqu; (case kqC => ktr_unf); (case kqN => k_asm); (case kqP => ktr_rel); (case kqi => k_asm); (case kql => first | (with_reducible assumption) | omega | ((try simp only [AllLt] at *); omega)); (case kqh0 => first | (with_reducible assumption) | omega | ((try simp only [AllLt] at *); omega)); (case kqh1 => first | (with_reducible assumption) | omega | ((try simp only [AllLt] at *); omega)); (case kqh2 => first | (with_reducible assumption) | omega | ((try simp only [AllLt] at *); omega)); (case kqh3 => first | (with_reducible assumption) | omega | ((try simp only [AllLt] at *); omega)); (case kqh4 => first | (with_reducible assumption) | omega | ((try simp only [AllLt] at *); omega));  (case kqd => exact Nat.le_of_ble_eq_true rfl); (case kqu => exact Nat.le_of_ble_eq_true rfl)); intro D' ws' n' h' tk' hI' F' N' l1; (try k_lt l1); (try dsimp only); (try k_sweep); (try k_fold))
  k_with "call ref" => (k_here; (with_reducible show wpAny _ _ (call (Value.ref 570) _) _ _ _); k_dflt (refine' around_le (bsize_spec ?kqC ?kqN ?kqP ?kqi ?kql ?kqh0 ?kqh1 ?kqh2 ?_) ?kqd ?kqu; (case kqC => ktr_unf); (case kqN => k_asm); (case kqP => ktr_rel); (case kqi => k_asm); (case kql => first | (with_reducible assumption) | omega | ((try simp only [AllLt] at *); omega)); (case kqh0 => first | (with_reducible assumption) | omega | ((try simp only [AllLt] at *); omega)); (case kqh1 => first | (with_reducible assumption) | omega | ((try simp only [AllLt] at *); omega)); (case kqh2 => first | (with_reducible assumption) | omega | ((try simp only [AllLt] at *); omega));  (case kqd => exact Nat.le_of_ble_eq_true rfl); (case kqu => exact Nat.le_of_ble_eq_true rfl)); intro t' h' tk' F' N'; (try dsimp only); (try k_sweep); (try k_fold))
  k_with "call ref" => (k_here; (with_reducible show wpAny _ _ (call (Value.ref 605) _) _ _ _); k_dflt (refine' around_le (ismod_spec ?kqC ?kqN ?kqP ?_) ?kqd ?kqu; (case kqC => ktr_unf); (case kqN => k_asm); (case kqP => ktr_rel);  (case kqd => exact Nat.le_of_ble_eq_true rfl); (case kqu => exact Nat.le_of_ble_eq_true rfl)); intro h' tk' F' N'; (try dsimp only); (try k_sweep); (try k_fold))
  k_with "call ref" => (k_here; (with_reducible show wpAny _ _ (call (Value.ref 645) _) _ _ _); k_dflt (refine' around_le (put_spec ?kqC ?kqN ?kqP ?kqi ?kql ?kqed ?kql4 ?kqsub ?_) ?kqd ?kqu; (case kqC => ktr_unf); (case kqN => k_asm); (case kqP => ktr_rel); (case kqi => k_asm); (case kql => first | (with_reducible assumption) | omega | ((try simp only [AllLt] at *); omega)); (case kqed => k_asm); (case kql4 => first | (with_reducible assumption) | omega | ((try simp only [AllLt] at *); omega)); (case kqsub => k_asm);  (case kqd => exact Nat.le_of_ble_eq_true rfl); (case kqu => exact Nat.le_of_ble_eq_true rfl)); intro D' ws' n' h' tk' hI' F' N' l1; (try k_lt l1); (try dsimp only); (try k_sweep); (try k_fold))
  k_with "call ref" => (k_here; (with_reducible show wpAny _ _ (call (Value.ref 303) _) _ _ _); k_dflt (refine' around_le (go_ok (nss := []) ?kqyC ?kqyN ?kqyn ?kqyP ?kqye1 ?kqye2 ?kqyr3 ?kqyh1 ?kqyh2 ?_) ?kqyd ?kqyu; (case kqyC => ktr_unf); (case kqyN => k_asm); (case kqyn => exact fun _ h => nomatch h); (case kqyP => ktr_rel); (case kqye1 => k_all); (case kqye2 => first | (with_reducible assumption) | omega | ((try simp only [AllLt] at *); omega)); (case kqyr3 => k_all); (case kqyh1 => k_all); (case kqyh2 => k_all); (case kqyd => exact Nat.le_of_ble_eq_true rfl); (case kqyu => exact Nat.le_of_ble_eq_true rfl)); intro p1' h' tk' F' N'; (try simp only [List.cons_append, List.nil_append] at N'); (try dsimp only); (try k_sweep); (try k_fold))
  k_with "call ref" => (k_here; (with_reducible show wpAny _ _ (call (Value.ref 303) _) _ _ _); k_dflt (refine' around_le (go_raise1 ?kqyC ?kqyN ?kqyn ?kqyP ?kqye1 ?kqye2 ?kqyr3 ?kqyh1 ?kqyh2 ?_) ?kqyd ?kqyu; (case kqyC => ktr_unf); (case kqyN => k_asm); (case kqyn => exact nss_up (by assumption) (by assumption)); (case kqyP => ktr_rel); (case kqye1 => k_all); (case kqye2 => first | (with_reducible assumption) | omega | ((try simp only [AllLt] at *); omega)); (case kqyr3 => k_all); (case kqyh1 => k_all); (case kqyh2 => k_all); (case kqyd => exact Nat.le_of_ble_eq_true rfl); (case kqyu => exact Nat.le_of_ble_eq_true rfl)); intro p1' e' h' tk' fl'; (try simp only [List.cons_append, List.nil_append] at fl'); (try dsimp only); (try k_sweep); (try k_fold))
  k_with "call ref" => (k_here; (with_reducible show wpAny _ _ (call (Value.ref 303) _) _ _ _); k_dflt (refine' around_le (go_raise2 ?kqyC ?kqyN ?kqyn ?kqyP ?kqye1 ?kqye2 ?kqyr3 ?kqyh1 ?kqyh2 ?_) ?kqyd ?kqyu; (case kqyC => ktr_unf); (case kqyN => k_asm); (case kqyn => exact nss_up (by assumption) (by assumption)); (case kqyP => ktr_rel); (case kqye1 => k_all); (case kqye2 => first | (with_reducible assumption) | omega | ((try simp only [AllLt] at *); omega)); (case kqyr3 => k_all); (case kqyh1 => k_all); (case kqyh2 => k_all); (case kqyd => exact Nat.le_of_ble_eq_true rfl); (case kqyu => exact Nat.le_of_ble_eq_true rfl)); intro p1' e' h' tk' fl'; (try simp only [List.cons_append, List.nil_append] at fl'); (try dsimp only); (try k_sweep); (try k_fold))
  k_with "execs cons" => (k_here; (with_reducible show wpAny _ _ (execs (Stmt.If (PySem.Expr.Compare (PySem.Expr.Call (PySem.Expr.Name _ _) [PySem.Expr.Lambda _ _ _ _] _ _) _ _ _) _ _ _ :: _) _) _ _ _); k_dflt (refine' halt ?_))
  k_with "call ref" => (k_here; (with_reducible show wpAny _ _ (call (Value.ref 296) _) _ _ _); k_dflt (refine' halt ?_))
  k_with "call ref" => (k_here; (with_reducible show wpAny _ _ (call (Value.ref 638) _) _ _ _); k_dflt (refine' halt ?_))
  k_with "call ref" => (k_here; (with_reducible show wpAny _ _ (call (Value.ref 652) _) _ _ _); k_dflt (refine' halt ?_))
  k_with "exec Assign cons ListComp" => (k_here; k_dflt (refine' halt ?_))
  k_with "compareOp NotEq ref ref" => (k_here; (with_reducible show wpAny _ _ (compareOp CmpOp.NotEq (Value.ref _) (Value.ref _)) _ _ _); k_dflt (first | (refine' ne_ints2 ?kqyN ?kqya ?kqyb ?kqyi ?kqyj ?kqyu ?_; (case kqyN => k_asm); (case kqya => k_mem); (case kqyb => k_mem); (case kqyi => k_asm); (case kqyj => k_asm); (case kqyu => ke_room); k_whole) | (refine' ne_nil ?kqyN ?kqya ?kqyb ?kqyu ?_; (case kqyN => k_asm); (case kqya => k_mem); (case kqyb => k_mem); (case kqyu => ke_room); k_whole)))
  k_with "eval Lambda" => (k_here; k_dflt (refine' kla_eval ?kqyd0 ?_; (case kqyd0 => exact rfl)); k_dflt (refine' lam_any2 ?kqyq ?kqyF ?kqyN ?kqyT ?kqyC ?kqycd ?kqyU ?kqym ?kqyg ?kqyL ?kqyk ?kqyl ?kqycl ?_; (case kqyq => exact rfl); (case kqyF => k_asm); (case kqyN => k_asm); (case kqyT => k_asm); (case kqycd => exact rfl); (case kqyC => kn_code); (case kqyU => k_updF); (case kqym => k_mem); (case kqyg => exact rfl); (case kqyL => k_asm); (case kqyk => (repeat (first | (refine' kc_cons ?kqyk1 ?kqyk2; (case kqyk1 => k_mem)) | with_reducible assumption | refine' kc_lit ?_))); (case kqyl => k_mem); (case kqycl => exact rfl); k_whole); intro f' c' oc' vs' t' ct' ps' h' tk' F' N' L' d1' d2' l1 l2 l3; (try dsimp only at N'))
  trivial
variable {prog : Program} {w : World} {p : Program} {loose : List Str} {mean : ExcName → Option Value} {mg mb : Str → Option Value} {cn : Str} {cs : Scope} {a : Addr} {ccd : Value} {cl : List (Str × Addr)} {outer : List Env} {A₀ : Around} {base h₀ : Heap} {L : Addr} {m : Str → Option Value} {s : Shared} {Q E : Value → Shared → Prop} in
theorem news_go {hh : Heap} {L' : Addr} {x1 x2 x3 : Addr × Obj} {r : List (Addr × Obj)} (N : News h₀ L' hh (x1 :: x2 :: x3 :: r)) : News h₀ L' hh ([x1, x2] ++ r) := news_sel N 3 [0, 1]
variable {prog : Program} {w : World} {p : Program} {loose : List Str} {mean : ExcName → Option Value} {mg mb : Str → Option Value} {cn : Str} {cs : Scope} {a : Addr} {ccd : Value} {cl : List (Str × Addr)} {outer : List Env} {A₀ : Around} {base h₀ : Heap} {L : Addr} {m : Str → Option Value} {s : Shared} {Q E : Value → Shared → Prop} in
theorem lap_news4 {hh : Heap} {y1 y2 y3 y4 y5 y6 y7 y8 y9 z1 z2 z3 z4 z5 z6 z7 z8 z9 x : Addr × Obj} {tl : List (Addr × Obj)}
 (N : News h₀ L hh (y3 :: y4 :: x :: z9 :: y1 :: y2 :: y5 :: y6 :: y7 :: y8 :: y9 :: z1 :: z2 :: z3 :: z4 :: z5 :: z6 :: z7 :: z8 :: tl)) :
 News h₀ L hh (y1 :: y2 :: y3 :: y4 :: y5 :: y6 :: y7 :: y8 :: y9 :: z1 :: z2 :: z3 :: z4 :: z5 :: z6 :: z7 :: z8 :: z9 :: tl) := news_sel N 19 [4, 5, 0, 1, 6, 7, 8, 9, 10, 11, 12, 13, 14, 15, 16, 17, 18, 3]
variable {prog : Program} {w : World} {p : Program} {loose : List Str} {mean : ExcName → Option Value} {mg mb : Str → Option Value} {cn : Str} {cs : Scope} {a : Addr} {ccd : Value} {cl : List (Str × Addr)} {outer : List Env} {A₀ : Around} {base h₀ : Heap} {L : Addr} {m : Str → Option Value} {s : Shared} {Q E : Value → Shared → Prop} in
theorem kc_more {k tl : List (Addr × Obj)} {x : Addr × Obj} (h : ∀ q ∈ k, q ∈ tl) : ∀ q ∈ x :: k, q ∈ x :: tl := fun q hq => by
  rcases List.mem_cons.mp hq with rfl | hq
  · exact .head _
  · exact .tail _ (h q hq)
variable {prog : Program} {w : World} {p : Program} {loose : List Str} {mean : ExcName → Option Value} {mg mb : Str → Option Value} {cn : Str} {cs : Scope} {a : Addr} {ccd : Value} {cl : List (Str × Addr)} {outer : List Env} {A₀ : Around} {base h₀ : Heap} {L : Addr} {m : Str → Option Value} {s : Shared} {Q E : Value → Shared → Prop} in
theorem sub_go {x1 x2 x3 : Addr × Obj} {r : List (Addr × Obj)} : ∀ q ∈ [x1, x2] ++ r, q ∈ x1 :: x2 :: x3 :: r := fun q hq => nsel_mem 3 [0, 1] hq
variable {prog : Program} {w : World} {p : Program} {loose : List Str} {mean : ExcName → Option Value} {mg mb : Str → Option Value} {cn : Str} {cs : Scope} {a : Addr} {ccd : Value} {cl : List (Str × Addr)} {outer : List Env} {A₀ : Around} {base h₀ : Heap} {L : Addr} {m : Str → Option Value} {s : Shared} {Q E : Value → Shared → Prop} in
theorem sig_go {b db g mk ls : Addr} {K : BKeys} {pt zv tk ck sk : Int} {p1 z1 t1 c1 s1 : Tok} {ro : Bool} {place : Int} {f : Addr} {fd : FuncData} {sy : Str} {news rest : List (Addr × Obj)} {P1 P2 : Prop}
 (C : Cx w p loose mean mg mb A₀ h₀ outer h₀ L s.heap m cs) (N : News h₀ L s.heap news) (hf : (f, ({ cls := .type "function", data := .func fd } : Obj)) ∈ news)
 (P : Picks [(b, instObj 622 db), (db, bufD K g mk ls pt p1 zv z1 ro tk t1 ck c1 sk s1)] news rest)
 (call_ : ∀ (g' : Heap) (L' : Addr) (h₁ : Heap) (tk' : Nat) (A₁ : Around) (Q₁ : Value → Shared → Prop) (E₁ : Value → Shared → Prop) (m₁ : Str → Option Value), Cx w p loose mean mg mb A₁ h₀ (envX cn cs L a ccd cl :: outer) g' L' h₁ m₁ sigSc → News g' L' h₁ news → (∀ p ∈ news, @LT.lt Nat _ p.1 L') → (∀ q ∈ [(L, m)], g'.Ns q.1 q.2) →
   (∀ v p1' h' tk', P1 → Fr g' L' h' m₁ → News g' L' h' ([(b, instObj 622 db), (db, bufD K g mk ls place p1' zv z1 ro tk t1 ck c1 sk s1)] ++ rest) → Q₁ v { s with heap := h', toks := tk' }) →
   (∀ e p1' h' tk', P2 → Fly h₀ (sigEnv L' :: envX cn cs L a ccd cl :: outer) e sy [(L', m₁), (L, m)] ([(b, instObj 622 db), (db, bufD K g mk ls place p1' zv z1 ro tk t1 ck c1 sk s1)] ++ rest) h' → E₁ (.ref e) { s with heap := h', toks := tk' }) →
   wpAny (model prog w) (ktrTop 861 8603 none (Str.ofString "_law_signal") sigSc L' 652 (.ref 651) [] (envX cn cs L a ccd cl :: outer)) (call (.ref f) []) Q₁ E₁ { s with heap := h₁, toks := tk' })
 (retN : ∀ t p1' h' tk', P1 → Fr h₀ L h' m → News h₀ L h' ([(b, instObj 622 db), (db, bufD K g mk ls place p1' zv z1 ro tk t1 ck c1 sk s1)] ++ rest) → Q (.str (Str.ofString "") t) { s with heap := h', toks := tk' })
 (retE : ∀ t p1' h' tk', P2 → Fr h₀ L h' m → News h₀ L h' ([(b, instObj 622 db), (db, bufD K g mk ls place p1' zv z1 ro tk t1 ck c1 sk s1)] ++ rest) → Q (.str sy t) { s with heap := h', toks := tk' }) :
 wpAny (model prog w) (ktrTop 860 8600 none cn cs L a ccd cl outer) (call (.ref 652) [.ref f]) Q E s :=
  sig_spec (Post₁ := fun n => ∃ p1', n = [(b, instObj 622 db), (db, bufD K g mk ls place p1' zv z1 ro tk t1 ck c1 sk s1)] ++ rest ∧ P1) (Post₂ := fun n => ∃ p1', n = [(b, instObj 622 db), (db, bufD K g mk ls place p1' zv z1 ro tk t1 ck c1 sk s1)] ++ rest ∧ P2) C N hf
    (fun g' L' h₁ tk' A₁ Q₁ E₁ m₁ C1 N1 hl hn hq he => call_ g' L' h₁ tk' A₁ Q₁ E₁ m₁ C1 N1 hl hn (fun v p1' h' tk' p1 F2 N2 => hq v h' tk' _ ⟨p1', rfl, p1⟩ F2 N2) (fun e p1' h' tk' p2 x => he e h' tk' _ ⟨p1', rfl, p2⟩ x))
    (fun t h' tk' n hp F2 N2 => by obtain ⟨p1', rfl, p1⟩ := hp; exact retN t p1' h' tk' p1 F2 N2)
    (fun t h' tk' n hp F2 N2 => by obtain ⟨p1', rfl, p2⟩ := hp; exact retE t p1' h' tk' p2 F2 N2)
def lap4a_spec_H (gd : Option (List Code)) (fa : Addr) (D : Addr) (A : Addr) (b : Addr) (db : Addr) (g : Addr) (dg : Addr) (c : Addr) (mk : Addr) (dm : Addr) (rw : Addr) (ls : Addr) (vs0 : List Value) (ns0 : List Int) (n1 : Nat) (n2 : Nat) (K : BKeys) (G : GKeys) (hm : Int) (km : Tok) (orw : Obj) (kp : List (Addr × Obj)) (nl : Nat) (i : Nat) (news : List (Addr × Obj)) (Q : Flow → Shared → Prop) (kx : Int) (tx : Tok) (vs : List Value) (ns : List Int) (nv : Nat) (gs : Int) (t3 : Tok) (ge : Int) (t4 : Tok) (pt : Int) (p1 : Tok) (zv : Int) (z1 : Tok) (ro : Bool) (tq : Int) (t1 : Tok) (ck : Int) (c1 : Tok) (sk : Int) (s1 : Tok) (cl' : Addr) (cvs : List Value) (nc : Nat) (o1 : Obj) (o2 : Obj) (o3 : Obj) (o4 : Obj) (ps : Array Value) (kc : List (Addr × Obj)) (tl : List (Addr × Obj)) (place : Int) (tp : Tok) (tw : Tok) (prog : Program) (w : World) (p : Program) (loose : List Str) (mean : ExcName → Option Value) (mg : Str → Option Value) (mb : Str → Option Value) (A₀ : Around) (h₀ : Heap) (L : Addr) (m : Str → Option Value) (s : Shared) (E : Value → Shared → Prop) (zR : Prop) : Prop := ∀ (C : Cx w p loose mean mg mb A₀ h₀ [] h₀ L s.heap m (lawSc w.params)) (HC : CodeHd h₀ 656 654) (N : News h₀ L s.heap news) (P : Picks [(D, listOf #[.ref A, .int kx tx] n1), (A, listOf vs0.toArray n2), (b, instObj 622 db), (db, bufD K g mk ls pt p1 zv z1 ro tq t1 ck c1 sk s1), (g, instObj 411 dg), (dg, gapD G c gs t3 ge t4), (c, listOf vs.toArray nv), (mk, instObj 481 dm), (dm, mkD hm km rw), (rw, orw), (ls, listOf #[] nl), (cl', listOf cvs.toArray nc), (L + 1, o1), (L + 1 + 1, o2), (L + 1 + 1 + 1, o3), (L + 1 + 1 + 1 + 1, o4), (654, tabObj ps)] news tl) (ap : Apart [db, b, dg, g, c, dm, mk, rw, ls]) (ap2 : Apart [654, L, D, db]) (ap3 : Low L D A) (hi0 : IntsAre vs0 ns0) (hlen0 : ns0.length ≤ 63) (hr : G.room = 8) (lo : (rw == sysModules) = false) (d1 : orw.IsDictOf (strKind prog w) []) (d2 : orw.IsDictOf (intKind prog w) []) (hi3 : i < 3) (hi : IntsAre vs ns) (h0 : 0 ≤ gs) (h1 : gs ≤ ge) (h2 : ge ≤ ns.length) (hz : zv = ns.length - ge + gs + 1) (hlen : ns.length ≤ 100 + 100 * (i + 1)) (hci : IntsAre cvs (gtext ns gs ge)) (hcl : (gtext ns gs ge).length ≤ 10 + 40 * (i + 1)) (hk0 : 0 ≤ kx) (hk9 : kx ≤ 10 + 20 * (i : Int) + 15) (hp1 : 1 ≤ place) (hp2 : place ≤ zv) (e1 : o1.data = .cell (some (.int place tp))) (e2 : o2.data = .cell (some (.ref b))) (e3 : ∃ v, o3.data = .cell v) (e4 : o4.data = .cell (some (.str (Str.ofString "") tw))) (hL : Lams ls lamQ kp ps kc) (hkc : ∀ q ∈ kc, q ∈ tl) (hlc : @LT.lt Nat _ ls cl') (u1 : ∀ q ∈ tl, q.1 ≠ D) (u2 : ∀ q ∈ tl, q.1 ≠ db) (u3 : ∀ q ∈ tl, q.1 ≠ dg) (u4 : ∀ q ∈ tl, q.1 ≠ c) (u5 : ∀ q ∈ tl, q.1 ≠ L + 1) (u6 : ∀ q ∈ tl, q.1 ≠ L + 1 + 1) (u7 : ∀ q ∈ tl, q.1 ≠ L + 1 + 1 + 1) (u8 : ∀ q ∈ tl, q.1 ≠ L + 1 + 1 + 1 + 1) (u9 : ∀ q ∈ tl, q.1 ≠ 654) (md : m (Str.ofString "deck") = some (.ref D)) (mc : m (Str.ofString "codes") = some (.ref cl')) (ret : ∀ h' tk' m' news', Fr h₀ L h' m' → News h₀ L h' news' → LapSt L D A b db g dg c mk dm rw ls vs0 n1 n2 K G hm km orw nl kp (i + 1) m' news' → Q .next { s with heap := h', toks := tk' }), zR
abbrev lap4a_spec_P : Type := ((((((((Option (List Code)) × Addr) × Addr) × (Addr × Addr)) × (((Addr × Addr) × Addr) × (Addr × Addr))) × ((((Addr × Addr) × Addr) × ((List Value) × (List Int))) × ((Nat × Nat) × (BKeys × GKeys)))) × (((((Int × Tok) × Obj) × ((List (Addr × Obj)) × Nat)) × ((Nat × (List (Addr × Obj))) × ((Flow → Shared → Prop) × Int))) × ((((Tok × (List Value)) × (List Int)) × (Nat × Int)) × ((Tok × Int) × (Tok × Int))))) × ((((((Tok × Int) × Tok) × (Bool × Int)) × ((Tok × Int) × (Tok × Int))) × ((((Tok × Addr) × (List Value)) × (Nat × Obj)) × ((Obj × Obj) × (Obj × (Array Value))))) × ((((((List (Addr × Obj)) × (List (Addr × Obj))) × Int) × (Tok × Tok)) × ((Program × World) × (Program × (List Str)))) × (((((ExcName → Option Value) × (Str → Option Value)) × (Str → Option Value)) × (Around × Heap)) × ((Addr × (Str → Option Value)) × (Shared × (Value → Shared → Prop)))))))
def lap4a_spec_S (gd : Option (List Code)) (fa : Addr) (D : Addr) (A : Addr) (b : Addr) (db : Addr) (g : Addr) (dg : Addr) (c : Addr) (mk : Addr) (dm : Addr) (rw : Addr) (ls : Addr) (vs0 : List Value) (ns0 : List Int) (n1 : Nat) (n2 : Nat) (K : BKeys) (G : GKeys) (hm : Int) (km : Tok) (orw : Obj) (kp : List (Addr × Obj)) (nl : Nat) (i : Nat) (news : List (Addr × Obj)) (Q : Flow → Shared → Prop) (kx : Int) (tx : Tok) (vs : List Value) (ns : List Int) (nv : Nat) (gs : Int) (t3 : Tok) (ge : Int) (t4 : Tok) (pt : Int) (p1 : Tok) (zv : Int) (z1 : Tok) (ro : Bool) (tq : Int) (t1 : Tok) (ck : Int) (c1 : Tok) (sk : Int) (s1 : Tok) (cl' : Addr) (cvs : List Value) (nc : Nat) (o1 : Obj) (o2 : Obj) (o3 : Obj) (o4 : Obj) (ps : Array Value) (kc : List (Addr × Obj)) (tl : List (Addr × Obj)) (place : Int) (tp : Tok) (tw : Tok) (prog : Program) (w : World) (p : Program) (loose : List Str) (mean : ExcName → Option Value) (mg : Str → Option Value) (mb : Str → Option Value) (A₀ : Around) (h₀ : Heap) (L : Addr) (m : Str → Option Value) (s : Shared) (E : Value → Shared → Prop) : Prop := lap4a_spec_H gd fa D A b db g dg c mk dm rw ls vs0 ns0 n1 n2 K G hm km orw kp nl i news Q kx tx vs ns nv gs t3 ge t4 pt p1 zv z1 ro tq t1 ck c1 sk s1 cl' cvs nc o1 o2 o3 o4 ps kc tl place tp tw prog w p loose mean mg mb A₀ h₀ L m s E (Stand (wpAny (model prog w) (ktrTop 400 400 gd (Str.ofString "law") (lawSc w.params) L fa (.ref 656) (cellsFrom (L + 1) (lawSc w.params).names []) []) (execs ((lapBody w.params).drop 11) (envX (Str.ofString "law") (lawSc w.params) L fa (.ref 656) (cellsFrom (L + 1) (lawSc w.params).names []))) Q E s))
abbrev lap4a_spec_F (x : lap4a_spec_P) : Prop := lap4a_spec_S (x.1.1.1.1.1.1.1) (x.1.1.1.1.1.1.2) (x.1.1.1.1.1.2) (x.1.1.1.1.2.1) (x.1.1.1.1.2.2) (x.1.1.1.2.1.1.1) (x.1.1.1.2.1.1.2) (x.1.1.1.2.1.2) (x.1.1.1.2.2.1) (x.1.1.1.2.2.2) (x.1.1.2.1.1.1.1) (x.1.1.2.1.1.1.2) (x.1.1.2.1.1.2) (x.1.1.2.1.2.1) (x.1.1.2.1.2.2) (x.1.1.2.2.1.1) (x.1.1.2.2.1.2) (x.1.1.2.2.2.1) (x.1.1.2.2.2.2) (x.1.2.1.1.1.1.1) (x.1.2.1.1.1.1.2) (x.1.2.1.1.1.2) (x.1.2.1.1.2.1) (x.1.2.1.1.2.2) (x.1.2.1.2.1.1) (x.1.2.1.2.1.2) (x.1.2.1.2.2.1) (x.1.2.1.2.2.2) (x.1.2.2.1.1.1.1) (x.1.2.2.1.1.1.2) (x.1.2.2.1.1.2) (x.1.2.2.1.2.1) (x.1.2.2.1.2.2) (x.1.2.2.2.1.1) (x.1.2.2.2.1.2) (x.1.2.2.2.2.1) (x.1.2.2.2.2.2) (x.2.1.1.1.1.1.1) (x.2.1.1.1.1.1.2) (x.2.1.1.1.1.2) (x.2.1.1.1.2.1) (x.2.1.1.1.2.2) (x.2.1.1.2.1.1) (x.2.1.1.2.1.2) (x.2.1.1.2.2.1) (x.2.1.1.2.2.2) (x.2.1.2.1.1.1.1) (x.2.1.2.1.1.1.2) (x.2.1.2.1.1.2) (x.2.1.2.1.2.1) (x.2.1.2.1.2.2) (x.2.1.2.2.1.1) (x.2.1.2.2.1.2) (x.2.1.2.2.2.1) (x.2.1.2.2.2.2) (x.2.2.1.1.1.1.1) (x.2.2.1.1.1.1.2) (x.2.2.1.1.1.2) (x.2.2.1.1.2.1) (x.2.2.1.1.2.2) (x.2.2.1.2.1.1) (x.2.2.1.2.1.2) (x.2.2.1.2.2.1) (x.2.2.1.2.2.2) (x.2.2.2.1.1.1.1) (x.2.2.2.1.1.1.2) (x.2.2.2.1.1.2) (x.2.2.2.1.2.1) (x.2.2.2.1.2.2) (x.2.2.2.2.1.1) (x.2.2.2.2.1.2) (x.2.2.2.2.2.1) (x.2.2.2.2.2.2)
theorem lap4a_spec_ex : ∃ x : lap4a_spec_P, lap4a_spec_F x → ∀ y : lap4a_spec_P, lap4a_spec_F y := drinker ⟨(((((((none, (0 : Nat)), (0 : Nat)), ((0 : Nat), (0 : Nat))), ((((0 : Nat), (0 : Nat)), (0 : Nat)), ((0 : Nat), (0 : Nat)))), (((((0 : Nat), (0 : Nat)), (0 : Nat)), ([], [])), ((0, 0), (bkeys0, gkeys0)))), (((((0, (0 : Nat)), default), ([], 0)), ((0, []), (fun _ _ => True, 0))), (((((0 : Nat), []), []), (0, 0)), (((0 : Nat), 0), ((0 : Nat), 0))))), (((((((0 : Nat), 0), (0 : Nat)), (false, 0)), (((0 : Nat), 0), ((0 : Nat), 0))), (((((0 : Nat), (0 : Nat)), []), (0, default)), ((default, default), (default, #[])))), ((((([], []), 0), ((0 : Nat), (0 : Nat))), ((default, world0), (default, []))), ((((fun _ => none, fun _ => none), fun _ => none), ({}, default)), (((0 : Nat), fun _ => none), ({}, fun _ _ => True))))))⟩
noncomputable def lap4a_spec_x : lap4a_spec_P := lap4a_spec_ex.choose
namespace lap4a_spec_n
noncomputable def gd : Option (List Code) := lap4a_spec_x.1.1.1.1.1.1.1
noncomputable def fa : Addr := lap4a_spec_x.1.1.1.1.1.1.2
noncomputable def D : Addr := lap4a_spec_x.1.1.1.1.1.2
noncomputable def A : Addr := lap4a_spec_x.1.1.1.1.2.1
noncomputable def b : Addr := lap4a_spec_x.1.1.1.1.2.2
noncomputable def db : Addr := lap4a_spec_x.1.1.1.2.1.1.1
noncomputable def g : Addr := lap4a_spec_x.1.1.1.2.1.1.2
noncomputable def dg : Addr := lap4a_spec_x.1.1.1.2.1.2
noncomputable def c : Addr := lap4a_spec_x.1.1.1.2.2.1
noncomputable def mk : Addr := lap4a_spec_x.1.1.1.2.2.2
noncomputable def dm : Addr := lap4a_spec_x.1.1.2.1.1.1.1
noncomputable def rw : Addr := lap4a_spec_x.1.1.2.1.1.1.2
noncomputable def ls : Addr := lap4a_spec_x.1.1.2.1.1.2
noncomputable def vs0 : List Value := lap4a_spec_x.1.1.2.1.2.1
noncomputable def ns0 : List Int := lap4a_spec_x.1.1.2.1.2.2
noncomputable def n1 : Nat := lap4a_spec_x.1.1.2.2.1.1
noncomputable def n2 : Nat := lap4a_spec_x.1.1.2.2.1.2
noncomputable def K : BKeys := lap4a_spec_x.1.1.2.2.2.1
noncomputable def G : GKeys := lap4a_spec_x.1.1.2.2.2.2
noncomputable def hm : Int := lap4a_spec_x.1.2.1.1.1.1.1
noncomputable def km : Tok := lap4a_spec_x.1.2.1.1.1.1.2
noncomputable def orw : Obj := lap4a_spec_x.1.2.1.1.1.2
noncomputable def kp : List (Addr × Obj) := lap4a_spec_x.1.2.1.1.2.1
noncomputable def nl : Nat := lap4a_spec_x.1.2.1.1.2.2
noncomputable def i : Nat := lap4a_spec_x.1.2.1.2.1.1
noncomputable def news : List (Addr × Obj) := lap4a_spec_x.1.2.1.2.1.2
noncomputable def Q : Flow → Shared → Prop := lap4a_spec_x.1.2.1.2.2.1
noncomputable def kx : Int := lap4a_spec_x.1.2.1.2.2.2
noncomputable def tx : Tok := lap4a_spec_x.1.2.2.1.1.1.1
noncomputable def vs : List Value := lap4a_spec_x.1.2.2.1.1.1.2
noncomputable def ns : List Int := lap4a_spec_x.1.2.2.1.1.2
noncomputable def nv : Nat := lap4a_spec_x.1.2.2.1.2.1
noncomputable def gs : Int := lap4a_spec_x.1.2.2.1.2.2
noncomputable def t3 : Tok := lap4a_spec_x.1.2.2.2.1.1
noncomputable def ge : Int := lap4a_spec_x.1.2.2.2.1.2
noncomputable def t4 : Tok := lap4a_spec_x.1.2.2.2.2.1
noncomputable def pt : Int := lap4a_spec_x.1.2.2.2.2.2
noncomputable def p1 : Tok := lap4a_spec_x.2.1.1.1.1.1.1
noncomputable def zv : Int := lap4a_spec_x.2.1.1.1.1.1.2
noncomputable def z1 : Tok := lap4a_spec_x.2.1.1.1.1.2
noncomputable def ro : Bool := lap4a_spec_x.2.1.1.1.2.1
noncomputable def tq : Int := lap4a_spec_x.2.1.1.1.2.2
noncomputable def t1 : Tok := lap4a_spec_x.2.1.1.2.1.1
noncomputable def ck : Int := lap4a_spec_x.2.1.1.2.1.2
noncomputable def c1 : Tok := lap4a_spec_x.2.1.1.2.2.1
noncomputable def sk : Int := lap4a_spec_x.2.1.1.2.2.2
noncomputable def s1 : Tok := lap4a_spec_x.2.1.2.1.1.1.1
noncomputable def cl' : Addr := lap4a_spec_x.2.1.2.1.1.1.2
noncomputable def cvs : List Value := lap4a_spec_x.2.1.2.1.1.2
noncomputable def nc : Nat := lap4a_spec_x.2.1.2.1.2.1
noncomputable def o1 : Obj := lap4a_spec_x.2.1.2.1.2.2
noncomputable def o2 : Obj := lap4a_spec_x.2.1.2.2.1.1
noncomputable def o3 : Obj := lap4a_spec_x.2.1.2.2.1.2
noncomputable def o4 : Obj := lap4a_spec_x.2.1.2.2.2.1
noncomputable def ps : Array Value := lap4a_spec_x.2.1.2.2.2.2
noncomputable def kc : List (Addr × Obj) := lap4a_spec_x.2.2.1.1.1.1.1
noncomputable def tl : List (Addr × Obj) := lap4a_spec_x.2.2.1.1.1.1.2
noncomputable def place : Int := lap4a_spec_x.2.2.1.1.1.2
noncomputable def tp : Tok := lap4a_spec_x.2.2.1.1.2.1
noncomputable def tw : Tok := lap4a_spec_x.2.2.1.1.2.2
noncomputable def prog : Program := lap4a_spec_x.2.2.1.2.1.1
noncomputable def w : World := lap4a_spec_x.2.2.1.2.1.2
noncomputable def p : Program := lap4a_spec_x.2.2.1.2.2.1
noncomputable def loose : List Str := lap4a_spec_x.2.2.1.2.2.2
noncomputable def mean : ExcName → Option Value := lap4a_spec_x.2.2.2.1.1.1.1
noncomputable def mg : Str → Option Value := lap4a_spec_x.2.2.2.1.1.1.2
noncomputable def mb : Str → Option Value := lap4a_spec_x.2.2.2.1.1.2
noncomputable def A₀ : Around := lap4a_spec_x.2.2.2.1.2.1
noncomputable def h₀ : Heap := lap4a_spec_x.2.2.2.1.2.2
noncomputable def L : Addr := lap4a_spec_x.2.2.2.2.1.1
noncomputable def m : Str → Option Value := lap4a_spec_x.2.2.2.2.1.2
noncomputable def s : Shared := lap4a_spec_x.2.2.2.2.2.1
noncomputable def E : Value → Shared → Prop := lap4a_spec_x.2.2.2.2.2.2
set_option maxRecDepth 100000 in
set_option maxHeartbeats 8000000 in
theorem main  : lap4a_spec_H gd fa D A b db g dg c mk dm rw ls vs0 ns0 n1 n2 K G hm km orw kp nl i news Q kx tx vs ns nv gs t3 ge t4 pt p1 zv z1 ro tq t1 ck c1 sk s1 cl' cvs nc o1 o2 o3 o4 ps kc tl place tp tw prog w p loose mean mg mb A₀ h₀ L m s E (Stand (wpAny (model prog w) (ktrTop 400 400 gd (Str.ofString "law") (lawSc w.params) L fa (.ref 656) (cellsFrom (L + 1) (lawSc w.params).names []) []) (execs ((lapBody w.params).drop 11) (envX (Str.ofString "law") (lawSc w.params) L fa (.ref 656) (cellsFrom (L + 1) (lawSc w.params).names []))) Q E s)) := by
  intro C HC N P ap ap2 ap3 hi0 hlen0 hr lo d1 d2 hi3 hi h0 h1 h2 hz hlen hci hcl hk0 hk9 hp1 hp2 e1 e2 e3 e4 hL hkc hlc u1 u2 u3 u4 u5 u6 u7 u8 u9 md mc ret
  refine ⟨?_⟩
  obtain ⟨B, F, X, T, hk⟩ := C
  have hgl := gtext_length h0 h1 h2
  have ap1 := ap
  have apc := low_chain ap ap2 ap3.1
  simp only [Apart, and_true] at ap1 ap2
  have ap4 := ap3
  unfold Low at ap4
  obtain ⟨hA0, hA1, hA2, hA3, hA4, hA5, hA6, hA7⟩ := ap4
  replace N := news_picks N P
  simp only [List.cons_append, List.nil_append] at N
  have hmf : m = (fun y => if y = Str.ofString "deck" then some (.ref D) else if y = Str.ofString "codes" then some (.ref cl') else m y) := by
    funext y
    by_cases z0 : y = Str.ofString "deck"
    · rw [if_pos z0, z0]; exact md
    rw [if_neg z0]
    by_cases z1 : y = Str.ofString "codes"
    · rw [if_pos z1, z1]; exact mc
    rw [if_neg z1]
  rw [hmf] at F
  clear hmf
  with_unfolding_all change wpAny _ (ktrTop _ _ _ _ ⟨_, _, _, _, _⟩ _ _ _ [(_, _), (_, _), (_, _), (_, _)] _) (execs [_, _, _, _, _] (envX _ ⟨_, _, _, _, _⟩ _ _ _ [(_, _), (_, _), (_, _), (_, _)])) _ _ _
  have apx2 : Apart [654, L, D, db] := by simp only [Apart, and_true]; omega
  have a1 : @LT.lt Nat _ D ls := by k_extra "ord"
  have a2 : @LT.lt Nat _ db ls := by k_extra "ord"
  have a3 : @LT.lt Nat _ dg ls := by k_extra "ord"
  have a4 : @LT.lt Nat _ c ls := by k_extra "ord"
  have a5 : @LT.lt Nat _ (L + 1) ls := by k_extra "ord"
  have a6 : @LT.lt Nat _ (L + 1 + 1) ls := by k_extra "ord"
  have a7 : @LT.lt Nat _ (L + 1 + 1 + 1) ls := by k_extra "ord"
  have a8 : @LT.lt Nat _ (L + 1 + 1 + 1 + 1) ls := by k_extra "ord"
  have a9 : @LT.lt Nat _ 654 ls := by k_extra "ord"
  have adb : @LT.lt Nat _ db b := by k_extra "ord"
  k_steps
  change wpAny _ _ _ _ _ _
  refine around_le (sig_go (sy := Str.ofString "?") (place := place) (P1 := True) (P2 := False) ⟨by k_asm, by k_asm, by k_asm, by k_asm, rfl⟩ (by k_asm) (.head _) (by ktr_rel) ?zcall ?zn ?ze) (Nat.le_of_ble_eq_true rfl) (Nat.le_of_ble_eq_true rfl)
  case ze => exact fun _ _ _ _ hf => hf.elim
  case zcall =>
    intro g1 L1 h1 tk1 A₁ Q₁ E₁ m₁ C1 N1 hlt1 hns1 hq1 he1
    obtain ⟨B1, F1, X1, T1, hk1⟩ := C1
    k_steps
    rename News _ _ _ _ => N2
    exact hq1 _ _ _ _ trivial (by k_asm) (news_go N2)
  case zn =>
    intro t5 p5 h5 tk5 _ F5 N5
    (try dsimp only)
    simp only [List.cons_append, List.nil_append] at N5
    k_steps
    · exfalso; rename _ ≠ _ => hh; exact hh rfl
    · change wpAny _ _ _ _ _ _
      with_unfolding_all change wpAny _ (ktrTop 400 400 gd (Str.ofString "law") (lawSc w.params) L fa (.ref 656) (cellsFrom (L + 1) (lawSc w.params).names []) []) (execs ((lapBody w.params).drop 12) (envX (Str.ofString "law") (lawSc w.params) L fa (.ref 656) (cellsFrom (L + 1) (lawSc w.params).names []))) _ _ _
      rename News _ _ _ _ => N7
      rename Fr _ _ _ _ => F7
      rename Lams _ _ _ _ _ => L7
      with_reducible refine Stand.out ?_
      exact lap5_spec (C := ⟨by k_asm, F7, by k_asm, by k_asm, rfl⟩) HC (lap_news4 N7) (by ktr_rel) ap apx2 ap3 hi0 hlen0 hr lo d1 d2 hi3 hi h0 h1 h2 hz hlen hci hcl hk0 hk9 e1 e2 e3 ⟨_, e4⟩ L7 (kc_more hkc) hlc (off_cons (L7.far _ (List.Mem.head _)) a1 u1) (off_cons (L7.far _ (List.Mem.head _)) a2 u2) (off_cons (L7.far _ (List.Mem.head _)) a3 u3) (off_cons (L7.far _ (List.Mem.head _)) a4 u4) (off_cons (L7.far _ (List.Mem.head _)) a5 u5) (off_cons (L7.far _ (List.Mem.head _)) a6 u6) (off_cons (L7.far _ (List.Mem.head _)) a7 u7) (off_cons (L7.far _ (List.Mem.head _)) a8 u8) (off_cons (L7.far _ (List.Mem.head _)) a9 u9) rfl rfl ret
end lap4a_spec_n
theorem lap4a_spec {prog : Program} {w : World} {p : Program} {loose : List Str} {mean : ExcName → Option Value} {mg : Str → Option Value} {mb : Str → Option Value} {A₀ : Around} {h₀ : Heap} {L : Addr} {m : Str → Option Value} {s : Shared} {E : Value → Shared → Prop} {gd : Option (List Code)} {fa : Addr} {D : Addr} {A : Addr} {b : Addr} {db : Addr} {g : Addr} {dg : Addr} {c : Addr} {mk : Addr} {dm : Addr} {rw : Addr} {ls : Addr} {vs0 : List Value} {ns0 : List Int} {n1 : Nat} {n2 : Nat} {K : BKeys} {G : GKeys} {hm : Int} {km : Tok} {orw : Obj} {kp : List (Addr × Obj)} {nl : Nat} {i : Nat} {news : List (Addr × Obj)} {Q : Flow → Shared → Prop} {kx : Int} {tx : Tok} {vs : List Value} {ns : List Int} {nv : Nat} {gs : Int} {t3 : Tok} {ge : Int} {t4 : Tok} {pt : Int} {p1 : Tok} {zv : Int} {z1 : Tok} {ro : Bool} {tq : Int} {t1 : Tok} {ck : Int} {c1 : Tok} {sk : Int} {s1 : Tok} {cl' : Addr} {cvs : List Value} {nc : Nat} {o1 : Obj} {o2 : Obj} {o3 : Obj} {o4 : Obj} {ps : Array Value} {kc : List (Addr × Obj)} {tl : List (Addr × Obj)} {place : Int} {tp : Tok} {tw : Tok} : lap4a_spec_H gd fa D A b db g dg c mk dm rw ls vs0 ns0 n1 n2 K G hm km orw kp nl i news Q kx tx vs ns nv gs t3 ge t4 pt p1 zv z1 ro tq t1 ck c1 sk s1 cl' cvs nc o1 o2 o3 o4 ps kc tl place tp tw prog w p loose mean mg mb A₀ h₀ L m s E (Stand (wpAny (model prog w) (ktrTop 400 400 gd (Str.ofString "law") (lawSc w.params) L fa (.ref 656) (cellsFrom (L + 1) (lawSc w.params).names []) []) (execs ((lapBody w.params).drop 11) (envX (Str.ofString "law") (lawSc w.params) L fa (.ref 656) (cellsFrom (L + 1) (lawSc w.params).names []))) Q E s)) := lap4a_spec_ex.choose_spec (lap4a_spec_n.main ) (((((((gd, fa), D), (A, b)), (((db, g), dg), (c, mk))), ((((dm, rw), ls), (vs0, ns0)), ((n1, n2), (K, G)))), (((((hm, km), orw), (kp, nl)), ((i, news), (Q, kx))), ((((tx, vs), ns), (nv, gs)), ((t3, ge), (t4, pt))))), ((((((p1, zv), z1), (ro, tq)), ((t1, ck), (c1, sk))), ((((s1, cl'), cvs), (nc, o1)), ((o2, o3), (o4, ps)))), (((((kc, tl), place), (tp, tw)), ((prog, w), (p, loose))), ((((mean, mg), mb), (A₀, h₀)), ((L, m), (s, E))))))
def lap4b_spec_H (gd : Option (List Code)) (fa : Addr) (D : Addr) (A : Addr) (b : Addr) (db : Addr) (g : Addr) (dg : Addr) (c : Addr) (mk : Addr) (dm : Addr) (rw : Addr) (ls : Addr) (vs0 : List Value) (ns0 : List Int) (n1 : Nat) (n2 : Nat) (K : BKeys) (G : GKeys) (hm : Int) (km : Tok) (orw : Obj) (kp : List (Addr × Obj)) (nl : Nat) (i : Nat) (news : List (Addr × Obj)) (Q : Flow → Shared → Prop) (kx : Int) (tx : Tok) (vs : List Value) (ns : List Int) (nv : Nat) (gs : Int) (t3 : Tok) (ge : Int) (t4 : Tok) (pt : Int) (p1 : Tok) (zv : Int) (z1 : Tok) (ro : Bool) (tq : Int) (t1 : Tok) (ck : Int) (c1 : Tok) (sk : Int) (s1 : Tok) (cl' : Addr) (cvs : List Value) (nc : Nat) (o1 : Obj) (o2 : Obj) (o3 : Obj) (o4 : Obj) (ps : Array Value) (kc : List (Addr × Obj)) (tl : List (Addr × Obj)) (place : Int) (tp : Tok) (tw : Tok) (prog : Program) (w : World) (p : Program) (loose : List Str) (mean : ExcName → Option Value) (mg : Str → Option Value) (mb : Str → Option Value) (A₀ : Around) (h₀ : Heap) (L : Addr) (m : Str → Option Value) (s : Shared) (E : Value → Shared → Prop) (zR : Prop) : Prop := ∀ (C : Cx w p loose mean mg mb A₀ h₀ [] h₀ L s.heap m (lawSc w.params)) (HC : CodeHd h₀ 656 654) (N : News h₀ L s.heap news) (P : Picks [(D, listOf #[.ref A, .int kx tx] n1), (A, listOf vs0.toArray n2), (b, instObj 622 db), (db, bufD K g mk ls pt p1 zv z1 ro tq t1 ck c1 sk s1), (g, instObj 411 dg), (dg, gapD G c gs t3 ge t4), (c, listOf vs.toArray nv), (mk, instObj 481 dm), (dm, mkD hm km rw), (rw, orw), (ls, listOf #[] nl), (cl', listOf cvs.toArray nc), (L + 1, o1), (L + 1 + 1, o2), (L + 1 + 1 + 1, o3), (L + 1 + 1 + 1 + 1, o4), (654, tabObj ps)] news tl) (ap : Apart [db, b, dg, g, c, dm, mk, rw, ls]) (ap2 : Apart [654, L, D, db]) (ap3 : Low L D A) (hi0 : IntsAre vs0 ns0) (hlen0 : ns0.length ≤ 63) (hr : G.room = 8) (lo : (rw == sysModules) = false) (d1 : orw.IsDictOf (strKind prog w) []) (d2 : orw.IsDictOf (intKind prog w) []) (hi3 : i < 3) (hi : IntsAre vs ns) (h0 : 0 ≤ gs) (h1 : gs ≤ ge) (h2 : ge ≤ ns.length) (hz : zv = ns.length - ge + gs + 1) (hlen : ns.length ≤ 100 + 100 * (i + 1)) (hci : IntsAre cvs (gtext ns gs ge)) (hcl : (gtext ns gs ge).length ≤ 10 + 40 * (i + 1)) (hk0 : 0 ≤ kx) (hk9 : kx ≤ 10 + 20 * (i : Int) + 15) (hp1 : 1 ≤ place) (hp2 : place ≤ zv) (e1 : o1.data = .cell (some (.int place tp))) (e2 : o2.data = .cell (some (.ref b))) (e3 : ∃ v, o3.data = .cell v) (e4 : o4.data = .cell (some (.str (Str.ofString "end-of-buffer") tw))) (hL : Lams ls lamQ kp ps kc) (hkc : ∀ q ∈ kc, q ∈ tl) (hlc : @LT.lt Nat _ ls cl') (u1 : ∀ q ∈ tl, q.1 ≠ D) (u2 : ∀ q ∈ tl, q.1 ≠ db) (u3 : ∀ q ∈ tl, q.1 ≠ dg) (u4 : ∀ q ∈ tl, q.1 ≠ c) (u5 : ∀ q ∈ tl, q.1 ≠ L + 1) (u6 : ∀ q ∈ tl, q.1 ≠ L + 1 + 1) (u7 : ∀ q ∈ tl, q.1 ≠ L + 1 + 1 + 1) (u8 : ∀ q ∈ tl, q.1 ≠ L + 1 + 1 + 1 + 1) (u9 : ∀ q ∈ tl, q.1 ≠ 654) (md : m (Str.ofString "deck") = some (.ref D)) (mc : m (Str.ofString "codes") = some (.ref cl')) (ret : ∀ h' tk' m' news', Fr h₀ L h' m' → News h₀ L h' news' → LapSt L D A b db g dg c mk dm rw ls vs0 n1 n2 K G hm km orw nl kp (i + 1) m' news' → Q .next { s with heap := h', toks := tk' }), zR
abbrev lap4b_spec_P : Type := ((((((((Option (List Code)) × Addr) × Addr) × (Addr × Addr)) × (((Addr × Addr) × Addr) × (Addr × Addr))) × ((((Addr × Addr) × Addr) × ((List Value) × (List Int))) × ((Nat × Nat) × (BKeys × GKeys)))) × (((((Int × Tok) × Obj) × ((List (Addr × Obj)) × Nat)) × ((Nat × (List (Addr × Obj))) × ((Flow → Shared → Prop) × Int))) × ((((Tok × (List Value)) × (List Int)) × (Nat × Int)) × ((Tok × Int) × (Tok × Int))))) × ((((((Tok × Int) × Tok) × (Bool × Int)) × ((Tok × Int) × (Tok × Int))) × ((((Tok × Addr) × (List Value)) × (Nat × Obj)) × ((Obj × Obj) × (Obj × (Array Value))))) × ((((((List (Addr × Obj)) × (List (Addr × Obj))) × Int) × (Tok × Tok)) × ((Program × World) × (Program × (List Str)))) × (((((ExcName → Option Value) × (Str → Option Value)) × (Str → Option Value)) × (Around × Heap)) × ((Addr × (Str → Option Value)) × (Shared × (Value → Shared → Prop)))))))
def lap4b_spec_S (gd : Option (List Code)) (fa : Addr) (D : Addr) (A : Addr) (b : Addr) (db : Addr) (g : Addr) (dg : Addr) (c : Addr) (mk : Addr) (dm : Addr) (rw : Addr) (ls : Addr) (vs0 : List Value) (ns0 : List Int) (n1 : Nat) (n2 : Nat) (K : BKeys) (G : GKeys) (hm : Int) (km : Tok) (orw : Obj) (kp : List (Addr × Obj)) (nl : Nat) (i : Nat) (news : List (Addr × Obj)) (Q : Flow → Shared → Prop) (kx : Int) (tx : Tok) (vs : List Value) (ns : List Int) (nv : Nat) (gs : Int) (t3 : Tok) (ge : Int) (t4 : Tok) (pt : Int) (p1 : Tok) (zv : Int) (z1 : Tok) (ro : Bool) (tq : Int) (t1 : Tok) (ck : Int) (c1 : Tok) (sk : Int) (s1 : Tok) (cl' : Addr) (cvs : List Value) (nc : Nat) (o1 : Obj) (o2 : Obj) (o3 : Obj) (o4 : Obj) (ps : Array Value) (kc : List (Addr × Obj)) (tl : List (Addr × Obj)) (place : Int) (tp : Tok) (tw : Tok) (prog : Program) (w : World) (p : Program) (loose : List Str) (mean : ExcName → Option Value) (mg : Str → Option Value) (mb : Str → Option Value) (A₀ : Around) (h₀ : Heap) (L : Addr) (m : Str → Option Value) (s : Shared) (E : Value → Shared → Prop) : Prop := lap4b_spec_H gd fa D A b db g dg c mk dm rw ls vs0 ns0 n1 n2 K G hm km orw kp nl i news Q kx tx vs ns nv gs t3 ge t4 pt p1 zv z1 ro tq t1 ck c1 sk s1 cl' cvs nc o1 o2 o3 o4 ps kc tl place tp tw prog w p loose mean mg mb A₀ h₀ L m s E (Stand (wpAny (model prog w) (ktrTop 400 400 gd (Str.ofString "law") (lawSc w.params) L fa (.ref 656) (cellsFrom (L + 1) (lawSc w.params).names []) []) (execs ((lapBody w.params).drop 11) (envX (Str.ofString "law") (lawSc w.params) L fa (.ref 656) (cellsFrom (L + 1) (lawSc w.params).names []))) Q E s))
abbrev lap4b_spec_F (x : lap4b_spec_P) : Prop := lap4b_spec_S (x.1.1.1.1.1.1.1) (x.1.1.1.1.1.1.2) (x.1.1.1.1.1.2) (x.1.1.1.1.2.1) (x.1.1.1.1.2.2) (x.1.1.1.2.1.1.1) (x.1.1.1.2.1.1.2) (x.1.1.1.2.1.2) (x.1.1.1.2.2.1) (x.1.1.1.2.2.2) (x.1.1.2.1.1.1.1) (x.1.1.2.1.1.1.2) (x.1.1.2.1.1.2) (x.1.1.2.1.2.1) (x.1.1.2.1.2.2) (x.1.1.2.2.1.1) (x.1.1.2.2.1.2) (x.1.1.2.2.2.1) (x.1.1.2.2.2.2) (x.1.2.1.1.1.1.1) (x.1.2.1.1.1.1.2) (x.1.2.1.1.1.2) (x.1.2.1.1.2.1) (x.1.2.1.1.2.2) (x.1.2.1.2.1.1) (x.1.2.1.2.1.2) (x.1.2.1.2.2.1) (x.1.2.1.2.2.2) (x.1.2.2.1.1.1.1) (x.1.2.2.1.1.1.2) (x.1.2.2.1.1.2) (x.1.2.2.1.2.1) (x.1.2.2.1.2.2) (x.1.2.2.2.1.1) (x.1.2.2.2.1.2) (x.1.2.2.2.2.1) (x.1.2.2.2.2.2) (x.2.1.1.1.1.1.1) (x.2.1.1.1.1.1.2) (x.2.1.1.1.1.2) (x.2.1.1.1.2.1) (x.2.1.1.1.2.2) (x.2.1.1.2.1.1) (x.2.1.1.2.1.2) (x.2.1.1.2.2.1) (x.2.1.1.2.2.2) (x.2.1.2.1.1.1.1) (x.2.1.2.1.1.1.2) (x.2.1.2.1.1.2) (x.2.1.2.1.2.1) (x.2.1.2.1.2.2) (x.2.1.2.2.1.1) (x.2.1.2.2.1.2) (x.2.1.2.2.2.1) (x.2.1.2.2.2.2) (x.2.2.1.1.1.1.1) (x.2.2.1.1.1.1.2) (x.2.2.1.1.1.2) (x.2.2.1.1.2.1) (x.2.2.1.1.2.2) (x.2.2.1.2.1.1) (x.2.2.1.2.1.2) (x.2.2.1.2.2.1) (x.2.2.1.2.2.2) (x.2.2.2.1.1.1.1) (x.2.2.2.1.1.1.2) (x.2.2.2.1.1.2) (x.2.2.2.1.2.1) (x.2.2.2.1.2.2) (x.2.2.2.2.1.1) (x.2.2.2.2.1.2) (x.2.2.2.2.2.1) (x.2.2.2.2.2.2)
theorem lap4b_spec_ex : ∃ x : lap4b_spec_P, lap4b_spec_F x → ∀ y : lap4b_spec_P, lap4b_spec_F y := drinker ⟨(((((((none, (0 : Nat)), (0 : Nat)), ((0 : Nat), (0 : Nat))), ((((0 : Nat), (0 : Nat)), (0 : Nat)), ((0 : Nat), (0 : Nat)))), (((((0 : Nat), (0 : Nat)), (0 : Nat)), ([], [])), ((0, 0), (bkeys0, gkeys0)))), (((((0, (0 : Nat)), default), ([], 0)), ((0, []), (fun _ _ => True, 0))), (((((0 : Nat), []), []), (0, 0)), (((0 : Nat), 0), ((0 : Nat), 0))))), (((((((0 : Nat), 0), (0 : Nat)), (false, 0)), (((0 : Nat), 0), ((0 : Nat), 0))), (((((0 : Nat), (0 : Nat)), []), (0, default)), ((default, default), (default, #[])))), ((((([], []), 0), ((0 : Nat), (0 : Nat))), ((default, world0), (default, []))), ((((fun _ => none, fun _ => none), fun _ => none), ({}, default)), (((0 : Nat), fun _ => none), ({}, fun _ _ => True))))))⟩
noncomputable def lap4b_spec_x : lap4b_spec_P := lap4b_spec_ex.choose
namespace lap4b_spec_n
noncomputable def gd : Option (List Code) := lap4b_spec_x.1.1.1.1.1.1.1
noncomputable def fa : Addr := lap4b_spec_x.1.1.1.1.1.1.2
noncomputable def D : Addr := lap4b_spec_x.1.1.1.1.1.2
noncomputable def A : Addr := lap4b_spec_x.1.1.1.1.2.1
noncomputable def b : Addr := lap4b_spec_x.1.1.1.1.2.2
noncomputable def db : Addr := lap4b_spec_x.1.1.1.2.1.1.1
noncomputable def g : Addr := lap4b_spec_x.1.1.1.2.1.1.2
noncomputable def dg : Addr := lap4b_spec_x.1.1.1.2.1.2
noncomputable def c : Addr := lap4b_spec_x.1.1.1.2.2.1
noncomputable def mk : Addr := lap4b_spec_x.1.1.1.2.2.2
noncomputable def dm : Addr := lap4b_spec_x.1.1.2.1.1.1.1
noncomputable def rw : Addr := lap4b_spec_x.1.1.2.1.1.1.2
noncomputable def ls : Addr := lap4b_spec_x.1.1.2.1.1.2
noncomputable def vs0 : List Value := lap4b_spec_x.1.1.2.1.2.1
noncomputable def ns0 : List Int := lap4b_spec_x.1.1.2.1.2.2
noncomputable def n1 : Nat := lap4b_spec_x.1.1.2.2.1.1
noncomputable def n2 : Nat := lap4b_spec_x.1.1.2.2.1.2
noncomputable def K : BKeys := lap4b_spec_x.1.1.2.2.2.1
noncomputable def G : GKeys := lap4b_spec_x.1.1.2.2.2.2
noncomputable def hm : Int := lap4b_spec_x.1.2.1.1.1.1.1
noncomputable def km : Tok := lap4b_spec_x.1.2.1.1.1.1.2
noncomputable def orw : Obj := lap4b_spec_x.1.2.1.1.1.2
noncomputable def kp : List (Addr × Obj) := lap4b_spec_x.1.2.1.1.2.1
noncomputable def nl : Nat := lap4b_spec_x.1.2.1.1.2.2
noncomputable def i : Nat := lap4b_spec_x.1.2.1.2.1.1
noncomputable def news : List (Addr × Obj) := lap4b_spec_x.1.2.1.2.1.2
noncomputable def Q : Flow → Shared → Prop := lap4b_spec_x.1.2.1.2.2.1
noncomputable def kx : Int := lap4b_spec_x.1.2.1.2.2.2
noncomputable def tx : Tok := lap4b_spec_x.1.2.2.1.1.1.1
noncomputable def vs : List Value := lap4b_spec_x.1.2.2.1.1.1.2
noncomputable def ns : List Int := lap4b_spec_x.1.2.2.1.1.2
noncomputable def nv : Nat := lap4b_spec_x.1.2.2.1.2.1
noncomputable def gs : Int := lap4b_spec_x.1.2.2.1.2.2
noncomputable def t3 : Tok := lap4b_spec_x.1.2.2.2.1.1
noncomputable def ge : Int := lap4b_spec_x.1.2.2.2.1.2
noncomputable def t4 : Tok := lap4b_spec_x.1.2.2.2.2.1
noncomputable def pt : Int := lap4b_spec_x.1.2.2.2.2.2
noncomputable def p1 : Tok := lap4b_spec_x.2.1.1.1.1.1.1
noncomputable def zv : Int := lap4b_spec_x.2.1.1.1.1.1.2
noncomputable def z1 : Tok := lap4b_spec_x.2.1.1.1.1.2
noncomputable def ro : Bool := lap4b_spec_x.2.1.1.1.2.1
noncomputable def tq : Int := lap4b_spec_x.2.1.1.1.2.2
noncomputable def t1 : Tok := lap4b_spec_x.2.1.1.2.1.1
noncomputable def ck : Int := lap4b_spec_x.2.1.1.2.1.2
noncomputable def c1 : Tok := lap4b_spec_x.2.1.1.2.2.1
noncomputable def sk : Int := lap4b_spec_x.2.1.1.2.2.2
noncomputable def s1 : Tok := lap4b_spec_x.2.1.2.1.1.1.1
noncomputable def cl' : Addr := lap4b_spec_x.2.1.2.1.1.1.2
noncomputable def cvs : List Value := lap4b_spec_x.2.1.2.1.1.2
noncomputable def nc : Nat := lap4b_spec_x.2.1.2.1.2.1
noncomputable def o1 : Obj := lap4b_spec_x.2.1.2.1.2.2
noncomputable def o2 : Obj := lap4b_spec_x.2.1.2.2.1.1
noncomputable def o3 : Obj := lap4b_spec_x.2.1.2.2.1.2
noncomputable def o4 : Obj := lap4b_spec_x.2.1.2.2.2.1
noncomputable def ps : Array Value := lap4b_spec_x.2.1.2.2.2.2
noncomputable def kc : List (Addr × Obj) := lap4b_spec_x.2.2.1.1.1.1.1
noncomputable def tl : List (Addr × Obj) := lap4b_spec_x.2.2.1.1.1.1.2
noncomputable def place : Int := lap4b_spec_x.2.2.1.1.1.2
noncomputable def tp : Tok := lap4b_spec_x.2.2.1.1.2.1
noncomputable def tw : Tok := lap4b_spec_x.2.2.1.1.2.2
noncomputable def prog : Program := lap4b_spec_x.2.2.1.2.1.1
noncomputable def w : World := lap4b_spec_x.2.2.1.2.1.2
noncomputable def p : Program := lap4b_spec_x.2.2.1.2.2.1
noncomputable def loose : List Str := lap4b_spec_x.2.2.1.2.2.2
noncomputable def mean : ExcName → Option Value := lap4b_spec_x.2.2.2.1.1.1.1
noncomputable def mg : Str → Option Value := lap4b_spec_x.2.2.2.1.1.1.2
noncomputable def mb : Str → Option Value := lap4b_spec_x.2.2.2.1.1.2
noncomputable def A₀ : Around := lap4b_spec_x.2.2.2.1.2.1
noncomputable def h₀ : Heap := lap4b_spec_x.2.2.2.1.2.2
noncomputable def L : Addr := lap4b_spec_x.2.2.2.2.1.1
noncomputable def m : Str → Option Value := lap4b_spec_x.2.2.2.2.1.2
noncomputable def s : Shared := lap4b_spec_x.2.2.2.2.2.1
noncomputable def E : Value → Shared → Prop := lap4b_spec_x.2.2.2.2.2.2
set_option maxRecDepth 100000 in
set_option maxHeartbeats 8000000 in
theorem main  : lap4b_spec_H gd fa D A b db g dg c mk dm rw ls vs0 ns0 n1 n2 K G hm km orw kp nl i news Q kx tx vs ns nv gs t3 ge t4 pt p1 zv z1 ro tq t1 ck c1 sk s1 cl' cvs nc o1 o2 o3 o4 ps kc tl place tp tw prog w p loose mean mg mb A₀ h₀ L m s E (Stand (wpAny (model prog w) (ktrTop 400 400 gd (Str.ofString "law") (lawSc w.params) L fa (.ref 656) (cellsFrom (L + 1) (lawSc w.params).names []) []) (execs ((lapBody w.params).drop 11) (envX (Str.ofString "law") (lawSc w.params) L fa (.ref 656) (cellsFrom (L + 1) (lawSc w.params).names []))) Q E s)) := by
  intro C HC N P ap ap2 ap3 hi0 hlen0 hr lo d1 d2 hi3 hi h0 h1 h2 hz hlen hci hcl hk0 hk9 hp1 hp2 e1 e2 e3 e4 hL hkc hlc u1 u2 u3 u4 u5 u6 u7 u8 u9 md mc ret
  refine ⟨?_⟩
  obtain ⟨B, F, X, T, hk⟩ := C
  have hgl := gtext_length h0 h1 h2
  have ap1 := ap
  have apc := low_chain ap ap2 ap3.1
  simp only [Apart, and_true] at ap1 ap2
  have ap4 := ap3
  unfold Low at ap4
  obtain ⟨hA0, hA1, hA2, hA3, hA4, hA5, hA6, hA7⟩ := ap4
  replace N := news_picks N P
  simp only [List.cons_append, List.nil_append] at N
  have hmf : m = (fun y => if y = Str.ofString "deck" then some (.ref D) else if y = Str.ofString "codes" then some (.ref cl') else m y) := by
    funext y
    by_cases z0 : y = Str.ofString "deck"
    · rw [if_pos z0, z0]; exact md
    rw [if_neg z0]
    by_cases z1 : y = Str.ofString "codes"
    · rw [if_pos z1, z1]; exact mc
    rw [if_neg z1]
  rw [hmf] at F
  clear hmf
  with_unfolding_all change wpAny _ (ktrTop _ _ _ _ ⟨_, _, _, _, _⟩ _ _ _ [(_, _), (_, _), (_, _), (_, _)] _) (execs [_, _, _, _, _] (envX _ ⟨_, _, _, _, _⟩ _ _ _ [(_, _), (_, _), (_, _), (_, _)])) _ _ _
  have apx2 : Apart [654, L, D, db] := by simp only [Apart, and_true]; omega
  have a1 : @LT.lt Nat _ D ls := by k_extra "ord"
  have a2 : @LT.lt Nat _ db ls := by k_extra "ord"
  have a3 : @LT.lt Nat _ dg ls := by k_extra "ord"
  have a4 : @LT.lt Nat _ c ls := by k_extra "ord"
  have a5 : @LT.lt Nat _ (L + 1) ls := by k_extra "ord"
  have a6 : @LT.lt Nat _ (L + 1 + 1) ls := by k_extra "ord"
  have a7 : @LT.lt Nat _ (L + 1 + 1 + 1) ls := by k_extra "ord"
  have a8 : @LT.lt Nat _ (L + 1 + 1 + 1 + 1) ls := by k_extra "ord"
  have a9 : @LT.lt Nat _ 654 ls := by k_extra "ord"
  have adb : @LT.lt Nat _ db b := by k_extra "ord"
  k_steps
  change wpAny _ _ _ _ _ _
  refine around_le (sig_go (sy := Str.ofString "end-of-buffer") (place := place) (P1 := False) (P2 := True) ⟨by k_asm, by k_asm, by k_asm, by k_asm, rfl⟩ (by k_asm) (.head _) (by ktr_rel) ?zcall ?zn ?ze) (Nat.le_of_ble_eq_true rfl) (Nat.le_of_ble_eq_true rfl)
  case zn => exact fun _ _ _ _ hf => hf.elim
  case zcall =>
    intro g1 L1 h1 tk1 A₁ Q₁ E₁ m₁ C1 N1 hlt1 hns1 hq1 he1
    obtain ⟨B1, F1, X1, T1, hk1⟩ := C1
    k_steps
    exact fly_on (by k_asm) (by k_asm) fun h' x => he1 _ _ _ _ trivial (x.tail.sub sub_go)
  case ze =>
    intro t5 p5 h5 tk5 _ F5 N5
    (try dsimp only)
    simp only [List.cons_append, List.nil_append] at N5
    k_steps
    · exfalso; rename _ ≠ _ => hh; exact hh rfl
    · change wpAny _ _ _ _ _ _
      with_unfolding_all change wpAny _ (ktrTop 400 400 gd (Str.ofString "law") (lawSc w.params) L fa (.ref 656) (cellsFrom (L + 1) (lawSc w.params).names []) []) (execs ((lapBody w.params).drop 12) (envX (Str.ofString "law") (lawSc w.params) L fa (.ref 656) (cellsFrom (L + 1) (lawSc w.params).names []))) _ _ _
      rename News _ _ _ _ => N7
      rename Fr _ _ _ _ => F7
      rename Lams _ _ _ _ _ => L7
      with_reducible refine Stand.out ?_
      exact lap5_spec (C := ⟨by k_asm, F7, by k_asm, by k_asm, rfl⟩) HC (lap_news4 N7) (by ktr_rel) ap apx2 ap3 hi0 hlen0 hr lo d1 d2 hi3 hi h0 h1 h2 hz hlen hci hcl hk0 hk9 e1 e2 e3 ⟨_, e4⟩ L7 (kc_more hkc) hlc (off_cons (L7.far _ (List.Mem.head _)) a1 u1) (off_cons (L7.far _ (List.Mem.head _)) a2 u2) (off_cons (L7.far _ (List.Mem.head _)) a3 u3) (off_cons (L7.far _ (List.Mem.head _)) a4 u4) (off_cons (L7.far _ (List.Mem.head _)) a5 u5) (off_cons (L7.far _ (List.Mem.head _)) a6 u6) (off_cons (L7.far _ (List.Mem.head _)) a7 u7) (off_cons (L7.far _ (List.Mem.head _)) a8 u8) (off_cons (L7.far _ (List.Mem.head _)) a9 u9) rfl rfl ret
end lap4b_spec_n
theorem lap4b_spec {prog : Program} {w : World} {p : Program} {loose : List Str} {mean : ExcName → Option Value} {mg : Str → Option Value} {mb : Str → Option Value} {A₀ : Around} {h₀ : Heap} {L : Addr} {m : Str → Option Value} {s : Shared} {E : Value → Shared → Prop} {gd : Option (List Code)} {fa : Addr} {D : Addr} {A : Addr} {b : Addr} {db : Addr} {g : Addr} {dg : Addr} {c : Addr} {mk : Addr} {dm : Addr} {rw : Addr} {ls : Addr} {vs0 : List Value} {ns0 : List Int} {n1 : Nat} {n2 : Nat} {K : BKeys} {G : GKeys} {hm : Int} {km : Tok} {orw : Obj} {kp : List (Addr × Obj)} {nl : Nat} {i : Nat} {news : List (Addr × Obj)} {Q : Flow → Shared → Prop} {kx : Int} {tx : Tok} {vs : List Value} {ns : List Int} {nv : Nat} {gs : Int} {t3 : Tok} {ge : Int} {t4 : Tok} {pt : Int} {p1 : Tok} {zv : Int} {z1 : Tok} {ro : Bool} {tq : Int} {t1 : Tok} {ck : Int} {c1 : Tok} {sk : Int} {s1 : Tok} {cl' : Addr} {cvs : List Value} {nc : Nat} {o1 : Obj} {o2 : Obj} {o3 : Obj} {o4 : Obj} {ps : Array Value} {kc : List (Addr × Obj)} {tl : List (Addr × Obj)} {place : Int} {tp : Tok} {tw : Tok} : lap4b_spec_H gd fa D A b db g dg c mk dm rw ls vs0 ns0 n1 n2 K G hm km orw kp nl i news Q kx tx vs ns nv gs t3 ge t4 pt p1 zv z1 ro tq t1 ck c1 sk s1 cl' cvs nc o1 o2 o3 o4 ps kc tl place tp tw prog w p loose mean mg mb A₀ h₀ L m s E (Stand (wpAny (model prog w) (ktrTop 400 400 gd (Str.ofString "law") (lawSc w.params) L fa (.ref 656) (cellsFrom (L + 1) (lawSc w.params).names []) []) (execs ((lapBody w.params).drop 11) (envX (Str.ofString "law") (lawSc w.params) L fa (.ref 656) (cellsFrom (L + 1) (lawSc w.params).names []))) Q E s)) := lap4b_spec_ex.choose_spec (lap4b_spec_n.main ) (((((((gd, fa), D), (A, b)), (((db, g), dg), (c, mk))), ((((dm, rw), ls), (vs0, ns0)), ((n1, n2), (K, G)))), (((((hm, km), orw), (kp, nl)), ((i, news), (Q, kx))), ((((tx, vs), ns), (nv, gs)), ((t3, ge), (t4, pt))))), ((((((p1, zv), z1), (ro, tq)), ((t1, ck), (c1, sk))), ((((s1, cl'), cvs), (nc, o1)), ((o2, o3), (o4, ps)))), (((((kc, tl), place), (tp, tw)), ((prog, w), (p, loose))), ((((mean, mg), mb), (A₀, h₀)), ((L, m), (s, E))))))
def lap4c_spec_H (gd : Option (List Code)) (fa : Addr) (D : Addr) (A : Addr) (b : Addr) (db : Addr) (g : Addr) (dg : Addr) (c : Addr) (mk : Addr) (dm : Addr) (rw : Addr) (ls : Addr) (vs0 : List Value) (ns0 : List Int) (n1 : Nat) (n2 : Nat) (K : BKeys) (G : GKeys) (hm : Int) (km : Tok) (orw : Obj) (kp : List (Addr × Obj)) (nl : Nat) (i : Nat) (news : List (Addr × Obj)) (Q : Flow → Shared → Prop) (kx : Int) (tx : Tok) (vs : List Value) (ns : List Int) (nv : Nat) (gs : Int) (t3 : Tok) (ge : Int) (t4 : Tok) (pt : Int) (p1 : Tok) (zv : Int) (z1 : Tok) (ro : Bool) (tq : Int) (t1 : Tok) (ck : Int) (c1 : Tok) (sk : Int) (s1 : Tok) (cl' : Addr) (cvs : List Value) (nc : Nat) (o1 : Obj) (o2 : Obj) (o3 : Obj) (o4 : Obj) (ps : Array Value) (kc : List (Addr × Obj)) (tl : List (Addr × Obj)) (place : Int) (tp : Tok) (tw : Tok) (prog : Program) (w : World) (p : Program) (loose : List Str) (mean : ExcName → Option Value) (mg : Str → Option Value) (mb : Str → Option Value) (A₀ : Around) (h₀ : Heap) (L : Addr) (m : Str → Option Value) (s : Shared) (E : Value → Shared → Prop) (zR : Prop) : Prop := ∀ (C : Cx w p loose mean mg mb A₀ h₀ [] h₀ L s.heap m (lawSc w.params)) (HC : CodeHd h₀ 656 654) (N : News h₀ L s.heap news) (P : Picks [(D, listOf #[.ref A, .int kx tx] n1), (A, listOf vs0.toArray n2), (b, instObj 622 db), (db, bufD K g mk ls pt p1 zv z1 ro tq t1 ck c1 sk s1), (g, instObj 411 dg), (dg, gapD G c gs t3 ge t4), (c, listOf vs.toArray nv), (mk, instObj 481 dm), (dm, mkD hm km rw), (rw, orw), (ls, listOf #[] nl), (cl', listOf cvs.toArray nc), (L + 1, o1), (L + 1 + 1, o2), (L + 1 + 1 + 1, o3), (L + 1 + 1 + 1 + 1, o4), (654, tabObj ps)] news tl) (ap : Apart [db, b, dg, g, c, dm, mk, rw, ls]) (ap2 : Apart [654, L, D, db]) (ap3 : Low L D A) (hi0 : IntsAre vs0 ns0) (hlen0 : ns0.length ≤ 63) (hr : G.room = 8) (lo : (rw == sysModules) = false) (d1 : orw.IsDictOf (strKind prog w) []) (d2 : orw.IsDictOf (intKind prog w) []) (hi3 : i < 3) (hi : IntsAre vs ns) (h0 : 0 ≤ gs) (h1 : gs ≤ ge) (h2 : ge ≤ ns.length) (hz : zv = ns.length - ge + gs + 1) (hlen : ns.length ≤ 100 + 100 * (i + 1)) (hci : IntsAre cvs (gtext ns gs ge)) (hcl : (gtext ns gs ge).length ≤ 10 + 40 * (i + 1)) (hk0 : 0 ≤ kx) (hk9 : kx ≤ 10 + 20 * (i : Int) + 15) (hp1 : 1 ≤ place) (hp2 : place ≤ zv) (e1 : o1.data = .cell (some (.int place tp))) (e2 : o2.data = .cell (some (.ref b))) (e3 : ∃ v, o3.data = .cell v) (e4 : o4.data = .cell (some (.str (Str.ofString "beginning-of-buffer") tw))) (hL : Lams ls lamQ kp ps kc) (hkc : ∀ q ∈ kc, q ∈ tl) (hlc : @LT.lt Nat _ ls cl') (u1 : ∀ q ∈ tl, q.1 ≠ D) (u2 : ∀ q ∈ tl, q.1 ≠ db) (u3 : ∀ q ∈ tl, q.1 ≠ dg) (u4 : ∀ q ∈ tl, q.1 ≠ c) (u5 : ∀ q ∈ tl, q.1 ≠ L + 1) (u6 : ∀ q ∈ tl, q.1 ≠ L + 1 + 1) (u7 : ∀ q ∈ tl, q.1 ≠ L + 1 + 1 + 1) (u8 : ∀ q ∈ tl, q.1 ≠ L + 1 + 1 + 1 + 1) (u9 : ∀ q ∈ tl, q.1 ≠ 654) (md : m (Str.ofString "deck") = some (.ref D)) (mc : m (Str.ofString "codes") = some (.ref cl')) (ret : ∀ h' tk' m' news', Fr h₀ L h' m' → News h₀ L h' news' → LapSt L D A b db g dg c mk dm rw ls vs0 n1 n2 K G hm km orw nl kp (i + 1) m' news' → Q .next { s with heap := h', toks := tk' }), zR
abbrev lap4c_spec_P : Type := ((((((((Option (List Code)) × Addr) × Addr) × (Addr × Addr)) × (((Addr × Addr) × Addr) × (Addr × Addr))) × ((((Addr × Addr) × Addr) × ((List Value) × (List Int))) × ((Nat × Nat) × (BKeys × GKeys)))) × (((((Int × Tok) × Obj) × ((List (Addr × Obj)) × Nat)) × ((Nat × (List (Addr × Obj))) × ((Flow → Shared → Prop) × Int))) × ((((Tok × (List Value)) × (List Int)) × (Nat × Int)) × ((Tok × Int) × (Tok × Int))))) × ((((((Tok × Int) × Tok) × (Bool × Int)) × ((Tok × Int) × (Tok × Int))) × ((((Tok × Addr) × (List Value)) × (Nat × Obj)) × ((Obj × Obj) × (Obj × (Array Value))))) × ((((((List (Addr × Obj)) × (List (Addr × Obj))) × Int) × (Tok × Tok)) × ((Program × World) × (Program × (List Str)))) × (((((ExcName → Option Value) × (Str → Option Value)) × (Str → Option Value)) × (Around × Heap)) × ((Addr × (Str → Option Value)) × (Shared × (Value → Shared → Prop)))))))
def lap4c_spec_S (gd : Option (List Code)) (fa : Addr) (D : Addr) (A : Addr) (b : Addr) (db : Addr) (g : Addr) (dg : Addr) (c : Addr) (mk : Addr) (dm : Addr) (rw : Addr) (ls : Addr) (vs0 : List Value) (ns0 : List Int) (n1 : Nat) (n2 : Nat) (K : BKeys) (G : GKeys) (hm : Int) (km : Tok) (orw : Obj) (kp : List (Addr × Obj)) (nl : Nat) (i : Nat) (news : List (Addr × Obj)) (Q : Flow → Shared → Prop) (kx : Int) (tx : Tok) (vs : List Value) (ns : List Int) (nv : Nat) (gs : Int) (t3 : Tok) (ge : Int) (t4 : Tok) (pt : Int) (p1 : Tok) (zv : Int) (z1 : Tok) (ro : Bool) (tq : Int) (t1 : Tok) (ck : Int) (c1 : Tok) (sk : Int) (s1 : Tok) (cl' : Addr) (cvs : List Value) (nc : Nat) (o1 : Obj) (o2 : Obj) (o3 : Obj) (o4 : Obj) (ps : Array Value) (kc : List (Addr × Obj)) (tl : List (Addr × Obj)) (place : Int) (tp : Tok) (tw : Tok) (prog : Program) (w : World) (p : Program) (loose : List Str) (mean : ExcName → Option Value) (mg : Str → Option Value) (mb : Str → Option Value) (A₀ : Around) (h₀ : Heap) (L : Addr) (m : Str → Option Value) (s : Shared) (E : Value → Shared → Prop) : Prop := lap4c_spec_H gd fa D A b db g dg c mk dm rw ls vs0 ns0 n1 n2 K G hm km orw kp nl i news Q kx tx vs ns nv gs t3 ge t4 pt p1 zv z1 ro tq t1 ck c1 sk s1 cl' cvs nc o1 o2 o3 o4 ps kc tl place tp tw prog w p loose mean mg mb A₀ h₀ L m s E (Stand (wpAny (model prog w) (ktrTop 400 400 gd (Str.ofString "law") (lawSc w.params) L fa (.ref 656) (cellsFrom (L + 1) (lawSc w.params).names []) []) (execs ((lapBody w.params).drop 11) (envX (Str.ofString "law") (lawSc w.params) L fa (.ref 656) (cellsFrom (L + 1) (lawSc w.params).names []))) Q E s))
abbrev lap4c_spec_F (x : lap4c_spec_P) : Prop := lap4c_spec_S (x.1.1.1.1.1.1.1) (x.1.1.1.1.1.1.2) (x.1.1.1.1.1.2) (x.1.1.1.1.2.1) (x.1.1.1.1.2.2) (x.1.1.1.2.1.1.1) (x.1.1.1.2.1.1.2) (x.1.1.1.2.1.2) (x.1.1.1.2.2.1) (x.1.1.1.2.2.2) (x.1.1.2.1.1.1.1) (x.1.1.2.1.1.1.2) (x.1.1.2.1.1.2) (x.1.1.2.1.2.1) (x.1.1.2.1.2.2) (x.1.1.2.2.1.1) (x.1.1.2.2.1.2) (x.1.1.2.2.2.1) (x.1.1.2.2.2.2) (x.1.2.1.1.1.1.1) (x.1.2.1.1.1.1.2) (x.1.2.1.1.1.2) (x.1.2.1.1.2.1) (x.1.2.1.1.2.2) (x.1.2.1.2.1.1) (x.1.2.1.2.1.2) (x.1.2.1.2.2.1) (x.1.2.1.2.2.2) (x.1.2.2.1.1.1.1) (x.1.2.2.1.1.1.2) (x.1.2.2.1.1.2) (x.1.2.2.1.2.1) (x.1.2.2.1.2.2) (x.1.2.2.2.1.1) (x.1.2.2.2.1.2) (x.1.2.2.2.2.1) (x.1.2.2.2.2.2) (x.2.1.1.1.1.1.1) (x.2.1.1.1.1.1.2) (x.2.1.1.1.1.2) (x.2.1.1.1.2.1) (x.2.1.1.1.2.2) (x.2.1.1.2.1.1) (x.2.1.1.2.1.2) (x.2.1.1.2.2.1) (x.2.1.1.2.2.2) (x.2.1.2.1.1.1.1) (x.2.1.2.1.1.1.2) (x.2.1.2.1.1.2) (x.2.1.2.1.2.1) (x.2.1.2.1.2.2) (x.2.1.2.2.1.1) (x.2.1.2.2.1.2) (x.2.1.2.2.2.1) (x.2.1.2.2.2.2) (x.2.2.1.1.1.1.1) (x.2.2.1.1.1.1.2) (x.2.2.1.1.1.2) (x.2.2.1.1.2.1) (x.2.2.1.1.2.2) (x.2.2.1.2.1.1) (x.2.2.1.2.1.2) (x.2.2.1.2.2.1) (x.2.2.1.2.2.2) (x.2.2.2.1.1.1.1) (x.2.2.2.1.1.1.2) (x.2.2.2.1.1.2) (x.2.2.2.1.2.1) (x.2.2.2.1.2.2) (x.2.2.2.2.1.1) (x.2.2.2.2.1.2) (x.2.2.2.2.2.1) (x.2.2.2.2.2.2)
theorem lap4c_spec_ex : ∃ x : lap4c_spec_P, lap4c_spec_F x → ∀ y : lap4c_spec_P, lap4c_spec_F y := drinker ⟨(((((((none, (0 : Nat)), (0 : Nat)), ((0 : Nat), (0 : Nat))), ((((0 : Nat), (0 : Nat)), (0 : Nat)), ((0 : Nat), (0 : Nat)))), (((((0 : Nat), (0 : Nat)), (0 : Nat)), ([], [])), ((0, 0), (bkeys0, gkeys0)))), (((((0, (0 : Nat)), default), ([], 0)), ((0, []), (fun _ _ => True, 0))), (((((0 : Nat), []), []), (0, 0)), (((0 : Nat), 0), ((0 : Nat), 0))))), (((((((0 : Nat), 0), (0 : Nat)), (false, 0)), (((0 : Nat), 0), ((0 : Nat), 0))), (((((0 : Nat), (0 : Nat)), []), (0, default)), ((default, default), (default, #[])))), ((((([], []), 0), ((0 : Nat), (0 : Nat))), ((default, world0), (default, []))), ((((fun _ => none, fun _ => none), fun _ => none), ({}, default)), (((0 : Nat), fun _ => none), ({}, fun _ _ => True))))))⟩
noncomputable def lap4c_spec_x : lap4c_spec_P := lap4c_spec_ex.choose
namespace lap4c_spec_n
noncomputable def gd : Option (List Code) := lap4c_spec_x.1.1.1.1.1.1.1
noncomputable def fa : Addr := lap4c_spec_x.1.1.1.1.1.1.2
noncomputable def D : Addr := lap4c_spec_x.1.1.1.1.1.2
noncomputable def A : Addr := lap4c_spec_x.1.1.1.1.2.1
noncomputable def b : Addr := lap4c_spec_x.1.1.1.1.2.2
noncomputable def db : Addr := lap4c_spec_x.1.1.1.2.1.1.1
noncomputable def g : Addr := lap4c_spec_x.1.1.1.2.1.1.2
noncomputable def dg : Addr := lap4c_spec_x.1.1.1.2.1.2
noncomputable def c : Addr := lap4c_spec_x.1.1.1.2.2.1
noncomputable def mk : Addr := lap4c_spec_x.1.1.1.2.2.2
noncomputable def dm : Addr := lap4c_spec_x.1.1.2.1.1.1.1
noncomputable def rw : Addr := lap4c_spec_x.1.1.2.1.1.1.2
noncomputable def ls : Addr := lap4c_spec_x.1.1.2.1.1.2
noncomputable def vs0 : List Value := lap4c_spec_x.1.1.2.1.2.1
noncomputable def ns0 : List Int := lap4c_spec_x.1.1.2.1.2.2
noncomputable def n1 : Nat := lap4c_spec_x.1.1.2.2.1.1
noncomputable def n2 : Nat := lap4c_spec_x.1.1.2.2.1.2
noncomputable def K : BKeys := lap4c_spec_x.1.1.2.2.2.1
noncomputable def G : GKeys := lap4c_spec_x.1.1.2.2.2.2
noncomputable def hm : Int := lap4c_spec_x.1.2.1.1.1.1.1
noncomputable def km : Tok := lap4c_spec_x.1.2.1.1.1.1.2
noncomputable def orw : Obj := lap4c_spec_x.1.2.1.1.1.2
noncomputable def kp : List (Addr × Obj) := lap4c_spec_x.1.2.1.1.2.1
noncomputable def nl : Nat := lap4c_spec_x.1.2.1.1.2.2
noncomputable def i : Nat := lap4c_spec_x.1.2.1.2.1.1
noncomputable def news : List (Addr × Obj) := lap4c_spec_x.1.2.1.2.1.2
noncomputable def Q : Flow → Shared → Prop := lap4c_spec_x.1.2.1.2.2.1
noncomputable def kx : Int := lap4c_spec_x.1.2.1.2.2.2
noncomputable def tx : Tok := lap4c_spec_x.1.2.2.1.1.1.1
noncomputable def vs : List Value := lap4c_spec_x.1.2.2.1.1.1.2
noncomputable def ns : List Int := lap4c_spec_x.1.2.2.1.1.2
noncomputable def nv : Nat := lap4c_spec_x.1.2.2.1.2.1
noncomputable def gs : Int := lap4c_spec_x.1.2.2.1.2.2
noncomputable def t3 : Tok := lap4c_spec_x.1.2.2.2.1.1
noncomputable def ge : Int := lap4c_spec_x.1.2.2.2.1.2
noncomputable def t4 : Tok := lap4c_spec_x.1.2.2.2.2.1
noncomputable def pt : Int := lap4c_spec_x.1.2.2.2.2.2
noncomputable def p1 : Tok := lap4c_spec_x.2.1.1.1.1.1.1
noncomputable def zv : Int := lap4c_spec_x.2.1.1.1.1.1.2
noncomputable def z1 : Tok := lap4c_spec_x.2.1.1.1.1.2
noncomputable def ro : Bool := lap4c_spec_x.2.1.1.1.2.1
noncomputable def tq : Int := lap4c_spec_x.2.1.1.1.2.2
noncomputable def t1 : Tok := lap4c_spec_x.2.1.1.2.1.1
noncomputable def ck : Int := lap4c_spec_x.2.1.1.2.1.2
noncomputable def c1 : Tok := lap4c_spec_x.2.1.1.2.2.1
noncomputable def sk : Int := lap4c_spec_x.2.1.1.2.2.2
noncomputable def s1 : Tok := lap4c_spec_x.2.1.2.1.1.1.1
noncomputable def cl' : Addr := lap4c_spec_x.2.1.2.1.1.1.2
noncomputable def cvs : List Value := lap4c_spec_x.2.1.2.1.1.2
noncomputable def nc : Nat := lap4c_spec_x.2.1.2.1.2.1
noncomputable def o1 : Obj := lap4c_spec_x.2.1.2.1.2.2
noncomputable def o2 : Obj := lap4c_spec_x.2.1.2.2.1.1
noncomputable def o3 : Obj := lap4c_spec_x.2.1.2.2.1.2
noncomputable def o4 : Obj := lap4c_spec_x.2.1.2.2.2.1
noncomputable def ps : Array Value := lap4c_spec_x.2.1.2.2.2.2
noncomputable def kc : List (Addr × Obj) := lap4c_spec_x.2.2.1.1.1.1.1
noncomputable def tl : List (Addr × Obj) := lap4c_spec_x.2.2.1.1.1.1.2
noncomputable def place : Int := lap4c_spec_x.2.2.1.1.1.2
noncomputable def tp : Tok := lap4c_spec_x.2.2.1.1.2.1
noncomputable def tw : Tok := lap4c_spec_x.2.2.1.1.2.2
noncomputable def prog : Program := lap4c_spec_x.2.2.1.2.1.1
noncomputable def w : World := lap4c_spec_x.2.2.1.2.1.2
noncomputable def p : Program := lap4c_spec_x.2.2.1.2.2.1
noncomputable def loose : List Str := lap4c_spec_x.2.2.1.2.2.2
noncomputable def mean : ExcName → Option Value := lap4c_spec_x.2.2.2.1.1.1.1
noncomputable def mg : Str → Option Value := lap4c_spec_x.2.2.2.1.1.1.2
noncomputable def mb : Str → Option Value := lap4c_spec_x.2.2.2.1.1.2
noncomputable def A₀ : Around := lap4c_spec_x.2.2.2.1.2.1
noncomputable def h₀ : Heap := lap4c_spec_x.2.2.2.1.2.2
noncomputable def L : Addr := lap4c_spec_x.2.2.2.2.1.1
noncomputable def m : Str → Option Value := lap4c_spec_x.2.2.2.2.1.2
noncomputable def s : Shared := lap4c_spec_x.2.2.2.2.2.1
noncomputable def E : Value → Shared → Prop := lap4c_spec_x.2.2.2.2.2.2
set_option maxRecDepth 100000 in
set_option maxHeartbeats 8000000 in
theorem main  : lap4c_spec_H gd fa D A b db g dg c mk dm rw ls vs0 ns0 n1 n2 K G hm km orw kp nl i news Q kx tx vs ns nv gs t3 ge t4 pt p1 zv z1 ro tq t1 ck c1 sk s1 cl' cvs nc o1 o2 o3 o4 ps kc tl place tp tw prog w p loose mean mg mb A₀ h₀ L m s E (Stand (wpAny (model prog w) (ktrTop 400 400 gd (Str.ofString "law") (lawSc w.params) L fa (.ref 656) (cellsFrom (L + 1) (lawSc w.params).names []) []) (execs ((lapBody w.params).drop 11) (envX (Str.ofString "law") (lawSc w.params) L fa (.ref 656) (cellsFrom (L + 1) (lawSc w.params).names []))) Q E s)) := by
  intro C HC N P ap ap2 ap3 hi0 hlen0 hr lo d1 d2 hi3 hi h0 h1 h2 hz hlen hci hcl hk0 hk9 hp1 hp2 e1 e2 e3 e4 hL hkc hlc u1 u2 u3 u4 u5 u6 u7 u8 u9 md mc ret
  refine ⟨?_⟩
  obtain ⟨B, F, X, T, hk⟩ := C
  have hgl := gtext_length h0 h1 h2
  have ap1 := ap
  have apc := low_chain ap ap2 ap3.1
  simp only [Apart, and_true] at ap1 ap2
  have ap4 := ap3
  unfold Low at ap4
  obtain ⟨hA0, hA1, hA2, hA3, hA4, hA5, hA6, hA7⟩ := ap4
  replace N := news_picks N P
  simp only [List.cons_append, List.nil_append] at N
  have hmf : m = (fun y => if y = Str.ofString "deck" then some (.ref D) else if y = Str.ofString "codes" then some (.ref cl') else m y) := by
    funext y
    by_cases z0 : y = Str.ofString "deck"
    · rw [if_pos z0, z0]; exact md
    rw [if_neg z0]
    by_cases z1 : y = Str.ofString "codes"
    · rw [if_pos z1, z1]; exact mc
    rw [if_neg z1]
  rw [hmf] at F
  clear hmf
  with_unfolding_all change wpAny _ (ktrTop _ _ _ _ ⟨_, _, _, _, _⟩ _ _ _ [(_, _), (_, _), (_, _), (_, _)] _) (execs [_, _, _, _, _] (envX _ ⟨_, _, _, _, _⟩ _ _ _ [(_, _), (_, _), (_, _), (_, _)])) _ _ _
  have apx2 : Apart [654, L, D, db] := by simp only [Apart, and_true]; omega
  have a1 : @LT.lt Nat _ D ls := by k_extra "ord"
  have a2 : @LT.lt Nat _ db ls := by k_extra "ord"
  have a3 : @LT.lt Nat _ dg ls := by k_extra "ord"
  have a4 : @LT.lt Nat _ c ls := by k_extra "ord"
  have a5 : @LT.lt Nat _ (L + 1) ls := by k_extra "ord"
  have a6 : @LT.lt Nat _ (L + 1 + 1) ls := by k_extra "ord"
  have a7 : @LT.lt Nat _ (L + 1 + 1 + 1) ls := by k_extra "ord"
  have a8 : @LT.lt Nat _ (L + 1 + 1 + 1 + 1) ls := by k_extra "ord"
  have a9 : @LT.lt Nat _ 654 ls := by k_extra "ord"
  have adb : @LT.lt Nat _ db b := by k_extra "ord"
  k_steps
  change wpAny _ _ _ _ _ _
  refine around_le (sig_go (sy := Str.ofString "beginning-of-buffer") (place := place) (P1 := False) (P2 := True) ⟨by k_asm, by k_asm, by k_asm, by k_asm, rfl⟩ (by k_asm) (.head _) (by ktr_rel) ?zcall ?zn ?ze) (Nat.le_of_ble_eq_true rfl) (Nat.le_of_ble_eq_true rfl)
  case zn => exact fun _ _ _ _ hf => hf.elim
  case zcall =>
    intro g1 L1 h1 tk1 A₁ Q₁ E₁ m₁ C1 N1 hlt1 hns1 hq1 he1
    obtain ⟨B1, F1, X1, T1, hk1⟩ := C1
    k_steps
    exact fly_on (by k_asm) (by k_asm) fun h' x => he1 _ _ _ _ trivial (x.tail.sub sub_go)
  case ze =>
    intro t5 p5 h5 tk5 _ F5 N5
    (try dsimp only)
    simp only [List.cons_append, List.nil_append] at N5
    k_steps
    · exfalso; rename _ ≠ _ => hh; exact hh rfl
    · change wpAny _ _ _ _ _ _
      with_unfolding_all change wpAny _ (ktrTop 400 400 gd (Str.ofString "law") (lawSc w.params) L fa (.ref 656) (cellsFrom (L + 1) (lawSc w.params).names []) []) (execs ((lapBody w.params).drop 12) (envX (Str.ofString "law") (lawSc w.params) L fa (.ref 656) (cellsFrom (L + 1) (lawSc w.params).names []))) _ _ _
      rename News _ _ _ _ => N7
      rename Fr _ _ _ _ => F7
      rename Lams _ _ _ _ _ => L7
      with_reducible refine Stand.out ?_
      exact lap5_spec (C := ⟨by k_asm, F7, by k_asm, by k_asm, rfl⟩) HC (lap_news4 N7) (by ktr_rel) ap apx2 ap3 hi0 hlen0 hr lo d1 d2 hi3 hi h0 h1 h2 hz hlen hci hcl hk0 hk9 e1 e2 e3 ⟨_, e4⟩ L7 (kc_more hkc) hlc (off_cons (L7.far _ (List.Mem.head _)) a1 u1) (off_cons (L7.far _ (List.Mem.head _)) a2 u2) (off_cons (L7.far _ (List.Mem.head _)) a3 u3) (off_cons (L7.far _ (List.Mem.head _)) a4 u4) (off_cons (L7.far _ (List.Mem.head _)) a5 u5) (off_cons (L7.far _ (List.Mem.head _)) a6 u6) (off_cons (L7.far _ (List.Mem.head _)) a7 u7) (off_cons (L7.far _ (List.Mem.head _)) a8 u8) (off_cons (L7.far _ (List.Mem.head _)) a9 u9) rfl rfl ret
end lap4c_spec_n
theorem lap4c_spec {prog : Program} {w : World} {p : Program} {loose : List Str} {mean : ExcName → Option Value} {mg : Str → Option Value} {mb : Str → Option Value} {A₀ : Around} {h₀ : Heap} {L : Addr} {m : Str → Option Value} {s : Shared} {E : Value → Shared → Prop} {gd : Option (List Code)} {fa : Addr} {D : Addr} {A : Addr} {b : Addr} {db : Addr} {g : Addr} {dg : Addr} {c : Addr} {mk : Addr} {dm : Addr} {rw : Addr} {ls : Addr} {vs0 : List Value} {ns0 : List Int} {n1 : Nat} {n2 : Nat} {K : BKeys} {G : GKeys} {hm : Int} {km : Tok} {orw : Obj} {kp : List (Addr × Obj)} {nl : Nat} {i : Nat} {news : List (Addr × Obj)} {Q : Flow → Shared → Prop} {kx : Int} {tx : Tok} {vs : List Value} {ns : List Int} {nv : Nat} {gs : Int} {t3 : Tok} {ge : Int} {t4 : Tok} {pt : Int} {p1 : Tok} {zv : Int} {z1 : Tok} {ro : Bool} {tq : Int} {t1 : Tok} {ck : Int} {c1 : Tok} {sk : Int} {s1 : Tok} {cl' : Addr} {cvs : List Value} {nc : Nat} {o1 : Obj} {o2 : Obj} {o3 : Obj} {o4 : Obj} {ps : Array Value} {kc : List (Addr × Obj)} {tl : List (Addr × Obj)} {place : Int} {tp : Tok} {tw : Tok} : lap4c_spec_H gd fa D A b db g dg c mk dm rw ls vs0 ns0 n1 n2 K G hm km orw kp nl i news Q kx tx vs ns nv gs t3 ge t4 pt p1 zv z1 ro tq t1 ck c1 sk s1 cl' cvs nc o1 o2 o3 o4 ps kc tl place tp tw prog w p loose mean mg mb A₀ h₀ L m s E (Stand (wpAny (model prog w) (ktrTop 400 400 gd (Str.ofString "law") (lawSc w.params) L fa (.ref 656) (cellsFrom (L + 1) (lawSc w.params).names []) []) (execs ((lapBody w.params).drop 11) (envX (Str.ofString "law") (lawSc w.params) L fa (.ref 656) (cellsFrom (L + 1) (lawSc w.params).names []))) Q E s)) := lap4c_spec_ex.choose_spec (lap4c_spec_n.main ) (((((((gd, fa), D), (A, b)), (((db, g), dg), (c, mk))), ((((dm, rw), ls), (vs0, ns0)), ((n1, n2), (K, G)))), (((((hm, km), orw), (kp, nl)), ((i, news), (Q, kx))), ((((tx, vs), ns), (nv, gs)), ((t3, ge), (t4, pt))))), ((((((p1, zv), z1), (ro, tq)), ((t1, ck), (c1, sk))), ((((s1, cl'), cvs), (nc, o1)), ((o2, o3), (o4, ps)))), (((((kc, tl), place), (tp, tw)), ((prog, w), (p, loose))), ((((mean, mg), mb), (A₀, h₀)), ((L, m), (s, E))))))
end
section
theorem lines_X21_1 : True := by
  k_with_none
  k_with "k_all" => with_reducible assumption
  k_with "ne_mem" => with_reducible first | exact List.mem_cons_self | (refine List.mem_cons_of_mem _ ?_; k_extra "ne_mem") | (refine List.mem_append_right _ ?_; k_extra "ne_mem")
  k_with "ne_bef" => with_reducible first | (refine Bef.head ?_; k_extra "ne_mem") | (refine Bef.tail ?_; k_extra "ne_bef")
  k_with "lt_ap" => (with_reducible rename Apart _ => kqA; first | (with_reducible exact Apart.bef kqA (by k_extra "ne_bef")) | (clear kqA; k_extra "lt_ap"))
  k_with "lt_go" => first | (with_reducible assumption) | (with_reducible exact AllLt.get (by assumption) (by k_extra "ne_mem")) | k_extra "lt_ap" | ((with_reducible refine Nat.lt_trans ?kq1 ?kq2); (case kq2 => with_reducible assumption); (case kq1 => k_extra "lt_go")) | ((with_reducible refine Nat.lt_trans ?kq1 ?kq2); (case kq1 => with_reducible assumption); (case kq2 => k_extra "lt_ap"))
  k_with "ne_lt" => with_reducible first | exact Nat.ne_of_lt (AllLt.get (by assumption) (by k_extra "ne_mem")) | exact Nat.ne_of_gt (AllLt.get (by assumption) (by k_extra "ne_mem"))
  k_with "ne_ap" => (with_reducible rename Apart _ => kqA; first | (with_reducible exact Nat.ne_of_lt (Apart.bef kqA (by k_extra "ne_bef"))) | (with_reducible exact Nat.ne_of_gt (Apart.bef kqA (by k_extra "ne_bef"))) | (clear kqA; k_extra "ne_ap"))
  k_with "ne_tr" => first | ((with_reducible refine Nat.ne_of_gt (Nat.lt_trans ?kq1 ?kq2)); (case kq2 => with_reducible assumption); (case kq1 => k_extra "lt_go")) | ((with_reducible refine Nat.ne_of_lt (Nat.lt_trans ?kq1 ?kq2)); (case kq2 => with_reducible assumption); (case kq1 => k_extra "lt_go"))
  k_with "k_ne" => (refine neN ?_; (try dsimp only); first | (with_reducible assumption) | (with_reducible exact Ne.symm (by assumption)) | (with_reducible exact Nat.ne_of_lt (by assumption)) | (with_reducible exact Nat.ne_of_gt (by assumption)) | k_extra "ne_lt" | k_extra "ne_ap" | k_extra "ne_tr" | omega | ((try simp only [AllLt] at *); omega))
  k_with "ne_all" => first | (with_reducible assumption) | (refine And.intro ?_ ?_ <;> k_extra "ne_all") | k_ne
  k_with "mem_hq" => first | exact hq | exact List.mem_append_left _ hq | (refine List.mem_cons_of_mem _ ?_; k_extra "mem_hq")
  k_with "perm" => first | (refine List.forall_mem_cons.mpr (And.intro ?kqa ?kqb); (case kqa => k_extra "ne_mem"); (case kqb => k_extra "perm")) | exact List.forall_mem_nil _ | (intro q hq; k_extra "mem_hq")
  k_with "ord" => first | (with_reducible assumption) | ((with_reducible show @LT.lt Nat _ _ _); k_extra "lt_go") | k_ne | omega | ((try simp only [AllLt] at *); omega)
  k_with "tb_start" => first | exact Pick.head | (apply Pick.tail; tb_start)
  k_with "tb_rel" => first | exact Suff.refl | (refine' Suff.tail ?_; tb_rel)
  k_with "ktr_rel" => first | exact Picks.nil | (refine' Picks.cons ?kqp ?kqq; (case kqp => tb_start); (case kqq => ktr_rel))
  k_with "ktr_unf" => exact ⟨by k_asm, by k_asm, by k_asm, by k_asm, by first | exact rfl | assumption⟩
  k_with "subscriptTail Attribute Name Slice" => (k_here; k_dflt (refine kba_turn (value' := PySem.Expr.Name (PySem.Str.ofString "_") ⟨0, 0, 0, 0⟩) (fun _ => rfl) ?_))
  k_with "subscriptTail Name Slice ref ref" => (k_here; (with_reducible show wpAny _ _ (subscriptTail _ (PySem.Expr.Slice (some _) (some _) none _) (Value.ref _) (Value.ref _)) _ _ _); k_dflt (refine' my_slice ?kqF ?kqN ?kql ?kqi ?kqx ?kqy ?kqz ?_ ?kqs ?kqt; (case kqF => k_asm); (case kqN => k_asm); (case kql => k_mem); (case kqi => k_asm); (case kqx => first | (with_reducible assumption) | omega | ((try simp only [AllLt] at *); omega)); (case kqy => first | (with_reducible assumption) | omega | ((try simp only [AllLt] at *); omega)); (case kqz => first | (with_reducible assumption) | omega | ((try simp only [AllLt] at *); omega)); (case kqs => with_unfolding_all rfl); (case kqt => kmk_pure); k_whole); intro D' ws' h' zs' F' N' l1 hI' hZ' hL'; (try (replace hL' := slice_len hL' (by first | (with_reducible assumption) | omega) (by first | (with_reducible assumption) | omega) (by first | (with_reducible assumption) | omega))); (try k_lt l1); (try k_sweep))
  k_with "setItem ref ref ref" => (k_here; k_dflt (refine' my_setslice ?kqF ?kqN ?kql ?kqU ?kqi ?kqw ?kqx ?kqy ?kqz ?kqzz ?_; (case kqF => k_asm); (case kqN => k_asm); (case kql => k_mem); (case kqU => k_updF); (case kqi => k_asm); (case kqw => k_asm); (case kqx => first | (with_reducible assumption) | omega | ((try simp only [AllLt] at *); omega)); (case kqy => first | (with_reducible assumption) | omega | ((try simp only [AllLt] at *); omega)); (case kqz => first | (with_reducible assumption) | omega | ((try simp only [AllLt] at *); omega)); (case kqzz => first | (with_reducible assumption) | omega | ((try simp only [AllLt] at *); omega)); k_whole); intro vs' n2' h' ns' F' N' hI' hZ' hL'; (try dsimp only at N'); (try k_sweep))
  k_with "call builtin:len" => (k_here; (with_reducible show wpAny _ _ (call (Value.builtin "len") [Value.ref _]) _ _ _); k_dflt (refine' my_len ?kqN ?kql ?kqi ?kqz ?_; (case kqN => k_asm); (case kql => k_mem); (case kqi => k_asm); (case kqz => first | (with_reducible assumption) | omega | ((try simp only [AllLt] at *); omega)); k_whole))
  k_with "pyIter ref" => (k_here; k_dflt (first | (refine' iter_empty ?kqh ?kqF ?kqN ?kqm ?_; (case kqh => exact rfl); (case kqF => k_asm); (case kqN => k_asm); (case kqm => k_mem)) | (refine' iter_empty2 ?kqh ?kqF ?kqN ?kqm ?kqi ?kqz ?_; (case kqh => exact rfl); (case kqF => k_asm); (case kqN => k_asm); (case kqm => k_mem); (case kqi => k_asm); (case kqz => k_asm))); intro h' tk' F' N'; (try dsimp only); (try k_sweep))
  k_with "call ref" => (k_here; (with_reducible show wpAny _ _ (call (Value.ref 631) _) _ _ _); k_dflt (refine' around_le (draw_spec ?kqC ?kqN ?kqP ?kqne ?kqr ?kqi ?kql ?kqh0 ?kqh1 ?kqh2 ?_) ?kqd ?kqu; (case kqC => ktr_unf); (case kqN => k_asm); (case kqP => ktr_rel); (case kqne => first | (with_reducible assumption) | omega | ((try simp only [AllLt] at *); omega)); (case kqr => k_all); (case kqi => k_asm); (case kql => first | (with_reducible assumption) | omega | ((try simp only [AllLt] at *); omega)); (case kqh0 => first | (with_reducible assumption) | omega | ((try simp only [AllLt] at *); omega)); (case kqh1 => first | (with_reducible assumption) | omega | ((try simp only [AllLt] at *); omega)); (case kqh2 => first | (with_reducible assumption) | omega | ((try simp only [AllLt] at *); omega));  (case kqd => exact Nat.le_of_ble_eq_true rfl); (case kqu => exact Nat.le_of_ble_eq_true rfl)); intro r' t' t2' h' tk' F' N' hr0' hr1'; (try dsimp only); (try k_sweep); (try k_fold))
  k_with "call ref" => (k_here; (with_reducible show wpAny _ _ (call (Value.ref 612) _) _ _ _); k_dflt (refine' around_le (setmod_spec ?kqC ?kqN ?kqP ?kqe1 ?kqr3 ?_) ?kqd ?kqu; (case kqC => ktr_unf); (case kqN => k_asm); (case kqP => ktr_rel); (case kqe1 => first | k_extra "ne_all" | omega); (case kqr3 => k_all);  (case kqd => exact Nat.le_of_ble_eq_true rfl); (case kqu => exact Nat.le_of_ble_eq_true rfl)); intro h' tk' F' N'; (try simp only [List.cons_append, List.nil_append] at N'); (try dsimp only); (try k_sweep); (try k_fold))
  k_with "call ref" => (k_here; (with_reducible show wpAny _ _ (call (Value.ref 638) _) _ _ _); k_dflt (refine' around_le (edits_spec ?kqC ?kqN ?kqP ?kqne ?kqr ?kqdl ?kqal ?kqi ?kql ?kqh0 ?kqh1 ?kqh2 ?kqh3 ?_) ?kqd ?kqu; (case kqC => ktr_unf); (case kqN => k_asm); (case kqP => ktr_rel); (case kqne => first | (with_reducible assumption) | omega | ((try simp only [AllLt] at *); omega)); (case kqr => k_all); (case kqdl => first | (with_reducible assumption) | omega | ((try simp only [AllLt] at *); omega)); (case kqal => first | (with_reducible assumption) | omega | ((try simp only [AllLt] at *); omega)); (case kqi => k_asm); (case kql => first | (with_reducible assumption) | omega | ((try simp only [AllLt] at *); omega)); (case kqh0 => first | (with_reducible assumption) | omega | ((try simp only [AllLt] at *); omega)); (case kqh1 => first | (with_reducible assumption) | omega | ((try simp only [AllLt] at *); omega)); (case kqh2 => first | (with_reducible assumption) | omega | ((try simp only [AllLt] at *); omega)); (case kqh3 => first | (with_reducible assumption) | omega | ((try simp only [AllLt] at *); omega));  (case kqd => exact Nat.le_of_ble_eq_true rfl); (case kqu => exact Nat.le_of_ble_eq_true rfl)); intro el' l' n0' k' t' h' tk' hD' hE' hk1' hk2' F' N' hel'; (try simp only [List.cons_append, List.nil_append, List.append_assoc] at N'); (try dsimp only); (try k_sweep); (try k_fold))
  k_with "call ref" => (k_here; (with_reducible show wpAny _ _ (call (Value.ref 584) _) _ _ _); k_dflt (refine' around_le (bcodes_spec ?kqC ?kqN ?kqP ?kqi ?kql ?kqh0 ?kqh1 ?kqh2 ?kqh3 ?kqh4 ?_) ?kqd ?kqu; (case kqC => ktr_unf); (case kqN => k_asm); (case kqP => ktr_rel); (case kqi => k_asm); (case kql => first | (with_reducible assumption) | omega | ((try simp only [AllLt] at *); omega)); (case kqh0 => first | (with_reducible assumption) | omega | ((try simp only [AllLt] at *); omega)); (case kqh1 => first | (with_reducible assumption) | omega | ((try simp only [AllLt] at *); omega)); (case kqh2 => first | (with_reducible assumption) | omega | ((try simp only [AllLt] at *); omega)); (case kqh3 => first | (with_reducible assumption) | omega | ((try simp only [AllLt] at *); omega)); (case kqh4 => first | (with_reducible assumption) | omega | ((try simp only [AllLt] at *); omega));  (case kqd => exact Nat.le_of_ble_eq_true rfl); (case kqu => exact Nat.le_of_ble_eq_true rfl)); intro D' ws' n' h' tk' hI' F' N' l1; (try k_lt l1); (try dsimp only); (try k_sweep); (try k_fold))
  k_with "call ref" => (k_here; (with_reducible show wpAny _ _ (call (Value.ref 570) _) _ _ _); k_dflt (refine' around_le (bsize_spec ?kqC ?kqN ?kqP ?kqi ?kql ?kqh0 ?kqh1 ?kqh2 ?_) ?kqd ?kqu; (case kqC => ktr_unf); (case kqN => k_asm); (case kqP => ktr_rel); (case kqi => k_asm); (case kql => first | (with_reducible assumption) | omega | ((try simp only [AllLt] at *); omega)); (case kqh0 => first | (with_reducible assumption) | omega | ((try simp only [AllLt] at *); omega)); (case kqh1 => first | (with_reducible assumption) | omega | ((try simp only [AllLt] at *); omega)); (case kqh2 => first | (with_reducible assumption) | omega | ((try simp only [AllLt] at *); omega));  (case kqd => exact Nat.le_of_ble_eq_true rfl); (case kqu => exact Nat.le_of_ble_eq_true rfl)); intro t' h' tk' F' N'; (try dsimp only); (try k_sweep); (try k_fold))
  k_with "call ref" => (k_here; (with_reducible show wpAny _ _ (call (Value.ref 605) _) _ _ _); k_dflt (refine' around_le (ismod_spec ?kqC ?kqN ?kqP ?_) ?kqd ?kqu; (case kqC => ktr_unf); (case kqN => k_asm); (case kqP => ktr_rel);  (case kqd => exact Nat.le_of_ble_eq_true rfl); (case kqu => exact Nat.le_of_ble_eq_true rfl)); intro h' tk' F' N'; (try dsimp only); (try k_sweep); (try k_fold))
  k_with "call ref" => (k_here; (with_reducible show wpAny _ _ (call (Value.ref 645) _) _ _ _); k_dflt (refine' around_le (put_spec ?kqC ?kqN ?kqP ?kqi ?kql ?kqed ?kql4 ?kqsub ?_) ?kqd ?kqu; (case kqC => ktr_unf); (case kqN => k_asm); (case kqP => ktr_rel); (case kqi => k_asm); (case kql => first | (with_reducible assumption) | omega | ((try simp only [AllLt] at *); omega)); (case kqed => k_asm); (case kql4 => first | (with_reducible assumption) | omega | ((try simp only [AllLt] at *); omega)); (case kqsub => k_asm);  (case kqd => exact Nat.le_of_ble_eq_true rfl); (case kqu => exact Nat.le_of_ble_eq_true rfl)); intro D' ws' n' h' tk' hI' F' N' l1; (try k_lt l1); (try dsimp only); (try k_sweep); (try k_fold))
  k_with "execs cons" => (k_here; (with_reducible show wpAny _ _ (execs (Stmt.If (PySem.Expr.BoolOp _ (PySem.Expr.Compare (PySem.Expr.Call (PySem.Expr.Name _ _) [PySem.Expr.Lambda _ _ _ _] _ _) _ _ _ :: _) _) _ _ _ :: _) _) _ _ _); k_dflt (refine' halt ?_))
  trivial
variable {prog : Program} {w : World} {p : Program} {loose : List Str} {mean : ExcName → Option Value} {mg mb : Str → Option Value} {cn : Str} {cs : Scope} {a : Addr} {ccd : Value} {cl : List (Str × Addr)} {outer : List Env} {A₀ : Around} {base h₀ : Heap} {L : Addr} {m : Str → Option Value} {s : Shared} {Q E : Value → Shared → Prop} in
theorem place_ge {r : Int} (h : 0 ≤ r) : 1 ≤ 1 + r := by k_extra "ord"
variable {prog : Program} {w : World} {p : Program} {loose : List Str} {mean : ExcName → Option Value} {mg mb : Str → Option Value} {cn : Str} {cs : Scope} {a : Addr} {ccd : Value} {cl : List (Str × Addr)} {outer : List Env} {A₀ : Around} {base h₀ : Heap} {L : Addr} {m : Str → Option Value} {s : Shared} {Q E : Value → Shared → Prop} in
theorem place_le {r n ge gs zv : Int} {len : Nat} (h : r < (len : Int) + 1) (hgl : (len : Int) = n - ge + gs) (hz : zv = n - ge + gs + 1) : 1 + r ≤ zv := by k_extra "ord"
variable {prog : Program} {w : World} {p : Program} {loose : List Str} {mean : ExcName → Option Value} {mg mb : Str → Option Value} {cn : Str} {cs : Scope} {a : Addr} {ccd : Value} {cl : List (Str × Addr)} {outer : List Env} {A₀ : Around} {base h₀ : Heap} {L : Addr} {m : Str → Option Value} {s : Shared} {Q E : Value → Shared → Prop} in
theorem lap_news3 {hh : Heap} {x1 x2 x3 x4 x5 y1 y2 y3 y4 y5 y6 y7 y8 y9 z1 z2 z3 z4 z5 z6 z7 z8 : Addr × Obj} {tl : List (Addr × Obj)}
 (N : News h₀ L hh (x1 :: y1 :: y2 :: x2 :: x3 :: x4 :: x5 :: y3 :: y4 :: y5 :: y6 :: y7 :: y8 :: y9 :: z1 :: z2 :: z3 :: z4 :: z5 :: z6 :: z7 :: z8 :: tl)) :
 News h₀ L hh (y1 :: y2 :: y3 :: y4 :: y5 :: y6 :: y7 :: y8 :: y9 :: z1 :: z2 :: z3 :: z4 :: z5 :: z6 :: z7 :: z8 :: tl) := news_sel N 22 [1, 2, 7, 8, 9, 10, 11, 12, 13, 14, 15, 16, 17, 18, 19, 20, 21]
variable {prog : Program} {w : World} {p : Program} {loose : List Str} {mean : ExcName → Option Value} {mg mb : Str → Option Value} {cn : Str} {cs : Scope} {a : Addr} {ccd : Value} {cl : List (Str × Addr)} {outer : List Env} {A₀ : Around} {base h₀ : Heap} {L : Addr} {m : Str → Option Value} {s : Shared} {Q E : Value → Shared → Prop} in
theorem three {r : Int} (h : 0 ≤ r) (h2 : r < 3) : r = 0 ∨ r = 1 ∨ r = 2 := by k_extra "ord"
variable {prog : Program} {w : World} {p : Program} {loose : List Str} {mean : ExcName → Option Value} {mg mb : Str → Option Value} {cn : Str} {cs : Scope} {a : Addr} {ccd : Value} {cl : List (Str × Addr)} {outer : List Env} {A₀ : Around} {base h₀ : Heap} {L : Addr} {m : Str → Option Value} {s : Shared} {Q E : Value → Shared → Prop} in
theorem news_put {hh : Heap} {x : Addr × Obj} {r : List (Addr × Obj)} (N : News h₀ L hh r) (h : x ∈ r) : News h₀ L hh (x :: r) := news_of N fun q hq => by
  rcases List.mem_cons.mp hq with rfl | hq
  · exact h
  · exact hq
variable {prog : Program} {w : World} {p : Program} {loose : List Str} {mean : ExcName → Option Value} {mg mb : Str → Option Value} {cn : Str} {cs : Scope} {a : Addr} {ccd : Value} {cl : List (Str × Addr)} {outer : List Env} {A₀ : Around} {base h₀ : Heap} {L : Addr} {m : Str → Option Value} {s : Shared} {Q E : Value → Shared → Prop} in
theorem sub_words {gd : Option (List Code)} {e1 ef : PySem.Expr} {ea : List PySem.Expr} {ek : List Keyword} {ep : Pos} {news : List (Addr × Obj)} {l : Addr} {n : Nat} {wa wb wc : Str} {ta tb tc tr : Tok} {r : Int} {Q : Value → Shared → Prop} (F : Fr h₀ L s.heap m) (X : (hd.heap_39 w.params).In h₀) (N : News h₀ L s.heap news) (hm : (l, listOf #[.str wa ta, .str wb tb, .str wc tc] n) ∈ news) (hr0 : 0 ≤ r) (hr3 : r < 3)
 (h : ∀ W t, (W = wa ∨ W = wb ∨ W = wc) → Q (.str W t) s) : wpAny (model prog w) (ktrTop 400 400 gd cn cs L a ccd cl outer) (subscriptTail e1 (.Call ef ea ek ep) (.ref l) (.int r tr)) Q E s := by
  replace N := news_put N hm
  clear hm
  rcases three hr0 hr3 with rfl | rfl | rfl
  · k_steps; exact h _ _ (.inl rfl)
  · k_steps; exact h _ _ (.inr (.inl rfl))
  · k_steps; exact h _ _ (.inr (.inr rfl))
variable {prog : Program} {w : World} {p : Program} {loose : List Str} {mean : ExcName → Option Value} {mg mb : Str → Option Value} {cn : Str} {cs : Scope} {a : Addr} {ccd : Value} {cl : List (Str × Addr)} {outer : List Env} {A₀ : Around} {base h₀ : Heap} {L : Addr} {m : Str → Option Value} {s : Shared} {Q E : Value → Shared → Prop} in
theorem ne_same {A : Around} {news : List (Addr × Obj)} {a b : Addr} {vs us : List Value} {ns ms : List Int} {n k : Nat} {Q : Value → Shared → Prop} (N : News h₀ L s.heap news) (ha : (a, listOf vs.toArray n) ∈ news) (hb : (b, listOf us.toArray k) ∈ news) (hi : IntsAre vs ns) (hj : IntsAre us ms) (hu : A.units + 64 < cLine) (he : ns = ms)
    (h : Q (.bool false) s) : wpAny (model prog w) A (compareOp .NotEq (.ref a) (.ref b)) Q E s := ne_ints2 N ha hb hi hj hu (by rw [he, decide_eq_true rfl]; exact h)
theorem lines_X21_2 : True := by
  k_with "compareOp NotEq ref ref" => (k_here; (with_reducible show wpAny _ _ (compareOp CmpOp.NotEq (Value.ref _) (Value.ref _)) _ _ _); k_dflt (first | (refine' ne_same ?kqyN ?kqya ?kqyb ?kqyi ?kqyj ?kqyu ?kqye ?_; (case kqyN => k_asm); (case kqya => k_mem); (case kqyb => k_mem); (case kqyi => k_asm); (case kqyj => k_asm); (case kqyu => ke_room); (case kqye => exact List.take_of_length_le (by omega)); k_whole) | (refine' ne_nil ?kqyN ?kqya ?kqyb ?kqyu ?_; (case kqyN => k_asm); (case kqya => k_mem); (case kqyb => k_mem); (case kqyu => ke_room); k_whole)))
  trivial
def lap3_spec_H (gd : Option (List Code)) (fa : Addr) (D : Addr) (A : Addr) (b : Addr) (db : Addr) (g : Addr) (dg : Addr) (c : Addr) (mk : Addr) (dm : Addr) (rw : Addr) (ls : Addr) (vs0 : List Value) (ns0 : List Int) (n1 : Nat) (n2 : Nat) (K : BKeys) (G : GKeys) (hm : Int) (km : Tok) (orw : Obj) (kp : List (Addr × Obj)) (nl : Nat) (i : Nat) (news : List (Addr × Obj)) (Q : Flow → Shared → Prop) (kx : Int) (tx : Tok) (vs : List Value) (ns : List Int) (nv : Nat) (gs : Int) (t3 : Tok) (ge : Int) (t4 : Tok) (pt : Int) (p1 : Tok) (zv : Int) (z1 : Tok) (ro : Bool) (tq : Int) (t1 : Tok) (ck : Int) (c1 : Tok) (sk : Int) (s1 : Tok) (cl' : Addr) (cvs : List Value) (nc : Nat) (o1 : Obj) (o2 : Obj) (o3 : Obj) (o4 : Obj) (ps : Array Value) (kc : List (Addr × Obj)) (tl : List (Addr × Obj)) (ys : List Value) (Ds : Addr) (kD : Nat) (prog : Program) (w : World) (p : Program) (loose : List Str) (mean : ExcName → Option Value) (mg : Str → Option Value) (mb : Str → Option Value) (A₀ : Around) (h₀ : Heap) (L : Addr) (m : Str → Option Value) (s : Shared) (E : Value → Shared → Prop) (zR : Prop) : Prop := ∀ (C : Cx w p loose mean mg mb A₀ h₀ [] h₀ L s.heap m (lawSc w.params)) (HC : CodeHd h₀ 656 654) (N : News h₀ L s.heap news) (P : Picks [(D, listOf #[.ref A, .int kx tx] n1), (A, listOf vs0.toArray n2), (b, instObj 622 db), (db, bufD K g mk ls pt p1 zv z1 false tq t1 ck c1 sk s1), (g, instObj 411 dg), (dg, gapD G c gs t3 ge t4), (c, listOf vs.toArray nv), (mk, instObj 481 dm), (dm, mkD hm km rw), (rw, orw), (ls, listOf #[] nl), (cl', listOf cvs.toArray nc), (L + 1, o1), (L + 1 + 1, o2), (L + 1 + 1 + 1, o3), (L + 1 + 1 + 1 + 1, o4), (654, tabObj ps)] news tl) (ap : Apart [db, b, dg, g, c, dm, mk, rw, ls]) (ap2 : Apart [654, L, D, db]) (ap3 : Low L D A) (hi0 : IntsAre vs0 ns0) (hlen0 : ns0.length ≤ 63) (hr : G.room = 8) (lo : (rw == sysModules) = false) (d1 : orw.IsDictOf (strKind prog w) []) (d2 : orw.IsDictOf (intKind prog w) []) (hi3 : i < 3) (hi : IntsAre vs ns) (h0 : 0 ≤ gs) (h1 : gs ≤ ge) (h2 : ge ≤ ns.length) (hz : zv = ns.length - ge + gs + 1) (hlen : ns.length ≤ 100 + 100 * (i + 1)) (hci : IntsAre cvs (gtext ns gs ge)) (hcl : (gtext ns gs ge).length ≤ 10 + 40 * (i + 1)) (hk0 : 0 ≤ kx) (hk9 : kx ≤ 10 + 20 * (i : Int) + 13) (e1 : ∃ v, o1.data = .cell v) (e2 : o2.data = .cell (some (.ref b))) (e3 : ∃ v, o3.data = .cell v) (e4 : ∃ v, o4.data = .cell v) (hL : Lams ls lamQ kp ps kc) (hkc : ∀ q ∈ kc, q ∈ tl) (hlc : @LT.lt Nat _ ls cl') (u1 : ∀ q ∈ tl, q.1 ≠ D) (u2 : ∀ q ∈ tl, q.1 ≠ db) (u3 : ∀ q ∈ tl, q.1 ≠ dg) (u4 : ∀ q ∈ tl, q.1 ≠ c) (u5 : ∀ q ∈ tl, q.1 ≠ L + 1) (u6 : ∀ q ∈ tl, q.1 ≠ L + 1 + 1) (u7 : ∀ q ∈ tl, q.1 ≠ L + 1 + 1 + 1) (u8 : ∀ q ∈ tl, q.1 ≠ L + 1 + 1 + 1 + 1) (u9 : ∀ q ∈ tl, q.1 ≠ 654) (hDs : (Ds, listOf ys.toArray kD) ∈ tl) (hmod : decide (sk < tq) = !ys.isEmpty) (ms : m (Str.ofString "some") = some (.ref Ds)) (md : m (Str.ofString "deck") = some (.ref D)) (mc : m (Str.ofString "codes") = some (.ref cl')) (ret : ∀ h' tk' m' news', Fr h₀ L h' m' → News h₀ L h' news' → LapSt L D A b db g dg c mk dm rw ls vs0 n1 n2 K G hm km orw nl kp (i + 1) m' news' → Q .next { s with heap := h', toks := tk' }), zR
abbrev lap3_spec_P : Type := ((((((((Option (List Code)) × Addr) × Addr) × (Addr × Addr)) × (((Addr × Addr) × Addr) × (Addr × Addr))) × ((((Addr × Addr) × Addr) × ((List Value) × (List Int))) × ((Nat × Nat) × (BKeys × GKeys)))) × (((((Int × Tok) × Obj) × ((List (Addr × Obj)) × Nat)) × ((Nat × (List (Addr × Obj))) × ((Flow → Shared → Prop) × Int))) × ((((Tok × (List Value)) × (List Int)) × (Nat × Int)) × ((Tok × Int) × (Tok × Int))))) × ((((((Tok × Int) × Tok) × (Bool × Int)) × ((Tok × Int) × (Tok × Int))) × ((((Tok × Addr) × (List Value)) × (Nat × Obj)) × ((Obj × Obj) × (Obj × (Array Value))))) × ((((((List (Addr × Obj)) × (List (Addr × Obj))) × (List Value)) × (Addr × Nat)) × ((Program × World) × (Program × (List Str)))) × (((((ExcName → Option Value) × (Str → Option Value)) × (Str → Option Value)) × (Around × Heap)) × ((Addr × (Str → Option Value)) × (Shared × (Value → Shared → Prop)))))))
def lap3_spec_S (gd : Option (List Code)) (fa : Addr) (D : Addr) (A : Addr) (b : Addr) (db : Addr) (g : Addr) (dg : Addr) (c : Addr) (mk : Addr) (dm : Addr) (rw : Addr) (ls : Addr) (vs0 : List Value) (ns0 : List Int) (n1 : Nat) (n2 : Nat) (K : BKeys) (G : GKeys) (hm : Int) (km : Tok) (orw : Obj) (kp : List (Addr × Obj)) (nl : Nat) (i : Nat) (news : List (Addr × Obj)) (Q : Flow → Shared → Prop) (kx : Int) (tx : Tok) (vs : List Value) (ns : List Int) (nv : Nat) (gs : Int) (t3 : Tok) (ge : Int) (t4 : Tok) (pt : Int) (p1 : Tok) (zv : Int) (z1 : Tok) (ro : Bool) (tq : Int) (t1 : Tok) (ck : Int) (c1 : Tok) (sk : Int) (s1 : Tok) (cl' : Addr) (cvs : List Value) (nc : Nat) (o1 : Obj) (o2 : Obj) (o3 : Obj) (o4 : Obj) (ps : Array Value) (kc : List (Addr × Obj)) (tl : List (Addr × Obj)) (ys : List Value) (Ds : Addr) (kD : Nat) (prog : Program) (w : World) (p : Program) (loose : List Str) (mean : ExcName → Option Value) (mg : Str → Option Value) (mb : Str → Option Value) (A₀ : Around) (h₀ : Heap) (L : Addr) (m : Str → Option Value) (s : Shared) (E : Value → Shared → Prop) : Prop := lap3_spec_H gd fa D A b db g dg c mk dm rw ls vs0 ns0 n1 n2 K G hm km orw kp nl i news Q kx tx vs ns nv gs t3 ge t4 pt p1 zv z1 ro tq t1 ck c1 sk s1 cl' cvs nc o1 o2 o3 o4 ps kc tl ys Ds kD prog w p loose mean mg mb A₀ h₀ L m s E (Stand (wpAny (model prog w) (ktrTop 400 400 gd (Str.ofString "law") (lawSc w.params) L fa (.ref 656) (cellsFrom (L + 1) (lawSc w.params).names []) []) (execs ((lapBody w.params).drop 9) (envX (Str.ofString "law") (lawSc w.params) L fa (.ref 656) (cellsFrom (L + 1) (lawSc w.params).names []))) Q E s))
abbrev lap3_spec_F (x : lap3_spec_P) : Prop := lap3_spec_S (x.1.1.1.1.1.1.1) (x.1.1.1.1.1.1.2) (x.1.1.1.1.1.2) (x.1.1.1.1.2.1) (x.1.1.1.1.2.2) (x.1.1.1.2.1.1.1) (x.1.1.1.2.1.1.2) (x.1.1.1.2.1.2) (x.1.1.1.2.2.1) (x.1.1.1.2.2.2) (x.1.1.2.1.1.1.1) (x.1.1.2.1.1.1.2) (x.1.1.2.1.1.2) (x.1.1.2.1.2.1) (x.1.1.2.1.2.2) (x.1.1.2.2.1.1) (x.1.1.2.2.1.2) (x.1.1.2.2.2.1) (x.1.1.2.2.2.2) (x.1.2.1.1.1.1.1) (x.1.2.1.1.1.1.2) (x.1.2.1.1.1.2) (x.1.2.1.1.2.1) (x.1.2.1.1.2.2) (x.1.2.1.2.1.1) (x.1.2.1.2.1.2) (x.1.2.1.2.2.1) (x.1.2.1.2.2.2) (x.1.2.2.1.1.1.1) (x.1.2.2.1.1.1.2) (x.1.2.2.1.1.2) (x.1.2.2.1.2.1) (x.1.2.2.1.2.2) (x.1.2.2.2.1.1) (x.1.2.2.2.1.2) (x.1.2.2.2.2.1) (x.1.2.2.2.2.2) (x.2.1.1.1.1.1.1) (x.2.1.1.1.1.1.2) (x.2.1.1.1.1.2) (x.2.1.1.1.2.1) (x.2.1.1.1.2.2) (x.2.1.1.2.1.1) (x.2.1.1.2.1.2) (x.2.1.1.2.2.1) (x.2.1.1.2.2.2) (x.2.1.2.1.1.1.1) (x.2.1.2.1.1.1.2) (x.2.1.2.1.1.2) (x.2.1.2.1.2.1) (x.2.1.2.1.2.2) (x.2.1.2.2.1.1) (x.2.1.2.2.1.2) (x.2.1.2.2.2.1) (x.2.1.2.2.2.2) (x.2.2.1.1.1.1.1) (x.2.2.1.1.1.1.2) (x.2.2.1.1.1.2) (x.2.2.1.1.2.1) (x.2.2.1.1.2.2) (x.2.2.1.2.1.1) (x.2.2.1.2.1.2) (x.2.2.1.2.2.1) (x.2.2.1.2.2.2) (x.2.2.2.1.1.1.1) (x.2.2.2.1.1.1.2) (x.2.2.2.1.1.2) (x.2.2.2.1.2.1) (x.2.2.2.1.2.2) (x.2.2.2.2.1.1) (x.2.2.2.2.1.2) (x.2.2.2.2.2.1) (x.2.2.2.2.2.2)
theorem lap3_spec_ex : ∃ x : lap3_spec_P, lap3_spec_F x → ∀ y : lap3_spec_P, lap3_spec_F y := drinker ⟨(((((((none, (0 : Nat)), (0 : Nat)), ((0 : Nat), (0 : Nat))), ((((0 : Nat), (0 : Nat)), (0 : Nat)), ((0 : Nat), (0 : Nat)))), (((((0 : Nat), (0 : Nat)), (0 : Nat)), ([], [])), ((0, 0), (bkeys0, gkeys0)))), (((((0, (0 : Nat)), default), ([], 0)), ((0, []), (fun _ _ => True, 0))), (((((0 : Nat), []), []), (0, 0)), (((0 : Nat), 0), ((0 : Nat), 0))))), (((((((0 : Nat), 0), (0 : Nat)), (false, 0)), (((0 : Nat), 0), ((0 : Nat), 0))), (((((0 : Nat), (0 : Nat)), []), (0, default)), ((default, default), (default, #[])))), ((((([], []), []), ((0 : Nat), 0)), ((default, world0), (default, []))), ((((fun _ => none, fun _ => none), fun _ => none), ({}, default)), (((0 : Nat), fun _ => none), ({}, fun _ _ => True))))))⟩
noncomputable def lap3_spec_x : lap3_spec_P := lap3_spec_ex.choose
namespace lap3_spec_n
noncomputable def gd : Option (List Code) := lap3_spec_x.1.1.1.1.1.1.1
noncomputable def fa : Addr := lap3_spec_x.1.1.1.1.1.1.2
noncomputable def D : Addr := lap3_spec_x.1.1.1.1.1.2
noncomputable def A : Addr := lap3_spec_x.1.1.1.1.2.1
noncomputable def b : Addr := lap3_spec_x.1.1.1.1.2.2
noncomputable def db : Addr := lap3_spec_x.1.1.1.2.1.1.1
noncomputable def g : Addr := lap3_spec_x.1.1.1.2.1.1.2
noncomputable def dg : Addr := lap3_spec_x.1.1.1.2.1.2
noncomputable def c : Addr := lap3_spec_x.1.1.1.2.2.1
noncomputable def mk : Addr := lap3_spec_x.1.1.1.2.2.2
noncomputable def dm : Addr := lap3_spec_x.1.1.2.1.1.1.1
noncomputable def rw : Addr := lap3_spec_x.1.1.2.1.1.1.2
noncomputable def ls : Addr := lap3_spec_x.1.1.2.1.1.2
noncomputable def vs0 : List Value := lap3_spec_x.1.1.2.1.2.1
noncomputable def ns0 : List Int := lap3_spec_x.1.1.2.1.2.2
noncomputable def n1 : Nat := lap3_spec_x.1.1.2.2.1.1
noncomputable def n2 : Nat := lap3_spec_x.1.1.2.2.1.2
noncomputable def K : BKeys := lap3_spec_x.1.1.2.2.2.1
noncomputable def G : GKeys := lap3_spec_x.1.1.2.2.2.2
noncomputable def hm : Int := lap3_spec_x.1.2.1.1.1.1.1
noncomputable def km : Tok := lap3_spec_x.1.2.1.1.1.1.2
noncomputable def orw : Obj := lap3_spec_x.1.2.1.1.1.2
noncomputable def kp : List (Addr × Obj) := lap3_spec_x.1.2.1.1.2.1
noncomputable def nl : Nat := lap3_spec_x.1.2.1.1.2.2
noncomputable def i : Nat := lap3_spec_x.1.2.1.2.1.1
noncomputable def news : List (Addr × Obj) := lap3_spec_x.1.2.1.2.1.2
noncomputable def Q : Flow → Shared → Prop := lap3_spec_x.1.2.1.2.2.1
noncomputable def kx : Int := lap3_spec_x.1.2.1.2.2.2
noncomputable def tx : Tok := lap3_spec_x.1.2.2.1.1.1.1
noncomputable def vs : List Value := lap3_spec_x.1.2.2.1.1.1.2
noncomputable def ns : List Int := lap3_spec_x.1.2.2.1.1.2
noncomputable def nv : Nat := lap3_spec_x.1.2.2.1.2.1
noncomputable def gs : Int := lap3_spec_x.1.2.2.1.2.2
noncomputable def t3 : Tok := lap3_spec_x.1.2.2.2.1.1
noncomputable def ge : Int := lap3_spec_x.1.2.2.2.1.2
noncomputable def t4 : Tok := lap3_spec_x.1.2.2.2.2.1
noncomputable def pt : Int := lap3_spec_x.1.2.2.2.2.2
noncomputable def p1 : Tok := lap3_spec_x.2.1.1.1.1.1.1
noncomputable def zv : Int := lap3_spec_x.2.1.1.1.1.1.2
noncomputable def z1 : Tok := lap3_spec_x.2.1.1.1.1.2
noncomputable def ro : Bool := lap3_spec_x.2.1.1.1.2.1
noncomputable def tq : Int := lap3_spec_x.2.1.1.1.2.2
noncomputable def t1 : Tok := lap3_spec_x.2.1.1.2.1.1
noncomputable def ck : Int := lap3_spec_x.2.1.1.2.1.2
noncomputable def c1 : Tok := lap3_spec_x.2.1.1.2.2.1
noncomputable def sk : Int := lap3_spec_x.2.1.1.2.2.2
noncomputable def s1 : Tok := lap3_spec_x.2.1.2.1.1.1.1
noncomputable def cl' : Addr := lap3_spec_x.2.1.2.1.1.1.2
noncomputable def cvs : List Value := lap3_spec_x.2.1.2.1.1.2
noncomputable def nc : Nat := lap3_spec_x.2.1.2.1.2.1
noncomputable def o1 : Obj := lap3_spec_x.2.1.2.1.2.2
noncomputable def o2 : Obj := lap3_spec_x.2.1.2.2.1.1
noncomputable def o3 : Obj := lap3_spec_x.2.1.2.2.1.2
noncomputable def o4 : Obj := lap3_spec_x.2.1.2.2.2.1
noncomputable def ps : Array Value := lap3_spec_x.2.1.2.2.2.2
noncomputable def kc : List (Addr × Obj) := lap3_spec_x.2.2.1.1.1.1.1
noncomputable def tl : List (Addr × Obj) := lap3_spec_x.2.2.1.1.1.1.2
noncomputable def ys : List Value := lap3_spec_x.2.2.1.1.1.2
noncomputable def Ds : Addr := lap3_spec_x.2.2.1.1.2.1
noncomputable def kD : Nat := lap3_spec_x.2.2.1.1.2.2
noncomputable def prog : Program := lap3_spec_x.2.2.1.2.1.1
noncomputable def w : World := lap3_spec_x.2.2.1.2.1.2
noncomputable def p : Program := lap3_spec_x.2.2.1.2.2.1
noncomputable def loose : List Str := lap3_spec_x.2.2.1.2.2.2
noncomputable def mean : ExcName → Option Value := lap3_spec_x.2.2.2.1.1.1.1
noncomputable def mg : Str → Option Value := lap3_spec_x.2.2.2.1.1.1.2
noncomputable def mb : Str → Option Value := lap3_spec_x.2.2.2.1.1.2
noncomputable def A₀ : Around := lap3_spec_x.2.2.2.1.2.1
noncomputable def h₀ : Heap := lap3_spec_x.2.2.2.1.2.2
noncomputable def L : Addr := lap3_spec_x.2.2.2.2.1.1
noncomputable def m : Str → Option Value := lap3_spec_x.2.2.2.2.1.2
noncomputable def s : Shared := lap3_spec_x.2.2.2.2.2.1
noncomputable def E : Value → Shared → Prop := lap3_spec_x.2.2.2.2.2.2
set_option maxRecDepth 100000 in
set_option maxHeartbeats 8000000 in
theorem main  : lap3_spec_H gd fa D A b db g dg c mk dm rw ls vs0 ns0 n1 n2 K G hm km orw kp nl i news Q kx tx vs ns nv gs t3 ge t4 pt p1 zv z1 ro tq t1 ck c1 sk s1 cl' cvs nc o1 o2 o3 o4 ps kc tl ys Ds kD prog w p loose mean mg mb A₀ h₀ L m s E (Stand (wpAny (model prog w) (ktrTop 400 400 gd (Str.ofString "law") (lawSc w.params) L fa (.ref 656) (cellsFrom (L + 1) (lawSc w.params).names []) []) (execs ((lapBody w.params).drop 9) (envX (Str.ofString "law") (lawSc w.params) L fa (.ref 656) (cellsFrom (L + 1) (lawSc w.params).names []))) Q E s)) := by
  intro C HC N P ap ap2 ap3 hi0 hlen0 hr lo d1 d2 hi3 hi h0 h1 h2 hz hlen hci hcl hk0 hk9 e1 e2 e3 e4 hL hkc hlc u1 u2 u3 u4 u5 u6 u7 u8 u9 hDs hmod ms md mc ret
  refine ⟨?_⟩
  obtain ⟨B, F, X, T, hk⟩ := C
  have hgl := gtext_length h0 h1 h2
  have ap1 := ap
  have apc := low_chain ap ap2 ap3.1
  simp only [Apart, and_true] at ap1 ap2
  have ap4 := ap3
  unfold Low at ap4
  obtain ⟨hA0, hA1, hA2, hA3, hA4, hA5, hA6, hA7⟩ := ap4
  replace N := news_picks N P
  simp only [List.cons_append, List.nil_append] at N
  have hmf : m = (fun y => if y = Str.ofString "deck" then some (.ref D) else if y = Str.ofString "codes" then some (.ref cl') else if y = Str.ofString "some" then some (.ref Ds) else m y) := by
    funext y
    by_cases z0 : y = Str.ofString "deck"
    · rw [if_pos z0, z0]; exact md
    rw [if_neg z0]
    by_cases z1 : y = Str.ofString "codes"
    · rw [if_pos z1, z1]; exact mc
    rw [if_neg z1]
    by_cases z2 : y = Str.ofString "some"
    · rw [if_pos z2, z2]; exact ms
    rw [if_neg z2]
  rw [hmf] at F
  clear hmf
  with_unfolding_all change wpAny _ (ktrTop _ _ _ _ ⟨_, _, _, _, _⟩ _ _ _ [(_, _), (_, _), (_, _), (_, _)] _) (execs [_, _, _, _, _, _, _] (envX _ ⟨_, _, _, _, _⟩ _ _ _ [(_, _), (_, _), (_, _), (_, _)])) _ _ _
  have adb : @LT.lt Nat _ db b := by k_extra "ord"
  have hDs1 : Ds ≠ D := u1 _ hDs
  have hDs5 : Ds ≠ L + 1 := u5 _ hDs
  have hDs6 : Ds ≠ L + 1 + 1 := u6 _ hDs
  have hDs7 : Ds ≠ L + 1 + 1 + 1 := u7 _ hDs
  have hDs8 : Ds ≠ L + 1 + 1 + 1 + 1 := u8 _ hDs
  obtain ⟨v1, e1⟩ := e1
  obtain ⟨v4, e4⟩ := e4
  replace N := news_put N (x := (Ds, listOf ys.toArray kD)) (by (iterate 17 apply List.mem_cons_of_mem) <;> assumption)
  have apx2 : Apart [654, L, D, db] := by simp only [Apart, and_true]; omega
  have k0 : 0 ≤ kx + 1 + 1 := by k_extra "ord"
  have k9 : kx + 1 + 1 ≤ 10 + 20 * (i : Int) + 15 := by k_extra "ord"
  k_steps
  · exfalso; rename _ = true => hh; revert hh; rw [hmod]; simp
  rename @LT.lt Int _ _ 3 => hr3
  rename @LE.le Int _ 0 _ => hr03
  refine sub_words (by k_asm) (by k_asm) (by k_asm) (by k_mem) hr03 hr3 ?_
  clear hr03 hr3
  intro W tW hW
  rename @LE.le Int _ 0 _ => hr0
  rename @LT.lt Int _ _ (_ + _) => hr5
  have hp1 := place_ge hr0
  have hp2 := place_le hr5 hgl hz
  k_steps
  change wpAny _ _ _ _ _ _
  with_unfolding_all change wpAny _ (ktrTop 400 400 gd (Str.ofString "law") (lawSc w.params) L fa (.ref 656) (cellsFrom (L + 1) (lawSc w.params).names []) []) (execs ((lapBody w.params).drop 11) (envX (Str.ofString "law") (lawSc w.params) L fa (.ref 656) (cellsFrom (L + 1) (lawSc w.params).names []))) _ _ _
  rename News _ _ _ _ => N7
  rename Fr _ _ _ _ => F7
  rename Obj.data _ = Data.cell (some (Value.int _ _)) => e1n
  rename Obj.data _ = Data.cell (some (Value.str _ _)) => e4n
  with_reducible refine Stand.out ?_
  rcases hW with rfl | rfl | rfl
  · exact lap4a_spec (C := ⟨by k_asm, F7, by k_asm, by k_asm, rfl⟩) HC (lap_news3 N7) (by ktr_rel) ap apx2 ap3 hi0 hlen0 hr lo d1 d2 hi3 hi h0 h1 h2 hz hlen hci hcl k0 k9 hp1 hp2 e1n e2 e3 e4n hL hkc hlc u1 u2 u3 u4 u5 u6 u7 u8 u9 rfl rfl ret
  · exact lap4b_spec (C := ⟨by k_asm, F7, by k_asm, by k_asm, rfl⟩) HC (lap_news3 N7) (by ktr_rel) ap apx2 ap3 hi0 hlen0 hr lo d1 d2 hi3 hi h0 h1 h2 hz hlen hci hcl k0 k9 hp1 hp2 e1n e2 e3 e4n hL hkc hlc u1 u2 u3 u4 u5 u6 u7 u8 u9 rfl rfl ret
  · exact lap4c_spec (C := ⟨by k_asm, F7, by k_asm, by k_asm, rfl⟩) HC (lap_news3 N7) (by ktr_rel) ap apx2 ap3 hi0 hlen0 hr lo d1 d2 hi3 hi h0 h1 h2 hz hlen hci hcl k0 k9 hp1 hp2 e1n e2 e3 e4n hL hkc hlc u1 u2 u3 u4 u5 u6 u7 u8 u9 rfl rfl ret
end lap3_spec_n
theorem lap3_spec {prog : Program} {w : World} {p : Program} {loose : List Str} {mean : ExcName → Option Value} {mg : Str → Option Value} {mb : Str → Option Value} {A₀ : Around} {h₀ : Heap} {L : Addr} {m : Str → Option Value} {s : Shared} {E : Value → Shared → Prop} {gd : Option (List Code)} {fa : Addr} {D : Addr} {A : Addr} {b : Addr} {db : Addr} {g : Addr} {dg : Addr} {c : Addr} {mk : Addr} {dm : Addr} {rw : Addr} {ls : Addr} {vs0 : List Value} {ns0 : List Int} {n1 : Nat} {n2 : Nat} {K : BKeys} {G : GKeys} {hm : Int} {km : Tok} {orw : Obj} {kp : List (Addr × Obj)} {nl : Nat} {i : Nat} {news : List (Addr × Obj)} {Q : Flow → Shared → Prop} {kx : Int} {tx : Tok} {vs : List Value} {ns : List Int} {nv : Nat} {gs : Int} {t3 : Tok} {ge : Int} {t4 : Tok} {pt : Int} {p1 : Tok} {zv : Int} {z1 : Tok} {ro : Bool} {tq : Int} {t1 : Tok} {ck : Int} {c1 : Tok} {sk : Int} {s1 : Tok} {cl' : Addr} {cvs : List Value} {nc : Nat} {o1 : Obj} {o2 : Obj} {o3 : Obj} {o4 : Obj} {ps : Array Value} {kc : List (Addr × Obj)} {tl : List (Addr × Obj)} {ys : List Value} {Ds : Addr} {kD : Nat} : lap3_spec_H gd fa D A b db g dg c mk dm rw ls vs0 ns0 n1 n2 K G hm km orw kp nl i news Q kx tx vs ns nv gs t3 ge t4 pt p1 zv z1 ro tq t1 ck c1 sk s1 cl' cvs nc o1 o2 o3 o4 ps kc tl ys Ds kD prog w p loose mean mg mb A₀ h₀ L m s E (Stand (wpAny (model prog w) (ktrTop 400 400 gd (Str.ofString "law") (lawSc w.params) L fa (.ref 656) (cellsFrom (L + 1) (lawSc w.params).names []) []) (execs ((lapBody w.params).drop 9) (envX (Str.ofString "law") (lawSc w.params) L fa (.ref 656) (cellsFrom (L + 1) (lawSc w.params).names []))) Q E s)) := lap3_spec_ex.choose_spec (lap3_spec_n.main ) (((((((gd, fa), D), (A, b)), (((db, g), dg), (c, mk))), ((((dm, rw), ls), (vs0, ns0)), ((n1, n2), (K, G)))), (((((hm, km), orw), (kp, nl)), ((i, news), (Q, kx))), ((((tx, vs), ns), (nv, gs)), ((t3, ge), (t4, pt))))), ((((((p1, zv), z1), (ro, tq)), ((t1, ck), (c1, sk))), ((((s1, cl'), cvs), (nc, o1)), ((o2, o3), (o4, ps)))), (((((kc, tl), ys), (Ds, kD)), ((prog, w), (p, loose))), ((((mean, mg), mb), (A₀, h₀)), ((L, m), (s, E))))))
end
section
theorem lines_X22_1 : True := by
  k_with_none
  k_with "k_all" => with_reducible assumption
  k_with "ne_mem" => with_reducible first | exact List.mem_cons_self | (refine List.mem_cons_of_mem _ ?_; k_extra "ne_mem") | (refine List.mem_append_right _ ?_; k_extra "ne_mem")
  k_with "ne_bef" => with_reducible first | (refine Bef.head ?_; k_extra "ne_mem") | (refine Bef.tail ?_; k_extra "ne_bef")
  k_with "lt_ap" => (with_reducible rename Apart _ => kqA; first | (with_reducible exact Apart.bef kqA (by k_extra "ne_bef")) | (clear kqA; k_extra "lt_ap"))
  k_with "lt_go" => first | (with_reducible assumption) | (with_reducible exact AllLt.get (by assumption) (by k_extra "ne_mem")) | k_extra "lt_ap" | ((with_reducible refine Nat.lt_trans ?kq1 ?kq2); (case kq2 => with_reducible assumption); (case kq1 => k_extra "lt_go")) | ((with_reducible refine Nat.lt_trans ?kq1 ?kq2); (case kq1 => with_reducible assumption); (case kq2 => k_extra "lt_ap"))
  k_with "ne_lt" => with_reducible first | exact Nat.ne_of_lt (AllLt.get (by assumption) (by k_extra "ne_mem")) | exact Nat.ne_of_gt (AllLt.get (by assumption) (by k_extra "ne_mem"))
  k_with "ne_ap" => (with_reducible rename Apart _ => kqA; first | (with_reducible exact Nat.ne_of_lt (Apart.bef kqA (by k_extra "ne_bef"))) | (with_reducible exact Nat.ne_of_gt (Apart.bef kqA (by k_extra "ne_bef"))) | (clear kqA; k_extra "ne_ap"))
  k_with "ne_tr" => first | ((with_reducible refine Nat.ne_of_gt (Nat.lt_trans ?kq1 ?kq2)); (case kq2 => with_reducible assumption); (case kq1 => k_extra "lt_go")) | ((with_reducible refine Nat.ne_of_lt (Nat.lt_trans ?kq1 ?kq2)); (case kq2 => with_reducible assumption); (case kq1 => k_extra "lt_go"))
  k_with "k_ne" => (refine neN ?_; (try dsimp only); first | (with_reducible assumption) | (with_reducible exact Ne.symm (by assumption)) | (with_reducible exact Nat.ne_of_lt (by assumption)) | (with_reducible exact Nat.ne_of_gt (by assumption)) | k_extra "ne_lt" | k_extra "ne_ap" | k_extra "ne_tr" | omega | ((try simp only [AllLt] at *); omega))
  k_with "ne_all" => first | (with_reducible assumption) | (refine And.intro ?_ ?_ <;> k_extra "ne_all") | k_ne
  k_with "mem_hq" => first | exact hq | exact List.mem_append_left _ hq | (refine List.mem_cons_of_mem _ ?_; k_extra "mem_hq")
  k_with "perm" => first | (refine List.forall_mem_cons.mpr (And.intro ?kqa ?kqb); (case kqa => k_extra "ne_mem"); (case kqb => k_extra "perm")) | exact List.forall_mem_nil _ | (intro q hq; k_extra "mem_hq")
  k_with "ord" => first | (with_reducible assumption) | ((with_reducible show @LT.lt Nat _ _ _); k_extra "lt_go") | k_ne | omega | ((try simp only [AllLt] at *); omega)
  k_with "tb_start" => first | exact Pick.head | (apply Pick.tail; tb_start)
  k_with "tb_rel" => first | exact Suff.refl | (refine' Suff.tail ?_; tb_rel)
  k_with "ktr_rel" => first | exact Picks.nil | (refine' Picks.cons ?kqp ?kqq; (case kqp => tb_start); (case kqq => ktr_rel))
  k_with "ktr_unf" => exact ⟨by k_asm, by k_asm, by k_asm, by k_asm, by first | exact rfl | assumption⟩
  k_with "subscriptTail Attribute Name Slice" => (k_here; k_dflt (refine kba_turn (value' := PySem.Expr.Name (PySem.Str.ofString "_") ⟨0, 0, 0, 0⟩) (fun _ => rfl) ?_))
  k_with "subscriptTail Name Slice ref ref" => (k_here; (with_reducible show wpAny _ _ (subscriptTail _ (PySem.Expr.Slice (some _) (some _) none _) (Value.ref _) (Value.ref _)) _ _ _); k_dflt (refine' my_slice ?kqF ?kqN ?kql ?kqi ?kqx ?kqy ?kqz ?_ ?kqs ?kqt; (case kqF => k_asm); (case kqN => k_asm); (case kql => k_mem); (case kqi => k_asm); (case kqx => first | (with_reducible assumption) | omega | ((try simp only [AllLt] at *); omega)); (case kqy => first | (with_reducible assumption) | omega | ((try simp only [AllLt] at *); omega)); (case kqz => first | (with_reducible assumption) | omega | ((try simp only [AllLt] at *); omega)); (case kqs => with_unfolding_all rfl); (case kqt => kmk_pure); k_whole); intro D' ws' h' zs' F' N' l1 hI' hZ' hL'; (try (replace hL' := slice_len hL' (by first | (with_reducible assumption) | omega) (by first | (with_reducible assumption) | omega) (by first | (with_reducible assumption) | omega))); (try k_lt l1); (try k_sweep))
  k_with "setItem ref ref ref" => (k_here; k_dflt (refine' my_setslice ?kqF ?kqN ?kql ?kqU ?kqi ?kqw ?kqx ?kqy ?kqz ?kqzz ?_; (case kqF => k_asm); (case kqN => k_asm); (case kql => k_mem); (case kqU => k_updF); (case kqi => k_asm); (case kqw => k_asm); (case kqx => first | (with_reducible assumption) | omega | ((try simp only [AllLt] at *); omega)); (case kqy => first | (with_reducible assumption) | omega | ((try simp only [AllLt] at *); omega)); (case kqz => first | (with_reducible assumption) | omega | ((try simp only [AllLt] at *); omega)); (case kqzz => first | (with_reducible assumption) | omega | ((try simp only [AllLt] at *); omega)); k_whole); intro vs' n2' h' ns' F' N' hI' hZ' hL'; (try dsimp only at N'); (try k_sweep))
  k_with "call builtin:len" => (k_here; (with_reducible show wpAny _ _ (call (Value.builtin "len") [Value.ref _]) _ _ _); k_dflt (refine' my_len ?kqN ?kql ?kqi ?kqz ?_; (case kqN => k_asm); (case kql => k_mem); (case kqi => k_asm); (case kqz => first | (with_reducible assumption) | omega | ((try simp only [AllLt] at *); omega)); k_whole))
  k_with "pyIter ref" => (k_here; k_dflt (first | (refine' iter_empty ?kqh ?kqF ?kqN ?kqm ?_; (case kqh => exact rfl); (case kqF => k_asm); (case kqN => k_asm); (case kqm => k_mem)) | (refine' iter_empty2 ?kqh ?kqF ?kqN ?kqm ?kqi ?kqz ?_; (case kqh => exact rfl); (case kqF => k_asm); (case kqN => k_asm); (case kqm => k_mem); (case kqi => k_asm); (case kqz => k_asm))); intro h' tk' F' N'; (try dsimp only); (try k_sweep))
  k_with "call ref" => (k_here; (with_reducible show wpAny _ _ (call (Value.ref 631) _) _ _ _); k_dflt (refine' around_le (draw_spec ?kqC ?kqN ?kqP ?kqne ?kqr ?kqi ?kql ?kqh0 ?kqh1 ?kqh2 ?_) ?kqd ?kqu; (case kqC => ktr_unf); (case kqN => k_asm); (case kqP => ktr_rel); (case kqne => first | (with_reducible assumption) | omega | ((try simp only [AllLt] at *); omega)); (case kqr => k_all); (case kqi => k_asm); (case kql => first | (with_reducible assumption) | omega | ((try simp only [AllLt] at *); omega)); (case kqh0 => first | (with_reducible assumption) | omega | ((try simp only [AllLt] at *); omega)); (case kqh1 => first | (with_reducible assumption) | omega | ((try simp only [AllLt] at *); omega)); (case kqh2 => first | (with_reducible assumption) | omega | ((try simp only [AllLt] at *); omega));  (case kqd => exact Nat.le_of_ble_eq_true rfl); (case kqu => exact Nat.le_of_ble_eq_true rfl)); intro r' t' t2' h' tk' F' N' hr0' hr1'; (try dsimp only); (try k_sweep); (try k_fold))
  k_with "call ref" => (k_here; (with_reducible show wpAny _ _ (call (Value.ref 612) _) _ _ _); k_dflt (refine' around_le (setmod_spec ?kqC ?kqN ?kqP ?kqe1 ?kqr3 ?_) ?kqd ?kqu; (case kqC => ktr_unf); (case kqN => k_asm); (case kqP => ktr_rel); (case kqe1 => first | k_extra "ne_all" | omega); (case kqr3 => k_all);  (case kqd => exact Nat.le_of_ble_eq_true rfl); (case kqu => exact Nat.le_of_ble_eq_true rfl)); intro h' tk' F' N'; (try simp only [List.cons_append, List.nil_append] at N'); (try dsimp only); (try k_sweep); (try k_fold))
  k_with "call ref" => (k_here; (with_reducible show wpAny _ _ (call (Value.ref 638) _) _ _ _); k_dflt (refine' around_le (edits_spec ?kqC ?kqN ?kqP ?kqne ?kqr ?kqdl ?kqal ?kqi ?kql ?kqh0 ?kqh1 ?kqh2 ?kqh3 ?_) ?kqd ?kqu; (case kqC => ktr_unf); (case kqN => k_asm); (case kqP => ktr_rel); (case kqne => first | (with_reducible assumption) | omega | ((try simp only [AllLt] at *); omega)); (case kqr => k_all); (case kqdl => first | (with_reducible assumption) | omega | ((try simp only [AllLt] at *); omega)); (case kqal => first | (with_reducible assumption) | omega | ((try simp only [AllLt] at *); omega)); (case kqi => k_asm); (case kql => first | (with_reducible assumption) | omega | ((try simp only [AllLt] at *); omega)); (case kqh0 => first | (with_reducible assumption) | omega | ((try simp only [AllLt] at *); omega)); (case kqh1 => first | (with_reducible assumption) | omega | ((try simp only [AllLt] at *); omega)); (case kqh2 => first | (with_reducible assumption) | omega | ((try simp only [AllLt] at *); omega)); (case kqh3 => first | (with_reducible assumption) | omega | ((try simp only [AllLt] at *); omega));  (case kqd => exact Nat.le_of_ble_eq_true rfl); (case kqu => exact Nat.le_of_ble_eq_true rfl)); intro el' l' n0' k' t' h' tk' hD' hE' hk1' hk2' F' N' hel'; (try simp only [List.cons_append, List.nil_append, List.append_assoc] at N'); (try dsimp only); (try k_sweep); (try k_fold))
  k_with "call ref" => (k_here; (with_reducible show wpAny _ _ (call (Value.ref 584) _) _ _ _); k_dflt (refine' around_le (bcodes_spec ?kqC ?kqN ?kqP ?kqi ?kql ?kqh0 ?kqh1 ?kqh2 ?kqh3 ?kqh4 ?_) ?kqd ?kqu; (case kqC => ktr_unf); (case kqN => k_asm); (case kqP => ktr_rel); (case kqi => k_asm); (case kql => first | (with_reducible assumption) | omega | ((try simp only [AllLt] at *); omega)); (case kqh0 => first | (with_reducible assumption) | omega | ((try simp only [AllLt] at *); omega)); (case kqh1 => first | (with_reducible assumption) | omega | ((try simp only [AllLt] at *); omega)); (case kqh2 => first | (with_reducible assumption) | omega | ((try simp only [AllLt] at *); omega)); (case kqh3 => first | (with_reducible assumption) | omega | ((try simp only [AllLt] at *); omega)); (case kqh4 => first | (with_reducible assumption) | omega | ((try simp only [AllLt] at *); omega));  (case kqd => exact Nat.le_of_ble_eq_true rfl); (case kqu => exact Nat.le_of_ble_eq_true rfl)); intro D' ws' n' h' tk' hI' F' N' l1; (try k_lt l1); (try dsimp only); (try k_sweep); (try k_fold))
  k_with "call ref" => (k_here; (with_reducible show wpAny _ _ (call (Value.ref 570) _) _ _ _); k_dflt (refine' around_le (bsize_spec ?kqC ?kqN ?kqP ?kqi ?kql ?kqh0 ?kqh1 ?kqh2 ?_) ?kqd ?kqu; (case kqC => ktr_unf); (case kqN => k_asm); (case kqP => ktr_rel); (case kqi => k_asm); (case kql => first | (with_reducible assumption) | omega | ((try simp only [AllLt] at *); omega)); (case kqh0 => first | (with_reducible assumption) | omega | ((try simp only [AllLt] at *); omega)); (case kqh1 => first | (with_reducible assumption) | omega | ((try simp only [AllLt] at *); omega)); (case kqh2 => first | (with_reducible assumption) | omega | ((try simp only [AllLt] at *); omega));  (case kqd => exact Nat.le_of_ble_eq_true rfl); (case kqu => exact Nat.le_of_ble_eq_true rfl)); intro t' h' tk' F' N'; (try dsimp only); (try k_sweep); (try k_fold))
  k_with "call ref" => (k_here; (with_reducible show wpAny _ _ (call (Value.ref 605) _) _ _ _); k_dflt (refine' around_le (ismod_spec ?kqC ?kqN ?kqP ?_) ?kqd ?kqu; (case kqC => ktr_unf); (case kqN => k_asm); (case kqP => ktr_rel);  (case kqd => exact Nat.le_of_ble_eq_true rfl); (case kqu => exact Nat.le_of_ble_eq_true rfl)); intro h' tk' F' N'; (try dsimp only); (try k_sweep); (try k_fold))
  k_with "call ref" => (k_here; (with_reducible show wpAny _ _ (call (Value.ref 645) _) _ _ _); k_dflt (refine' around_le (put_spec ?kqC ?kqN ?kqP ?kqi ?kql ?kqed ?kql4 ?kqsub ?_) ?kqd ?kqu; (case kqC => ktr_unf); (case kqN => k_asm); (case kqP => ktr_rel); (case kqi => k_asm); (case kql => first | (with_reducible assumption) | omega | ((try simp only [AllLt] at *); omega)); (case kqed => k_asm); (case kql4 => first | (with_reducible assumption) | omega | ((try simp only [AllLt] at *); omega)); (case kqsub => k_asm);  (case kqd => exact Nat.le_of_ble_eq_true rfl); (case kqu => exact Nat.le_of_ble_eq_true rfl)); intro D' ws' n' h' tk' hI' F' N' l1; (try k_lt l1); (try dsimp only); (try k_sweep); (try k_fold))
  k_with "call ref" => (k_here; (with_reducible show wpAny _ _ (call (Value.ref 296) _) _ _ _); k_dflt (refine' halt ?_))
  k_with "call ref" => (k_here; (with_reducible show wpAny _ _ (call (Value.ref 638) _) _ _ _); k_dflt (refine' halt ?_))
  k_with "call ref" => (k_here; (with_reducible show wpAny _ _ (call (Value.ref 652) _) _ _ _); k_dflt (refine' halt ?_))
  k_with "exec Assign cons ListComp" => (k_here; k_dflt (refine' halt ?_))
  k_with "compareOp NotEq ref ref" => (k_here; (with_reducible show wpAny _ _ (compareOp CmpOp.NotEq (Value.ref _) (Value.ref _)) _ _ _); k_dflt (first | (refine' ne_ints2 ?kqyN ?kqya ?kqyb ?kqyi ?kqyj ?kqyu ?_; (case kqyN => k_asm); (case kqya => k_mem); (case kqyb => k_mem); (case kqyi => k_asm); (case kqyj => k_asm); (case kqyu => ke_room); k_whole) | (refine' ne_nil ?kqyN ?kqya ?kqyb ?kqyu ?_; (case kqyN => k_asm); (case kqya => k_mem); (case kqyb => k_mem); (case kqyu => ke_room); k_whole)))
  k_with "execs cons" => (k_here; (with_reducible show wpAny _ _ (execs (Stmt.If (PySem.Expr.BoolOp _ [PySem.Expr.Compare _ _ _ _, PySem.Expr.Compare _ _ _ _] _) _ _ _ :: _) _) _ _ _); k_dflt (refine' halt ?_))
  k_with "call ref" => (k_here; (with_reducible show wpAny _ _ (call (Value.ref 645) _) _ _ _); k_dflt (refine' halt ?_))
  k_with "compareOp NotEq ref ref" => (k_here; (with_reducible show wpAny _ _ (compareOp CmpOp.NotEq (Value.ref _) (Value.ref _)) _ _ _); k_dflt (first | (refine' ne_same ?kqyN ?kqya ?kqyb ?kqyi ?kqyj ?kqyu ?kqye ?_; (case kqyN => k_asm); (case kqya => k_mem); (case kqyb => k_mem); (case kqyi => k_asm); (case kqyj => k_asm); (case kqyu => ke_room); (case kqye => exact List.take_of_length_le (by omega)); k_whole) | (refine' ne_nil ?kqyN ?kqya ?kqyb ?kqyu ?_; (case kqyN => k_asm); (case kqya => k_mem); (case kqyb => k_mem); (case kqyu => ke_room); k_whole)))
  k_with "eval Lambda" => (k_here; k_dflt (refine' kla_eval ?kqyd0 ?_; (case kqyd0 => exact rfl)); k_dflt (refine' lam_any2 ?kqyq ?kqyF ?kqyN ?kqyT ?kqyC ?kqycd ?kqyU ?kqym ?kqyg ?kqyL ?kqyk ?kqyl ?kqycl ?_; (case kqyq => exact rfl); (case kqyF => k_asm); (case kqyN => k_asm); (case kqyT => k_asm); (case kqycd => exact rfl); (case kqyC => kn_code); (case kqyU => k_updF); (case kqym => k_mem); (case kqyg => exact rfl); (case kqyL => k_asm); (case kqyk => (repeat (first | (refine' kc_cons ?kqyk1 ?kqyk2; (case kqyk1 => k_mem)) | with_reducible assumption | refine' kc_lit ?_))); (case kqyl => k_mem); (case kqycl => exact rfl); k_whole); intro f' c' oc' vs' t' ct' ps' h' tk' F' N' L' d1' d2' l1 l2 l3; (try dsimp only at N'))
  trivial
variable {prog : Program} {w : World} {p : Program} {loose : List Str} {mean : ExcName → Option Value} {mg mb : Str → Option Value} {cn : Str} {cs : Scope} {a : Addr} {ccd : Value} {cl : List (Str × Addr)} {outer : List Env} {A₀ : Around} {base h₀ : Heap} {L : Addr} {m : Str → Option Value} {s : Shared} {Q E : Value → Shared → Prop} in
theorem lap_news2 {hh : Heap} {x1 x2 x4 x5 y1 y2 y3 y4 y5 y6 y7 y8 y9 z1 z2 z3 z4 z5 z6 z7 z8 z9 : Addr × Obj} {tl : List (Addr × Obj)}
 (N : News h₀ L hh (z3 :: y3 :: y4 :: y5 :: y6 :: y7 :: y8 :: y9 :: z1 :: z2 :: x1 :: x2 :: z9 :: x4 :: y1 :: y2 :: x5 :: z4 :: z5 :: z6 :: z7 :: z8 :: tl)) :
 News h₀ L hh (y1 :: y2 :: y3 :: y4 :: y5 :: y6 :: y7 :: y8 :: y9 :: z1 :: z2 :: z3 :: z4 :: z5 :: z6 :: z7 :: z8 :: z9 :: tl) := news_sel N 22 [14, 15, 1, 2, 3, 4, 5, 6, 7, 8, 9, 0, 17, 18, 19, 20, 21, 12]
variable {prog : Program} {w : World} {p : Program} {loose : List Str} {mean : ExcName → Option Value} {mg mb : Str → Option Value} {cn : Str} {cs : Scope} {a : Addr} {ccd : Value} {cl : List (Str × Addr)} {outer : List Env} {A₀ : Around} {base h₀ : Heap} {L : Addr} {m : Str → Option Value} {s : Shared} {Q E : Value → Shared → Prop} in
/-- what a run of the edits leaves -/
def RunAt (b db g mk ls dg c dm rw el : Addr) (K : BKeys) (G : GKeys) (hm : Int) (km : Tok) (orw : Obj) (nl : Nat) (l : List Ed) (n0 : Nat) (sk : Int) (s1 : Tok) (T : List Int) (nlen : Nat) (tq : Int) (rest : List (Addr × Obj)) (n : List (Addr × Obj)) : Prop :=
  ∃ (vs' : List Value) (ns' : List Int) (n2' : Nat) (gs' : Int) (t3' : Tok) (ge' : Int) (t4' : Tok) (pt' : Int) (p1' : Tok) (zv' : Int) (z1' : Tok) (tk1' : Int) (t1' : Tok) (ck1' : Int) (c1' : Tok), n = [(b, instObj 622 db), (db, bufD K g mk ls pt' p1' zv' z1' false tk1' t1' ck1' c1' sk s1), (g, instObj 411 dg), (dg, gapD G c gs' t3' ge' t4'), (c, listOf (List.toArray vs') n2'), (mk, instObj 481 dm), (dm, mkD hm km rw), (rw, orw), (ls, listOf #[] nl), (el, listOf (edVals l).toArray n0)] ++ rest ∧ IntsAre vs' ns' ∧ ns'.length ≤ nlen + 20 * l.length ∧ 0 ≤ gs' ∧ gs' ≤ ge' ∧ ge' ≤ ns'.length ∧ zv' = ns'.length - ge' + gs' + 1 ∧ tk1' = tq + (l.countP Ed.busy : Nat) ∧ gtext ns' gs' ge' = l.foldl put1 T
variable {prog : Program} {w : World} {p : Program} {loose : List Str} {mean : ExcName → Option Value} {mg mb : Str → Option Value} {cn : Str} {cs : Scope} {a : Addr} {ccd : Value} {cl : List (Str × Addr)} {outer : List Env} {A₀ : Around} {base h₀ : Heap} {L : Addr} {m : Str → Option Value} {s : Shared} {Q E : Value → Shared → Prop} in
theorem sig_run {b db g mk ls dg c dm rw el : Addr} {K : BKeys} {G : GKeys} {hm : Int} {km : Tok} {orw : Obj} {nl : Nat} {l : List Ed} {n0 : Nat} {pt zv tq ck sk : Int} {p1 z1 t1 c1 s1 : Tok} {vs : List Value} {n2 : Nat} {gs ge : Int} {t3 t4 : Tok} {T : List Int} {nlen : Nat} {f : Addr} {fd : FuncData} {news rest : List (Addr × Obj)}
 (C : Cx w p loose mean mg mb A₀ h₀ outer h₀ L s.heap m cs) (N : News h₀ L s.heap news) (hf : (f, ({ cls := .type "function", data := .func fd } : Obj)) ∈ news)
 (P : Picks [(b, instObj 622 db), (db, bufD K g mk ls pt p1 zv z1 false tq t1 ck c1 sk s1), (g, instObj 411 dg), (dg, gapD G c gs t3 ge t4), (c, listOf (List.toArray vs) n2), (mk, instObj 481 dm), (dm, mkD hm km rw), (rw, orw), (ls, listOf #[] nl), (el, listOf (edVals l).toArray n0)] news rest)
 (call_ : ∀ (g' : Heap) (L' : Addr) (h₁ : Heap) (tk' : Nat) (A₁ : Around) (Q₁ : Value → Shared → Prop) (E₁ : Value → Shared → Prop) (m₁ : Str → Option Value), Cx w p loose mean mg mb A₁ h₀ (envX cn cs L a ccd cl :: outer) g' L' h₁ m₁ sigSc → News g' L' h₁ news → (∀ p ∈ news, @LT.lt Nat _ p.1 L') → (∀ q ∈ [(L, m)], g'.Ns q.1 q.2) →
   (∀ v h' tk' n, RunAt b db g mk ls dg c dm rw el K G hm km orw nl l n0 sk s1 T nlen tq rest n → Fr g' L' h' m₁ → News g' L' h' n → Q₁ v { s with heap := h', toks := tk' }) →
   wpAny (model prog w) (ktrTop 861 8603 none (Str.ofString "_law_signal") sigSc L' 652 (.ref 651) [] (envX cn cs L a ccd cl :: outer)) (call (.ref f) []) Q₁ E₁ { s with heap := h₁, toks := tk' })
 (retN : ∀ t h' tk' n, RunAt b db g mk ls dg c dm rw el K G hm km orw nl l n0 sk s1 T nlen tq rest n → Fr h₀ L h' m → News h₀ L h' n → Q (.str (Str.ofString "") t) { s with heap := h', toks := tk' }) :
 wpAny (model prog w) (ktrTop 860 8600 none cn cs L a ccd cl outer) (call (.ref 652) [.ref f]) Q E s :=
  sig_spec (sy := Str.ofString "") (Post₁ := RunAt b db g mk ls dg c dm rw el K G hm km orw nl l n0 sk s1 T nlen tq rest) (Post₂ := fun _ => False) C N hf
    (fun g' L' h₁ tk' A₁ Q₁ E₁ m₁ C1 N1 hl hn hq _ => call_ g' L' h₁ tk' A₁ Q₁ E₁ m₁ C1 N1 hl hn hq)
    retN (fun _ _ _ _ hf _ _ => hf.elim)
variable {prog : Program} {w : World} {p : Program} {loose : List Str} {mean : ExcName → Option Value} {mg mb : Str → Option Value} {cn : Str} {cs : Scope} {a : Addr} {ccd : Value} {cl : List (Str × Addr)} {outer : List Env} {A₀ : Around} {base h₀ : Heap} {L : Addr} {m : Str → Option Value} {s : Shared} {Q E : Value → Shared → Prop} in
theorem busy_count {l : List Ed} {ys : List Value} {sk tq tk1 : Int} (hys : ys.isEmpty = true ↔ ∀ d ∈ l, d.busy = false) (h1 : sk = tq) (h2 : tk1 = tq + (l.countP Ed.busy : Nat)) : decide (sk < tk1) = !ys.isEmpty := by
  cases hy : ys.isEmpty with
  | true =>
    have h3 : l.countP Ed.busy = 0 := List.countP_eq_zero.mpr fun d hd => by rw [hys.mp hy d hd]; decide
    rw [h3] at h2
    simp; omega
  | false =>
    have h3 : 0 < l.countP Ed.busy := by
      rcases Nat.eq_zero_or_pos (l.countP Ed.busy) with h | h
      · have := hys.mpr fun d hd => by
          have := List.countP_eq_zero.mp h d hd
          simpa using this
        rw [hy] at this; cases this
      · exact h
    simp; omega
def lap2_spec_H (gd : Option (List Code)) (fa : Addr) (D : Addr) (A : Addr) (b : Addr) (db : Addr) (g : Addr) (dg : Addr) (c : Addr) (mk : Addr) (dm : Addr) (rw : Addr) (ls : Addr) (vs0 : List Value) (ns0 : List Int) (n1 : Nat) (n2 : Nat) (K : BKeys) (G : GKeys) (hm : Int) (km : Tok) (orw : Obj) (kp : List (Addr × Obj)) (nl : Nat) (i : Nat) (news : List (Addr × Obj)) (Q : Flow → Shared → Prop) (kx : Int) (tx : Tok) (vs : List Value) (ns : List Int) (nv : Nat) (gs : Int) (t3 : Tok) (ge : Int) (t4 : Tok) (pt : Int) (p1 : Tok) (zv : Int) (z1 : Tok) (ro : Bool) (t1 : Tok) (ck : Int) (c1 : Tok) (s1 : Tok) (cl' : Addr) (cvs : List Value) (nc : Nat) (o1 : Obj) (o2 : Obj) (o3 : Obj) (o4 : Obj) (ps : Array Value) (kc : List (Addr × Obj)) (tl : List (Addr × Obj)) (Ds : Addr) (el : Addr) (kD : Nat) (n0 : Nat) (l : List Ed) (prog : Program) (w : World) (p : Program) (loose : List Str) (mean : ExcName → Option Value) (mg : Str → Option Value) (mb : Str → Option Value) (A₀ : Around) (h₀ : Heap) (L : Addr) (m : Str → Option Value) (s : Shared) (E : Value → Shared → Prop) (tq : Int) (sk : Int) (ys : List Value) (zR : Prop) : Prop := ∀ (C : Cx w p loose mean mg mb A₀ h₀ [] h₀ L s.heap m (lawSc w.params)) (HC : CodeHd h₀ 656 654) (N : News h₀ L s.heap news) (P : Picks [(D, listOf #[.ref A, .int kx tx] n1), (A, listOf vs0.toArray n2), (b, instObj 622 db), (db, bufD K g mk ls pt p1 zv z1 true tq t1 ck c1 sk s1), (g, instObj 411 dg), (dg, gapD G c gs t3 ge t4), (c, listOf vs.toArray nv), (mk, instObj 481 dm), (dm, mkD hm km rw), (rw, orw), (ls, listOf #[] nl), (cl', listOf cvs.toArray nc), (L + 1, o1), (L + 1 + 1, o2), (L + 1 + 1 + 1, o3), (L + 1 + 1 + 1 + 1, o4), (654, tabObj ps)] news tl) (ap : Apart [db, b, dg, g, c, dm, mk, rw, ls]) (ap2 : Apart [654, L, D, db]) (ap3 : Low L D A) (hi0 : IntsAre vs0 ns0) (hlen0 : ns0.length ≤ 63) (hr : G.room = 8) (lo : (rw == sysModules) = false) (d1 : orw.IsDictOf (strKind prog w) []) (d2 : orw.IsDictOf (intKind prog w) []) (hi3 : i < 3) (hi : IntsAre vs ns) (h0 : 0 ≤ gs) (h1 : gs ≤ ge) (h2 : ge ≤ ns.length) (hz : zv = ns.length - ge + gs + 1) (hlen : ns.length ≤ 100 + 100 * i) (hci : IntsAre cvs (gtext ns gs ge)) (hcl : (gtext ns gs ge).length ≤ 10 + 40 * i) (hk0 : 0 ≤ kx) (hk9 : kx ≤ 10 + 20 * (i : Int) + 13) (e1 : ∃ v, o1.data = .cell v) (e2 : o2.data = .cell (some (.ref b))) (e3 : o3.data = .cell (some (.ref el))) (e4 : ∃ v, o4.data = .cell v) (hL : Lams ls lamQ kp ps kc) (hkc : ∀ q ∈ kc, q ∈ tl) (hlc : Clr L D db dg c cl') (u1 : ∀ q ∈ tl, q.1 ≠ D) (u2 : ∀ q ∈ tl, q.1 ≠ db) (u3 : ∀ q ∈ tl, q.1 ≠ dg) (u4 : ∀ q ∈ tl, q.1 ≠ c) (u5 : ∀ q ∈ tl, q.1 ≠ L + 1) (u6 : ∀ q ∈ tl, q.1 ≠ L + 1 + 1) (u7 : ∀ q ∈ tl, q.1 ≠ L + 1 + 1 + 1) (u8 : ∀ q ∈ tl, q.1 ≠ L + 1 + 1 + 1 + 1) (u9 : ∀ q ∈ tl, q.1 ≠ 654) (hDs : (Ds, listOf ys.toArray kD) ∈ tl) (hle : (el, listOf (edVals l).toArray n0) ∈ tl) (hsub : ∀ q ∈ edEnts l, q ∈ tl) (hel : @LT.lt Nat _ ls el) (hD : EdDesc ls ((gtext ns gs ge).length + 1) l) (hl4 : l.length ≤ 4) (hys : ys.isEmpty = true ↔ ∀ d ∈ l, d.busy = false) (hsk : sk = tq) (ms : m (Str.ofString "some") = some (.ref Ds)) (md : m (Str.ofString "deck") = some (.ref D)) (mc : m (Str.ofString "codes") = some (.ref cl')) (ret : ∀ h' tk' m' news', Fr h₀ L h' m' → News h₀ L h' news' → LapSt L D A b db g dg c mk dm rw ls vs0 n1 n2 K G hm km orw nl kp (i + 1) m' news' → Q .next { s with heap := h', toks := tk' }), zR
abbrev lap2_spec_P : Type := ((((((((Option (List Code)) × Addr) × Addr) × (Addr × Addr)) × (((Addr × Addr) × Addr) × (Addr × Addr))) × ((((Addr × Addr) × Addr) × ((List Value) × (List Int))) × ((Nat × Nat) × (BKeys × GKeys)))) × (((((Int × Tok) × Obj) × ((List (Addr × Obj)) × Nat)) × ((Nat × (List (Addr × Obj))) × ((Flow → Shared → Prop) × Int))) × ((((Tok × (List Value)) × (List Int)) × (Nat × Int)) × ((Tok × Int) × (Tok × Int))))) × ((((((Tok × Int) × Tok) × (Bool × Tok)) × ((Int × Tok) × (Tok × Addr))) × (((((List Value) × Nat) × Obj) × (Obj × Obj)) × ((Obj × (Array Value)) × ((List (Addr × Obj)) × (List (Addr × Obj)))))) × (((((Addr × Addr) × Nat) × (Nat × (List Ed))) × ((Program × World) × (Program × (List Str)))) × (((((ExcName → Option Value) × (Str → Option Value)) × (Str → Option Value)) × (Around × Heap)) × ((Addr × (Str → Option Value)) × (Shared × (Value → Shared → Prop)))))))
def lap2_spec_S (gd : Option (List Code)) (fa : Addr) (D : Addr) (A : Addr) (b : Addr) (db : Addr) (g : Addr) (dg : Addr) (c : Addr) (mk : Addr) (dm : Addr) (rw : Addr) (ls : Addr) (vs0 : List Value) (ns0 : List Int) (n1 : Nat) (n2 : Nat) (K : BKeys) (G : GKeys) (hm : Int) (km : Tok) (orw : Obj) (kp : List (Addr × Obj)) (nl : Nat) (i : Nat) (news : List (Addr × Obj)) (Q : Flow → Shared → Prop) (kx : Int) (tx : Tok) (vs : List Value) (ns : List Int) (nv : Nat) (gs : Int) (t3 : Tok) (ge : Int) (t4 : Tok) (pt : Int) (p1 : Tok) (zv : Int) (z1 : Tok) (ro : Bool) (t1 : Tok) (ck : Int) (c1 : Tok) (s1 : Tok) (cl' : Addr) (cvs : List Value) (nc : Nat) (o1 : Obj) (o2 : Obj) (o3 : Obj) (o4 : Obj) (ps : Array Value) (kc : List (Addr × Obj)) (tl : List (Addr × Obj)) (Ds : Addr) (el : Addr) (kD : Nat) (n0 : Nat) (l : List Ed) (prog : Program) (w : World) (p : Program) (loose : List Str) (mean : ExcName → Option Value) (mg : Str → Option Value) (mb : Str → Option Value) (A₀ : Around) (h₀ : Heap) (L : Addr) (m : Str → Option Value) (s : Shared) (E : Value → Shared → Prop) (tq : Int) (sk : Int) (ys : List Value) : Prop := lap2_spec_H gd fa D A b db g dg c mk dm rw ls vs0 ns0 n1 n2 K G hm km orw kp nl i news Q kx tx vs ns nv gs t3 ge t4 pt p1 zv z1 ro t1 ck c1 s1 cl' cvs nc o1 o2 o3 o4 ps kc tl Ds el kD n0 l prog w p loose mean mg mb A₀ h₀ L m s E tq sk ys (Stand (wpAny (model prog w) (ktrTop 400 400 gd (Str.ofString "law") (lawSc w.params) L fa (.ref 656) (cellsFrom (L + 1) (lawSc w.params).names []) []) (execs ((lapBody w.params).drop 5) (envX (Str.ofString "law") (lawSc w.params) L fa (.ref 656) (cellsFrom (L + 1) (lawSc w.params).names []))) Q E s))
abbrev lap2_spec_F (x : lap2_spec_P) : Prop := ∀ (tq : Int) (sk : Int) (ys : List Value), lap2_spec_S (x.1.1.1.1.1.1.1) (x.1.1.1.1.1.1.2) (x.1.1.1.1.1.2) (x.1.1.1.1.2.1) (x.1.1.1.1.2.2) (x.1.1.1.2.1.1.1) (x.1.1.1.2.1.1.2) (x.1.1.1.2.1.2) (x.1.1.1.2.2.1) (x.1.1.1.2.2.2) (x.1.1.2.1.1.1.1) (x.1.1.2.1.1.1.2) (x.1.1.2.1.1.2) (x.1.1.2.1.2.1) (x.1.1.2.1.2.2) (x.1.1.2.2.1.1) (x.1.1.2.2.1.2) (x.1.1.2.2.2.1) (x.1.1.2.2.2.2) (x.1.2.1.1.1.1.1) (x.1.2.1.1.1.1.2) (x.1.2.1.1.1.2) (x.1.2.1.1.2.1) (x.1.2.1.1.2.2) (x.1.2.1.2.1.1) (x.1.2.1.2.1.2) (x.1.2.1.2.2.1) (x.1.2.1.2.2.2) (x.1.2.2.1.1.1.1) (x.1.2.2.1.1.1.2) (x.1.2.2.1.1.2) (x.1.2.2.1.2.1) (x.1.2.2.1.2.2) (x.1.2.2.2.1.1) (x.1.2.2.2.1.2) (x.1.2.2.2.2.1) (x.1.2.2.2.2.2) (x.2.1.1.1.1.1.1) (x.2.1.1.1.1.1.2) (x.2.1.1.1.1.2) (x.2.1.1.1.2.1) (x.2.1.1.1.2.2) (x.2.1.1.2.1.1) (x.2.1.1.2.1.2) (x.2.1.1.2.2.1) (x.2.1.1.2.2.2) (x.2.1.2.1.1.1.1) (x.2.1.2.1.1.1.2) (x.2.1.2.1.1.2) (x.2.1.2.1.2.1) (x.2.1.2.1.2.2) (x.2.1.2.2.1.1) (x.2.1.2.2.1.2) (x.2.1.2.2.2.1) (x.2.1.2.2.2.2) (x.2.2.1.1.1.1.1) (x.2.2.1.1.1.1.2) (x.2.2.1.1.1.2) (x.2.2.1.1.2.1) (x.2.2.1.1.2.2) (x.2.2.1.2.1.1) (x.2.2.1.2.1.2) (x.2.2.1.2.2.1) (x.2.2.1.2.2.2) (x.2.2.2.1.1.1.1) (x.2.2.2.1.1.1.2) (x.2.2.2.1.1.2) (x.2.2.2.1.2.1) (x.2.2.2.1.2.2) (x.2.2.2.2.1.1) (x.2.2.2.2.1.2) (x.2.2.2.2.2.1) (x.2.2.2.2.2.2) tq sk ys
theorem lap2_spec_ex : ∃ x : lap2_spec_P, lap2_spec_F x → ∀ y : lap2_spec_P, lap2_spec_F y := drinker ⟨(((((((none, (0 : Nat)), (0 : Nat)), ((0 : Nat), (0 : Nat))), ((((0 : Nat), (0 : Nat)), (0 : Nat)), ((0 : Nat), (0 : Nat)))), (((((0 : Nat), (0 : Nat)), (0 : Nat)), ([], [])), ((0, 0), (bkeys0, gkeys0)))), (((((0, (0 : Nat)), default), ([], 0)), ((0, []), (fun _ _ => True, 0))), (((((0 : Nat), []), []), (0, 0)), (((0 : Nat), 0), ((0 : Nat), 0))))), (((((((0 : Nat), 0), (0 : Nat)), (false, (0 : Nat))), ((0, (0 : Nat)), ((0 : Nat), (0 : Nat)))), (((([], 0), default), (default, default)), ((default, #[]), ([], [])))), ((((((0 : Nat), (0 : Nat)), 0), (0, [])), ((default, world0), (default, []))), ((((fun _ => none, fun _ => none), fun _ => none), ({}, default)), (((0 : Nat), fun _ => none), ({}, fun _ _ => True))))))⟩
noncomputable def lap2_spec_x : lap2_spec_P := lap2_spec_ex.choose
namespace lap2_spec_n
noncomputable def gd : Option (List Code) := lap2_spec_x.1.1.1.1.1.1.1
noncomputable def fa : Addr := lap2_spec_x.1.1.1.1.1.1.2
noncomputable def D : Addr := lap2_spec_x.1.1.1.1.1.2
noncomputable def A : Addr := lap2_spec_x.1.1.1.1.2.1
noncomputable def b : Addr := lap2_spec_x.1.1.1.1.2.2
noncomputable def db : Addr := lap2_spec_x.1.1.1.2.1.1.1
noncomputable def g : Addr := lap2_spec_x.1.1.1.2.1.1.2
noncomputable def dg : Addr := lap2_spec_x.1.1.1.2.1.2
noncomputable def c : Addr := lap2_spec_x.1.1.1.2.2.1
noncomputable def mk : Addr := lap2_spec_x.1.1.1.2.2.2
noncomputable def dm : Addr := lap2_spec_x.1.1.2.1.1.1.1
noncomputable def rw : Addr := lap2_spec_x.1.1.2.1.1.1.2
noncomputable def ls : Addr := lap2_spec_x.1.1.2.1.1.2
noncomputable def vs0 : List Value := lap2_spec_x.1.1.2.1.2.1
noncomputable def ns0 : List Int := lap2_spec_x.1.1.2.1.2.2
noncomputable def n1 : Nat := lap2_spec_x.1.1.2.2.1.1
noncomputable def n2 : Nat := lap2_spec_x.1.1.2.2.1.2
noncomputable def K : BKeys := lap2_spec_x.1.1.2.2.2.1
noncomputable def G : GKeys := lap2_spec_x.1.1.2.2.2.2
noncomputable def hm : Int := lap2_spec_x.1.2.1.1.1.1.1
noncomputable def km : Tok := lap2_spec_x.1.2.1.1.1.1.2
noncomputable def orw : Obj := lap2_spec_x.1.2.1.1.1.2
noncomputable def kp : List (Addr × Obj) := lap2_spec_x.1.2.1.1.2.1
noncomputable def nl : Nat := lap2_spec_x.1.2.1.1.2.2
noncomputable def i : Nat := lap2_spec_x.1.2.1.2.1.1
noncomputable def news : List (Addr × Obj) := lap2_spec_x.1.2.1.2.1.2
noncomputable def Q : Flow → Shared → Prop := lap2_spec_x.1.2.1.2.2.1
noncomputable def kx : Int := lap2_spec_x.1.2.1.2.2.2
noncomputable def tx : Tok := lap2_spec_x.1.2.2.1.1.1.1
noncomputable def vs : List Value := lap2_spec_x.1.2.2.1.1.1.2
noncomputable def ns : List Int := lap2_spec_x.1.2.2.1.1.2
noncomputable def nv : Nat := lap2_spec_x.1.2.2.1.2.1
noncomputable def gs : Int := lap2_spec_x.1.2.2.1.2.2
noncomputable def t3 : Tok := lap2_spec_x.1.2.2.2.1.1
noncomputable def ge : Int := lap2_spec_x.1.2.2.2.1.2
noncomputable def t4 : Tok := lap2_spec_x.1.2.2.2.2.1
noncomputable def pt : Int := lap2_spec_x.1.2.2.2.2.2
noncomputable def p1 : Tok := lap2_spec_x.2.1.1.1.1.1.1
noncomputable def zv : Int := lap2_spec_x.2.1.1.1.1.1.2
noncomputable def z1 : Tok := lap2_spec_x.2.1.1.1.1.2
noncomputable def ro : Bool := lap2_spec_x.2.1.1.1.2.1
noncomputable def t1 : Tok := lap2_spec_x.2.1.1.1.2.2
noncomputable def ck : Int := lap2_spec_x.2.1.1.2.1.1
noncomputable def c1 : Tok := lap2_spec_x.2.1.1.2.1.2
noncomputable def s1 : Tok := lap2_spec_x.2.1.1.2.2.1
noncomputable def cl' : Addr := lap2_spec_x.2.1.1.2.2.2
noncomputable def cvs : List Value := lap2_spec_x.2.1.2.1.1.1.1
noncomputable def nc : Nat := lap2_spec_x.2.1.2.1.1.1.2
noncomputable def o1 : Obj := lap2_spec_x.2.1.2.1.1.2
noncomputable def o2 : Obj := lap2_spec_x.2.1.2.1.2.1
noncomputable def o3 : Obj := lap2_spec_x.2.1.2.1.2.2
noncomputable def o4 : Obj := lap2_spec_x.2.1.2.2.1.1
noncomputable def ps : Array Value := lap2_spec_x.2.1.2.2.1.2
noncomputable def kc : List (Addr × Obj) := lap2_spec_x.2.1.2.2.2.1
noncomputable def tl : List (Addr × Obj) := lap2_spec_x.2.1.2.2.2.2
noncomputable def Ds : Addr := lap2_spec_x.2.2.1.1.1.1.1
noncomputable def el : Addr := lap2_spec_x.2.2.1.1.1.1.2
noncomputable def kD : Nat := lap2_spec_x.2.2.1.1.1.2
noncomputable def n0 : Nat := lap2_spec_x.2.2.1.1.2.1
noncomputable def l : List Ed := lap2_spec_x.2.2.1.1.2.2
noncomputable def prog : Program := lap2_spec_x.2.2.1.2.1.1
noncomputable def w : World := lap2_spec_x.2.2.1.2.1.2
noncomputable def p : Program := lap2_spec_x.2.2.1.2.2.1
noncomputable def loose : List Str := lap2_spec_x.2.2.1.2.2.2
noncomputable def mean : ExcName → Option Value := lap2_spec_x.2.2.2.1.1.1.1
noncomputable def mg : Str → Option Value := lap2_spec_x.2.2.2.1.1.1.2
noncomputable def mb : Str → Option Value := lap2_spec_x.2.2.2.1.1.2
noncomputable def A₀ : Around := lap2_spec_x.2.2.2.1.2.1
noncomputable def h₀ : Heap := lap2_spec_x.2.2.2.1.2.2
noncomputable def L : Addr := lap2_spec_x.2.2.2.2.1.1
noncomputable def m : Str → Option Value := lap2_spec_x.2.2.2.2.1.2
noncomputable def s : Shared := lap2_spec_x.2.2.2.2.2.1
noncomputable def E : Value → Shared → Prop := lap2_spec_x.2.2.2.2.2.2
set_option maxRecDepth 100000 in
set_option maxHeartbeats 8000000 in
theorem main (tq : Int) (sk : Int) (ys : List Value) : lap2_spec_H gd fa D A b db g dg c mk dm rw ls vs0 ns0 n1 n2 K G hm km orw kp nl i news Q kx tx vs ns nv gs t3 ge t4 pt p1 zv z1 ro t1 ck c1 s1 cl' cvs nc o1 o2 o3 o4 ps kc tl Ds el kD n0 l prog w p loose mean mg mb A₀ h₀ L m s E tq sk ys (Stand (wpAny (model prog w) (ktrTop 400 400 gd (Str.ofString "law") (lawSc w.params) L fa (.ref 656) (cellsFrom (L + 1) (lawSc w.params).names []) []) (execs ((lapBody w.params).drop 5) (envX (Str.ofString "law") (lawSc w.params) L fa (.ref 656) (cellsFrom (L + 1) (lawSc w.params).names []))) Q E s)) := by
  intro C HC N P ap ap2 ap3 hi0 hlen0 hr lo d1 d2 hi3 hi h0 h1 h2 hz hlen hci hcl hk0 hk9 e1 e2 e3 e4 hL hkc hlc u1 u2 u3 u4 u5 u6 u7 u8 u9 hDs hle hsub hel hD hl4 hys hsk ms md mc ret
  refine ⟨?_⟩
  obtain ⟨B, F, X, T, hk⟩ := C
  have hlq := hlc
  unfold Clr at hlq
  obtain ⟨hq1, hq2, hq3, hq4, hq5, hq6, hq7, hq8, hq9⟩ := hlq
  have hgl := gtext_length h0 h1 h2
  have ap1 := ap
  have apc := low_chain ap ap2 ap3.1
  simp only [Apart, and_true] at ap1 ap2
  have ap4 := ap3
  unfold Low at ap4
  obtain ⟨hA0, hA1, hA2, hA3, hA4, hA5, hA6, hA7⟩ := ap4
  replace N := news_picks N P
  simp only [List.cons_append, List.nil_append] at N
  have hmf : m = (fun y => if y = Str.ofString "deck" then some (.ref D) else if y = Str.ofString "codes" then some (.ref cl') else if y = Str.ofString "some" then some (.ref Ds) else m y) := by
    funext y
    by_cases z0 : y = Str.ofString "deck"
    · rw [if_pos z0, z0]; exact md
    rw [if_neg z0]
    by_cases z1 : y = Str.ofString "codes"
    · rw [if_pos z1, z1]; exact mc
    rw [if_neg z1]
    by_cases z2 : y = Str.ofString "some"
    · rw [if_pos z2, z2]; exact ms
    rw [if_neg z2]
  rw [hmf] at F
  clear hmf
  with_unfolding_all change wpAny _ (ktrTop _ _ _ _ ⟨_, _, _, _, _⟩ _ _ _ [(_, _), (_, _), (_, _), (_, _)] _) (execs [_, _, _, _, _, _, _, _, _, _, _] (envX _ ⟨_, _, _, _, _⟩ _ _ _ [(_, _), (_, _), (_, _), (_, _)])) _ _ _
  have adb : @LT.lt Nat _ db b := by k_extra "ord"
  replace N := news_put N (x := (el, listOf (edVals l).toArray n0)) (by (iterate 17 apply List.mem_cons_of_mem) <;> assumption)
  have a1 : @LT.lt Nat _ D ls := by k_extra "ord"
  have a2 : @LT.lt Nat _ db ls := by k_extra "ord"
  have a3 : @LT.lt Nat _ dg ls := by k_extra "ord"
  have a4 : @LT.lt Nat _ c ls := by k_extra "ord"
  have a5 : @LT.lt Nat _ (L + 1) ls := by k_extra "ord"
  have a6 : @LT.lt Nat _ (L + 1 + 1) ls := by k_extra "ord"
  have a7 : @LT.lt Nat _ (L + 1 + 1 + 1) ls := by k_extra "ord"
  have a8 : @LT.lt Nat _ (L + 1 + 1 + 1 + 1) ls := by k_extra "ord"
  have a9 : @LT.lt Nat _ 654 ls := by k_extra "ord"
  have apx2 : Apart [654, L, D, db] := by simp only [Apart, and_true]; omega
  have h2800 : ns.length ≤ 2800 := by k_extra "ord"
  have h100 : (gtext ns gs ge).length ≤ 100 := by k_extra "ord"
  have hed : EdDesc ls zv l := by
    rw [show zv = ((gtext ns gs ge).length : Int) + 1 by k_extra "ord"]; exact hD
  k_steps
  change wpAny _ _ _ _ _ _
  refine around_le (sig_run (T := gtext ns gs ge) (nlen := ns.length) ⟨by k_asm, by k_asm, by k_asm, by k_asm, rfl⟩ (by k_asm) (.head _) (by ktr_rel) ?zcall ?zn) (Nat.le_of_ble_eq_true rfl) (Nat.le_of_ble_eq_true rfl)
  case zcall =>
    intro g1 L1 hp1 tkp1 A₁ Q₁ E₁ m₁ C1 N1 hlt1 hns1 hq1
    obtain ⟨B1, F1, X1, T1, hk1⟩ := C1
    k_steps
    change wpAny _ _ _ _ _ _
    refine around_le (applied_run (by ktr_unf) (by k_asm) (by ktr_rel) ap hel ?zr1 ?zr2 ?zr3 hi h2800 h0 h1 h2 hz hr lo d1 d2 hed ?zsub hl4 ?zret) (Nat.le_of_ble_eq_true rfl) (Nat.le_of_ble_eq_true rfl)
    case zr1 => k_all
    case zr2 => k_all
    case zr3 => k_all
    case zsub => (repeat (first | with_reducible assumption | refine' kc_lit ?_))
    case zret =>
      intro vs' ns' n2' gs' t3' ge' t4' pt' p1' zv' z1' tk1' t1' ck1' c1' h6 tk6 F6 N6 hI' hL' hG0 hG1 hG2 hZ' hT' hX'
      k_steps
      exact hq1 _ _ _ _ ⟨vs', ns', n2', gs', t3', ge', t4', pt', p1', zv', z1', tk1', t1', ck1', c1', rfl, hI', hL', hG0, hG1, hG2, hZ', hT', hX'⟩ (by k_asm) (by k_asm)
  case zn =>
    intro t5 h5 tk5 n5 hp F5 N5
    obtain ⟨vs', ns', n2', gs', t3', ge', t4', pt', p1', zv', z1', tk1', t1', ck1', c1', rfl, hI', hL', hG0, hG1, hG2, hZ', hT', hX'⟩ := hp
    (try dsimp only)
    simp only [List.cons_append, List.nil_append] at N5
    have hlen' : ns'.length ≤ 100 + 100 * (i + 1) := by k_extra "ord"
    have hcl' : (gtext ns' gs' ge').length ≤ 10 + 40 * (i + 1) := by
      rw [hX']
      have := foldl_len (T := gtext ns gs ge) hD
      omega
    k_steps
    change wpAny _ _ _ _ _ _
    refine around_le (put_spec (by ktr_unf) (by k_asm) (by ktr_rel) hci h100 hD hl4 ?zsub ?zret) (Nat.le_of_ble_eq_true rfl) (Nat.le_of_ble_eq_true rfl)
    case zsub => (repeat (first | with_reducible assumption | refine' kc_lit ?_))
    case zret =>
      intro D5 ws5 n6 h6 tk6 hI5 F6 N6 l6
      have hl6 : @LT.lt Nat _ ls D5 := l6 (ls, listOf #[] nl) (by k_mem)
      clear l6
      have hci5 : IntsAre ws5 (gtext ns' gs' ge') := by rw [hX']; exact hI5
      k_steps
      change wpAny _ _ _ _ _ _
      with_unfolding_all change wpAny _ (ktrTop 400 400 gd (Str.ofString "law") (lawSc w.params) L fa (.ref 656) (cellsFrom (L + 1) (lawSc w.params).names []) []) (execs ((lapBody w.params).drop 9) (envX (Str.ofString "law") (lawSc w.params) L fa (.ref 656) (cellsFrom (L + 1) (lawSc w.params).names []))) _ _ _
      rename News _ _ _ _ => N7
      rename Fr _ _ _ _ => F7
      rename Lams _ _ _ _ _ => L7
      have C9 : Cx w p loose mean mg mb A₀ h₀ [] h₀ L _ _ (lawSc w.params) := ⟨by k_asm, F7, by k_asm, by k_asm, rfl⟩
      have N9 := lap_news2 N7
      with_reducible refine Stand.out ?_
      exact lap3_spec (ro := false) (C := C9) HC N9 (by ktr_rel) ap apx2 ap3 hi0 hlen0 hr lo d1 d2 hi3 hI' hG0 hG1 hG2 hZ' hlen' hci5 hcl' hk0 hk9 e1 e2 ⟨_, e3⟩ e4 L7 (kc_more hkc) hl6 (off_cons (L7.far _ (List.Mem.head _)) a1 u1) (off_cons (L7.far _ (List.Mem.head _)) a2 u2) (off_cons (L7.far _ (List.Mem.head _)) a3 u3) (off_cons (L7.far _ (List.Mem.head _)) a4 u4) (off_cons (L7.far _ (List.Mem.head _)) a5 u5) (off_cons (L7.far _ (List.Mem.head _)) a6 u6) (off_cons (L7.far _ (List.Mem.head _)) a7 u7) (off_cons (L7.far _ (List.Mem.head _)) a8 u8) (off_cons (L7.far _ (List.Mem.head _)) a9 u9) (List.Mem.tail _ hDs) (busy_count hys hsk hT') rfl rfl rfl ret
end lap2_spec_n
theorem lap2_spec {prog : Program} {w : World} {p : Program} {loose : List Str} {mean : ExcName → Option Value} {mg : Str → Option Value} {mb : Str → Option Value} {A₀ : Around} {h₀ : Heap} {L : Addr} {m : Str → Option Value} {s : Shared} {E : Value → Shared → Prop} {gd : Option (List Code)} {fa : Addr} {D : Addr} {A : Addr} {b : Addr} {db : Addr} {g : Addr} {dg : Addr} {c : Addr} {mk : Addr} {dm : Addr} {rw : Addr} {ls : Addr} {vs0 : List Value} {ns0 : List Int} {n1 : Nat} {n2 : Nat} {K : BKeys} {G : GKeys} {hm : Int} {km : Tok} {orw : Obj} {kp : List (Addr × Obj)} {nl : Nat} {i : Nat} {news : List (Addr × Obj)} {Q : Flow → Shared → Prop} {kx : Int} {tx : Tok} {vs : List Value} {ns : List Int} {nv : Nat} {gs : Int} {t3 : Tok} {ge : Int} {t4 : Tok} {pt : Int} {p1 : Tok} {zv : Int} {z1 : Tok} {ro : Bool} {tq : Int} {t1 : Tok} {ck : Int} {c1 : Tok} {sk : Int} {s1 : Tok} {cl' : Addr} {cvs : List Value} {nc : Nat} {o1 : Obj} {o2 : Obj} {o3 : Obj} {o4 : Obj} {ps : Array Value} {kc : List (Addr × Obj)} {tl : List (Addr × Obj)} {ys : List Value} {Ds : Addr} {el : Addr} {kD : Nat} {n0 : Nat} {l : List Ed} : lap2_spec_H gd fa D A b db g dg c mk dm rw ls vs0 ns0 n1 n2 K G hm km orw kp nl i news Q kx tx vs ns nv gs t3 ge t4 pt p1 zv z1 ro t1 ck c1 s1 cl' cvs nc o1 o2 o3 o4 ps kc tl Ds el kD n0 l prog w p loose mean mg mb A₀ h₀ L m s E tq sk ys (Stand (wpAny (model prog w) (ktrTop 400 400 gd (Str.ofString "law") (lawSc w.params) L fa (.ref 656) (cellsFrom (L + 1) (lawSc w.params).names []) []) (execs ((lapBody w.params).drop 5) (envX (Str.ofString "law") (lawSc w.params) L fa (.ref 656) (cellsFrom (L + 1) (lawSc w.params).names []))) Q E s)) := lap2_spec_ex.choose_spec (fun tq sk ys => lap2_spec_n.main tq sk ys) (((((((gd, fa), D), (A, b)), (((db, g), dg), (c, mk))), ((((dm, rw), ls), (vs0, ns0)), ((n1, n2), (K, G)))), (((((hm, km), orw), (kp, nl)), ((i, news), (Q, kx))), ((((tx, vs), ns), (nv, gs)), ((t3, ge), (t4, pt))))), ((((((p1, zv), z1), (ro, t1)), ((ck, c1), (s1, cl'))), ((((cvs, nc), o1), (o2, o3)), ((o4, ps), (kc, tl)))), (((((Ds, el), kD), (n0, l)), ((prog, w), (p, loose))), ((((mean, mg), mb), (A₀, h₀)), ((L, m), (s, E)))))) tq sk ys
end
section
theorem lines_X23_1 : True := by
  k_with_none
  k_with "k_all" => with_reducible assumption
  k_with "ne_mem" => with_reducible first | exact List.mem_cons_self | (refine List.mem_cons_of_mem _ ?_; k_extra "ne_mem") | (refine List.mem_append_right _ ?_; k_extra "ne_mem")
  k_with "ne_bef" => with_reducible first | (refine Bef.head ?_; k_extra "ne_mem") | (refine Bef.tail ?_; k_extra "ne_bef")
  k_with "lt_ap" => (with_reducible rename Apart _ => kqA; first | (with_reducible exact Apart.bef kqA (by k_extra "ne_bef")) | (clear kqA; k_extra "lt_ap"))
  k_with "lt_go" => first | (with_reducible assumption) | (with_reducible exact AllLt.get (by assumption) (by k_extra "ne_mem")) | k_extra "lt_ap" | ((with_reducible refine Nat.lt_trans ?kq1 ?kq2); (case kq2 => with_reducible assumption); (case kq1 => k_extra "lt_go")) | ((with_reducible refine Nat.lt_trans ?kq1 ?kq2); (case kq1 => with_reducible assumption); (case kq2 => k_extra "lt_ap"))
  k_with "ne_lt" => with_reducible first | exact Nat.ne_of_lt (AllLt.get (by assumption) (by k_extra "ne_mem")) | exact Nat.ne_of_gt (AllLt.get (by assumption) (by k_extra "ne_mem"))
  k_with "ne_ap" => (with_reducible rename Apart _ => kqA; first | (with_reducible exact Nat.ne_of_lt (Apart.bef kqA (by k_extra "ne_bef"))) | (with_reducible exact Nat.ne_of_gt (Apart.bef kqA (by k_extra "ne_bef"))) | (clear kqA; k_extra "ne_ap"))
  k_with "ne_tr" => first | ((with_reducible refine Nat.ne_of_gt (Nat.lt_trans ?kq1 ?kq2)); (case kq2 => with_reducible assumption); (case kq1 => k_extra "lt_go")) | ((with_reducible refine Nat.ne_of_lt (Nat.lt_trans ?kq1 ?kq2)); (case kq2 => with_reducible assumption); (case kq1 => k_extra "lt_go"))
  k_with "k_ne" => (refine neN ?_; (try dsimp only); first | (with_reducible assumption) | (with_reducible exact Ne.symm (by assumption)) | (with_reducible exact Nat.ne_of_lt (by assumption)) | (with_reducible exact Nat.ne_of_gt (by assumption)) | k_extra "ne_lt" | k_extra "ne_ap" | k_extra "ne_tr" | omega | ((try simp only [AllLt] at *); omega))
  k_with "ne_all" => first | (with_reducible assumption) | (refine And.intro ?_ ?_ <;> k_extra "ne_all") | k_ne
  k_with "mem_hq" => first | exact hq | exact List.mem_append_left _ hq | (refine List.mem_cons_of_mem _ ?_; k_extra "mem_hq")
  k_with "perm" => first | (refine List.forall_mem_cons.mpr (And.intro ?kqa ?kqb); (case kqa => k_extra "ne_mem"); (case kqb => k_extra "perm")) | exact List.forall_mem_nil _ | (intro q hq; k_extra "mem_hq")
  k_with "ord" => first | (with_reducible assumption) | ((with_reducible show @LT.lt Nat _ _ _); k_extra "lt_go") | k_ne | omega | ((try simp only [AllLt] at *); omega)
  k_with "tb_start" => first | exact Pick.head | (apply Pick.tail; tb_start)
  k_with "tb_rel" => first | exact Suff.refl | (refine' Suff.tail ?_; tb_rel)
  k_with "ktr_rel" => first | exact Picks.nil | (refine' Picks.cons ?kqp ?kqq; (case kqp => tb_start); (case kqq => ktr_rel))
  k_with "ktr_unf" => exact ⟨by k_asm, by k_asm, by k_asm, by k_asm, by first | exact rfl | assumption⟩
  k_with "subscriptTail Attribute Name Slice" => (k_here; k_dflt (refine kba_turn (value' := PySem.Expr.Name (PySem.Str.ofString "_") ⟨0, 0, 0, 0⟩) (fun _ => rfl) ?_))
  k_with "subscriptTail Name Slice ref ref" => (k_here; (with_reducible show wpAny _ _ (subscriptTail _ (PySem.Expr.Slice (some _) (some _) none _) (Value.ref _) (Value.ref _)) _ _ _); k_dflt (refine' my_slice ?kqF ?kqN ?kql ?kqi ?kqx ?kqy ?kqz ?_ ?kqs ?kqt; (case kqF => k_asm); (case kqN => k_asm); (case kql => k_mem); (case kqi => k_asm); (case kqx => first | (with_reducible assumption) | omega | ((try simp only [AllLt] at *); omega)); (case kqy => first | (with_reducible assumption) | omega | ((try simp only [AllLt] at *); omega)); (case kqz => first | (with_reducible assumption) | omega | ((try simp only [AllLt] at *); omega)); (case kqs => with_unfolding_all rfl); (case kqt => kmk_pure); k_whole); intro D' ws' h' zs' F' N' l1 hI' hZ' hL'; (try (replace hL' := slice_len hL' (by first | (with_reducible assumption) | omega) (by first | (with_reducible assumption) | omega) (by first | (with_reducible assumption) | omega))); (try k_lt l1); (try k_sweep))
  k_with "setItem ref ref ref" => (k_here; k_dflt (refine' my_setslice ?kqF ?kqN ?kql ?kqU ?kqi ?kqw ?kqx ?kqy ?kqz ?kqzz ?_; (case kqF => k_asm); (case kqN => k_asm); (case kql => k_mem); (case kqU => k_updF); (case kqi => k_asm); (case kqw => k_asm); (case kqx => first | (with_reducible assumption) | omega | ((try simp only [AllLt] at *); omega)); (case kqy => first | (with_reducible assumption) | omega | ((try simp only [AllLt] at *); omega)); (case kqz => first | (with_reducible assumption) | omega | ((try simp only [AllLt] at *); omega)); (case kqzz => first | (with_reducible assumption) | omega | ((try simp only [AllLt] at *); omega)); k_whole); intro vs' n2' h' ns' F' N' hI' hZ' hL'; (try dsimp only at N'); (try k_sweep))
  k_with "call builtin:len" => (k_here; (with_reducible show wpAny _ _ (call (Value.builtin "len") [Value.ref _]) _ _ _); k_dflt (refine' my_len ?kqN ?kql ?kqi ?kqz ?_; (case kqN => k_asm); (case kql => k_mem); (case kqi => k_asm); (case kqz => first | (with_reducible assumption) | omega | ((try simp only [AllLt] at *); omega)); k_whole))
  k_with "pyIter ref" => (k_here; k_dflt (first | (refine' iter_empty ?kqh ?kqF ?kqN ?kqm ?_; (case kqh => exact rfl); (case kqF => k_asm); (case kqN => k_asm); (case kqm => k_mem)) | (refine' iter_empty2 ?kqh ?kqF ?kqN ?kqm ?kqi ?kqz ?_; (case kqh => exact rfl); (case kqF => k_asm); (case kqN => k_asm); (case kqm => k_mem); (case kqi => k_asm); (case kqz => k_asm))); intro h' tk' F' N'; (try dsimp only); (try k_sweep))
  k_with "call ref" => (k_here; (with_reducible show wpAny _ _ (call (Value.ref 631) _) _ _ _); k_dflt (refine' around_le (draw_spec ?kqC ?kqN ?kqP ?kqne ?kqr ?kqi ?kql ?kqh0 ?kqh1 ?kqh2 ?_) ?kqd ?kqu; (case kqC => ktr_unf); (case kqN => k_asm); (case kqP => ktr_rel); (case kqne => first | (with_reducible assumption) | omega | ((try simp only [AllLt] at *); omega)); (case kqr => k_all); (case kqi => k_asm); (case kql => first | (with_reducible assumption) | omega | ((try simp only [AllLt] at *); omega)); (case kqh0 => first | (with_reducible assumption) | omega | ((try simp only [AllLt] at *); omega)); (case kqh1 => first | (with_reducible assumption) | omega | ((try simp only [AllLt] at *); omega)); (case kqh2 => first | (with_reducible assumption) | omega | ((try simp only [AllLt] at *); omega));  (case kqd => exact Nat.le_of_ble_eq_true rfl); (case kqu => exact Nat.le_of_ble_eq_true rfl)); intro r' t' t2' h' tk' F' N' hr0' hr1'; (try dsimp only); (try k_sweep); (try k_fold))
  k_with "call ref" => (k_here; (with_reducible show wpAny _ _ (call (Value.ref 612) _) _ _ _); k_dflt (refine' around_le (setmod_spec ?kqC ?kqN ?kqP ?kqe1 ?kqr3 ?_) ?kqd ?kqu; (case kqC => ktr_unf); (case kqN => k_asm); (case kqP => ktr_rel); (case kqe1 => first | k_extra "ne_all" | omega); (case kqr3 => k_all);  (case kqd => exact Nat.le_of_ble_eq_true rfl); (case kqu => exact Nat.le_of_ble_eq_true rfl)); intro h' tk' F' N'; (try simp only [List.cons_append, List.nil_append] at N'); (try dsimp only); (try k_sweep); (try k_fold))
  k_with "call ref" => (k_here; (with_reducible show wpAny _ _ (call (Value.ref 638) _) _ _ _); k_dflt (refine' around_le (edits_spec ?kqC ?kqN ?kqP ?kqne ?kqr ?kqdl ?kqal ?kqi ?kql ?kqh0 ?kqh1 ?kqh2 ?kqh3 ?_) ?kqd ?kqu; (case kqC => ktr_unf); (case kqN => k_asm); (case kqP => ktr_rel); (case kqne => first | (with_reducible assumption) | omega | ((try simp only [AllLt] at *); omega)); (case kqr => k_all); (case kqdl => first | (with_reducible assumption) | omega | ((try simp only [AllLt] at *); omega)); (case kqal => first | (with_reducible assumption) | omega | ((try simp only [AllLt] at *); omega)); (case kqi => k_asm); (case kql => first | (with_reducible assumption) | omega | ((try simp only [AllLt] at *); omega)); (case kqh0 => first | (with_reducible assumption) | omega | ((try simp only [AllLt] at *); omega)); (case kqh1 => first | (with_reducible assumption) | omega | ((try simp only [AllLt] at *); omega)); (case kqh2 => first | (with_reducible assumption) | omega | ((try simp only [AllLt] at *); omega)); (case kqh3 => first | (with_reducible assumption) | omega | ((try simp only [AllLt] at *); omega));  (case kqd => exact Nat.le_of_ble_eq_true rfl); (case kqu => exact Nat.le_of_ble_eq_true rfl)); intro el' l' n0' k' t' h' tk' hD' hE' hk1' hk2' F' N' hel'; (try simp only [List.cons_append, List.nil_append, List.append_assoc] at N'); (try dsimp only); (try k_sweep); (try k_fold))
  k_with "call ref" => (k_here; (with_reducible show wpAny _ _ (call (Value.ref 584) _) _ _ _); k_dflt (refine' around_le (bcodes_spec ?kqC ?kqN ?kqP ?kqi ?kql ?kqh0 ?kqh1 ?kqh2 ?kqh3 ?kqh4 ?_) ?kqd ?kqu; (case kqC => ktr_unf); (case kqN => k_asm); (case kqP => ktr_rel); (case kqi => k_asm); (case kql => first | (with_reducible assumption) | omega | ((try simp only [AllLt] at *); omega)); (case kqh0 => first | (with_reducible assumption) | omega | ((try simp only [AllLt] at *); omega)); (case kqh1 => first | (with_reducible assumption) | omega | ((try simp only [AllLt] at *); omega)); (case kqh2 => first | (with_reducible assumption) | omega | ((try simp only [AllLt] at *); omega)); (case kqh3 => first | (with_reducible assumption) | omega | ((try simp only [AllLt] at *); omega)); (case kqh4 => first | (with_reducible assumption) | omega | ((try simp only [AllLt] at *); omega));  (case kqd => exact Nat.le_of_ble_eq_true rfl); (case kqu => exact Nat.le_of_ble_eq_true rfl)); intro D' ws' n' h' tk' hI' F' N' l1; (try k_lt l1); (try dsimp only); (try k_sweep); (try k_fold))
  k_with "call ref" => (k_here; (with_reducible show wpAny _ _ (call (Value.ref 570) _) _ _ _); k_dflt (refine' around_le (bsize_spec ?kqC ?kqN ?kqP ?kqi ?kql ?kqh0 ?kqh1 ?kqh2 ?_) ?kqd ?kqu; (case kqC => ktr_unf); (case kqN => k_asm); (case kqP => ktr_rel); (case kqi => k_asm); (case kql => first | (with_reducible assumption) | omega | ((try simp only [AllLt] at *); omega)); (case kqh0 => first | (with_reducible assumption) | omega | ((try simp only [AllLt] at *); omega)); (case kqh1 => first | (with_reducible assumption) | omega | ((try simp only [AllLt] at *); omega)); (case kqh2 => first | (with_reducible assumption) | omega | ((try simp only [AllLt] at *); omega));  (case kqd => exact Nat.le_of_ble_eq_true rfl); (case kqu => exact Nat.le_of_ble_eq_true rfl)); intro t' h' tk' F' N'; (try dsimp only); (try k_sweep); (try k_fold))
  k_with "call ref" => (k_here; (with_reducible show wpAny _ _ (call (Value.ref 605) _) _ _ _); k_dflt (refine' around_le (ismod_spec ?kqC ?kqN ?kqP ?_) ?kqd ?kqu; (case kqC => ktr_unf); (case kqN => k_asm); (case kqP => ktr_rel);  (case kqd => exact Nat.le_of_ble_eq_true rfl); (case kqu => exact Nat.le_of_ble_eq_true rfl)); intro h' tk' F' N'; (try dsimp only); (try k_sweep); (try k_fold))
  k_with "call ref" => (k_here; (with_reducible show wpAny _ _ (call (Value.ref 645) _) _ _ _); k_dflt (refine' around_le (put_spec ?kqC ?kqN ?kqP ?kqi ?kql ?kqed ?kql4 ?kqsub ?_) ?kqd ?kqu; (case kqC => ktr_unf); (case kqN => k_asm); (case kqP => ktr_rel); (case kqi => k_asm); (case kql => first | (with_reducible assumption) | omega | ((try simp only [AllLt] at *); omega)); (case kqed => k_asm); (case kql4 => first | (with_reducible assumption) | omega | ((try simp only [AllLt] at *); omega)); (case kqsub => k_asm);  (case kqd => exact Nat.le_of_ble_eq_true rfl); (case kqu => exact Nat.le_of_ble_eq_true rfl)); intro D' ws' n' h' tk' hI' F' N' l1; (try k_lt l1); (try dsimp only); (try k_sweep); (try k_fold))
  k_with "call ref" => (k_here; (with_reducible show wpAny _ _ (call (Value.ref 296) _) _ _ _); k_dflt (refine' halt ?_))
  k_with "call ref" => (k_here; (with_reducible show wpAny _ _ (call (Value.ref 638) _) _ _ _); k_dflt (refine' halt ?_))
  k_with "call ref" => (k_here; (with_reducible show wpAny _ _ (call (Value.ref 652) _) _ _ _); k_dflt (refine' halt ?_))
  k_with "exec Assign cons ListComp" => (k_here; k_dflt (refine' halt ?_))
  k_with "compareOp NotEq ref ref" => (k_here; (with_reducible show wpAny _ _ (compareOp CmpOp.NotEq (Value.ref _) (Value.ref _)) _ _ _); k_dflt (first | (refine' ne_ints2 ?kqyN ?kqya ?kqyb ?kqyi ?kqyj ?kqyu ?_; (case kqyN => k_asm); (case kqya => k_mem); (case kqyb => k_mem); (case kqyi => k_asm); (case kqyj => k_asm); (case kqyu => ke_room); k_whole) | (refine' ne_nil ?kqyN ?kqya ?kqyb ?kqyu ?_; (case kqyN => k_asm); (case kqya => k_mem); (case kqyb => k_mem); (case kqyu => ke_room); k_whole)))
  k_with "execs cons" => (k_here; (with_reducible show wpAny _ _ (execs (Stmt.If (PySem.Expr.BoolOp _ [PySem.Expr.Compare _ _ _ _, PySem.Expr.Call _ _ _ _] _) _ _ _ :: _) _) _ _ _); k_dflt (refine' halt ?_))
  k_with "compareOp NotEq ref ref" => (k_here; (with_reducible show wpAny _ _ (compareOp CmpOp.NotEq (Value.ref _) (Value.ref _)) _ _ _); k_dflt (first | (refine' ne_ints2 ?kqyN ?kqya ?kqyb ?kqyi ?kqyj ?kqyu ?_; (case kqyN => k_asm); (case kqya => k_mem); (case kqyb => k_mem); (case kqyi => k_asm); (case kqyj => k_asm); (case kqyu => ke_room); k_whole) | (refine' ne_nil ?kqyN ?kqya ?kqyb ?kqyu ?_; (case kqyN => k_asm); (case kqya => k_mem); (case kqyb => k_mem); (case kqyu => ke_room); k_whole)))
  k_with "eval Lambda" => (k_here; k_dflt (refine' kla_eval ?kqyd0 ?_; (case kqyd0 => exact rfl)); k_dflt (refine' lam_any2 ?kqyq ?kqyF ?kqyN ?kqyT ?kqyC ?kqycd ?kqyU ?kqym ?kqyg ?kqyL ?kqyk ?kqyl ?kqycl ?_; (case kqyq => exact rfl); (case kqyF => k_asm); (case kqyN => k_asm); (case kqyT => k_asm); (case kqycd => exact rfl); (case kqyC => kn_code); (case kqyU => k_updF); (case kqym => k_mem); (case kqyg => exact rfl); (case kqyL => k_asm); (case kqyk => (repeat (first | (refine' kc_cons ?kqyk1 ?kqyk2; (case kqyk1 => k_mem)) | with_reducible assumption | refine' kc_lit ?_))); (case kqyl => k_mem); (case kqycl => exact rfl); k_whole); intro f' c' oc' vs' t' ct' ps' h' tk' F' N' L' d1' d2' l1 l2 l3; (try dsimp only at N'))
  trivial
variable {prog : Program} {w : World} {p : Program} {loose : List Str} {mean : ExcName → Option Value} {mg mb : Str → Option Value} {cn : Str} {cs : Scope} {a : Addr} {ccd : Value} {cl : List (Str × Addr)} {outer : List Env} {A₀ : Around} {base h₀ : Heap} {L : Addr} {m : Str → Option Value} {s : Shared} {Q E : Value → Shared → Prop} in
theorem off_ne {x Ds : Addr} {o : Obj} {tl : List (Addr × Obj)} (h : x ≠ Ds) (hu : ∀ q ∈ tl, q.1 ≠ x) : ∀ q ∈ (Ds, o) :: tl, q.1 ≠ x := fun q hq => by
  rcases List.mem_cons.mp hq with rfl | hq
  · exact h.symm
  · exact hu q hq
variable {prog : Program} {w : World} {p : Program} {loose : List Str} {mean : ExcName → Option Value} {mg mb : Str → Option Value} {cn : Str} {cs : Scope} {a : Addr} {ccd : Value} {cl : List (Str × Addr)} {outer : List Env} {A₀ : Around} {base h₀ : Heap} {L : Addr} {m : Str → Option Value} {s : Shared} {Q E : Value → Shared → Prop} in
theorem lap_news1 {hh : Heap} {x1 x2 x3 x4 y1 y2 y3 y4 y5 y6 y7 y8 y9 z1 z2 z3 z4 z5 z6 z7 z8 z9 : Addr × Obj} {tl : List (Addr × Obj)}
 (N : News h₀ L hh (x1 :: x2 :: z9 :: x3 :: x4 :: y1 :: y2 :: z2 :: y3 :: y4 :: y5 :: y6 :: y7 :: y8 :: y9 :: z1 :: z3 :: z4 :: z5 :: z6 :: z7 :: z8 :: tl)) :
 News h₀ L hh (y1 :: y2 :: y3 :: y4 :: y5 :: y6 :: y7 :: y8 :: y9 :: z1 :: z2 :: z3 :: z4 :: z5 :: z6 :: z7 :: z8 :: z9 :: x4 :: x3 :: tl) := news_sel N 22 [5, 6, 8, 9, 10, 11, 12, 13, 14, 15, 7, 16, 17, 18, 19, 20, 21, 2, 4, 3]
variable {prog : Program} {w : World} {p : Program} {loose : List Str} {mean : ExcName → Option Value} {mg mb : Str → Option Value} {cn : Str} {cs : Scope} {a : Addr} {ccd : Value} {cl : List (Str × Addr)} {outer : List Env} {A₀ : Around} {base h₀ : Heap} {L : Addr} {m : Str → Option Value} {s : Shared} {Q E : Value → Shared → Prop} in
theorem off1_at {x : Addr} {o : Obj} {Ds : Addr} : ∀ {l : List (Addr × Obj)}, LCg.Off1 Ds l → (x, o) ∈ l → Ds ≠ x
  | [], _, h => nomatch h
  | _ :: _, f, h => by
    rcases List.mem_cons.mp h with rfl | h
    · exact f.1.symm
    · exact off1_at f.2 h
def lap_spec_H (gd : Option (List Code)) (fa : Addr) (D : Addr) (A : Addr) (b : Addr) (db : Addr) (g : Addr) (dg : Addr) (c : Addr) (mk : Addr) (dm : Addr) (rw : Addr) (ls : Addr) (vs0 : List Value) (ns0 : List Int) (n1 : Nat) (n2 : Nat) (K : BKeys) (G : GKeys) (hm : Int) (km : Tok) (orw : Obj) (kp : List (Addr × Obj)) (nl : Nat) (i : Nat) (Q : Flow → Shared → Prop) (prog : Program) (w : World) (p : Program) (loose : List Str) (mean : ExcName → Option Value) (mg : Str → Option Value) (mb : Str → Option Value) (A₀ : Around) (h₀ : Heap) (L : Addr) (m : Str → Option Value) (s : Shared) (E : Value → Shared → Prop) (news : List (Addr × Obj)) (zR : Prop) : Prop := ∀ (C : Cx w p loose mean mg mb A₀ h₀ [] h₀ L s.heap m (lawSc w.params)) (HC : CodeHd h₀ 656 654) (N : News h₀ L s.heap news) (ap : Apart [db, b, dg, g, c, dm, mk, rw, ls]) (ap2 : Apart [654, L, D, db]) (ap3 : Low L D A) (hi0 : IntsAre vs0 ns0) (hlen0 : ns0.length ≤ 63) (hr : G.room = 8) (lo : (rw == sysModules) = false) (d1 : orw.IsDictOf (strKind prog w) []) (d2 : orw.IsDictOf (intKind prog w) []) (hi3 : i < 3) (J : LapSt L D A b db g dg c mk dm rw ls vs0 n1 n2 K G hm km orw nl kp i m news) (ret : ∀ h' tk' m' news', Fr h₀ L h' m' → News h₀ L h' news' → LapSt L D A b db g dg c mk dm rw ls vs0 n1 n2 K G hm km orw nl kp (i + 1) m' news' → Q .next { s with heap := h', toks := tk' }), zR
abbrev lap_spec_P : Type := (((((((Option (List Code)) × Addr) × Addr) × (Addr × Addr)) × (((Addr × Addr) × Addr) × (Addr × Addr))) × ((((Addr × Addr) × Addr) × ((List Value) × (List Int))) × (((Nat × Nat) × BKeys) × (GKeys × Int)))) × (((((Tok × Obj) × (List (Addr × Obj))) × (Nat × Nat)) × ((((Flow → Shared → Prop) × Program) × World) × (Program × (List Str)))) × (((((ExcName → Option Value) × (Str → Option Value)) × (Str → Option Value)) × (Around × Heap)) × ((Addr × (Str → Option Value)) × (Shared × (Value → Shared → Prop))))))
def lap_spec_S (gd : Option (List Code)) (fa : Addr) (D : Addr) (A : Addr) (b : Addr) (db : Addr) (g : Addr) (dg : Addr) (c : Addr) (mk : Addr) (dm : Addr) (rw : Addr) (ls : Addr) (vs0 : List Value) (ns0 : List Int) (n1 : Nat) (n2 : Nat) (K : BKeys) (G : GKeys) (hm : Int) (km : Tok) (orw : Obj) (kp : List (Addr × Obj)) (nl : Nat) (i : Nat) (Q : Flow → Shared → Prop) (prog : Program) (w : World) (p : Program) (loose : List Str) (mean : ExcName → Option Value) (mg : Str → Option Value) (mb : Str → Option Value) (A₀ : Around) (h₀ : Heap) (L : Addr) (m : Str → Option Value) (s : Shared) (E : Value → Shared → Prop) (news : List (Addr × Obj)) : Prop := lap_spec_H gd fa D A b db g dg c mk dm rw ls vs0 ns0 n1 n2 K G hm km orw kp nl i Q prog w p loose mean mg mb A₀ h₀ L m s E news (Stand (wpAny (model prog w) (ktrTop 400 400 gd (Str.ofString "law") (lawSc w.params) L fa (.ref 656) (cellsFrom (L + 1) (lawSc w.params).names []) []) (execs (lapBody w.params) (envX (Str.ofString "law") (lawSc w.params) L fa (.ref 656) (cellsFrom (L + 1) (lawSc w.params).names []))) Q E s))
abbrev lap_spec_F (x : lap_spec_P) : Prop := ∀ (news : List (Addr × Obj)), lap_spec_S (x.1.1.1.1.1.1) (x.1.1.1.1.1.2) (x.1.1.1.1.2) (x.1.1.1.2.1) (x.1.1.1.2.2) (x.1.1.2.1.1.1) (x.1.1.2.1.1.2) (x.1.1.2.1.2) (x.1.1.2.2.1) (x.1.1.2.2.2) (x.1.2.1.1.1.1) (x.1.2.1.1.1.2) (x.1.2.1.1.2) (x.1.2.1.2.1) (x.1.2.1.2.2) (x.1.2.2.1.1.1) (x.1.2.2.1.1.2) (x.1.2.2.1.2) (x.1.2.2.2.1) (x.1.2.2.2.2) (x.2.1.1.1.1.1) (x.2.1.1.1.1.2) (x.2.1.1.1.2) (x.2.1.1.2.1) (x.2.1.1.2.2) (x.2.1.2.1.1.1) (x.2.1.2.1.1.2) (x.2.1.2.1.2) (x.2.1.2.2.1) (x.2.1.2.2.2) (x.2.2.1.1.1.1) (x.2.2.1.1.1.2) (x.2.2.1.1.2) (x.2.2.1.2.1) (x.2.2.1.2.2) (x.2.2.2.1.1) (x.2.2.2.1.2) (x.2.2.2.2.1) (x.2.2.2.2.2) news
theorem lap_spec_ex : ∃ x : lap_spec_P, lap_spec_F x → ∀ y : lap_spec_P, lap_spec_F y := drinker ⟨((((((none, (0 : Nat)), (0 : Nat)), ((0 : Nat), (0 : Nat))), ((((0 : Nat), (0 : Nat)), (0 : Nat)), ((0 : Nat), (0 : Nat)))), (((((0 : Nat), (0 : Nat)), (0 : Nat)), ([], [])), (((0, 0), bkeys0), (gkeys0, 0)))), ((((((0 : Nat), default), []), (0, 0)), (((fun _ _ => True, default), world0), (default, []))), ((((fun _ => none, fun _ => none), fun _ => none), ({}, default)), (((0 : Nat), fun _ => none), ({}, fun _ _ => True)))))⟩
noncomputable def lap_spec_x : lap_spec_P := lap_spec_ex.choose
namespace lap_spec_n
noncomputable def gd : Option (List Code) := lap_spec_x.1.1.1.1.1.1
noncomputable def fa : Addr := lap_spec_x.1.1.1.1.1.2
noncomputable def D : Addr := lap_spec_x.1.1.1.1.2
noncomputable def A : Addr := lap_spec_x.1.1.1.2.1
noncomputable def b : Addr := lap_spec_x.1.1.1.2.2
noncomputable def db : Addr := lap_spec_x.1.1.2.1.1.1
noncomputable def g : Addr := lap_spec_x.1.1.2.1.1.2
noncomputable def dg : Addr := lap_spec_x.1.1.2.1.2
noncomputable def c : Addr := lap_spec_x.1.1.2.2.1
noncomputable def mk : Addr := lap_spec_x.1.1.2.2.2
noncomputable def dm : Addr := lap_spec_x.1.2.1.1.1.1
noncomputable def rw : Addr := lap_spec_x.1.2.1.1.1.2
noncomputable def ls : Addr := lap_spec_x.1.2.1.1.2
noncomputable def vs0 : List Value := lap_spec_x.1.2.1.2.1
noncomputable def ns0 : List Int := lap_spec_x.1.2.1.2.2
noncomputable def n1 : Nat := lap_spec_x.1.2.2.1.1.1
noncomputable def n2 : Nat := lap_spec_x.1.2.2.1.1.2
noncomputable def K : BKeys := lap_spec_x.1.2.2.1.2
noncomputable def G : GKeys := lap_spec_x.1.2.2.2.1
noncomputable def hm : Int := lap_spec_x.1.2.2.2.2
noncomputable def km : Tok := lap_spec_x.2.1.1.1.1.1
noncomputable def orw : Obj := lap_spec_x.2.1.1.1.1.2
noncomputable def kp : List (Addr × Obj) := lap_spec_x.2.1.1.1.2
noncomputable def nl : Nat := lap_spec_x.2.1.1.2.1
noncomputable def i : Nat := lap_spec_x.2.1.1.2.2
noncomputable def Q : Flow → Shared → Prop := lap_spec_x.2.1.2.1.1.1
noncomputable def prog : Program := lap_spec_x.2.1.2.1.1.2
noncomputable def w : World := lap_spec_x.2.1.2.1.2
noncomputable def p : Program := lap_spec_x.2.1.2.2.1
noncomputable def loose : List Str := lap_spec_x.2.1.2.2.2
noncomputable def mean : ExcName → Option Value := lap_spec_x.2.2.1.1.1.1
noncomputable def mg : Str → Option Value := lap_spec_x.2.2.1.1.1.2
noncomputable def mb : Str → Option Value := lap_spec_x.2.2.1.1.2
noncomputable def A₀ : Around := lap_spec_x.2.2.1.2.1
noncomputable def h₀ : Heap := lap_spec_x.2.2.1.2.2
noncomputable def L : Addr := lap_spec_x.2.2.2.1.1
noncomputable def m : Str → Option Value := lap_spec_x.2.2.2.1.2
noncomputable def s : Shared := lap_spec_x.2.2.2.2.1
noncomputable def E : Value → Shared → Prop := lap_spec_x.2.2.2.2.2
set_option maxRecDepth 100000 in
set_option maxHeartbeats 8000000 in
theorem main (news : List (Addr × Obj)) : lap_spec_H gd fa D A b db g dg c mk dm rw ls vs0 ns0 n1 n2 K G hm km orw kp nl i Q prog w p loose mean mg mb A₀ h₀ L m s E news (Stand (wpAny (model prog w) (ktrTop 400 400 gd (Str.ofString "law") (lawSc w.params) L fa (.ref 656) (cellsFrom (L + 1) (lawSc w.params).names []) []) (execs (lapBody w.params) (envX (Str.ofString "law") (lawSc w.params) L fa (.ref 656) (cellsFrom (L + 1) (lawSc w.params).names []))) Q E s)) := by
  intro C HC N ap ap2 ap3 hi0 hlen0 hr lo d1 d2 hi3 J ret
  refine ⟨?_⟩
  obtain ⟨B, F, X, T, hk⟩ := C
  obtain ⟨kx, tx, vs, ns, nv, gs, t3, ge, t4, pt, p1, zv, z1, ro, tq, t1, ck, c1, sk, s1, cl', cvs, nc, o1, o2, o3, o4, ps, kc, tl, rfl, ⟨md, mc⟩, ⟨hi, hlen, h0, h1, h2, hz, hci, hcl, hk0, hk9⟩, ⟨⟨v1, e1⟩, e2, ⟨v3, e3⟩, ⟨v4, e4⟩⟩, ⟨hL, hkc, hlc⟩, ⟨u1, u2, u3, u4, u5, u6, u7, u8, u9⟩⟩ := J
  have apx2 := ap2
  have hlq := hlc
  unfold Clr at hlq
  obtain ⟨hq1, hq2, hq3, hq4, hq5, hq6, hq7, hq8, hq9⟩ := hlq
  have hgl := gtext_length h0 h1 h2
  have ap1 := ap
  have apc := low_chain ap ap2 ap3.1
  simp only [Apart, and_true] at ap1 ap2
  have ap4 := ap3
  unfold Low at ap4
  obtain ⟨hA0, hA1, hA2, hA3, hA4, hA5, hA6, hA7⟩ := ap4
  have hmf : m = fun y => if y = Str.ofString "deck" then some (.ref D) else if y = Str.ofString "codes" then some (.ref cl') else m y := by
    funext y
    split
    · simp_all
    · split <;> simp_all
  rw [hmf] at F
  clear hmf
  with_unfolding_all change wpAny _ (ktrTop _ _ _ _ ⟨_, _, _, _, _⟩ _ _ _ [(_, _), (_, _), (_, _), (_, _)] _) (execs [_, _, _, _, _, _, _, _, _, _, _, _, _, _, _, _] (envX _ ⟨_, _, _, _, _⟩ _ _ _ [(_, _), (_, _), (_, _), (_, _)])) _ _ _
  k_steps
  change wpAny _ _ _ _ _ _
  k_dflt (refine' around_le (edits_spec2 (ls := ls) (nl := nl) ?zC ?zN ?zP ?zne ?zr ?zdl ?zal ?zi ?zl ?zh0 ?zh1 ?zh2 ?zh3 ?_) ?zd ?zu; (case zC => ktr_unf); (case zN => k_asm); (case zP => ktr_rel); (case zne => omega); (case zr => k_all); (case zdl => omega); (case zal => omega); (case zi => k_asm); (case zl => omega); (case zh0 => omega); (case zh1 => omega); (case zh2 => omega); (case zh3 => omega); (case zd => exact Nat.le_of_ble_eq_true rfl); (case zu => exact Nat.le_of_ble_eq_true rfl))
  intro el l n0 k2 t2 h' tk' hD hE hk1 hk2 F2 N2 hel
  (try dsimp only)
  simp only [List.cons_append, List.nil_append, List.append_assoc] at N2
  have w1 := off_app u1 (ed_off (x := D) hD (by k_extra "ord"))
  have w2 := off_app u2 (ed_off (x := db) hD (by k_extra "ord"))
  have w3 := off_app u3 (ed_off (x := dg) hD (by k_extra "ord"))
  have w4 := off_app u4 (ed_off (x := c) hD (by k_extra "ord"))
  have w5 := off_app u5 (ed_off (x := L + 1) hD (by k_extra "ord"))
  have w6 := off_app u6 (ed_off (x := L + 1 + 1) hD (by k_extra "ord"))
  have w7 := off_app u7 (ed_off (x := L + 1 + 1 + 1) hD (by k_extra "ord"))
  have w8 := off_app u8 (ed_off (x := L + 1 + 1 + 1 + 1) hD (by k_extra "ord"))
  have w9 := off_app u9 (ed_off (x := 654) hD (by k_extra "ord"))
  have hkc2 : ∀ q ∈ kc, q ∈ tl ++ edEnts l := fun q hq => List.mem_append_left _ (hkc q hq)
  have hsub : ∀ q ∈ edEnts l, q ∈ tl ++ edEnts l := fun q hq => List.mem_append_right _ hq
  generalize tl ++ edEnts l = tl2 at N2 w1 w2 w3 w4 w5 w6 w7 w8 w9 hkc2 hsub
  clear u1 u2 u3 u4 u5 u6 u7 u8 u9 hkc
  k_steps
  change wpAny _ _ _ _ _ _
  k_dflt (refine LCt.Assign_ListComp_T (F₀ := by k_asm) (by rfl) (by with_unfolding_all rfl) (by rfl) (by decide) (by rfl) (by decide) (by rfl) (by rfl) (by rfl) ?_)
  k_steps
  refine LCt.CompSrcT.ledger (by rfl) (by k_asm) (by k_asm) (by k_mem) (ed_size (by k_extra "ord")) ?_
  intro g'
  refine comp_some ?zt ?zf
  case zt =>
    intro i' d ys I oI C oC D' m₂ h'' tk'' E' Rest hd hC hx F3 N3 off ne hb1 hb2
    have hdm : d ∈ l := List.mem_of_getElem? hd
    obtain ⟨hdi, _, _, hse, _, _, _, _⟩ := hD.at hd
    have hve := ints_empty hdi
    have N4 := news_ins N3 (x := (d.t, d.tup)) (y := (d.c, listOf d.vs.toArray d.nc)) (by have hq := hsub _ (edEnts_t hdm); k_extra "mem_hq") (by have hq := hsub _ (edEnts_c hdm); k_extra "mem_hq")
    k_steps
    · exact comp_end (by k_asm) N4 (by k_extra "perm") off (Or.inr ⟨_, by k_mem, rfl, _, rfl⟩) (hb1 (by simp only [Ed.busy]; simp [*]))
    · rename_i hc
      rename News _ _ _ _ => N5
      refine comp_end (by k_asm) N5 (by k_extra "perm") off (Or.inr ⟨_, by k_mem, rfl, _, rfl⟩) (hb2 ?_)
      simp [hve] at hc
      simp only [Ed.busy, Bool.or_eq_false_iff, decide_eq_false_iff_not]
      first | (simp [hc]; omega) | omega
    · rename_i hc
      rename News _ _ _ _ => N5
      refine comp_end (by k_asm) N5 (by k_extra "perm") off (Or.inr ⟨_, by k_mem, rfl, _, rfl⟩) (hb1 ?_)
      simp [hve] at hc
      simp only [Ed.busy, Bool.or_eq_true, decide_eq_true_eq]
      first | omega | (right; exact List.length_pos_iff.mpr hc)
  case zf =>
    intro ys hys
    unfold LCg.FinA
    intro Ds h5 tk5 F5 N5 o5
    have a1 : @LT.lt Nat _ D ls := by k_extra "ord"
    have a2 : @LT.lt Nat _ db ls := by k_extra "ord"
    have a3 : @LT.lt Nat _ dg ls := by k_extra "ord"
    have a4 : @LT.lt Nat _ c ls := by k_extra "ord"
    have a5 : @LT.lt Nat _ (L + 1) ls := by k_extra "ord"
    have a6 : @LT.lt Nat _ (L + 1 + 1) ls := by k_extra "ord"
    have a7 : @LT.lt Nat _ (L + 1 + 1 + 1) ls := by k_extra "ord"
    have a8 : @LT.lt Nat _ (L + 1 + 1 + 1 + 1) ls := by k_extra "ord"
    have a9 : @LT.lt Nat _ 654 ls := by k_extra "ord"
    have k0 : 0 ≤ k2 := by k_extra "ord"
    have k9 : k2 ≤ 10 + 20 * (i : Int) + 13 := by k_extra "ord"
    have g2 : el ≠ db := Nat.ne_of_gt (Nat.lt_trans a2 hel)
    obtain ⟨f0, f1, _, _, _, f2, _, f3, f4, _, _, _, _, f5, f6, f7, f8, f9, _⟩ := o5
    have f2' := f2.symm
    (try dsimp only at F5)
    (try dsimp only)
    k_steps
    change wpAny _ _ _ _ _ _
    refine around_le (sig_same (sy := Str.ofString "buffer-read-only") (P1 := ∀ d ∈ l, d.busy = false) (P2 := ∃ d ∈ l, d.busy = true) ⟨by k_asm, by k_asm, by k_asm, by k_asm, rfl⟩ (by k_asm) (.head _) ?zcall ?zn ?ze) (Nat.le_of_ble_eq_true rfl) (Nat.le_of_ble_eq_true rfl)
    case zcall =>
      intro g1 L1 hp1 tkp1 A₁ Q₁ E₁ m₁ C1 N1 hlt1 hns1 hq1 he1
      obtain ⟨B1, F1, X1, T1, hk1⟩ := C1
      k_steps
      change wpAny _ _ _ _ _ _
      refine around_le (applied_ro (by ktr_unf) (by k_asm) (nss_up (by assumption) hns1) (by ktr_rel) hD ?zsub ?zretN ?zretE) (Nat.le_of_ble_eq_true rfl) (Nat.le_of_ble_eq_true rfl)
      case zsub => (repeat (first | with_reducible assumption | refine' kc_lit ?_))
      case zretN =>
        intro hbz h6 tk6 F6 N6
        (try dsimp only)
        k_steps
        exact hq1 _ _ _ hbz (by k_asm) (by k_asm)
      case zretE =>
        intro hbz e6 h6 tk6 x6
        (try dsimp only)
        k_steps
        exact fly_on (by k_asm) (by k_asm) fun h' x => he1 _ _ _ hbz x.tail
    case zn =>
      intro t7 h7 tk7 hz1 F7 N7
      have hy0 := List.isEmpty_iff.mp (hys.mpr hz1)
      (try dsimp only)
      subst hy0
      k_steps
      change wpAny _ _ _ _ _ _
      with_unfolding_all change wpAny _ (ktrTop 400 400 gd (Str.ofString "law") (lawSc w.params) L fa (.ref 656) (cellsFrom (L + 1) (lawSc w.params).names []) []) (execs ((lapBody w.params).drop 5) (envX (Str.ofString "law") (lawSc w.params) L fa (.ref 656) (cellsFrom (L + 1) (lawSc w.params).names []))) _ _ _
      rename News _ _ _ _ => N8
      rename Fr _ _ _ _ => F8
      rename Lams _ _ _ _ _ => L8
      rename Obj.data _ = Data.cell (some (Value.ref el)) => e3n
      with_reducible refine Stand.out ?_
      exact lap2_spec (ro := false) (ys := []) (C := ⟨by k_asm, F8, by k_asm, by k_asm, rfl⟩) HC (lap_news1 N8) (by ktr_rel) ap apx2 ap3 hi0 hlen0 hr lo d1 d2 hi3 hi h0 h1 h2 hz hlen hci hcl k0 k9 ⟨_, e1⟩ e2 e3n ⟨_, e4⟩ L8 (kc_more (kc_lit (kc_lit hkc2))) hlc (off_cons (L8.far _ (List.Mem.head _)) a1 (off_cons hel a1 (off_ne f1 w1))) (off_cons (L8.far _ (List.Mem.head _)) a2 (off_cons hel a2 (off_ne f2 w2))) (off_cons (L8.far _ (List.Mem.head _)) a3 (off_cons hel a3 (off_ne f3 w3))) (off_cons (L8.far _ (List.Mem.head _)) a4 (off_cons hel a4 (off_ne f4 w4))) (off_cons (L8.far _ (List.Mem.head _)) a5 (off_cons hel a5 (off_ne f5 w5))) (off_cons (L8.far _ (List.Mem.head _)) a6 (off_cons hel a6 (off_ne f6 w6))) (off_cons (L8.far _ (List.Mem.head _)) a7 (off_cons hel a7 (off_ne f7 w7))) (off_cons (L8.far _ (List.Mem.head _)) a8 (off_cons hel a8 (off_ne f8 w8))) (off_cons (L8.far _ (List.Mem.head _)) a9 (off_cons hel a9 (off_ne f9 w9))) (List.Mem.tail _ (List.Mem.tail _ (List.Mem.head _))) (List.Mem.tail _ (List.Mem.head _)) (kc_lit (kc_lit (kc_lit hsub))) hel hD hE hys rfl rfl rfl rfl ret
    case ze =>
      intro t7 h7 tk7 hz2 F7 N7
      have hy0 : ys.isEmpty = false := by
        cases hy : ys.isEmpty with
        | false => rfl
        | true =>
          obtain ⟨d, hd, hb⟩ := hz2
          rw [hys.mp hy d hd] at hb; cases hb
      rcases ys with _ | ⟨y, r⟩
      · cases hy0
      (try dsimp only)
      k_steps
      change wpAny _ _ _ _ _ _
      with_unfolding_all change wpAny _ (ktrTop 400 400 gd (Str.ofString "law") (lawSc w.params) L fa (.ref 656) (cellsFrom (L + 1) (lawSc w.params).names []) []) (execs ((lapBody w.params).drop 5) (envX (Str.ofString "law") (lawSc w.params) L fa (.ref 656) (cellsFrom (L + 1) (lawSc w.params).names []))) _ _ _
      rename News _ _ _ _ => N8
      rename Fr _ _ _ _ => F8
      rename Lams _ _ _ _ _ => L8
      rename Obj.data _ = Data.cell (some (Value.ref el)) => e3n
      with_reducible refine Stand.out ?_
      exact lap2_spec (ro := false) (ys := y :: r) (C := ⟨by k_asm, F8, by k_asm, by k_asm, rfl⟩) HC (lap_news1 N8) (by ktr_rel) ap apx2 ap3 hi0 hlen0 hr lo d1 d2 hi3 hi h0 h1 h2 hz hlen hci hcl k0 k9 ⟨_, e1⟩ e2 e3n ⟨_, e4⟩ L8 (kc_more (kc_lit (kc_lit hkc2))) hlc (off_cons (L8.far _ (List.Mem.head _)) a1 (off_cons hel a1 (off_ne f1 w1))) (off_cons (L8.far _ (List.Mem.head _)) a2 (off_cons hel a2 (off_ne f2 w2))) (off_cons (L8.far _ (List.Mem.head _)) a3 (off_cons hel a3 (off_ne f3 w3))) (off_cons (L8.far _ (List.Mem.head _)) a4 (off_cons hel a4 (off_ne f4 w4))) (off_cons (L8.far _ (List.Mem.head _)) a5 (off_cons hel a5 (off_ne f5 w5))) (off_cons (L8.far _ (List.Mem.head _)) a6 (off_cons hel a6 (off_ne f6 w6))) (off_cons (L8.far _ (List.Mem.head _)) a7 (off_cons hel a7 (off_ne f7 w7))) (off_cons (L8.far _ (List.Mem.head _)) a8 (off_cons hel a8 (off_ne f8 w8))) (off_cons (L8.far _ (List.Mem.head _)) a9 (off_cons hel a9 (off_ne f9 w9))) (List.Mem.tail _ (List.Mem.tail _ (List.Mem.head _))) (List.Mem.tail _ (List.Mem.head _)) (kc_lit (kc_lit (kc_lit hsub))) hel hD hE hys rfl rfl rfl rfl ret
end lap_spec_n
theorem lap_spec {prog : Program} {w : World} {p : Program} {loose : List Str} {mean : ExcName → Option Value} {mg : Str → Option Value} {mb : Str → Option Value} {A₀ : Around} {h₀ : Heap} {L : Addr} {m : Str → Option Value} {s : Shared} {E : Value → Shared → Prop} {gd : Option (List Code)} {fa : Addr} {D : Addr} {A : Addr} {b : Addr} {db : Addr} {g : Addr} {dg : Addr} {c : Addr} {mk : Addr} {dm : Addr} {rw : Addr} {ls : Addr} {vs0 : List Value} {ns0 : List Int} {n1 : Nat} {n2 : Nat} {K : BKeys} {G : GKeys} {hm : Int} {km : Tok} {orw : Obj} {kp : List (Addr × Obj)} {nl : Nat} {i : Nat} {news : List (Addr × Obj)} {Q : Flow → Shared → Prop} : lap_spec_H gd fa D A b db g dg c mk dm rw ls vs0 ns0 n1 n2 K G hm km orw kp nl i Q prog w p loose mean mg mb A₀ h₀ L m s E news (Stand (wpAny (model prog w) (ktrTop 400 400 gd (Str.ofString "law") (lawSc w.params) L fa (.ref 656) (cellsFrom (L + 1) (lawSc w.params).names []) []) (execs (lapBody w.params) (envX (Str.ofString "law") (lawSc w.params) L fa (.ref 656) (cellsFrom (L + 1) (lawSc w.params).names []))) Q E s)) := lap_spec_ex.choose_spec (fun news => lap_spec_n.main news) ((((((gd, fa), D), (A, b)), (((db, g), dg), (c, mk))), ((((dm, rw), ls), (vs0, ns0)), (((n1, n2), K), (G, hm)))), (((((km, orw), kp), (nl, i)), (((Q, prog), w), (p, loose))), ((((mean, mg), mb), (A₀, h₀)), ((L, m), (s, E))))) news
end
section
theorem lines_X24_1 : True := by
  k_with_none
  k_with "k_all" => with_reducible assumption
  k_with "ne_mem" => with_reducible first | exact List.mem_cons_self | (refine List.mem_cons_of_mem _ ?_; k_extra "ne_mem") | (refine List.mem_append_right _ ?_; k_extra "ne_mem")
  k_with "ne_bef" => with_reducible first | (refine Bef.head ?_; k_extra "ne_mem") | (refine Bef.tail ?_; k_extra "ne_bef")
  k_with "lt_ap" => (with_reducible rename Apart _ => kqA; first | (with_reducible exact Apart.bef kqA (by k_extra "ne_bef")) | (clear kqA; k_extra "lt_ap"))
  k_with "lt_go" => first | (with_reducible assumption) | (with_reducible exact AllLt.get (by assumption) (by k_extra "ne_mem")) | k_extra "lt_ap" | ((with_reducible refine Nat.lt_trans ?kq1 ?kq2); (case kq2 => with_reducible assumption); (case kq1 => k_extra "lt_go")) | ((with_reducible refine Nat.lt_trans ?kq1 ?kq2); (case kq1 => with_reducible assumption); (case kq2 => k_extra "lt_ap"))
  k_with "ne_lt" => with_reducible first | exact Nat.ne_of_lt (AllLt.get (by assumption) (by k_extra "ne_mem")) | exact Nat.ne_of_gt (AllLt.get (by assumption) (by k_extra "ne_mem"))
  k_with "ne_ap" => (with_reducible rename Apart _ => kqA; first | (with_reducible exact Nat.ne_of_lt (Apart.bef kqA (by k_extra "ne_bef"))) | (with_reducible exact Nat.ne_of_gt (Apart.bef kqA (by k_extra "ne_bef"))) | (clear kqA; k_extra "ne_ap"))
  k_with "ne_tr" => first | ((with_reducible refine Nat.ne_of_gt (Nat.lt_trans ?kq1 ?kq2)); (case kq2 => with_reducible assumption); (case kq1 => k_extra "lt_go")) | ((with_reducible refine Nat.ne_of_lt (Nat.lt_trans ?kq1 ?kq2)); (case kq2 => with_reducible assumption); (case kq1 => k_extra "lt_go"))
  k_with "k_ne" => (refine neN ?_; (try dsimp only); first | (with_reducible assumption) | (with_reducible exact Ne.symm (by assumption)) | (with_reducible exact Nat.ne_of_lt (by assumption)) | (with_reducible exact Nat.ne_of_gt (by assumption)) | k_extra "ne_lt" | k_extra "ne_ap" | k_extra "ne_tr" | omega | ((try simp only [AllLt] at *); omega))
  k_with "ne_all" => first | (with_reducible assumption) | (refine And.intro ?_ ?_ <;> k_extra "ne_all") | k_ne
  k_with "mem_hq" => first | exact hq | exact List.mem_append_left _ hq | (refine List.mem_cons_of_mem _ ?_; k_extra "mem_hq")
  k_with "perm" => first | (refine List.forall_mem_cons.mpr (And.intro ?kqa ?kqb); (case kqa => k_extra "ne_mem"); (case kqb => k_extra "perm")) | exact List.forall_mem_nil _ | (intro q hq; k_extra "mem_hq")
  k_with "ord" => first | (with_reducible assumption) | ((with_reducible show @LT.lt Nat _ _ _); k_extra "lt_go") | k_ne | omega | ((try simp only [AllLt] at *); omega)
  k_with "tb_start" => first | exact Pick.head | (apply Pick.tail; tb_start)
  k_with "tb_rel" => first | exact Suff.refl | (refine' Suff.tail ?_; tb_rel)
  k_with "ktr_rel" => first | exact Picks.nil | (refine' Picks.cons ?kqp ?kqq; (case kqp => tb_start); (case kqq => ktr_rel))
  k_with "ktr_unf" => exact ⟨by k_asm, by k_asm, by k_asm, by k_asm, by first | exact rfl | assumption⟩
  k_with "subscriptTail Attribute Name Slice" => (k_here; k_dflt (refine kba_turn (value' := PySem.Expr.Name (PySem.Str.ofString "_") ⟨0, 0, 0, 0⟩) (fun _ => rfl) ?_))
  k_with "subscriptTail Name Slice ref ref" => (k_here; (with_reducible show wpAny _ _ (subscriptTail _ (PySem.Expr.Slice (some _) (some _) none _) (Value.ref _) (Value.ref _)) _ _ _); k_dflt (refine' my_slice ?kqF ?kqN ?kql ?kqi ?kqx ?kqy ?kqz ?_ ?kqs ?kqt; (case kqF => k_asm); (case kqN => k_asm); (case kql => k_mem); (case kqi => k_asm); (case kqx => first | (with_reducible assumption) | omega | ((try simp only [AllLt] at *); omega)); (case kqy => first | (with_reducible assumption) | omega | ((try simp only [AllLt] at *); omega)); (case kqz => first | (with_reducible assumption) | omega | ((try simp only [AllLt] at *); omega)); (case kqs => with_unfolding_all rfl); (case kqt => kmk_pure); k_whole); intro D' ws' h' zs' F' N' l1 hI' hZ' hL'; (try (replace hL' := slice_len hL' (by first | (with_reducible assumption) | omega) (by first | (with_reducible assumption) | omega) (by first | (with_reducible assumption) | omega))); (try k_lt l1); (try k_sweep))
  k_with "setItem ref ref ref" => (k_here; k_dflt (refine' my_setslice ?kqF ?kqN ?kql ?kqU ?kqi ?kqw ?kqx ?kqy ?kqz ?kqzz ?_; (case kqF => k_asm); (case kqN => k_asm); (case kql => k_mem); (case kqU => k_updF); (case kqi => k_asm); (case kqw => k_asm); (case kqx => first | (with_reducible assumption) | omega | ((try simp only [AllLt] at *); omega)); (case kqy => first | (with_reducible assumption) | omega | ((try simp only [AllLt] at *); omega)); (case kqz => first | (with_reducible assumption) | omega | ((try simp only [AllLt] at *); omega)); (case kqzz => first | (with_reducible assumption) | omega | ((try simp only [AllLt] at *); omega)); k_whole); intro vs' n2' h' ns' F' N' hI' hZ' hL'; (try dsimp only at N'); (try k_sweep))
  k_with "call builtin:len" => (k_here; (with_reducible show wpAny _ _ (call (Value.builtin "len") [Value.ref _]) _ _ _); k_dflt (refine' my_len ?kqN ?kql ?kqi ?kqz ?_; (case kqN => k_asm); (case kql => k_mem); (case kqi => k_asm); (case kqz => first | (with_reducible assumption) | omega | ((try simp only [AllLt] at *); omega)); k_whole))
  k_with "pyIter ref" => (k_here; k_dflt (first | (refine' iter_empty ?kqh ?kqF ?kqN ?kqm ?_; (case kqh => exact rfl); (case kqF => k_asm); (case kqN => k_asm); (case kqm => k_mem)) | (refine' iter_empty2 ?kqh ?kqF ?kqN ?kqm ?kqi ?kqz ?_; (case kqh => exact rfl); (case kqF => k_asm); (case kqN => k_asm); (case kqm => k_mem); (case kqi => k_asm); (case kqz => k_asm))); intro h' tk' F' N'; (try dsimp only); (try k_sweep))
  trivial
variable {h₀ h : Heap} {L : Addr} in
theorem lst_of {ys : List Value} : LCg.lst ys = listOf ys.toArray ys.length := by with_unfolding_all rfl
variable {h₀ h : Heap} {L : Addr} in
theorem law_start {Dd Aa : Addr} {o : Obj} {ys : List Value} {r : List (Addr × Obj)} (N : News h₀ L h ((Dd, o) :: (Aa, LCg.lst ys) :: r)) : News h₀ L h ((Dd, o) :: (Aa, listOf ys.toArray ys.length) :: r) := by rw [lst_of] at N; exact N
variable {h₀ h : Heap} {L : Addr} in
theorem len63 {vs : List Value} {f : Int → Int} {w : List Int} (h : IntsAre vs (List.map f (List.take 63 w))) : ∃ ns, IntsAre vs ns ∧ ns.length ≤ 63 := ⟨_, h, by rw [List.length_map, List.length_take]; omega⟩
variable {h₀ h : Heap} {L : Addr} in
theorem eight {vs : List Value} (h : IntsAre vs [0, 0, 0, 0, 0, 0, 0, 0]) : ∃ ns, IntsAre vs ns ∧ ns.length = 8 ∧ gtext ns 0 8 = [] := ⟨_, h, rfl, rfl⟩
theorem lines_X24_2 : True := by
  k_with "call ref" => (k_here; (with_reducible show wpAny _ _ (call (Value.ref 622) _) _ _ _); k_dflt (refine' halt ?_))
  k_with "call ref" => (k_here; (with_reducible show wpAny _ _ (call (Value.ref 120) _) _ _ _); k_dflt (refine' halt ?_))
  k_with "exec For Name Call cons nil" => (k_here; k_dflt (refine' wpAny_For ?_ ?kqhs; (case kqhs => exact fun _ => rfl); k_whole))
  k_with "call type:range" => (k_here; k_dflt (refine' range1_rows ?kqF ?kqN ?_; (case kqF => k_asm); (case kqN => k_asm); k_whole); intro h' tk' t1' u1' v1' hIs' F' N' hkp'; (try k_sweep))
  trivial
theorem codes_len {ys : List Value} {z : Int} (h : IntsAre ys (List.map (fun k' => 97 + k') (rangeKs 0 (z - 0).toNat))) (h1 : z < 10) : ∃ zs, IntsAre ys zs ∧ zs.length ≤ 10 := ⟨_, h, by rw [List.length_map, rangeKs_length]; omega⟩
theorem lines_X24_3 : True := by
  k_with "assign Tuple" => ((rename (Ne _ _) ∧ _ => ho'); (obtain ⟨f0', f1', f2', f3', f4', f5', f6', f7', f8', f9', f10', f11', f12', f13', f14', f15'⟩ := ho'); (rename IntsAre _ (List.map _ _) => hI9'); (obtain ⟨zs', hzs', hzl'⟩ := codes_len hI9' (by assumption)); (clear hI9'); (rename News _ _ _ _ => N1'); (rw [lst_of] at N1'); walk_at "assign Tuple")
  trivial
def law_rest_H (gd : Option (List Code)) (fa : Addr) (D : Addr) (A : Addr) (vs0 : List Value) (ns0 : List Int) (n1 : Nat) (n2 : Nat) (k : Int) (z : Int) (t : Tok) (tz : Tok) (o1 : Obj) (o2 : Obj) (o3 : Obj) (o4 : Obj) (Q : Flow → Shared → Prop) (prog : Program) (w : World) (p : Program) (loose : List Str) (mean : ExcName → Option Value) (mg : Str → Option Value) (mb : Str → Option Value) (A₀ : Around) (h₀ : Heap) (L : Addr) (m : Str → Option Value) (s : Shared) (E : Value → Shared → Prop) (news : List (Addr × Obj)) (zR : Prop) : Prop := ∀ (C : Cx w p loose mean mg mb A₀ h₀ [] h₀ L s.heap m (lawSc w.params)) (HC : CodeHd h₀ 656 654) (N : News h₀ L s.heap news) (hn : news = (D, listOf #[.ref A, .int k t] n1) :: (A, listOf vs0.toArray n2) :: (L + 1, o1) :: (L + 1 + 1, o2) :: (L + 1 + 1 + 1, o3) :: (L + 1 + 1 + 1 + 1, o4) :: [(654, tabObj #[])]) (hb : @LT.lt Nat _ 654 L) (ap3 : Low L D A) (hi0 : IntsAre vs0 ns0) (hlen0 : ns0.length ≤ 63) (hk0 : 0 ≤ k) (hk1 : k ≤ 10) (hz0 : 0 ≤ z) (hz1 : z < 10) (e1 : ∃ v, o1.data = .cell v) (e2 : ∃ v, o2.data = .cell v) (e3 : ∃ v, o3.data = .cell v) (e4 : ∃ v, o4.data = .cell v) (md : m (Str.ofString "deck") = some (.ref D)) (ms : m (Str.ofString "size") = some (.int z tz)) (hE : PassesOwn (model prog w) (ktrTop 400 400 gd (Str.ofString "law") (lawSc w.params) L fa (.ref 656) (cellsFrom (L + 1) (lawSc w.params).names []) []) (envX (Str.ofString "law") (lawSc w.params) L fa (.ref 656) (cellsFrom (L + 1) (lawSc w.params).names [])) E) (ret : ∀ h' tk' m' ps tl, Fr h₀ L h' m' → News h₀ L h' ((654, tabObj ps) :: tl) → Q (.ret (.bool true)) { s with heap := h', toks := tk' }), zR
abbrev law_rest_P : Type := ((((((Option (List Code)) × Addr) × (Addr × Addr)) × (((List Value) × (List Int)) × (Nat × Nat))) × (((Int × Int) × (Tok × Tok)) × ((Obj × Obj) × Obj))) × ((((Obj × (Flow → Shared → Prop)) × (Program × World)) × ((Program × (List Str)) × ((ExcName → Option Value) × (Str → Option Value)))) × ((((Str → Option Value) × Around) × (Heap × Addr)) × (((Str → Option Value) × Shared) × (Value → Shared → Prop)))))
def law_rest_S (gd : Option (List Code)) (fa : Addr) (D : Addr) (A : Addr) (vs0 : List Value) (ns0 : List Int) (n1 : Nat) (n2 : Nat) (k : Int) (z : Int) (t : Tok) (tz : Tok) (o1 : Obj) (o2 : Obj) (o3 : Obj) (o4 : Obj) (Q : Flow → Shared → Prop) (prog : Program) (w : World) (p : Program) (loose : List Str) (mean : ExcName → Option Value) (mg : Str → Option Value) (mb : Str → Option Value) (A₀ : Around) (h₀ : Heap) (L : Addr) (m : Str → Option Value) (s : Shared) (E : Value → Shared → Prop) (news : List (Addr × Obj)) : Prop := law_rest_H gd fa D A vs0 ns0 n1 n2 k z t tz o1 o2 o3 o4 Q prog w p loose mean mg mb A₀ h₀ L m s E news (Stand (wpAny (model prog w) (ktrTop 400 400 gd (Str.ofString "law") (lawSc w.params) L fa (.ref 656) (cellsFrom (L + 1) (lawSc w.params).names []) []) (execs ((lawStmts w.params).drop 2) (envX (Str.ofString "law") (lawSc w.params) L fa (.ref 656) (cellsFrom (L + 1) (lawSc w.params).names []))) Q E s))
abbrev law_rest_F (x : law_rest_P) : Prop := ∀ (news : List (Addr × Obj)), law_rest_S (x.1.1.1.1.1) (x.1.1.1.1.2) (x.1.1.1.2.1) (x.1.1.1.2.2) (x.1.1.2.1.1) (x.1.1.2.1.2) (x.1.1.2.2.1) (x.1.1.2.2.2) (x.1.2.1.1.1) (x.1.2.1.1.2) (x.1.2.1.2.1) (x.1.2.1.2.2) (x.1.2.2.1.1) (x.1.2.2.1.2) (x.1.2.2.2) (x.2.1.1.1.1) (x.2.1.1.1.2) (x.2.1.1.2.1) (x.2.1.1.2.2) (x.2.1.2.1.1) (x.2.1.2.1.2) (x.2.1.2.2.1) (x.2.1.2.2.2) (x.2.2.1.1.1) (x.2.2.1.1.2) (x.2.2.1.2.1) (x.2.2.1.2.2) (x.2.2.2.1.1) (x.2.2.2.1.2) (x.2.2.2.2) news
theorem law_rest_ex : ∃ x : law_rest_P, law_rest_F x → ∀ y : law_rest_P, law_rest_F y := drinker ⟨(((((none, (0 : Nat)), ((0 : Nat), (0 : Nat))), (([], []), (0, 0))), (((0, 0), ((0 : Nat), (0 : Nat))), ((default, default), default))), ((((default, fun _ _ => True), (default, world0)), ((default, []), (fun _ => none, fun _ => none))), (((fun _ => none, {}), (default, (0 : Nat))), ((fun _ => none, {}), fun _ _ => True))))⟩
noncomputable def law_rest_x : law_rest_P := law_rest_ex.choose
namespace law_rest_n
noncomputable def gd : Option (List Code) := law_rest_x.1.1.1.1.1
noncomputable def fa : Addr := law_rest_x.1.1.1.1.2
noncomputable def D : Addr := law_rest_x.1.1.1.2.1
noncomputable def A : Addr := law_rest_x.1.1.1.2.2
noncomputable def vs0 : List Value := law_rest_x.1.1.2.1.1
noncomputable def ns0 : List Int := law_rest_x.1.1.2.1.2
noncomputable def n1 : Nat := law_rest_x.1.1.2.2.1
noncomputable def n2 : Nat := law_rest_x.1.1.2.2.2
noncomputable def k : Int := law_rest_x.1.2.1.1.1
noncomputable def z : Int := law_rest_x.1.2.1.1.2
noncomputable def t : Tok := law_rest_x.1.2.1.2.1
noncomputable def tz : Tok := law_rest_x.1.2.1.2.2
noncomputable def o1 : Obj := law_rest_x.1.2.2.1.1
noncomputable def o2 : Obj := law_rest_x.1.2.2.1.2
noncomputable def o3 : Obj := law_rest_x.1.2.2.2
noncomputable def o4 : Obj := law_rest_x.2.1.1.1.1
noncomputable def Q : Flow → Shared → Prop := law_rest_x.2.1.1.1.2
noncomputable def prog : Program := law_rest_x.2.1.1.2.1
noncomputable def w : World := law_rest_x.2.1.1.2.2
noncomputable def p : Program := law_rest_x.2.1.2.1.1
noncomputable def loose : List Str := law_rest_x.2.1.2.1.2
noncomputable def mean : ExcName → Option Value := law_rest_x.2.1.2.2.1
noncomputable def mg : Str → Option Value := law_rest_x.2.1.2.2.2
noncomputable def mb : Str → Option Value := law_rest_x.2.2.1.1.1
noncomputable def A₀ : Around := law_rest_x.2.2.1.1.2
noncomputable def h₀ : Heap := law_rest_x.2.2.1.2.1
noncomputable def L : Addr := law_rest_x.2.2.1.2.2
noncomputable def m : Str → Option Value := law_rest_x.2.2.2.1.1
noncomputable def s : Shared := law_rest_x.2.2.2.1.2
noncomputable def E : Value → Shared → Prop := law_rest_x.2.2.2.2
set_option maxRecDepth 100000 in
set_option maxHeartbeats 8000000 in
theorem main (news : List (Addr × Obj)) : law_rest_H gd fa D A vs0 ns0 n1 n2 k z t tz o1 o2 o3 o4 Q prog w p loose mean mg mb A₀ h₀ L m s E news (Stand (wpAny (model prog w) (ktrTop 400 400 gd (Str.ofString "law") (lawSc w.params) L fa (.ref 656) (cellsFrom (L + 1) (lawSc w.params).names []) []) (execs ((lawStmts w.params).drop 2) (envX (Str.ofString "law") (lawSc w.params) L fa (.ref 656) (cellsFrom (L + 1) (lawSc w.params).names []))) Q E s)) := by
  intro C HC N hn hb ap3 hi0 hlen0 hk0 hk1 hz0 hz1 e1 e2 e3 e4 md ms hE ret
  refine ⟨?_⟩
  obtain ⟨B, F, X, T, hk⟩ := C
  subst hn
  obtain ⟨v1, e1⟩ := e1
  obtain ⟨v2, e2⟩ := e2
  obtain ⟨v3, e3⟩ := e3
  obtain ⟨v4, e4⟩ := e4
  have ap4 := ap3
  unfold Low at ap4
  obtain ⟨hA0, hA1, hA2, hA3, hA4, hA5, hA6, hA7⟩ := ap4
  have hmf : m = fun y => if y = Str.ofString "deck" then some (.ref D) else if y = Str.ofString "size" then some (.int z tz) else m y := by
    funext y
    split
    · simp_all
    · split <;> simp_all
  rw [hmf] at F
  clear hmf
  with_unfolding_all change wpAny _ (ktrTop _ _ _ _ ⟨_, _, _, _, _⟩ _ _ _ [(_, _), (_, _), (_, _), (_, _)] _) (execs [_, _, _, _] (envX _ ⟨_, _, _, _, _⟩ _ _ _ [(_, _), (_, _), (_, _), (_, _)])) _ _ _
  k_steps
  change wpAny _ _ _ _ _ _
  k_dflt (refine' around_le (buf_spec ?yC ?yN ?_) ?yd ?yu; (case yC => ktr_unf); (case yN => k_asm); (case yd => exact Nat.le_of_ble_eq_true rfl); (case yu => exact Nat.le_of_ble_eq_true rfl))
  intro b db g dg c mk dm rw ls vs5 n5 K G hm km orw nl p1 z1 tq1 c1 s1 t3 t4 h5 tk5 ap hr lo d1 d2 hI5 F5 N5 hlt5
  obtain ⟨ns5, hI6, hl6, hg6⟩ := eight hI5
  clear hI5
  have ap1 := ap
  simp only [Apart, and_true] at ap1
  simp only [List.cons_append, List.nil_append] at N5
  have hDb : @LT.lt Nat _ D db := hlt5 _ (.head _)
  have apc := low_chain ap (show Apart [654, L, D, db] from ⟨by k_extra "ord", by k_extra "ord", hDb, trivial⟩) ap3.1
  k_lt hlt5
  clear hlt5
  (try dsimp only)
  (try k_sweep)
  (try k_fold)
  k_steps
  change wpAny _ _ _ _ _ _
  rename IntsAre ys _ => hzs
  rename List.length _ ≤ 10 => hzl
  k_dflt (refine' around_le (insert_spec ?zC ?zN ?zP ?zap ?ze4 ?zr1 ?zr2 ?zr3 ?zi ?zl ?zh0 ?zh1 ?zh2 ?zhz ?zhr ?zlo ?zd1 ?zd2 ?zw ?zh3 ?zh4 ?zh5 ?_) ?zd ?zu; (case zC => ktr_unf); (case zN => k_asm); (case zP => ktr_rel); (case zap => assumption); (case ze4 => exact ⟨Ne.symm (by assumption), Ne.symm (by assumption), Ne.symm (by assumption)⟩); (case zr1 => (intro q hq; simp only [List.mem_cons, List.not_mem_nil, or_false] at hq; rcases hq with h | h | h | h | h | h | h | h <;> (subst h; refine (?_ : @Ne Nat _ _); dsimp only; omega))); (case zr2 => (intro q hq; simp only [List.mem_cons, List.not_mem_nil, or_false] at hq; rcases hq with h | h | h | h | h | h | h | h <;> (subst h; refine (?_ : @Ne Nat _ _); dsimp only; omega))); (case zr3 => (intro q hq; simp only [List.mem_cons, List.not_mem_nil, or_false] at hq; rcases hq with h | h | h | h | h | h | h | h <;> (subst h; refine (?_ : @Ne Nat _ _); dsimp only; omega))); (case zi => exact hI6); (case zl => omega); (case zh0 => omega); (case zh1 => omega); (case zh2 => omega); (case zhz => omega); (case zhr => k_asm); (case zlo => k_asm); (case zd1 => k_asm); (case zd2 => k_asm); (case zw => exact hzs); (case zh3 => omega); (case zh4 => omega); (case zh5 => omega); (case zd => exact Nat.le_of_ble_eq_true rfl); (case zu => exact Nat.le_of_ble_eq_true rfl))
  intro vs8 ns8 n8 gs8 t38 ge8 t48 pt8 p18 zv8 z18 tq8 t18 ck8 c18 h8 tk8 F8 N8 hI8n hL8n hG0 hG1 hG2 hz8 hzz8 hk8 hT8
  simp only [List.cons_append, List.nil_append] at N8
  (try dsimp only)
  rw [hg6] at hT8
  have hT9 : gtext ns8 gs8 ge8 = _ := hT8.trans (by rw [List.take_nil, List.drop_nil, List.nil_append, List.append_nil])
  have hlen8 : ns8.length ≤ 100 := by k_extra "ord"
  have hzs0 := hzs
  rw [← hT9] at hzs hzl
  have hcl : Clr L D db dg c _ := ⟨Ne.symm ‹D ≠ _›, Ne.symm ‹db ≠ _›, Ne.symm ‹dg ≠ _›, Ne.symm ‹c ≠ _›, Ne.symm ‹L + 1 ≠ _›, Ne.symm ‹L + 1 + 1 ≠ _›, Ne.symm ‹L + 1 + 1 + 1 ≠ _›, Ne.symm ‹L + 1 + 1 + 1 + 1 ≠ _›, Ne.symm ‹654 ≠ _›⟩
  k_steps
  rename IsRange _ _ _ _ _ _ _ _ => hIs
  rename Fr _ _ _ _ => F9
  rename News _ _ _ _ => N9
  have a1 : @LT.lt Nat _ D ls := by k_extra "ord"
  have a2 : @LT.lt Nat _ db ls := by k_extra "ord"
  have a3 : @LT.lt Nat _ dg ls := by k_extra "ord"
  have a4 : @LT.lt Nat _ c ls := by k_extra "ord"
  have a5 : @LT.lt Nat _ (L + 1) ls := by k_extra "ord"
  have a6 : @LT.lt Nat _ (L + 1 + 1) ls := by k_extra "ord"
  have a7 : @LT.lt Nat _ (L + 1 + 1 + 1) ls := by k_extra "ord"
  have a8 : @LT.lt Nat _ (L + 1 + 1 + 1 + 1) ls := by k_extra "ord"
  have a9 : @LT.lt Nat _ 654 ls := by k_extra "ord"
  obtain ⟨cl', o22, e22, hcl', F10, N10⟩ : ∃ (x : Addr) (o22 : Obj), o22.data = .cell (some (.ref b)) ∧ Clr L D db dg c x ∧ Fr h₀ L _ (fun y => if y = Str.ofString "codes" then some (.ref x) else if y = Str.ofString "deck" then some (.ref D) else if y = Str.ofString "size" then some (.int z tz) else m y) ∧ News h₀ L _ ((D, listOf #[.ref A, .int k t] n1) :: (A, listOf vs0.toArray n2) :: (b, instObj 622 db) :: (db, bufD K g mk ls pt8 p18 zv8 z18 false tq8 t18 ck8 c18 1 s1) :: (g, instObj 411 dg) :: (dg, gapD G c gs8 t38 ge8 t48) :: (c, listOf vs8.toArray n8) :: (mk, instObj 481 dm) :: (dm, mkD hm km rw) :: (rw, orw) :: (ls, listOf #[] nl) :: (x, listOf ys.toArray ys.length) :: (L + 1, o1) :: (L + 1 + 1, o22) :: (L + 1 + 1 + 1, o3) :: (L + 1 + 1 + 1 + 1, o4) :: (654, tabObj #[]) :: []) := ⟨_, _, by assumption, hcl, F9, news_of N9 (by k_extra "perm")⟩
  have ap2 : Apart [654, L, D, db] := by simp only [Apart, and_true]; omega
  refine range_go2 (n := 3) (fun i m' news' => LapSt L D A b db g dg c mk dm rw ls vs0 n1 n2 K G hm km orw nl [] i m' news') rfl hIs (by k_extra "ord") F10 N10 ⟨k, t, vs8, ns8, n8, gs8, t38, ge8, t48, pt8, p18, zv8, z18, false, tq8, t18, ck8, c18, _, _, _, _, _, _, _, _, _, #[], [], [], rfl, ⟨rfl, rfl⟩, ⟨hI8n, by k_extra "ord", hG0, hG1, hG2, hz8, hzs, by k_extra "ord", hk0, by k_extra "ord"⟩, ⟨⟨_, e1⟩, e22, ⟨_, e3⟩, ⟨_, e4⟩⟩, ⟨Lams.nil, (fun _ h => nomatch h), hcl'⟩, ⟨(fun _ h => nomatch h), (fun _ h => nomatch h), (fun _ h => nomatch h), (fun _ h => nomatch h), (fun _ h => nomatch h), (fun _ h => nomatch h), (fun _ h => nomatch h), (fun _ h => nomatch h), (fun _ h => nomatch h)⟩⟩ ?turn ?done (by with_unfolding_all exact hE) (fun I v s' Q' i _ hQ' => wpAny_pure hQ')
  case turn =>
    intro I i t₀ m₁ news₁ h₁ tk₁ oI hI hi3 J1 hoff hd F1 N1
    have hI5 : @LT.lt Nat _ ls I := hI (ls, listOf #[] nl) (by simp only [List.mem_cons, true_or, or_true])
    clear hI
    iterate 2 (walk1)
    rename Fr _ _ _ _ => F2
    rename News _ _ _ _ => N2
    obtain ⟨news₂, N3, J3⟩ := lapst_in (m' := fun y => if y = Str.ofString "lap" then _ else m₁ y) J1 N2 hoff hI5 a1 a2 a3 a4 a5 a6 a7 a8 a9 rfl rfl
    with_unfolding_all change wpAny _ (ktrTop 400 400 gd (Str.ofString "law") (lawSc w.params) L fa (.ref 656) (cellsFrom (L + 1) (lawSc w.params).names []) []) (execs (lapBody w.params) (envX (Str.ofString "law") (lawSc w.params) L fa (.ref 656) (cellsFrom (L + 1) (lawSc w.params).names []))) _ _ _
    with_reducible refine Stand.out ?_
    exact lap_spec (C := ⟨by k_asm, F2, by k_asm, by k_asm, rfl⟩) HC N3 ap ap2 ap3 hi0 hlen0 hr lo d1 d2 hi3 J3 (fun h7 tk7 m7 news7 F7 N7 J7 => by
      obtain ⟨news6, N6, o6, J6⟩ := lapst_out J7 N7 hI5 hd ap hA1 hDb a8 a9
      exact LoopStepU.intro F7 N6 (fun p hp z => o6 p hp (List.mem_singleton.mp z)) J6)
  case done =>
    intro h6 tk6 m6 news6 F6 N6 J6
    obtain ⟨kx, tx, vs, ns, nv, gs, t3, ge, t4, pt, p1, zv, z1, ro, tq, t1, ck, c1, sk, s1, cl', cvs, nc, o1, o2, o3, o4, ps, kc, tl, rfl, -⟩ := J6
    (try dsimp only)
    k_steps
    rename News _ _ _ _ => N7
    exact ret _ _ _ ps [] (by k_asm) (news_of N7 (fun q hq => by
      rw [List.mem_singleton.mp hq]
      simp only [List.mem_cons, true_or, or_true]))
end law_rest_n
theorem law_rest {prog : Program} {w : World} {p : Program} {loose : List Str} {mean : ExcName → Option Value} {mg : Str → Option Value} {mb : Str → Option Value} {A₀ : Around} {h₀ : Heap} {L : Addr} {m : Str → Option Value} {s : Shared} {E : Value → Shared → Prop} {gd : Option (List Code)} {fa : Addr} {D : Addr} {A : Addr} {vs0 : List Value} {ns0 : List Int} {n1 : Nat} {n2 : Nat} {k : Int} {z : Int} {t : Tok} {tz : Tok} {o1 : Obj} {o2 : Obj} {o3 : Obj} {o4 : Obj} {news : List (Addr × Obj)} {Q : Flow → Shared → Prop} : law_rest_H gd fa D A vs0 ns0 n1 n2 k z t tz o1 o2 o3 o4 Q prog w p loose mean mg mb A₀ h₀ L m s E news (Stand (wpAny (model prog w) (ktrTop 400 400 gd (Str.ofString "law") (lawSc w.params) L fa (.ref 656) (cellsFrom (L + 1) (lawSc w.params).names []) []) (execs ((lawStmts w.params).drop 2) (envX (Str.ofString "law") (lawSc w.params) L fa (.ref 656) (cellsFrom (L + 1) (lawSc w.params).names []))) Q E s)) := law_rest_ex.choose_spec (fun news => law_rest_n.main news) (((((gd, fa), (D, A)), ((vs0, ns0), (n1, n2))), (((k, z), (t, tz)), ((o1, o2), o3))), ((((o4, Q), (prog, w)), ((p, loose), (mean, mg))), (((mb, A₀), (h₀, L)), ((m, s), E)))) news
end
section
theorem lines_X25_1 : True := by
  k_with_none
  k_with "k_all" => with_reducible assumption
  k_with "ne_mem" => with_reducible first | exact List.mem_cons_self | (refine List.mem_cons_of_mem _ ?_; k_extra "ne_mem") | (refine List.mem_append_right _ ?_; k_extra "ne_mem")
  k_with "ne_bef" => with_reducible first | (refine Bef.head ?_; k_extra "ne_mem") | (refine Bef.tail ?_; k_extra "ne_bef")
  k_with "lt_ap" => (with_reducible rename Apart _ => kqA; first | (with_reducible exact Apart.bef kqA (by k_extra "ne_bef")) | (clear kqA; k_extra "lt_ap"))
  k_with "lt_go" => first | (with_reducible assumption) | (with_reducible exact AllLt.get (by assumption) (by k_extra "ne_mem")) | k_extra "lt_ap" | ((with_reducible refine Nat.lt_trans ?kq1 ?kq2); (case kq2 => with_reducible assumption); (case kq1 => k_extra "lt_go")) | ((with_reducible refine Nat.lt_trans ?kq1 ?kq2); (case kq1 => with_reducible assumption); (case kq2 => k_extra "lt_ap"))
  k_with "ne_lt" => with_reducible first | exact Nat.ne_of_lt (AllLt.get (by assumption) (by k_extra "ne_mem")) | exact Nat.ne_of_gt (AllLt.get (by assumption) (by k_extra "ne_mem"))
  k_with "ne_ap" => (with_reducible rename Apart _ => kqA; first | (with_reducible exact Nat.ne_of_lt (Apart.bef kqA (by k_extra "ne_bef"))) | (with_reducible exact Nat.ne_of_gt (Apart.bef kqA (by k_extra "ne_bef"))) | (clear kqA; k_extra "ne_ap"))
  k_with "ne_tr" => first | ((with_reducible refine Nat.ne_of_gt (Nat.lt_trans ?kq1 ?kq2)); (case kq2 => with_reducible assumption); (case kq1 => k_extra "lt_go")) | ((with_reducible refine Nat.ne_of_lt (Nat.lt_trans ?kq1 ?kq2)); (case kq2 => with_reducible assumption); (case kq1 => k_extra "lt_go"))
  k_with "k_ne" => (refine neN ?_; (try dsimp only); first | (with_reducible assumption) | (with_reducible exact Ne.symm (by assumption)) | (with_reducible exact Nat.ne_of_lt (by assumption)) | (with_reducible exact Nat.ne_of_gt (by assumption)) | k_extra "ne_lt" | k_extra "ne_ap" | k_extra "ne_tr" | omega | ((try simp only [AllLt] at *); omega))
  k_with "ne_all" => first | (with_reducible assumption) | (refine And.intro ?_ ?_ <;> k_extra "ne_all") | k_ne
  k_with "mem_hq" => first | exact hq | exact List.mem_append_left _ hq | (refine List.mem_cons_of_mem _ ?_; k_extra "mem_hq")
  k_with "perm" => first | (refine List.forall_mem_cons.mpr (And.intro ?kqa ?kqb); (case kqa => k_extra "ne_mem"); (case kqb => k_extra "perm")) | exact List.forall_mem_nil _ | (intro q hq; k_extra "mem_hq")
  k_with "ord" => first | (with_reducible assumption) | ((with_reducible show @LT.lt Nat _ _ _); k_extra "lt_go") | k_ne | omega | ((try simp only [AllLt] at *); omega)
  k_with "tb_start" => first | exact Pick.head | (apply Pick.tail; tb_start)
  k_with "tb_rel" => first | exact Suff.refl | (refine' Suff.tail ?_; tb_rel)
  k_with "ktr_rel" => first | exact Picks.nil | (refine' Picks.cons ?kqp ?kqq; (case kqp => tb_start); (case kqq => ktr_rel))
  k_with "ktr_unf" => exact ⟨by k_asm, by k_asm, by k_asm, by k_asm, by first | exact rfl | assumption⟩
  k_with "subscriptTail Attribute Name Slice" => (k_here; k_dflt (refine kba_turn (value' := PySem.Expr.Name (PySem.Str.ofString "_") ⟨0, 0, 0, 0⟩) (fun _ => rfl) ?_))
  k_with "subscriptTail Name Slice ref ref" => (k_here; (with_reducible show wpAny _ _ (subscriptTail _ (PySem.Expr.Slice (some _) (some _) none _) (Value.ref _) (Value.ref _)) _ _ _); k_dflt (refine' my_slice ?kqF ?kqN ?kql ?kqi ?kqx ?kqy ?kqz ?_ ?kqs ?kqt; (case kqF => k_asm); (case kqN => k_asm); (case kql => k_mem); (case kqi => k_asm); (case kqx => first | (with_reducible assumption) | omega | ((try simp only [AllLt] at *); omega)); (case kqy => first | (with_reducible assumption) | omega | ((try simp only [AllLt] at *); omega)); (case kqz => first | (with_reducible assumption) | omega | ((try simp only [AllLt] at *); omega)); (case kqs => with_unfolding_all rfl); (case kqt => kmk_pure); k_whole); intro D' ws' h' zs' F' N' l1 hI' hZ' hL'; (try (replace hL' := slice_len hL' (by first | (with_reducible assumption) | omega) (by first | (with_reducible assumption) | omega) (by first | (with_reducible assumption) | omega))); (try k_lt l1); (try k_sweep))
  k_with "setItem ref ref ref" => (k_here; k_dflt (refine' my_setslice ?kqF ?kqN ?kql ?kqU ?kqi ?kqw ?kqx ?kqy ?kqz ?kqzz ?_; (case kqF => k_asm); (case kqN => k_asm); (case kql => k_mem); (case kqU => k_updF); (case kqi => k_asm); (case kqw => k_asm); (case kqx => first | (with_reducible assumption) | omega | ((try simp only [AllLt] at *); omega)); (case kqy => first | (with_reducible assumption) | omega | ((try simp only [AllLt] at *); omega)); (case kqz => first | (with_reducible assumption) | omega | ((try simp only [AllLt] at *); omega)); (case kqzz => first | (with_reducible assumption) | omega | ((try simp only [AllLt] at *); omega)); k_whole); intro vs' n2' h' ns' F' N' hI' hZ' hL'; (try dsimp only at N'); (try k_sweep))
  k_with "call builtin:len" => (k_here; (with_reducible show wpAny _ _ (call (Value.builtin "len") [Value.ref _]) _ _ _); k_dflt (refine' my_len ?kqN ?kql ?kqi ?kqz ?_; (case kqN => k_asm); (case kql => k_mem); (case kqi => k_asm); (case kqz => first | (with_reducible assumption) | omega | ((try simp only [AllLt] at *); omega)); k_whole))
  k_with "pyIter ref" => (k_here; k_dflt (first | (refine' iter_empty ?kqh ?kqF ?kqN ?kqm ?_; (case kqh => exact rfl); (case kqF => k_asm); (case kqN => k_asm); (case kqm => k_mem)) | (refine' iter_empty2 ?kqh ?kqF ?kqN ?kqm ?kqi ?kqz ?_; (case kqh => exact rfl); (case kqF => k_asm); (case kqN => k_asm); (case kqm => k_mem); (case kqi => k_asm); (case kqz => k_asm))); intro h' tk' F' N'; (try dsimp only); (try k_sweep))
  k_with "call ref" => (k_here; (with_reducible show wpAny _ _ (call (Value.ref 631) _) _ _ _); k_dflt (refine' around_le (draw_spec ?kqC ?kqN ?kqP ?kqne ?kqr ?kqi ?kql ?kqh0 ?kqh1 ?kqh2 ?_) ?kqd ?kqu; (case kqC => ktr_unf); (case kqN => k_asm); (case kqP => ktr_rel); (case kqne => first | (with_reducible assumption) | omega | ((try simp only [AllLt] at *); omega)); (case kqr => k_all); (case kqi => k_asm); (case kql => first | (with_reducible assumption) | omega | ((try simp only [AllLt] at *); omega)); (case kqh0 => first | (with_reducible assumption) | omega | ((try simp only [AllLt] at *); omega)); (case kqh1 => first | (with_reducible assumption) | omega | ((try simp only [AllLt] at *); omega)); (case kqh2 => first | (with_reducible assumption) | omega | ((try simp only [AllLt] at *); omega));  (case kqd => exact Nat.le_of_ble_eq_true rfl); (case kqu => exact Nat.le_of_ble_eq_true rfl)); intro r' t' t2' h' tk' F' N' hr0' hr1'; (try dsimp only); (try k_sweep); (try k_fold))
  k_with "execs cons" => (k_here; (with_reducible show wpAny _ _ (execs (Stmt.Assign [PySem.Expr.Tuple _ _ _] _ _ :: _) _) _ _ _); k_dflt (refine' halt ?_))
  trivial
theorem law_news {h₀ h : Heap} {L : Addr} {x1 x2 x3 c1 c2 c3 c4 t : Addr × Obj} (N : News h₀ L h (x1 :: x2 :: x3 :: c4 :: c3 :: c2 :: c1 :: t :: [])) : News h₀ L h (x1 :: x2 :: c1 :: c2 :: c3 :: c4 :: [t]) := news_sel N 7 [0, 1, 6, 5, 4, 3]
section
set_option maxRecDepth 100000 in
set_option maxHeartbeats 8000000 in
theorem law_walk : PySem.Challenge.rw_oj0030_01.Holds := hd (by
  k_go0
  all_goals try k_fold
  iterate 23 (first | (k_unfold; (try dsimp only)) | (k_end; wrow_close) | walk1 | (dsimp only; walk1) | skip)
  rename News _ _ _ _ => N1
  replace N1 := law_start N1
  rename IntsAre _ (List.map _ (List.take 63 _)) => hI8
  have hlen8 := len63 hI8
  obtain ⟨ns, hI, hlen⟩ := hlen8
  iterate 60 (first | (k_unfold; (try dsimp only)) | (k_end; wrow_close) | walk1 | (dsimp only; walk1) | skip)
  change wpAny _ _ _ _ _ _
  rename News _ _ _ _ => N2
  rename World => w
  rename 654 < _ ∧ True => hb
  rename (Ne _ _) ∧ _ => ho
  obtain ⟨-, f4, f3, f2, f1, f0⟩ := ho
  rename AllLt _ ((_, listOf _ _) :: (_, listOf _ _) :: _) => hl9
  have g0 := AllLt.get hl9 (List.Mem.head _)
  have g4 := AllLt.get hl9 (List.Mem.tail _ (List.Mem.tail _ (List.Mem.head _)))
  with_unfolding_all change wpAny _ (ktrTop _ _ _ (Str.ofString "law") (lawSc w.params) _ _ (.ref 656) (cellsFrom _ (lawSc w.params).names []) []) (execs ((lawStmts w.params).drop 2) (envX (Str.ofString "law") (lawSc w.params) _ _ (.ref 656) (cellsFrom _ (lawSc w.params).names []))) _ _ _
  refine wpAny_noRaise ?_
  refine around_le (D := 400) (U := 400) ?z1 ?z2 ?z3
  case z2 => exact Nat.le_of_ble_eq_true rfl
  case z3 => exact Nat.le_of_ble_eq_true rfl
  case z1 =>
    with_reducible refine Stand.out ?_
    refine law_rest (C := ⟨by k_asm, by k_asm, by k_asm, by k_asm, rfl⟩) (HC := by assumption) (N := law_news N2) (hn := rfl) (hb := hb.1) (ap3 := ⟨g4, g0, Nat.ne_of_lt g0, Ne.symm f0, Ne.symm f1, Ne.symm f2, Ne.symm f3, Ne.symm f4⟩) (hi0 := hI) (hlen0 := hlen) (hk0 := by k_extra "ord") (hk1 := by k_extra "ord") (hz0 := by assumption) (hz1 := by assumption) (e1 := ⟨_, by assumption⟩) (e2 := ⟨_, by assumption⟩) (e3 := ⟨_, by assumption⟩) (e4 := ⟨_, by assumption⟩) (md := rfl) (ms := rfl) (hE := PassesOwn.never) (ret := ?q3)
    case q3 =>
      intro h' tk' m' ps tl F' N'
      (try dsimp only)
      iterate 8 (first | (k_unfold; (try dsimp only)) | (k_end; wrow_close) | walk1 | (dsimp only; walk1) | skip)
      done)
end
end
end Mine
set_option maxRecDepth 100000 in
set_option maxHeartbeats 8000000 in
theorem PySem.Challenge.cw_oj0030_01_holds : PySem.Challenge.rw_oj0030_01.Holds :=
  Mine.law_walk
