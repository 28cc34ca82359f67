import PyProof.Rows.All
import Wide.All
import OpenK.AllK
import Wide.FinOn
import HandS.ForMost
import HandS.ForExc
import HandS.Wide
import HandS.TupAny
import HandS.TupMul
import HandS.Walk
import HandS.Zip
import HandS.ExcCtx
import HandS.Flow
import HandS.IsInst
import HandS.Codes
import HandS.HotCalls
import KE.GoesMore
import KE.GoesNew
import HandS.NoneIn
import PyProof.ListStr
import HandS.Replace
import PyProof.Rows.SortShellAny
import HandS.TryOnly
import HandS.WordsExc
import PyProof.ReprBulk
import PyProof.FitsInt
import HandS.Style
import HandS.Conv
import KE.GoesEnum
import HandS.SetFor
import HandS.ExcIs
import HandS.Defaults
import HandS.MakeKw
import KE.KDictZip
import KE.GoesZip
import PyProof.CollectStr
import KE.KDictLaws
import PyProof.DictUpdate
import KE.GoesComp
import KE.KAsSuite
import KE.KIndexOf
import HandS.Strs
import PySem.Challenge.RW_betstall_k07_houses_or_not
set_option Elab.async false
set_option maxRecDepth 100000
set_option maxHeartbeats 0
def PySem.W.Fast.tw11593809307542169702 : Nat := 0
def PySem.W.Fast.tw14407803692167591587 : Nat := 0
def PySem.W.Fast.tw6140209428772612814 : Nat := 0
def PySem.W.Fast.tw16660272223185746386 : Nat := 0
def PySem.W.Fast.tw2982129961818803632 : Nat := 0
def PySem.W.Fast.tw14960615037986599563 : Nat := 0
def PySem.W.Fast.tw18234625337715917036 : Nat := 0
def PySem.W.Fast.tw5991752792365069400 : Nat := 0
def PySem.W.Fast.tw919795678624923747 : Nat := 0
def PySem.W.Fast.tw18244156477138621407 : Nat := 0
def PySem.W.Fast.tw11984718413180573815 : Nat := 0
def PySem.W.Fast.tw15302812754560504379 : Nat := 0
def PySem.W.Fast.tw14180186570926142458 : Nat := 0
def PySem.W.Fast.tw3792876662260128013 : Nat := 0
def PySem.W.Fast.tw9004686568059292914 : Nat := 0
def PySem.W.Fast.tw16694917145100770273 : Nat := 0
def PySem.W.Fast.tw8878966368716296862 : Nat := 0
def PySem.W.Fast.tw18444673169322759007 : Nat := 0
def PySem.W.Fast.tw7425170391078936620 : Nat := 0
def PySem.W.Fast.tw16823969272390664730 : Nat := 0
def PySem.W.Fast.tw10776011105078779184 : Nat := 0
def PySem.W.Fast.tw813870853300412582 : Nat := 0
def PySem.W.Fast.tw14999517165521352963 : Nat := 0
def PySem.W.Fast.tw3612946377230993098 : Nat := 0
def PySem.W.Fast.tw2747843158278046661 : Nat := 0
def PySem.W.Fast.tw11318711639940935558 : Nat := 0
def PySem.W.Fast.tw7046973772633464801 : Nat := 0
def PySem.W.Fast.tw11184320757430010603 : Nat := 0
def PySem.W.Fast.tw9673251024999509790 : Nat := 0
def PySem.W.Fast.tw12910635663899457691 : Nat := 0
def PySem.W.Fast.tw13739220234686477557 : Nat := 0
def PySem.W.Fast.tw14413434628757009502 : Nat := 0
def PySem.W.Fast.tw14507044889538202812 : Nat := 0
def PySem.W.Fast.tw16523507970888776580 : Nat := 0
def PySem.W.Fast.tw17052598755740815813 : Nat := 0
def PySem.W.Fast.tw17424707636223422615 : Nat := 0
def PySem.W.Fast.tw15241291043547181955 : Nat := 0
def PySem.W.Fast.tw15991998584329283434 : Nat := 0
def PySem.W.Fast.tw12533097346613310792 : Nat := 0
def PySem.W.Fast.tw17954667573030439768 : Nat := 0
def PySem.W.Fast.tw18024696478117235394 : Nat := 0
def PySem.W.Fast.tw6678791085885862707 : Nat := 0
def PySem.W.Fast.tw4182433452661343697 : Nat := 0
def PySem.W.Fast.tw16174719732513938524 : Nat := 0
def PySem.W.Fast.tw2640022551939514315 : Nat := 0
def PySem.W.Fast.tw3186968299629594693 : Nat := 0
def PySem.W.Fast.tw13778691688233741359 : Nat := 0
def PySem.W.Fast.tw7479738504931331728 : Nat := 0
def PySem.W.Fast.tw378084353067383838 : Nat := 0
def PySem.W.Fast.tw10521524634119654725 : Nat := 0
def PySem.W.Fast.tw7072412542399548594 : Nat := 0
def PySem.W.Fast.tw5063790050101189143 : Nat := 0
def PySem.W.Fast.tw7319560329194545429 : Nat := 0
def PySem.W.Fast.tw7488622089480741776 : Nat := 0
def PySem.W.Fast.tw12129416198419064070 : Nat := 0
def PySem.W.Fast.tw11854398597081288495 : Nat := 0
def PySem.W.Fast.tw11637192151086606090 : Nat := 0
def PySem.W.Fast.tw5933970990507353611 : Nat := 0
def PySem.W.Fast.tw17593162134873696883 : Nat := 0
def PySem.W.Fast.tw16273951592995029893 : Nat := 0
def PySem.W.Fast.tw6496859012345841266 : Nat := 0
def PySem.W.Fast.tw9874241612603318194 : Nat := 0
def PySem.W.Fast.tw18422331558003923520 : Nat := 0
def PySem.W.Fast.tw775876848221252330 : Nat := 0
def PySem.W.Fast.tw5161743795125656923 : Nat := 0
def PySem.W.Fast.tw10383223098232486405 : Nat := 0
def PySem.W.Fast.tw14090127554400305671 : Nat := 0
def PySem.W.Fast.tw16622801053419756395 : Nat := 0
def PySem.W.Fast.tw2568384768020970474 : Nat := 0
def PySem.W.Fast.tw1688333299675957646 : Nat := 0
def PySem.W.Fast.tw13185039276509862655 : Nat := 0
def PySem.W.Fast.tw10362150402519711496 : Nat := 0
def PySem.W.Fast.tw8742582392102685138 : Nat := 0
def PySem.W.Fast.tw6759913997736631469 : Nat := 0
def PySem.W.Fast.tw6195967857637425100 : Nat := 0
def PySem.W.Fast.tw12311203248353072773 : Nat := 0
def PySem.W.Fast.tw9274807133309597806 : Nat := 0
def PySem.W.Fast.tw2511584903696271650 : Nat := 0
def PySem.W.Fast.tw14350421921992327955 : Nat := 0
def PySem.W.Fast.tw15183015402853153793 : Nat := 0
def PySem.W.Fast.tw6493383859478344834 : Nat := 0
def PySem.W.Fast.tw15313197713815345152 : Nat := 0
def PySem.W.Fast.tw6853918621084166941 : Nat := 0
def PySem.W.Fast.tw2717108159329520714 : Nat := 0
def PySem.W.Fast.tw5805426388705788666 : Nat := 0
def PySem.W.Fast.tw9659127652448596174 : Nat := 0
def PySem.W.Fast.tw2142652302608862241 : Nat := 0
def PySem.W.Fast.tw10100355790436784360 : Nat := 0
def PySem.W.Fast.tw474937894820490630 : Nat := 0
def PySem.W.Fast.tw1168587856663795003 : Nat := 0
def PySem.W.Fast.tw3746705302179108274 : Nat := 0
def PySem.W.Fast.tw1849301741540273555 : Nat := 0
def PySem.W.Fast.tw1238922732383033675 : Nat := 0
def PySem.W.Fast.tw11069053939291126357 : Nat := 0
def PySem.W.Fast.tw17349244766057015083 : Nat := 0
def PySem.W.Fast.tw5789854578810068598 : Nat := 0
def PySem.W.Fast.tw9111212217750330181 : Nat := 0
def PySem.W.Fast.tw16135313909611642139 : Nat := 0
def PySem.W.Fast.tw5695108226441123260 : Nat := 0
def PySem.W.Fast.tw10096831205099370976 : Nat := 0
def PySem.W.Fast.tw10599342534772411987 : Nat := 0
def PySem.W.Fast.tw5185895860961556817 : Nat := 0
def PySem.W.Fast.tw5783151179042430190 : Nat := 0
def PySem.W.Fast.tw2235968624494406344 : Nat := 0
def PySem.W.Fast.tw12950453860452839771 : Nat := 0
def PySem.W.Fast.tw14966953727359421518 : Nat := 0
def PySem.W.Fast.tw6276347924440555475 : Nat := 0
def PySem.W.Fast.tw7697896250245658720 : Nat := 0
def PySem.W.Fast.tw4386114474295114060 : Nat := 0
def PySem.W.Fast.tw1961380123262340284 : Nat := 0
def PySem.W.Fast.tw6726408291469081851 : Nat := 0
def PySem.W.Fast.tw8369070165440405337 : Nat := 0
def PySem.W.Fast.tw12526591916236298310 : Nat := 0
def PySem.W.Fast.tw1639733913883607161 : Nat := 0
def PySem.W.Fast.tw4520996959552839073 : Nat := 0
def PySem.W.Fast.tw8210490326558720206 : Nat := 0
def PySem.W.Fast.tw13355546261430556326 : Nat := 0
def PySem.W.Fast.tw3116746439362908022 : Nat := 0
def PySem.W.Fast.tw12104904131043530306 : Nat := 0
def PySem.W.Fast.tw9350006479264794198 : Nat := 0
def PySem.W.Fast.tw16606779328850548435 : Nat := 0
def PySem.W.Fast.tw18359135069051014115 : Nat := 0
def PySem.W.Fast.tw15703923088826376278 : Nat := 0
def PySem.W.Fast.tw8967387418619504795 : Nat := 0
def PySem.W.Fast.tw3553724231973858908 : Nat := 0
def PySem.W.Fast.tw13752891865717836192 : Nat := 0
def PySem.W.Fast.tw13185397520354755979 : Nat := 0
def PySem.W.Fast.tw16512907399025360263 : Nat := 0
def PySem.W.Fast.tw17526656530921005296 : Nat := 0
def PySem.W.Fast.tw9121089257832061259 : Nat := 0
def PySem.W.Fast.tw11748891765265934886 : Nat := 0
def PySem.W.Fast.tw3200614819527316146 : Nat := 0
def PySem.W.Fast.tw4010757254883755285 : Nat := 0
def PySem.W.Fast.tw15177799996000103984 : Nat := 0
def PySem.W.Fast.tw2623223965183524167 : Nat := 0
def PySem.W.Fast.tw10612902148731475492 : Nat := 0
def PySem.W.Fast.tw14404110714380690339 : Nat := 0
def PySem.W.Fast.tw10895849677367078301 : Nat := 0
def PySem.W.Fast.tw16353184218546402775 : Nat := 0
def PySem.W.Fast.tw6250333376472112257 : Nat := 0
def PySem.W.Fast.tw160040568402178764 : Nat := 0
def PySem.W.Fast.tw9100772022526378549 : Nat := 0
def PySem.W.Fast.tw5041510472818517192 : Nat := 0
def PySem.W.Fast.tw9722305203693154989 : Nat := 0
def PySem.W.Fast.tw5980578521240173593 : Nat := 0
def PySem.W.Fast.tw10490307079313556773 : Nat := 0
def PySem.W.Fast.tw2377584705966200175 : Nat := 0
def PySem.W.Fast.tw8338631184013212366 : Nat := 0
def PySem.W.Fast.tw5419287460385467277 : Nat := 0
def PySem.W.Fast.tw3891418662626882111 : Nat := 0
def PySem.W.Fast.tw11900997510268550540 : Nat := 0
def PySem.W.Fast.tw3341422956826781192 : Nat := 0
def PySem.W.Fast.tw8009692234542744236 : Nat := 0
def PySem.W.Fast.tw14124783066935917711 : Nat := 0
def PySem.W.Fast.tw1975228526634706783 : Nat := 0
def PySem.W.Fast.tw4135346252906531746 : Nat := 0
def PySem.W.Fast.tw4023375440788430132 : Nat := 0
def PySem.W.Fast.tw13546503670847249439 : Nat := 0
def PySem.W.Fast.tw17594149441685177938 : Nat := 0
def PySem.W.Fast.tw16663304102396739477 : Nat := 0
def PySem.W.Fast.tw16741131858845749001 : Nat := 0
def PySem.W.Fast.tw15896002378126576992 : Nat := 0
def PySem.W.Fast.tw13605692712815862752 : Nat := 0
def PySem.W.Fast.tw14142121273200544925 : Nat := 0
def PySem.W.Fast.tw3546035195062714622 : Nat := 0
def PySem.W.Fast.tw9717836586151348281 : Nat := 0
def PySem.W.Fast.tw15607814301507706901 : Nat := 0
def PySem.W.Fast.tw10550172006931906838 : Nat := 0
def PySem.W.Fast.tw9551412340657185453 : Nat := 0
def PySem.W.Fast.tw192083935369225958 : Nat := 0
def PySem.W.Fast.tw10474490733880178943 : Nat := 0
def PySem.W.Fast.tw14829028736451623979 : Nat := 0
def PySem.W.Fast.tw4492039463343580671 : Nat := 0
def PySem.W.Fast.tw4371894415351843497 : Nat := 0
def PySem.W.Fast.tw4492925412585954225 : Nat := 0
def PySem.W.Fast.tw13422636775765149888 : Nat := 0
def PySem.W.Fast.tw15353266199995837832 : Nat := 0
def PySem.W.Fast.tw13361088002639691520 : Nat := 0
def PySem.W.Fast.tw16509430541120270461 : Nat := 0
def PySem.W.Fast.tw9382411151512235802 : Nat := 0
def PySem.W.Fast.tw7376460821216224635 : Nat := 0
def PySem.W.Fast.tw16218954882783269374 : Nat := 0
def PySem.W.Fast.tw22548774429752151 : Nat := 0
def PySem.W.Fast.tw4809104804476192785 : Nat := 0
def PySem.W.Fast.tw6815718067775487317 : Nat := 0
def PySem.W.Fast.tw633272787116145644 : Nat := 0
def PySem.W.Fast.tw15251319117349812788 : Nat := 0
def PySem.W.Fast.tw230635124909558621 : Nat := 0
def PySem.W.Fast.tw16614491271757237411 : Nat := 0
def PySem.W.Fast.tw4840173665876916533 : Nat := 0
def PySem.W.Fast.tw1652666013062425409 : Nat := 0
def PySem.W.Fast.tw16693161379021924516 : Nat := 0
def PySem.W.Fast.tw2736617179821648379 : Nat := 0
def PySem.W.Fast.tw258353646962163908 : Nat := 0
def PySem.W.Fast.tw17119475386045395050 : Nat := 0
def PySem.W.Fast.tw15974321975922052180 : Nat := 0
def PySem.W.Fast.tw3578979175710543903 : Nat := 0
def PySem.W.Fast.tw18194074803826109977 : Nat := 0
def PySem.W.Fast.tw7670213560557689665 : Nat := 0
def PySem.W.Fast.tw12758201224424968494 : Nat := 0
def PySem.W.Fast.tw3829871538874619086 : Nat := 0
def PySem.W.Fast.tw14563543855333084864 : Nat := 0
def PySem.W.Fast.tw5526051598352383002 : Nat := 0
def PySem.W.Fast.tw16969179351009299481 : Nat := 0
def PySem.W.Fast.tw15812797518870087016 : Nat := 0
def PySem.W.Fast.tw4382453225078063993 : Nat := 0
def PySem.W.Fast.tw4356669976418518304 : Nat := 0
def PySem.W.Fast.tw5783063727772145455 : Nat := 0
def PySem.W.Fast.tw4969084250435201971 : Nat := 0
def PySem.W.Fast.tw8783444204804740307 : Nat := 0
def PySem.W.Fast.tw6602698028724784588 : Nat := 0
def PySem.W.Fast.tw2072769033242848034 : Nat := 0
def PySem.W.Fast.tw7290940100870167489 : Nat := 0
def PySem.W.Fast.tw2805112644860472881 : Nat := 0
def PySem.W.Fast.tw11846674209722025258 : Nat := 0
def PySem.W.Fast.tw12852152259409275010 : Nat := 0
def PySem.W.Fast.tw4963600474890965010 : Nat := 0
def PySem.W.Fast.tw2293665738600551308 : Nat := 0
def PySem.W.Fast.tw5160134535973964595 : Nat := 0
def PySem.W.Fast.tw15135536401051508452 : Nat := 0
def PySem.W.Fast.tw14278448696600606584 : Nat := 0
def PySem.W.Fast.tw6560793629955960610 : Nat := 0
def PySem.W.Fast.tw17358202155987641624 : Nat := 0
def PySem.W.Fast.tw3921637152813423584 : Nat := 0
def PySem.W.Fast.tw10608185624442683558 : Nat := 0
def PySem.W.Fast.tw4078653889967869331 : Nat := 0
def PySem.W.Fast.tw14426994841770320933 : Nat := 0
def PySem.W.Fast.tw3212435923224398911 : Nat := 0
def PySem.W.Fast.tw8457408871603095603 : Nat := 0
def PySem.W.Fast.tw9932978104653142844 : Nat := 0
def PySem.W.Fast.tw9508145341724742240 : Nat := 0
def PySem.W.Fast.tw1824516008645006611 : Nat := 0
def PySem.W.Fast.tw2103388698570667704 : Nat := 0
def PySem.W.Fast.tw11257906118764858708 : Nat := 0
def PySem.W.Fast.tw290576248109733380 : Nat := 0
def PySem.W.Fast.tw8280065815527397299 : Nat := 0
def PySem.W.Fast.tw6009996391175525896 : Nat := 0
def PySem.W.Fast.tw15450060237255258017 : Nat := 0
def PySem.W.Fast.tw7169930128148689476 : Nat := 0
def PySem.W.Fast.tw10508161850532073474 : Nat := 0
def PySem.W.Fast.tw9681460733355760426 : Nat := 0
def PySem.W.Fast.tw11787987149534063486 : Nat := 0
def PySem.W.Fast.tw2352693091860635572 : Nat := 0
def PySem.W.Fast.tw2447805493835108114 : Nat := 0
def PySem.W.Fast.tw532713452410818241 : Nat := 0
def PySem.W.Fast.tw4029392893958329042 : Nat := 0
def PySem.W.Fast.tw13991479476434460497 : Nat := 0
def PySem.W.Fast.tw1326877613671049875 : Nat := 0
def PySem.W.Fast.tw1408434085114355369 : Nat := 0
def PySem.W.Fast.tw13325653831073743781 : Nat := 0
def PySem.W.Fast.tw11089318757200608114 : Nat := 0
def PySem.W.Fast.tw4376345556426679150 : Nat := 0
def PySem.W.Fast.tw4908802520945436063 : Nat := 0
def PySem.W.Fast.tw13743151015405864197 : Nat := 0
def PySem.W.Fast.tw122886230569392602 : Nat := 0
def PySem.W.Fast.tw10158354312968766117 : Nat := 0
def PySem.W.Fast.tw2000100272598385841 : Nat := 0
def PySem.W.Fast.tw2737817904902352095 : Nat := 0
def PySem.W.Fast.tw552783076415102538 : Nat := 0
def PySem.W.Fast.tw893329928601261246 : Nat := 0
def PySem.W.Fast.tw17336316175876950608 : Nat := 0
def PySem.W.Fast.tw14078347583155734679 : Nat := 0
def PySem.W.Fast.tw9770399461389442093 : Nat := 0
def PySem.W.Fast.tw10506602247977384178 : Nat := 0
def PySem.W.Fast.tw7302834372040511187 : Nat := 0
def PySem.W.Fast.tw6515944817004632457 : Nat := 0
def PySem.W.Fast.tw11340598539742097037 : Nat := 0
def PySem.W.Fast.tw5233222777565051276 : Nat := 0
def PySem.W.Fast.tw1787060113988498612 : Nat := 0
def PySem.W.Fast.tw8307290545993862266 : Nat := 0
def PySem.W.Fast.tw4196531245037107172 : Nat := 0
def PySem.W.Fast.tw3386180145925938937 : Nat := 0
def PySem.W.Fast.tw810812536915434254 : Nat := 0
def PySem.W.Fast.tw2785216355866831135 : Nat := 0
def PySem.W.Fast.tw11407932703766762152 : Nat := 0
def PySem.W.Fast.tw8861895683621804080 : Nat := 0
def PySem.W.Fast.tw13265396577811328022 : Nat := 0
def PySem.W.Fast.tw2459640663198355746 : Nat := 0
def PySem.W.Fast.tw12761698046406131483 : Nat := 0
def PySem.W.Fast.tw16467002830074808627 : Nat := 0
def PySem.W.Fast.tw7655654780891233331 : Nat := 0
def PySem.W.Fast.tw311998437052017817 : Nat := 0
def PySem.W.Fast.tw2117515062117597677 : Nat := 0
def PySem.W.Fast.tw219669491465194029 : Nat := 0
def PySem.W.Fast.tw8694870808605965011 : Nat := 0
def PySem.W.Fast.tw14062815266210915799 : Nat := 0
def PySem.W.Fast.tw15069760514617819389 : Nat := 0
def PySem.W.Fast.tw11768087998285593438 : Nat := 0
def PySem.W.Fast.tw15574710781617033088 : Nat := 0
def PySem.W.Fast.tw3059876901387914914 : Nat := 0
def PySem.W.Fast.tw16112216674003967018 : Nat := 0
def PySem.W.Fast.tw15525022950258436042 : Nat := 0
def PySem.W.Fast.tw9116552067474652485 : Nat := 0
def PySem.W.Fast.tw5455486881936754298 : Nat := 0
def PySem.W.Fast.tw2278541209822336389 : Nat := 0
def PySem.W.Fast.tw992443311137636585 : Nat := 0
def PySem.W.Fast.tw9224657142003154234 : Nat := 0
def PySem.W.Fast.tw1155989408155444172 : Nat := 0
def PySem.W.Fast.tw6877914102977951627 : Nat := 0
def PySem.W.Fast.tw7346122402514280344 : Nat := 0
def PySem.W.Fast.tw3710554399501816878 : Nat := 0
def PySem.W.Fast.tw16970062998220888095 : Nat := 0
def PySem.W.Fast.tw1134572729510789297 : Nat := 0
def PySem.W.Fast.tw15052820837545812330 : Nat := 0
def PySem.W.Fast.tw4122837683571768096 : Nat := 0
def PySem.W.Fast.tw359331628872732191 : Nat := 0
def PySem.W.Fast.tw6564489541781903825 : Nat := 0
def PySem.W.Fast.tw4132509562515356727 : Nat := 0
def PySem.W.Fast.tw6637602784070752478 : Nat := 0
def PySem.W.Fast.tw7845834413972646430 : Nat := 0
def PySem.W.Fast.tw11495462017690038915 : Nat := 0
def PySem.W.Fast.tw17736457298869857442 : Nat := 0
def PySem.W.Fast.tw13318183859625307681 : Nat := 0
def PySem.W.Fast.tw17279590755053123760 : Nat := 0
def PySem.W.Fast.tw7288443113054971653 : Nat := 0
def PySem.W.Fast.tw7592282314786804210 : Nat := 0
def PySem.W.Fast.tw4228058968764372186 : Nat := 0
def PySem.W.Fast.tw5702446233187195295 : Nat := 0
def PySem.W.Fast.tw6684583473299873857 : Nat := 0
def PySem.W.Fast.tw8420728021058438746 : Nat := 0
def PySem.W.Fast.tw1508391798546555674 : Nat := 0
def PySem.W.Fast.tw15841462648718151365 : Nat := 0
def PySem.W.Fast.tw13404164565839103656 : Nat := 0
def PySem.W.Fast.tw6970779040449387321 : Nat := 0
def PySem.W.Fast.tw9971378058744296625 : Nat := 0
def PySem.W.Fast.tw13346677362922615771 : Nat := 0
def PySem.W.Fast.tw1852255481932485091 : Nat := 0
def PySem.W.Fast.tw15521282714017180978 : Nat := 0
def PySem.W.Fast.tw4281207349369089811 : Nat := 0
def PySem.W.Fast.tw3769508297495670104 : Nat := 0
def PySem.W.Fast.tw14494605009825030810 : Nat := 0
def PySem.W.Fast.tw4852504979108650671 : Nat := 0
def PySem.W.Fast.tw7235120342058677229 : Nat := 0
def PySem.W.Fast.tw3844599104549025642 : Nat := 0
def PySem.W.Fast.tw12332146472830063206 : Nat := 0
def PySem.W.Fast.tw13424942254278751288 : Nat := 0
def PySem.W.Fast.tw4816046272863843509 : Nat := 0
def PySem.W.Fast.tw10513400399554208835 : Nat := 0
def PySem.W.Fast.tw1730695266657201216 : Nat := 0
def PySem.W.Fast.tw16349982816887344971 : Nat := 0
def PySem.W.Fast.tw16647554917099752845 : Nat := 0
def PySem.W.Fast.tw9281677811467062114 : Nat := 0
def PySem.W.Fast.tw9554074316054485538 : Nat := 0
def PySem.W.Fast.tw12744539334381181563 : Nat := 0
def PySem.W.Fast.tw17212706811314090954 : Nat := 0
def PySem.W.Fast.tw11503063170588750532 : Nat := 0
def PySem.W.Fast.tw2163326415743969343 : Nat := 0
def PySem.W.Fast.tw1676053123665957409 : Nat := 0
def PySem.W.Fast.tw11143972460229154980 : Nat := 0
def PySem.W.Fast.tw10662031152103129026 : Nat := 0
def PySem.W.Fast.tw18225411401623839159 : Nat := 0
def PySem.W.Fast.tw1314767328989304905 : Nat := 0
def PySem.W.Fast.tw6422132037840646125 : Nat := 0
def PySem.W.Fast.tw2196311764273615110 : Nat := 0
def PySem.W.Fast.tw16295441791484437814 : Nat := 0
def PySem.W.Fast.tw8578093260895433443 : Nat := 0
def PySem.W.Fast.tw13536575541438335311 : Nat := 0
def PySem.W.Fast.tw17991576501986043831 : Nat := 0
def PySem.W.Fast.tw17664813266459565493 : Nat := 0
def PySem.W.Fast.tw1334834876696022432 : Nat := 0
def PySem.W.Fast.tw38708244436154565 : Nat := 0
def PySem.W.Fast.tw12509300586919421558 : Nat := 0
def PySem.W.Fast.tw11778978102275089767 : Nat := 0
def PySem.W.Fast.tw9192233178246022884 : Nat := 0
def PySem.W.Fast.tw13306088780038775402 : Nat := 0
def PySem.W.Fast.tw5314694607471847839 : Nat := 0
def PySem.W.Fast.tw1146781919334447933 : Nat := 0
def PySem.W.Fast.tw17664544333717003013 : Nat := 0
def PySem.W.Fast.tw12281394573975401351 : Nat := 0
def PySem.W.Fast.tw17963335084060047802 : Nat := 0
def PySem.W.Fast.tw9067845955647941598 : Nat := 0
def PySem.W.Fast.tw17970834822382371628 : Nat := 0
def PySem.W.Fast.tw14573142634549294844 : Nat := 0
def PySem.W.Fast.tw13902075502055773793 : Nat := 0
def PySem.W.Fast.tw1174525113112171947 : Nat := 0
def PySem.W.Fast.tw2749478510731802357 : Nat := 0
def PySem.W.Fast.tw1126918903557249663 : Nat := 0
def PySem.W.Fast.tw923473419349309246 : Nat := 0
def PySem.W.Fast.tw14953679132178383723 : Nat := 0
def PySem.W.Fast.tw8322448443513257459 : Nat := 0
def PySem.W.Fast.tw11390644070436592964 : Nat := 0
def PySem.W.Fast.tw7858800972402096288 : Nat := 0
def PySem.W.Fast.tw14383727063005825977 : Nat := 0
def PySem.W.Fast.tw17354057263729714876 : Nat := 0
def PySem.W.Fast.tw15837690483104259883 : Nat := 0
def PySem.W.Fast.tw16524784153726143309 : Nat := 0
def PySem.W.Fast.tw6328864693701741043 : Nat := 0
def PySem.W.Fast.tw12358222563275049131 : Nat := 0
def PySem.W.Fast.tw5527194612249197374 : Nat := 0
def PySem.W.Fast.tw2123191827045756114 : Nat := 0
def PySem.W.Fast.tw6498947700255833606 : Nat := 0
def PySem.W.Fast.tw16779086128798666163 : Nat := 0
def PySem.W.Fast.tw13924148246971436587 : Nat := 0
def PySem.W.Fast.tw4723942087874572347 : Nat := 0
def PySem.W.Fast.tw13358119915942183491 : Nat := 0
def PySem.W.Fast.tw14043641140606371660 : Nat := 0
def PySem.W.Fast.tw9295024806634271544 : Nat := 0
def PySem.W.Fast.tw15190391927525321203 : Nat := 0
def PySem.W.Fast.tw8713210924413794086 : Nat := 0
def PySem.W.Fast.tw9117972153992742641 : Nat := 0
def PySem.W.Fast.tw560974957829796126 : Nat := 0
def PySem.W.Fast.tw11955695948447462742 : Nat := 0
def PySem.W.Fast.tw16472239794340144956 : Nat := 0
def PySem.W.Fast.tw13419337992838576220 : Nat := 0
def PySem.W.Fast.tw5393678081631778140 : Nat := 0
def PySem.W.Fast.tw8325779547514281477 : Nat := 0
def PySem.W.Fast.tw14089430081652683827 : Nat := 0
def PySem.W.Fast.tw15473910681906892079 : Nat := 0
def PySem.W.Fast.tw13167353380612440263 : Nat := 0
def PySem.W.Fast.tw9448977836835018675 : Nat := 0
def PySem.W.Fast.tw4647125994572878375 : Nat := 0
def PySem.W.Fast.tw16549132536779835745 : Nat := 0
def PySem.W.Fast.tw3131141721695299518 : Nat := 0
def PySem.W.Fast.tw16247122702719143032 : Nat := 0
def PySem.W.Fast.tw2037437529437087992 : Nat := 0
def PySem.W.Fast.tw11045353866931768748 : Nat := 0
def PySem.W.Fast.tw3528759622373077434 : Nat := 0
def PySem.W.Fast.tw2151713266117906842 : Nat := 0
def PySem.W.Fast.tw14238654336015700412 : Nat := 0
def PySem.W.Fast.tw10492341170875477365 : Nat := 0
def PySem.W.Fast.tw11890901461487831363 : Nat := 0
def PySem.W.Fast.tw6809053859521304764 : Nat := 0
def PySem.W.Fast.tw17552444793910857616 : Nat := 0
def PySem.W.Fast.tw17923254889312253860 : Nat := 0
def PySem.W.Fast.tw4709046185707348800 : Nat := 0
def PySem.W.Fast.tw12735416577620241951 : Nat := 0
def PySem.W.Fast.tw12106926881158827006 : Nat := 0
def PySem.W.Fast.tw11999789461572158780 : Nat := 0
def PySem.W.Fast.tw3218998924574718787 : Nat := 0
def PySem.W.Fast.tw2822929654789299026 : Nat := 0
def PySem.W.Fast.tw5982126622565270375 : Nat := 0
def PySem.W.Fast.tw16360794270004966509 : Nat := 0
def PySem.W.Fast.tw3405615353768203798 : Nat := 0
def PySem.W.Fast.tw8602336887103771203 : Nat := 0
def PySem.W.Fast.tw8894075046197046080 : Nat := 0
def PySem.W.Fast.tw9975710823103140053 : Nat := 0
def PySem.W.Fast.tw16284567064693159976 : Nat := 0
def PySem.W.Fast.tw15430975199950421565 : Nat := 0
def PySem.W.Fast.tw3288392545319944137 : Nat := 0
def PySem.W.Fast.tw16487897671212225646 : Nat := 0
def PySem.W.Fast.tw11368661644688272366 : Nat := 0
def PySem.W.Fast.tw8972287471592085966 : Nat := 0
def PySem.W.Fast.tw6676014781490536278 : Nat := 0
def PySem.W.Fast.tw15612365058215017014 : Nat := 0
def PySem.W.Fast.tw12297002025790423779 : Nat := 0
def PySem.W.Fast.tw12491759394549413026 : Nat := 0
def PySem.W.Fast.tw11287176702184769545 : Nat := 0
def PySem.W.Fast.tw10827300764544955059 : Nat := 0
def PySem.W.Fast.tw14724029709990590651 : Nat := 0
def PySem.W.Fast.tw14946353919097396304 : Nat := 0
def PySem.W.Fast.tw4619788970706119591 : Nat := 0
def PySem.W.Fast.tw2078401526101140797 : Nat := 0
def PySem.W.Fast.tw8320898853561502916 : Nat := 0
def PySem.W.Fast.tw12929582515597006158 : Nat := 0
def PySem.W.Fast.tw17272674721215511652 : Nat := 0
def PySem.W.Fast.tw661013954026173075 : Nat := 0
def PySem.W.Fast.tw821897174133686141 : Nat := 0
def PySem.W.Fast.tw1463754818431109040 : Nat := 0
def PySem.W.Fast.tw5346713054460814594 : Nat := 0
def PySem.W.Fast.tw8960745299828925531 : Nat := 0
def PySem.W.Fast.tw13626225947086561585 : Nat := 0
def PySem.W.Fast.tw7337288491141517758 : Nat := 0
def PySem.W.Fast.tw8053033847788213178 : Nat := 0
def PySem.W.Fast.tw222100977350868286 : Nat := 0
def PySem.W.Fast.tw16291243963256752238 : Nat := 0
def PySem.W.Fast.tw1823202352060479052 : Nat := 0
def PySem.W.Fast.tw2899252972332707960 : Nat := 0
def PySem.W.Fast.tw9748634371682272306 : Nat := 0
def PySem.W.Fast.tw5826049122496275148 : Nat := 0
def PySem.W.Fast.tw13419360042379390254 : Nat := 0
def PySem.W.Fast.tw14512463331218027259 : Nat := 0
def PySem.W.Fast.tw5041933530854149438 : Nat := 0
def PySem.W.Fast.tw9341021804986227346 : Nat := 0
def PySem.W.Fast.tw15179926603956492713 : Nat := 0
def PySem.W.Fast.tw2627384042454485584 : Nat := 0
def PySem.W.Fast.tw8700536297719811043 : Nat := 0
def PySem.W.Fast.tw17253206309399658142 : Nat := 0
def PySem.W.Fast.tw6464658560683922859 : Nat := 0
def PySem.W.Fast.tw2006916477831568954 : Nat := 0
def PySem.W.Fast.tw7841515619385115242 : Nat := 0
def PySem.W.Fast.tw14220290718744232792 : Nat := 0
def PySem.W.Fast.tw7327330457114075824 : Nat := 0
def PySem.W.Fast.tw10647639118959418199 : Nat := 0
def PySem.W.Fast.tw5005955685118463518 : Nat := 0
def PySem.W.Fast.tw11931589471998769258 : Nat := 0
def PySem.W.Fast.tw3511481799746844829 : Nat := 0
def PySem.W.Fast.tw3954232323710049589 : Nat := 0
def PySem.W.Fast.tw5743472360474009727 : Nat := 0
def PySem.W.Fast.tw1512946879318541931 : Nat := 0
def PySem.W.Fast.tw12221593973034360486 : Nat := 0
def PySem.W.Fast.tw10176957515915719323 : Nat := 0
def PySem.W.Fast.tw7140019723368351920 : Nat := 0
def PySem.W.Fast.tw16034531495905027668 : Nat := 0
def PySem.W.Fast.tw91995652908607628 : Nat := 0
def PySem.W.Fast.tw15423205830360936653 : Nat := 0
def PySem.W.Fast.tw8802731198026518106 : Nat := 0
def PySem.W.Fast.tw5466123611360848388 : Nat := 0
def PySem.W.Fast.tw17108258139072105591 : Nat := 0
def PySem.W.Fast.tw10084888256109077213 : Nat := 0
def PySem.W.Fast.tw9894781539912425932 : Nat := 0
def PySem.W.Fast.tw8194534590830339893 : Nat := 0
def PySem.W.Fast.tw4092185554648129159 : Nat := 0
def PySem.W.Fast.tw13116287212261287973 : Nat := 0
def PySem.W.Fast.tw1183097222092623483 : Nat := 0
def PySem.W.Fast.tw7170421064469615862 : Nat := 0
def PySem.W.Fast.tw4761944990937776479 : Nat := 0
def PySem.W.Fast.tw10577301465273545035 : Nat := 0
def PySem.W.Fast.tw9073686317388786113 : Nat := 0
def PySem.W.Fast.tw6091383095682898122 : Nat := 0
def PySem.W.Fast.tw3480261709650300629 : Nat := 0
def PySem.W.Fast.tw3955014117700756092 : Nat := 0
def PySem.W.Fast.tw9051598130954240565 : Nat := 0
def PySem.W.Fast.tw2073303536336873 : Nat := 0
def PySem.W.Fast.tw12595597900487136735 : Nat := 0
def PySem.W.Fast.tw4214498536924855128 : Nat := 0
def PySem.W.Fast.tw3577902666881355524 : Nat := 0
def PySem.W.Fast.tw7180361969109990113 : Nat := 0
def PySem.W.Fast.tw10261396921145719087 : Nat := 0
def PySem.W.Fast.tw1825032744668694651 : Nat := 0
def PySem.W.Fast.tw13048815942565583547 : Nat := 0
def PySem.W.Fast.tw13060465780174188944 : Nat := 0
def PySem.W.Fast.tw9060418712529254698 : Nat := 0
def PySem.W.Fast.tw17391721146124617958 : Nat := 0
def PySem.W.Fast.tw15241586977875648792 : Nat := 0
def PySem.W.Fast.tw16319845461331722398 : Nat := 0
def PySem.W.Fast.tw7679083580057518488 : Nat := 0
def PySem.W.Fast.tw7696926768226873428 : Nat := 0
def PySem.W.Fast.tw9110217133104631243 : Nat := 0
def PySem.W.Fast.tw11405309652157889218 : Nat := 0
def PySem.W.Fast.tw5299005205304934383 : Nat := 0
def PySem.W.Fast.tw5358876886551640474 : Nat := 0
def PySem.W.Fast.tw15344171901476421956 : Nat := 0
def PySem.W.Fast.tw17313379538143565089 : Nat := 0
def PySem.W.Fast.tw18277636602574159197 : Nat := 0
def PySem.W.Fast.tw7753706093176648688 : Nat := 0
def PySem.W.Fast.tw2465397581486469922 : Nat := 0
def PySem.W.Fast.tw6263378774390729063 : Nat := 0
def PySem.W.Fast.tw8940773744261798761 : Nat := 0
def PySem.W.Fast.tw1828583313398867883 : Nat := 0
def PySem.W.Fast.tw329047449322909975 : Nat := 0
def PySem.W.Fast.tw1450745828445641820 : Nat := 0
def PySem.W.Fast.tw17900425294336540966 : Nat := 0
def PySem.W.Fast.tw389703509891174904 : Nat := 0
def PySem.W.Fast.tw12912472865585588700 : Nat := 0
def PySem.W.Fast.tw16179030024034794847 : Nat := 0
def PySem.W.Fast.tw14328694659516374397 : Nat := 0
def PySem.W.Fast.tw15149464747305669080 : Nat := 0
def PySem.W.Fast.tw18008447040336318281 : Nat := 0
def PySem.W.Fast.tw6281252147129274382 : Nat := 0
def PySem.W.Fast.tw17526520563964725921 : Nat := 0
def PySem.W.Fast.tw13955905919149273461 : Nat := 0
def PySem.W.Fast.tw10725010248263716808 : Nat := 0
def PySem.W.Fast.tw6764139654860769164 : Nat := 0
def PySem.W.Fast.tw12266711279792099924 : Nat := 0
def PySem.W.Fast.tw5997818629592811942 : Nat := 0
def PySem.W.Fast.tw1785755735129315303 : Nat := 0
def PySem.W.Fast.tw11870992499133975761 : Nat := 0
def PySem.W.Fast.tw10461735442682985347 : Nat := 0
def PySem.W.Fast.tw1240357674580602113 : Nat := 0
def PySem.W.Fast.tw11416860469248226192 : Nat := 0
def PySem.W.Fast.tw5153551298934656038 : Nat := 0
def PySem.W.Fast.tw17779859147481881470 : Nat := 0
def PySem.W.Fast.tw15968989903284968074 : Nat := 0
def PySem.W.Fast.tw6584724052871429764 : Nat := 0
def PySem.W.Fast.tw10682736311715154460 : Nat := 0
def PySem.W.Fast.tw7775521336194648468 : Nat := 0
def PySem.W.Fast.tw11224533471662124061 : Nat := 0
def PySem.W.Fast.tw1929081257611880041 : Nat := 0
def PySem.W.Fast.tw13013203293708913012 : Nat := 0
def PySem.W.Fast.tw11882186817502131533 : Nat := 0
def PySem.W.Fast.tw11105051787831199091 : Nat := 0
def PySem.W.Fast.tw15200655654479483437 : Nat := 0
def PySem.W.Fast.tw14965453930653414287 : Nat := 0
def PySem.W.Fast.tw14610535652422876871 : Nat := 0
def PySem.W.Fast.tw13214086927505620027 : Nat := 0
def PySem.W.Fast.tw16723945789419876080 : Nat := 0
def PySem.W.Fast.tw3407878214544375760 : Nat := 0
def PySem.W.Fast.tw12272529711268194583 : Nat := 0
def PySem.W.Fast.tw16885977004963612423 : Nat := 0
def PySem.W.Fast.tw16671559557340345137 : Nat := 0
def PySem.W.Fast.tw10091363277081588153 : Nat := 0
def PySem.W.Fast.tw14410157259484568740 : Nat := 0
def PySem.W.Fast.tw12699794119704823050 : Nat := 0
def PySem.W.Fast.tw13359771024808286149 : Nat := 0
def PySem.W.Fast.tw17977770066006075354 : Nat := 0
def PySem.W.Fast.tw16260605340065975913 : Nat := 0
def PySem.W.Fast.tw14578217114155964565 : Nat := 0
def PySem.W.Fast.tw10245444601453166528 : Nat := 0
def PySem.W.Fast.tw9304891677364182844 : Nat := 0
def PySem.W.Fast.tw6382386394517438520 : Nat := 0
def PySem.W.Fast.tw13818124125214387742 : Nat := 0
def PySem.W.Fast.tw7789612334480417169 : Nat := 0
def PySem.W.Fast.tw3577699009417808270 : Nat := 0
def PySem.W.Fast.tw17132039931218967547 : Nat := 0
def PySem.W.Fast.tw7682894771631937295 : Nat := 0
def PySem.W.Fast.tw10905659787724808620 : Nat := 0
def PySem.W.Fast.tw15261598489707440452 : Nat := 0
def PySem.W.Fast.tw10379274735077935998 : Nat := 0
def PySem.W.Fast.tw13694792972824443670 : Nat := 0
def PySem.W.Fast.tw4840283817709520907 : Nat := 0
def PySem.W.Fast.tw3718470611045099318 : Nat := 0
def PySem.W.Fast.tw18257322327218744430 : Nat := 0
def PySem.W.Fast.tw14199692603254709895 : Nat := 0
def PySem.W.Fast.tw16805002329425841584 : Nat := 0
def PySem.W.Fast.tw3294508077768383804 : Nat := 0
def PySem.W.Fast.tw515609408989799018 : Nat := 0
def PySem.W.Fast.tw1800716248384092606 : Nat := 0
def PySem.W.Fast.tw4763550232206066485 : Nat := 0
def PySem.W.Fast.tw429823736124159135 : Nat := 0
def PySem.W.Fast.tw12269067062217832816 : Nat := 0
def PySem.W.Fast.tw18336773592333276883 : Nat := 0
def PySem.W.Fast.tw15957179200404991270 : Nat := 0
def PySem.W.Fast.tw2962339925163421185 : Nat := 0
def PySem.W.Fast.tw15030921105177747397 : Nat := 0
def PySem.W.Fast.tw10175049114954005656 : Nat := 0
def PySem.W.Fast.tw1507599354655503405 : Nat := 0
def PySem.W.Fast.tw12164899593922283349 : Nat := 0
def PySem.W.Fast.tw16046117027312233335 : Nat := 0
def PySem.W.Fast.tw12141960464158679038 : Nat := 0
def PySem.W.Fast.tw7412098431169203244 : Nat := 0
def PySem.W.Fast.tw13805801291653168477 : Nat := 0
def PySem.W.Fast.tw8968283655639168217 : Nat := 0
def PySem.W.Fast.tw16733273206963342551 : Nat := 0
def PySem.W.Fast.tw7097887238432974450 : Nat := 0
def PySem.W.Fast.tw4954076452989977043 : Nat := 0
def PySem.W.Fast.tw3667161159307052494 : Nat := 0
def PySem.W.Fast.tw4696929721472449742 : Nat := 0
def PySem.W.Fast.tw13964653825199556783 : Nat := 0
def PySem.W.Fast.tw15225757315575237284 : Nat := 0
def PySem.W.Fast.tw7770386369118518728 : Nat := 0
def PySem.W.Fast.tw9813788446616881604 : Nat := 0
def PySem.W.Fast.tw15219379583085577160 : Nat := 0
def PySem.W.Fast.tw10301217108657252956 : Nat := 0
def PySem.W.Fast.tw2327975805205808572 : Nat := 0
def PySem.W.Fast.tw17856699498465656929 : Nat := 0
def PySem.W.Fast.tw17643847626696514905 : Nat := 0
def PySem.W.Fast.tw768379812820983339 : Nat := 0
def PySem.W.Fast.tw3258846787892654616 : Nat := 0
def PySem.W.Fast.tw15248744787380392308 : Nat := 0
def PySem.W.Fast.tw1152451236516382794 : Nat := 0
def PySem.W.Fast.tw4548268003111326713 : Nat := 0
def PySem.W.Fast.tw11514330903808921596 : Nat := 0
def PySem.W.Fast.tw13722127644332523952 : Nat := 0
def PySem.W.Fast.tw9199507823361989383 : Nat := 0
def PySem.W.Fast.tw3571191546483542841 : Nat := 0
def PySem.W.Fast.tw6905410282594059255 : Nat := 0
def PySem.W.Fast.tw10387381389090220994 : Nat := 0
def PySem.W.Fast.tw16819933278745918127 : Nat := 0
def PySem.W.Fast.tw3910855406625706223 : Nat := 0
def PySem.W.Fast.tw9583984572295000823 : Nat := 0
def PySem.W.Fast.tw13297376279221552885 : Nat := 0
def PySem.W.Fast.tw17209115873468388112 : Nat := 0
def PySem.W.Fast.tw8673051774418571804 : Nat := 0
def PySem.W.Fast.tw2410488028812941823 : Nat := 0
def PySem.W.Fast.tw8424072992876929509 : Nat := 0
def PySem.W.Fast.tw11120519508266976654 : Nat := 0
def PySem.W.Fast.tw13728100938419516439 : Nat := 0
def PySem.W.Fast.tw10619682769502468419 : Nat := 0
def PySem.W.Fast.tw2221408442000999150 : Nat := 0
def PySem.W.Fast.tw11062753373921568877 : Nat := 0
def PySem.W.Fast.tw5430206983630279542 : Nat := 0
def PySem.W.Fast.tw7214790045398498483 : Nat := 0
def PySem.W.Fast.tw2277772934402834060 : Nat := 0
def PySem.W.Fast.tw13593619605051444635 : Nat := 0
def PySem.W.Fast.tw11421253636659364960 : Nat := 0
def PySem.W.Fast.tw4147960002892776941 : Nat := 0
def PySem.W.Fast.tw242552887049413719 : Nat := 0
def PySem.W.Fast.tw11042908494639613560 : Nat := 0
def PySem.W.Fast.tw16887041253407900503 : Nat := 0
def PySem.W.Fast.tw13206072879950503431 : Nat := 0
def PySem.W.Fast.tw11019618844833705347 : Nat := 0
def PySem.W.Fast.tw4015055600984815698 : Nat := 0
def PySem.W.Fast.tw1867893281461699662 : Nat := 0
def PySem.W.Fast.tw500126970785251706 : Nat := 0
def PySem.W.Fast.tw13701411123644687504 : Nat := 0
def PySem.W.Fast.tw9708099759163262570 : Nat := 0
def PySem.W.Fast.tw11300384503158934883 : Nat := 0
def PySem.W.Fast.tw13949428178527563890 : Nat := 0
def PySem.W.Fast.tw11561062593606527081 : Nat := 0
def PySem.W.Fast.tw11411559188475675478 : Nat := 0
def PySem.W.Fast.tw15144187650178520524 : Nat := 0
def PySem.W.Fast.tw7370164497638832140 : Nat := 0
def PySem.W.Fast.tw10160424026803086766 : Nat := 0
def PySem.W.Fast.tw9481755152488500742 : Nat := 0
def PySem.W.Fast.tw11538135587641127000 : Nat := 0
def PySem.W.Fast.tw2695624635034718636 : Nat := 0
def PySem.W.Fast.tw15582174854416108369 : Nat := 0
def PySem.W.Fast.tw8524678965588685226 : Nat := 0
def PySem.W.Fast.tw218149989942249067 : Nat := 0
def PySem.W.Fast.tw2615383256049092779 : Nat := 0
def PySem.W.Fast.tw13727416792039133650 : Nat := 0
def PySem.W.Fast.tw6494812973696814517 : Nat := 0
def PySem.W.Fast.tw15100711172337318114 : Nat := 0
def PySem.W.Fast.tw1978576313405463348 : Nat := 0
def PySem.W.Fast.tw10284115677093294545 : Nat := 0
def PySem.W.Fast.tw6038270353589834537 : Nat := 0
def PySem.W.Fast.tw13115950085883378692 : Nat := 0
def PySem.W.Fast.tw6379761486876594845 : Nat := 0
def PySem.W.Fast.tw9640928111579837001 : Nat := 0
def PySem.W.Fast.tw7940265615394458960 : Nat := 0
def PySem.W.Fast.tw11704802297904215539 : Nat := 0
def PySem.W.Fast.tw16871668369655587171 : Nat := 0
def PySem.W.Fast.tw16172464090045061299 : Nat := 0
def PySem.W.Fast.tw8289475318524815612 : Nat := 0
def PySem.W.Fast.tw1508881416712276863 : Nat := 0
def PySem.W.Fast.tw5521296671323524518 : Nat := 0
def PySem.W.Fast.tw7535977631360119642 : Nat := 0
def PySem.W.Fast.tw16193511443501539393 : Nat := 0
def PySem.W.Fast.tw17157962828924211147 : Nat := 0
def PySem.W.Fast.tw12242907650914099721 : Nat := 0
def PySem.W.Fast.tw4394341322860770400 : Nat := 0
def PySem.W.Fast.tw12910183059107062898 : Nat := 0
def PySem.W.Fast.tw1283372067092978236 : Nat := 0
def PySem.W.Fast.tw16924851246968287991 : Nat := 0
def PySem.W.Fast.tw3587902757890012137 : Nat := 0
def PySem.W.Fast.tw1589087702339529550 : Nat := 0
def PySem.W.Fast.tw14707426008603410227 : Nat := 0
def PySem.W.Fast.tw2430762036085350273 : Nat := 0
def PySem.W.Fast.tw1586181571850572963 : Nat := 0
def PySem.W.Fast.tw15701035606350583793 : Nat := 0
def PySem.W.Fast.tw4066264884777810628 : Nat := 0
def PySem.W.Fast.tw808072879897653118 : Nat := 0
def PySem.W.Fast.tw15963572380533425332 : Nat := 0
def PySem.W.Fast.tw4909275608165692809 : Nat := 0
def PySem.W.Fast.tw13083040572106402921 : Nat := 0
def PySem.W.Fast.tw12775540797440135145 : Nat := 0
def PySem.W.Fast.tw4996618329042235500 : Nat := 0
def PySem.W.Fast.tw13416536932373701531 : Nat := 0
def PySem.W.Fast.tw7044169309181573424 : Nat := 0
def PySem.W.Fast.tw13724368255298535352 : Nat := 0
def PySem.W.Fast.tw8967197313619565770 : Nat := 0
def PySem.W.Fast.tw4174743506509230208 : Nat := 0
def PySem.W.Fast.tw398171497003308494 : Nat := 0
def PySem.W.Fast.tw9079685517538014437 : Nat := 0
def PySem.W.Fast.tw16299502806353170441 : Nat := 0
def PySem.W.Fast.tw10752193617754173293 : Nat := 0
def PySem.W.Fast.tw2653258283194077800 : Nat := 0
def PySem.W.Fast.tw5219949598842308187 : Nat := 0
def PySem.W.Fast.tw3660764709526090869 : Nat := 0
def PySem.W.Fast.tw16703695473409964 : Nat := 0
def PySem.W.Fast.tw18326154332875866709 : Nat := 0
def PySem.W.Fast.tw6654197511493608714 : Nat := 0
def PySem.W.Fast.tw15467018820266099940 : Nat := 0
def PySem.W.Fast.tw8832122714282743313 : Nat := 0
def PySem.W.Fast.tw7634987513668245434 : Nat := 0
def PySem.W.Fast.tw16349557123871273154 : Nat := 0
def PySem.W.Fast.tw6235992246250308600 : Nat := 0
def PySem.W.Fast.tw2403025762770261789 : Nat := 0
def PySem.W.Fast.tw14875921746827201697 : Nat := 0
def PySem.W.Fast.tw5592055252277525341 : Nat := 0
def PySem.W.Fast.tw15896155862931786797 : Nat := 0
def PySem.W.Fast.tw7178066313249697304 : Nat := 0
def PySem.W.Fast.tw3016520171198598067 : Nat := 0
def PySem.W.Fast.tw4932589559183238049 : Nat := 0
def PySem.W.Fast.tw11058358654768687397 : Nat := 0
def PySem.W.Fast.tw2659882647650616482 : Nat := 0
def PySem.W.Fast.tw9576436645784254138 : Nat := 0
def PySem.W.Fast.tw4855657499534039861 : Nat := 0
def PySem.W.Fast.tw14327600891638929591 : Nat := 0
def PySem.W.Fast.tw15389320948353457634 : Nat := 0
def PySem.W.Fast.tw3368514254235826716 : Nat := 0
def PySem.W.Fast.tw13311312849534384959 : Nat := 0
def PySem.W.Fast.tw9417601701530615326 : Nat := 0
def PySem.W.Fast.tw6471010205028622870 : Nat := 0
def PySem.W.Fast.tw535531777603583683 : Nat := 0
def PySem.W.Fast.tw3572182223688996830 : Nat := 0
def PySem.W.Fast.tw6641350846019279005 : Nat := 0
def PySem.W.Fast.tw2854909345403948508 : Nat := 0
def PySem.W.Fast.tw11841763934522173144 : Nat := 0
def PySem.W.Fast.tw2631689505434661703 : Nat := 0
def PySem.W.Fast.tw16963774843298799537 : Nat := 0
def PySem.W.Fast.tw2840498280905162215 : Nat := 0
def PySem.W.Fast.tw15225130052868321765 : Nat := 0
def PySem.W.Fast.tw8923665995523943172 : Nat := 0
def PySem.W.Fast.tw4787249191666996023 : Nat := 0
def PySem.W.Fast.tw18096662183240346372 : Nat := 0
def PySem.W.Fast.tw12922215280540011827 : Nat := 0
def PySem.W.Fast.tw1995200972822720685 : Nat := 0
def PySem.W.Fast.tw10654844672684118416 : Nat := 0
def PySem.W.Fast.tw16454533669279426169 : Nat := 0
def PySem.W.Fast.tw7745090018439383706 : Nat := 0
def PySem.W.Fast.tw12374233749117309447 : Nat := 0
def PySem.W.Fast.tw6817556970442739649 : Nat := 0
def PySem.W.Fast.tw14500450135915851940 : Nat := 0
def PySem.W.Fast.tw13616645695334416370 : Nat := 0
def PySem.W.Fast.tw17987632800194702393 : Nat := 0
def PySem.W.Fast.tw949369829464127539 : Nat := 0
def PySem.W.Fast.tw11432651216876767326 : Nat := 0
def PySem.W.Fast.tw3909525643852328309 : Nat := 0
def PySem.W.Fast.tw2932359628187502968 : Nat := 0
def PySem.W.Fast.tw14609125587029179481 : Nat := 0
def PySem.W.Fast.tw15693029182660394773 : Nat := 0
def PySem.W.Fast.tw1625239694854294669 : Nat := 0
def PySem.W.Fast.tw16927256867166416924 : Nat := 0
def PySem.W.Fast.tw14674597390664644588 : Nat := 0
def PySem.W.Fast.tw1964251876513203233 : Nat := 0
def PySem.W.Fast.tw17875865557914069065 : Nat := 0
def PySem.W.Fast.tw17842485449529901047 : Nat := 0
def PySem.W.Fast.tw11925887921410484425 : Nat := 0
def PySem.W.Fast.tw12887694624836606758 : Nat := 0
def PySem.W.Fast.tw14739006256992583427 : Nat := 0
def PySem.W.Fast.tw4228708013539458601 : Nat := 0
def PySem.W.Fast.tw5301614792879803335 : Nat := 0
def PySem.W.Fast.tw3441863124258554604 : Nat := 0
def PySem.W.Fast.tw16311777897565678611 : Nat := 0
def PySem.W.Fast.tw6300949476484691886 : Nat := 0
def PySem.W.Fast.tw10225624705922881999 : Nat := 0
def PySem.W.Fast.tw3775274655509744722 : Nat := 0
def PySem.W.Fast.tw3854142452873639507 : Nat := 0
def PySem.W.Fast.tw8762367730141226333 : Nat := 0
def PySem.W.Fast.tw1768569617506946621 : Nat := 0
def PySem.W.Fast.tw1473476022998308099 : Nat := 0
def PySem.W.Fast.tw12397094339779875104 : Nat := 0
def PySem.W.Fast.tw11769287400619881407 : Nat := 0
def PySem.W.Fast.tw14808846049067387561 : Nat := 0
def PySem.W.Fast.tw3440552466059798845 : Nat := 0
def PySem.W.Fast.tw6786303583262474391 : Nat := 0
def PySem.W.Fast.tw18269845795460033775 : Nat := 0
def PySem.W.Fast.tw140109602264938920 : Nat := 0
def PySem.W.Fast.tw11012771480124431588 : Nat := 0
def PySem.W.Fast.tw8055652208789248382 : Nat := 0
def PySem.W.Fast.tw3703341133133386398 : Nat := 0
def PySem.W.Fast.tw17879773068574463358 : Nat := 0
def PySem.W.Fast.tw2930647579367155565 : Nat := 0
def PySem.W.Fast.tw12135862326612739628 : Nat := 0
def PySem.W.Fast.tw6064121456134660117 : Nat := 0
def PySem.W.Fast.tw13055393202547918032 : Nat := 0
def PySem.W.Fast.tw1770325850438472501 : Nat := 0
def PySem.W.Fast.tw18086653465125171421 : Nat := 0
def PySem.W.Fast.tw1100225113398350035 : Nat := 0
def PySem.W.Fast.tw16043787172677254765 : Nat := 0
def PySem.W.Fast.tw1517310377073184799 : Nat := 0
def PySem.W.Fast.tw4121994774771885338 : Nat := 0
def PySem.W.Fast.tw7737103258823638315 : Nat := 0
def PySem.W.Fast.tw18292643391091717403 : Nat := 0
def PySem.W.Fast.tw11511735840905028817 : Nat := 0
def PySem.W.Fast.tw13340720003382179018 : Nat := 0
def PySem.W.Fast.tw4504036363561561685 : Nat := 0
def PySem.W.Fast.tw7761317149560883539 : Nat := 0
def PySem.W.Fast.tw245366853601339846 : Nat := 0
def PySem.W.Fast.tw7768777999430090132 : Nat := 0
def PySem.W.Fast.tw17598038094322606065 : Nat := 0
def PySem.W.Fast.tw123271538855190103 : Nat := 0
def PySem.W.Fast.tw11229538627678684314 : Nat := 0
def PySem.W.Fast.tw5003979663222627466 : Nat := 0
def PySem.W.Fast.tw8764233196815183481 : Nat := 0
def PySem.W.Fast.tw8235019365850092527 : Nat := 0
def PySem.W.Fast.tw1222371493846749939 : Nat := 0
def PySem.W.Fast.tw4051983682052054718 : Nat := 0
def PySem.W.Fast.tw9586426735468041381 : Nat := 0
def PySem.W.Fast.tw4823317471095291996 : Nat := 0
def PySem.W.Fast.tw14801409381898664275 : Nat := 0
def PySem.W.Fast.tw13589344261584898760 : Nat := 0
def PySem.W.Fast.tw10799302622940491853 : Nat := 0
def PySem.W.Fast.tw10032941838680960511 : Nat := 0
def PySem.W.Fast.tw2744802470455238155 : Nat := 0
def PySem.W.Fast.tw14385994880308321898 : Nat := 0
def PySem.W.Fast.tw4378239248131288784 : Nat := 0
def PySem.W.Fast.tw2253669620000447766 : Nat := 0
def PySem.W.Fast.tw7417531469327633763 : Nat := 0
def PySem.W.Fast.tw8561539448167014214 : Nat := 0
def PySem.W.Fast.tw6805654341736073264 : Nat := 0
def PySem.W.Fast.tw11284898794472707436 : Nat := 0
def PySem.W.Fast.tw9175331072593596270 : Nat := 0
def PySem.W.Fast.tw7623760267359072596 : Nat := 0
def PySem.W.Fast.tw11965771930579737124 : Nat := 0
def PySem.W.Fast.tw6089195705121080150 : Nat := 0
def PySem.W.Fast.tw14633478587170880129 : Nat := 0
def PySem.W.Fast.tw193263399602197043 : Nat := 0
def PySem.W.Fast.tw168914114656303384 : Nat := 0
def PySem.W.Fast.tw15965257899199470813 : Nat := 0
def PySem.W.Fast.tw286974540015622716 : Nat := 0
def PySem.W.Fast.tw7140702169824793520 : Nat := 0
def PySem.W.Fast.tw7035024818273092388 : Nat := 0
def PySem.W.Fast.tw843646047087607809 : Nat := 0
def PySem.W.Fast.tw8756993934172303621 : Nat := 0
def PySem.W.Fast.tw3990058740436067825 : Nat := 0
def PySem.W.Fast.tw693751400894052899 : Nat := 0
def PySem.W.Fast.tw6088476302558199657 : Nat := 0
def PySem.W.Fast.tw30822932643556034 : Nat := 0
def PySem.W.Fast.tw4837629807067251739 : Nat := 0
def PySem.W.Fast.tw17881370747522336372 : Nat := 0
def PySem.W.Fast.tw15211441993879844462 : Nat := 0
def PySem.W.Fast.tw8145907820175764301 : Nat := 0
def PySem.W.Fast.tw10127616981405552209 : Nat := 0
def PySem.W.Fast.tw5787403208350804521 : Nat := 0
def PySem.W.Fast.tw4283254121255017801 : Nat := 0
def PySem.W.Fast.tw2516590745005530657 : Nat := 0
def PySem.W.Fast.tw14807660171004043411 : Nat := 0
def PySem.W.Fast.tw17910566478611828254 : Nat := 0
def PySem.W.Fast.tw11023504568385030892 : Nat := 0
def PySem.W.Fast.tw4529467483202062205 : Nat := 0
def PySem.W.Fast.tw9636414519405013658 : Nat := 0
def PySem.W.Fast.tw18416779872299275635 : Nat := 0
def PySem.W.Fast.tw5800296437231626476 : Nat := 0
def PySem.W.Fast.tw13633506849080507712 : Nat := 0
def PySem.W.Fast.tw14353721721573104117 : Nat := 0
def PySem.W.Fast.tw12169593018145209474 : Nat := 0
def PySem.W.Fast.tw13401131346559819348 : Nat := 0
def PySem.W.Fast.tw8550596556238847615 : Nat := 0
def PySem.W.Fast.tw13795524103430490067 : Nat := 0
def PySem.W.Fast.tw15419064539236286898 : Nat := 0
def PySem.W.Fast.tw1555096283988659602 : Nat := 0
def PySem.W.Fast.tw7746337781727051102 : Nat := 0
def PySem.W.Fast.tw3314915310625713850 : Nat := 0
def PySem.W.Fast.tw9008883050457663579 : Nat := 0
def PySem.W.Fast.tw17797156132197070399 : Nat := 0
def PySem.W.Fast.tw13410056926529617568 : Nat := 0
def PySem.W.Fast.tw6883635642440222133 : Nat := 0
def PySem.W.Fast.tw11294197394797848549 : Nat := 0
def PySem.W.Fast.tw16925873756477212002 : Nat := 0
def PySem.W.Fast.tw10583020950581195412 : Nat := 0
def PySem.W.Fast.tw5685697399052352144 : Nat := 0
def PySem.W.Fast.tw11614787350562290298 : Nat := 0
def PySem.W.Fast.tw281472236084583255 : Nat := 0
def PySem.W.Fast.tw11133017662997948460 : Nat := 0
def PySem.W.Fast.tw13968092205243119366 : Nat := 0
def PySem.W.Fast.tw9706957027579682268 : Nat := 0
def PySem.W.Fast.tw4782912347242088654 : Nat := 0
def PySem.W.Fast.tw12529756498487595866 : Nat := 0
def PySem.W.Fast.tw13677800047999775312 : Nat := 0
def PySem.W.Fast.tw13177582348175360893 : Nat := 0
def PySem.W.Fast.tw7311479525348233928 : Nat := 0
def PySem.W.Fast.tw695687232429278683 : Nat := 0
def PySem.W.Fast.tw10650797631596952389 : Nat := 0
def PySem.W.Fast.tw13047871749923861460 : Nat := 0
def PySem.W.Fast.tw11658689835030579221 : Nat := 0
def PySem.W.Fast.tw5282989098100119948 : Nat := 0
def PySem.W.Fast.tw10674359675203935070 : Nat := 0
def PySem.W.Fast.tw8376090458521949062 : Nat := 0
def PySem.W.Fast.tw2917074683009406742 : Nat := 0
def PySem.W.Fast.tw18341123461221286121 : Nat := 0
def PySem.W.Fast.tw14623976185048172479 : Nat := 0
def PySem.W.Fast.tw18270567313478052756 : Nat := 0
def PySem.W.Fast.tw3236939002160613530 : Nat := 0
def PySem.W.Fast.tw13161706628872328865 : Nat := 0
def PySem.W.Fast.tw4497666320548201051 : Nat := 0
def PySem.W.Fast.tw12376356304094762839 : Nat := 0
def PySem.W.Fast.tw11927894323878760579 : Nat := 0
def PySem.W.Fast.tw6781943584286183516 : Nat := 0
def PySem.W.Fast.tw7971603737999998272 : Nat := 0
def PySem.W.Fast.tw6948530793108578065 : Nat := 0
def PySem.W.Fast.tw6895388940761675277 : Nat := 0
def PySem.W.Fast.tw15958407702705590825 : Nat := 0
def PySem.W.Fast.tw11833703126153800714 : Nat := 0
def PySem.W.Fast.tw15174997104946966143 : Nat := 0
def PySem.W.Fast.tw10561429694757076576 : Nat := 0
def PySem.W.Fast.tw755426146869411481 : Nat := 0
def PySem.W.Fast.tw9226111714345588446 : Nat := 0
def PySem.W.Fast.tw7456942566767199211 : Nat := 0
def PySem.W.Fast.tw17312945374086632856 : Nat := 0
def PySem.W.Fast.tw5404420257074849022 : Nat := 0
def PySem.W.Fast.tw18026950935817333788 : Nat := 0
def PySem.W.Fast.tw12327471985297763839 : Nat := 0
def PySem.W.Fast.tw12466406989023543609 : Nat := 0
def PySem.W.Fast.tw2424913250508723317 : Nat := 0
def PySem.W.Fast.tw15310836316494112400 : Nat := 0
def PySem.W.Fast.tw1489553944903390800 : Nat := 0
def PySem.W.Fast.tw6199791855569880492 : Nat := 0
def PySem.W.Fast.tw7134575261503984013 : Nat := 0
def PySem.W.Fast.tw9335745810551707160 : Nat := 0
def PySem.W.Fast.tw10093841123786013761 : Nat := 0
def PySem.W.Fast.tw15690577270929533843 : Nat := 0
def PySem.W.Fast.tw5896825991300905869 : Nat := 0
def PySem.W.Fast.tw12619449501402419892 : Nat := 0
def PySem.W.Fast.tw522858036788450601 : Nat := 0
def PySem.W.Fast.tw141842052299267587 : Nat := 0
def PySem.W.Fast.tw9290019917256335937 : Nat := 0
def PySem.W.Fast.tw1836534952993335351 : Nat := 0
def PySem.W.Fast.tw17058360736248438077 : Nat := 0
def PySem.W.Fast.tw18028882708921146121 : Nat := 0
def PySem.W.Fast.tw8373458471941205316 : Nat := 0
def PySem.W.Fast.tw16620527867618729474 : Nat := 0
def PySem.W.Fast.tw14704985641512908211 : Nat := 0
def PySem.W.Fast.tw16797661666846341535 : Nat := 0
def PySem.W.Fast.tw6885464524635809429 : Nat := 0
def PySem.W.Fast.tw3642109086890524063 : Nat := 0
def PySem.W.Fast.tw2140446831655871781 : Nat := 0
def PySem.W.Fast.tw3445749517969647798 : Nat := 0
def PySem.W.Fast.tw2784228107361876789 : Nat := 0
def PySem.W.Fast.tw4701793247943629766 : Nat := 0
def PySem.W.Fast.tw1324815719171963100 : Nat := 0
def PySem.W.Fast.tw3591563967739107537 : Nat := 0
def PySem.W.Fast.tw4625542623135748475 : Nat := 0
def PySem.W.Fast.tw15141088227929352565 : Nat := 0
def PySem.W.Fast.tw1854147274664223524 : Nat := 0
def PySem.W.Fast.tw3451081060746885375 : Nat := 0
def PySem.W.Fast.tw8387757005182452081 : Nat := 0
def PySem.W.Fast.tw7895989166280133018 : Nat := 0
def PySem.W.Fast.tw2286584833894582097 : Nat := 0
def PySem.W.Fast.tw7025124279468569444 : Nat := 0
def PySem.W.Fast.tw1758135770021706524 : Nat := 0
def PySem.W.Fast.tw15340337003930475707 : Nat := 0
def PySem.W.Fast.tw6351344156076107620 : Nat := 0
def PySem.W.Fast.tw11610601149578344854 : Nat := 0
def PySem.W.Fast.tw8248367410418800221 : Nat := 0
def PySem.W.Fast.tw11299093411867455031 : Nat := 0
def PySem.W.Fast.tw17541318819464371358 : Nat := 0
def PySem.W.Fast.tw8622274061789658882 : Nat := 0
def PySem.W.Fast.tw7598031029398476664 : Nat := 0
def PySem.W.Fast.tw8727243532254239114 : Nat := 0
def PySem.W.Fast.tw15458452266805569172 : Nat := 0
def PySem.W.Fast.tw4222976800404208098 : Nat := 0
def PySem.W.Fast.tw3108186139677932554 : Nat := 0
def PySem.W.Fast.tw13911365725931782452 : Nat := 0
def PySem.W.Fast.tw17809414093023876780 : Nat := 0
def PySem.W.Fast.tw4916938060828119870 : Nat := 0
def PySem.W.Fast.tw5446261888498414396 : Nat := 0
def PySem.W.Fast.tw18260225655092262633 : Nat := 0
def PySem.W.Fast.tw14530684434236952270 : Nat := 0
def PySem.W.Fast.tw5852494233522707914 : Nat := 0
def PySem.W.Fast.tw3584296531549483840 : Nat := 0
def PySem.W.Fast.tw4467516013078310371 : Nat := 0
def PySem.W.Fast.tw15632474948161620052 : Nat := 0
def PySem.W.Fast.tw8824208371328161336 : Nat := 0
def PySem.W.Fast.tw4322882333630029845 : Nat := 0
def PySem.W.Fast.tw4259770577265464003 : Nat := 0
def PySem.W.Fast.tw14064620509375366910 : Nat := 0
def PySem.W.Fast.tw15017270679676478007 : Nat := 0
def PySem.W.Fast.tw3879344765022929413 : Nat := 0
def PySem.W.Fast.tw6077119051677895189 : Nat := 0
def PySem.W.Fast.tw14699734287061886845 : Nat := 0
def PySem.W.Fast.tw7661900280350319710 : Nat := 0
def PySem.W.Fast.tw12255469235553156408 : Nat := 0
def PySem.W.Fast.tw14191098393563646413 : Nat := 0
def PySem.W.Fast.tw9823794331040719620 : Nat := 0
def PySem.W.Fast.tw12579314643778474843 : Nat := 0
def PySem.W.Fast.tw6553897401008235672 : Nat := 0
def PySem.W.Fast.tw6380182080653255315 : Nat := 0
def PySem.W.Fast.tw10393030342993943937 : Nat := 0
def PySem.W.Fast.tw9406576566752397930 : Nat := 0
def PySem.W.Fast.tw16867375518255197642 : Nat := 0
def PySem.W.Fast.tw10572804821809055047 : Nat := 0
def PySem.W.Fast.tw11943041737815194807 : Nat := 0
def PySem.W.Fast.tw16658864943411906028 : Nat := 0
def PySem.W.Fast.tw7566024468402125480 : Nat := 0
def PySem.W.Fast.tw10887369858219988220 : Nat := 0
def PySem.W.Fast.tw5065372690577470298 : Nat := 0
def PySem.W.Fast.tw18216241585350597392 : Nat := 0
def PySem.W.Fast.tw10739221907360245574 : Nat := 0
def PySem.W.Fast.tw3935012854127144641 : Nat := 0
def PySem.W.Fast.tw9324370749405728024 : Nat := 0
def PySem.W.Fast.tw9920301007461790951 : Nat := 0
def PySem.W.Fast.tw13248104810811166653 : Nat := 0
def PySem.W.Fast.tw11746635811414599127 : Nat := 0
def PySem.W.Fast.tw16985328534585182766 : Nat := 0
def PySem.W.Fast.tw11479587251639400028 : Nat := 0
def PySem.W.Fast.tw14909395970744965810 : Nat := 0
def PySem.W.Fast.tw8834855304540207297 : Nat := 0
def PySem.W.Fast.tw8238803427163223094 : Nat := 0
def PySem.W.Fast.tw10050971636760578789 : Nat := 0
def PySem.W.Fast.tw1514100075302055149 : Nat := 0
def PySem.W.Fast.tw8706952021970725611 : Nat := 0
def PySem.W.Fast.tw7049588378511436059 : Nat := 0
def PySem.W.Fast.tw17045249549356748616 : Nat := 0
def PySem.W.Fast.tw5678800848216929770 : Nat := 0
def PySem.W.Fast.tw9913252236941243198 : Nat := 0
def PySem.W.Fast.tw6645156593465030485 : Nat := 0
def PySem.W.Fast.tw8832350562956945121 : Nat := 0
def PySem.W.Fast.tw598519033958323852 : Nat := 0
def PySem.W.Fast.tw10161676524524266690 : Nat := 0
def PySem.W.Fast.tw8613118251941098764 : Nat := 0
def PySem.W.Fast.tw8546954284986153337 : Nat := 0
def PySem.W.Fast.tw9805752988299897536 : Nat := 0
def PySem.W.Fast.tw6448099795107528026 : Nat := 0
def PySem.W.Fast.tw16817151916028331407 : Nat := 0
def PySem.W.Fast.tw17973365954884062840 : Nat := 0
def PySem.W.Fast.tw17689478471196477806 : Nat := 0
def PySem.W.Fast.tw3692953411610554805 : Nat := 0
def PySem.W.Fast.tw12325961894877695795 : Nat := 0
def PySem.W.Fast.tw5572548964357586848 : Nat := 0
def PySem.W.Fast.tw18343047257267209416 : Nat := 0
def PySem.W.Fast.tw15919889950651166567 : Nat := 0
def PySem.W.Fast.tw15811476372960382300 : Nat := 0
def PySem.W.Fast.tw8878876330940922961 : Nat := 0
def PySem.W.Fast.tw17353830879466947904 : Nat := 0
def PySem.W.Fast.tw15011011286966478064 : Nat := 0
def PySem.W.Fast.tw2183705820463790727 : Nat := 0
def PySem.W.Fast.tw4874284938688652706 : Nat := 0
def PySem.W.Fast.tw16476503238676289168 : Nat := 0
def PySem.W.Fast.tw6824026555970807696 : Nat := 0
def PySem.W.Fast.tw9761629557663223289 : Nat := 0
def PySem.W.Fast.tw8154619068235924802 : Nat := 0
def PySem.W.Fast.tw1632789473362624997 : Nat := 0
def PySem.W.Fast.tw17894136805241012202 : Nat := 0
def PySem.W.Fast.tw1467054814690271138 : Nat := 0
def PySem.W.Fast.tw17500320001979935029 : Nat := 0
def PySem.W.Fast.tw13005896344522281179 : Nat := 0
def PySem.W.Fast.tw8795086084417265962 : Nat := 0
def PySem.W.Fast.tw11432126019714346008 : Nat := 0
def PySem.W.Fast.tw12953491998438200517 : Nat := 0
def PySem.W.Fast.tw13094783094147982078 : Nat := 0
def PySem.W.Fast.tw4972117099133610299 : Nat := 0
def PySem.W.Fast.tw9507849516583621330 : Nat := 0
def PySem.W.Fast.tw16365399674082365503 : Nat := 0
def PySem.W.Fast.tw535061422651386132 : Nat := 0
def PySem.W.Fast.tw9322823866625084702 : Nat := 0
def PySem.W.Fast.tw14081710757205821550 : Nat := 0
def PySem.W.Fast.tw16505302021034985554 : Nat := 0
def PySem.W.Fast.tw17325532101975015885 : Nat := 0
def PySem.W.Fast.tw10279127506070735026 : Nat := 0
def PySem.W.Fast.tw2226880301599342005 : Nat := 0
def PySem.W.Fast.tw1762103253989655409 : Nat := 0
def PySem.W.Fast.tw1523720919096431421 : Nat := 0
def PySem.W.Fast.tw15028564214249721509 : Nat := 0
def PySem.W.Fast.tw12638450362051483773 : Nat := 0
def PySem.W.Fast.tw16047275796382638569 : Nat := 0
def PySem.W.Fast.tw13185240206151321624 : Nat := 0
def PySem.W.Fast.tw8251067577753635983 : Nat := 0
def PySem.W.Fast.tw1821800746364493814 : Nat := 0
def PySem.W.Fast.tw2302382600640136406 : Nat := 0
def PySem.W.Fast.tw5035919438214953478 : Nat := 0
def PySem.W.Fast.tw15585470286557092317 : Nat := 0
def PySem.W.Fast.tw7661441617881058668 : Nat := 0
def PySem.W.Fast.tw16602752483645396810 : Nat := 0
def PySem.W.Fast.tw18699570162787460 : Nat := 0
def PySem.W.Fast.tw8199752258374466611 : Nat := 0
def PySem.W.Fast.tw8958930876614483223 : Nat := 0
def PySem.W.Fast.tw3029897925020714755 : Nat := 0
def PySem.W.Fast.tw1083469509277721763 : Nat := 0
def PySem.W.Fast.tw2128232803737817800 : Nat := 0
def PySem.W.Fast.tw17880132848438472484 : Nat := 0
def PySem.W.Fast.tw384932283096944757 : Nat := 0
def PySem.W.Fast.tw5984349996832204342 : Nat := 0
def PySem.W.Fast.tw13292088946590498023 : Nat := 0
def PySem.W.Fast.tw13660454841180705266 : Nat := 0
def PySem.W.Fast.tw105502348391941070 : Nat := 0
def PySem.W.Fast.tw16280523125588813207 : Nat := 0
def PySem.W.Fast.tw8202110848844419250 : Nat := 0
def PySem.W.Fast.tw8054365884075058462 : Nat := 0
def PySem.W.Fast.tw2425294288239382263 : Nat := 0
def PySem.W.Fast.tw3908485506887961903 : Nat := 0
def PySem.W.Fast.tw7967747483737332604 : Nat := 0
def PySem.W.Fast.tw14218390456528895103 : Nat := 0
def PySem.W.Fast.tw8197119781310569051 : Nat := 0
def PySem.W.Fast.tw3951932447890529512 : Nat := 0
def PySem.W.Fast.tw921258589229864003 : Nat := 0
def PySem.W.Fast.tw13597144675876196450 : Nat := 0
def PySem.W.Fast.tw17998395636867242022 : Nat := 0
def PySem.W.Fast.tw9895035304238137945 : Nat := 0
def PySem.W.Fast.tw9580377837619048100 : Nat := 0
def PySem.W.Fast.tw6467865076226016146 : Nat := 0
def PySem.W.Fast.tw13130123732195558678 : Nat := 0
def PySem.W.Fast.tw6506657015731756771 : Nat := 0
def PySem.W.Fast.tw15444772447095020525 : Nat := 0
def PySem.W.Fast.tw13268179289663805122 : Nat := 0
def PySem.W.Fast.tw4284681413894124922 : Nat := 0
def PySem.W.Fast.tw3369743990786561819 : Nat := 0
def PySem.W.Fast.tw2672303599403304206 : Nat := 0
def PySem.W.Fast.tw3648556676691077407 : Nat := 0
def PySem.W.Fast.tw12076906255807564019 : Nat := 0
def PySem.W.Fast.tw7192466675920538614 : Nat := 0
def PySem.W.Fast.tw4681217638256874892 : Nat := 0
def PySem.W.Fast.tw71177793285909528 : Nat := 0
def PySem.W.Fast.tw2678088346977573118 : Nat := 0
def PySem.W.Fast.tw13588155207183319106 : Nat := 0
def PySem.W.Fast.tw10917829897139485938 : Nat := 0
def PySem.W.Fast.tw3639311454343726558 : Nat := 0
def PySem.W.Fast.tw9817087138814918833 : Nat := 0
def PySem.W.Fast.tw2669187083809082586 : Nat := 0
def PySem.W.Fast.tw5735602244286403190 : Nat := 0
def PySem.W.Fast.tw16481630937225812289 : Nat := 0
def PySem.W.Fast.tw5776684101849428755 : Nat := 0
def PySem.W.Fast.tw10620415813146781109 : Nat := 0
def PySem.W.Fast.tw4453220833772101557 : Nat := 0
def PySem.W.Fast.tw10368335807533417483 : Nat := 0
def PySem.W.Fast.tw14068785582704462568 : Nat := 0
def PySem.W.Fast.tw10383126844202000474 : Nat := 0
def PySem.W.Fast.tw3753670220343704851 : Nat := 0
def PySem.W.Fast.tw11912286457816943492 : Nat := 0
open_top k07_head for PySem.Challenge.rw_betstall_k07_houses_or_not
set_option linter.all false
set_option maxHeartbeats 1000000
set_option exponentiation.threshold 100000
namespace B2
open PySem PySem.Spec L2 PyProof.Rows
structure Gd (k : Nat) (A : Around) : Prop where
  no : A.guards = some []
  far : A.depth + 3 * k + 150 < recursionLimit
theorem Gd.mono {j k : Nat} {A : Around} (g : Gd k A) (h : j ≤ k) : Gd j A := ⟨g.no, by have := g.far; omega⟩
theorem Gd.deeper {k : Nat} {A : Around} (g : Gd (k + 1) A) (env : Env) : Gd k (A.deeper env) := ⟨g.no, by have := g.far; show A.depth + 1 + 3 * k + 150 < _; omega⟩
structure Sr (P : Program) (base : Heap) : Prop where
  tree : P.given.tree = none
  seer : base.NoSeer
structure FnG (P : Program) (w : World) (K : PySem.W.Frag) (mg : Str → Option Value) (base : Heap) (CX : CXT) (k : Nat) (f : Addr) (fd : FuncData) (ps : List Str) (sp : Sp) : Prop where
  many : ∀ vs H Q E, sp vs H Q E → vs.length = ps.length
  go : ∀ (A : Around), Gd k A → Room k A → ∀ (up : List Env) (s : Shared) (H : Hp) (args : Args) (us : List Value) (vs : List V) (Q : VK) (E : XK), Env0 P w K mg base A up s H →
    BindsTo s fd args (ps.zip us) → Vals vs us → sp vs H Q E → codeAny (model P w) A (.call (.ref f) args) (CR CX up P w H s Q E) s
section
variable {P : Program} {w : World} {K : PySem.W.Frag} {mg : Str → Option Value} {base : Heap} {CX : CXT} {k : Nat} {f : Addr} {fd : FuncData} {ps : List Str} {sp : Sp}
theorem FnG.of (F : FnOk P w K mg base CX k f fd ps sp) : FnG P w K mg base CX k f fd ps sp := ⟨F.len, fun A _ hr up s H args us vs Q E e b v h => F.run A up s H args us vs Q E hr e b v h⟩
theorem fnG_of {q : Str} {params : Arguments} {body : List Stmt} {scope : Scope} {dV kV doc pm cdv ct oc : Value} {an od : Option Addr} {osl : Array (Option Value)} {nm : Str} {N : List Str}
    (at_ : K.lookup f = some ⟨oc, od, .func (PySem.W.fnOf nm q params body scope dV kV doc pm an cdv ct), osl⟩) (code : PySem.W.codeIn K cdv q = true) (S : FnScope N ps scope) (many : ∀ vs H Q E, sp vs H Q E → vs.length = ps.length)
    (inner : ∀ (A : Around) (up : List Env) (s : Shared) (H : Hp) (vs : List V) (Q : VK) (E : XK), Room k (A.deeper (envOfC q scope s.heap.objs.size f cdv)) → Gd k (A.deeper (envOfC q scope s.heap.objs.size f cdv)) → sp vs H Q E →
      ∃ t, PSs (cxOf CX P w K mg base N q scope f cdv A up s H E) body t ∧ t { nx := fun _ H' => Q .non H', rt := Q } (L2.start N vs) H) :
    FnG P w K mg base CX (k + 1) f (PySem.W.fnOf nm q params body scope dV kV doc pm an cdv ct) ps sp := by
  refine ⟨many, fun A gd room up s H args us vs Q E en binds rel wish => ?_⟩
  have cnt := many _ _ _ _ wish
  have inK : K.In s.heap := en.mod.kin.keeps fun b o z => (en.bs b o z).1
  have free : s.heap.NoLimit := en.mod.nolimit.keeps fun b o z => (en.bs b o z).1
  have kinds : ∀ y ∈ ps.zip us, scope.names.lookup y.1 = some .local ∨ (scope.names.lookup y.1 = some .cell ∧ ((cellsFrom (s.heap.objs.size + 1) scope.names []).lookup y.1).isSome = true) := by
    rintro ⟨n, v⟩ mem
    exact (S.par n (List.of_mem_zip mem).1).imp id fun z => ⟨z, PySem.W.cellsFrom_some _ _ _ (.inl z)⟩
  refine codeAny_call_function room.depth (inK _ _ at_) rfl S.co S.gen rfl (PySem.W.codeRec_of inK code) (binds _ _ _ _ ?_)
  refine wpAny_newFunctionEnv_cells S.kind kinds fun env same s1 x => ?_
  cases same
  refine ⟨free.keeps x.toInCall.keep, codeAny_func ?_⟩
  obtain ⟨t, run, ends⟩ := inner A up s H vs Q E (room.deeper _) (gd.deeper _) wish
  have I := inv_start (CX := CX) (E := E) S room.hd en cnt rel x
  refine wpAny_mono (run.run [] s1 (L2.start N vs) H _ I ends) ?_ (fun _ _ z => z)
  rintro (_ | _ | _ | u) s' z
  · obtain ⟨σ', H', J, q⟩ := z
    exact ⟨.non, H', J.os, J.bare, J.base, J.hok, rfl, q⟩
  · exact z.elim fun _ z => z.elim fun _ z => z.2.elim
  · exact z.elim fun _ z => z.elim fun _ z => z.2.elim
  · obtain ⟨v, σ', H', J, r, q⟩ := z
    exact ⟨v, H', J.os, J.bare, J.base, J.hok, r, q⟩
theorem FunG.ok {x q : Str} {st : Stmt} {N : List Str} (F : Fun K x q st f fd) (S : FnScope N ps (defScope st)) (many : ∀ vs H Q E, sp vs H Q E → vs.length = ps.length)
    (inner : ∀ (cdv : Value) (A : Around) (up : List Env) (s : Shared) (H : Hp) (vs : List V) (Q : VK) (E : XK), Room k (A.deeper (envOfC q (defScope st) s.heap.objs.size f cdv)) → Gd k (A.deeper (envOfC q (defScope st) s.heap.objs.size f cdv)) → sp vs H Q E →
      ∃ t, PSs (cxOf CX0 P w K mg base N q (defScope st) f cdv A up s H E).nox (defBody st) t ∧ t { nx := fun _ H' => Q .non H', rt := Q } (L2.start N vs) H) : FnG P w K mg base CX0 (k + 1) f fd ps sp := by
  obtain ⟨oc, od, kV, doc, pm, an, cdv, ct, osl, rfl, at_, code⟩ := F.ex
  refine fnG_of at_ code S many fun A up s H vs Q E room gd wish => ?_
  obtain ⟨t, a, b⟩ := inner cdv A up s H vs Q E room gd wish
  exact ⟨t, a.nox, b⟩
theorem FunG.okX {x q : Str} {st : Stmt} {N : List Str} (F : Fun K x q st f fd) (S : FnScope N ps (defScope st)) (many : ∀ vs H Q E, sp vs H Q E → vs.length = ps.length)
    (inner : ∀ (cdv : Value) (A : Around) (up : List Env) (s : Shared) (H : Hp) (vs : List V) (Q : VK) (E : XK), Room k (A.deeper (envOfC q (defScope st) s.heap.objs.size f cdv)) → Gd k (A.deeper (envOfC q (defScope st) s.heap.objs.size f cdv)) → sp vs H Q E →
      ∃ t, PSs (cxOf (L2N.CX P w) P w K mg base N q (defScope st) f cdv A up s H E) (defBody st) t ∧ t { nx := fun _ H' => Q .non H', rt := Q } (L2.start N vs) H) : FnG P w K mg base (L2N.CX P w) (k + 1) f fd ps sp := by
  obtain ⟨oc, od, kV, doc, pm, an, cdv, ct, osl, rfl, at_, code⟩ := F.ex
  exact fnG_of at_ code S many fun A up s H vs Q E room gd wish => inner cdv A up s H vs Q E room gd wish
end
section
variable {X : Cx} {CX : CXT} {k : Nat} {f : Addr} {fd : FuncData} {ps : List Str} {sp : Sp} {dvs : List V} {ds : List Value} {E : XK} {x : Str} {p pos : Pos} {e : Expr} {es : List Expr} {t : TA}
theorem runG {pins : List (Addr × Obj)} {σ : L2.St} {H : Hp} {s : Shared} {Q : VK} {us : List Value} {vs : List V} (F : FnG X.prog X.w X.K X.mg X.base CX k f fd ps sp) (gd : Gd k X.A) (room : Room k X.A) (hb : Binds X.K fd ps ds) (hd : Vals dvs ds) (out : Passes CX X E)
    (I : Inv X pins σ H s) (r : Vals vs us) (h : sp (vs ++ dvs) H Q E) : wpAny (model X.prog X.w) X.A (call (.ref f) us) (EP X pins σ Q) X.xe s := by
  have all : Vals (vs ++ dvs) (us ++ ds) := r.append hd
  have cnt := F.many _ _ _ _ h
  rw [all.length] at cnt
  refine wpAny_call (codeAny_mono (F.go X.A gd room X.stack s H ⟨us, []⟩ (us ++ ds) (vs ++ dvs) Q E I.env0 (hb s us I.kIn cnt) all h) ?_)
  rintro (z | _ | _ | _ | u) s' end_
  · exact out pins σ H s z s' I end_
  · exact end_.elim
  · exact end_.elim
  · exact end_.elim
  · exact I.after end_
theorem pe_callG (F : FnG X.prog X.w X.K X.mg X.base CX k f fd ps sp) (gd : Gd k X.A) (room : Room k X.A) (hg : Gl X x) (hm : X.mg x = some (.ref f)) (hk : PySem.W.keepIn X.K (.ref f) = true) (hb : Binds X.K fd ps ds) (hd : Vals dvs ds) (out : Passes CX X E)
    (ha : PA X (e :: es) t) (hdb : (x == ("__debug__" : Str)) = false := by decide) (he : starEach (e :: es) X.env = (false, eval e X.env) :: starEach es X.env := by rfl) (hpl : (backTo pos (starEach es X.env)).any (·.1) = false := by rfl) :
    PE X (.Call (.Name x p) (e :: es) [] pos) (tCall sp dvs E t) :=
  ⟨fun pins s σ H Q I h => wpAny_Call_Name_kw (ld_glob I hg hm (PySem.W.callWith_K (h₀ := X.base) I.ok.mod.kin hk (thn (ha.run pos pins s σ H _ I h) fun _ _ ⟨_, _, I1, r, q⟩ => ⟨I1.kIn, runG F gd room hb hd out I1 r q⟩) he hpl) hdb)⟩
end
section
variable {X : Cx} {CX : CXT} {k : Nat} {f : Addr} {fd : FuncData} {ps : List Str} {sp : Sp} {E : L2.St → XK} {x : Str} {p pos : Pos} {e : Expr} {es : List Expr} {t : TA}
end
section
variable {P : Program} {w : World} {K : PySem.W.Frag} {mg mb : Str → Option Value} {CX : CXT} {k : Nat} {fa a : Addr} {fd : FuncData} {x : Str} {sp : Sp} {s₁ : Shared} {vs : List Value} {ns : List Int}
abbrev LawEnd (s₁ : Shared) : Result → Shared → Prop := fun r s' => r = .ok (.ret (.bool true)) ∧ OldK s₁.heap s'.heap ∧ s'.os = s₁.os ∧ AllBare s'.gens
theorem law_from (KX : K.In s₁.heap) (hns : s₁.heap.Ns mainGlobals mg) (hb : s₁.heap.Ns builtinsNs mb) (hbb : ∀ x : Str, x ≠ "__name__" → mb x = bootBuiltins x) (lim : s₁.heap.NoLimit) (seer : s₁.heap.NoSeer) (far : Gd k callerA) (hg : s₁.gens = #[])
    (ha : s₁.heap.get? a = some { cls := .type "list", data := .seq vs.toArray }) (room : Room k callerA)
    (F : ∀ base : Heap, K.In base → base.Ns mainGlobals mg → base.NoSeer → FnG P w K mg base CX k fa fd [x] sp) (bind : ∀ (s : Shared) (u : Value), BindsTo s fd ⟨[u], []⟩ [(x, u)]) (quiet : ∀ H e s', CX [] H s₁ (fun _ _ _ => False) e s' → False)
    (H : Hp) (only : Only H) (wish : sp [.ref a] H (fun v _ => v = .bl true) fun _ _ _ => False) (hok : HOk P w H s₁.heap) (one : ∀ b, H b ≠ none → b = a) (own : H a ≠ none → K.lookup a = none) :
    codeAny (model P w) callerA (.call (.ref fa) ⟨[.ref a], []⟩) (LawEnd s₁) s₁ := by
  have keep : ∀ {b : Addr} {o : Obj}, s₁.heap.get? b = some o → H b = none → (hidT s₁.heap H).get? b = some o := fun z n => hidT_get z n
  have none_of : ∀ {b : Addr} {o : Obj}, s₁.heap.get? b = some o → (∀ m, o.data ≠ .seq vs.toArray m) → H b = none := by
    intro b o z d
    by_cases q : H b = none
    · exact q
    · cases one b q
      rw [ha] at z
      cases z
      exact absurd rfl (d _)
  have ns' : ∀ {b : Addr} {m : Str → Option Value}, s₁.heap.Ns b m → (hidT s₁.heap H).Ns b m := by
    rintro b m ⟨o, es, ep, z, d, r⟩
    exact ⟨o, es, ep, keep z (none_of z fun m q => by rw [d] at q; cases q), d, r⟩
  have inK : K.In (hidT s₁.heap H) := by
    intro b o z
    refine keep (KX b o z) ?_
    by_cases q : H b = none
    · exact q
    · cases one b q
      rw [own q] at z
      cases z
  obtain ⟨mc, c1, c2⟩ := lim
  have sr : (hidT s₁.heap H).NoSeer := by
    obtain ⟨⟨m1, a1, b1⟩, ⟨m2, a2, b2⟩, ⟨m3, a3, b3⟩, ⟨m4, bm, ob, a4, b4, c4, d4, e4⟩⟩ := seer
    refine ⟨⟨m1, ns' a1, b1⟩, ⟨m2, ns' a2, b2⟩, ⟨m3, ns' a3, b3⟩, ⟨m4, bm, ob, ns' a4, b4, keep c4 ?_, d4, e4⟩⟩
    by_cases q : H bm = none
    · exact q
    · cases one bm q
      rw [ha] at c4
      cases c4
      exact absurd (show Value.type "list" = .type "module" from d4) (by decide)
  have en : Env0 P w K mg (hidT s₁.heap H) callerA [] s₁ H :=
    { frames := rfl, mod := ⟨inK, ns' hns, ⟨mb, ns' hb, hbb⟩, ⟨mc, ns' c1, c2⟩⟩, bs := fun b o z => of_hidT z, bsz := Nat.le_of_eq (hidT_size _ _), funs := trivial, frf := fun b z => absurd z List.not_mem_nil, hok := hok, bare := .of_eq hg }
  refine codeAny_mono ((F _ inK (ns' hns) sr).go callerA far room [] s₁ H ⟨[.ref a], []⟩ [.ref a] [.ref a] _ _ en (bind s₁ (.ref a)) (.cons rfl .nil) wish) ?_
  rintro (e | _ | _ | _ | u) s' z
  · exact (quiet H e s' z).elim
  · exact z.elim
  · exact z.elim
  · exact z.elim
  · obtain ⟨v, H', os, bare, un, hok', r, q⟩ := z
    have q : v = .bl true := q
    cases q
    cases r
    refine ⟨rfl, OldK.of_keep fun b o z => ?_, os, bare⟩
    by_cases q : H b = none
    · exact un.keep b o z q (fun m => absurd m List.not_mem_nil) List.not_mem_nil
    · rcases only b with m | ⟨ob, xs, m⟩
      · exact absurd m q
      · have h1 := (hok b _ m).1
        rw [z] at h1
        cases h1
        exact (hok' b _ (un.frzs b o _ m)).1
theorem law_callG (KX : K.In s₁.heap) (hns : s₁.heap.Ns mainGlobals mg) (hb : s₁.heap.Ns builtinsNs mb) (hbb : ∀ x : Str, x ≠ "__name__" → mb x = bootBuiltins x) (lim : s₁.heap.NoLimit) (seer : s₁.heap.NoSeer) (far : Gd k callerA) (hg : s₁.gens = #[])
    (ha : s₁.heap.get? a = some { cls := .type "list", data := .seq vs.toArray }) (hi : IntsAre vs ns) (hl : ns.length ≤ sizeLine) (room : Room k callerA)
    (F : ∀ base : Heap, K.In base → base.Ns mainGlobals mg → base.NoSeer → FnG P w K mg base CX k fa fd [x] sp) (bind : ∀ (s : Shared) (u : Value), BindsTo s fd ⟨[u], []⟩ [(x, u)]) (quiet : ∀ H e s', CX [] H s₁ (fun _ _ _ => False) e s' → False)
    (wish : ∀ H : Hp, Only H → SqL K H a (ns.map V.int) → sp [.ref a] H (fun v _ => v = .bl true) fun _ _ _ => False) :
    codeAny (model P w) callerA (.call (.ref fa) ⟨[.ref a], []⟩) (LawEnd s₁) s₁ := by
  have rv := vals_ints hi
  have cnt := hi.length
  have go := law_from KX hns hb hbb lim seer far hg ha room F bind quiet
  by_cases hk : K.lookup a = none
  · let H1 : Hp := fun b => if b = a then some (.frz { cls := .type "list", data := .seq vs.toArray } (.lst (ns.map V.int))) else none
    have e1 : H1 a = some (.frz { cls := .type "list", data := .seq vs.toArray } (.lst (ns.map V.int))) := if_pos rfl
    have e2 : ∀ b, b ≠ a → H1 b = none := fun b h => if_neg h
    have only : Only H1 := fun b => by
      by_cases h : b = a
      · exact .inr ⟨_, _, by rw [h]; exact e1⟩
      · exact .inl (e2 b h)
    refine go H1 only (wish H1 only (.inl (.inr ⟨_, e1⟩))) (fun b u z => ?_) (fun b z => Classical.byContradiction fun h => z (e2 b h)) fun _ => hk
    by_cases h : b = a
    · rw [h, e1] at z
      cases z
      rw [h]
      exact ⟨ha, by rw [List.length_map]; exact hl, vs, _, rv, ha⟩
    · rw [e2 b h] at z
      cases z
  · obtain ⟨o, ho⟩ := Option.ne_none_iff_exists'.mp hk
    have z := KX a o ho
    rw [ha] at z
    cases z
    have only : Only (fun _ => none) := fun _ => .inl rfl
    exact go (fun _ => none) only (wish _ only (.inr ⟨_, vs.toArray, _, ho, rfl, rfl, rfl, by rw [List.size_toArray, cnt]; exact hl, by simpa using rv⟩)) (fun b u z => nomatch z) (fun b z => absurd rfl z) fun z => absurd rfl z
theorem walk_ofG {l : PySem.W.OpenLaw} {n k : Nat} {q : Program} {loose : List Str} {XP : (Str → Option Value) → Heap → Prop} {YP : World → Heap → Prop} {d : DefRec} {K : Params → PySem.W.Frag} {CX : World → CXT} {sp : World → Sp} {x : Str}
    (hn : l.most = some n) (hn2 : n ≤ sizeLine) (hdf : d.params.defaults = []) (room : Room k callerA) (far : Gd k callerA) (imp : importsNone q = true) (hY : ∀ (w : World) (h : Heap), YP w h → (K w.params).In h)
    (F : ∀ (w : World) (mg : Str → Option Value) (fa : Addr) (h : Heap), (K w.params).In h → h.Ns mainGlobals mg → mg d.name = some (.ref fa) →
      ∃ fd : FuncData, (∀ (s : Shared) (u : Value), BindsTo s fd ⟨[u], []⟩ [(x, u)]) ∧ ∀ base : Heap, (K w.params).In base → base.Ns mainGlobals mg → base.NoSeer → FnG l.prog w (K w.params) mg base (CX w) k fa fd [x] (sp w))
    (wish : ∀ (w : World) (H : Hp) (a : Addr) (ns : List Int), ns.length ≤ n → Only H → SqL (K w.params) H a (ns.map V.int) → sp w [.ref a] H (fun v _ => v = .bl true) fun _ _ _ => False)
    (quiet : ∀ (w : World) (H : Hp) (s : Shared) (e : Value) (s' : Shared), CX w [] H s (fun _ _ _ => False) e s' → False) :
    PySem.W.WalkO q loose XP YP l.row.toRowW d [] (fun f vs => PySem.call f vs) := by
  refine Att.attach_call hn hdf fun w s₀ s₁ mg mb fa o pm cd doc a vs ns G Y ho hd hcd hmg hobj hints hlen hg => ?_
  obtain ⟨fd, bind, hF⟩ := F w mg fa _ (hY w _ Y) G.T.g hmg
  exact law_callG (hY w _ Y) G.T.g G.T.b G.T.builtins G.T.nolimit (G.T.seer imp) far hg hobj hints (Nat.le_trans hlen hn2) room hF bind (fun H e s' => quiet w H s₁ e s') fun H hO hS => wish w H a ns hlen hO hS
end
end B2

namespace B2
open PySem L2
def keyD : Key → PyData
  | .inl i => .int i
  | .inr x => .str x
mutual
inductive Dq (K : PySem.W.Frag) (H : Hp) : V → PyData → Prop
  | non : Dq K H .non .none
  | bl (b : Bool) : Dq K H (.bl b) (.bool b)
  | int (i : Int) : Dq K H (.int i) (.int i)
  | str (x : Str) : Dq K H (.str x) (.str x)
  | lst {a : Addr} {xs : List V} {ds : List PyData} : H a = some (.lst xs) → DqA K H xs ds → Dq K H (.ref a) (.list ds)
  | tup {a : Addr} {xs : List V} {ds : List PyData} : SqT K H a xs → DqA K H xs ds → Dq K H (.ref a) (.tuple ds)
  | dic {a : Addr} {kvs : List (Key × V)} {ds : List (PyData × PyData)} {vs : List V} {es : List PyData} : H a = some (.dK kvs) → ds.map (·.1) = kvs.map (fun kv => keyD kv.1) → kvs.map (·.2) = vs → ds.map (·.2) = es → DqA K H vs es → Dq K H (.ref a) (.dict ds)
inductive DqA (K : PySem.W.Frag) (H : Hp) : List V → List PyData → Prop
  | nil : DqA K H [] []
  | cons {v : V} {vs : List V} {d : PyData} {ds : List PyData} : Dq K H v d → DqA K H vs ds → DqA K H (v :: vs) (d :: ds)
end
theorem Same.sqt {K : PySem.W.Frag} {H H' : Hp} {a : Addr} {xs : List V} (e : Same H H') (h : SqT K H a xs) : SqT K H' a xs := by
  rcases h with (h | ⟨o, h⟩) | h
  · exact .inl (.inl (e _ _ h))
  · exact .inl (.inr ⟨o, e _ _ h⟩)
  · exact .inr h
mutual
theorem Dq.mono {K : PySem.W.Frag} {H H' : Hp} (e : Same H H') : ∀ {v : V} {d : PyData}, Dq K H v d → Dq K H' v d
  | _, _, .non => .non
  | _, _, .bl b => .bl b
  | _, _, .int i => .int i
  | _, _, .str x => .str x
  | _, _, .lst h q => .lst (e _ _ h) (DqA.mono e q)
  | _, _, .tup h q => .tup (Same.sqt e h) (DqA.mono e q)
  | _, _, .dic h e1 e2 e3 q => .dic (e _ _ h) e1 e2 e3 (DqA.mono e q)
theorem DqA.mono {K : PySem.W.Frag} {H H' : Hp} (e : Same H H') : ∀ {vs : List V} {ds : List PyData}, DqA K H vs ds → DqA K H' vs ds
  | _, _, .nil => .nil
  | _, _, .cons h q => .cons (Dq.mono e h) (DqA.mono e q)
end
mutual
def noLst : PyData → Bool
  | .list _ => false
  | .tuple xs => noLstA xs
  | .dict kvs => noLstK kvs
  | _ => true
def noLstA : List PyData → Bool
  | [] => true
  | x :: xs => noLst x && noLstA xs
def noLstK : List (PyData × PyData) → Bool
  | [] => true
  | (_, v) :: r => noLst v && noLstK r
end
theorem noLstK_map : ∀ kvs : List (PyData × PyData), noLstK kvs = noLstA (kvs.map (·.2))
  | [] => by simp only [noLstK, List.map_nil, noLstA]
  | (k, v) :: r => by simp only [noLstK, List.map_cons, noLstA, noLstK_map r]
theorem keys_read {h : Heap} {P : Program} {w : World} : ∀ {es : List DictEntry} {kvs : List (Key × V)} {rs : List (Key × Value)}, KV kvs rs → Pairs (mixKind P w) es rs → ReadsAll h (es.map (·.key)) (kvs.map fun kv => keyD kv.1) []
  | [], [], _, _, _ => .nil
  | [], _ :: _, _, r, p => by cases p; cases r
  | _ :: _, [], _, r, p => by cases p; cases r
  | e :: es, kv :: kvs, _, r, p => by
    cases p with
    | cons h1 h2 h3 =>
      cases r with
      | cons r1 r2 =>
        have ih := keys_read (h := h) r2 h3
        have k : Reads h e.key (keyD kv.1) [] := by
          rcases keyIs_shape h1 with ⟨i, t, e1, e2⟩ | ⟨x, t, e1, e2⟩
          · rw [e2, show kv.1 = Sum.inl i from r1.1.trans e1]; exact .int i t
          · rw [e2, show kv.1 = Sum.inr x from r1.1.trans e1]; exact .str x t
        exact .cons k ih
theorem vals_of {P : Program} {w : World} : ∀ {es : List DictEntry} {kvs : List (Key × V)} {rs : List (Key × Value)}, KV kvs rs → Pairs (mixKind P w) es rs → Vals (kvs.map (·.2)) (es.map (·.val))
  | [], [], _, _, _ => .nil
  | [], _ :: _, _, r, p => by cases p; cases r
  | _ :: _, [], _, r, p => by cases p; cases r
  | e :: es, kv :: kvs, _, r, p => by
    cases p with
    | cons h1 h2 h3 =>
      cases r with
      | cons r1 r2 =>
        refine .cons ?_ (vals_of r2 h3)
        show RelV kv.2 e.val
        rw [h2]; exact r1.2
section
variable {X : Cx} {pins : List (Addr × Obj)} {σ : St} {H : Hp} {s : Shared}
mutual
theorem Dq.reads (I : Inv X pins σ H s) : ∀ {v : V} {d : PyData}, Dq X.K H v d → ∀ {u : Value}, RelV v u → ∃ as, Reads s.heap u d as ∧ (noLst d = true → ∀ a ∈ as, a ≠ sysModules)
  | _, _, .non, _, r => by
    cases r
    exact ⟨_, Reads.none, fun _ _ h => (List.not_mem_nil h).elim⟩
  | _, _, .bl b, _, r => by
    cases r
    exact ⟨_, Reads.bool b, fun _ _ h => (List.not_mem_nil h).elim⟩
  | _, _, .int i, _, r => by
    obtain ⟨t, rfl⟩ := r
    exact ⟨_, Reads.int i t, fun _ _ h => (List.not_mem_nil h).elim⟩
  | _, _, .str x, _, r => by
    obtain ⟨t, rfl⟩ := r
    exact ⟨_, Reads.str x t, fun _ _ h => (List.not_mem_nil h).elim⟩
  | _, _, .lst hs ha, _, r => by
    cases r
    obtain ⟨its, rv, ⟨o, n, ho, hc, _, hd⟩, _⟩ := I.list (SqL.of hs)
    obtain ⟨as, hr, hn⟩ := DqA.reads I ha rv
    exact ⟨_, Reads.list ho hc hd hr, fun z => by simp only [noLst] at z; cases z⟩
  | _, _, .tup hs ha, _, r => by
    cases r
    obtain ⟨its, rv, ⟨o, ho, hc, n, hd⟩, _⟩ := I.tuple hs
    obtain ⟨as, hr, hn⟩ := DqA.reads I ha rv
    exact ⟨_, Reads.tuple ho hc hd hr, fun z => hn (by simpa only [noLst] using z)⟩
  | _, _, .dic hs e1 e2 e3 ha, _, r => by
    cases r
    obtain ⟨_, hsm, rs, rk, o, es, ep, ho, hx, hd, _, hp, _⟩ := dk_of I.hok hs
    obtain ⟨bs, hr, hn⟩ := DqA.reads I ha (by rw [← e2]; exact vals_of rk hp)
    refine ⟨_, Reads.dict ho hx.1 hd (by rw [e1]; exact keys_read rk hp) (by rw [e3]; exact hr), fun hz a hm => ?_⟩
    rcases List.mem_cons.mp hm with z | z
    · rw [z]; exact fun q => by rw [q] at hsm; exact absurd hsm (by decide)
    · simp only [noLst] at hz
      rw [noLstK_map, e3] at hz
      exact hn hz a z
theorem DqA.reads (I : Inv X pins σ H s) : ∀ {vs : List V} {ds : List PyData}, DqA X.K H vs ds → ∀ {us : List Value}, Vals vs us → ∃ as, ReadsAll s.heap us ds as ∧ (noLstA ds = true → ∀ a ∈ as, a ≠ sysModules)
  | _, _, .nil, _, r => by
    cases r
    exact ⟨_, ReadsAll.nil, fun _ _ h => (List.not_mem_nil h).elim⟩
  | _, _, .cons h1 h2, _, r => by
    cases r with
    | cons r1 r2 =>
      obtain ⟨as, q1, n1⟩ := Dq.reads I h1 r1
      obtain ⟨bs, q2, n2⟩ := DqA.reads I h2 r2
      exact ⟨_, ReadsAll.cons q1 q2, fun z a hm => by
        simp only [noLstA, Bool.and_eq_true] at z
        exact (List.mem_append.mp hm).elim (n1 z.1 a) (n2 z.2 a)⟩
end
end
section
variable {K : PySem.W.Frag} {H : Hp}
theorem DqA.length : ∀ {vs : List V} {ds : List PyData}, DqA K H vs ds → vs.length = ds.length
  | _, _, .nil => rfl
  | _, _, .cons _ q => by simp [DqA.length q]
theorem DqA.get : ∀ {vs : List V} {ds : List PyData} {i : Nat} {d : PyData}, DqA K H vs ds → ds[i]? = some d → ∃ v, vs[i]? = some v ∧ Dq K H v d
  | _, _, _, _, .nil, h => by simp at h
  | _, _, 0, _, .cons h q, e => by simp at e; subst e; exact ⟨_, rfl, h⟩
  | _, _, i + 1, _, .cons h q, e => by
    obtain ⟨v, h1, h2⟩ := DqA.get (i := i) q (by simpa using e)
    exact ⟨v, by simpa using h1, h2⟩
theorem DqA.get' : ∀ {vs : List V} {ds : List PyData} {i : Nat} {v : V}, DqA K H vs ds → vs[i]? = some v → ∃ d, ds[i]? = some d ∧ Dq K H v d
  | _, _, _, _, .nil, h => by simp at h
  | _, _, 0, _, .cons h q, e => by simp at e; subst e; exact ⟨_, rfl, h⟩
  | _, _, i + 1, _, .cons h q, e => by
    obtain ⟨v, h1, h2⟩ := DqA.get' (i := i) q (by simpa using e)
    exact ⟨v, by simpa using h1, h2⟩
theorem DqA.append : ∀ {vs ws : List V} {ds es : List PyData}, DqA K H vs ds → DqA K H ws es → DqA K H (vs ++ ws) (ds ++ es)
  | _, _, _, _, .nil, s => s
  | _, _, _, _, .cons h q, s => .cons h (DqA.append q s)
theorem DqA.set {v : V} {d : PyData} (h : Dq K H v d) : ∀ {vs : List V} {ds : List PyData} (i : Nat), DqA K H vs ds → DqA K H (vs.set i v) (ds.set i d)
  | _, _, _, .nil => .nil
  | _, _, 0, .cons _ q => .cons h q
  | _, _, i + 1, .cons r q => .cons r (DqA.set h i q)
theorem DqA.take : ∀ {vs : List V} {ds : List PyData} (n : Nat), DqA K H vs ds → DqA K H (vs.take n) (ds.take n)
  | _, _, 0, _ => .nil
  | _, _, _ + 1, .nil => .nil
  | _, _, n + 1, .cons r q => .cons r (DqA.take n q)
theorem DqA.drop : ∀ {vs : List V} {ds : List PyData} (n : Nat), DqA K H vs ds → DqA K H (vs.drop n) (ds.drop n)
  | _, _, 0, r => r
  | _, _, _ + 1, .nil => .nil
  | _, _, n + 1, .cons _ q => DqA.drop n q
theorem DqA.eraseIdx : ∀ {vs : List V} {ds : List PyData} (i : Nat), DqA K H vs ds → DqA K H (vs.eraseIdx i) (ds.eraseIdx i)
  | _, _, _, .nil => .nil
  | _, _, 0, .cons _ q => q
  | _, _, i + 1, .cons r q => .cons r (DqA.eraseIdx i q)
theorem DqA.dropLast {vs : List V} {ds : List PyData} (h : DqA K H vs ds) : DqA K H vs.dropLast ds.dropLast := by
  rw [List.dropLast_eq_take, List.dropLast_eq_take, h.length]
  exact h.take _
theorem DqA.reverse : ∀ {vs : List V} {ds : List PyData}, DqA K H vs ds → DqA K H vs.reverse ds.reverse
  | _, _, .nil => .nil
  | _, _, .cons r q => by
    rw [List.reverse_cons, List.reverse_cons]
    exact (DqA.reverse q).append (.cons r .nil)
theorem DqA.rep {vs : List V} {ds : List PyData} (h : DqA K H vs ds) : ∀ k : Nat, DqA K H (List.replicate k vs).flatten (List.replicate k ds).flatten
  | 0 => .nil
  | k + 1 => by
    rw [List.replicate_succ, List.replicate_succ, List.flatten_cons, List.flatten_cons]
    exact h.append (DqA.rep h k)
theorem DqA.one {v : V} {ds : List PyData} (h : DqA K H [v] ds) : ∃ d, ds = [d] ∧ Dq K H v d := by
  cases h with
  | cons a b => cases b; exact ⟨_, rfl, a⟩
theorem DqA.ints : ∀ {vs : List V} {ns : List Int}, DqA K H vs (ns.map PyData.int) → vs = ns.map V.int
  | _, [], h => by cases h; rfl
  | _, n :: ns, h => by
    rw [List.map_cons] at h
    cases h with
    | cons a b => cases a; rw [DqA.ints b]; rfl
theorem DqA.strs : ∀ {vs : List V} {ns : List Str}, DqA K H vs (ns.map PyData.str) → vs = ns.map V.str
  | _, [], h => by cases h; rfl
  | _, n :: ns, h => by
    rw [List.map_cons] at h
    cases h with
    | cons a b => cases a; rw [DqA.strs b]; rfl
theorem DqA.bls : ∀ {vs : List V} {ns : List Bool}, DqA K H vs (ns.map PyData.bool) → vs = ns.map V.bl
  | _, [], h => by cases h; rfl
  | _, n :: ns, h => by
    rw [List.map_cons] at h
    cases h with
    | cons a b => cases a; rw [DqA.bls b]; rfl
theorem DqA.of_ints : ∀ (ns : List Int), DqA K H (ns.map V.int) (ns.map PyData.int)
  | [] => .nil
  | n :: ns => .cons (.int n) (DqA.of_ints ns)
theorem DqA.of_strs : ∀ (ns : List Str), DqA K H (ns.map V.str) (ns.map PyData.str)
  | [] => .nil
  | n :: ns => .cons (.str n) (DqA.of_strs ns)
end
structure Gs where
  a : Addr
  b : Addr
  c : Addr
def InG (g : Option Gs) (p : Addr) : Prop := match g with
  | none => False
  | some g => p = g.a ∨ p = g.b ∨ p = g.c
structure DrawOk (H : Hp) (g : Gs) (n : Nat) : Prop where
  ab : g.a ≠ g.b
  ac : g.a ≠ g.c
  bc : g.b ≠ g.c
  ex : ∃ (k : Nat) (cs rs : List Int), k ≤ n ∧ H g.a = some (.lst [.ref g.b, .int (k : Nat), .ref g.c]) ∧ H g.b = some (.lst (cs.map V.int)) ∧ H g.c = some (.lst (rs.map V.int)) ∧ cs.length = rs.length ∧ 0 < cs.length ∧ cs.length ≤ 64
theorem DrawOk.mono {H : Hp} {g : Gs} {n m : Nat} (h : DrawOk H g n) (l : n ≤ m) : DrawOk H g m := by
  obtain ⟨k, cs, rs, h1, h2⟩ := h.ex
  exact ⟨h.ab, h.ac, h.bc, k, cs, rs, Nat.le_trans h1 l, h2⟩
theorem DrawOk.keep {H H' : Hp} {g : Gs} {n : Nat} (h : DrawOk H g n) (e : ∀ p o, InG (some g) p → H p = some o → H' p = some o) : DrawOk H' g n := by
  obtain ⟨k, cs, rs, h1, h2, h3, h4, h5⟩ := h.ex
  exact ⟨h.ab, h.ac, h.bc, k, cs, rs, h1, e _ _ (.inl rfl) h2, e _ _ (.inr (.inl rfl)) h3, e _ _ (.inr (.inr rfl)) h4, h5⟩
theorem DrawOk.there {H : Hp} {g : Gs} {n : Nat} (h : DrawOk H g n) {p : Addr} (q : InG (some g) p) : H p ≠ none := by
  obtain ⟨k, cs, rs, h1, h2, h3, h4, h5⟩ := h.ex
  rcases q with rfl | rfl | rfl
  · rw [h2]; simp
  · rw [h3]; simp
  · rw [h4]; simp
def LIM : Nat := 2 ^ 40000
inductive OB where
  | dic (kvs : List (Key × PyData))
  | rows (as : List Addr) (dss : List (List PyData))
  | «at» (a : Addr) (ds : List PyData)
  | ret (a : Addr) (ds : List PyData) (d : PyData)
  | tt (ds : List PyData)
inductive X2 where
  | d (d : PyData)
  | own (ds : List PyData)
  | slot (i : Nat)
  | drw
  | scr (a : Addr)
  | ob (o : OB)
abbrev Env := Nat → Option X2
def upE (ρ : Env) (i : Nat) (x : Option X2) : Env := fun j => if j = i then x else ρ j
structure Base where
  He : Hp
  Hb : Hp
  g : Option Gs
def OwnAt (K : PySem.W.Frag) (B : Base) (H0 H : Hp) (g : Option Gs) (p : Addr) (ds : List PyData) : Prop :=
  ∃ vs, H p = some (.lst vs) ∧ DqA K H0 vs ds ∧ H0 p = none ∧ B.He p = none ∧ ¬ InG g p
def Foot : X2 → Addr → Addr → Prop
  | .own _, p, a => a = p
  | .ob (.dic _), p, a => a = p
  | .ob (.rows as _), p, a => a = p ∨ a ∈ as
  | .ob (.at _ _), p, a => a = p
  | _, _, _ => False
structure Priv (B : Base) (H0 : Hp) (g : Option Gs) (p : Addr) : Prop where
  h0 : H0 p = none
  he : B.He p = none
  ng : ¬ InG g p
def TtAt (K : PySem.W.Frag) (H0 : Hp) (p : Addr) (ds : List PyData) : Prop := ∃ (o : Obj) (xs : List V), H0 p = some (.frz o (.tup xs)) ∧ o.dict = none ∧ DqA K H0 xs ds
theorem TtAt.mono {K : PySem.W.Frag} {H0 H0' : Hp} {p : Addr} {ds : List PyData} (e : Same H0 H0') (h : TtAt K H0 p ds) : TtAt K H0' p ds := let ⟨o, xs, h1, h2, h3⟩ := h; ⟨o, xs, e _ _ h1, h2, h3.mono e⟩
theorem TtAt.dq {K : PySem.W.Frag} {H0 : Hp} {p : Addr} {ds : List PyData} (h : TtAt K H0 p ds) : Dq K H0 (.ref p) (.tuple ds) := let ⟨o, _, h1, _, h3⟩ := h; .tup (.inl (.inr ⟨o, h1⟩)) h3
def ObAt (K : PySem.W.Frag) (B : Base) (H0 H : Hp) (g : Option Gs) (p : Addr) : OB → Prop
  | .dic kvs => Priv B H0 g p ∧ ∃ ks : List (Key × V), H p = some (.dK ks) ∧ ks.map (·.1) = kvs.map (·.1) ∧ DqA K H0 (ks.map (·.2)) (kvs.map (·.2))
  | .rows as dss => Priv B H0 g p ∧ (∀ a ∈ as, Priv B H0 g a) ∧ H p = some (.lst (as.map .ref)) ∧ (p :: as).Nodup ∧ as.length = dss.length ∧ ∀ (i : Nat) (a : Addr) (ds : List PyData), as[i]? = some a → dss[i]? = some ds → ∃ vs, H a = some (.lst vs) ∧ DqA K H0 vs ds
  | .at b ds => p = b ∧ Priv B H0 g p ∧ ∃ vs, H p = some (.lst vs) ∧ DqA K H0 vs ds
  | .ret _ _ d => Dq K H0 (.ref p) d
  | .tt ds => TtAt K H0 p ds
theorem ObAt.foot {K : PySem.W.Frag} {B : Base} {H0 H : Hp} {g : Option Gs} {p : Addr} {o : OB} (h : ObAt K B H0 H g p o) {a : Addr} (f : Foot (.ob o) p a) : Priv B H0 g a ∧ H a ≠ none := by
  cases o with
  | dic kvs =>
    obtain ⟨h1, ks, h2, _⟩ := h
    have f : a = p := f
    rw [f]
    exact ⟨h1, by rw [h2]; simp⟩
  | rows as dss =>
    obtain ⟨h1, h2, h3, h4, h5, h6⟩ := h
    rcases f with f | f
    · rw [f]; exact ⟨h1, by rw [h3]; simp⟩
    · refine ⟨h2 a f, ?_⟩
      obtain ⟨i, hi, e⟩ := List.getElem_of_mem f
      obtain ⟨vs, q, _⟩ := h6 i a (dss[i]'(by omega)) (by rw [List.getElem?_eq_getElem hi, e]) (List.getElem?_eq_getElem _)
      rw [q]; simp
  | «at» b ds =>
    obtain ⟨_, h1, vs, h2, _⟩ := h
    have f : a = p := f
    rw [f]
    exact ⟨h1, by rw [h2]; simp⟩
  | ret _ _ _ => exact f.elim
  | tt _ => exact f.elim
theorem ObAt.keep {K : PySem.W.Frag} {B B' : Base} {H0 H0' H H' : Hp} {g g' : Option Gs} {p : Addr} {o : OB} (h : ObAt K B H0 H g p o) (e : Same H0 H0') (k : ∀ a, Foot (.ob o) p a → (∀ u, H a = some u → H' a = some u) ∧ (Priv B H0 g a → Priv B' H0' g' a)) : ObAt K B' H0' H' g' p o := by
  cases o with
  | dic kvs =>
    obtain ⟨h1, ks, h2, h3, h4⟩ := h
    exact ⟨(k p rfl).2 h1, ks, (k p rfl).1 _ h2, h3, DqA.mono e h4⟩
  | rows as dss =>
    obtain ⟨h1, h2, h3, h4, h5, h6⟩ := h
    refine ⟨(k p (.inl rfl)).2 h1, fun a ha => (k a (.inr ha)).2 (h2 a ha), (k p (.inl rfl)).1 _ h3, h4, h5, fun i a ds e1 e2 => ?_⟩
    obtain ⟨vs, q1, q2⟩ := h6 i a ds e1 e2
    exact ⟨vs, (k a (.inr (List.mem_of_getElem? e1))).1 _ q1, DqA.mono e q2⟩
  | «at» b ds =>
    obtain ⟨h0, h1, vs, h2, h3⟩ := h
    exact ⟨h0, (k p rfl).2 h1, vs, (k p rfl).1 _ h2, DqA.mono e h3⟩
  | ret _ _ _ => exact Dq.mono e h
  | tt _ => exact TtAt.mono e h
theorem OwnAt.priv {K : PySem.W.Frag} {B : Base} {H0 H : Hp} {g : Option Gs} {p : Addr} {ds : List PyData} (h : OwnAt K B H0 H g p ds) : Priv B H0 g p ∧ H p ≠ none := by
  obtain ⟨vs, h1, _, h2, h3, h4⟩ := h
  exact ⟨⟨h2, h3, h4⟩, by rw [h1]; simp⟩
def RelN (K : PySem.W.Frag) (H0 : Hp) (g : Option Gs) (σ : St) (v : V) : X2 → Prop
  | .d d => Dq K H0 v d
  | .own _ => False
  | .slot i => σ[i]? = some (some v)
  | .drw => ∃ g', g = some g' ∧ v = .ref g'.a
  | .scr a => v = .ref a
  | .ob _ => False
def RelS (K : PySem.W.Frag) (B : Base) (H0 H : Hp) (g : Option Gs) (v : V) : X2 → Prop
  | .d d => Dq K H0 v d
  | .own ds => ∃ p, v = .ref p ∧ OwnAt K B H0 H g p ds
  | .slot _ => False
  | .drw => ∃ g', g = some g' ∧ v = .ref g'.a
  | .scr a => v = .ref a
  | .ob o => ∃ p, v = .ref p ∧ ObAt K B H0 H g p o
theorem RelS.foot {K : PySem.W.Frag} {B : Base} {H0 H : Hp} {g : Option Gs} {v : V} {x : X2} (h : RelS K B H0 H g v x) {q a : Addr} (e : v = .ref q) (f : Foot x q a) : Priv B H0 g a ∧ H a ≠ none := by
  cases x with
  | own ds =>
    obtain ⟨p, h1, h2⟩ := h
    rw [h1] at e; cases e
    have f : a = q := f
    rw [f]; exact h2.priv
  | ob o =>
    obtain ⟨p, h1, h2⟩ := h
    rw [h1] at e; cases e
    exact h2.foot f
  | d _ => exact f.elim
  | slot _ => exact f.elim
  | drw => exact f.elim
  | scr _ => exact f.elim
theorem RelS.keep {K : PySem.W.Frag} {B B' : Base} {H0 H0' H H' : Hp} {g : Option Gs} {v : V} {x : X2} (h : RelS K B H0 H g v x) (e : Same H0 H0') (k : ∀ q a, v = .ref q → Foot x q a → (∀ u, H a = some u → H' a = some u) ∧ (Priv B H0 g a → Priv B' H0' g a)) : RelS K B' H0' H' g v x := by
  cases x with
  | own ds =>
    obtain ⟨p, rfl, vs, h1, h2, h3, h4, h5⟩ := h
    obtain ⟨k1, k2⟩ := k p p rfl rfl
    have := k2 ⟨h3, h4, h5⟩
    exact ⟨_, rfl, vs, k1 _ h1, DqA.mono e h2, this.h0, this.he, this.ng⟩
  | ob o =>
    obtain ⟨p, rfl, h2⟩ := h
    exact ⟨p, rfl, h2.keep e fun a f => k p a rfl f⟩
  | d _ => exact Dq.mono e h
  | slot _ => exact h
  | drw => exact h
  | scr _ => exact h
structure RS (K : PySem.W.Frag) (B : Base) (H0 : Hp) (g : Option Gs) (σ : St) (ρ : Env) (n : Nat) (H : Hp) : Prop where
  hb : Same B.Hb H0
  new : ∀ p o, H0 p = some o → B.Hb p = some o ∨ B.He p = none
  ext : Same H0 H
  keep : ∀ p o, B.He p = some o → ¬ InG B.g p → H p = some o
  drw : ∀ g', g = some g' → DrawOk H g' n
  drf : ∀ p, InG g p → H0 p = none
  gg : B.g = g ∨ (B.g = none ∧ ∀ p, InG g p → B.He p = none)
  sl : ∀ i x, ρ i = some x → ∃ v, σ[i]? = some (some v) ∧ RelS K B H0 H g v x
  dist : ∀ i j p q a x y, ρ i = some x → ρ j = some y → σ[i]? = some (some (.ref p)) → σ[j]? = some (some (.ref q)) → Foot x p a → Foot y q a → i = j
def RelR (K : PySem.W.Frag) (B : Base) (H0 H : Hp) (g : Option Gs) (σ : St) (ρ : Env) (v : V) : X2 → Prop
  | .own ds => ∃ p, v = .ref p ∧ OwnAt K B H0 H g p ds ∧ ∀ i x q, ρ i = some x → σ[i]? = some (some (.ref q)) → ¬ Foot x q p
  | .ob (.ret a ds d) => ∃ q, v = .ref q ∧ Dq K H0 v d ∧ ∃ us, H a = some (.lst us) ∧ DqA K H0 us ds ∧ Priv B H0 g a
  | .ob (.tt ds) => ∃ q, v = .ref q ∧ TtAt K H0 q ds
  | x => RelN K H0 g σ v x
def rd (ρ : Env) : X2 → Option PyData
  | .d d => some d
  | .own ds => some (.list ds)
  | .slot i => match ρ i with
    | some (.own ds) => some (.list ds)
    | some (.d d) => some d
    | some (.ob (.at _ ds)) => some (.list ds)
    | some (.ob (.tt ds)) => some (.tuple ds)
    | _ => none
  | .ob (.tt ds) => some (.tuple ds)
  | _ => none
section
variable {K : PySem.W.Frag} {B : Base} {H0 H0' H H' : Hp} {g : Option Gs} {σ : St} {ρ : Env} {n m : Nat} {v : V} {x : X2}
theorem RelN.mono (e : Same H0 H0') (h : RelN K H0 g σ v x) : RelN K H0' g σ v x := by
  cases x with
  | d d => exact Dq.mono e h
  | own _ => exact h
  | slot _ => exact h
  | drw => exact h
  | scr _ => exact h
  | ob _ => exact h
theorem RS.count (r : RS K B H0 g σ ρ n H) (l : n ≤ m) : RS K B H0 g σ ρ m H :=
  ⟨r.hb, r.new, r.ext, r.keep, fun g' e => (r.drw g' e).mono l, r.drf, r.gg, r.sl, r.dist⟩
theorem RS.fresh (r : RS K B H0 g σ ρ n H) {p : Addr} (h : H p = none) : B.He p = none ∧ H0 p = none ∧ ¬ InG g p := by
  have hg : ¬ InG g p := fun q => by
    cases e : g with
    | none => rw [e] at q; exact q
    | some g' =>
      rw [e] at q
      exact (r.drw g' e).there q h
  refine ⟨?_, ?_, hg⟩
  · cases e : B.He p with
    | none => rfl
    | some o =>
      have := r.keep p o e fun q => by
        rcases r.gg with k | ⟨k, _⟩
        · rw [k] at q; exact hg q
        · rw [k] at q; exact q
      rw [h] at this; cases this
  · cases e : H0 p with
    | none => rfl
    | some o =>
      have := r.ext p o e
      rw [h] at this; cases this
theorem RS.grow (r : RS K B H0 g σ ρ n H) (e : Same H H') : RS K B H0 g σ ρ n H' := by
  refine ⟨r.hb, r.new, fun p o q => e p o (r.ext p o q), fun p o q z => e p o (r.keep p o q z), fun g' q => (r.drw g' q).keep fun p o _ z => e p o z, r.drf, r.gg, fun i x q => ?_, r.dist⟩
  obtain ⟨v, h1, h2⟩ := r.sl i x q
  exact ⟨v, h1, h2.keep (Same.refl _) fun _ a _ _ => ⟨fun u z => e a u z, id⟩⟩
theorem RelR.grow (r : RelR K B H0 H g σ ρ v x) (e : Same H H') : RelR K B H0 H' g σ ρ v x := by
  cases x with
  | own ds =>
    obtain ⟨p, h3, ⟨vs, h4, h5⟩, h6⟩ := r
    exact ⟨p, h3, ⟨vs, e p _ h4, h5⟩, h6⟩
  | d _ => exact r
  | slot _ => exact r
  | drw => exact r
  | scr _ => exact r
  | ob o => cases o with
    | ret a ds d =>
      obtain ⟨q, h1, h2, us, h3, h4⟩ := r
      exact ⟨q, h1, h2, us, e a _ h3, h4⟩
    | dic _ => exact r
    | tt _ => exact r
    | rows _ _ => exact r
    | «at» _ _ => exact r
theorem RS.lay (r : RS K B H0 g σ ρ n H) {p : Addr} {o : HO} (h : H p = none) : RS K B (upd H0 p o) g σ ρ n (upd H p o) ∧ Same H0 (upd H0 p o) := by
  obtain ⟨f1, f2, f3⟩ := r.fresh h
  have s0 : Same H0 (upd H0 p o) := fun b u e => by rw [upd_ne (ne_of_none e f2)]; exact e
  have s1 : Same H (upd H p o) := fun b u e => by rw [upd_ne (ne_of_none e h)]; exact e
  have r1 := r.grow s1
  refine ⟨⟨fun b u e => s0 b u (r.hb b u e), fun b u e => ?_, fun b u e => ?_, r1.keep, r1.drw, fun b q => ?_, r.gg, fun i x q => ?_, r.dist⟩, s0⟩
  · by_cases hb : b = p
    · subst hb; exact .inr f1
    · rw [upd_ne hb] at e; exact r.new b u e
  · by_cases hb : b = p
    · subst hb; rw [upd_same] at e ⊢; exact e
    · rw [upd_ne hb] at e ⊢; exact r.ext b u e
  · rw [upd_ne (fun z : b = p => f3 (by rw [← z]; exact q))]; exact r.drf b q
  · obtain ⟨v, h1, h2⟩ := r.sl i x q
    refine ⟨v, h1, h2.keep s0 fun q' a e f => ?_⟩
    obtain ⟨_, hn⟩ := h2.foot e f
    have hne : a ≠ p := fun z => hn (by rw [z]; exact h)
    exact ⟨fun u z => s1 a u z, fun w => ⟨by rw [upd_ne hne]; exact w.h0, w.he, w.ng⟩⟩
theorem RS.mkOwn (r : RS K B H0 g σ ρ n H) {p : Addr} {vs : List V} {ds : List PyData} (h : H p = none) (q : DqA K H0 vs ds) :
    RS K B H0 g σ ρ n (upd H p (.lst vs)) ∧ RelR K B H0 (upd H p (.lst vs)) g σ ρ (.ref p) (.own ds) := by
  obtain ⟨f1, f2, f3⟩ := r.fresh h
  have s1 : Same H (upd H p (.lst vs)) := fun b u e => by rw [upd_ne (ne_of_none e h)]; exact e
  refine ⟨r.grow s1, p, rfl, ⟨vs, upd_same, q, f2, f1, f3⟩, fun i x q' e z f => ?_⟩
  obtain ⟨v, h1, h2⟩ := r.sl i _ e
  rw [z] at h1
  have e1 := Option.some.inj (Option.some.inj h1)
  exact (h2.foot e1.symm f).2 h
theorem RS.freezeR (r : RS K B H0 g σ ρ n H) {ds : List PyData} (h : RelR K B H0 H g σ ρ v (.own ds)) :
    ∃ H0', Same H0 H0' ∧ RS K B H0' g σ ρ n H ∧ Dq K H0' v (.list ds) := by
  obtain ⟨p, rfl, ⟨vs, h1, h2, h3, h4, h5⟩, h6⟩ := h
  have s0 : Same H0 (upd H0 p (.lst vs)) := fun b u e => by rw [upd_ne (ne_of_none e h3)]; exact e
  refine ⟨upd H0 p (.lst vs), s0, ⟨fun b u e => s0 b u (r.hb b u e), fun b u e => ?_, fun b u e => ?_, r.keep, r.drw, fun b q => ?_, r.gg, fun i x q => ?_, r.dist⟩, .lst upd_same (h2.mono s0)⟩
  · by_cases hb : b = p
    · subst hb; exact .inr h4
    · rw [upd_ne hb] at e; exact r.new b u e
  · by_cases hb : b = p
    · subst hb; rw [upd_same] at e; cases e; exact h1
    · rw [upd_ne hb] at e; exact r.ext b u e
  · rw [upd_ne (fun z : b = p => h5 (by rw [← z]; exact q))]; exact r.drf b q
  · obtain ⟨v, q1, q2⟩ := r.sl i x q
    refine ⟨v, q1, q2.keep s0 fun q' a e f => ⟨fun _ z => z, fun w => ⟨?_, w.he, w.ng⟩⟩⟩
    have hne : a ≠ p := fun z => h6 i x q' q (by rw [q1, e]) (by rw [← z]; exact f)
    rw [upd_ne hne]; exact w.h0
theorem RS.freezeS (r : RS K B H0 g σ ρ n H) {i : Nat} {ds : List PyData} (h : ρ i = some (.own ds)) :
    ∃ H0', Same H0 H0' ∧ RS K B H0' g σ (upE ρ i (some (.d (.list ds)))) n H := by
  obtain ⟨v, hv, p, rfl, vs, h1, h2, h3, h4, h5⟩ := r.sl i _ h
  have s0 : Same H0 (upd H0 p (.lst vs)) := fun b u e => by rw [upd_ne (ne_of_none e h3)]; exact e
  refine ⟨upd H0 p (.lst vs), s0, ⟨fun b u e => s0 b u (r.hb b u e), fun b u e => ?_, fun b u e => ?_, r.keep, r.drw, fun b q => ?_, r.gg, fun j x q => ?_, fun j k p' q' a x y e1 e2 e3 e4 e5 e6 => ?_⟩⟩
  · by_cases hb : b = p
    · subst hb; exact .inr h4
    · rw [upd_ne hb] at e; exact r.new b u e
  · by_cases hb : b = p
    · subst hb; rw [upd_same] at e; cases e; exact h1
    · rw [upd_ne hb] at e; exact r.ext b u e
  · rw [upd_ne (fun z : b = p => h5 (by rw [← z]; exact q))]; exact r.drf b q
  · by_cases hj : j = i
    · subst hj
      unfold upE at q
      rw [if_pos rfl] at q
      cases q
      exact ⟨_, hv, .lst upd_same (h2.mono s0)⟩
    · unfold upE at q
      rw [if_neg hj] at q
      obtain ⟨v, q1, q2⟩ := r.sl j x q
      refine ⟨v, q1, q2.keep s0 fun q' a e f => ⟨fun _ z => z, fun w => ⟨?_, w.he, w.ng⟩⟩⟩
      have hne : a ≠ p := fun z => hj (r.dist j i q' p a x _ q h (by rw [q1, e]) hv f z)
      rw [upd_ne hne]; exact w.h0
  · unfold upE at e1 e2
    by_cases hj : j = i
    · rw [if_pos hj] at e1; cases e1; exact e5.elim
    · by_cases hk : k = i
      · rw [if_pos hk] at e2; cases e2; exact e6.elim
      · rw [if_neg hj] at e1
        rw [if_neg hk] at e2
        exact r.dist j k p' q' a x y e1 e2 e3 e4 e5 e6
theorem RS.read (r : RS K B H0 g σ ρ n H) (h : RelR K B H0 H g σ ρ v x) {d : PyData} (e : rd ρ x = some d) : Dq K H v d ∧
    ((∃ ds, d = .list ds ∧ ∃ p vs, v = .ref p ∧ H p = some (.lst vs) ∧ DqA K H0 vs ds) ∨ Dq K H0 v d) := by
  have own : ∀ p ds, OwnAt K B H0 H g p ds → v = .ref p → Dq K H v (.list ds) ∧ ((∃ es, PyData.list ds = .list es ∧ ∃ p vs, v = .ref p ∧ H p = some (.lst vs) ∧ DqA K H0 vs es) ∨ Dq K H0 v (.list ds)) := by
    rintro p ds ⟨vs, h1, h2, _⟩ rfl
    exact ⟨.lst h1 (h2.mono r.ext), .inl ⟨ds, rfl, p, vs, rfl, h1, h2⟩⟩
  have dat : ∀ d', Dq K H0 v d' → Dq K H v d' ∧ ((∃ ds, d' = .list ds ∧ ∃ p vs, v = .ref p ∧ H p = some (.lst vs) ∧ DqA K H0 vs ds) ∨ Dq K H0 v d') := fun d' q => ⟨Dq.mono r.ext q, .inr q⟩
  cases x with
  | d d' => cases e; exact dat _ h
  | own ds =>
    cases e
    obtain ⟨p, rfl, h1, _⟩ := h
    exact own p ds h1 rfl
  | slot i =>
    have hi : σ[i]? = some (some v) := h
    cases q : ρ i with
    | none => simp [rd, q] at e
    | some y =>
      simp only [rd, q] at e
      obtain ⟨v', q1, q2⟩ := r.sl i y q
      rw [hi] at q1; cases q1
      cases y with
      | d d' => cases e; exact dat _ q2
      | own ds =>
        cases e
        obtain ⟨p, rfl, h1⟩ := q2
        exact own p ds h1 rfl
      | slot _ => cases e
      | drw => cases e
      | scr _ => cases e
      | ob o => cases o with
        | dic _ => cases e
        | rows _ _ => cases e
        | ret _ _ _ => cases e
        | tt ds =>
          cases e
          obtain ⟨p, rfl, h1⟩ := q2
          exact dat _ (TtAt.dq h1)
        | «at» a ds =>
          cases e
          obtain ⟨p, rfl, _, _, vs, h1, h2⟩ := q2
          exact ⟨.lst h1 (h2.mono r.ext), .inl ⟨ds, rfl, p, vs, rfl, h1, h2⟩⟩
  | drw => cases e
  | scr _ => cases e
  | ob o => cases o with
    | tt ds =>
      cases e
      obtain ⟨p, rfl, h1⟩ := h
      exact dat _ h1.dq
    | dic _ => cases e
    | rows _ _ => cases e
    | ret _ _ _ => cases e
    | «at» _ _ => cases e
theorem RS.list (r : RS K B H0 g σ ρ n H) (h : RelR K B H0 H g σ ρ v x) {ds : List PyData} (e : rd ρ x = some (.list ds)) : ∃ p vs, v = .ref p ∧ H p = some (.lst vs) ∧ DqA K H0 vs ds := by
  rcases (r.read h e).2 with ⟨es, z, p, vs, h1, h2, h3⟩ | q
  · cases z; exact ⟨p, vs, h1, h2, h3⟩
  · cases q with
    | lst h1 h2 => exact ⟨_, _, rfl, r.ext _ _ h1, h2⟩
theorem RS.tuple (r : RS K B H0 g σ ρ n H) (h : RelR K B H0 H g σ ρ v x) {ds : List PyData} (e : rd ρ x = some (.tuple ds)) : ∃ p vs, v = .ref p ∧ SqT K H p vs ∧ DqA K H0 vs ds := by
  rcases (r.read h e).2 with ⟨es, z, _⟩ | q
  · cases z
  · cases q with
    | tup h1 h2 => exact ⟨_, _, rfl, Same.sqt r.ext h1, h2⟩
theorem RS.int (r : RS K B H0 g σ ρ n H) (h : RelR K B H0 H g σ ρ v x) {i : Int} (e : rd ρ x = some (.int i)) : v = .int i := by
  cases (r.read h e).1; rfl
theorem RS.str (r : RS K B H0 g σ ρ n H) (h : RelR K B H0 H g σ ρ v x) {i : Str} (e : rd ρ x = some (.str i)) : v = .str i := by
  cases (r.read h e).1; rfl
theorem RS.bool (r : RS K B H0 g σ ρ n H) (h : RelR K B H0 H g σ ρ v x) {i : Bool} (e : rd ρ x = some (.bool i)) : v = .bl i := by
  cases (r.read h e).1; rfl
theorem RS.isNone (r : RS K B H0 g σ ρ n H) (h : RelR K B H0 H g σ ρ v x) (e : rd ρ x = some .none) : v = .non := by
  cases (r.read h e).1; rfl
def calm1 : X2 → X2
  | .own ds => .d (.list ds)
  | .ob (.ret _ _ d) => .d d
  | .ob (.tt ds) => .d (.tuple ds)
  | x => x
theorem RS.calm (r : RS K B H0 g σ ρ n H) (h : RelR K B H0 H g σ ρ v x) : ∃ H0', Same H0 H0' ∧ RS K B H0' g σ ρ n H ∧ RelN K H0' g σ v (calm1 x) := by
  cases x with
  | own ds => exact r.freezeR h
  | d _ => exact ⟨H0, Same.refl _, r, h⟩
  | slot _ => exact ⟨H0, Same.refl _, r, h⟩
  | drw => exact ⟨H0, Same.refl _, r, h⟩
  | scr _ => exact ⟨H0, Same.refl _, r, h⟩
  | ob o => cases o with
    | ret a ds d => exact ⟨H0, Same.refl _, r, h.choose_spec.2.1⟩
    | tt ds =>
      obtain ⟨p, rfl, h1⟩ := h
      exact ⟨H0, Same.refl _, r, h1.dq⟩
    | dic _ => exact h.elim
    | rows _ _ => exact h.elim
    | «at» _ _ => exact h.elim
theorem RelN.r (h : RelN K H0 g σ v x) : RelR K B H0 H g σ ρ v x := by
  cases x with
  | own ds => exact h.elim
  | d _ => exact h
  | slot _ => exact h
  | drw => exact h
  | scr _ => exact h
  | ob _ => exact h.elim
end
end B2

namespace B2
open PySem L2
abbrev Xn := Str → Env → Prop
abbrev W2 := Xn → Env → (X2 → Env → Prop) → Prop
abbrev WT := Xn → Env → (Bool → Env → Prop) → Prop
abbrev WA := Xn → Env → (List X2 → Env → Prop) → Prop
def RelNs (K : PySem.W.Frag) (H0 : Hp) (g : Option Gs) (σ : St) : List V → List X2 → Prop := Paired fun v x => RelN K H0 g σ v x
theorem RelNs.mono {K : PySem.W.Frag} {H0 H0' : Hp} {g : Option Gs} {σ : St} (e : Same H0 H0') {vs : List V} {xs : List X2} (h : RelNs K H0 g σ vs xs) : RelNs K H0' g σ vs xs := Paired.mapP h fun _ _ q => RelN.mono e q
abbrev MG := Str → Option Value
structure Exn (mg : MG) (nm : Str) (cls : Value) (d : Option Addr) : Prop where
  cl : mg nm = some cls
  nd : d = none
section
variable (K : PySem.W.Frag) (mg : MG) (W : WX) (m : Nat)
def SimE (t : TE) (w : W2) : Prop := ∀ (B : Base) (H0 : Hp) (g : Option Gs) (σ : St) (ρ : Env) (n : Nat) (H : Hp) (e : Xn) (k : X2 → Env → Prop) (Q : VK), RS K B H0 g σ ρ n H → n + m ≤ LIM → w e ρ k →
  (∀ H0' ρ' H' v x, Same H0 H0' → RS K B H0' g σ ρ' (n + m) H' → RelR K B H0' H' g σ ρ' v x → k x ρ' → Q v H') →
  (∀ H0' ρ' H' nm cls d, Same H0 H0' → RS K B H0' g σ ρ' (n + m) H' → e nm ρ' → Exn mg nm cls d → W cls d σ H') → t σ H Q
def SimT (t : TT) (w : WT) : Prop := ∀ (B : Base) (H0 : Hp) (g : Option Gs) (σ : St) (ρ : Env) (n : Nat) (H : Hp) (e : Xn) (k : Bool → Env → Prop) (Q : Bool → Hp → Prop), RS K B H0 g σ ρ n H → n + m ≤ LIM → w e ρ k →
  (∀ H0' ρ' H' b, Same H0 H0' → RS K B H0' g σ ρ' (n + m) H' → k b ρ' → Q b H') →
  (∀ H0' ρ' H' nm cls d, Same H0 H0' → RS K B H0' g σ ρ' (n + m) H' → e nm ρ' → Exn mg nm cls d → W cls d σ H') → t σ H Q
def SimA (L : Nat) (t : TA) (w : WA) : Prop := ∀ (B : Base) (H0 : Hp) (g : Option Gs) (σ : St) (ρ : Env) (n : Nat) (H : Hp) (e : Xn) (k : List X2 → Env → Prop) (Q : List V → Hp → Prop), RS K B H0 g σ ρ n H → n + m ≤ LIM → w e ρ k →
  (∀ H0' ρ' H' vs xs, Same H0 H0' → RS K B H0' g σ ρ' (n + m) H' → RelNs K H0' g σ vs xs → vs.length = L → k xs ρ' → Q vs H') →
  (∀ H0' ρ' H' nm cls d, Same H0 H0' → RS K B H0' g σ ρ' (n + m) H' → e nm ρ' → Exn mg nm cls d → W cls d σ H') → t σ H Q
end
structure Fam (ι : Type) where
  X : ι → Cx
  K : PySem.W.Frag
  mg : MG
  N : List Str
  sc : Scope
  k : Nat
  P : Program
  w : World
  base : Heap
  hK : ∀ i, (X i).K = K
  hmg : ∀ i, (X i).mg = mg
  hN : ∀ i, (X i).N = N
  hsc : ∀ i, (X i).env.scope = sc
  hP : ∀ i, (X i).prog = P
  hw : ∀ i, (X i).w = w
  hbase : ∀ i, (X i).base = base
  rm : ∀ i, L2H.RoomH k (X i).A
  cm : Bool
  calm : cm = true → ∀ i, (X i).calm = true
  room : cm = true → ∀ i, Room k (X i).A
  gd : ∀ i, Gd k (X i).A
  sr : Sr P base
  stk : ∀ i, ∃ env l, (X i).stack = env :: l ∧ env.scope.isGenerator = false ∧ env.scope.isCoroutine = false ∧ env.builtins = builtinsNs ∧ env.globals = mainGlobals
  nd : N.Nodup
  pass : ∀ i, PassesOwn (model (X i).prog (X i).w) (X i).A (X i).env (X i).xe
section
variable {ι : Type} (Φ : Fam ι) (W : WX) (m : Nat)
def JE (e : Expr) (w : W2) : Prop := ∃ t, (∀ i, PE (Φ.X i) e t) ∧ SimE Φ.K Φ.mg W m t w
def JT (e : Expr) (w : WT) : Prop := ∃ t, (∀ i, PT (Φ.X i) e t) ∧ SimT Φ.K Φ.mg W m t w
def JW (e : Expr) (w : WT) : Prop := ∃ t, (∀ i, PW (Φ.X i) e t) ∧ SimT Φ.K Φ.mg W m t w
def JA (es : List Expr) (w : WA) : Prop := ∃ t, (∀ i, PA (Φ.X i) es t) ∧ SimA Φ.K Φ.mg W m es.length t w
end
section
variable {ι : Type} {Φ : Fam ι} {W : WX} {m m1 m2 m3 : Nat}
def wVar (i : Nat) : W2 := fun _ ρ k => match ρ i with
  | some (.own _) => k (.slot i) ρ
  | some (.ob _) => k (.slot i) ρ
  | some x => k x ρ
  | none => False
def wC (d : PyData) : W2 := fun _ ρ k => k (.d d) ρ
theorem simE_var {K : PySem.W.Frag} {mg : MG} (i : Nat) : SimE K mg W 0 (tVar i) (wVar i) := by
  intro B H0 g σ ρ n H e k Q r l h q _
  unfold wVar at h
  cases hx : ρ i with
  | none => rw [hx] at h; exact h.elim
  | some x =>
    rw [hx] at h
    obtain ⟨v, h1, h2⟩ := r.sl i x hx
    refine ⟨v, h1, ?_⟩
    cases x with
    | own ds => exact q H0 ρ H v (.slot i) (Same.refl _) r h1 h
    | ob o => exact q H0 ρ H v (.slot i) (Same.refl _) r h1 h
    | d d => exact q H0 ρ H v (.d d) (Same.refl _) r h2 h
    | slot j => exact h2.elim
    | drw => exact q H0 ρ H v .drw (Same.refl _) r h2 h
    | scr ns => exact q H0 ρ H v (.scr ns) (Same.refl _) r h2 h
theorem je_var (i : Nat) {x : Str} {pos : Pos} (hN : Φ.N[i]? = some x := by rfl) (hv : Vis Φ.sc x := by first | exact Or.inl rfl | exact Or.inr (Or.inl rfl) | exact Or.inr (Or.inr rfl)) (hd : (x == ("__debug__" : Str)) = false := by decide) (hcd : (x == ("__classdict__" : Str)) = false := by decide) :
    JE Φ W 0 (.Name x pos) (wVar i) :=
  ⟨tVar i, fun j => pe_var (by rw [Φ.hN j]; exact hN) (by rw [Φ.hsc j]; exact hv) hd hcd, simE_var i⟩
theorem simE_c {K : PySem.W.Frag} {mg : MG} {v : V} {d : PyData} (h : ∀ H, Dq K H v d) : SimE K mg W 0 (tC v) (wC d) := by
  intro B H0 g σ ρ n H e k Q r l hw q _
  exact q H0 ρ H v (.d d) (Same.refl _) r (h H0) hw
theorem je_int {i j pos} : JE Φ W 0 (.Constant (.int i) j pos) (wC (.int i)) := ⟨_, fun _ => pe_int, simE_c fun _ => .int _⟩
theorem je_bl {i j pos} : JE Φ W 0 (.Constant (.bool i) j pos) (wC (.bool i)) := ⟨_, fun _ => pe_bl, simE_c fun _ => .bl _⟩
theorem je_str {i j pos} : JE Φ W 0 (.Constant (.str i) j pos) (wC (.str i)) := ⟨_, fun _ => pe_str, simE_c fun _ => .str _⟩
theorem je_non {j pos} : JE Φ W 0 (.Constant .none j pos) (wC .none) := ⟨_, fun _ => pe_non, simE_c fun _ => .non⟩
theorem je_glob {x : Str} {v : V} {u : Value} {pos : Pos} {d : PyData} (hg : ∀ i, Gl (Φ.X i) x) (hm : Φ.mg x = some u) (r : RelV v u) (hq : ∀ H, Dq Φ.K H v d) (hd : (x == ("__debug__" : Str)) = false := by decide) : JE Φ W 0 (.Name x pos) (wC d) :=
  ⟨_, fun i => pe_glob (hg i) (by rw [Φ.hmg i]; exact hm) r hd, simE_c hq⟩
theorem SimE.cost {K : PySem.W.Frag} {mg : MG} {t : TE} {w : W2} (h : SimE K mg W m t w) (l : m ≤ m1) : SimE K mg W m1 t w := by
  intro B H0 g σ ρ n H e k Q r l1 hw q x
  exact h B H0 g σ ρ n H e k Q r (by omega) hw (fun H0' ρ' H' v y s r' => q H0' ρ' H' v y s (r'.count (by omega))) (fun H0' ρ' H' nm cls d s r' => x H0' ρ' H' nm cls d s (r'.count (by omega)))
theorem SimT.cost {K : PySem.W.Frag} {mg : MG} {t : TT} {w : WT} (h : SimT K mg W m t w) (l : m ≤ m1) : SimT K mg W m1 t w := by
  intro B H0 g σ ρ n H e k Q r l1 hw q x
  exact h B H0 g σ ρ n H e k Q r (by omega) hw (fun H0' ρ' H' v s r' => q H0' ρ' H' v s (r'.count (by omega))) (fun H0' ρ' H' nm cls d s r' => x H0' ρ' H' nm cls d s (r'.count (by omega)))
theorem JE.cost {e : Expr} {w : W2} (h : JE Φ W m e w) (l : m ≤ m1) : JE Φ W m1 e w := let ⟨t, a, b⟩ := h; ⟨t, a, b.cost l⟩
def rdK (ρ : Env) (x : X2) (k : PyData → Prop) : Prop := match rd ρ x with
  | some d => k d
  | none => False
theorem rdK_of {ρ : Env} {x : X2} {k : PyData → Prop} (h : rdK ρ x k) : ∃ d, rd ρ x = some d ∧ k d := by
  unfold rdK at h
  cases e : rd ρ x with
  | none => rw [e] at h; exact h.elim
  | some d => rw [e] at h; exact ⟨d, rfl, h⟩
def RSim (K : PySem.W.Frag) (r : R2) (f : PyData → PyData → (X2 → Prop) → Prop) : Prop := ∀ (B : Base) (H0 : Hp) (g : Option Gs) (σ : St) (ρ : Env) (n : Nat) (H : Hp) (v1 v2 : V) (x1 x2 : X2) (a b : PyData) (k : X2 → Prop) (Q : VK),
  RS K B H0 g σ ρ n H → RelR K B H0 H g σ ρ v1 x1 → rd ρ x1 = some a → RelR K B H0 H g σ ρ v2 x2 → rd ρ x2 = some b → f a b k →
  (∀ H0' H' v x, Same H0 H0' → RS K B H0' g σ ρ n H' → RelR K B H0' H' g σ ρ v x → k x → Q v H') → r v1 v2 H Q
def wBin (f : PyData → PyData → (X2 → Prop) → Prop) (wa wb : W2) : W2 := fun e ρ k => wa e ρ fun x ρ1 => wb e ρ1 fun y ρ2 => rdK ρ2 (calm1 x) fun a => rdK ρ2 y fun b => f a b fun z => k z ρ2
theorem sim_bin {K : PySem.W.Frag} {mg : MG} {r : R2} {f : PyData → PyData → (X2 → Prop) → Prop} {ta tb : TE} {wa wb : W2} (hr : RSim K r f) (ha : SimE K mg W m1 ta wa) (hb : SimE K mg W m2 tb wb) : SimE K mg W (m1 + m2) (tOp r ta tb) (wBin f wa wb) := by
  intro B H0 g σ ρ n H e k Q rs l hw q xq
  refine ha B H0 g σ ρ n H e _ _ rs (by omega) hw (fun H1 ρ1 Ha v1 x1 s1 r1 h1 q1 => ?_) (fun H0' ρ' H' nm cls d s r' => xq H0' ρ' H' nm cls d s (r'.count (by omega)))
  obtain ⟨H2, s2, r2, h2⟩ := r1.calm h1
  refine hb B H2 g σ ρ1 (n + m1) Ha e _ _ r2 (by omega) q1 (fun H3 ρ3 Hb v2 x2 s3 r3 h3 q3 => ?_) (fun H0' ρ' H' nm cls d s r' => xq H0' ρ' H' nm cls d ((s1.trans s2).trans s) (r'.count (by omega)))
  obtain ⟨a, ea, q4⟩ := rdK_of q3
  obtain ⟨b, eb, q5⟩ := rdK_of q4
  exact hr B H3 g σ ρ3 _ Hb v1 v2 (calm1 x1) x2 a b _ Q r3 (h2.mono s3).r ea h3 eb q5 fun H4 Hc v x s4 r4 h4 q6 => q H4 ρ3 Hc v x (((s1.trans s2).trans s3).trans s4) (r4.count (by omega)) h4 q6
theorem je_op {op : Operator} {a b : Expr} {pos : Pos} {r : R2} {f : PyData → PyData → (X2 → Prop) → Prop} {wa wb : W2} (ho : ∀ i, OpR (Φ.X i) (binaryOp op) r) (hr : RSim Φ.K r f) (ha : JE Φ W m1 a wa) (hb : JE Φ W m2 b wb) : JE Φ W (m1 + m2) (.BinOp a op b pos) (wBin f wa wb) :=
  let ⟨ta, a1, a2⟩ := ha
  let ⟨tb, b1, b2⟩ := hb
  ⟨tOp r ta tb, fun i => pe_op (ho i) (a1 i) (b1 i), sim_bin hr a2 b2⟩
theorem je_cmp {op : CmpOp} {a b : Expr} {pos : Pos} {r : R2} {f : PyData → PyData → (X2 → Prop) → Prop} {wa wb : W2} (ho : ∀ i, OpR (Φ.X i) (compareOp op) r) (hr : RSim Φ.K r f) (ha : JE Φ W m1 a wa) (hb : JE Φ W m2 b wb) (hm : behindInMarks op b = false := by first | exact nomark _ (by decide) (by decide) | rfl) : JE Φ W (m1 + m2) (.Compare a [op] [b] pos) (wBin f wa wb) :=
  let ⟨ta, a1, a2⟩ := ha
  let ⟨tb, b1, b2⟩ := hb
  ⟨tOp r ta tb, fun i => pe_cmpR (ho i) (a1 i) (b1 i) hm, sim_bin hr a2 b2⟩
theorem RS.flat {K : PySem.W.Frag} {B : Base} {H0 H : Hp} {g : Option Gs} {σ : St} {ρ : Env} {n : Nat} (r : RS K B H0 g σ ρ n H) {v : V} {d : PyData} (h : ∀ H, Dq K H v d) {k : X2 → Prop} {Q : VK}
    (q : ∀ H0' H' v x, Same H0 H0' → RS K B H0' g σ ρ n H' → RelR K B H0' H' g σ ρ v x → k x → Q v H') (hk : k (.d d)) : Q v H := q H0 H v (.d d) (Same.refl _) r (h H0) hk
theorem RS.newT {K : PySem.W.Frag} {B : Base} {H0 H : Hp} {g : Option Gs} {σ : St} {ρ : Env} {n : Nat} (r : RS K B H0 g σ ρ n H) {vs : List V} {ds : List PyData} (h : DqA K H0 vs ds) {p : Addr} (hp : H p = none) {k : X2 → Prop} {Q : VK}
    (q : ∀ H0' H' v x, Same H0 H0' → RS K B H0' g σ ρ n H' → RelR K B H0' H' g σ ρ v x → k x → Q v H') (hk : k (.d (.tuple ds))) : Q (.ref p) (upd H p (.tup vs)) := by
  obtain ⟨r1, s1⟩ := r.lay (o := .tup vs) hp
  exact q _ _ _ (.d (.tuple ds)) s1 r1 (Dq.tup (SqT.of upd_same) (h.mono s1)) hk
theorem RS.newL {K : PySem.W.Frag} {B : Base} {H0 H : Hp} {g : Option Gs} {σ : St} {ρ : Env} {n : Nat} (r : RS K B H0 g σ ρ n H) {vs : List V} {ds : List PyData} (h : DqA K H0 vs ds) {p : Addr} (hp : H p = none) {k : X2 → Prop} {Q : VK}
    (q : ∀ H0' H' v x, Same H0 H0' → RS K B H0' g σ ρ n H' → RelR K B H0' H' g σ ρ v x → k x → Q v H') (hk : k (.own ds)) : Q (.ref p) (upd H p (.lst vs)) := by
  obtain ⟨r1, h1⟩ := r.mkOwn hp h
  exact q _ _ _ _ (Same.refl _) r1 h1 hk
theorem RS.oldT {K : PySem.W.Frag} {B : Base} {H0 H : Hp} {g : Option Gs} {σ : St} {ρ : Env} {n : Nat} (r : RS K B H0 g σ ρ n H) {v : V} {x : X2} {ds : List PyData} (h : RelR K B H0 H g σ ρ v x) (e : rd ρ x = some (.tuple ds)) : Dq K H0 v (.tuple ds) := by
  rcases (r.read h e).2 with ⟨_, z, _⟩ | q
  · cases z
  · exact q
def rAddA (K : PySem.W.Frag) : R2 := fun x y H Q => (∃ i j, x = .int i ∧ y = .int j ∧ Q (.int (i + j)) H) ∨ (∃ i j, x = .str i ∧ y = .str j ∧ i.length + j.length ≤ sizeLine ∧ Q (.str (i ++ j)) H) ∨ rCatA K x y H Q ∨ rCat x y H Q
theorem op_addA {X : Cx} : OpR X (binaryOp .Add) (rAddA X.K) := OpR.or op_add (OpR.or op_add_str (OpR.or op_catA op_cat))
def addD (a b : PyData) (k : X2 → Prop) : Prop := match a, b with
  | .int i, .int j => k (.d (.int (i + j)))
  | .str s, .str t => s.length + t.length ≤ 16777216 ∧ k (.d (.str (s ++ t)))
  | .tuple xs, .tuple ys => xs.length + ys.length ≤ 16777216 ∧ k (.d (.tuple (xs ++ ys)))
  | .list xs, .list ys => xs.length + ys.length ≤ 16777216 ∧ k (.own (xs ++ ys))
  | _, _ => False
theorem rsim_add {K : PySem.W.Frag} : RSim K (rAddA K) addD := by
  intro B H0 g σ ρ n H v1 v2 x1 x2 a b k Q r h1 e1 h2 e2 hf q
  unfold addD at hf
  split at hf
  · rw [r.int h1 e1, r.int h2 e2]
    exact .inl ⟨_, _, rfl, rfl, r.flat (fun _ => .int _) q hf⟩
  · rw [r.str h1 e1, r.str h2 e2]
    exact .inr (.inl ⟨_, _, rfl, rfl, by rw [sizeLine_eq]; exact hf.1, r.flat (fun _ => .str _) q hf.2⟩)
  · rename_i xs ys
    obtain ⟨p, vs, rfl, s1, d1⟩ := r.tuple h1 e1
    obtain ⟨p', vs', rfl, s2, d2⟩ := r.tuple h2 e2
    have t1 := r.oldT h1 e1
    have t2 := r.oldT h2 e2
    refine .inr (.inr (.inl ⟨p, p', vs, vs', rfl, rfl, s1, s2, by rw [d1.length, d2.length, sizeLine_eq]; exact hf.1, fun z => ?_, fun z1 z2 => ?_, fun z1 z2 p2 hp => ?_⟩))
    · subst z
      cases d1
      exact q H0 H _ (.d (.tuple ys)) (Same.refl _) r t2 hf.2
    · subst z2
      cases d2
      exact q H0 H _ (.d (.tuple xs)) (Same.refl _) r t1 (by have := hf.2; rw [List.append_nil] at this; exact this)
    · exact r.newT (d1.append d2) hp q hf.2
  · obtain ⟨p, vs, rfl, s1, d1⟩ := r.list h1 e1
    obtain ⟨p', vs', rfl, s2, d2⟩ := r.list h2 e2
    exact .inr (.inr (.inr ⟨p, p', vs, vs', rfl, rfl, s1, s2, by rw [d1.length, d2.length, sizeLine_eq]; exact hf.1, fun p2 hp => r.newL (d1.append d2) hp q hf.2⟩))
  · exact hf.elim
theorem je_add {a b : Expr} {pos : Pos} {wa wb : W2} (ha : JE Φ W m1 a wa) (hb : JE Φ W m2 b wb) : JE Φ W (m1 + m2) (.BinOp a .Add b pos) (wBin addD wa wb) := je_op (fun i => by rw [← Φ.hK i]; exact op_addA) rsim_add ha hb
theorem rsim_int {K : PySem.W.Frag} {C : Int → Int → Prop} {g : Int → Int → Int} {f : PyData → PyData → (X2 → Prop) → Prop} (hf : ∀ a b k, f a b k → ∃ i j, a = .int i ∧ b = .int j ∧ C i j ∧ k (.d (.int (g i j)))) : RSim K (rI C fun i j => .int (g i j)) f := by
  intro B H0 gs σ ρ n H v1 v2 x1 x2 a b k Q r h1 e1 h2 e2 h q
  obtain ⟨i, j, rfl, rfl, c, hk⟩ := hf a b k h
  rw [r.int h1 e1, r.int h2 e2]
  exact ⟨i, j, rfl, rfl, c, r.flat (fun _ => .int _) q hk⟩
def subD (a b : PyData) (k : X2 → Prop) : Prop := match a, b with
  | .int i, .int j => k (.d (.int (i - j)))
  | _, _ => False
theorem op_subC {X : Cx} : OpR X (binaryOp .Sub) (rI (fun _ _ => True) fun i j => .int (i - j)) := opI fun _ _ _ _ _ _ _ _ q => PyProof.Rows.sub_int q
theorem je_sub {a b : Expr} {pos : Pos} {wa wb : W2} (ha : JE Φ W m1 a wa) (hb : JE Φ W m2 b wb) : JE Φ W (m1 + m2) (.BinOp a .Sub b pos) (wBin subD wa wb) :=
  je_op (fun i => op_subC) (rsim_int fun a b k h => by
    unfold subD at h
    split at h
    · exact ⟨_, _, rfl, rfl, trivial, h⟩
    · exact h.elim) ha hb
def MulOk (i j : Int) : Prop := (-(2 ^ 64) < i ∧ i < 2 ^ 64) ∨ (-(2 ^ 64) < j ∧ j < 2 ^ 64) ∨ ∃ a b : Nat, i.natAbs < 2 ^ a ∧ j.natAbs < 2 ^ b ∧ a + b ≤ 130000000
theorem bits_lt {i : Int} {a : Nat} (h : i.natAbs < 2 ^ a) : Builtin.Int.intBits i ≤ a + 1 := by
  unfold Builtin.Int.intBits
  by_cases z : i.natAbs = 0
  · rw [z]; split <;> simp
  · have := (Nat.log2_lt z).mpr h
    split <;> omega
theorem MulOk.w {i j : Int} (h : MulOk i j) : PySem.IntMulOk i j := by
  rcases h with ⟨h1, h2⟩ | ⟨h1, h2⟩ | ⟨a, b, h1, h2, h3⟩
  · exact .of_left (intBits_le_64 h1 h2)
  · exact .of_right (intBits_le_64 h1 h2)
  exact PySem.IntMulOk.of_le (bits_lt h1) (bits_lt h2) (by omega)
theorem op_mulI {X : Cx} : OpR X (binaryOp .Mult) (rI PySem.IntMulOk fun i j => .int (i * j)) := opI fun _ _ _ _ _ _ _ hc q => PyProof.Rows.mul_int q hc
def mulD (a b : PyData) (k : X2 → Prop) : Prop := match a, b with
  | .int i, .int j => MulOk i j ∧ k (.d (.int (i * j)))
  | .list xs, .int j => (-(2 ^ 63) ≤ j ∧ j < 2 ^ 63 ∧ xs.length * j.toNat ≤ 16777216) ∧ k (.own (List.replicate j.toNat xs).flatten)
  | .tuple xs, .int j => (xs ≠ [] ∧ 2 ≤ j ∧ j ≤ 1000 ∧ xs.length ≤ 1000) ∧ k (.d (.tuple (List.replicate j.toNat xs).flatten))
  | _, _ => False
def rMulA (K : PySem.W.Frag) : R2 := fun x y H Q => rI PySem.IntMulOk (fun i j => .int (i * j)) x y H Q ∨ rRep x y H Q ∨ rRepT K x y H Q
theorem op_mulA {X : Cx} : OpR X (binaryOp .Mult) (rMulA X.K) := OpR.or op_mulI (OpR.or op_rep op_repT)
theorem rsim_mul {K : PySem.W.Frag} : RSim K (rMulA K) mulD := by
  intro B H0 g σ ρ n H v1 v2 x1 x2 a b k Q r h1 e1 h2 e2 hf q
  unfold mulD at hf
  split at hf
  · rw [r.int h1 e1, r.int h2 e2]
    exact .inl ⟨_, _, rfl, rfl, hf.1.w, r.flat (fun _ => .int _) q hf.2⟩
  · obtain ⟨p, vs, rfl, s1, d1⟩ := r.list h1 e1
    rw [r.int h2 e2]
    exact .inr (.inl ⟨p, _, vs, rfl, rfl, s1, hf.1.1, hf.1.2.1, by rw [d1.length, sizeLine_eq]; exact hf.1.2.2, fun p2 hp => r.newL (d1.rep _) hp q hf.2⟩)
  · obtain ⟨p, vs, rfl, s1, d1⟩ := r.tuple h1 e1
    rw [r.int h2 e2]
    refine .inr (.inr ⟨p, _, vs, rfl, rfl, s1, fun z => hf.1.1 ?_, hf.1.2.1, hf.1.2.2.1, by rw [d1.length]; exact hf.1.2.2.2, fun p2 hp => r.newT (d1.rep _) hp q hf.2⟩)
    subst z
    cases d1; rfl
  · exact hf.elim
theorem op_fdivL {X : Cx} {k : Nat} (gd : Gd k X.A) (tree : X.prog.given.tree = none) (seer : X.base.NoSeer) (stk : ∃ env l, X.stack = env :: l ∧ env.scope.isGenerator = false ∧ env.scope.isCoroutine = false ∧ env.builtins = builtinsNs ∧ env.globals = mainGlobals) :
    OpR X (binaryOp .FloorDiv) (rI (fun _ j => 0 < j) fun i j => .int (i / j)) := by
  intro pins s σ H x y v u Q I rx ry h
  obtain ⟨i, j, rfl, rfl, hc, q⟩ := h
  obtain ⟨t, rfl⟩ := rx
  obtain ⟨t', rfl⟩ := ry
  obtain ⟨env, l, e1, e2, e3, e4, e5⟩ := stk
  have far : X.A.depth + Builtin.pylongFrames < recursionLimit := by
    have := gd.far
    show _ + 100 < _
    omega
  refine PyProof.Rows.floordiv_int (by omega) ?_ (.inr (PySem.PylongRoom.of I.nolimit far (PySem.SeerAt.of (seer.keeps I.bk) tree (I.ok.frames.trans (congrArg some e1)) e2 e3 e4 e5)))
  rw [Int.fdiv_eq_ediv_of_nonneg i (by omega)]
  exact ⟨.int _, H, I.tok _, ⟨_, rfl⟩, q⟩
def divD (a b : PyData) (k : X2 → Prop) : Prop := match a, b with
  | .int i, .int j => 0 < j ∧ k (.d (.int (i / j)))
  | _, _ => False
theorem je_div {a b : Expr} {pos : Pos} {wa wb : W2} (ha : JE Φ W m1 a wa) (hb : JE Φ W m2 b wb) : JE Φ W (m1 + m2) (.BinOp a .FloorDiv b pos) (wBin divD wa wb) :=
  je_op (fun i => op_fdivL (Φ.gd i) (by rw [Φ.hP i]; exact Φ.sr.tree) (by rw [Φ.hbase i]; exact Φ.sr.seer) (Φ.stk i)) (rsim_int fun a b k h => by
    unfold divD at h
    split at h
    · exact ⟨_, _, rfl, rfl, h.1, h.2⟩
    · exact h.elim) ha hb
def modD (a b : PyData) (k : X2 → Prop) : Prop := match a, b with
  | .int i, .int j => 0 < j ∧ k (.d (.int (i % j)))
  | _, _ => False
theorem je_mod {a b : Expr} {pos : Pos} {wa wb : W2} (ha : JE Φ W m1 a wa) (hb : JE Φ W m2 b wb) : JE Φ W (m1 + m2) (.BinOp a .Mod b pos) (wBin modD wa wb) :=
  je_op (fun i => op_mod) (rsim_int fun a b k h => by
    unfold modD at h
    split at h
    · exact ⟨_, _, rfl, rfl, h.1, h.2⟩
    · exact h.elim) ha hb
def CPowW (i j : Int) : Prop := 0 ≤ j ∧ (Builtin.Int.intBits i : Int) * j ≤ 2 ^ 27
theorem op_powW {X : Cx} : OpR X (binaryOp .Pow) (rI CPowW fun i j => .int (i ^ j.toNat)) := opI fun _ _ _ _ _ _ _ hc q => PyProof.Rows.pow_int hc.1 hc.2 q
def wNeg (wa : W2) : W2 := fun e ρ k => wa e ρ fun x ρ1 => rdK ρ1 x fun a => match a with
  | .int i => k (.d (.int (-i))) ρ1
  | _ => False
theorem je_neg {a : Expr} {pos : Pos} {wa : W2} (ha : JE Φ W m a wa) : JE Φ W m (.UnaryOp .USub a pos) (wNeg wa) := by
  obtain ⟨ta, a1, a2⟩ := ha
  refine ⟨tUn _ ta, fun i => pe_un un_neg (a1 i), ?_⟩
  intro B H0 g σ ρ n H e k Q rs l hw q xq
  refine a2 B H0 g σ ρ n H e _ _ rs l hw (fun H1 ρ1 Ha v1 x1 s1 r1 h1 q1 => ?_) xq
  obtain ⟨a, ea, q2⟩ := rdK_of q1
  split at q2
  · rename_i i
    rw [r1.int h1 ea]
    exact ⟨i, rfl, q H1 ρ1 Ha _ (.d (.int (-i))) s1 r1 (.int _) q2⟩
  · exact q2.elim
end
end B2

namespace B2
open PySem L2
section
variable {ι : Type} {Φ : Fam ι} {W : WX} {m m1 m2 m3 : Nat}
def rEqQ (K : PySem.W.Frag) : R2 := fun x y H Q => ∃ d e, Dq K H x d ∧ Dq K H y e ∧ SeqAt.shaped d = true ∧ SeqAt.shaped e = true ∧ Q (.bl (PyData.eqv d e)) H
def rNeQ (K : PySem.W.Frag) : R2 := fun x y H Q => ∃ d e, Dq K H x d ∧ Dq K H y e ∧ SeqAt.shaped d = true ∧ SeqAt.shaped e = true ∧ Q (.bl (!PyData.eqv d e)) H
theorem op_eqQ {X : Cx} (hu : X.A.units + 64 < cLine) : OpR X (compareOp .Eq) (rEqQ X.K) := by
  intro pins s σ H x y v u Q I rx ry h
  obtain ⟨d, e, hd, he, sd, se, q⟩ := h
  obtain ⟨as, r1, _⟩ := Dq.reads I hd rx
  obtain ⟨bs, r2, _⟩ := Dq.reads I he ry
  exact SeqAt.compareEq_shaped r1 r2 sd se hu ⟨.bl _, H, I, rfl, q⟩
theorem op_neQ {X : Cx} (hu : X.A.units + 64 < cLine) : OpR X (compareOp .NotEq) (rNeQ X.K) := by
  intro pins s σ H x y v u Q I rx ry h
  obtain ⟨d, e, hd, he, sd, se, q⟩ := h
  obtain ⟨as, r1, _⟩ := Dq.reads I hd rx
  obtain ⟨bs, r2, _⟩ := Dq.reads I he ry
  exact SeqAt.compareNe_shaped r1 r2 sd se hu ⟨.bl _, H, I, rfl, q⟩
def rEqL (K : PySem.W.Frag) : R2 := fun x y H Q => ∃ (a b : Addr) (xs : List V), x = .ref a ∧ y = .ref b ∧ SqL K H a xs ∧ SqL K H b [] ∧ Q (.bl xs.isEmpty) H
def rNeL (K : PySem.W.Frag) : R2 := fun x y H Q => ∃ (a b : Addr) (xs : List V), x = .ref a ∧ y = .ref b ∧ SqL K H a xs ∧ SqL K H b [] ∧ Q (.bl (!xs.isEmpty)) H
theorem op_eqL {X : Cx} (hu : X.A.units + 64 < cLine) : OpR X (compareOp .Eq) (rEqL X.K) := by
  intro pins s σ H x y v u Q I rx ry h
  obtain ⟨a, b, xs, rfl, rfl, h1, h2, q⟩ := h
  cases rx
  cases ry
  obtain ⟨its, rv, pl, _⟩ := I.list h1
  obtain ⟨its2, rv2, pl2, _⟩ := I.list h2
  cases rv2
  have hA : X.A.units < cLine := by omega
  cases rv with
  | nil => exact SeqAt.eq_listAt (e := fun _ => true) pl.isList pl2.isList rfl hA (fun j h1 => absurd h1 (by simp)) ⟨.bl true, H, I, rfl, q⟩
  | cons r1 r2 => exact SeqAt.eq_list_lengthsAt pl.isList pl2.isList (by simp) hA ⟨.bl false, H, I, rfl, q⟩
theorem op_neL {X : Cx} (hu : X.A.units + 64 < cLine) : OpR X (compareOp .NotEq) (rNeL X.K) := by
  intro pins s σ H x y v u Q I rx ry h
  obtain ⟨a, b, xs, rfl, rfl, h1, h2, q⟩ := h
  cases rx
  cases ry
  obtain ⟨its, rv, pl, _⟩ := I.list h1
  obtain ⟨its2, rv2, pl2, _⟩ := I.list h2
  cases rv2
  have hA : X.A.units < cLine := by omega
  cases rv with
  | nil => exact SeqAt.RcNeAt.lists (e := fun _ => true) pl.isList pl2.isList rfl hA (fun j h1 => absurd h1 (by simp)) X.prog X.w _ _ ⟨.bl false, H, I, rfl, q⟩
  | cons r1 r2 => exact SeqAt.RcNeAt.lists_lengths pl.isList pl2.isList (by simp) hA X.prog X.w _ _ ⟨.bl true, H, I, rfl, q⟩
def rEqT (K : PySem.W.Frag) : R2 := fun x y H Q => ∃ (a b : Addr) (xs : List V), x = .ref a ∧ y = .ref b ∧ SqT K H a xs ∧ SqT K H b [] ∧ Q (.bl xs.isEmpty) H
def rNeT (K : PySem.W.Frag) : R2 := fun x y H Q => ∃ (a b : Addr) (xs : List V), x = .ref a ∧ y = .ref b ∧ SqT K H a xs ∧ SqT K H b [] ∧ Q (.bl (!xs.isEmpty)) H
theorem op_eqT {X : Cx} (hu : X.A.units + 64 < cLine) : OpR X (compareOp .Eq) (rEqT X.K) := by
  intro pins s σ H x y v u Q I rx ry h
  obtain ⟨a, b, xs, rfl, rfl, h1, h2, q⟩ := h
  cases rx
  cases ry
  obtain ⟨its, rv, pl, _⟩ := I.tuple h1
  obtain ⟨its2, rv2, pl2, _⟩ := I.tuple h2
  cases rv2
  have hA : X.A.units < cLine := by omega
  cases rv with
  | nil => exact SeqAt.eq_tupleAt (e := fun _ => true) pl pl2 hA (fun j h1 => absurd h1 (by simp)) ⟨.bl true, H, I, rfl, q⟩
  | cons r1 r2 => exact SeqAt.eq_tupleAt (e := fun _ => true) pl pl2 hA (fun j h1 h2 => absurd h2 (by simp)) ⟨.bl false, H, I, by simp [RelV], q⟩
theorem op_neT {X : Cx} (hu : X.A.units + 64 < cLine) : OpR X (compareOp .NotEq) (rNeT X.K) := by
  intro pins s σ H x y v u Q I rx ry h
  obtain ⟨a, b, xs, rfl, rfl, h1, h2, q⟩ := h
  cases rx
  cases ry
  obtain ⟨its, rv, pl, _⟩ := I.tuple h1
  obtain ⟨its2, rv2, pl2, _⟩ := I.tuple h2
  cases rv2
  have hA : X.A.units < cLine := by omega
  cases rv with
  | nil => exact SeqAt.RcNeAt.tuples (e := fun _ => true) pl pl2 hA (fun j h1 => absurd h1 (by simp)) X.prog X.w _ _ ⟨.bl false, H, I, rfl, q⟩
  | cons r1 r2 => exact SeqAt.RcNeAt.tuples (e := fun _ => true) pl pl2 hA (fun j h1 h2 => absurd h2 (by simp)) X.prog X.w _ _ ⟨.bl true, H, I, by simp [RelV], q⟩
def rEqA (K : PySem.W.Frag) : R2 := fun x y H Q => rEq x y H Q ∨ rEqQ K x y H Q ∨ rEqL K x y H Q ∨ rEqT K x y H Q
def rNeA (K : PySem.W.Frag) : R2 := fun x y H Q => rNe x y H Q ∨ rNeQ K x y H Q ∨ rNeL K x y H Q ∨ rNeT K x y H Q
theorem op_eqA {X : Cx} (hu : X.A.units + 64 < cLine) : OpR X (compareOp .Eq) (rEqA X.K) := OpR.or op_eq (OpR.or (op_eqQ hu) (OpR.or (op_eqL hu) (op_eqT hu)))
theorem op_neA {X : Cx} (hu : X.A.units + 64 < cLine) : OpR X (compareOp .NotEq) (rNeA X.K) := OpR.or op_ne (OpR.or (op_neQ hu) (OpR.or (op_neL hu) (op_neT hu)))
def easy : PyData → PyData → Bool
  | .int _, .int _ => true
  | .str _, .str _ => true
  | .bool _, .bool _ => true
  | .none, .none => true
  | _, _ => false
def bare : PyData → PyData → Bool
  | .list _, .list [] => true
  | .tuple _, .tuple [] => true
  | _, _ => false
def EqOk (a b : PyData) : Prop := (easy a b || bare a b) = true ∨ (SeqAt.shaped a = true ∧ SeqAt.shaped b = true)
def eqD (a b : PyData) (k : X2 → Prop) : Prop := EqOk a b ∧ k (.d (.bool (PyData.eqv a b)))
def neD (a b : PyData) (k : X2 → Prop) : Prop := EqOk a b ∧ k (.d (.bool (!PyData.eqv a b)))
theorem unitsH {k : Nat} {A : Around} (r : L2H.RoomH k A) : A.units + 64 < cLine := by have := r.un; omega
theorem easy_eq {K : PySem.W.Frag} {H : Hp} {a b : PyData} {v1 v2 : V} (h : easy a b = true) (h1 : Dq K H v1 a) (h2 : Dq K H v2 b) : scal v1 v2 = true ∧ decide (v1 = v2) = PyData.eqv a b := by
  cases h1 <;> cases h2 <;> first
    | exact absurd (show false = true from h) Bool.false_ne_true
    | exact ⟨rfl, by simp only [PyData.eqv]; exact dec_int⟩
    | exact ⟨rfl, by simp only [PyData.eqv]; exact dec_bl⟩
    | exact ⟨rfl, by simp only [PyData.eqv]; exact dec_str⟩
    | exact ⟨rfl, by simp [PyData.eqv]⟩
theorem bare_eq {K : PySem.W.Frag} {H : Hp} {a b : PyData} {v1 v2 : V} (h : bare a b = true) (h1 : Dq K H v1 a) (h2 : Dq K H v2 b) : ∃ (p q : Addr) (xs : List V), v1 = .ref p ∧ v2 = .ref q ∧ ((SqL K H p xs ∧ SqL K H q []) ∨ (SqT K H p xs ∧ SqT K H q [])) ∧ xs.isEmpty = PyData.eqv a b := by
  unfold bare at h
  split at h
  · cases h1 with
    | lst e1 q1 =>
      cases h2 with
      | lst e2 q2 =>
        cases q2
        refine ⟨_, _, _, rfl, rfl, .inl ⟨SqL.of e1, SqL.of e2⟩, ?_⟩
        cases q1 with
        | nil => simp [PyData.eqv, PyData.eqvAll]
        | cons => simp [PyData.eqv, PyData.eqvAll]
  · cases h1 with
    | tup e1 q1 =>
      cases h2 with
      | tup e2 q2 =>
        cases q2
        refine ⟨_, _, _, rfl, rfl, .inr ⟨e1, e2⟩, ?_⟩
        cases q1 with
        | nil => simp [PyData.eqv, PyData.eqvAll]
        | cons => simp [PyData.eqv, PyData.eqvAll]
  · cases h
theorem rsim_eq {K : PySem.W.Frag} : RSim K (rEqA K) eqD := by
  intro B H0 g σ ρ n H v1 v2 x1 x2 a b k Q r h1 e1 h2 e2 hf q
  have d1 := (r.read h1 e1).1
  have d2 := (r.read h2 e2).1
  rcases hf with ⟨he | he, hk⟩
  · rcases Bool.or_eq_true_iff.mp he with he | he
    · obtain ⟨a1, a2⟩ := easy_eq he d1 d2
      exact .inl ⟨a1, by rw [a2]; exact r.flat (fun _ => .bl _) q hk⟩
    · obtain ⟨p1, p2, xs, z1, z2, z3, z5⟩ := bare_eq he d1 d2
      rcases z3 with ⟨z3, z4⟩ | ⟨z3, z4⟩
      · exact .inr (.inr (.inl ⟨p1, p2, xs, z1, z2, z3, z4, by rw [z5]; exact r.flat (fun _ => .bl _) q hk⟩))
      · exact .inr (.inr (.inr ⟨p1, p2, xs, z1, z2, z3, z4, by rw [z5]; exact r.flat (fun _ => .bl _) q hk⟩))
  · exact .inr (.inl ⟨a, b, d1, d2, he.1, he.2, r.flat (fun _ => .bl _) q hk⟩)
theorem rsim_ne {K : PySem.W.Frag} : RSim K (rNeA K) neD := by
  intro B H0 g σ ρ n H v1 v2 x1 x2 a b k Q r h1 e1 h2 e2 hf q
  have d1 := (r.read h1 e1).1
  have d2 := (r.read h2 e2).1
  rcases hf with ⟨he | he, hk⟩
  · rcases Bool.or_eq_true_iff.mp he with he | he
    · obtain ⟨a1, a2⟩ := easy_eq he d1 d2
      exact .inl ⟨a1, by rw [a2]; exact r.flat (fun _ => .bl _) q hk⟩
    · obtain ⟨p1, p2, xs, z1, z2, z3, z5⟩ := bare_eq he d1 d2
      rcases z3 with ⟨z3, z4⟩ | ⟨z3, z4⟩
      · exact .inr (.inr (.inl ⟨p1, p2, xs, z1, z2, z3, z4, by rw [z5]; exact r.flat (fun _ => .bl _) q hk⟩))
      · exact .inr (.inr (.inr ⟨p1, p2, xs, z1, z2, z3, z4, by rw [z5]; exact r.flat (fun _ => .bl _) q hk⟩))
  · exact .inr (.inl ⟨a, b, d1, d2, he.1, he.2, r.flat (fun _ => .bl _) q hk⟩)
theorem je_eq {a b : Expr} {pos : Pos} {wa wb : W2} (ha : JE Φ W m1 a wa) (hb : JE Φ W m2 b wb) : JE Φ W (m1 + m2) (.Compare a [.Eq] [b] pos) (wBin eqD wa wb) := je_cmp (fun i => by rw [← Φ.hK i]; exact op_eqA (unitsH (Φ.rm i))) rsim_eq ha hb
theorem je_ne {a b : Expr} {pos : Pos} {wa wb : W2} (ha : JE Φ W m1 a wa) (hb : JE Φ W m2 b wb) : JE Φ W (m1 + m2) (.Compare a [.NotEq] [b] pos) (wBin neD wa wb) := je_cmp (fun i => by rw [← Φ.hK i]; exact op_neA (unitsH (Φ.rm i))) rsim_ne ha hb
def rOrd (f : Int → Int → Bool) (g : Str → Str → Bool) : R2 := fun x y H Q => rI0 (fun i j => .bl (f i j)) x y H Q ∨ ∃ i j, x = .str i ∧ y = .str j ∧ Q (.bl (g i j)) H
def ordD (f : Int → Int → Bool) (g : Str → Str → Bool) (a b : PyData) (k : X2 → Prop) : Prop := match a, b with
  | .int i, .int j => k (.d (.bool (f i j)))
  | .str i, .str j => k (.d (.bool (g i j)))
  | _, _ => False
def sLt (i j : Str) : Bool := decide (i.cps.toList < j.cps.toList)
theorem rsim_ord {K : PySem.W.Frag} {f : Int → Int → Bool} {g : Str → Str → Bool} : RSim K (rOrd f g) (ordD f g) := by
  intro B H0 gs σ ρ n H v1 v2 x1 x2 a b k Q r h1 e1 h2 e2 hf q
  unfold ordD at hf
  split at hf
  · rw [r.int h1 e1, r.int h2 e2]
    exact .inl ⟨_, _, rfl, rfl, r.flat (fun _ => .bl _) q hf⟩
  · rw [r.str h1 e1, r.str h2 e2]
    exact .inr ⟨_, _, rfl, rfl, r.flat (fun _ => .bl _) q hf⟩
  · exact hf.elim
def ltD := ordD (fun i j => decide (i < j)) sLt
def leD := ordD (fun i j => decide (i ≤ j)) (fun i j => !sLt j i)
def gtD := ordD (fun i j => decide (j < i)) (fun i j => sLt j i)
def geD := ordD (fun i j => decide (j ≤ i)) (fun i j => !sLt i j)
theorem op_ltA {X : Cx} : OpR X (compareOp .Lt) (rOrd (fun i j => decide (i < j)) sLt) := OpR.or op_lt op_lt_str
theorem op_leA {X : Cx} : OpR X (compareOp .LtE) (rOrd (fun i j => decide (i ≤ j)) (fun i j => !sLt j i)) := OpR.or op_le op_le_str
theorem op_gtA {X : Cx} : OpR X (compareOp .Gt) (rOrd (fun i j => decide (j < i)) (fun i j => sLt j i)) := OpR.or op_gt op_gt_str
theorem op_geA {X : Cx} : OpR X (compareOp .GtE) (rOrd (fun i j => decide (j ≤ i)) (fun i j => !sLt i j)) := OpR.or op_ge op_ge_str
theorem je_ge {a b : Expr} {pos : Pos} {wa wb : W2} (ha : JE Φ W m1 a wa) (hb : JE Φ W m2 b wb) : JE Φ W (m1 + m2) (.Compare a [.GtE] [b] pos) (wBin geD wa wb) := je_cmp (fun _ => op_geA) rsim_ord ha hb
def flatD : PyData → Bool
  | .none => true
  | .bool _ => true
  | .int _ => true
  | .str _ => true
  | _ => false
def inD (neg : Bool) (a b : PyData) (k : X2 → Prop) : Prop := match b with
  | .list ds => (flatD a = true ∧ ds.all flatD = true) ∧ k (.d (.bool (if neg then !(ds.any fun y => PyData.eqv y a) else ds.any fun y => PyData.eqv y a)))
  | .tuple ds => (flatD a = true ∧ ds.all flatD = true) ∧ k (.d (.bool (if neg then !(ds.any fun y => PyData.eqv y a) else ds.any fun y => PyData.eqv y a)))
  | .str z => match a with
    | .str y => k (.d (.bool (if neg then Builtin.Str.occurrences z y 0 z.length 1 |>.isEmpty else !(Builtin.Str.occurrences z y 0 z.length 1).isEmpty)))
    | _ => False
  | _ => False
def rInA (K : PySem.W.Frag) (neg : Bool) : R2 := fun x y H Q => rIn K neg x y H Q ∨ ∃ i j, x = .str i ∧ y = .str j ∧ Q (.bl (if neg then Builtin.Str.occurrences j i 0 j.length 1 |>.isEmpty else !(Builtin.Str.occurrences j i 0 j.length 1).isEmpty)) H
theorem op_inA {X : Cx} : OpR X (compareOp .In) (rInA X.K false) := OpR.or op_in_seq op_in_str
theorem flat_dq {K : PySem.W.Frag} {H : Hp} {v : V} {d : PyData} (h : Dq K H v d) : flatV v = flatD d := by cases h <;> rfl
theorem flat_dqa {K : PySem.W.Frag} {H : Hp} : ∀ {vs : List V} {ds : List PyData}, DqA K H vs ds → vs.all flatV = ds.all flatD
  | _, _, .nil => rfl
  | _, _, .cons h q => by rw [List.all_cons, List.all_cons, flat_dq h, flat_dqa q]
theorem eqv_dq {K : PySem.W.Frag} {H H' : Hp} {v w : V} {d e : PyData} (h : Dq K H v d) (h' : Dq K H' w e) (f : flatD d = true) (f' : flatD e = true) : eqV v w = PyData.eqv d e := by
  cases h <;> cases h' <;> first | (simp [eqV, PyData.eqv]; done) | (exact absurd f Bool.false_ne_true) | (exact absurd f' Bool.false_ne_true)
theorem any_dq {K : PySem.W.Frag} {H H' : Hp} {w : V} {e : PyData} (h' : Dq K H' w e) (f' : flatD e = true) : ∀ {vs : List V} {ds : List PyData}, DqA K H vs ds → ds.all flatD = true → inV w vs = ds.any fun y => PyData.eqv y e
  | _, _, .nil, _ => rfl
  | _, _, .cons h q, z => by
    rw [List.all_cons, Bool.and_eq_true] at z
    have := any_dq h' f' q z.2
    unfold inV at this ⊢
    rw [List.any_cons, List.any_cons, eqv_dq h h' z.1 f', this]
theorem rsim_in {K : PySem.W.Frag} {neg : Bool} : RSim K (rInA K neg) (inD neg) := by
  intro B H0 gs σ ρ n H v1 v2 x1 x2 a b k Q r h1 e1 h2 e2 hf q
  have d1 := (r.read h1 e1).1
  unfold inD at hf
  split at hf
  · obtain ⟨p, vs, rfl, s2, d2⟩ := r.list h2 e2
    refine .inl ⟨p, vs, rfl, .inl (SqL.of s2), by rw [flat_dq d1]; exact hf.1.1, by rw [flat_dqa d2]; exact hf.1.2, ?_⟩
    rw [any_dq d1 hf.1.1 d2 hf.1.2]
    exact r.flat (fun _ => .bl _) q hf.2
  · obtain ⟨p, vs, rfl, s2, d2⟩ := r.tuple h2 e2
    refine .inl ⟨p, vs, rfl, .inr s2, by rw [flat_dq d1]; exact hf.1.1, by rw [flat_dqa d2]; exact hf.1.2, ?_⟩
    rw [any_dq d1 hf.1.1 d2 hf.1.2]
    exact r.flat (fun _ => .bl _) q hf.2
  · split at hf
    · rw [r.str h1 e1, r.str h2 e2]
      exact .inr ⟨_, _, rfl, rfl, r.flat (fun _ => .bl _) q hf⟩
    · exact hf.elim
  · exact hf.elim
def isNone : PyData → Bool
  | .none => true
  | _ => false
def wChain (f f' : PyData → PyData → (X2 → Prop) → Prop) (wa wb wc : W2) : W2 := fun e ρ k => wa e ρ fun x ρ1 => wb e ρ1 fun y ρ2 => rdK ρ2 (calm1 x) fun a => rdK ρ2 y fun b => f a b fun z => match z with
  | .d (.bool c) => if c = true then wc e ρ2 fun u ρ3 => rdK ρ3 (calm1 y) fun b' => rdK ρ3 u fun c => f' b' c fun z' => k z' ρ3 else k (.d (.bool false)) ρ2
  | _ => False
def wTest (wa : W2) : WT := fun e ρ k => wa e ρ fun x ρ1 => match x with
  | .d (.bool b) => k b ρ1
  | _ => False
theorem simT_of {K : PySem.W.Frag} {mg : MG} {ta : TE} {wa : W2} (a2 : SimE K mg W m ta wa) : SimT K mg W m (tTest ta) (wTest wa) := by
  intro B H0 g σ ρ n H e k Q rs l hw q xq
  refine a2 B H0 g σ ρ n H e _ _ rs l hw (fun H1 ρ1 Ha v1 x1 s1 r1 h1 q1 => ?_) xq
  split at q1
  · cases (show Dq K H1 v1 _ from h1)
    exact ⟨_, rfl, q H1 ρ1 Ha _ s1 r1 q1⟩
  · exact q1.elim
theorem jt_val {a : Expr} {wa : W2} (ha : JE Φ W m a wa) (he : ∀ i whole, isTrue a (Φ.X i).env whole = (do let v ← whole; standAt a.pos; holding [v] (truthy v)) := by intro _ _; rfl) : JT Φ W m a (wTest wa) := by
  obtain ⟨ta, a1, a2⟩ := ha
  exact ⟨tB ta, fun i => pt_val (a1 i) (he i), simT_of a2⟩
theorem jt_cmp {op : CmpOp} {a b : Expr} {pos : Pos} {r : R2} {f : PyData → PyData → (X2 → Prop) → Prop} {wa wb : W2} (ho : ∀ i, OpR (Φ.X i) (compareOp op) r) (hr : RSim Φ.K r f) (ha : JE Φ W m1 a wa) (hb : JE Φ W m2 b wb) (hm : behindInMarks op b = false := by first | exact nomark _ (by decide) (by decide) | rfl) : JT Φ W (m1 + m2) (.Compare a [op] [b] pos) (wTest (wBin f wa wb)) :=
  let ⟨ta, a1, a2⟩ := ha
  let ⟨tb, b1, b2⟩ := hb
  ⟨_, fun i => pt_cmpR (ho i) (a1 i) (b1 i) hm, simT_of (sim_bin hr a2 b2)⟩
theorem jt_eq {a b : Expr} {pos : Pos} {wa wb : W2} (ha : JE Φ W m1 a wa) (hb : JE Φ W m2 b wb) : JT Φ W (m1 + m2) (.Compare a [.Eq] [b] pos) (wTest (wBin eqD wa wb)) := jt_cmp (fun i => by rw [← Φ.hK i]; exact op_eqA (unitsH (Φ.rm i))) rsim_eq ha hb
theorem jt_ne {a b : Expr} {pos : Pos} {wa wb : W2} (ha : JE Φ W m1 a wa) (hb : JE Φ W m2 b wb) : JT Φ W (m1 + m2) (.Compare a [.NotEq] [b] pos) (wTest (wBin neD wa wb)) := jt_cmp (fun i => by rw [← Φ.hK i]; exact op_neA (unitsH (Φ.rm i))) rsim_ne ha hb
theorem jt_lt {a b : Expr} {pos : Pos} {wa wb : W2} (ha : JE Φ W m1 a wa) (hb : JE Φ W m2 b wb) : JT Φ W (m1 + m2) (.Compare a [.Lt] [b] pos) (wTest (wBin ltD wa wb)) := jt_cmp (fun _ => op_ltA) rsim_ord ha hb
theorem jt_gt {a b : Expr} {pos : Pos} {wa wb : W2} (ha : JE Φ W m1 a wa) (hb : JE Φ W m2 b wb) : JT Φ W (m1 + m2) (.Compare a [.Gt] [b] pos) (wTest (wBin gtD wa wb)) := jt_cmp (fun _ => op_gtA) rsim_ord ha hb
theorem jt_ge {a b : Expr} {pos : Pos} {wa wb : W2} (ha : JE Φ W m1 a wa) (hb : JE Φ W m2 b wb) : JT Φ W (m1 + m2) (.Compare a [.GtE] [b] pos) (wTest (wBin geD wa wb)) := jt_cmp (fun _ => op_geA) rsim_ord ha hb
theorem jt_in {a b : Expr} {pos : Pos} {wa wb : W2} (ha : JE Φ W m1 a wa) (hb : JE Φ W m2 b wb) (hm : behindInMarks .In b = false := by rfl) : JT Φ W (m1 + m2) (.Compare a [.In] [b] pos) (wTest (wBin (inD false) wa wb)) := jt_cmp (fun i => by rw [← Φ.hK i]; exact op_inA) rsim_in ha hb hm
def wAnd (a b : WT) : WT := fun e ρ k => a e ρ fun c ρ1 => if c = true then b e ρ1 k else k false ρ1
def wOr (a b : WT) : WT := fun e ρ k => a e ρ fun c ρ1 => if c = true then k true ρ1 else b e ρ1 k
def wNot (a : WT) : WT := fun e ρ k => a e ρ fun c ρ1 => k (!c) ρ1
theorem simT_and {K : PySem.W.Frag} {mg : MG} {ta tb : TT} {wa wb : WT} (a2 : SimT K mg W m1 ta wa) (b2 : SimT K mg W m2 tb wb) : SimT K mg W (m1 + m2) (tAnd ta tb) (wAnd wa wb) := by
  intro B H0 g σ ρ n H e k Q rs l hw q xq
  refine a2 B H0 g σ ρ n H e _ _ rs (by omega) hw (fun H1 ρ1 Ha c s1 r1 q1 => ?_) (fun H0' ρ' H' nm cls d s r' => xq H0' ρ' H' nm cls d s (r'.count (by omega)))
  cases c with
  | true =>
    rw [if_pos rfl] at q1 ⊢
    exact b2 B H1 g σ ρ1 _ Ha e k Q r1 (by omega) q1 (fun H2 ρ2 Hb c2 s2 r2 q2 => q H2 ρ2 Hb c2 (s1.trans s2) (r2.count (by omega)) q2) (fun H0' ρ' H' nm cls d s r' => xq H0' ρ' H' nm cls d (s1.trans s) (r'.count (by omega)))
  | false =>
    rw [if_neg Bool.false_ne_true] at q1 ⊢
    exact q H1 ρ1 Ha false s1 (r1.count (by omega)) q1
theorem simT_or {K : PySem.W.Frag} {mg : MG} {ta tb : TT} {wa wb : WT} (a2 : SimT K mg W m1 ta wa) (b2 : SimT K mg W m2 tb wb) : SimT K mg W (m1 + m2) (tOr ta tb) (wOr wa wb) := by
  intro B H0 g σ ρ n H e k Q rs l hw q xq
  refine a2 B H0 g σ ρ n H e _ _ rs (by omega) hw (fun H1 ρ1 Ha c s1 r1 q1 => ?_) (fun H0' ρ' H' nm cls d s r' => xq H0' ρ' H' nm cls d s (r'.count (by omega)))
  cases c with
  | false =>
    rw [if_neg Bool.false_ne_true] at q1 ⊢
    exact b2 B H1 g σ ρ1 _ Ha e k Q r1 (by omega) q1 (fun H2 ρ2 Hb c2 s2 r2 q2 => q H2 ρ2 Hb c2 (s1.trans s2) (r2.count (by omega)) q2) (fun H0' ρ' H' nm cls d s r' => xq H0' ρ' H' nm cls d (s1.trans s) (r'.count (by omega)))
  | true =>
    rw [if_pos rfl] at q1 ⊢
    exact q H1 ρ1 Ha true s1 (r1.count (by omega)) q1
theorem jw_and1 {a : Expr} {pos : Pos} {wa : WT} (ha : JT Φ W m a wa) : JW Φ W m (.BoolOp .And [a] pos) wa := let ⟨t, a1, a2⟩ := ha; ⟨t, fun i => pw_and1 (a1 i), a2⟩
theorem jw_or1 {a : Expr} {pos : Pos} {wa : WT} (ha : JT Φ W m a wa) : JW Φ W m (.BoolOp .Or [a] pos) wa := let ⟨t, a1, a2⟩ := ha; ⟨t, fun i => pw_or1 (a1 i), a2⟩
theorem jw_and {a b : Expr} {r : List Expr} {pos : Pos} {wa wb : WT} (ha : JT Φ W m1 a wa) (hb : JW Φ W m2 (.BoolOp .And (b :: r) pos) wb) : JW Φ W (m1 + m2) (.BoolOp .And (a :: b :: r) pos) (wAnd wa wb) :=
  let ⟨_, a1, a2⟩ := ha; let ⟨_, b1, b2⟩ := hb; ⟨_, fun i => pw_and (a1 i) (b1 i), simT_and a2 b2⟩
theorem jw_or {a b : Expr} {r : List Expr} {pos : Pos} {wa wb : WT} (ha : JT Φ W m1 a wa) (hb : JW Φ W m2 (.BoolOp .Or (b :: r) pos) wb) : JW Φ W (m1 + m2) (.BoolOp .Or (a :: b :: r) pos) (wOr wa wb) :=
  let ⟨_, a1, a2⟩ := ha; let ⟨_, b1, b2⟩ := hb; ⟨_, fun i => pw_or (a1 i) (b1 i), simT_or a2 b2⟩
theorem JW.t {a : Expr} {wa : WT} (h : JW Φ W m a wa) : JT Φ W m a wa := let ⟨t, a1, a2⟩ := h; ⟨t, fun i => (a1 i).pt, a2⟩
theorem jt_not {a : Expr} {pos : Pos} {wa : WT} (ha : JT Φ W m a wa) : JT Φ W m (.UnaryOp .Not a pos) (wNot wa) := by
  obtain ⟨t, a1, a2⟩ := ha
  refine ⟨_, fun i => pt_not (a1 i), ?_⟩
  intro B H0 g σ ρ n H e k Q rs l hw q xq
  exact a2 B H0 g σ ρ n H e _ _ rs l hw (fun H1 ρ1 Ha c s1 r1 q1 => q H1 ρ1 Ha (!c) s1 r1 q1) xq
def wAndV (a b : W2) : W2 := fun e ρ k => a e ρ fun x ρ1 => match x with
  | .d (.bool c) => if c = true then b e ρ1 k else k (.d (.bool false)) ρ1
  | _ => False
def wOrV (a b : W2) : W2 := fun e ρ k => a e ρ fun x ρ1 => match x with
  | .d (.bool c) => if c = true then k (.d (.bool true)) ρ1 else b e ρ1 k
  | _ => False
def wNotV (a : W2) : W2 := fun e ρ k => a e ρ fun x ρ1 => match x with
  | .d (.bool c) => k (.d (.bool (!c))) ρ1
  | _ => False
theorem je_one {op} {a : Expr} {pos : Pos} {wa : W2} (ha : JE Φ W m a wa) : JE Φ W m (.BoolOp op [a] pos) wa := let ⟨t, a1, a2⟩ := ha; ⟨t, fun i => pe_one (a1 i), a2⟩
theorem je_and {a b : Expr} {r : List Expr} {pos : Pos} {wa wb : W2} (ha : JE Φ W m1 a wa) (hb : JE Φ W m2 (.BoolOp .And (b :: r) pos) wb) : JE Φ W (m1 + m2) (.BoolOp .And (a :: b :: r) pos) (wAndV wa wb) := by
  obtain ⟨t, a1, a2⟩ := ha
  obtain ⟨u, b1, b2⟩ := hb
  refine ⟨_, fun i => pe_and (a1 i) (b1 i), ?_⟩
  intro B H0 g σ ρ n H e k Q rs l hw q xq
  refine a2 B H0 g σ ρ n H e _ _ rs (by omega) hw (fun H1 ρ1 Ha v1 x1 s1 r1 h1 q1 => ?_) (fun H0' ρ' H' nm cls d s r' => xq H0' ρ' H' nm cls d s (r'.count (by omega)))
  split at q1
  · rename_i cc
    cases (show Dq Φ.K H1 v1 (.bool cc) from h1)
    cases cc with
    | true =>
      rw [if_pos rfl] at q1
      refine ⟨true, rfl, iteT ?_⟩
      exact b2 B H1 g σ ρ1 _ Ha e k Q r1 (by omega) q1 (fun H2 ρ2 Hb v2 x2 s2 r2 h2 q2 => q H2 ρ2 Hb v2 x2 (s1.trans s2) (r2.count (by omega)) h2 q2) (fun H0' ρ' H' nm cls d s r' => xq H0' ρ' H' nm cls d (s1.trans s) (r'.count (by omega)))
    | false =>
      rw [if_neg Bool.false_ne_true] at q1
      exact ⟨false, rfl, iteF (q H1 ρ1 Ha _ (.d (.bool false)) s1 (r1.count (by omega)) (.bl _) q1)⟩
  · exact q1.elim
theorem je_or {a b : Expr} {r : List Expr} {pos : Pos} {wa wb : W2} (ha : JE Φ W m1 a wa) (hb : JE Φ W m2 (.BoolOp .Or (b :: r) pos) wb) : JE Φ W (m1 + m2) (.BoolOp .Or (a :: b :: r) pos) (wOrV wa wb) := by
  obtain ⟨t, a1, a2⟩ := ha
  obtain ⟨u, b1, b2⟩ := hb
  refine ⟨_, fun i => pe_or (a1 i) (b1 i), ?_⟩
  intro B H0 g σ ρ n H e k Q rs l hw q xq
  refine a2 B H0 g σ ρ n H e _ _ rs (by omega) hw (fun H1 ρ1 Ha v1 x1 s1 r1 h1 q1 => ?_) (fun H0' ρ' H' nm cls d s r' => xq H0' ρ' H' nm cls d s (r'.count (by omega)))
  split at q1
  · rename_i cc
    cases (show Dq Φ.K H1 v1 (.bool cc) from h1)
    cases cc with
    | true =>
      rw [if_pos rfl] at q1
      exact ⟨true, rfl, iteT (q H1 ρ1 Ha _ (.d (.bool true)) s1 (r1.count (by omega)) (.bl _) q1)⟩
    | false =>
    rw [if_neg Bool.false_ne_true] at q1
    refine ⟨false, rfl, iteF ?_⟩
    exact b2 B H1 g σ ρ1 _ Ha e k Q r1 (by omega) q1 (fun H2 ρ2 Hb v2 x2 s2 r2 h2 q2 => q H2 ρ2 Hb v2 x2 (s1.trans s2) (r2.count (by omega)) h2 q2) (fun H0' ρ' H' nm cls d s r' => xq H0' ρ' H' nm cls d (s1.trans s) (r'.count (by omega)))
  · exact q1.elim
theorem je_not {a : Expr} {pos : Pos} {wa : W2} (ha : JE Φ W m a wa) : JE Φ W m (.UnaryOp .Not a pos) (wNotV wa) := by
  obtain ⟨t, a1, a2⟩ := ha
  refine ⟨_, fun i => pe_not (a1 i), ?_⟩
  intro B H0 g σ ρ n H e k Q rs l hw q xq
  refine a2 B H0 g σ ρ n H e _ _ rs l hw (fun H1 ρ1 Ha v1 x1 s1 r1 h1 q1 => ?_) xq
  split at q1
  · cases (show Dq Φ.K H1 v1 _ from h1)
    exact ⟨_, rfl, q H1 ρ1 Ha _ (.d (.bool _)) s1 r1 (.bl _) q1⟩
  · exact q1.elim
def wNil : WA := fun _ ρ k => k [] ρ
def wCons (a : W2) (r : WA) : WA := fun e ρ k => a e ρ fun x ρ1 => r e ρ1 fun xs ρ2 => k (calm1 x :: xs) ρ2
theorem ja_nil : JA Φ W 0 [] wNil := by
  refine ⟨tNil, fun _ => pa_nil, ?_⟩
  intro B H0 g σ ρ n H e k Q rs l hw q xq
  exact q H0 ρ H [] [] (Same.refl _) rs .nil rfl hw
theorem ja_cons {a : Expr} {r : List Expr} {wa : W2} {wr : WA} (ha : JE Φ W m1 a wa) (hr : JA Φ W m2 r wr) (hs : ∀ i, starEach (a :: r) (Φ.X i).env = (false, eval a (Φ.X i).env) :: starEach r (Φ.X i).env := by intro _; rfl) : JA Φ W (m1 + m2) (a :: r) (wCons wa wr) := by
  obtain ⟨ta, a1, a2⟩ := ha
  obtain ⟨tr, b1, b2⟩ := hr
  refine ⟨tCons ta tr, fun i => pa_cons (a1 i) (b1 i) (hs i), ?_⟩
  intro B H0 g σ ρ n H e k Q rs l hw q xq
  refine a2 B H0 g σ ρ n H e _ _ rs (by omega) hw (fun H1 ρ1 Ha v1 x1 s1 r1 h1 q1 => ?_) (fun H0' ρ' H' nm cls d s r' => xq H0' ρ' H' nm cls d s (r'.count (by omega)))
  obtain ⟨H2, s2, r2, h2⟩ := r1.calm h1
  refine b2 B H2 g σ ρ1 (n + m1) Ha e _ _ r2 (by omega) q1 (fun H3 ρ3 Hb vs xs s3 r3 h3 hl q3 => ?_) (fun H0' ρ' H' nm cls d s r' => xq H0' ρ' H' nm cls d ((s1.trans s2).trans s) (r'.count (by omega)))
  exact q H3 ρ3 Hb _ _ ((s1.trans s2).trans s3) (r3.count (by omega)) (.cons (h2.mono s3) h3) (by rw [List.length_cons, List.length_cons, hl]) q3
def frzK : Env → List X2 → (List PyData → Env → Prop) → Prop
  | ρ, [], k => k [] ρ
  | ρ, .d d :: xs, k => frzK ρ xs fun ds ρ' => k (d :: ds) ρ'
  | ρ, .slot i :: xs, k => match ρ i with
    | some (.own ds) => frzK (upE ρ i (some (.d (.list ds)))) xs fun es ρ' => k (.list ds :: es) ρ'
    | some (.d d) => frzK ρ xs fun es ρ' => k (d :: es) ρ'
    | _ => False
  | _, _, _ => False
theorem RS.frz {K : PySem.W.Frag} {B : Base} {g : Option Gs} {σ : St} {n : Nat} {H : Hp} : ∀ {vs : List V} {xs : List X2} {H0 : Hp} {ρ : Env} {k : List PyData → Env → Prop}, RS K B H0 g σ ρ n H → RelNs K H0 g σ vs xs → frzK ρ xs k →
    ∃ H0' ρ' ds, Same H0 H0' ∧ RS K B H0' g σ ρ' n H ∧ DqA K H0' vs ds ∧ k ds ρ'
  | _, [], H0, ρ, k, r, .nil, h => ⟨H0, ρ, [], Same.refl _, r, .nil, h⟩
  | _, .d d :: xs, H0, ρ, k, r, .cons h1 h2, h => by
    obtain ⟨H1, ρ1, ds, s1, r1, q1, k1⟩ := RS.frz (k := fun ds ρ' => k (d :: ds) ρ') r h2 h
    exact ⟨H1, ρ1, d :: ds, s1, r1, .cons (Dq.mono s1 h1) q1, k1⟩
  | _, .slot i :: xs, H0, ρ, k, r, .cons h1 h2, h => by
    have hi : σ[i]? = some (some _) := h1
    unfold frzK at h
    cases q : ρ i with
    | none => rw [q] at h; exact h.elim
    | some y =>
      rw [q] at h
      cases y with
      | own ds =>
        obtain ⟨v, z1, z2⟩ := r.sl i _ q
        rw [hi] at z1; cases z1
        obtain ⟨p, rfl, hp⟩ := z2
        obtain ⟨H1, s1, r1⟩ := r.freezeS q
        obtain ⟨v', z3, z4⟩ := r1.sl i (.d (.list ds)) (by unfold upE; rw [if_pos rfl])
        rw [hi] at z3; cases z3
        obtain ⟨H2, ρ2, es, s2, r2, q2, k2⟩ := RS.frz (k := fun es ρ' => k (.list ds :: es) ρ') r1 (RelNs.mono s1 h2) h
        exact ⟨H2, ρ2, _, s1.trans s2, r2, .cons (Dq.mono s2 z4) q2, k2⟩
      | d d =>
        obtain ⟨v, z1, z2⟩ := r.sl i _ q
        rw [hi] at z1; cases z1
        obtain ⟨H2, ρ2, es, s2, r2, q2, k2⟩ := RS.frz (k := fun es ρ' => k (d :: es) ρ') r h2 h
        exact ⟨H2, ρ2, _, s2, r2, .cons (Dq.mono s2 z2) q2, k2⟩
      | slot _ => exact h.elim
      | drw => exact h.elim
      | scr _ => exact h.elim
      | ob _ => exact h.elim
  | _, .own _ :: _, _, _, _, _, .cons h1 _, _ => h1.elim
  | _, .drw :: _, _, _, _, _, .cons h1 _, h => h.elim
  | _, .scr _ :: _, _, _, _, _, .cons h1 _, h => h.elim
  | _, .ob _ :: _, _, _, _, _, .cons h1 _, h => h.elim
def wTup (a : WA) : W2 := fun e ρ k => a e ρ fun xs ρ1 => frzK ρ1 xs fun ds ρ2 => ds.length ≤ 16777216 ∧ k (.d (.tuple ds)) ρ2
def wLst (a : WA) : W2 := fun e ρ k => a e ρ fun xs ρ1 => frzK ρ1 xs fun ds ρ2 => ds.length ≤ 16777216 ∧ k (.own ds) ρ2
theorem je_tup {es : List Expr} {x1} {pos : Pos} {wa : WA} (h : JA Φ W m es wa) : JE Φ W m (.Tuple es x1 pos) (wTup wa) := by
  obtain ⟨ta, a1, a2⟩ := h
  refine ⟨_, fun i => pe_tup (a1 i), ?_⟩
  intro B H0 g σ ρ n H e k Q rs l hw q xq
  refine a2 B H0 g σ ρ n H e _ _ rs l hw (fun H1 ρ1 Ha vs xs s1 r1 h1 _ q1 => ?_) xq
  obtain ⟨H2, ρ2, ds, s2, r2, d2, hz, k2⟩ := r1.frz h1 q1
  refine ⟨by rw [d2.length, sizeLine_eq]; exact hz, fun p hp => ?_⟩
  exact r2.newT (k := fun x => k x ρ2) d2 hp (fun H3 Hc v x s3 r3 h3 k3 => q H3 ρ2 Hc v x ((s1.trans s2).trans s3) r3 h3 k3) k2
theorem je_lst {es : List Expr} {pos : Pos} {wa : WA} (h : JA Φ W m es wa) : JE Φ W m (.List es pos) (wLst wa) := by
  obtain ⟨ta, a1, a2⟩ := h
  refine ⟨_, fun i => pe_lst (a1 i), ?_⟩
  intro B H0 g σ ρ n H e k Q rs l hw q xq
  refine a2 B H0 g σ ρ n H e _ _ rs l hw (fun H1 ρ1 Ha vs xs s1 r1 h1 _ q1 => ?_) xq
  obtain ⟨H2, ρ2, ds, s2, r2, d2, hz, k2⟩ := r1.frz h1 q1
  refine ⟨by rw [d2.length, sizeLine_eq]; exact hz, fun p hp => ?_⟩
  exact r2.newL (k := fun x => k x ρ2) d2 hp (fun H3 Hc v x s3 r3 h3 k3 => q H3 ρ2 Hc v x ((s1.trans s2).trans s3) r3 h3 k3) k2
def ixD (a b : PyData) (k : X2 → Prop) : Prop := match a, b with
  | .tuple ds, .int i => match atI ds i with
    | some d => k (.d d)
    | none => False
  | .list ds, .int i => match atI ds i with
    | some d => k (.d d)
    | none => False
  | .str z, .int i => z.length ≤ 16777216 ∧ match atI z.cps.toList i with
    | some c => k (.d (.str ⟨#[c]⟩))
    | none => False
  | _, _ => False
theorem atI_dqa {K : PySem.W.Frag} {H : Hp} {vs : List V} {ds : List PyData} {i : Int} {d : PyData} (h : DqA K H vs ds) (e : atI ds i = some d) : ∃ v, atI vs i = some v ∧ Dq K H v d := by
  unfold atI at e ⊢
  rw [h.length]
  cases z : ixN ds.length i with
  | none => rw [z] at e; cases e
  | some j =>
    rw [z] at e
    exact h.get e
theorem rsim_ix {K : PySem.W.Frag} : RSim K (rIx K) ixD := by
  intro B H0 g σ ρ n H v1 v2 x1 x2 a b k Q r h1 e1 h2 e2 hf q
  unfold ixD at hf
  split at hf
  · rename_i ds i
    split at hf
    · rename_i d hd
      obtain ⟨p, vs, rfl, s1, d1⟩ := r.tuple h1 e1
      rw [r.int h2 e2]
      obtain ⟨v, z1, z2⟩ := atI_dqa d1 hd
      exact .inr (.inl ⟨p, vs, i, v, rfl, rfl, s1, z1, q H0 H v (.d d) (Same.refl _) r z2 hf⟩)
    · exact hf.elim
  · rename_i ds i
    split at hf
    · rename_i d hd
      obtain ⟨p, vs, rfl, s1, d1⟩ := r.list h1 e1
      rw [r.int h2 e2]
      obtain ⟨v, z1, z2⟩ := atI_dqa d1 hd
      exact .inl ⟨p, vs, i, v, rfl, rfl, SqL.of s1, z1, q H0 H v (.d d) (Same.refl _) r z2 hf⟩
    · exact hf.elim
  · rename_i z i
    obtain ⟨hz, hf⟩ := hf
    split at hf
    · rename_i c hc
      rw [r.str h1 e1, r.int h2 e2]
      exact .inr (.inr ⟨z, i, c, rfl, rfl, by rw [sizeLine_eq]; exact hz, hc, r.flat (fun _ => .str _) q hf⟩)
    · exact hf.elim
  · exact hf.elim
theorem je_ix {a b : Expr} {pos : Pos} {wa wb : W2} (ha : JE Φ W m1 a wa) (hb : JE Φ W m2 b wb) (hs : PlainIx b := by exact fun _ _ => rfl) : JE Φ W (m1 + m2) (.Subscript a b pos) (wBin ixD wa wb) :=
  let ⟨ta, a1, a2⟩ := ha
  let ⟨tb, b1, b2⟩ := hb
  ⟨tOp (rIx Φ.K) ta tb, fun i => pe_ix (by rw [← Φ.hK i]; exact ix_seq) (a1 i) (b1 i) hs, sim_bin rsim_ix a2 b2⟩
end
end B2

namespace B2
open PySem L2
section
variable {ι : Type} {Φ : Fam ι} {W : WX} {m m1 m2 m3 : Nat}
def cutL {α : Type} (xs : List α) (lo hi : Option Int) : List α := (xs.drop (HT.sIx xs.length 0 lo)).take (HT.sIx xs.length xs.length hi - HT.sIx xs.length 0 lo)
theorem cutV_dqa {K : PySem.W.Frag} {H : Hp} {vs : List V} {ds : List PyData} (h : DqA K H vs ds) (lo hi : Option Int) : DqA K H (cutV vs lo hi) (cutL ds lo hi) := by
  unfold cutV cutL
  rw [h.length]
  exact (h.drop _).take _
def wPart : Option W2 → Xn → Env → (Option Int → Env → Prop) → Prop
  | none, _, ρ, k => k none ρ
  | some w, e, ρ, k => w e ρ fun x ρ1 => rdK ρ1 x fun d => match d with
    | .int i => k (some i) ρ1
    | _ => False
def sliceD (a : PyData) (lo hi : Option Int) (k : X2 → Prop) : Prop := match a with
  | .tuple ds => k (.d (.tuple (cutL ds lo hi)))
  | .list ds => k (.own (cutL ds lo hi))
  | .str z => z.length ≤ 16777216 ∧ k (.d (.str (cutS z lo hi)))
  | _ => False
def wSl (wa : W2) (wl wh : Option W2) : W2 := fun e ρ k => wa e ρ fun x ρ1 => wPart wl e ρ1 fun lo ρ2 => wPart wh e ρ2 fun hi ρ3 => rdK ρ3 (calm1 x) fun a => sliceD a lo hi fun z => k z ρ3
def JO (Φ : Fam ι) (W : WX) (m : Nat) (e : Option Expr) (w : Option W2) : Prop := ∃ t, (∀ i, PO (Φ.X i) e t) ∧
  ∀ (B : Base) (H0 : Hp) (g : Option Gs) (σ : St) (ρ : Env) (n : Nat) (H : Hp) (x : Xn) (k : Option Int → Env → Prop) (Q : Option Int → Hp → Prop), RS Φ.K B H0 g σ ρ n H → n + m ≤ LIM → (wPart w x ρ k) →
  (∀ H0' ρ' H' o, Same H0 H0' → RS Φ.K B H0' g σ ρ' (n + m) H' → k o ρ' → Q o H') →
  (∀ H0' ρ' H' nm cls d, Same H0 H0' → RS Φ.K B H0' g σ ρ' (n + m) H' → x nm ρ' → Exn Φ.mg nm cls d → W cls d σ H') → t σ H Q
theorem jo_none : JO Φ W 0 none none := by
  refine ⟨tNoPart, fun _ => po_none, ?_⟩
  intro B H0 g σ ρ n H x k Q r l h q _
  exact q H0 ρ H none (Same.refl _) r h
theorem jo_some {e : Expr} {w : W2} (h : JE Φ W m e w) : JO Φ W m (some e) (some w) := by
  obtain ⟨t, a1, a2⟩ := h
  refine ⟨tPart t, fun i => po_some (a1 i), ?_⟩
  intro B H0 g σ ρ n H x k Q r l h q xq
  refine a2 B H0 g σ ρ n H x _ _ r l h (fun H1 ρ1 Ha v y s1 r1 h1 q1 => ?_) xq
  obtain ⟨d, e1, hk⟩ := rdK_of q1
  split at hk
  · rename_i i
    rw [r1.int h1 e1]
    exact ⟨i, rfl, q H1 ρ1 Ha (some i) s1 r1 hk⟩
  · exact hk.elim
theorem cut_whole {vs : List V} {ds : List PyData} {K : PySem.W.Frag} {H : Hp} (h : DqA K H vs ds) {lo hi : Option Int} (hw : HT.sIx vs.length 0 lo = 0 ∧ HT.sIx vs.length vs.length hi = vs.length) : cutL ds lo hi = ds := by
  unfold cutL
  rw [← h.length, hw.1, hw.2, h.length]
  simp
theorem je_sl {a : Expr} {lo hi : Option Expr} {p2 pos : Pos} {wa : W2} {wl wh : Option W2} (ha : JE Φ W m1 a wa) (hl : JO Φ W m2 lo wl) (hh : JO Φ W m3 hi wh) : JE Φ W (m1 + m2 + m3) (.Subscript a (.Slice lo hi none p2) pos) (wSl wa wl wh) := by
  obtain ⟨ta, a1, a2⟩ := ha
  obtain ⟨tl, b1, b2⟩ := hl
  obtain ⟨th, c1, c2⟩ := hh
  refine ⟨_, fun i => pe_slice (SlR.or (by rw [← Φ.hK i]; exact sl_tupA) (SlR.or (by rw [← Φ.hK i]; exact sl_list) sl_str) : SlR (Φ.X i) (fun x lo hi H Q => rSlA Φ.K x lo hi H Q ∨ (rSlL Φ.K x lo hi H Q ∨ rSlS x lo hi H Q))) (a1 i) (b1 i) (c1 i), ?_⟩
  intro B H0 g σ ρ n H e k Q rs l hw q xq
  refine a2 B H0 g σ ρ n H e _ _ rs (by omega) hw (fun H1 ρ1 Ha v1 x1 s1 r1 h1 q1 => ?_) (fun H0' ρ' H' nm cls d s r' => xq H0' ρ' H' nm cls d s (r'.count (by omega)))
  obtain ⟨H2, s2, r2, h2⟩ := r1.calm h1
  refine b2 B H2 g σ ρ1 (n + m1) Ha e _ _ r2 (by omega) q1 (fun H3 ρ3 Hb o3 s3 r3 q3 => ?_) (fun H0' ρ' H' nm cls d s r' => xq H0' ρ' H' nm cls d ((s1.trans s2).trans s) (r'.count (by omega)))
  refine c2 B H3 g σ ρ3 _ Hb e _ _ r3 (by omega) q3 (fun H4 ρ4 Hc o4 s4 r4 q4 => ?_) (fun H0' ρ' H' nm cls d s r' => xq H0' ρ' H' nm cls d (((s1.trans s2).trans s3).trans s) (r'.count (by omega)))
  obtain ⟨a, ea, q6⟩ := rdK_of q4
  have h4 : RelR Φ.K B H4 Hc g σ ρ4 v1 (calm1 x1) := ((h2.mono s3).mono s4).r
  have st : Same H0 H4 := ((s1.trans s2).trans s3).trans s4
  unfold sliceD at q6
  split at q6
  · obtain ⟨p, vs, rfl, t1, d1⟩ := r4.tuple h4 ea
    have t0 := r4.oldT h4 ea
    refine .inl ⟨p, vs, rfl, t1, fun hwh => ?_, fun _ p2 hp => ?_⟩
    · rw [cut_whole d1 hwh] at q6
      exact q H4 ρ4 Hc _ (.d _) st (r4.count (by omega)) t0 q6
    · exact r4.newT (k := fun x => k x ρ4) (cutV_dqa d1 _ _) hp (fun H5 Hd v x s5 r5 h5 k5 => q H5 ρ4 Hd v x (st.trans s5) (r5.count (by omega)) h5 k5) q6
  · obtain ⟨p, vs, rfl, t1, d1⟩ := r4.list h4 ea
    exact .inr (.inl ⟨p, vs, rfl, SqL.of t1, fun p2 hp => r4.newL (k := fun x => k x ρ4) (cutV_dqa d1 _ _) hp (fun H5 Hd v x s5 r5 h5 k5 => q H5 ρ4 Hd v x (st.trans s5) (r5.count (by omega)) h5 k5) q6⟩)
  · rw [r4.str h4 ea]
    exact .inr (.inr ⟨_, rfl, by rw [sizeLine_eq]; exact q6.1, q H4 ρ4 Hc _ (.d (.str _)) st (r4.count (by omega)) (.str _) q6.2⟩)
  · exact q6.elim
def rdsK (ρ : Env) : List X2 → (List PyData → Prop) → Prop
  | [], k => k []
  | x :: xs, k => rdK ρ x fun d => rdsK ρ xs fun ds => k (d :: ds)
def CSim (K : PySem.W.Frag) (r : List V → Hp → VK → Prop) (f : List PyData → (X2 → Prop) → Prop) : Prop := ∀ (B : Base) (H0 : Hp) (g : Option Gs) (σ : St) (ρ : Env) (n : Nat) (H : Hp) (vs : List V) (xs : List X2) (k : X2 → Prop) (Q : VK),
  RS K B H0 g σ ρ n H → RelNs K H0 g σ vs xs → rdsK ρ xs (fun ds => f ds k) →
  (∀ H0' H' v x, Same H0 H0' → RS K B H0' g σ ρ n H' → RelR K B H0' H' g σ ρ v x → k x → Q v H') → r vs H Q
def wCB (f : List PyData → (X2 → Prop) → Prop) (wa : WA) : W2 := fun e ρ k => wa e ρ fun xs ρ1 => rdsK ρ1 xs fun ds => f ds fun z => k z ρ1
theorem sim_cb {K : PySem.W.Frag} {mg : MG} {L : Nat} {r : List V → Hp → VK → Prop} {f : List PyData → (X2 → Prop) → Prop} {ta : TA} {wa : WA} (hr : CSim K r f) (a2 : SimA K mg W m L ta wa) : SimE K mg W m (tCB r ta) (wCB f wa) := by
  intro B H0 g σ ρ n H e k Q rs l hw q xq
  refine a2 B H0 g σ ρ n H e _ _ rs l hw (fun H1 ρ1 Ha vs xs s1 r1 h1 _ q1 => ?_) xq
  exact hr B H1 g σ ρ1 _ Ha vs xs (fun x => k x ρ1) Q r1 h1 q1 fun H2 Hb v x s2 r2 h2 k2 => q H2 ρ1 Hb v x (s1.trans s2) r2 h2 k2
theorem csim1 {K : PySem.W.Frag} {r : List V → Hp → VK → Prop} {f : PyData → (X2 → Prop) → Prop}
    (h : ∀ (B : Base) (H0 : Hp) (g : Option Gs) (σ : St) (ρ : Env) (n : Nat) (H : Hp) (v : V) (x : X2) (d : PyData) (k : X2 → Prop) (Q : VK), RS K B H0 g σ ρ n H → RelR K B H0 H g σ ρ v x → rd ρ x = some d → f d k →
      (∀ H0' H' v x, Same H0 H0' → RS K B H0' g σ ρ n H' → RelR K B H0' H' g σ ρ v x → k x → Q v H') → r [v] H Q) : CSim K r (fun ds k => match ds with | [d] => f d k | _ => False) := by
  intro B H0 g σ ρ n H vs xs k Q rs h1 hf q
  cases h1 with
  | nil => exact False.elim hf
  | cons a b =>
    cases b with
    | nil =>
      obtain ⟨d, e, hk⟩ := rdK_of hf
      exact h B H0 g σ ρ n H _ _ d k Q rs a.r e hk q
    | cons c d =>
      obtain ⟨d1, e1, hk⟩ := rdK_of hf
      obtain ⟨d2, e2, hk⟩ := rdK_of hk
      exfalso
      have : ∀ (l : List X2) (P : List PyData → Prop), (∀ ds, ¬ P ds) → ¬ rdsK ρ l P := by
        intro l
        induction l with
        | nil => intro P hP h; exact hP _ h
        | cons y ys ih => intro P hP h; obtain ⟨d, _, h⟩ := rdK_of h; exact ih _ (fun ds => hP _) h
      exact this _ _ (fun ds z => z) hk
theorem je_cb {id : String} {x : Str} {a : Expr} {as : List Expr} {p pos : Pos} {r : List V → Hp → VK → Prop} {f : List PyData → (X2 → Prop) → Prop} {wa : WA} (hc : ∀ i, CallR (Φ.X i) (.builtin id) r) (hr : CSim Φ.K r f) (hm : Φ.mg x = none) (hv : bootBuiltins x = some (.builtin id)) (ha : JA Φ W m (a :: as) wa) (hg : ∀ i, Gl (Φ.X i) x := by intro _; rfl)
    (hn : x ≠ "__name__" := by decide) (hdb : (x == ("__debug__" : Str)) = false := by decide) (he : ∀ i, starEach (a :: as) (Φ.X i).env = (false, eval a (Φ.X i).env) :: starEach as (Φ.X i).env := by intro _; rfl) (hpl : ∀ i, (backTo pos (starEach as (Φ.X i).env)).any (·.1) = false := by intro _; rfl) : JE Φ W m (.Call (.Name x p) (a :: as) [] pos) (wCB f wa) := by
  obtain ⟨ta, a1, a2⟩ := ha
  exact ⟨tCB r ta, fun i => pe_callB (hc i) (hg i) (by rw [Φ.hmg i]; exact hm) hv (a1 i) hn hdb (he i) (hpl i), sim_cb hr a2⟩
theorem je_ct {T : String} {x : Str} {a : Expr} {as : List Expr} {p pos : Pos} {r : List V → Hp → VK → Prop} {f : List PyData → (X2 → Prop) → Prop} {wa : WA} (hc : ∀ i, CallR (Φ.X i) (.type T) r) (hr : CSim Φ.K r f) (hm : Φ.mg x = none) (hv : bootBuiltins x = some (.type T)) (ha : JA Φ W m (a :: as) wa) (hg : ∀ i, Gl (Φ.X i) x := by intro _; rfl)
    (hn : x ≠ "__name__" := by decide) (hdb : (x == ("__debug__" : Str)) = false := by decide) (he : ∀ i, starEach (a :: as) (Φ.X i).env = (false, eval a (Φ.X i).env) :: starEach as (Φ.X i).env := by intro _; rfl) (hpl : ∀ i, (backTo pos (starEach as (Φ.X i).env)).any (·.1) = false := by intro _; rfl) : JE Φ W m (.Call (.Name x p) (a :: as) [] pos) (wCB f wa) := by
  obtain ⟨ta, a1, a2⟩ := ha
  exact ⟨tCB r ta, fun i => pe_callTy (hc i) (hg i) (by rw [Φ.hmg i]; exact hm) hv (a1 i) hn hdb (he i) (hpl i), sim_cb hr a2⟩
def lenD (d : PyData) (k : X2 → Prop) : Prop := match d with
  | .list ds => k (.d (.int ds.length))
  | .tuple ds => k (.d (.int ds.length))
  | .str z => z.length ≤ 16777216 ∧ k (.d (.int z.length))
  | _ => False
theorem csim_len {K : PySem.W.Frag} : CSim K (fun xs H Q => ∃ x n, xs = [x] ∧ LenV K x H n ∧ Q (.int n) H) (fun ds k => match ds with | [d] => lenD d k | _ => False) := csim1 fun B H0 g σ ρ n H v x d k Q r h e hf q => by
  unfold lenD at hf
  split at hf
  · obtain ⟨p, vs, rfl, s1, d1⟩ := r.list h e
    exact ⟨_, vs.length, rfl, .inl ⟨vs, SqL.of s1, rfl⟩, by rw [d1.length]; exact r.flat (fun _ => .int _) q hf⟩
  · obtain ⟨p, vs, rfl, s1, d1⟩ := r.tuple h e
    exact ⟨_, vs.length, rfl, .inr ⟨vs, s1, rfl⟩, by rw [d1.length]; exact r.flat (fun _ => .int _) q hf⟩
  · rw [r.str h e]
    exact ⟨_, _, rfl, ⟨by rw [sizeLine_eq]; exact hf.1, rfl⟩, r.flat (fun _ => .int _) q hf.2⟩
  · exact hf.elim
def cbLen : List PyData → (X2 → Prop) → Prop := fun ds k => match ds with | [d] => lenD d k | _ => False
theorem je_len {a : Expr} {p pos : Pos} {wa : WA} (hm : Φ.mg "len" = none) (ha : JA Φ W m [a] wa) (hg : ∀ i, Gl (Φ.X i) "len" := by intro _; rfl) (he : ∀ i, starEach [a] (Φ.X i).env = (false, eval a (Φ.X i).env) :: starEach [] (Φ.X i).env := by intro _; rfl) : JE Φ W m (.Call (.Name "len" p) [a] [] pos) (wCB cbLen wa) :=
  je_cb (fun i => by rw [← Φ.hK i]; exact call_len) csim_len hm PySem.boot_len ha hg (by decide) (by decide) he (fun _ => rfl)
def intD (d : PyData) (k : X2 → Prop) : Prop := match d with
  | .int i => k (.d (.int i))
  | .bool b => k (.d (.int (if b then 1 else 0)))
  | .str z => z.length ≤ 640 ∧ match PySem.intText? z with
    | some n => k (.d (.int n))
    | none => False
  | _ => False
def cbInt : List PyData → (X2 → Prop) → Prop := fun ds k => match ds with | [d] => intD d k | _ => False
theorem je_intc {a : Expr} {p pos : Pos} {wa : WA} (hm : Φ.mg "int" = none) (ha : JA Φ W m [a] wa) (hg : ∀ i, Gl (Φ.X i) "int" := by intro _; rfl) (he : ∀ i, starEach [a] (Φ.X i).env = (false, eval a (Φ.X i).env) :: starEach [] (Φ.X i).env := by intro _; rfl) : JE Φ W m (.Call (.Name "int" p) [a] [] pos) (wCB cbInt wa) :=
  je_ct (fun i => CallR.or call_int1 call_int_str) (csim1 (f := intD) fun B H0 g σ ρ n H v x d k Q r h e hf q => by
    unfold intD at hf
    split at hf
    · rw [r.int h e]; exact .inl (.inl ⟨_, rfl, r.flat (fun _ => .int _) q hf⟩)
    · rw [r.bool h e]; exact .inl (.inr ⟨_, rfl, r.flat (fun _ => .int _) q hf⟩)
    · rw [r.str h e]
      obtain ⟨hl, hf⟩ := hf
      split at hf
      · rename_i m hm
        exact .inr ⟨_, m, rfl, hm, hl, r.flat (fun _ => .int _) q hf⟩
      · exact hf.elim
    · exact hf.elim) hm (by decide +kernel) ha hg (by decide) (by decide) he (fun _ => rfl)
def strD (d : PyData) (k : X2 → Prop) : Prop := match d with
  | .int i => i.natAbs.log2 < 1920 ∧ k (.d (.str (toString i)))
  | _ => False
def cbStr : List PyData → (X2 → Prop) → Prop := fun ds k => match ds with | [d] => strD d k | _ => False
theorem je_strc {a : Expr} {p pos : Pos} {wa : WA} (hm : Φ.mg "str" = none) (ha : JA Φ W m [a] wa) (hg : ∀ i, Gl (Φ.X i) "str" := by intro _; rfl) (he : ∀ i, starEach [a] (Φ.X i).env = (false, eval a (Φ.X i).env) :: starEach [] (Φ.X i).env := by intro _; rfl) : JE Φ W m (.Call (.Name "str" p) [a] [] pos) (wCB cbStr wa) :=
  je_ct (fun i => call_str_int) (csim1 (f := strD) fun B H0 g σ ρ n H v x d k Q r h e hf q => by
    unfold strD at hf
    split at hf
    · rw [r.int h e]; exact ⟨_, rfl, hf.1, r.flat (fun _ => .str _) q hf.2⟩
    · exact hf.elim) hm (by decide +kernel) ha hg (by decide) (by decide) he (fun _ => rfl)
def listD (d : PyData) (k : X2 → Prop) : Prop := match d with
  | .list ds => k (.own ds)
  | .tuple ds => k (.own ds)
  | _ => False
def cbList : List PyData → (X2 → Prop) → Prop := fun ds k => match ds with | [d] => listD d k | _ => False
def rListA (K : PySem.W.Frag) : List V → Hp → VK → Prop := fun xs H Q => ∃ p ys, xs = [.ref p] ∧ (SqL K H p ys ∨ SqT K H p ys) ∧ ∀ l, H l = none → Q (.ref l) (upd H l (.lst ys))
theorem call_listA {X : Cx} : CallR X (.type "list") (rListA X.K) := call_list_of
def tupleD (d : PyData) (k : X2 → Prop) : Prop := match d with
  | .list ds => k (.d (.tuple ds))
  | .tuple ds => k (.d (.tuple ds))
  | _ => False
def cbTuple : List PyData → (X2 → Prop) → Prop := fun ds k => match ds with | [d] => tupleD d k | _ => False
def rTupleA (K : PySem.W.Frag) : List V → Hp → VK → Prop := fun xs H Q => ∃ p ys, xs = [.ref p] ∧ ((SqL K H p ys ∧ ∀ l, H l = none → Q (.ref l) (upd H l (.tup ys))) ∨ (SqT K H p ys ∧ Q (.ref p) H))
theorem call_tupleA {X : Cx} : CallR X (.type "tuple") (rTupleA X.K) := call_tuple_of
theorem je_tuplec {a : Expr} {p pos : Pos} {wa : WA} (hm : Φ.mg "tuple" = none) (ha : JA Φ W m [a] wa) (hg : ∀ i, Gl (Φ.X i) "tuple" := by intro _; rfl) (he : ∀ i, starEach [a] (Φ.X i).env = (false, eval a (Φ.X i).env) :: starEach [] (Φ.X i).env := by intro _; rfl) : JE Φ W m (.Call (.Name "tuple" p) [a] [] pos) (wCB cbTuple wa) :=
  je_ct (T := "tuple") (r := rTupleA Φ.K) (f := cbTuple) (fun i => by rw [← Φ.hK i]; exact call_tupleA) (csim1 (f := tupleD) fun B H0 g σ ρ n H v x d k Q r h e hf q => by
    unfold tupleD at hf
    split at hf
    · obtain ⟨p, vs, rfl, s1, d1⟩ := r.list h e
      exact ⟨p, vs, rfl, .inl ⟨SqL.of s1, fun l hl => r.newT d1 hl q hf⟩⟩
    · have t0 := r.oldT h e
      obtain ⟨p, vs, rfl, s1, d1⟩ := r.tuple h e
      exact ⟨p, vs, rfl, .inr ⟨s1, q H0 H _ (.d _) (Same.refl _) r t0 hf⟩⟩
    · exact hf.elim) hm (by decide +kernel) ha hg (by decide) (by decide) he (fun _ => rfl)
def allInts : List PyData → Option (List Int)
  | [] => some []
  | .int i :: r => (allInts r).map (i :: ·)
  | _ => none
def allStrs : List PyData → Option (List Str)
  | [] => some []
  | .str i :: r => (allStrs r).map (i :: ·)
  | _ => none
def allBls : List PyData → Option (List Bool)
  | [] => some []
  | .bool i :: r => (allBls r).map (i :: ·)
  | _ => none
theorem allInts_eq : ∀ {ds : List PyData} {ns : List Int}, allInts ds = some ns → ds = ns.map PyData.int
  | [], ns, h => by cases h; rfl
  | .int i :: r, ns, h => by
    unfold allInts at h
    cases e : allInts r with
    | none => rw [e] at h; cases h
    | some ms => rw [e] at h; cases h; rw [allInts_eq e]; rfl
  | .none :: _, _, h | .bool _ :: _, _, h | .str _ :: _, _, h | .list _ :: _, _, h | .tuple _ :: _, _, h | .dict _ :: _, _, h => by cases h
theorem allStrs_eq : ∀ {ds : List PyData} {ns : List Str}, allStrs ds = some ns → ds = ns.map PyData.str
  | [], ns, h => by cases h; rfl
  | .str i :: r, ns, h => by
    unfold allStrs at h
    cases e : allStrs r with
    | none => rw [e] at h; cases h
    | some ms => rw [e] at h; cases h; rw [allStrs_eq e]; rfl
  | .none :: _, _, h | .bool _ :: _, _, h | .int _ :: _, _, h | .list _ :: _, _, h | .tuple _ :: _, _, h | .dict _ :: _, _, h => by cases h
theorem allBls_eq : ∀ {ds : List PyData} {ns : List Bool}, allBls ds = some ns → ds = ns.map PyData.bool
  | [], ns, h => by cases h; rfl
  | .bool i :: r, ns, h => by
    unfold allBls at h
    cases e : allBls r with
    | none => rw [e] at h; cases h
    | some ms => rw [e] at h; cases h; rw [allBls_eq e]; rfl
  | .none :: _, _, h | .int _ :: _, _, h | .str _ :: _, _, h | .list _ :: _, _, h | .tuple _ :: _, _, h | .dict _ :: _, _, h => by cases h
theorem allInts_map (ns : List Int) : allInts (ns.map PyData.int) = some ns := by
  induction ns with
  | nil => rfl
  | cons a r ih => rw [List.map_cons, allInts, ih]; rfl
theorem allStrs_map (ns : List Str) : allStrs (ns.map PyData.str) = some ns := by
  induction ns with
  | nil => rfl
  | cons a r ih => rw [List.map_cons, allStrs, ih]; rfl
theorem allBls_map (ns : List Bool) : allBls (ns.map PyData.bool) = some ns := by
  induction ns with
  | nil => rfl
  | cons a r ih => rw [List.map_cons, allBls, ih]; rfl
def anyD (all : Bool) (d : PyData) (k : X2 → Prop) : Prop := match d with
  | .list ds => match allBls ds with
    | some ns => k (.d (.bool (if all then ns.all id else ns.any id)))
    | none => False
  | _ => False
def cbAll : List PyData → (X2 → Prop) → Prop := fun ds k => match ds with | [d] => anyD true d k | _ => False
theorem je_all {a : Expr} {p pos : Pos} {wa : WA} (hm : Φ.mg "all" = none) (ha : JA Φ W m [a] wa) (hg : ∀ i, Gl (Φ.X i) "all" := by intro _; rfl) (he : ∀ i, starEach [a] (Φ.X i).env = (false, eval a (Φ.X i).env) :: starEach [] (Φ.X i).env := by intro _; rfl) (hcm : Φ.cm = true := by rfl) : JE Φ W m (.Call (.Name "all" p) [a] [] pos) (wCB cbAll wa) :=
  je_cb (id := "all") (r := rAll Φ.K) (f := cbAll) (fun i => by rw [← Φ.hK i]; exact cr_all (Φ.calm hcm i)) (csim1 (f := anyD true) fun B H0 g σ ρ n H v x d k Q r h e hf q => by
    unfold anyD at hf
    split at hf
    · split at hf
      · rename_i ds ns hn
        obtain ⟨p, vs, rfl, s1, d1⟩ := r.list h e
        rw [allBls_eq hn] at d1
        rw [d1.bls] at s1
        exact ⟨p, ns, rfl, SqL.of s1, r.flat (fun _ => .bl _) q hf⟩
      · exact hf.elim
    · exact hf.elim) hm (by decide +kernel) ha hg (by decide) (by decide) he (fun _ => rfl)
def maxD (ds : List PyData) (k : X2 → Prop) : Prop := match ds with
  | [.int i, .int j] => k (.d (.int (if j > i then j else i)))
  | [.list ds] => match allInts ds with
    | some ns => 0 < ns.length ∧ ∀ M, M ∈ ns → (∀ y ∈ ns, y ≤ M) → k (.d (.int M))
    | none => False
  | _ => False
def minD (ds : List PyData) (k : X2 → Prop) : Prop := match ds with
  | [.int i, .int j] => k (.d (.int (if j < i then j else i)))
  | [.list ds] => match allInts ds with
    | some ns => 0 < ns.length ∧ ∀ M, M ∈ ns → (∀ y ∈ ns, M ≤ y) → k (.d (.int M))
    | none => False
  | _ => False
theorem rdsK_of : ∀ {xs : List X2} {ρ : Env} {P : List PyData → Prop}, rdsK ρ xs P → ∃ ds, Paired (fun x d => rd ρ x = some d) xs ds ∧ P ds
  | [], _, _, h => ⟨[], .nil, h⟩
  | _ :: xs, _, _, h => by
    obtain ⟨d, e, h⟩ := rdK_of h
    obtain ⟨ds, q, h⟩ := rdsK_of h
    exact ⟨d :: ds, .cons e q, h⟩
def rMaxA (K : PySem.W.Frag) : List V → Hp → VK → Prop := fun xs H Q => (∃ i j, xs = [.int i, .int j] ∧ Q (.int (if j > i then j else i)) H) ∨ rMax K xs H Q
def rMinA (K : PySem.W.Frag) : List V → Hp → VK → Prop := fun xs H Q => (∃ i j, xs = [.int i, .int j] ∧ Q (.int (if j < i then j else i)) H) ∨ rMin K xs H Q
theorem csim_max {K : PySem.W.Frag} : CSim K (rMaxA K) maxD := by
  intro B H0 g σ ρ n H vs xs k Q r h1 hf q
  obtain ⟨ds, e, hf2⟩ := rdsK_of hf
  clear hf
  have hf := hf2
  clear hf2
  unfold maxD at hf
  split at hf
  · rename_i i j
    cases e with
    | cons e1 e => cases e with
      | cons e2 e => cases e; cases h1 with
        | cons a1 h1 => cases h1 with
          | cons a2 h1 => cases h1; rw [r.int a1.r e1, r.int a2.r e2]; exact .inl ⟨_, _, rfl, r.flat (fun _ => .int _) q hf⟩
  · split at hf
    · rename_i ds ns hn
      cases e with
      | cons e1 e => cases e; cases h1 with
        | cons a1 h1 =>
          cases h1
          obtain ⟨p, vs, rfl, s1, d1⟩ := r.list a1.r e1
          rw [allInts_eq hn] at d1
          rw [d1.ints] at s1
          exact .inr ⟨p, ns, rfl, SqL.of s1, hf.1, fun M hM hl => r.flat (fun _ => .int _) q (hf.2 M hM hl)⟩
    · exact hf.elim
  · exact hf.elim
theorem csim_min {K : PySem.W.Frag} : CSim K (rMinA K) minD := by
  intro B H0 g σ ρ n H vs xs k Q r h1 hf q
  obtain ⟨ds, e, hf2⟩ := rdsK_of hf
  clear hf
  have hf := hf2
  clear hf2
  unfold minD at hf
  split at hf
  · rename_i i j
    cases e with
    | cons e1 e => cases e with
      | cons e2 e => cases e; cases h1 with
        | cons a1 h1 => cases h1 with
          | cons a2 h1 => cases h1; rw [r.int a1.r e1, r.int a2.r e2]; exact .inl ⟨_, _, rfl, r.flat (fun _ => .int _) q hf⟩
  · split at hf
    · rename_i ds ns hn
      cases e with
      | cons e1 e => cases e; cases h1 with
        | cons a1 h1 =>
          cases h1
          obtain ⟨p, vs, rfl, s1, d1⟩ := r.list a1.r e1
          rw [allInts_eq hn] at d1
          rw [d1.ints] at s1
          exact .inr ⟨p, ns, rfl, SqL.of s1, hf.1, fun M hM hl => r.flat (fun _ => .int _) q (hf.2 M hM hl)⟩
    · exact hf.elim
  · exact hf.elim
def tyD : PyData → String
  | .none => "NoneType"
  | .bool _ => "bool"
  | .int _ => "int"
  | .str _ => "str"
  | .list _ => "list"
  | .tuple _ => "tuple"
  | .dict _ => "dict"
theorem tyX_of {K : PySem.W.Frag} {H : Hp} {v : V} {d : PyData} (h : Dq K H v d) : TyX K H v (.type (tyD d)) := by
  cases h with
  | non => exact .base .non
  | bl b => exact .base (.bl b)
  | int i => exact .base (.int i)
  | str x => exact .base (.str x)
  | lst h _ => exact .base (.lst h)
  | tup h _ =>
    rcases h with (h | ⟨o, h⟩) | ⟨o, its, n, h, c, _⟩
    · exact .base (.tup h)
    · exact .fTuple h
    · exact .kTuple h c
  | dic h _ _ _ _ => exact .base (.dK h)
def isT (T : String) (d : PyData) : Bool := tyD d == T || (T == "int" && tyD d == "bool")
def wIsi (T : String) (wa : W2) : W2 := fun e ρ k => wa e ρ fun x ρ1 => rdK ρ1 (calm1 x) fun d => k (.d (.bool (isT T d))) ρ1
theorem je_isi {a : Expr} {T : Str} {T' : String} {p p2 pos : Pos} {wa : W2} (hm : Φ.mg "isinstance" = none) (hmT : Φ.mg T = none) (hT : bootBuiltins T = some (.type T')) (hk : ∀ d : PyData, kitB (tyD d) T' = some (isT T' d)) (ha : JE Φ W m a wa) (hg : ∀ i, Gl (Φ.X i) "isinstance" := by intro _; rfl) (hgT : ∀ i, Gl (Φ.X i) T := by intro _; rfl)
    (hs : ∀ i, starEach [a, .Name T p2] (Φ.X i).env = (false, eval a (Φ.X i).env) :: starEach [.Name T p2] (Φ.X i).env := by intro _; rfl) (hn : T ≠ "__name__" := by decide) (hd : (T == ("__debug__" : Str)) = false := by decide) :
    JE Φ W m (.Call (.Name "isinstance" p) [a, .Name T p2] [] pos) (wIsi T' wa) := by
  obtain ⟨ta, a1, a2⟩ := ha
  have hT2 : ∀ i, PE (Φ.X i) (.Name T p2) (tC (.ty T')) := fun i => pe_bltn (hgT i) (by rw [Φ.hmg i]; exact hmT) hT rfl hn hd
  refine ⟨tCB (rIsi Φ.K) (tCons ta (tCons (tC (.ty T')) tNil)), fun i => pe_callB (by rw [← Φ.hK i]; exact call_isi) (hg i) (by rw [Φ.hmg i]; exact hm) (by decide +kernel) (pa_cons (a1 i) (pa_cons (hT2 i) pa_nil rfl) (hs i)) (by decide) (by decide) (hs i) rfl, ?_⟩
  intro B H0 g σ ρ n H e k Q rs l hw q xq
  refine a2 B H0 g σ ρ n H e _ _ rs l hw (fun H1 ρ1 Ha v1 x1 s1 r1 h1 q1 => ?_) xq
  obtain ⟨H2, s2, r2, h2⟩ := r1.calm h1
  obtain ⟨d, ed, q2⟩ := rdK_of q1
  have dd := (r2.read h2.r ed).1
  exact ⟨v1, .ty T', .type (tyD d), .type T', isT T' d, rfl, .ty T', tyX_of dd, kit_ty (hk d), q H2 ρ1 Ha _ (.d (.bool _)) (s1.trans s2) r2 (.bl _) q2⟩
theorem kit_tuple (d : PyData) : kitB (tyD d) "tuple" = some (isT "tuple" d) := by cases d <;> simp only [tyD, isT] <;> decide +kernel
theorem kit_bool (d : PyData) : kitB (tyD d) "bool" = some (isT "bool" d) := by cases d <;> simp only [tyD, isT] <;> decide +kernel
theorem kit_str (d : PyData) : kitB (tyD d) "str" = some (isT "str" d) := by cases d <;> simp only [tyD, isT] <;> decide +kernel
end
end B2

namespace B2
open PySem L2
section
variable {K : PySem.W.Frag} {B : Base} {H0 H0' H H' : Hp} {g : Option Gs} {σ σ' : St} {ρ ρ' : Env} {n m : Nat} {v : V} {x : X2}
theorem upE_same {i : Nat} {x : Option X2} : upE ρ i x i = x := by unfold upE; rw [if_pos rfl]
theorem upE_ne {i j : Nat} {x : Option X2} (h : j ≠ i) : upE ρ i x j = ρ j := by unfold upE; rw [if_neg h]
theorem RS.mutF (r : RS K B H0 g σ ρ n H) {i : Nat} {x y : X2} (h : ρ i = some x) {p : Addr} (hv : σ[i]? = some (some (.ref p))) (same : ∀ b, ¬ Foot x p b → H' b = H b) (hy : RelS K B H0 H' g (.ref p) y) (hf : ∀ a, Foot y p a → Foot x p a) :
    RS K B H0 g σ (upE ρ i (some y)) n H' := by
  obtain ⟨v, z1, z2⟩ := r.sl i _ h
  rw [hv] at z1; cases z1
  have ft : ∀ a, Foot x p a → Priv B H0 g a := fun a fa => (z2.foot rfl fa).1
  refine ⟨r.hb, r.new, fun b u e => ?_, fun b u e z => ?_, fun g' e => (r.drw g' e).keep fun b u hb z => ?_, r.drf, r.gg, fun j w q' => ?_, fun j k p' q' a x' y' e1 e2 e3 e4 e5 e6 => ?_⟩
  · rw [same b fun fb => by rw [(ft b fb).h0] at e; cases e]; exact r.ext b u e
  · rw [same b fun fb => by rw [(ft b fb).he] at e; cases e]; exact r.keep b u e z
  · rw [same b fun fb => (ft b fb).ng (by rw [e]; exact hb)]; exact z
  · by_cases hj : j = i
    · subst hj
      rw [upE_same] at q'; cases q'
      exact ⟨_, hv, hy⟩
    · rw [upE_ne hj] at q'
      obtain ⟨v, k1, k2⟩ := r.sl j w q'
      refine ⟨v, k1, k2.keep (Same.refl _) fun q2 a e fa => ⟨fun u z => ?_, id⟩⟩
      rw [same a fun fb => hj (r.dist j i q2 p a w x q' h (by rw [k1, e]) hv fa fb)]; exact z
  · by_cases hj : j = i
    · by_cases hk : k = i
      · rw [hj, hk]
      · rw [upE_ne hk] at e2
        subst hj
        rw [upE_same] at e1; cases e1
        rw [hv] at e3; cases e3
        exact r.dist j k p q' a x y' h e2 hv e4 (hf a e5) e6
    · rw [upE_ne hj] at e1
      by_cases hk : k = i
      · subst hk
        rw [upE_same] at e2; cases e2
        rw [hv] at e4; cases e4
        exact r.dist j k p' p a x' x e1 h e3 hv e5 (hf a e6)
      · rw [upE_ne hk] at e2
        exact r.dist j k p' q' a x' y' e1 e2 e3 e4 e5 e6
theorem RS.mut (r : RS K B H0 g σ ρ n H) {i : Nat} {ds es : List PyData} (h : ρ i = some (.own ds)) {p : Addr} (hv : σ[i]? = some (some (.ref p))) {vs : List V} (q : DqA K H0 vs es) :
    RS K B H0 g σ (upE ρ i (some (.own es))) n (upd H p (.lst vs)) := by
  obtain ⟨v, z1, p', z2, ws, h1, h2, h3, h4, h5⟩ := r.sl i _ h
  rw [hv] at z1; cases z1; cases z2
  exact r.mutF h hv (fun b fb => upd_ne fb) ⟨p, rfl, vs, upd_same, q, h3, h4, h5⟩ fun a fa => fa
theorem RS.ownP (r : RS K B H0 g σ ρ n H) {i : Nat} {ds : List PyData} (h : ρ i = some (.own ds)) : ∃ p vs, σ[i]? = some (some (.ref p)) ∧ H p = some (.lst vs) ∧ DqA K H0 vs ds := by
  obtain ⟨v, z1, p', rfl, ws, h1, h2, _⟩ := r.sl i _ h
  exact ⟨p', ws, z1, h1, h2⟩
theorem RS.set (r : RS K B H0 g σ ρ n H) {j : Nat} (hj : j < σ.length) (h : RelR K B H0 H g σ ρ v x) (hx : ∀ i, x ≠ .slot i) : RS K B H0 g (σ.set j (some v)) (upE ρ j (some x)) n H := by
  refine ⟨r.hb, r.new, r.ext, r.keep, r.drw, r.drf, r.gg, fun i y q => ?_, fun i k p p2 a y z e1 e2 e3 e4 e5 e6 => ?_⟩
  · by_cases hi : i = j
    · subst hi
      rw [upE_same] at q; cases q
      refine ⟨v, by rw [List.getElem?_set_self hj], ?_⟩
      cases x with
      | own ds => obtain ⟨p, k1, k2, _⟩ := h; exact ⟨p, k1, k2⟩
      | d _ => exact h
      | slot i => exact absurd rfl (hx i)
      | drw => exact h
      | scr _ => exact h
      | ob o => cases o with
        | ret a ds d =>
          obtain ⟨q, hq, hd, _⟩ := h
          subst hq
          exact ⟨q, rfl, hd⟩
        | tt ds =>
          obtain ⟨q, hq, hd⟩ := h
          exact ⟨q, hq, hd⟩
        | dic _ => exact h.elim
        | rows _ _ => exact h.elim
        | «at» _ _ => exact h.elim
    · rw [upE_ne hi] at q
      obtain ⟨v', k1, k2⟩ := r.sl i y q
      exact ⟨v', by rw [List.getElem?_set_ne (Ne.symm hi)]; exact k1, k2⟩
  · have no : ∀ i q a y, ρ i = some y → σ[i]? = some (some (.ref q)) → Foot y q a → ∀ p, v = .ref p → Foot x p a → False := by
      intro i q a y f1 f2 f3 p f4 f5
      cases x with
      | own ds =>
        obtain ⟨p', k1, _, k3⟩ := h
        rw [k1] at f4; cases f4
        have f5 : a = p := f5
        exact k3 i y q f1 f2 (by rw [← f5]; exact f3)
      | ob o => cases o with
        | ret a ds d => exact f5.elim
        | tt _ => exact f5.elim
        | dic _ => exact h.elim
        | rows _ _ => exact h.elim
        | «at» _ _ => exact h.elim
      | d _ => exact f5.elim
      | slot _ => exact f5.elim
      | drw => exact f5.elim
      | scr _ => exact f5.elim
    by_cases hi : i = j
    · by_cases hk : k = j
      · rw [hi, hk]
      · subst hi
        rw [upE_same] at e1; cases e1
        rw [upE_ne hk] at e2
        rw [List.getElem?_set_ne (Ne.symm hk)] at e4
        rw [List.getElem?_set_self hj] at e3
        exact (no k p2 a z e2 e4 e6 p (Option.some.inj (Option.some.inj e3)) e5).elim
    · rw [upE_ne hi] at e1
      rw [List.getElem?_set_ne (Ne.symm hi)] at e3
      by_cases hk : k = j
      · subst hk
        rw [upE_same] at e2; cases e2
        rw [List.getElem?_set_self hj] at e4
        exact (no i p a y e1 e3 e5 p2 (Option.some.inj (Option.some.inj e4)) e6).elim
      · rw [upE_ne hk] at e2
        rw [List.getElem?_set_ne (Ne.symm hk)] at e4
        exact r.dist i k p p2 a y z e1 e2 e3 e4 e5 e6
theorem RS.weak (r : RS K B H0 g σ ρ n H) (h : ∀ i y, ρ' i = some y → ρ i = some y ∧ σ'[i]? = σ[i]?) : RS K B H0 g σ' ρ' n H := by
  refine ⟨r.hb, r.new, r.ext, r.keep, r.drw, r.drf, r.gg, fun i y q => ?_, fun i k p p2 a2 y z e1 e2 e3 e4 e5 e6 => ?_⟩
  · obtain ⟨a, b⟩ := h i y q
    obtain ⟨v, k1, k2⟩ := r.sl i y a
    exact ⟨v, by rw [b]; exact k1, k2⟩
  · obtain ⟨a, b⟩ := h i _ e1
    obtain ⟨a', b'⟩ := h k _ e2
    rw [b] at e3
    rw [b'] at e4
    exact r.dist i k p p2 a2 y z a a' e3 e4 e5 e6
end
section
variable {ι : Type} {Φ : Fam ι} {W : WX} {m m1 m2 m3 : Nat}
def wAppend (i : Nat) (wa : W2) : W2 := fun e ρ k => wa e ρ fun x ρ1 => frzK ρ1 [calm1 x] fun ds ρ2 => match ds, ρ2 i with
  | [d], some (.own es) => es.length < 16777216 ∧ k (.d .none) (upE ρ2 i (some (.own (es ++ [d]))))
  | _, _ => False
def wPop (i : Nat) : W2 := fun _ ρ k => match ρ i with
  | some (.own ds) => match ds[ds.length - 1]? with
    | some d => k (.d d) (upE ρ i (some (.own ds.dropLast)))
    | none => False
  | _ => False
def wPopAt (i : Nat) (wa : W2) : W2 := fun e ρ k => wa e ρ fun x ρ1 => rdK ρ1 x fun a => match a, ρ1 i with
  | .int j, some (.own ds) => match ixN ds.length j with
    | some n => match ds[n]? with
      | some d => (-(2 ^ 63) ≤ j ∧ j < 2 ^ 63) ∧ k (.d d) (upE ρ1 i (some (.own (ds.eraseIdx n))))
      | none => False
    | none => False
  | _, _ => False
def wExtend (i : Nat) (wa : W2) : W2 := fun e ρ k => wa e ρ fun x ρ1 => rdK ρ1 (calm1 x) fun a => match a, ρ1 i with
  | .list zs, some (.own es) => es.length + zs.length ≤ 16777216 ∧ k (.d .none) (upE ρ1 i (some (.own (es ++ zs))))
  | _, _ => False
def wAppendS (i : Nat) (wa : W2) : W2 := fun e ρ k => match ρ i with
  | some (.own _) => wAppend i wa e ρ k
  | _ => False
def wPopAtS (i : Nat) (wa : W2) : W2 := fun e ρ k => match ρ i with
  | some (.own _) => wPopAt i wa e ρ k
  | _ => False
def wExtendS (i : Nat) (wa : W2) : W2 := fun e ρ k => match ρ i with
  | some (.own _) => wExtend i wa e ρ k
  | _ => False
theorem je_append (i : Nat) {x : Str} {a : Expr} {p apos pos : Pos} {wa : W2} (ha : JE Φ W m a wa) (hN : Φ.N[i]? = some x := by rfl) (hv : Vis Φ.sc x := by first | exact Or.inl rfl | exact Or.inr (Or.inl rfl) | exact Or.inr (Or.inr rfl)) (hd : (x == ("__debug__" : Str)) = false := by decide) (hcd : (x == ("__classdict__" : Str)) = false := by decide)
    (hb : ∀ j, attributeBase (.Name x p) "append" (Φ.X j).env (eval (.Name x p) (Φ.X j).env) = eval (.Name x p) (Φ.X j).env := by intro _; rfl) (hs : ∀ j, starEach [a] (Φ.X j).env = (false, eval a (Φ.X j).env) :: starEach [] (Φ.X j).env := by intro _; rfl) (hfew : ∀ j, ((backTo pos (starEach (a :: []) (Φ.X j).env)).all (fun x => !x.1) && (backToKw pos (keywordEach [] (Φ.X j).env)).all (fun x => x.1.isSome) && decide ((a :: []).length + ([] : List Keyword).length + (if ([] : List Keyword).isEmpty then 0 else 1) < 30)) = true := by intro _; rfl) (hl : (apos.endLine == pos.line) = true := by rfl) :
    JE Φ W m (.Call (.Attribute (.Name x p) "append" apos) [a] [] pos) (wAppendS i wa) := by
  obtain ⟨ta, a1, a2⟩ := ha
  refine ⟨tBM Φ.K "list" rAppend (tVar i) (tCons ta tNil), fun j => ?_, ?_⟩
  · have h1 := pe_bm (X := Φ.X j) (apos := apos) (cpos := pos) PySem.F.plainAttrs_list PySem.F.slot_list_append PySem.F.type_list_append mt_append (pe_var (X := Φ.X j) (pos := p) (by rw [Φ.hN j]; exact hN) (by rw [Φ.hsc j]; exact hv) hd hcd) (pa_cons (a1 j) pa_nil (hs j)) (hb j) (hfew j) hl (hs j) rfl
    rw [Φ.hK j] at h1
    exact h1
  · intro B H0 g σ ρ n H e k Q rs l hw q xq
    unfold wAppendS at hw
    split at hw
    · rename_i ds0 h0
      obtain ⟨p0, vs0, z1, z2, z3⟩ := rs.ownP h0
      refine ⟨_, z1, .inl ⟨rfl, _, SqL.of z2⟩, ?_⟩
      refine a2 B H0 g σ ρ n H e _ _ rs l hw (fun H1 ρ1 Ha v1 x1 s1 r1 h1 q1 => ?_) xq
      obtain ⟨H2, s2, r2, h2⟩ := r1.calm h1
      obtain ⟨H3, ρ3, ds, s3, r3, d3, hk⟩ := r2.frz (vs := [v1]) (xs := [calm1 x1]) (.cons h2 .nil) q1
      split at hk
      · rename_i d es he
        cases d3 with
        | cons d3 d4 =>
          obtain ⟨p1, vs1, y1, y2, y3⟩ := r3.ownP he
          rw [z1] at y1; cases y1
          refine ⟨p0, vs1, v1, rfl, rfl, y2, by rw [y3.length]; exact Nat.lt_of_lt_of_le hk.1 (by rw [sizeLine_eq]; exact Nat.le_refl _), ?_⟩
          exact q H3 _ _ _ (.d .none) ((s1.trans s2).trans s3) (r3.mut he z1 (y3.append (.cons d3 .nil))) .non hk.2
      · exact hk.elim
    · exact hw.elim
theorem je_pop (i : Nat) {x : Str} {p apos pos : Pos} (hN : Φ.N[i]? = some x := by rfl) (hv : Vis Φ.sc x := by first | exact Or.inl rfl | exact Or.inr (Or.inl rfl) | exact Or.inr (Or.inr rfl)) (hd : (x == ("__debug__" : Str)) = false := by decide) (hcd : (x == ("__classdict__" : Str)) = false := by decide)
    (hb : ∀ j, attributeBase (.Name x p) "pop" (Φ.X j).env (eval (.Name x p) (Φ.X j).env) = eval (.Name x p) (Φ.X j).env := by intro _; rfl) (hl : (apos.endLine == pos.line) = true := by rfl) :
    JE Φ W 0 (.Call (.Attribute (.Name x p) "pop" apos) [] [] pos) (wPop i) := by
  refine ⟨tBM0 Φ.K "list" rPop (tVar i), fun j => ?_, ?_⟩
  · have h1 := pe_bm0 (X := Φ.X j) (apos := apos) (cpos := pos) PySem.F.plainAttrs_list PySem.F.slot_list_pop PySem.F.type_list_pop mt_pop (pe_var (X := Φ.X j) (pos := p) (by rw [Φ.hN j]; exact hN) (by rw [Φ.hsc j]; exact hv) hd hcd) (hb j) hl
    rw [Φ.hK j] at h1
    exact h1
  · intro B H0 g σ ρ n H e k Q rs l hw q xq
    unfold wPop at hw
    split at hw
    · rename_i ds h0
      split at hw
      · rename_i d hd
        obtain ⟨p0, vs0, z1, z2, z3⟩ := rs.ownP h0
        obtain ⟨v, y1, y2⟩ := z3.get hd
        refine ⟨_, z1, .inl ⟨rfl, _, SqL.of z2⟩, p0, vs0, v, rfl, rfl, z2, by rw [z3.length]; exact y1, ?_⟩
        exact q H0 _ _ _ (.d d) (Same.refl _) (rs.mut h0 z1 z3.dropLast) y2 hw
      · exact hw.elim
    · exact hw.elim
theorem je_popAt (i : Nat) {x : Str} {a : Expr} {p apos pos : Pos} {wa : W2} (ha : JE Φ W m a wa) (hN : Φ.N[i]? = some x := by rfl) (hv : Vis Φ.sc x := by first | exact Or.inl rfl | exact Or.inr (Or.inl rfl) | exact Or.inr (Or.inr rfl)) (hd : (x == ("__debug__" : Str)) = false := by decide) (hcd : (x == ("__classdict__" : Str)) = false := by decide)
    (hb : ∀ j, attributeBase (.Name x p) "pop" (Φ.X j).env (eval (.Name x p) (Φ.X j).env) = eval (.Name x p) (Φ.X j).env := by intro _; rfl) (hs : ∀ j, starEach [a] (Φ.X j).env = (false, eval a (Φ.X j).env) :: starEach [] (Φ.X j).env := by intro _; rfl) (hfew : ∀ j, ((backTo pos (starEach (a :: []) (Φ.X j).env)).all (fun x => !x.1) && (backToKw pos (keywordEach [] (Φ.X j).env)).all (fun x => x.1.isSome) && decide ((a :: []).length + ([] : List Keyword).length + (if ([] : List Keyword).isEmpty then 0 else 1) < 30)) = true := by intro _; rfl) (hl : (apos.endLine == pos.line) = true := by rfl) :
    JE Φ W m (.Call (.Attribute (.Name x p) "pop" apos) [a] [] pos) (wPopAtS i wa) := by
  obtain ⟨ta, a1, a2⟩ := ha
  refine ⟨tBM Φ.K "list" rPopAt (tVar i) (tCons ta tNil), fun j => ?_, ?_⟩
  · have h1 := pe_bm (X := Φ.X j) (apos := apos) (cpos := pos) PySem.F.plainAttrs_list PySem.F.slot_list_pop PySem.F.type_list_pop mt_popAt (pe_var (X := Φ.X j) (pos := p) (by rw [Φ.hN j]; exact hN) (by rw [Φ.hsc j]; exact hv) hd hcd) (pa_cons (a1 j) pa_nil (hs j)) (hb j) (hfew j) hl (hs j) rfl
    rw [Φ.hK j] at h1
    exact h1
  · intro B H0 g σ ρ n H e k Q rs l hw q xq
    unfold wPopAtS at hw
    split at hw
    · rename_i ds0 h0
      obtain ⟨p0, vs0, z1, z2, z3⟩ := rs.ownP h0
      refine ⟨_, z1, .inl ⟨rfl, _, SqL.of z2⟩, ?_⟩
      refine a2 B H0 g σ ρ n H e _ _ rs l hw (fun H1 ρ1 Ha v1 x1 s1 r1 h1 q1 => ?_) xq
      obtain ⟨a, ea, hk⟩ := rdK_of q1
      split at hk
      · rename_i j ds hds
        split at hk
        · rename_i nn hix
          split at hk
          · rename_i d hdn
            obtain ⟨p1, vs1, y1, y2, y3⟩ := r1.ownP hds
            rw [z1] at y1; cases y1
            obtain ⟨v, w1, w2⟩ := y3.get hdn
            obtain ⟨e1, e2, e3, e4⟩ := ixN_seq hix
            rw [r1.int h1 ea]
            exact ⟨p0, vs1, j, nn, v, rfl, rfl, y2, hk.1.1, hk.1.2, by rw [y3.length]; exact e1, w1, q H1 _ _ _ (.d d) s1 (r1.mut hds z1 (y3.eraseIdx nn)) w2 hk.2⟩
          · exact hk.elim
        · exact hk.elim
      · exact hk.elim
    · exact hw.elim
theorem je_extend (i : Nat) {x : Str} {a : Expr} {p apos pos : Pos} {wa : W2} (ha : JE Φ W m a wa) (hN : Φ.N[i]? = some x := by rfl) (hv : Vis Φ.sc x := by first | exact Or.inl rfl | exact Or.inr (Or.inl rfl) | exact Or.inr (Or.inr rfl)) (hd : (x == ("__debug__" : Str)) = false := by decide) (hcd : (x == ("__classdict__" : Str)) = false := by decide)
    (hb : ∀ j, attributeBase (.Name x p) "extend" (Φ.X j).env (eval (.Name x p) (Φ.X j).env) = eval (.Name x p) (Φ.X j).env := by intro _; rfl) (hs : ∀ j, starEach [a] (Φ.X j).env = (false, eval a (Φ.X j).env) :: starEach [] (Φ.X j).env := by intro _; rfl) (hfew : ∀ j, ((backTo pos (starEach (a :: []) (Φ.X j).env)).all (fun x => !x.1) && (backToKw pos (keywordEach [] (Φ.X j).env)).all (fun x => x.1.isSome) && decide ((a :: []).length + ([] : List Keyword).length + (if ([] : List Keyword).isEmpty then 0 else 1) < 30)) = true := by intro _; rfl) (hl : (apos.endLine == pos.line) = true := by rfl) :
    JE Φ W m (.Call (.Attribute (.Name x p) "extend" apos) [a] [] pos) (wExtendS i wa) := by
  obtain ⟨ta, a1, a2⟩ := ha
  refine ⟨tBM Φ.K "list" rExtend (tVar i) (tCons ta tNil), fun j => ?_, ?_⟩
  · have h1 := pe_bm (X := Φ.X j) (apos := apos) (cpos := pos) PySem.F.plainAttrs_list PySem.F.slot_list_extend PySem.F.type_list_extend mt_extend (pe_var (X := Φ.X j) (pos := p) (by rw [Φ.hN j]; exact hN) (by rw [Φ.hsc j]; exact hv) hd hcd) (pa_cons (a1 j) pa_nil (hs j)) (hb j) (hfew j) hl (hs j) rfl
    rw [Φ.hK j] at h1
    exact h1
  · intro B H0 g σ ρ n H e k Q rs l hw q xq
    unfold wExtendS at hw
    split at hw
    · rename_i ds0 h0
      obtain ⟨p0, vs0, z1, z2, z3⟩ := rs.ownP h0
      refine ⟨_, z1, .inl ⟨rfl, _, SqL.of z2⟩, ?_⟩
      refine a2 B H0 g σ ρ n H e _ _ rs l hw (fun H1 ρ1 Ha v1 x1 s1 r1 h1 q1 => ?_) xq
      obtain ⟨H2, s2, r2, h2⟩ := r1.calm h1
      obtain ⟨a, ea, hk⟩ := rdK_of q1
      split at hk
      · rename_i zs es he
        obtain ⟨p1, vs1, y1, y2, y3⟩ := r2.ownP he
        rw [z1] at y1; cases y1
        obtain ⟨pb, ws, rfl, u1, u2⟩ := r2.list h2.r ea
        refine ⟨p0, pb, vs1, ws, rfl, rfl, y2, u1, by rw [y3.length, u2.length, sizeLine_eq]; exact hk.1, ?_⟩
        exact q H2 _ _ _ (.d .none) (s1.trans s2) (r2.mut he z1 (y3.append u2)) .non hk.2
      · exact hk.elim
    · exact hw.elim
def MSim (K : PySem.W.Frag) (r : V → List V → Hp → VK → Prop) (f : Str → PyData → (X2 → Prop) → Prop) : Prop := ∀ (B : Base) (H0 : Hp) (g : Option Gs) (σ : St) (ρ : Env) (n : Nat) (H : Hp) (s : Str) (v : V) (x : X2) (d : PyData) (k : X2 → Prop) (Q : VK),
  RS K B H0 g σ ρ n H → RelR K B H0 H g σ ρ v x → rd ρ x = some d → f s d k → (∀ H0' H' v x, Same H0 H0' → RS K B H0' g σ ρ n H' → RelR K B H0' H' g σ ρ v x → k x → Q v H') → r (.str s) [v] H Q
def wM1 (f : Str → PyData → (X2 → Prop) → Prop) (wo wa : W2) : W2 := fun e ρ k => wo e ρ fun x ρ1 => match x with
  | .d (.str s) => wa e ρ1 fun y ρ2 => rdK ρ2 (calm1 y) fun d => f s d fun z => k z ρ2
  | _ => False
theorem je_m1 {id : String} {name : Str} {o a : Expr} {apos pos : Pos} {r : V → List V → Hp → VK → Prop} {f : Str → PyData → (X2 → Prop) → Prop} {wo wa : W2} (slot : Slot "str" name id) (ty : typeOf (.builtin id) = pure (.type "method_descriptor")) (rule : ∀ i, MtR (Φ.X i) id r) (hr : MSim Φ.K r f) (ho : JE Φ W m1 o wo) (ha : JE Φ W m2 a wa)
    (hs : ∀ i, starEach [a] (Φ.X i).env = [(false, eval a (Φ.X i).env)] := by intro _; rfl) (hbase : ∀ i, attributeBase o name (Φ.X i).env (eval o (Φ.X i).env) = eval o (Φ.X i).env := by intro _; rfl) (hline : (apos.endLine == pos.line) = true := by rfl) :
    JE Φ W (m1 + m2) (.Call (.Attribute o name apos) [a] [] pos) (wM1 f wo wa) := by
  obtain ⟨to, o1, o2⟩ := ho
  obtain ⟨ta, a1, a2⟩ := ha
  refine ⟨tM1 r to ta, fun i => pe_m1 slot ty (rule i) (o1 i) (a1 i) (hs i) (hbase i) hline, ?_⟩
  intro B H0 g σ ρ n H e k Q rs l hw q xq
  refine o2 B H0 g σ ρ n H e _ _ rs (by omega) hw (fun H1 ρ1 Ha v1 x1 s1 r1 h1 q1 => ?_) (fun H0' ρ' H' nm cls d s r' => xq H0' ρ' H' nm cls d s (r'.count (by omega)))
  split at q1
  · rename_i s
    cases (show Dq Φ.K H1 v1 (.str s) from h1)
    refine ⟨⟨s, rfl⟩, ?_⟩
    refine a2 B H1 g σ ρ1 _ Ha e _ _ r1 (by omega) q1 (fun H2 ρ2 Hb v2 x2 s2 r2 h2 q2 => ?_) (fun H0' ρ' H' nm cls d s r' => xq H0' ρ' H' nm cls d (s1.trans s) (r'.count (by omega)))
    obtain ⟨H3, s3, r3, h3⟩ := r2.calm h2
    obtain ⟨d, ed, q3⟩ := rdK_of q2
    exact hr B H3 g σ ρ2 _ Hb s v2 (calm1 x2) d (fun z => k z ρ2) Q r3 h3.r ed q3 fun H4 Hc v x s4 r4 h4 k4 => q H4 ρ2 Hc v x (((s1.trans s2).trans s3).trans s4) (r4.count (by omega)) h4 k4
  · exact q1.elim
def joinD (s : Str) (d : PyData) (k : X2 → Prop) : Prop := match d with
  | .list ds => match allStrs ds with
    | some ys => (ys.map (·.length)).sum + ys.length * s.length ≤ 16777216 ∧ k (.d (.str (Txt.join s ys)))
    | none => False
  | .tuple ds => match allStrs ds with
    | some ys => (ys.map (·.length)).sum + ys.length * s.length ≤ 16777216 ∧ k (.d (.str (Txt.join s ys)))
    | none => False
  | _ => False
def rJoinA (K : PySem.W.Frag) : V → List V → Hp → VK → Prop := fun x xs H Q => ∃ a p, ∃ ys : List Str, x = .str a ∧ xs = [.ref p] ∧ (SqL K H p (ys.map V.str) ∨ SqT K H p (ys.map V.str)) ∧
    (ys.map (·.length)).sum + ys.length * a.length ≤ 16777216 ∧ Q (.str (Txt.join a ys)) H
theorem mt_joinA {X : Cx} : MtR X "str.join" (rJoinA X.K) := mt_join
theorem msim_join {K : PySem.W.Frag} : MSim K (rJoinA K) joinD := by
  intro B H0 g σ ρ n H s v x d k Q r h e hf q
  unfold joinD at hf
  split at hf
  · split at hf
    · rename_i ds ys hy
      obtain ⟨p, vs, rfl, s1, d1⟩ := r.list h e
      rw [allStrs_eq hy] at d1
      rw [d1.strs] at s1
      exact ⟨s, p, ys, rfl, rfl, .inl (SqL.of s1), hf.1, r.flat (fun _ => .str _) q hf.2⟩
    · exact hf.elim
  · split at hf
    · rename_i ds ys hy
      obtain ⟨p, vs, rfl, s1, d1⟩ := r.tuple h e
      rw [allStrs_eq hy] at d1
      rw [d1.strs] at s1
      exact ⟨s, p, ys, rfl, rfl, .inr s1, hf.1, r.flat (fun _ => .str _) q hf.2⟩
    · exact hf.elim
  · exact hf.elim
theorem je_join {o a : Expr} {apos pos : Pos} {wo wa : W2} (ho : JE Φ W m1 o wo) (ha : JE Φ W m2 a wa)
    (hs : ∀ i, starEach [a] (Φ.X i).env = [(false, eval a (Φ.X i).env)] := by intro _; rfl) (hbase : ∀ i, attributeBase o "join" (Φ.X i).env (eval o (Φ.X i).env) = eval o (Φ.X i).env := by intro _; rfl) (hline : (apos.endLine == pos.line) = true := by rfl) :
    JE Φ W (m1 + m2) (.Call (.Attribute o "join" apos) [a] [] pos) (wM1 joinD wo wa) :=
  je_m1 PySem.F.slot_str_join PySem.F.type_str_join (fun i => by rw [← Φ.hK i]; exact mt_joinA) msim_join ho ha hs hbase hline
def findD (s : Str) (d : PyData) (k : X2 → Prop) : Prop := match d with
  | .str t => k (.d (.int (Txt.find s t)))
  | _ => False
theorem je_find {o a : Expr} {apos pos : Pos} {wo wa : W2} (ho : JE Φ W m1 o wo) (ha : JE Φ W m2 a wa)
    (hs : ∀ i, starEach [a] (Φ.X i).env = [(false, eval a (Φ.X i).env)] := by intro _; rfl) (hbase : ∀ i, attributeBase o "find" (Φ.X i).env (eval o (Φ.X i).env) = eval o (Φ.X i).env := by intro _; rfl) (hline : (apos.endLine == pos.line) = true := by rfl) :
    JE Φ W (m1 + m2) (.Call (.Attribute o "find" apos) [a] [] pos) (wM1 findD wo wa) :=
  je_m1 PySem.F.slot_str_find PySem.F.type_str_find (fun i => mt_find) (fun B H0 g σ ρ n H s v x d k Q r h e hf q => by
    unfold findD at hf
    split at hf
    · rw [r.str h e]; exact ⟨s, _, rfl, rfl, r.flat (fun _ => .int _) q hf⟩
    · exact hf.elim) ho ha hs hbase hline
end
end B2

namespace B2
open PySem L2
abbrev Spec2 := List X2 → (X2 → Prop) → (Str → Prop) → Prop
def RelA (K : PySem.W.Frag) (Hb : Hp) (g : Option Gs) (v : V) : X2 → Prop
  | .d d => Dq K Hb v d
  | .own _ => False
  | .slot _ => False
  | .drw => ∃ g', g = some g' ∧ v = .ref g'.a
  | .scr a => v = .ref a
  | .ob _ => False
def RelAs (K : PySem.W.Frag) (Hb : Hp) (g : Option Gs) : List V → List X2 → Prop := Paired (RelA K Hb g)
def RetR (K : PySem.W.Frag) (Hr H H' : Hp) (g : Option Gs) (v : V) : X2 → Prop
  | .d d => Dq K Hr v d
  | .own ds => ∃ p vs, v = .ref p ∧ H' p = some (.lst vs) ∧ DqA K Hr vs ds ∧ Hr p = none ∧ H p = none ∧ ¬ InG g p
  | .ob (.tt ds) => ∃ q, v = .ref q ∧ TtAt K Hr q ds
  | _ => False
structure Left (Hb Hr H H' : Hp) (g : Option Gs) (n : Nat) : Prop where
  b : Same Hb Hr
  new : ∀ p o, Hr p = some o → Hb p = some o ∨ H p = none
  r : Same Hr H'
  keep : ∀ p o, H p = some o → ¬ InG g p → H' p = some o
  drw : ∀ g', g = some g' → DrawOk H' g' n
  drf : ∀ p, InG g p → Hr p = none
def liftS (K : PySem.W.Frag) (mg : MG) (m : Nat) (len : Nat) (s : Spec2) : Sp := fun vs H Q E => vs.length = len ∧ ∃ (Hb : Hp) (g : Option Gs) (n : Nat) (xs : List X2) (k : X2 → Prop) (e : Str → Prop),
  n + m ≤ LIM ∧ Same Hb H ∧ (∀ p, InG g p → Hb p = none) ∧ (∀ g', g = some g' → DrawOk H g' n) ∧ RelAs K Hb g vs xs ∧ s xs k e ∧
  (∀ Hr H' v x, Left Hb Hr H H' g (n + m) → RetR K Hr H H' g v x → k x → Q v H') ∧
  (∀ Hr H' nm cls d, Left Hb Hr H H' g (n + m) → e nm → Exn mg nm cls d → E cls d H')
def argK : Env → List X2 → (List X2 → Env → Prop) → Prop
  | ρ, [], k => k [] ρ
  | ρ, .d d :: xs, k => argK ρ xs fun ds ρ' => k (.d d :: ds) ρ'
  | ρ, .drw :: xs, k => argK ρ xs fun ds ρ' => k (.drw :: ds) ρ'
  | ρ, .scr ns :: xs, k => argK ρ xs fun ds ρ' => k (.scr ns :: ds) ρ'
  | ρ, .slot i :: xs, k => match ρ i with
    | some (.own ds) => argK (upE ρ i (some (.d (.list ds)))) xs fun es ρ' => k (.d (.list ds) :: es) ρ'
    | some (.d d) => argK ρ xs fun es ρ' => k (.d d :: es) ρ'
    | _ => False
  | _, .own _ :: _, _ => False
  | _, .ob _ :: _, _ => False
theorem RelA.mono {K : PySem.W.Frag} {H0 H0' : Hp} {g : Option Gs} {v : V} {x : X2} (e : Same H0 H0') (h : RelA K H0 g v x) : RelA K H0' g v x := by
  cases x with
  | d _ => exact Dq.mono e h
  | own _ => exact h
  | slot _ => exact h
  | drw => exact h
  | scr _ => exact h
  | ob _ => exact h
theorem RS.arg {K : PySem.W.Frag} {B : Base} {g : Option Gs} {σ : St} {n : Nat} {H : Hp} : ∀ {vs : List V} {xs : List X2} {H0 : Hp} {ρ : Env} {k : List X2 → Env → Prop}, RS K B H0 g σ ρ n H → RelNs K H0 g σ vs xs → argK ρ xs k →
    ∃ H0' ρ' ys, Same H0 H0' ∧ RS K B H0' g σ ρ' n H ∧ RelAs K H0' g vs ys ∧ k ys ρ'
  | _, [], H0, ρ, k, r, .nil, h => ⟨H0, ρ, [], Same.refl _, r, .nil, h⟩
  | _, .d d :: xs, H0, ρ, k, r, .cons h1 h2, h => by
    obtain ⟨H1, ρ1, ds, s1, r1, q1, k1⟩ := RS.arg (k := fun ds ρ' => k (.d d :: ds) ρ') r h2 h
    exact ⟨H1, ρ1, .d d :: ds, s1, r1, .cons (Dq.mono s1 h1) q1, k1⟩
  | _, .drw :: xs, H0, ρ, k, r, .cons h1 h2, h => by
    obtain ⟨H1, ρ1, ds, s1, r1, q1, k1⟩ := RS.arg (k := fun ds ρ' => k (.drw :: ds) ρ') r h2 h
    exact ⟨H1, ρ1, .drw :: ds, s1, r1, .cons h1 q1, k1⟩
  | _, .scr ns :: xs, H0, ρ, k, r, .cons h1 h2, h => by
    obtain ⟨H1, ρ1, ds, s1, r1, q1, k1⟩ := RS.arg (k := fun ds ρ' => k (.scr ns :: ds) ρ') r h2 h
    exact ⟨H1, ρ1, .scr ns :: ds, s1, r1, .cons h1 q1, k1⟩
  | _, .slot i :: xs, H0, ρ, k, r, .cons h1 h2, h => by
    have hi : σ[i]? = some (some _) := h1
    unfold argK at h
    cases q : ρ i with
    | none => rw [q] at h; exact h.elim
    | some y =>
      rw [q] at h
      cases y with
      | own ds =>
        obtain ⟨v, z1, z2⟩ := r.sl i _ q
        rw [hi] at z1; cases z1
        obtain ⟨p, rfl, hp⟩ := z2
        obtain ⟨H1, s1, r1⟩ := r.freezeS q
        obtain ⟨v', z3, z4⟩ := r1.sl i (.d (.list ds)) upE_same
        rw [hi] at z3; cases z3
        obtain ⟨H2, ρ2, es, s2, r2, q2, k2⟩ := RS.arg (k := fun es ρ' => k (.d (.list ds) :: es) ρ') r1 (RelNs.mono s1 h2) h
        exact ⟨H2, ρ2, .d (.list ds) :: es, s1.trans s2, r2, .cons (Dq.mono s2 z4) q2, k2⟩
      | d d =>
        obtain ⟨v, z1, z2⟩ := r.sl i _ q
        rw [hi] at z1; cases z1
        obtain ⟨H2, ρ2, es, s2, r2, q2, k2⟩ := RS.arg (k := fun es ρ' => k (.d d :: es) ρ') r h2 h
        exact ⟨H2, ρ2, .d d :: es, s2, r2, .cons (Dq.mono s2 z2) q2, k2⟩
      | slot _ => exact h.elim
      | drw => exact h.elim
      | scr _ => exact h.elim
      | ob _ => exact h.elim
  | _, .own _ :: _, _, _, _, _, .cons h1 _, _ => h1.elim
  | _, .ob _ :: _, _, _, _, _, .cons h1 _, _ => h1.elim
theorem RS.left {K : PySem.W.Frag} {B : Base} {H0 Hr H H' : Hp} {g : Option Gs} {σ : St} {ρ : Env} {n n' : Nat} (r : RS K B H0 g σ ρ n H) (l : Left H0 Hr H H' g n') : RS K B Hr g σ ρ n' H' := by
  refine ⟨fun p o e => l.b p o (r.hb p o e), fun p o e => ?_, l.r, fun p o e z => l.keep p o (r.keep p o e z) fun q => ?_, l.drw, l.drf, r.gg, fun i x q => ?_, r.dist⟩
  · rcases l.new p o e with k | k
    · exact r.new p o k
    · exact .inr (r.fresh k).1
  · rcases r.gg with k | ⟨k, k2⟩
    · exact z (by rw [k]; exact q)
    · have := k2 p q
      rw [e] at this; cases this
  · obtain ⟨v, h1, h2⟩ := r.sl i x q
    refine ⟨v, h1, h2.keep l.b fun q' a e f => ?_⟩
    obtain ⟨w, hn⟩ := h2.foot e f
    refine ⟨fun u z => l.keep a u z w.ng, fun _ => ⟨?_, w.he, w.ng⟩⟩
    cases z : Hr a with
    | none => rfl
    | some o =>
      rcases l.new a o z with k | k
      · rw [w.h0] at k; cases k
      · exact absurd k hn
theorem RetR.r {K : PySem.W.Frag} {B : Base} {H0 Hr H H' : Hp} {g : Option Gs} {σ : St} {ρ : Env} {n n' : Nat} {v : V} {x : X2} (h : RetR K Hr H H' g v x) (r : RS K B H0 g σ ρ n H) (l : Left H0 Hr H H' g n') : RelR K B Hr H' g σ ρ v x := by
  cases x with
  | d _ => exact h
  | own ds =>
    obtain ⟨p, vs, rfl, h1, h2, h3, h4, h5⟩ := h
    refine ⟨p, rfl, ⟨vs, h1, h2, h3, (r.fresh h4).1, h5⟩, fun i x q e z f => ?_⟩
    obtain ⟨v', q1, q2⟩ := r.sl i x e
    rw [z] at q1; cases q1
    exact (q2.foot rfl f).2 h4
  | slot _ => exact h.elim
  | drw => exact h.elim
  | scr _ => exact h.elim
  | ob o => cases o with
    | tt ds => exact h
    | dic _ => exact h.elim
    | rows _ _ => exact h.elim
    | ret _ _ _ => exact h.elim
    | «at» _ _ => exact h.elim
section
variable {ι : Type} {Φ : Fam ι} {W : WX} {m m1 m2 m3 : Nat}
def wCall (s : Spec2) (wa : WA) : W2 := fun e ρ k => wa e ρ fun xs ρ1 => argK ρ1 xs fun ys ρ2 => s ys (fun x => k x ρ2) fun nm => e nm ρ2
theorem je_call {f : Addr} {fd : FuncData} {ps : List Str} {j mf len : Nat} {s : Spec2} {x : Str} {a : Expr} {as : List Expr} {p pos : Pos} {wa : WA} (F : FnG Φ.P Φ.w Φ.K Φ.mg Φ.base CX0 j f fd ps (liftS Φ.K Φ.mg mf len s)) (hj : j ≤ Φ.k) (hm : Φ.mg x = some (.ref f)) (hk : PySem.W.keepIn Φ.K (.ref f) = true) (hb : Binds Φ.K fd ps []) (hs0 : ∀ xs k e, s xs k e → s xs k fun _ => False)
    (ha : JA Φ W m (a :: as) wa) (hlen : (a :: as).length = len) (hcm : Φ.cm = true) (hg : ∀ i, Gl (Φ.X i) x := by intro _; rfl) (hdb : (x == ("__debug__" : Str)) = false := by decide) (he : ∀ i, starEach (a :: as) (Φ.X i).env = (false, eval a (Φ.X i).env) :: starEach as (Φ.X i).env := by intro _; rfl) (hpl : ∀ i, (backTo pos (starEach as (Φ.X i).env)).any (·.1) = false := by intro _; rfl) : JE Φ W (m + mf) (.Call (.Name x p) (a :: as) [] pos) (wCall s wa) := by
  obtain ⟨ta, a1, a2⟩ := ha
  refine ⟨tCall (liftS Φ.K Φ.mg mf len s) [] E0 ta, fun i => ?_, ?_⟩
  · have F' : FnG (Φ.X i).prog (Φ.X i).w (Φ.X i).K (Φ.X i).mg (Φ.X i).base CX0 j f fd ps (liftS Φ.K Φ.mg mf len s) := by rw [Φ.hP i, Φ.hw i, Φ.hK i, Φ.hmg i, Φ.hbase i]; exact F
    exact pe_callG F' ((Φ.gd i).mono hj) ((Φ.room hcm i).mono hj) (hg i) (by rw [Φ.hmg i]; exact hm) (by rw [Φ.hK i]; exact hk) (by rw [Φ.hK i]; exact hb) .nil pass0 (a1 i) hdb (he i) (hpl i)
  · intro B H0 g σ ρ n H e k Q rs l hw q xq
    refine a2 B H0 g σ ρ n H e _ _ rs (by omega) hw (fun H1 ρ1 Ha vs xs s1 r1 h1 hl q1 => ?_) (fun H0' ρ' H' nm cls d s r' => xq H0' ρ' H' nm cls d s (r'.count (by omega)))
    obtain ⟨H2, ρ2, ys, s2, r2, h2, hq⟩ := r1.arg h1 q1
    refine ⟨by rw [List.append_nil]; exact hl.trans hlen, H2, g, n + m, ys, _, _, by omega, r2.ext, r2.drf, r2.drw, by rw [List.append_nil]; exact h2, hs0 _ _ _ hq, fun Hr H' v x lf hr hk => ?_, fun _ _ _ _ _ _ z _ => z.elim⟩
    exact q Hr ρ2 H' v x ((s1.trans s2).trans lf.b) ((r2.left lf).count (by omega)) (hr.r r2 lf) hk
structure Def2 (P : Program) (w : World) (K : PySem.W.Frag) (mg : MG) (base : Heap) (x : Str) (j : Nat) (ps : List Str) (mf len : Nat) (s : Spec2) : Prop where
  ex : ∃ (f : Addr) (fd : FuncData), FnG P w K mg base CX0 j f fd ps (liftS K mg mf len s) ∧ mg x = some (.ref f) ∧ PySem.W.keepIn K (.ref f) = true ∧ Binds K fd ps []
theorem je_callD {ps : List Str} {j mf len : Nat} {s : Spec2} {x : Str} {a : Expr} {as : List Expr} {p pos : Pos} {wa : WA} (D : Def2 Φ.P Φ.w Φ.K Φ.mg Φ.base x j ps mf len s) (hs0 : ∀ xs k e, s xs k e → s xs k fun _ => False) (ha : JA Φ W m (a :: as) wa) (hj : j ≤ Φ.k := by exact Nat.le_of_ble_eq_true rfl) (hcm : Φ.cm = true := by rfl)
    (hlen : (a :: as).length = len := by rfl) (hg : ∀ i, Gl (Φ.X i) x := by intro _; rfl) (hdb : (x == ("__debug__" : Str)) = false := by decide) (he : ∀ i, starEach (a :: as) (Φ.X i).env = (false, eval a (Φ.X i).env) :: starEach as (Φ.X i).env := by intro _; rfl) (hpl : ∀ i, (backTo pos (starEach as (Φ.X i).env)).any (·.1) = false := by intro _; rfl) : JE Φ W (m + mf) (.Call (.Name x p) (a :: as) [] pos) (wCall s wa) := by
  obtain ⟨f, fd, F, hm, hk, hb⟩ := D.ex
  exact je_call F hj hm hk hb hs0 ha hlen hcm hg hdb he hpl
end
structure At (K : PySem.W.Frag) (mg : MG) (x : Str) (st : Stmt) (ps : List Str) : Prop where
  ex : ∃ (f : Addr) (fd : FuncData), Fun K x x st f fd ∧ mg x = some (.ref f) ∧ Binds K fd ps []
end B2

namespace B2
open PySem L2 RZ
section

inductive Src where
  | l (a : Addr) (xs : List V)
  | t (a : Addr) (xs : List V)
  | s (x : Str)
def sgV (x : Str) : List V := x.cps.toList.map fun c => V.str ⟨#[c]⟩
namespace Src
def val : Src → V
  | .l a _ => .ref a
  | .t a _ => .ref a
  | .s x => .str x
def ok (K : PySem.W.Frag) (H : Hp) : Src → Prop
  | .l a xs => SqL K H a xs
  | .t a xs => SqT K H a xs
  | .s _ => True
def items : Src → List V
  | .l _ xs => xs
  | .t _ xs => xs
  | .s x => sgV x
def it (h : Heap) (I : Addr) (i : Nat) : Src → Prop
  | .l a _ => h.IsListIter I a i
  | .t a _ => h.IsTupleIter I a i
  | .s x => ∃ t, h.IsStrIter I (strIterType x) x t i
def more : Src → List Addr
  | .l a _ => [a]
  | .t a _ => [a]
  | .s _ => []
end Src
theorem Src.obj {S : Src} {h : Heap} {I : Addr} {i : Nat} (x : S.it h I i) : ∃ o, h.get? I = some o ∧ ∀ v, o.data ≠ .cell v := by
  cases S with
  | l a _ => obtain ⟨o, e, _, d⟩ := x; exact ⟨o, e, fun v q => by rw [d] at q; cases q⟩
  | t a _ => obtain ⟨o, e, _, d⟩ := x; exact ⟨o, e, fun v q => by rw [d] at q; cases q⟩
  | s z => obtain ⟨t, o, e, _, d⟩ := x; exact ⟨o, e, fun v q => by rw [d] at q; cases q⟩
theorem Src.keep {S : Src} {h h' : Heap} {I : Addr} {i : Nat} (x : S.it h I i) (k : ∀ o, h.get? I = some o → h'.get? I = some o) : S.it h' I i := by
  cases S with
  | l a _ => obtain ⟨o, e, r⟩ := x; exact ⟨o, k o e, r⟩
  | t a _ => obtain ⟨o, e, r⟩ := x; exact ⟨o, k o e, r⟩
  | s z => obtain ⟨t, o, e, r⟩ := x; exact ⟨t, o, k o e, r⟩
section
variable {X : Cx} {pins : List (Addr × Obj)} {σ : St} {H : Hp} {s : Shared}
end
end
def LenOk (K : PySem.W.Frag) (H : Hp) : Prop := (∀ a xs, SqL K H a xs → xs.length ≤ 16777216) ∧ ∀ a xs, SqT K H a xs → xs.length ≤ 16777216
theorem Inv.lenOk {X : Cx} {pins : List (Addr × Obj)} {σ : St} {H : Hp} {s : Shared} (I : Inv X pins σ H s) : LenOk X.K H :=
  ⟨fun a xs h => by obtain ⟨_, _, _, z⟩ := I.list h; rw [sizeLine_eq] at z; exact z, fun a xs h => by obtain ⟨_, _, _, z⟩ := I.tuple h; rw [sizeLine_eq] at z; exact z⟩
structure Wk (K : PySem.W.Frag) (H0 : Hp) (J : It) (ds : List PyData) : Prop where
  goes : ∀ i H', i < ds.length → Same H0 H' → J.go i H'
  stops : ∀ H', Same H0 H' → J.stop ds.length H'
  yields : ∀ i H1 x H2, i < ds.length → Same H0 H1 → J.yld i H1 x H2 → ∃ d, ds[i]? = some d ∧ ((H2 = H1 ∧ Dq K H0 x d) ∨ ∃ T vs es, x = .ref T ∧ H1 T = none ∧ H2 = upd H1 T (.tup vs) ∧ d = .tuple es ∧ DqA K H0 vs es)
abbrev WI := Xn → Env → (List PyData → Env → Prop) → Prop
def SimI (K : PySem.W.Frag) (mg : MG) (W : WX) (m : Nat) (wi : TI) (w : WI) : Prop := ∀ (B : Base) (H0 : Hp) (g : Option Gs) (σ : St) (ρ : Env) (n : Nat) (H : Hp) (e : Xn) (k : List PyData → Env → Prop) (R : It → Hp → Prop), RS K B H0 g σ ρ n H → n + m ≤ LIM → w e ρ k →
  (∀ H0' ρ' H' J ds, Same H0 H0' → RS K B H0' g σ ρ' (n + m) H' → Wk K H0' J ds → ds.length ≤ 2 ^ 62 → k ds ρ' → R J H') →
  (∀ H0' ρ' H' nm cls d, Same H0 H0' → RS K B H0' g σ ρ' (n + m) H' → e nm ρ' → Exn mg nm cls d → W cls d σ H') → wi σ H R
def iLen (K : PySem.W.Frag) (wi : TI) : TI := fun σ H R => wi σ H fun J H1 => LenOk K H1 → R J H1
theorem pi_len {X : Cx} {tg iter : Expr} {wi : TI} (h : PI X tg iter wi) : PI X tg iter (iLen X.K wi) := by
  refine ⟨fun pins s σ H R I hw => ?_⟩
  refine thn (h.run pins s σ H _ I hw) fun v s1 h1 => thn h1 fun itv s2 h2 => ?_
  obtain ⟨it, fp, tn, J, H', e, I', T, t0, f, q⟩ := h2
  exact ⟨it, fp, tn, J, H', e, I', T, t0, f, q (Inv.lenOk I')⟩
def JI {ι : Type} (Φ : Fam ι) (W : WX) (m : Nat) (tg iter : Expr) (w : WI) : Prop := ∃ wi, (∀ i, PI (Φ.X i) tg iter wi) ∧ SimI Φ.K Φ.mg W m wi w
def iSeq (K : PySem.W.Frag) (tl : TE) : TI := fun σ H R => tl σ H fun x H1 => (∃ a, x = .ref a ∧ (∃ xs, SqL K H1 a xs) ∧ R (Itl K a) H1) ∨ (∃ a, x = .ref a ∧ (∃ xs, SqT K H1 a xs) ∧ R (Itt K a) H1) ∨ ∃ z, x = .str z ∧ R (Its z) H1
theorem pi_seq {X : Cx} {tg l : Expr} {tl : TE} (hl : PE X l tl) : PI X tg l (iSeq X.K tl) := by
  refine ⟨fun pins s σ H R I h => ?_⟩
  refine thn (hl.run pins s σ H _ I h) fun v s1 ⟨x, H1, I1, r1, q1⟩ => ?_
  rcases q1 with ⟨a, e, ⟨xs, hq⟩, q⟩ | ⟨a, e, ⟨xs, hq⟩, q⟩ | ⟨z, e, q⟩
  · subst e
    cases r1
    obtain ⟨its, rv, p, hz⟩ := I1.list hq
    refine wpAny_pyIter_list p.isList ?_
    refine ⟨s1.heap.objs.size, [s1.heap.objs.size], _, _, H1, rfl, I1.kept (t' := s1.toks) fun b o e => Heap.get?_push_of_some _ e, turn_list a _, ⟨_, Heap.get?_push_size _ rfl, rfl, rfl⟩, fun b hb => ?_, q⟩
    have e : b = s1.heap.objs.size := by simpa using hb
    subst e
    exact I1.fpOk (Nat.le_refl _) (I1.hok.fresh (Nat.le_refl _))
  · subst e
    cases r1
    obtain ⟨its, rv, p, hz⟩ := I1.tuple hq
    refine wpAny_pyIter_tuple (show s1.heap.IsTuple a its.toArray from p) ?_
    refine ⟨s1.heap.objs.size, [s1.heap.objs.size], _, _, H1, rfl, I1.kept (t' := s1.toks) fun b o e => Heap.get?_push_of_some _ e, turn_tuple a _, ⟨_, Heap.get?_push_size _ rfl, rfl, rfl⟩, fun b hb => ?_, q⟩
    have e : b = s1.heap.objs.size := by simpa using hb
    subst e
    exact I1.fpOk (Nat.le_refl _) (I1.hok.fresh (Nat.le_refl _))
  · subst e
    obtain ⟨t, rfl⟩ := r1
    cases ha : z.cps.all (· < 128)
    · exact wpAny_pyIter_wide ha (pi_one (tk := s1.toks) I1 _ (turn_str _ z t "str_iterator" (.inr rfl)) ⟨_, Heap.get?_push_size _ rfl, rfl, rfl⟩ q)
    · exact wpAny_pyIter_ascii ha (pi_one (tk := s1.toks) I1 _ (turn_str _ z t "str_ascii_iterator" (.inl rfl)) ⟨_, Heap.get?_push_size _ rfl, rfl, rfl⟩ q)
section
variable {K : PySem.W.Frag} {H0 : Hp}
theorem wk_list {a : Addr} {vs : List V} {ds : List PyData} (h : H0 a = some (.lst vs)) (q : DqA K H0 vs ds) : Wk K H0 (Itl K a) ds := by
  have sq : ∀ H', Same H0 H' → SqL K H' a vs := fun H' e => SqL.of (e _ _ h)
  refine ⟨fun i H' hi e => ⟨vs, vs[i]'(by rw [q.length]; exact hi), sq H' e, by simp [q.length, hi]⟩, fun H' e => ⟨vs, sq H' e, by rw [q.length]; exact Nat.le_refl _⟩, fun i H1 x H2 hi e y => ?_⟩
  obtain ⟨e2, y2⟩ := y
  obtain ⟨d, h1, h2⟩ := q.get' (y2 vs (sq H1 e))
  exact ⟨d, h1, .inl ⟨e2, h2⟩⟩
theorem wk_tup {a : Addr} {vs : List V} {ds : List PyData} (h : SqT K H0 a vs) (q : DqA K H0 vs ds) : Wk K H0 (Itt K a) ds := by
  have sq : ∀ H', Same H0 H' → SqT K H' a vs := fun H' e => Same.sqt e h
  refine ⟨fun i H' hi e => ⟨vs, vs[i]'(by rw [q.length]; exact hi), sq H' e, by simp [q.length, hi]⟩, fun H' e => ⟨vs, sq H' e, by rw [q.length]; exact Nat.le_refl _⟩, fun i H1 x H2 hi e y => ?_⟩
  obtain ⟨e2, y2⟩ := y
  obtain ⟨d, h1, h2⟩ := q.get' (y2 vs (sq H1 e))
  exact ⟨d, h1, .inl ⟨e2, h2⟩⟩
def signs (z : Str) : List PyData := z.cps.toList.map fun c => .str ⟨#[c]⟩
theorem wk_str {z : Str} : Wk K H0 (Its z) (signs z) := by
  have hl : (signs z).length = z.cps.size := by unfold signs; rw [List.length_map, Array.length_toList]
  refine ⟨fun i H' hi _ => by rw [hl] at hi; exact hi, fun H' _ => by rw [hl]; exact Nat.le_refl _, fun i H1 x H2 hi _ y => ?_⟩
  obtain ⟨e, c, hc, rfl⟩ := y
  refine ⟨.str ⟨#[c]⟩, ?_, .inl ⟨e, .str _⟩⟩
  unfold signs
  rw [List.getElem?_map, Array.getElem?_toList, hc]
  rfl
def span (lo : Int) (n : Nat) : List PyData := (List.range n).map fun i => .int (lo + (i : Nat))
theorem wk_range {lo : Int} {n : Nat} : Wk K H0 (Itr lo n) (span lo n) := by
  have hl : (span lo n).length = n := by unfold span; rw [List.length_map, List.length_range]
  refine ⟨fun i H' hi _ => by rw [hl] at hi; exact hi, fun H' _ => by rw [hl]; exact Nat.le_refl _, fun i H1 x H2 hi _ y => ?_⟩
  obtain ⟨e, rfl⟩ := y
  rw [hl] at hi
  refine ⟨.int (lo + (i : Nat)), ?_, .inl ⟨e, .int _⟩⟩
  unfold span
  rw [List.getElem?_map, List.getElem?_range hi]
  rfl
end
section
variable {ι : Type} {Φ : Fam ι} {W : WX} {m m1 m2 m3 : Nat}
def wSeqI (wa : W2) : WI := fun e ρ k => wa e ρ fun x ρ1 => frzK ρ1 [calm1 x] fun ds ρ2 => match ds with
  | [.list ds] => k ds ρ2
  | [.tuple ds] => k ds ρ2
  | [.str z] => z.length ≤ 16777216 ∧ k (signs z) ρ2
  | _ => False
theorem ji_seq {tg a : Expr} {wa : W2} (ha : JE Φ W m a wa) : JI Φ W m tg a (wSeqI wa) := by
  obtain ⟨ta, a1, a2⟩ := ha
  refine ⟨iLen Φ.K (iSeq Φ.K ta), fun i => by have := pi_len (pi_seq (tg := tg) (a1 i)); rw [Φ.hK i] at this; exact this, ?_⟩
  intro B H0 g σ ρ n H e k R rs l hw q xq
  refine a2 B H0 g σ ρ n H e _ _ rs l hw (fun H1 ρ1 Ha v1 x1 s1 r1 h1 q1 => ?_) xq
  obtain ⟨H2, s2, r2, h2⟩ := r1.calm h1
  obtain ⟨H3, ρ3, ds, s3, r3, d3, hk⟩ := r2.frz (vs := [v1]) (xs := [calm1 x1]) (.cons h2 .nil) q1
  have st := (s1.trans s2).trans s3
  split at hk
  · rename_i ds
    cases d3 with
    | cons d3 _ =>
      cases d3 with
      | @lst a vs ds h q2 =>
        exact .inl ⟨a, rfl, ⟨vs, SqL.of (r3.ext _ _ h)⟩, fun lo => q H3 ρ3 Ha _ ds st r3 (wk_list h q2) (by have := lo.1 a vs (SqL.of (r3.ext _ _ h)); rw [q2.length] at this; omega) hk⟩
  · rename_i ds
    cases d3 with
    | cons d3 _ =>
      cases d3 with
      | @tup a vs ds h q2 =>
        exact .inr (.inl ⟨a, rfl, ⟨vs, Same.sqt r3.ext h⟩, fun lo => q H3 ρ3 Ha _ ds st r3 (wk_tup h q2) (by have := lo.2 a vs (Same.sqt r3.ext h); rw [q2.length] at this; omega) hk⟩)
  · rename_i z
    cases d3 with
    | cons d3 _ =>
      cases d3
      exact .inr (.inr ⟨z, rfl, fun lo => q H3 ρ3 Ha _ _ st r3 wk_str (by unfold signs; rw [List.length_map, Array.length_toList]; have := hk.1; unfold PySem.Str.length at this; omega) hk.2⟩)
  · exact hk.elim
def wRange (wa : WA) : WI := fun e ρ k => wa e ρ fun xs ρ1 => rdsK ρ1 xs fun ds => match ds with
  | [.int j] => (-(2 ^ 62) ≤ j ∧ j < 2 ^ 62) ∧ k (span 0 j.toNat) ρ1
  | [.int i, .int j] => (-(2 ^ 61) ≤ i ∧ i < 2 ^ 61 ∧ -(2 ^ 61) ≤ j ∧ j < 2 ^ 61) ∧ k (span i (j - i).toNat) ρ1
  | _ => False
theorem span_len {lo : Int} {n : Nat} : (span lo n).length = n := by unfold span; rw [List.length_map, List.length_range]
theorem ji_range1 {tg a : Expr} {p pos : Pos} {wa : WA} (hm : Φ.mg "range" = none) (ha : JA Φ W m [a] wa) (hg : ∀ i, Gl (Φ.X i) "range" := by intro _; rfl) (hs : ∀ i, starEach [a] (Φ.X i).env = [(false, eval a (Φ.X i).env)] := by intro _; rfl) : JI Φ W m tg (.Call (.Name "range" p) [a] [] pos) (wRange wa) := by
  obtain ⟨ta, a1, a2⟩ := ha
  refine ⟨iRng1 ta, fun i => pi_range1 (hg i) (by rw [Φ.hmg i]; exact hm) (a1 i) (hs i), ?_⟩
  intro B H0 g σ ρ n H e k R rs l hw q xq
  refine a2 B H0 g σ ρ n H e _ _ rs l hw (fun H1 ρ1 Ha vs xs s1 r1 h1 hl q1 => ?_) xq
  obtain ⟨ds, e1, hk⟩ := rdsK_of q1
  split at hk
  · rename_i j
    cases e1 with
    | cons e1 e2 => cases e2; cases h1 with
      | cons b1 b2 => cases b2; rw [r1.int b1.r e1]; exact ⟨j, rfl, hk.1.1, hk.1.2, q H1 ρ1 Ha _ _ s1 r1 wk_range (by rw [span_len]; omega) hk.2⟩
  · have := Paired.length e1
    have := Paired.length h1
    simp at *
    try omega
  · exact hk.elim
end
end B2

namespace B2
open PySem L2
structure Ends2 where
  nx : Env → Prop
  rt : X2 → Prop
  bk : Env → Prop := fun _ => False
  ct : Env → Prop := fun _ => False
  ex : Xn := fun _ _ => False
abbrev WS := Ends2 → Env → Prop
def Sub (g' g : Option Gs) : Prop := g' = g ∨ g = none
structure Fits (K : PySem.W.Frag) (mg : MG) (W : WX) (B : Base) (H0 : Hp) (g : Option Gs) (n : Nat) (D2 : Ends2) (D : Ends) : Prop where
  nx : ∀ H0' g' σ' ρ' H', Same H0 H0' → Sub g' g → RS K B H0' g' σ' ρ' n H' → D2.nx ρ' → D.nx σ' H'
  rt : ∀ H0' g' σ' ρ' H' v x, Same H0 H0' → Sub g' g → RS K B H0' g' σ' ρ' n H' → RelR K B H0' H' g' σ' ρ' v x → (∀ i, x ≠ .slot i) → D2.rt x → D.rt v H'
  bk : ∀ H0' g' σ' ρ' H', Same H0 H0' → Sub g' g → RS K B H0' g' σ' ρ' n H' → D2.bk ρ' → D.bk σ' H'
  ct : ∀ H0' g' σ' ρ' H', Same H0 H0' → Sub g' g → RS K B H0' g' σ' ρ' n H' → D2.ct ρ' → D.ct σ' H'
  ex : ∀ H0' g' σ' ρ' H' nm cls d, Same H0 H0' → Sub g' g → RS K B H0' g' σ' ρ' n H' → D2.ex nm ρ' → Exn mg nm cls d → W cls d σ' H'
def SimS (K : PySem.W.Frag) (mg : MG) (W : WX) (m : Nat) (t : TS) (w : WS) : Prop := ∀ (B : Base) (H0 : Hp) (g : Option Gs) (σ : St) (ρ : Env) (n : Nat) (H : Hp) (D2 : Ends2) (D : Ends), RS K B H0 g σ ρ n H → n + m ≤ LIM → w D2 ρ → Fits K mg W B H0 g (n + m) D2 D → t D σ H
theorem Sub.refl (g : Option Gs) : Sub g g := .inl rfl
theorem Sub.trans {a b c : Option Gs} (h : Sub a b) (h' : Sub b c) : Sub a c := by
  rcases h with h | h
  · rw [h]; exact h'
  · rcases h' with h' | h'
    · exact .inr (h' ▸ h)
    · exact .inr h'
theorem Fits.mono {K : PySem.W.Frag} {mg : MG} {W : WX} {B : Base} {H0 H1 : Hp} {g g' : Option Gs} {n n' : Nat} {D2 : Ends2} {D : Ends} (f : Fits K mg W B H0 g n D2 D) (s : Same H0 H1) (l : n' ≤ n) (hg : Sub g' g) : Fits K mg W B H1 g' n' D2 D :=
  ⟨fun H0' g2 σ' ρ' H' s' z r => f.nx H0' g2 σ' ρ' H' (s.trans s') (z.trans hg) (r.count l), fun H0' g2 σ' ρ' H' v x s' z r => f.rt H0' g2 σ' ρ' H' v x (s.trans s') (z.trans hg) (r.count l), fun H0' g2 σ' ρ' H' s' z r => f.bk H0' g2 σ' ρ' H' (s.trans s') (z.trans hg) (r.count l),
   fun H0' g2 σ' ρ' H' s' z r => f.ct H0' g2 σ' ρ' H' (s.trans s') (z.trans hg) (r.count l), fun H0' g2 σ' ρ' H' nm cls d s' z r => f.ex H0' g2 σ' ρ' H' nm cls d (s.trans s') (z.trans hg) (r.count l)⟩
theorem Fits.x {K : PySem.W.Frag} {mg : MG} {W : WX} {B : Base} {H0 : Hp} {g : Option Gs} {n n' : Nat} {D2 : Ends2} {D : Ends} {σ : St} (f : Fits K mg W B H0 g n D2 D) (l : n' ≤ n) :
    ∀ H0' ρ' H' nm cls d, Same H0 H0' → RS K B H0' g σ ρ' n' H' → D2.ex nm ρ' → Exn mg nm cls d → W cls d σ H' := fun H0' ρ' H' nm cls d s r => f.ex H0' g σ ρ' H' nm cls d s (Sub.refl g) (r.count l)
section
variable {ι : Type} (Φ : Fam ι) (W : WX) (m : Nat)
def JS (st : Stmt) (w : WS) : Prop := ∃ t, (∀ i, PS (Φ.X i) st t) ∧ SimS Φ.K Φ.mg W m t w
def JSs (st : List Stmt) (w : WS) : Prop := ∃ t, (∀ i, PSs (Φ.X i) st t) ∧ SimS Φ.K Φ.mg W m t w
end
def sLen (L : Nat) (t : TS) : TS := fun D σ H => σ.length = L → t D σ H
theorem ps_len {X : Cx} {st : Stmt} {t : TS} {N : List Str} (hN : X.N = N) (h : PS X st t) : PS X st (sLen N.length t) := ⟨fun pins s σ H D I hw => h.run pins s σ H D I (hw (by rw [I.len, hN]))⟩
section
variable {ι : Type} {Φ : Fam ι} {W : WX} {m m1 m2 m3 : Nat}
def wNext : WS := fun D ρ => D.nx ρ
def wSeq (a b : WS) : WS := fun D ρ => a { D with nx := fun ρ' => b D ρ' } ρ
theorem jss_nil : JSs Φ W 0 [] wNext := ⟨_, fun _ => pss_nil, fun B H0 g σ ρ n H D2 D r l h f => f.nx H0 g σ ρ H (Same.refl _) (Sub.refl g) r h⟩
theorem sim_seq {K : PySem.W.Frag} {mg : MG} {t u : TS} {a b : WS} (h1 : SimS K mg W m1 t a) (h2 : SimS K mg W m2 u b) : SimS K mg W (m1 + m2) (tSeq t u) (wSeq a b) := by
  intro B H0 g σ ρ n H D2 D r l h f
  refine h1 B H0 g σ ρ n H { D2 with nx := fun ρ' => b D2 ρ' } { D with nx := u D } r (by omega) h ?_
  have f1 := f.mono (Same.refl H0) (show n + m1 ≤ n + (m1 + m2) by omega) (Sub.refl g)
  refine ⟨fun H0' g' σ' ρ' H' s z r' q => ?_, f1.rt, f1.bk, f1.ct, f1.ex⟩
  exact h2 B H0' g' σ' ρ' _ H' D2 D r' (by omega) q (f.mono s (by omega) z)
theorem jss_cons {s : Stmt} {r : List Stmt} {a b : WS} (h1 : JS Φ W m1 s a) (h2 : JSs Φ W m2 r b) : JSs Φ W (m1 + m2) (s :: r) (wSeq a b) :=
  let ⟨_, a1, a2⟩ := h1; let ⟨_, b1, b2⟩ := h2; ⟨_, fun i => pss_cons (a1 i) (b1 i), sim_seq a2 b2⟩
theorem jss_one {s : Stmt} {a : WS} (h1 : JS Φ W m s a) : JSs Φ W m [s] a := let ⟨t, a1, a2⟩ := h1; ⟨t, fun i => pss_one (a1 i), a2⟩
theorem SimS.cost {K : PySem.W.Frag} {mg : MG} {t : TS} {w : WS} (h : SimS K mg W m t w) (l : m ≤ m1) : SimS K mg W m1 t w := fun B H0 g σ ρ n H D2 D r l1 hw f => h B H0 g σ ρ n H D2 D r (by omega) hw (f.mono (Same.refl _) (by omega) (Sub.refl g))
theorem JSs.cost {s : List Stmt} {a : WS} (h1 : JSs Φ W m s a) (l : m ≤ m1) : JSs Φ W m1 s a := let ⟨t, a1, a2⟩ := h1; ⟨t, a1, a2.cost l⟩
def wDrop (a : W2) : WS := fun D ρ => a D.ex ρ fun _ ρ1 => D.nx ρ1
theorem js_expr {a : Expr} {pos : Pos} {wa : W2} (ha : JE Φ W m a wa) (hs : ∀ i, swapsWith a none pos.line (Φ.X i).env = pure false := by intro _; rfl) : JS Φ W m (.Expr a pos) (wDrop wa) := by
  obtain ⟨ta, a1, a2⟩ := ha
  refine ⟨_, fun i => ps_expr (a1 i) (hs i), ?_⟩
  intro B H0 g σ ρ n H D2 D r l h f
  exact a2 B H0 g σ ρ n H _ _ _ r l h (fun H1 ρ1 Ha v x s1 r1 h1 q1 => f.nx H1 g σ ρ1 Ha s1 (Sub.refl g) r1 q1) (f.x (Nat.le_refl _))
def retK (ρ : Env) (x : X2) (k : X2 → Prop) : Prop := match x with
  | .slot i => match ρ i with
    | some (.own ds) => k (.own ds)
    | some (.d d) => k (.d d)
    | _ => False
  | x => k x
def wRet (a : W2) : WS := fun D ρ => a D.ex ρ fun x ρ1 => retK ρ1 x D.rt
theorem js_ret {a : Expr} {pos : Pos} {wa : W2} (ha : JE Φ W m a wa) : JS Φ W m (.Return (some a) pos) (wRet wa) := by
  obtain ⟨ta, a1, a2⟩ := ha
  refine ⟨_, fun i => ps_ret (a1 i), ?_⟩
  intro B H0 g σ ρ n H D2 D r l h f
  refine a2 B H0 g σ ρ n H _ _ _ r l h (fun H1 ρ1 Ha v x s1 r1 h1 q1 => ?_) (f.x (Nat.le_refl _))
  unfold retK at q1
  split at q1
  · rename_i i
    have hi : σ[i]? = some (some v) := h1
    split at q1
    · rename_i ds h0
      obtain ⟨v', z1, p, rfl, z2⟩ := r1.sl i _ h0
      rw [hi] at z1; cases z1
      have r2 : RS Φ.K B H1 g σ (upE ρ1 i none) (n + m) Ha := r1.weak fun j y q => by
        by_cases hj : j = i
        · rw [hj, upE_same] at q; cases q
        · rw [upE_ne hj] at q; exact ⟨q, rfl⟩
      refine f.rt H1 g σ (upE ρ1 i none) Ha _ (.own ds) s1 (Sub.refl g) r2 ⟨p, rfl, z2, fun j y q e z fy => ?_⟩ (fun _ z => nomatch z) q1
      by_cases hj : j = i
      · rw [hj, upE_same] at e; cases e
      · rw [upE_ne hj] at e
        exact hj (r1.dist j i q p p y _ e h0 z hi fy rfl)
    · rename_i d h0
      obtain ⟨v', z1, z2⟩ := r1.sl i _ h0
      rw [hi] at z1; cases z1
      exact f.rt H1 g σ ρ1 Ha _ (.d d) s1 (Sub.refl g) r1 z2 (fun _ z => nomatch z) q1
    · exact q1.elim
  · rename_i hx
    exact f.rt H1 g σ ρ1 Ha _ x s1 (Sub.refl g) r1 h1 (fun i z => hx i z) q1
def wIf (c : WT) (a b : WS) : WS := fun D ρ => c D.ex ρ fun t ρ1 => if t = true then a D ρ1 else b D ρ1
theorem js_if {c : Expr} {a b : List Stmt} {pos : Pos} {wc : WT} {wa wb : WS} (hc : JT Φ W m1 c wc) (ha : JSs Φ W m2 a wa) (hb : JSs Φ W m3 b wb) : JS Φ W (m1 + (m2 + m3)) (.If c a b pos) (wIf wc wa wb) := by
  obtain ⟨tc, c1, c2⟩ := hc
  obtain ⟨ta, a1, a2⟩ := ha
  obtain ⟨tb, b1, b2⟩ := hb
  refine ⟨_, fun i => ps_if (c1 i) (a1 i) (b1 i), ?_⟩
  intro B H0 g σ ρ n H D2 D r l h f
  refine c2 B H0 g σ ρ n H _ _ _ r (by omega) h (fun H1 ρ1 Ha t s1 r1 q1 => ?_) (f.x (by omega))
  cases t with
  | true =>
    rw [if_pos rfl] at q1 ⊢
    exact a2 B H1 g σ ρ1 _ Ha D2 D r1 (by omega) q1 (f.mono s1 (by omega) (Sub.refl g))
  | false =>
    rw [if_neg Bool.false_ne_true] at q1 ⊢
    exact b2 B H1 g σ ρ1 _ Ha D2 D r1 (by omega) q1 (f.mono s1 (by omega) (Sub.refl g))
abbrev WG := PyData → Env → (Env → Prop) → Prop
def SimG (K : PySem.W.Frag) (own : List Nat) (t : TG) (w : WG) : Prop := ∀ (B : Base) (H0 : Hp) (g : Option Gs) (σ : St) (ρ : Env) (n : Nat) (H : Hp) (v : V) (d : PyData) (k : Env → Prop) (Q : St → Hp → Prop), RS K B H0 g σ ρ n H → Dq K H0 v d → w d ρ k →
  (∀ σ' ρ', σ'.length = σ.length → (∀ i, i ∉ own → σ'[i]? = σ[i]? ∧ ρ' i = ρ i) → RS K B H0 g σ' ρ' n H → k ρ' → Q σ' H) → t v σ H Q
def JG (Φ : Fam ι) (own : List Nat) (e : Expr) (w : WG) : Prop := ∃ t, (∀ i, PG (Φ.X i) e t) ∧ SimG Φ.K own t w
def gN (i : Nat) : WG := fun d ρ k => k (upE ρ i (some (.d d)))
def gLen (L : Nat) (t : TG) : TG := fun v σ H Q => σ.length = L → t v σ H Q
theorem pg_len {X : Cx} {e : Expr} {t : TG} {N : List Str} (hN : X.N = N) (h : PG X e t) : PG X e (gLen N.length t) := ⟨fun pins s σ H v u Q I r hw => h.run pins s σ H v u Q I r (hw (by rw [I.len, hN]))⟩
theorem simG_name {K : PySem.W.Frag} {L : Nat} {i : Nat} (hi : i < L) : SimG K [i] (gLen L (gName i)) (gN i) := by
  intro B H0 g σ ρ n H v d k Q r h hw q hl
  exact q _ _ (by rw [List.length_set]) (fun j hj => ⟨by rw [List.getElem?_set_ne (fun z => hj (by simp [z]))], upE_ne (fun z => hj (by simp [z]))⟩) (r.set (x := .d d) (by omega) h (fun _ z => nomatch z)) hw
theorem jg_name (i : Nat) {x : Str} {pos : Pos} (hi : Φ.N[i]? = some x := by rfl) (hx : Loc Φ.sc x := by first | exact Or.inl rfl | exact Or.inr rfl) (hf : ∀ j, (Φ.X j).fn x = true ∨ Φ.sc.names.lookup x = some .local := by intro _; first | exact .inl rfl | exact .inr rfl) : JG Φ [i] (.Name x pos) (gN i) :=
  ⟨_, fun j => pg_len (Φ.hN j) (pg_name (by rw [Φ.hN j]; exact Φ.nd) (by rw [Φ.hN j]; exact hi) (by rw [Φ.hsc j]; exact hx) (by rw [Φ.hsc j]; exact hf j)), simG_name (List.getElem?_eq_some_iff.mp hi).1⟩
abbrev WGs := List PyData → Env → (Env → Prop) → Prop
def SimGs (K : PySem.W.Frag) (own : List Nat) (t : TGs) (w : WGs) : Prop := ∀ (B : Base) (H0 : Hp) (g : Option Gs) (σ : St) (ρ : Env) (n : Nat) (H : Hp) (vs : List V) (ds : List PyData) (k : Env → Prop) (Q : St → Hp → Prop), RS K B H0 g σ ρ n H → DqA K H0 vs ds → w ds ρ k →
  (∀ σ' ρ', σ'.length = σ.length → (∀ i, i ∉ own → σ'[i]? = σ[i]? ∧ ρ' i = ρ i) → RS K B H0 g σ' ρ' n H → k ρ' → Q σ' H) → t vs σ H Q
def JGs (Φ : Fam ι) (own : List Nat) (es : List Expr) (w : WGs) : Prop := ∃ t, (∀ i, PGs (Φ.X i) es t) ∧ SimGs Φ.K own t w
def gNil2 : WGs := fun ds ρ k => match ds with
  | [] => k ρ
  | _ => False
def gCons2 (a : WG) (b : WGs) : WGs := fun ds ρ k => match ds with
  | d :: ds => a d ρ fun ρ' => b ds ρ' k
  | [] => False
theorem jgs_nil : JGs Φ [] [] gNil2 := by
  refine ⟨_, fun _ => pgs_nil, ?_⟩
  intro B H0 g σ ρ n H vs ds k Q r h hw q
  cases h with
  | nil => exact ⟨rfl, q σ ρ rfl (fun _ _ => ⟨rfl, rfl⟩) r hw⟩
  | cons _ _ => exact hw.elim
theorem jgs_cons {own1 own2 : List Nat} {e : Expr} {es : List Expr} {a : WG} {b : WGs} (ha : JG Φ own1 e a) (hb : JGs Φ own2 es b) (hs : ∀ i, (assignEach (e :: es) (Φ.X i).env).map (·.2) = assign e (Φ.X i).env :: (assignEach es (Φ.X i).env).map (·.2) := by intro _; rfl) : JGs Φ (own1 ++ own2) (e :: es) (gCons2 a b) := by
  obtain ⟨ta, a1, a2⟩ := ha
  obtain ⟨tb, b1, b2⟩ := hb
  refine ⟨_, fun i => pgs_cons (a1 i) (b1 i) (hs i), ?_⟩
  intro B H0 g σ ρ n H vs ds k Q r h hw q
  cases h with
  | nil => exact hw.elim
  | cons h1 h2 =>
    refine ⟨_, _, rfl, ?_⟩
    refine a2 B H0 g σ ρ n H _ _ _ _ r h1 hw fun σ' ρ' l' e' r' k' => ?_
    refine b2 B H0 g σ' ρ' n H _ _ k Q r' h2 k' fun σ2 ρ2 l2 e2 r2 k2 => ?_
    exact q σ2 ρ2 (l2.trans l') (fun i hi => by
      rw [List.mem_append, not_or] at hi
      exact ⟨(e2 i hi.2).1.trans (e' i hi.1).1, (e2 i hi.2).2.trans (e' i hi.1).2⟩) r2 k2
def gTup2 (n : Nat) (b : WGs) : WG := fun d ρ k => match d with
  | .tuple ds => ds.length = n ∧ b ds ρ k
  | _ => False
theorem jg_tup {own : List Nat} {es : List Expr} {x1 : Nat} {pos : Pos} {b : WGs} {n : Nat} (hb : JGs Φ own es b) (hn : ∀ i, (assignEach es (Φ.X i).env).length = n := by intro _; rfl) (hst : ∀ i, (assignEach es (Φ.X i).env).findIdx? (·.1) = none := by intro _; rfl) (hcm : Φ.cm = true := by rfl) : JG Φ own (.Tuple es x1 pos) (gTup2 n b) := by
  obtain ⟨tb, b1, b2⟩ := hb
  refine ⟨gTup Φ.K n tb, fun i => by have := pg_tup (k := x1) (pos := pos) (Φ.calm hcm i) (b1 i) (hn i) (hst i); rw [Φ.hK i] at this; exact this, ?_⟩
  intro B H0 g σ ρ nn H v d k Q r h hw q
  unfold gTup2 at hw
  split at hw
  · cases h with
    | tup h1 h2 => exact ⟨_, _, rfl, Same.sqt r.ext h1, by rw [h2.length]; exact hw.1, b2 B H0 g σ ρ nn H _ _ k Q r h2 hw.2 q⟩
  · exact hw.elim
def wAsg (i : Nat) (frz : Bool) (a : W2) : WS := fun D ρ => a D.ex ρ fun x ρ1 => match x with
  | .slot j => match ρ1 j with
    | some (.own ds) => D.nx (upE (upE ρ1 j none) i (some (if frz then .d (.list ds) else .own ds)))
    | some (.d d) => D.nx (upE ρ1 i (some (.d d)))
    | _ => False
  | .own ds => D.nx (upE ρ1 i (some (if frz then .d (.list ds) else .own ds)))
  | x => D.nx (upE ρ1 i (some x))
theorem RS.setF {K : PySem.W.Frag} {B : Base} {H0 H : Hp} {g : Option Gs} {σ : St} {ρ : Env} {n : Nat} {v : V} {ds : List PyData} (r : RS K B H0 g σ ρ n H) {j : Nat} (hj : j < σ.length) (frz : Bool) (h : RelR K B H0 H g σ ρ v (.own ds)) :
    ∃ H0', Same H0 H0' ∧ RS K B H0' g (σ.set j (some v)) (upE ρ j (some (if frz = true then .d (.list ds) else .own ds))) n H := by
  cases frz with
  | true =>
    obtain ⟨H1, s1, r1, h1⟩ := r.freezeR h
    exact ⟨H1, s1, r1.set (x := .d (.list ds)) hj h1 (fun _ z => nomatch z)⟩
  | false => exact ⟨H0, Same.refl _, r.set (x := .own ds) hj h (fun _ z => nomatch z)⟩
theorem sim_asg {K : PySem.W.Frag} {mg : MG} {t : TE} {w : W2} {i L : Nat} {frz : Bool} (hi : i < L) (a2 : SimE K mg W m t w) : SimS K mg W m (sLen L (tAsg t (gName i))) (wAsg i frz w) := by
  intro B H0 g σ ρ n H D2 D r l h f hl
  refine a2 B H0 g σ ρ n H _ _ _ r l h (fun H1 ρ1 Ha v x s1 r1 h1 q1 => ?_) (f.x (Nat.le_refl _))
  have hj : i < σ.length := by omega
  have plain : ∀ y, x = y → (∀ ds, y ≠ .own ds) → (∀ j, y ≠ .slot j) → D2.nx (upE ρ1 i (some y)) → D.nx (σ.set i (some v)) Ha := fun y e _ n2 q => by
    subst e
    exact f.nx H1 g _ _ Ha s1 (Sub.refl g) (r1.set hj h1 n2) q
  cases x with
  | slot j =>
    have hv : σ[j]? = some (some v) := h1
    cases e : ρ1 j with
    | none => simp only [e] at q1
    | some y =>
      cases y with
      | own ds =>
        simp only [e] at q1
        obtain ⟨v', z1, p, rfl, z2⟩ := r1.sl j _ e
        rw [hv] at z1; cases z1
        have r2 : RS K B H1 g σ (upE ρ1 j none) (n + m) Ha := r1.weak fun j' y q => by
          by_cases hj' : j' = j
          · rw [hj', upE_same] at q; cases q
          · rw [upE_ne hj'] at q; exact ⟨q, rfl⟩
        have h2 : RelR K B H1 Ha g σ (upE ρ1 j none) (.ref p) (.own ds) := ⟨p, rfl, z2, fun j' y q2 e' z fy => by
          by_cases hj' : j' = j
          · rw [hj', upE_same] at e'; cases e'
          · rw [upE_ne hj'] at e'
            exact hj' (r1.dist j' j q2 p p y _ e' e z hv fy rfl)⟩
        obtain ⟨H2, s2, r3⟩ := r2.setF hj frz h2
        exact f.nx H2 g _ _ Ha (s1.trans s2) (Sub.refl g) r3 q1
      | d d =>
        simp only [e] at q1
        obtain ⟨v', z1, z2⟩ := r1.sl j _ e
        rw [hv] at z1; cases z1
        exact f.nx H1 g _ _ Ha s1 (Sub.refl g) (r1.set (x := .d d) hj z2 (fun _ z => nomatch z)) q1
      | slot _ => simp only [e] at q1
      | drw => simp only [e] at q1
      | scr _ => simp only [e] at q1
      | ob _ => simp only [e] at q1
  | own ds =>
    obtain ⟨H2, s2, r3⟩ := r1.setF hj frz h1
    exact f.nx H2 g _ _ Ha (s1.trans s2) (Sub.refl g) r3 q1
  | d d => exact plain _ rfl (fun _ z => nomatch z) (fun _ z => nomatch z) q1
  | drw => exact plain _ rfl (fun _ z => nomatch z) (fun _ z => nomatch z) q1
  | scr ns => exact plain _ rfl (fun _ z => nomatch z) (fun _ z => nomatch z) q1
  | ob o => exact plain _ rfl (fun _ z => nomatch z) (fun _ z => nomatch z) q1
theorem js_asg (i : Nat) (frz : Bool) {x : Str} {a : Expr} {pos pos' : Pos} {wa : W2} (ha : JE Φ W m a wa) (hi : Φ.N[i]? = some x := by rfl) (hx : Loc Φ.sc x := by first | exact Or.inl rfl | exact Or.inr rfl) (hs : ∀ j, swapsWith a (some (.Name x pos')) pos.line (Φ.X j).env = pure false := by intro _; rfl) (hf : ∀ j, (Φ.X j).fn x = true ∨ Φ.sc.names.lookup x = some .local := by intro _; first | exact .inl rfl | exact .inr rfl) :
    JS Φ W m (.Assign [.Name x pos'] a pos) (wAsg i frz wa) := by
  obtain ⟨ta, a1, a2⟩ := ha
  exact ⟨_, fun j => ps_len (Φ.hN j) (ps_set (by rw [Φ.hN j]; exact Φ.nd) (by rw [Φ.hN j]; exact hi) (by rw [Φ.hsc j]; exact hx) (a1 j) (hs j) (by rw [Φ.hsc j]; exact hf j)), sim_asg (List.getElem?_eq_some_iff.mp hi).1 a2⟩
def wAsgT (gt : WG) (a : W2) : WS := fun D ρ => a D.ex ρ fun x ρ1 => match x with
  | .d d => gt d ρ1 D.nx
  | _ => False
theorem js_asgT {own : List Nat} {tg a : Expr} {pos : Pos} {wa : W2} {gt : WG} (ha : JE Φ W m a wa) (hg : JG Φ own tg gt) (hs : ∀ i, swapsWithSole [tg] a pos.line (Φ.X i).env = pure false := by intro _; rfl) (hw : ∀ i, swappedStores [tg] a (Φ.X i).env = pure none := by intro _; rfl)
    (h1 : ∀ i, (assignEach [tg] (Φ.X i).env).map (·.2) = [assign tg (Φ.X i).env] := by intro _; rfl) : JS Φ W m (.Assign [tg] a pos) (wAsgT gt wa) := by
  obtain ⟨ta, a1, a2⟩ := ha
  obtain ⟨tg, g1, g2⟩ := hg
  refine ⟨tAsg ta tg, fun i => ps_asg (a1 i) (g1 i) (hs i) (hw i) (h1 i), ?_⟩
  intro B H0 g σ ρ n H D2 D r l h f
  refine a2 B H0 g σ ρ n H _ _ _ r l h (fun H1 ρ1 Ha v x s1 r1 h1 q1 => ?_) (f.x (Nat.le_refl _))
  split at q1
  · exact g2 B H1 g σ ρ1 _ Ha v _ _ _ r1 h1 q1 fun σ' ρ' l' _ r' k' => f.nx H1 g σ' ρ' Ha s1 (Sub.refl g) r' k'
  · exact q1.elim
end
end B2

namespace B2
open PySem L2
section
variable {ι : Type} {Φ : Fam ι} {W : WX} {m m1 m2 m3 : Nat}
def wSetIx (s : Nat) (a ix : W2) : WS := fun D ρ => a D.ex ρ fun x ρ1 => frzK ρ1 [calm1 x] fun ds ρ2 => match ρ2 s with
  | some (.own _) => ix D.ex ρ2 fun y ρ3 => rdK ρ3 y fun j => match ds, j, ρ3 s with
    | [d], .int j, some (.own es) => match ixN es.length j with
      | some n => D.nx (upE ρ3 s (some (.own (es.set n d))))
      | none => False
    | _, _, _ => False
  | _ => False
theorem js_setIx (s : Nat) {x : Str} {a ix : Expr} {p tpos pos : Pos} {wa wi : W2} (ha : JE Φ W m1 a wa) (hix : JE Φ W m2 ix wi) (hN : Φ.N[s]? = some x := by rfl) (hv : Vis Φ.sc x := by first | exact Or.inl rfl | exact Or.inr (Or.inl rfl) | exact Or.inr (Or.inr rfl)) (hd : (x == ("__debug__" : Str)) = false := by decide) (hcd : (x == ("__classdict__" : Str)) = false := by decide)
    (hs : ∀ i, swapsWithSole [.Subscript (.Name x p) ix tpos] a pos.line (Φ.X i).env = pure false := by intro _; rfl) (hw : ∀ i, swappedStores [.Subscript (.Name x p) ix tpos] a (Φ.X i).env = pure none := by intro _; rfl)
    (h1 : ∀ i, (assignEach [.Subscript (.Name x p) ix tpos] (Φ.X i).env).map (·.2) = [assign (.Subscript (.Name x p) ix tpos) (Φ.X i).env] := by intro _; rfl)
    (hasg : ∀ i v, assign (.Subscript (.Name x p) ix tpos) (Φ.X i).env v = (do
      let ov ← holding [v] (eval (.Name x p) (Φ.X i).env)
      let iv ← holding [v, ov] (eval ix (Φ.X i).env)
      standAt tpos
      holding [v, ov, iv] (setItem ov iv v)
      release [v, ov, iv] []) := by intro _ _; rfl) : JS Φ W (m1 + m2) (.Assign [.Subscript (.Name x p) ix tpos] a pos) (wSetIx s wa wi) := by
  obtain ⟨ta, a1, a2⟩ := ha
  obtain ⟨ti, b1, b2⟩ := hix
  refine ⟨_, fun i => ps_asg (a1 i) (pg_sub (pe_var (X := Φ.X i) (pos := p) (by rw [Φ.hN i]; exact hN) (by rw [Φ.hsc i]; exact hv) hd hcd) (b1 i) set_list (hasg i)) (hs i) (hw i) (h1 i), ?_⟩
  intro B H0 g σ ρ n H D2 D r l h f
  refine a2 B H0 g σ ρ n H _ _ _ r (by omega) h (fun H1 ρ1 Ha v x s1 r1 h1 q1 => ?_) (f.x (by omega))
  obtain ⟨H2, s2, r2, h2⟩ := r1.calm h1
  obtain ⟨H3, ρ3, ds, s3, r3, d3, hk⟩ := r2.frz (vs := [v]) (xs := [calm1 x]) (.cons h2 .nil) q1
  split at hk
  · rename_i es0 h0
    obtain ⟨p0, vs0, hu, _, _⟩ := r3.ownP h0
    refine ⟨_, hu, ?_⟩
    refine b2 B H3 g σ ρ3 _ Ha _ _ _ r3 (by omega) hk (fun H4 ρ4 Hb vj y s4 r4 h4 q4 => ?_) (fun H0' ρ' H' nm cls d st r' => f.x (σ := σ) (show n + m1 + m2 ≤ n + (m1 + m2) by omega) H0' ρ' H' nm cls d (((s1.trans s2).trans s3).trans st) r')
    obtain ⟨j, ej, q5⟩ := rdK_of q4
    split at q5
    · rename_i d j es he
      split at q5
      · rename_i nn hn
        obtain ⟨p0, vs, z1, z2, z3⟩ := r4.ownP he
        rw [hu] at z1; cases z1
        rw [r4.int h4 ej]
        cases d3 with
        | cons d3 d4 =>
          refine ⟨p0, vs, _, nn, rfl, rfl, z2, by rw [z3.length]; exact hn, ?_⟩
          exact f.nx H4 g σ _ _ (((s1.trans s2).trans s3).trans s4) (Sub.refl g) ((r4.mut he hu (z3.set (Dq.mono s4 d3) nn)).count (by omega)) q5
      · exact q5.elim
    · exact q5.elim
  · exact hk.elim
def forL (gt : WG) (b : WS) (D : Ends2) : List PyData → Env → Prop
  | [], ρ => D.nx ρ
  | d :: ds, ρ => gt d ρ fun ρ' => b { D with nx := forL gt b D ds, ct := forL gt b D ds, bk := D.nx } ρ'
def wFor (wi : WI) (gt : WG) (b : WS) : WS := fun D ρ => wi D.ex ρ fun ds ρ1 => forL gt b D ds ρ1
theorem sim_for {K : PySem.W.Frag} {mg : MG} {own : List Nat} {wi : TI} {g : TG} {tb : TS} {w1 : WI} {w2 : WG} {w3 : WS} (h1 : SimI K mg W m1 wi w1) (h2 : SimG K own g w2) (h3 : SimS K mg W m2 tb w3) : SimS K mg W (m1 + 2 ^ 62 * m2) (tFor wi g tb) (wFor w1 w2 w3) := by
  intro B H0 gs σ ρ n H D2 D r l h f
  refine h1 B H0 gs σ ρ n H _ _ _ r (by omega) h (fun H1 ρ1 Ha J ds s1 r1 wk hz q1 => ?_) (f.x (by omega))
  have cost : ∀ i, i ≤ ds.length → i * m2 ≤ 2 ^ 62 * m2 := fun i hi => Nat.mul_le_mul_right m2 (Nat.le_trans hi hz)
  refine ⟨fun i mm σ' H' => mm = ds.length - i ∧ i ≤ ds.length ∧ ∃ H0i gi ρi, Same H1 H0i ∧ Sub gi gs ∧ RS K B H0i gi σ' ρi (n + m1 + i * m2) H' ∧ forL w2 w3 D2 (ds.drop i) ρi, ⟨ds.length, by simp, Nat.zero_le _, H1, gs, ρ1, Same.refl _, Sub.refl _, by simpa using r1, q1⟩, ?_⟩
  rintro i mm σ' H' ⟨rfl, hi, H0i, gi, ρi, si, sgi, ri, qi⟩
  have ci := cost i hi
  by_cases hlt : i < ds.length
  · refine .inr ⟨wk.goes i H' hlt (fun p o e => ri.ext p o (si p o e)), fun σ2 H2 => ∃ mm', mm' < ds.length - i ∧ (mm' = ds.length - (i + 1) ∧ i + 1 ≤ ds.length ∧ ∃ H0i gi ρi, Same H1 H0i ∧ Sub gi gs ∧ RS K B H0i gi σ2 ρi (n + m1 + (i + 1) * m2) H2 ∧ forL w2 w3 D2 (ds.drop (i + 1)) ρi), fun σ2 H2 hN => hN, fun x H2 y => ?_⟩
    obtain ⟨d, hd, hy⟩ := wk.yields i H' x H2 hlt (fun p o e => ri.ext p o (si p o e)) y
    have hdr : ds.drop i = d :: ds.drop (i + 1) := by
      rw [List.drop_eq_getElem_cons hlt]
      rw [List.getElem?_eq_getElem hlt] at hd
      cases hd; rfl
    rw [hdr] at qi
    obtain ⟨H0j, sj, rj, dj⟩ : ∃ H0j, Same H0i H0j ∧ RS K B H0j gi σ' ρi (n + m1 + i * m2) H2 ∧ Dq K H0j x d := by
      rcases hy with ⟨e, hx⟩ | ⟨T, vs, es, rfl, hT, e, rfl, q⟩
      · subst e
        exact ⟨H0i, Same.refl _, ri, Dq.mono si hx⟩
      · subst e
        obtain ⟨r', s'⟩ := ri.lay (o := .tup vs) hT
        exact ⟨_, s', r', .tup (SqT.of upd_same) (q.mono (si.trans s'))⟩
    refine h2 B H0j gi σ' ρi _ H2 x d _ _ rj dj qi fun σ3 ρ3 l3 e3 r3 k3 => ?_
    have ci1 := cost (i + 1) hlt
    have e1 : (i + 1) * m2 = i * m2 + m2 := Nat.succ_mul i m2
    have bnd : n + m1 + i * m2 + m2 ≤ n + (m1 + 2 ^ 62 * m2) := by omega
    refine h3 B H0j gi σ3 ρ3 _ H2 { D2 with nx := forL w2 w3 D2 (ds.drop (i + 1)), ct := forL w2 w3 D2 (ds.drop (i + 1)), bk := D2.nx } _ r3 (by omega) k3 ?_
    have f2 := f.mono ((s1.trans si).trans sj) bnd sgi
    have again : ∀ H0' g' σ4 ρ4 H4, Same H0j H0' → Sub g' gi → RS K B H0' g' σ4 ρ4 (n + m1 + i * m2 + m2) H4 → forL w2 w3 D2 (ds.drop (i + 1)) ρ4 → ∃ mm', mm' < ds.length - i ∧ (mm' = ds.length - (i + 1) ∧ i + 1 ≤ ds.length ∧ ∃ H0i gi ρi, Same H1 H0i ∧ Sub gi gs ∧ RS K B H0i gi σ4 ρi (n + m1 + (i + 1) * m2) H4 ∧ forL w2 w3 D2 (ds.drop (i + 1)) ρi) := fun H0' g' σ4 ρ4 H4 s4 z4 r4 k4 =>
      ⟨_, by omega, rfl, hlt, H0', g', ρ4, (si.trans sj).trans s4, z4.trans sgi, by rw [e1, ← Nat.add_assoc]; exact r4, k4⟩
    exact ⟨fun H0' g' σ4 ρ4 H4 s4 z4 r4 k4 => again H0' g' σ4 ρ4 H4 s4 z4 r4 k4, f2.rt, fun H0' g' σ4 ρ4 H4 s4 z4 r4 k4 => f2.nx H0' g' σ4 ρ4 H4 s4 z4 r4 k4, fun H0' g' σ4 ρ4 H4 s4 z4 r4 k4 => again H0' g' σ4 ρ4 H4 s4 z4 r4 k4, f2.ex⟩
  · have e : i = ds.length := by omega
    subst e
    refine .inl ⟨wk.stops H' (fun p o e => ri.ext p o (si p o e)), ?_⟩
    rw [List.drop_length] at qi
    exact f.nx H0i gi σ' ρi H' (s1.trans si) sgi (ri.count (by omega)) qi
theorem js_for {own : List Nat} {tg iter : Expr} {body : List Stmt} {pos : Pos} {w1 : WI} {w2 : WG} {w3 : WS} (hi : JI Φ W m1 tg iter w1) (hg : JG Φ own tg w2) (hb : JSs Φ W m2 body w3) (hs : ∀ i x, foldedSetIterable iter (Φ.X i).env x = pure x := by intro _ _; rfl) (hcm : Φ.cm = true := by rfl) : JS Φ W (m1 + 2 ^ 62 * m2) (.For tg iter body [] pos) (wFor w1 w2 w3) :=
  let ⟨_, a1, a2⟩ := hi; let ⟨_, b1, b2⟩ := hg; let ⟨_, c1, c2⟩ := hb
  ⟨_, fun i => ps_for (Φ.pass i) (Φ.calm hcm i) (a1 i) (b1 i) (c1 i) (hs i), sim_for a2 b2 c2⟩
end
end B2

namespace B2
open PySem L2 PySem.Calls
open PyProof.Rows (envOfC)
theorem wipe_ne {σ : St} {i : Nat} : ∀ {vs : List Nat}, i ∉ vs → (wipe σ vs)[i]? = σ[i]?
  | [], _ => rfl
  | v :: vs, h => by
    rw [List.mem_cons, not_or] at h
    unfold wipe
    rw [List.getElem?_set_ne (fun z => h.1 z.symm), wipe_ne h.2]
theorem wipe_in {σ : St} {i : Nat} : ∀ {vs : List Nat}, i ∈ vs → (wipe σ vs)[i]? = if i < σ.length then some none else none
  | v :: vs, h => by
    unfold wipe
    by_cases hv : v = i
    · subst hv
      rw [List.getElem?_set]
      simp [wipe_length]
    · rw [List.getElem?_set_ne hv]
      rcases List.mem_cons.mp h with e | h
      · exact absurd e.symm hv
      · exact wipe_in h
theorem wipe_eq {σ σ2 : St} {vs : List Nat} (hl : σ2.length = (wipe σ vs).length) (h : ∀ i, i ∉ vs → σ2[i]? = (wipe σ vs)[i]?) : wipe σ2 vs = wipe σ vs := by
  refine List.ext_getElem? fun i => ?_
  by_cases hi : i ∈ vs
  · rw [wipe_in hi, wipe_in hi, hl, wipe_length]
  · rw [wipe_ne hi, h i hi]
def isOwn : Option X2 → Bool
  | some (.own _) => true
  | some (.ob _) => true
  | _ => false
theorem Foot.own {x : X2} {p a : Addr} (h : Foot x p a) : isOwn (some x) = true := by
  cases x with
  | own _ => rfl
  | ob _ => rfl
  | d _ => exact h.elim
  | slot _ => exact h.elim
  | drw => exact h.elim
  | scr _ => exact h.elim
def wipeE (ρ : Env) (own : List Nat) : Env := fun i => if i ∈ own then none else if isOwn (ρ i) = true then none else ρ i
def noX : Xn := fun _ _ => False
def lcL (gt : WG) (wt : WT) (we : W2) (ρb : Env) (k : List PyData → Prop) : List PyData → List PyData → Prop
  | [], acc => k acc
  | d :: ds, acc => gt d ρb fun ρ2 => wt noX ρ2 fun b ρ3 => ρ3 = ρ2 ∧ if b = true then we noX ρ3 (fun y ρ4 => ρ4 = ρ3 ∧ match y with
      | .d dy => lcL gt wt we ρb k ds (acc ++ [dy])
      | .own es => lcL gt wt we ρb k ds (acc ++ [.list es])
      | _ => False) else lcL gt wt we ρb k ds acc
def wLc (own : List Nat) (wi : WI) (gt : WG) (wt : WT) (we : W2) : W2 := fun e ρ k => wi e ρ fun ds ρ1 => ds.length ≤ 16777216 ∧ lcL gt wt we (wipeE ρ1 own) (fun acc => k (.own acc) ρ1) ds []
section
variable {K : PySem.W.Frag} {B : Base} {H0 H0' H H' : Hp} {g : Option Gs} {σ σ' : St} {ρ ρ' : Env} {n m : Nat} {v : V} {x : X2}
theorem RS.mutT (r : RS K B H0 g σ ρ n H) {p : Addr} {ds es : List PyData} (h : RelR K B H0 H g σ ρ (.ref p) (.own ds)) {vs : List V} (q : DqA K H0 vs es) :
    RS K B H0 g σ ρ n (upd H p (.lst vs)) ∧ RelR K B H0 (upd H p (.lst vs)) g σ ρ (.ref p) (.own es) := by
  obtain ⟨p', e, ⟨ws, h1, h2, h3, h4, h5⟩, h6⟩ := h
  cases e
  refine ⟨⟨r.hb, r.new, fun b u e => ?_, fun b u e z => ?_, fun g' e => (r.drw g' e).keep fun b u hb z => ?_, r.drf, r.gg, fun j x q' => ?_, r.dist⟩, p, rfl, ⟨vs, upd_same, q, h3, h4, h5⟩, h6⟩
  · rw [upd_ne (fun z : b = p => by rw [z, h3] at e; cases e)]; exact r.ext b u e
  · rw [upd_ne (fun z' : b = p => by rw [z', h4] at e; cases e)]; exact r.keep b u e z
  · rw [upd_ne (fun z' : b = p => h5 (by rw [← z', e]; exact hb))]; exact z
  · obtain ⟨v, k1, k2⟩ := r.sl j x q'
    refine ⟨v, k1, k2.keep (Same.refl _) fun q2 a e fa => ⟨fun u z => ?_, id⟩⟩
    have hne : a ≠ p := fun z => h6 j x q2 q' (by rw [k1, e]) (by rw [← z]; exact fa)
    rw [upd_ne hne]; exact z
theorem RS.inner (r : RS K B H0 g σ ρ n H) (h : ∀ i y, ρ' i = some y → ρ i = some y ∧ σ'[i]? = σ[i]? ∧ isOwn (some y) = false) : RS K ⟨H, H0, g⟩ H0 g σ' ρ' n H := by
  refine ⟨Same.refl _, fun p o e => .inl e, r.ext, fun p o e _ => e, r.drw, r.drf, .inl rfl, fun i y q => ?_, fun i j p q a x y e1 _ _ _ f _ => ?_⟩
  · obtain ⟨a, b, c⟩ := h i y q
    obtain ⟨v, k1, k2⟩ := r.sl i y a
    refine ⟨v, by rw [b]; exact k1, ?_⟩
    cases y with
    | own _ => cases c
    | ob _ => cases c
    | d _ => exact k2
    | slot _ => exact k2
    | drw => exact k2
    | scr _ => exact k2
  · have := (h i _ e1).2.2
    rw [f.own] at this; cases this
theorem RS.innerLeft {σ2 : St} {ρ2 : Env} {n2 : Nat} {H02 H2 : Hp} (r : RS K ⟨H, H0, g⟩ H02 g σ2 ρ2 n2 H2) : Left H0 H02 H H2 g n2 :=
  ⟨r.hb, fun p o e => r.new p o e, r.ext, fun p o e z => r.keep p o e z, r.drw, r.drf⟩
theorem RelR.left {Hr : Hp} {n' : Nat} {p : Addr} {ds : List PyData} (h : RelR K B H0 H g σ ρ (.ref p) (.own ds)) (l : Left H0 Hr H H' g n') : RelR K B Hr H' g σ ρ (.ref p) (.own ds) := by
  obtain ⟨p', e, ⟨ws, h1, h2, h3, h4, h5⟩, h6⟩ := h
  cases e
  refine ⟨p, rfl, ⟨ws, l.keep p _ h1 h5, h2.mono l.b, ?_, h4, h5⟩, h6⟩
  cases z : Hr p with
  | none => rfl
  | some o =>
    rcases l.new p o z with k | k
    · rw [h3] at k; cases k
    · rw [h1] at k; cases k
end
theorem sim_lc {K : PySem.W.Frag} {mg : MG} {W : WX} {m1 m2 m3 : Nat} {own : List Nat} {wi : TI} {g : TG} {tt : TT} {te : TE} {w1 : WI} {w2 : WG} {w3 : WT} {w4 : W2} (h1 : SimI K mg W m1 wi w1) (h2 : SimG K own g w2) (h3 : SimT K mg W m2 tt w3) (h4 : SimE K mg W m3 te w4) :
    SimE K mg W (m1 + 2 ^ 62 * (m2 + m3)) (tLc wi g tt te own) (wLc own w1 w2 w3 w4) := by
  intro B H0 gs σ ρ n H e k Q rs l hw q xq
  refine h1 B H0 gs σ ρ n H _ _ _ rs (by omega) hw (fun H1 ρ1 Ha J ds s1 r1 wk hz q1 => ?_) (fun H0' ρ' H' nm cls d s r' => xq H0' ρ' H' nm cls d s (r'.count (by omega)))
  obtain ⟨hsz, q1⟩ := q1
  intro D hD
  have cost : ∀ i, i ≤ ds.length → i * (m2 + m3) ≤ 2 ^ 62 * (m2 + m3) := fun i hi => Nat.mul_le_mul_right _ (Nat.le_trans hi hz)
  obtain ⟨r2, t2⟩ := r1.mkOwn (vs := []) (ds := []) hD .nil
  refine ⟨fun i mm H' => mm = ds.length - i ∧ i ≤ ds.length ∧ ∃ H0i acc, Same H1 H0i ∧ RS K B H0i gs σ ρ1 (n + m1 + i * (m2 + m3)) H' ∧ RelR K B H0i H' gs σ ρ1 (.ref D) (.own acc) ∧ acc.length ≤ i ∧ lcL w2 w3 w4 (wipeE ρ1 own) (fun acc => k (.own acc) ρ1) (ds.drop i) acc,
    ⟨ds.length, by simp, Nat.zero_le _, H1, [], Same.refl _, by simpa using r2, t2, Nat.le_refl _, q1⟩, ?_⟩
  rintro i mm H' ⟨rfl, hi, H0i, acc, si, ri, ti, hacc, qi⟩
  have ci := cost i hi
  by_cases hlt : i < ds.length
  · have ci1 := cost (i + 1) hlt
    have e1 : (i + 1) * (m2 + m3) = i * (m2 + m3) + (m2 + m3) := Nat.succ_mul i _
    refine .inr ⟨wk.goes i H' hlt (fun p o e => ri.ext p o (si p o e)), fun H2 => i + 1 ≤ ds.length ∧ ∃ H0i acc, Same H1 H0i ∧ RS K B H0i gs σ ρ1 (n + m1 + (i + 1) * (m2 + m3)) H2 ∧ RelR K B H0i H2 gs σ ρ1 (.ref D) (.own acc) ∧ acc.length ≤ i + 1 ∧ lcL w2 w3 w4 (wipeE ρ1 own) (fun acc => k (.own acc) ρ1) (ds.drop (i + 1)) acc,
      fun H2 hN => ⟨_, by omega, rfl, hN.1, hN.2⟩, fun x H2 y => ?_⟩
    obtain ⟨d, hd, hy⟩ := wk.yields i H' x H2 hlt (fun p o e => ri.ext p o (si p o e)) y
    have hdr : ds.drop i = d :: ds.drop (i + 1) := by
      rw [List.drop_eq_getElem_cons hlt]
      rw [List.getElem?_eq_getElem hlt] at hd
      cases hd; rfl
    rw [hdr] at qi
    obtain ⟨H0j, sj, rj, dj, tj⟩ : ∃ H0j, Same H0i H0j ∧ RS K B H0j gs σ ρ1 (n + m1 + i * (m2 + m3)) H2 ∧ Dq K H0j x d ∧ RelR K B H0j H2 gs σ ρ1 (.ref D) (.own acc) := by
      rcases hy with ⟨e, hx⟩ | ⟨T, vs, es, rfl, hT, e, rfl, q⟩
      · subst e
        exact ⟨H0i, Same.refl _, ri, Dq.mono si hx, ti⟩
      · subst e
        obtain ⟨r', s'⟩ := ri.lay (o := .tup vs) hT
        obtain ⟨p', e', ⟨ws, k1, k2, k3, k4, k5⟩, k6⟩ := id ti
        cases e'
        have hne : D ≠ T := ne_of_none k1 hT
        exact ⟨_, s', r', .tup (SqT.of upd_same) (q.mono (si.trans s')), D, rfl, ⟨ws, by rw [upd_ne hne]; exact k1, k2.mono s', by rw [upd_ne hne]; exact k3, k4, k5⟩, k6⟩
    -- within the block
    have rb : RS K ⟨H2, H0j, gs⟩ H0j gs (wipe σ own) (wipeE ρ1 own) (n + m1 + i * (m2 + m3)) H2 := rj.inner fun j y q => by
      unfold wipeE at q
      by_cases hj : j ∈ own
      · rw [if_pos hj] at q; cases q
      · rw [if_neg hj] at q
        by_cases ho : isOwn (ρ1 j) = true
        · rw [if_pos ho] at q; cases q
        · rw [if_neg ho] at q
          exact ⟨q, wipe_ne hj, by rw [← q]; exact Bool.eq_false_iff.mpr ho⟩
    refine h2 _ H0j gs (wipe σ own) (wipeE ρ1 own) _ H2 x d _ _ rb dj qi fun σ3 ρ3 l3 e3 r3 k3 => ?_
    refine ⟨wipe_eq l3 (fun j hj => (e3 j hj).1), ?_⟩
    refine h3 _ H0j gs σ3 ρ3 _ H2 noX _ _ r3 (by omega) k3 (fun H4 ρ4 Hb b s4 r4 q4 => ?_) (fun _ _ _ _ _ _ _ _ z => z.elim)
    obtain ⟨e4, q4⟩ := q4
    cases b with
    | true =>
      rw [if_pos rfl] at q4 ⊢
      refine h4 _ H4 gs σ3 ρ4 _ Hb noX _ _ r4 (by omega) q4 (fun H5 ρ5 Hc vy y s5 r5 h5 q5 => ?_) (fun _ _ _ _ _ _ _ _ z => z.elim)
      obtain ⟨e5, q5⟩ := q5
      -- the element, as frozen data
      obtain ⟨dy, H6, s6, r6, d6, q6⟩ : ∃ dy H6, Same H5 H6 ∧ RS K ⟨H2, H0j, gs⟩ H6 gs σ3 ρ5 (n + m1 + i * (m2 + m3) + m2 + m3) Hc ∧ Dq K H6 vy dy ∧ lcL w2 w3 w4 (wipeE ρ1 own) (fun acc => k (.own acc) ρ1) (ds.drop (i + 1)) (acc ++ [dy]) := by
        cases y with
        | d dy => exact ⟨dy, H5, Same.refl _, r5, h5, q5⟩
        | own es =>
          obtain ⟨H6, s6, r6, d6⟩ := r5.freezeR h5
          exact ⟨.list es, H6, s6, r6, d6, q5⟩
        | slot _ => exact q5.elim
        | drw => exact q5.elim
        | scr _ => exact q5.elim
        | ob _ => exact q5.elim
      have lf := r6.innerLeft
      have r7 := rj.left lf
      have t7 := tj.left lf
      obtain ⟨p', e', ⟨ws, k1, k2, k3, k4, k5⟩, k6⟩ := id t7
      cases e'
      refine ⟨ws, k1, by rw [k2.length, sizeLine_eq]; omega, hlt, ?_⟩
      obtain ⟨r8, t8⟩ := r7.mutT t7 (k2.append (.cons d6 .nil))
      exact ⟨H6, _, (si.trans sj).trans lf.b, by rw [e1]; exact r8.count (by omega), t8, by rw [List.length_append]; simp; omega, q6⟩
    | false =>
      rw [if_neg Bool.false_ne_true] at q4 ⊢
      have lf := r4.innerLeft
      exact ⟨hlt, H4, acc, (si.trans sj).trans lf.b, by rw [e1]; exact (rj.left lf).count (by omega), tj.left lf, by omega, q4⟩
  · have e : i = ds.length := by omega
    subst e
    refine .inl ⟨wk.stops H' (fun p o e => ri.ext p o (si p o e)), ?_⟩
    rw [List.drop_length] at qi
    exact q H0i ρ1 H' _ (.own acc) (s1.trans si) (ri.count (by omega)) ti qi
def Fam.blk {ι : Type} (Φ : Fam ι) (scope : Scope) : Fam (ι × Shared × Hp × Addr × List (Str × Addr) × List Addr) where
  X := fun q => (Φ.X q.1).blk q.2.1 q.2.2.1 scope (compEnvC scope q.2.2.2.2.1 q.2.2.2.1 (Φ.X q.1).env) q.2.2.2.2.2
  K := Φ.K
  mg := Φ.mg
  N := Φ.N
  sc := relS scope Φ.sc
  k := Φ.k
  P := Φ.P
  w := Φ.w
  base := Φ.base
  hK := fun q => Φ.hK q.1
  hmg := fun q => Φ.hmg q.1
  hN := fun q => Φ.hN q.1
  hsc := fun q => by
    have h := Φ.hsc q.1
    show relS scope (Φ.X q.1).env.scope = relS scope Φ.sc
    rw [h]
  hP := fun q => Φ.hP q.1
  hw := fun q => Φ.hw q.1
  hbase := fun q => Φ.hbase q.1
  rm := fun q => Φ.rm q.1
  room := fun h q => Φ.room h q.1
  gd := fun q => Φ.gd q.1
  sr := Φ.sr
  stk := fun q => Φ.stk q.1
  cm := Φ.cm
  calm := fun h q => Φ.calm h q.1
  nd := Φ.nd
  pass := fun _ => PassesOwn.never
section
variable {ι : Type} {Φ : Fam ι} {W : WX} {m m1 m2 m3 : Nat}
def JTs (Φ : Fam ι) (W : WX) (m : Nat) (es : List Expr) (w : WT) : Prop := ∃ t, (∀ i, PTs (Φ.X i) es t) ∧ SimT Φ.K Φ.mg W m t w
def wYes : WT := fun _ ρ k => k true ρ
theorem jts_nil : JTs Φ W 0 [] wYes := ⟨_, fun _ => pts_nil, fun B H0 g σ ρ n H e k Q r l h q _ => q H0 ρ H true (Same.refl _) r h⟩
theorem jts_one {e : Expr} {w : WT} (h : JT Φ W m e w) : JTs Φ W m [e] w := let ⟨t, a, b⟩ := h; ⟨t, fun i => pts_one (a i), b⟩
theorem je_lc (own : List (Str × Nat)) {elt tg iter : Expr} {ifs : List Expr} {scope : Scope} {pos : Pos} {w1 : WI} {w2 : WG} {w3 : WT} {w4 : W2} (hi : JI Φ W m1 tg iter w1) (ok : blkC Φ.N Φ.sc scope own = true) (hg : JG (Φ.blk scope) (own.map (·.2)) tg w2) (ht : JTs (Φ.blk scope) W m2 ifs w3) (he : JE (Φ.blk scope) W m3 elt w4)
    (hs : ∀ i x, foldedSetIterable iter (Φ.X i).env x = pure x := by intro _ _; rfl) (hcm : Φ.cm = true := by rfl) : JE Φ W (m1 + 2 ^ 62 * (m2 + m3)) (.ListComp elt [⟨tg, iter, ifs, 0⟩] scope pos) (wLc (own.map (·.2)) w1 w2 w3 w4) := by
  obtain ⟨ti, a1, a2⟩ := hi
  obtain ⟨tg, b1, b2⟩ := hg
  obtain ⟨tt, c1, c2⟩ := ht
  obtain ⟨te, d1, d2⟩ := he
  exact ⟨_, fun i => pe_lc (Φ.calm hcm i) (by rw [Φ.hN i]; exact Φ.nd) (a1 i) (by rw [Φ.hN i, Φ.hsc i]; exact blkOk_by ok) (fun s H C cl fp => b1 (i, s, H, C, cl, fp)) (fun s H C cl fp => c1 (i, s, H, C, cl, fp)) (fun s H C cl fp => d1 (i, s, H, C, cl, fp)) (hs i), sim_lc a2 b2 c2 d2⟩
theorem js_setLc (i : Nat) (frz : Bool) (own : List (Str × Nat)) {y : Str} {py : Pos} {elt tg iter : Expr} {ifs : List Expr} {scope : Scope} {pos spos : Pos} {w1 : WI} {w2 : WG} {w3 : WT} {w4 : W2} (hi : JI Φ W m1 tg iter w1) (ok : blkC Φ.N Φ.sc scope own = true) (hg : JG (Φ.blk scope) (own.map (·.2)) tg w2) (ht : JTs (Φ.blk scope) W m2 ifs w3) (he : JE (Φ.blk scope) W m3 elt w4)
    (hsw : ∀ j, swapsWith (.ListComp elt [⟨tg, iter, ifs, 0⟩] scope pos) (some (.Name y py)) spos.line (Φ.X j).env = pure true) (hy : Φ.N[i]? = some y := by rfl) (hyl : Φ.sc.names.lookup y = some .local := by rfl)
    (hs : ∀ i x, foldedSetIterable iter (Φ.X i).env x = pure x := by intro _ _; rfl) (hcm : Φ.cm = true := by rfl) : JS Φ W (m1 + 2 ^ 62 * (m2 + m3)) (.Assign [.Name y py] (.ListComp elt [⟨tg, iter, ifs, 0⟩] scope pos) spos) (wAsg i frz (wLc (own.map (·.2)) w1 w2 w3 w4)) := by
  obtain ⟨ti, a1, a2⟩ := hi
  obtain ⟨tg, b1, b2⟩ := hg
  obtain ⟨tt, c1, c2⟩ := ht
  obtain ⟨te, d1, d2⟩ := he
  exact ⟨_, fun j => ps_len (Φ.hN j) (ps_setLc (Φ.calm hcm j) (by rw [Φ.hN j]; exact Φ.nd) (by rw [Φ.hN j]; exact hy) (by rw [Φ.hsc j]; exact hyl) (hsw j) (a1 j) (by rw [Φ.hN j, Φ.hsc j]; exact blkOk_by ok) (fun s H C cl fp => b1 (j, s, H, C, cl, fp)) (fun s H C cl fp => c1 (j, s, H, C, cl, fp)) (fun s H C cl fp => d1 (j, s, H, C, cl, fp)) (hs j)), sim_asg (List.getElem?_eq_some_iff.mp hy).1 (sim_lc a2 b2 c2 d2)⟩
def retP (k : X2 → Prop) : X2 → Prop
  | .d d => k (.d d)
  | .own ds => k (.own ds)
  | .ob (.tt ds) => k (.ob (.tt ds))
  | _ => False
def runB (w : WS) (xs : List X2) (k : X2 → Prop) (e : Str → Prop) : Prop := w { nx := fun _ => k (.d .none), rt := retP k, ex := fun nm _ => e nm } fun i => xs[i]?
def famN (P : Program) (w : World) (K : PySem.W.Frag) (mg : MG) (base : Heap) (N : List Str) (qual : Str) (scope : Scope) (f : Addr) (cdv : Value) (A : Around) (outer : List PySem.Env) (s : Shared) (H : Hp) (E : XK) (k : Nat) (nd : N.Nodup) (hr : Room k (A.deeper (envOfC qual scope s.heap.objs.size f cdv))) (hg : Gd k (A.deeper (envOfC qual scope s.heap.objs.size f cdv))) (sr : Sr P base) (hsc : scope.isGenerator = false ∧ scope.isCoroutine = false) : Fam Unit where
  X := fun _ => (cxOf CX0 P w K mg base N qual scope f cdv A outer s H E).nox
  K := K
  mg := mg
  N := N
  sc := scope
  k := k
  P := P
  w := w
  base := base
  hK := fun _ => rfl
  hmg := fun _ => rfl
  hN := fun _ => rfl
  hsc := fun _ => rfl
  hP := fun _ => rfl
  hw := fun _ => rfl
  hbase := fun _ => rfl
  rm := fun _ => L2H.roomH_of hr
  room := fun _ _ => hr
  gd := fun _ => hg
  sr := sr
  stk := fun _ => ⟨_, _, rfl, hsc.1, hsc.2, rfl, rfl⟩
  cm := true
  calm := fun _ _ => rfl
  nd := nd
  pass := fun _ => PassesOwn.never
theorem start_get {N : List Str} {vs : List V} {i : Nat} {v : V} (h : vs[i]? = some v) : (L2.start N vs)[i]? = some (some v) := by
  unfold L2.start
  have hi := (List.getElem?_eq_some_iff.mp h).1
  rw [List.getElem?_append_left (by rw [List.length_map]; exact hi), List.getElem?_map, h]
  rfl
theorem paired_get {α β : Type} {F : α → β → Prop} : ∀ {as : List α} {bs : List β} {i : Nat} {b : β}, Paired F as bs → bs[i]? = some b → ∃ a, as[i]? = some a ∧ F a b
  | _, _, _, _, .nil, h => by simp at h
  | _, _, 0, _, .cons r _, h => by simp at h; subst h; exact ⟨_, rfl, r⟩
  | _, _, i + 1, b, .cons _ t, h => by
    obtain ⟨a, h1, h2⟩ := paired_get (i := i) t (by simpa using h)
    exact ⟨a, by simpa using h1, h2⟩
theorem RS.start {K : PySem.W.Frag} {H Hb : Hp} {g : Option Gs} {n : Nat} {N : List Str} {vs : List V} {xs : List X2} (hs : Same Hb H) (hf : ∀ p, InG g p → Hb p = none) (hd : ∀ g', g = some g' → DrawOk H g' n) (ha : RelAs K Hb g vs xs) : RS K ⟨H, Hb, g⟩ Hb g (L2.start N vs) (fun i => xs[i]?) n H := by
  refine ⟨Same.refl _, fun p o e => .inl e, hs, fun p o e _ => e, hd, hf, .inl rfl, fun i x q => ?_, fun i j p q a x y e1 _ _ _ f _ => ?_⟩
  · obtain ⟨v, h1, h2⟩ := paired_get ha q
    refine ⟨v, start_get h1, ?_⟩
    cases x with
    | own _ => exact h2.elim
    | d _ => exact h2
    | slot _ => exact h2.elim
    | drw => exact h2
    | scr _ => exact h2
    | ob _ => exact h2.elim
  · obtain ⟨v, h1, h2⟩ := paired_get ha e1
    cases x with
    | own _ => exact h2.elim
    | ob _ => exact h2.elim
    | d _ => exact f.elim
    | slot _ => exact f.elim
    | drw => exact f.elim
    | scr _ => exact f.elim
theorem RS.toLeft {K : PySem.W.Frag} {H Hb H0' H' : Hp} {g g' : Option Gs} {σ : St} {ρ : Env} {n : Nat} (r : RS K ⟨H, Hb, g⟩ H0' g' σ ρ n H') : Left Hb H0' H H' g n :=
  ⟨r.hb, r.new, r.ext, r.keep, (fun g1 e => by
    rcases r.gg with k | ⟨k, _⟩
    · exact r.drw g1 (by rw [← k]; exact e)
    · have k' : g = none := k
      rw [k'] at e
      exact nomatch e), (fun p q => by
    rcases r.gg with k | ⟨k, _⟩
    · have k' : g = g' := k
      exact r.drf p (by rw [← k']; exact q)
    · have k' : g = none := k
      rw [k'] at q
      exact False.elim q)⟩
theorem RelR.ret {K : PySem.W.Frag} {H Hb H0' H' : Hp} {g g' : Option Gs} {σ : St} {ρ : Env} {n : Nat} {v : V} {x : X2} (h : RelR K ⟨H, Hb, g⟩ H0' H' g' σ ρ v x) (r : RS K ⟨H, Hb, g⟩ H0' g' σ ρ n H') {k : X2 → Prop} (hk : retP k x) : RetR K H0' H H' g v x ∧ k x := by
  cases x with
  | d _ => exact ⟨h, hk⟩
  | own ds =>
    obtain ⟨p, rfl, ⟨vs, h1, h2, h3, h4, h5⟩, _⟩ := h
    refine ⟨⟨p, vs, rfl, h1, h2, h3, h4, fun q => ?_⟩, hk⟩
    rcases r.gg with k | ⟨k, _⟩
    · have k' : g = g' := k
      exact h5 (by rw [← k']; exact q)
    · have k' : g = none := k
      rw [k'] at q; exact q
  | slot _ => exact hk.elim
  | drw => exact hk.elim
  | scr _ => exact hk.elim
  | ob o => cases o with
    | tt ds => exact ⟨h, hk⟩
    | dic _ => exact hk.elim
    | rows _ _ => exact hk.elim
    | ret _ _ _ => exact hk.elim
    | «at» _ _ => exact hk.elim
variable {P : Program} {w : World} {K : PySem.W.Frag} {mg : MG} {base : Heap}
theorem fn_ok {x qual : Str} {st : Stmt} {f : Addr} {fd : FuncData} {N ps : List Str} {k len : Nat} {s : Spec2} {wb : WS} (sr : Sr P base) (F : Fun K x qual st f fd) (S : FnScope N ps (defScope st)) (hlen : ps.length = len)
    (hb : ∀ (cdv : Value) (A : Around) (outer : List PySem.Env) (sh : Shared) (H : Hp) (E : XK) (hr : Room k (A.deeper (envOfC qual (defScope st) sh.heap.objs.size f cdv))) (hg : Gd k (A.deeper (envOfC qual (defScope st) sh.heap.objs.size f cdv))), JSs (famN P w K mg base N qual (defScope st) f cdv A outer sh H E k S.nd hr hg sr ⟨S.gen, S.co⟩) (fun _ _ _ _ => False) m (defBody st) wb)
    (hs : ∀ xs k e, s xs k e → runB wb xs k fun _ => False) : FnG P w K mg base CX0 (k + 1) f fd ps (liftS K mg m len s) := by
  refine FunG.ok F S (fun vs H Q E h => h.1.trans hlen.symm) (fun cdv A outer sh H vs Q E hr hg h => ?_)
  obtain ⟨_, Hb, g, n, xs, kk, e, hl, hsame, hf, hd, ha, hsp, hq, _⟩ := h
  obtain ⟨t, a1, a2⟩ := hb cdv A outer sh H E hr hg
  refine ⟨t, a1 (), ?_⟩
  refine a2 ⟨H, Hb, g⟩ Hb g (L2.start N vs) _ n H _ _ (RS.start hsame hf hd ha) hl (hs _ _ _ hsp) ?_
  refine ⟨fun H0' g' σ' ρ' H' _ _ r z => ?_, fun H0' g' σ' ρ' H' v x _ _ r h1 _ z => ?_, fun _ _ _ _ _ _ _ _ z => z.elim, fun _ _ _ _ _ _ _ _ z => z.elim, fun _ _ _ _ _ _ _ _ _ _ _ z _ => z.elim⟩
  · exact hq H0' H' .non (.d .none) r.toLeft .non z
  · obtain ⟨z1, z2⟩ := h1.ret r z
    exact hq H0' H' v x r.toLeft z1 z2
end
end B2

namespace B2
open PySem L2
def s_next : Spec2 := fun xs k _ => ∃ many : Int, xs = [.drw, .d (.int many)] ∧ 0 < many ∧ many.natAbs < 2 ^ 9000 ∧ ∀ r : Int, 0 ≤ r → r < many → k (.d (.int r))
theorem s_next_0 : ∀ xs k e, s_next xs k e → s_next xs k fun _ => False := fun _ _ _ h => h
abbrev rModP : R2 := rI (fun _ j => 0 < j) fun i j => .int (i % j)
abbrev rAddI : R2 := rI0 fun i j => .int (i + j)
abbrev rMulI : R2 := rI CMul fun i j => .int (i * j)
abbrev rDivW : R2 := rI CDivW fun i j => .int (i / j)
abbrev rPowW : R2 := rI CPowW fun i j => .int (i ^ j.toNat)
abbrev rGtI : R2 := rI0 fun i j => .bl (decide (j < i))
abbrev rLenQ (K : PySem.W.Frag) : List V → Hp → VK → Prop := fun xs H Q => ∃ p ys, xs = [.ref p] ∧ (SqL K H p ys ∨ SqT K H p ys) ∧ Q (.int ys.length) H
def tC7 : TA := tCons (tC (.int 2147483629)) (tCons (tC (.int 2147483587)) (tCons (tC (.int 2147483579)) (tCons (tC (.int 2147483563)) (tCons (tC (.int 2147483549)) (tCons (tC (.int 2147483543)) (tCons (tC (.int 2147483497)) tNil))))))
def primes7 : List V := [.int 2147483629, .int 2147483587, .int 2147483579, .int 2147483563, .int 2147483549, .int 2147483543, .int 2147483497]
def t_nextEnd (K : PySem.W.Frag) : TS :=
  tSeq (tAsg (tOp rModP (tOp rPowW (tOp rAddI (tVar 8) (tOp rMulI (tC (.int 7919)) (tVar 3))) (tC (.int 2))) (tC (.int 2147483477))) (gName 9))
  (tRet (tOp rModP (tOp rModP (tOp rAddI (tOp rMulI (tVar 9) (tC (.int 2147483423))) (tVar 8)) (tC (.int 4611686018427387847))) (tVar 1)))
def t_nextTop (K : PySem.W.Frag) (t : TS) : TS :=
  tSeq (tAsg (tVar 0) (gUnl K 3 (gCons (gName 2) (gCons (gName 3) (gCons (gName 4) gNil)))))
  (tSeq (tAsg (tOp rModP (tVar 3) (tCB (rLenQ K) (tCons (tVar 2) tNil))) (gName 5))
  (tSeq (tAsg (tOp rAddI (tVar 3) (tC (.int 1))) (gSub (tVar 0) (tC (.int 1)) rSetL))
  (tSeq (tIfS (tTest (tOp rGtI (tOp (rIxL K) (tVar 4) (tVar 5)) (tC (.int 0))))
    (tSeq (tAsg (tOp rModP (tOp (rIxL K) (tVar 4) (tVar 5)) (tVar 1)) (gName 6))
    (tSeq (tAsg (tOp rDivW (tOp (rIxL K) (tVar 4) (tVar 5)) (tVar 1)) (gSub (tVar 4) (tVar 5) rSetL))
    (tRet (tVar 6)))) tNext)
  (tSeq (tAsg (tLst tC7) (gName 7)) t))))
def t_nextA (K : PySem.W.Frag) : TS := t_nextTop K
  (tSeq (tAsg (tOp rAddI (tOp rAddI (tOp rModP (tOp (rIxL K) (tVar 2) (tVar 5)) (tC (.int 2147483647))) (tOp rMulI (tC (.int 48271)) (tVar 3))) (tC (.int 104729))) (gName 8))
  (tSeq (tAsg (tOp rModP (tOp rPowW (tVar 8) (tC (.int 3))) (tOp (rIxL K) (tVar 7) (tOp rModP (tVar 3) (tC (.int 7))))) (gName 8)) (t_nextEnd K)))
theorem bits_le {x : Int} {a : Nat} (h : x.natAbs < 2 ^ a) : Builtin.Int.intBits x ≤ a + 1 := by
  unfold Builtin.Int.intBits
  by_cases z : x.natAbs = 0
  · rw [if_pos (by simpa using z)]; omega
  · have := (Nat.log2_lt z).mpr h
    split <;> omega
theorem pow_ok {x : Int} {a : Nat} {j : Int} (h : x.natAbs < 2 ^ a) (h0 : 0 ≤ j) (h1 : ((a + 1 : Nat) : Int) * j ≤ 2 ^ 27) : CPowW x j := by
  refine ⟨h0, ?_⟩
  have := bits_le h
  exact Int.le_trans (Int.mul_le_mul_of_nonneg_right (by omega) h0) h1
theorem pow2_le {a b : Nat} (h : a ≤ b) : 2 ^ a ≤ 2 ^ b := Nat.pow_le_pow_right (by decide) h
theorem cnt_small {n k : Nat} (hk : k ≤ n) (hn : n ≤ LIM) {c d : Int} (hc : 0 ≤ c ∧ c < 2 ^ 40) (hd : 0 ≤ d ∧ d < 2 ^ 40) : (d + c * (k : Int)).natAbs < 2 ^ 40050 := by
  have h1 : k ≤ 2 ^ 40000 := Nat.le_trans hk hn
  obtain ⟨c', rfl⟩ : ∃ c' : Nat, c = c' := ⟨c.toNat, by omega⟩
  obtain ⟨d', rfl⟩ : ∃ d' : Nat, d = d' := ⟨d.toNat, by omega⟩
  have e : ((d' : Int) + (c' : Int) * (k : Int)).natAbs = d' + c' * k := by
    rw [← Int.natCast_mul, ← Int.natCast_add, Int.natAbs_natCast]
  rw [e]
  have h2 : c' < 2 ^ 40 := by omega
  have h3 : d' < 2 ^ 40 := by omega
  have h4 : c' * k ≤ 2 ^ 40 * 2 ^ 40000 := Nat.mul_le_mul (Nat.le_of_lt h2) h1
  have h5 : (2 : Nat) ^ 40 * 2 ^ 40000 = 2 ^ 40040 := by rw [← Nat.pow_add]
  have h6 : (2 : Nat) ^ 40 ≤ 2 ^ 40040 := pow2_le (by decide)
  have h7 : (2 : Nat) ^ 40050 = 2 ^ 40040 * 2 ^ 10 := by rw [← Nat.pow_add]
  rw [h7]
  have h8 : (2 : Nat) ^ 10 = 1024 := by decide
  rw [h8]
  omega
section
variable {K : PySem.W.Frag} {mg : MG} {vs : List V} {H : Hp} {Q : VK} {E : XK}
theorem getL {α : Type} {xs : List α} {i : Nat} (h : i < xs.length) : xs[i]? = some xs[i] := List.getElem?_eq_getElem h
theorem sixteen : (7 : Nat) ≤ sizeLine := by rw [sizeLine_eq]; decide
theorem prime_at (j : Nat) (h : j < 7) : ∃ p : Int, atI primes7 (j : Int) = some (.int p) ∧ 0 < p ∧ p < 2 ^ 31 := by
  have : j = 0 ∨ j = 1 ∨ j = 2 ∨ j = 3 ∨ j = 4 ∨ j = 5 ∨ j = 6 := by omega
  rcases this with rfl | rfl | rfl | rfl | rfl | rfl | rfl <;> exact ⟨_, rfl, by decide, by decide⟩
theorem next_reads (t : TS) (ht : ∀ (D : Ends) (a b c p : Addr) (many cell : Int) (k n at_ : Nat) (cs : List Int) (H : Hp) (v6 : Option V), 0 < many → k ≤ n → n ≤ LIM → at_ < cs.length → cs[at_]? = some cell → H b = some (.lst (cs.map V.int)) → H p = some (.lst primes7) →
      (∀ r : Int, 0 ≤ r → r < many → D.rt (.int r) H) → t D [some (.ref a), some (.int many), some (.ref b), some (.int (k : Nat)), some (.ref c), some (.int (at_ : Nat)), v6, some (.ref p), none, none] H)
    (h : liftS K mg 1 2 s_next vs H Q E) : t_nextTop K t { nx := fun _ H' => Q .non H', rt := Q } (vs.map some ++ List.replicate (10 - vs.length) none) H := by
  obtain ⟨hlen, Hb, g, n, xs, kk, e, hl, hs, hf, hd, ha, ⟨many, rfl, hm, hb, hk⟩, hq, _⟩ := h
  cases ha with
  | cons a1 a2 => cases a2 with
    | cons a2 a3 =>
    cases a3
    cases (show Dq K Hb _ (.int many) from a2)
    obtain ⟨g', rfl, rfl⟩ := (show ∃ g', g = some g' ∧ _ = V.ref g'.a from a1)
    have dk := hd g' rfl
    obtain ⟨k, cs, rs, hkn, h1, h2, h3, h4, h5, h6⟩ := dk.ex
    have hpos : (0 : Int) < (cs.map V.int).length := by rw [List.length_map]; omega
    -- cells, count, rests = drawn
    refine ⟨_, rfl, g'.a, _, rfl, SqL.of h1, rfl, .ref g'.b, _, rfl, .int (k : Nat), _, rfl, .ref g'.c, _, rfl, rfl, ?_⟩
    -- at = count % len(cells)
    refine ⟨_, rfl, _, rfl, g'.b, _, rfl, .inl (SqL.of h2), (k : Nat), _, rfl, rfl, hpos, ?_⟩
    obtain ⟨at_, eat⟩ : ∃ at_ : Nat, ((k : Int) % ((cs.map V.int).length : Nat)) = (at_ : Nat) ∧ at_ < cs.length := by
      refine ⟨k % cs.length, ?_, Nat.mod_lt _ h5⟩
      rw [List.length_map]
      first | exact (Int.natCast_emod _ _).symm | exact (Int.ofNat_emod _ _).symm | simp
    obtain ⟨eat, hat⟩ := eat
    -- drawn[1] = count + 1
    refine ⟨_, rfl, k, 1, rfl, rfl, _, rfl, g'.a, _, 1, 1, rfl, rfl, h1, rfl, ?_⟩
    have eset : ([V.ref g'.b, V.int (k : Nat), V.ref g'.c].set 1 (.int ((k : Int) + 1))) = [V.ref g'.b, V.int ((k + 1 : Nat)), V.ref g'.c] := by
      show [V.ref g'.b, V.int ((k : Int) + 1), V.ref g'.c] = _
      rw [Int.natCast_add]; rfl
    rw [eset]
    have hatr : at_ < rs.length := by omega
    have c3 : (upd H g'.a (.lst [V.ref g'.b, V.int ((k + 1 : Nat)), V.ref g'.c])) g'.c = some (.lst (rs.map V.int)) := by rw [upd_ne (Ne.symm dk.ac)]; exact h3
    have c2 : (upd H g'.a (.lst [V.ref g'.b, V.int ((k + 1 : Nat)), V.ref g'.c])) g'.b = some (.lst (cs.map V.int)) := by rw [upd_ne (Ne.symm dk.ab)]; exact h2
    have c1 : (upd H g'.a (.lst [V.ref g'.b, V.int ((k + 1 : Nat)), V.ref g'.c])) g'.a = some (.lst [V.ref g'.b, V.int ((k + 1 : Nat)), V.ref g'.c]) := upd_same
    have ir : atI (rs.map V.int) (at_ : Int) = some (.int rs[at_]) := atI_nat (by rw [List.getElem?_map, getL hatr]; rfl)
    -- what is left at the end of each way
    have fin : ∀ (H' : Hp) (r : Int) (rs' : List Int), 0 ≤ r → r < many → rs'.length = rs.length → H' g'.a = some (.lst [V.ref g'.b, V.int ((k + 1 : Nat)), V.ref g'.c]) → H' g'.b = some (.lst (cs.map V.int)) → H' g'.c = some (.lst (rs'.map V.int)) → (∀ p o, H p = some o → ¬ InG (some g') p → H' p = some o) → Q (.int r) H' := fun H' r rs' r0 r1 rl q1 q2 q3 q4 => by
      refine hq Hb H' (.int r) (.d (.int r)) ⟨Same.refl _, fun p o e => .inl e, fun p o e => q4 p o (hs p o e) fun z => ?_, q4, fun g2 e => ?_, hf⟩ (.int r) (hk r r0 r1)
      · rw [hf p z] at e; cases e
      · cases e
        exact ⟨dk.ab, dk.ac, dk.bc, k + 1, cs, rs', by omega, q1, q2, q3, by omega, h5, h6⟩
    refine ⟨_, rfl, _, rfl, g'.c, _, _, _, rfl, rfl, SqL.of c3, by rw [eat]; exact ir, rs[at_], 0, rfl, rfl, _, rfl, ?_⟩
    by_cases hr : 0 < rs[at_]
    · show (if decide (0 < rs[at_]) = true then _ else _)
      rw [if_pos (decide_eq_true hr)]
      refine ⟨_, rfl, _, rfl, g'.c, _, _, _, rfl, rfl, SqL.of c3, by rw [eat]; exact ir, _, rfl, rs[at_], many, rfl, rfl, hm, ?_⟩
      refine ⟨_, rfl, _, rfl, g'.c, _, _, _, rfl, rfl, SqL.of c3, by rw [eat]; exact ir, _, rfl, rs[at_], many, rfl, rfl, wide_div hm hb (by decide) (Nat.le_refl _), _, rfl, _, rfl, g'.c, _, _, at_, rfl, rfl, c3, ?_, ?_⟩
      · rw [eat]
        unfold ixN
        rw [if_pos (by omega), if_pos (by rw [List.length_map]; omega), Int.toNat_natCast]
      · refine ⟨_, rfl, ?_⟩
        have em : (rs.map V.int).set at_ (.int (rs[at_] / many)) = (rs.set at_ (rs[at_] / many)).map V.int := by rw [List.map_set]
        rw [em]
        refine fin _ _ (rs.set at_ (rs[at_] / many)) (Int.emod_nonneg _ (by omega)) (Int.emod_lt_of_pos _ hm) (by rw [List.length_set]) ?_ ?_ upd_same fun p o e z => ?_
        · rw [upd_ne dk.ac]; exact c1
        · rw [upd_ne dk.bc]; exact c2
        · rw [upd_ne (fun q : p = g'.c => z (.inr (.inr q))), upd_ne (fun q : p = g'.a => z (.inl q))]; exact e
    · show (if decide (0 < rs[at_]) = true then _ else _)
      rw [if_neg (fun z => hr (of_decide_eq_true z))]
      refine ⟨sixteen, fun p hp => ?_⟩
      have nb : g'.b ≠ p := ne_of_none c2 hp
      have nc : g'.c ≠ p := ne_of_none c3 hp
      have na : g'.a ≠ p := ne_of_none c1 hp
      have ecat : (V.int ((k : Int) % ((cs.map V.int).length : Nat))) = V.int (at_ : Nat) := by rw [eat]
      show t _ [some (.ref g'.a), some (.int many), some (.ref g'.b), some (.int (k : Nat)), some (.ref g'.c), some (V.int ((k : Int) % ((cs.map V.int).length : Nat))), none, some (.ref p), none, none] _
      rw [ecat]
      refine ht _ g'.a g'.b g'.c p many cs[at_] k n at_ cs _ none hm hkn (by omega) hat (getL hat) ?_ upd_same fun r r0 r1 => ?_
      · rw [upd_ne nb]; exact c2
      · refine fin _ r rs r0 r1 rfl ?_ ?_ ?_ fun q o e z => ?_
        · rw [upd_ne na]; exact c1
        · rw [upd_ne nb]; exact c2
        · rw [upd_ne nc]; exact c3
        · have : upd H g'.a (.lst [V.ref g'.b, V.int ((k + 1 : Nat)), V.ref g'.c]) q = some o := by rw [upd_ne (fun x : q = g'.a => z (.inl x))]; exact e
          rw [upd_ne (ne_of_none this hp)]; exact this
theorem next_end {D : Ends} {many m8 : Int} {k n : Nat} {s0 s2 s4 s5 s6 s7 s9 : Option V} {H : Hp} (hm : 0 < many) (hkn : k ≤ n) (hn : n ≤ LIM) (h8 : 0 ≤ m8 ∧ m8 < 2 ^ 31) (q : ∀ r : Int, 0 ≤ r → r < many → D.rt (.int r) H) :
    t_nextEnd K D [s0, some (.int many), s2, some (.int (k : Nat)), s4, s5, s6, s7, some (.int m8), s9] H := by
  refine ⟨_, rfl, _, rfl, 7919, k, rfl, rfl, .inl ⟨by decide, by decide⟩, m8, _, rfl, rfl, _, 2, rfl, rfl, pow_ok (cnt_small hkn hn (c := 7919) (d := m8) ⟨by decide, by decide⟩ ⟨by omega, by omega⟩) (by decide) (by decide), _, 2147483477, rfl, rfl, (by show (0 : Int) < _; decide), ?_⟩
  have b1 := Int.emod_nonneg ((m8 + 7919 * (k : Int)) ^ (2 : Int).toNat) (b := 2147483477) (by decide)
  have b2 := Int.emod_lt_of_pos ((m8 + 7919 * (k : Int)) ^ (2 : Int).toNat) (b := 2147483477) (by decide)
  refine ⟨_, rfl, _, 2147483423, rfl, rfl, .inr ⟨by decide, by decide⟩, _, rfl, _, m8, rfl, rfl, _, 4611686018427387847, rfl, rfl, (by show (0 : Int) < _; decide), _, rfl, _, many, rfl, rfl, hm, ?_⟩
  exact q _ (Int.emod_nonneg _ (by omega)) (Int.emod_lt_of_pos _ hm)
theorem next_A (h : liftS K mg 1 2 s_next vs H Q E) : t_nextA K { nx := fun _ H' => Q .non H', rt := Q } (vs.map some ++ List.replicate (10 - vs.length) none) H := by
  refine next_reads _ (fun D a b c p many cell k n at_ cs H v6 hm hkn hn hat hc hb hp q => ?_) h
  have ib : atI (cs.map V.int) (at_ : Int) = some (.int cell) := atI_nat (by rw [List.getElem?_map, hc]; rfl)
  have e1 := Int.emod_nonneg cell (b := 2147483647) (by decide)
  have e2 := Int.emod_lt_of_pos cell (b := 2147483647) (by decide)
  refine ⟨_, rfl, _, rfl, b, _, _, _, rfl, rfl, SqL.of hb, ib, cell, 2147483647, rfl, rfl, (by show (0 : Int) < _; decide), _, rfl, 48271, k, rfl, rfl, .inl ⟨by decide, by decide⟩, _, _, rfl, rfl, _, 104729, rfl, rfl, ?_⟩
  obtain ⟨pr, hpr, p0, p1⟩ := prime_at (k % 7) (Nat.mod_lt _ (by decide))
  have ek : (k : Int) % 7 = ((k % 7 : Nat) : Int) := by omega
  have sm : (cell % 2147483647 + 48271 * (k : Int) + 104729).natAbs < 2 ^ 40050 := by
    have := cnt_small hkn hn (c := 48271) (d := cell % 2147483647 + 104729) ⟨by decide, by decide⟩ ⟨by omega, by omega⟩
    have e3 : cell % 2147483647 + 48271 * (k : Int) + 104729 = cell % 2147483647 + 104729 + 48271 * (k : Int) := by omega
    rw [e3]; exact this
  refine ⟨_, rfl, _, 3, rfl, rfl, pow_ok sm (by decide) (by decide), _, rfl, _, rfl, k, 7, rfl, rfl, (by show (0 : Int) < _; decide), p, _, _, _, rfl, rfl, SqL.of hp, by rw [ek]; exact hpr, _, pr, rfl, rfl, p0, ?_⟩
  exact next_end (K := K) hm hkn hn ⟨Int.emod_nonneg _ (by omega), Int.lt_trans (Int.emod_lt_of_pos _ p0) p1⟩ q
end
abbrev rInt1 : List V → Hp → VK → Prop := fun xs H Q => (∃ i, xs = [.int i] ∧ Q (.int i) H) ∨ ∃ k, xs = [.bl k] ∧ Q (.int (if k then 1 else 0)) H
abbrev rGeI : R2 := rI0 fun i j => .bl (decide (j ≤ i))
def t_draws (K : PySem.W.Frag) : TS :=
  tSeq (tAsg (tOp rCat (tCB (rListA K) (tCons (tSl (rSlL K) (tVar 0) tNoPart (tPart (tC (.int 63)))) tNil)) (tOp rRep (tLst (tCons (tC (.int 0)) tNil)) (tCB rInt1 (tCons (tOp rEq (tCB (rLenQ K) (tCons (tVar 0) tNil)) (tC (.int 0))) tNil)))) (gName 1))
  (tRet (tLst (tCons (tVar 1) (tCons (tC (.int 0)) (tCons (tLc (iList K (tVar 1)) (gName 2) tYes (tOp rMulI (tVar 2) (tCB rInt1 (tCons (tOp rGeI (tVar 2) (tOp rPowW (tC (.int 10)) (tC (.int 18)))) tNil))) [2]) tNil)))))
def spDraws (K : PySem.W.Frag) : Sp := fun vs H Q _ => ∃ (a : Addr) (ns : List Int), vs = [.ref a] ∧ SqL K H a (ns.map V.int) ∧ ns.length ≤ 63 ∧
  ∀ (g : Gs) (H' : Hp), DrawOk H' g 0 → (∀ p, InG (some g) p → H p = none) → Same H H' → Q (.ref g.a) H'
def mulBig (x : Int) : Int := x * (if decide (10 ^ (18 : Int).toNat ≤ x) = true then 1 else 0)
theorem draws_reads {K : PySem.W.Frag} {vs : List V} {H : Hp} {Q : VK} {E : XK} (h : spDraws K vs H Q E) : t_draws K { nx := fun _ H' => Q .non H', rt := Q } (vs.map some ++ List.replicate (3 - vs.length) none) H := by
  obtain ⟨a, ns, rfl, hS, hlen, hq⟩ := h
  -- script[:63], list(..)
  refine ⟨_, rfl, 63, rfl, a, _, rfl, hS, fun p1 n1 => ⟨p1, _, rfl, .inl (SqL.of upd_same), fun p2 n2 => ?_⟩⟩
  have ecut : cutV (ns.map V.int) none (some 63) = ns.map V.int := by
    unfold cutV
    rw [HT.sIx_none, List.drop_zero, Nat.sub_zero]
    have : HT.sIx (ns.map V.int).length (ns.map V.int).length (some ((63 : Nat) : Int)) = min 63 (ns.map V.int).length := HT.sIx_nat _ _ 63
    have e2 : (63 : Int) = ((63 : Nat) : Int) := rfl
    rw [e2, this, List.take_of_length_le]
    rw [List.length_map]; omega
  rw [ecut] at n2 ⊢
  have s1 : Same H (upd H p1 (.lst (ns.map V.int))) := fun b o e => by rw [upd_ne (ne_of_none e n1)]; exact e
  have s2 : Same (upd H p1 (.lst (ns.map V.int))) (upd (upd H p1 (.lst (ns.map V.int))) p2 (.lst (ns.map V.int))) := fun b o e => by rw [upd_ne (ne_of_none e n2)]; exact e
  have m2 : H p2 = none := by
    cases z : H p2 with
    | none => rfl
    | some o => rw [s1 _ _ z] at n2; cases n2
  generalize eH2 : upd (upd H p1 (.lst (ns.map V.int))) p2 (.lst (ns.map V.int)) = H2 at s2 ⊢
  have h2 : H2 p2 = some (.lst (ns.map V.int)) := by rw [← eH2]; exact upd_same
  -- [0] * int(len(script) == 0)
  refine ⟨by rw [sizeLine_eq]; show 1 ≤ 16777216; decide, fun p3 n3 => ?_⟩
  have s3 : Same H2 (upd H2 p3 (.lst [V.int 0])) := fun b o e => by rw [upd_ne (ne_of_none e n3)]; exact e
  have hS3 : SqL K (upd H2 p3 (.lst [V.int 0])) a (ns.map V.int) := s3.seq (s2.seq (s1.seq hS))
  refine ⟨_, rfl, a, _, rfl, .inl hS3, rfl, .inr ⟨_, rfl, p3, _, _, rfl, rfl, upd_same, ?_, ?_, ?_, fun p4 n4 => ?_⟩⟩
  · split <;> decide
  · split <;> decide
  · rw [sizeLine_eq]; split <;> decide
  generalize ek : (if decide (V.int ((ns.map V.int).length : Nat) = V.int 0) = true then (1 : Int) else 0) = k at n4 ⊢
  have s4 : Same (upd H2 p3 (.lst [V.int 0])) (upd (upd H2 p3 (.lst [V.int 0])) p4 (.lst (List.replicate k.toNat [V.int 0]).flatten)) := fun b o e => by rw [upd_ne (ne_of_none e n4)]; exact e
  -- the cells
  have hrep : ∃ zs : List Int, (List.replicate k.toNat [V.int 0]).flatten = zs.map V.int ∧ zs.length ≤ 1 ∧ 0 < (ns ++ zs).length := by
    by_cases hn : ns = []
    · subst hn
      have : k = 1 := by rw [← ek]; rfl
      rw [this]
      exact ⟨[0], rfl, by decide, by decide⟩
    · have hl : 0 < ns.length := List.length_pos_iff.mpr hn
      have : k = 0 := by
        rw [← ek, if_neg]
        intro z
        have := of_decide_eq_true z
        injection this with z2
        rw [List.length_map] at z2
        omega
      rw [this]
      exact ⟨[], rfl, by decide, by simp; omega⟩
  obtain ⟨zs, ez, hz1, hz2⟩ := hrep
  rw [ez] at s4 ⊢
  generalize eH4 : upd (upd H2 p3 (.lst [V.int 0])) p4 (.lst (zs.map V.int)) = H4 at s4 ⊢
  have h4 : H4 p4 = some (.lst (zs.map V.int)) := by rw [← eH4]; exact upd_same
  have h24 : H4 p2 = some (.lst (ns.map V.int)) := s4 _ _ (s3 _ _ h2)
  refine ⟨p2, p4, _, _, rfl, rfl, h24, h4, ?_, fun p5 n5 => ?_⟩
  · rw [List.length_map, List.length_map, sizeLine_eq]; omega
  rw [← List.map_append]
  generalize ecs : ns ++ zs = cs at hz2 ⊢
  have hcl : cs.length ≤ 64 := by rw [← ecs, List.length_append]; omega
  have s5 : Same H4 (upd H4 p5 (.lst (cs.map V.int))) := fun b o e => by rw [upd_ne (ne_of_none e n5)]; exact e
  generalize eH5 : upd H4 p5 (.lst (cs.map V.int)) = H5 at s5 ⊢
  have h5 : H5 p5 = some (.lst (cs.map V.int)) := by rw [← eH5]; exact upd_same
  have sAll : Same H H5 := (((s1.trans s2).trans s3).trans s4).trans s5
  have f5 : H p5 = none := Same.free (((s1.trans s2).trans s3).trans s4) n5
  -- return [cells, 0, [..]]
  refine ⟨_, rfl, _, rfl, p5, rfl, ⟨_, SqL.of h5⟩, fun D nD => ?_⟩
  refine lc_list (K := K) (a := p5) (xs := cs.map V.int) (fun i H' => Same H5 H' ∧ H' D = some (.lst ((cs.take i).map fun x => V.int (mulBig x)))) ?_ (fun i H' _ hp => SqL.of (hp.1 _ _ h5)) ?_ ?_
  · exact ⟨fun b o e => by rw [upd_ne (ne_of_none e nD)]; exact e, upd_same⟩
  · rintro i y H' hi ⟨hs, hD⟩
    obtain ⟨x, hx, rfl⟩ : ∃ x, cs[i]? = some x ∧ y = V.int x := by
      rw [List.getElem?_map] at hi
      cases e : cs[i]? with
      | none => rw [e] at hi; cases hi
      | some x => rw [e] at hi; exact ⟨x, rfl, (Option.some.inj hi).symm⟩
    refine ⟨rfl, ?_⟩
    refine ⟨_, rfl, _, rfl, 10, 18, rfl, rfl, ⟨by decide, by decide⟩, x, _, rfl, rfl, .inr ⟨_, rfl, x, _, rfl, rfl, .inr (by split <;> decide), _, hD, ?_, ?_, ?_⟩⟩
    · have := (List.getElem?_eq_some_iff.mp hx).1
      rw [List.length_map, List.length_take, sizeLine_eq]; omega
    · have : D ≠ D ∨ True := .inr trivial
      exact fun b o e => by
        have : b ≠ D := fun z => by rw [z, nD] at e; cases e
        rw [upd_ne this]; exact hs b o e
    · rw [upd_same]
      have e1 : cs.take (i + 1) = cs.take i ++ [x] := by
        rw [List.take_succ, hx]; rfl
      rw [e1, List.map_append]
      rfl
  · rintro H' ⟨hs, hD⟩
    rw [List.length_map, List.take_length] at hD
    refine ⟨by rw [sizeLine_eq]; show 3 ≤ 16777216; decide, fun p6 n6 => ?_⟩
    have fD : H D = none := Same.free sAll nD
    have f6 : H p6 = none := Same.free (sAll.trans hs) n6
    have n56 : p5 ≠ p6 := ne_of_none (hs _ _ h5) n6
    have nD6 : D ≠ p6 := ne_of_none hD n6
    have n5D : p5 ≠ D := ne_of_none h5 nD
    refine hq ⟨p6, p5, D⟩ _ ⟨Ne.symm n56, Ne.symm nD6, n5D, 0, cs, cs.map mulBig, Nat.le_refl _, upd_same, ?_, ?_, by rw [List.length_map], hz2, hcl⟩ ?_ ?_
    · show upd H' p6 _ p5 = _
      rw [upd_ne n56]; exact hs _ _ h5
    · show upd H' p6 _ D = _
      rw [upd_ne nD6, List.map_map]; exact hD
    · rintro p (rfl | rfl | rfl)
      · exact f6
      · exact f5
      · exact fD
    · exact (sAll.trans hs).trans fun b o e => by rw [upd_ne (ne_of_none e n6)]; exact e
def spLaw (K : PySem.W.Frag) : Sp := fun vs H Q _ => ∃ (a : Addr) (ns : List Int), vs = [.ref a] ∧ SqL K H a (ns.map V.int) ∧ ns.length ≤ 63 ∧ ∀ H', Q (.bl true) H'
structure DrawsAt (P : Program) (w : World) (K : PySem.W.Frag) (mg : MG) (base : Heap) : Prop where
  ex : ∃ (f : Addr) (fd : FuncData), FnG P w K mg base CX0 1 f fd ["_law_script"] (spDraws K) ∧ mg "_law_draws" = some (.ref f) ∧ PySem.W.keepIn K (.ref f) = true ∧ Binds K fd ["_law_script"] []
open PyProof.Rows (envOfC)
theorem fn_law {P : Program} {w : World} {K : PySem.W.Frag} {mg : MG} {base : Heap} {x qual : Str} {st : Stmt} {f : Addr} {fd : FuncData} {N : List Str} {k m : Nat} {s1 : Stmt} {rest : List Stmt} {wb : WS} (sr : Sr P base) (F : Fun K x qual st f fd) (S : FnScope N ["_law_script"] (defScope st)) (hd : defBody st = s1 :: rest) (hN1 : 2 ≤ N.length)
    (h1 : ∀ (cdv : Value) (A : Around) (outer : List PySem.Env) (sh : Shared) (H : Hp) (E : XK) (hr : Room k (A.deeper (envOfC qual (defScope st) sh.heap.objs.size f cdv))) (hg : Gd k (A.deeper (envOfC qual (defScope st) sh.heap.objs.size f cdv))), PS ((famN P w K mg base N qual (defScope st) f cdv A outer sh H E k S.nd hr hg sr ⟨S.gen, S.co⟩).X ()) s1 (tAsg (tCall (spDraws K) [] E0 (tCons (tVar 0) tNil)) (gName 1)))
    (hb : ∀ (cdv : Value) (A : Around) (outer : List PySem.Env) (sh : Shared) (H : Hp) (E : XK) (hr : Room k (A.deeper (envOfC qual (defScope st) sh.heap.objs.size f cdv))) (hg : Gd k (A.deeper (envOfC qual (defScope st) sh.heap.objs.size f cdv))), JSs (famN P w K mg base N qual (defScope st) f cdv A outer sh H E k S.nd hr hg sr ⟨S.gen, S.co⟩) (fun _ _ _ _ => False) m rest wb)
    (hm : m ≤ LIM) (hw : wb { nx := fun _ => False, rt := fun y => y = .d (.bool true) } (upE (fun _ => none) 1 (some .drw))) : FnG P w K mg base CX0 (k + 1) f fd ["_law_script"] (spLaw K) := by
  refine FunG.ok F S (fun vs H Q E h => by obtain ⟨a, ns, rfl, _⟩ := h; rfl) (fun cdv A outer sh H vs Q E hr hg h => ?_)
  obtain ⟨a, ns, rfl, hS, hlen, hq⟩ := h
  obtain ⟨t, a1, a2⟩ := hb cdv A outer sh H E hr hg
  refine ⟨_, by rw [hd]; exact pss_cons (h1 cdv A outer sh H E hr hg) (a1 ()), ?_⟩
  refine ⟨_, start_get (i := 0) rfl, a, ns, rfl, hS, hlen, fun g H' dk fr same => ?_⟩
  have hl : (L2.start N [V.ref a]).length = N.length := by
    unfold L2.start
    rw [List.length_append, List.length_map, List.length_replicate]
    show 1 + (N.length - 1) = _
    omega
  refine a2 ⟨H, fun _ => none, none⟩ (fun _ => none) (some g) _ (upE (fun _ => none) 1 (some .drw)) 0 H' _ _ ⟨Same.refl _, fun _ _ e => (nomatch e), fun _ _ e => (nomatch e), fun p o e _ => same p o e, fun g' e => by cases e; exact dk, fun _ _ => rfl, .inr ⟨rfl, fr⟩, fun i y q => ?_, fun i j p q a x y e1 _ _ _ f _ => ?_⟩ (by omega) hw ?_
  · by_cases hi : i = 1
    · subst hi
      rw [upE_same] at q; cases q
      exact ⟨.ref g.a, List.getElem?_set_self (by rw [hl]; omega), g, rfl, rfl⟩
    · rw [upE_ne hi] at q; cases q
  · by_cases hi : i = 1
    · subst hi
      rw [upE_same] at e1; cases e1
      exact f.elim
    · rw [upE_ne hi] at e1; cases e1
  · refine ⟨fun _ _ _ _ _ _ _ _ z => z.elim, fun H0' g' σ' ρ' H2 v y _ _ _ h1 _ z => ?_, fun _ _ _ _ _ _ _ _ z => z.elim, fun _ _ _ _ _ _ _ _ z => z.elim, fun _ _ _ _ _ _ _ _ _ _ _ z _ => z.elim⟩
    subst z
    cases (show Dq K H0' v (.bool true) from h1)
    exact hq H2
end B2

namespace B2
open PySem L2
theorem at_mk {K : PySem.W.Frag} {mg : MG} {h : Heap} {x : Str} {st : Stmt} {ps : List Str} {f : Addr} {od an : Option Addr} {sl : Array (Option Value)} {oc kV dc pm cd ct : Value} (X : K.In h) (G : h.Ns mainGlobals mg)
    (hb : ∀ (kV doc pm : Value) (an : Option Addr) (cdv ct : Value) (us : List Value), us.length = ps.length → bindArgs (PySem.W.fnOf x x (defArgs st) (defBody st) (defScope st) .none kV doc pm an cdv ct) ⟨us, []⟩ = pure (ps.zip us))
    (a : PySem.W.nsIn K mainGlobals x = some (some (.ref f))) (l : K.lookup f = some ⟨oc, od, .func (PySem.W.fnOf x x (defArgs st) (defBody st) (defScope st) .none kV dc pm an cd ct), sl⟩) (c : PySem.W.codeIn K cd x = true) (k : PySem.W.keepIn K (.ref f) = true) : At K mg x st ps :=
  ⟨f, _, fun_mk l c k, PySem.W.mg_of X G a, (fun_mk l c k).binds hb⟩
structure LawAt (K : PySem.W.Frag) (mg : MG) (x : Str) (st : Stmt) (p : Str) : Prop where
  ex : ∃ (f : Addr) (fd : FuncData), Fun K x x st f fd ∧ mg x = some (.ref f) ∧ ∀ (s : Shared) (v : Value), BindsTo s fd ⟨[v], []⟩ [(p, v)]
theorem law_mk {K : PySem.W.Frag} {mg : MG} {h : Heap} {x : Str} {st : Stmt} {p : Str} {f : Addr} {od an : Option Addr} {sl : Array (Option Value)} {oc kV dc pm cd ct : Value} (X : K.In h) (G : h.Ns mainGlobals mg)
    (hb : ∀ (kV doc pm : Value) (an : Option Addr) (cdv ct : Value) (s : Shared) (v : Value), BindsTo s (PySem.W.fnOf x x (defArgs st) (defBody st) (defScope st) .none kV doc pm an cdv ct) ⟨[v], []⟩ [(p, v)])
    (a : PySem.W.nsIn K mainGlobals x = some (some (.ref f))) (l : K.lookup f = some ⟨oc, od, .func (PySem.W.fnOf x x (defArgs st) (defBody st) (defScope st) .none kV dc pm an cd ct), sl⟩) (c : PySem.W.codeIn K cd x = true) (k : PySem.W.keepIn K (.ref f) = true) : LawAt K mg x st p :=
  ⟨f, _, fun_mk l c k, PySem.W.mg_of X G a, hb _ _ _ _ _ _⟩
section
variable {ι : Type} {Φ : Fam ι} {W : WX}
theorem je_globI {x : Str} {pos : Pos} {i : Int} (c : ∃ t, Φ.mg x = some (.int i t)) (hg : ∀ j, Gl (Φ.X j) x := by intro _; rfl) (hd : (x == ("__debug__" : Str)) = false := by decide) : JE Φ W 0 (.Name x pos) (wC (.int i)) := by
  obtain ⟨t, c⟩ := c
  exact je_glob (v := .int i) hg c ⟨t, rfl⟩ (fun _ => .int i) hd
end
end B2

namespace B2
open PySem L2
def ev (l : List (Option X2)) : Env := fun i => (l[i]?).join
theorem forL_ind {gt : WG} {b : WS} {D : Ends2} (I : List PyData → Env → Prop)
    (step : ∀ d ds ρ, I (d :: ds) ρ → (∀ ρ', I ds ρ' → forL gt b D ds ρ') → gt d ρ fun ρ' => b { D with nx := forL gt b D ds, ct := forL gt b D ds, bk := D.nx } ρ')
    (done : ∀ ρ, I [] ρ → D.nx ρ) : ∀ ds ρ, I ds ρ → forL gt b D ds ρ
  | [], ρ, h => done ρ h
  | d :: ds, ρ, h => step d ds ρ h fun ρ' h' => forL_ind I step done ds ρ' h'
theorem iteI {c : Prop} [Decidable c] {A B : Prop} (h : c → A) (h' : ¬ c → B) : if c then A else B := by
  by_cases e : c
  · rw [if_pos e]; exact h e
  · rw [if_neg e]; exact h' e
def has (ρ : Env) : List (Nat × X2) → Prop
  | [] => True
  | (i, x) :: r => ρ i = some x ∧ has ρ r
def put (ρ : Env) : List (Nat × X2) → Env
  | [] => ρ
  | (i, x) :: r => upE (put ρ r) i (some x)
theorem has_put {ρ : Env} : ∀ {l : List (Nat × X2)}, has ρ l → ρ = put ρ l
  | [], _ => rfl
  | (i, x) :: r, h => by
    have e := has_put (l := r) h.2
    show ρ = upE (put ρ r) i (some x)
    rw [← e]
    funext j
    unfold upE
    by_cases z : j = i
    · rw [if_pos z, z]; exact h.1
    · rw [if_neg z]
end B2
namespace B2
open PySem L2
theorem lcL_ind {gt : WG} {wt : WT} {we : W2} {ρb : Env} {k : List PyData → Prop} (I : List PyData → List PyData → Prop)
    (step : ∀ d ds acc, I (d :: ds) acc → (∀ acc', I ds acc' → lcL gt wt we ρb k ds acc') → gt d ρb fun ρ2 => wt noX ρ2 fun b ρ3 => ρ3 = ρ2 ∧ if b = true then we noX ρ3 (fun y ρ4 => ρ4 = ρ3 ∧ match y with
      | .d dy => lcL gt wt we ρb k ds (acc ++ [dy])
      | .own es => lcL gt wt we ρb k ds (acc ++ [.list es])
      | _ => False) else lcL gt wt we ρb k ds acc)
    (done : ∀ acc, I [] acc → k acc) : ∀ ds acc, I ds acc → lcL gt wt we ρb k ds acc
  | [], acc, h => done acc h
  | d :: ds, acc, h => step d ds acc h fun acc' h' => lcL_ind I step done ds acc' h'
end B2
namespace B2
open PySem L2
end B2

namespace B2
open PySem L2
section
variable {prog : Program} {w : World} {A : Around} {E : Value → Shared → Prop} {s : Shared} {l : Addr} {its : List Value} {ns : List Int} {Q : Value → Shared → Prop}
theorem it_tup {Q : Value → Shared → Prop} {xs : Array Value} (hl : s.heap.IsTuple l xs)
    (h : ∀ s₂ : Shared, s₂ = { s with heap := s.heap.push { cls := .type "tuple_iterator", data := .fields #[.ref l, .int 0 0] } } →
      (s₂.heap.IsTupleIter s.heap.objs.size l 0 ∧ s₂.heap.IsTuple l xs) → (∀ b ∈ [s.heap.objs.size, l], b < s₂.heap.objs.size) → l ≠ s.heap.objs.size → Q (.ref s.heap.objs.size) s₂) :
    wpAny (model prog w) A (pyIter (.ref l)) Q E s := by
  have hlt : l < s.heap.objs.size := by obtain ⟨_, e, _⟩ := hl; exact Heap.lt_size e
  refine wpAny_pyIter_tuple hl (h _ rfl ⟨⟨_, Heap.get?_push_size _ rfl, rfl, rfl⟩, hl.push _⟩ (fun b hb => ?_) (Nat.ne_of_lt hlt))
  show b < (s.heap.push _).objs.size
  rw [Heap.size_push]
  rcases List.mem_cons.mp hb with rfl | hb
  · exact Nat.lt_succ_self _
  · rcases List.mem_cons.mp hb with rfl | hb
    · exact Nat.lt_succ_of_lt hlt
    · cases hb
theorem old_keptT {h' : Heap} (hk : ∀ b o, b ∉ [s.heap.objs.size] → (s.heap.push { cls := .type "tuple_iterator", data := .fields #[.ref l, .int 0 0] }).get? b = some o → h'.get? b = some o) :
    ∀ b o, s.heap.get? b = some o → h'.get? b = some o := fun b o e => by
  refine hk b o (fun hm => ?_) (Heap.get?_push_of_some _ e)
  rcases List.mem_cons.mp hm with e1 | hm
  · exact absurd (e1 ▸ Heap.lt_size e) (Nat.lt_irrefl _)
  · cases hm
theorem max_rawT (hh : A.handled = none) (hl : s.heap.IsTuple l its.toArray) (hi : PyProof.Rows.IntsAre its ns) (hne : 0 < ns.length)
    (h : ∀ h' tk M t', (∀ b o, s.heap.get? b = some o → h'.get? b = some o) → M ∈ ns → (∀ a, a ∈ ns → a ≤ M) → Q (.int M t') { s with heap := h', toks := tk }) : wpAny (model prog w) A (call (.builtin "max") [.ref l]) Q E s := by
  obtain ⟨xs, e⟩ := hi.allInts.items
  have hn : numsOf (intItems xs).toList = ns := by rw [← e]; exact hi.numsOf
  rw [nums_intItems] at hn
  subst hn
  rw [e] at hl
  have hsz : 0 < xs.size := by simpa using hne
  refine PySem.call_max_walk (it_tup hl fun s₂ e st hfp hlI => ?_)
  subst e
  refine ⟨_, _, _, _, _, _, _, rfl, PySem.Walks.tuple (A := A.in1) hh _ l hlI (intItems xs), st, hfp, by simpa [intItems] using hsz, CmpOf.ints_gt (numAt xs) (fun _ _ => intItems_at), fun v h' tk hP hk => ?_⟩
  have hv : (intItems xs)[argBest (fun i j => decide (numAt xs i > numAt xs j)) (xs.size - 1)]? = some v := by simpa [intItems] using hP
  obtain ⟨t, rfl⟩ := intItems_at hv
  obtain ⟨h1, h2⟩ := argBest_gt (numAt xs) (xs.size - 1)
  refine h h' tk _ t (old_keptT hk) ?_ fun a ha => ?_
  · rw [numAt_eq]; exact PySem.getD_mem (by rw [List.length_map, Array.length_toList]; omega)
  · obtain ⟨j, hj, rfl⟩ := mem_getD ha
    rw [List.length_map, Array.length_toList] at hj
    rw [← numAt_eq]; exact h2 j (by omega)
theorem min_rawT (hh : A.handled = none) (hl : s.heap.IsTuple l its.toArray) (hi : PyProof.Rows.IntsAre its ns) (hne : 0 < ns.length)
    (h : ∀ h' tk M t', (∀ b o, s.heap.get? b = some o → h'.get? b = some o) → M ∈ ns → (∀ a, a ∈ ns → M ≤ a) → Q (.int M t') { s with heap := h', toks := tk }) : wpAny (model prog w) A (call (.builtin "min") [.ref l]) Q E s := by
  obtain ⟨xs, e⟩ := hi.allInts.items
  have hn : numsOf (intItems xs).toList = ns := by rw [← e]; exact hi.numsOf
  rw [nums_intItems] at hn
  subst hn
  rw [e] at hl
  have hsz : 0 < xs.size := by simpa using hne
  refine PySem.call_min_walk (it_tup hl fun s₂ e st hfp hlI => ?_)
  subst e
  refine ⟨_, _, _, _, _, _, _, rfl, PySem.Walks.tuple (A := A.in1) hh _ l hlI (intItems xs), st, hfp, by simpa [intItems] using hsz, CmpOf.ints_lt (numAt xs) (fun _ _ => intItems_at), fun v h' tk hP hk => ?_⟩
  have hv : (intItems xs)[argBest (fun i j => decide (numAt xs i < numAt xs j)) (xs.size - 1)]? = some v := by simpa [intItems] using hP
  obtain ⟨t, rfl⟩ := intItems_at hv
  obtain ⟨h1, h2⟩ := argBest_lt (numAt xs) (xs.size - 1)
  refine h h' tk _ t (old_keptT hk) ?_ fun a ha => ?_
  · rw [numAt_eq]; exact PySem.getD_mem (by rw [List.length_map, Array.length_toList]; omega)
  · obtain ⟨j, hj, rfl⟩ := mem_getD ha
    rw [List.length_map, Array.length_toList] at hj
    rw [← numAt_eq]; exact h2 j (by omega)
end
def rMaxT (K : PySem.W.Frag) : List V → Hp → VK → Prop := fun vs H Q => ∃ (a : Addr) (ns : List Int), vs = [V.ref a] ∧ SqT K H a (ns.map V.int) ∧ 0 < ns.length ∧ ∀ m, m ∈ ns → (∀ y, y ∈ ns → y ≤ m) → Q (.int m) H
def rMinT (K : PySem.W.Frag) : List V → Hp → VK → Prop := fun vs H Q => ∃ (a : Addr) (ns : List Int), vs = [V.ref a] ∧ SqT K H a (ns.map V.int) ∧ 0 < ns.length ∧ ∀ m, m ∈ ns → (∀ y, y ∈ ns → m ≤ y) → Q (.int m) H
theorem cr_maxT {X : Cx} (hc : X.calm = true) : CallR X (.builtin "max") (rMaxT X.K) := by
  intro pins s σ H vs us Q I r h
  obtain ⟨a, ns, rfl, hs, hne, q⟩ := h
  obtain ⟨its, rv, hl, _⟩ := I.tuple hs
  rw [Vals.ref1 r]
  exact max_rawT (I.ok.hd hc) hl rv.ints hne fun h' tk m t' hk h1 h2 => ⟨.int _, H, I.kept hk, ⟨_, rfl⟩, q m h1 h2⟩
theorem cr_minT {X : Cx} (hc : X.calm = true) : CallR X (.builtin "min") (rMinT X.K) := by
  intro pins s σ H vs us Q I r h
  obtain ⟨a, ns, rfl, hs, hne, q⟩ := h
  obtain ⟨its, rv, hl, _⟩ := I.tuple hs
  rw [Vals.ref1 r]
  exact min_rawT (I.ok.hd hc) hl rv.ints hne fun h' tk m t' hk h1 h2 => ⟨.int _, H, I.kept hk, ⟨_, rfl⟩, q m h1 h2⟩
section
variable {ι : Type} {Φ : Fam ι} {W : WX} {m m1 m2 m3 : Nat}
def maxX (ds : List PyData) (k : X2 → Prop) : Prop := match ds with
  | [.tuple ds] => match allInts ds with
    | some ns => 0 < ns.length ∧ ∀ M, M ∈ ns → (∀ y ∈ ns, y ≤ M) → k (.d (.int M))
    | none => False
  | ds => maxD ds k
def minX (ds : List PyData) (k : X2 → Prop) : Prop := match ds with
  | [.tuple ds] => match allInts ds with
    | some ns => 0 < ns.length ∧ ∀ M, M ∈ ns → (∀ y ∈ ns, M ≤ y) → k (.d (.int M))
    | none => False
  | ds => minD ds k
theorem rdsK_mk {ρ : Env} : ∀ {xs : List X2} {ds : List PyData} {P : List PyData → Prop}, Paired (fun x d => rd ρ x = some d) xs ds → P ds → rdsK ρ xs P
  | [], _, _, .nil, h => h
  | x :: xs, d :: ds, P, .cons e t, h => by
    show rdK ρ x _
    unfold rdK
    rw [e]
    exact rdsK_mk (P := fun ds => P (d :: ds)) t h
theorem csim_maxX {K : PySem.W.Frag} : CSim K (fun xs H Q => rMaxA K xs H Q ∨ rMaxT K xs H Q) maxX := by
  intro B H0 g σ ρ n H vs xs k Q r h1 hf q
  obtain ⟨ds, e, hf2⟩ := rdsK_of hf
  unfold maxX at hf2
  split at hf2
  · split at hf2
    · rename_i ds ns hn
      cases e with
      | cons e1 e => cases e; cases h1 with
        | cons a1 h1 =>
          cases h1
          obtain ⟨p, vs, rfl, s1, d1⟩ := r.tuple a1.r e1
          rw [allInts_eq hn] at d1
          rw [d1.ints] at s1
          exact .inr ⟨p, ns, rfl, s1, hf2.1, fun M hM hl => r.flat (fun _ => .int _) q (hf2.2 M hM hl)⟩
    · exact hf2.elim
  · exact .inl (csim_max B H0 g σ ρ n H vs xs k Q r h1 (rdsK_mk e hf2) q)
theorem csim_minX {K : PySem.W.Frag} : CSim K (fun xs H Q => rMinA K xs H Q ∨ rMinT K xs H Q) minX := by
  intro B H0 g σ ρ n H vs xs k Q r h1 hf q
  obtain ⟨ds, e, hf2⟩ := rdsK_of hf
  unfold minX at hf2
  split at hf2
  · split at hf2
    · rename_i ds ns hn
      cases e with
      | cons e1 e => cases e; cases h1 with
        | cons a1 h1 =>
          cases h1
          obtain ⟨p, vs, rfl, s1, d1⟩ := r.tuple a1.r e1
          rw [allInts_eq hn] at d1
          rw [d1.ints] at s1
          exact .inr ⟨p, ns, rfl, s1, hf2.1, fun M hM hl => r.flat (fun _ => .int _) q (hf2.2 M hM hl)⟩
    · exact hf2.elim
  · exact .inl (csim_min B H0 g σ ρ n H vs xs k Q r h1 (rdsK_mk e hf2) q)
theorem je_maxX {a : Expr} {as : List Expr} {p pos : Pos} {wa : WA} (hm : Φ.mg "max" = none) (ha : JA Φ W m (a :: as) wa) (hg : ∀ i, Gl (Φ.X i) "max" := by intro _; rfl) (he : ∀ i, starEach (a :: as) (Φ.X i).env = (false, eval a (Φ.X i).env) :: starEach as (Φ.X i).env := by intro _; rfl) (hpl : ∀ i, (backTo pos (starEach as (Φ.X i).env)).any (·.1) = false := by intro _; rfl) (hcm : Φ.cm = true := by rfl) : JE Φ W m (.Call (.Name "max" p) (a :: as) [] pos) (wCB maxX wa) :=
  je_cb (id := "max") (r := fun xs H Q => rMaxA Φ.K xs H Q ∨ rMaxT Φ.K xs H Q) (f := maxX) (fun i => CallR.or (CallR.or (call_max2 (Φ.calm hcm i)) (by rw [← Φ.hK i]; exact cr_max (Φ.calm hcm i))) (by rw [← Φ.hK i]; exact cr_maxT (Φ.calm hcm i))) csim_maxX hm (by decide +kernel) ha hg (by decide) (by decide) he hpl
theorem je_minX {a : Expr} {as : List Expr} {p pos : Pos} {wa : WA} (hm : Φ.mg "min" = none) (ha : JA Φ W m (a :: as) wa) (hg : ∀ i, Gl (Φ.X i) "min" := by intro _; rfl) (he : ∀ i, starEach (a :: as) (Φ.X i).env = (false, eval a (Φ.X i).env) :: starEach as (Φ.X i).env := by intro _; rfl) (hpl : ∀ i, (backTo pos (starEach as (Φ.X i).env)).any (·.1) = false := by intro _; rfl) (hcm : Φ.cm = true := by rfl) : JE Φ W m (.Call (.Name "min" p) (a :: as) [] pos) (wCB minX wa) :=
  je_cb (id := "min") (r := fun xs H Q => rMinA Φ.K xs H Q ∨ rMinT Φ.K xs H Q) (f := minX) (fun i => CallR.or (CallR.or (call_min2 (Φ.calm hcm i)) (by rw [← Φ.hK i]; exact cr_min (Φ.calm hcm i))) (by rw [← Φ.hK i]; exact cr_minT (Φ.calm hcm i))) csim_minX hm (by decide +kernel) ha hg (by decide) (by decide) he hpl
def sindexD (s : Str) (d : PyData) (k : X2 → Prop) : Prop := match d with
  | .str t => match Builtin.Str.occurrences s t 0 s.length 1 with
    | i :: _ => k (.d (.int (i : Nat)))
    | [] => False
  | _ => False
theorem je_sindex {o a : Expr} {apos pos : Pos} {wo wa : W2} (ho : JE Φ W m1 o wo) (ha : JE Φ W m2 a wa)
    (hs : ∀ i, starEach [a] (Φ.X i).env = [(false, eval a (Φ.X i).env)] := by intro _; rfl) (hbase : ∀ i, attributeBase o "index" (Φ.X i).env (eval o (Φ.X i).env) = eval o (Φ.X i).env := by intro _; rfl) (hline : (apos.endLine == pos.line) = true := by rfl) :
    JE Φ W (m1 + m2) (.Call (.Attribute o "index" apos) [a] [] pos) (wM1 sindexD wo wa) :=
  je_m1 PySem.F.slot_str_index PySem.F.type_str_index (fun i => mt_sindex) (fun B H0 g σ ρ n H s v x d k Q r h e hf q => by
    unfold sindexD at hf
    split at hf
    · split at hf
      · rename_i i rest ho
        rw [r.str h e]; exact ⟨s, _, i, rest, rfl, rfl, ho, r.flat (fun _ => .int _) q hf⟩
      · exact hf.elim
    · exact hf.elim) ho ha hs hbase hline
def signV (z : Str) : List V := z.cps.toList.map fun c => .str ⟨#[c]⟩
theorem vals_signs {x : Str} {acc : Array Value} (h : ItemsOf (SignAt x) acc x.cps.size) : Vals (signV x) acc.toList := by
  obtain ⟨hn, hi⟩ := h
  have key : ∀ (cs : List Nat) (us : List Value), us.length = cs.length → (∀ (j : Nat) (v : Value), us[j]? = some v → ∃ c u, cs[j]? = some c ∧ v = Value.str ⟨#[c]⟩ u) → Vals (cs.map fun c => V.str ⟨#[c]⟩) us := by
    intro cs
    induction cs with
    | nil => intro us hl _; cases us with
      | nil => exact .nil
      | cons _ _ => simp at hl
    | cons c cs ih =>
      intro us hl hj
      cases us with
      | nil => simp at hl
      | cons u us =>
        obtain ⟨c', t, h1, h2⟩ := hj 0 u rfl
        simp at h1
        subst h1 h2
        exact .cons ⟨t, rfl⟩ (ih us (by simpa using hl) fun j v e => by
          obtain ⟨c', t, h1, h2⟩ := hj (j + 1) v (by simpa using e)
          exact ⟨c', t, by simpa using h1, h2⟩)
  refine key x.cps.toList acc.toList (by simpa using hn) fun j v e => ?_
  obtain ⟨c, u, h1, h2⟩ := hi j v (by simpa using e)
  exact ⟨c, u, by simpa using h1, h2⟩
def rListS : List V → Hp → VK → Prop := fun xs H Q => ∃ z, xs = [.str z] ∧ z.length ≤ sizeLine ∧ ∀ l, H l = none → Q (.ref l) (upd H l (.lst (signV z)))
theorem call_listS {X : Cx} (hc : X.calm = true) : CallR X (.type "list") rListS := by
  intro pins s σ H xs us Q I r h
  obtain ⟨z, rfl, hz, q⟩ := h
  obtain ⟨u, rfl, t, rfl⟩ := vals1 r
  refine PySem.call_list_str (I.ok.hd hc) z t (fun h' tk acc' c' hk hS hit => ?_) hz
  have hv := vals_signs hit
  refine ⟨.ref s.heap.objs.size, _, I.laid (t' := tk) hk (Nat.le_refl _) (show ObjOk X.prog X.w _ h' _ (.lst (signV z)) from ⟨?_, acc'.toList, c', hv, hS⟩), rfl, q _ (I.hok.fresh (Nat.le_refl _))⟩
  show (z.cps.toList.map _).length ≤ _
  rw [List.length_map, Array.length_toList]
  exact hz
theorem dqa_signs {K : PySem.W.Frag} {H : Hp} (z : Str) : DqA K H (signV z) (signs z) := by
  unfold signV signs
  have : ∀ cs : List Nat, DqA K H (cs.map fun c => V.str ⟨#[c]⟩) (cs.map fun c => PyData.str ⟨#[c]⟩) := by
    intro cs
    induction cs with
    | nil => exact .nil
    | cons c cs ih => exact .cons (.str _) ih
  exact this _
theorem csim_list {K : PySem.W.Frag} : CSim K (rListA K) cbList := csim1 (f := listD) fun B H0 g σ ρ n H v x d k Q r h e hf q => by
    unfold listD at hf
    split at hf
    · obtain ⟨p, vs, rfl, s1, d1⟩ := r.list h e
      exact ⟨p, vs, rfl, .inl (SqL.of s1), fun l hl => r.newL d1 hl q hf⟩
    · obtain ⟨p, vs, rfl, s1, d1⟩ := r.tuple h e
      exact ⟨p, vs, rfl, .inr s1, fun l hl => r.newL d1 hl q hf⟩
    · exact hf.elim
def listX (ds : List PyData) (k : X2 → Prop) : Prop := match ds with
  | [.str z] => z.length ≤ 16777216 ∧ k (.own (signs z))
  | ds => cbList ds k
theorem csim_listX {K : PySem.W.Frag} : CSim K (fun xs H Q => rListA K xs H Q ∨ rListS xs H Q) listX := by
  intro B H0 g σ ρ n H vs xs k Q r h1 hf q
  obtain ⟨ds, e, hf2⟩ := rdsK_of hf
  unfold listX at hf2
  split at hf2
  · cases e with
    | cons e1 e => cases e; cases h1 with
      | cons a1 h1 =>
        cases h1
        rw [r.str a1.r e1]
        exact .inr ⟨_, rfl, by rw [sizeLine_eq]; exact hf2.1, fun p hp => r.newL (dqa_signs _) hp q hf2.2⟩
  · exact .inl (csim_list B H0 g σ ρ n H vs xs k Q r h1 (rdsK_mk e hf2) q)
theorem je_listX {a : Expr} {p pos : Pos} {wa : WA} (hm : Φ.mg "list" = none) (ha : JA Φ W m [a] wa) (hg : ∀ i, Gl (Φ.X i) "list" := by intro _; rfl) (he : ∀ i, starEach [a] (Φ.X i).env = (false, eval a (Φ.X i).env) :: starEach [] (Φ.X i).env := by intro _; rfl) (hcm : Φ.cm = true := by rfl) : JE Φ W m (.Call (.Name "list" p) [a] [] pos) (wCB listX wa) :=
  je_ct (T := "list") (r := fun xs H Q => rListA Φ.K xs H Q ∨ rListS xs H Q) (f := listX) (fun i => CallR.or (by rw [← Φ.hK i]; exact call_listA) (call_listS (Φ.calm hcm i))) csim_listX hm (by decide +kernel) ha hg (by decide) (by decide) he (fun _ => rfl)
end
section
open PySem.Spec PyProof.Rows
theorem tuple_mulSame (l : Addr) (items : Array Value) (n : Nat) (dd : Option Addr) (sl : Array (Option Value)) (x : Int) (u : Tok) (c0 : (decide (x < -(2 ^ 63)) || decide (x ≥ 2 ^ 63)) = false) (c1 : (items.isEmpty || x == 1) = true) :
    Meets (Builtin.«tuple.__mul__» ⟨[.ref l, .int x u], []⟩) (fun _ R s => s.heap.get? l = some { cls := .type "tuple", dict := dd, data := .seq items n, slots := sl } ∧ R (.ok (.ret (Value.ref l))) s) :=
  .of_wp fun prog w A R s h => by
    obtain ⟨hp, g, d, tk, os⟩ := s
    obtain ⟨hl, h⟩ := h
    have f1 := AutoSeq1.idx_int
    wp_walk using wpAny_loadPart' hl
    repeat (first
      | (refine wpAny_ite_false (decide_eq_false (by rw [c0]; exact Bool.false_ne_true)) ?_; wp_walk using wpAny_loadPart' hl)
      | (refine wpAny_ite_true (decide_eq_true c1) ?_; wp_walk using wpAny_loadPart' hl))
    exact ⟨_, rfl, h⟩
theorem tuple_mulNone (l : Addr) (items : Array Value) (n : Nat) (dd : Option Addr) (sl : Array (Option Value)) (x : Int) (u : Tok) (c0 : (decide (x < -(2 ^ 63)) || decide (x ≥ 2 ^ 63)) = false) (c1 : (items.isEmpty || x == 1) = false) (c2 : (decide (x ≤ 0) || items.isEmpty) = true) :
    Meets (Builtin.«tuple.__mul__» ⟨[.ref l, .int x u], []⟩) (fun _ R s => s.heap.get? l = some { cls := .type "tuple", dict := dd, data := .seq items n, slots := sl } ∧
      R (.ok (.ret (Value.ref s.heap.objs.size))) { s with heap := s.heap.push { cls := Value.type "tuple", data := Data.seq #[] }, toks := s.toks }) :=
  .of_wp fun prog w A R s h => by
    obtain ⟨hp, g, d, tk, os⟩ := s
    obtain ⟨hl, h⟩ := h
    have f1 := AutoSeq1.idx_int
    wp_walk using wpAny_loadPart' hl
    repeat (first
      | (refine wpAny_ite_false (decide_eq_false (by rw [c0]; exact Bool.false_ne_true)) ?_; wp_walk using wpAny_loadPart' hl)
      | (refine wpAny_ite_false (decide_eq_false (by rw [c1]; exact Bool.false_ne_true)) ?_; wp_walk using wpAny_loadPart' hl)
      | (refine wpAny_ite_true (decide_eq_true c2) ?_; wp_walk using wpAny_loadPart' hl))
    exact ⟨_, rfl, h⟩
end
def rRepX (K : PySem.W.Frag) : R2 := fun x y H Q => ∃ l k xs, x = .ref l ∧ y = .int k ∧ SqT K H l xs ∧ -(2 ^ 63) ≤ k ∧ k ≤ 1000 ∧ xs.length ≤ 1000 ∧ ((xs = [] ∨ k = 1) → Q (.ref l) H) ∧ (¬ (xs = [] ∨ k = 1) → ∀ p, H p = none → Q (.ref p) (upd H p (.tup (List.replicate k.toNat xs).flatten)))
section
open PySem.Spec PyProof.Rows
variable {X : Cx}
theorem op_repX : OpR X (binaryOp .Mult) (rRepX X.K) := by
  intro pins s σ H x y v u Q I rx ry h
  obtain ⟨l, k, xs, hx, hy, hT, h1, h2, hz, q1, q2⟩ := h
  by_cases big : xs ≠ [] ∧ 2 ≤ k
  · exact op_repT pins s σ H x y v u Q I rx ry ⟨l, k, xs, hx, hy, hT, big.1, big.2, h2, hz, q2 (fun z => by
      rcases z with z | z
      · exact big.1 z
      · omega)⟩
  subst hx hy
  cases rx
  obtain ⟨t, rfl⟩ := ry
  obtain ⟨its, r, ⟨⟨cls, dd, data, sl⟩, ho, hc, n, hd⟩, hs⟩ := I.tuple hT
  simp only at hc hd
  subst hc hd
  have hle : its.length = xs.length := r.length.symm
  have c0 : (decide (k < -(2 ^ 63)) || decide (k ≥ 2 ^ 63)) = false := by
    rw [decide_eq_false (by omega), decide_eq_false (by omega)] <;> rfl
  by_cases same : xs = [] ∨ k = 1
  · have c1 : (its.toArray.isEmpty || k == 1) = true := by
      rcases same with e | e
      · have : its = [] := List.eq_nil_of_length_eq_zero (by rw [hle, e]; rfl)
        subst this
        rfl
      · rw [e, show ((1 : Int) == 1) = true from rfl, Bool.or_true]
    refine wpAny_binaryOp_repeat_ref (T := "tuple") (U := "int") (by decide) ⟨_, ho, rfl⟩ (fun s' => typeIs_int s' k t) noFill_tuple_mul F.fills_int_mul F.slot_int_rmul repeat_tuple F.slot_int_index.lookup
      (call_meets F.slot_int_rmul (typeIs_int s k t) F.entry_int_rmul (F.args_int_rmul_2 _ _) (int_rmul_tuple k t l its.toArray n dd sl)
        ⟨ho, rfl, ⟨_, ho, rfl⟩, call_meets F.slot_tuple_mul ⟨_, ho, rfl⟩ F.entry_tuple_mul (F.args_tuple_mul_2 _ _) (tuple_mulSame l its.toArray n dd sl k t c0 c1) ⟨ho, ?_⟩⟩)
    exact ⟨.ref l, H, I, rfl, q1 same⟩
  · have hn : its ≠ [] := fun e => same (.inl (List.eq_nil_of_length_eq_zero (by rw [← hle, e]; rfl)))
    have hi : its.toArray.isEmpty = false := by
      cases its with
      | nil => exact absurd rfl hn
      | cons a b => rfl
    have hk : k ≤ 0 := by
      by_cases z : 2 ≤ k
      · exact absurd ⟨fun e => same (.inl e), z⟩ big
      · have : k ≠ 1 := fun e => same (.inr e)
        omega
    have c1 : (its.toArray.isEmpty || k == 1) = false := by
      rw [hi, Bool.false_or]
      exact beq_eq_false_iff_ne.mpr (by omega)
    have c2 : (decide (k ≤ 0) || its.toArray.isEmpty) = true := by rw [decide_eq_true hk]; rfl
    refine wpAny_binaryOp_repeat_ref (T := "tuple") (U := "int") (by decide) ⟨_, ho, rfl⟩ (fun s' => typeIs_int s' k t) noFill_tuple_mul F.fills_int_mul F.slot_int_rmul repeat_tuple F.slot_int_index.lookup
      (call_meets F.slot_int_rmul (typeIs_int s k t) F.entry_int_rmul (F.args_int_rmul_2 _ _) (int_rmul_tuple k t l its.toArray n dd sl)
        ⟨ho, rfl, ⟨_, ho, rfl⟩, call_meets F.slot_tuple_mul ⟨_, ho, rfl⟩ F.entry_tuple_mul (F.args_tuple_mul_2 _ _) (tuple_mulNone l its.toArray n dd sl k t c0 c1 c2) ⟨ho, ?_⟩⟩)
    have e0 : k.toNat = 0 := by omega
    have q3 := q2 same
    rw [e0] at q3
    refine ⟨.ref s.heap.objs.size, _, I.laid (t' := s.toks) (o := .tup []) (fun b ob q => Heap.get?_push_of_some _ q) (Nat.le_refl _) ?_, rfl, q3 _ (I.hok.fresh (Nat.le_refl _))⟩
    exact ⟨by rw [sizeLine_eq]; simp, [], .nil, IsTup.new _ _⟩
end
section
variable {ι : Type} {Φ : Fam ι} {W : WX} {m m1 m2 m3 : Nat}
def rMulS : R2 := fun x y H Q => ∃ z j, x = .str z ∧ y = .int j ∧ -(2 ^ 63) ≤ j ∧ j ≤ 1000 ∧ z.length ≤ 10000 ∧ Q (.str (Txt.mul z j)) H
theorem op_mulS {X : Cx} : OpR X (binaryOp .Mult) rMulS := by
  intro pins s σ H x y v u Q I rx ry h
  obtain ⟨z, j, rfl, rfl, h1, h2, h3, q⟩ := h
  obtain ⟨t, rfl⟩ := rx
  obtain ⟨t2, rfl⟩ := ry
  refine PySem.SB.mul ⟨?_, fun a _ => ?_, fun a _ => ?_⟩ fun t' k => ⟨.str _, H, I.tok _, ⟨_, rfl⟩, q⟩
  · rw [decide_eq_false (by omega), decide_eq_false (by omega)] <;> rfl
  · have : (10000 : Int) ≤ (2 ^ 63 - 1) / j := by
      refine Int.le_ediv_of_mul_le (by omega) ?_
      omega
    omega
  · unfold Builtin.Str.tooLong
    rw [sizeLine_eq]
    have : z.length * j.toNat ≤ 10000 * 1000 := Nat.mul_le_mul h3 (by omega)
    exact decide_eq_false (by omega)
def mulX (a b : PyData) (k : X2 → Prop) : Prop := match a, b with
  | .str z, .int j => (-(2 ^ 63) ≤ j ∧ j ≤ 1000 ∧ z.length ≤ 10000) ∧ k (.d (.str (Txt.mul z j)))
  | .int i, .int j => MulOk i j ∧ k (.d (.int (i * j)))
  | .list xs, .int j => (-(2 ^ 63) ≤ j ∧ j < 2 ^ 63 ∧ xs.length * j.toNat ≤ 16777216) ∧ k (.own (List.replicate j.toNat xs).flatten)
  | .tuple xs, .int j => (-(2 ^ 63) ≤ j ∧ j ≤ 1000 ∧ xs.length ≤ 1000) ∧ k (.d (.tuple (List.replicate j.toNat xs).flatten))
  | _, _ => False
theorem rsim_mulX {K : PySem.W.Frag} : RSim K (fun x y H Q => rMulA K x y H Q ∨ rRepX K x y H Q ∨ rMulS x y H Q) mulX := by
  intro B H0 g σ ρ n H v1 v2 x1 x2 a b k Q r h1 e1 h2 e2 hf q
  unfold mulX at hf
  split at hf
  · rw [r.str h1 e1, r.int h2 e2]
    exact .inr (.inr ⟨_, _, rfl, rfl, hf.1.1, hf.1.2.1, hf.1.2.2, r.flat (fun _ => .str _) q hf.2⟩)
  · exact .inl (rsim_mul B H0 g σ ρ n H v1 v2 x1 x2 _ _ k Q r h1 e1 h2 e2 hf q)
  · exact .inl (rsim_mul B H0 g σ ρ n H v1 v2 x1 x2 _ _ k Q r h1 e1 h2 e2 hf q)
  · rename_i xs j
    obtain ⟨p, vs, rfl, s1, d1⟩ := r.tuple h1 e1
    rw [r.int h2 e2]
    refine .inr (.inl ⟨p, _, vs, rfl, rfl, s1, hf.1.1, hf.1.2.1, by rw [d1.length]; exact hf.1.2.2, fun z => ?_, fun z p2 hp => r.newT (d1.rep _) hp q hf.2⟩)
    have e0 : (List.replicate j.toNat xs).flatten = xs := by
      rcases z with z | z
      · subst z
        have : xs = [] := List.eq_nil_of_length_eq_zero (by rw [← d1.length]; rfl)
        subst this
        simp
      · subst z
        simp
    have hk := hf.2
    rw [e0] at hk
    exact q H0 H _ (.d (.tuple xs)) (Same.refl _) r (r.oldT h1 e1) hk
  · exact hf.elim
theorem je_mulX {a b : Expr} {pos : Pos} {wa wb : W2} (ha : JE Φ W m1 a wa) (hb : JE Φ W m2 b wb) : JE Φ W (m1 + m2) (.BinOp a .Mult b pos) (wBin mulX wa wb) := je_op (fun i => by rw [← Φ.hK i]; exact OpR.or op_mulA (OpR.or op_repX op_mulS)) rsim_mulX ha hb
end
end B2

namespace PyProof.Rows
open PySem
section
variable {prog : Program} {w : World} {A : Around} {E : Value → Shared → Prop} {s : Shared}
theorem collect_tup2 {l : Addr} {vs : List Value} {Q : List Value → Shared → Prop} (hl : s.heap.IsTuple l vs.toArray)
    (h : Q vs { s with heap := (s.heap.push (seqObj "list" #[] 0)).update s.heap.objs.size (Obj.mapSeq (· ++ vs.toArray)) }) (hsz : vs.length ≤ sizeLine) :
    wpAny (model prog w) A (collect (.ref l)) Q E s := by
  obtain ⟨o, ho, hc, n, hd⟩ := id hl
  unfold collect
  refine wpAny_bind (wpAny_runValue (codeAny_builtin entry_proto_collect' ?_))
  show wpAny _ _ (do again (.builtin "list.__iadd__" ⟨[← newList [], .ref l], []⟩)) _ _ s
  refine wpAny_bind (wpAny_newList (wpAny_pure ⟨Code.quiet_builtin _ (by decide +kernel), codeAny_builtin entry_list_iadd' ?_⟩))
  show wpAny _ _ (Builtin.List.listExtendWith (.ref s.heap.objs.size) (.ref l) (.ref s.heap.objs.size)) _ _ { s with heap := s.heap.push (seqObj "list" #[] 0) }
  unfold Builtin.List.listExtendWith
  have ho' : (s.heap.push (seqObj "list" #[] 0)).get? l = some o := Heap.get?_push_of_some _ ho
  refine wpAny_bind (wpAny_typeOf (T := "tuple") ⟨o, ho', hc⟩ ?_)
  have ht : (Value.type "tuple" == Value.type "tuple") = true := by rfl
  rw [if_pos (by rw [ht]; simp)]
  refine wpAny_bind (listItems_at ho' hd ?_)
  refine wpAny_bind (listItems_at (xs := #[]) (n := 0) (Heap.get?_push_size _ rfl) rfl ?_)
  rw [if_neg (by simp)]
  refine wpAny_bind (listUpdate_at (xs := #[]) (n := 0) (Heap.get?_push_size _ rfl) rfl ?_ (Nat.zero_le _) (by show (#[] ++ vs.toArray).size ≤ sizeLine + 1; simp only [Array.size_append, List.size_toArray, List.length_nil]; omega))
  refine wpAny_pure ?_
  show wpAny (model prog w) A (do
      let o ← load s.heap.objs.size
      match o.data with
      | .seq xs _ => pure xs.toList
      | _ => unsupported "internal:collect") Q E { s with heap := (s.heap.push (seqObj "list" #[] 0)).update s.heap.objs.size (Obj.mapSeq (· ++ vs.toArray)) }
  refine wpAny_bind (wpAny_load (get?_update_seq (Heap.get?_push_size _ rfl) _) ?_)
  show wpAny _ _ (pure ((#[] : Array Value) ++ vs.toArray).toList) Q E _
  rw [show ((#[] : Array Value) ++ vs.toArray).toList = vs by simp]
  exact wpAny_pure h
theorem sortedKT {κ : KeyKind} (hO : κ.OneLt) {l : Addr} {vs : List Value} {Q : Value → Shared → Prop} (hl : s.heap.IsTuple l vs.toArray) (h0 : KeysOf κ (pairsOf vs)) (hkk : ∀ v₁ v₂ rest, vs = v₁ :: v₂ :: rest → keyKind' (v₁ :: v₂ :: rest).toArray = pure oneType') (hL : vs.length ≤ sizeLine)
    (h : ∀ st' : SortSt, (arrOf st').Perm (pairsOf vs) → SortedToK κ (arrOf st') (pairsOf vs).size → Q (.ref (s.heap.objs.size + 1)) { s with heap := sortedAll s.heap vs ((arrOf st').map (·.2)) }) :
    wpAny (model prog w) A (call (.builtin "sorted") [.ref l]) Q E s := by
  refine Calls.call_function_entry kind_sorted plain_sorted entry_sorted (args_sorted1 _) ?_
  unfold Builtin.«sorted»
  refine wpAny_bind (m := checkCount "sorted" 1 1 _) (wpAny_pure ?_)
  refine wpAny_bind (collect_tup2 hl ?_ hL)
  refine wpAny_bind (wpAny_newList ?_)
  have hsz : ((s.heap.push (seqObj "list" #[] 0)).update s.heap.objs.size (Obj.mapSeq (· ++ vs.toArray))).objs.size = s.heap.objs.size + 1 := by
    rw [Heap.size_update, size_push']
  have hoL : (((s.heap.push (seqObj "list" #[] 0)).update s.heap.objs.size (Obj.mapSeq (· ++ vs.toArray))).push (seqObj "list" vs.toArray 0)).get? (s.heap.objs.size + 1) = some (seqObj "list" vs.toArray 0) := by
    rw [← hsz]; exact Heap.get?_push_size _ rfl
  show wpAny _ _ _ _ _ { s with heap := ((s.heap.push (seqObj "list" #[] 0)).update s.heap.objs.size (Obj.mapSeq (· ++ vs.toArray))).push (seqObj "list" vs.toArray 0) }
  rw [hsz]
  refine wpAny_bind (wpAny_holding (wpAny_call_entry slot_list_sort ⟨_, hoL, rfl⟩ entry_list_sort (list_sort_treeKAny hO hoL h0 hkk hL fun st' a1 a2 => ⟨_, rfl, ?_⟩) (args_list_sort _)))
  exact wpAny_pure ⟨_, rfl, h st' a1 a2⟩
theorem sorted_strsT {l : Addr} {vs : List Value} {ss : List Str} {Q : Value → Shared → Prop} (hl : s.heap.IsTuple l vs.toArray) (hS : StrsAre vs ss) (hL : vs.length ≤ sizeLine)
    (h : ∀ (out : Array Value) (ss' : List Str), StrsAre out.toList ss' → ss'.Perm ss → sortedS ss' = true → Q (.ref (s.heap.objs.size + 1)) { s with heap := sortedAll s.heap vs out }) :
    wpAny (model prog w) A (call (.builtin "sorted") [.ref l]) Q E s := by
  refine sortedKT strKind_oneLt hl hS.keysOf (fun v₁ v₂ rest e => keyKind_strs (by rw [← e]; exact hS)) hL fun st' hp hs => ?_
  obtain ⟨ss', h1, h2, h3⟩ := sorted_out_str hS hp hs
  exact h _ ss' h1 h2 h3
theorem sorted_intsT {l : Addr} {vs : List Value} {ns : List Int} {Q : Value → Shared → Prop} (hl : s.heap.IsTuple l vs.toArray) (hI : IntsAre vs ns) (hL : vs.length ≤ sizeLine)
    (h : ∀ (out : Array Value) (ns' : List Int), IntsAre out.toList ns' → ns'.Perm ns → ns'.Pairwise (· ≤ ·) → Q (.ref (s.heap.objs.size + 1)) { s with heap := sortedAll s.heap vs out }) :
    wpAny (model prog w) A (call (.builtin "sorted") [.ref l]) Q E s := by
  refine sortedKT intKind_oneLt hl hI.keysOfInt (fun v₁ v₂ rest e => keyKind_ints (by rw [← e]; exact hI)) hL fun st' hp hs => ?_
  obtain ⟨ns', h1, h2, h3⟩ := sorted_out hI hp (sortedTo_of_int hs)
  exact h _ ns' h1 h2 h3
end
end PyProof.Rows
namespace B2
open PySem L2
def rSortZ (K : PySem.W.Frag) : List V → Hp → VK → Prop := fun vs H Q => ∃ (a : Addr) (ns : List Int), vs = [V.ref a] ∧ (SqL K H a (ns.map V.int) ∨ SqT K H a (ns.map V.int)) ∧
  ∀ (ns' : List Int) (p : Addr), ns'.Perm ns → ns'.Pairwise (· ≤ ·) → H p = none → Q (.ref p) (upd H p (.lst (ns'.map V.int)))
def rSortS (K : PySem.W.Frag) : List V → Hp → VK → Prop := fun vs H Q => ∃ (a : Addr) (xs : List Str), vs = [V.ref a] ∧ (SqL K H a (xs.map V.str) ∨ SqT K H a (xs.map V.str)) ∧
  ∀ (ys : List Str) (p : Addr), ys.Perm xs → PyProof.Rows.sortedS ys = true → H p = none → Q (.ref p) (upd H p (.lst (ys.map V.str)))
theorem cr_sortZ {X : Cx} : CallR X (.builtin "sorted") (rSortZ X.K) := by
  intro pins s σ H vs us Q I r h
  obtain ⟨a, ns, rfl, hs, q⟩ := h
  rw [Vals.ref1 r]
  have fin : ∀ its : List Value, Vals (ns.map V.int) its → (ns.map V.int).length ≤ sizeLine → ∀ (out : Array Value) (ns' : List Int), PyProof.Rows.IntsAre out.toList ns' → ns'.Perm ns → ns'.Pairwise (· ≤ ·) → EP X pins σ Q (.ref (s.heap.objs.size + 1)) { s with heap := PyProof.Rows.sortedAll s.heap its out } := by
    intro its rv hz out ns' h1 h2 h3
    obtain ⟨ep, he'⟩ := PyProof.Rows.sortedAll_at s.heap its out
    have hlen : (ns'.map V.int).length ≤ sizeLine := by
      rw [List.length_map] at hz ⊢
      rw [h2.length_eq]; exact hz
    exact ⟨.ref _, upd H (s.heap.objs.size + 1) (.lst (ns'.map V.int)), I.laid (t' := s.toks) (fun _ _ => PyProof.Rows.sortedAll_old) (Nat.le_succ _) ⟨hlen, out.toList, ep, vals_of_ints h1, he'⟩, rfl, q ns' _ h2 h3 (I.hok.fresh (Nat.le_succ _))⟩
  rcases hs with hs | hs
  · obtain ⟨its, rv, hl, hz⟩ := I.list hs
    exact PyProof.Rows.sorted_intsAny hl.isList rv.ints (by rw [← rv.length]; exact hz) (fin its rv hz)
  · obtain ⟨its, rv, hl, hz⟩ := I.tuple hs
    exact PyProof.Rows.sorted_intsT hl rv.ints (by rw [← rv.length]; exact hz) (fin its rv hz)
theorem cr_sortS {X : Cx} : CallR X (.builtin "sorted") (rSortS X.K) := by
  intro pins s σ H vs us Q I r h
  obtain ⟨a, ns, rfl, hs, q⟩ := h
  rw [Vals.ref1 r]
  have fin : ∀ its : List Value, Vals (ns.map V.str) its → (ns.map V.str).length ≤ sizeLine → ∀ (out : Array Value) (ns' : List Str), PyProof.Rows.StrsAre out.toList ns' → ns'.Perm ns → PyProof.Rows.sortedS ns' = true → EP X pins σ Q (.ref (s.heap.objs.size + 1)) { s with heap := PyProof.Rows.sortedAll s.heap its out } := by
    intro its rv hz out ns' h1 h2 h3
    obtain ⟨ep, he'⟩ := PyProof.Rows.sortedAll_at s.heap its out
    have hlen : (ns'.map V.str).length ≤ sizeLine := by
      rw [List.length_map] at hz ⊢
      rw [h2.length_eq]; exact hz
    exact ⟨.ref _, upd H (s.heap.objs.size + 1) (.lst (ns'.map V.str)), I.laid (t' := s.toks) (fun _ _ => PyProof.Rows.sortedAll_old) (Nat.le_succ _) ⟨hlen, out.toList, ep, vals_of_strs h1, he'⟩, rfl, q ns' _ h2 h3 (I.hok.fresh (Nat.le_succ _))⟩
  rcases hs with hs | hs
  · obtain ⟨its, rv, hl, hz⟩ := I.list hs
    exact PyProof.Rows.sorted_strsAny hl.isList rv.strs (by rw [← rv.length]; exact hz) (fin its rv hz)
  · obtain ⟨its, rv, hl, hz⟩ := I.tuple hs
    exact PyProof.Rows.sorted_strsT hl rv.strs (by rw [← rv.length]; exact hz) (fin its rv hz)
section
variable {ι : Type} {Φ : Fam ι} {W : WX} {m m1 m2 m3 : Nat}
def sortedL (ds : List PyData) (k : X2 → Prop) : Prop := match allInts ds with
    | some ns => ∀ ms : List Int, ms.Perm ns → ms.Pairwise (· ≤ ·) → k (.own (ms.map PyData.int))
    | none => match allStrs ds with
      | some ns => ∀ ms : List Str, ms.Perm ns → PyProof.Rows.sortedS ms = true → k (.own (ms.map PyData.str))
      | none => False
def sortedX (d : PyData) (k : X2 → Prop) : Prop := match d with
  | .list ds => sortedL ds k
  | .tuple ds => sortedL ds k
  | _ => False
def cbSortedX : List PyData → (X2 → Prop) → Prop := fun ds k => match ds with | [d] => sortedX d k | _ => False
theorem je_sortedX {a : Expr} {p pos : Pos} {wa : WA} (hm : Φ.mg "sorted" = none) (ha : JA Φ W m [a] wa) (hg : ∀ i, Gl (Φ.X i) "sorted" := by intro _; rfl) (he : ∀ i, starEach [a] (Φ.X i).env = (false, eval a (Φ.X i).env) :: starEach [] (Φ.X i).env := by intro _; rfl) : JE Φ W m (.Call (.Name "sorted" p) [a] [] pos) (wCB cbSortedX wa) :=
  je_cb (id := "sorted") (r := fun vs H Q => rSortZ Φ.K vs H Q ∨ rSortS Φ.K vs H Q) (f := cbSortedX) (fun i => CallR.or (by rw [← Φ.hK i]; exact cr_sortZ) (by rw [← Φ.hK i]; exact cr_sortS)) (csim1 (f := sortedX) fun B H0 g σ ρ n H v x d k Q r h e hf q => by
    have key : ∀ (p : Addr) (vs : List V) (ds : List PyData), v = .ref p → (SqL Φ.K H p vs ∨ SqT Φ.K H p vs) → DqA Φ.K H0 vs ds → sortedL ds k → rSortZ Φ.K [v] H Q ∨ rSortS Φ.K [v] H Q := by
      intro p vs ds hv hs d1 hf
      unfold sortedL at hf
      split at hf
      · rename_i ns hn
        rw [allInts_eq hn] at d1
        rw [d1.ints] at hs
        rw [hv]
        exact .inl ⟨p, ns, rfl, hs, fun ns' p' h2 h3 hp => r.newL (DqA.of_ints ns') hp q (hf ns' h2 h3)⟩
      · split at hf
        · rename_i ns hn
          rw [allStrs_eq hn] at d1
          rw [d1.strs] at hs
          rw [hv]
          exact .inr ⟨p, ns, rfl, hs, fun ns' p' h2 h3 hp => r.newL (DqA.of_strs ns') hp q (hf ns' h2 h3)⟩
        · exact hf.elim
    unfold sortedX at hf
    split at hf
    · obtain ⟨p, vs, hv, s1, d1⟩ := r.list h e
      exact key p vs _ hv (.inl (SqL.of s1)) d1 hf
    · obtain ⟨p, vs, hv, s1, d1⟩ := r.tuple h e
      exact key p vs _ hv (.inr s1) d1 hf
    · exact hf.elim) hm (by decide +kernel) ha hg (by decide) (by decide) he (fun _ => rfl)
end
end B2

namespace B2
open PySem L2
section
variable {ι : Type} {Φ : Fam ι} {W : WX} {m m1 m2 m3 : Nat}
end
end B2

namespace B2
open PySem L2
section
variable {ι : Type} {Φ : Fam ι} {W : WX} {m m1 m2 m3 : Nat}
theorem sim_chain {K : PySem.W.Frag} {mg : MG} {r r' : R2} {f f' : PyData → PyData → (X2 → Prop) → Prop} {ta tb tc : TE} {wa wb wc : W2} (hr : RSim K r f) (hr' : RSim K r' f') (a2 : SimE K mg W m1 ta wa) (b2 : SimE K mg W m2 tb wb) (c2 : SimE K mg W m3 tc wc) :
    SimE K mg W (m1 + m2 + m3) (tChain r r' ta tb tc) (wChain f f' wa wb wc) := by
  intro B H0 g σ ρ n H e k Q rs l hw q xq
  refine a2 B H0 g σ ρ n H e _ _ rs (by omega) hw (fun H1 ρ1 Ha v1 x1 s1 r1 h1 q1 => ?_) (fun H0' ρ' H' nm cls d s r' => xq H0' ρ' H' nm cls d s (r'.count (by omega)))
  obtain ⟨H2, s2, r2, h2⟩ := r1.calm h1
  refine b2 B H2 g σ ρ1 (n + m1) Ha e _ _ r2 (by omega) q1 (fun H3 ρ3 Hb v2 x2 s3 r3 h3 q3 => ?_) (fun H0' ρ' H' nm cls d s r' => xq H0' ρ' H' nm cls d ((s1.trans s2).trans s) (r'.count (by omega)))
  obtain ⟨a, ea, q4⟩ := rdK_of q3
  obtain ⟨b, eb, q5⟩ := rdK_of q4
  obtain ⟨H4, s4, r4, h4⟩ := r3.calm h3
  have eb' : rd ρ3 (calm1 x2) = some b := by
    cases x2 with
    | ob o => cases o <;> first | exact eb | cases eb
    | _ => first | exact eb | (simp only [calm1, rd] at eb ⊢; exact eb) | (cases eb)
  refine hr B H4 g σ ρ3 _ Hb v1 v2 (calm1 x1) (calm1 x2) a b _ _ r4 ((h2.mono s3).mono s4).r ea h4.r eb' q5 fun H5 Hc v x s5 r5 h5 q6 => ?_
  split at q6
  · rename_i cc
    cases (show Dq K H5 v (.bool cc) from h5)
    cases cc with
    | false =>
      rw [if_neg Bool.false_ne_true] at q6
      exact ⟨false, rfl, iteF (q H5 ρ3 Hc _ (.d (.bool false)) ((((s1.trans s2).trans s3).trans s4).trans s5) (r5.count (by omega)) (.bl _) q6)⟩
    | true =>
    rw [if_pos rfl] at q6
    refine ⟨true, rfl, iteT ?_⟩
    refine c2 B H5 g σ ρ3 _ Hc e _ _ r5 (by omega) q6 (fun H6 ρ6 Hd v6 x6 s6 r6 h6 q7 => ?_) (fun H0' ρ' H' nm cls d s r' => xq H0' ρ' H' nm cls d (((((s1.trans s2).trans s3).trans s4).trans s5).trans s) (r'.count (by omega)))
    obtain ⟨b', eb', q8⟩ := rdK_of q7
    obtain ⟨c, ec, q9⟩ := rdK_of q8
    exact hr' B H6 g σ ρ6 _ Hd v2 v6 (calm1 x2) x6 b' c _ Q r6 ((h4.mono s5).mono s6).r eb' h6 ec q9 fun H7 He v7 x7 s7 r7 h7 q10 => q H7 ρ6 He v7 x7 ((((((s1.trans s2).trans s3).trans s4).trans s5).trans s6).trans s7) (r7.count (by omega)) h7 q10
  · exact q6.elim
theorem jt_chain2 {op op' : CmpOp} {a b c : Expr} {pos : Pos} {r r' : R2} {f f' : PyData → PyData → (X2 → Prop) → Prop} {wa wb wc : W2} (ho : ∀ i, OpR (Φ.X i) (compareOp op) r) (ho' : ∀ i, OpR (Φ.X i) (compareOp op') r') (hr : RSim Φ.K r f) (hr' : RSim Φ.K r' f') (ha : JE Φ W m1 a wa) (hb : JE Φ W m2 b wb) (hc : JE Φ W m3 c wc)
    (hm : lastMarks [op, op'] [b, c] = false := by rfl) : JT Φ W (m1 + m2 + m3) (.Compare a [op, op'] [b, c] pos) (wTest (wChain f f' wa wb wc)) :=
  let ⟨ta, a1, a2⟩ := ha
  let ⟨tb, b1, b2⟩ := hb
  let ⟨tc, c1, c2⟩ := hc
  ⟨_, fun i => pt_chain (ho i) (ho' i) (a1 i) (b1 i) (c1 i) hm, simT_of (sim_chain hr hr' a2 b2 c2)⟩
theorem jt_leLe {a b c : Expr} {pos : Pos} {wa wb wc : W2} (ha : JE Φ W m1 a wa) (hb : JE Φ W m2 b wb) (hc : JE Φ W m3 c wc) (hm : lastMarks [.LtE, .LtE] [b, c] = false := by rfl) : JT Φ W (m1 + m2 + m3) (.Compare a [.LtE, .LtE] [b, c] pos) (wTest (wChain leD leD wa wb wc)) := jt_chain2 (fun _ => op_leA) (fun _ => op_leA) rsim_ord rsim_ord ha hb hc hm
end
theorem const_int {K : PySem.W.Frag} {mg : MG} {h : Heap} {x : Str} {i : Int} {t : Tok} (X : K.In h) (G : h.Ns mainGlobals mg) (a : PySem.W.nsIn K mainGlobals x = some (some (.int i t))) : ∃ t, mg x = some (.int i t) := ⟨t, PySem.W.mg_of X G a⟩
end B2

namespace B2
open PySem L2 PySem.Calls
open PyProof.Rows (envOfC)
structure Def2X (P : Program) (w : World) (K : PySem.W.Frag) (mg : MG) (base : Heap) (x : Str) (j : Nat) (ps : List Str) (mf len : Nat) (s : Spec2) : Prop where
  ex : ∃ (f : Addr) (fd : FuncData), FnG P w K mg base (L2N.CX P w) j f fd ps (liftS K mg mf len s) ∧ mg x = some (.ref f) ∧ PySem.W.keepIn K (.ref f) = true ∧ Binds K fd ps []
section
variable {ι : Type} {Φ : Fam ι} {W : WX} {m m1 m2 m3 : Nat}
structure ErrC (K : PySem.W.Frag) (mg : MG) (x : Str) : Prop where
  ex : ∃ (C : Addr) (B newId initId : String) (bmB : List Value), ExcBaseFacts B newId initId bmB ∧ PySem.W.excIn K C bmB newId = true ∧ mg x = some (.ref C) ∧ PySem.W.keepIn K (.ref C) = true ∧ PySem.W.subIn K (.ref C) (.type "BaseException") = some true ∧ PySem.W.typeIn K (.ref C) = some (.type "type")
end
section
variable {P : Program} {w : World} {K : PySem.W.Frag} {mg : MG} {base : Heap} {m : Nat}
end
end B2

namespace B2
open PySem L2 PySem.Calls PyProof.Rows
structure TrIx {ι : Type} (Φ : Fam ι) (W : WX) where
  i : ι
  pn : List (Addr × Obj)
  xe : Value → Shared → Prop
  tk : L2N.Takes ((Φ.X i).tr pn xe) W
  ps : PassesOwn (model (Φ.X i).prog (Φ.X i).w) (Φ.X i).A (Φ.X i).env xe
def Fam.tr {ι : Type} (Φ : Fam ι) (W : WX) : Fam (TrIx Φ W) where
  X := fun q => (Φ.X q.i).tr q.pn q.xe
  K := Φ.K
  mg := Φ.mg
  N := Φ.N
  sc := Φ.sc
  k := Φ.k
  P := Φ.P
  w := Φ.w
  base := Φ.base
  hK := fun q => Φ.hK q.i
  hmg := fun q => Φ.hmg q.i
  hN := fun q => Φ.hN q.i
  hsc := fun q => Φ.hsc q.i
  hP := fun q => Φ.hP q.i
  hw := fun q => Φ.hw q.i
  hbase := fun q => Φ.hbase q.i
  rm := fun q => Φ.rm q.i
  room := fun h q => Φ.room h q.i
  gd := fun q => Φ.gd q.i
  sr := Φ.sr
  stk := fun q => Φ.stk q.i
  cm := Φ.cm
  calm := fun h q => Φ.calm h q.i
  nd := Φ.nd
  pass := fun q => q.ps
structure SuIx {ι : Type} (Φ : Fam ι) (cls : Value) (d : Option Addr) where
  i : ι
  oe : Obj
  pn : List (Addr × Obj)
  hz : L2N.Zn cls d oe
  hf : ∃ vs, oe.data = .fields vs
structure ErrM (K : PySem.W.Frag) (mg : MG) (x : Str) (errs : List Str) (f : Str → Bool) : Prop where
  ex : ∃ c, (mg x = some c ∨ (mg x = none ∧ bootBuiltins x = some c ∧ x ≠ "__name__")) ∧ ∀ nm ∈ errs, ∀ cls, mg nm = some cls → PySem.W.exmOne K cls c = some (f nm)
section
variable {ι : Type} {Φ : Fam ι} {W : WX} {m m1 m2 m3 : Nat}
end
end B2

namespace B2
open PySem PySem.Spec L2 PySem.Calls
section
variable {ι : Type} {Φ : Fam ι} {W : WX} {m m1 m2 m3 : Nat}
end
end B2

namespace B2
open PySem PySem.Spec L2 PySem.Calls
structure Sub1 (K : PySem.W.Frag) (mg : MG) (C : Addr) (nm : Str) (r : Bool) : Prop where
  ex : ∃ D, mg nm = some (.ref D) ∧ PySem.W.subIn K (.ref D) (.ref C) = some r
end B2

namespace B2
open PySem L2
section
variable {α β τ : Type}
theorem forL_put {gt : WG} {b : WS} {D : Ends2} (enc : α → PyData) (E : τ → List (Nat × X2)) (I : List α → τ → Prop)
    (step : ∀ a as t ρ, I (a :: as) t → (∀ t' ρ', I as t' → has ρ' (E t') → forL gt b D (as.map enc) ρ') → gt (enc a) (put ρ (E t)) fun ρ' => b { D with nx := forL gt b D (as.map enc), ct := forL gt b D (as.map enc), bk := D.nx } ρ')
    (done : ∀ t ρ, I [] t → D.nx (put ρ (E t))) : ∀ (as : List α) (t : τ) (ρ : Env), I as t → has ρ (E t) → forL gt b D (as.map enc) ρ
  | [], t, ρ, h, hρ => by rw [has_put hρ]; exact done t ρ h
  | a :: as, t, ρ, h, hρ => by rw [has_put hρ]; exact step a as t ρ h fun t' ρ' h' hρ' => forL_put enc E I step done as t' ρ' h' hρ'
theorem forL_of {gt : WG} {b : WS} {D : Ends2} (enc : α → PyData) (E : τ → List (Nat × X2)) (I : List α → τ → Prop) (as : List α) (t : τ)
    {ds : List PyData} {ρ : Env} (hds : ds = as.map enc) (hρ : has ρ (E t)) (h : I as t)
    (step : ∀ a as t ρ, I (a :: as) t → (∀ t' ρ', I as t' → has ρ' (E t') → forL gt b D (as.map enc) ρ') → gt (enc a) (put ρ (E t)) fun ρ' => b { D with nx := forL gt b D (as.map enc), ct := forL gt b D (as.map enc), bk := D.nx } ρ')
    (done : ∀ t ρ, I [] t → D.nx (put ρ (E t))) : forL gt b D ds ρ := by
  rw [hds]; exact forL_put enc E I step done as t ρ h hρ
def lcT (gt : WG) (wt : WT) (we : W2) (ρb : Env) (d : PyData) (R : PyData → Prop) (S : Prop) : Prop := gt d ρb fun ρ2 => wt noX ρ2 fun b ρ3 => ρ3 = ρ2 ∧ if b = true then we noX ρ3 (fun y ρ4 => ρ4 = ρ3 ∧ match y with
      | .d dy => R dy
      | .own es => R (.list es)
      | _ => False) else S
theorem lcL_cons {gt : WG} {wt : WT} {we : W2} {ρb : Env} {k : List PyData → Prop} {d : PyData} {ds acc : List PyData} (h : lcT gt wt we ρb d (fun y => lcL gt wt we ρb k ds (acc ++ [y])) (lcL gt wt we ρb k ds acc)) : lcL gt wt we ρb k (d :: ds) acc := h
theorem lcL_pure {gt : WG} {wt : WT} {we : W2} {ρb : Env} {k : List PyData → Prop} (enc : α → PyData) (p : α → Bool) (g : α → PyData) (as : List α) {ds : List PyData} (hds : ds = as.map enc)
    (step : ∀ a ∈ as, ∀ (R : PyData → Prop) (S : Prop), (p a = true → R (g a)) → (p a = false → S) → lcT gt wt we ρb (enc a) R S) (done : k ((as.filter p).map g)) : lcL gt wt we ρb k ds [] := by
  subst hds
  have key : ∀ (as : List α) (acc : List PyData), (∀ a ∈ as, ∀ (R : PyData → Prop) (S : Prop), (p a = true → R (g a)) → (p a = false → S) → lcT gt wt we ρb (enc a) R S) → k (acc ++ (as.filter p).map g) → lcL gt wt we ρb k (as.map enc) acc := by
    intro as
    induction as with
    | nil => intro acc _ h; simpa [lcL] using h
    | cons a as ih =>
      intro acc hs h
      rw [List.map_cons]
      refine lcL_cons (hs a (.head _) _ _ (fun e => ?_) (fun e => ?_))
      · refine ih _ (fun x hx => hs x (.tail _ hx)) ?_
        rw [List.filter_cons_of_pos e, List.map_cons] at h
        rw [List.append_assoc]
        exact h
      · refine ih _ (fun x hx => hs x (.tail _ hx)) ?_
        rw [List.filter_cons_of_neg (by rw [e]; decide)] at h
        exact h
  exact key as [] step done
theorem lcL_map {gt : WG} {we : W2} {ρb : Env} {k : List PyData → Prop} (enc : α → PyData) (g : α → PyData) (as : List α) {ds : List PyData} (hds : ds = as.map enc)
    (step : ∀ a ∈ as, ∀ (R : PyData → Prop), R (g a) → lcT gt wYes we ρb (enc a) R False) (done : k (as.map g)) : lcL gt wYes we ρb k ds [] := by
  refine lcL_pure enc (fun _ => true) g as hds (fun a ha R S h1 _ => ?_) (by rw [List.filter_eq_self.mpr fun _ _ => rfl]; exact done)
  exact step a ha R (h1 rfl)
end
end B2
namespace B2
theorem map_snoc {α β : Type} (f : α → β) (l : List α) (a : α) : l.map f ++ [f a] = (l ++ [a]).map f := by rw [List.map_append]; rfl
theorem map_app {α β : Type} (f : α → β) (l m : List α) : l.map f ++ m.map f = (l ++ m).map f := by rw [List.map_append]
end B2
namespace B2
theorem recI {c : Prop} {F : ¬c → Prop} {T : c → Prop} {d : Decidable c} (h : ∀ h : c, T h) (h' : ∀ h : ¬c, F h) : @Decidable.rec c (fun _ => Prop) F T d := by
  cases d with
  | isTrue z => exact h z
  | isFalse z => exact h' z
theorem recY {c : Prop} {F : ¬c → Prop} {T : c → Prop} {d : Decidable c} (z : c) (h : T z) : @Decidable.rec c (fun _ => Prop) F T d := recI (fun _ => h) fun n => (n z).elim
theorem recN {c : Prop} {F : ¬c → Prop} {T : c → Prop} {d : Decidable c} (z : ¬c) (h : F z) : @Decidable.rec c (fun _ => Prop) F T d := recI (fun n => (z n).elim) fun _ => h
theorem iteY' {c : Prop} {d : Decidable c} {A B : Prop} (z : c) (h : A) : @ite _ c d A B := by rw [if_pos z]; exact h
theorem iteN' {c : Prop} {d : Decidable c} {A B : Prop} (z : ¬c) (h : B) : @ite _ c d A B := by rw [if_neg z]; exact h
end B2
namespace B2
theorem erase_map {α β : Type} (f : α → β) (l : List α) (n : Nat) : (l.map f).eraseIdx n = (l.eraseIdx n).map f := by
  induction l generalizing n with
  | nil => simp
  | cons a l ih => cases n with
    | zero => simp
    | succ n => simp [ih]
end B2

namespace B2
open PySem L2
theorem int_short {i : Int} (h : i.natAbs.log2 < 1920) : (PyData.shown (.int i)).length ≤ 580 := by
  have h1 : i.natAbs < 10 ^ 579 := by
    by_cases z : i.natAbs = 0
    · rw [z]; exact Nat.pow_pos (by decide)
    · have := (Nat.log2_lt z).mp h
      exact Nat.lt_of_lt_of_le this (by decide +kernel)
  have e := int_text_length_le10 (k := 579) (by decide) h1
  show (Str.ofString (toString i)).length ≤ 580
  rw [ofString_length]
  exact e
mutual
theorem short_of : ∀ d : PyData, d.canLay0 = true → d.showable = true → d.leavesShort 580 = true
  | .none, _, _ => by simp [PyData.leavesShort]
  | .bool _, _, _ => by simp [PyData.leavesShort]
  | .int i, _, h => by
    simp only [PyData.leavesShort, decide_eq_true_eq]
    exact int_short (by simpa [PyData.showable] using h)
  | .str x, h, _ => by
    simp only [PyData.canLay0] at h
    unfold PyData.strOk at h
    rw [Array.all_eq_true_iff_forall_mem] at h
    simp only [PyData.leavesShort, List.all_eq_true, decide_eq_true_eq]
    intro c hc
    have := h c (by simpa using hc)
    simp only [decide_eq_true_eq] at this
    exact Nat.lt_of_lt_of_le this (by decide)
  | .list xs, h, s => by
    simp only [PyData.leavesShort]
    exact short_all xs (by simpa [PyData.canLay0] using h) (by simpa [PyData.showable] using s)
  | .tuple xs, h, s => by
    simp only [PyData.leavesShort]
    exact short_all xs (by simpa [PyData.canLay0] using h) (by simpa [PyData.showable] using s)
  | .dict _, h, _ => by simp [PyData.canLay0] at h
theorem short_all : ∀ ds : List PyData, PyData.canLayAll0 ds = true → PyData.showableAll ds = true → PyData.leavesShortAll 580 ds = true
  | [], _, _ => by simp [PyData.leavesShortAll]
  | d :: ds, h, s => by
    have h : d.canLay0 = true ∧ PyData.canLayAll0 ds = true := by simpa [PyData.canLayAll0] using h
    have s : d.showable = true ∧ PyData.showableAll ds = true := by simpa [PyData.showableAll] using s
    simp only [PyData.leavesShortAll, short_of d h.1 s.1, short_all ds h.2 s.2, Bool.and_self]
end
structure Shy (n b : Nat) (d : PyData) : Prop where
  lay : d.canLay0 = true
  dep : d.depth ≤ n
  sh : d.showable = true
  bk : d.bulk ≤ b
structure ShyM (n b : Nat) (d : PyData) : Prop where
  lv : d.leavesShort 580 = true
  no : noLst d = true
  dep : d.depth ≤ n
  sh : d.showable = true
  bk : d.bulk ≤ b
structure ShyE (n b : Nat) (d : PyData) : Prop where
  or : Shy n b d ∨ ShyM n b d
theorem Shy.e {n b : Nat} {d : PyData} (h : Shy n b d) : ShyE n b d := ⟨.inl h⟩
theorem ShyM.e {n b : Nat} {d : PyData} (h : ShyM n b d) : ShyE n b d := ⟨.inr h⟩
instance {n b : Nat} {d : PyData} : Coe (Shy n b d) (ShyE n b d) := ⟨Shy.e⟩
theorem len_of {d : PyData} (h : d.leavesShort 580 = true) (k : d.bulk ≤ 28000) : d.shown.length ≤ sizeLine := by
  have e := PyData.shown_le_bulk 580 (by decide) d h
  rw [sizeLine_eq]
  have e2 : (580 + 2) * d.bulk ≤ 582 * 28000 := Nat.mul_le_mul (Nat.le_refl _) k
  omega
theorem ShyE.lv {n b : Nat} {d : PyData} (h : ShyE n b d) : d.leavesShort 580 = true := h.or.elim (fun h => short_of d h.lay h.sh) fun h => h.lv
theorem ShyE.dep {n b : Nat} {d : PyData} (h : ShyE n b d) : d.depth ≤ n := h.or.elim (fun h => h.dep) fun h => h.dep
theorem ShyE.sh {n b : Nat} {d : PyData} (h : ShyE n b d) : d.showable = true := h.or.elim (fun h => h.sh) fun h => h.sh
theorem ShyE.bk {n b : Nat} {d : PyData} (h : ShyE n b d) : d.bulk ≤ b := h.or.elim (fun h => h.bk) fun h => h.bk
theorem ShyE.len {n : Nat} {d : PyData} (h : ShyE n 28000 d) : d.shown.length ≤ sizeLine := len_of h.lv h.bk
theorem ShyE.sm {n b : Nat} {d : PyData} {as : List Addr} (h : ShyE n b d) (q : noLst d = true → ∀ a ∈ as, a ≠ sysModules) : d.hasDict = true → sysModules ∉ as := by
  rcases h.or with h | h
  · exact PyData.noDict_hsm (PyData.hasDict_of_canLay _ h.lay)
  · exact fun _ hm => q h.no _ hm rfl
theorem call_reprD {X : Cx} (gd : X.A.guards = some []) (hu : X.A.units + 64 < cLine) : CallR X (.builtin "repr") (fun xs H Q => ∃ x d, xs = [x] ∧ Dq X.K H x d ∧ ShyE 60 28000 d ∧ Q (.str d.shown) H) := by
  intro pins s σ H xs us Q I r h
  obtain ⟨x, d, rfl, hd, hs, q⟩ := h
  obtain ⟨u, rfl, rx⟩ := vals1 r
  obtain ⟨as, rd, hn⟩ := Dq.reads I hd rx
  have fin : ∀ h' tk t, (∀ b o, s.heap.get? b = some o → h'.get? b = some o) → EP X pins σ Q (.str d.shown t) { s with heap := h', toks := tk } := fun h' tk t k => ⟨.str d.shown, H, I.kept k, ⟨t, rfl⟩, q⟩
  cases rd with
  | none => exact PySem.P.repr_of_none (fin s.heap _ _ fun _ _ z => z)
  | bool b => exact PySem.P.repr_of_bool (fin s.heap _ _ fun _ _ z => z)
  | int i t => exact PySem.P.repr_of_int (by simpa [PyData.showable] using hs.sh) (fin s.heap _ _ fun _ _ z => z)
  | str y t => exact PySem.P.repr_of_str (fin s.heap _ _ fun _ _ z => z) hs.len
  | list h1 h2 h3 h4 =>
    exact repr_of_reads' (.list h1 h2 h3 h4) hs.sh (hs.sm hn) gd (by have := hs.dep; omega) (fun _ _ z => z) (fun h' u tk k => fin h' tk u k) hs.len
  | tuple h1 h2 h3 h4 =>
    exact repr_of_reads' (.tuple h1 h2 h3 h4) hs.sh (hs.sm hn) gd (by have := hs.dep; omega) (fun _ _ z => z) (fun h' u tk k => fin h' tk u k) hs.len
  | dict h1 h2 h3 h4 h5 =>
    exact repr_of_reads' (.dict h1 h2 h3 h4 h5) hs.sh (hs.sm hn) gd (by have := hs.dep; omega) (fun _ _ z => z) (fun h' u tk k => fin h' tk u k) hs.len
def reprD (d : PyData) (k : X2 → Prop) : Prop := ShyE 60 28000 d ∧ k (.d (.str d.shown))
def cbRepr : List PyData → (X2 → Prop) → Prop := fun ds k => match ds with | [d] => reprD d k | _ => False
section
variable {ι : Type} {Φ : Fam ι} {W : WX} {m m1 m2 m3 : Nat}
theorem je_repr {a : Expr} {p pos : Pos} {wa : WA} (hm : Φ.mg "repr" = none) (ha : JA Φ W m [a] wa) (hg : ∀ i, Gl (Φ.X i) "repr" := by intro _; rfl) (he : ∀ i, starEach [a] (Φ.X i).env = (false, eval a (Φ.X i).env) :: starEach [] (Φ.X i).env := by intro _; rfl) : JE Φ W m (.Call (.Name "repr" p) [a] [] pos) (wCB cbRepr wa) :=
  je_cb (id := "repr") (r := fun xs H Q => ∃ x d, xs = [x] ∧ Dq Φ.K H x d ∧ ShyE 60 28000 d ∧ Q (.str d.shown) H) (f := cbRepr) (fun i => by rw [← Φ.hK i]; exact call_reprD (Φ.gd i).no (unitsH (Φ.rm i))) (csim1 (f := reprD) fun B H0 g σ ρ n H v x d k Q r h e hf q =>
    ⟨v, d, rfl, (r.read h e).1, hf.1, r.flat (fun _ => .str _) q hf.2⟩) hm (by decide +kernel) ha hg (by decide) (by decide) he (fun _ => rfl)
end
structure ShyA (n b : Nat) (ds : List PyData) : Prop where
  lay : PyData.canLayAll0 ds = true
  dep : PyData.depthAll ds ≤ n
  sh : PyData.showableAll ds = true
  bk : PyData.bulkAll ds ≤ b
theorem Shy.mono {n m b c : Nat} {d : PyData} (h : Shy n b d) (l : n ≤ m) (k : b ≤ c) : Shy m c d := ⟨h.lay, Nat.le_trans h.dep l, h.sh, Nat.le_trans h.bk k⟩
theorem ShyA.mono {n m b c : Nat} {d : List PyData} (h : ShyA n b d) (l : n ≤ m) (k : b ≤ c) : ShyA m c d := ⟨h.lay, Nat.le_trans h.dep l, h.sh, Nat.le_trans h.bk k⟩
theorem shy_nil0 {n : Nat} : ShyA n 0 [] := ⟨by simp [PyData.canLayAll0], by simp [PyData.depthAll], by simp [PyData.showableAll], by simp [PyData.bulkAll]⟩
theorem shy_cons0 {n b c : Nat} {d : PyData} {ds : List PyData} (h : Shy n b d) (t : ShyA n c ds) : ShyA n (b + 1 + c) (d :: ds) :=
  ⟨by simp only [PyData.canLayAll0, h.lay, t.lay, Bool.and_self], by have := h.dep; have := t.dep; simp only [PyData.depthAll]; omega, by simp only [PyData.showableAll, h.sh, t.sh, Bool.and_self], by have := h.bk; have := t.bk; simp only [PyData.bulkAll]; omega⟩
theorem shy_app0 {n b c : Nat} : ∀ {ds es : List PyData}, ShyA n b ds → ShyA n c es → ShyA n (b + c) (ds ++ es)
  | [], es, _, t => t.mono (Nat.le_refl _) (by omega)
  | d :: ds, es, h, t => by
    have l : d.canLay0 = true ∧ PyData.canLayAll0 ds = true := by simpa [PyData.canLayAll0] using h.lay
    have s : d.showable = true ∧ PyData.showableAll ds = true := by simpa [PyData.showableAll] using h.sh
    have dp := h.dep
    have bk := h.bk
    simp only [PyData.depthAll] at dp
    simp only [PyData.bulkAll] at bk
    have h2 : ShyA n (b - (d.bulk + 1)) ds := ⟨l.2, by omega, s.2, by omega⟩
    exact (shy_cons0 ⟨l.1, by omega, s.1, Nat.le_refl _⟩ (shy_app0 h2 t)).mono (Nat.le_refl _) (by omega)
theorem shy_map0 {n b m : Nat} {α : Type} {f : α → PyData} : ∀ {as : List α}, (∀ a ∈ as, Shy n b (f a)) → as.length ≤ m → ShyA n (m * (b + 1)) (as.map f)
  | [], _, _ => shy_nil0.mono (Nat.le_refl _) (Nat.zero_le _)
  | a :: as, h, l => by
    cases m with
    | zero => simp at l
    | succ m =>
      have ih := shy_map0 (m := m) (as := as) (fun x hx => h x (.tail _ hx)) (by simpa using l)
      exact (shy_cons0 (h a (.head _)) ih).mono (Nat.le_refl _) (by rw [Nat.succ_mul]; omega)
theorem shy_T {n b : Nat} {ds : List PyData} (h : ShyA n b ds) : Shy (n + 1) b (.tuple ds) := ⟨by simp only [PyData.canLay0]; exact h.lay, by have := h.dep; simp only [PyData.depth]; omega, by simp only [PyData.showable]; exact h.sh, by simp only [PyData.bulk]; exact h.bk⟩
theorem shy_L {n b : Nat} {ds : List PyData} (h : ShyA n b ds) : Shy (n + 1) b (.list ds) := ⟨by simp only [PyData.canLay0]; exact h.lay, by have := h.dep; simp only [PyData.depth]; omega, by simp only [PyData.showable]; exact h.sh, by simp only [PyData.bulk]; exact h.bk⟩
theorem shy_none {n b : Nat} : Shy n b .none := ⟨by simp [PyData.canLay0], by simp [PyData.depth], by simp [PyData.showable], by simp [PyData.bulk]⟩
theorem shy_bool {n b : Nat} (i : Bool) : Shy n b (.bool i) := ⟨by simp [PyData.canLay0], by simp [PyData.depth], by simp [PyData.showable], by simp [PyData.bulk]⟩
theorem shy_int {n b : Nat} {i : Int} (h : i.natAbs.log2 < 1920) : Shy n b (.int i) := ⟨by simp [PyData.canLay0], by simp [PyData.depth], by simpa [PyData.showable] using h, by simp [PyData.bulk]⟩
theorem shy_str {n b : Nat} {s : Str} (h : ∀ c ∈ s.cps.toList, c < 1114112) (l : s.cps.size ≤ b) : Shy n b (.str s) := by
  refine ⟨?_, by simp [PyData.depth], by simp [PyData.showable], by simpa [PyData.bulk] using l⟩
  simp only [PyData.canLay0]
  unfold PyData.strOk
  rw [Array.all_eq_true_iff_forall_mem]
  intro c hc
  simpa using h c (by simpa using hc)
end B2

namespace B2
open PySem L2
section
open PySem.Spec PyProof.Rows HT
variable {prog : Program} {w : World} {A : Around} {E : Value → Shared → Prop} {s : Shared}
theorem adjust_back (n : Nat) : Builtin.Slice.sliceAdjust none none (-1) (n : Int) = ((n : Int) - 1, -1) := rfl
theorem places_back (n : Nat) : Builtin.Slice.slicePlaces ((n : Int) - 1) (-1) (-1) = n := by
  unfold Builtin.Slice.slicePlaces
  rw [if_neg (by decide)]
  by_cases h : (n : Int) - 1 > -1
  · rw [if_pos h, show (n : Int) - 1 - -1 - 1 = (n : Int) - 1 by omega, show (-(-1) : Int) = 1 from rfl, Int.ediv_one]; omega
  · rw [if_neg h]; omega
theorem fm_congr {α β : Type} {f g : α → Option β} : ∀ {l : List α}, (∀ x ∈ l, f x = g x) → l.filterMap f = l.filterMap g
  | [], _ => rfl
  | a :: l, h => by rw [List.filterMap_cons, List.filterMap_cons, h a (.head _), fm_congr fun x hx => h x (.tail _ hx)]
theorem pick_back (xs : Array Value) : ((List.range xs.size).filterMap fun (k : Nat) => xs[((xs.size : Int) - 1 + (k : Int) * -1).toNat]?).toArray = xs.toList.reverse.toArray := by
  rw [← PySem.W.krv_all xs, ← List.filterMap_reverse, ← PySem.W.krv_range, List.filterMap_map]
  congr 1
  refine fm_congr fun k hk => ?_
  have := List.mem_range.mp hk
  show _ = xs[xs.size - 1 - k]?
  congr 1
  omega
theorem applied_back {sl : Addr} {vl vu vs : Value} {n : Nat} {Q : Int × Int × Nat → Shared → Prop} (hs : s.heap.IsSliceOf sl vl vu vs) (pl : IsPart vl none) (pu : IsPart vu none) (ps : IsPart vs (some (-1))) (h : Q ((n : Int) - 1, -1, n) s) :
    wpAny (model prog w) A (Builtin.Slice.sliceApplied (.ref sl) (pure (n : Int))) Q E s := by
  obtain ⟨so, so1, so2, so3⟩ := id hs
  unfold Builtin.Slice.sliceApplied Builtin.Slice.sliceFields
  refine wpAny_bind (wpAny_bind (wpAny_field so1 so3 (x := vl) rfl (wpAny_bind (wpAny_field so1 so3 (x := vu) rfl (wpAny_bind (wpAny_field so1 so3 (x := vs) rfl (wpAny_pure ?_)))))))
  refine wpAny_bind (slicePart_ ps ?_)
  show wpAny _ _ (if ((-1 : Int) == 0) = true then _ else _) _ _ s
  rw [if_neg (by decide)]
  refine wpAny_bind (slicePart_ pl (wpAny_bind (slicePart_ pu (wpAny_bind (wpAny_pure ?_)))))
  show wpAny _ _ (match Builtin.Slice.sliceAdjust none none (-1) (n : Int) with | (a, b) => pure (a, (-1 : Int), Builtin.Slice.slicePlaces a b (-1))) _ _ s
  rw [adjust_back]
  show wpAny _ _ (pure ((n : Int) - 1, (-1 : Int), Builtin.Slice.slicePlaces ((n : Int) - 1) (-1) (-1))) _ _ s
  rw [places_back]
  exact wpAny_pure h
theorem getItem_back {t sl : Addr} {xs : Array Value} {vl vu vs : Value} {Q : Value → Shared → Prop} (ht : IsTup s.heap t xs) (hs : s.heap.IsSliceOf sl vl vu vs) (pl : IsPart vl none) (pu : IsPart vu none) (ps : IsPart vs (some (-1)))
    (h : Q (.ref s.heap.objs.size) { s with heap := s.heap.push { cls := .type "tuple", data := .seq xs.toList.reverse.toArray } }) (hz : xs.size ≤ sizeLine) : wpAny (model prog w) A (getItem (.ref t) (.ref sl)) Q E s := by
  have ok : sizeOk (.seq xs.toList.reverse.toArray) := by
    show xs.toList.reverse.toArray.size ≤ sizeLine
    simpa using hz
  obtain ⟨so, so1, so2, so3⟩ := id hs
  have tS : s.TypeIs (.ref sl) "slice" := ⟨so, so1, so2⟩
  unfold getItem
  try with_reducible refine wpAny_holding ?_
  first | refine wpAny_bind (wpAny_pure ?_) | skip
  refine wpAny_bind (wpAny_sequenceKey ht.typeIs (by decide) ?_)
  refine wpAny_bind (wpAny_callSpecial?_slot (name := Str.ofString "__getitem__") ht.typeIs slot_tuple_getitem (wpAny_call_entry slot_tuple_getitem ht.typeIs entry_tuple_getitem ?_ (args_tuple_getitem _ _)))
  show wpAny _ _ (Builtin.Tuple.tupleItemsOf (.ref t) >>= _) _ _ s
  refine wpAny_bind (tupleItemsOf_ ht ?_)
  refine wpAny_bind (wpAny_typeOf tS ?_)
  rw [if_pos (by decide)]
  refine wpAny_bind (applied_back hs pl pu ps ?_)
  show wpAny _ _ (if (((xs.size : Int) - 1) == 0 && ((-1 : Int) == 1) && (xs.size == xs.size)) = true then _ else _) _ _ s
  rw [if_neg (by rw [show ((-1 : Int) == 1) = false from rfl, Bool.and_false, Bool.false_and]; decide), pick_back]
  first
    | exact wpAny_bind (m := Builtin.Tuple.tupleExact _) (wpAny_newObj_type (wpAny_pure ⟨_, rfl, wpAny_pure h⟩) ok)
    | exact wpAny_bind (m := Builtin.Tuple.tupleExact _) (wpAny_newObj_type (wpAny_bind (wpAny_pure (wpAny_pure ⟨_, rfl, wpAny_pure h⟩))) ok)
    | exact wpAny_bind (wpAny_bind (m := Builtin.Tuple.tupleExact _) (wpAny_newObj_type (wpAny_pure (wpAny_pure ⟨_, rfl, wpAny_pure h⟩)) ok))
    | exact wpAny_bind (wpAny_bind (m := Builtin.Tuple.tupleExact _) (wpAny_newObj_type (wpAny_pure ⟨_, rfl, wpAny_pure h⟩) ok))
end
section
open PySem.Spec PyProof.Rows
variable {X : Cx} {e : Expr} {te : TE}
def revS (x : Str) : Str := ⟨((slicePicked x none none (some (-1, 0))).filterMap (x.cps[·]?)).toArray⟩
def tBack (K : PySem.W.Frag) (te : TE) : TE := fun σ H Q => te σ H fun x H1 => (∃ z, x = .str z ∧ (revS z).length ≤ sizeLine ∧ Q (.str (revS z)) H1) ∨ ∃ a xs, x = .ref a ∧ ((SqL K H1 a xs ∧ ∀ p, H1 p = none → Q (.ref p) (upd H1 p (.lst xs.reverse))) ∨ (SqT K H1 a xs ∧ ∀ p, H1 p = none → Q (.ref p) (upd H1 p (.tup xs.reverse))))
theorem pe_back {k : Nat} {p1 p2 p3 pos : Pos} (he : PE X e te) : PE X (.Subscript e (.Slice none none (some (.UnaryOp .USub (.Constant (.int 1) k p1) p2)) p3) pos) (tBack X.K te) := by
  refine ⟨fun pins s σ H Q I h => ?_⟩
  refine Subscript_ (thn (he.run pins s σ H _ I h) fun v s1 ⟨x, H1, I1, r1, q1⟩ => ?_)
  have minus : PO X (some (.UnaryOp .USub (.Constant (.int 1) k p1) p2)) (tPart (tUn (rU fun i => .int (-i)) (tC (.int 1)))) := po_some (pe_un un_neg pe_int)
  refine wpAny_Slice (thn (po_none.run pins s1 σ H1 (fun o J => o = none ∧ J = H1) I1 ⟨rfl, rfl⟩) fun vl s2 ⟨l, H2, I2, pl, el, e2⟩ => ?_)
  subst el e2
  refine thn (po_none.run pins s2 σ H2 (fun o J => o = none ∧ J = H2) I2 ⟨rfl, rfl⟩) fun vu s3 ⟨u, H3, I3, pu, eu, e3⟩ => ?_
  subst eu e3
  refine thn (minus.run pins s3 σ H3 (fun o J => o = some (-1) ∧ J = H3) I3 ⟨1, rfl, -1, rfl, rfl, rfl⟩) fun vs s4 ⟨o, H4, I4, ps, eo, e4⟩ => ?_
  subst eo e4
  have I5 : Inv X pins σ H4 { s4 with heap := s4.heap.push { cls := .type "slice", data := .fields #[vl, vu, vs] } } := I4.kept (t' := s4.toks) fun b ob q => Heap.get?_push_of_some _ q
  rcases q1 with ⟨z, rfl, hz, q1⟩ | q1
  · obtain ⟨tz, rfl⟩ := r1
    obtain ⟨tk, rfl⟩ : ∃ tk, vs = .int (-1) tk := by
      cases ps with
      | int i t => exact ⟨t, rfl⟩
    cases pl
    cases pu
    show wpAny (model X.prog X.w) X.A (subscriptTail e (.Slice none none (some (.UnaryOp .USub (.Constant (.int 1) k p1) p2)) p3) (.str z tz) (.ref s4.heap.objs.size)) (EP X pins σ Q) X.xe { s4 with heap := s4.heap.push { cls := .type "slice", data := .fields #[.none, .none, .int (-1) tk] } }
    refine tail_any (ops := [.str z tz, .ref s4.heap.objs.size]) (typeIs_str _ z tz) PySem.F.slot_str_getitem.lookup ?_ (by with_unfolding_all rfl)
    refine wpAny_getItem_str_slice (l := none) (u := none) (st := some (-1, tk)) ⟨_, Heap.get?_push_size _ rfl, rfl, rfl⟩ rfl ?_
    exact ⟨hz, .str (revS z), H4, I5.tok _, ⟨_, rfl⟩, q1⟩
  obtain ⟨a, xs, ex, q1⟩ := q1
  subst ex
  cases r1
  show wpAny (model X.prog X.w) X.A (subscriptTail e (.Slice none none (some (.UnaryOp .USub (.Constant (.int 1) k p1) p2)) p3) (.ref a) (.ref s4.heap.objs.size)) (EP X pins σ Q) X.xe { s4 with heap := s4.heap.push { cls := .type "slice", data := .fields #[vl, vu, vs] } }
  rcases q1 with ⟨hx, q⟩ | ⟨hx, q⟩
  · obtain ⟨its, r, ht, hz⟩ := I5.list hx
    have hlen := r.length
    refine tail_any (ops := [.ref a, .ref s4.heap.objs.size]) ht.isList.typeIs (PySem.slot_list_getitem.lookup) ?_ (by with_unfolding_all rfl)
    refine wpAny_getItem_list_slice ht.isList (Heap.IsSliceOf.new _ vl vu vs) pl pu ps (by decide) ?_ (by rw [List.size_toArray]; omega)
    rw [PySem.W.krv_pick]
    refine ⟨.ref _, _, I5.laid (t' := s4.toks) (o := .lst xs.reverse) (fun b ob q => Heap.get?_push_of_some _ q) (Nat.le_refl _) ?_, rfl, q _ (I5.hok.fresh (Nat.le_refl _))⟩
    exact ⟨by rw [List.length_reverse]; exact hz, _, 0, r.reverse, Heap.get?_push_size _ rfl⟩
  · obtain ⟨its, r, ht, hz⟩ := I5.tuple hx
    have hlen := r.length
    refine tail_any (ops := [.ref a, .ref s4.heap.objs.size]) (show Shared.TypeIs _ (.ref a) "tuple" from ht.typeIs) PyProof.Rows.slot_tuple_getitem.lookup ?_ (by with_unfolding_all rfl)
    refine getItem_back ht (Heap.IsSliceOf.new _ vl vu vs) pl pu ps ?_ (by rw [List.size_toArray]; omega)
    refine ⟨.ref _, _, I5.laid (t' := s4.toks) (o := .tup xs.reverse) (fun b ob q => Heap.get?_push_of_some _ q) (Nat.le_refl _) ?_, rfl, q _ (I5.hok.fresh (Nat.le_refl _))⟩
    exact ⟨by rw [List.length_reverse]; exact hz, _, r.reverse, ⟨_, Heap.get?_push_size _ rfl, rfl, _, rfl⟩⟩
end
section
variable {ι : Type} {Φ : Fam ι} {W : WX} {m m1 m2 m3 : Nat}
def wBack (wa : W2) : W2 := fun e ρ k => wa e ρ fun x ρ1 => rdK ρ1 (calm1 x) fun d => match d with
  | .list ds => k (.own ds.reverse) ρ1
  | .tuple ds => k (.d (.tuple ds.reverse)) ρ1
  | .str z => (revS z).length ≤ 16777216 ∧ k (.d (.str (revS z))) ρ1
  | _ => False
theorem je_back {a : Expr} {k : Nat} {p1 p2 p3 pos : Pos} {wa : W2} (ha : JE Φ W m a wa) : JE Φ W m (.Subscript a (.Slice none none (some (.UnaryOp .USub (.Constant (.int 1) k p1) p2)) p3) pos) (wBack wa) := by
  obtain ⟨ta, a1, a2⟩ := ha
  refine ⟨tBack Φ.K ta, fun i => by rw [← Φ.hK i]; exact pe_back (a1 i), ?_⟩
  intro B H0 g σ ρ n H e k Q rs l hw q xq
  refine a2 B H0 g σ ρ n H e _ _ rs l hw (fun H1 ρ1 Ha v1 x1 s1 r1 h1 q1 => ?_) xq
  obtain ⟨H2, s2, r2, h2⟩ := r1.calm h1
  obtain ⟨d, ed, q2⟩ := rdK_of q1
  split at q2
  · obtain ⟨p, vs, rfl, sq, dq⟩ := r2.list h2.r ed
    refine .inr ⟨p, vs, rfl,   .inl ⟨SqL.of sq, fun b hb => ?_⟩⟩
    exact r2.newL dq.reverse hb (fun H0' H' v x s r h hk => q H0' ρ1 H' v x ((s1.trans s2).trans s) r h hk) q2
  · obtain ⟨p, vs, rfl, sq, dq⟩ := r2.tuple h2.r ed
    refine .inr ⟨p, vs, rfl, .inr ⟨sq, fun b hb => ?_⟩⟩
    exact r2.newT dq.reverse hb (fun H0' H' v x s r h hk => q H0' ρ1 H' v x ((s1.trans s2).trans s) r h hk) q2
  · rename_i z
    rw [r2.str h2.r ed]
    exact .inl ⟨z, rfl, by rw [sizeLine_eq]; exact q2.1, q H2 ρ1 Ha _ (.d (.str (revS z))) (s1.trans s2) r2 (.str _) q2.2⟩
  · exact q2.elim
end
section
variable {ι : Type} {Φ : Fam ι} {W : WX} {m m1 m2 m3 : Nat}
end
end B2

namespace B2
open PySem L2 PySem.Calls
open PyProof.Rows (envOfC)
section
variable {K : PySem.W.Frag} {B : Base} {H0 H0' H H' : Hp} {g : Option Gs} {σ σ' : St} {ρ ρ' : Env} {n m : Nat} {v : V} {x : X2}
end
section
variable {ι : Type} {Φ : Fam ι} {W : WX} {m m1 m2 m3 : Nat}
end
end B2
namespace B2
open PySem L2
structure TupC (K : PySem.W.Frag) (mg : MG) (x : Str) (ds : List PyData) : Prop where
  ex : ∃ a : Addr, mg x = some (.ref a) ∧ ∀ H : Hp, Dq K H (.ref a) (.tuple ds)
section
variable {ι : Type} {Φ : Fam ι} {W : WX}
end
end B2
namespace B2
open PySem L2 PySem.Calls
section
variable {ι : Type} {Φ : Fam ι} {W : WX} {m m1 m2 m3 : Nat}
end
end B2
namespace B2
open PySem L2
end B2

namespace B2
open PySem L2
section
variable {K : PySem.W.Frag} {B : Base} {H0 H : Hp} {g : Option Gs} {σ : St} {ρ : Env} {n : Nat}
theorem RS.apart (r : RS K B H0 g σ ρ n H) {p : Addr} {o : HO} (h : H p = none) : RS K ⟨upd B.He p o, B.Hb, B.g⟩ H0 g σ ρ n (upd H p o) := by
  obtain ⟨f1, f2, f3⟩ := r.fresh h
  have s1 : Same H (upd H p o) := fun b u e => by rw [upd_ne (ne_of_none e h)]; exact e
  have r1 := r.grow s1
  have hp : B.Hb p = none := by
    cases e : B.Hb p with
    | none => rfl
    | some u => rw [r.hb p u e] at f2; cases f2
  refine ⟨r.hb, fun b u e => ?_, r1.ext, fun b u e ng => ?_, r1.drw, r.drf, ?_, fun i x q => ?_, r.dist⟩
  · rcases r.new b u e with z | z
    · exact .inl z
    · have hb : b ≠ p := fun w => by rw [w, f2] at e; cases e
      exact .inr (by show upd B.He p o b = none; rw [upd_ne hb]; exact z)
  · by_cases hb : b = p
    · rw [hb, upd_same]; rw [hb] at e; have e : upd B.He p o p = some u := e; rw [upd_same] at e; exact e
    · have e : upd B.He p o b = some u := e
      rw [upd_ne hb] at e
      exact r1.keep b u e ng
  · rcases r.gg with z | ⟨z1, z2⟩
    · exact .inl z
    · refine .inr ⟨z1, fun b hb => ?_⟩
      have hne : b ≠ p := fun w => f3 (by rw [← w]; exact hb)
      show upd B.He p o b = none
      rw [upd_ne hne]; exact z2 b hb
  · obtain ⟨v, h1, h2⟩ := r.sl i x q
    refine ⟨v, h1, h2.keep (Same.refl _) fun q' a e f => ?_⟩
    obtain ⟨w, hn⟩ := h2.foot e f
    have hne : a ≠ p := fun z => hn (by rw [z]; exact h)
    exact ⟨fun u z => s1 a u z, fun _ => ⟨w.h0, by show upd B.He p o a = none; rw [upd_ne hne]; exact w.he, w.ng⟩⟩
theorem RS.unapart {p : Addr} {o : HO} (f1 : B.He p = none) (r : RS K ⟨upd B.He p o, B.Hb, B.g⟩ H0 g σ ρ n H) : RS K B H0 g σ ρ n H := by
  have low : ∀ b, upd B.He p o b = none → B.He b = none := fun b e => by
    by_cases hb : b = p
    · rw [hb]; exact f1
    · rw [upd_ne hb] at e; exact e
  refine ⟨r.hb, fun b u e => (r.new b u e).imp id (low b), r.ext, fun b u e ng => ?_, r.drw, r.drf, ?_, fun i x q => ?_, r.dist⟩
  · have hb : b ≠ p := fun w => by rw [w, f1] at e; cases e
    exact r.keep b u (by show upd B.He p o b = some u; rw [upd_ne hb]; exact e) ng
  · rcases r.gg with z | ⟨z1, z2⟩
    · exact .inl z
    · exact .inr ⟨z1, fun b hb => low b (z2 b hb)⟩
  · obtain ⟨v, h1, h2⟩ := r.sl i x q
    exact ⟨v, h1, h2.keep (Same.refl _) fun q' a e f => ⟨fun _ z => z, fun w => ⟨w.h0, low a w.he, w.ng⟩⟩⟩
theorem RelN.unapart {H0 : Hp} {g : Option Gs} {σ : St} {v : V} {x : X2} (h : RelN K H0 g σ v x) : RelN K H0 g σ v x := h
theorem RS.relay {p : Addr} {o u : HO} (r : RS K B H0 g σ ρ n H) (hp : H p = some o) (f1 : B.He p = none) (f2 : H0 p = none) (f3 : ¬ InG g p) (nl : ∀ i x q, ρ i = some x → σ[i]? = some (some (.ref q)) → ¬ Foot x q p) : RS K B (upd H0 p u) g σ ρ n (upd H p u) ∧ Same H0 (upd H0 p u) := by
  have s0 : Same H0 (upd H0 p u) := fun b w e => by rw [upd_ne (ne_of_none e f2)]; exact e
  refine ⟨⟨fun b w e => s0 b w (r.hb b w e), fun b w e => ?_, fun b w e => ?_, fun b w e ng => ?_, fun g' e => ?_, fun b q => ?_, r.gg, fun i x q => ?_, r.dist⟩, s0⟩
  · by_cases hb : b = p
    · rw [hb]; exact .inr f1
    · rw [upd_ne hb] at e; exact r.new b w e
  · by_cases hb : b = p
    · rw [hb] at e ⊢; rw [upd_same] at e ⊢; exact e
    · rw [upd_ne hb] at e ⊢; exact r.ext b w e
  · have hb : b ≠ p := fun z => by rw [z, f1] at e; cases e
    rw [upd_ne hb]; exact r.keep b w e ng
  · exact (r.drw g' e).keep fun b w hb z => by rw [upd_ne (fun y : b = p => f3 (by rw [← y, e]; exact hb))]; exact z
  · rw [upd_ne (fun z : b = p => f3 (by rw [← z]; exact q))]; exact r.drf b q
  · obtain ⟨v, h1, h2⟩ := r.sl i x q
    refine ⟨v, h1, h2.keep s0 fun q' a e f => ?_⟩
    have hne : a ≠ p := fun z => nl i x q' q (by rw [h1, e]) (by rw [← z]; exact f)
    exact ⟨fun u z => by rw [upd_ne hne]; exact z, fun w => ⟨by rw [upd_ne hne]; exact w.h0, w.he, w.ng⟩⟩
end
section
variable {ι : Type} {Φ : Fam ι} {W : WX} {m m1 m2 : Nat}
def wDic0 : W2 := fun _ ρ k => k (.d (.dict [])) ρ
theorem je_dic0 {pos : Pos} : JE Φ W 0 (.Dict [] [] pos) wDic0 := by
  refine ⟨tDNewK, fun i => pe_dnewK, ?_⟩
  intro B H0 g σ ρ n H e k Q rs l hw q xq
  intro p hp
  obtain ⟨r1, s1⟩ := rs.lay (o := .dK []) hp
  exact q _ _ _ _ (.d (.dict [])) s1 r1 (Dq.dic (kvs := []) (ds := []) (vs := []) (es := []) upd_same rfl rfl rfl .nil) hw
def wDic1 (wk wv : W2) : W2 := fun e ρ k => wk e ρ fun x ρ1 => wv e ρ1 fun y ρ2 => match x, y with
  | .d (.int i), .d d => k (.d (.dict [(.int i, d)])) ρ2
  | .d (.str s), .d d => k (.d (.dict [(.str s, d)])) ρ2
  | _, _ => False
theorem je_dic1 {ke ve : Expr} {pos : Pos} {wk wv : W2} (hk : JE Φ W m1 ke wk) (hv : JE Φ W m2 ve wv) : JE Φ W (m1 + m2) (.Dict [some ke] [ve] pos) (wDic1 wk wv) := by
  obtain ⟨tk, a1, a2⟩ := hk
  obtain ⟨tv, b1, b2⟩ := hv
  refine ⟨tDisp [(tk, tv)], fun i => pe_disp (pps_cons (a1 i) (b1 i) pps_nil) rfl rfl (by simp) (Nat.le_of_ble_eq_true rfl), ?_⟩
  intro B H0 g σ ρ n H e k Q rs l hw q xq
  intro p hp
  obtain ⟨f1, f2, f3⟩ := rs.fresh hp
  have hbp : B.Hb p = none := by
    cases z : B.Hb p with
    | none => rfl
    | some u => rw [rs.hb p u z] at f2; cases f2
  have ng : ¬ InG B.g p := fun z => by
    rcases rs.gg with y | ⟨y, _⟩
    · exact f3 (by rw [← y]; exact z)
    · rw [y] at z; exact z
  refine a2 ⟨upd B.He p (.dK []), B.Hb, B.g⟩ H0 g σ ρ n _ e _ _ (rs.apart hp) (by omega) hw (fun H1 ρ1 Ha v1 x1 s1 r1 h1 k1 => ?_) (fun H1 ρ1 Ha nm cls d s1 r1 h1 h2 => xq _ _ _ _ _ _ s1 ((r1.unapart f1).count (by omega)) h1 h2)
  refine b2 _ H1 g σ ρ1 (n + m1) Ha e _ _ r1 (by omega) k1 (fun H2 ρ2 Hb v2 x2 s2 r2 h2 k2 => ?_) (fun H2 ρ2 Hb nm cls d s2 r2 h1 h2 => xq _ _ _ _ _ _ (s1.trans s2) ((r2.unapart f1).count (by omega)) h1 h2)
  have hc : Hb p = some (.dK []) := r2.keep p _ (by show upd B.He p (.dK []) p = _; rw [upd_same]) ng
  have h0 : H2 p = none := by
    cases z : H2 p with
    | none => rfl
    | some u =>
      rcases r2.new p u z with y | y
      · have y : B.Hb p = some u := y
        rw [hbp] at y; cases y
      · have y : upd B.He p (.dK []) p = none := y
        rw [upd_same] at y; cases y
  split at k2
  · rename_i i d
    have e1 : v1 = .int i := by
      have h1 : Dq Φ.K H1 v1 (.int i) := h1
      cases h1; rfl
    have h2 : Dq Φ.K H2 v2 d := h2
    refine ⟨hc, [(Sum.inl i, v2)], by rw [e1]; rfl, Nat.le_of_ble_eq_true rfl, ?_⟩
    obtain ⟨r3, s3⟩ := RS.relay (u := .dK [(Sum.inl i, v2)]) (r2.unapart f1) hc f1 h0 f3 (fun i x q' z z2 f => by
      obtain ⟨v', q1, q2⟩ := r2.sl i x z
      rw [z2] at q1; cases q1
      have := (q2.foot rfl f).1.he
      have : upd B.He p (.dK []) p = none := this
      rw [upd_same] at this; cases this)
    have em : mergeK [] [((Sum.inl i : Key), v2)] = [(Sum.inl i, v2)] := rfl
    rw [em]
    exact q _ ρ2 _ _ (.d (.dict [(.int i, d)])) ((s1.trans s2).trans s3) (r3.count (by omega)) (Dq.dic (ds := [(.int i, d)]) upd_same rfl rfl rfl (.cons (h2.mono s3) .nil)) k2
  · rename_i i d
    have e1 : v1 = .str i := by
      have h1 : Dq Φ.K H1 v1 (.str i) := h1
      cases h1; rfl
    have h2 : Dq Φ.K H2 v2 d := h2
    refine ⟨hc, [(Sum.inr i, v2)], by rw [e1]; rfl, Nat.le_of_ble_eq_true rfl, ?_⟩
    obtain ⟨r3, s3⟩ := RS.relay (u := .dK [(Sum.inr i, v2)]) (r2.unapart f1) hc f1 h0 f3 (fun i x q' z z2 f => by
      obtain ⟨v', q1, q2⟩ := r2.sl i x z
      rw [z2] at q1; cases q1
      have := (q2.foot rfl f).1.he
      have : upd B.He p (.dK []) p = none := this
      rw [upd_same] at this; cases this)
    have em : mergeK [] [((Sum.inr i : Key), v2)] = [(Sum.inr i, v2)] := rfl
    rw [em]
    exact q _ ρ2 _ _ (.d (.dict [(.str i, d)])) ((s1.trans s2).trans s3) (r3.count (by omega)) (Dq.dic (ds := [(.str i, d)]) upd_same rfl rfl rfl (.cons (h2.mono s3) .nil)) k2
  · exact k2.elim
end
end B2
namespace B2
open PySem L2
structure ShyMA (n b : Nat) (ds : List PyData) : Prop where
  lv : PyData.leavesShortAll 580 ds = true
  no : noLstA ds = true
  dep : PyData.depthAll ds ≤ n
  sh : PyData.showableAll ds = true
  bk : PyData.bulkAll ds ≤ b
theorem Shy.m {n b : Nat} {d : PyData} (h : Shy n b d) (k : noLst d = true) : ShyM n b d := ⟨short_of d h.lay h.sh, k, h.dep, h.sh, h.bk⟩
theorem ShyM.mono {n m b c : Nat} {d : PyData} (h : ShyM n b d) (l : n ≤ m) (k : b ≤ c) : ShyM m c d := ⟨h.lv, h.no, Nat.le_trans h.dep l, h.sh, Nat.le_trans h.bk k⟩
theorem ShyMA.mono {n m b c : Nat} {d : List PyData} (h : ShyMA n b d) (l : n ≤ m) (k : b ≤ c) : ShyMA m c d := ⟨h.lv, h.no, Nat.le_trans h.dep l, h.sh, Nat.le_trans h.bk k⟩
theorem ShyE.mono {n m b c : Nat} {d : PyData} (h : ShyE n b d) (l : n ≤ m) (k : b ≤ c) : ShyE m c d := ⟨h.or.imp (fun h => h.mono l k) fun h => h.mono l k⟩
theorem shym_nil {n : Nat} : ShyMA n 0 [] := ⟨by simp [PyData.leavesShortAll], by simp [noLstA], by simp [PyData.depthAll], by simp [PyData.showableAll], by simp [PyData.bulkAll]⟩
theorem shym_cons {n b c : Nat} {d : PyData} {ds : List PyData} (h : ShyM n b d) (t : ShyMA n c ds) : ShyMA n (b + 1 + c) (d :: ds) :=
  ⟨by simp only [PyData.leavesShortAll, h.lv, t.lv, Bool.and_self], by simp only [noLstA, h.no, t.no, Bool.and_self], by have := h.dep; have := t.dep; simp only [PyData.depthAll]; omega, by simp only [PyData.showableAll, h.sh, t.sh, Bool.and_self], by have := h.bk; have := t.bk; simp only [PyData.bulkAll]; omega⟩
theorem shym_app {n b c : Nat} : ∀ {ds es : List PyData}, ShyMA n b ds → ShyMA n c es → ShyMA n (b + c) (ds ++ es)
  | [], es, _, t => t.mono (Nat.le_refl _) (by omega)
  | d :: ds, es, h, t => by
    have l : d.leavesShort 580 = true ∧ PyData.leavesShortAll 580 ds = true := by simpa [PyData.leavesShortAll] using h.lv
    have m : noLst d = true ∧ noLstA ds = true := by simpa [noLstA] using h.no
    have s : d.showable = true ∧ PyData.showableAll ds = true := by simpa [PyData.showableAll] using h.sh
    have dp := h.dep
    have bk := h.bk
    simp only [PyData.depthAll] at dp
    simp only [PyData.bulkAll] at bk
    have h2 : ShyMA n (b - (d.bulk + 1)) ds := ⟨l.2, m.2, by omega, s.2, by omega⟩
    exact (shym_cons ⟨l.1, m.1, by omega, s.1, Nat.le_refl _⟩ (shym_app h2 t)).mono (Nat.le_refl _) (by omega)
theorem shym_T {n b : Nat} {ds : List PyData} (h : ShyMA n b ds) : ShyM (n + 1) b (.tuple ds) := ⟨by simp only [PyData.leavesShort]; exact h.lv, by simp only [noLst]; exact h.no, by have := h.dep; simp only [PyData.depth]; omega, by simp only [PyData.showable]; exact h.sh, by simp only [PyData.bulk]; exact h.bk⟩
theorem shym_dic0 {n : Nat} : ShyM (n + 1) 0 (.dict []) := ⟨by simp [PyData.leavesShort, PyData.leavesShortKv], by simp [noLst, noLstK], by simp [PyData.depth, PyData.depthKv], by simp [PyData.showable, PyData.showableKv], by simp [PyData.bulk, PyData.bulkKv]⟩
theorem shym_dic1 {n b c : Nat} {d e : PyData} (h : ShyM n b d) (t : ShyM n c e) : ShyM (n + 1) (b + c + 2) (.dict [(d, e)]) :=
  ⟨by simp only [PyData.leavesShort, PyData.leavesShortKv, h.lv, t.lv, Bool.and_self], by simp only [noLst, noLstK, t.no, Bool.and_self], by have := h.dep; have := t.dep; simp only [PyData.depth, PyData.depthKv]; omega, by simp only [PyData.showable, PyData.showableKv, h.sh, t.sh, Bool.and_self], by have := h.bk; have := t.bk; simp only [PyData.bulk, PyData.bulkKv]; omega⟩
structure ShyP (n b : Nat) (ds : List PyData) : Prop where
  a : ShyA n b ds
  m : ShyMA n b ds
theorem shyp_nil {n : Nat} : ShyP n 0 [] := ⟨shy_nil0, shym_nil⟩
theorem shyp_cons {n b c : Nat} {d : PyData} {ds : List PyData} (h : Shy n b d) (k : noLst d = true) (t : ShyP n c ds) : ShyP n (b + 1 + c) (d :: ds) := ⟨shy_cons0 h t.a, shym_cons (h.m k) t.m⟩
theorem ShyP.mono {n m b c : Nat} {d : List PyData} (h : ShyP n b d) (l : n ≤ m) (k : b ≤ c) : ShyP m c d := ⟨h.a.mono l k, h.m.mono l k⟩
theorem shyp_map {n b m : Nat} {α : Type} {f : α → PyData} {as : List α} (h : ∀ a ∈ as, Shy n b (f a)) (k : ∀ a ∈ as, noLst (f a) = true) (l : as.length ≤ m) : ShyP n (m * (b + 1)) (as.map f) := by
  refine ⟨shy_map0 h l, ?_⟩
  have s := shy_map0 h l
  have n1 : noLstA (as.map f) = true := by
    clear s h l
    induction as with
    | nil => simp [noLstA]
    | cons a as ih => simp only [List.map_cons, noLstA, k a (.head _), ih fun x hx => k x (.tail _ hx), Bool.and_self]
  exact ⟨short_all _ s.lay s.sh, n1, s.dep, s.sh, s.bk⟩
theorem shye_T {n b c e : Nat} {as cs : List PyData} {d : PyData} (h : ShyP n b as) (o : ShyE n e d) (t : ShyP n c cs) : ShyE (n + 1) (b + (e + 1 + c)) (.tuple (as ++ d :: cs)) := by
  rcases o.or with o | o
  · exact (shy_T (shy_app0 h.a (shy_cons0 o t.a))).e
  · exact (shym_T (shym_app h.m (shym_cons o t.m))).e
end B2
namespace B2
open PySem L2
section
variable {ι : Type} {Φ : Fam ι} {W : WX} {m : Nat}
end
end B2
namespace B2
open PySem L2
section
variable {ι : Type} {Φ : Fam ι} {W : WX} {m m1 m2 m3 : Nat}
end
end B2
namespace B2
open PySem L2
section
variable {ι : Type} {Φ : Fam ι} {W : WX} {m m1 m2 : Nat}
def wUpper (o : W2) : W2 := fun e ρ k => o e ρ fun x ρ1 => match x with
  | .d (.str s) => s.length ≤ 5592405 ∧ k (.d (.str (Txt.upper s))) ρ1
  | _ => False
theorem je_upper {o : Expr} {apos pos : Pos} {wo : W2} (ho : JE Φ W m1 o wo)
    (hbase : ∀ i, attributeBase o "upper" (Φ.X i).env (eval o (Φ.X i).env) = eval o (Φ.X i).env := by intro _; rfl) (hline : (apos.endLine == pos.line) = true := by rfl) :
    JE Φ W m1 (.Call (.Attribute o "upper" apos) [] [] pos) (wUpper wo) := by
  obtain ⟨to, o1, o2⟩ := ho
  refine ⟨_, fun i => pe_m0 PySem.F.slot_str_upper PySem.F.type_str_upper mt_upper (o1 i) (hbase i) hline, ?_⟩
  intro B H0 g σ ρ n H e k Q rs l hw q xq
  refine o2 B H0 g σ ρ n H e _ _ rs l hw (fun H1 ρ1 Ha v1 x1 s1 r1 h1 q1 => ?_) xq
  split at q1
  · rename_i s
    cases (show Dq Φ.K H1 v1 (.str s) from h1)
    refine ⟨⟨s, rfl⟩, s, rfl, rfl, q1.1, ?_⟩
    exact q H1 ρ1 Ha _ (.d (.str (Txt.upper s))) s1 r1 (.str _) q1.2
  · exact q1.elim
end
end B2
namespace B2
open PySem L2
section
variable {ι : Type} {Φ : Fam ι} {W : WX} {m : Nat}
end
end B2
namespace B2
open PySem L2 PySem.Spec PyProof.Rows
section
variable {ι : Type} {Φ : Fam ι} {W : WX} {m1 m2 : Nat}
end
end B2
namespace B2
open PySem L2 PySem.Spec PyProof.Rows
section
variable {ι : Type} {Φ : Fam ι} {W : WX} {m1 m2 : Nat}
end
end B2
namespace B2
open PySem L2 PySem.Spec PySem.Calls
structure RowsAt (K : PySem.W.Frag) (B : Base) (H0 H : Hp) (g : Option Gs) (σ : St) (ρ : Env) (p : Addr) (ps : List Addr) (rows : List (List PyData)) : Prop where
  at_ : H p = some (.lst (ps.map V.ref))
  f0 : H0 p = none
  fe : B.He p = none
  fg : ¬ InG g p
  fs : ∀ i x q, ρ i = some x → σ[i]? = some (some (.ref q)) → ¬ Foot x q p
  ni : p ∉ ps
  nd : ps.Nodup
  len : ps.length = rows.length
  row : ∀ (k : Nat) (q : Addr) (ds : List PyData), ps[k]? = some q → rows[k]? = some ds → RelR K B H0 H g σ ρ (.ref q) (.own ds)
section
variable {K : PySem.W.Frag} {B : Base} {H0 H0' Hr H H' : Hp} {g : Option Gs} {σ σ' : St} {ρ ρ' : Env} {n n' : Nat} {p q : Addr} {ps : List Addr} {rows : List (List PyData)} {ds : List PyData}
theorem RelR.growA (h : RelR K B H0 H g σ ρ (.ref q) (.own ds)) (e : ∀ o, H q = some o → H' q = some o) : RelR K B H0 H' g σ ρ (.ref q) (.own ds) := by
  obtain ⟨p', e', ⟨ws, h1, h2, h3, h4, h5⟩, h6⟩ := h
  cases e'
  exact ⟨q, rfl, ⟨ws, e _ h1, h2, h3, h4, h5⟩, h6⟩
theorem RelR.envA (h : RelR K B H0 H g σ ρ (.ref q) (.own ds)) (e : ∀ i x, ρ' i = some x → isOwn (some x) = true → ρ i = some x ∧ σ'[i]? = σ[i]?) : RelR K B H0 H g σ' ρ' (.ref q) (.own ds) := by
  obtain ⟨p', e', a, h6⟩ := h
  cases e'
  refine ⟨q, rfl, a, fun i x q2 z z3 f => ?_⟩
  obtain ⟨z1, z2⟩ := e i x z f.own
  exact h6 i x q2 z1 (by rw [← z2]; exact z3) f
theorem RowsAt.env (h : RowsAt K B H0 H g σ ρ p ps rows) (e : ∀ i x, ρ' i = some x → isOwn (some x) = true → ρ i = some x ∧ σ'[i]? = σ[i]?) : RowsAt K B H0 H g σ' ρ' p ps rows :=
  ⟨h.at_, h.f0, h.fe, h.fg, fun i x q2 z z3 f => by obtain ⟨z1, z2⟩ := e i x z f.own; exact h.fs i x q2 z1 (by rw [← z2]; exact z3) f, h.ni, h.nd, h.len, fun k q ds a b => (h.row k q ds a b).envA e⟩
theorem RowsAt.left (h : RowsAt K B H0 H g σ ρ p ps rows) (l : Left H0 Hr H H' g n') : RowsAt K B Hr H' g σ ρ p ps rows := by
  refine ⟨l.keep p _ h.at_ h.fg, ?_, h.fe, h.fg, h.fs, h.ni, h.nd, h.len, fun k q ds a b => (h.row k q ds a b).left l⟩
  cases z : Hr p with
  | none => rfl
  | some o =>
    rcases l.new p o z with k | k
    · rw [h.f0] at k; cases k
    · rw [h.at_] at k; cases k
theorem RowsAt.lay (h : RowsAt K B H0 H g σ ρ p ps rows) {T : Addr} {o : HO} (hT : H T = none) (s : Same H0 (upd H0 T o)) : RowsAt K B (upd H0 T o) (upd H T o) g σ ρ p ps rows := by
  have np : p ≠ T := ne_of_none h.at_ hT
  refine ⟨by rw [upd_ne np]; exact h.at_, by rw [upd_ne np]; exact h.f0, h.fe, h.fg, h.fs, h.ni, h.nd, h.len, fun k q ds a b => ?_⟩
  obtain ⟨q', e, ⟨ws, k1, k2, k3, k4, k5⟩, k6⟩ := h.row k q ds a b
  cases e
  have nq : q ≠ T := ne_of_none k1 hT
  exact ⟨q, rfl, ⟨ws, by rw [upd_ne nq]; exact k1, k2.mono s, by rw [upd_ne nq]; exact k3, k4, k5⟩, k6⟩
theorem RowsAt.app (r : RS K B H0 g σ ρ n H) (h : RowsAt K B H0 H g σ ρ p ps rows) {k : Nat} {v : V} {d : PyData} (hk : ps[k]? = some q) (hd : rows[k]? = some ds) (hv : Dq K H0 v d) :
    ∃ ws, H q = some (.lst ws) ∧ ws.length = ds.length ∧ RS K B H0 g σ ρ n (upd H q (.lst (ws ++ [v]))) ∧ RowsAt K B H0 (upd H q (.lst (ws ++ [v]))) g σ ρ p ps (rows.set k (ds ++ [d])) := by
  have hr := h.row k q ds hk hd
  obtain ⟨q', e, ⟨ws, k1, k2, k3, k4, k5⟩, k6⟩ := id hr
  cases e
  obtain ⟨r8, t8⟩ := r.mutT hr (k2.append (.cons hv .nil))
  have np : p ≠ q := fun z => h.ni (by rw [z]; exact List.mem_of_getElem? hk)
  refine ⟨ws, k1, k2.length, r8, ⟨by rw [upd_ne np]; exact h.at_, h.f0, h.fe, h.fg, h.fs, h.ni, h.nd, by rw [List.length_set]; exact h.len, fun j q2 es a b => ?_⟩⟩
  by_cases c : j = k
  · subst c
    rw [hk] at a; cases a
    have hl := (List.getElem?_eq_some_iff.mp hd).1
    rw [List.getElem?_set_self hl] at b; cases b
    exact t8
  · rw [List.getElem?_set_ne (fun z => c z.symm)] at b
    have nq : q2 ≠ q := fun z => by
      subst z
      have h1 := (List.getElem?_eq_some_iff.mp a)
      have h2 := (List.getElem?_eq_some_iff.mp hk)
      exact c ((List.getElem_inj h.nd).mp (h1.2.trans h2.2.symm))
    exact (h.row j q2 es a b).growA fun o z => by rw [upd_ne nq]; exact z
theorem dqa_rows {H1 : Hp} : ∀ {ps : List Addr} {rows : List (List PyData)}, ps.length = rows.length → (∀ (k : Nat) (q : Addr) (ds : List PyData), ps[k]? = some q → rows[k]? = some ds → ∃ ws, H1 q = some (.lst ws) ∧ DqA K H1 ws ds) → DqA K H1 (ps.map V.ref) (rows.map PyData.list)
  | [], [], _, _ => .nil
  | [], _ :: _, h, _ => by cases h
  | _ :: _, [], h, _ => by cases h
  | q :: ps, ds :: rows, h, hr => by
    obtain ⟨ws, h1, h2⟩ := hr 0 q ds rfl rfl
    exact .cons (.lst h1 h2) (dqa_rows (by simpa using h) fun k q' ds' a b => hr (k + 1) q' ds' (by simpa using a) (by simpa using b))
theorem RowsAt.done (r : RS K B H0 g σ ρ n H) (h : RowsAt K B H0 H g σ ρ p ps rows) {i : Nat} (hi : σ[i]? = some (some (.ref p))) :
    ∃ H0', Same H0 H0' ∧ RS K B H0' g σ (upE ρ i (some (.d (.list (rows.map PyData.list))))) n H := by
  have rw_ : ∀ q, q ∈ ps → ∃ ws, H q = some (.lst ws) ∧ H0 q = none ∧ B.He q = none ∧ ¬ InG g q ∧ ∀ i x q2, ρ i = some x → σ[i]? = some (some (.ref q2)) → ¬ Foot x q2 q := fun q hq => by
    obtain ⟨k, hk⟩ := List.mem_iff_getElem?.mp hq
    have hl := (List.getElem?_eq_some_iff.mp hk).1
    obtain ⟨q', e, ⟨ws, k1, k2, k3, k4, k5⟩, k6⟩ := h.row k q _ hk (List.getElem?_eq_getElem (by rw [← h.len]; exact hl))
    cases e
    exact ⟨ws, k1, k3, k4, k5, k6⟩
  let H1 : Hp := fun b => if b = p ∨ b ∈ ps then H b else H0 b
  have in1 : ∀ b, (b = p ∨ b ∈ ps) → H0 b = none ∧ B.He b = none ∧ ¬ InG g b ∧ ∀ i x q2, ρ i = some x → σ[i]? = some (some (.ref q2)) → ¬ Foot x q2 b := fun b hb => by
    rcases hb with rfl | hb
    · exact ⟨h.f0, h.fe, h.fg, h.fs⟩
    · obtain ⟨ws, _, a2, a3, a4, a5⟩ := rw_ b hb
      exact ⟨a2, a3, a4, a5⟩
  have s0 : Same H0 H1 := fun b u e => by
    show (if b = p ∨ b ∈ ps then H b else H0 b) = some u
    rw [if_neg fun z => by rw [(in1 b z).1] at e; cases e]; exact e
  have eq1 : ∀ b, (b = p ∨ b ∈ ps) → H1 b = H b := fun b hb => if_pos hb
  have eq0 : ∀ b, ¬ (b = p ∨ b ∈ ps) → H1 b = H0 b := fun b hb => if_neg hb
  have r1 : RS K B H1 g σ ρ n H := by
    refine ⟨fun b u e => s0 b u (r.hb b u e), fun b u e => ?_, fun b u e => ?_, r.keep, r.drw, fun b z => ?_, r.gg, fun j x z => ?_, r.dist⟩
    · by_cases hb : b = p ∨ b ∈ ps
      · exact .inr (in1 b hb).2.1
      · rw [eq0 b hb] at e; exact r.new b u e
    · by_cases hb : b = p ∨ b ∈ ps
      · rw [eq1 b hb] at e; exact e
      · rw [eq0 b hb] at e; exact r.ext b u e
    · rw [eq0 b fun hb => (in1 b hb).2.2.1 z]; exact r.drf b z
    · obtain ⟨v, h1, h2⟩ := r.sl j x z
      refine ⟨v, h1, h2.keep s0 fun q' a e f => ⟨fun _ z => z, fun w => ⟨?_, w.he, w.ng⟩⟩⟩
      rw [eq0 a fun hb => (in1 a hb).2.2.2 j x q' z (by rw [h1, e]) f]; exact w.h0
  have hd : Dq K H1 (.ref p) (.list (rows.map PyData.list)) := by
    refine .lst (xs := ps.map V.ref) (by rw [eq1 p (.inl rfl)]; exact h.at_) (dqa_rows h.len fun k q ds a b => ?_)
    obtain ⟨q', e, ⟨ws, k1, k2, _⟩, _⟩ := h.row k q ds a b
    cases e
    exact ⟨ws, by rw [eq1 q (.inr (List.mem_of_getElem? a))]; exact k1, k2.mono s0⟩
  have hil := (List.getElem?_eq_some_iff.mp hi).1
  have r2 := r1.set (x := .d (.list (rows.map PyData.list))) (v := .ref p) hil hd (fun _ z => nomatch z)
  have es : σ.set i (some (.ref p)) = σ := by
    refine List.ext_getElem? fun j => ?_
    by_cases c : i = j
    · subst c; rw [List.getElem?_set_self hil, hi]
    · rw [List.getElem?_set_ne c]
  rw [es] at r2
  exact ⟨H1, s0, r2⟩
end
section
variable {ι : Type} {Φ : Fam ι} {W : WX} {m m1 m2 m3 m4 : Nat}
end
end B2

namespace B2
open PySem PySem.Spec L2 PyProof.Rows
section
variable {prog : Program} {w : World} {A : Around} {E : Value → Shared → Prop} {s : Shared}
end
section
variable {ι : Type} {Φ : Fam ι} {W : WX} {m : Nat}
end
end B2

namespace B2
open PySem L2 PySem.Calls
open PyProof.Rows (envOfC)
section
variable {ι : Type} {Φ : Fam ι} {W : WX} {m m1 m2 m3 : Nat}
end
end B2

namespace B2
open PySem L2
section
variable {ι : Type} {Φ : Fam ι} {W : WX} {m1 m2 : Nat}
end
end B2

namespace B2
open PySem L2
section
variable {ι : Type} {Φ : Fam ι} {W : WX} {m : Nat}
end
end B2

namespace B2
open PySem PySem.Spec L2 PySem.Calls PyProof.Rows
structure ErrI (K : PySem.W.Frag) (mg : MG) (errs : List Str) : Prop where
  ex : ∀ nm ∈ errs, ∃ D, mg nm = some (.ref D) ∧ ExcC K D
structure ErrV (K : PySem.W.Frag) (mg : MG) (T : Str) (errs : List Str) (f : Str → Bool) : Prop where
  ex : ∃ (c : V) (u : Value), ClsV c u ∧ (mg T = some u ∨ (mg T = none ∧ bootBuiltins T = some u ∧ T ≠ "__name__")) ∧ ∀ nm ∈ errs, ∀ D, mg nm = some (.ref D) → PySem.W.kitOne K (.ref D) u = some (f nm)
section
variable {ι : Type} {Φ : Fam ι} {W : WX} {m m1 m2 m3 : Nat}
structure JV {ι : Type} (Ψ : Fam ι) (es : List Expr) (errs : List Str) (f : Str → Bool) : Prop where
  ex : ∃ (cs : List V) (us : List Value), Paired ClsV cs us ∧ cs.length = es.length ∧ (∀ i, PA (Ψ.X i) es (fun _ H Q => Q cs H)) ∧ ∀ nm ∈ errs, ∀ D, Ψ.mg nm = some (.ref D) → PySem.W.kitAny Ψ.K (.ref D) us = some (f nm)
  len : es.length ≤ 100
structure Is1 (K : PySem.W.Frag) (mg : MG) (u : Value) (nm : Str) (r : Bool) : Prop where
  ex : ∃ D, mg nm = some (.ref D) ∧ PySem.W.kitOne K (.ref D) u = some r
end
end B2

namespace B2
open PySem PySem.Spec L2 PySem.Calls PyProof.Rows
abbrev SpecE := Str → (X2 → Prop) → Prop
def spE (a : Addr) (nm : Str) (s : SpecE) : Spec2 := fun xs k _ => xs = [.scr a] ∧ s nm k
structure FnE (P : Program) (w : World) (K : PySem.W.Frag) (mg : MG) (base : Heap) (k : Nat) (f : Addr) (fd : FuncData) (ps : List Str) (errs : List Str) (m : Nat) (s : SpecE) : Prop where
  one : ps.length = 1
  run : ∀ (A : Around) (up : List PySem.Env) (sh : Shared) (H : Hp) (args : Args) (Q : VK) (E : XK) (p : Addr × Obj) (nm : Str) (D : Addr), L2H.RoomH k A → Gd k A → L2H.PinOk up H sh p → nm ∈ errs → mg nm = some (.ref D) → Zc (.ref D) none p.2 → (∃ vs, p.2.data = .fields vs) → L2H.Hot1 A p →
    Env0 P w K mg base A up sh H → BindsTo sh fd args (ps.zip [.ref p.1]) → liftS K mg m 1 (spE p.1 nm s) [.ref p.1] H Q E → codeAny (model P w) A (.call (.ref f) args) (CR CX0 up P w H sh Q E) sh
structure PnE {ι : Type} (Ψ : Fam ι) (a D : Addr) : Prop where
  ex : ∀ i, ∃ oe, (a, oe) ∈ (Ψ.X i).pn ∧ Zc (.ref D) none oe ∧ (∃ vs, oe.data = .fields vs) ∧ L2H.Hot1 (Ψ.X i).A (a, oe)
section
variable {ι : Type} {Ψ Φ : Fam ι} {W : WX} {m m1 m2 m3 : Nat}
end
section
variable {P : Program} {w : World} {K : PySem.W.Frag} {mg : MG} {base : Heap} {m : Nat}
end
structure Def2E (P : Program) (w : World) (K : PySem.W.Frag) (mg : MG) (base : Heap) (x : Str) (j : Nat) (ps : List Str) (mf : Nat) (errs : List Str) (s : SpecE) : Prop where
  ex : ∃ (f : Addr) (fd : FuncData), FnE P w K mg base j f fd ps errs mf s ∧ mg x = some (.ref f) ∧ PySem.W.keepIn K (.ref f) = true ∧ Binds K fd ps []
section
variable {ι : Type} {Ψ : Fam ι} {W : WX} {m : Nat}
end
section
variable {ι : Type} {Φ : Fam ι} {W : WX} {m : Nat}
end
section
variable {ι : Type} {Φ : Fam ι} {W : WX} {m : Nat}
end
end B2

namespace B2
open PySem PySem.Spec L2 PySem.Calls PyProof.Rows
structure FunV (K : PySem.W.Frag) (x qual : Str) (st : Stmt) (f : Addr) (fd : FuncData) : Prop where
  ex : ∃ (oc : Value) (od : Option Addr) (dV kV doc pm : Value) (an : Option Addr) (cdv ct : Value) (osl : Array (Option Value)),
    fd = PySem.W.fnOf x qual (defArgs st) (defBody st) (defScope st) dV kV doc pm an cdv ct ∧ K.lookup f = some ⟨oc, od, .func fd, osl⟩ ∧ PySem.W.codeIn K cdv qual = true
  kp : PySem.W.keepIn K (.ref f) = true
section
variable {P : Program} {w : World} {K : PySem.W.Frag} {mg : Str → Option Value} {base : Heap} {k : Nat} {f : Addr} {fd : FuncData} {ps : List Str} {sp : Sp}
theorem FunV.ok {x q : Str} {st : Stmt} {N : List Str} (F : FunV K x q st f fd) (S : FnScope N ps (defScope st)) (many : ∀ vs H Q E, sp vs H Q E → vs.length = ps.length)
    (inner : ∀ (cdv : Value) (A : Around) (up : List PySem.Env) (s : Shared) (H : Hp) (vs : List V) (Q : VK) (E : XK), Room k (A.deeper (envOfC q (defScope st) s.heap.objs.size f cdv)) → Gd k (A.deeper (envOfC q (defScope st) s.heap.objs.size f cdv)) → sp vs H Q E →
      ∃ t, PSs (cxOf CX0 P w K mg base N q (defScope st) f cdv A up s H E).nox (defBody st) t ∧ t { nx := fun _ H' => Q .non H', rt := Q } (L2.start N vs) H) : FnG P w K mg base CX0 (k + 1) f fd ps sp := by
  obtain ⟨oc, od, dV, kV, doc, pm, an, cdv, ct, osl, rfl, at_, code⟩ := F.ex
  refine fnG_of at_ code S many fun A up s H vs Q E room gd wish => ?_
  obtain ⟨t, a, b⟩ := inner cdv A up s H vs Q E room gd wish
  exact ⟨t, a.nox, b⟩
theorem FunV.okX {x q : Str} {st : Stmt} {N : List Str} (F : FunV K x q st f fd) (S : FnScope N ps (defScope st)) (many : ∀ vs H Q E, sp vs H Q E → vs.length = ps.length)
    (inner : ∀ (cdv : Value) (A : Around) (up : List PySem.Env) (s : Shared) (H : Hp) (vs : List V) (Q : VK) (E : XK), Room k (A.deeper (envOfC q (defScope st) s.heap.objs.size f cdv)) → Gd k (A.deeper (envOfC q (defScope st) s.heap.objs.size f cdv)) → sp vs H Q E →
      ∃ t, PSs (cxOf (L2N.CX P w) P w K mg base N q (defScope st) f cdv A up s H E) (defBody st) t ∧ t { nx := fun _ H' => Q .non H', rt := Q } (L2.start N vs) H) : FnG P w K mg base (L2N.CX P w) (k + 1) f fd ps sp := by
  obtain ⟨oc, od, dV, kV, doc, pm, an, cdv, ct, osl, rfl, at_, code⟩ := F.ex
  exact fnG_of at_ code S many fun A up s H vs Q E room gd wish => inner cdv A up s H vs Q E room gd wish
end
structure AtV (K : PySem.W.Frag) (mg : MG) (x : Str) (st : Stmt) (ps : List Str) : Prop where
  ex : ∃ (f : Addr) (fd : FuncData), FunV K x x st f fd ∧ mg x = some (.ref f) ∧ Binds K fd ps [] ∧ ∃ ds, Vals [.non] ds ∧ Binds K fd ps ds
section
variable {P : Program} {w : World} {K : PySem.W.Frag} {mg : MG} {base : Heap} {m : Nat}
end
structure Def2V (P : Program) (w : World) (K : PySem.W.Frag) (mg : MG) (base : Heap) (x : Str) (j : Nat) (ps : List Str) (mf len : Nat) (s : Spec2) : Prop where
  full : Def2 P w K mg base x j ps mf len s
  ex : ∃ (f : Addr) (fd : FuncData) (ds : List Value), FnG P w K mg base CX0 j f fd ps (liftS K mg mf len s) ∧ mg x = some (.ref f) ∧ PySem.W.keepIn K (.ref f) = true ∧ Vals [.non] ds ∧ Binds K fd ps ds
section
variable {ι : Type} {Φ : Fam ι} {W : WX} {m : Nat}
end
end B2

namespace B2
open PySem PySem.Spec L2 PySem.Calls PyProof.Rows
abbrev KLast (K : PySem.W.Frag) (fd : FuncData) (ps : List Str) (key : Str) : Prop := KBn K fd ps (ps.length - 1) [key] (fun us ws => us ++ ws) (fun vs zs => vs ++ zs)
structure AtK (K : PySem.W.Frag) (mg : MG) (x : Str) (st : Stmt) (ps : List Str) (key : Str) : Prop where
  ex : ∃ (f : Addr) (fd : FuncData), FunV K x x st f fd ∧ mg x = some (.ref f) ∧ Binds K fd ps [] ∧ (∃ ds, Vals [.non] ds ∧ Binds K fd ps ds) ∧ KLast K fd ps key
structure Def2K (P : Program) (w : World) (K : PySem.W.Frag) (mg : MG) (base : Heap) (x : Str) (j : Nat) (ps : List Str) (key : Str) (mf len : Nat) (s : Spec2) : Prop where
  v : Def2V P w K mg base x j ps mf len s
  kw : ∃ (f : Addr) (fd : FuncData), FnG P w K mg base CX0 j f fd ps (liftS K mg mf len s) ∧ mg x = some (.ref f) ∧ PySem.W.keepIn K (.ref f) = true ∧ KLast K fd ps key
section
variable {X : Cx} {CX : CXT} {k n : Nat} {f : Addr} {fd : FuncData} {ps ks : List Str} {sp : Sp} {E : XK} {x : Str} {p pos : Pos} {e : Expr} {es : List Expr} {kws : List Keyword} {t tk : TA} {g : List Value → List Value → List Value} {gV : List V → List V → List V}
end
section
variable {ι : Type} {Φ : Fam ι} {W : WX} {m m1 m2 : Nat}
end
end B2

namespace B2
open PySem PySem.Spec L2 PySem.Calls PyProof.Rows
section
variable {ι : Type} {Φ : Fam ι} {W : WX} {m : Nat}
end
end B2

namespace B2
open PySem PySem.Spec L2 PySem.Calls PyProof.Rows
section
variable {prog : Program} {w : World} {A : Around} {R : Result → Shared → Prop} {I l S : Addr}
end
section
variable {prog : Program} {w : World} {A : Around} {E : Value → Shared → Prop} {s : Shared}
end
inductive LLs (H : Hp) : List V → List (List V) → Prop
  | nil : LLs H [] []
  | cons {b : Addr} {vs xs : List V} {xss : List (List V)} : H b = some (.lst xs) → LLs H vs xss → LLs H (.ref b :: vs) (xs :: xss)
theorem LLs.obj {X : Cx} {pins : List (Addr × Obj)} {σ : L2.St} {H : Hp} {s : Shared} (I : Inv X pins σ H s) : ∀ {bs : List V} {xss : List (List V)} {us : List Value}, LLs H bs xss → Vals bs us → ∃ els : List (List Value), us.length = els.length ∧ els.length = xss.length ∧ Vals xss.flatten els.flatten ∧
    ∀ (j : Nat) (x : List Value), els[j]? = some x → ∃ (b : Addr) (nb : Nat), us[j]? = some (Value.ref b) ∧ IsL s.heap b x.toArray nb
  | _, _, _, .nil, .nil => ⟨[], rfl, rfl, .nil, fun j x h => by simp at h⟩
  | _, _, _, .cons hb t, .cons rv rt => by
    obtain ⟨els, h1, h2, h3, h4⟩ := LLs.obj I t rt
    cases rv
    obtain ⟨z, its, n, r, hl, e⟩ := I.lstM hb
    refine ⟨its :: els, by rw [List.length_cons, List.length_cons, h1], by rw [List.length_cons, List.length_cons, h2], ?_, fun j x hx => ?_⟩
    · rw [List.flatten_cons, List.flatten_cons]; exact r.append h3
    · cases j with
      | zero => cases hx; exact ⟨_, n, rfl, e⟩
      | succ j => exact h4 j x hx
section
variable {ι : Type} {Φ : Fam ι} {W : WX} {m : Nat}
end
end B2

namespace B2
open PySem PySem.Spec L2 PySem.Calls PyProof.Rows
structure ZL (prog : Program) (w : World) (A : Around) (z D : Addr) (wr : List Addr) (n : Nat) (V : Nat → Array Value → Prop) (St : Nat → Heap → Prop) : Prop where
  typ : ∀ i h, St i h → ∃ o, h.get? z = some o ∧ o.cls = .type "zip"
  frame : ∀ i h h', St i h → (∀ b o, b ≠ D → h.get? b = some o → h'.get? b = some o) → St i h'
  item : ∀ i (s : Shared) (Q : Option Value → Shared → Prop) (E : Value → Shared → Prop), i < n → St i s.heap → D < s.heap.objs.size →
    (∀ T vals h' tk, V i vals → h'.get? T = some { cls := .type "tuple", data := .seq vals } → s.heap.objs.size ≤ T → St (i + 1) h' → (∀ b o, b ∉ wr → s.heap.get? b = some o → h'.get? b = some o) → Q (some (.ref T)) { s with heap := h', toks := tk }) → wpAny (model prog w) A (pyNext (.ref z)) Q E s
  done : ∀ (s : Shared) (Q : Option Value → Shared → Prop) (E : Value → Shared → Prop), St n s.heap → (∀ h' tk, (∀ b o, b ∉ wr → s.heap.get? b = some o → h'.get? b = some o) → Q none { s with heap := h', toks := tk }) → wpAny (model prog w) A (pyNext (.ref z)) Q E s
  self : ∀ (A : Around) i (s : Shared) (Q : Value → Shared → Prop) (E : Value → Shared → Prop), St i s.heap → Q (.ref z) s → wpAny (model prog w) A (pyIter (.ref z)) Q E s
section
variable {prog : Program} {w : World} {A : Around} {E : Value → Shared → Prop} {s : Shared} {z TI TO T i1 i2 i3 : Addr} {f : Bool} {oT : Obj} {fp1 fp2 fp3 : List Addr} {n1 n2 n3 i : Nat} {P1 P2 P3 : Nat → Value → Prop} {St1 St2 St3 : Nat → Heap → Prop}
end
section
variable {X : Cx} {pins : List (Addr × Obj)} {σ : L2.St}
end
section
variable {X : Cx}
end
section
variable {ι : Type} {Φ : Fam ι} {W : WX} {m : Nat}
end
end B2

namespace B2
open PySem PySem.Spec L2 PySem.Calls PyProof.Rows
section
variable {P : Program} {w : World} {K : PySem.W.Frag} {mg : MG} {base : Heap}
end
end B2

namespace B2
open PySem PySem.Spec L2 RZ PyProof.Rows
section
variable {prog : Program} {w : World} {A : Around} {E : Value → Shared → Prop} {s : Shared}
end
structure TurnK (P : Program) (w : World) (K : PySem.W.Frag) (x1 : Addr) (tg : Expr) (J : It) (fp : List Addr) (it : Addr) (tn : Nat → Heap → Prop) : Prop where
  mem : it ∈ fp
  obj : ∀ i h, tn i h → ∀ b ∈ fp, ∃ o, h.get? b = some o ∧ ∀ v, o.data ≠ .cell v
  keep : ∀ i h h', tn i h → (∀ b ∈ fp, ∀ o, h.get? b = some o → h'.get? b = some o) → tn i h'
  item : ∀ (X : Cx), X.prog = P → X.w = w → X.K = K → ∀ (i : Nat) (pins : List (Addr × Obj)) (s : Shared) (σ : L2.St) (H : Hp) (E : Value → Shared → Prop), HotX.HotAt X.A x1 s.heap → Inv X pins σ H s → (∀ b ∈ fp, FpOk X pins H b) → tn i s.heap → J.go i H →
    wpAny (model P w) X.A (pyNext (.ref it)) (fun r s1 => ∃ u, r = some u ∧ wpAny (model P w) X.A (letOwnedTupleGo tg (.ref it) u) (fun _ s2 => ∃ x H', Inv X pins σ H' s2 ∧ RelV x u ∧ J.yld i H x H' ∧ tn (i + 1) s2.heap ∧ ∀ b ∈ fp, H' b = none) E s1) E s
  done : ∀ (X : Cx), X.prog = P → X.w = w → X.K = K → ∀ (i : Nat) (pins : List (Addr × Obj)) (s : Shared) (σ : L2.St) (H : Hp) (E : Value → Shared → Prop), HotX.HotAt X.A x1 s.heap → Inv X pins σ H s → (∀ b ∈ fp, FpOk X pins H b) → tn i s.heap → J.stop i H →
    wpAny (model P w) X.A (pyNext (.ref it)) (fun r s1 => r = none ∧ Inv X pins σ H s1) E s
  self : ∀ (A : Around) (i : Nat) (s : Shared) (Q : Value → Shared → Prop) (E : Value → Shared → Prop), tn i s.heap → Q (.ref it) s → wpAny (model P w) A (pyIter (.ref it)) Q E s
section
variable {X : Cx} {pins : List (Addr × Obj)} {σ : L2.St} {H : Hp} {s : Shared} {x1 : Addr}
end
def PIEK (X : Cx) (pins : List (Addr × Obj)) (σ : L2.St) (tg : Expr) (x1 : Addr) (R : It → Hp → Prop) (itv : Value) (s2 : Shared) : Prop :=
  ∃ (it : Addr) (fp : List Addr) (tn : Nat → Heap → Prop) (J : It) (H' : Hp), itv = .ref it ∧ Inv X pins σ H' s2 ∧ TurnK X.prog X.w X.K x1 tg J fp it tn ∧ tn 0 s2.heap ∧ (∀ b ∈ fp, FpOk X pins H' b) ∧ R J H'
structure PIK (X : Cx) (tg iter : Expr) (wi : TI) : Prop where
  run : ∀ (pins : List (Addr × Obj)) (s : Shared) (σ : L2.St) (H : Hp) (R : It → Hp → Prop) (p : Addr × Obj), L2H.Hot1 X.A p → p ∈ X.pn → Inv X pins σ H s → wi σ H R →
    wpAny (model X.prog X.w) X.A (eval iter X.env) (fun v s1 => wpAny (model X.prog X.w) X.A (pyIter v) (PIEK X pins σ tg p.1 R) X.xe s1) X.xe s
section
variable {prog : Program} {w : World} {A : Around} {E : Value → Shared → Prop} {s : Shared}
end
structure PGK (X : Cx) (target : Expr) (t : TG) : Prop where
  run : ∀ (pins : List (Addr × Obj)) (s : Shared) (σ : L2.St) (H : Hp) (v : V) (u : Value) (Q : L2.St → Hp → Prop) (x1 : Addr), HotX.HotAt X.A x1 s.heap → Inv X pins σ H s → RelV v u → t v σ H Q →
    wpAny (model X.prog X.w) X.A (assign target X.env u) (fun _ s' => ∃ σ' H', Inv X pins σ' H' s' ∧ Q σ' H') X.xe s
section
variable {X : Cx}
end
section
variable {ι : Type} {Φ : Fam ι} {W : WX} {m m1 m2 m3 : Nat}
end
end B2

namespace PyProof.Rows
open PySem
section
variable {prog : Program} {w : World} {A : Around} {E : Value → Shared → Prop} {s : Shared}
theorem strs_of : ∀ {vs : List Value} {cs : List Nat}, vs.length = cs.length → (∀ (j : Nat) (v : Value), vs[j]? = some v → ∃ (c : Nat) (u : Tok), cs[j]? = some c ∧ v = Value.str ⟨#[c]⟩ u) → StrsAre vs (cs.map fun c => (⟨#[c]⟩ : Str))
  | [], [], _, _ => .nil
  | [], _ :: _, h, _ => nomatch h
  | _ :: _, [], h, _ => nomatch h
  | v :: vs, c :: cs, h, g => by
    obtain ⟨c', u, h1, h2⟩ := g 0 v rfl
    cases h1
    rw [h2]
    exact .cons _ _ (strs_of (Nat.succ.inj h) fun j y hy => g (j + 1) y hy)
end
end PyProof.Rows
namespace B2
open PySem L2
section
variable {ι : Type} {Φ : Fam ι} {W : WX} {m : Nat}
end
end B2

namespace B2
open PySem PySem.Spec L2 L2N RZ PyProof.Rows
section
variable {X : Cx} {x1 x2 n : Str} {c1 c2 : Value} {i : Nat} {body u1 u2 : List Stmt} {b1 b2 : Stmt} {np1 np2 pos p1 p2 : Pos} {tb : WX → TS} {t1 t2 : Addr → Value → Option Addr → TS} {Wout : WX}
end
section
variable {ι : Type} {Φ : Fam ι} {W : WX} {m m1 m2 m3 : Nat}
end
end B2

namespace B2
open PySem PySem.Spec L2 PySem.Calls PyProof.Rows
section
variable {prog : Program} {w : World} {z TI TO i1 i2 : Addr} {fp1 fp2 : List Addr} {n1 n2 : Nat} {P1 P2 : Nat → Value → Prop} {St1 St2 : Nat → Heap → Prop}
end
section
variable {X : Cx} {pins : List (Addr × Obj)} {σ : L2.St}
end
section
variable {X : Cx}
end
end B2

namespace B2
open PySem PySem.Spec L2 PySem.Calls PyProof.Rows
def valP (kvs : List (Key × PyData)) (k : Key) : Option PyData := (kvs.find? fun kv => decide (kv.1 = k)).map (·.2)
def putP (kvs : List (Key × PyData)) (k : Key) (v : PyData) : List (Key × PyData) :=
  if (kvs.any fun kv => decide (kv.1 = k)) = true then kvs.map (fun kv => if kv.1 = k then (kv.1, v) else kv) else kvs ++ [(k, v)]
section
variable {K : PySem.W.Frag} {H H' : Hp}
inductive DK (K : PySem.W.Frag) (H : Hp) : List (Key × V) → List (Key × PyData) → Prop
  | nil : DK K H [] []
  | cons {k : Key} {v : V} {d : PyData} {ks : List (Key × V)} {ds : List (Key × PyData)} : Dq K H v d → DK K H ks ds → DK K H ((k, v) :: ks) ((k, d) :: ds)
theorem DK.mono (e : Same H H') : ∀ {ks : List (Key × V)} {ds : List (Key × PyData)}, DK K H ks ds → DK K H' ks ds
  | _, _, .nil => .nil
  | _, _, .cons a b => .cons (Dq.mono e a) (DK.mono e b)
theorem DK.length : ∀ {ks : List (Key × V)} {ds : List (Key × PyData)}, DK K H ks ds → ks.length = ds.length
  | _, _, .nil => rfl
  | _, _, .cons _ b => by simp [DK.length b]
theorem DK.app : ∀ {ks ls : List (Key × V)} {ds es : List (Key × PyData)}, DK K H ks ds → DK K H ls es → DK K H (ks ++ ls) (ds ++ es)
  | _, _, _, _, .nil, q => q
  | _, _, _, _, .cons a b, q => .cons a (DK.app b q)
theorem DK.any {k : Key} : ∀ {ks : List (Key × V)} {ds : List (Key × PyData)}, DK K H ks ds → (ks.any fun kv => decide (kv.1 = k)) = ds.any fun kv => decide (kv.1 = k)
  | _, _, .nil => rfl
  | _, _, .cons a b => by rw [List.any_cons, List.any_cons, DK.any b]
theorem DK.repl {k : Key} {v : V} {d : PyData} (h : Dq K H v d) : ∀ {ks : List (Key × V)} {ds : List (Key × PyData)}, DK K H ks ds → DK K H (ks.map fun kv => if kv.1 = k then (kv.1, v) else kv) (ds.map fun kv => if kv.1 = k then (kv.1, d) else kv)
  | _, _, .nil => .nil
  | _, _, @DK.cons _ _ k' v' d' ks ds a b => by
    rw [List.map_cons, List.map_cons]
    by_cases e : k' = k
    · rw [if_pos e, if_pos e]; exact .cons h (DK.repl h b)
    · rw [if_neg e, if_neg e]; exact .cons a (DK.repl h b)
theorem DK.put {ks : List (Key × V)} {ds : List (Key × PyData)} (q : DK K H ks ds) (k : Key) {v : V} {d : PyData} (h : Dq K H v d) : DK K H (putK ks k v) (putP ds k d) := by
  unfold putK putP
  rw [q.any]
  split
  · exact q.repl h
  · exact q.app (.cons h .nil)
theorem DK.val {k : Key} {d : PyData} : ∀ {ks : List (Key × V)} {ds : List (Key × PyData)}, DK K H ks ds → valP ds k = some d → ∃ v, valV ks k = some v ∧ Dq K H v d
  | _, _, .nil, h => by cases h
  | _, _, @DK.cons _ _ k' v' d' ks ds a b, h => by
    unfold valP at h
    rw [List.find?_cons] at h
    by_cases e : k' = k
    · rw [show decide ((k', d').1 = k) = true from decide_eq_true e] at h
      cases h
      exact ⟨v', valV_pos e, a⟩
    · rw [show decide ((k', d').1 = k) = false from decide_eq_false e] at h
      obtain ⟨v, h1, h2⟩ := DK.val b h
      exact ⟨v, by rw [valV_neg e]; exact h1, h2⟩
end
section
variable {ι : Type} {Φ : Fam ι} {W : WX} {m m1 m2 m3 : Nat}
end
end B2

namespace B2
open PySem PySem.Spec L2 PySem.Calls PyProof.Rows
section
variable {K : PySem.W.Frag} {B : Base} {H0 H0' H H' : Hp} {g : Option Gs} {σ σ' : L2.St} {ρ ρ' : Env} {n m : Nat} {v : V} {x : X2}
end
section
variable {X : Cx} {pins : List (Addr × Obj)} {σ : L2.St} {H : Hp} {s : Shared} {a b : Addr} {kvs more : List (Key × V)} {A : Around} {E : Value → Shared → Prop}
end
section
variable {ι : Type} {Φ : Fam ι} {W : WX} {m m1 m2 m3 : Nat}
end
end B2

namespace B2
open PySem PySem.Spec L2 PySem.Calls PyProof.Rows
section
variable {K : PySem.W.Frag} {B : Base} {H0 H0' H H' Hr : Hp} {g : Option Gs} {σ σ' : L2.St} {ρ ρ' : Env} {n n' m : Nat} {v : V} {x : X2} {as : List Addr} {dss : List (List PyData)}
def RelO (K : PySem.W.Frag) (B : Base) (H0 H : Hp) (g : Option Gs) (σ : L2.St) (ρ : Env) (v : V) (as : List Addr) (dss : List (List PyData)) : Prop :=
  ∃ p, v = .ref p ∧ ObAt K B H0 H g p (.rows as dss) ∧ ∀ i x q a, ρ i = some x → σ[i]? = some (some (.ref q)) → Foot (.ob (.rows as dss)) p a → ¬ Foot x q a
theorem Left.priv (l : Left H0 Hr H H' g n) {a : Addr} (h : Priv B H0 g a) (h2 : H a ≠ none) : Priv B Hr g a := by
  refine ⟨?_, h.he, h.ng⟩
  cases z : Hr a with
  | none => rfl
  | some o =>
    rcases l.new a o z with k | k
    · rw [h.h0] at k; cases k
    · exact (h2 k).elim
theorem RelO.left (h : RelO K B H0 H g σ ρ v as dss) (l : Left H0 Hr H H' g n) : RelO K B Hr H' g σ ρ v as dss := by
  obtain ⟨p, e, h1, h2⟩ := h
  refine ⟨p, e, h1.keep l.b fun a f => ?_, h2⟩
  obtain ⟨k1, k2⟩ := h1.foot f
  exact ⟨fun u z => l.keep a u z k1.ng, fun _ => l.priv k1 k2⟩
theorem RelO.mono (h : RelO K B H0 H g σ ρ v as dss) (e : Same H0 Hr) (s : Same H H') (f : ∀ p, Hr p ≠ none → H0 p ≠ none ∨ H p = none) : RelO K B Hr H' g σ ρ v as dss := by
  obtain ⟨p, ev, h1, h2⟩ := h
  refine ⟨p, ev, h1.keep e fun a fa => ?_, h2⟩
  obtain ⟨k1, k2⟩ := h1.foot fa
  refine ⟨fun u z => s a u z, fun w => ⟨?_, w.he, w.ng⟩⟩
  cases z : Hr a with
  | none => rfl
  | some o =>
    rcases f a (by rw [z]; simp) with q | q
    · exact (q w.h0).elim
    · exact (k2 q).elim
theorem RS.mutP (r : RS K B H0 g σ ρ n H) {p : Addr} (h : Priv B H0 g p) (hx : ∀ i x q, ρ i = some x → σ[i]? = some (some (.ref q)) → ¬ Foot x q p) (o : HO) : RS K B H0 g σ ρ n (upd H p o) := by
  refine ⟨r.hb, r.new, fun b u e => ?_, fun b u e z => ?_, fun g' e => (r.drw g' e).keep fun b u hb z => ?_, r.drf, r.gg, fun j x q' => ?_, r.dist⟩
  · rw [upd_ne (fun z : b = p => by rw [z, h.h0] at e; cases e)]; exact r.ext b u e
  · rw [upd_ne (fun z' : b = p => by rw [z', h.he] at e; cases e)]; exact r.keep b u e z
  · rw [upd_ne (fun z' : b = p => h.ng (by rw [← z', e]; exact hb))]; exact z
  · obtain ⟨v, k1, k2⟩ := r.sl j x q'
    refine ⟨v, k1, k2.keep (Same.refl _) fun q2 a e fa => ⟨fun u z => ?_, id⟩⟩
    have hne : a ≠ p := fun z => hx j x q2 q' (by rw [k1, e]) (by rw [← z]; exact fa)
    rw [upd_ne hne]; exact z
theorem RelO.push (r : RS K B H0 g σ ρ n H) {p a : Addr} (h : RelO K B H0 H g σ ρ (.ref p) as dss) {ds : List PyData} (ha : OwnAt K B H0 H g a ds) (hna : a ∉ p :: as) (hx : ∀ i x q, ρ i = some x → σ[i]? = some (some (.ref q)) → ¬ Foot x q a) :
    RS K B H0 g σ ρ n (upd H p (.lst (as.map .ref ++ [.ref a]))) ∧ RelO K B H0 (upd H p (.lst (as.map .ref ++ [.ref a]))) g σ ρ (.ref p) (as ++ [a]) (dss ++ [ds]) := by
  obtain ⟨p', e, h1, h2⟩ := h
  cases e
  obtain ⟨k1, k2, k3, k4, k5, k6⟩ := h1
  obtain ⟨vs, a1, a2, a3, a4, a5⟩ := ha
  have nap : a ≠ p := fun z => hna (by rw [z]; exact .head _)
  have naa : a ∉ as := fun z => hna (.tail _ z)
  have ndp : p ∉ as := (List.nodup_cons.mp k4).1
  refine ⟨r.mutP k1 (fun i x q e1 e2 f => h2 i x q p e1 e2 (.inl rfl) f) _, p, rfl, ⟨k1, fun b hb => ?_, ?_, ?_, ?_, fun i b es e1 e2 => ?_⟩, fun i x q b e1 e2 f => ?_⟩
  · rcases List.mem_append.mp hb with z | z
    · exact k2 b z
    · rw [List.mem_singleton.mp z]; exact ⟨a3, a4, a5⟩
  · rw [upd_same, List.map_append]; rfl
  · rw [List.nodup_cons]
    refine ⟨fun z => ?_, ?_⟩
    · rcases List.mem_append.mp z with z | z
      · exact ndp z
      · exact nap (List.mem_singleton.mp z).symm
    · rw [List.nodup_append]
      exact ⟨(List.nodup_cons.mp k4).2, List.nodup_cons.mpr ⟨List.not_mem_nil, List.nodup_nil⟩, fun x hx y hy e => naa (by rw [← List.mem_singleton.mp hy, ← e]; exact hx)⟩
  · rw [List.length_append, List.length_append, k5]; rfl
  · by_cases hi : i < as.length
    · rw [List.getElem?_append_left hi] at e1
      rw [List.getElem?_append_left (by omega)] at e2
      obtain ⟨ws, q1, q2⟩ := k6 i b es e1 e2
      have : b ≠ p := fun z => ndp (by rw [← z]; exact List.mem_of_getElem? e1)
      exact ⟨ws, by rw [upd_ne this]; exact q1, q2⟩
    · have hi2 : i = as.length := by
        have := (List.getElem?_eq_some_iff.mp e1).1
        rw [List.length_append, List.length_singleton] at this
        omega
      subst hi2
      rw [List.getElem?_append_right (Nat.le_refl _), Nat.sub_self] at e1
      rw [k5, List.getElem?_append_right (Nat.le_refl _), Nat.sub_self] at e2
      cases e1; cases e2
      exact ⟨vs, by rw [upd_ne nap]; exact a1, a2⟩
  · rcases f with f | f
    · exact h2 i x q b e1 e2 (.inl f)
    · rcases List.mem_append.mp f with z | z
      · exact h2 i x q b e1 e2 (.inr z)
      · rw [List.mem_singleton.mp z]; exact hx i x q e1 e2
end
section
variable {ι : Type} {Φ : Fam ι} {W : WX} {m m1 m2 m3 : Nat}
end
section
variable {ι : Type} {Φ : Fam ι} {W : WX} {m m1 m2 m3 : Nat}
end
end B2

namespace B2
open PySem L2
structure AtA (K : PySem.W.Frag) (mg : MG) (x y : Str) (st : Stmt) (ps : List Str) : Prop where
  ex : ∃ (f : Addr) (fd : FuncData), Fun K y y st f fd ∧ mg x = some (.ref f) ∧ Binds K fd ps []
end B2
namespace B2
open PySem PySem.Spec L2 PySem.Calls PyProof.Rows
def lookS (kvs : List (Str × Int)) (s : Str) : Option Int := (kvs.find? fun kv => kv.1 = s).map (·.2)
structure DicC (P : Program) (w : World) (K : PySem.W.Frag) (mg : MG) (x : Str) (kvs : List (Str × Int)) : Prop where
  ex : ∃ (a : Addr) (o : Obj) (vs : List (Str × Value)), mg x = some (.ref a) ∧ (a == sysModules) = false ∧ K.lookup a = some o ∧ (∀ h : Heap, h.get? a = some o → h.DictOf (PySem.strKind P w) a vs) ∧ ∀ (s : Str) (j : Int) (u : Value), RelV (.int j) u → RelV (.int ((lookS kvs s).getD j)) ((valueAt vs s).getD u)
section
variable {ι : Type} {Φ : Fam ι} {W : WX} {m m1 m2 m3 : Nat} {kvs : List (Str × Int)}
end
end B2

namespace B2
open PySem PySem.Spec L2 PySem.Calls PyProof.Rows
abbrev SpecB := List X2 → List PyData → (PyData → List PyData → Prop) → Prop
section
variable {K : PySem.W.Frag} {B : Base} {H0 H0' H H' : Hp} {g : Option Gs} {σ σ' : L2.St} {ρ ρ' : Env} {n m : Nat} {v : V} {x : X2}
theorem RelA.s {Hb : Hp} (h : RelA K Hb g v x) : RelS K B Hb H g v x := by
  cases x with
  | own _ => exact h.elim
  | d _ => exact h
  | slot _ => exact h.elim
  | drw => exact h
  | scr _ => exact h
  | ob _ => exact h.elim
theorem RelA.foot {Hb : Hp} (h : RelA K Hb g v x) {p a : Addr} (f : Foot x p a) : False := by
  cases x with
  | own _ => exact h.elim
  | ob _ => exact h.elim
  | d _ => exact f.elim
  | slot _ => exact f.elim
  | drw => exact f.elim
  | scr _ => exact f.elim
end
section
variable {ι : Type} {Φ : Fam ι} {W : WX} {m m1 m2 m3 : Nat}
end
def liftB (K : PySem.W.Frag) (m : Nat) (s : SpecB) : Sp := fun vs H Q E => ∃ (v0 : V) (p : Addr) (v2 : V) (Hb : Hp) (g : Option Gs) (n : Nat) (x0 x2 : X2) (ds : List PyData) (us : List V) (k : PyData → List PyData → Prop),
  vs = [v0, .ref p, v2] ∧ n + m ≤ LIM ∧ Same Hb H ∧ (∀ p, InG g p → Hb p = none) ∧ (∀ g', g = some g' → DrawOk H g' n) ∧ RelA K Hb g v0 x0 ∧ RelA K Hb g v2 x2 ∧ H p = some (.lst us) ∧ DqA K Hb us ds ∧ Hb p = none ∧ ¬ InG g p ∧ s [x0, x2] ds k ∧
  ∀ Hr H' v d ds' us', Left Hb Hr H (upd H' p (.lst us)) g (n + m) → H' p = some (.lst us') → DqA K Hr us' ds' → Hr p = none → Dq K Hr v d → k d ds' → Q v H'
section
variable {P : Program} {w : World} {K : PySem.W.Frag} {mg : MG} {base : Heap} {m : Nat}
end
structure Def2B (P : Program) (w : World) (K : PySem.W.Frag) (mg : MG) (base : Heap) (x : Str) (j : Nat) (ps : List Str) (mf : Nat) (s : SpecB) : Prop where
  ex : ∃ (f : Addr) (fd : FuncData), FnG P w K mg base CX0 j f fd ps (liftB K mf s) ∧ mg x = some (.ref f) ∧ PySem.W.keepIn K (.ref f) = true ∧ Binds K fd ps []
section
variable {ι : Type} {Φ : Fam ι} {W : WX} {m m1 m2 m3 : Nat}
end
end B2

namespace B2
open PySem PySem.Spec L2 RZ PyProof.Rows
section
variable {M : Model} {A : Around} {E : Value → Shared → Prop} {s : Shared} {Z : Obj → Prop} {base : Heap} {env : PySem.Env} {outer : List PySem.Env} {L e : Addr}
end
abbrev bxe (X : Cx) (cenv : PySem.Env) : Value → Shared → Prop := notedBy (model X.prog X.w) X.A cenv (CompFails (model X.prog X.w) X.A X.xe cenv)
abbrev blkX (X : Cx) (s : Shared) (H : Hp) (scope : Scope) (C : Addr) (cl : List (Str × Addr)) (fp : List Addr) : Cx := (X.blk s H scope (compEnvC scope cl C X.env) fp).wish (bxe X (compEnvC scope cl C X.env))
section
variable {X : Cx} {W : WX}
end
structure BxIx {ι : Type} (Φ : Fam ι) (scope : Scope) (W : WX) where
  i : ι
  s : Shared
  H : Hp
  C : Addr
  cl : List (Str × Addr)
  fp : List Addr
  tk : L2N.Takes (blkX (Φ.X i) s H scope C cl fp) W
section
variable {X : Cx} {W : WX}
end
section
variable {ι : Type} {Φ : Fam ι} {W : WX} {m m1 m2 m3 : Nat}
end
end B2

namespace B2
open PySem PySem.Spec L2 PySem.Calls PyProof.Rows
theorem at_mk2 {K : PySem.W.Frag} {mg : MG} (x : Str) (st : Stmt) (ps : List Str) (hb : ∀ (kV doc pm : Value) (an : Option Addr) (cdv ct : Value) (us : List Value), us.length = ps.length → bindArgs (PySem.W.fnOf x x (defArgs st) (defBody st) (defScope st) .none kV doc pm an cdv ct) ⟨us, []⟩ = pure (ps.zip us))
    {h : Heap} {f : Addr} {od an : Option Addr} {sl : Array (Option Value)} {oc kV dc pm cd ct : Value} (X : K.In h) (G : h.Ns mainGlobals mg)
    (a : PySem.W.nsIn K mainGlobals x = some (some (.ref f))) (l : K.lookup f = some ⟨oc, od, .func (PySem.W.fnOf x x (defArgs st) (defBody st) (defScope st) .none kV dc pm an cd ct), sl⟩) (c : PySem.W.codeIn K cd x = true) (k : PySem.W.keepIn K (.ref f) = true) : At K mg x st ps := at_mk X G hb a l c k
theorem strs_of : ∀ {ys : List Str} {us : List Value}, Vals (ys.map V.str) us → StrsAre us ys
  | [], _, .nil => .nil
  | y :: ys, _, .cons ⟨t, e⟩ q => by
    subst e
    exact .cons y t (strs_of q)
section
variable {X : Cx} {o e : Expr} {es : List Expr} {to : TE} {t : TA} {name : Str} {apos cpos : Pos} {id : String} {r : V → List V → Hp → VK → Prop}
end
section
variable {ι : Type} {Φ : Fam ι} {W : WX} {m m1 m2 m3 : Nat}
end
end B2

namespace B2
open PySem PySem.Spec L2 PySem.Calls PyProof.Rows
section
variable {prog : Program} {w : World} {A : Around} {E : Value → Shared → Prop} {s : Shared}
def newSet (w : World) : Obj := { cls := .type "set", dict := none, data := .set #[] 0 (.fresh 0 0 (!w.params.followText "set-order")) }
def SetDone (w : World) (s : Shared) (ns : List Int) (s2 : Shared) : Prop := ∃ (h' : Heap) (tk c : Nat), s2 = { s with heap := h', toks := tk } ∧ SetR w h' s.heap.objs.size (fun j => decide (j ∈ ns)) c ∧ c ≤ ns.length ∧ ∀ b o, s.heap.get? b = some o → h'.get? b = some o
theorem set_fills {a : Addr} {items : Array Value} {ns : List Int} (hh : A.handled = none) (hl : s.heap.IsList a items) (hi : IntsAre items.toList ns) (hb : ns.length + 1 < scanBound) {R : Result → Shared → Prop}
    (hR : ∀ s2, SetDone w s ns s2 → R (.ok (.ret .none)) s2) :
    codeAny (model prog w) A (.builtin "set.update.loop" ⟨[.ref s.heap.objs.size, .ref (s.heap.push (newSet w)).objs.size], []⟩) R
      { s with heap := (s.heap.push (newSet w)).push { cls := .type "list_iterator", data := .fields #[.ref a, .int 0 0] } } := by
  have za : a < s.heap.objs.size := by obtain ⟨_, e, _⟩ := hl; exact Heap.lt_size e
  have z1 : (s.heap.push (newSet w)).objs.size = s.heap.objs.size + 1 := Heap.size_push ..
  have hsz : items.size = ns.length := by have q := IntsAre.length hi; rw [Array.length_toList] at q; exact q
  have hne : a ≠ (s.heap.push (newSet w)).objs.size := by rw [z1]; exact Nat.ne_of_lt (Nat.lt_succ_of_lt za)
  have hin : A.in1.handled = none := by simp [hh]
  refine set_update_ints ((Walks.list (prog := prog) (w := w) hin (s.heap.push (newSet w)).objs.size a hne items).toS) s.heap.objs.size ?_ ns hsz hb ?_ items.size 0 _ (Nat.sub_zero _) (Nat.zero_le _) ⟨⟨_, Heap.get?_push_size _ rfl, rfl, rfl⟩, (hl.push _).push _⟩ ⟨0, Nat.le_refl _, setR_new_at (Heap.get?_push_of_some _ (Heap.get?_push_size _ rfl))⟩ ?_
  · intro hm
    rcases List.mem_cons.mp hm with e | e
    · rw [z1] at e; exact absurd e (Nat.ne_of_lt (Nat.lt_succ_self _))
    · exact absurd (List.mem_singleton.mp e) (Nat.ne_of_gt za)
  · intro i v hv
    have hlt : i < ns.length := by rw [← hsz]; exact (Array.getElem?_eq_some_iff.mp hv).1
    obtain ⟨t, e⟩ := IntsAre.int_at hi i v (by rw [Array.getElem?_toList]; exact hv)
    refine ⟨ns[i], t, List.getElem?_eq_getElem hlt, ?_⟩
    rw [e, List.getD_eq_getElem?_getD, List.getElem?_eq_getElem hlt] <;> rfl
  · intro s2 c hm hc hS
    obtain ⟨h2, g2, d2, t2, o2⟩ := s2
    have eg : g2 = s.gens := hm.gens
    have ed : d2 = s.drawn := hm.drawn
    have eo : o2 = s.os := hm.os
    subst eg; subst ed; subst eo
    refine hR _ ⟨h2, t2, c, rfl, hS, by rw [← hsz]; exact hc, fun b o e => ?_⟩
    have hb0 : b < s.heap.objs.size := Heap.lt_size e
    refine hm.heap b o (fun q => ?_) (Heap.get?_push_of_some _ (Heap.get?_push_of_some _ e))
    rcases List.mem_cons.mp q with q | q
    · exact absurd q (Nat.ne_of_lt hb0)
    · have q := List.mem_singleton.mp q
      rw [z1] at q
      exact absurd q (Nat.ne_of_lt (Nat.lt_succ_of_lt hb0))
theorem call_set_listR {a : Addr} {items : Array Value} {ns : List Int} {Q : Value → Shared → Prop} (hh : A.handled = none) (hl : s.heap.IsList a items) (hi : IntsAre items.toList ns) (hb : ns.length + 1 < scanBound)
    (hQ : ∀ s2, SetDone w s ns s2 → Q (.ref s.heap.objs.size) s2) : wpAny (model prog w) A (call (.type "set") [.ref a]) Q E s := by
  obtain ⟨c, tl, hmro⟩ := F.called_set.mro
  have hmade := F.called_set.made
  have hsub := F.called_set.sub
  have h1 := F.called_set.notType
  have h2 := F.called_set.canCreate
  have hct := F.typeCall_set_1 (.ref a)
  refine wpAny_call (codeAny_of_tree ?_)
  show wpAny _ _ (callAny (.type "set") _) _ _ _
  refine wpAny_pure ⟨Code.quiet_builtin _ (by decide +kernel), codeAny_builtin F.entry_type_call ?_⟩
  rw [Around.under_plain (weight_type_call_type "set" [.ref a] []) rfl]
  repeat (any_goals (first | assumption | wp_step))
  refine codeAny_mono (code_set_led1 (.ref a) (E := E) (Q₁ := fun obj s₁ => obj = .ref s.heap.objs.size ∧ s₁ = { s with heap := s.heap.push (newSet w) }) ⟨rfl, rfl⟩) fun r s₁ hr => ?_
  match r, hr with
  | .error e, hr => exact hr
  | .ok (.ret obj), hr =>
    obtain ⟨rfl, rfl⟩ := hr
    have hS : (s.heap.push (newSet w)).get? s.heap.objs.size = some { cls := .type "set", dict := none, data := .set #[] 0 (.fresh 0 0 (!w.params.followText "set-order")) } := Heap.get?_push_size _ rfl
    have hT : Shared.TypeIs { s with heap := s.heap.push (newSet w) } (.ref s.heap.objs.size) "set" := ⟨_, hS, rfl⟩
    have hli := F.called_set.init.lookup
    have hbi := F.called_set.init.bind (.ref s.heap.objs.size)
    repeat (any_goals (first | assumption | wp_step))
    refine codeAny_mono (codeAny_call_builtin (R := wants (fun r s₂ => r = .none ∧ SetDone w s ns s₂) E) F.called_set.init.plain F.entry_set_init (check_set_init_1 hT ?_)) fun r₂ s₂ hr₂ => ?_
    · obtain ⟨⟨cl, dd, dat, sl⟩, ho, hc, n, hd⟩ := id hl
      simp only at hc hd
      subst hc hd
      have ho1 : (s.heap.push (newSet w)).get? a = some { cls := .type "list", dict := dd, data := .seq items n, slots := sl } := Heap.get?_push_of_some _ ho
      have q1 := F.sub_list_set
      have q2 := F.sub_list_frozenset
      have q3 : (Value.type "list" == Value.type "dict") = false := by decide
      unfold Builtin.«set.__init__» noKeywords Builtin.Frozenset.updateFrom
      generalize hPI : pyIter = PI
      wp_walk
      subst hPI
      refine wpAny_pyIter_list (hl.push _) (wpAny_bind (wpAny_runValue ?_))
      refine set_fills (by simp [hh]) hl hi hb fun s2 hs => ?_
      exact wpAny_pure (wpAny_pure ⟨rfl, hs⟩)
    · match r₂, hr₂ with
      | .error e, hr₂ => exact hr₂
      | .ok (.ret r), hr₂ =>
        obtain ⟨rfl, hs⟩ := hr₂
        repeat (any_goals (first | assumption | wp_step))
        exact hQ _ hs
end
section
variable {X : Cx} {e : Expr} {te : TE}
def tSS (te : TE) : TE := fun σ H Q => te σ H fun x H1 => ∃ (p : Addr) (ns : List Int), x = .ref p ∧ H1 p = some (.lst (ns.map V.int)) ∧ ns.length < 64 ∧
  ∀ (ms : List Int) (q : Addr), ms.Pairwise (· < ·) → (∀ k, k ∈ ms ↔ k ∈ ns) → H1 q = none → Q (.ref q) (upd H1 q (.lst (ms.map V.int)))
theorem pe_sortSet {p p2 pos pos2 : Pos} (hc : X.calm = true) (hg : Gl X "sorted") (hm : X.mg "sorted" = none) (hg2 : Gl X "set") (hm2 : X.mg "set" = none) (he : PE X e te) (na : starEach [e] X.env = (false, eval e X.env) :: starEach [] X.env := by rfl)
    (na2 : starEach [.Call (.Name "set" p2) [e] [] pos2] X.env = (false, eval (.Call (.Name "set" p2) [e] [] pos2) X.env) :: starEach [] X.env := by rfl) : PE X (.Call (.Name "sorted" p) [.Call (.Name "set" p2) [e] [] pos2] [] pos) (tSS te) := by
  refine ⟨fun pins s σ H Q I h => ?_⟩
  refine Call_ (ld_blt I hg hm PyProof.Rows.boot_sorted (PyProof.Rows.callWith_builtin1 (args_cons ?_ na2) na2))
  refine Call_ (ld_blt I hg2 hm2 PyProof.Rows.boot_set (PyProof.Rows.callWith_type1 (args_cons (thn (he.run pins s σ H _ I h) fun x s1 ⟨v, H1, I1, r, p, ns, e0, hp, h64, q⟩ => args_nil ?_) na) na))
  subst e0
  cases r
  obtain ⟨z, its, n, rv, hl, ea⟩ := I1.lstM hp
  have hi : IntsAre its.toArray.toList ns := ints_of_vals rv
  have hd := I1.ok.hd hc
  refine call_set_listR hd (IsL.isList ea) hi (by unfold scanBound; omega) fun s2 hs => args_nil ?_
  obtain ⟨h2, tk, c, rfl, hS, hcn, k⟩ := hs
  refine sorted_set hS hd (by omega) fun s3 p3 out c3 ms k3 g3 o3 hz hg3 hi3 hms hmem hlen => ?_
  have kk : ∀ b o, s1.heap.get? b = some o → s3.heap.get? b = some o := fun b o e => k3 b o (k b o e)
  have hz1 : s1.heap.objs.size ≤ p3 := by
    have h4 : s1.heap.objs.size < h2.objs.size := by obtain ⟨o, es, ep, t, ho, _⟩ := hS; exact Heap.lt_size ho
    exact Nat.le_trans (Nat.le_of_lt h4) hz
  have hn : H1 p3 = none := I1.hok.fresh hz1
  have hll : (ms.map V.int).length ≤ sizeLine := by rw [List.length_map, hlen, sizeLine_eq]; omega
  have J : Inv X pins σ (upd H1 p3 (.lst (ms.map V.int))) { s1 with heap := s3.heap, gens := s3.gens, drawn := s3.drawn, toks := s3.toks } :=
    I1.call (ch := []) (Un.laid kk hz1 hn) (I1.hok.laid kk hz1 ⟨hll, out.toList, c3, vals_of_ints hi3, hg3⟩) (by rw [g3]; exact I1.bare) (fun _ z => nomatch z)
  have e : s3 = { s1 with heap := s3.heap, gens := s3.gens, drawn := s3.drawn, toks := s3.toks } := by
    cases s3
    cases s1
    cases o3
    rfl
  rw [e]
  exact ⟨.ref p3, _, J, rfl, q ms p3 hms (fun j => by rw [hmem, decide_eq_true_eq]) hn⟩
end
def sortSetD (d : PyData) (k : X2 → Prop) : Prop := match d with
  | .list ds => match allInts ds with
    | some ns => ns.length < 64 ∧ ∀ ms : List Int, ms.Pairwise (· < ·) → (∀ j, j ∈ ms ↔ j ∈ ns) → k (.own (ms.map PyData.int))
    | none => False
  | _ => False
def wSortSet (wa : W2) : W2 := fun e ρ k => wa e ρ fun x ρ1 => rdK ρ1 x fun d => sortSetD d fun z => k z ρ1
section
variable {ι : Type} {Φ : Fam ι} {W : WX} {m : Nat}
theorem je_sortSet {a : Expr} {p p2 pos pos2 : Pos} {wa : W2} (hl : Φ.mg "sorted" = none) (hr : Φ.mg "set" = none) (ha : JE Φ W m a wa) (hcm : Φ.cm = true := by rfl) (hg : ∀ i, Gl (Φ.X i) "sorted" := by intro _; rfl) (hg2 : ∀ i, Gl (Φ.X i) "set" := by intro _; rfl)
    (he : ∀ i, starEach [a] (Φ.X i).env = (false, eval a (Φ.X i).env) :: starEach [] (Φ.X i).env := by intro _; rfl) (he2 : ∀ i, starEach [.Call (.Name "set" p2) [a] [] pos2] (Φ.X i).env = (false, eval (.Call (.Name "set" p2) [a] [] pos2) (Φ.X i).env) :: starEach [] (Φ.X i).env := by intro _; rfl) :
    JE Φ W m (.Call (.Name "sorted" p) [.Call (.Name "set" p2) [a] [] pos2] [] pos) (wSortSet wa) := by
  obtain ⟨ta, a1, a2⟩ := ha
  refine ⟨tSS ta, fun i => pe_sortSet (Φ.calm hcm i) (hg i) (by rw [Φ.hmg i]; exact hl) (hg2 i) (by rw [Φ.hmg i]; exact hr) (a1 i) (he i) (he2 i), ?_⟩
  intro B H0 g σ ρ n H e k Q rs l hw q xq
  refine a2 B H0 g σ ρ n H e _ _ rs l hw (fun H1 ρ1 Ha v1 x1 s1 r1 h1 q1 => ?_) xq
  obtain ⟨d, ed, q2⟩ := rdK_of q1
  unfold sortSetD at q2
  split at q2
  · split at q2
    · rename_i ds ns hn
      obtain ⟨p, vs, rfl, t1, d1⟩ := r1.list h1 ed
      rw [allInts_eq hn] at d1
      rw [d1.ints] at t1
      exact ⟨p, ns, rfl, t1, q2.1, fun ms l2 h4 h5 h6 => r1.newL (k := fun x => k x ρ1) (DqA.of_ints ms) h6 (fun H2 Hb v x s2 r2 h2 k2 => q H2 ρ1 Hb v x (s1.trans s2) r2 h2 k2) (q2.2 ms h4 h5)⟩
    · exact q2.elim
  · exact q2.elim
end
def rTupleS : List V → Hp → VK → Prop := fun xs H Q => ∃ z, xs = [.str z] ∧ z.length ≤ sizeLine ∧ ∀ l, H l = none → Q (.ref l) (upd H l (.tup (signV z)))
theorem call_tupleS {X : Cx} (hc : X.calm = true) : CallR X (.type "tuple") rTupleS := by
  intro pins s σ H xs us Q I r h
  obtain ⟨z, rfl, hz, q⟩ := h
  obtain ⟨u, rfl, t, rfl⟩ := vals1 r
  refine PySem.call_tuple_str (I.ok.hd hc) z t (fun h' tk acc hk hit => ?_) hz
  have I2 : Inv X pins σ H { s with heap := h', toks := tk } := I.kept (t' := tk) hk
  refine ⟨.ref h'.objs.size, _, I2.laid (t' := tk) (fun c o e => Heap.get?_push_of_some _ e) (Nat.le_refl _) (show ObjOk X.prog X.w _ _ _ (.tup (signV z)) from ⟨?_, acc.toList, vals_signs hit, ?_⟩), rfl, q _ (I2.hok.fresh (Nat.le_refl _))⟩
  · show (z.cps.toList.map _).length ≤ _
    rw [List.length_map, Array.length_toList]
    exact hz
  · rw [Array.toArray_toList]; exact IsTup.new _ _
def tupleTD (d : PyData) (k : X2 → Prop) : Prop := match d with
  | .str z => z.length ≤ 16777216 ∧ k (.d (.tuple (signs z)))
  | _ => False
def cbTupleT : List PyData → (X2 → Prop) → Prop := fun ds k => match ds with | [d] => tupleTD d k | _ => False
section
variable {ι : Type} {Φ : Fam ι} {W : WX} {m : Nat}
theorem je_tupleT {a : Expr} {p pos : Pos} {wa : WA} (hm : Φ.mg "tuple" = none) (ha : JA Φ W m [a] wa) (hg : ∀ i, Gl (Φ.X i) "tuple" := by intro _; rfl) (he : ∀ i, starEach [a] (Φ.X i).env = (false, eval a (Φ.X i).env) :: starEach [] (Φ.X i).env := by intro _; rfl) (hcm : Φ.cm = true := by rfl) : JE Φ W m (.Call (.Name "tuple" p) [a] [] pos) (wCB cbTupleT wa) :=
  je_ct (T := "tuple") (r := rTupleS) (f := cbTupleT) (fun i => call_tupleS (Φ.calm hcm i)) (csim1 (f := tupleTD) fun B H0 g σ ρ n H v x d k Q r h e hf q => by
    unfold tupleTD at hf
    split at hf
    · rw [r.str h e]
      exact ⟨_, rfl, by rw [sizeLine_eq]; exact hf.1, fun l hl => r.newT (dqa_signs _) hl q hf.2⟩
    · exact hf.elim) hm (by decide +kernel) ha hg (by decide) (by decide) he (fun _ => rfl)
end
end B2

namespace Mth
open PySem L2 B2
theorem atIn {α : Type} {xs : List α} {n : Nat} : atI xs (n : Int) = xs[n]? := by
  unfold atI ixN
  by_cases h : n < xs.length
  · rw [if_pos (by omega), if_pos (by omega)]; simp
  · rw [if_pos (by omega), if_neg (by omega)]; simp; omega
theorem ixN_nat {n m : Nat} (h : m < n) : ixN n (m : Int) = some m := by
  unfold ixN
  rw [if_pos (by omega), if_pos (by omega)]; simp
theorem ixN_m1 {n : Nat} (h : 0 < n) : ixN n (-1) = some (n - 1) := by
  unfold ixN
  rw [if_neg (by omega), if_pos (by omega)]; congr 1; omega
theorem atI_m1 {α : Type} {R : List α} {x : α} : atI (R ++ [x]) (-1) = some x := by
  unfold atI
  rw [ixN_m1 (by simp)]
  simp
theorem atI_m1' {α : Type} {R : List α} {y x : α} : atI (R ++ [y, x]) (-1) = some x := by
  have := atI_m1 (R := R ++ [y]) (x := x)
  rw [List.append_assoc] at this
  exact this
theorem atI_m2 {α : Type} {R : List α} {y x : α} : atI (R ++ [y, x]) (-2) = some y := by
  unfold atI ixN
  rw [if_neg (by omega), if_pos (by simp; omega)]
  simp only [List.length_append, List.length_cons, List.length_nil, Option.bind_some]
  rw [show ((-2 : Int) + ((R.length + (0 + 1 + 1) : Nat) : Int)).toNat = R.length by omega]
  simp
theorem cutL_m1 {α : Type} {R : List α} {x : α} : cutL (R ++ [x]) none (some (-1)) = R := by
  unfold cutL HT.sIx
  simp only [List.length_append, List.length_cons, List.length_nil, List.drop_zero, Nat.sub_zero]
  rw [if_pos (by omega), show ((-1 : Int) + ((R.length + (0 + 1) : Nat) : Int)).toNat = R.length by omega]
  simp
theorem cutL_m2 {α : Type} {R : List α} {y x : α} : cutL (R ++ [y, x]) none (some (-2)) = R := by
  unfold cutL HT.sIx
  simp only [List.length_append, List.length_cons, List.length_nil, List.drop_zero, Nat.sub_zero]
  rw [if_pos (by omega), show ((-2 : Int) + ((R.length + (0 + 1 + 1) : Nat) : Int)).toNat = R.length by omega]
  simp
theorem cutL_m2r {α : Type} {R : List α} {y x : α} : cutL (R ++ [y, x]) (some (-2)) none = [y, x] := by
  unfold cutL HT.sIx
  simp only [List.length_append, List.length_cons, List.length_nil]
  rw [if_pos (by omega), show ((-2 : Int) + ((R.length + (0 + 1 + 1) : Nat) : Int)).toNat = R.length by omega]
  simp
theorem cutL_to {α : Type} {xs : List α} {n : Nat} : cutL xs none (some (n : Int)) = xs.take n := by
  unfold cutL HT.sIx
  simp only [List.drop_zero, Nat.sub_zero]
  rw [if_neg (by omega), Int.toNat_natCast]
  by_cases h : n ≤ xs.length
  · rw [Nat.min_eq_left h]
  · rw [Nat.min_eq_right (by omega), List.take_of_length_le (Nat.le_refl _), List.take_of_length_le (by omega)]
theorem cutL_from {α : Type} {xs : List α} {n : Nat} : cutL xs (some (n : Int)) none = xs.drop n := by
  unfold cutL
  rw [HT.sIx_nat, HT.sIx_none]
  by_cases h : n ≤ xs.length
  · rw [Nat.min_eq_left h, List.take_of_length_le (by simp)]
  · rw [Nat.min_eq_right (by omega), List.drop_length, List.drop_of_length_le (by omega)]; simp
theorem last_app {α : Type} {R : List α} {x : α} : (R ++ [x])[(R ++ [x]).length - 1]? = some x := by simp
theorem iteN {b : Bool} {A B : Prop} (h : b = false) (x : B) : if b = true then A else B := by rw [h]; exact x
theorem eqv_str (s t : Str) : PyData.eqv (.str s) (.str t) = (s == t) := by simp [PyData.eqv]
theorem eqv_int (i j : Int) : PyData.eqv (.int i) (.int j) = (i == j) := by simp [PyData.eqv]
theorem map_erase {α β : Type} (f : α → β) (l : List α) (n : Nat) : (l.map f).eraseIdx n = (l.eraseIdx n).map f := by
  rw [List.eraseIdx_eq_take_drop_succ, List.eraseIdx_eq_take_drop_succ, List.map_append, List.map_take, List.map_drop]
theorem intN1 (n : Nat) : ((n : Int) + 1) = ((n + 1 : Nat) : Int) := rfl
theorem intN2 (n : Nat) : ((n : Int) + 2) = ((n + 2 : Nat) : Int) := rfl
theorem two_at {α : Type} {l : List α} {n : Nat} (h : n + 1 < l.length) : ∃ a b, l[n]? = some a ∧ l[n + 1]? = some b ∧ l = l.take n ++ a :: b :: l.drop (n + 2) := by
  refine ⟨l[n], l[n + 1], List.getElem?_eq_getElem _, List.getElem?_eq_getElem _, ?_⟩
  rw [List.getElem_cons_drop, List.getElem_cons_drop, List.take_append_drop]
theorem set_mid {α : Type} {A B : List α} {x y : α} {n : Nat} (h : A.length = n) : (A ++ [x] ++ B).set n y = A ++ [y] ++ B := by
  subst h
  rw [List.append_assoc, List.set_append_right _ _ (Nat.le_refl _), Nat.sub_self, List.append_assoc]; rfl
theorem cutL_toI {α : Type} {xs : List α} {i : Int} (h : 0 ≤ i) : cutL xs none (some i) = xs.take i.toNat := by
  obtain ⟨n, rfl⟩ := Int.eq_ofNat_of_zero_le h
  exact cutL_to
inductive Wd where
  | yes | no | neg | and | or | same
  | let (c : Nat)
deriving DecidableEq
def Wd.str : Wd → Str
  | .yes => "yes"
  | .no => "no"
  | .neg => "not"
  | .and => "and"
  | .or => "or"
  | .same => "same"
  | .let c => SX.S [c]
def saD (ws : List Wd) : PyData := .tuple (ws.map fun w => .str w.str)
def bitC (b : Bool) : Nat := if b then 49 else 48
def woS (bs : List Bool) : Str := SX.S (bs.map bitC)
def leafV (ls : List Nat) (bs : List Bool) : Wd → Bool
  | .yes => true
  | .let c => bs.getD (ls.idxOf c) false
  | _ => false
def stp (v : Wd → Bool) : Wd → List Bool → Option (List Bool)
  | .neg, a :: r => some ((!a) :: r)
  | .and, b :: a :: r => some ((a && b) :: r)
  | .or, b :: a :: r => some ((a || b) :: r)
  | .same, b :: a :: r => some ((a == b) :: r)
  | .neg, _ => none
  | .and, _ => none
  | .or, _ => none
  | .same, _ => none
  | w, r => some (v w :: r)
def runW (v : Wd → Bool) : List Wd → List Bool → Option (List Bool)
  | [], st => some st
  | w :: ws, st => match stp v w st with
    | some st' => runW v ws st'
    | none => none
def Wd.need : Wd → Nat
  | .neg => 1
  | .and => 2
  | .or => 2
  | .same => 2
  | _ => 0
def dep1 (w : Wd) (n : Nat) : Option Nat := if w.need ≤ n then some (n + 1 - w.need) else none
def dep : List Wd → Nat → Option Nat
  | [], n => some n
  | w :: ws, n => match dep1 w n with
    | some m => dep ws m
    | none => none
theorem dep_run1 {v : Wd → Bool} {w : Wd} {st : List Bool} {m : Nat} (h : dep1 w st.length = some m) : ∃ st', stp v w st = some st' ∧ st'.length = m := by
  unfold dep1 at h
  split at h
  · rename_i hn
    simp only [Option.some.injEq] at h
    cases w <;> rcases st with _ | ⟨a, _ | ⟨b, r⟩⟩ <;> simp [Wd.need, stp] at hn h ⊢ <;> omega
  · cases h
theorem dep_run {v : Wd → Bool} : ∀ {ws : List Wd} {st : List Bool} {m : Nat}, dep ws st.length = some m → ∃ st', runW v ws st = some st' ∧ st'.length = m
  | [], st, m, h => ⟨st, rfl, by simpa [dep] using h⟩
  | w :: ws, st, m, h => by
    unfold dep at h
    split at h
    · rename_i n hn
      obtain ⟨st', h1, h2⟩ := dep_run1 (v := v) hn
      unfold runW
      rw [h1]
      exact dep_run (by rw [h2]; exact h)
    · cases h
theorem dep_app : ∀ {ws vs : List Wd} {n m : Nat}, dep ws n = some m → dep (ws ++ vs) n = dep vs m
  | [], vs, n, m, h => by simp [dep] at h; subst h; rfl
  | w :: ws, vs, n, m, h => by
    unfold dep at h
    split at h
    · rename_i k hk
      rw [List.cons_append]
      conv => lhs; unfold dep
      rw [hk]
      exact dep_app h
    · cases h
theorem dep_add1 {w : Wd} {n m k : Nat} (h : dep1 w n = some m) : dep1 w (n + k) = some (m + k) := by
  unfold dep1 at h ⊢
  split at h
  · rename_i hn
    simp only [Option.some.injEq] at h
    rw [if_pos (by omega)]
    congr 1; omega
  · cases h
theorem dep_add : ∀ {ws : List Wd} {n m k : Nat}, dep ws n = some m → dep ws (n + k) = some (m + k)
  | [], n, m, k, h => by simp [dep] at h; subst h; rfl
  | w :: ws, n, m, k, h => by
    unfold dep at h ⊢
    split at h
    · rename_i j hj
      rw [dep_add1 hj]
      exact dep_add h
    · cases h
structure Good (ls : List Nat) (ws : List Wd) : Prop where
  one : dep ws 0 = some 1
  ltr : ∀ c, Wd.let c ∈ ws → c ∈ ls
def valS (ls : List Nat) (bs : List Bool) (ws : List Wd) : Bool := match runW (leafV ls bs) ws [] with
  | some (b :: _) => b
  | _ => false
theorem Good.run {ls : List Nat} {ws : List Wd} (h : Good ls ws) (bs : List Bool) : runW (leafV ls bs) ws [] = some [valS ls bs ws] := by
  obtain ⟨st, h1, h2⟩ := dep_run (v := leafV ls bs) (ws := ws) (st := []) h.one
  unfold valS
  rw [h1]
  match st, h2 with
  | [b], _ => rfl
theorem S1_ne {c : Nat} {s : Str} (h : s.cps.size ≠ 1) : (SX.S [c] == s) = false := by
  rw [beq_eq_false_iff_ne]
  intro e
  rw [← e] at h
  exact h rfl
theorem occ_letter {ls : List Nat} {c : Nat} (h : c ∈ ls) : ∃ r, Builtin.Str.occurrences (SX.S ls) (SX.S [c]) 0 (SX.S ls).length 1 = ls.idxOf c :: r := by
  have at_iff : ∀ i, PySem.StrLaws.At (SX.S ls) (SX.S [c]) (SX.S ls).length i ↔ ls[i]? = some c := by
    intro i
    unfold PySem.StrLaws.At Builtin.Str.subAt
    rw [SX.S_len, SX.S_len]
    constructor
    · rintro ⟨h1, h2⟩
      have h1 : i + 1 ≤ ls.length := h1
      have h3 := eq_of_beq h2
      have h4 := congrArg Array.toList h3
      simp only [Array.toList_extract, List.extract_eq_drop_take] at h4
      have h5 := congrArg (fun l : List Nat => l[0]?) h4
      simp at h5
      rw [List.getElem?_eq_getElem (by omega)]
      rw [List.getElem?_eq_getElem (by omega)] at h5
      exact h5
    · intro h1
      have hi := (List.getElem?_eq_some_iff.mp h1).1
      refine ⟨hi, ?_⟩
      rw [beq_iff_eq]
      apply Array.toList_inj.mp
      simp only [Array.toList_extract, List.extract_eq_drop_take]
      have e1 := (List.getElem?_eq_some_iff.mp h1).2
      rw [List.drop_eq_getElem_cons hi, e1]
      simp
  rcases PySem.StrLaws.occ_head (SX.S ls) (SX.S [c]) 1 (Nat.le_refl _) with ⟨h0, hn⟩ | ⟨i, r, h0, h1, h2⟩
  · obtain ⟨i, hi⟩ := List.getElem?_of_mem h
    exact absurd ((at_iff i).mpr hi) (hn i)
  · refine ⟨r, ?_⟩
    rw [h0]
    congr 1
    have e1 := (at_iff i).mp h1
    have hlt := List.idxOf_lt_length_of_mem h
    have e2 : ls[ls.idxOf c]? = some c := by rw [List.getElem?_eq_getElem hlt]; simp
    rcases Nat.lt_trichotomy i (ls.idxOf c) with z | z | z
    · exfalso
      obtain ⟨hi1, hi2⟩ := List.getElem?_eq_some_iff.mp e1
      have := List.not_of_lt_findIdx (p := (· == c)) (xs := ls) z
      simp [hi2] at this
    · exact z
    · exact absurd ((at_iff _).mpr e2) (h2 _ z)
theorem find_letter {ls : List Nat} {c : Nat} (h : c ∈ ls) : Txt.find (SX.S ls) (SX.S [c]) = (ls.idxOf c : Nat) := by
  obtain ⟨r, e⟩ := occ_letter h
  unfold Txt.find
  rw [e]
theorem Wd.str_inj_b : ∀ w v : Wd, (w.str == v.str) = decide (w = v) := by
  intro w v
  rcases w with _ | _ | _ | _ | _ | _ | c <;> rcases v with _ | _ | _ | _ | _ | _ | d <;> first
    | (exact (by decide +kernel))
    | skip
  all_goals first
    | (show (SX.S [c] == SX.S [d]) = _; rw [SX.S_beq_eq]; simp)
    | (show (SX.S [c] == _) = _; rw [S1_ne (by decide)]; simp)
    | (show (_ == SX.S [d]) = _; rw [BEq.comm, S1_ne (by decide)]; simp)
theorem eqv_wd (w v : Wd) : PyData.eqv (.str w.str) (.str v.str) = decide (w = v) := by rw [eqv_str]; exact Wd.str_inj_b w v
theorem leaf_ne {w v : Wd} (h : w.need = 0) (h' : v.need ≠ 0) : PyData.eqv (.str w.str) (.str v.str) = false := by
  rw [eqv_wd]
  exact decide_eq_false fun e => h' (by rw [← e]; exact h)
theorem leaf_in {w : Wd} (h : w.need = 0) : ([PyData.str "and", .str "or", .str "same"].any fun y => PyData.eqv y (.str w.str)) = false := by
  have e1 : PyData.eqv (.str "and") (.str w.str) = false := (eqv_wd .and w).trans (decide_eq_false fun e => by rw [← e] at h; cases h)
  have e2 : PyData.eqv (.str "or") (.str w.str) = false := (eqv_wd .or w).trans (decide_eq_false fun e => by rw [← e] at h; cases h)
  have e3 : PyData.eqv (.str "same") (.str w.str) = false := (eqv_wd .same w).trans (decide_eq_false fun e => by rw [← e] at h; cases h)
  simp only [List.any_cons, List.any_nil, e1, e2, e3, Bool.or_false]
theorem stp_leaf {v : Wd → Bool} {w : Wd} {st : List Bool} (h : w.need = 0) : stp v w st = some (v w :: st) := by
  cases w <;> first | rfl | (exact absurd h (by decide))
theorem rev_app (a : Bool) (r : List Bool) : (a :: r).reverse.map PyData.bool = (r.reverse.map PyData.bool) ++ [.bool a] := by rw [List.reverse_cons, List.map_append]; rfl
def biP (b : Bool) : PyData := .int (if b then 1 else 0)
theorem rev_bi (a : Bool) (r : List Bool) : (a :: r).reverse.map biP = (r.reverse.map biP) ++ [biP a] := by rw [List.reverse_cons, List.map_append]; rfl
theorem rev_bi2 (b a : Bool) (r : List Bool) : (b :: a :: r).reverse.map biP = (r.reverse.map biP) ++ [biP a, biP b] := by rw [List.reverse_cons, List.reverse_cons, List.map_append, List.map_append, List.append_assoc]; rfl
theorem int_bit (b : Bool) : PySem.intText? ⟨#[bitC b]⟩ = some (if b then 1 else 0) := by cases b <;> decide +kernel
theorem wo_at {bs : List Bool} {i : Nat} (h : i < bs.length) : atI (woS bs).cps.toList (i : Nat) = some (bitC (bs.getD i false)) := by
  rw [atIn]
  show (bs.map bitC)[i]? = _
  rw [List.getElem?_map, List.getElem?_eq_getElem h]
  simp [h]
theorem wo_len (bs : List Bool) : (woS bs).length = bs.length := by
  show (SX.S (bs.map bitC)).length = _
  rw [SX.S_len, List.length_map]
theorem max_bi (a b : Bool) {P : Int → Prop} (h : P (if (a || b) then 1 else 0)) : (∀ M, M ∈ [(if a then 1 else 0 : Int), (if b then 1 else 0)] → (∀ y ∈ [(if a then 1 else 0 : Int), (if b then 1 else 0)], y ≤ M) → P M) := by
  intro M hM hl
  have h1 := hl _ (.head _)
  have h2 := hl _ (.tail _ (.head _))
  have : M = if (a || b) then 1 else 0 := by
    cases a <;> cases b <;> simp at hM h1 h2 ⊢ <;> omega
  rw [this]; exact h

structure Ltrs (ls : List Nat) : Prop where
  ne : ls ≠ []
  up : ls.Pairwise (· < ·)
  az : ∀ c ∈ ls, 97 ≤ c ∧ c ≤ 122
def chD (c : Nat) : PyData := .str (SX.S [c])
def alphabet : List Nat := [97, 98, 99, 100, 101, 102, 103, 104, 105, 106, 107, 108, 109, 110, 111, 112, 113, 114, 115, 116, 117, 118, 119, 120, 121, 122]
theorem signs_alphabet : signs "abcdefghijklmnopqrstuvwxyz" = alphabet.map chD := rfl
theorem rising_chars : ∀ (cs : List Nat) (p : Nat), PyProof.Rows.risingS (SX.S [p]) (cs.map fun c => SX.S [c]) = true → (p :: cs).Pairwise (· ≤ ·)
  | [], p, _ => by simp
  | c :: cs, p, h => by
    rw [List.map_cons, PyProof.Rows.risingS, Bool.and_eq_true] at h
    have h2 := rising_chars cs c h.2
    have h1 : p ≤ c := by
      have h3 := h.1
      simp only [Bool.not_eq_true'] at h3
      have : ¬ c < p := by
        intro hc
        have h3 : PySem.Spec.ltCps [c] [p] = false := h3
        have : PySem.Spec.ltCps [c] [p] = true := by simp [PySem.Spec.ltCps, hc]
        rw [this] at h3
        cases h3
      omega
    rw [List.pairwise_cons]
    refine ⟨fun a ha => ?_, h2⟩
    rcases List.mem_cons.mp ha with e | ha
    · rw [e]; exact h1
    · rw [List.pairwise_cons] at h2
      exact Nat.le_trans h1 (h2.1 a ha)
theorem sorted_chars : ∀ (cs : List Nat), PyProof.Rows.sortedS (cs.map fun c => SX.S [c]) = true → cs.Pairwise (· ≤ ·)
  | [], _ => .nil
  | c :: cs, h => rising_chars cs c h
theorem perm_chars {ms : List Str} {cs : List Nat} (h : ms.Perm (cs.map fun c => SX.S [c])) : ∃ ds : List Nat, ds.Perm cs ∧ ms = ds.map fun c => SX.S [c] := by
  refine ⟨ms.map fun s => s.cps.toList.headD 0, ?_, ?_⟩
  · have := h.map fun s => s.cps.toList.headD 0
    rw [List.map_map] at this
    have e : cs.map ((fun s : Str => s.cps.toList.headD 0) ∘ fun c => SX.S [c]) = cs := by
      conv => rhs; rw [← List.map_id cs]
      exact List.map_congr_left fun c _ => rfl
    rw [e] at this
    exact this
  · rw [List.map_map]
    conv => lhs; rw [← List.map_id ms]
    refine List.map_congr_left fun s hs => ?_
    have := h.mem_iff.mp hs
    obtain ⟨c, _, rfl⟩ := List.mem_map.mp this
    rfl
theorem join_chars (cs : List Nat) : Txt.join "" (cs.map fun c => SX.S [c]) = SX.S cs := by
  have e := SX.join_S [] (cs.map fun c => [c])
  rw [List.map_map] at e
  have e2 : TL.joinL [] (cs.map fun c => [c]) = cs := by
    clear e
    induction cs with
    | nil => rfl
    | cons a r ih =>
      cases r with
      | nil => rfl
      | cons b r => 
        show [a] ++ ([] ++ TL.joinL [] ((b :: r).map fun c => [c])) = _
        rw [ih]; rfl
  rw [e2] at e
  exact e
theorem sum_ones (cs : List Nat) : ((cs.map fun c => SX.S [c]).map (·.length)).sum = cs.length := by
  induction cs with
  | nil => rfl
  | cons a r ih =>
    rw [List.map_cons, List.map_cons, List.sum_cons, ih, List.length_cons]
    show 1 + _ = _
    omega
structure Drawn2 (left found : List Nat) : Prop where
  nd : (left ++ found).Nodup
  az : ∀ c ∈ left ++ found, 97 ≤ c ∧ c ≤ 122
theorem Drawn2.start : Drawn2 alphabet [] := ⟨by decide, by decide⟩
theorem Drawn2.step {left found : List Nat} (h : Drawn2 left found) {n c : Nat} (hc : left[n]? = some c) : Drawn2 (left.eraseIdx n) (found ++ [c]) := by
  obtain ⟨hn, he⟩ := List.getElem?_eq_some_iff.mp hc
  have p : (left.eraseIdx n ++ (found ++ [c])).Perm (left ++ found) := by
    have e : left = left.take n ++ c :: left.drop (n + 1) := by
      rw [← he, List.getElem_cons_drop, List.take_append_drop]
    have e2 : left.eraseIdx n = left.take n ++ left.drop (n + 1) := List.eraseIdx_eq_take_drop_succ ..
    rw [e2]
    conv => rhs; rw [e]
    rw [List.append_assoc, List.append_assoc]
    refine List.Perm.append_left _ ?_
    rw [← List.append_assoc]
    have : (left.drop (n + 1) ++ found ++ [c]).Perm (c :: (left.drop (n + 1) ++ found)) := List.perm_append_singleton ..
    exact this
  exact ⟨p.nodup_iff.mpr h.nd, fun x hx => h.az x (p.mem_iff.mp hx)⟩
theorem Drawn2.ltrs {left found ds : List Nat} (h : Drawn2 left found) (hp : ds.Perm found) (hs : ds.Pairwise (· ≤ ·)) (hne : found ≠ []) : Ltrs ds := by
  have nd : ds.Nodup := hp.nodup_iff.mpr (List.nodup_append.mp h.nd).2.1
  refine ⟨fun e => hne (by rw [e] at hp; exact hp.symm.eq_nil), ?_, fun c hc => h.az c (List.mem_append_right _ (hp.mem_iff.mp hc))⟩
  exact (hs.and nd).imp fun ⟨a, b⟩ => by omega

theorem Good.leaf {ls : List Nat} {w : Wd} (h : w.need = 0) (hl : ∀ c, w = .let c → c ∈ ls) : Good ls [w] := by
  refine ⟨?_, fun c hc => hl c (List.mem_singleton.mp hc).symm⟩
  unfold dep dep1
  rw [h]; rfl
theorem Good.neg {ls : List Nat} {ws : List Wd} (h : Good ls ws) : Good ls (ws ++ [.neg]) := by
  refine ⟨(dep_app h.one).trans rfl, fun c hc => ?_⟩
  rcases List.mem_append.mp hc with z | z
  · exact h.ltr c z
  · cases List.mem_singleton.mp z
theorem Good.two {ls : List Nat} {ws vs : List Wd} {w : Wd} (h : Good ls ws) (h' : Good ls vs) (hw : w.need = 2) : Good ls (ws ++ vs ++ [w]) := by
  refine ⟨?_, fun c hc => ?_⟩
  · rw [List.append_assoc, dep_app h.one]
    have := dep_add (k := 1) h'.one
    rw [Nat.zero_add] at this
    rw [dep_app this]
    unfold dep dep1
    rw [hw]; rfl
  · rcases List.mem_append.mp hc with z | z
    · rcases List.mem_append.mp z with z | z
      · exact h.ltr c z
      · exact h'.ltr c z
    · have := List.mem_singleton.mp z
      rw [← this] at hw
      cases hw
def total (rows : List (List Wd)) : Nat := (rows.map List.length).sum
theorem total_app (a b : List (List Wd)) : total (a ++ b) = total a + total b := by unfold total; rw [List.map_append, List.sum_append]
theorem total_cons (a : List Wd) (b : List (List Wd)) : total (a :: b) = a.length + total b := by unfold total; rw [List.map_cons, List.sum_cons]
theorem total_nil : total [] = 0 := rfl

structure Tame (n : Nat) (d : PyData) : Prop where
  lay : d.canLay0 = true
  dep : d.depth ≤ n
theorem Tame.shaped {n : Nat} {d : PyData} (h : Tame n d) (l : n ≤ 64) : SeqAt.shaped d = true := by
  unfold SeqAt.shaped
  rw [h.lay, decide_eq_true (Nat.le_trans h.dep l)]; rfl
theorem Tame.mono {n m : Nat} {d : PyData} (h : Tame n d) (l : n ≤ m) : Tame m d := ⟨h.lay, Nat.le_trans h.dep l⟩
theorem tame_all {n : Nat} : ∀ {ds : List PyData}, (∀ d ∈ ds, Tame n d) → PyData.canLayAll0 ds = true ∧ PyData.depthAll ds ≤ n
  | [], _ => ⟨by simp [PyData.canLayAll0], by simp [PyData.depthAll]⟩
  | d :: ds, h => by
    obtain ⟨h1, h2⟩ := tame_all (ds := ds) fun x hx => h x (.tail _ hx)
    have h0 := h d (.head _)
    refine ⟨by simp only [PyData.canLayAll0]; rw [h0.lay, h1]; rfl, ?_⟩
    have := h0.dep
    simp only [PyData.depthAll]
    omega
theorem tame_list {n : Nat} {ds : List PyData} (h : ∀ d ∈ ds, Tame n d) : Tame (n + 1) (.list ds) := by
  obtain ⟨h1, h2⟩ := tame_all h
  exact ⟨by simp only [PyData.canLay0]; exact h1, by simp only [PyData.depth]; omega⟩
theorem tame_tup {n : Nat} {ds : List PyData} (h : ∀ d ∈ ds, Tame n d) : Tame (n + 1) (.tuple ds) := by
  obtain ⟨h1, h2⟩ := tame_all h
  exact ⟨by simp only [PyData.canLay0]; exact h1, by simp only [PyData.depth]; omega⟩
theorem tame_int {n : Nat} (i : Int) : Tame n (.int i) := ⟨by simp [PyData.canLay0], by simp [PyData.depth]⟩
theorem tame_bool {n : Nat} (i : Bool) : Tame n (.bool i) := ⟨by simp [PyData.canLay0], by simp [PyData.depth]⟩
theorem tame_none {n : Nat} : Tame n .none := ⟨by simp [PyData.canLay0], by simp [PyData.depth]⟩
theorem tame_str {n : Nat} {ls : List Nat} (h : ∀ c ∈ ls, c < 1114112) : Tame n (.str (SX.S ls)) := by
  refine ⟨?_, by simp [PyData.depth]⟩
  simp only [PyData.canLay0]
  unfold PySem.PyData.strOk
  rw [Array.all_eq_true_iff_forall_mem]
  intro c hc
  have : c ∈ ls := by simpa using hc
  simpa using h c this
theorem eqv_nil (ds : List PyData) : PyData.eqv (.list ds) (.list []) = ds.isEmpty := by
  cases ds <;> simp [PyData.eqv, PyData.eqvAll]
theorem tame_nil {n : Nat} : Tame (n + 1) (.list []) := tame_list fun d h => (List.not_mem_nil h).elim
structure TameA (n : Nat) (ds : List PyData) : Prop where
  h : ∀ d ∈ ds, Tame n d
theorem tame_nil0 {n : Nat} : TameA n [] := ⟨fun d h => (List.not_mem_nil h).elim⟩
theorem tame_cons0 {n : Nat} {d : PyData} {ds : List PyData} (h : Tame n d) (t : TameA n ds) : TameA n (d :: ds) := ⟨fun x hx => by
  rcases List.mem_cons.mp hx with e | e
  · rw [e]; exact h
  · exact t.h x e⟩
theorem tame_app0 {n : Nat} {ds es : List PyData} (h : TameA n ds) (t : TameA n es) : TameA n (ds ++ es) := ⟨fun x hx => by
  rcases List.mem_append.mp hx with e | e
  · exact h.h x e
  · exact t.h x e⟩
theorem tame_map0 {n : Nat} {α : Type} {f : α → PyData} {as : List α} (h : ∀ a ∈ as, Tame n (f a)) : TameA n (as.map f) := ⟨fun x hx => by
  obtain ⟨a, ha, rfl⟩ := List.mem_map.mp hx
  exact h a ha⟩
theorem tame_T {n : Nat} {ds : List PyData} (h : TameA n ds) : Tame (n + 1) (.tuple ds) := tame_tup h.h
theorem tame_L {n : Nat} {ds : List PyData} (h : TameA n ds) : Tame (n + 1) (.list ds) := tame_list h.h
theorem eqOk {a b : PyData} (h : Tame 30 a) (h2 : Tame 30 b) : B2.EqOk a b := .inr ⟨h.shaped (by decide), h2.shaped (by decide)⟩

def bitsN : Nat → Nat → List Bool
  | 0, _ => []
  | n + 1, r => bitsN n (r / 2) ++ [r % 2 == 1]
theorem bitsN_len : ∀ n r, (bitsN n r).length = n
  | 0, _ => rfl
  | n + 1, r => by unfold bitsN; rw [List.length_append, bitsN_len n, List.length_singleton]
def allW (n : Nat) : List (List Bool) := (List.range (2 ^ n)).map (bitsN n)
theorem allW_len {n : Nat} {bs : List Bool} (h : bs ∈ allW n) : bs.length = n := by
  obtain ⟨r, _, rfl⟩ := List.mem_map.mp h
  exact bitsN_len n r
def worldsOf (ls : List Nat) (rs : List (List Wd)) : List (List Bool) := (allW ls.length).filter fun bs => rs.all fun r => valS ls bs r
def woD (bs : List Bool) : PyData := .str (woS bs)
theorem span0 (n : Nat) : span 0 n = (List.range n).map fun i => PyData.int (i : Nat) := by
  unfold span
  exact List.map_congr_left fun i _ => by rw [Int.zero_add]
theorem pows {n : Nat} (h : n ≤ 6) : atI [PyData.int 1, .int 2, .int 4, .int 8, .int 16, .int 32, .int 64] (n : Nat) = some (.int (2 ^ n : Nat)) := by
  rcases (show n = 0 ∨ n = 1 ∨ n = 2 ∨ n = 3 ∨ n = 4 ∨ n = 5 ∨ n = 6 by omega) with rfl | rfl | rfl | rfl | rfl | rfl | rfl <;> rfl
theorem str_bit (r : Nat) : (toString ((r : Int) % 2) : Str) = SX.S [bitC (r % 2 == 1)] := by
  rcases Nat.mod_two_eq_zero_or_one r with h | h
  · rw [show ((r : Int) % 2) = 0 by omega, h]; decide +kernel
  · rw [show ((r : Int) % 2) = 1 by omega, h]; decide +kernel
theorem woS_cons (b : Bool) (bs : List Bool) : SX.S [bitC b] ++ woS bs = woS (b :: bs) := SX.S_cat _ _
theorem tame_wd {n : Nat} {ls : List Nat} (hl : ∀ c ∈ ls, c < 1114112) {w : Wd} (h : ∀ c, w = .let c → c ∈ ls) : Tame n (.str w.str) := by
  have k : ∀ s : List Nat, (∀ c ∈ s, c < 1114112) → Tame n (.str (SX.S s)) := fun s h => tame_str h
  cases w
  case «let» c => exact k [c] fun d hd => by rw [List.mem_singleton.mp hd]; exact hl c (h c rfl)
  case yes => exact k [121, 101, 115] (by decide)
  case no => exact k [110, 111] (by decide)
  case neg => exact k [110, 111, 116] (by decide)
  case and => exact k [97, 110, 100] (by decide)
  case or => exact k [111, 114] (by decide)
  case same => exact k [115, 97, 109, 101] (by decide)
theorem tame_sa {n : Nat} {ls : List Nat} (hl : ∀ c ∈ ls, c < 1114112) {ws : List Wd} (h : ∀ c, Wd.let c ∈ ws → c ∈ ls) : Tame (n + 1) (saD ws) :=
  tame_tup fun d hd => by
    obtain ⟨w, hw, rfl⟩ := List.mem_map.mp hd
    exact tame_wd hl fun c e => h c (by rw [← e]; exact hw)
theorem Ltrs.low {ls : List Nat} (h : Ltrs ls) : ∀ c ∈ ls, c < 1114112 := fun c hc => by have := h.az c hc; omega
theorem mul_one (c : Nat) (n : Nat) : Txt.mul (SX.S [c]) (n : Int) = SX.S (List.replicate n c) := by
  unfold Txt.mul
  by_cases h : (n : Int) < 1
  · rw [if_pos h, show n = 0 by omega]; rfl
  · rw [if_neg h]
    have e : ∀ (m : Nat) (a : Array Nat), (List.replicate m #[c]).foldl (· ++ ·) a = a ++ (List.replicate m c).toArray := by
      intro m
      induction m with
      | zero => intro a; simp
      | succ m ih => intro a; rw [List.replicate_succ, List.foldl_cons, ih, List.replicate_succ]; apply Array.toList_inj.mp; simp
    have e2 : (⟨(List.replicate (n : Int).toNat (SX.S [c]).cps).foldl (· ++ ·) #[]⟩ : Str) = SX.S (List.replicate n c) := by
      rw [Int.toNat_natCast, show (SX.S [c]).cps = #[c] from rfl, e]; simp
    split
    · rename_i hh
      have hn : n = 1 := by
        rw [Bool.or_eq_true] at hh
        rcases hh with z | z
        · have := eq_of_beq z; omega
        · exact absurd z (show ¬ ((1 : Nat) == 0) = true by decide)
      subst hn
      rfl
    · exact e2
theorem cutS_S (l : List Nat) (lo hi : Option Int) : cutS (SX.S l) lo hi = SX.S (cutL l lo hi) := by
  unfold cutS cutL
  rw [SX.S_len]
theorem worlds0 (ls : List Nat) : worldsOf ls [] = allW ls.length := by unfold worldsOf; simp

theorem str_ext {a b : Str} (h : a.cps.toList = b.cps.toList) : a = b := by
  cases a; cases b
  congr 1
  exact Array.toList_inj.mp h
theorem range_two (m : Nat) : List.range (2 * m) = (List.range m).flatMap fun q => [2 * q, 2 * q + 1] := by
  induction m with
  | zero => rfl
  | succ m ih =>
    rw [show 2 * (m + 1) = 2 * m + 1 + 1 by omega, List.range_succ, List.range_succ, ih, List.range_succ, List.flatMap_append]
    simp
theorem allW_succ (n : Nat) : allW (n + 1) = (allW n).flatMap fun w => [w ++ [false], w ++ [true]] := by
  unfold allW
  rw [show 2 ^ (n + 1) = 2 * 2 ^ n by rw [Nat.pow_succ, Nat.mul_comm], range_two, List.map_flatMap, List.flatMap_map]
  congr 1
  funext q
  show [bitsN n (2 * q / 2) ++ [2 * q % 2 == 1], bitsN n ((2 * q + 1) / 2) ++ [(2 * q + 1) % 2 == 1]] = _
  rw [show 2 * q / 2 = q by omega, show 2 * q % 2 = 0 by omega, show (2 * q + 1) / 2 = q by omega, show (2 * q + 1) % 2 = 1 by omega]
  rfl
theorem eqv_nilT (ds : List PyData) : PyData.eqv (.tuple ds) (.tuple []) = ds.isEmpty := by
  cases ds <;> simp [PyData.eqv, PyData.eqvAll]
theorem tame_wo {n : Nat} (bs : List Bool) : Tame n (woD bs) := tame_str fun c hc => by
  obtain ⟨b, _, rfl⟩ := List.mem_map.mp hc
  cases b <;> decide
theorem tame_wos {n : Nat} (us : List (List Bool)) : Tame (n + 1) (.tuple (us.map woD)) := tame_tup fun d hd => by
  obtain ⟨b, _, rfl⟩ := List.mem_map.mp hd
  exact tame_wo b
theorem tame_niT {n : Nat} : Tame (n + 1) (.tuple []) := tame_tup fun d h => (List.not_mem_nil h).elim
def hoD (ls : List Nat) (rs : List (List Wd)) : PyData := .tuple [.str (SX.S ls), .tuple (rs.map saD)]
structure House (ls : List Nat) (rs : List (List Wd)) : Prop where
  ltrs : Ltrs ls
  le6 : ls.length ≤ 6
  good : ∀ r ∈ rs, Good ls r ∧ r.length ≤ 40
  few : rs.length ≤ 8
  live : worldsOf ls rs ≠ []
theorem tame_ho {n : Nat} {ls : List Nat} {rs : List (List Wd)} (hl : ∀ c ∈ ls, c < 1114112) (h : ∀ r ∈ rs, Good ls r) : Tame (n + 3) (hoD ls rs) := tame_tup fun d hd => by
  rcases List.mem_cons.mp hd with e | hd
  · rw [e]; exact tame_str hl
  · rw [List.mem_singleton.mp hd]
    exact tame_tup fun d hd => by
      obtain ⟨r, hr, rfl⟩ := List.mem_map.mp hd
      exact tame_sa hl (h r hr).ltr
theorem allW_ne (n : Nat) : allW n ≠ [] := by
  unfold allW
  intro h
  have := congrArg List.length h
  rw [List.length_map, List.length_range] at this
  have h2 : 0 < 2 ^ n := Nat.pow_pos (by decide)
  simp at this
theorem allW_le {n : Nat} (h : n ≤ 6) : (allW n).length ≤ 64 := by
  unfold allW
  rw [List.length_map, List.length_range]
  exact Nat.le_trans (Nat.pow_le_pow_right (by decide) h) (by decide)
theorem worlds_le {ls : List Nat} (h : ls.length ≤ 6) (rs : List (List Wd)) : (worldsOf ls rs).length ≤ 64 := Nat.le_trans (List.length_filter_le _ _) (allW_le h)
theorem worlds_mem {ls : List Nat} {rs : List (List Wd)} {bs : List Bool} (h : bs ∈ worldsOf ls rs) : bs.length = ls.length := allW_len (List.mem_filter.mp h).1
theorem worlds_app (ls : List Nat) (rs qs : List (List Wd)) : worldsOf ls (rs ++ qs) = (worldsOf ls rs).filter fun bs => qs.all fun r => valS ls bs r := by
  unfold worldsOf
  rw [List.filter_filter]
  congr 1
  funext bs
  rw [List.all_append, Bool.and_comm]
theorem worlds_big {ls : List Nat} (h : ls.length ≤ 6) (rs : List (List Wd)) : ((worldsOf ls rs).map woD).length ≤ 16777216 := by
  rw [List.length_map]; exact Nat.le_trans (worlds_le h rs) (by decide)

def leafS (ls : List Nat) (s : Str) : Bool := ("yes" == s) || ("no" == s) || (match s.cps.toList with
  | [c] => decide (c ∈ ls)
  | _ => false)
def wantS (ls : List Nat) (s : Str) : Int := if leafS ls s then 0 else if s == "not" then 1 else if ("and" == s) || ("or" == s) || ("same" == s) then 2 else -1
def goS (ls : List Nat) : List PyData → Int → Bool
  | [], h => h == 1
  | .str s :: r, h => if decide (wantS ls s < 0) || decide (h < wantS ls s) then false else goS ls r (h - wantS ls s + 1)
  | _ :: _, _ => false
def sayB (ls : List Nat) : PyData → Bool
  | .tuple ds => decide (1 ≤ ds.length ∧ ds.length ≤ 40) && goS ls ds 0
  | _ => false
theorem in2 (s a b : Str) : ([PyData.str a, .str b].any fun y => PyData.eqv y (.str s)) = ((a == s) || (b == s)) := by
  simp only [List.any_cons, List.any_nil, eqv_str, Bool.or_false]
theorem in3 (s a b c : Str) : ([PyData.str a, .str b, .str c].any fun y => PyData.eqv y (.str s)) = ((a == s) || (b == s) || (c == s)) := by
  simp only [List.any_cons, List.any_nil, eqv_str, Bool.or_false, Bool.or_assoc]
theorem one_str {s : Str} (h : s.length = 1) : ∃ c, s = SX.S [c] := by
  obtain ⟨a⟩ := s
  have h : a.size = 1 := h
  match a, h with
  | ⟨[c]⟩, _ => exact ⟨c, rfl⟩
theorem wantS_wd {ls : List Nat} (w : Wd) (h : ∀ c, w = .let c → c ∈ ls) : wantS ls w.str = (w.need : Int) := by
  have e : ∀ v : Wd, (v.str == w.str) = decide (v = w) := fun v => Wd.str_inj_b v w
  have e' : ∀ v : Wd, (w.str == v.str) = decide (w = v) := fun v => Wd.str_inj_b w v
  have l : leafS ls w.str = (decide (Wd.yes = w) || decide (Wd.no = w) || (match w.str.cps.toList with
    | [c] => decide (c ∈ ls)
    | _ => false)) := by
    unfold leafS
    rw [show (("yes" : Str) == w.str) = decide (Wd.yes = w) from e .yes, show (("no" : Str) == w.str) = decide (Wd.no = w) from e .no]
  have m : wantS ls w.str = if leafS ls w.str then 0 else if decide (w = .neg) then 1 else if decide (Wd.and = w) || decide (Wd.or = w) || decide (Wd.same = w) then 2 else -1 := by
    unfold wantS
    rw [show (w.str == ("not" : Str)) = decide (w = .neg) from e' .neg, show (("and" : Str) == w.str) = decide (Wd.and = w) from e .and, show (("or" : Str) == w.str) = decide (Wd.or = w) from e .or, show (("same" : Str) == w.str) = decide (Wd.same = w) from e .same]
  rw [m, l]
  cases w
  case «let» c =>
    have : decide (c ∈ ls) = true := decide_eq_true (h c rfl)
    rw [show (match (Wd.let c).str.cps.toList with
      | [c] => decide (c ∈ ls)
      | _ => false) = decide (c ∈ ls) from rfl, this]
    rfl
  all_goals rfl
theorem wantS_inv {ls : List Nat} {s : Str} (h : 0 ≤ wantS ls s) : ∃ w : Wd, s = w.str ∧ (∀ c, w = .let c → c ∈ ls) ∧ wantS ls s = (w.need : Int) := by
  have no : ∀ v : Wd, (∀ c, v ≠ .let c) → ∀ c, v = .let c → c ∈ ls := fun v h c e => absurd e (h c)
  have fin : ∀ w : Wd, s = w.str → (∀ c, w = .let c → c ∈ ls) → ∃ w : Wd, s = w.str ∧ (∀ c, w = .let c → c ∈ ls) ∧ wantS ls s = (w.need : Int) := fun w e hl => ⟨w, e, hl, by rw [e]; exact wantS_wd w hl⟩
  by_cases z : leafS ls s = true
  · unfold leafS at z
    rw [Bool.or_eq_true, Bool.or_eq_true] at z
    rcases z with (z | z) | z
    · exact fin .yes (eq_of_beq z).symm (no _ fun c => by simp)
    · exact fin .no (eq_of_beq z).symm (no _ fun c => by simp)
    · split at z
      · rename_i c hc
        have es : s = SX.S [c] := str_ext hc
        exact fin (.let c) es fun d e => by cases e; exact of_decide_eq_true z
      · cases z
  · unfold wantS at h
    rw [if_neg z] at h
    by_cases z1 : (s == ("not" : Str)) = true
    · exact fin .neg (eq_of_beq z1) (no _ fun c => by simp)
    · rw [if_neg z1] at h
      by_cases z2 : ((("and" : Str) == s) || (("or" : Str) == s) || (("same" : Str) == s)) = true
      · rw [Bool.or_eq_true, Bool.or_eq_true] at z2
        rcases z2 with (z | z) | z
        · exact fin .and (eq_of_beq z).symm (no _ fun c => by simp)
        · exact fin .or (eq_of_beq z).symm (no _ fun c => by simp)
        · exact fin .same (eq_of_beq z).symm (no _ fun c => by simp)
      · rw [if_neg z2] at h
        omega
theorem goS_dep {ls : List Nat} : ∀ (ws : List Wd) (n : Nat), (∀ c, Wd.let c ∈ ws → c ∈ ls) → goS ls (ws.map fun w => .str w.str) (n : Int) = decide (dep ws n = some 1)
  | [], n, _ => by
    show ((n : Int) == 1) = decide (some n = some 1)
    by_cases h : n = 1
    · subst h; rfl
    · rw [decide_eq_false (by simpa using h)]
      exact beq_eq_false_iff_ne.mpr (by omega)
  | w :: ws, n, h => by
    have hw := wantS_wd w fun c e => h c (by rw [← e]; exact .head _)
    rw [List.map_cons]
    unfold goS
    rw [hw]
    unfold dep dep1
    by_cases z : w.need ≤ n
    · rw [decide_eq_false (show ¬ ((w.need : Int) < 0) by omega), decide_eq_false (show ¬ ((n : Int) < (w.need : Int)) by omega), if_neg (by decide), if_pos z]
      rw [show (n : Int) - (w.need : Int) + 1 = ((n + 1 - w.need : Nat) : Int) by omega]
      exact goS_dep ws _ fun c hc => h c (.tail _ hc)
    · rw [decide_eq_true (show (n : Int) < (w.need : Int) by omega), Bool.or_true, if_pos rfl, if_neg z]
      rfl
theorem sayB_good {ls : List Nat} {ws : List Wd} (h : Good ls ws) (l : ws.length ≤ 40) : sayB ls (saD ws) = true := by
  unfold sayB saD
  have h1 : 1 ≤ ws.length := by
    cases ws with
    | nil => have := h.one; cases this
    | cons _ _ => simp
  have := goS_dep ws 0 h.ltr
  show (decide (1 ≤ (ws.map fun w => PyData.str w.str).length ∧ _) && goS ls (ws.map fun w => PyData.str w.str) ((0 : Nat) : Int)) = true
  rw [this, List.length_map, decide_eq_true ⟨h1, l⟩, decide_eq_true h.one]; rfl
theorem eqv_ne {s t : Str} (h : s ≠ t) : PyData.eqv (.str s) (.str t) = false := by rw [eqv_str]; exact beq_eq_false_iff_ne.mpr h
theorem want_no {ls : List Nat} {s : Str} (h : ¬ 0 ≤ wantS ls s) (w : Wd) (hw : ∀ c, w = .let c → c ∈ ls) : s ≠ w.str := fun e => h (by rw [e, wantS_wd w hw]; omega)
theorem want_letter {ls : List Nat} {c : Nat} (h : ¬ 0 ≤ wantS ls (SX.S [c])) : c ∉ ls := fun hc => want_no h (.let c) (fun d e => by cases e; exact hc) rfl
theorem goS_ok {ls : List Nat} {s : Str} {r : List PyData} {h : Int} {n : Nat} (w : wantS ls s = (n : Nat)) (l : (n : Int) ≤ h) : goS ls (.str s :: r) h = goS ls r (h - n + 1) := by
  rw [goS, w, decide_eq_false (show ¬ ((n : Int) < 0) by omega), decide_eq_false (show ¬ (h < (n : Int)) by omega)]; rfl
theorem goS_few {ls : List Nat} {s : Str} {r : List PyData} {h : Int} {n : Nat} (w : wantS ls s = (n : Nat)) (l : h < (n : Int)) : goS ls (.str s :: r) h = false := by
  rw [goS, w, decide_eq_true l, Bool.or_true]; rfl
theorem goS_no {ls : List Nat} {s : Str} {r : List PyData} {h : Int} (w : ¬ 0 ≤ wantS ls s) : goS ls (.str s :: r) h = false := by
  rw [goS, decide_eq_true (show wantS ls s < 0 by omega)]; rfl

def setW (c : Nat) (t : Bool) (w : Wd) : Wd := if w = .let c then (if t then .yes else .no) else w
theorem setW_need (c : Nat) (t : Bool) (w : Wd) : (setW c t w).need = w.need := by
  unfold setW
  split
  · rename_i h; subst h; cases t <;> rfl
  · rfl
theorem dep_map {f : Wd → Wd} (hf : ∀ w, (f w).need = w.need) : ∀ (ws : List Wd) (n : Nat), dep (ws.map f) n = dep ws n
  | [], n => rfl
  | w :: ws, n => by
    rw [List.map_cons]
    unfold dep dep1
    rw [hf]
    split <;> simp_all [dep_map hf ws]
theorem setW_let {c d : Nat} {t : Bool} {w : Wd} (h : setW c t w = .let d) : w = .let d ∧ d ≠ c := by
  unfold setW at h
  split at h
  · cases t <;> cases h
  · rename_i hn
    exact ⟨h, fun e => hn (by rw [h, e])⟩
theorem Good.set {ls : List Nat} {ws : List Wd} (h : Good ls ws) (c : Nat) (t : Bool) : Good ls (ws.map (setW c t)) := by
  refine ⟨by rw [dep_map (setW_need c t)]; exact h.one, fun d hd => ?_⟩
  obtain ⟨w, hw, e⟩ := List.mem_map.mp hd
  exact h.ltr d (by rw [← (setW_let e).1]; exact hw)
def goL : Option Nat → List Nat → Bool
  | _, [] => true
  | p, c :: r => (decide (97 ≤ c) && decide (c ≤ 122)) && (match p with
    | some q => decide (q < c)
    | none => true) && goL (some c) r
def lettersB : PyData → Bool
  | .str s => decide (1 ≤ s.length ∧ s.length ≤ 6) && goL none s.cps.toList
  | _ => false
theorem sLt_one (c d : Nat) : sLt (SX.S [c]) (SX.S [d]) = decide (c < d) := by
  unfold sLt
  rw [decide_eq_decide]
  show [c] < [d] ↔ c < d
  rw [List.cons_lt_cons_iff]
  simp
theorem goL_up : ∀ (cs : List Nat) (p : Option Nat), cs.Pairwise (· < ·) → (∀ c ∈ cs, 97 ≤ c ∧ c ≤ 122) → (∀ q, p = some q → ∀ c ∈ cs, q < c) → goL p cs = true
  | [], _, _, _, _ => rfl
  | c :: cs, p, h, ha, hp => by
    rw [List.pairwise_cons] at h
    have h1 := ha c (.head _)
    unfold goL
    rw [decide_eq_true h1.1, decide_eq_true h1.2, goL_up cs (some c) h.2 (fun x hx => ha x (.tail _ hx)) (fun q e x hx => by cases e; exact h.1 x hx)]
    cases p with
    | none => rfl
    | some q =>
      show (true && true && decide (q < c) && true) = true
      rw [decide_eq_true (hp q rfl c (.head _))]; rfl
theorem lettersB_of {ls : List Nat} (h : Ltrs ls) (l : ls.length ≤ 6) : lettersB (.str (SX.S ls)) = true := by
  show (decide (1 ≤ (SX.S ls).length ∧ (SX.S ls).length ≤ 6) && goL none ls) = true
  rw [SX.S_len, decide_eq_true ⟨List.length_pos_iff.mpr h.ne, l⟩, Bool.true_and]
  exact goL_up ls none h.up h.az fun q e => by cases e

inductive NoHo : PyData → Prop where
  | shape (d : PyData) (h : ∀ x y, d ≠ .tuple [x, y]) (l : ∀ ds, d = .tuple ds → ds.length ≤ 1000) : NoHo d
  | letters (x y : PyData) (h : lettersB x = false) (l : ∀ s, x = .str s → s.length ≤ 16777216) : NoHo (.tuple [x, y])
  | rules (ls : List Nat) (y : PyData) (h : Ltrs ls) (h6 : ls.length ≤ 6) (n : ∀ ds, y = .tuple ds → 8 < ds.length ∧ ds.length ≤ 1000) : NoHo (.tuple [.str (SX.S ls), y])
  | dead (ls : List Nat) (rs : List (List Wd)) (h : Ltrs ls) (h6 : ls.length ≤ 6) (g : ∀ r ∈ rs, Good ls r ∧ r.length ≤ 40) (f : rs.length ≤ 8) (e : worldsOf ls rs = []) : NoHo (hoD ls rs)
  | says (ls : List Nat) (ds : List PyData) (h : Ltrs ls) (h6 : ls.length ≤ 6) (f : ds.length ≤ 8) (b : ds.all (sayB ls) = false) (l : ∀ d ∈ ds, ∀ es, d = .tuple es → ∀ s, PyData.str s ∈ es → s.length ≤ 16777216) : NoHo (.tuple [.str (SX.S ls), .tuple ds])
inductive NoSt : PyData → Prop where
  | shape (d : PyData) (h : ∀ ds, d = .tuple ds → ds.length ≠ 5 ∧ ds.length ≤ 1000) : NoSt d
  | house (h p t l m : PyData) (n : NoHo h) : NoSt (.tuple [h, p, t, l, m])

theorem mul_smallL {i j : Int} (h : i.natAbs < 2 ^ 64) : MulOk i j := .inl ⟨by omega, by omega⟩
theorem isEmpty_map {α β : Type} (f : α → β) (l : List α) : (l.map f).isEmpty = l.isEmpty := by cases l <;> rfl
theorem House.more {ls : List Nat} {rs : List (List Wd)} {ws : List Wd} (h : House ls rs) (g : Good ls ws) (l : ws.length ≤ 40) (f : rs.length < 8) (n : worldsOf ls (rs ++ [ws]) ≠ []) : House ls (rs ++ [ws]) := ⟨h.ltrs, h.le6, fun r hr => by
  rcases List.mem_append.mp hr with z | z
  · exact h.good r z
  · rw [List.mem_singleton.mp z]; exact ⟨g, l⟩, by rw [List.length_append, List.length_singleton]; omega, n⟩
def Inj2 {α : Type} [DecidableEq α] (f : α → PyData) : Prop := ∀ a b, PyData.eqv (f a) (f b) = decide (a = b)
theorem eqvAll_map {α : Type} [DecidableEq α] {f : α → PyData} (h : Inj2 f) : ∀ l m : List α, PyData.eqvAll (l.map f) (m.map f) = decide (l = m)
  | [], [] => by simp [PyData.eqvAll]
  | [], _ :: _ => by simp [PyData.eqvAll]
  | _ :: _, [] => by simp [PyData.eqvAll]
  | a :: l, b :: m => by
    rw [List.map_cons, List.map_cons, PyData.eqvAll, h a b, eqvAll_map h l m, ← Bool.decide_and]
    exact decide_eq_decide.mpr (by simp)
theorem inj_T {α : Type} [DecidableEq α] {f : α → PyData} (h : Inj2 f) : Inj2 fun l : List α => .tuple (l.map f) := fun l m => by rw [PyData.eqv]; exact eqvAll_map h l m
theorem inj_L {α : Type} [DecidableEq α] {f : α → PyData} (h : Inj2 f) : Inj2 fun l : List α => .list (l.map f) := fun l m => by rw [PyData.eqv]; exact eqvAll_map h l m
theorem inj_wd : Inj2 fun w : Wd => .str w.str := fun w v => eqv_wd w v
theorem inj_sa : Inj2 saD := fun a b => inj_T inj_wd a b
theorem eqv_sas (a b : List (List Wd)) : PyData.eqv (.tuple (a.map saD)) (.tuple (b.map saD)) = decide (a = b) := inj_T inj_sa a b
theorem tame_ch {n : Nat} {c : Nat} (h : c < 1114112) : Tame n (chD c) := tame_str fun d hd => by rw [List.mem_singleton.mp hd]; exact h
theorem tame_S {n : Nat} {ls : List Nat} (h : Ltrs ls) : Tame n (.str (SX.S ls)) := tame_str h.low
abbrev Says (ls : List Nat) (n : Nat) (rs : List (List Wd)) : Prop := ∀ r ∈ rs, Good ls r ∧ r.length ≤ n
theorem Says.mono {ls : List Nat} {n m : Nat} {rs : List (List Wd)} (h : Says ls n rs) (l : n ≤ m) : Says ls m rs := fun r hr => ⟨(h r hr).1, Nat.le_trans (h r hr).2 l⟩
theorem says_nil {ls : List Nat} {n : Nat} : Says ls n [] := fun r h => (List.not_mem_nil h).elim
theorem says_cons {ls : List Nat} {n : Nat} {ws : List Wd} {rs : List (List Wd)} (g : Good ls ws) (l : ws.length ≤ n) (h : Says ls n rs) : Says ls n (ws :: rs) := fun r hr => by
  rcases List.mem_cons.mp hr with z | z
  · rw [z]; exact ⟨g, l⟩
  · exact h r z
theorem says_app {ls : List Nat} {n : Nat} {rs qs : List (List Wd)} (h : Says ls n rs) (h' : Says ls n qs) : Says ls n (rs ++ qs) := fun r hr => by
  rcases List.mem_append.mp hr with z | z
  · exact h r z
  · exact h' r z
theorem says_snoc {ls : List Nat} {n : Nat} {ws : List Wd} {rs : List (List Wd)} (h : Says ls n rs) (g : Good ls ws) (l : ws.length ≤ n) : Says ls n (rs ++ [ws]) := says_app h (says_cons g l says_nil)
theorem House.says {ls : List Nat} {rs : List (List Wd)} (h : House ls rs) : Says ls 40 rs := h.good
theorem House.big {ls : List Nat} {rs : List (List Wd)} (h : House ls rs) : Says ls 1000000 rs := h.says.mono (by decide)
theorem tame_ho2 {n m : Nat} {ls : List Nat} {rs : List (List Wd)} (h : Says ls m rs) (l : Ltrs ls) : Tame (n + 3) (hoD ls rs) := tame_ho l.low fun r hr => (h r hr).1
theorem tame_sas {n m : Nat} {ls : List Nat} {rs : List (List Wd)} (h : Says ls m rs) (l : Ltrs ls) : Tame (n + 2) (.tuple (rs.map saD)) := tame_T (tame_map0 fun r hr => tame_sa l.low (h r hr).1.ltr)
theorem tame_sa2 {n : Nat} {ls : List Nat} {ws : List Wd} (h : Good ls ws) (l : Ltrs ls) : Tame (n + 1) (saD ws) := tame_sa l.low h.ltr

def lowN (p q : Int) : Int := (if q < 0 then 0 - p else p) / (Nat.gcd p.natAbs q.natAbs : Nat)
def lowD (p q : Int) : Int := (if q < 0 then 0 - q else q) / (Nat.gcd p.natAbs q.natAbs : Nat)
theorem low_facts {p q : Int} (hq : q ≠ 0) : 1 ≤ lowD p q ∧ Nat.gcd (lowN p q).natAbs (lowD p q).natAbs = 1 ∧ lowN p q * q = p * lowD p q ∧ (lowN p q).natAbs ≤ p.natAbs ∧ (lowD p q).natAbs ≤ q.natAbs := by
  have hg : 0 < Nat.gcd p.natAbs q.natAbs := Nat.gcd_pos_of_pos_right _ (by omega)
  generalize hG : Nat.gcd p.natAbs q.natAbs = g at hg
  obtain ⟨a, ha⟩ : (g : Int) ∣ p := by
    rw [← hG]; exact Int.ofNat_dvd_left.mpr (Nat.gcd_dvd_left _ _)
  obtain ⟨b, hb⟩ : (g : Int) ∣ q := by
    rw [← hG]; exact Int.ofNat_dvd_left.mpr (Nat.gcd_dvd_right _ _)
  have g0 : (g : Int) ≠ 0 := by omega
  have gp : 0 < (g : Int) := by omega
  have hc : Nat.gcd a.natAbs b.natAbs = 1 := by
    have h := hG
    rw [ha, hb, Int.natAbs_mul, Int.natAbs_mul, Nat.gcd_mul_left, Int.natAbs_natCast] at h
    exact Nat.eq_of_mul_eq_mul_left hg (by rw [h, Nat.mul_one])
  have hn : lowN p q = if q < 0 then -a else a := by
    unfold lowN
    rw [hG]
    split
    · rw [ha, show 0 - (g : Int) * a = g * (-a) by rw [Int.mul_neg]; omega, Int.mul_ediv_cancel_left _ g0]
    · rw [ha, Int.mul_ediv_cancel_left _ g0]
  have hd : lowD p q = if q < 0 then -b else b := by
    unfold lowD
    rw [hG]
    by_cases z : q < 0
    · rw [if_pos z, if_pos z, hb, show 0 - (g : Int) * b = g * (-b) by rw [Int.mul_neg]; omega, Int.mul_ediv_cancel_left _ g0]
    · rw [if_neg z, if_neg z, hb, Int.mul_ediv_cancel_left _ g0]
  have b0 : b ≠ 0 := fun h => hq (by rw [hb, h, Int.mul_zero])
  have hs : q < 0 ↔ b < 0 := by
    rw [hb]
    constructor
    · intro h
      by_cases z : b < 0
      · exact z
      · have := Int.mul_nonneg (Int.le_of_lt gp) (Int.not_lt.mp z)
        omega
    · intro h
      exact Int.mul_neg_of_pos_of_neg gp h
  have l1 : a.natAbs ≤ p.natAbs := by
    rw [ha, Int.natAbs_mul, Int.natAbs_natCast]
    exact Nat.le_mul_of_pos_left _ hg
  have l2 : b.natAbs ≤ q.natAbs := by
    rw [hb, Int.natAbs_mul, Int.natAbs_natCast]
    exact Nat.le_mul_of_pos_left _ hg
  rw [hn, hd]
  by_cases z : q < 0
  · rw [if_pos z, if_pos z]
    have := hs.mp z
    refine ⟨by omega, by rw [Int.natAbs_neg, Int.natAbs_neg]; exact hc, ?_, by rw [Int.natAbs_neg]; exact l1, by rw [Int.natAbs_neg]; exact l2⟩
    rw [ha, hb]
    rw [Int.neg_mul, Int.mul_neg, ← Int.mul_assoc, Int.mul_comm a g]
  · rw [if_neg z, if_neg z]
    have : ¬ b < 0 := fun h => z (hs.mpr h)
    refine ⟨by omega, hc, ?_, l1, l2⟩
    rw [ha, hb, ← Int.mul_assoc, Int.mul_comm a g]

def frD (r : Rat) : PyData := .tuple [.int r.num, .int r.den]
theorem lowN_rat {p q : Int} (hq : q ≠ 0) : lowN p q = (Rat.divInt p q).num := by
  rw [Rat.num_divInt]
  unfold lowN
  rw [show (Nat.gcd p.natAbs q.natAbs : Nat) = Int.gcd q p from Nat.gcd_comm _ _]
  by_cases z : q < 0
  · rw [if_pos z, Int.sign_eq_neg_one_of_neg z]
    rw [show 0 - p = -1 * p by omega]
  · rw [if_neg z, Int.sign_eq_one_of_pos (by omega), Int.one_mul]
theorem lowD_rat {p q : Int} (hq : q ≠ 0) : lowD p q = ((Rat.divInt p q).den : Int) := by
  rw [Rat.den_divInt, if_neg hq]
  unfold lowD
  rw [show (Nat.gcd p.natAbs q.natAbs : Nat) = Int.gcd q p from Nat.gcd_comm _ _]
  rw [Int.natCast_ediv]
  by_cases z : q < 0
  · rw [if_pos z]
    rw [show 0 - q = (q.natAbs : Int) by omega]
  · rw [if_neg z]
    rw [show (q.natAbs : Int) = q by omega]
def Sz (n : Nat) (r : Rat) : Prop := r.num.natAbs < 2 ^ n ∧ r.den < 2 ^ n
theorem Sz.mono {n m : Nat} {r : Rat} (h : Sz n r) (l : n ≤ m) : Sz m r :=
  ⟨Nat.lt_of_lt_of_le h.1 (Nat.pow_le_pow_right (by decide) l), Nat.lt_of_lt_of_le h.2 (Nat.pow_le_pow_right (by decide) l)⟩
theorem sz_divInt {n : Nat} {p q : Int} (hq : q ≠ 0) (h1 : p.natAbs < 2 ^ n) (h2 : q.natAbs < 2 ^ n) : Sz n (Rat.divInt p q) := by
  obtain ⟨f1, f2, f3, f4, f5⟩ := low_facts (p := p) hq
  rw [lowN_rat hq] at f4
  rw [lowD_rat hq] at f5
  exact ⟨Nat.lt_of_le_of_lt f4 h1, by rw [Int.natAbs_natCast] at f5; omega⟩
theorem den0 (r : Rat) : ((r.den : Nat) : Int) ≠ 0 := by have := r.den_pos; omega
theorem denP (r : Rat) : 0 < ((r.den : Nat) : Int) := by have := r.den_pos; omega
theorem lt_mul2 {a b n m : Nat} (h : a < 2 ^ n) (h' : b < 2 ^ m) : a * b < 2 ^ (n + m) := by
  rw [Nat.pow_add]; exact Nat.mul_lt_mul'' h h'
theorem mul2N {i j : Int} {n m : Nat} (h : i.natAbs < 2 ^ n) (h' : j.natAbs < 2 ^ m) : (i * j).natAbs < 2 ^ (n + m) := by
  rw [Int.natAbs_mul]; exact lt_mul2 h h'
theorem add2N {i j : Int} {n : Nat} (h : i.natAbs < 2 ^ n) (h' : j.natAbs < 2 ^ n) : (i + j).natAbs < 2 ^ (n + 1) := by
  rw [Nat.pow_succ]; omega
theorem den2N {n : Nat} {r : Rat} (h : Sz n r) : ((r.den : Nat) : Int).natAbs < 2 ^ n := by rw [Int.natAbs_natCast]; exact h.2
theorem add_divInt (a b : Rat) : a + b = Rat.divInt (a.num * b.den + b.num * a.den) (a.den * b.den) := by
  conv => lhs; rw [← Rat.num_divInt_den a, ← Rat.num_divInt_den b]
  rw [Rat.divInt_add_divInt _ _ (den0 a) (den0 b)]
theorem mul_divInt (a b : Rat) : a * b = Rat.divInt (a.num * b.num) (a.den * b.den) := by
  conv => lhs; rw [← Rat.num_divInt_den a, ← Rat.num_divInt_den b]
  rw [Rat.divInt_mul_divInt]
theorem sz_add {n m : Nat} {a b : Rat} (h : Sz n a) (h' : Sz m b) : Sz (n + m + 1) (a + b) := by
  rw [add_divInt]
  refine sz_divInt (Int.mul_ne_zero (den0 a) (den0 b)) (add2N (mul2N h.1 (den2N h')) ?_) ?_
  · rw [Nat.add_comm]; exact mul2N h'.1 (den2N h)
  · exact Nat.lt_of_lt_of_le (mul2N (den2N h) (den2N h')) (Nat.pow_le_pow_right (by decide) (by omega))
theorem sz_mul {n m : Nat} {a b : Rat} (h : Sz n a) (h' : Sz m b) : Sz (n + m) (a * b) := by
  rw [mul_divInt]
  exact sz_divInt (Int.mul_ne_zero (den0 a) (den0 b)) (mul2N h.1 h'.1) (mul2N (den2N h) (den2N h'))
theorem sz_neg {n : Nat} {a : Rat} (h : Sz n a) : Sz n (-a) := ⟨by rw [Rat.neg_num, Int.natAbs_neg]; exact h.1, by rw [Rat.neg_den]; exact h.2⟩
def isFrB : PyData → Bool
  | .tuple [.int a, .int b] => decide (0 < b) && decide (Nat.gcd a.natAbs b.natAbs = 1)
  | _ => false
theorem isFrB_fr (r : Rat) : isFrB (frD r) = true := by
  show (decide (0 < (r.den : Int)) && decide (Nat.gcd r.num.natAbs (r.den : Int).natAbs = 1)) = true
  rw [decide_eq_true (denP r), Int.natAbs_natCast, decide_eq_true r.reduced]; rfl
abbrev Bet := List (Rat × List Wd) × List Wd
def teD (t : Rat × List Wd) : PyData := .tuple [frD t.1, saD t.2]
def beD (b : Bet) : PyData := .tuple [.tuple (b.1.map teD), saD b.2]
def opD : Option Rat → PyData
  | none => .none
  | some r => frD r
structure GBet (ls : List Nat) (n m : Nat) (b : Bet) : Prop where
  ok : Good ls b.2
  len : b.2.length ≤ 40
  terms : ∀ t ∈ b.1, Good ls t.2 ∧ t.2.length ≤ 40 ∧ Sz n t.1
  few : b.1.length ≤ m
theorem GBet.mono {ls : List Nat} {n m n' m' : Nat} {b : Bet} (h : GBet ls n m b) (l : n ≤ n') (k : m ≤ m') : GBet ls n' m' b :=
  ⟨h.ok, h.len, fun t ht => ⟨(h.terms t ht).1, (h.terms t ht).2.1, (h.terms t ht).2.2.mono l⟩, Nat.le_trans h.few k⟩
def sumT (ls : List Nat) (bs : List Bool) (ts : List (Rat × List Wd)) : Rat := ts.foldl (fun a t => if valS ls bs t.2 then a + t.1 else a) 0
def payS (ls : List Nat) (bs : List Bool) (b : Bet) : Option Rat := if valS ls bs b.2 then some (sumT ls bs b.1) else none
theorem sz0 {n : Nat} : Sz (n + 1) (0 : Rat) := ⟨by show 0 < _; exact Nat.pow_pos (by decide), by show 1 < _; exact Nat.lt_of_lt_of_le (by decide : 1 < 2 ^ 1) (Nat.pow_le_pow_right (by decide) (by omega))⟩
theorem sz1 {n : Nat} : Sz (n + 1) (1 : Rat) := ⟨by show 1 < _; exact Nat.lt_of_lt_of_le (by decide : 1 < 2 ^ 1) (Nat.pow_le_pow_right (by decide) (by omega)), by show 1 < _; exact Nat.lt_of_lt_of_le (by decide : 1 < 2 ^ 1) (Nat.pow_le_pow_right (by decide) (by omega))⟩
theorem tame_fr {n : Nat} (r : Rat) : Tame (n + 1) (frD r) := tame_T (tame_cons0 (tame_int _) (tame_cons0 (tame_int _) tame_nil0))
theorem tame_te {ls : List Nat} {k n : Nat} (l : Ltrs ls) {t : Rat × List Wd} (h : Good ls t.2 ∧ t.2.length ≤ 40 ∧ Sz n t.1) : Tame (k + 2) (teD t) := tame_T (tame_cons0 (tame_fr _) (tame_cons0 (tame_sa2 h.1 l) tame_nil0))
theorem tame_be {ls : List Nat} {k n m : Nat} {b : Bet} (h : GBet ls n m b) (l : Ltrs ls) : Tame (k + 4) (beD b) :=
  tame_T (tame_cons0 (tame_T (tame_map0 fun t ht => tame_te l (h.terms t ht))) (tame_cons0 (tame_sa2 h.ok l) tame_nil0))
theorem tame_op {n : Nat} : ∀ o : Option Rat, Tame (n + 1) (opD o)
  | none => tame_none
  | some r => tame_fr r
theorem shy_fr {n b : Nat} {m : Nat} {r : Rat} (h : Sz m r) (l : m ≤ 1900) : Shy (n + 1) (b + 2) (frD r) := by
  have k : ∀ x : Nat, x < 2 ^ m → x.log2 < 1920 := fun x hx => by
    by_cases z : x = 0
    · rw [z]; decide
    · exact Nat.lt_of_lt_of_le ((Nat.log2_lt z).mpr hx) (by omega)
  exact (shy_T (shy_cons0 (shy_int (n := n) (b := 0) (k _ h.1)) (shy_cons0 (shy_int (n := n) (b := 0) (k _ (by rw [Int.natAbs_natCast]; exact h.2))) shy_nil0))).mono (Nat.le_refl _) (by omega)
theorem shy_wd {n : Nat} {ls : List Nat} (hl : ∀ c ∈ ls, c < 1114112) {w : Wd} (h : ∀ c, w = .let c → c ∈ ls) : Shy n 4 (.str w.str) := by
  cases w
  case «let» c => exact shy_str (fun d hd => by have : d = c := by simpa [Wd.str, SX.S] using hd
                                                rw [this]; exact hl c (h c rfl)) (show 1 ≤ 4 by decide)
  all_goals exact shy_str (by decide) (by decide)
theorem shy_sa {n : Nat} {ls : List Nat} (l : Ltrs ls) {ws : List Wd} (g : Good ls ws) {m : Nat} (z : ws.length ≤ m) : Shy (n + 1) (m * 5) (saD ws) :=
  shy_T (shy_map0 (fun w hw => shy_wd l.low fun c e => g.ltr c (by rw [← e]; exact hw)) z)
theorem shy_te {k n : Nat} {ls : List Nat} (l : Ltrs ls) (hn : n ≤ 1900) {t : Rat × List Wd} (h : Good ls t.2 ∧ t.2.length ≤ 40 ∧ Sz n t.1) : Shy (k + 2) 204 (teD t) :=
  shy_T (shy_cons0 (shy_fr (b := 0) h.2.2 hn) (shy_cons0 (shy_sa l h.1 h.2.1) shy_nil0))
theorem shy_be {k n m : Nat} {ls : List Nat} {b : Bet} (h : GBet ls n m b) (l : Ltrs ls) (hn : n ≤ 1900) : Shy (k + 4) (m * 205 + 202) (beD b) :=
  (shy_T (shy_cons0 (shy_T (shy_map0 (fun t ht => shy_te l hn (h.terms t ht)) h.few)) (shy_cons0 (shy_sa l h.ok h.len) shy_nil0))).mono (Nat.le_refl _) (by omega)
theorem shy_S {n : Nat} {ls : List Nat} (l : Ltrs ls) {m : Nat} (z : ls.length ≤ m) : Shy n m (.str (SX.S ls)) := shy_str (fun c hc => l.low c (by simpa [SX.S] using hc)) (by simpa [SX.S] using z)
theorem shy_ho {k : Nat} {ls : List Nat} {rs : List (List Wd)} (h : House ls rs) : Shy (k + 3) 1620 (hoD ls rs) :=
  (shy_T (shy_cons0 (shy_S h.ltrs h.le6) (shy_cons0 (shy_T (shy_map0 (m := 8) (fun r hr => shy_sa (n := k) h.ltrs (h.good r hr).1 (h.good r hr).2) h.few)) shy_nil0))).mono (Nat.le_refl _) (by omega)
def tabS (ls : List Nat) (rs : List (List Wd)) (b : Bet) : List (Option Rat) := (worldsOf ls rs).map fun bs => payS ls bs b
theorem tab_len (ls : List Nat) (rs : List (List Wd)) (b : Bet) : (tabS ls rs b).length = (worldsOf ls rs).length := List.length_map _
theorem tame_tab {n : Nat} (l : List (Option Rat)) : Tame (n + 2) (.tuple (l.map opD)) := tame_T (tame_map0 fun o _ => tame_op o)
theorem good_more {ls ms : List Nat} {ws : List Wd} (h : Good ls ws) (s : ∀ c ∈ ls, c ∈ ms) : Good ms ws := ⟨h.one, fun c hc => s c (h.ltr c hc)⟩
theorem GBet.more {ls ms : List Nat} {n m : Nat} {b : Bet} (h : GBet ls n m b) (s : ∀ c ∈ ls, c ∈ ms) : GBet ms n m b :=
  ⟨good_more h.ok s, h.len, fun t ht => ⟨good_more (h.terms t ht).1 s, (h.terms t ht).2⟩, h.few⟩
theorem in_alphabet {ls : List Nat} (h : Ltrs ls) : ∀ c ∈ ls, c ∈ alphabet := fun c hc => by
  have := h.az c hc
  have key : ∀ c : Nat, 97 ≤ c → c ≤ 122 → c ∈ alphabet := fun c h1 h2 => by
    obtain ⟨d, rfl⟩ := Nat.exists_eq_add_of_le h1
    have hd : d < 26 := by omega
    rcases d with _ | _ | _ | _ | _ | _ | _ | _ | _ | _ | _ | _ | _ | _ | _ | _ | _ | _ | _ | _ | _ | _ | _ | _ | _ | _ | d <;> first | decide | omega
  exact key c this.1 this.2
def termV (ls : List Nat) (bs : List Bool) (t : Rat × List Wd) : Rat := if valS ls bs t.2 then t.1 else 0
theorem fold_termV {ls : List Nat} {bs : List Bool} : ∀ (ts : List (Rat × List Wd)) (a : Rat), ts.foldl (fun a t => if valS ls bs t.2 then a + t.1 else a) a = a + (ts.map (termV ls bs)).sum
  | [], a => by simp only [List.foldl_nil, List.map_nil, List.sum_nil]; grind
  | t :: ts, a => by
    rw [List.foldl_cons, fold_termV ts, List.map_cons, List.sum_cons]
    unfold termV
    split <;> grind
theorem sumT_eq (ls : List Nat) (bs : List Bool) (ts : List (Rat × List Wd)) : sumT ls bs ts = (ts.map (termV ls bs)).sum := by
  unfold sumT
  rw [fold_termV]; grind
theorem sumT_app (ls : List Nat) (bs : List Bool) (a b : List (Rat × List Wd)) : sumT ls bs (a ++ b) = sumT ls bs a + sumT ls bs b := by
  rw [sumT_eq, sumT_eq, sumT_eq, List.map_append]
  generalize b.map (termV ls bs) = y
  generalize a.map (termV ls bs) = x
  induction x with
  | nil => simp only [List.nil_append, List.sum_nil]; grind
  | cons p x ih => rw [List.cons_append, List.sum_cons, List.sum_cons, ih]; grind
theorem sumT_one (ls : List Nat) (bs : List Bool) (t : Rat × List Wd) : sumT ls bs [t] = termV ls bs t := by rw [sumT_eq]; simp only [List.map_cons, List.map_nil, List.sum_cons, List.sum_nil]; grind
theorem sumT_cons (ls : List Nat) (bs : List Bool) (t : Rat × List Wd) (ts : List (Rat × List Wd)) : sumT ls bs (t :: ts) = termV ls bs t + sumT ls bs ts := by
  rw [show t :: ts = [t] ++ ts from rfl, sumT_app, sumT_one]
theorem tame_terms {k n : Nat} {ls : List Nat} (l : Ltrs ls) {ts : List (Rat × List Wd)} (h : ∀ t ∈ ts, Good ls t.2 ∧ t.2.length ≤ 40 ∧ Sz n t.1) : Tame (k + 3) (.tuple (ts.map teD)) := tame_T (tame_map0 fun t ht => tame_te l (h t ht))

abbrev Bid := Bet × Rat
def bdD (b : Bid) : PyData := .tuple [beD b.1, frD b.2]
structure GBid (ls : List Nat) (n m : Nat) (b : Bid) : Prop where
  bet : GBet ls n m b.1
  price : Sz n b.2
theorem GBid.mono {ls : List Nat} {n m n' m' : Nat} {b : Bid} (h : GBid ls n m b) (l : n ≤ n') (k : m ≤ m') : GBid ls n' m' b := ⟨h.bet.mono l k, h.price.mono l⟩
abbrev GBids (ls : List Nat) (n m : Nat) (bs : List Bid) : Prop := ∀ b ∈ bs, GBid ls n m b
theorem tame_bd {k n m : Nat} {ls : List Nat} {b : Bid} (h : GBid ls n m b) (l : Ltrs ls) : Tame (k + 5) (bdD b) := tame_T (tame_cons0 (tame_be h.bet l) (tame_cons0 (tame_fr _) tame_nil0))
theorem tame_bds {k n m : Nat} {ls : List Nat} {bs : List Bid} (h : GBids ls n m bs) (l : Ltrs ls) : Tame (k + 6) (.tuple (bs.map bdD)) := tame_T (tame_map0 fun b hb => tame_bd (h b hb) l)
theorem shy_bd {k n m : Nat} {ls : List Nat} {b : Bid} (h : GBid ls n m b) (l : Ltrs ls) (hn : n ≤ 1900) : Shy (k + 5) (m * 205 + 206) (bdD b) :=
  (shy_T (shy_cons0 (shy_be h.bet l hn) (shy_cons0 (shy_fr (b := 0) h.price hn) shy_nil0))).mono (Nat.le_refl _) (by omega)
theorem shy_bds {k n m c : Nat} {ls : List Nat} {bs : List Bid} (h : GBids ls n m bs) (l : Ltrs ls) (hn : n ≤ 1900) (hc : bs.length ≤ c) : Shy (k + 6) (c * (m * 205 + 207)) (.tuple (bs.map bdD)) :=
  shy_T (shy_map0 (fun b hb => shy_bd (h b hb) l hn) hc)
def gainW (p : Rat) : Option Rat → Option Rat := Option.map fun r => r + -p
def gainsB (ls : List Nat) (rs : List (List Wd)) (b : Bid) : List (Option Rat) := (tabS ls rs b.1).map (gainW b.2)
def addO : Option Rat → Rat → Option Rat
  | none, x => some x
  | some a, x => some (a + x)
def withG (t : Option Rat) (s : Rat) : Option Rat → Option Rat
  | none => t
  | some g => if s = 0 then t else addO t (s * g)
def bookW (ls : List Nat) (u : List Bool) (zs : List (Bid × Rat)) (a : Option Rat) : Option Rat := zs.foldl (fun a z => withG a z.2 (gainW z.1.2 (payS ls u z.1.1))) a
def gainsOf (ls : List Nat) (rs : List (List Wd)) (bs : List Bid) (st : List Rat) : List (Option Rat) := (worldsOf ls rs).map fun u => bookW ls u (bs.zip st) none
def Szo (n : Nat) : Option Rat → Prop
  | none => True
  | some r => Sz n r
theorem Szo.mono {n m : Nat} {o : Option Rat} (h : Szo n o) (l : n ≤ m) : Szo m o := by
  cases o with
  | none => trivial
  | some r => exact Sz.mono h l
theorem gainsB_len (ls : List Nat) (rs : List (List Wd)) (b : Bid) : (gainsB ls rs b).length = (worldsOf ls rs).length := by unfold gainsB; rw [List.length_map, tab_len]
theorem bookW_cons (ls : List Nat) (u : List Bool) (z : Bid × Rat) (zs : List (Bid × Rat)) (a : Option Rat) : bookW ls u (z :: zs) a = bookW ls u zs (withG a z.2 (gainW z.1.2 (payS ls u z.1.1))) := rfl
mutual
def Mild : PyData → Prop
  | .int i => i.natAbs < 2 ^ 100000
  | .str s => s.length ≤ 16777216
  | .list ds => MildA ds
  | .tuple ds => MildA ds
  | _ => True
def MildA : List PyData → Prop
  | [] => True
  | d :: ds => Mild d ∧ MildA ds
end
theorem mildA_iff : ∀ {ds : List PyData}, MildA ds ↔ ∀ d ∈ ds, Mild d
  | [] => by simp [MildA]
  | d :: ds => by rw [MildA, mildA_iff (ds := ds)]; simp
theorem mild_T {ds : List PyData} (h : ∀ d ∈ ds, Mild d) : Mild (.tuple ds) := by rw [Mild]; exact mildA_iff.mpr h
theorem Mild.tup {ds : List PyData} (h : Mild (.tuple ds)) : ∀ d ∈ ds, Mild d := by rw [Mild] at h; exact mildA_iff.mp h
theorem Mild.lst {ds : List PyData} (h : Mild (.list ds)) : ∀ d ∈ ds, Mild d := by rw [Mild] at h; exact mildA_iff.mp h
theorem Mild.int {i : Int} (h : Mild (.int i)) : i.natAbs < 2 ^ 100000 := by rw [Mild] at h; exact h
theorem Mild.str {s : Str} (h : Mild (.str s)) : s.length ≤ 16777216 := by rw [Mild] at h; exact h
theorem mild_int {i : Int} (h : i.natAbs < 2 ^ 100000) : Mild (.int i) := by rw [Mild]; exact h
theorem mild_str {s : Str} (h : s.length ≤ 16777216) : Mild (.str s) := by rw [Mild]; exact h
theorem mild_non : Mild .none := by rw [Mild] <;> simp
theorem mild_bool (b : Bool) : Mild (.bool b) := by rw [Mild] <;> simp
theorem Mild.fr {r : Rat} (h : Mild (frD r)) : Sz 100000 r := by
  have h1 := (h.tup _ (.head _)).int
  have h2 := (h.tup _ (.tail _ (.head _))).int
  exact ⟨h1, by rw [Int.natAbs_natCast] at h2; exact h2⟩
theorem mild_fr {n : Nat} {r : Rat} (h : Sz n r) (l : n ≤ 100000) : Mild (frD r) := mild_T fun d hd => by
  have h := h.mono l
  rcases List.mem_cons.mp hd with e | hd
  · rw [e]; exact mild_int h.1
  · rw [List.mem_singleton.mp hd]; exact mild_int (by rw [Int.natAbs_natCast]; exact h.2)
theorem mild_frs {n : Nat} {st : List Rat} (h : ∀ s ∈ st, Sz n s) (l : n ≤ 100000) : Mild (.tuple (st.map frD)) := mild_T fun d hd => by
  obtain ⟨s, hs, rfl⟩ := List.mem_map.mp hd
  exact mild_fr (h s hs) l
def geZ : PyData → Bool
  | .tuple [.int a, _] => decide (0 ≤ a)
  | _ => false
def stakesB (m : Nat) : PyData → Bool
  | .tuple ds => decide (ds.length = m) && ds.all fun s => isFrB s && geZ s
  | _ => false
theorem stakesB_fr (m : Nat) (st : List Rat) : stakesB m (.tuple (st.map frD)) = (decide (st.length = m) && st.all fun s => decide (0 ≤ s.num)) := by
  show (decide ((st.map frD).length = m) && (st.map frD).all fun s => isFrB s && geZ s) = _
  rw [List.length_map, List.all_map]
  congr 2
  funext s
  show (isFrB (frD s) && decide (0 ≤ s.num)) = _
  rw [isFrB_fr, Bool.true_and]
theorem num_nonneg {r : Rat} : decide (0 ≤ r.num) = !decide (r < 0) := by
  rw [Bool.eq_iff_iff, decide_eq_true_eq, Bool.not_eq_true', decide_eq_false_iff_not, Rat.num_nonneg, Rat.not_lt]
def losesB (os : List (Option Rat)) : Bool := !(os.filterMap id).isEmpty && (os.filterMap id).all fun r => decide (r < 0)
theorem atI_in {α : Type} {l : List α} {j : Int} (h0 : 0 ≤ j) (h : j < l.length) : ∃ d ∈ l, atI l j = some d := by
  obtain ⟨n, rfl⟩ := Int.eq_ofNat_of_zero_le h0
  have hn : n < l.length := by omega
  exact ⟨l[n], List.getElem_mem hn, by rw [atIn]; exact List.getElem?_eq_getElem hn⟩
theorem log_lt {i : Int} {n : Nat} (h : i.natAbs < 2 ^ n) (l : n ≤ 1920) : i.natAbs.log2 < 1920 := by
  by_cases z : i.natAbs = 0
  · rw [z]; decide
  · exact Nat.lt_of_lt_of_le ((Nat.log2_lt z).mpr h) l
theorem shyi {n b : Nat} {i : Int} {m : Nat} (h : i.natAbs < 2 ^ m) (l : m ≤ 1920) : Shy n b (.int i) := shy_int (log_lt h l)
theorem nl_int (i : Int) : noLst (.int i) = true := by simp [noLst]
theorem nl_str (i : Str) : noLst (.str i) = true := by simp [noLst]
theorem nl_bool (i : Bool) : noLst (.bool i) = true := by simp [noLst]
theorem nl_none : noLst .none = true := by simp [noLst]
mutual
def Itsy (z : Nat) : PyData → Prop
  | .int i => i.natAbs < 2 ^ z
  | .str s => s.length ≤ 1000
  | .list ds => ItsyA z ds
  | .tuple ds => ItsyA z ds
  | _ => True
def ItsyA (z : Nat) : List PyData → Prop
  | [] => True
  | d :: ds => Itsy z d ∧ ItsyA z ds
end
theorem itsyA_iff {z : Nat} : ∀ {ds : List PyData}, ItsyA z ds ↔ ∀ d ∈ ds, Itsy z d
  | [] => by simp [ItsyA]
  | d :: ds => by rw [ItsyA, itsyA_iff (ds := ds)]; simp
theorem its_T {z : Nat} {ds : List PyData} (h : ItsyA z ds) : Itsy z (.tuple ds) := by rw [Itsy]; exact h
theorem its_L {z : Nat} {ds : List PyData} (h : ItsyA z ds) : Itsy z (.list ds) := by rw [Itsy]; exact h
theorem Itsy.tup {z : Nat} {ds : List PyData} (h : Itsy z (.tuple ds)) : ∀ d ∈ ds, Itsy z d := by rw [Itsy] at h; exact itsyA_iff.mp h
theorem Itsy.str {z : Nat} {s : Str} (h : Itsy z (.str s)) : s.length ≤ 1000 := by rw [Itsy] at h; exact h
theorem Itsy.int {z : Nat} {i : Int} (h : Itsy z (.int i)) : i.natAbs < 2 ^ z := by rw [Itsy] at h; exact h
theorem its_int {z : Nat} {i : Int} (h : i.natAbs < 2 ^ z) : Itsy z (.int i) := by rw [Itsy]; exact h
theorem its_str {z : Nat} {s : Str} (h : s.length ≤ 1000) : Itsy z (.str s) := by rw [Itsy]; exact h
theorem its_non {z : Nat} : Itsy z .none := by rw [Itsy] <;> simp
theorem its_bool {z : Nat} (b : Bool) : Itsy z (.bool b) := by rw [Itsy] <;> simp
theorem its_dic {z : Nat} (b : List (PyData × PyData)) : Itsy z (.dict b) := by rw [Itsy] <;> simp
theorem its_app {z : Nat} {as bs : List PyData} (h : ItsyA z as) (k : ItsyA z bs) : ItsyA z (as ++ bs) := itsyA_iff.mpr fun d hd => by
  rcases List.mem_append.mp hd with q | q
  · exact itsyA_iff.mp h d q
  · exact itsyA_iff.mp k d q
structure Thg (n b z : Nat) (d : PyData) : Prop where
  shy : ShyE n b d
  its : Itsy z d
structure Pln (n b z : Nat) (d : PyData) : Prop where
  shy : Shy n b d
  nl : noLst d = true
  its : Itsy z d
structure Pls (n b z : Nat) (ds : List PyData) : Prop where
  shy : ShyP n b ds
  its : ItsyA z ds
theorem Thg.mono {n m b c z : Nat} {d : PyData} (h : Thg n b z d) (l : n ≤ m) (k : b ≤ c) : Thg m c z d := ⟨h.shy.mono l k, h.its⟩
theorem Pln.mono {n m b c z : Nat} {d : PyData} (h : Pln n b z d) (l : n ≤ m) (k : b ≤ c) : Pln m c z d := ⟨h.shy.mono l k, h.nl, h.its⟩
theorem Pls.mono {n m b c z : Nat} {d : List PyData} (h : Pls n b z d) (l : n ≤ m) (k : b ≤ c) : Pls m c z d := ⟨h.shy.mono l k, h.its⟩
theorem Pln.t {n b z : Nat} {d : PyData} (h : Pln n b z d) : Thg n b z d := ⟨h.shy.e, h.its⟩
theorem pls_nil {n z : Nat} : Pls n 0 z [] := ⟨shyp_nil, by rw [ItsyA]; trivial⟩
theorem pls_cons {n b c z : Nat} {d : PyData} {ds : List PyData} (h : Pln n b z d) (t : Pls n c z ds) : Pls n (b + 1 + c) z (d :: ds) := ⟨shyp_cons h.shy h.nl t.shy, by rw [ItsyA]; exact ⟨h.its, t.its⟩⟩
theorem pls_app {n b c z : Nat} {ds es : List PyData} (h : Pls n b z ds) (t : Pls n c z es) : Pls n (b + c) z (ds ++ es) := ⟨⟨shy_app0 h.shy.a t.shy.a, shym_app h.shy.m t.shy.m⟩, its_app h.its t.its⟩
theorem pls_map {n b m z : Nat} {α : Type} {f : α → PyData} {as : List α} (h : ∀ a ∈ as, Pln n b z (f a)) (l : as.length ≤ m) : Pls n (m * (b + 1)) z (as.map f) :=
  ⟨shyp_map (fun a ha => (h a ha).shy) (fun a ha => (h a ha).nl) l, itsyA_iff.mpr fun d hd => by obtain ⟨a, ha, rfl⟩ := List.mem_map.mp hd; exact (h a ha).its⟩
theorem pln_T {n b z : Nat} {ds : List PyData} (h : Pls n b z ds) : Pln (n + 1) b z (.tuple ds) := ⟨shy_T h.shy.a, by simp only [noLst]; exact h.shy.m.no, its_T h.its⟩
theorem thg_L {n b z : Nat} {ds : List PyData} (h : Pls n b z ds) : Thg (n + 1) b z (.list ds) := ⟨(shy_L h.shy.a).e, its_L h.its⟩
theorem thg_T {n b c e z : Nat} {as cs : List PyData} {d : PyData} (h : Pls n b z as) (o : Thg n e z d) (t : Pls n c z cs) : Thg (n + 1) (b + (e + 1 + c)) z (.tuple (as ++ d :: cs)) :=
  ⟨shye_T h.shy o.shy t.shy, its_T (its_app h.its (by rw [ItsyA]; exact ⟨o.its, t.its⟩))⟩
theorem thg_dic0 {n z : Nat} : Thg (n + 1) 0 z (.dict []) := ⟨shym_dic0.e, its_dic _⟩
theorem thg_dic1 {n b c z : Nat} {d e : PyData} (h : Pln n b z d) (k : Pln n c z e) : Thg (n + 1) (b + c + 2) z (.dict [(d, e)]) := ⟨(shym_dic1 (h.shy.m h.nl) (k.shy.m k.nl)).e, its_dic _⟩
theorem pln_int {n b z : Nat} {i : Int} (h : i.natAbs < 2 ^ z) (l : z ≤ 1920) : Pln n b z (.int i) := ⟨shyi h l, nl_int i, its_int h⟩
theorem pln_bool {n b z : Nat} (i : Bool) : Pln n b z (.bool i) := ⟨shy_bool i, nl_bool i, its_bool i⟩
theorem pln_none {n b z : Nat} : Pln n b z .none := ⟨shy_none, nl_none, its_non⟩
theorem pln_str {n b z : Nat} {s : Str} (h : ∀ c ∈ s.cps.toList, c < 1114112) (l : s.cps.size ≤ b) (k : b ≤ 1000) : Pln n b z (.str s) := ⟨shy_str h l, nl_str s, its_str (Nat.le_trans l k)⟩
theorem pln_S {n b z : Nat} {ls : List Nat} (h : ∀ c ∈ ls, c < 1114112) (l : ls.length ≤ b) (k : b ≤ 1000) : Pln n b z (.str (SX.S ls)) := pln_str (fun c hc => h c (by simpa [SX.S] using hc)) (by simpa [SX.S] using l) k
theorem pln_wd {n z : Nat} {ls : List Nat} (hl : ∀ c ∈ ls, c < 1114112) {w : Wd} (h : ∀ c, w = .let c → c ∈ ls) : Pln n 4 z (.str w.str) := ⟨shy_wd hl h, nl_str _, its_str (by cases w <;> exact Nat.le_of_ble_eq_true rfl)⟩
theorem pls_wds {n z m : Nat} {ls : List Nat} (hl : ∀ c ∈ ls, c < 1114112) {ws : List Wd} (h : ∀ c, Wd.let c ∈ ws → c ∈ ls) (l : ws.length ≤ m) : Pls n (m * 5) z (ws.map fun w => .str w.str) := pls_map (b := 4) (fun w hw => pln_wd hl fun c e => h c (e ▸ hw)) l
theorem pln_sa {n z m : Nat} {ls : List Nat} (hl : ∀ c ∈ ls, c < 1114112) {ws : List Wd} (h : ∀ c, Wd.let c ∈ ws → c ∈ ls) (l : ws.length ≤ m) : Pln (n + 1) (m * 5) z (saD ws) := pln_T (pls_wds hl h l)
theorem goS_inv {ls : List Nat} : ∀ {ds : List PyData} {n : Nat}, goS ls ds (n : Int) = true → ∃ ws : List Wd, ds = ws.map (fun w => .str w.str) ∧ dep ws n = some 1 ∧ ∀ c, Wd.let c ∈ ws → c ∈ ls
  | [], n, h => ⟨[], rfl, by
      have h : ((n : Int) == 1) = true := h
      have := eq_of_beq h
      have : n = 1 := by omega
      rw [this]; rfl, fun c hc => (List.not_mem_nil hc).elim⟩
  | d :: ds, n, h => by
    cases d with
    | str s =>
      by_cases w : 0 ≤ wantS ls s
      · obtain ⟨v, rfl, hv, e⟩ := wantS_inv w
        by_cases z : v.need ≤ n
        · rw [goS_ok e (by omega), show (n : Int) - (v.need : Int) + 1 = ((n + 1 - v.need : Nat) : Int) by omega] at h
          obtain ⟨ws, e1, e2, e3⟩ := goS_inv h
          refine ⟨v :: ws, by rw [e1]; rfl, ?_, fun c hc => ?_⟩
          · unfold dep dep1
            rw [if_pos z]; exact e2
          · rcases List.mem_cons.mp hc with q | q
            · exact hv c q.symm
            · exact e3 c q
        · rw [goS_few e (by omega)] at h; cases h
      · rw [goS_no w] at h; cases h
    | _ => simp [goS] at h
theorem sayB_inv {ls : List Nat} {d : PyData} (h : sayB ls d = true) : ∃ ws : List Wd, d = saD ws ∧ Good ls ws ∧ ws.length ≤ 40 := by
  unfold sayB at h
  split at h
  · rw [Bool.and_eq_true, decide_eq_true_eq] at h
    obtain ⟨ws, e, h1, h2⟩ := goS_inv (n := 0) h.2
    refine ⟨ws, by rw [e]; rfl, ⟨h1, h2⟩, ?_⟩
    have := h.1.2
    rw [e, List.length_map] at this
    exact this
  · cases h
theorem forL_do {α τ : Type} {gt : WG} {b : WS} {D : Ends2} (enc : α → PyData) (E : τ → List (Nat × X2)) (I : List α → τ → Prop) (as : List α) (t : τ)
    {ds : List PyData} {ρ : B2.Env} (hds : ds = as.map enc) (hρ : has ρ (E t)) (h : I as t)
    (step : ∀ a as t ρ (D' : Ends2), I (a :: as) t → (∀ t' ρ', I as t' → has ρ' (E t') → D'.nx ρ') → (∀ t' ρ', I as t' → has ρ' (E t') → D'.ct ρ') → D'.bk = D.nx → D'.rt = D.rt → D'.ex = D.ex → gt (enc a) (put ρ (E t)) fun ρ' => b D' ρ')
    (done : ∀ t ρ, I [] t → D.nx (put ρ (E t))) : forL gt b D ds ρ :=
  forL_of enc E I as t hds hρ h (fun a as t ρ h ih => step a as t ρ _ h ih ih rfl rfl rfl) done
mutual
theorem its_mild {z : Nat} (hz : z ≤ 100000) : ∀ d : PyData, Itsy z d → Mild d
  | .int i, h => mild_int (Nat.lt_of_lt_of_le h.int (Nat.pow_le_pow_right (by decide) hz))
  | .str s, h => mild_str (Nat.le_trans h.str (by decide))
  | .list ds, h => by rw [Itsy] at h; rw [Mild]; exact its_mildA hz ds h
  | .tuple ds, h => by rw [Itsy] at h; rw [Mild]; exact its_mildA hz ds h
  | .none, _ => mild_non
  | .bool b, _ => mild_bool b
  | .dict _, _ => by rw [Mild] <;> simp
theorem its_mildA {z : Nat} (hz : z ≤ 100000) : ∀ ds : List PyData, ItsyA z ds → MildA ds
  | [], _ => by rw [MildA]; trivial
  | d :: ds, h => by rw [ItsyA] at h; rw [MildA]; exact ⟨its_mild hz d h.1, its_mildA hz ds h.2⟩
end
theorem tame_gains {k : Nat} (os : List (Option Rat)) : Tame (k + 2) (.tuple (os.map opD)) := tame_T (tame_map0 fun o _ => tame_op o)
structure Made (ls : List Nat) (rs : List (List Wd)) (bs : List Bid) (st : List Rat) (p own : Rat) (bits : List Rat) : Prop where
  house : House ls rs
  le3 : ls.length ≤ 3
  bids : GBids ls 100 2 bs
  few : bs.length ≤ 10
  len : st.length = bs.length
  stakes : ∀ s ∈ st, Sz 10 s ∧ 0 ≤ s.num
  price : Sz 100 p
  own : Sz 10 own ∧ 0 < own.num
  blen : bits.length = (worldsOf ls rs).length
  bits : ∀ b ∈ bits, Sz 10 b ∧ 0 < b.num
section
variable {ls : List Nat} {rs : List (List Wd)} {bs : List Bid} {st : List Rat} {p own : Rat} {bits : List Rat}
end
theorem loses_of {os : List (Option Rat)} {r : Rat} (h : some r ∈ os) (ha : ∀ r, some r ∈ os → r < 0) : losesB os = true := by
  unfold losesB
  rw [Bool.and_eq_true]
  refine ⟨?_, List.all_eq_true.mpr fun x hx => ?_⟩
  · rw [Bool.not_eq_true', ← Bool.not_eq_true, List.isEmpty_iff]
    intro e
    have : r ∈ os.filterMap id := List.mem_filterMap.mpr ⟨some r, h, rfl⟩
    rw [e] at this
    exact absurd this List.not_mem_nil
  · obtain ⟨o, ho, e⟩ := List.mem_filterMap.mp hx
    exact decide_eq_true (ha x (by rw [← (show o = some x from e)]; exact ho))
theorem loses_not {os : List (Option Rat)} {r : Rat} (h : some r ∈ os) (hr : ¬ r < 0) : losesB os = false := by
  unfold losesB
  rw [Bool.and_eq_false_iff]
  refine .inr (Bool.eq_false_iff.mpr fun e => ?_)
  exact hr (of_decide_eq_true (List.all_eq_true.mp e r (List.mem_filterMap.mpr ⟨some r, h, rfl⟩)))
section
variable {ls : List Nat} {rs : List (List Wd)} {bs : List Bid} {st : List Rat} {p own : Rat} {bits : List Rat}
end

def lvR : List (Rat × Option Rat) → Rat
  | [] => 0
  | (_, none) :: zs => lvR zs
  | (w, some _) :: zs => w + lvR zs
def ttR : List (Rat × Option Rat) → Rat
  | [] => 0
  | (_, none) :: zs => ttR zs
  | (w, some p) :: zs => w * p + ttR zs
def meanR (zs : List (Rat × Option Rat)) : Option Rat := if lvR zs = 0 then none else some (ttR zs / lvR zs)
theorem lv_nonneg : ∀ {zs : List (Rat × Option Rat)}, (∀ z ∈ zs, 0 ≤ z.1) → 0 ≤ lvR zs
  | [], _ => by show (0 : Rat) ≤ 0; grind
  | (w, none) :: zs, h => lv_nonneg (zs := zs) fun z hz => h z (.tail _ hz)
  | (w, some p) :: zs, h => by
    have := lv_nonneg (zs := zs) fun z hz => h z (.tail _ hz)
    have h1 : 0 ≤ w := h _ (.head _)
    show 0 ≤ w + lvR zs
    grind
theorem lv_map (c : Rat) : ∀ {ws : List Rat} {os : List (Option Rat)}, lvR (ws.zip (os.map (Option.map (c * ·)))) = lvR (ws.zip os) ∧ ttR (ws.zip (os.map (Option.map (c * ·)))) = c * ttR (ws.zip os)
  | [], _ => by rw [List.zip_nil_left, List.zip_nil_left]; exact ⟨rfl, by show (0 : Rat) = c * 0; grind⟩
  | _ :: _, [] => by rw [List.map_nil, List.zip_nil_right]; exact ⟨rfl, by show (0 : Rat) = c * 0; grind⟩
  | w :: ws, o :: os => by
    obtain ⟨h1, h2⟩ := lv_map c (ws := ws) (os := os)
    rw [List.map_cons, List.zip_cons_cons, List.zip_cons_cons]
    cases o with
    | none => exact ⟨h1, h2⟩
    | some p =>
      refine ⟨?_, ?_⟩
      · show w + lvR _ = w + lvR _; rw [h1]
      · show w * (c * p) + ttR _ = c * (w * p + ttR _); rw [h2]; grind
theorem mean_mul (c : Rat) (ws : List Rat) (os : List (Option Rat)) : meanR (ws.zip (os.map (Option.map (c * ·)))) = (meanR (ws.zip os)).map (c * ·) := by
  obtain ⟨h1, h2⟩ := lv_map c (ws := ws) (os := os)
  unfold meanR
  rw [h1, h2]
  split
  · rfl
  · show some _ = some _
    congr 1
    rw [Rat.div_def, Rat.div_def, Rat.mul_assoc]
def oftT (c : Rat) (t : Rat × List Wd) : Rat × List Wd := (t.1 * c, t.2)
def oftB (c : Rat) (b : Bet) : Bet := (b.1.map (oftT c), b.2)
theorem GBet.oft {ls : List Nat} {n m q : Nat} {b : Bet} {c : Rat} (h : GBet ls n m b) (hc : Sz q c) : GBet ls (n + q) m (oftB c b) :=
  ⟨h.ok, h.len, fun t ht => by
    obtain ⟨u, hu, rfl⟩ := List.mem_map.mp ht
    exact ⟨(h.terms u hu).1, (h.terms u hu).2.1, sz_mul (h.terms u hu).2.2 hc⟩, by show (b.1.map (oftT c)).length ≤ m; rw [List.length_map]; exact h.few⟩
theorem sum_oft (ls : List Nat) (u : List Bool) (c : Rat) : ∀ ts : List (Rat × List Wd), sumT ls u (ts.map (oftT c)) = c * sumT ls u ts
  | [] => by show (0 : Rat) = c * 0; grind
  | t :: ts => by
    rw [List.map_cons, sumT_cons, sumT_cons, sum_oft ls u c ts]
    unfold termV oftT
    dsimp only
    split <;> grind
theorem pay_oft (ls : List Nat) (u : List Bool) (c : Rat) (b : Bet) : payS ls u (oftB c b) = (payS ls u b).map (c * ·) := by
  unfold payS oftB
  dsimp only
  split
  · rw [sum_oft]; rfl
  · rfl
theorem tab_oft (ls : List Nat) (rs : List (List Wd)) (c : Rat) (b : Bet) : tabS ls rs (oftB c b) = (tabS ls rs b).map (Option.map (c * ·)) := by
  unfold tabS
  rw [List.map_map]
  exact List.map_congr_left fun u _ => pay_oft ls u c b
theorem GBet.join {ls : List Nat} {n m p : Nat} {a b : List (Rat × List Wd)} {g : List Wd} (h : GBet ls n m (a, g)) (h' : GBet ls n p (b, g)) : GBet ls n (m + p) (a ++ b, g) :=
  ⟨h.ok, h.len, fun t ht => by
    rcases List.mem_append.mp ht with z | z
    · exact h.terms t z
    · exact h'.terms t z, by show (a ++ b).length ≤ m + p; rw [List.length_append]; have := h.few; have := h'.few; dsimp only at *; omega⟩
structure Wg (m : Nat) (ws : List Rat) : Prop where
  len : ws.length = m
  sz : ∀ w ∈ ws, Sz 20 w ∧ 0 ≤ w
  one : ws.sum = 1
  prt : ∃ T : Nat, 0 < T ∧ T < 2 ^ 17 ∧ ∀ w ∈ ws, ∃ p : Nat, p ≤ T ∧ w = Rat.divInt (p : Nat) (T : Nat)
def lsD (Ls : List (List Rat)) : PyData := .tuple (Ls.map fun ws => .tuple (ws.map frD))
def meanIn (os : List (Option Rat)) (Ls : List (List Rat)) : Option Rat := Ls.findSome? fun ws => meanR (ws.zip os)
theorem mean_none {zs : List (Rat × Option Rat)} : meanR zs = none ↔ lvR zs = 0 := by
  unfold meanR
  by_cases h : lvR zs = 0
  · rw [if_pos h]; exact ⟨fun _ => h, fun _ => rfl⟩
  · rw [if_neg h]; exact ⟨fun e => (by cases e), fun e => absurd e h⟩
theorem cutL_in {α : Type} {l : List α} {lo hi : Option Int} {x : α} (h : x ∈ cutL l lo hi) : x ∈ l := by
  unfold cutL at h
  exact List.mem_of_mem_drop (List.mem_of_mem_take h)
theorem cutL_le {α : Type} (l : List α) (lo hi : Option Int) : (cutL l lo hi).length ≤ l.length := by
  unfold cutL
  rw [List.length_take, List.length_drop]; omega
theorem len_bulk7 : ∀ ds : List PyData, ds.length ≤ PyData.bulkAll ds
  | [] => Nat.zero_le _
  | d :: ds => by
    have := len_bulk7 ds
    simp only [PyData.bulkAll, List.length_cons]; omega
theorem mem_bulk7 : ∀ {ds : List PyData} {d : PyData}, d ∈ ds → d.bulk ≤ PyData.bulkAll ds
  | e :: ds, d, h => by
    simp only [PyData.bulkAll]
    rcases List.mem_cons.mp h with z | z
    · rw [z]; omega
    · have := mem_bulk7 z; omega
theorem bulk_T7 {ds : List PyData} : (PyData.tuple ds).bulk = PyData.bulkAll ds := by simp only [PyData.bulk]
theorem goL_inv : ∀ (cs : List Nat) (p : Option Nat), goL p cs = true → cs.Pairwise (· < ·) ∧ (∀ c ∈ cs, 97 ≤ c ∧ c ≤ 122) ∧ ∀ q, p = some q → ∀ c ∈ cs, q < c
  | [], _, _ => ⟨List.Pairwise.nil, fun _ h => (List.not_mem_nil h).elim, fun _ _ _ h => (List.not_mem_nil h).elim⟩
  | c :: cs, p, h => by
    unfold goL at h
    rw [Bool.and_eq_true, Bool.and_eq_true, Bool.and_eq_true, decide_eq_true_eq, decide_eq_true_eq] at h
    obtain ⟨⟨⟨h1, h2⟩, h3⟩, h4⟩ := h
    obtain ⟨q1, q2, q3⟩ := goL_inv cs (some c) h4
    refine ⟨List.pairwise_cons.mpr ⟨fun y hy => q3 c rfl y hy, q1⟩, fun y hy => ?_, fun q e y hy => ?_⟩
    · rcases List.mem_cons.mp hy with z | z
      · rw [z]; exact ⟨h1, h2⟩
      · exact q2 y z
    · rw [e] at h3
      have h3 : q < c := of_decide_eq_true h3
      rcases List.mem_cons.mp hy with z | z
      · rw [z]; exact h3
      · exact Nat.lt_trans h3 (q3 c rfl y z)
theorem goL_iff {cs : List Nat} : goL none cs = true ↔ cs.Pairwise (· < ·) ∧ ∀ c ∈ cs, 97 ≤ c ∧ c ≤ 122 := ⟨fun h => ⟨(goL_inv cs none h).1, (goL_inv cs none h).2.1⟩, fun h => goL_up cs none h.1 h.2 fun q e => by cases e⟩
theorem lettersB_inv {d : PyData} (h : lettersB d = true) : ∃ ls : List Nat, d = .str (SX.S ls) ∧ Ltrs ls ∧ ls.length ≤ 6 := by
  cases d
  case str s =>
    have h : (decide (1 ≤ s.length ∧ s.length ≤ 6) && goL none s.cps.toList) = true := h
    rw [Bool.and_eq_true, decide_eq_true_eq] at h
    have e : s = SX.S s.cps.toList := str_ext rfl
    have hl : s.length = s.cps.toList.length := by rw [Array.length_toList]; rfl
    obtain ⟨q1, q2⟩ := goL_iff.mp h.2
    exact ⟨s.cps.toList, by rw [← e], ⟨fun z => by rw [z] at hl; have := h.1.1; rw [hl] at this; simp at this, q1, q2⟩, by omega⟩
  all_goals cases h
def HoT (d : PyData) : Prop := (∃ (ls : List Nat) (rs : List (List Wd)), d = hoD ls rs ∧ House ls rs) ∨ NoHo d
theorem says_inv {ls : List Nat} : ∀ {ds : List PyData}, ds.all (sayB ls) = true → ∃ rs : List (List Wd), ds = rs.map saD ∧ ∀ r ∈ rs, Good ls r ∧ r.length ≤ 40
  | [], _ => ⟨[], rfl, fun _ h => (List.not_mem_nil h).elim⟩
  | d :: ds, h => by
    rw [List.all_cons, Bool.and_eq_true] at h
    obtain ⟨ws, rfl, g, l⟩ := sayB_inv h.1
    obtain ⟨rs, e, hr⟩ := says_inv h.2
    refine ⟨ws :: rs, by rw [e]; rfl, fun r hr' => ?_⟩
    rcases List.mem_cons.mp hr' with z | z
    · rw [z]; exact ⟨g, l⟩
    · exact hr r z
theorem hoT_any {n b z : Nat} {d : PyData} (h : Thg n b z d) (hb : b ≤ 1000) : HoT d := by
  have bk : d.bulk ≤ b := h.shy.bk
  have fin : ∀ ds, d = .tuple ds → ds.length ≤ 1000 := fun ds e => by
    rw [e, bulk_T7] at bk
    exact Nat.le_trans (Nat.le_trans (len_bulk7 ds) bk) hb
  by_cases sh : ∃ x y, d = .tuple [x, y]
  · obtain ⟨x, y, rfl⟩ := sh
    have ix := h.its.tup x (.head _)
    have iy := h.its.tup y (.tail _ (.head _))
    cases hl : lettersB x with
    | false => exact .inr (.letters x y hl fun s e => by rw [e] at ix; have := ix.str; omega)
    | true =>
      obtain ⟨ls, rfl, L, l6⟩ := lettersB_inv hl
      by_cases hy : ∃ ds, y = .tuple ds ∧ ds.length ≤ 8
      · obtain ⟨ds, rfl, l8⟩ := hy
        cases ha : ds.all (sayB ls) with
        | false => exact .inr (.says ls ds L l6 l8 ha fun d hd es e s hs => by
            have := (Itsy.tup (by rw [← e]; exact iy.tup d hd) _ hs : Itsy z (.str s)).str
            omega)
        | true =>
          obtain ⟨rs, rfl, g⟩ := says_inv ha
          rw [List.length_map] at l8
          by_cases hw : worldsOf ls rs = []
          · exact .inr (.dead ls rs L l6 g l8 hw)
          · exact .inl ⟨ls, rs, rfl, ⟨L, l6, g, l8, hw⟩⟩
      · refine .inr (.rules ls y L l6 fun ds e => ?_)
        refine ⟨Nat.lt_of_not_le fun l => hy ⟨ds, e, l⟩, ?_⟩
        rw [bulk_T7] at bk
        have h2 := Nat.le_trans (mem_bulk7 (ds := [.str (SX.S ls), y]) (.tail _ (.head _))) bk
        rw [e, bulk_T7] at h2
        exact Nat.le_trans (Nat.le_trans (len_bulk7 ds) h2) hb
  · exact .inr (.shape d (fun x y e => sh ⟨x, y, e⟩) fin)
theorem find_abc : ∀ c ∈ List.range' 97 26, Txt.find "abcdefghijklmnopqrstuvwxyz" ⟨#[c]⟩ = (c : Int) - 97 := by decide +kernel
theorem sub_abc : ∀ i ∈ List.range 26, PySem.Builtin.Str.strSub "abcdefghijklmnopqrstuvwxyz" i (i + 1) = ⟨#[97 + i]⟩ := by decide +kernel
theorem find_one (c : Nat) : Txt.find "abcdefghijklmnopqrstuvwxyz" ⟨#[c]⟩ = if 97 ≤ c ∧ c ≤ 122 then (c : Int) - 97 else -1 := by
  by_cases h : 97 ≤ c ∧ c ≤ 122
  · rw [if_pos h]
    exact find_abc c (List.mem_range'_1.mpr (by omega))
  · rw [if_neg h]
    rcases PyProof.Rows.find_spec "abcdefghijklmnopqrstuvwxyz" ⟨#[c]⟩ with e | ⟨i, e, l, q⟩
    · exact e
    · have l : i + 1 ≤ 26 := l
      have q : PySem.Builtin.Str.strSub "abcdefghijklmnopqrstuvwxyz" i (i + 1) = ⟨#[c]⟩ := q
      rw [sub_abc i (List.mem_range.mpr (by omega))] at q
      injection q with q
      injection q with q
      injection q with q
      omega
def placeZ (c : Nat) : Int := if 97 ≤ c ∧ c ≤ 122 then (c : Int) - 97 else -1
theorem strict_eq : ∀ {as bs : List Int}, as.Pairwise (· < ·) → bs.Pairwise (· < ·) → (∀ k, k ∈ as ↔ k ∈ bs) → as = bs
  | [], [], _, _, _ => rfl
  | [], b :: bs, _, _, h => by have := (h b).mpr (.head _); cases this
  | a :: as, [], _, _, h => by have := (h a).mp (.head _); cases this
  | a :: as, b :: bs, h1, h2, h => by
    obtain ⟨a1, a2⟩ := List.pairwise_cons.mp h1
    obtain ⟨b1, b2⟩ := List.pairwise_cons.mp h2
    have e : a = b := by
      rcases List.mem_cons.mp ((h a).mp (.head _)) with q | q
      · exact q
      · rcases List.mem_cons.mp ((h b).mpr (.head _)) with w | w
        · exact w.symm
        · have := a1 b w; have := b1 a q; omega
    subst e
    rw [strict_eq a2 b2 fun k => ⟨fun m => ?_, fun m => ?_⟩]
    · rcases List.mem_cons.mp ((h k).mp (.tail _ m)) with q | q
      · have := a1 k m; omega
      · exact q
    · rcases List.mem_cons.mp ((h k).mpr (.tail _ m)) with q | q
      · have := b1 k m; omega
      · exact q
theorem place_tell {cs : List Nat} {M : Int} {ms : List Int} (hM : M ∈ cs.map placeZ) (hmin : ∀ y ∈ cs.map placeZ, M ≤ y) (h1 : ms.Pairwise (· < ·)) (h2 : ∀ j, j ∈ ms ↔ j ∈ cs.map placeZ) :
    goL none cs = (decide (0 ≤ M) && decide (cs.map placeZ = ms)) := by
  have up : ∀ c, 0 ≤ placeZ c → 97 ≤ c ∧ c ≤ 122 ∧ placeZ c = (c : Int) - 97 := fun c h => by
    unfold placeZ at h ⊢
    split at h
    · rename_i z; rw [if_pos z]; exact ⟨z.1, z.2, rfl⟩
    · omega
  have dn : ∀ c, 97 ≤ c → c ≤ 122 → placeZ c = (c : Int) - 97 := fun c a b => by unfold placeZ; rw [if_pos ⟨a, b⟩]
  rw [Bool.eq_iff_iff, goL_iff, Bool.and_eq_true, decide_eq_true_eq, decide_eq_true_eq]
  constructor
  · rintro ⟨p, r⟩
    obtain ⟨c, hc, rfl⟩ := List.mem_map.mp hM
    refine ⟨by rw [dn c (r c hc).1 (r c hc).2]; have := (r c hc).1; omega, strict_eq ?_ h1 fun k => (h2 k).symm⟩
    rw [List.pairwise_map]
    refine p.imp_of_mem fun {a b} ha hb hab => ?_
    rw [dn a (r a ha).1 (r a ha).2, dn b (r b hb).1 (r b hb).2]; omega
  · rintro ⟨m0, e⟩
    have pos : ∀ c ∈ cs, 97 ≤ c ∧ c ≤ 122 ∧ placeZ c = (c : Int) - 97 := fun c hc => up c (Int.le_trans m0 (hmin _ (List.mem_map_of_mem hc)))
    refine ⟨?_, fun c hc => ⟨(pos c hc).1, (pos c hc).2.1⟩⟩
    rw [← e, List.pairwise_map] at h1
    refine h1.imp_of_mem fun {a b} ha hb hab => ?_
    rw [(pos a ha).2.2, (pos b hb).2.2] at hab; omega
theorem place_bad {cs : List Nat} {M : Int} (hM : M ∈ cs.map placeZ) (h : ¬ 0 ≤ M) : goL none cs = false := by
  refine Bool.eq_false_iff.mpr fun z => h ?_
  obtain ⟨c, hc, rfl⟩ := List.mem_map.mp hM
  have q := (goL_iff.mp z).2 c hc
  unfold placeZ
  rw [if_pos q]; omega
theorem saD_txt (rs : List (List Wd)) : ∀ d ∈ rs.map saD, ∀ es, d = .tuple es → ∀ s, PyData.str s ∈ es → s.length ≤ 16777216 := fun d hd es e s hs => by
  obtain ⟨r, _, rfl⟩ := List.mem_map.mp hd
  cases e
  obtain ⟨w, _, e⟩ := List.mem_map.mp hs
  cases e
  cases w
  case «let» c => exact (by decide : (1 : Nat) ≤ 16777216)
  all_goals decide
theorem says_all {ls : List Nat} {rs : List (List Wd)} (g : ∀ r ∈ rs, Good ls r ∧ r.length ≤ 40) : (rs.map saD).all (sayB ls) = true := by
  rw [List.all_map, List.all_eq_true]
  exact fun r hr => sayB_good (g r hr).1 (g r hr).2
theorem saDs_inj {as bs : List (List Wd)} (h : as.map saD = bs.map saD) : as = bs := by
  have := eqv_sas as bs
  rw [h, eqv_sas] at this
  simpa using this.symm
theorem idx_back : ∀ n ∈ List.range 7, PySem.Builtin.Str.strSliceIndices none none (-1) n = (List.range n).reverse := by decide +kernel
theorem revS_S {ls : List Nat} (h : ls.length ≤ 6) : revS (SX.S ls) = SX.S ls.reverse := by
  have e : slicePicked (SX.S ls) none none (some (-1, 0)) = (List.range ls.length).reverse := by
    show PySem.Builtin.Str.strSliceIndices none none (-1) (SX.S ls).length = _
    rw [SX.S_len]
    exact idx_back _ (List.mem_range.mpr (by omega))
  unfold revS
  rw [e]
  match ls, h with
  | [], _ => rfl
  | [a], _ => rfl
  | [a, b], _ => rfl
  | [a, b, c], _ => rfl
  | [a, b, c, d], _ => rfl
  | [a, b, c, d, e], _ => rfl
  | [a, b, c, d, e, f], _ => rfl
  | _ :: _ :: _ :: _ :: _ :: _ :: _ :: _, h => simp at h
def Tx (n : Nat) (s : Str) : Prop := s.cps.size ≤ n ∧ ∀ c ∈ s.cps.toList, c < 1114112
theorem tx_S {n : Nat} {ls : List Nat} (h : ∀ c ∈ ls, c < 1114112) (l : ls.length ≤ n) : Tx n (SX.S ls) := ⟨by simpa [SX.S] using l, fun c hc => h c (by simpa [SX.S] using hc)⟩
theorem tx_app {n m : Nat} {s t : Str} (h : Tx n s) (k : Tx m t) : Tx (n + m) (s ++ t) := by
  have e : (s ++ t).cps = s.cps ++ t.cps := rfl
  refine ⟨by rw [e, Array.size_append]; have := h.1; have := k.1; omega, fun c hc => ?_⟩
  rw [e, Array.toList_append] at hc
  rcases List.mem_append.mp hc with q | q
  · exact h.2 c q
  · exact k.2 c q
theorem tx_cut {n : Nat} {ls : List Nat} (h : ∀ c ∈ ls, c < 1114112) (l : ls.length ≤ n) (lo hi : Option Int) : Tx n (cutS (SX.S ls) lo hi) := by
  rw [cutS_S]
  exact tx_S (fun c hc => h c (cutL_in hc)) (Nat.le_trans (cutL_le _ _ _) l)
theorem Tx.p {n m z : Nat} {s : Str} (h : Tx n s) (l : n ≤ 1000) : Pln m n z (.str s) := pln_str h.2 h.1 l
theorem pls_signs {m z : Nat} {ls : List Nat} (h : ∀ c ∈ ls, c < 1114112) (l : ls.length ≤ 6) : Pls m 12 z (signs (SX.S ls)) := by
  have e : signs (SX.S ls) = ls.map fun c => PyData.str (SX.S [c]) := by
    show (SX.S ls).cps.toList.map _ = _
    rw [show (SX.S ls).cps.toList = ls by simp [SX.S]]
  rw [e]
  exact pls_map (b := 1) (m := 6) (fun c hc => pln_S (fun x hx => by rw [List.mem_singleton.mp hx]; exact h c hc) (Nat.le_refl 1) (by decide)) l

def sumN : Nat → (Nat → Rat) → Rat
  | 0, _ => 0
  | n + 1, f => sumN n f + f n
theorem sumN_congr {f g : Nat → Rat} : ∀ {n : Nat}, (∀ k, k < n → f k = g k) → sumN n f = sumN n g
  | 0, _ => rfl
  | n + 1, h => by
    show sumN n f + f n = sumN n g + g n
    rw [sumN_congr fun k hk => h k (by omega), h n (by omega)]
theorem sumN_add (f g : Nat → Rat) : ∀ n, sumN n (fun k => f k + g k) = sumN n f + sumN n g
  | 0 => by show (0 : Rat) = 0 + 0; grind
  | n + 1 => by
    show sumN n (fun k => f k + g k) + (f n + g n) = (sumN n f + f n) + (sumN n g + g n)
    rw [sumN_add f g n]; grind
theorem sumN_mul (c : Rat) (f : Nat → Rat) : ∀ n, sumN n (fun k => c * f k) = c * sumN n f
  | 0 => by simp [sumN]
  | n + 1 => by
    show sumN n (fun k => c * f k) + c * f n = c * (sumN n f + f n)
    rw [sumN_mul c f n]; grind
theorem sumN_zero {f : Nat → Rat} {n : Nat} (h : ∀ k, k < n → f k = 0) : sumN n f = 0 := by
  induction n with
  | zero => rfl
  | succ n ih =>
    show sumN n f + f n = 0
    rw [ih fun k hk => h k (by omega), h n (by omega)]; grind
theorem sumN_nonneg {f : Nat → Rat} : ∀ {n : Nat}, (∀ k, k < n → 0 ≤ f k) → 0 ≤ sumN n f
  | 0, _ => by show (0 : Rat) ≤ 0; grind
  | n + 1, h => by
    have h1 := sumN_nonneg (n := n) fun k hk => h k (by omega)
    have h2 := h n (by omega)
    show 0 ≤ sumN n f + f n
    grind
theorem sumN_out {f : Nat → Rat} {r : Nat} : ∀ {n : Nat}, r < n → sumN n f = sumN n (fun k => if k = r then 0 else f k) + f r
  | 0, h => by omega
  | n + 1, h => by
    show sumN n f + f n = (sumN n (fun k => if k = r then 0 else f k) + (if n = r then 0 else f n)) + f r
    by_cases e : n = r
    · subst e
      rw [if_pos rfl, sumN_congr (f := fun k => if k = n then 0 else f k) (g := f) fun k hk => if_neg (by omega)]
      grind
    · rw [if_neg e, sumN_out (n := n) (r := r) (by omega)]
      grind
theorem sumN_one {f : Nat → Rat} {r n : Nat} (h : r < n) (z : ∀ k, k < n → k ≠ r → f k = 0) : sumN n f = f r := by
  rw [sumN_out h, sumN_zero]
  · grind
  · intro k hk
    by_cases e : k = r
    · rw [if_pos e]
    · rw [if_neg e]; exact z k hk e
theorem sumN_swap (f : Nat → Nat → Rat) (n : Nat) : ∀ m, sumN m (fun i => sumN n (fun j => f i j)) = sumN n (fun j => sumN m (fun i => f i j))
  | 0 => by
    show (0 : Rat) = _
    rw [sumN_zero (f := fun j => sumN 0 fun i => f i j)]
    intro k _; rfl
  | m + 1 => by
    show sumN m (fun i => sumN n (fun j => f i j)) + sumN n (fun j => f m j) = sumN n (fun j => sumN m (fun i => f i j) + f m j)
    rw [sumN_swap f n m, sumN_add]
theorem sumN_pos {f : Nat → Rat} : ∀ {n : Nat}, 0 < sumN n f → ∃ k, k < n ∧ 0 < f k
  | 0, h => by
    have h : (0 : Rat) < 0 := h
    grind
  | n + 1, h => by
    have h : 0 < sumN n f + f n := h
    by_cases z : 0 < f n
    · exact ⟨n, by omega, z⟩
    · obtain ⟨k, h1, h2⟩ := sumN_pos (f := f) (n := n) (by grind)
      exact ⟨k, by omega, h2⟩
structure Tab where
  T : Nat → Nat → Rat
  z : Nat → Rat
  own : Nat → Nat
structure Dims where
  m : Nat
  N : Nat
  A : Nat → Nat → Rat
  c : Nat → Rat
  u : Nat → Nat
structure Good0 (D : Dims) (S : Tab) : Prop where
  lt : ∀ i, i < D.m → S.own i < D.N
  id : ∀ i j, i < D.m → j < D.m → S.T i (S.own j) = if i = j then 1 else 0
  z0 : ∀ i, i < D.m → S.z (S.own i) = 0
  col : ∀ k j, k < D.m → j ≤ D.N → D.A k j = sumN D.m fun i => D.A k (S.own i) * S.T i j
  rows : ∃ R : Nat → Nat → Rat, ∀ i j, i < D.m → j ≤ D.N → S.T i j = sumN D.m fun k => R i k * D.A k j
  row : ∃ y : Nat → Rat, ∀ j, j ≤ D.N → S.z j = D.c j + sumN D.m fun k => y k * D.A k j
  pos : ∀ i, i < D.m → 0 ≤ S.T i D.N
structure Enters (D : Dims) (S : Tab) (s : Nat) : Prop where
  lt : s < D.N
  neg : S.z s < 0
  first : ∀ j, j < s → 0 ≤ S.z j
structure Leaves (D : Dims) (S : Tab) (s r : Nat) : Prop where
  lt : r < D.m
  pos : 0 < S.T r s
  least : ∀ i, i < D.m → 0 < S.T i s → S.T r D.N * S.T i s ≤ S.T i D.N * S.T r s
  tie : ∀ i, i < D.m → 0 < S.T i s → S.T r D.N * S.T i s = S.T i D.N * S.T r s → S.own r ≤ S.own i
def Tab.step (S : Tab) (s r : Nat) : Tab where
  T := fun i j => if i = r then S.T r j / S.T r s else S.T i j - S.T i s * (S.T r j / S.T r s)
  z := fun j => S.z j - S.z s * (S.T r j / S.T r s)
  own := fun i => if i = r then s else S.own i
theorem div_self' {a : Rat} (h : a ≠ 0) : a / a = 1 := by rw [Rat.div_def]; exact Rat.mul_inv_cancel a h
theorem mul_div' {a b : Rat} (h : a ≠ 0) : a * (b / a) = b := by
  rw [Rat.div_def, Rat.mul_comm b, ← Rat.mul_assoc, Rat.mul_inv_cancel a h, Rat.one_mul]
theorem zero_div' (a : Rat) : 0 / a = 0 := by rw [Rat.div_def, Rat.zero_mul]
theorem div_nonneg' {a b : Rat} (h : 0 ≤ a) (h' : 0 < b) : 0 ≤ a / b := by
  rw [Rat.div_def]; exact Rat.mul_nonneg h (Rat.le_of_lt (Rat.inv_pos.mpr h'))
theorem Enters.out {D : Dims} {S : Tab} {s : Nat} (g : Good0 D S) (e : Enters D S s) : ∀ i, i < D.m → S.own i ≠ s := fun i hi h => by
  have := g.z0 i hi
  rw [h] at this
  have := e.neg
  grind
theorem step_good {D : Dims} {S : Tab} {s r : Nat} (g : Good0 D S) (e : Enters D S s) (l : Leaves D S s r) : Good0 D (S.step s r) := by
  have p0 : S.T r s ≠ 0 := by have := l.pos; grind
  have out := e.out g
  refine ⟨fun i hi => ?_, fun i j hi hj => ?_, fun i hi => ?_, fun k j hk hj => ?_, ?_, ?_, fun i hi => ?_⟩
  · show (if i = r then s else S.own i) < D.N
    split
    · exact e.lt
    · exact g.lt i hi
  · show (if i = r then S.T r (if j = r then s else S.own j) / S.T r s else S.T i (if j = r then s else S.own j) - S.T i s * (S.T r (if j = r then s else S.own j) / S.T r s)) = if i = j then 1 else 0
    by_cases hj' : j = r
    · rw [if_pos hj']
      by_cases hi' : i = r
      · rw [if_pos hi', hi', hj', if_pos rfl]; exact div_self' p0
      · rw [if_neg hi', hj', if_neg hi', div_self' p0]; grind
    · rw [if_neg hj', g.id r j l.lt hj, if_neg (fun z => hj' z.symm : ¬ r = j), zero_div']
      by_cases hi' : i = r
      · rw [if_pos hi', hi', if_neg fun z => hj' z.symm]
      · rw [if_neg hi', g.id i j hi hj]; grind
  · show S.z (if i = r then s else S.own i) - S.z s * (S.T r (if i = r then s else S.own i) / S.T r s) = 0
    by_cases hi' : i = r
    · rw [if_pos hi', div_self' p0]; grind
    · rw [if_neg hi', g.z0 i hi, g.id r i l.lt hi, if_neg fun z => hi' z.symm, zero_div']; grind
  · rw [g.col k j hk hj, sumN_out l.lt]
    conv => rhs; rw [sumN_out l.lt]
    have e1 : D.A k s = sumN D.m (fun i => if i = r then 0 else D.A k (S.own i) * S.T i s) + D.A k (S.own r) * S.T r s := by
      rw [g.col k s hk (Nat.le_of_lt e.lt), sumN_out l.lt]
    have e2 : sumN D.m (fun i => if i = r then 0 else D.A k ((S.step s r).own i) * (S.step s r).T i j) = sumN D.m (fun i => (if i = r then 0 else D.A k (S.own i) * S.T i j) + (-(S.T r j / S.T r s)) * (if i = r then 0 else D.A k (S.own i) * S.T i s)) := by
      refine sumN_congr fun i hi => ?_
      by_cases hi' : i = r
      · rw [if_pos hi', if_pos hi', if_pos hi']; grind
      · rw [if_neg hi', if_neg hi', if_neg hi']
        show D.A k (if i = r then s else S.own i) * (if i = r then _ else S.T i j - S.T i s * (S.T r j / S.T r s)) = _
        rw [if_neg hi', if_neg hi']; grind
    rw [e2, sumN_add, sumN_mul]
    have e3 : (S.step s r).own r = s := if_pos rfl
    have e4 : (S.step s r).T r j = S.T r j / S.T r s := if_pos rfl
    rw [e3, e4]
    generalize sumN D.m (fun i => if i = r then 0 else D.A k (S.own i) * S.T i j) = X
    generalize hY : sumN D.m (fun i => if i = r then 0 else D.A k (S.own i) * S.T i s) = Y at e1
    have e5 : S.T r s * (S.T r j / S.T r s) = S.T r j := mul_div' p0
    generalize S.T r j / S.T r s = q at e5 ⊢
    rw [e1, ← e5]
    grind
  · obtain ⟨R, hR⟩ := g.rows
    refine ⟨fun i k => if i = r then R r k / S.T r s else R i k - S.T i s * (R r k / S.T r s), fun i j hi hj => ?_⟩
    show (if i = r then S.T r j / S.T r s else S.T i j - S.T i s * (S.T r j / S.T r s)) = _
    by_cases hi' : i = r
    · rw [if_pos hi', hR r j l.lt hj]
      rw [sumN_congr (f := fun k => (if i = r then _ else _) * _) (g := fun k => (S.T r s)⁻¹ * (R r k * D.A k j)) fun k _ => by rw [if_pos hi', Rat.div_def]; grind]
      rw [sumN_mul, Rat.div_def]; grind
    · rw [if_neg hi', hR i j hi hj, hR r j l.lt hj]
      rw [sumN_congr (f := fun k => (if i = r then _ else _) * _) (g := fun k => R i k * D.A k j + (-(S.T i s * (S.T r s)⁻¹)) * (R r k * D.A k j)) fun k _ => by rw [if_neg hi', Rat.div_def]; grind]
      rw [sumN_add, sumN_mul, Rat.div_def]; grind
  · obtain ⟨y, hy⟩ := g.row
    obtain ⟨R, hR⟩ := g.rows
    refine ⟨fun k => y k - (S.z s / S.T r s) * R r k, fun j hj => ?_⟩
    show S.z j - S.z s * (S.T r j / S.T r s) = _
    have e1 : sumN D.m (fun k => (y k - S.z s / S.T r s * R r k) * D.A k j) = sumN D.m (fun k => y k * D.A k j + (-(S.z s / S.T r s)) * (R r k * D.A k j)) := sumN_congr fun k _ => by grind
    rw [e1, sumN_add, sumN_mul, hy j hj, ← hR r j l.lt hj, Rat.div_def, Rat.div_def]
    grind
  · show 0 ≤ (if i = r then S.T r D.N / S.T r s else S.T i D.N - S.T i s * (S.T r D.N / S.T r s))
    split
    · exact div_nonneg' (g.pos r l.lt) l.pos
    · by_cases z : 0 < S.T i s
      · have h1 := l.least i hi z
        have h2 := mul_div' (b := S.T r D.N) p0
        have h3 := div_nonneg' (g.pos r l.lt) l.pos
        have lp := l.pos
        generalize S.T r D.N / S.T r s = q at h2 h3 ⊢
        rw [← h2] at h1
        have h4 : S.T r s * (S.T i s * q) ≤ S.T r s * S.T i D.N := by grind
        have := Rat.le_of_mul_le_mul_left h4 lp
        grind
      · have h1 := g.pos i hi
        have h3 := div_nonneg' (g.pos r l.lt) l.pos
        have h4 : 0 ≤ (- S.T i s) * (S.T r D.N / S.T r s) := Rat.mul_nonneg (by grind) h3
        grind
def Tab.at (D : Dims) (S : Tab) (j : Nat) : Rat := sumN D.m fun i => if S.own i = j then S.T i D.N else 0
theorem Good0.inj {D : Dims} {S : Tab} (g : Good0 D S) {i j : Nat} (hi : i < D.m) (hj : j < D.m) (h : S.own i = S.own j) : i = j := by
  have h1 := g.id i i hi hi
  rw [if_pos rfl, h, g.id i j hi hj] at h1
  by_cases e : i = j
  · exact e
  · rw [if_neg e] at h1; grind
theorem at_own {D : Dims} {S : Tab} (g : Good0 D S) {i : Nat} (hi : i < D.m) : S.at D (S.own i) = S.T i D.N := by
  unfold Tab.at
  rw [sumN_one hi, if_pos rfl]
  intro k hk ne
  rw [if_neg]
  intro h
  exact ne (g.inj hk hi h)
theorem at_out {D : Dims} {S : Tab} {j : Nat} (h : ∀ i, i < D.m → S.own i ≠ j) : S.at D j = 0 := sumN_zero fun i hi => if_neg (h i hi)
theorem cost_eq {D : Dims} {S U : Tab} (g : Good0 D S) (g' : Good0 D U) {j : Nat} (hj : j ≤ D.N) : S.z j - U.z j = - sumN D.m fun i => U.z (S.own i) * S.T i j := by
  obtain ⟨y, hy⟩ := g.row
  obtain ⟨w, hw⟩ := g'.row
  have lin : ∀ j, j ≤ D.N → S.z j - U.z j = sumN D.m fun k => (y k - w k) * D.A k j := fun j hj => by
    rw [hy j hj, hw j hj, sumN_congr (f := fun k => (y k - w k) * D.A k j) (g := fun k => y k * D.A k j + (-1) * (w k * D.A k j)) fun k _ => by grind, sumN_add, sumN_mul]
    grind
  rw [lin j hj]
  rw [sumN_congr (g := fun k => sumN D.m fun i => ((y k - w k) * D.A k (S.own i)) * S.T i j) fun k hk => by
    rw [g.col k j hk hj, ← sumN_mul]; exact sumN_congr fun i _ => by grind]
  rw [sumN_swap]
  rw [sumN_congr (g := fun i => (-1) * (U.z (S.own i) * S.T i j)) fun i hi => by
    rw [sumN_congr (g := fun k => S.T i j * ((y k - w k) * D.A k (S.own i))) fun k _ => by grind, sumN_mul, ← lin _ (Nat.le_of_lt (g.lt i hi)), g.z0 i hi]; grind]
  rw [sumN_mul]; grind
theorem bland {D : Dims} {S U : Tab} {s r t : Nat} (g : Good0 D S) (g' : Good0 D U) (e : Enters D S s) (l : Leaves D S s r) (ht : S.own r = t) (e' : Enters D U t) (hst : s < t)
    (same : ∀ j, j < D.N → S.at D j = U.at D j) (deg : S.T r D.N = 0) (up : ∀ j, t < j → j < D.N → (∃ i, i < D.m ∧ S.own i = j) → ∃ i, i < D.m ∧ U.own i = j) : False := by
  have h1 := cost_eq g g' (Nat.le_of_lt e.lt)
  have h2 := e.neg
  have h3 := e'.first s hst
  obtain ⟨i, hi, hp⟩ := sumN_pos (f := fun i => U.z (S.own i) * S.T i s) (n := D.m) (by grind)
  have zi : U.z (S.own i) ≠ 0 := fun z => by rw [z] at hp; grind
  have nb : ∀ i', i' < D.m → U.own i' ≠ S.own i := fun i' hi' z => zi (by rw [← z]; exact g'.z0 i' hi')
  rcases Nat.lt_trichotomy (S.own i) t with z | z | z
  · have q := e'.first _ z
    have T0 : 0 < S.T i s := by
      by_cases c : 0 < S.T i s
      · exact c
      · have : 0 ≤ U.z (S.own i) * (- S.T i s) := Rat.mul_nonneg q (by grind)
        grind
    have x0 : S.T i D.N = 0 := by
      rw [← at_own g hi, same _ (g.lt i hi)]
      exact at_out nb
    have := l.tie i hi T0 (by rw [x0, deg]; grind)
    omega
  · have : i = r := g.inj hi l.lt (z.trans ht.symm)
    subst this
    rw [z] at hp
    have a := e'.neg
    have b := l.pos
    have : 0 ≤ (- U.z t) * S.T i s := Rat.mul_nonneg (by grind) (by grind)
    grind
  · obtain ⟨i', hi', h⟩ := up _ z (g.lt i hi) ⟨i, hi, rfl⟩
    exact nb i' hi' h
theorem step_at {D : Dims} {S : Tab} {s r : Nat} (g : Good0 D S) (e : Enters D S s) (l : Leaves D S s r) (deg : S.T r D.N = 0) (j : Nat) : (S.step s r).at D j = S.at D j := by
  have g2 := step_good g e l
  have own2 : ∀ i, (S.step s r).own i = if i = r then s else S.own i := fun i => rfl
  have T2 : ∀ i, (S.step s r).T i D.N = if i = r then 0 else S.T i D.N := fun i => by
    show (if i = r then S.T r D.N / S.T r s else S.T i D.N - S.T i s * (S.T r D.N / S.T r s)) = _
    rw [deg, zero_div']
    split
    · rfl
    · grind
  unfold Tab.at
  refine sumN_congr fun i hi => ?_
  rw [own2, T2]
  by_cases h : i = r
  · rw [if_pos h, if_pos h, h, deg]; simp
  · rw [if_neg h, if_neg h]
theorem bounded {D : Dims} {S : Tab} {s : Nat} (g : Good0 D S) (e : Enters D S s) (y : Nat → Rat) (hy : ∀ j, j < D.N → 0 ≤ D.c j + sumN D.m fun k => y k * D.A k j) : ∃ i, i < D.m ∧ 0 < S.T i s := by
  by_cases h : ∃ i, i < D.m ∧ 0 < S.T i s
  · exact h
  exfalso
  have neg : ∀ i, i < D.m → S.T i s ≤ 0 := fun i hi => by
    by_cases z : 0 < S.T i s
    · exact absurd ⟨i, hi, z⟩ h
    · grind
  obtain ⟨v, hv⟩ := g.row
  have lin : ∀ j, j ≤ D.N → D.c j + (sumN D.m fun k => y k * D.A k j) = S.z j + sumN D.m fun k => (y k - v k) * D.A k j := fun j hj => by
    rw [hv j hj, sumN_congr (f := fun k => (y k - v k) * D.A k j) (g := fun k => y k * D.A k j + (-1) * (v k * D.A k j)) fun k _ => by grind, sumN_add, sumN_mul]
    grind
  have e1 : (sumN D.m fun k => (y k - v k) * D.A k s) = sumN D.m fun i => S.T i s * (D.c (S.own i) + sumN D.m fun k => y k * D.A k (S.own i)) := by
    rw [sumN_congr (g := fun k => sumN D.m fun i => ((y k - v k) * D.A k (S.own i)) * S.T i s) fun k hk => by
      rw [g.col k s hk (Nat.le_of_lt e.lt), ← sumN_mul]; exact sumN_congr fun i _ => by grind]
    rw [sumN_swap]
    refine sumN_congr fun i hi => ?_
    rw [lin _ (Nat.le_of_lt (g.lt i hi)), g.z0 i hi, sumN_congr (g := fun k => S.T i s * ((y k - v k) * D.A k (S.own i))) fun k _ => by grind, sumN_mul]; grind
  have e2 := lin s (Nat.le_of_lt e.lt)
  have e3 := hy s e.lt
  have e4 : 0 ≤ sumN D.m fun i => (- S.T i s) * (D.c (S.own i) + sumN D.m fun k => y k * D.A k (S.own i)) := sumN_nonneg fun i hi => Rat.mul_nonneg (by have := neg i hi; grind) (hy _ (g.lt i hi))
  rw [sumN_congr (g := fun i => (-1) * (S.T i s * (D.c (S.own i) + sumN D.m fun k => y k * D.A k (S.own i)))) fun i _ => by grind, sumN_mul] at e4
  have := e.neg
  grind

theorem again {P : Nat → Prop} (f : Nat → Nat) : ∀ M : Nat, (∀ k, P k → f k < M) → (∀ n, ∃ k, n ≤ k ∧ P k) → ∃ c, ∀ n, ∃ k, n ≤ k ∧ P k ∧ f k = c
  | 0, h, hi => by
    obtain ⟨k, _, hk⟩ := hi 0
    exact absurd (h k hk) (Nat.not_lt_zero _)
  | M + 1, h, hi => by
    by_cases c : ∀ n, ∃ k, n ≤ k ∧ P k ∧ f k = M
    · exact ⟨M, c⟩
    · have : ∃ n0, ∀ k, n0 ≤ k → P k → f k ≠ M := by
        refine Classical.byContradiction fun z => c fun n => ?_
        refine Classical.byContradiction fun y => z ⟨n, fun k hk hp e => y ⟨k, hk, hp, e⟩⟩
      obtain ⟨n0, h0⟩ := this
      obtain ⟨c, hc⟩ := again (P := fun k => P k ∧ n0 ≤ k) f M (fun k hk => by
        have := h k hk.1
        have := h0 k hk.2 hk.1
        omega) (fun n => by
        obtain ⟨k, h1, h2⟩ := hi (n + n0)
        exact ⟨k, by omega, h2, by omega⟩)
      exact ⟨c, fun n => by obtain ⟨k, h1, h2, h3⟩ := hc n; exact ⟨k, h1, h2.1, h3⟩⟩
theorem agains (o : Nat → Nat → Nat) (M : Nat) : ∀ m : Nat, (∀ k i, i < m → o k i < M) → ∃ c : Nat → Nat, ∀ n, ∃ k, n ≤ k ∧ ∀ i, i < m → o k i = c i
  | 0, _ => ⟨fun _ => 0, fun n => ⟨n, Nat.le_refl _, fun i h => absurd h (Nat.not_lt_zero _)⟩⟩
  | m + 1, h => by
    obtain ⟨c, hc⟩ := agains o M m fun k i hi => h k i (by omega)
    obtain ⟨d, hd⟩ := again (P := fun k => ∀ i, i < m → o k i = c i) (fun k => o k m) M (fun k _ => h k m (by omega)) hc
    refine ⟨fun i => if i = m then d else c i, fun n => ?_⟩
    obtain ⟨k, h1, h2, h3⟩ := hd n
    refine ⟨k, h1, fun i hi => ?_⟩
    dsimp only
    by_cases e : i = m
    · rw [if_pos e, e]; exact h3
    · rw [if_neg e]; exact h2 i (by omega)
theorem same_z {D : Dims} {S U : Tab} (g : Good0 D S) (g' : Good0 D U) (h : ∀ i, i < D.m → S.own i = U.own i) {j : Nat} (hj : j ≤ D.N) : S.z j = U.z j := by
  have := cost_eq g g' hj
  rw [sumN_zero fun i hi => by rw [h i hi, g'.z0 i hi]; grind] at this
  grind
def InB (D : Dims) (S : Tab) (j : Nat) : Prop := ∃ i, i < D.m ∧ S.own i = j
structure Run (D : Dims) (S : Nat → Tab) (s r : Nat → Nat) : Prop where
  good : ∀ k, Good0 D (S k)
  ent : ∀ k, Enters D (S k) (s k)
  lea : ∀ k, Leaves D (S k) (s k) (r k)
  nxt : ∀ k, S (k + 1) = (S k).step (s k) (r k)
section
variable {D : Dims} {S : Nat → Tab} {s r : Nat → Nat}
theorem Run.own_nx (R : Run D S s r) (k i : Nat) : (S (k + 1)).own i = if i = r k then s k else (S k).own i := by rw [R.nxt k]; rfl
theorem Run.comes (R : Run D S s r) {j : Nat} : ∀ {d a : Nat}, ¬ InB D (S a) j → InB D (S (a + d)) j → ∃ k, a ≤ k ∧ k < a + d ∧ s k = j
  | 0, a, h, h' => absurd h' h
  | d + 1, a, h, h' => by
    by_cases c : InB D (S (a + d)) j
    · obtain ⟨k, h1, h2, h3⟩ := R.comes h c
      exact ⟨k, h1, by omega, h3⟩
    · obtain ⟨i, hi, e⟩ := h'
      rw [show a + (d + 1) = (a + d) + 1 from rfl, R.own_nx] at e
      split at e
      · exact ⟨a + d, by omega, by omega, e⟩
      · exact absurd ⟨i, hi, e⟩ c
theorem Run.goes (R : Run D S s r) {j : Nat} : ∀ {d a : Nat}, InB D (S a) j → ¬ InB D (S (a + d)) j → ∃ k, a ≤ k ∧ k < a + d ∧ (S k).own (r k) = j
  | 0, a, h, h' => absurd h h'
  | d + 1, a, h, h' => by
    by_cases c : InB D (S (a + d)) j
    · obtain ⟨i, hi, e⟩ := c
      by_cases q : i = r (a + d)
      · exact ⟨a + d, by omega, by omega, by rw [← q]; exact e⟩
      · exact absurd ⟨i, hi, by rw [show a + (d + 1) = (a + d) + 1 from rfl, R.own_nx, if_neg q]; exact e⟩ h'
    · obtain ⟨k, h1, h2, h3⟩ := R.goes h c
      exact ⟨k, h1, by omega, h3⟩
theorem Run.up (R : Run D S s r) (k : Nat) : (S k).z D.N ≤ (S (k + 1)).z D.N ∧ ((S k).z D.N = (S (k + 1)).z D.N → (S k).T (r k) D.N = 0) := by
  have h1 := (R.ent k).neg
  have h2 := (R.lea k).pos
  have h3 := (R.good k).pos _ (R.lea k).lt
  have h4 := div_nonneg' h3 h2
  have e : (S (k + 1)).z D.N = (S k).z D.N - (S k).z (s k) * ((S k).T (r k) D.N / (S k).T (r k) (s k)) := by rw [R.nxt k]; rfl
  have h5 : 0 ≤ (- (S k).z (s k)) * ((S k).T (r k) D.N / (S k).T (r k) (s k)) := Rat.mul_nonneg (by grind) h4
  refine ⟨by rw [e]; grind, fun q => ?_⟩
  rw [e] at q
  have h6 : (S k).z (s k) * ((S k).T (r k) D.N / (S k).T (r k) (s k)) = 0 := by grind
  rcases Rat.mul_eq_zero.mp h6 with z | z
  · grind
  · have := mul_div' (b := (S k).T (r k) D.N) (show (S k).T (r k) (s k) ≠ 0 by grind)
    rw [z] at this
    grind
theorem Run.up_to (R : Run D S s r) (a : Nat) : ∀ d, (S a).z D.N ≤ (S (a + d)).z D.N
  | 0 => Rat.le_refl
  | d + 1 => Rat.le_trans (R.up_to a d) (R.up (a + d)).1
theorem Run.flat (R : Run D S s r) {a b : Nat} (hz : (S a).z D.N = (S b).z D.N) {k : Nat} (h1 : a ≤ k) (h2 : k < b) : (S k).T (r k) D.N = 0 := by
  refine (R.up k).2 ?_
  have u1 := R.up_to a (k - a)
  have u2 := R.up_to (k + 1) (b - (k + 1))
  rw [show a + (k - a) = k by omega] at u1
  rw [show k + 1 + (b - (k + 1)) = b by omega] at u2
  have u3 := (R.up k).1
  grind
theorem Run.still (R : Run D S s r) {a b : Nat} (hz : (S a).z D.N = (S b).z D.N) {j : Nat} : ∀ d, a + d ≤ b → (S (a + d)).at D j = (S a).at D j
  | 0, _ => rfl
  | d + 1, h => by
    rw [show a + (d + 1) = (a + d) + 1 from rfl, R.nxt (a + d), step_at (R.good _) (R.ent _) (R.lea _) (R.flat hz (by omega) (by omega)), R.still hz d (by omega)]
theorem top_of (s : Nat → Nat) (a : Nat) : ∀ d, 0 < d → ∃ q, a ≤ q ∧ q < a + d ∧ ∀ k, a ≤ k → k < a + d → s k ≤ s q
  | 0, h => absurd h (Nat.lt_irrefl _)
  | d + 1, _ => by
    by_cases z : d = 0
    · subst z
      exact ⟨a, Nat.le_refl _, by omega, fun k h1 h2 => by rw [show k = a by omega]; exact Nat.le_refl _⟩
    · obtain ⟨q, h1, h2, h3⟩ := top_of s a d (by omega)
      by_cases c : s q ≤ s (a + d)
      · exact ⟨a + d, by omega, by omega, fun k k1 k2 => by
          by_cases e : k = a + d
          · rw [e]; exact Nat.le_refl _
          · exact Nat.le_trans (h3 k k1 (by omega)) c⟩
      · exact ⟨q, h1, by omega, fun k k1 k2 => by
          by_cases e : k = a + d
          · rw [e]; omega
          · exact h3 k k1 (by omega)⟩
theorem Run.ends (R : Run D S s r) : False := by
  obtain ⟨c, hc⟩ := agains (fun k i => (S k).own i) D.N D.m fun k i hi => (R.good k).lt i hi
  obtain ⟨a, _, ha⟩ := hc 0
  obtain ⟨b, hab, hb⟩ := hc (a + 1)
  obtain ⟨d, rfl⟩ := Nat.exists_eq_add_of_le (show a ≤ b by omega)
  have hd : 0 < d := by omega
  have ho : ∀ i, i < D.m → (S a).own i = (S (a + d)).own i := fun i hi => by rw [ha i hi, hb i hi]
  have hB : ∀ j, InB D (S a) j ↔ InB D (S (a + d)) j := fun j => ⟨fun ⟨i, h1, h2⟩ => ⟨i, h1, by rw [← ho i h1]; exact h2⟩, fun ⟨i, h1, h2⟩ => ⟨i, h1, by rw [ho i h1]; exact h2⟩⟩
  have hz := same_z (R.good a) (R.good (a + d)) ho (Nat.le_refl D.N)
  obtain ⟨q, q1, q2, q3⟩ := top_of s a d hd
  have out : ¬ InB D (S q) (s q) := fun ⟨i, h1, h2⟩ => (R.ent q).out (R.good q) i h1 h2
  have inn : InB D (S (q + 1)) (s q) := ⟨r q, (R.lea q).lt, by rw [R.own_nx, if_pos rfl]⟩
  -- it goes somewhere, too
  obtain ⟨p, p1, p2, p3⟩ : ∃ p, a ≤ p ∧ p < a + d ∧ (S p).own (r p) = s q := by
    by_cases z : InB D (S a) (s q)
    · obtain ⟨p, h1, h2, h3⟩ := R.goes (d := q - a) z (by rw [show a + (q - a) = q by omega]; exact out)
      exact ⟨p, h1, by omega, h3⟩
    · obtain ⟨p, h1, h2, h3⟩ := R.goes (a := q + 1) (d := a + d - (q + 1)) inn (by rw [show q + 1 + (a + d - (q + 1)) = a + d by omega, ← hB]; exact z)
      exact ⟨p, by omega, by omega, h3⟩
  have ne : s p ≠ s q := fun e => (R.ent p).out (R.good p) (r p) (R.lea p).lt (by rw [p3, e])
  have lt : s p < s q := by have := q3 p p1 p2; omega
  refine bland (R.good p) (R.good q) (R.ent p) (R.lea p) p3 (R.ent q) lt (fun j _ => ?_) (R.flat hz p1 p2) (fun j hj hN hin => ?_)
  · have e1 := R.still hz (j := j) (p - a) (by omega)
    have e2 := R.still hz (j := j) (q - a) (by omega)
    rw [show a + (p - a) = p by omega] at e1
    rw [show a + (q - a) = q by omega] at e2
    rw [e1, e2]
  · refine Classical.byContradiction fun nin => ?_
    by_cases z : InB D (S a) j
    · obtain ⟨k, k1, k2, k3⟩ := R.comes (a := q) (d := a + d - q) nin (by rw [show q + (a + d - q) = a + d by omega, ← hB]; exact z)
      have := q3 k (by omega) (by omega)
      omega
    · obtain ⟨k, k1, k2, k3⟩ := R.comes (d := p - a) z (by rw [show a + (p - a) = p by omega]; exact hin)
      have := q3 k (by omega) (by omega)
      omega
end

theorem sumN_abs {B : Nat} : ∀ {m : Nat} {f : Nat → Int}, (∀ i, i < m → (f i).natAbs ≤ B) → ∃ c : Int, sumN m (fun i => ((f i : Int) : Rat)) = (c : Rat) ∧ c.natAbs ≤ m * B
  | 0, _, _ => ⟨0, rfl, Nat.zero_le _⟩
  | m + 1, f, h => by
    obtain ⟨c, h1, h2⟩ := sumN_abs (m := m) (f := f) fun i hi => h i (by omega)
    have h3 := h m (by omega)
    refine ⟨c + f m, ?_, ?_⟩
    · show sumN m (fun i => ((f i : Int) : Rat)) + ((f m : Int) : Rat) = _
      rw [h1, Rat.intCast_add]
    · rw [Nat.succ_mul]
      have := Int.natAbs_add_le c (f m)
      omega
def skp (i r : Nat) : Nat := if r < i then r else r + 1
def sgn (i : Nat) : Rat := if i % 2 = 0 then 1 else -1
def det : Nat → (Nat → Nat → Rat) → Rat
  | 0, _ => 1
  | n + 1, M => sumN (n + 1) fun i => sgn i * (M i 0 * det n fun r c => M (skp i r) (c + 1))
theorem sgn_succ (i : Nat) : sgn (i + 1) = - sgn i := by
  unfold sgn
  by_cases h : i % 2 = 0
  · rw [if_pos h, if_neg (by omega)]
  · rw [if_neg h, if_pos (by omega)]; grind
theorem det_congr : ∀ {n : Nat} {M N : Nat → Nat → Rat}, (∀ r c, r < n → c < n → M r c = N r c) → det n M = det n N
  | 0, _, _, _ => rfl
  | n + 1, M, N, h => by
    show sumN (n + 1) _ = sumN (n + 1) _
    refine sumN_congr fun i hi => ?_
    rw [h i 0 hi (by omega), det_congr (n := n) (M := fun r c => M (skp i r) (c + 1)) (N := fun r c => N (skp i r) (c + 1)) fun r c hr hc => h _ _ (by unfold skp; split <;> omega) (by omega)]
def rwM (k : Nat) (u : Nat → Rat) (M : Nat → Nat → Rat) : Nat → Nat → Rat := fun r => if r = k then u else M r
theorem rwM_at (k : Nat) (u : Nat → Rat) (M : Nat → Nat → Rat) : rwM k u M k = u := if_pos rfl
theorem rwM_ne {k r : Nat} (u : Nat → Rat) (M : Nat → Nat → Rat) (h : r ≠ k) : rwM k u M r = M r := if_neg h
theorem rwM_self (k : Nat) (M : Nat → Nat → Rat) : rwM k (M k) M = M := by
  funext r
  unfold rwM
  split
  · rename_i h; rw [h]
  · rfl
def dwn (i k : Nat) : Nat := if k < i then k else k - 1
theorem min_at (k : Nat) (u : Nat → Rat) (M : Nat → Nat → Rat) : (fun r c => rwM k u M (skp k r) (c + 1)) = fun r c => M (skp k r) (c + 1) := by
  funext r c
  rw [rwM_ne]
  unfold skp
  split <;> omega
theorem min_ne {k i : Nat} (u : Nat → Rat) (M : Nat → Nat → Rat) (h : i ≠ k) : (fun r c => rwM k u M (skp i r) (c + 1)) = rwM (dwn i k) (fun c => u (c + 1)) fun r c => M (skp i r) (c + 1) := by
  funext r c
  unfold rwM
  by_cases e : skp i r = k
  · rw [if_pos e, if_pos]
    unfold skp at e
    unfold dwn
    split at e <;> split <;> omega
  · rw [if_neg e, if_neg]
    intro e2
    apply e
    unfold dwn at e2
    unfold skp
    split at e2 <;> split <;> omega
theorem det_lin : ∀ {n k : Nat} (M : Nat → Nat → Rat) (u v : Nat → Rat) (a : Rat), k < n → det n (rwM k (fun c => a * u c + v c) M) = a * det n (rwM k u M) + det n (rwM k v M)
  | 0, _, _, _, _, _, h => absurd h (Nat.not_lt_zero _)
  | n + 1, k, M, u, v, a, h => by
    show sumN (n + 1) _ = a * sumN (n + 1) _ + sumN (n + 1) _
    rw [← sumN_mul, ← sumN_add]
    refine sumN_congr fun i hi => ?_
    by_cases e : i = k
    · subst e
      rw [min_at, min_at, min_at, rwM_at, rwM_at, rwM_at]; grind
    · rw [min_ne _ _ e, min_ne _ _ e, min_ne _ _ e, rwM_ne _ _ e, rwM_ne _ _ e, rwM_ne _ _ e]
      rw [det_lin (n := n) (k := dwn i k) (fun r c => M (skp i r) (c + 1)) (fun c => u (c + 1)) (fun c => v (c + 1)) a (by unfold dwn; split <;> omega)]
      grind
theorem sumN_two {f : Nat → Rat} {p n : Nat} (h : p + 1 < n) (h2 : f p + f (p + 1) = 0) (z : ∀ k, k < n → k ≠ p → k ≠ p + 1 → f k = 0) : sumN n f = 0 := by
  rw [sumN_out (show p < n by omega), sumN_one (r := p + 1) h]
  · rw [if_neg (by omega)]; grind
  · intro k hk ne
    by_cases e : k = p
    · rw [if_pos e]
    · rw [if_neg e]; exact z k hk e ne
theorem det_adj : ∀ {n p : Nat} {M : Nat → Nat → Rat}, p + 1 < n → M p = M (p + 1) → det n M = 0
  | 0, _, _, h, _ => absurd h (Nat.not_lt_zero _)
  | n + 1, p, M, h, e => by
    show sumN (n + 1) _ = 0
    refine sumN_two (p := p) h ?_ fun k hk h1 h2 => ?_
    · have em : (fun r c => M (skp p r) (c + 1)) = fun r c => M (skp (p + 1) r) (c + 1) := by
        funext r c
        by_cases q : r = p
        · subst q
          rw [show skp r r = r + 1 by unfold skp; rw [if_neg (Nat.lt_irrefl _)], show skp (r + 1) r = r by unfold skp; rw [if_pos (by omega)], e]
        · rw [show skp p r = skp (p + 1) r by unfold skp; split <;> split <;> omega]
      rw [em, sgn_succ, e]; grind
    · have : det n (fun r c => M (skp k r) (c + 1)) = 0 := by
        by_cases q : p + 1 < k
        · refine det_adj (p := p) (by omega) ?_
          show (fun c => M (skp k p) (c + 1)) = fun c => M (skp k (p + 1)) (c + 1)
          rw [show skp k p = p by unfold skp; rw [if_pos (by omega)], show skp k (p + 1) = p + 1 by unfold skp; rw [if_pos q], e]
        · refine det_adj (p := p - 1) (by omega) ?_
          show (fun c => M (skp k (p - 1)) (c + 1)) = fun c => M (skp k (p - 1 + 1)) (c + 1)
          rw [show skp k (p - 1) = p by unfold skp; rw [if_neg (by omega)]; omega, show skp k (p - 1 + 1) = p + 1 by unfold skp; rw [if_neg (by omega)]; omega, e]
      rw [this]; grind
theorem rwM_comm {k l : Nat} (h : k ≠ l) (u v : Nat → Rat) (M : Nat → Nat → Rat) : rwM k u (rwM l v M) = rwM l v (rwM k u M) := by
  funext r
  unfold rwM
  by_cases e : r = k
  · rw [if_pos e, if_neg (by omega), if_pos e]
  · rw [if_neg e, if_neg e]
theorem det_swap {n p : Nat} (M : Nat → Nat → Rat) (u v : Nat → Rat) (h : p + 1 < n) : det n (rwM p u (rwM (p + 1) v M)) = - det n (rwM p v (rwM (p + 1) u M)) := by
  have z : ∀ x, det n (rwM p x (rwM (p + 1) x M)) = 0 := fun x => det_adj h (by rw [rwM_at, rwM_ne _ _ (by omega), rwM_at])
  have l1 := det_lin (rwM (p + 1) (fun c => 1 * u c + v c) M) u v 1 (show p < n by omega)
  rw [z, rwM_comm (by omega), rwM_comm (k := p) (u := v) (by omega), det_lin _ u v 1 h, det_lin _ u v 1 h, rwM_comm (k := p + 1) (by omega), rwM_comm (k := p + 1) (by omega), rwM_comm (k := p + 1) (by omega), rwM_comm (k := p + 1) (by omega), z, z] at l1
  grind
theorem det_two : ∀ (d : Nat) {n p : Nat} {M : Nat → Nat → Rat}, p + d + 1 < n → M p = M (p + d + 1) → det n M = 0
  | 0, _, _, _, h, e => det_adj h e
  | d + 1, n, p, M, h, e => by
    have e1 : M = rwM (p + d + 1) (M (p + d + 1)) (rwM (p + d + 1 + 1) (M (p + d + 1 + 1)) M) := by
      rw [rwM_self (p + d + 1 + 1), rwM_self]
    rw [e1, det_swap (p := p + d + 1) _ _ _ h, det_two d (p := p) (by omega)]
    · grind
    · rw [rwM_ne _ _ (by omega), rwM_ne _ _ (by omega), rwM_at]
      exact e
theorem det_eq {n p q : Nat} {M : Nat → Nat → Rat} (hp : p < n) (hq : q < n) (h : p ≠ q) (e : M p = M q) : det n M = 0 := by
  rcases Nat.lt_or_ge p q with l | l
  · exact det_two (q - p - 1) (p := p) (by omega) (by rw [e]; congr 1; omega)
  · exact det_two (p - q - 1) (p := q) (by omega) (by rw [← e]; congr 1; omega)
theorem det_zero {n k : Nat} (M : Nat → Nat → Rat) (h : k < n) : det n (rwM k (fun _ => 0) M) = 0 := by
  have := det_lin M (fun _ => 0) (fun _ => 0) 1 h
  rw [show (fun c : Nat => (1 : Rat) * (fun _ => 0) c + (fun _ => (0 : Rat)) c) = fun _ => 0 from funext fun _ => by grind] at this
  grind
theorem det_sum {n k : Nat} (M : Nat → Nat → Rat) (f : Nat → Nat → Rat) (x : Nat → Rat) (h : k < n) : ∀ m, det n (rwM k (fun c => sumN m fun i => x i * f i c) M) = sumN m fun i => x i * det n (rwM k (f i) M)
  | 0 => det_zero M h
  | m + 1 => by
    show det n (rwM k (fun c => sumN m (fun i => x i * f i c) + x m * f m c) M) = sumN m (fun i => x i * det n (rwM k (f i) M)) + x m * det n (rwM k (f m) M)
    have e : (fun c => sumN m (fun i => x i * f i c) + x m * f m c) = fun c => x m * f m c + sumN m fun i => x i * f i c := funext fun _ => Rat.add_comm _ _
    rw [e, det_lin M (f m) (fun c => sumN m fun i => x i * f i c) (x m) h, det_sum M f x h m, Rat.add_comm]
theorem cramer {n k : Nat} (M : Nat → Nat → Rat) (x : Nat → Rat) (h : k < n) : det n (rwM k (fun c => sumN n fun i => x i * M i c) M) = x k * det n M := by
  rw [det_sum M M x h, sumN_one (r := k) h]
  · rw [rwM_self]
  · intro i hi ne
    rw [det_eq h hi (fun e => ne e.symm)]
    · grind
    · rw [rwM_at, rwM_ne _ _ ne]
theorem det_id : ∀ n, det n (fun r c => if r = c then 1 else 0) = 1
  | 0 => rfl
  | n + 1 => by
    show sumN (n + 1) _ = 1
    rw [sumN_one (r := 0) (by omega)]
    · dsimp only
      rw [if_pos rfl, det_congr (N := fun r c => if r = c then 1 else 0), det_id n]
      · unfold sgn; rw [if_pos rfl]; grind
      · intro r c _ _
        show (if skp 0 r = c + 1 then (1 : Rat) else 0) = _
        rw [show skp 0 r = r + 1 by unfold skp; rw [if_neg (by omega)]]
        by_cases e : r = c
        · rw [if_pos e, if_pos (by omega)]
        · rw [if_neg e, if_neg (by omega)]
    · intro k _ ne
      dsimp only
      rw [if_neg ne]; grind
def prodN : Nat → (Nat → Rat) → Rat
  | 0, _ => 1
  | n + 1, f => f 0 * prodN n fun k => f (k + 1)
theorem prodN_ne : ∀ {n : Nat} {f : Nat → Rat}, (∀ k, k < n → f k ≠ 0) → prodN n f ≠ 0
  | 0, _, _ => by show (1 : Rat) ≠ 0; decide
  | n + 1, f, h => fun z => by
    rcases Rat.mul_eq_zero.mp (show f 0 * prodN n (fun k => f (k + 1)) = 0 from z) with y | y
    · exact h 0 (by omega) y
    · exact prodN_ne (n := n) (fun k hk => h (k + 1) (by omega)) y
theorem det_cols : ∀ (n : Nat) (d : Nat → Rat) (M : Nat → Nat → Rat), det n (fun r c => d c * M r c) = prodN n d * det n M
  | 0, _, _ => by show (1 : Rat) = 1 * 1; grind
  | n + 1, d, M => by
    show sumN (n + 1) _ = d 0 * prodN n (fun k => d (k + 1)) * sumN (n + 1) _
    rw [← sumN_mul]
    refine sumN_congr fun i _ => ?_
    rw [det_cols n (fun k => d (k + 1)) fun r c => M (skp i r) (c + 1)]; grind
theorem fam_den {s : Nat} : ∀ (n : Nat) (f : Nat → Rat), (∀ i, i < n → Sz s (f i)) → ∃ D : Nat, 0 < D ∧ D ≤ 2 ^ (s * n) ∧ ∀ i, i < n → ∃ c : Int, (D : Rat) * f i = (c : Rat) ∧ c.natAbs < 2 ^ (s * n)
  | 0, _, _ => ⟨1, by decide, by simp, fun i h => absurd h (Nat.not_lt_zero _)⟩
  | n + 1, f, h => by
    obtain ⟨D, d0, d1, d2⟩ := fam_den n f fun i hi => h i (by omega)
    have hn := h n (by omega)
    rw [Nat.mul_succ, Nat.pow_add]
    refine ⟨D * (f n).den, Nat.mul_pos d0 (f n).den_pos, Nat.mul_le_mul d1 (Nat.le_of_lt hn.2), fun i hi => ?_⟩
    by_cases e : i = n
    · subst e
      refine ⟨(D : Int) * (f i).num, ?_, ?_⟩
      · rw [Rat.natCast_mul, Rat.intCast_mul, Rat.mul_assoc]
        have e0 : (((f i).den : Nat) : Rat) ≠ 0 := fun z => absurd (Rat.natCast_eq_zero_iff.mp z) (f i).den_nz
        have e1 : f i = ((f i).num : Rat) / (((f i).den : Nat) : Rat) := by
          conv => lhs; rw [← Rat.num_divInt_den (f i)]
          rw [Rat.divInt_eq_div]; rfl
        have := mul_div' (b := ((f i).num : Rat)) e0
        rw [← e1] at this
        rw [this]; rfl
      · rw [Int.natAbs_mul, Int.natAbs_natCast]
        exact Nat.lt_of_le_of_lt (Nat.mul_le_mul_right _ d1) (Nat.mul_lt_mul_of_pos_left hn.1 (Nat.two_pow_pos _))
    · obtain ⟨c, c1, c2⟩ := d2 i (by omega)
      refine ⟨c * ((f n).den : Nat), ?_, ?_⟩
      · rw [Rat.natCast_mul, Rat.intCast_mul, ← c1]
        have : (((f n).den : Int) : Rat) = ((f n).den : Rat) := rfl
        rw [this]; grind
      · rw [Int.natAbs_mul, Int.natAbs_natCast]
        exact Nat.mul_lt_mul'' c2 hn.2
structure Few (D : Dims) (s : Nat) : Prop where
  A : ∀ k j, k < D.m → j ≤ D.N → Sz s (D.A k j)
  c : ∀ j, j ≤ D.N → Sz s (D.c j)
def own_M (D : Dims) (S : Tab) : Nat → Nat → Rat := fun l k => D.A k (S.own l)
structure GoodD (D : Dims) (S : Tab) : Prop where
  g : Good0 D S
  d : det D.m (own_M D S) ≠ 0
theorem step_det {D : Dims} {S : Tab} {s r : Nat} (g : GoodD D S) (e : Enters D S s) (l : Leaves D S s r) : GoodD D (S.step s r) := by
  refine ⟨step_good g.g e l, ?_⟩
  have p0 : S.T r s ≠ 0 := by have := l.pos; grind
  rw [det_congr (N := rwM r (fun c => sumN D.m fun i => S.T i s * own_M D S i c) (own_M D S))]
  · rw [cramer _ _ l.lt]
    intro z
    rcases Rat.mul_eq_zero.mp z with y | y
    · exact p0 y
    · exact g.d y
  · intro i c hi hc
    show D.A c (if i = r then s else S.own i) = (if i = r then _ else own_M D S i) c
    by_cases q : i = r
    · rw [if_pos q, if_pos q, g.g.col c s hc (Nat.le_of_lt e.lt)]
      exact sumN_congr fun k _ => Rat.mul_comm _ _
    · rw [if_neg q, if_neg q]; rfl
def Fw (D : Dims) (S : Tab) (K : Nat) : Prop := ∀ j, j ≤ D.N → ∀ k, k < D.m → ∃ d : Nat, 0 < d ∧ (∀ i, i < D.m → ∃ c : Int, (d : Rat) * D.A k (S.own i) = (c : Rat) ∧ c.natAbs < 2 ^ K) ∧ ∃ c : Int, (d : Rat) * D.A k j = (c : Rat) ∧ c.natAbs < 2 ^ K
theorem Few.fw {D : Dims} {S : Tab} {s : Nat} (h : Few D s) (g : Good0 D S) : Fw D S (s * (D.m + 1)) := fun j hj k hk => by
  obtain ⟨d, d0, _, d2⟩ := fam_den (s := s) (D.m + 1) (fun i => if i < D.m then D.A k (S.own i) else D.A k j) fun i _ => by
    split
    · exact h.A k _ hk (Nat.le_of_lt (g.lt i (by assumption)))
    · exact h.A k j hk hj
  refine ⟨d, d0, fun i hi => ?_, ?_⟩
  · obtain ⟨c, c1, c2⟩ := d2 i (by omega)
    rw [if_pos hi] at c1
    exact ⟨c, c1, c2⟩
  · obtain ⟨c, c1, c2⟩ := d2 D.m (by omega)
    rw [if_neg (Nat.lt_irrefl _)] at c1
    exact ⟨c, c1, c2⟩
def Few1 (D : Dims) (K : Nat) : Prop := ∀ k, k < D.m → ∃ d : Nat, 0 < d ∧ ∀ j, j ≤ D.N → ∃ c : Int, (d : Rat) * D.A k j = (c : Rat) ∧ c.natAbs < 2 ^ K
theorem Few1.fw {D : Dims} {S : Tab} {K : Nat} (h : Few1 D K) (g : Good0 D S) : Fw D S K := fun j hj k hk => by
  obtain ⟨d, d0, d1⟩ := h k hk
  exact ⟨d, d0, fun i hi => d1 _ (Nat.le_of_lt (g.lt i hi)), d1 j hj⟩
theorem z_eq {D : Dims} {S : Tab} (g : Good0 D S) {j : Nat} (hj : j ≤ D.N) : S.z j = D.c j + -(sumN D.m fun i => D.c (S.own i) * S.T i j) := by
  obtain ⟨y, hy⟩ := g.row
  have e : sumN D.m (fun i => S.z (S.own i) * S.T i j) = sumN D.m (fun i => D.c (S.own i) * S.T i j) + sumN D.m fun k => y k * D.A k j := by
    rw [sumN_congr (f := fun i => S.z (S.own i) * S.T i j) (g := fun i => D.c (S.own i) * S.T i j + sumN D.m fun k => y k * (D.A k (S.own i) * S.T i j)) fun i hi => by
      rw [hy _ (Nat.le_of_lt (g.lt i hi)), Rat.add_mul]
      congr 1
      rw [Rat.mul_comm, ← sumN_mul]
      exact sumN_congr fun k _ => by grind, sumN_add]
    congr 1
    rw [sumN_swap]
    exact sumN_congr fun k hk => by rw [g.col k j hk hj, ← sumN_mul]
  rw [sumN_zero fun i hi => by rw [g.z0 i hi]; grind] at e
  rw [hy j hj]
  grind
def qT (D : Dims) (S : Tab) (s i : Nat) : Rat := S.T i D.N / S.T i s
def leaveF (D : Dims) (S : Tab) (s : Nat) : Nat → Option Nat
  | 0 => none
  | k + 1 => if 0 < S.T k s then
      (match leaveF D S s k with
      | none => some k
      | some f => if qT D S s k < qT D S s f ∨ (qT D S s k = qT D S s f ∧ S.own k < S.own f) then some k else some f)
    else leaveF D S s k
theorem leaveF_spec (D : Dims) (S : Tab) (s : Nat) : ∀ k, (leaveF D S s k = none → ∀ i, i < k → ¬ 0 < S.T i s) ∧ (∀ f, leaveF D S s k = some f → f < k ∧ 0 < S.T f s ∧ ∀ i, i < k → 0 < S.T i s → qT D S s f < qT D S s i ∨ (qT D S s f = qT D S s i ∧ S.own f ≤ S.own i))
  | 0 => ⟨fun _ i h => absurd h (Nat.not_lt_zero _), fun f h => by cases h⟩
  | k + 1 => by
    obtain ⟨h1, h2⟩ := leaveF_spec D S s k
    unfold leaveF
    by_cases p : 0 < S.T k s
    · rw [if_pos p]
      cases e : leaveF D S s k with
      | none =>
        refine ⟨fun z => (by cases z), fun f z => ?_⟩
        injection z with z
        subst z
        refine ⟨by omega, p, fun i hi hp => ?_⟩
        by_cases q : i = k
        · exact .inr ⟨by rw [q], by rw [q]; exact Nat.le_refl _⟩
        · exact absurd hp (h1 e i (by omega))
      | some f0 =>
        obtain ⟨a1, a2, a3⟩ := h2 f0 e
        dsimp only
        by_cases c : qT D S s k < qT D S s f0 ∨ (qT D S s k = qT D S s f0 ∧ S.own k < S.own f0)
        · rw [if_pos c]
          refine ⟨fun z => (by cases z), fun f z => ?_⟩
          injection z with z
          subst z
          refine ⟨by omega, p, fun i hi hp => ?_⟩
          by_cases q : i = k
          · exact .inr ⟨by rw [q], by rw [q]; exact Nat.le_refl _⟩
          · rcases a3 i (by omega) hp with y | ⟨y1, y2⟩
            · rcases c with z | ⟨z1, z2⟩
              · exact .inl (by grind)
              · exact .inl (by grind)
            · rcases c with z | ⟨z1, z2⟩
              · exact .inl (by grind)
              · exact .inr ⟨by grind, by omega⟩
        · rw [if_neg c]
          refine ⟨fun z => (by cases z), fun f z => ?_⟩
          injection z with z
          subst z
          refine ⟨by omega, a2, fun i hi hp => ?_⟩
          by_cases q : i = k
          · subst q
            by_cases y : qT D S s f0 = qT D S s i
            · exact .inr ⟨y, by
                by_cases o : S.own i < S.own f0
                · exact absurd (.inr ⟨y.symm, o⟩) c
                · omega⟩
            · refine .inl ?_
              by_cases o : qT D S s i < qT D S s f0
              · exact absurd (.inl o) c
              · grind
          · exact a3 i (by omega) hp
    · rw [if_neg p]
      refine ⟨fun z i hi => ?_, fun f z => ?_⟩
      · by_cases q : i = k
        · rw [q]; exact p
        · exact h1 z i (by omega)
      · obtain ⟨a1, a2, a3⟩ := h2 f z
        refine ⟨by omega, a2, fun i hi hp => ?_⟩
        by_cases q : i = k
        · rw [q] at hp; exact absurd hp p
        · exact a3 i (by omega) hp
theorem leaves_of {D : Dims} {S : Tab} {s f : Nat} (h : leaveF D S s D.m = some f) : Leaves D S s f := by
  obtain ⟨h1, h2, h3⟩ := (leaveF_spec D S s D.m).2 f h
  have key : ∀ i, 0 < S.T i s → S.T i s * qT D S s i = S.T i D.N := fun i hp => mul_div' (by grind)
  have kf := key f h2
  refine ⟨h1, h2, fun i hi hp => ?_, fun i hi hp e => ?_⟩
  · have ki := key i hp
    have h4 : qT D S s f ≤ qT D S s i := by
      rcases h3 i hi hp with y | ⟨y, _⟩
      · exact Rat.le_of_lt y
      · rw [y]; exact Rat.le_refl
    have h5 : 0 ≤ (qT D S s i - qT D S s f) * (S.T f s * S.T i s) := Rat.mul_nonneg (by grind) (Rat.mul_nonneg (Rat.le_of_lt h2) (Rat.le_of_lt hp))
    rw [← kf, ← ki]
    grind
  · have ki := key i hp
    have : qT D S s f = qT D S s i := by
      rw [← kf, ← ki] at e
      have h5 : (S.T f s * S.T i s) * (qT D S s f - qT D S s i) = 0 := by grind
      rcases Rat.mul_eq_zero.mp h5 with y | y
      · rcases Rat.mul_eq_zero.mp y with y | y <;> grind
      · grind
    rcases h3 i hi hp with y | ⟨_, y⟩
    · grind
    · exact y
def enterF (N : Nat) (z : Nat → Rat) : Option Nat := (List.range N).find? fun j => decide (z j < 0)
theorem enters_of {D : Dims} {S : Tab} {s : Nat} (h : enterF D.N S.z = some s) : Enters D S s := by
  unfold enterF at h
  rw [List.find?_range_eq_some] at h
  obtain ⟨h1, h2, h3⟩ := h
  refine ⟨by simpa using h2, of_decide_eq_true h1, fun j hj => ?_⟩
  have := h3 j hj
  simp at this
  grind
theorem enter_none {N : Nat} {z : Nat → Rat} (h : enterF N z = none) : ∀ j, j < N → 0 ≤ z j := fun j hj => by
  unfold enterF at h
  rw [List.find?_eq_none] at h
  have := h j (List.mem_range.mpr hj)
  simp at this
  grind
def nextT (D : Dims) (S : Tab) : Option Tab := match enterF D.N S.z with
  | none => none
  | some s => match leaveF D S s D.m with
    | none => none
    | some r => some (S.step s r)
def runN (D : Dims) : Nat → Tab → Tab
  | 0, S => S
  | n + 1, S => match nextT D (runN D n S) with
    | none => runN D n S
    | some U => U
theorem next_good {D : Dims} {S U : Tab} (g : Good0 D S) (h : nextT D S = some U) : Good0 D U ∧ ∃ s r, enterF D.N S.z = some s ∧ leaveF D S s D.m = some r ∧ U = S.step s r := by
  unfold nextT at h
  cases e : enterF D.N S.z with
  | none => rw [e] at h; cases h
  | some s =>
    rw [e] at h
    cases l : leaveF D S s D.m with
    | none => dsimp only at h; rw [l] at h; cases h
    | some r =>
      dsimp only at h
      rw [l] at h
      injection h with h
      exact ⟨h ▸ step_good g (enters_of e) (leaves_of l), s, r, rfl, l, h.symm⟩
theorem run_good {D : Dims} {S : Tab} (g : Good0 D S) : ∀ n, Good0 D (runN D n S)
  | 0 => g
  | n + 1 => by
    have ih := run_good g n
    show Good0 D (match nextT D (runN D n S) with | none => runN D n S | some U => U)
    cases h : nextT D (runN D n S) with
    | none => exact ih
    | some U => exact (next_good ih h).1
theorem run_goodD {D : Dims} {S : Tab} (g : GoodD D S) : ∀ n, GoodD D (runN D n S)
  | 0 => g
  | n + 1 => by
    have ih := run_goodD g n
    show GoodD D (match nextT D (runN D n S) with | none => runN D n S | some U => U)
    cases h : nextT D (runN D n S) with
    | none => exact ih
    | some U =>
      obtain ⟨_, s, r, h1, h2, h3⟩ := next_good ih.g h
      rw [h3]
      exact step_det ih (enters_of h1) (leaves_of h2)
theorem halts {D : Dims} {S : Tab} (g : Good0 D S) : ∃ n, nextT D (runN D n S) = none := by
  refine Classical.byContradiction fun z => ?_
  have ne : ∀ n, ∃ U, nextT D (runN D n S) = some U := fun n => by
    cases h : nextT D (runN D n S) with
    | none => exact absurd ⟨n, h⟩ z
    | some U => exact ⟨U, rfl⟩
  have st : ∀ n, ∃ p : Nat × Nat, enterF D.N (runN D n S).z = some p.1 ∧ leaveF D (runN D n S) p.1 D.m = some p.2 ∧ runN D (n + 1) S = (runN D n S).step p.1 p.2 := fun n => by
    obtain ⟨U, hU⟩ := ne n
    obtain ⟨_, s, r, h1, h2, h3⟩ := next_good (run_good g n) hU
    refine ⟨(s, r), h1, h2, ?_⟩
    show (match nextT D (runN D n S) with | none => runN D n S | some U => U) = _
    rw [hU]; exact h3
  exact Run.ends (D := D) (S := fun n => runN D n S) (s := fun n => (Classical.choose (st n)).1) (r := fun n => (Classical.choose (st n)).2)
    ⟨fun n => run_good g n, fun n => enters_of (Classical.choose_spec (st n)).1, fun n => leaves_of (Classical.choose_spec (st n)).2.1, fun n => (Classical.choose_spec (st n)).2.2⟩
theorem run_stop {D : Dims} {S : Tab} {n : Nat} (h : nextT D (runN D n S) = none) : ∀ k, runN D (n + k) S = runN D n S
  | 0 => rfl
  | k + 1 => by
    have ih := run_stop h k
    show (match nextT D (runN D (n + k) S) with | none => runN D (n + k) S | some U => U) = _
    rw [ih, h]
theorem run_uniq {D : Dims} {S : Tab} {n m : Nat} (h : nextT D (runN D n S) = none) (h' : nextT D (runN D m S) = none) : runN D n S = runN D m S := by
  rcases Nat.le_total n m with l | l
  · obtain ⟨k, rfl⟩ := Nat.exists_eq_add_of_le l
    exact (run_stop h k).symm
  · obtain ⟨k, rfl⟩ := Nat.exists_eq_add_of_le l
    exact run_stop h' k
structure Lp where
  m : Nat
  n : Nat
  A : Nat → Nat → Rat
  b : Nat → Rat
  w : Nat → Rat
def Lp.dims (L : Lp) : Dims where
  m := L.m
  N := L.n + L.m
  A := fun k j => if j < L.n then L.A k j else if j < L.n + L.m then (if j = L.n + k then 1 else 0) else L.b k
  c := fun j => if j < L.n then - L.w j else 0
  u := fun _ => 0
def Lp.tab (L : Lp) : Tab where
  T := L.dims.A
  z := L.dims.c
  own := fun i => L.n + i
theorem Lp.good (L : Lp) (hb : ∀ k, k < L.m → 0 ≤ L.b k) : Good0 L.dims L.tab := by
  have eA : ∀ k i, k < L.m → i < L.m → L.dims.A k (L.n + i) = if k = i then 1 else 0 := fun k i hk hi => by
    show (if L.n + i < L.n then _ else if L.n + i < L.n + L.m then (if L.n + i = L.n + k then (1 : Rat) else 0) else L.b k) = _
    rw [if_neg (by omega), if_pos (by omega)]
    by_cases e : k = i
    · rw [if_pos e, if_pos (by omega)]
    · rw [if_neg e, if_neg (by omega)]
  refine ⟨fun i hi => ?_, fun i j hi hj => eA i j hi hj, fun i hi => ?_, fun k j hk hj => ?_, ⟨fun i k => if i = k then 1 else 0, fun i j hi hj => ?_⟩, ⟨fun _ => 0, fun j _ => ?_⟩, fun i hi => ?_⟩
  · show L.n + i < L.n + L.m
    have : i < L.m := hi
    omega
  · show (if L.n + i < L.n then _ else (0 : Rat)) = 0
    rw [if_neg (by omega)]
  · rw [sumN_one (r := k) hk]
    · rw [show L.tab.own k = L.n + k from rfl, eA k k hk hk, if_pos rfl]
      show _ = 1 * L.dims.A k j
      grind
    · intro i hi ne
      rw [show L.tab.own i = L.n + i from rfl, eA k i hk hi, if_neg fun e => ne e.symm]; grind
  · rw [sumN_one (r := i) hi]
    · dsimp only
      rw [if_pos rfl]
      show L.dims.A i j = 1 * L.dims.A i j
      grind
    · intro k _ ne
      dsimp only
      rw [if_neg fun e => ne e.symm]; grind
  · rw [sumN_zero fun k _ => by grind]
    show L.dims.c j = L.dims.c j + 0
    grind
  · show 0 ≤ (if L.n + L.m < L.n then _ else if L.n + L.m < L.n + L.m then _ else L.b i)
    rw [if_neg (by omega), if_neg (by omega)]
    exact hb i hi
theorem Lp.goodD (L : Lp) (hb : ∀ k, k < L.m → 0 ≤ L.b k) : GoodD L.dims L.tab := by
  refine ⟨L.good hb, ?_⟩
  rw [det_congr (N := fun r c => if r = c then 1 else 0), det_id]
  · decide
  · intro r c hr hc
    have hr : r < L.m := hr
    have hc : c < L.m := hc
    show (if L.n + r < L.n then _ else if L.n + r < L.n + L.m then (if L.n + r = L.n + c then (1 : Rat) else 0) else L.b c) = if r = c then 1 else 0
    rw [if_neg (by omega), if_pos (by omega)]
    by_cases e : r = c
    · rw [if_pos e, if_pos (by omega)]
    · rw [if_neg e, if_neg (by omega)]
theorem sumN_split (f : Nat → Rat) (n : Nat) : ∀ m, sumN (n + m) f = sumN n f + sumN m fun k => f (n + k)
  | 0 => by show _ = sumN n f + 0; grind
  | m + 1 => by
    show sumN (n + m) f + f (n + m) = sumN n f + (sumN m (fun k => f (n + k)) + f (n + m))
    rw [sumN_split f n m]; grind
theorem at_sum {D : Dims} {S : Tab} (g : Good0 D S) (f : Nat → Rat) : sumN D.N (fun j => f j * S.at D j) = sumN D.m fun i => f (S.own i) * S.T i D.N := by
  unfold Tab.at
  rw [sumN_congr (g := fun j => sumN D.m fun i => if S.own i = j then f j * S.T i D.N else 0) fun j _ => by
    rw [← sumN_mul]; exact sumN_congr fun i _ => by split <;> grind, ← sumN_swap]
  refine sumN_congr fun i hi => ?_
  rw [sumN_one (r := S.own i) (g.lt i hi)]
  · rw [if_pos rfl]
  · intro k _ ne
    rw [if_neg fun e => ne e.symm]
theorem at_pos {D : Dims} {S : Tab} (g : Good0 D S) (j : Nat) : 0 ≤ S.at D j := sumN_nonneg fun i hi => by
  split
  · exact g.pos i hi
  · exact Rat.le_refl
structure Best (L : Lp) (x y : Nat → Rat) : Prop where
  x0 : ∀ j, j < L.n → 0 ≤ x j
  y0 : ∀ k, k < L.m → 0 ≤ y k
  le : ∀ k, k < L.m → sumN L.n (fun j => L.A k j * x j) ≤ L.b k
  ge : ∀ j, j < L.n → L.w j ≤ sumN L.m fun k => y k * L.A k j
  eq : sumN L.n (fun j => L.w j * x j) = sumN L.m fun k => y k * L.b k
theorem best_of {L : Lp} {S : Tab} (g : Good0 L.dims S) (h : enterF L.dims.N S.z = none) : Best L (S.at L.dims) (fun k => S.z (L.n + k)) := by
  have z0 := enter_none h
  have dA1 : ∀ k j, j < L.n → L.dims.A k j = L.A k j := fun k j hj => if_pos hj
  have dA2 : ∀ k i, i < L.m → L.dims.A k (L.n + i) = if i = k then 1 else 0 := fun k i hi => by
    show (if L.n + i < L.n then _ else if L.n + i < L.n + L.m then (if L.n + i = L.n + k then (1 : Rat) else 0) else L.b k) = _
    rw [if_neg (by omega), if_pos (by omega)]
    by_cases e : i = k
    · rw [if_pos e, if_pos (by omega)]
    · rw [if_neg e, if_neg (by omega)]
  have dA3 : ∀ k, L.dims.A k (L.n + L.m) = L.b k := fun k => by
    show (if L.n + L.m < L.n then _ else if L.n + L.m < L.n + L.m then _ else L.b k) = _
    rw [if_neg (by omega), if_neg (by omega)]
  have dc1 : ∀ j, j < L.n → L.dims.c j = - L.w j := fun j hj => if_pos hj
  have dc2 : ∀ i, L.dims.c (L.n + i) = 0 := fun i => if_neg (by omega)
  obtain ⟨y, hy⟩ := g.row
  have ey : ∀ k, k < L.m → S.z (L.n + k) = y k := fun k hk => by
    rw [hy (L.n + k) (by show L.n + k ≤ L.n + L.m; omega), dc2]
    show 0 + sumN L.m (fun i => y i * L.dims.A i (L.n + k)) = y k
    rw [sumN_one (r := k) hk]
    · rw [dA2 k k hk, if_pos rfl]; grind
    · intro i hi ne
      rw [dA2 i k hk, if_neg fun e => ne e.symm]; grind
  refine ⟨fun j _ => at_pos g j, fun k hk => z0 _ (by show L.n + k < L.n + L.m; omega), fun k hk => ?_, fun j hj => ?_, ?_⟩
  · have e := at_sum g (fun j => L.dims.A k j)
    have e2 := g.col k (L.n + L.m) hk (Nat.le_refl _)
    rw [show L.dims.N = L.n + L.m from rfl] at e
    rw [← e, sumN_split, dA3] at e2
    rw [e2, sumN_congr (f := fun j => L.dims.A k j * S.at L.dims j) (g := fun j => L.A k j * S.at L.dims j) fun j hj => by rw [dA1 k j hj]]
    have : 0 ≤ sumN L.m fun i => L.dims.A k (L.n + i) * S.at L.dims (L.n + i) := sumN_nonneg fun i hi => by
      rw [dA2 k i hi]
      have := at_pos g (L.n + i)
      split <;> grind
    grind
  · have e := hy j (by show j ≤ L.n + L.m; omega)
    rw [dc1 j hj] at e
    have h0 := z0 j (by show j < L.n + L.m; omega)
    rw [sumN_congr (g := fun k => y k * L.dims.A k j) fun k hk => by rw [ey k hk, dA1 k j hj]]
    have e : S.z j = - L.w j + sumN L.m fun k => y k * L.dims.A k j := e
    grind
  · have e1 := z_eq g (Nat.le_refl L.dims.N)
    have e2 := hy L.dims.N (Nat.le_refl _)
    have e3 := at_sum g (fun j => L.dims.c j)
    have e4 : sumN L.m (fun k => S.z (L.n + k) * L.b k) = sumN L.m fun k => y k * L.dims.A k L.dims.N := sumN_congr fun k hk => by rw [ey k hk]; exact congrArg _ (dA3 k).symm
    rw [e4]
    rw [show L.dims.N = L.n + L.m from rfl, sumN_split, sumN_zero (f := fun k => L.dims.c (L.n + k) * S.at L.dims (L.n + k)) fun i _ => by rw [dc2]; grind] at e3
    rw [sumN_congr (f := fun j => L.dims.c j * S.at L.dims j) (g := fun j => (-1) * (L.w j * S.at L.dims j)) fun j hj => by rw [dc1 j hj]; grind, sumN_mul] at e3
    have e1 : S.z (L.n + L.m) = L.dims.c (L.n + L.m) + -(sumN L.m fun i => L.dims.c (S.own i) * S.T i (L.n + L.m)) := e1
    have e2 : S.z (L.n + L.m) = L.dims.c (L.n + L.m) + sumN L.m fun k => y k * L.dims.A k (L.n + L.m) := e2
    have e3 : -1 * (sumN L.n fun j => L.w j * S.at L.dims j) + 0 = sumN L.m fun i => L.dims.c (S.own i) * S.T i (L.n + L.m) := e3
    show _ = sumN L.m fun k => y k * L.dims.A k (L.n + L.m)
    grind
def Lp.Bnd (L : Lp) : Prop := ∃ y : Nat → Rat, (∀ k, k < L.m → 0 ≤ y k) ∧ ∀ j, j < L.n → L.w j ≤ sumN L.m fun k => y k * L.A k j
theorem Lp.leaves {L : Lp} (h : L.Bnd) {S : Tab} (g : Good0 L.dims S) {s : Nat} (e : enterF L.dims.N S.z = some s) : ∃ r, leaveF L.dims S s L.m = some r := by
  cases l : leaveF L.dims S s L.m with
  | some r => exact ⟨r, rfl⟩
  | none =>
    exfalso
    obtain ⟨y, y0, hy⟩ := h
    obtain ⟨i, hi, hp⟩ := bounded g (enters_of e) y fun j hj => by
      have hj : j < L.n + L.m := hj
      by_cases c : j < L.n
      · rw [show L.dims.c j = - L.w j from if_pos c]
        have := hy j c
        rw [sumN_congr (f := fun k => y k * L.dims.A k j) (g := fun k => y k * L.A k j) fun k _ => by rw [show L.dims.A k j = L.A k j from if_pos c]]
        show 0 ≤ - L.w j + sumN L.m _
        grind
      · rw [show L.dims.c j = 0 from if_neg c]
        have : 0 ≤ sumN L.m fun k => y k * L.dims.A k j := sumN_nonneg fun k hk => by
          show 0 ≤ y k * (if j < L.n then L.A k j else if j < L.n + L.m then (if j = L.n + k then (1 : Rat) else 0) else L.b k)
          rw [if_neg c, if_pos hj]
          have := y0 k hk
          split <;> grind
        show 0 ≤ 0 + sumN L.m _
        grind
    exact (leaveF_spec L.dims S s L.m).1 l i hi hp
theorem Lp.stop {L : Lp} (h : L.Bnd) {S : Tab} (g : Good0 L.dims S) (e : nextT L.dims S = none) : enterF L.dims.N S.z = none := by
  cases c : enterF L.dims.N S.z with
  | none => rfl
  | some s =>
    obtain ⟨r, hr⟩ := Lp.leaves h g c
    have hr : leaveF L.dims S s L.dims.m = some r := hr
    unfold nextT at e
    rw [c] at e
    dsimp only at e
    rw [hr] at e
    cases e
open Classical in
noncomputable def Lp.last (L : Lp) : Tab := if h : ∃ n, nextT L.dims (runN L.dims n L.tab) = none then runN L.dims (Classical.choose h) L.tab else L.tab
theorem Lp.last_eq {L : Lp} {n : Nat} (h : nextT L.dims (runN L.dims n L.tab) = none) : runN L.dims n L.tab = L.last := by
  unfold Lp.last
  rw [dif_pos ⟨n, h⟩]
  exact run_uniq h (Classical.choose_spec (⟨n, h⟩ : ∃ n, nextT L.dims (runN L.dims n L.tab) = none))
theorem Lp.last_good {L : Lp} (hb : ∀ k, k < L.m → 0 ≤ L.b k) : Good0 L.dims L.last ∧ nextT L.dims L.last = none := by
  obtain ⟨n, hn⟩ := halts (L.good hb)
  rw [← Lp.last_eq hn]
  exact ⟨run_good (L.good hb) n, hn⟩
theorem Lp.best {L : Lp} (hb : ∀ k, k < L.m → 0 ≤ L.b k) (h : L.Bnd) : Best L (L.last.at L.dims) (fun k => L.last.z (L.n + k)) := by
  obtain ⟨h1, h2⟩ := L.last_good hb
  exact best_of h1 (Lp.stop h h1 h2)
theorem Lp.last_goodD {L : Lp} (hb : ∀ k, k < L.m → 0 ≤ L.b k) : GoodD L.dims L.last := by
  obtain ⟨n, hn⟩ := halts (L.good hb)
  rw [← Lp.last_eq hn]
  exact run_goodD (L.goodD hb) n
theorem at_or {D : Dims} {S : Tab} (g : Good0 D S) (j : Nat) : S.at D j = 0 ∨ ∃ i, i < D.m ∧ S.at D j = S.T i D.N := by
  by_cases h : ∃ i, i < D.m ∧ S.own i = j
  · obtain ⟨i, hi, e⟩ := h
    exact .inr ⟨i, hi, by rw [← e]; exact at_own g hi⟩
  · refine .inl (sumN_zero fun i hi => ?_)
    rw [if_neg fun e => h ⟨i, hi, e⟩]
def LpSz (L : Lp) (B : Nat) : Prop := ∀ U, GoodD L.dims U → (∀ i j, i < L.m → j ≤ L.dims.N → Sz B (U.T i j)) ∧ ∀ j, j ≤ L.dims.N → Sz B (U.z j)
theorem LpSz.mono {L : Lp} {B C : Nat} (h : LpSz L B) (l : B ≤ C) : LpSz L C := fun U g => ⟨fun i j hi hj => ((h U g).1 i j hi hj).mono l, fun j hj => ((h U g).2 j hj).mono l⟩
theorem LpSz.x {L : Lp} {B : Nat} (h : LpSz L B) (h1 : 1 ≤ B) (hb : ∀ k, k < L.m → 0 ≤ L.b k) (j : Nat) : Sz B (L.last.at L.dims j) := by
  have g := Lp.last_goodD hb
  rcases at_or g.g j with e | ⟨i, hi, e⟩
  · rw [e]; exact ⟨Nat.two_pow_pos _, Nat.one_lt_two_pow (by omega)⟩
  · rw [e]; exact (h _ g).1 i _ hi (Nat.le_refl _)
theorem LpSz.y {L : Lp} {B : Nat} (h : LpSz L B) (hb : ∀ k, k < L.m → 0 ≤ L.b k) {k : Nat} (hk : k < L.m) : Sz B (L.last.z (L.n + k)) :=
  (h _ (Lp.last_goodD hb)).2 _ (by show L.n + k ≤ L.n + L.m; omega)

def rowL (n : Nat) (f : Nat → Rat) : List PyData := (List.range n).map fun j => frD (f j)
def intL (n : Nat) (f : Nat → Nat) : List PyData := (List.range n).map fun j => .int (f j : Nat)
def tabL (m n : Nat) (T : Nat → Nat → Rat) : List PyData := (List.range m).map fun i => .list (rowL n (T i))
theorem rowL_len (n : Nat) (f : Nat → Rat) : (rowL n f).length = n := by unfold rowL; rw [List.length_map, List.length_range]
theorem intL_len (n : Nat) (f : Nat → Nat) : (intL n f).length = n := by unfold intL; rw [List.length_map, List.length_range]
theorem tabL_len (m n : Nat) (T : Nat → Nat → Rat) : (tabL m n T).length = m := by unfold tabL; rw [List.length_map, List.length_range]
theorem range_get {i n : Nat} (h : i < n) : (List.range n)[i]? = some i := by rw [List.getElem?_range h]
theorem Lp.few {L : Lp} {s : Nat} (h1 : 1 ≤ s) (hA : ∀ k j, k < L.m → j < L.n → Sz s (L.A k j)) (hb : ∀ k, k < L.m → Sz s (L.b k)) (hw : ∀ j, j < L.n → Sz s (L.w j)) : Few L.dims s := by
  have z0 : Sz s (0 : Rat) := (sz0 (n := 0)).mono h1
  have z1 : Sz s (1 : Rat) := (sz1 (n := 0)).mono h1
  refine ⟨fun k j hk hj => ?_, fun j hj => ?_⟩
  · show Sz s (if j < L.n then L.A k j else if j < L.n + L.m then (if j = L.n + k then (1 : Rat) else 0) else L.b k)
    split
    · exact hA k j hk (by assumption)
    · split
      · split
        · exact z1
        · exact z0
      · exact hb k hk
  · show Sz s (if j < L.n then - L.w j else 0)
    split
    · exact sz_neg (hw j (by assumption))
    · exact z0
def prodD : List (Rat × List Wd) → Nat
  | [] => 1
  | t :: ts => t.1.den * prodD ts
theorem prodD_pos : ∀ ts : List (Rat × List Wd), 0 < prodD ts
  | [] => by decide
  | t :: ts => Nat.mul_pos t.1.den_pos (prodD_pos ts)
theorem prodD_le {n : Nat} : ∀ {ts : List (Rat × List Wd)}, (∀ t ∈ ts, Sz n t.1) → prodD ts ≤ 2 ^ (n * ts.length)
  | [], _ => by simp [prodD]
  | t :: ts, h => by
    have h1 := (h t (.head _)).2
    have h2 := prodD_le (ts := ts) fun x hx => h x (.tail _ hx)
    show t.1.den * prodD ts ≤ 2 ^ (n * (ts.length + 1))
    rw [Nat.mul_succ, Nat.pow_add, Nat.mul_comm (2 ^ (n * ts.length))]
    exact Nat.mul_le_mul (Nat.le_of_lt h1) h2
theorem sumT_den {ls : List Nat} {u : List Bool} {n : Nat} : ∀ {ts : List (Rat × List Wd)}, (∀ t ∈ ts, Sz n t.1) → ∃ c : Int, sumT ls u ts = Rat.divInt c (prodD ts : Nat) ∧ c.natAbs ≤ ts.length * 2 ^ (n * ts.length)
  | [], _ => ⟨0, (Rat.zero_divInt _).symm, by simp⟩
  | t :: ts, h => by
    obtain ⟨c, h1, h2⟩ := sumT_den (ls := ls) (u := u) (ts := ts) fun x hx => h x (.tail _ hx)
    have hs := h t (.head _)
    have hp := prodD_le (ts := ts) fun x hx => h x (.tail _ hx)
    have d0 := prodD_pos ts
    have t0 := t.1.den_pos
    have key : ∀ a : Int, a.natAbs ≤ 2 ^ n → (a * (prodD ts : Nat) + c * (t.1.den : Nat)).natAbs ≤ (ts.length + 1) * 2 ^ (n * (ts.length + 1)) := fun a ha => by
      refine Nat.le_trans (Int.natAbs_add_le _ _) ?_
      rw [Int.natAbs_mul, Int.natAbs_mul, Int.natAbs_natCast, Int.natAbs_natCast, Nat.mul_succ n, Nat.pow_add, Nat.succ_mul, Nat.add_comm]
      have q1 := Nat.mul_le_mul ha hp
      have q2 := Nat.mul_le_mul h2 (Nat.le_of_lt hs.2)
      rw [Nat.mul_comm (2 ^ n)] at q1
      rw [Nat.mul_assoc] at q2
      exact Nat.add_le_add q2 q1
    rw [sumT_cons, h1]
    unfold termV
    by_cases e : valS ls u t.2 = true
    · rw [if_pos e]
      refine ⟨t.1.num * (prodD ts : Nat) + c * (t.1.den : Nat), ?_, key _ (Nat.le_of_lt hs.1)⟩
      conv => lhs; lhs; rw [← Rat.num_divInt_den t.1]
      rw [Rat.divInt_add_divInt _ _ (by omega) (by omega)]; rfl
    · rw [if_neg e]
      refine ⟨0 * (prodD ts : Nat) + c * (t.1.den : Nat), ?_, key 0 (Nat.zero_le _)⟩
      rw [Rat.zero_add, Int.zero_mul, Int.zero_add]
      show _ = Rat.divInt (c * (t.1.den : Nat)) ((t.1.den * prodD ts : Nat) : Int)
      rw [Int.natCast_mul, Int.mul_comm (t.1.den : Int), Rat.divInt_mul_right (by omega)]
theorem pay_den {ls : List Nat} {u : List Bool} {n m : Nat} {b : Bet} (h : GBet ls n m b) {r : Rat} (e : payS ls u b = some r) : ∃ c : Int, r = Rat.divInt c (prodD b.1 : Nat) ∧ c.natAbs ≤ m * 2 ^ (n * m) := by
  unfold payS at e
  split at e
  · injection e with e
    obtain ⟨c, h1, h2⟩ := sumT_den (ls := ls) (u := u) (n := n) (ts := b.1) fun t ht => (h.terms t ht).2.2
    exact ⟨c, by rw [← e, h1], Nat.le_trans h2 (Nat.mul_le_mul h.few (Nat.pow_le_pow_right (by decide) (Nat.mul_le_mul_left _ h.few)))⟩
  · cases e
def ratOf : PyData → Rat
  | .tuple [.int a, .int b] => Rat.divInt a b
  | _ => 0
theorem ratOf_fr (r : Rat) : ratOf (frD r) = r := Rat.num_divInt_den r
def wgB (m : Nat) (d : PyData) : Bool := stakesB m d && (match d with
  | .tuple ds => decide ((ds.map ratOf).sum = 1)
  | _ => false)
def layB (m : Nat) : PyData → Bool
  | .tuple ds => decide (ds.length ≤ 40) && ds.all (wgB m)
  | _ => false
theorem map_ratOf (ws : List Rat) : (ws.map frD).map ratOf = ws := by
  rw [List.map_map, show ratOf ∘ frD = id from funext ratOf_fr, List.map_id]
theorem wgB_fr (m : Nat) (ws : List Rat) : wgB m (.tuple (ws.map frD)) = ((decide (ws.length = m) && ws.all fun s => decide (0 ≤ s.num)) && decide (ws.sum = 1)) := by
  unfold wgB
  rw [stakesB_fr]
  dsimp only
  rw [map_ratOf]
theorem Wg.ok {m : Nat} {ws : List Rat} (W : Wg m ws) : wgB m (.tuple (ws.map frD)) = true := by
  rw [wgB_fr, decide_eq_true W.len, decide_eq_true W.one, Bool.true_and, Bool.and_true, List.all_eq_true]
  exact fun w hw => decide_eq_true (Rat.num_nonneg.mpr (W.sz w hw).2)
def bearsB (os : List (Option Rat)) (Ls : List (List Rat)) (p : Rat) : Bool := match meanIn os Ls with
  | none => false
  | some r => !(decide (r < p))
abbrev Tbs := List (List (Option Rat))
def gtA (ts : Tbs) (i u : Nat) : Option Rat := (ts.getD i []).getD u none
def nD (l : List Nat) : List PyData := l.map fun j => .int (j : Nat)
structure Tbl (ts : Tbs) (w q : Nat) : Prop where
  len : ∀ t ∈ ts, t.length = w
  sz : ∀ t ∈ ts, ∀ o ∈ t, Szo q o
theorem Tbl.get {ts : Tbs} {w q i : Nat} (T : Tbl ts w q) (h : i < ts.length) : ∃ t, ts[i]? = some t ∧ ts.getD i [] = t ∧ t ∈ ts ∧ t.length = w := by
  refine ⟨ts[i], List.getElem?_eq_getElem h, by rw [List.getD_eq_getElem?_getD, List.getElem?_eq_getElem h]; rfl, List.getElem_mem h, T.len _ (List.getElem_mem h)⟩
def liveL (ts : Tbs) (w : Nat) (left : List Nat) : List Nat := (List.range w).filter fun u => left.any fun i => (gtA ts i u).isSome
theorem liveL_lt {ts : Tbs} {w : Nat} {left : List Nat} : ∀ u ∈ liveL ts w left, u < w := fun u h => List.mem_range.mp (List.mem_filter.mp h).1
theorem liveL_nd {ts : Tbs} {w : Nat} {left : List Nat} : (liveL ts w left).Nodup := List.nodup_range.sublist List.filter_sublist
def negO : Option Rat → Rat
  | none => 0
  | some r => -r
def lpOf (ts : Tbs) (left W : List Nat) : Lp where
  m := left.length + 1
  n := W.length
  A := fun k j => if k < left.length then negO (gtA ts (left.getD k 0) (W.getD j 0)) else 1
  b := fun k => if k < left.length then 0 else 1
  w := fun _ => 1
theorem lpOf_bnd (ts : Tbs) (left W : List Nat) : (lpOf ts left W).Bnd := by
  refine ⟨fun k => if k = left.length then 1 else 0, fun k _ => by dsimp only; split <;> decide, fun j _ => ?_⟩
  show (1 : Rat) ≤ sumN (left.length + 1) fun k => (if k = left.length then (1 : Rat) else 0) * (if k < left.length then negO (gtA ts (left.getD k 0) (W.getD j 0)) else 1)
  rw [sumN_one (r := left.length) (by omega)]
  · rw [if_pos rfl, if_neg (Nat.lt_irrefl _)]; decide +kernel
  · intro k _ ne
    rw [if_neg ne]; grind
theorem map_getD {α : Type} (f : Nat → α) (l : List Nat) : l.map f = (List.range l.length).map fun j => f (l.getD j 0) := by
  refine List.ext_getElem? fun i => ?_
  rw [List.getElem?_map, List.getElem?_map]
  rcases Nat.lt_or_ge i l.length with h | h
  · rw [range_get h, List.getElem?_eq_getElem h]
    show some _ = some (f (l.getD i 0))
    rw [List.getD_eq_getElem?_getD, List.getElem?_eq_getElem h]; rfl
  · rw [List.getElem?_eq_none h, List.getElem?_eq_none (by simpa using h)]; rfl
noncomputable def xOf (ts : Tbs) (left W : List Nat) : Nat → Rat := (lpOf ts left W).last.at (lpOf ts left W).dims
noncomputable def yOf (ts : Tbs) (left W : List Nat) : Nat → Rat := fun k => (lpOf ts left W).last.z (W.length + k)
theorem lpOf_best (ts : Tbs) (left W : List Nat) : Best (lpOf ts left W) (xOf ts left W) (yOf ts left W) :=
  Lp.best (fun k _ => by show (0 : Rat) ≤ if k < left.length then 0 else 1; split <;> decide) (lpOf_bnd ts left W)
def sprd (many : Nat) (W : List Nat) (vs : List Rat) : List Rat := (W.zip vs).foldl (fun f z => f.set z.1 z.2) (List.replicate many 0)
theorem sprd_len (many : Nat) (W : List Nat) (vs : List Rat) : (sprd many W vs).length = many := by
  unfold sprd
  have : ∀ (zs : List (Nat × Rat)) (f : List Rat), (zs.foldl (fun f z => f.set z.1 z.2) f).length = f.length := by
    intro zs
    induction zs with
    | nil => intro f; rfl
    | cons z zs ih => intro f; rw [List.foldl_cons, ih, List.length_set]
  rw [this, List.length_replicate]
def unwB (t : List (Option Rat)) (wz : List Rat) : Bool := (t.zip wz).all fun z => z.1.isNone || decide (z.2 = 0)
noncomputable def wOf (ts : Tbs) (many : Nat) (left : List Nat) : List Rat := sprd many (liveL ts many left) ((List.range (liveL ts many left).length).map (xOf ts left (liveL ts many left)))
noncomputable def layR (ts : Tbs) (many : Nat) : Nat → List Nat → List (List Rat) × List Nat × List Rat
  | 0, left => ([], left, [])
  | f + 1, left => if left = [] then ([], [], []) else
    if (wOf ts many left).all (fun w => decide (w = 0)) then ([], left, (List.range left.length).map (yOf ts left (liveL ts many left)))
    else
      let r := layR ts many f (left.filter fun i => unwB (ts.getD i []) (wOf ts many left))
      (wOf ts many left :: r.1, r.2.1, r.2.2)
theorem fold_set {zs : List (Nat × Rat)} {u : Nat} : ∀ {f : List Rat}, (∀ z ∈ zs, z.1 ≠ u) → (zs.foldl (fun f z => f.set z.1 z.2) f)[u]? = f[u]? := by
  induction zs with
  | nil => intro f _; rfl
  | cons z zs ih =>
    intro f h
    rw [List.foldl_cons, ih fun x hx => h x (.tail _ hx), List.getElem?_set_ne (h z (.head _))]
theorem sprd_out {m u : Nat} {W : List Nat} {vs : List Rat} (h : u ∉ W) (hu : u < m) : (sprd m W vs)[u]? = some 0 := by
  unfold sprd
  rw [fold_set (u := u) fun z hz e => h (by rw [← e]; exact (List.of_mem_zip hz).1), List.getElem?_replicate, if_pos hu]
theorem wOf_len (ts : Tbs) (m : Nat) (left : List Nat) : (wOf ts m left).length = m := sprd_len _ _ _
theorem wOf_out {ts : Tbs} {m u : Nat} {left : List Nat} (h : u ∉ liveL ts m left) (hu : u < m) : (wOf ts m left)[u]? = some 0 := sprd_out h hu
theorem unwB_false {t : List (Option Rat)} {wz : List Rat} {u : Nat} {x : Rat} (h1 : (t.getD u none).isSome = true) (h2 : wz[u]? = some x) (h3 : x ≠ 0) : unwB t wz = false := by
  have hu : u < t.length := by
    rcases Nat.lt_or_ge u t.length with h | h
    · exact h
    · rw [List.getD_eq_getElem?_getD, List.getElem?_eq_none h] at h1; cases h1
  rw [List.getD_eq_getElem?_getD, List.getElem?_eq_getElem hu] at h1
  have hm : (t[u], x) ∈ t.zip wz := List.mem_of_getElem? (i := u) (List.getElem?_zip_eq_some.mpr ⟨List.getElem?_eq_getElem hu, h2⟩)
  unfold unwB
  rw [Bool.eq_false_iff]
  intro h
  have := List.all_eq_true.mp h _ hm
  rw [Bool.or_eq_true, decide_eq_true_eq] at this
  rcases this with y | y
  · have h1 : t[u].isSome = true := h1
    dsimp only at y
    cases e : t[u] with
    | none => rw [e] at h1; cases h1
    | some r => rw [e] at y; cases y
  · exact h3 y
theorem dec_left {ts : Tbs} {w : Nat} {left : List Nat} (h : (wOf ts w left).all (fun x => decide (x = 0)) = false) : (left.filter fun i => unwB (ts.getD i []) (wOf ts w left)).length < left.length := by
  obtain ⟨x, hx, hx0⟩ := List.all_eq_false.mp h
  have hx0 : x ≠ 0 := by simpa using hx0
  obtain ⟨u, hu, e⟩ := List.mem_iff_getElem.mp hx
  have hum : u < w := by rw [wOf_len] at hu; exact hu
  have hg : (wOf ts w left)[u]? = some x := by rw [List.getElem?_eq_getElem hu, e]
  have hl : u ∈ liveL ts w left := by
    by_cases c : u ∈ liveL ts w left
    · exact c
    · rw [wOf_out c hum] at hg
      injection hg with hg
      exact absurd hg.symm hx0
  obtain ⟨i, hi, hs⟩ := List.any_eq_true.mp (List.mem_filter.mp hl).2
  rw [List.length_filter_lt_length_iff_exists]
  refine ⟨i, hi, ?_⟩
  rw [unwB_false hs hg hx0]; decide
def Tin (K : Nat) (t : List (Option Rat)) : Prop := ∃ d : Nat, 0 < d ∧ d < 2 ^ K ∧ ∀ r, some r ∈ t → ∃ c : Int, (d : Rat) * r = (c : Rat) ∧ c.natAbs < 2 ^ K
theorem gtA_mem {ts : Tbs} {i u : Nat} {r : Rat} (h : gtA ts i u = some r) : some r ∈ ts.getD i [] := by
  unfold gtA at h
  rw [List.getD_eq_getElem?_getD (i := u)] at h
  cases e : (ts.getD i [])[u]? with
  | none => rw [e] at h; cases h
  | some o =>
    rw [e] at h
    have h : o = some r := h
    rw [h] at e
    exact List.mem_of_getElem? e
def addOO : Option Rat → Option Rat → Option Rat
  | none, b => b
  | some a, none => some a
  | some a, some b => some (a + b)
theorem addOO_none (a : Option Rat) : addOO a none = a := by cases a <;> rfl
theorem addOO_assoc (a b c : Option Rat) : addOO (addOO a b) c = addOO a (addOO b c) := by
  cases a <;> cases b <;> cases c <;> first | rfl | (show some _ = some _; congr 1; grind)
def tmG (s : Rat) : Option Rat → Option Rat
  | none => none
  | some g => if s = 0 then none else some (s * g)
theorem withG_tm (t : Option Rat) (s : Rat) (g : Option Rat) : withG t s g = addOO t (tmG s g) := by
  cases g with
  | none => exact (addOO_none t).symm
  | some g =>
    show (if s = 0 then t else addO t (s * g)) = addOO t (if s = 0 then none else some (s * g))
    by_cases h : s = 0
    · rw [if_pos h, if_pos h, addOO_none]
    · rw [if_neg h, if_neg h]; cases t <;> rfl
def zG (ls : List Nat) (u : List Bool) (z : Bid × Rat) : Option Rat := tmG z.2 (gainW z.1.2 (payS ls u z.1.1))
theorem bookW_sum (ls : List Nat) (u : List Bool) : ∀ (zs : List (Bid × Rat)) (a : Option Rat), bookW ls u zs a = addOO a (bookW ls u zs none)
  | [], a => (addOO_none a).symm
  | z :: zs, a => by
    rw [bookW_cons, bookW_cons, bookW_sum ls u zs, bookW_sum ls u zs (withG none _ _), withG_tm, withG_tm, addOO_assoc]; rfl
theorem bookW_zs (ls : List Nat) (u : List Bool) (z : Bid × Rat) (zs : List (Bid × Rat)) : bookW ls u (z :: zs) none = addOO (zG ls u z) (bookW ls u zs none) := by
  rw [bookW_cons, bookW_sum, withG_tm]; rfl
def oV (o : Option Rat) : Rat := o.getD 0
def dotL : List Rat → (Nat → Rat) → Rat
  | [], _ => 0
  | a :: l, h => a * h 0 + dotL l fun i => h (i + 1)
theorem dot_set : ∀ {f : List Rat} {i : Nat} {v : Rat} {h : Nat → Rat}, f[i]? = some 0 → dotL (f.set i v) h = dotL f h + v * h i
  | [], i, v, h, e => by simp at e
  | a :: l, 0, v, h, e => by
    have e : a = 0 := by simpa using e
    subst e
    show v * h 0 + _ = 0 * h 0 + _ + v * h 0
    grind
  | a :: l, i + 1, v, h, e => by
    show a * h 0 + dotL (l.set i v) _ = a * h 0 + dotL l _ + v * h (i + 1)
    rw [dot_set (f := l) (i := i) (by simpa using e)]; grind
theorem dot_zero : ∀ {f : List Rat} {h : Nat → Rat}, (∀ i, i < f.length → f.getD i 0 * h i = 0) → dotL f h = 0
  | [], _, _ => rfl
  | a :: l, h, e => by
    show a * h 0 + dotL l _ = 0
    have e0 : a * h 0 = 0 := e 0 (by simp)
    rw [e0, dot_zero (f := l) fun i hi => by have := e (i + 1) (by simpa using hi); simpa using this]; grind
theorem dot_rep (m : Nat) (h : Nat → Rat) : dotL (List.replicate m 0) h = 0 := dot_zero fun i hi => by
  rw [List.getD_eq_getElem?_getD, List.getElem?_replicate, if_pos (by simpa using hi)]
  show (0 : Rat) * _ = 0
  grind
theorem dot_congr : ∀ {f : List Rat} {h g : Nat → Rat}, (∀ i, i < f.length → h i = g i) → dotL f h = dotL f g
  | [], _, _, _ => rfl
  | a :: l, h, g, e => by
    show a * h 0 + dotL l _ = a * g 0 + dotL l _
    rw [e 0 (by simp), dot_congr (f := l) fun i hi => e (i + 1) (by simpa using hi)]
theorem dot_fold : ∀ {zs : List (Nat × Rat)} {f : List Rat} {h : Nat → Rat}, (zs.map Prod.fst).Nodup → (∀ z ∈ zs, f[z.1]? = some 0) → dotL (zs.foldl (fun f z => f.set z.1 z.2) f) h = dotL f h + (zs.map fun z => z.2 * h z.1).sum
  | [], f, h, _, _ => by show dotL f h = dotL f h + 0; grind
  | z :: zs, f, h, nd, hz => by
    rw [List.map_cons, List.nodup_cons] at nd
    rw [List.foldl_cons, dot_fold nd.2 (fun x hx => by rw [List.getElem?_set_ne fun e => nd.1 (by rw [e]; exact List.mem_map_of_mem hx)]; exact hz x (.tail _ hx)), dot_set (hz z (.head _)), List.map_cons, List.sum_cons]; grind
theorem zip_fst_sub {α β : Type} : ∀ (W : List α) (vs : List β), ((W.zip vs).map Prod.fst).Sublist W
  | [], _ => by rw [List.zip_nil_left]; exact List.Sublist.refl _
  | a :: W, [] => by rw [List.zip_nil_right]; exact List.nil_sublist _
  | a :: W, v :: vs => by rw [List.zip_cons_cons, List.map_cons]; exact (zip_fst_sub W vs).cons₂ a
theorem rng_sum (f : Nat → Rat) : ∀ n, ((List.range n).map f).sum = sumN n f
  | 0 => rfl
  | n + 1 => by
    rw [List.range_succ, List.map_append, List.sum_append, rng_sum f n]
    show _ + (f n + 0) = sumN n f + f n
    grind
theorem zip_rng_sum (W : List Nat) (x : Nat → Rat) (h : Nat → Rat) : ((W.zip ((List.range W.length).map x)).map fun z => z.2 * h z.1).sum = sumN W.length fun j => x j * h (W.getD j 0) := by
  rw [← rng_sum]
  congr 1
  have e := map_getD (fun i => i) W
  rw [List.map_id''] at e
  · conv => lhs; rw [e]
    rw [List.length_map, List.length_range, List.zip_map', List.map_map]; rfl
  · exact fun _ => rfl
theorem dot_sprd {m : Nat} {W : List Nat} (nd : W.Nodup) (hW : ∀ u ∈ W, u < m) (x : Nat → Rat) (h : Nat → Rat) : dotL (sprd m W ((List.range W.length).map x)) h = sumN W.length fun j => x j * h (W.getD j 0) := by
  unfold sprd
  rw [dot_fold (nd.sublist (zip_fst_sub _ _)) fun z hz => by rw [List.getElem?_replicate, if_pos (hW _ (List.of_mem_zip hz).1)], dot_rep, zip_rng_sum, Rat.zero_add]
theorem sprd_mem {m : Nat} {W : List Nat} {vs : List Rat} {v : Rat} (h : v ∈ sprd m W vs) : v = 0 ∨ v ∈ vs := by
  have key : ∀ (zs : List (Nat × Rat)) (f : List Rat), v ∈ zs.foldl (fun f z => f.set z.1 z.2) f → v ∈ f ∨ ∃ z ∈ zs, z.2 = v := by
    intro zs
    induction zs with
    | nil => exact fun f h => .inl h
    | cons z zs ih =>
      intro f h
      rcases ih _ h with y | ⟨y, y1, y2⟩
      · rcases List.mem_or_eq_of_mem_set y with q | q
        · exact .inl q
        · exact .inr ⟨z, .head _, q.symm⟩
      · exact .inr ⟨y, .tail _ y1, y2⟩
  rcases key _ _ h with y | ⟨y, y1, y2⟩
  · exact .inl (List.eq_of_mem_replicate y)
  · rw [← y2]; exact .inr (List.of_mem_zip y1).2
theorem sum_dot : ∀ ws : List Rat, ws.sum = dotL ws fun _ => 1
  | [] => rfl
  | w :: ws => by rw [List.sum_cons, sum_dot ws]; show _ = w * 1 + _; grind
theorem tt_dot : ∀ (ws : List Rat) (os : List (Option Rat)), ttR (ws.zip os) = dotL ws fun u => oV (os.getD u none)
  | [], _ => rfl
  | w :: ws, [] => by
    rw [List.zip_nil_right]
    exact (dot_zero fun i _ => by show _ * (0 : Rat) = 0; grind).symm
  | w :: ws, none :: os => by
    show ttR (ws.zip os) = w * 0 + dotL ws fun u => oV (os.getD u none)
    rw [tt_dot ws os]; grind
  | w :: ws, some p :: os => by
    show w * p + ttR (ws.zip os) = w * p + dotL ws fun u => oV (os.getD u none)
    rw [tt_dot ws os]
theorem lv_zero : ∀ {zs : List (Rat × Option Rat)}, (∀ z ∈ zs, 0 ≤ z.1) → (lvR zs = 0 ↔ ∀ z ∈ zs, z.2.isSome = true → z.1 = 0)
  | [], _ => ⟨fun _ z h => (List.not_mem_nil h).elim, fun _ => rfl⟩
  | (w, o) :: zs, h => by
    have h1 : ∀ z ∈ zs, 0 ≤ z.1 := fun x hx => h x (.tail _ hx)
    have hn := lv_nonneg h1
    have ih := lv_zero h1
    have h2 : 0 ≤ w := h _ (.head _)
    cases o with
    | none =>
      show lvR zs = 0 ↔ _
      rw [ih]
      constructor
      · intro g x hx hs
        rcases List.mem_cons.mp hx with y | y
        · rw [y] at hs; cases hs
        · exact g x y hs
      · exact fun g x hx => g x (.tail _ hx)
    | some p =>
      show w + lvR zs = 0 ↔ _
      constructor
      · intro g x hx hs
        rcases List.mem_cons.mp hx with y | y
        · rw [y]; show w = 0; grind
        · exact ih.mp (by grind) x y hs
      · intro g
        have e1 : w = 0 := g _ (.head _) rfl
        rw [e1, ih.mpr fun x hx => g x (.tail _ hx)]; grind
theorem tt_zero : ∀ {zs : List (Rat × Option Rat)}, (∀ z ∈ zs, z.2.isSome = true → z.1 = 0) → ttR zs = 0
  | [], _ => rfl
  | (w, none) :: zs, h => tt_zero (zs := zs) fun x hx => h x (.tail _ hx)
  | (w, some p) :: zs, h => by
    have e : w = 0 := h _ (.head _) rfl
    show w * p + ttR zs = 0
    rw [e, tt_zero (zs := zs) fun x hx => h x (.tail _ hx)]; grind
theorem neg_tt : ∀ {zs : List (Rat × Option Rat)}, (∀ z ∈ zs, 0 ≤ z.1) → (∀ z ∈ zs, ∀ r, z.2 = some r → r < 0) → ttR zs ≤ 0 ∧ (ttR zs = 0 → lvR zs = 0)
  | [], _, _ => ⟨Rat.le_refl, fun _ => rfl⟩
  | (w, none) :: zs, h, h' => neg_tt (zs := zs) (fun x hx => h x (.tail _ hx)) fun x hx => h' x (.tail _ hx)
  | (w, some p) :: zs, h, h' => by
    obtain ⟨i1, i2⟩ := neg_tt (zs := zs) (fun x hx => h x (.tail _ hx)) fun x hx => h' x (.tail _ hx)
    have hw : 0 ≤ w := h _ (.head _)
    have hp : p < 0 := h' _ (.head _) p rfl
    have key : 0 ≤ w * (-p) := Rat.mul_nonneg hw (by grind)
    show w * p + ttR zs ≤ 0 ∧ (w * p + ttR zs = 0 → w + lvR zs = 0)
    refine ⟨by grind, fun e => ?_⟩
    have e1 : w * p = 0 := by grind
    rcases Rat.mul_eq_zero.mp e1 with y | y
    · rw [y, i2 (by grind)]; grind
    · grind
theorem lv_le {α : Type} {f g : α → Option Rat} : ∀ {ws : List Rat} {W : List α}, (∀ w ∈ ws, 0 ≤ w) → (∀ u ∈ W, (f u).isSome = true → (g u).isSome = true) → lvR (ws.zip (W.map f)) ≤ lvR (ws.zip (W.map g))
  | [], _, _, _ => Rat.le_refl
  | _ :: _, [], _, _ => Rat.le_refl
  | w :: ws, u :: W, h, h' => by
    have ih := lv_le (f := f) (g := g) (ws := ws) (W := W) (fun x hx => h x (.tail _ hx)) fun x hx => h' x (.tail _ hx)
    have hw := h w (.head _)
    have hu := h' u (.head _)
    rw [List.map_cons, List.map_cons, List.zip_cons_cons, List.zip_cons_cons]
    cases e : f u with
    | none =>
      cases e2 : g u with
      | none => exact ih
      | some b => show lvR (ws.zip (W.map f)) ≤ w + lvR (ws.zip (W.map g)); grind
    | some a =>
      rw [e] at hu
      cases e2 : g u with
      | none => rw [e2] at hu; cases hu rfl
      | some b => show w + lvR (ws.zip (W.map f)) ≤ w + lvR (ws.zip (W.map g)); grind
theorem lv_gain (p : Rat) : ∀ (ws : List Rat) (os : List (Option Rat)), lvR (ws.zip (os.map (gainW p))) = lvR (ws.zip os) ∧ ttR (ws.zip (os.map (gainW p))) = ttR (ws.zip os) + -p * lvR (ws.zip os)
  | [], _ => ⟨rfl, by show (0 : Rat) = 0 + -p * 0; grind⟩
  | _ :: _, [] => ⟨rfl, by show (0 : Rat) = 0 + -p * 0; grind⟩
  | w :: ws, none :: os => lv_gain p ws os
  | w :: ws, some r :: os => by
    obtain ⟨h1, h2⟩ := lv_gain p ws os
    refine ⟨?_, ?_⟩
    · show w + lvR (ws.zip (os.map (gainW p))) = w + lvR (ws.zip os)
      rw [h1]
    · show w * (r + -p) + ttR (ws.zip (os.map (gainW p))) = w * r + ttR (ws.zip os) + -p * (w + lvR (ws.zip os))
      rw [h2]; grind
theorem mean_gain (p : Rat) (ws : List Rat) (os : List (Option Rat)) : meanR (ws.zip (os.map (gainW p))) = gainW p (meanR (ws.zip os)) := by
  obtain ⟨h1, h2⟩ := lv_gain p ws os
  unfold meanR
  rw [h1, h2]
  by_cases h : lvR (ws.zip os) = 0
  · rw [if_pos h, if_pos h]; rfl
  · rw [if_neg h, if_neg h]
    show some _ = some (_ + -p)
    congr 1
    rw [Rat.div_def, Rat.div_def, Rat.add_mul, Rat.mul_assoc, Rat.mul_inv_cancel _ h, Rat.mul_one]
theorem meanIn_gain (p : Rat) (os : List (Option Rat)) : ∀ Ls : List (List Rat), meanIn (os.map (gainW p)) Ls = gainW p (meanIn os Ls)
  | [] => rfl
  | ws :: Ls => by
    have ih : Ls.findSome? (fun ws => meanR (ws.zip (os.map (gainW p)))) = gainW p (Ls.findSome? fun ws => meanR (ws.zip os)) := meanIn_gain p os Ls
    unfold meanIn
    rw [List.findSome?_cons, List.findSome?_cons, mean_gain, ih]
    cases meanR (ws.zip os) <;> rfl
theorem bears_gain (os : List (Option Rat)) (Ls : List (List Rat)) (p : Rat) : bearsB os Ls p = true ↔ ∃ g, meanIn (os.map (gainW p)) Ls = some g ∧ 0 ≤ g := by
  rw [meanIn_gain]
  unfold bearsB
  cases meanIn os Ls with
  | none => exact ⟨fun h => (by cases h), fun ⟨g, h, _⟩ => (by cases h)⟩
  | some r =>
    show (!(decide (r < p))) = true ↔ ∃ g, some (r + -p) = some g ∧ 0 ≤ g
    rw [Bool.not_eq_true', decide_eq_false_iff_not]
    constructor
    · exact fun h => ⟨_, rfl, by grind⟩
    · rintro ⟨g, h, h2⟩ h3
      injection h with h
      grind
theorem sumN_eq0 {f : Nat → Rat} : ∀ {n : Nat}, (∀ k, k < n → 0 ≤ f k) → sumN n f = 0 → ∀ k, k < n → f k = 0
  | 0, _, _ => fun k h => absurd h (Nat.not_lt_zero _)
  | n + 1, h, e => by
    have h1 := sumN_nonneg (f := f) (n := n) fun k hk => h k (by omega)
    have h2 := h n (by omega)
    have e : sumN n f + f n = 0 := e
    intro k hk
    by_cases q : k = n
    · rw [q]; grind
    · exact sumN_eq0 (n := n) (fun k hk => h k (by omega)) (by grind) k (by omega)
theorem sumN_le {f g : Nat → Rat} : ∀ {n : Nat}, (∀ k, k < n → f k ≤ g k) → sumN n f ≤ sumN n g
  | 0, _ => Rat.le_refl
  | n + 1, h => by
    have h1 := sumN_le (n := n) fun k hk => h k (by omega)
    have h2 := h n (by omega)
    show sumN n f + f n ≤ sumN n g + g n
    grind
theorem negO_oV (o : Option Rat) : negO o = -(oV o) := by
  cases o with
  | none => show (0 : Rat) = -0; grind
  | some r => rfl
section
variable {ts : Tbs} {w q : Nat} {left : List Nat}
theorem wdot (h : Nat → Rat) : dotL (wOf ts w left) h = sumN (liveL ts w left).length fun j => xOf ts left (liveL ts w left) j * h ((liveL ts w left).getD j 0) := dot_sprd liveL_nd liveL_lt _ _
theorem w_nonneg : ∀ v ∈ wOf ts w left, 0 ≤ v := fun v hv => by
  rcases sprd_mem hv with y | y
  · rw [y]; exact Rat.le_refl
  · obtain ⟨j, hj, rfl⟩ := List.mem_map.mp y
    exact (lpOf_best ts left (liveL ts w left)).x0 j (List.mem_range.mp hj)
theorem y_last (W : List Nat) : sumN W.length (xOf ts left W) = yOf ts left W left.length := by
  have e := (lpOf_best ts left W).eq
  have e1 : sumN W.length (fun j => (1 : Rat) * xOf ts left W j) = sumN (left.length + 1) fun k => yOf ts left W k * (if k < left.length then 0 else 1) := e
  rw [sumN_congr (f := fun j => (1 : Rat) * xOf ts left W j) (g := xOf ts left W) fun k _ => Rat.one_mul _] at e1
  rw [e1, sumN_one (r := left.length) (by omega), if_neg (Nat.lt_irrefl _), Rat.mul_one]
  intro k hk ne
  rw [if_pos (by omega), Rat.mul_zero]
theorem row_le (W : List Nat) {k : Nat} (hk : k < left.length) : 0 ≤ sumN W.length fun j => xOf ts left W j * oV (gtA ts (left.getD k 0) (W.getD j 0)) := by
  have e := (lpOf_best ts left W).le k (by show k < left.length + 1; omega)
  have e1 : sumN W.length (fun j => (if k < left.length then negO (gtA ts (left.getD k 0) (W.getD j 0)) else 1) * xOf ts left W j) ≤ if k < left.length then 0 else 1 := e
  rw [if_pos hk, sumN_congr (g := fun j => (-1) * (xOf ts left W j * oV (gtA ts (left.getD k 0) (W.getD j 0)))) fun j _ => by rw [if_pos hk, negO_oV]; grind, sumN_mul] at e1
  grind
theorem col_ge (W : List Nat) {j : Nat} (hj : j < W.length) : 1 ≤ -(sumN left.length fun k => yOf ts left W k * oV (gtA ts (left.getD k 0) (W.getD j 0))) + yOf ts left W left.length := by
  have e := (lpOf_best ts left W).ge j hj
  have e1 : (1 : Rat) ≤ sumN left.length (fun k => yOf ts left W k * (if k < left.length then negO (gtA ts (left.getD k 0) (W.getD j 0)) else 1)) + yOf ts left W left.length * (if left.length < left.length then _ else 1) := e
  rw [if_neg (Nat.lt_irrefl _), Rat.mul_one, sumN_congr (g := fun k => (-1) * (yOf ts left W k * oV (gtA ts (left.getD k 0) (W.getD j 0)))) fun k hk => by rw [if_pos hk, negO_oV]; grind, sumN_mul] at e1
  grind
theorem fair_tt {i : Nat} (hi : i ∈ left) : 0 ≤ ttR ((wOf ts w left).zip (ts.getD i [])) := by
  rw [tt_dot, wdot]
  obtain ⟨k, hk, e⟩ := List.mem_iff_getElem.mp hi
  have := row_le (ts := ts) (liveL ts w left) hk
  rw [List.getD_eq_getElem?_getD, List.getElem?_eq_getElem hk, Option.getD_some, e] at this
  exact this
theorem sum_w : (wOf ts w left).sum = sumN (liveL ts w left).length (xOf ts left (liveL ts w left)) := by
  rw [sum_dot, wdot]
  exact sumN_congr fun j _ => Rat.mul_one _
theorem one_of (h : (wOf ts w left).all (fun x => decide (x = 0)) = false) : (wOf ts w left).sum = 1 := by
  obtain ⟨W, hW⟩ : ∃ W, liveL ts w left = W := ⟨_, rfl⟩
  rw [sum_w, hW]
  have B := lpOf_best ts left W
  have x0 : ∀ j, j < W.length → 0 ≤ xOf ts left W j := B.x0
  have y0 : ∀ k, k < left.length + 1 → 0 ≤ yOf ts left W k := B.y0
  have hy := y_last (ts := ts) (left := left) W
  obtain ⟨σ, hσ⟩ : ∃ σ, sumN W.length (xOf ts left W) = σ := ⟨_, rfl⟩
  have s0 : 0 ≤ σ := by rw [← hσ]; exact sumN_nonneg x0
  have sne : σ ≠ 0 := fun z => by
    obtain ⟨x, hx, hx0⟩ := List.all_eq_false.mp h
    rcases sprd_mem hx with y | y
    · exact hx0 (decide_eq_true y)
    · obtain ⟨j, hj, e⟩ := List.mem_map.mp y
      rw [hW] at hj e
      have := sumN_eq0 x0 (hσ.trans z) j (List.mem_range.mp hj)
      exact hx0 (decide_eq_true (e.symm.trans this))
  have s1 : σ ≤ 1 := by
    have e := B.le left.length (by show left.length < left.length + 1; omega)
    have e1 : sumN W.length (fun j => (if left.length < left.length then negO (gtA ts (left.getD left.length 0) (W.getD j 0)) else 1) * xOf ts left W j) ≤ if left.length < left.length then 0 else 1 := e
    rw [if_neg (Nat.lt_irrefl _), sumN_congr (g := xOf ts left W) fun j _ => by rw [if_neg (Nat.lt_irrefl _), Rat.one_mul], hσ] at e1
    exact e1
  rw [hσ] at hy
  have key : sumN W.length (xOf ts left W) ≤ sumN W.length fun j => xOf ts left W j * (-(sumN left.length fun k => yOf ts left W k * oV (gtA ts (left.getD k 0) (W.getD j 0))) + σ) := sumN_le fun j hj => by
    have := Rat.mul_le_mul_of_nonneg_left (hy ▸ col_ge (ts := ts) (left := left) W hj) (x0 j hj)
    rw [Rat.mul_one] at this
    exact this
  have e2 : sumN W.length (fun j => xOf ts left W j * (-(sumN left.length fun k => yOf ts left W k * oV (gtA ts (left.getD k 0) (W.getD j 0))) + σ)) = -(sumN left.length fun k => yOf ts left W k * sumN W.length fun j => xOf ts left W j * oV (gtA ts (left.getD k 0) (W.getD j 0))) + σ * σ := by
    rw [sumN_congr (g := fun j => (-1) * (sumN left.length fun k => yOf ts left W k * (xOf ts left W j * oV (gtA ts (left.getD k 0) (W.getD j 0)))) + σ * xOf ts left W j) fun j _ => by
      rw [sumN_congr (f := fun k => yOf ts left W k * (xOf ts left W j * oV (gtA ts (left.getD k 0) (W.getD j 0)))) (g := fun k => xOf ts left W j * (yOf ts left W k * oV (gtA ts (left.getD k 0) (W.getD j 0)))) fun k _ => by grind, sumN_mul]; grind, sumN_add, sumN_mul, sumN_mul, hσ, sumN_swap]
    rw [sumN_congr (f := fun k => sumN W.length _) (g := fun k => yOf ts left W k * sumN W.length fun j => xOf ts left W j * oV (gtA ts (left.getD k 0) (W.getD j 0))) fun k _ => sumN_mul _ _ _]
    grind
  have e3 : 0 ≤ sumN left.length fun k => yOf ts left W k * sumN W.length fun j => xOf ts left W j * oV (gtA ts (left.getD k 0) (W.getD j 0)) := sumN_nonneg fun k hk => Rat.mul_nonneg (y0 k (by omega)) (row_le W hk)
  rw [e2, hσ] at key
  have e4 : σ * 1 ≤ σ * σ := by grind
  have := Rat.le_of_mul_le_mul_left e4 (by grind)
  grind
theorem unw_true {t : List (Option Rat)} {wz : List Rat} (h0 : ∀ v ∈ wz, 0 ≤ v) : unwB t wz = true ↔ lvR (wz.zip t) = 0 := by
  rw [lv_zero fun z hz => h0 _ (List.of_mem_zip hz).1]
  unfold unwB
  rw [List.all_eq_true]
  have sw : ∀ {t : List (Option Rat)} {wz : List Rat} (o : Option Rat) (v : Rat), (o, v) ∈ t.zip wz ↔ (v, o) ∈ wz.zip t := by
    intro t
    induction t with
    | nil => intro wz o v; rw [List.zip_nil_left, List.zip_nil_right]; exact ⟨fun h => (List.not_mem_nil h).elim, fun h => (List.not_mem_nil h).elim⟩
    | cons a t ih =>
      intro wz o v
      cases wz with
      | nil => rw [List.zip_nil_left, List.zip_nil_right]; exact ⟨fun h => (List.not_mem_nil h).elim, fun h => (List.not_mem_nil h).elim⟩
      | cons b wz =>
        rw [List.zip_cons_cons, List.zip_cons_cons, List.mem_cons, List.mem_cons, ih]
        simp only [Prod.mk.injEq]
        constructor
        · rintro (⟨rfl, rfl⟩ | h)
          · exact .inl ⟨rfl, rfl⟩
          · exact .inr h
        · rintro (⟨rfl, rfl⟩ | h)
          · exact .inl ⟨rfl, rfl⟩
          · exact .inr h
  constructor
  · rintro h ⟨v, o⟩ hz hs
    have := h (o, v) ((sw o v).mpr hz)
    rw [Bool.or_eq_true, decide_eq_true_eq] at this
    rcases this with y | y
    · cases o <;> simp at y hs
    · exact y
  · rintro h ⟨o, v⟩ hz
    rw [Bool.or_eq_true, decide_eq_true_eq]
    cases o with
    | none => exact .inl rfl
    | some r => exact .inr (h (v, some r) ((sw _ _).mp hz) rfl)
structure LayOk (ts : Tbs) (w : Nat) (left : List Nat) (r : List (List Rat) × List Nat × List Rat) : Prop where
  wg : ∀ ws ∈ r.1, ws.length = w ∧ (∀ v ∈ ws, 0 ≤ v) ∧ ws.sum = 1
  len : r.1.length ≤ left.length
  sub : r.2.1.Sublist left
  fair : r.2.1 = [] → ∀ i ∈ left, ∃ g, meanIn (ts.getD i []) r.1 = some g ∧ 0 ≤ g
  loss : r.2.1 ≠ [] → (wOf ts w r.2.1).all (fun x => decide (x = 0)) = true ∧ r.2.2 = (List.range r.2.1.length).map (yOf ts r.2.1 (liveL ts w r.2.1))
end
theorem lay_ok (ts : Tbs) (w : Nat) : ∀ (f : Nat) (left : List Nat), left.length < f → LayOk ts w left (layR ts w f left)
  | 0, _, h => absurd h (Nat.not_lt_zero _)
  | f + 1, left, h => by
    unfold layR
    by_cases h0 : left = []
    · rw [if_pos h0]
      exact ⟨fun ws h => (List.not_mem_nil h).elim, Nat.zero_le _, List.nil_sublist _, fun _ i hi => by rw [h0] at hi; exact (List.not_mem_nil hi).elim, fun z => (z rfl).elim⟩
    · rw [if_neg h0]
      cases c : (wOf ts w left).all (fun x => decide (x = 0)) with
      | true =>
        rw [if_pos rfl]
        exact ⟨fun ws h => (List.not_mem_nil h).elim, Nat.zero_le _, List.Sublist.refl _, fun z => (h0 z).elim, fun _ => ⟨c, rfl⟩⟩
      | false =>
        rw [if_neg Bool.false_ne_true]
        have hdec := dec_left c
        have ih := lay_ok ts w f (left.filter fun i => unwB (ts.getD i []) (wOf ts w left)) (by omega)
        refine ⟨fun ws hw => ?_, ?_, ih.sub.trans List.filter_sublist, fun z i hi => ?_, ih.loss⟩
        · rcases List.mem_cons.mp hw with y | y
          · rw [y]; exact ⟨wOf_len _ _ _, w_nonneg, one_of c⟩
          · exact ih.wg ws y
        · have := ih.len
          show (_ :: _).length ≤ _
          rw [List.length_cons]; omega
        · show ∃ g, meanIn (ts.getD i []) (wOf ts w left :: _) = some g ∧ 0 ≤ g
          unfold meanIn
          rw [List.findSome?_cons]
          by_cases u : unwB (ts.getD i []) (wOf ts w left) = true
          · rw [mean_none.mpr ((unw_true w_nonneg).mp u)]
            exact ih.fair z i (List.mem_filter.mpr ⟨hi, u⟩)
          · have lv : lvR ((wOf ts w left).zip (ts.getD i [])) ≠ 0 := fun e => u ((unw_true w_nonneg).mpr e)
            have lp := lv_nonneg (zs := (wOf ts w left).zip (ts.getD i [])) fun z hz => w_nonneg _ (List.of_mem_zip hz).1
            have e : meanR ((wOf ts w left).zip (ts.getD i [])) = some (ttR ((wOf ts w left).zip (ts.getD i [])) / lvR ((wOf ts w left).zip (ts.getD i []))) := if_neg lv
            rw [e]
            exact ⟨_, rfl, div_nonneg' (fair_tt hi) (by grind)⟩
theorem tm_some {s : Rat} {g : Option Rat} : (tmG s g).isSome = true ↔ s ≠ 0 ∧ g.isSome = true := by
  cases g with
  | none => exact ⟨fun h => (by cases h), fun h => (by cases h.2)⟩
  | some g =>
    show (if s = 0 then none else some (s * g)).isSome = true ↔ _
    by_cases h : s = 0
    · rw [if_pos h]; exact ⟨fun z => (by cases z), fun z => (z.1 h).elim⟩
    · rw [if_neg h]; exact ⟨fun _ => ⟨h, rfl⟩, fun _ => rfl⟩
theorem book_some {ls : List Nat} {u : List Bool} : ∀ {zs : List (Bid × Rat)}, (bookW ls u zs none).isSome = true ↔ ∃ z ∈ zs, z.2 ≠ 0 ∧ (gainW z.1.2 (payS ls u z.1.1)).isSome = true
  | [] => ⟨fun h => (by cases h), fun ⟨z, h, _⟩ => (List.not_mem_nil h).elim⟩
  | z :: zs => by
    have ad : ∀ a b : Option Rat, (addOO a b).isSome = true ↔ a.isSome = true ∨ b.isSome = true := fun a b => by cases a <;> cases b <;> simp [addOO]
    rw [bookW_zs, ad, book_some (zs := zs)]
    unfold zG
    rw [tm_some]
    constructor
    · rintro (h | ⟨x, hx, h⟩)
      · exact ⟨z, .head _, h⟩
      · exact ⟨x, .tail _ hx, h⟩
    · rintro ⟨x, hx, h⟩
      rcases List.mem_cons.mp hx with y | y
      · rw [y] at h; exact .inl h
      · exact .inr ⟨x, y, h⟩
theorem tt_add {α : Type} (f g : α → Option Rat) : ∀ (ws : List Rat) (W : List α), ttR (ws.zip (W.map fun u => addOO (f u) (g u))) = ttR (ws.zip (W.map f)) + ttR (ws.zip (W.map g))
  | [], _ => by show (0 : Rat) = 0 + 0; grind
  | _ :: _, [] => by show (0 : Rat) = 0 + 0; grind
  | w :: ws, u :: W => by
    have ih := tt_add f g ws W
    simp only [List.map_cons, List.zip_cons_cons]
    cases f u <;> cases g u
    · exact ih
    · show w * _ + ttR _ = ttR (ws.zip (W.map f)) + (w * _ + ttR _); rw [ih]; grind
    · show w * _ + ttR _ = w * _ + ttR _ + ttR (ws.zip (W.map g)); rw [ih]; grind
    · show w * (_ + _) + ttR _ = w * _ + ttR _ + (w * _ + ttR _); rw [ih]; grind
theorem tt_tm {α : Type} (s : Rat) (f : α → Option Rat) : ∀ (ws : List Rat) (W : List α), ttR (ws.zip (W.map fun u => tmG s (f u))) = s * ttR (ws.zip (W.map f))
  | [], _ => by show (0 : Rat) = s * 0; grind
  | _ :: _, [] => by show (0 : Rat) = s * 0; grind
  | w :: ws, u :: W => by
    have ih := tt_tm s f ws W
    simp only [List.map_cons, List.zip_cons_cons]
    cases f u with
    | none => exact ih
    | some g =>
      show ttR ((w, if s = 0 then none else some (s * g)) :: _) = s * (w * g + ttR _)
      by_cases h : s = 0
      · rw [if_pos h]
        show ttR (ws.zip (W.map fun u => tmG s (f u))) = _
        rw [ih, h]; grind
      · rw [if_neg h]
        show w * (s * g) + ttR _ = _
        rw [ih]; grind
theorem tt_book (ls : List Nat) (rs : List (List Wd)) (ws : List Rat) : ∀ zs : List (Bid × Rat), ttR (ws.zip ((worldsOf ls rs).map fun u => bookW ls u zs none)) = (zs.map fun z => z.2 * ttR (ws.zip (gainsB ls rs z.1))).sum
  | [] => by
    show _ = (0 : Rat)
    refine tt_zero fun z hz hs => ?_
    obtain ⟨u, _, e⟩ := List.mem_map.mp (List.of_mem_zip hz).2
    rw [← e] at hs
    cases hs
  | z :: zs => by
    rw [List.map_cons, List.sum_cons, ← tt_book ls rs ws zs, List.map_congr_left (g := fun u => addOO (tmG z.2 (gainW z.1.2 (payS ls u z.1.1))) (bookW ls u zs none)) fun u _ => bookW_zs ls u z zs, tt_add, tt_tm]
    unfold gainsB tabS
    rw [List.map_map]; rfl
theorem loses_alive {os : List (Option Rat)} (h : losesB os = true) : (∃ r, some r ∈ os) ∧ ∀ r, some r ∈ os → r < 0 := by
  have key : ∀ r, some r ∈ os → r < 0 := fun r hr => by
    by_cases c : r < 0
    · exact c
    · rw [loses_not hr c] at h; cases h
  refine ⟨?_, key⟩
  refine Classical.byContradiction fun z => ?_
  have : os.filterMap id = [] := by
    rw [List.filterMap_eq_nil_iff]
    intro o ho
    cases o with
    | none => rfl
    | some r => exact (z ⟨r, ho⟩).elim
  revert h
  unfold losesB
  simp [this]
theorem no_loss' {ls : List Nat} {rs : List (List Wd)} {zs : List (Bid × Rat)} (hs : ∀ z ∈ zs, 0 ≤ z.2) (hn : ∀ r, some r ∈ (worldsOf ls rs).map (fun u => bookW ls u zs none) → r < 0) : ∀ {Ls : List (List Rat)}, (∀ ws ∈ Ls, ∀ w ∈ ws, 0 ≤ w) → (∀ z ∈ zs, z.2 ≠ 0 → ∃ g, meanIn (gainsB ls rs z.1) Ls = some g ∧ 0 ≤ g) → ∀ z ∈ zs, z.2 = 0
  | [], _, h => fun z hz => by
    by_cases c : z.2 = 0
    · exact c
    · obtain ⟨g, e, _⟩ := h z hz c
      cases e
  | ws :: Ls, hL, h => by
    have w0 := hL ws (.head _)
    have hb := tt_book ls rs ws zs
    have t0 : ∀ z ∈ zs, z.2 ≠ 0 → 0 ≤ ttR (ws.zip (gainsB ls rs z.1)) := fun z hz c => by
      obtain ⟨g, e, g0⟩ := h z hz c
      have ln := lv_nonneg (zs := ws.zip (gainsB ls rs z.1)) fun x hx => w0 _ (List.of_mem_zip hx).1
      by_cases l0 : lvR (ws.zip (gainsB ls rs z.1)) = 0
      · rw [tt_zero ((lv_zero fun x hx => w0 _ (List.of_mem_zip hx).1).mp l0)]; exact Rat.le_refl
      · unfold meanIn at e
        rw [List.findSome?_cons] at e
        have em : meanR (ws.zip (gainsB ls rs z.1)) = some (ttR (ws.zip (gainsB ls rs z.1)) / lvR (ws.zip (gainsB ls rs z.1))) := if_neg l0
        rw [em] at e
        injection e with e
        have := mul_div' (b := ttR (ws.zip (gainsB ls rs z.1))) l0
        rw [e] at this
        rw [← this]
        exact Rat.mul_nonneg ln g0
    have sn : ∀ l : List Rat, (∀ x ∈ l, 0 ≤ x) → 0 ≤ l.sum := fun l => by
      induction l with
      | nil => exact fun _ => Rat.le_refl
      | cons a l ih =>
        intro h
        rw [List.sum_cons]
        have h1 := ih fun x hx => h x (.tail _ hx)
        have h2 := h a (.head _)
        grind
    have s0 : 0 ≤ (zs.map fun z => z.2 * ttR (ws.zip (gainsB ls rs z.1))).sum := sn _ fun x hx => by
      obtain ⟨z, hz, rfl⟩ := List.mem_map.mp hx
      by_cases c : z.2 = 0
      · rw [c]; grind
      · exact Rat.mul_nonneg (hs z hz) (t0 z hz c)
    obtain ⟨n1, n2⟩ := neg_tt (zs := ws.zip ((worldsOf ls rs).map fun u => bookW ls u zs none)) (fun x hx => w0 _ (List.of_mem_zip hx).1) fun x hx r e => hn r (by rw [← e]; exact (List.of_mem_zip hx).2)
    have l0 := n2 (by grind)
    refine no_loss' hs hn (Ls := Ls) (fun x hx => hL x (.tail _ hx)) fun z hz c => ?_
    obtain ⟨g, e, g0⟩ := h z hz c
    have le : lvR (ws.zip (gainsB ls rs z.1)) ≤ lvR (ws.zip ((worldsOf ls rs).map fun u => bookW ls u zs none)) := by
      have e1 : gainsB ls rs z.1 = (worldsOf ls rs).map fun u => gainW z.1.2 (payS ls u z.1.1) := by unfold gainsB tabS; rw [List.map_map]; rfl
      rw [e1]
      exact lv_le w0 fun u _ hu => book_some.mpr ⟨z, hz, c, hu⟩
    have ln := lv_nonneg (zs := ws.zip (gainsB ls rs z.1)) fun x hx => w0 _ (List.of_mem_zip hx).1
    have lz : lvR (ws.zip (gainsB ls rs z.1)) = 0 := by grind
    unfold meanIn at e
    rw [List.findSome?_cons, mean_none.mpr lz] at e
    exact ⟨g, e, g0⟩
theorem no_loss {ls : List Nat} {rs : List (List Wd)} {bs : List Bid} {st : List Rat} {Ls : List (List Rat)} (hs : ∀ s ∈ st, 0 ≤ s) (hL : ∀ ws ∈ Ls, ∀ w ∈ ws, 0 ≤ w) (hb : ∀ b ∈ bs, bearsB (tabS ls rs b.1) Ls b.2 = true) : losesB (gainsOf ls rs bs st) = false := by
  rw [Bool.eq_false_iff]
  intro h
  obtain ⟨⟨r, hr⟩, hn⟩ := loses_alive h
  have key := no_loss' (ls := ls) (rs := rs) (zs := bs.zip st) (fun z hz => hs _ (List.of_mem_zip hz).2) hn hL fun z hz _ => (bears_gain _ _ _).mp (hb _ (List.of_mem_zip hz).1)
  obtain ⟨u, _, e⟩ := List.mem_map.mp hr
  obtain ⟨z, hz, c, _⟩ := book_some.mp (show (bookW ls u (bs.zip st) none).isSome = true by rw [e]; rfl)
  exact c (key z hz)
theorem oV_book {ls : List Nat} {u : List Bool} : ∀ {bs : List Bid} {st : List Rat} {h : Nat → Rat}, bs.length = st.length → (∀ i b, bs[i]? = some b → h i = oV (gainW b.2 (payS ls u b.1))) → oV (bookW ls u (bs.zip st) none) = dotL st h
  | [], [], _, _, _ => rfl
  | b :: bs, s :: st, h, hl, e => by
    have ad : ∀ a b : Option Rat, oV (addOO a b) = oV a + oV b := fun a b => by
      cases a <;> cases b
      · show (0 : Rat) = 0 + 0; grind
      · show _ = (0 : Rat) + _; rw [Rat.zero_add]; rfl
      · show _ = _ + (0 : Rat); rw [Rat.add_zero]; rfl
      · rfl
    have tm : ∀ s g, oV (tmG s g) = s * oV g := fun s g => by
      cases g with
      | none => show (0 : Rat) = s * 0; grind
      | some g =>
        show oV (if s = 0 then none else some (s * g)) = s * g
        by_cases c : s = 0
        · rw [if_pos c, c]; show (0 : Rat) = 0 * g; grind
        · rw [if_neg c]; rfl
    rw [List.zip_cons_cons, bookW_zs, ad, oV_book (bs := bs) (st := st) (h := fun i => h (i + 1)) (by simpa using hl) fun i b hb => e (i + 1) b (by simpa using hb)]
    show oV (tmG s _) + _ = s * h 0 + _
    rw [tm, e 0 b rfl]
theorem gtA_get {ls : List Nat} {rs : List (List Wd)} {bs : List Bid} {i u : Nat} {b : Bid} {U : List Bool} (hb : bs[i]? = some b) (hu : (worldsOf ls rs)[u]? = some U) : gtA (bs.map (gainsB ls rs)) i u = gainW b.2 (payS ls U b.1) := by
  unfold gtA
  rw [List.getD_eq_getElem?_getD (l := bs.map _), List.getElem?_map, hb]
  show ((tabS ls rs b.1).map (gainW b.2)).getD u none = _
  unfold tabS
  rw [List.map_map, List.getD_eq_getElem?_getD, List.getElem?_map, hu]; rfl
theorem loss_ok {ls : List Nat} {rs : List (List Wd)} {bs : List Bid} {left : List Nat} (hl : left ≠ []) (hi : ∀ i ∈ left, i < bs.length) (nd : left.Nodup) (hlive : ∀ b ∈ bs, ((worldsOf ls rs).any fun u => valS ls u b.1.2) = true)
    (h0 : (wOf (bs.map (gainsB ls rs)) (worldsOf ls rs).length left).all (fun x => decide (x = 0)) = true) : losesB (gainsOf ls rs bs (sprd bs.length left ((List.range left.length).map (yOf (bs.map (gainsB ls rs)) left (liveL (bs.map (gainsB ls rs)) (worldsOf ls rs).length left))))) = true := by
  obtain ⟨ts, hts⟩ : ∃ ts, bs.map (gainsB ls rs) = ts := ⟨_, rfl⟩
  rw [hts] at h0 ⊢
  obtain ⟨W, hW⟩ : ∃ W, liveL ts (worldsOf ls rs).length left = W := ⟨_, rfl⟩
  rw [hW]
  obtain ⟨st, hst⟩ : ∃ st, sprd bs.length left ((List.range left.length).map (yOf ts left W)) = st := ⟨_, rfl⟩
  rw [hst]
  have lst : bs.length = st.length := by rw [← hst, sprd_len]
  have y00 : yOf ts left W left.length = 0 := by
    rw [← y_last, ← hW, ← sum_w, sum_dot]
    exact dot_zero fun i hi => by
      rw [List.getD_eq_getElem?_getD, List.getElem?_eq_getElem hi, Option.getD_some, of_decide_eq_true (List.all_eq_true.mp h0 _ (List.getElem_mem hi)), Rat.zero_mul]
  have hdot : ∀ u U, (worldsOf ls rs)[u]? = some U → oV (bookW ls U (bs.zip st) none) = sumN left.length fun k => yOf ts left W k * oV (gtA ts (left.getD k 0) u) := fun u U hu => by
    rw [oV_book (h := fun i => oV (gtA ts i u)) lst fun i b hb => by rw [← hts, gtA_get hb hu], ← hst, dot_sprd nd hi]
  have hlt : ∀ u U, (worldsOf ls rs)[u]? = some U → u ∈ W → ∃ r, bookW ls U (bs.zip st) none = some r ∧ r < 0 := fun u U hu huW => by
    obtain ⟨j, hj, e⟩ := List.mem_iff_getElem.mp huW
    have hc := col_ge (ts := ts) (left := left) W hj
    rw [y00, List.getD_eq_getElem?_getD, List.getElem?_eq_getElem hj, Option.getD_some, e, ← hdot u U hu] at hc
    cases eb : bookW ls U (bs.zip st) none with
    | none =>
      rw [eb] at hc
      have hc : (1 : Rat) ≤ -0 + 0 := hc
      grind
    | some r =>
      rw [eb] at hc
      have hc : (1 : Rat) ≤ -r + 0 := hc
      exact ⟨r, rfl, by grind⟩
  have hin : ∀ u U, (worldsOf ls rs)[u]? = some U → ∀ i b, i ∈ left → bs[i]? = some b → (gainW b.2 (payS ls U b.1)).isSome = true → u ∈ W := fun u U hu i b him hb hs => by
    rw [← hW]
    refine List.mem_filter.mpr ⟨List.mem_range.mpr (List.getElem?_eq_some_iff.mp hu).1, List.any_eq_true.mpr ⟨i, him, ?_⟩⟩
    rw [← hts, gtA_get hb hu]; exact hs
  have ps : ∀ (p : Rat) (o : Option Rat), (gainW p o).isSome = o.isSome := fun p o => by cases o <;> rfl
  -- some world at which it lives
  obtain ⟨i, him⟩ := List.exists_mem_of_ne_nil _ hl
  obtain ⟨b, hb⟩ : ∃ b, bs[i]? = some b := ⟨_, List.getElem?_eq_getElem (hi i him)⟩
  obtain ⟨U, hU, hv⟩ := List.any_eq_true.mp (hlive b (List.mem_of_getElem? hb))
  obtain ⟨u, hu⟩ := List.mem_iff_getElem?.mp hU
  have hp : (payS ls U b.1).isSome = true := by unfold payS; rw [if_pos hv]; rfl
  obtain ⟨r, er, _⟩ := hlt u U hu (hin u U hu i b him hb (by rw [ps]; exact hp))
  refine loses_of (r := r) ?_ fun r' hr' => ?_
  · rw [← er]; exact List.mem_map_of_mem hU
  · obtain ⟨U', hU', e'⟩ := List.mem_map.mp hr'
    obtain ⟨u', hu'⟩ := List.mem_iff_getElem?.mp hU'
    obtain ⟨z, hz, c, hs⟩ := book_some.mp (show (bookW ls U' (bs.zip st) none).isSome = true by rw [e']; rfl)
    obtain ⟨i', hi'⟩ := List.mem_iff_getElem?.mp hz
    rw [List.getElem?_zip_eq_some] at hi'
    have hm : i' ∈ left := by
      refine Classical.byContradiction fun q => ?_
      have h1 : i' < bs.length := (List.getElem?_eq_some_iff.mp hi'.1).1
      have := sprd_out (vs := (List.range left.length).map (yOf ts left W)) q h1
      rw [hst, hi'.2] at this
      injection this with this
      exact c this
    obtain ⟨r2, er2, hr2⟩ := hlt u' U' hu' (hin u' U' hu' i' z.1 hm hi'.1 hs)
    rw [e'] at er2
    injection er2 with er2
    rw [er2]; exact hr2

def jTs (ls : List Nat) (rs : List (List Wd)) (bs : List Bid) : Tbs := bs.map (gainsB ls rs)
noncomputable def jR (ls : List Nat) (rs : List (List Wd)) (bs : List Bid) : List (List Rat) × List Nat × List Rat := layR (jTs ls rs bs) (worldsOf ls rs).length (bs.length + 1) (List.range bs.length)
noncomputable def jSt (ls : List Nat) (rs : List (List Wd)) (bs : List Bid) : List Rat := sprd bs.length (jR ls rs bs).2.1 (jR ls rs bs).2.2
theorem lay_none2 {ts : Tbs} {w : Nat} : ∀ {f : Nat} {left : List Nat}, (layR ts w f left).2.1 = [] → (layR ts w f left).2.2 = []
  | 0, _, _ => rfl
  | f + 1, left, h => by
    unfold layR at h ⊢
    by_cases h0 : left = []
    · rw [if_pos h0]
    · rw [if_neg h0] at h ⊢
      cases c : (wOf ts w left).all (fun x => decide (x = 0)) with
      | true => rw [c, if_pos rfl] at h; exact (h0 h).elim
      | false => rw [c, if_neg Bool.false_ne_true] at h; rw [if_neg Bool.false_ne_true]; exact lay_none2 h
section
variable {ls : List Nat} {rs : List (List Wd)} {bs : List Bid}
theorem jTs_len : (jTs ls rs bs).length = bs.length := List.length_map _
theorem jTs_get {i : Nat} {b : Bid} (h : bs[i]? = some b) : (jTs ls rs bs).getD i [] = gainsB ls rs b := by
  unfold jTs
  rw [List.getD_eq_getElem?_getD, List.getElem?_map, h]; rfl
theorem jOk : LayOk (jTs ls rs bs) (worldsOf ls rs).length (List.range bs.length) (jR ls rs bs) := lay_ok _ _ _ _ (by rw [List.length_range]; omega)
theorem j_left : ∀ i ∈ (jR ls rs bs).2.1, i < bs.length := fun i hi => List.mem_range.mp (jOk.sub.subset hi)
theorem j_fair (h : (jR ls rs bs).2.1 = []) : ∀ b ∈ bs, bearsB (tabS ls rs b.1) (jR ls rs bs).1 b.2 = true := fun b hb => by
  obtain ⟨i, hi⟩ := List.mem_iff_getElem?.mp hb
  have := jOk.fair h i (List.mem_range.mpr (List.getElem?_eq_some_iff.mp hi).1)
  rw [jTs_get hi] at this
  exact (bears_gain _ _ _).mpr this
theorem j_loss (hl : ∀ b ∈ bs, ((worldsOf ls rs).any fun u => valS ls u b.1.2) = true) (h : (jR ls rs bs).2.1 ≠ []) : losesB (gainsOf ls rs bs (jSt ls rs bs)) = true := by
  obtain ⟨h1, h2⟩ := jOk.loss h
  unfold jSt
  rw [h2]
  exact loss_ok h j_left (List.nodup_range.sublist jOk.sub) hl h1
theorem jSt_nonneg : ∀ s ∈ jSt ls rs bs, 0 ≤ s := fun s hs => by
  rcases sprd_mem hs with y | y
  · rw [y]; exact Rat.le_refl
  · by_cases h : (jR ls rs bs).2.1 = []
    · have e : (jR ls rs bs).2.2 = [] ∨ (jR ls rs bs).2.1 ≠ [] := .inl (lay_none2 h)
      rcases e with e | e
      · rw [e] at y; exact (List.not_mem_nil y).elim
      · exact (e h).elim
    · rw [(jOk.loss h).2] at y
      obtain ⟨k, hk, rfl⟩ := List.mem_map.mp y
      exact (lpOf_best _ _ _).y0 k (by have := List.mem_range.mp hk; show k < (jR ls rs bs).2.1.length + 1; omega)
end
def JSz (ts : Tbs) (w : Nat) (left : List Nat) (B : Nat) : Prop := ∀ l W : List Nat, l.Sublist left → (∀ u ∈ W, u < w) → LpSz (lpOf ts l W) B
structure JIn (ls : List Nat) (rs : List (List Wd)) (bs : List Bid) (B : Nat) : Prop where
  few : bs.length ≤ 19
  sz : JSz (jTs ls rs bs) (worldsOf ls rs).length (List.range bs.length) B
  le : B ≤ 10000000
  one : 1 ≤ B
def WgL (m q : Nat) (Ls : List (List Rat)) : Prop := ∀ ws ∈ Ls, ws.length = m ∧ (∀ v ∈ ws, Sz q v ∧ 0 ≤ v) ∧ ws.sum = 1
theorem WgL.layB {m q : Nat} {Ls : List (List Rat)} (h : WgL m q Ls) (l : Ls.length ≤ 40) : layB m (lsD Ls) = true := by
  show (decide ((Ls.map fun ws => PyData.tuple (ws.map frD)).length ≤ 40) && (Ls.map fun ws => PyData.tuple (ws.map frD)).all (wgB m)) = true
  rw [List.length_map, decide_eq_true l, Bool.true_and, List.all_map, List.all_eq_true]
  intro ws hw
  obtain ⟨a, b, c⟩ := h ws hw
  show wgB m (.tuple (ws.map frD)) = true
  rw [wgB_fr, decide_eq_true a, decide_eq_true c, Bool.true_and, Bool.and_true, List.all_eq_true]
  exact fun w hw => decide_eq_true (Rat.num_nonneg.mpr (b w hw).2)
theorem rat_den (b : Rat) : (b.den : Rat) * b = (b.num : Rat) := by
  have h : Rat.divInt b.num (b.den : Int) = b := Rat.num_divInt_den b
  rw [Rat.divInt_eq_div] at h
  have hd : ((b.den : Nat) : Rat) ≠ 0 := fun z => by have := Rat.natCast_eq_zero_iff.mp z; have := b.den_pos; omega
  have e : (b.den : Rat) * ((b.num : Rat) / (b.den : Rat)) = (b.num : Rat) := mul_div' hd
  exact Eq.trans (congrArg (fun x => (b.den : Rat) * x) h.symm) e
theorem Tin.mono {K L : Nat} {t : List (Option Rat)} (h : Tin K t) (l : K ≤ L) : Tin L t := by
  obtain ⟨d, d0, d1, d2⟩ := h
  have p : 2 ^ K ≤ 2 ^ L := Nat.pow_le_pow_right (by decide) l
  exact ⟨d, d0, Nat.lt_of_lt_of_le d1 p, fun r hr => by obtain ⟨c, c1, c2⟩ := d2 r hr; exact ⟨c, c1, Nat.lt_of_lt_of_le c2 p⟩⟩
def Borne (ls : List Nat) (rs : List (List Wd)) (bs : List Bid) : Prop := ∃ Ls : List (List Rat), (∀ ws ∈ Ls, ∀ w ∈ ws, 0 ≤ w) ∧ ∀ b ∈ bs, bearsB (tabS ls rs b.1) Ls b.2 = true
theorem fair_iff {ls : List Nat} {rs : List (List Wd)} {bs : List Bid} (hl : ∀ b ∈ bs, ((worldsOf ls rs).any fun u => valS ls u b.1.2) = true) : (jR ls rs bs).2.1 = [] ↔ Borne ls rs bs := by
  constructor
  · exact fun h => ⟨(jR ls rs bs).1, fun ws hw w h => (jOk.wg ws hw).2.1 w h, j_fair h⟩
  · rintro ⟨Ls, h0, hb⟩
    refine Classical.byContradiction fun z => ?_
    have h1 := j_loss hl z
    rw [no_loss jSt_nonneg h0 hb] at h1
    cases h1
def KS (f : Nat → Nat) : Nat → Nat
  | 0 => 0
  | n + 1 => f 0 + KS (fun c => f (c + 1)) n
def FBc (n : Nat) (f : Nat → Nat) : Nat := KS f n + n * n + 1
theorem det_intC : ∀ {n : Nat} {f : Nat → Nat} {M : Nat → Nat → Rat}, (∀ r c, r < n → c < n → ∃ z : Int, M r c = (z : Rat) ∧ z.natAbs < 2 ^ f c) → ∃ z : Int, det n M = (z : Rat) ∧ z.natAbs < 2 ^ FBc n f
  | 0, _, _, _ => ⟨1, rfl, by simp [FBc, KS]⟩
  | n + 1, f, M, h => by
    have h1 : ∀ i, ∃ z : Int, i < n + 1 → sgn i * (M i 0 * det n fun r c => M (skp i r) (c + 1)) = (z : Rat) ∧ z.natAbs ≤ 2 ^ (f 0 + FBc n fun c => f (c + 1)) := fun i => by
      by_cases hi : i < n + 1
      · obtain ⟨a, a1, a2⟩ := h i 0 hi (by omega)
        obtain ⟨b, b1, b2⟩ := det_intC (n := n) (f := fun c => f (c + 1)) (M := fun r c => M (skp i r) (c + 1)) fun r c hr hc => h _ _ (by unfold skp; split <;> omega) (by omega)
        have key : (a * b).natAbs ≤ 2 ^ (f 0 + FBc n fun c => f (c + 1)) := by
          rw [Int.natAbs_mul, Nat.pow_add]
          exact Nat.mul_le_mul (Nat.le_of_lt a2) (Nat.le_of_lt b2)
        rw [a1, b1]
        unfold sgn
        by_cases e : i % 2 = 0
        · refine ⟨a * b, fun _ => ⟨?_, key⟩⟩
          rw [if_pos e, Rat.intCast_mul]; grind
        · refine ⟨-(a * b), fun _ => ⟨?_, by rw [Int.natAbs_neg]; exact key⟩⟩
          rw [if_neg e, Rat.intCast_neg, Rat.intCast_mul]; grind
      · exact ⟨0, fun z => absurd z hi⟩
    obtain ⟨c, c1, c2⟩ := sumN_abs (m := n + 1) (f := fun i => Classical.choose (h1 i)) (B := 2 ^ (f 0 + FBc n fun c => f (c + 1))) fun i hi => (Classical.choose_spec (h1 i) hi).2
    refine ⟨c, ?_, ?_⟩
    · rw [← c1]
      exact sumN_congr fun i hi => (Classical.choose_spec (h1 i) hi).1
    · refine Nat.lt_of_le_of_lt c2 ?_
      have : (n + 1) * 2 ^ (f 0 + FBc n fun c => f (c + 1)) < 2 ^ ((n + 1) + (f 0 + FBc n fun c => f (c + 1))) := by
        rw [Nat.pow_add 2 (n + 1)]
        exact (Nat.mul_lt_mul_right (Nat.two_pow_pos _)).mpr Nat.lt_two_pow_self
      refine Nat.lt_of_lt_of_le this (Nat.pow_le_pow_right (by decide) ?_)
      unfold FBc
      show _ ≤ f 0 + KS (fun c => f (c + 1)) n + (n + 1) * (n + 1) + 1
      have : (n + 1) * (n + 1) = n * n + n + n + 1 := by rw [Nat.succ_mul, Nat.mul_succ]; omega
      omega
def FwC (D : Dims) (S : Tab) (f : Nat → Nat) : Prop := ∀ j, j ≤ D.N → ∀ k, k < D.m → ∃ d : Nat, 0 < d ∧ (∀ i, i < D.m → ∃ c : Int, (d : Rat) * D.A k (S.own i) = (c : Rat) ∧ c.natAbs < 2 ^ f k) ∧ ∃ c : Int, (d : Rat) * D.A k j = (c : Rat) ∧ c.natAbs < 2 ^ f k
def FewC (D : Dims) (f : Nat → Nat) : Prop := ∀ k, k < D.m → ∃ d : Nat, 0 < d ∧ ∀ j, j ≤ D.N → ∃ c : Int, (d : Rat) * D.A k j = (c : Rat) ∧ c.natAbs < 2 ^ f k
theorem FewC.fw {D : Dims} {S : Tab} {f : Nat → Nat} (h : FewC D f) (g : Good0 D S) : FwC D S f := fun j hj k hk => by
  obtain ⟨d, d0, d1⟩ := h k hk
  exact ⟨d, d0, fun i hi => d1 _ (Nat.le_of_lt (g.lt i hi)), d1 j hj⟩
theorem tab_cdC {D : Dims} {S : Tab} {f : Nat → Nat} (h : FwC D S f) (gd : GoodD D S) {j : Nat} (hj : j ≤ D.N) : ∃ e : Int, e ≠ 0 ∧ e.natAbs < 2 ^ FBc D.m f ∧ ∀ i, i < D.m → ∃ n : Int, (e : Rat) * S.T i j = (n : Rat) ∧ n.natAbs < 2 ^ FBc D.m f := by
  have g := gd.g
  have fam : ∀ k, ∃ d : Nat, k < D.m → 0 < d ∧ (∀ i, i < D.m → ∃ c : Int, (d : Rat) * D.A k (S.own i) = (c : Rat) ∧ c.natAbs < 2 ^ f k) ∧ ∃ c : Int, (d : Rat) * D.A k j = (c : Rat) ∧ c.natAbs < 2 ^ f k := fun k => by
    by_cases hk : k < D.m
    · obtain ⟨d, hd⟩ := h j hj k hk
      exact ⟨d, fun _ => hd⟩
    · exact ⟨0, fun z => absurd z hk⟩
  obtain ⟨d, hd⟩ : ∃ d : Nat → Nat, ∀ k, k < D.m → 0 < d k ∧ (∀ i, i < D.m → ∃ c : Int, (d k : Rat) * D.A k (S.own i) = (c : Rat) ∧ c.natAbs < 2 ^ f k) ∧ ∃ c : Int, (d k : Rat) * D.A k j = (c : Rat) ∧ c.natAbs < 2 ^ f k := ⟨fun k => Classical.choose (fam k), fun k => Classical.choose_spec (fam k)⟩
  have iM : ∀ r c, r < D.m → c < D.m → ∃ z : Int, (d c : Rat) * own_M D S r c = (z : Rat) ∧ z.natAbs < 2 ^ f c := fun r c hr hc => (hd c hc).2.1 r hr
  have ia : ∀ c, c < D.m → ∃ z : Int, (d c : Rat) * D.A c j = (z : Rat) ∧ z.natAbs < 2 ^ f c := fun c hc => (hd c hc).2.2
  obtain ⟨e, e1, e2⟩ := det_intC (n := D.m) (f := f) (M := fun r c => (d c : Rat) * own_M D S r c) iM
  have e0 : prodN D.m (fun c => (d c : Rat)) ≠ 0 := prodN_ne fun k hk => fun z => by have := (hd k hk).1; have := Rat.natCast_eq_zero_iff.mp z; omega
  rw [det_cols] at e1
  refine ⟨e, fun z => ?_, e2, fun i hi => ?_⟩
  · rw [z] at e1
    rcases Rat.mul_eq_zero.mp (show _ * _ = (0 : Rat) from e1) with y | y
    · exact e0 y
    · exact gd.d y
  · obtain ⟨n, n1, n2⟩ := det_intC (n := D.m) (f := f) (M := fun r c => (d c : Rat) * rwM i (fun c => D.A c j) (own_M D S) r c) fun r c hr hc => by
      by_cases q : r = i
      · rw [q, rwM_at]; exact ia c hc
      · rw [rwM_ne _ _ q]; exact iM r c hr hc
    refine ⟨n, ?_, n2⟩
    have key : det D.m (rwM i (fun c => D.A c j) (own_M D S)) = S.T i j * det D.m (own_M D S) := by
      rw [← cramer (own_M D S) (fun k => S.T k j) hi]
      refine det_congr fun r c hr hc => ?_
      unfold rwM
      by_cases q : r = i
      · rw [if_pos q, if_pos q, g.col c j hc hj]
        exact sumN_congr fun k _ => Rat.mul_comm _ _
      · rw [if_neg q, if_neg q]
    rw [← n1, ← e1, det_cols, key, Rat.mul_assoc, Rat.mul_comm (det D.m _)]
theorem tab_TC {D : Dims} {S : Tab} {f : Nat → Nat} (h : FwC D S f) (g : GoodD D S) {i j : Nat} (hi : i < D.m) (hj : j ≤ D.N) : Sz (FBc D.m f) (S.T i j) := by
  obtain ⟨e, e0, e1, e2⟩ := tab_cdC h g hj
  obtain ⟨n, n1, n2⟩ := e2 i hi
  have e0' : (e : Rat) ≠ 0 := fun z => e0 (Rat.intCast_eq_zero_iff.mp z)
  have : S.T i j = Rat.divInt n e := by
    rw [Rat.divInt_eq_div, ← n1]
    have := mul_div' (b := (e : Rat) * S.T i j) e0'
    generalize (e : Rat) * S.T i j / (e : Rat) = q at this ⊢
    have h3 : (e : Rat) * (q - S.T i j) = 0 := by grind
    rcases Rat.mul_eq_zero.mp h3 with y | y
    · exact absurd y e0'
    · grind
  rw [this]
  exact sz_divInt e0 n2 e1
theorem tab_ziC {D : Dims} {S : Tab} {f : Nat → Nat} (h : FwC D S f) (hc : ∀ j, j ≤ D.N → ∃ c : Int, D.c j = (c : Rat) ∧ c.natAbs ≤ 1) (g : GoodD D S) {j : Nat} (hj : j ≤ D.N) : Sz (FBc D.m f + (D.m + 1)) (S.z j) := by
  obtain ⟨d, d0, d1, d2⟩ := tab_cdC h g hj
  have z_eq' : S.z j = D.c j + -(sumN D.m fun i => D.c (S.own i) * S.T i j) := z_eq g.g hj
  have ns : ∃ n : Nat → Int, ∀ i, i < D.m → (d : Rat) * (D.c (S.own i) * S.T i j) = (n i : Rat) ∧ (n i).natAbs ≤ 2 ^ FBc D.m f := by
    have : ∀ i, ∃ n : Int, i < D.m → (d : Rat) * (D.c (S.own i) * S.T i j) = (n : Rat) ∧ n.natAbs ≤ 2 ^ FBc D.m f := fun i => by
      by_cases hi : i < D.m
      · obtain ⟨c, c1, c2⟩ := hc (S.own i) (Nat.le_of_lt (g.g.lt i hi))
        obtain ⟨n, n1, n2⟩ := d2 i hi
        refine ⟨c * n, fun _ => ⟨?_, ?_⟩⟩
        · rw [c1, Rat.intCast_mul, ← n1]; grind
        · rw [Int.natAbs_mul]
          have := Nat.mul_le_mul c2 (Nat.le_of_lt n2)
          omega
      · exact ⟨0, fun z => absurd z hi⟩
    exact ⟨fun i => Classical.choose (this i), fun i hi => Classical.choose_spec (this i) hi⟩
  obtain ⟨n, hn⟩ := ns
  obtain ⟨e, e1, e2⟩ := sumN_abs (m := D.m) (f := n) (B := 2 ^ FBc D.m f) fun i hi => (hn i hi).2
  obtain ⟨c, c1, c2⟩ := hc j hj
  have key : (d : Rat) * S.z j = ((c * d - e : Int) : Rat) := by
    rw [z_eq', c1, Rat.intCast_sub, Rat.intCast_mul, ← e1]
    have : (d : Rat) * sumN D.m (fun i => D.c (S.own i) * S.T i j) = sumN D.m fun i => (n i : Rat) := by
      rw [← sumN_mul]
      exact sumN_congr fun i hi => (hn i hi).1
    grind
  have d0' : (d : Rat) ≠ 0 := fun z => d0 (Rat.intCast_eq_zero_iff.mp z)
  have e3 : S.z j = Rat.divInt (c * d - e) d := by
    rw [Rat.divInt_eq_div, ← key]
    have := mul_div' (b := (d : Rat) * S.z j) d0'
    generalize (d : Rat) * S.z j / (d : Rat) = q at this ⊢
    have h3 : (d : Rat) * (q - S.z j) = 0 := by grind
    rcases Rat.mul_eq_zero.mp h3 with y | y
    · exact absurd y d0'
    · grind
  rw [e3]
  have hp : 2 ^ FBc D.m f < 2 ^ (FBc D.m f + (D.m + 1)) := Nat.pow_lt_pow_right (by decide) (by omega)
  refine sz_divInt d0 ?_ (by omega)
  have q1 : (c * d).natAbs ≤ 2 ^ FBc D.m f := by
    rw [Int.natAbs_mul]
    have := Nat.mul_le_mul c2 (Nat.le_of_lt d1)
    omega
  have q2 : (c * d - e).natAbs ≤ (D.m + 1) * 2 ^ FBc D.m f := by
    rw [Nat.succ_mul]; omega
  refine Nat.lt_of_le_of_lt q2 ?_
  rw [Nat.pow_add _ _ (D.m + 1), Nat.mul_comm]
  exact Nat.mul_lt_mul_of_pos_left Nat.lt_two_pow_self (Nat.two_pow_pos _)
theorem KS_congr : ∀ {n : Nat} {f g : Nat → Nat}, (∀ k, k < n → f k = g k) → KS f n = KS g n
  | 0, _, _, _ => rfl
  | n + 1, f, g, h => by
    show f 0 + _ = g 0 + _
    rw [h 0 (by omega), KS_congr (n := n) (f := fun c => f (c + 1)) (g := fun c => g (c + 1)) fun k hk => h (k + 1) (by omega)]
theorem KS_list (f : Nat → Nat) (a : Nat) : ∀ left : List Nat, KS (fun k => if k < left.length then f (left.getD k 0) else a) (left.length + 1) = (left.map f).sum + a
  | [] => by show (if 0 < 0 then _ else a) + 0 = 0 + a; rw [if_neg (by decide)]; omega
  | b :: left => by
    show (if 0 < (b :: left).length then f ((b :: left).getD 0 0) else a) + KS _ (left.length + 1) = _
    rw [if_pos (by simp), KS_congr (g := fun k => if k < left.length then f (left.getD k 0) else a) (fun k hk => ?_), KS_list f a left, List.map_cons, List.sum_cons]
    · show f b + _ = _
      omega
    · show (if k + 1 < left.length + 1 then f ((b :: left).getD (k + 1) 0) else a) = _
      by_cases c : k < left.length
      · rw [if_pos c, if_pos (by omega)]; rfl
      · rw [if_neg c, if_neg (by omega)]
theorem sub_sum (f : Nat → Nat) {l m : List Nat} (h : l.Sublist m) : (l.map f).sum ≤ (m.map f).sum := by
  induction h with
  | slnil => exact Nat.le_refl _
  | cons a h ih => rw [List.map_cons, List.sum_cons]; omega
  | cons_cons a h ih => rw [List.map_cons, List.map_cons, List.sum_cons, List.sum_cons]; omega
def SzC (f : Nat → Nat) (left : List Nat) : Nat := (left.map f).sum + 1 + (left.length + 1) * (left.length + 1) + 1 + (left.length + 2)
theorem lpOf_szC {ts : Tbs} {left W : List Nat} {f : Nat → Nat} (h : ∀ i ∈ left, Tin (f i) (ts.getD i [])) : LpSz (lpOf ts left W) (SzC f left) := by
  have z0 : ∀ d e : Nat, ∃ c : Int, (d : Rat) * 0 = (c : Rat) ∧ c.natAbs < 2 ^ e := fun d e => ⟨0, by rw [Rat.mul_zero]; rfl, Nat.two_pow_pos _⟩
  have z1 : ∀ d e : Nat, d < 2 ^ e → ∃ c : Int, (d : Rat) * 1 = (c : Rat) ∧ c.natAbs < 2 ^ e := fun d e hd => ⟨d, by rw [Rat.mul_one]; rfl, hd⟩
  have few : FewC (lpOf ts left W).dims (fun k => if k < left.length then f (left.getD k 0) else 1) := fun k hk => by
    have hk : k < left.length + 1 := hk
    by_cases c : k < left.length
    · dsimp only
      rw [if_pos c]
      obtain ⟨d, d0, dK, hd⟩ := h (left.getD k 0) (by rw [List.getD_eq_getElem?_getD, List.getElem?_eq_getElem c]; exact List.getElem_mem c)
      refine ⟨d, d0, fun j _ => ?_⟩
      show ∃ c' : Int, (d : Rat) * (if j < W.length then (if k < left.length then negO (gtA ts (left.getD k 0) (W.getD j 0)) else 1) else if j < W.length + (left.length + 1) then (if j = W.length + k then (1 : Rat) else 0) else (if k < left.length then 0 else 1)) = (c' : Rat) ∧ _
      rw [if_pos c, if_pos c]
      split
      · cases e : gtA ts (left.getD k 0) (W.getD j 0) with
        | none => exact z0 d _
        | some r =>
          obtain ⟨c', e1, e2⟩ := hd r (gtA_mem e)
          refine ⟨-c', ?_, by rw [Int.natAbs_neg]; exact e2⟩
          show (d : Rat) * -r = _
          rw [Rat.intCast_neg, ← e1]; grind
      · split
        · split
          · exact z1 d _ dK
          · exact z0 d _
        · exact z0 d _
    · dsimp only
      rw [if_neg c]
      refine ⟨1, by decide, fun j _ => ?_⟩
      show ∃ c' : Int, ((1 : Nat) : Rat) * (if j < W.length then (if k < left.length then negO (gtA ts (left.getD k 0) (W.getD j 0)) else 1) else if j < W.length + (left.length + 1) then (if j = W.length + k then (1 : Rat) else 0) else (if k < left.length then 0 else 1)) = (c' : Rat) ∧ _
      rw [if_neg c, if_neg c]
      split
      · exact z1 1 1 (by decide)
      · split
        · split
          · exact z1 1 1 (by decide)
          · exact z0 1 1
        · exact z1 1 1 (by decide)
  have e : FBc (left.length + 1) (fun k => if k < left.length then f (left.getD k 0) else 1) + (left.length + 2) = SzC f left := by
    unfold FBc SzC
    rw [KS_list]
  refine fun U g => ⟨fun i j hi hj => (tab_TC (few.fw g.g) g hi hj).mono (by show FBc (left.length + 1) _ ≤ _; rw [← e]; exact Nat.le_add_right _ _), fun j hj => (tab_ziC (few.fw g.g) (fun j _ => ?_) g hj).mono (Nat.le_of_eq e)⟩
  show ∃ c' : Int, (if j < W.length then -(1 : Rat) else 0) = (c' : Rat) ∧ _
  split
  · exact ⟨-1, rfl, by decide⟩
  · exact ⟨0, rfl, by decide⟩
theorem jsz_ofC {ts : Tbs} {w : Nat} {left : List Nat} {f : Nat → Nat} (h : ∀ i ∈ left, Tin (f i) (ts.getD i [])) : JSz ts w left (SzC f left) := fun l W hl _ => by
  refine (lpOf_szC fun i hi => h i (hl.subset hi)).mono ?_
  have hn := hl.length_le
  have h1 := sub_sum f hl
  have h2 := Nat.mul_le_mul (show l.length + 1 ≤ left.length + 1 by omega) (show l.length + 1 ≤ left.length + 1 by omega)
  unfold SzC
  omega
theorem jin_ofC {ls : List Nat} {rs : List (List Wd)} {bs : List Bid} {f : Nat → Nat} {B : Nat} (h : ∀ i b, bs[i]? = some b → Tin (f i) (gainsB ls rs b)) (hl : bs.length ≤ 19) (hB : SzC f (List.range bs.length) ≤ B) (h7 : B ≤ 10000000) : JIn ls rs bs B := by
  refine ⟨hl, fun l W hs hW => ?_, h7, by unfold SzC at hB; omega⟩
  have := jsz_ofC (ts := jTs ls rs bs) (w := (worldsOf ls rs).length) (left := List.range bs.length) (f := f) fun i hi => by
    have hi := List.mem_range.mp hi
    rw [jTs_get (List.getElem?_eq_getElem hi)]
    exact h i _ (List.getElem?_eq_getElem hi)
  exact (this l W hs hW).mono hB

noncomputable def wAt (ts : Tbs) (w : Nat) (left W : List Nat) : List Rat := sprd w W ((List.range W.length).map (xOf ts left W))
def offW (ts : Tbs) (os : List (Option Rat)) (left : List Nat) : List Nat := (liveL ts os.length left).filter fun u => (os.getD u none).isNone
theorem offW_nd {ts : Tbs} {os : List (Option Rat)} {left : List Nat} : (offW ts os left).Nodup := liveL_nd.sublist List.filter_sublist
theorem offW_lt {ts : Tbs} {os : List (Option Rat)} {left : List Nat} : ∀ u ∈ offW ts os left, u < os.length := fun u h => liveL_lt u (List.mem_filter.mp h).1
theorem offW_none {ts : Tbs} {os : List (Option Rat)} {left : List Nat} {u : Nat} (h : u ∈ offW ts os left) : os.getD u none = none := by
  have := (List.mem_filter.mp h).2
  cases e : os.getD u none with
  | none => rfl
  | some r => rw [e] at this; cases this
theorem mem_live {ts : Tbs} {w u : Nat} {left : List Nat} : u ∈ liveL ts w left ↔ u < w ∧ ∃ i ∈ left, (gtA ts i u).isSome = true := by
  unfold liveL
  rw [List.mem_filter, List.mem_range, List.any_eq_true]
theorem mem_off {ts : Tbs} {os : List (Option Rat)} {left : List Nat} {u : Nat} (h : u < os.length) (ho : os.getD u none = none) {i : Nat} (hi : i ∈ left) (hs : (gtA ts i u).isSome = true) : u ∈ offW ts os left :=
  List.mem_filter.mpr ⟨mem_live.mpr ⟨h, i, hi, hs⟩, by rw [ho]; rfl⟩
section
variable {ts : Tbs} {w : Nat} {left W : List Nat}
theorem wAt_len : (wAt ts w left W).length = w := sprd_len _ _ _
theorem wAt_dot (nd : W.Nodup) (hW : ∀ u ∈ W, u < w) (h : Nat → Rat) : dotL (wAt ts w left W) h = sumN W.length fun j => xOf ts left W j * h (W.getD j 0) := dot_sprd nd hW _ _
theorem wAt_nonneg : ∀ v ∈ wAt ts w left W, 0 ≤ v := fun v hv => by
  rcases sprd_mem hv with y | y
  · rw [y]; exact Rat.le_refl
  · obtain ⟨j, hj, rfl⟩ := List.mem_map.mp y
    exact (lpOf_best ts left W).x0 j (List.mem_range.mp hj)
theorem wAt_fair (nd : W.Nodup) (hW : ∀ u ∈ W, u < w) {i : Nat} (hi : i ∈ left) : 0 ≤ ttR ((wAt ts w left W).zip (ts.getD i [])) := by
  rw [tt_dot, wAt_dot nd hW]
  obtain ⟨k, hk, e⟩ := List.mem_iff_getElem.mp hi
  have := row_le (ts := ts) W hk
  rw [List.getD_eq_getElem?_getD, List.getElem?_eq_getElem hk, Option.getD_some, e] at this
  exact this
theorem wAt_sum (nd : W.Nodup) (hW : ∀ u ∈ W, u < w) : (wAt ts w left W).sum = sumN W.length (xOf ts left W) := by
  rw [sum_dot, wAt_dot nd hW]
  exact sumN_congr fun j _ => Rat.mul_one _
theorem sum_one (hne : sumN W.length (xOf ts left W) ≠ 0) : sumN W.length (xOf ts left W) = 1 := by
  have B := lpOf_best ts left W
  have x0 : ∀ j, j < W.length → 0 ≤ xOf ts left W j := B.x0
  have y0 : ∀ k, k < left.length + 1 → 0 ≤ yOf ts left W k := B.y0
  have hy := y_last (ts := ts) (left := left) W
  obtain ⟨σ, hσ⟩ : ∃ σ, sumN W.length (xOf ts left W) = σ := ⟨_, rfl⟩
  have s0 : 0 ≤ σ := by rw [← hσ]; exact sumN_nonneg x0
  have sne : σ ≠ 0 := by rw [← hσ]; exact hne
  have s1 : σ ≤ 1 := by
    have e := B.le left.length (by show left.length < left.length + 1; omega)
    have e1 : sumN W.length (fun j => (if left.length < left.length then negO (gtA ts (left.getD left.length 0) (W.getD j 0)) else 1) * xOf ts left W j) ≤ if left.length < left.length then 0 else 1 := e
    rw [if_neg (Nat.lt_irrefl _), sumN_congr (g := xOf ts left W) fun j _ => by rw [if_neg (Nat.lt_irrefl _), Rat.one_mul], hσ] at e1
    exact e1
  rw [hσ] at hy ⊢
  have key : sumN W.length (xOf ts left W) ≤ sumN W.length fun j => xOf ts left W j * (-(sumN left.length fun k => yOf ts left W k * oV (gtA ts (left.getD k 0) (W.getD j 0))) + σ) := sumN_le fun j hj => by
    have := Rat.mul_le_mul_of_nonneg_left (hy ▸ col_ge (ts := ts) (left := left) W hj) (x0 j hj)
    rw [Rat.mul_one] at this
    exact this
  have e2 : sumN W.length (fun j => xOf ts left W j * (-(sumN left.length fun k => yOf ts left W k * oV (gtA ts (left.getD k 0) (W.getD j 0))) + σ)) = -(sumN left.length fun k => yOf ts left W k * sumN W.length fun j => xOf ts left W j * oV (gtA ts (left.getD k 0) (W.getD j 0))) + σ * σ := by
    rw [sumN_congr (g := fun j => (-1) * (sumN left.length fun k => yOf ts left W k * (xOf ts left W j * oV (gtA ts (left.getD k 0) (W.getD j 0)))) + σ * xOf ts left W j) fun j _ => by
      rw [sumN_congr (f := fun k => yOf ts left W k * (xOf ts left W j * oV (gtA ts (left.getD k 0) (W.getD j 0)))) (g := fun k => xOf ts left W j * (yOf ts left W k * oV (gtA ts (left.getD k 0) (W.getD j 0)))) fun k _ => by grind, sumN_mul]; grind, sumN_add, sumN_mul, sumN_mul, hσ, sumN_swap]
    rw [sumN_congr (f := fun k => sumN W.length _) (g := fun k => yOf ts left W k * sumN W.length fun j => xOf ts left W j * oV (gtA ts (left.getD k 0) (W.getD j 0))) fun k _ => sumN_mul _ _ _]
    grind
  have e3 : 0 ≤ sumN left.length fun k => yOf ts left W k * sumN W.length fun j => xOf ts left W j * oV (gtA ts (left.getD k 0) (W.getD j 0)) := sumN_nonneg fun k hk => Rat.mul_nonneg (y0 k (by omega)) (row_le W hk)
  rw [e2, hσ] at key
  have e4 : σ * 1 ≤ σ * σ := by grind
  have := Rat.le_of_mul_le_mul_left e4 (by grind)
  grind
theorem all_zero_sum {ws : List Rat} (h0 : ∀ v ∈ ws, 0 ≤ v) : ws.all (fun x => decide (x = 0)) = true ↔ ws.sum = 0 := by
  rw [List.all_eq_true]
  induction ws with
  | nil => exact ⟨fun _ => rfl, fun _ _ h => (List.not_mem_nil h).elim⟩
  | cons a ws ih =>
    have ih := ih fun v hv => h0 v (.tail _ hv)
    have sn : ∀ l : List Rat, (∀ x ∈ l, 0 ≤ x) → 0 ≤ l.sum := fun l => by
      induction l with
      | nil => exact fun _ => Rat.le_refl
      | cons a l ih =>
        intro h
        rw [List.sum_cons]
        have h1 := ih fun x hx => h x (.tail _ hx)
        have h2 := h a (.head _)
        grind
    have h1 := sn ws fun v hv => h0 v (.tail _ hv)
    have h2 := h0 a (.head _)
    rw [List.sum_cons]
    constructor
    · intro h
      have e1 : a = 0 := of_decide_eq_true (h a (.head _))
      rw [e1, ih.mp fun x hx => h x (.tail _ hx)]; grind
    · intro h x hx
      rcases List.mem_cons.mp hx with y | y
      · rw [y]; exact decide_eq_true (by grind)
      · exact ih.mpr (by grind) x y
theorem wAt_one (nd : W.Nodup) (hW : ∀ u ∈ W, u < w) (h : (wAt ts w left W).all (fun x => decide (x = 0)) = false) : (wAt ts w left W).sum = 1 := by
  rw [wAt_sum nd hW]
  refine sum_one fun z => ?_
  rw [← wAt_sum (w := w) nd hW] at z
  rw [(all_zero_sum wAt_nonneg).mpr z] at h
  cases h
theorem wAt_out {u : Nat} (h : u ∉ W) (hu : u < w) : (wAt ts w left W)[u]? = some 0 := sprd_out h hu
theorem dec_at (hl : ∀ u ∈ W, u ∈ liveL ts w left) (h : (wAt ts w left W).all (fun x => decide (x = 0)) = false) : (left.filter fun i => unwB (ts.getD i []) (wAt ts w left W)).length < left.length := by
  obtain ⟨x, hx, hx0⟩ := List.all_eq_false.mp h
  have hx0 : x ≠ 0 := by simpa using hx0
  obtain ⟨u, hu, e⟩ := List.mem_iff_getElem.mp hx
  have hum : u < w := by rw [wAt_len] at hu; exact hu
  have hg : (wAt ts w left W)[u]? = some x := by rw [List.getElem?_eq_getElem hu, e]
  have hl : u ∈ liveL ts w left := by
    by_cases c : u ∈ W
    · exact hl u c
    · rw [wAt_out c hum] at hg
      injection hg with hg
      exact absurd hg.symm hx0
  obtain ⟨i, hi, hs⟩ := List.any_eq_true.mp (List.mem_filter.mp hl).2
  rw [List.length_filter_lt_length_iff_exists]
  refine ⟨i, hi, ?_⟩
  rw [unwB_false hs hg hx0]; decide
end
noncomputable def strR (ts : Tbs) (os : List (Option Rat)) : Nat → List Nat → List (List Rat) × List Nat × List Rat
  | 0, left => ([], left, [])
  | f + 1, left =>
    if (wAt ts os.length left (offW ts os left)).all (fun x => decide (x = 0)) then ([], left, (List.range left.length).map (yOf ts left (offW ts os left)))
    else
      let r := strR ts os f (left.filter fun i => unwB (ts.getD i []) (wAt ts os.length left (offW ts os left)))
      (wAt ts os.length left (offW ts os left) :: r.1, r.2.1, r.2.2)
structure StrOk (ts : Tbs) (os : List (Option Rat)) (left : List Nat) (r : List (List Rat) × List Nat × List Rat) : Prop where
  wg : ∀ ws ∈ r.1, ws.length = os.length ∧ (∀ v ∈ ws, 0 ≤ v) ∧ ws.sum = 1
  len : r.1.length + r.2.1.length ≤ left.length
  sub : r.2.1.Sublist left
  off : meanIn os r.1 = none
  fair : ∀ i ∈ left, i ∉ r.2.1 → ∃ g, meanIn (ts.getD i []) r.1 = some g ∧ 0 ≤ g
  non : ∀ i ∈ r.2.1, meanIn (ts.getD i []) r.1 = none
  loss : (wAt ts os.length r.2.1 (offW ts os r.2.1)).all (fun x => decide (x = 0)) = true ∧ r.2.2 = (List.range r.2.1.length).map (yOf ts r.2.1 (offW ts os r.2.1))
theorem mean_cons {os : List (Option Rat)} {ws : List Rat} {Ls : List (List Rat)} : meanIn os (ws :: Ls) = (meanR (ws.zip os)).or (meanIn os Ls) := by
  unfold meanIn
  rw [List.findSome?_cons]
  cases meanR (ws.zip os) <;> rfl
theorem mean_append {os : List (Option Rat)} (A B : List (List Rat)) : meanIn os (A ++ B) = (meanIn os A).or (meanIn os B) := by
  induction A with
  | nil => rfl
  | cons ws A ih => rw [List.cons_append, mean_cons, mean_cons, ih, Option.or_assoc]
theorem off_mean {ts : Tbs} {os : List (Option Rat)} {left : List Nat} : meanR ((wAt ts os.length left (offW ts os left)).zip os) = none := by
  rw [mean_none, lv_zero fun z hz => wAt_nonneg _ (List.of_mem_zip hz).1]
  intro z hz hs
  obtain ⟨u, hu⟩ := List.mem_iff_getElem?.mp hz
  rw [List.getElem?_zip_eq_some] at hu
  obtain ⟨h1, h2⟩ := hu
  have hul := (List.getElem?_eq_some_iff.mp h2).1
  have hn : u ∉ offW ts os left := fun c => by
    have := offW_none c
    rw [List.getD_eq_getElem?_getD, h2] at this
    have this : z.2 = none := this
    rw [this] at hs; cases hs
  rw [wAt_out hn hul] at h1
  injection h1 with h1
  exact h1.symm
theorem mean_pos {ws : List Rat} {t : List (Option Rat)} (h0 : ∀ v ∈ ws, 0 ≤ v) (ht : 0 ≤ ttR (ws.zip t)) (hu : unwB t ws = false) : ∃ g, meanR (ws.zip t) = some g ∧ 0 ≤ g := by
  have lv : lvR (ws.zip t) ≠ 0 := fun e => by rw [(unw_true h0).mpr e] at hu; cases hu
  have lp := lv_nonneg (zs := ws.zip t) fun z hz => h0 _ (List.of_mem_zip hz).1
  exact ⟨_, if_neg lv, div_nonneg' ht (by grind)⟩
theorem str_ok (ts : Tbs) (os : List (Option Rat)) : ∀ (f : Nat) (left : List Nat), left.length < f → StrOk ts os left (strR ts os f left)
  | 0, _, h => absurd h (Nat.not_lt_zero _)
  | f + 1, left, h => by
    unfold strR
    obtain ⟨V, hV⟩ : ∃ V, wAt ts os.length left (offW ts os left) = V := ⟨_, rfl⟩
    cases c : (wAt ts os.length left (offW ts os left)).all (fun x => decide (x = 0)) with
    | true =>
      rw [if_pos rfl]
      exact ⟨fun ws h => (List.not_mem_nil h).elim, by show 0 + left.length ≤ _; omega, List.Sublist.refl _, rfl, fun i hi z => (z hi).elim, fun _ _ => rfl, c, rfl⟩
    | false =>
      rw [if_neg Bool.false_ne_true]
      have hdec := dec_at (ts := ts) (w := os.length) (left := left) (W := offW ts os left) (fun u hu => (List.mem_filter.mp hu).1) c
      have hone := wAt_one offW_nd offW_lt c
      have hoff := off_mean (ts := ts) (os := os) (left := left)
      have hfr : ∀ i ∈ left, 0 ≤ ttR (V.zip (ts.getD i [])) := fun i hi => by rw [← hV]; exact wAt_fair offW_nd offW_lt hi
      have v0 : ∀ v ∈ V, 0 ≤ v := by rw [← hV]; exact wAt_nonneg
      have vl : V.length = os.length := by rw [← hV]; exact wAt_len
      rw [hV] at hdec hone hoff ⊢
      have ih := str_ok ts os f (left.filter fun i => unwB (ts.getD i []) V) (by omega)
      refine ⟨fun ws hw => ?_, ?_, ih.sub.trans List.filter_sublist, ?_, fun i hi hn => ?_, fun i hi => ?_, ih.loss⟩
      · rcases List.mem_cons.mp hw with y | y
        · rw [y]; exact ⟨vl, v0, hone⟩
        · exact ih.wg ws y
      · have := ih.len
        show (_ :: _).length + _ ≤ _
        rw [List.length_cons]
        dsimp only at this ⊢
        omega
      · show meanIn os (V :: _) = none
        rw [mean_cons, hoff]; exact ih.off
      · show ∃ g, meanIn (ts.getD i []) (V :: _) = some g ∧ 0 ≤ g
        rw [mean_cons]
        cases u : unwB (ts.getD i []) V with
        | true =>
          rw [mean_none.mpr ((unw_true v0).mp u)]
          exact ih.fair i (List.mem_filter.mpr ⟨hi, u⟩) hn
        | false =>
          obtain ⟨g, e, g0⟩ := mean_pos v0 (hfr i hi) u
          exact ⟨g, by rw [e]; rfl, g0⟩
      · show meanIn (ts.getD i []) (V :: _) = none
        have hm := List.mem_filter.mp (ih.sub.subset hi)
        rw [mean_cons, mean_none.mpr ((unw_true v0).mp hm.2)]
        exact ih.non i hi

def lowW (ts : Tbs) (os : List (Option Rat)) (left : List Nat) : List Nat := (List.range os.length).filter fun u => (os.getD u none).isSome || left.any fun i => (gtA ts i u).isSome
theorem lowW_nd {ts : Tbs} {os : List (Option Rat)} {left : List Nat} : (lowW ts os left).Nodup := List.nodup_range.sublist List.filter_sublist
theorem lowW_lt {ts : Tbs} {os : List (Option Rat)} {left : List Nat} : ∀ u ∈ lowW ts os left, u < os.length := fun u h => List.mem_range.mp (List.mem_filter.mp h).1
theorem lowW_len {ts : Tbs} {os : List (Option Rat)} {left : List Nat} : (lowW ts os left).length ≤ os.length := Nat.le_trans (List.length_filter_le _ _) (by rw [List.length_range]; exact Nat.le_refl _)
def maxO (a o : Option Rat) : Option Rat := match o with
  | none => a
  | some p => match a with
    | none => some p
    | some m => if m < p then some p else some m
def gmaxO (os : List (Option Rat)) : Option Rat := os.foldl maxO none
theorem maxO_spec {a : Option Rat} : ∀ {os : List (Option Rat)}, (∀ m, a = some m → ∃ M, os.foldl maxO a = some M ∧ m ≤ M) ∧ (∀ p, some p ∈ os → ∃ M, os.foldl maxO a = some M ∧ p ≤ M) ∧ ∀ M, os.foldl maxO a = some M → a = some M ∨ some M ∈ os
  | [] => ⟨fun m h => ⟨m, h, Rat.le_refl⟩, fun p h => (List.not_mem_nil h).elim, fun M h => .inl h⟩
  | o :: os => by
    obtain ⟨i1, i2, i3⟩ := maxO_spec (a := maxO a o) (os := os)
    refine ⟨fun m e => ?_, fun p hp => ?_, fun M hM => ?_⟩
    · rw [List.foldl_cons]
      have : ∃ m', maxO a o = some m' ∧ m ≤ m' := by
        rw [e]
        cases o with
        | none => exact ⟨m, rfl, Rat.le_refl⟩
        | some p =>
          show ∃ m', (if m < p then some p else some m) = some m' ∧ m ≤ m'
          by_cases c : m < p
          · exact ⟨p, if_pos c, Rat.le_of_lt c⟩
          · exact ⟨m, if_neg c, Rat.le_refl⟩
      obtain ⟨m', e1, l1⟩ := this
      obtain ⟨M, e2, l2⟩ := i1 m' e1
      exact ⟨M, e2, Rat.le_trans l1 l2⟩
    · rw [List.foldl_cons]
      rcases List.mem_cons.mp hp with y | y
      · have : ∃ m', maxO a o = some m' ∧ p ≤ m' := by
          rw [← y]
          cases a with
          | none => exact ⟨p, rfl, Rat.le_refl⟩
          | some m =>
            show ∃ m', (if m < p then some p else some m) = some m' ∧ p ≤ m'
            by_cases c : m < p
            · exact ⟨p, if_pos c, Rat.le_refl⟩
            · exact ⟨m, if_neg c, by grind⟩
        obtain ⟨m', e1, l1⟩ := this
        obtain ⟨M, e2, l2⟩ := i1 m' e1
        exact ⟨M, e2, Rat.le_trans l1 l2⟩
      · exact i2 p y
    · rw [List.foldl_cons] at hM
      rcases i3 M hM with y | y
      · cases o with
        | none => exact .inl y
        | some p =>
          cases a with
          | none => exact .inr (by rw [show some M = some p from y.symm]; exact .head _)
          | some m =>
            have y : (if m < p then some p else some m) = some M := y
            by_cases c : m < p
            · rw [if_pos c] at y; exact .inr (by rw [← y]; exact .head _)
            · rw [if_neg c] at y; exact .inl y
      · exact .inr (.tail _ y)
def topR (os : List (Option Rat)) : Rat := (gmaxO os).getD 0 + 1
theorem top_gt {os : List (Option Rat)} {p : Rat} (h : some p ∈ os) : p + 1 ≤ topR os := by
  obtain ⟨M, e, l⟩ := (maxO_spec (a := none) (os := os)).2.1 p h
  unfold topR gmaxO
  rw [e]
  show p + 1 ≤ M + 1
  grind
def wthO (top : Rat) : Option Rat → Rat
  | none => 0
  | some p => top + -p
def gvO : Option Rat → Rat
  | none => 0
  | some _ => 1
theorem wthO_eq (top : Rat) (o : Option Rat) : wthO top o = top * gvO o + -(oV o) := by
  cases o with
  | none => show (0 : Rat) = top * 0 + -0; grind
  | some p => show top + -p = top * 1 + -p; grind
theorem gvO_01 (o : Option Rat) : 0 ≤ gvO o ∧ gvO o ≤ 1 := by
  cases o
  · exact ⟨Rat.le_refl, by show (0 : Rat) ≤ 1; decide⟩
  · exact ⟨by show (0 : Rat) ≤ 1; decide, Rat.le_refl⟩
def lp2 (ts : Tbs) (os : List (Option Rat)) (left W : List Nat) (top : Rat) : Lp where
  m := left.length + 1
  n := W.length
  A := fun k j => if k < left.length then negO (gtA ts (left.getD k 0) (W.getD j 0)) else gvO (os.getD (W.getD j 0) none)
  b := fun k => if k < left.length then 0 else 1
  w := fun j => wthO top (os.getD (W.getD j 0) none)
theorem getD_mem {os : List (Option Rat)} {u : Nat} {p : Rat} (h : os.getD u none = some p) : some p ∈ os := by
  rw [List.getD_eq_getElem?_getD] at h
  cases e : os[u]? with
  | none => rw [e] at h; cases h
  | some o =>
    rw [e] at h
    have h : o = some p := h
    rw [h] at e
    exact List.mem_of_getElem? e
theorem wth_nonneg (os : List (Option Rat)) (u : Nat) : 0 ≤ wthO (topR os) (os.getD u none) := by
  cases e : os.getD u none with
  | none => exact Rat.le_refl
  | some p =>
    have := top_gt (getD_mem e)
    show 0 ≤ topR os + -p
    grind
theorem lp2_b (ts : Tbs) (os : List (Option Rat)) (left W : List Nat) (top : Rat) : ∀ k, k < (lp2 ts os left W top).m → 0 ≤ (lp2 ts os left W top).b k := fun k _ => by show (0 : Rat) ≤ if k < left.length then 0 else 1; split <;> decide
theorem sumN_mem {f : Nat → Rat} : ∀ {n j : Nat}, (∀ k, k < n → 0 ≤ f k) → j < n → f j ≤ sumN n f
  | 0, j, _, h => absurd h (Nat.not_lt_zero _)
  | n + 1, j, h0, h => by
    have h1 := sumN_nonneg (f := f) (n := n) fun k hk => h0 k (by omega)
    have h2 := h0 n (by omega)
    show f j ≤ sumN n f + f n
    by_cases c : j = n
    · rw [c]; grind
    · have := sumN_mem (f := f) (n := n) (j := j) (fun k hk => h0 k (by omega)) (by omega)
      grind
theorem lp2_bnd (ts : Tbs) (os : List (Option Rat)) (left W : List Nat) : (lp2 ts os left W (topR os)).Bnd := by
  have w0 : ∀ j, j < W.length → 0 ≤ wthO (topR os) (os.getD (W.getD j 0) none) := fun j _ => wth_nonneg _ _
  refine ⟨fun k => if k = left.length then sumN W.length fun j => wthO (topR os) (os.getD (W.getD j 0) none) else 0, fun k _ => ?_, fun j hj => ?_⟩
  · dsimp only
    split
    · exact sumN_nonneg w0
    · exact Rat.le_refl
  · have hj : j < W.length := hj
    show wthO (topR os) (os.getD (W.getD j 0) none) ≤ sumN (left.length + 1) fun k => (if k = left.length then (sumN W.length fun j => wthO (topR os) (os.getD (W.getD j 0) none)) else 0) * (if k < left.length then negO (gtA ts (left.getD k 0) (W.getD j 0)) else gvO (os.getD (W.getD j 0) none))
    rw [sumN_one (r := left.length) (by omega)]
    · rw [if_pos rfl, if_neg (Nat.lt_irrefl _)]
      have := sumN_mem w0 hj
      cases e : os.getD (W.getD j 0) none with
      | none => show (0 : Rat) ≤ _ * 0; grind
      | some p =>
        rw [e] at this
        show _ ≤ _ * (1 : Rat)
        rw [Rat.mul_one]; exact this
    · intro k _ ne
      rw [if_neg ne]; grind
noncomputable def x2 (ts : Tbs) (os : List (Option Rat)) (left W : List Nat) : Nat → Rat := (lp2 ts os left W (topR os)).last.at (lp2 ts os left W (topR os)).dims
noncomputable def y2 (ts : Tbs) (os : List (Option Rat)) (left W : List Nat) : Nat → Rat := fun k => (lp2 ts os left W (topR os)).last.z (W.length + k)
theorem lp2_best (ts : Tbs) (os : List (Option Rat)) (left W : List Nat) : Best (lp2 ts os left W (topR os)) (x2 ts os left W) (y2 ts os left W) :=
  Lp.best (lp2_b _ _ _ _ _) (lp2_bnd ts os left W)
section
variable {ts : Tbs} {os : List (Option Rat)} {left W : List Nat}
theorem x2_0 : ∀ j, j < W.length → 0 ≤ x2 ts os left W j := (lp2_best ts os left W).x0
theorem y2_0 : ∀ k, k < left.length + 1 → 0 ≤ y2 ts os left W k := (lp2_best ts os left W).y0
theorem eq2 : sumN W.length (fun j => wthO (topR os) (os.getD (W.getD j 0) none) * x2 ts os left W j) = y2 ts os left W left.length := by
  have e1 : sumN W.length (fun j => wthO (topR os) (os.getD (W.getD j 0) none) * x2 ts os left W j) = sumN (left.length + 1) fun k => y2 ts os left W k * (if k < left.length then 0 else 1) := (lp2_best ts os left W).eq
  rw [e1, sumN_one (r := left.length) (by omega), if_neg (Nat.lt_irrefl _), Rat.mul_one]
  intro k hk ne
  rw [if_pos (by omega), Rat.mul_zero]
theorem row2 {k : Nat} (hk : k < left.length) : 0 ≤ sumN W.length fun j => x2 ts os left W j * oV (gtA ts (left.getD k 0) (W.getD j 0)) := by
  have e := (lp2_best ts os left W).le k (by show k < left.length + 1; omega)
  have e1 : sumN W.length (fun j => (if k < left.length then negO (gtA ts (left.getD k 0) (W.getD j 0)) else gvO (os.getD (W.getD j 0) none)) * x2 ts os left W j) ≤ if k < left.length then 0 else 1 := e
  rw [if_pos hk, sumN_congr (g := fun j => (-1) * (x2 ts os left W j * oV (gtA ts (left.getD k 0) (W.getD j 0)))) fun j _ => by rw [if_pos hk, negO_oV]; grind, sumN_mul] at e1
  grind
theorem giv2 : sumN W.length (fun j => x2 ts os left W j * gvO (os.getD (W.getD j 0) none)) ≤ 1 := by
  have e := (lp2_best ts os left W).le left.length (by show left.length < left.length + 1; omega)
  have e1 : sumN W.length (fun j => (if left.length < left.length then negO (gtA ts (left.getD left.length 0) (W.getD j 0)) else gvO (os.getD (W.getD j 0) none)) * x2 ts os left W j) ≤ if left.length < left.length then 0 else 1 := e
  rw [if_neg (Nat.lt_irrefl _), sumN_congr (g := fun j => x2 ts os left W j * gvO (os.getD (W.getD j 0) none)) fun j _ => by rw [if_neg (Nat.lt_irrefl _), Rat.mul_comm]] at e1
  exact e1
theorem col2 {j : Nat} (hj : j < W.length) : wthO (topR os) (os.getD (W.getD j 0) none) ≤ -(sumN left.length fun k => y2 ts os left W k * oV (gtA ts (left.getD k 0) (W.getD j 0))) + y2 ts os left W left.length * gvO (os.getD (W.getD j 0) none) := by
  have e := (lp2_best ts os left W).ge j hj
  have e1 : wthO (topR os) (os.getD (W.getD j 0) none) ≤ sumN left.length (fun k => y2 ts os left W k * (if k < left.length then negO (gtA ts (left.getD k 0) (W.getD j 0)) else gvO (os.getD (W.getD j 0) none))) + y2 ts os left W left.length * (if left.length < left.length then _ else gvO (os.getD (W.getD j 0) none)) := e
  rw [if_neg (Nat.lt_irrefl _), sumN_congr (g := fun k => (-1) * (y2 ts os left W k * oV (gtA ts (left.getD k 0) (W.getD j 0)))) fun k hk => by rw [if_pos hk, negO_oV]; grind, sumN_mul] at e1
  grind
theorem slack2 (h : y2 ts os left W left.length ≠ 0) : sumN W.length (fun j => x2 ts os left W j * gvO (os.getD (W.getD j 0) none)) = 1 := by
  obtain ⟨y, hy⟩ : ∃ y, y2 ts os left W left.length = y := ⟨_, rfl⟩
  obtain ⟨s, hs⟩ : ∃ s, sumN W.length (fun j => x2 ts os left W j * gvO (os.getD (W.getD j 0) none)) = s := ⟨_, rfl⟩
  have y0 : 0 ≤ y := by rw [← hy]; exact y2_0 _ (by omega)
  have s1 : s ≤ 1 := by rw [← hs]; exact giv2
  have key : sumN W.length (fun j => wthO (topR os) (os.getD (W.getD j 0) none) * x2 ts os left W j) ≤ sumN W.length fun j => x2 ts os left W j * (-(sumN left.length fun k => y2 ts os left W k * oV (gtA ts (left.getD k 0) (W.getD j 0))) + y * gvO (os.getD (W.getD j 0) none)) := sumN_le fun j hj => by
    have := Rat.mul_le_mul_of_nonneg_left (hy ▸ col2 (ts := ts) (os := os) (left := left) (W := W) hj) (x2_0 (ts := ts) (os := os) (left := left) j hj)
    rw [Rat.mul_comm]; exact this
  have e2 : sumN W.length (fun j => x2 ts os left W j * (-(sumN left.length fun k => y2 ts os left W k * oV (gtA ts (left.getD k 0) (W.getD j 0))) + y * gvO (os.getD (W.getD j 0) none))) = -(sumN left.length fun k => y2 ts os left W k * sumN W.length fun j => x2 ts os left W j * oV (gtA ts (left.getD k 0) (W.getD j 0))) + y * s := by
    rw [sumN_congr (g := fun j => (-1) * (sumN left.length fun k => y2 ts os left W k * (x2 ts os left W j * oV (gtA ts (left.getD k 0) (W.getD j 0)))) + y * (x2 ts os left W j * gvO (os.getD (W.getD j 0) none))) fun j _ => by
      rw [sumN_congr (f := fun k => y2 ts os left W k * (x2 ts os left W j * oV (gtA ts (left.getD k 0) (W.getD j 0)))) (g := fun k => x2 ts os left W j * (y2 ts os left W k * oV (gtA ts (left.getD k 0) (W.getD j 0)))) fun k _ => by grind, sumN_mul]; grind, sumN_add, sumN_mul, sumN_mul, hs, sumN_swap]
    rw [sumN_congr (f := fun k => sumN W.length _) (g := fun k => y2 ts os left W k * sumN W.length fun j => x2 ts os left W j * oV (gtA ts (left.getD k 0) (W.getD j 0))) fun k _ => sumN_mul _ _ _]
    grind
  have e3 : 0 ≤ sumN left.length fun k => y2 ts os left W k * sumN W.length fun j => x2 ts os left W j * oV (gtA ts (left.getD k 0) (W.getD j 0)) := sumN_nonneg fun k hk => Rat.mul_nonneg (y2_0 k (by omega)) (row2 hk)
  rw [eq2, hy, e2] at key
  rw [hs]
  have e4 : y * 1 ≤ y * s := by grind
  have := Rat.le_of_mul_le_mul_left e4 (by have : y ≠ 0 := by rw [← hy]; exact h
                                           grind)
  grind
theorem mean2 (h : y2 ts os left W left.length ≠ 0) : sumN W.length (fun j => x2 ts os left W j * oV (os.getD (W.getD j 0) none)) = topR os + -(y2 ts os left W left.length) := by
  have e := eq2 (ts := ts) (os := os) (left := left) (W := W)
  rw [sumN_congr (g := fun j => topR os * (x2 ts os left W j * gvO (os.getD (W.getD j 0) none)) + (-1) * (x2 ts os left W j * oV (os.getD (W.getD j 0) none))) fun j _ => by rw [wthO_eq]; grind, sumN_add, sumN_mul, sumN_mul, slack2 h] at e
  grind
end
theorem dot_le : ∀ {ws : List Rat} {h g : Nat → Rat}, (∀ i, i < ws.length → ws.getD i 0 * h i ≤ ws.getD i 0 * g i) → dotL ws h ≤ dotL ws g
  | [], _, _, _ => Rat.le_refl
  | a :: l, h, g, e => by
    have e0 : a * h 0 ≤ a * g 0 := e 0 (by simp)
    have ih := dot_le (ws := l) (h := fun i => h (i + 1)) (g := fun i => g (i + 1)) fun i hi => by have := e (i + 1) (by simpa using hi); simpa using this
    show a * h 0 + dotL l _ ≤ a * g 0 + dotL l _
    grind
theorem dot_lin (c d : Rat) : ∀ (ws : List Rat) (h g : Nat → Rat), dotL ws (fun u => c * h u + d * g u) = c * dotL ws h + d * dotL ws g
  | [], _, _ => by show (0 : Rat) = c * 0 + d * 0; grind
  | a :: l, h, g => by
    show a * (c * h 0 + d * g 0) + dotL l _ = c * (a * h 0 + dotL l _) + d * (a * g 0 + dotL l _)
    rw [dot_lin c d l (fun i => h (i + 1)) fun i => g (i + 1)]; grind
theorem dot_sum (c : Nat → Rat) (h : Nat → Nat → Rat) (ws : List Rat) : ∀ n, dotL ws (fun u => sumN n fun k => c k * h k u) = sumN n fun k => c k * dotL ws (h k)
  | 0 => dot_zero fun i _ => by show _ * (0 : Rat) = 0; grind
  | n + 1 => by
    have ih := dot_sum c h ws n
    have e := dot_lin 1 (c n) ws (fun u => sumN n fun k => c k * h k u) (h n)
    show dotL ws (fun u => (sumN n fun k => c k * h k u) + c n * h n u) = (sumN n fun k => c k * dotL ws (h k)) + c n * dotL ws (h n)
    rw [← ih, show (fun u => (sumN n fun k => c k * h k u) + c n * h n u) = fun u => 1 * (sumN n fun k => c k * h k u) + c n * h n u from funext fun u => by grind, e]; grind
theorem lv_dot : ∀ (ws : List Rat) (os : List (Option Rat)), lvR (ws.zip os) = dotL ws fun u => gvO (os.getD u none)
  | [], _ => rfl
  | w :: ws, [] => by
    rw [List.zip_nil_right]
    exact (dot_zero fun i _ => by show _ * (0 : Rat) = 0; grind).symm
  | w :: ws, none :: os => by
    show lvR (ws.zip os) = w * 0 + dotL ws fun u => gvO (os.getD u none)
    rw [lv_dot ws os]; grind
  | w :: ws, some p :: os => by
    show w + lvR (ws.zip os) = w * 1 + dotL ws fun u => gvO (os.getD u none)
    rw [lv_dot ws os]; grind
theorem mean_le {M : Rat} {os : List (Option Rat)} (hM : ∀ p, some p ∈ os → p ≤ M) : ∀ {Ls : List (List Rat)} {μ : Rat}, (∀ ws ∈ Ls, ∀ w ∈ ws, 0 ≤ w) → meanIn os Ls = some μ → μ ≤ M
  | [], μ, _, h => by cases h
  | ws :: Ls, μ, h0, h => by
    rw [mean_cons] at h
    by_cases c : lvR (ws.zip os) = 0
    · rw [mean_none.mpr c] at h
      exact mean_le hM (fun x hx => h0 x (.tail _ hx)) h
    · have e : meanR (ws.zip os) = some (ttR (ws.zip os) / lvR (ws.zip os)) := if_neg c
      rw [e] at h
      have h : some (ttR (ws.zip os) / lvR (ws.zip os)) = some μ := h
      injection h with h
      have ln := lv_nonneg (zs := ws.zip os) fun z hz => h0 ws (.head _) _ (List.of_mem_zip hz).1
      have k : ttR (ws.zip os) ≤ M * lvR (ws.zip os) := by
        have e2 := dot_lin M 0 ws (fun u => gvO (os.getD u none)) fun _ => 0
        rw [tt_dot, lv_dot]
        have : dotL ws (fun u => oV (os.getD u none)) ≤ dotL ws fun u => M * gvO (os.getD u none) + 0 * 0 := dot_le fun i hi => Rat.mul_le_mul_of_nonneg_left (by
          cases e : os.getD i none with
          | none => show (0 : Rat) ≤ M * 0 + 0 * 0; grind
          | some p =>
            have := hM p (getD_mem e)
            show p ≤ M * 1 + 0 * 0
            grind) (by
          rw [List.getD_eq_getElem?_getD, List.getElem?_eq_getElem hi]
          exact h0 ws (.head _) _ (List.getElem_mem hi))
        rw [e2] at this
        grind
      have m := mul_div' (b := ttR (ws.zip os)) c
      rw [h] at m
      rw [← m] at k
      have pos : 0 < lvR (ws.zip os) := by grind
      have k2 : lvR (ws.zip os) * μ ≤ lvR (ws.zip os) * M := by grind
      exact Rat.le_of_mul_le_mul_left k2 pos
theorem low_bound {ts : Tbs} {os : List (Option Rat)} {left : List Nat} {y yf : Nat → Rat} {price : Rat} (y0 : ∀ k, k < left.length → 0 ≤ y k) (yf0 : ∀ k, k < left.length → 0 ≤ yf k)
    (hF : ∀ u, os.getD u none = none → (∃ i ∈ left, (gtA ts i u).isSome = true) → (sumN left.length fun k => yf k * oV (gtA ts (left.getD k 0) u)) ≤ -1)
    (hG : ∀ u p, os.getD u none = some p → (sumN left.length fun k => y k * oV (gtA ts (left.getD k 0) u)) + price ≤ p)
    (hG0 : ∀ u, os.getD u none = none → (∃ i ∈ left, (gtA ts i u).isSome = true) → (sumN left.length fun k => y k * oV (gtA ts (left.getD k 0) u)) ≤ 0) :
    ∀ {Ls : List (List Rat)}, (∀ ws ∈ Ls, ∀ w ∈ ws, 0 ≤ w) → (∀ i ∈ left, ∃ g, meanIn (ts.getD i []) Ls = some g ∧ 0 ≤ g) → (meanIn os Ls = none → left = []) ∧ ∀ μ, meanIn os Ls = some μ → price ≤ μ
  | [], _, hb => ⟨fun _ => (by
      cases left with
      | nil => rfl
      | cons i l => (obtain ⟨g, e, _⟩ := hb i (.head _); cases e)), fun μ h => (by cases h)⟩
  | ws :: Ls, h0, hb => by
    have w0 : ∀ w ∈ ws, 0 ≤ w := h0 ws (.head _)
    have wg : ∀ i, i < ws.length → 0 ≤ ws.getD i 0 := fun i hi => by
      rw [List.getD_eq_getElem?_getD, List.getElem?_eq_getElem hi]
      exact w0 _ (List.getElem_mem hi)
    have kmem : ∀ k, k < left.length → left.getD k 0 ∈ left := fun k hk => by
      rw [List.getD_eq_getElem?_getD, List.getElem?_eq_getElem hk]
      exact List.getElem_mem hk
    have t0 : ∀ i ∈ left, 0 ≤ ttR (ws.zip (ts.getD i [])) := fun i hi => by
      obtain ⟨g, e, g0⟩ := hb i hi
      have ln := lv_nonneg (zs := ws.zip (ts.getD i [])) fun x hx => w0 _ (List.of_mem_zip hx).1
      by_cases l0 : lvR (ws.zip (ts.getD i [])) = 0
      · rw [tt_zero ((lv_zero fun x hx => w0 _ (List.of_mem_zip hx).1).mp l0)]; exact Rat.le_refl
      · rw [mean_cons, show meanR (ws.zip (ts.getD i [])) = some _ from if_neg l0] at e
        have e : some (ttR (ws.zip (ts.getD i [])) / lvR (ws.zip (ts.getD i []))) = some g := e
        injection e with e
        have := mul_div' (b := ttR (ws.zip (ts.getD i []))) l0
        rw [e] at this
        rw [← this]
        exact Rat.mul_nonneg ln g0
    have dotS : ∀ c : Nat → Rat, (∀ k, k < left.length → 0 ≤ c k) → 0 ≤ dotL ws fun u => sumN left.length fun k => c k * oV (gtA ts (left.getD k 0) u) := fun c c0 => by
      rw [dot_sum c (fun k u => oV (gtA ts (left.getD k 0) u))]
      refine sumN_nonneg fun k hk => Rat.mul_nonneg (c0 k hk) ?_
      have := t0 _ (kmem k hk)
      rw [tt_dot] at this
      exact this
    have dead : ∀ (c : Nat → Rat) u, (¬ ∃ i ∈ left, (gtA ts i u).isSome = true) → (sumN left.length fun k => c k * oV (gtA ts (left.getD k 0) u)) = 0 := fun c u hn => sumN_zero fun k hk => by
      cases e : gtA ts (left.getD k 0) u with
      | none => show c k * (0 : Rat) = 0; grind
      | some r => exact (hn ⟨_, kmem k hk, by rw [e]; rfl⟩).elim
    rw [mean_cons]
    by_cases lz : lvR (ws.zip os) = 0
    · have wz := lz
      rw [lv_dot] at wz
      have hall : ∀ i ∈ left, lvR (ws.zip (ts.getD i [])) = 0 := by
        have h1 := dotS yf yf0
        have h2 : dotL ws (fun u => sumN left.length fun k => yf k * oV (gtA ts (left.getD k 0) u)) ≤ dotL ws fun u => (-1) * (if left.any (fun i => (gtA ts i u).isSome) then (1 : Rat) else 0) + 0 * 0 := dot_le fun u hu => by
          cases eo : os.getD u none with
          | some p =>
            have hz : ws.getD u 0 = 0 := by
              have := (lv_zero (zs := ws.zip os) fun x hx => w0 _ (List.of_mem_zip hx).1).mp lz (ws.getD u 0, some p) (by
                refine List.mem_of_getElem? (i := u) (List.getElem?_zip_eq_some.mpr ⟨by rw [List.getD_eq_getElem?_getD, List.getElem?_eq_getElem hu]; rfl, ?_⟩)
                rw [List.getD_eq_getElem?_getD] at eo
                cases e2 : os[u]? with
                | none => rw [e2] at eo; cases eo
                | some o => rw [e2] at eo; exact congrArg some eo) rfl
              exact this
            rw [hz, Rat.zero_mul, Rat.zero_mul]; exact Rat.le_refl
          | none =>
            refine Rat.mul_le_mul_of_nonneg_left ?_ (wg u hu)
            by_cases lv : ∃ i ∈ left, (gtA ts i u).isSome = true
            · have := hF u eo lv
              rw [if_pos (List.any_eq_true.mpr lv)]
              grind
            · rw [dead yf u lv, if_neg fun z => lv (List.any_eq_true.mp z)]
              grind
        rw [dot_lin] at h2
        have h3 : dotL ws (fun u => if left.any (fun i => (gtA ts i u).isSome) then (1 : Rat) else 0) ≤ 0 := by grind
        intro i hi
        refine (lv_zero fun x hx => w0 _ (List.of_mem_zip hx).1).mpr fun z hz hs => ?_
        obtain ⟨u, hu⟩ := List.mem_iff_getElem?.mp hz
        rw [List.getElem?_zip_eq_some] at hu
        obtain ⟨hu1, hu2⟩ := hu
        have hul := (List.getElem?_eq_some_iff.mp hu1).1
        have hz1 : ws.getD u 0 = z.1 := by rw [List.getD_eq_getElem?_getD, hu1]; rfl
        have hlive : left.any (fun i => (gtA ts i u).isSome) = true := List.any_eq_true.mpr ⟨i, hi, by
          unfold gtA
          rw [List.getD_eq_getElem?_getD (i := u), hu2]; exact hs⟩
        have h4 : dotL ws (fun v => if v = u then (1 : Rat) else 0) ≤ dotL ws (fun u => if left.any (fun i => (gtA ts i u).isSome) then (1 : Rat) else 0) := dot_le fun v hv => Rat.mul_le_mul_of_nonneg_left (by
          by_cases c : v = u
          · rw [if_pos c, c, if_pos hlive]; exact Rat.le_refl
          · rw [if_neg c]; split <;> decide) (wg v hv)
        have h5 : ∀ (l : List Rat) (v : Nat), dotL l (fun w => if w = v then (1 : Rat) else 0) = l.getD v 0 := by
          intro l
          induction l with
          | nil => intro v; rfl
          | cons a l ih =>
            intro v
            cases v with
            | zero =>
              show a * 1 + dotL l (fun w => if w + 1 = 0 then (1 : Rat) else 0) = a
              rw [dot_zero fun w _ => by rw [if_neg (by omega)]; grind]; grind
            | succ v =>
              show a * 0 + dotL l (fun w => if w + 1 = v + 1 then (1 : Rat) else 0) = l.getD v 0
              rw [← ih v, dot_congr (g := fun w => if w = v then (1 : Rat) else 0) fun w _ => by
                by_cases c : w = v
                · rw [if_pos c, if_pos (by omega)]
                · rw [if_neg c, if_neg (by omega)]]; grind
        rw [h5, hz1] at h4
        have := w0 z.1 (List.of_mem_zip hz).1
        grind
      rw [mean_none.mpr lz, Option.none_or]
      refine low_bound y0 yf0 hF hG hG0 (fun x hx => h0 x (.tail _ hx)) fun i hi => ?_
      have := hb i hi
      rw [mean_cons, mean_none.mpr (hall i hi), Option.none_or] at this
      exact this
    · have e : meanR (ws.zip os) = some (ttR (ws.zip os) / lvR (ws.zip os)) := if_neg lz
      rw [e, Option.some_or]
      refine ⟨fun h => (by cases h), fun μ h => ?_⟩
      injection h with h
      have ln := lv_nonneg (zs := ws.zip os) fun z hz => w0 _ (List.of_mem_zip hz).1
      have h1 := dotS y y0
      have h2 : dotL ws (fun u => sumN left.length fun k => y k * oV (gtA ts (left.getD k 0) u)) ≤ dotL ws fun u => 1 * oV (os.getD u none) + (-price) * gvO (os.getD u none) := dot_le fun u hu => Rat.mul_le_mul_of_nonneg_left (by
        cases eo : os.getD u none with
        | some p =>
          have := hG u p eo
          show _ ≤ 1 * p + -price * 1
          grind
        | none =>
          show _ ≤ 1 * (0 : Rat) + -price * 0
          by_cases lv : ∃ i ∈ left, (gtA ts i u).isSome = true
          · have := hG0 u eo lv
            grind
          · rw [dead y u lv]; grind) (wg u hu)
      rw [dot_lin, ← tt_dot, ← lv_dot] at h2
      have m := mul_div' (b := ttR (ws.zip os)) lz
      rw [h] at m
      rw [← m] at h2
      have pos : 0 < lvR (ws.zip os) := by grind
      have k2 : lvR (ws.zip os) * price ≤ lvR (ws.zip os) * μ := by grind
      exact Rat.le_of_mul_le_mul_left k2 pos

section
variable (ls : List Nat) (rs : List (List Wd)) (bs : List Bid) (b : Bet)
noncomputable def loS : List (List Rat) × List Nat × List Rat := strR (jTs ls rs bs) (tabS ls rs b) (bs.length + 1) (List.range bs.length)
noncomputable def loL : List Nat := (loS ls rs bs b).2.1
noncomputable def loW : List Nat := lowW (jTs ls rs bs) (tabS ls rs b) (loL ls rs bs b)
noncomputable def loX : Nat → Rat := x2 (jTs ls rs bs) (tabS ls rs b) (loL ls rs bs b) (loW ls rs bs b)
noncomputable def loY : Nat → Rat := y2 (jTs ls rs bs) (tabS ls rs b) (loL ls rs bs b) (loW ls rs bs b)
noncomputable def loP : Rat := topR (tabS ls rs b) + -(loY ls rs bs b (loL ls rs bs b).length)
noncomputable def loT : Rat := sumN (loW ls rs bs b).length (loX ls rs bs b)
noncomputable def loV : List Rat := sprd (worldsOf ls rs).length (loW ls rs bs b) ((List.range (loW ls rs bs b).length).map fun j => loX ls rs bs b j * (loT ls rs bs b)⁻¹)
noncomputable def loU : List Nat := (loL ls rs bs b).filter fun i => unwB ((jTs ls rs bs).getD i []) (loV ls rs bs b)
noncomputable def loR : List (List Rat) × List Nat × List Rat := layR (jTs ls rs bs) (worldsOf ls rs).length ((loU ls rs bs b).length + 1) (loU ls rs bs b)
noncomputable def loLs : List (List Rat) := (loS ls rs bs b).1 ++ [loV ls rs bs b] ++ (loR ls rs bs b).1
end
section
variable {ls : List Nat} {rs : List (List Wd)} {bs : List Bid} {b : Bet}
theorem loS_ok : StrOk (jTs ls rs bs) (tabS ls rs b) (List.range bs.length) (loS ls rs bs b) := str_ok _ _ _ _ (by rw [List.length_range]; omega)
theorem loL_lt : ∀ i ∈ loL ls rs bs b, i < bs.length := fun i hi => List.mem_range.mp (loS_ok.sub.subset hi)
theorem loL_nd : (loL ls rs bs b).Nodup := List.nodup_range.sublist loS_ok.sub
theorem loW_lt : ∀ u ∈ loW ls rs bs b, u < (worldsOf ls rs).length := fun u h => by have := lowW_lt u h; rw [tab_len] at this; exact this
theorem loW_len : (loW ls rs bs b).length ≤ (worldsOf ls rs).length := by have := lowW_len (ts := jTs ls rs bs) (os := tabS ls rs b) (left := loL ls rs bs b); rw [tab_len] at this; exact this
theorem live_lt {i u : Nat} (h : (gtA (jTs ls rs bs) i u).isSome = true) : u < (worldsOf ls rs).length := by
  unfold gtA at h
  rcases Nat.lt_or_ge i (jTs ls rs bs).length with hi | hi
  · have hi' : i < bs.length := by rw [jTs_len] at hi; exact hi
    rw [jTs_get (List.getElem?_eq_getElem hi'), List.getD_eq_getElem?_getD] at h
    cases e : (gainsB ls rs bs[i])[u]? with
    | none => rw [e] at h; cases h
    | some o =>
      have := (List.getElem?_eq_some_iff.mp e).1
      rw [gainsB_len] at this; exact this
  · rw [show (jTs ls rs bs).getD i [] = [] by rw [List.getD_eq_getElem?_getD, List.getElem?_eq_none hi]; rfl] at h
    cases h
theorem lo_yf0 : ∀ k, k < (loL ls rs bs b).length → 0 ≤ yOf (jTs ls rs bs) (loL ls rs bs b) (offW (jTs ls rs bs) (tabS ls rs b) (loL ls rs bs b)) k := fun k hk => (lpOf_best _ _ _).y0 k (by show k < _ + 1; omega)
theorem lo_F (u : Nat) (ho : (tabS ls rs b).getD u none = none) (hl : ∃ i ∈ loL ls rs bs b, (gtA (jTs ls rs bs) i u).isSome = true) : (sumN (loL ls rs bs b).length fun k => yOf (jTs ls rs bs) (loL ls rs bs b) (offW (jTs ls rs bs) (tabS ls rs b) (loL ls rs bs b)) k * oV (gtA (jTs ls rs bs) ((loL ls rs bs b).getD k 0) u)) ≤ -1 := by
  obtain ⟨i, hi, hs⟩ := hl
  have hu : u < (tabS ls rs b).length := by rw [tab_len]; exact live_lt hs
  have hm := mem_off hu ho hi hs
  obtain ⟨j, hj, e⟩ := List.mem_iff_getElem.mp hm
  have hc := col_ge (ts := jTs ls rs bs) (left := loL ls rs bs b) _ hj
  have hz : yOf (jTs ls rs bs) (loL ls rs bs b) (offW (jTs ls rs bs) (tabS ls rs b) (loL ls rs bs b)) (loL ls rs bs b).length = 0 := by
    rw [← y_last, ← wAt_sum (w := (tabS ls rs b).length) offW_nd offW_lt]
    exact (all_zero_sum wAt_nonneg).mp loS_ok.loss.1
  rw [hz, List.getD_eq_getElem?_getD, List.getElem?_eq_getElem hj, Option.getD_some, e] at hc
  grind
theorem lo_col {u : Nat} (hu : u ∈ loW ls rs bs b) : wthO (topR (tabS ls rs b)) ((tabS ls rs b).getD u none) ≤ -(sumN (loL ls rs bs b).length fun k => loY ls rs bs b k * oV (gtA (jTs ls rs bs) ((loL ls rs bs b).getD k 0) u)) + loY ls rs bs b (loL ls rs bs b).length * gvO ((tabS ls rs b).getD u none) := by
  obtain ⟨j, hj, e⟩ := List.mem_iff_getElem.mp hu
  have hc := col2 (ts := jTs ls rs bs) (os := tabS ls rs b) (left := loL ls rs bs b) hj
  rw [List.getD_eq_getElem?_getD (l := loW ls rs bs b), List.getElem?_eq_getElem hj, Option.getD_some, e] at hc
  exact hc
theorem lo_G (u : Nat) (p : Rat) (ho : (tabS ls rs b).getD u none = some p) : (sumN (loL ls rs bs b).length fun k => loY ls rs bs b k * oV (gtA (jTs ls rs bs) ((loL ls rs bs b).getD k 0) u)) + loP ls rs bs b ≤ p := by
  have hu : u < (tabS ls rs b).length := by
    rcases Nat.lt_or_ge u (tabS ls rs b).length with h | h
    · exact h
    · rw [List.getD_eq_getElem?_getD, List.getElem?_eq_none h] at ho; cases ho
  have hc := lo_col (ls := ls) (rs := rs) (bs := bs) (b := b) (u := u) (List.mem_filter.mpr ⟨List.mem_range.mpr hu, by rw [ho]; rfl⟩)
  rw [ho] at hc
  have hc : topR (tabS ls rs b) + -p ≤ _ + _ * (1 : Rat) := hc
  unfold loP
  grind
theorem lo_G0 (u : Nat) (ho : (tabS ls rs b).getD u none = none) (hl : ∃ i ∈ loL ls rs bs b, (gtA (jTs ls rs bs) i u).isSome = true) : (sumN (loL ls rs bs b).length fun k => loY ls rs bs b k * oV (gtA (jTs ls rs bs) ((loL ls rs bs b).getD k 0) u)) ≤ 0 := by
  obtain ⟨i, hi, hs⟩ := hl
  have hu : u < (tabS ls rs b).length := by rw [tab_len]; exact live_lt hs
  have hc := lo_col (ls := ls) (rs := rs) (bs := bs) (b := b) (u := u) (List.mem_filter.mpr ⟨List.mem_range.mpr hu, by rw [List.any_eq_true.mpr ⟨i, hi, hs⟩, Bool.or_true]⟩)
  rw [ho] at hc
  have hc : (0 : Rat) ≤ _ + _ * (0 : Rat) := hc
  grind
theorem lo_y0 : ∀ k, k < (loL ls rs bs b).length + 1 → 0 ≤ loY ls rs bs b k := y2_0
theorem bid_mean {Ls : List (List Rat)} (hb : ∀ c ∈ bs, bearsB (tabS ls rs c.1) Ls c.2 = true) : ∀ i, i < bs.length → ∃ g, meanIn ((jTs ls rs bs).getD i []) Ls = some g ∧ 0 ≤ g := fun i hi => by
  rw [jTs_get (List.getElem?_eq_getElem hi)]
  exact (bears_gain _ _ _).mp (hb _ (List.getElem_mem hi))
theorem lo_low0 {Ls : List (List Rat)} (h0 : ∀ ws ∈ Ls, ∀ w ∈ ws, 0 ≤ w) (hb : ∀ c ∈ bs, bearsB (tabS ls rs c.1) Ls c.2 = true) : (meanIn (tabS ls rs b) Ls = none → loL ls rs bs b = []) ∧ ∀ μ, meanIn (tabS ls rs b) Ls = some μ → loP ls rs bs b ≤ μ :=
  low_bound (fun k hk => lo_y0 k (by omega)) lo_yf0 lo_F lo_G lo_G0 h0 fun i hi => bid_mean hb i (loL_lt i hi)
theorem lo_low {Ls : List (List Rat)} {μ : Rat} (h0 : ∀ ws ∈ Ls, ∀ w ∈ ws, 0 ≤ w) (hb : ∀ c ∈ bs, bearsB (tabS ls rs c.1) Ls c.2 = true) (h : meanIn (tabS ls rs b) Ls = some μ) : loP ls rs bs b ≤ μ := (lo_low0 h0 hb).2 μ h
theorem lo_ne (hB : Borne ls rs bs) {p : Rat} (hp : some p ∈ tabS ls rs b) : loY ls rs bs b (loL ls rs bs b).length ≠ 0 := fun z => by
  have e : loP ls rs bs b = topR (tabS ls rs b) := by unfold loP; rw [z]; grind
  obtain ⟨Ls, h0, hb⟩ := hB
  obtain ⟨h1, h2⟩ := lo_low0 (b := b) h0 hb
  cases c : meanIn (tabS ls rs b) Ls with
  | none =>
    have hn := h1 c
    obtain ⟨u, hu⟩ := List.mem_iff_getElem?.mp hp
    have := lo_G (ls := ls) (rs := rs) (bs := bs) (b := b) u p (by rw [List.getD_eq_getElem?_getD, hu]; rfl)
    rw [hn, e] at this
    have t := top_gt hp
    have this : (0 : Rat) + topR (tabS ls rs b) ≤ p := this
    grind
  | some μ =>
    have := h2 μ c
    have t := mean_le (M := topR (tabS ls rs b) + -1) (fun q hq => by have := top_gt hq; grind) h0 c
    grind
theorem loT_ge (hne : loY ls rs bs b (loL ls rs bs b).length ≠ 0) : 1 ≤ loT ls rs bs b := by
  have s := slack2 (ts := jTs ls rs bs) (os := tabS ls rs b) (left := loL ls rs bs b) (W := loW ls rs bs b) hne
  rw [← s]
  refine sumN_le fun j hj => ?_
  have x0 := x2_0 (ts := jTs ls rs bs) (os := tabS ls rs b) (left := loL ls rs bs b) j hj
  obtain ⟨_, g1⟩ := gvO_01 ((tabS ls rs b).getD ((loW ls rs bs b).getD j 0) none)
  have := Rat.mul_le_mul_of_nonneg_left g1 x0
  rw [Rat.mul_one] at this
  exact this
theorem inv_mul {t : Rat} (h : t ≠ 0) : t⁻¹ * t = 1 := by rw [Rat.mul_comm]; exact Rat.mul_inv_cancel _ h
theorem inv_pos' {t : Rat} (h : 1 ≤ t) : 0 < t⁻¹ := by
  have h0 : t ≠ 0 := by grind
  have e := inv_mul h0
  by_cases c : 0 < t⁻¹
  · exact c
  · have : 0 ≤ (-t⁻¹) * t := Rat.mul_nonneg (by grind) (by grind)
    grind
theorem loV_dot (h : Nat → Rat) : dotL (loV ls rs bs b) h = (loT ls rs bs b)⁻¹ * sumN (loW ls rs bs b).length fun j => loX ls rs bs b j * h ((loW ls rs bs b).getD j 0) := by
  unfold loV
  rw [dot_sprd (W := loW ls rs bs b) lowW_nd loW_lt, ← sumN_mul]
  exact sumN_congr fun j _ => by grind
theorem loV_len : (loV ls rs bs b).length = (worldsOf ls rs).length := sprd_len _ _ _
theorem loV_nonneg (hne : loY ls rs bs b (loL ls rs bs b).length ≠ 0) : ∀ v ∈ loV ls rs bs b, 0 ≤ v := fun v hv => by
  rcases sprd_mem hv with y | y
  · rw [y]; exact Rat.le_refl
  · obtain ⟨j, hj, rfl⟩ := List.mem_map.mp y
    exact Rat.mul_nonneg (x2_0 j (List.mem_range.mp hj)) (Rat.le_of_lt (inv_pos' (loT_ge hne)))
theorem loV_sum (hne : loY ls rs bs b (loL ls rs bs b).length ≠ 0) : (loV ls rs bs b).sum = 1 := by
  rw [sum_dot, loV_dot, sumN_congr (g := loX ls rs bs b) fun j _ => Rat.mul_one _]
  exact inv_mul (by have := loT_ge hne; grind)
theorem loV_fair (hne : loY ls rs bs b (loL ls rs bs b).length ≠ 0) {i : Nat} (hi : i ∈ loL ls rs bs b) : 0 ≤ ttR ((loV ls rs bs b).zip ((jTs ls rs bs).getD i [])) := by
  rw [tt_dot, loV_dot]
  refine Rat.mul_nonneg (Rat.le_of_lt (inv_pos' (loT_ge hne))) ?_
  obtain ⟨k, hk, e⟩ := List.mem_iff_getElem.mp hi
  have := row2 (ts := jTs ls rs bs) (os := tabS ls rs b) (W := loW ls rs bs b) hk
  rw [List.getD_eq_getElem?_getD, List.getElem?_eq_getElem hk, Option.getD_some, e] at this
  exact this
theorem loV_mean (hne : loY ls rs bs b (loL ls rs bs b).length ≠ 0) : meanR ((loV ls rs bs b).zip (tabS ls rs b)) = some (loP ls rs bs b) := by
  have ip := inv_pos' (loT_ge hne)
  have e1 : lvR ((loV ls rs bs b).zip (tabS ls rs b)) = (loT ls rs bs b)⁻¹ := by
    rw [lv_dot, loV_dot, show (sumN (loW ls rs bs b).length fun j => loX ls rs bs b j * gvO ((tabS ls rs b).getD ((loW ls rs bs b).getD j 0) none)) = 1 from slack2 hne, Rat.mul_one]
  have e2 : ttR ((loV ls rs bs b).zip (tabS ls rs b)) = (loT ls rs bs b)⁻¹ * loP ls rs bs b := by
    rw [tt_dot, loV_dot, show (sumN (loW ls rs bs b).length fun j => loX ls rs bs b j * oV ((tabS ls rs b).getD ((loW ls rs bs b).getD j 0) none)) = loP ls rs bs b from mean2 hne]
  unfold meanR
  rw [e1, e2, if_neg (by grind)]
  congr 1
  have m := mul_div' (a := (loT ls rs bs b)⁻¹) (b := (loT ls rs bs b)⁻¹ * loP ls rs bs b) (by grind)
  have : (loT ls rs bs b)⁻¹ * ((loT ls rs bs b)⁻¹ * loP ls rs bs b / (loT ls rs bs b)⁻¹ - loP ls rs bs b) = 0 := by grind
  rcases Rat.mul_eq_zero.mp this with y | y <;> grind
theorem loU_lt : ∀ i ∈ loU ls rs bs b, i < bs.length := fun i hi => loL_lt i (List.mem_filter.mp hi).1
theorem loU_nd : (loU ls rs bs b).Nodup := loL_nd.sublist List.filter_sublist
theorem loR_ok : LayOk (jTs ls rs bs) (worldsOf ls rs).length (loU ls rs bs b) (loR ls rs bs b) := lay_ok _ _ _ _ (by omega)
theorem loR_nil (hB : Borne ls rs bs) (hl : ∀ c ∈ bs, ((worldsOf ls rs).any fun u => valS ls u c.1.2) = true) : (loR ls rs bs b).2.1 = [] := by
  refine Classical.byContradiction fun z => ?_
  obtain ⟨h1, h2⟩ := loR_ok.loss z
  have lt : ∀ i ∈ (loR ls rs bs b).2.1, i < bs.length := fun i hi => loU_lt i (loR_ok.sub.subset hi)
  have h3 := loss_ok (ls := ls) (rs := rs) (bs := bs) z lt (loU_nd.sublist loR_ok.sub) hl h1
  obtain ⟨Ls, h0, hb⟩ := hB
  rw [no_loss (fun s hs => ?_) h0 hb] at h3
  · cases h3
  · rcases sprd_mem hs with y | y
    · rw [y]; exact Rat.le_refl
    · obtain ⟨k, hk, rfl⟩ := List.mem_map.mp y
      exact (lpOf_best _ _ _).y0 k (by have := List.mem_range.mp hk; show k < (loR ls rs bs b).2.1.length + 1; omega)
structure LoOk (ls : List Nat) (rs : List (List Wd)) (bs : List Bid) (b : Bet) : Prop where
  wg : ∀ ws ∈ loLs ls rs bs b, ws.length = (worldsOf ls rs).length ∧ (∀ v ∈ ws, 0 ≤ v) ∧ ws.sum = 1
  few : (loLs ls rs bs b).length ≤ bs.length + 1
  mean : meanIn (tabS ls rs b) (loLs ls rs bs b) = some (loP ls rs bs b)
  bears : ∀ c ∈ bs, bearsB (tabS ls rs c.1) (loLs ls rs bs b) c.2 = true
theorem lo_ok (hB : Borne ls rs bs) (hl : ∀ c ∈ bs, ((worldsOf ls rs).any fun u => valS ls u c.1.2) = true) {p : Rat} (hp : some p ∈ tabS ls rs b) : LoOk ls rs bs b := by
  have hne := lo_ne hB hp
  have hS := loS_ok (ls := ls) (rs := rs) (bs := bs) (b := b)
  have hR := loR_ok (ls := ls) (rs := rs) (bs := bs) (b := b)
  refine ⟨fun ws hw => ?_, ?_, ?_, fun c hc => ?_⟩
  · rcases List.mem_append.mp hw with y | y
    · rcases List.mem_append.mp y with y | y
      · have := hS.wg ws y
        rw [tab_len] at this
        exact this
      · rw [List.mem_singleton] at y
        rw [y]
        exact ⟨loV_len, loV_nonneg hne, loV_sum hne⟩
    · exact hR.wg ws y
  · have h1 := hS.len
    have h2 := hR.len
    have h3 : (loU ls rs bs b).length ≤ (loL ls rs bs b).length := List.length_filter_le _ _
    rw [List.length_range] at h1
    unfold loLs
    rw [List.length_append, List.length_append, List.length_singleton]
    have h1 : (loS ls rs bs b).1.length + (loL ls rs bs b).length ≤ bs.length := h1
    omega
  · unfold loLs
    rw [mean_append, mean_append, hS.off, Option.none_or, mean_cons, loV_mean hne]; rfl
  · obtain ⟨i, hi⟩ := List.mem_iff_getElem?.mp hc
    have hil := (List.getElem?_eq_some_iff.mp hi).1
    refine (bears_gain _ _ _).mpr ?_
    show ∃ g, meanIn (gainsB ls rs c) _ = some g ∧ 0 ≤ g
    rw [← jTs_get hi]
    unfold loLs
    rw [mean_append, mean_append, mean_cons]
    by_cases hm : i ∈ loL ls rs bs b
    · rw [hS.non i hm, Option.none_or]
      cases u : unwB ((jTs ls rs bs).getD i []) (loV ls rs bs b) with
      | true =>
        obtain ⟨g, e, g0⟩ := hR.fair (loR_nil hB hl) i (List.mem_filter.mpr ⟨hm, u⟩)
        rw [mean_none.mpr ((unw_true (loV_nonneg hne)).mp u)]
        exact ⟨g, by rw [e]; rfl, g0⟩
      | false =>
        obtain ⟨g, e, g0⟩ := mean_pos (loV_nonneg hne) (loV_fair hne hm) u
        exact ⟨g, by rw [e]; rfl, g0⟩
    · obtain ⟨g, e, g0⟩ := hS.fair i (List.mem_range.mpr hil) hm
      exact ⟨g, by rw [e]; rfl, g0⟩
end

theorem tab_zgC {D : Dims} {S : Tab} {f : Nat → Nat} {G : Nat} (h : FwC D S f) (hc : ∃ d2 : Nat, 0 < d2 ∧ d2 ≤ 2 ^ G ∧ ∀ j, j ≤ D.N → ∃ c : Int, (d2 : Rat) * D.c j = (c : Rat) ∧ c.natAbs ≤ 2 ^ G) (g : GoodD D S) {j : Nat} (hj : j ≤ D.N) : Sz (FBc D.m f + (D.m + 1) + G) (S.z j) := by
  obtain ⟨d, d0, d1, d2⟩ := tab_cdC h g hj
  obtain ⟨q, q0, q1, hc⟩ := hc
  have z_eq' : S.z j = D.c j + -(sumN D.m fun i => D.c (S.own i) * S.T i j) := z_eq g.g hj
  have ns : ∃ n : Nat → Int, ∀ i, i < D.m → ((d : Rat) * (q : Rat)) * (D.c (S.own i) * S.T i j) = (n i : Rat) ∧ (n i).natAbs ≤ 2 ^ FBc D.m f * 2 ^ G := by
    have : ∀ i, ∃ n : Int, i < D.m → ((d : Rat) * (q : Rat)) * (D.c (S.own i) * S.T i j) = (n : Rat) ∧ n.natAbs ≤ 2 ^ FBc D.m f * 2 ^ G := fun i => by
      by_cases hi : i < D.m
      · obtain ⟨c, c1, c2⟩ := hc (S.own i) (Nat.le_of_lt (g.g.lt i hi))
        obtain ⟨n, n1, n2⟩ := d2 i hi
        refine ⟨c * n, fun _ => ⟨?_, ?_⟩⟩
        · rw [Rat.intCast_mul, ← n1, ← c1]; grind
        · rw [Int.natAbs_mul, Nat.mul_comm]
          exact Nat.mul_le_mul (Nat.le_of_lt n2) c2
      · exact ⟨0, fun z => absurd z hi⟩
    exact ⟨fun i => Classical.choose (this i), fun i hi => Classical.choose_spec (this i) hi⟩
  obtain ⟨n, hn⟩ := ns
  obtain ⟨e, e1, e2⟩ := sumN_abs (m := D.m) (f := n) (B := 2 ^ FBc D.m f * 2 ^ G) fun i hi => (hn i hi).2
  obtain ⟨c, c1, c2⟩ := hc j hj
  have key : ((d : Rat) * (q : Rat)) * S.z j = ((c * d - e : Int) : Rat) := by
    rw [z_eq', Rat.intCast_sub, Rat.intCast_mul, ← e1, ← c1]
    have : ((d : Rat) * (q : Rat)) * sumN D.m (fun i => D.c (S.own i) * S.T i j) = sumN D.m fun i => (n i : Rat) := by
      rw [← sumN_mul]
      exact sumN_congr fun i hi => (hn i hi).1
    grind
  have d0' : (d : Rat) ≠ 0 := fun z => d0 (Rat.intCast_eq_zero_iff.mp z)
  have q0' : (q : Rat) ≠ 0 := fun z => by have := Rat.natCast_eq_zero_iff.mp z; omega
  have dq0 : (d : Rat) * (q : Rat) ≠ 0 := fun z => by rcases Rat.mul_eq_zero.mp z with y | y <;> contradiction
  have dqe : ((d * (q : Int) : Int) : Rat) = (d : Rat) * (q : Rat) := by rw [Rat.intCast_mul]; rfl
  have e3 : S.z j = Rat.divInt (c * d - e) (d * (q : Int)) := by
    rw [Rat.divInt_eq_div, ← key, dqe]
    have := mul_div' (b := ((d : Rat) * (q : Rat)) * S.z j) dq0
    generalize ((d : Rat) * (q : Rat)) * S.z j / ((d : Rat) * (q : Rat)) = r at this ⊢
    have h3 : ((d : Rat) * (q : Rat)) * (r - S.z j) = 0 := by grind
    rcases Rat.mul_eq_zero.mp h3 with y | y
    · exact absurd y dq0
    · grind
  rw [e3]
  have pw : 2 ^ (FBc D.m f + (D.m + 1) + G) = (2 ^ FBc D.m f * 2 ^ G) * 2 ^ (D.m + 1) := by
    rw [show FBc D.m f + (D.m + 1) + G = FBc D.m f + G + (D.m + 1) by omega, Nat.pow_add, Nat.pow_add]
  have pp : 0 < 2 ^ FBc D.m f * 2 ^ G := Nat.mul_pos (Nat.two_pow_pos _) (Nat.two_pow_pos _)
  have tm : D.m + 1 < 2 ^ (D.m + 1) := Nat.lt_two_pow_self
  have t1 := Nat.mul_lt_mul_of_pos_left tm pp
  refine sz_divInt (fun z => dq0 (by rw [← dqe, z]; rfl)) ?_ ?_
  · have q1' : (c * d).natAbs ≤ 2 ^ FBc D.m f * 2 ^ G := by
      rw [Int.natAbs_mul, Nat.mul_comm]
      exact Nat.mul_le_mul (Nat.le_of_lt d1) c2
    rw [pw]
    refine Nat.lt_of_le_of_lt ?_ t1
    rw [Nat.mul_add, Nat.mul_one, Nat.mul_comm _ D.m]
    generalize 2 ^ FBc D.m f * 2 ^ G = P at q1' e2
    omega
  · rw [pw, Int.natAbs_mul, Int.natAbs_natCast]
    have h1 : d.natAbs * q < 2 ^ FBc D.m f * 2 ^ G + 1 := Nat.lt_succ_of_le (Nat.mul_le_mul (Nat.le_of_lt d1) q1)
    have h2 : 2 ^ FBc D.m f * 2 ^ G * 1 < 2 ^ FBc D.m f * 2 ^ G * 2 ^ (D.m + 1) := Nat.mul_lt_mul_of_pos_left (by omega) pp
    omega
theorem lp2_few {ts : Tbs} {os : List (Option Rat)} {left W : List Nat} {f : Nat → Nat} {top : Rat} (h : ∀ i ∈ left, Tin (f i) (ts.getD i [])) : FewC (lp2 ts os left W top).dims (fun k => if k < left.length then f (left.getD k 0) else 1) := fun k hk => by
  have z0 : ∀ d e : Nat, ∃ c : Int, (d : Rat) * 0 = (c : Rat) ∧ c.natAbs < 2 ^ e := fun d e => ⟨0, by rw [Rat.mul_zero]; rfl, Nat.two_pow_pos _⟩
  have z1 : ∀ d e : Nat, d < 2 ^ e → ∃ c : Int, (d : Rat) * 1 = (c : Rat) ∧ c.natAbs < 2 ^ e := fun d e hd => ⟨d, by rw [Rat.mul_one]; rfl, hd⟩
  have hk : k < left.length + 1 := hk
  by_cases c : k < left.length
  · dsimp only
    rw [if_pos c]
    obtain ⟨d, d0, dK, hd⟩ := h (left.getD k 0) (by rw [List.getD_eq_getElem?_getD, List.getElem?_eq_getElem c]; exact List.getElem_mem c)
    refine ⟨d, d0, fun j _ => ?_⟩
    show ∃ c' : Int, (d : Rat) * (if j < W.length then (if k < left.length then negO (gtA ts (left.getD k 0) (W.getD j 0)) else gvO (os.getD (W.getD j 0) none)) else if j < W.length + (left.length + 1) then (if j = W.length + k then (1 : Rat) else 0) else (if k < left.length then 0 else 1)) = (c' : Rat) ∧ _
    rw [if_pos c, if_pos c]
    split
    · cases e : gtA ts (left.getD k 0) (W.getD j 0) with
      | none => exact z0 d _
      | some r =>
        obtain ⟨c', e1, e2⟩ := hd r (gtA_mem e)
        refine ⟨-c', ?_, by rw [Int.natAbs_neg]; exact e2⟩
        show (d : Rat) * -r = _
        rw [Rat.intCast_neg, ← e1]; grind
    · split
      · split
        · exact z1 d _ dK
        · exact z0 d _
      · exact z0 d _
  · dsimp only
    rw [if_neg c]
    refine ⟨1, by decide, fun j _ => ?_⟩
    show ∃ c' : Int, ((1 : Nat) : Rat) * (if j < W.length then (if k < left.length then negO (gtA ts (left.getD k 0) (W.getD j 0)) else gvO (os.getD (W.getD j 0) none)) else if j < W.length + (left.length + 1) then (if j = W.length + k then (1 : Rat) else 0) else (if k < left.length then 0 else 1)) = (c' : Rat) ∧ _
    rw [if_neg c, if_neg c]
    split
    · cases os.getD (W.getD j 0) none with
      | none => exact z0 1 1
      | some _ => exact z1 1 1 (by decide)
    · split
      · split
        · exact z1 1 1 (by decide)
        · exact z0 1 1
      · exact z1 1 1 (by decide)
theorem top_den {g : Nat} {os : List (Option Rat)} (h : Tin g os) : ∃ d : Nat, 0 < d ∧ d < 2 ^ g ∧ (∀ r, some r ∈ os → ∃ c : Int, (d : Rat) * r = (c : Rat) ∧ c.natAbs < 2 ^ g) ∧ ∃ c : Int, (d : Rat) * topR os = (c : Rat) ∧ c.natAbs ≤ 2 * 2 ^ g := by
  obtain ⟨d, d0, d1, d2⟩ := h
  refine ⟨d, d0, d1, d2, ?_⟩
  unfold topR
  cases e : gmaxO os with
  | none =>
    refine ⟨d, ?_, by rw [Int.natAbs_natCast]; omega⟩
    show (d : Rat) * (0 + 1) = _
    rw [Rat.zero_add, Rat.mul_one]; rfl
  | some M =>
    obtain ⟨c, c1, c2⟩ := d2 M (by rcases (maxO_spec (a := none) (os := os)).2.2 M e with y | y; (cases y); exact y)
    refine ⟨c + d, ?_, by omega⟩
    show (d : Rat) * (M + 1) = _
    rw [Rat.intCast_add, ← c1]
    show _ = _ + (d : Rat)
    grind
theorem lp2_sz {ts : Tbs} {os : List (Option Rat)} {left W : List Nat} {f : Nat → Nat} {g : Nat} (h : ∀ i ∈ left, Tin (f i) (ts.getD i [])) (ho : Tin g os) : LpSz (lp2 ts os left W (topR os)) (SzC f left + (g + 2)) := by
  have few := lp2_few (os := os) (W := W) (top := topR os) h
  have e : FBc (left.length + 1) (fun k => if k < left.length then f (left.getD k 0) else 1) + (left.length + 2) = SzC f left := by
    unfold FBc SzC
    rw [KS_list]
  obtain ⟨d, d0, d1, d2, ct, t1, t2⟩ := top_den ho
  have p2 : 2 ^ (g + 2) = 4 * 2 ^ g := by rw [Nat.pow_add]; omega
  refine fun U gU => ⟨fun i j hi hj => (tab_TC (few.fw gU.g) gU hi hj).mono (by show FBc (left.length + 1) _ ≤ _; omega), fun j hj => (tab_zgC (G := g + 2) (few.fw gU.g) ⟨d, d0, by omega, fun j _ => ?_⟩ gU hj).mono (by show FBc (left.length + 1) _ + (left.length + 1 + 1) + _ ≤ _; omega)⟩
  show ∃ c' : Int, (d : Rat) * (if j < W.length then -(wthO (topR os) (os.getD (W.getD j 0) none)) else 0) = (c' : Rat) ∧ _
  split
  · cases eo : os.getD (W.getD j 0) none with
    | none => exact ⟨0, by show (d : Rat) * -0 = 0; grind, Nat.zero_le _⟩
    | some p =>
      obtain ⟨c, c1, c2⟩ := d2 p (getD_mem eo)
      refine ⟨c - ct, ?_, by omega⟩
      show (d : Rat) * -(topR os + -p) = _
      rw [Rat.intCast_sub, ← c1, ← t1]; grind
  · exact ⟨0, by rw [Rat.mul_zero]; rfl, Nat.zero_le _⟩
theorem last_cd {L : Lp} {f : Nat → Nat} (few : FewC L.dims f) (hb : ∀ k, k < L.m → 0 ≤ L.b k) : ∃ e : Int, e ≠ 0 ∧ e.natAbs < 2 ^ FBc L.m f ∧ ∀ j, ∃ n : Int, (e : Rat) * L.last.at L.dims j = (n : Rat) ∧ n.natAbs < 2 ^ FBc L.m f := by
  have gd := Lp.last_goodD hb
  obtain ⟨e, e0, e1, e2⟩ := tab_cdC (few.fw gd.g) gd (Nat.le_refl L.dims.N)
  refine ⟨e, e0, e1, fun j => ?_⟩
  rcases at_or gd.g j with y | ⟨i, hi, y⟩
  · rw [y]; exact ⟨0, by rw [Rat.mul_zero]; rfl, Nat.two_pow_pos _⟩
  · rw [y]; exact e2 i hi
theorem div_of {e n : Int} {r : Rat} (e0 : e ≠ 0) (h : (e : Rat) * r = (n : Rat)) : r = Rat.divInt n e := by
  have e0' : (e : Rat) ≠ 0 := fun z => e0 (Rat.intCast_eq_zero_iff.mp z)
  rw [Rat.divInt_eq_div, ← h]
  have := mul_div' (b := (e : Rat) * r) e0'
  generalize (e : Rat) * r / (e : Rat) = q at this ⊢
  have h3 : (e : Rat) * (q - r) = 0 := by grind
  rcases Rat.mul_eq_zero.mp h3 with y | y
  · exact absurd y e0'
  · grind
theorem sum_cd {e : Int} {x : Nat → Rat} {F : Nat} (h : ∀ j, ∃ n : Int, (e : Rat) * x j = (n : Rat) ∧ n.natAbs < 2 ^ F) (t : Nat) : ∃ m : Int, (e : Rat) * sumN t x = (m : Rat) ∧ m.natAbs ≤ t * 2 ^ F := by
  obtain ⟨n, hn⟩ : ∃ n : Nat → Int, ∀ j, (e : Rat) * x j = (n j : Rat) ∧ (n j).natAbs < 2 ^ F := ⟨fun j => Classical.choose (h j), fun j => Classical.choose_spec (h j)⟩
  obtain ⟨m, m1, m2⟩ := sumN_abs (m := t) (f := n) (B := 2 ^ F) fun i _ => Nat.le_of_lt (hn i).2
  refine ⟨m, ?_, m2⟩
  rw [← m1, ← sumN_mul]
  exact sumN_congr fun j _ => (hn j).1
structure LowIn (ls : List Nat) (rs : List (List Wd)) (bs : List Bid) (b : Bet) (f : Nat → Nat) (g B : Nat) : Prop where
  few : bs.length ≤ 19
  tin : ∀ i c, bs[i]? = some c → Tin (f i) (gainsB ls rs c)
  pay : Tin g (tabS ls rs b)
  le : SzC f (List.range bs.length) + g + 8 ≤ B
  b7 : B ≤ 10000000
section
variable {ls : List Nat} {rs : List (List Wd)} {bs : List Bid} {b : Bet} {f : Nat → Nat} {g B : Nat}
theorem LowIn.jin (h : LowIn ls rs bs b f g B) : JIn ls rs bs B := jin_ofC h.tin h.few (by have := h.le; omega) h.b7
theorem LowIn.one (h : LowIn ls rs bs b f g B) : 1 ≤ B := by have := h.le; omega
theorem LowIn.tinL (h : LowIn ls rs bs b f g B) {l : List Nat} (hl : l.Sublist (List.range bs.length)) : ∀ i ∈ l, Tin (f i) ((jTs ls rs bs).getD i []) := fun i hi => by
  have hi := List.mem_range.mp (hl.subset hi)
  rw [jTs_get (List.getElem?_eq_getElem hi)]
  exact h.tin i _ (List.getElem?_eq_getElem hi)
theorem szc_sub {l m : List Nat} (hl : l.Sublist m) : SzC f l ≤ SzC f m := by
  have hn := hl.length_le
  have h1 := sub_sum f hl
  have h2 := Nat.mul_le_mul (show l.length + 1 ≤ m.length + 1 by omega) (show l.length + 1 ≤ m.length + 1 by omega)
  unfold SzC
  omega
theorem LowIn.lp (h : LowIn ls rs bs b f g B) {l W : List Nat} (hl : l.Sublist (List.range bs.length)) : LpSz (lpOf (jTs ls rs bs) l W) B := (lpOf_szC (h.tinL hl)).mono (by have := h.le; have := szc_sub (f := f) hl; omega)
theorem LowIn.lp2 (h : LowIn ls rs bs b f g B) : LpSz (lp2 (jTs ls rs bs) (tabS ls rs b) (loL ls rs bs b) (loW ls rs bs b) (topR (tabS ls rs b))) B := (lp2_sz (h.tinL loS_ok.sub) h.pay).mono (by have := h.le; have := szc_sub (f := f) (loS_ok (ls := ls) (rs := rs) (bs := bs) (b := b)).sub; show SzC f (loL ls rs bs b) + _ ≤ B; have e : (loS ls rs bs b).2.1 = loL ls rs bs b := rfl; rw [e] at this; omega)
theorem LowIn.cd (h : LowIn ls rs bs b f g B) : ∃ (e : Int) (F : Nat), e ≠ 0 ∧ e.natAbs < 2 ^ F ∧ F + g + 8 ≤ B ∧ ∀ j, ∃ n : Int, (e : Rat) * loX ls rs bs b j = (n : Rat) ∧ n.natAbs < 2 ^ F := by
  obtain ⟨e, e0, e1, e2⟩ := last_cd (lp2_few (os := tabS ls rs b) (W := loW ls rs bs b) (top := topR (tabS ls rs b)) (h.tinL (loS_ok (b := b)).sub)) (lp2_b _ _ _ _ _)
  refine ⟨e, _, e0, e1, ?_, e2⟩
  have e : FBc ((loL ls rs bs b).length + 1) (fun k => if k < (loL ls rs bs b).length then f ((loL ls rs bs b).getD k 0) else 1) + ((loL ls rs bs b).length + 2) = SzC f (loL ls rs bs b) := by
    unfold FBc SzC
    rw [KS_list]
  have := h.le
  have h2 := szc_sub (f := f) (loS_ok (ls := ls) (rs := rs) (bs := bs) (b := b)).sub
  have h2 : SzC f (loL ls rs bs b) ≤ _ := h2
  show FBc ((loL ls rs bs b).length + 1) _ + g + 8 ≤ B
  have e3 : FBc ((loL ls rs bs b).length + 1) (fun k => if k < (loS ls rs bs b).2.1.length then f ((loS ls rs bs b).2.1.getD k 0) else 1) = FBc ((loL ls rs bs b).length + 1) (fun k => if k < (loL ls rs bs b).length then f ((loL ls rs bs b).getD k 0) else 1) := rfl
  omega
theorem LowIn.psz (h : LowIn ls rs bs b f g B) (hw : (worldsOf ls rs).length ≤ 64) (hne : loY ls rs bs b (loL ls rs bs b).length ≠ 0) : Sz B (loP ls rs bs b) := by
  obtain ⟨e, F, e0, e1, hF, he⟩ := h.cd
  obtain ⟨d, d0, d1, d2⟩ := h.pay
  have hl := loW_len (ls := ls) (rs := rs) (bs := bs) (b := b)
  have e0' : (e : Rat) ≠ 0 := fun z => e0 (Rat.intCast_eq_zero_iff.mp z)
  have hp : ∀ j, ∃ n : Int, ((e * (d : Int) : Int) : Rat) * (loX ls rs bs b j * oV ((tabS ls rs b).getD ((loW ls rs bs b).getD j 0) none)) = (n : Rat) ∧ n.natAbs < 2 ^ (F + g) := fun j => by
    obtain ⟨n, n1, n2⟩ := he j
    have : ∃ c : Int, (d : Rat) * oV ((tabS ls rs b).getD ((loW ls rs bs b).getD j 0) none) = (c : Rat) ∧ c.natAbs < 2 ^ g := by
      cases eo : (tabS ls rs b).getD ((loW ls rs bs b).getD j 0) none with
      | none => exact ⟨0, by show (d : Rat) * 0 = 0; grind, Nat.two_pow_pos _⟩
      | some p => exact d2 p (getD_mem eo)
    obtain ⟨c, c1, c2⟩ := this
    refine ⟨n * c, ?_, ?_⟩
    · rw [Rat.intCast_mul, Rat.intCast_mul, ← n1, ← c1]
      show (e : Rat) * (d : Rat) * _ = _
      grind
    · rw [Int.natAbs_mul, Nat.pow_add]
      exact Nat.mul_lt_mul'' n2 c2
  obtain ⟨m, m1, m2⟩ := sum_cd hp (loW ls rs bs b).length
  rw [show (sumN (loW ls rs bs b).length fun j => loX ls rs bs b j * oV ((tabS ls rs b).getD ((loW ls rs bs b).getD j 0) none)) = loP ls rs bs b from mean2 hne] at m1
  have ed0 : e * (d : Int) ≠ 0 := Int.mul_ne_zero e0 (by omega)
  rw [div_of ed0 m1]
  have pp := Nat.two_pow_pos (F + g)
  refine (sz_divInt (n := F + g + 7) ed0 ?_ ?_).mono (by omega)
  · have := Nat.mul_le_mul_right (2 ^ (F + g)) (show (loW ls rs bs b).length ≤ 64 by omega)
    rw [Nat.pow_add]
    omega
  · have : (e * (d : Int)).natAbs < 2 ^ (F + g) := by
      rw [Int.natAbs_mul, Int.natAbs_natCast, Nat.pow_add]
      exact Nat.mul_lt_mul'' e1 d1
    rw [Nat.pow_add]
    omega
end
structure BB (ls : List Nat) (rs : List (List Wd)) (Ls : List (List Rat)) (b : Bid) : Prop where
  gb : GBid ls 260 2 b
  live : ((worldsOf ls rs).any fun u => valS ls u b.1.2) = true
  tin : Tin 240 (gainsB ls rs b)
  brn : bearsB (tabS ls rs b.1) Ls b.2 = true
theorem divInt_mul {c : Int} {d : Nat} (h : 0 < d) : (d : Rat) * Rat.divInt c (d : Int) = (c : Rat) := by
  rw [Rat.divInt_eq_div]
  exact mul_div' fun z => by have z : ((d : Nat) : Rat) = 0 := z; have := Rat.natCast_eq_zero_iff.mp z; omega
theorem tin_bet {ls : List Nat} {rs : List (List Wd)} {n m : Nat} {b : Bet} (h : GBet ls n m b) : Tin (n * m + m + 1) (tabS ls rs b) := by
  have d0 := prodD_pos b.1
  have d1 : prodD b.1 ≤ 2 ^ (n * m) := Nat.le_trans (prodD_le (n := n) (ts := b.1) fun t ht => (h.terms t ht).2.2) (Nat.pow_le_pow_right (by decide) (Nat.mul_le_mul_left _ h.few))
  have e0 : 2 ^ (n * m + m + 1) = 2 ^ (n * m) * 2 ^ (m + 1) := by rw [Nat.add_assoc, Nat.pow_add]
  have m1 : m + 1 < 2 ^ (m + 1) := Nat.lt_two_pow_self
  have k0 : 0 < 2 ^ (n * m) := Nat.two_pow_pos _
  refine ⟨prodD b.1, d0, ?_, fun p hp => ?_⟩
  · rw [e0]
    have h2 := Nat.mul_lt_mul_of_pos_left (show 1 < 2 ^ (m + 1) by omega) k0
    omega
  · obtain ⟨u, _, eu⟩ := List.mem_map.mp hp
    obtain ⟨c, c1, c2⟩ := pay_den h eu
    refine ⟨c, by rw [c1]; exact divInt_mul d0, ?_⟩
    rw [e0]
    have h2 := Nat.mul_lt_mul_of_pos_left m1 k0
    have e1 : m * 2 ^ (n * m) = 2 ^ (n * m) * m := Nat.mul_comm _ _
    have h3 : 2 ^ (n * m) * (m + 1) = 2 ^ (n * m) * m + 2 ^ (n * m) := Nat.mul_succ _ _
    omega
def Lens2 (b : Bet) : Prop := (∀ t ∈ b.1, t.2.length ≤ 10) ∧ b.2.length ≤ 24
structure FB1 (ls : List Nat) (rs : List (List Wd)) (Ls : List (List Rat)) (c : Bid) : Prop where
  gb : GBet ls 100 2 c.1
  pr : Sz 245 c.2
  ln : Lens2 c.1
  live : ((worldsOf ls rs).any fun u => valS ls u c.1.2) = true
  brn : bearsB (tabS ls rs c.1) Ls c.2 = true
theorem FB1.gd {ls : List Nat} {rs : List (List Wd)} {Ls : List (List Rat)} {c : Bid} (h : FB1 ls rs Ls c) : GBid ls 350 2 c := ⟨h.gb.mono (by decide) (by decide), h.pr.mono (by decide)⟩
structure FBs (ls : List Nat) (rs : List (List Wd)) (bs : List Bid) (Ls : List (List Rat)) : Prop where
  bid : ∀ c ∈ bs, FB1 ls rs Ls c
  few : bs.length ≤ 12
  wg : ∀ ws ∈ Ls, Wg (worldsOf ls rs).length ws
  lay : Ls.length ≤ 4
  some : ∀ b : Bet, ((worldsOf ls rs).any fun u => valS ls u b.2) = true → meanIn (tabS ls rs b) Ls ≠ none
structure LQ1 (T : Nat) (ls : List Nat) (rs : List (List Wd)) (c : Bid) : Prop where
  gd : GBid ls 9000 3 c
  tin : Tin T (gainsB ls rs c)
  live : ((worldsOf ls rs).any fun u => valS ls u c.1.2) = true
structure LowQ (T m : Nat) (ls : List Nat) (rs : List (List Wd)) (bs : List Bid) : Prop where
  bid : ∀ c ∈ bs, LQ1 T ls rs c
  few : bs.length ≤ m
  m14 : m ≤ 14
  brn : Borne ls rs bs
theorem LowQ.gd {T m : Nat} {ls : List Nat} {rs : List (List Wd)} {bs : List Bid} (h : LowQ T m ls rs bs) : GBids ls 9000 3 bs := fun c hc => (h.bid c hc).gd
theorem LowQ.live {T m : Nat} {ls : List Nat} {rs : List (List Wd)} {bs : List Bid} (h : LowQ T m ls rs bs) : ∀ c ∈ bs, ((worldsOf ls rs).any fun u => valS ls u c.1.2) = true := fun c hc => (h.bid c hc).live
theorem tin_two {ls : List Nat} {rs : List (List Wd)} {n m q : Nat} {b : Bid} (h : GBet ls n m b.1) (hq : Sz q b.2) : Tin (n * m + q + m + 1) (gainsB ls rs b) := by
  have d0 := prodD_pos b.1.1
  have d1 : prodD b.1.1 ≤ 2 ^ (n * m) := Nat.le_trans (prodD_le (n := n) (ts := b.1.1) fun t ht => (h.terms t ht).2.2) (Nat.pow_le_pow_right (by decide) (Nat.mul_le_mul_left _ h.few))
  obtain ⟨p1, p2⟩ := hq
  have e0 : 2 ^ (n * m + q + m + 1) = 2 ^ (n * m) * 2 ^ q * 2 ^ (m + 1) := by rw [Nat.add_assoc (n * m + q), Nat.pow_add, Nat.pow_add]
  have m1 : m + 1 < 2 ^ (m + 1) := Nat.lt_two_pow_self
  have k0 : 0 < 2 ^ (n * m) * 2 ^ q := Nat.mul_pos (Nat.two_pow_pos _) (Nat.two_pow_pos _)
  refine ⟨prodD b.1.1 * b.2.den, Nat.mul_pos d0 b.2.den_pos, ?_, fun g hg => ?_⟩
  · rw [e0]
    have h1 := Nat.mul_le_mul d1 (Nat.le_of_lt p2)
    have h2 := Nat.mul_lt_mul_of_pos_left (show 1 < 2 ^ (m + 1) by omega) k0
    omega
  · obtain ⟨o, ho, ho2⟩ := List.mem_map.mp hg
    cases o with
    | none => cases ho2
    | some p =>
      have ho2 : some (p + -b.2) = some g := ho2
      injection ho2 with ho2
      obtain ⟨u, _, eu⟩ := List.mem_map.mp ho
      obtain ⟨c, c1, c2⟩ := pay_den h eu
      have f1 : (prodD b.1.1 : Rat) * p = (c : Rat) := by rw [c1]; exact divInt_mul d0
      have f2 : (b.2.den : Rat) * b.2 = (b.2.num : Rat) := rat_den b.2
      refine ⟨c * b.2.den - prodD b.1.1 * b.2.num, ?_, ?_⟩
      · rw [Rat.intCast_sub, Rat.intCast_mul, Rat.intCast_mul, ← f1, ← f2, ← ho2, Rat.natCast_mul]
        show _ = (prodD b.1.1 : Rat) * p * (b.2.den : Rat) - (prodD b.1.1 : Rat) * ((b.2.den : Rat) * b.2)
        grind
      · have g1 : (c * (b.2.den : Int)).natAbs ≤ m * 2 ^ (n * m) * 2 ^ q := by
          rw [Int.natAbs_mul, Int.natAbs_natCast]
          exact Nat.mul_le_mul c2 (Nat.le_of_lt p2)
        have g2 : ((prodD b.1.1 : Int) * b.2.num).natAbs ≤ 2 ^ (n * m) * 2 ^ q := by
          rw [Int.natAbs_mul, Int.natAbs_natCast]
          exact Nat.mul_le_mul d1 (Nat.le_of_lt p1)
        have g3 := Nat.mul_lt_mul_of_pos_left m1 k0
        rw [e0]
        have g4 : m * 2 ^ (n * m) * 2 ^ q + 2 ^ (n * m) * 2 ^ q = 2 ^ (n * m) * 2 ^ q * (m + 1) := by rw [Nat.mul_assoc, Nat.mul_add, Nat.mul_one, Nat.mul_comm m]
        generalize c * (b.2.den : Int) = P at g1 ⊢
        generalize (prodD b.1.1 : Int) * b.2.num = Q at g2 ⊢
        omega
theorem some_live {ls : List Nat} {rs : List (List Wd)} {b : Bet} (h : ((worldsOf ls rs).any fun u => valS ls u b.2) = true) : ∃ p, some p ∈ tabS ls rs b := by
  obtain ⟨u, hu, hv⟩ := List.any_eq_true.mp h
  exact ⟨sumT ls u b.1, List.mem_map.mpr ⟨u, hu, by unfold payS; rw [if_pos hv]⟩⟩
theorem SzC_const (a n : Nat) : SzC (fun _ => a) (List.range n) = n * a + 1 + (n + 1) * (n + 1) + 1 + (n + 2) := by
  unfold SzC
  rw [List.length_range]
  have : ∀ l : List Nat, (l.map fun _ => a).sum = l.length * a := fun l => by
    induction l with
    | nil => simp
    | cons x l ih => rw [List.map_cons, List.sum_cons, ih, List.length_cons, Nat.succ_mul]; omega
  rw [this, List.length_range]
theorem LowQ.lin {T m n : Nat} {ls : List Nat} {rs : List (List Wd)} {bs : List Bid} {b : Bet} (h : LowQ T m ls rs bs) (hb : GBet ls n 3 b) (hz : m * T + 1000 ≤ 10000000) (hn : n ≤ 110 := by decide) : LowIn ls rs bs b (fun _ => T) 334 (m * T + 1000) := by
  have := h.few
  have := h.m14
  refine ⟨by omega, fun i c hc => (h.bid c (List.mem_of_getElem? hc)).tin, (tin_bet hb).mono (by omega), ?_, hz⟩
  rw [SzC_const]
  have h1 := Nat.mul_le_mul (show bs.length + 1 ≤ 15 by omega) (show bs.length + 1 ≤ 15 by omega)
  have h2 := Nat.mul_le_mul_right T h.few
  omega
theorem FB1.q {ls : List Nat} {rs : List (List Wd)} {Ls : List (List Rat)} {c : Bid} (h : FB1 ls rs Ls c) : LQ1 450 ls rs c := ⟨h.gd.mono (by decide) (by decide), (tin_two h.gb h.pr).mono (by decide), h.live⟩
theorem FBs.q {m : Nat} {ls : List Nat} {rs : List (List Wd)} {bs : List Bid} {Ls : List (List Rat)} (h : FBs ls rs bs Ls) (hm : bs.length ≤ m) (h14 : m ≤ 14) : LowQ 450 m ls rs bs :=
  ⟨fun c hc => (h.bid c hc).q, hm, h14, Ls, fun ws hw w hv => ((h.wg ws hw).sz w hv).2, fun c hc => (h.bid c hc).brn⟩
theorem LowQ.sub {T m : Nat} {ls : List Nat} {rs : List (List Wd)} {bs cs : List Bid} (h : LowQ T m ls rs bs) (l : cs.Sublist bs) : LowQ T m ls rs cs := by
  obtain ⟨Ls, h1, h2⟩ := h.brn
  exact ⟨fun c hc => h.bid c (l.subset hc), by have := h.few; have := l.length_le; omega, h.m14, Ls, h1, fun c hc => h2 c (l.subset hc)⟩
theorem LowQ.nil {T m : Nat} {ls : List Nat} {rs : List (List Wd)} (h : m ≤ 14) : LowQ T m ls rs [] := ⟨fun c h => (List.not_mem_nil h).elim, by simp, h, [], fun c h => (List.not_mem_nil h).elim, fun c h => (List.not_mem_nil h).elim⟩
section
variable {T m : Nat} {ls : List Nat} {rs : List (List Wd)} {bs cs : List Bid} {b : Bet}
theorem LowQ.ok (h : LowQ T m ls rs bs) (hv : ((worldsOf ls rs).any fun u => valS ls u b.2) = true) : LoOk ls rs bs b := by
  obtain ⟨p, hp⟩ := some_live hv
  exact lo_ok h.brn h.live hp
theorem LowQ.nonneg (h : LowQ T m ls rs bs) (hv : ((worldsOf ls rs).any fun u => valS ls u b.2) = true) : ∀ ws ∈ loLs ls rs bs b, ∀ w ∈ ws, 0 ≤ w := fun ws hw => ((h.ok hv).wg ws hw).2.1
theorem low_mono (h : LowQ T m ls rs bs) (hv : ((worldsOf ls rs).any fun u => valS ls u b.2) = true) (hs : ∀ c ∈ cs, c ∈ bs) : loP ls rs cs b ≤ loP ls rs bs b :=
  lo_low (h.nonneg hv) (fun c hc => (h.ok hv).bears c (hs c hc)) (h.ok hv).mean
end
section
variable {T m : Nat} {ls : List Nat} {rs : List (List Wd)} {bs : List Bid} {b : Bet}
end
theorem cutL_sub {α : Type} (l : List α) (lo hi : Option Int) : (cutL l lo hi).Sublist l := by
  unfold cutL
  exact (List.take_sublist _ _).trans (List.drop_sublist _ _)
theorem GBet.up {ls : List Nat} {b : Bet} (h : GBet ls 100 3 b) : GBet ls 110 3 b := h.mono (by decide) (by decide)

section
variable {T m : Nat} {ls : List Nat} {rs : List (List Wd)} {bs cs : List Bid} {b : Bet}
end
section
variable {T m : Nat} {ls : List Nat} {rs : List (List Wd)} {bs : List Bid} {b : Bet}
theorem LowQ.jin (h : LowQ T m ls rs bs) (hz : m * T + 1000 ≤ 10000000) : JIn ls rs bs (m * T + 1000) := by
  have := h.few
  have := h.m14
  refine jin_ofC (f := fun _ => T) (fun i c hc => (h.bid c (List.mem_of_getElem? hc)).tin) (by omega) ?_ hz
  rw [SzC_const]
  have h1 := Nat.mul_le_mul (show bs.length + 1 ≤ 15 by omega) (show bs.length + 1 ≤ 15 by omega)
  have h2 := Nat.mul_le_mul_right T h.few
  omega
end

noncomputable def tiB (ls : List Nat) (rs : List (List Wd)) (bs : List Bid) : List Bid := bs.map fun c => (c.1, loP ls rs bs c.1)
structure FB2 (ls : List Nat) (rs : List (List Wd)) (Ls : List (List Rat)) (c : Bid) : Prop where
  gb : GBet ls 104 2 c.1
  pr : Sz 260 c.2
  live : ((worldsOf ls rs).any fun u => valS ls u c.1.2) = true
  brn : bearsB (tabS ls rs c.1) Ls c.2 = true
theorem FB1.two {ls : List Nat} {rs : List (List Wd)} {Ls : List (List Rat)} {c : Bid} (h : FB1 ls rs Ls c) : FB2 ls rs Ls c := ⟨h.gb.mono (by decide) (by decide), h.pr.mono (by decide), h.live, h.brn⟩
theorem bears_less {os : List (Option Rat)} {Ls : List (List Rat)} {p q : Rat} (h : bearsB os Ls p = true) (hq : q ≤ p) : bearsB os Ls q = true := by
  unfold bearsB at h ⊢
  cases e : meanIn os Ls with
  | none => rw [e] at h; cases h
  | some μ =>
    rw [e] at h
    have h : (!(decide (μ < p))) = true := h
    show (!(decide (μ < q))) = true
    rw [Bool.not_eq_true', decide_eq_false_iff_not] at h ⊢
    grind
theorem FB1.lower {ls : List Nat} {rs : List (List Wd)} {Ls : List (List Rat)} {b : Bet} {p q : Rat} (h : FB1 ls rs Ls (b, p)) (q0 : q ≤ 0) (qs : Sz 10 q) : FB2 ls rs Ls (b, p + q) :=
  ⟨h.gb.mono (by decide) (by decide), (sz_add h.pr qs).mono (by decide), h.live, bears_less h.brn (by grind)⟩
theorem FB2.q {ls : List Nat} {rs : List (List Wd)} {Ls : List (List Rat)} {c : Bid} (h : FB2 ls rs Ls c) : LQ1 480 ls rs c := ⟨⟨h.gb.mono (by decide) (by decide), h.pr.mono (by decide)⟩, (tin_two h.gb h.pr).mono (by decide), h.live⟩
section
variable {T T' m m' : Nat} {ls : List Nat} {rs : List (List Wd)} {bs cs : List Bid} {b : Bet}
theorem LowQ.mem (h : LowQ T m ls rs bs) (hc : ∀ c ∈ cs, c ∈ bs) (hl : cs.length ≤ m) : LowQ T m ls rs cs := by
  obtain ⟨Ls, h1, h2⟩ := h.brn
  exact ⟨fun c hx => h.bid c (hc c hx), hl, h.m14, Ls, h1, fun c hx => h2 c (hc c hx)⟩
theorem ti_len : (tiB ls rs bs).length = bs.length := List.length_map _
theorem ti_mem {c : Bid} (h : c ∈ tiB ls rs bs) : ∃ d ∈ bs, c = (d.1, loP ls rs bs d.1) := by
  obtain ⟨d, hd, rfl⟩ := List.mem_map.mp h
  exact ⟨d, hd, rfl⟩
theorem ti_bears {Ls : List (List Rat)} (h0 : ∀ ws ∈ Ls, ∀ w ∈ ws, 0 ≤ w) (hb : ∀ c ∈ bs, bearsB (tabS ls rs c.1) Ls c.2 = true) : ∀ c ∈ tiB ls rs bs, bearsB (tabS ls rs c.1) Ls c.2 = true := fun c hc => by
  obtain ⟨d, hd, rfl⟩ := ti_mem hc
  have h1 := hb d hd
  unfold bearsB at h1 ⊢
  cases e : meanIn (tabS ls rs d.1) Ls with
  | none => rw [e] at h1; cases h1
  | some μ =>
    have := lo_low h0 hb e
    show (!(decide (μ < loP ls rs bs d.1))) = true
    rw [Bool.not_eq_true', decide_eq_false_iff_not]
    grind
theorem LowQ.psz {n : Nat} (h : LowQ T m ls rs bs) (hz : m * T + 1000 ≤ 10000000) (hb : GBet ls n 3 b) (hw : (worldsOf ls rs).length ≤ 64) (hv : ((worldsOf ls rs).any fun u => valS ls u b.2) = true) (hn : n ≤ 110 := by decide) : Sz (m * T + 1000) (loP ls rs bs b) := by
  obtain ⟨p, hp⟩ := some_live hv
  exact (h.lin hb hz hn).psz hw (lo_ne h.brn hp)
theorem LowQ.ti (h : LowQ T m ls rs bs) (hz : m * T + 1000 ≤ 9000) (hb : ∀ c ∈ bs, GBet ls 104 3 c.1) (hw : (worldsOf ls rs).length ≤ 64) : LowQ (m * T + 1316) m ls rs (tiB ls rs bs) := by
  refine ⟨fun c hc => ?_, by rw [ti_len]; exact h.few, h.m14, ?_⟩
  · obtain ⟨d, hd, rfl⟩ := ti_mem hc
    have zp := h.psz (by omega) (hb d hd) hw (h.live d hd)
    exact ⟨⟨(hb d hd).mono (by decide) (by decide), zp.mono hz⟩, (tin_two (b := (d.1, loP ls rs bs d.1)) (hb d hd) zp).mono (by omega), h.live d hd⟩
  · obtain ⟨Ls, h1, h2⟩ := h.brn
    exact ⟨Ls, h1, ti_bears h1 h2⟩
end
theorem LQ1.mono {T T' : Nat} {ls : List Nat} {rs : List (List Wd)} {c : Bid} (h : LQ1 T ls rs c) (l : T ≤ T') : LQ1 T' ls rs c := ⟨h.gd, h.tin.mono l, h.live⟩
theorem LowQ.mono {T T' m m' : Nat} {ls : List Nat} {rs : List (List Wd)} {bs : List Bid} (h : LowQ T m ls rs bs) (l : T ≤ T') (k : m ≤ m') (k14 : m' ≤ 14) : LowQ T' m' ls rs bs := ⟨fun c hc => (h.bid c hc).mono l, Nat.le_trans h.few k, k14, h.brn⟩
theorem pick_all (c : Bid) : ∀ bs : List Bid, (List.range bs.length).map (fun j => bs.getD j c) = bs := fun bs => by
  refine List.ext_getElem? fun i => ?_
  rw [List.getElem?_map]
  rcases Nat.lt_or_ge i bs.length with h | h
  · rw [List.getElem?_range h, List.getElem?_eq_getElem h]
    show some (bs.getD i c) = _
    rw [List.getD_eq_getElem?_getD, List.getElem?_eq_getElem h]; rfl
  · rw [List.getElem?_eq_none (by rw [List.length_range]; exact h), List.getElem?_eq_none h]; rfl
theorem oft_mean {ls : List Nat} {rs : List (List Wd)} {q : Rat} {b : Bet} : ∀ {Ls : List (List Rat)}, meanIn (tabS ls rs (oftB q b)) Ls = (meanIn (tabS ls rs b) Ls).map (q * ·)
  | [] => rfl
  | ws :: Ls => by
    have ih := oft_mean (ls := ls) (rs := rs) (q := q) (b := b) (Ls := Ls)
    unfold meanIn at ih ⊢
    rw [List.findSome?_cons, List.findSome?_cons, ih, tab_oft, mean_mul]
    cases meanR (ws.zip (tabS ls rs b)) with
    | none => rfl
    | some r => rfl
theorem bears_oft {ls : List Nat} {rs : List (List Wd)} {Ls : List (List Rat)} {b : Bet} {p q : Rat} (hq : 0 ≤ q) (h : bearsB (tabS ls rs b) Ls p = true) : bearsB (tabS ls rs (oftB q b)) Ls (p * q) = true := by
  unfold bearsB at h ⊢
  rw [oft_mean]
  cases e : meanIn (tabS ls rs b) Ls with
  | none => rw [e] at h; cases h
  | some μ =>
    rw [e] at h
    have h : (!(decide (μ < p))) = true := h
    show (!(decide (q * μ < p * q))) = true
    rw [Bool.not_eq_true', decide_eq_false_iff_not] at h ⊢
    have := Rat.mul_le_mul_of_nonneg_left (Rat.not_lt.mp h) hq
    grind
structure FBn (n : Nat) (ls : List Nat) (rs : List (List Wd)) (Ls : List (List Rat)) (c : Bid) : Prop where
  gb : GBet ls (100 + 4 * n) 2 c.1
  pr : Sz (245 + 15 * n) c.2
  live : ((worldsOf ls rs).any fun u => valS ls u c.1.2) = true
  brn : bearsB (tabS ls rs c.1) Ls c.2 = true
section
variable {n k : Nat} {ls : List Nat} {rs : List (List Wd)} {Ls : List (List Rat)} {c : Bid} {b : Bet} {p q : Rat}
theorem FBn.mono (h : FBn n ls rs Ls c) (l : n ≤ k) : FBn k ls rs Ls c := ⟨h.gb.mono (by omega) (by omega), h.pr.mono (by omega), h.live, h.brn⟩
theorem FBn.lower (h : FBn n ls rs Ls (b, p)) (q0 : q ≤ 0) (qs : Sz 10 q) : FBn (n + 1) ls rs Ls (b, p + q) :=
  ⟨h.gb.mono (by omega) (by omega), (sz_add h.pr qs).mono (by omega), h.live, bears_less h.brn (by grind)⟩
theorem FBn.oft (h : FBn n ls rs Ls (b, p)) (hq : 0 ≤ q) (qs : Sz 3 q) : FBn (n + 1) ls rs Ls (oftB q b, p * q) :=
  ⟨(h.gb.oft qs).mono (by omega) (by omega), (sz_mul h.pr qs).mono (by omega), h.live, bears_oft hq h.brn⟩
end

def pk (bs : List Bid) (L : List Nat) : List Bid := L.filterMap fun j => bs[j]?
theorem pk_map {bs : List Bid} (c : Bid) : ∀ {L : List Nat}, (∀ j ∈ L, j < bs.length) → L.map (fun j => bs.getD j c) = pk bs L
  | [], _ => rfl
  | j :: L, h => by
    have hj := h j (.head _)
    have ih := pk_map c (L := L) fun x hx => h x (.tail _ hx)
    unfold pk at ih ⊢
    rw [List.map_cons, List.filterMap_cons, ih, List.getD_eq_getElem?_getD, List.getElem?_eq_getElem hj]; rfl
theorem pk_mem {bs : List Bid} {L : List Nat} {c : Bid} : c ∈ pk bs L ↔ ∃ j ∈ L, bs[j]? = some c := List.mem_filterMap
theorem pk_all (bs : List Bid) : pk bs (List.range bs.length) = bs := by
  cases bs with
  | nil => rfl
  | cons b bs => rw [← pk_map b fun j hj => List.mem_range.mp hj, pick_all]
theorem pk_len {bs : List Bid} {L : List Nat} : (pk bs L).length ≤ L.length := List.length_filterMap_le _ _
noncomputable def wiS (ls : List Nat) (rs : List (List Wd)) (bs : List Bid) (L : List Nat) (i : Nat) : List Nat := match bs[i]? with
  | some c => if !(decide (loP ls rs (pk bs (L.filter fun j => j != i)) c.1 < c.2)) then L.filter fun j => j != i else L
  | none => L
section
variable {T m : Nat} {ls : List Nat} {rs : List (List Wd)} {bs cs : List Bid} {b : Bet}
theorem bears_app {os : List (Option Rat)} {Ls Ms : List (List Rat)} {p : Rat} (h : bearsB os Ls p = true) : bearsB os (Ls ++ Ms) p = true := by
  unfold bearsB at h ⊢
  rw [mean_append]
  cases e : meanIn os Ls with
  | none => rw [e] at h; cases h
  | some μ => rw [e] at h; exact h
theorem idle_low {c : Bid} (h : LowQ T m ls rs cs) (hc : ((worldsOf ls rs).any fun u => valS ls u c.1.2) = true) (hi : c.2 ≤ loP ls rs cs c.1) (hv : ((worldsOf ls rs).any fun u => valS ls u b.2) = true) (hm : ∀ d ∈ bs, d = c ∨ d ∈ cs) : loP ls rs bs b ≤ loP ls rs cs b := by
  refine lo_low (Ls := loLs ls rs cs b ++ loLs ls rs cs c.1) (fun ws hw => ?_) (fun d hd => ?_) ?_
  · rcases List.mem_append.mp hw with z | z
    · exact h.nonneg hv ws z
    · exact h.nonneg hc ws z
  · rcases hm d hd with rfl | z
    · unfold bearsB
      rw [mean_append]
      cases e : meanIn (tabS ls rs d.1) (loLs ls rs cs b) with
      | none =>
        rw [Option.none_or, (h.ok hc).mean]
        show (!(decide (loP ls rs cs d.1 < d.2))) = true
        rw [Bool.not_eq_true', decide_eq_false_iff_not]
        grind
      | some μ =>
        have := lo_low (h.nonneg hv) (h.ok hv).bears e
        show (!(decide (μ < d.2))) = true
        rw [Bool.not_eq_true', decide_eq_false_iff_not]
        grind
    · exact bears_app ((h.ok hv).bears d z)
  · rw [mean_append, (h.ok hv).mean]; rfl
structure WoOk (ls : List Nat) (rs : List (List Wd)) (bs : List Bid) (L : List Nat) : Prop where
  sub : L.Sublist (List.range bs.length)
  low : ∀ b : Bet, ((worldsOf ls rs).any fun u => valS ls u b.2) = true → loP ls rs (pk bs L) b = loP ls rs bs b
theorem WoOk.lt {L : List Nat} (h : WoOk ls rs bs L) : ∀ j ∈ L, j < bs.length := fun j hj => List.mem_range.mp (h.sub.subset hj)
theorem WoOk.nd {L : List Nat} (h : WoOk ls rs bs L) : L.Nodup := List.nodup_range.sublist h.sub
theorem WoOk.start : WoOk ls rs bs (List.range bs.length) := ⟨List.Sublist.refl _, fun b _ => by rw [pk_all]⟩
theorem LowQ.pk {L : List Nat} (h : LowQ T m ls rs bs) (hl : L.length ≤ m) : LowQ T m ls rs (pk bs L) := h.mem (fun c hc => by
  obtain ⟨j, _, hj⟩ := pk_mem.mp hc
  exact List.mem_of_getElem? hj) (Nat.le_trans pk_len hl)
theorem WoOk.len {L : List Nat} (h : WoOk ls rs bs L) : L.length ≤ bs.length := by have := h.sub.length_le; rw [List.length_range] at this; exact this
theorem WoOk.step {L : List Nat} (h : WoOk ls rs bs L) (hQ : LowQ T m ls rs bs) {i : Nat} (hi : i ∈ L) : WoOk ls rs bs (wiS ls rs bs L i) := by
  unfold wiS
  have hil := h.lt i hi
  rw [List.getElem?_eq_getElem hil]
  dsimp only
  split
  · rename_i c
    rw [Bool.not_eq_true', decide_eq_false_iff_not] at c
    have hl := h.len
    have hf := hQ.few
    have hQ2 : LowQ T m ls rs (Mth.pk bs (L.filter fun j => j != i)) := hQ.pk (Nat.le_trans (List.length_filter_le _ _) (by omega))
    have hQ1 : LowQ T m ls rs (Mth.pk bs L) := hQ.pk (by omega)
    refine ⟨List.filter_sublist.trans h.sub, fun b hv => ?_⟩
    rw [← h.low b hv]
    refine Rat.le_antisymm (low_mono hQ1 hv fun d hd => ?_) ?_
    · obtain ⟨j, hj, e⟩ := pk_mem.mp hd
      exact pk_mem.mpr ⟨j, (List.mem_filter.mp hj).1, e⟩
    · refine idle_low (c := bs[i]) hQ2 (hQ.live _ (List.getElem_mem hil)) (Rat.not_lt.mp c) hv fun d hd => ?_
      obtain ⟨j, hj, e⟩ := pk_mem.mp hd
      by_cases ej : j = i
      · subst ej
        rw [List.getElem?_eq_getElem hil] at e
        injection e with e
        exact .inl e.symm
      · exact .inr (pk_mem.mpr ⟨j, List.mem_filter.mpr ⟨hj, by simpa using ej⟩, e⟩)
  · exact h
end
def gV (ls : List Nat) (u : List Bool) (c : Bid) : Rat := (gainW c.2 (payS ls u c.1)).getD 0
section
variable {ls : List Nat} {rs : List (List Wd)} {S : List Bid} {st : List Rat}
end
noncomputable def fairB (ls : List Nat) (rs : List (List Wd)) (bs : List Bid) : Bool := decide ((jR ls rs bs).2.1 = [])
structure ListQ (T m : Nat) (ls : List Nat) (rs : List (List Wd)) (bs : List Bid) : Prop where
  bid : ∀ c ∈ bs, LQ1 T ls rs c
  few : bs.length ≤ m
  m14 : m ≤ 14
section
variable {T m : Nat} {ls : List Nat} {rs : List (List Wd)} {bs cs : List Bid}
theorem LowQ.list (h : LowQ T m ls rs bs) : ListQ T m ls rs bs := ⟨h.bid, h.few, h.m14⟩
theorem ListQ.low (h : ListQ T m ls rs bs) (hB : Borne ls rs bs) : LowQ T m ls rs bs := ⟨h.bid, h.few, h.m14, hB⟩
theorem ListQ.gd (h : ListQ T m ls rs bs) : GBids ls 9000 3 bs := fun c hc => (h.bid c hc).gd
theorem ListQ.live (h : ListQ T m ls rs bs) : ∀ c ∈ bs, ((worldsOf ls rs).any fun u => valS ls u c.1.2) = true := fun c hc => (h.bid c hc).live
theorem ListQ.jin (h : ListQ T m ls rs bs) (hz : m * T + 1000 ≤ 10000000) : JIn ls rs bs (m * T + 1000) := by
  have := h.few
  have := h.m14
  refine jin_ofC (f := fun _ => T) (fun i c hc => (h.bid c (List.mem_of_getElem? hc)).tin) (by omega) ?_ hz
  rw [SzC_const]
  have h1 := Nat.mul_le_mul (show bs.length + 1 ≤ 15 by omega) (show bs.length + 1 ≤ 15 by omega)
  have h2 := Nat.mul_le_mul_right T h.few
  omega
theorem ListQ.mem (h : ListQ T m ls rs bs) (hc : ∀ c ∈ cs, c ∈ bs) (hl : cs.length ≤ m) : ListQ T m ls rs cs := ⟨fun c hx => h.bid c (hc c hx), hl, h.m14⟩
theorem ListQ.fair (h : ListQ T m ls rs bs) : fairB ls rs bs = true ↔ Borne ls rs bs := by
  unfold fairB
  rw [decide_eq_true_eq]
  exact fair_iff h.live
theorem pk_sub {L : List Nat} : ∀ c ∈ pk bs L, c ∈ bs := fun c hc => by
  obtain ⟨j, _, e⟩ := pk_mem.mp hc
  exact List.mem_of_getElem? e
theorem ListQ.pk (h : ListQ T m ls rs bs) {L : List Nat} (hl : L.length ≤ m) : ListQ T m ls rs (pk bs L) := h.mem pk_sub (Nat.le_trans pk_len hl)
end
theorem pls_un {n b z : Nat} {d : PyData} {ds : List PyData} (h : Pls n b z (d :: ds)) : Pln n d.bulk z d ∧ Pls n (PyData.bulkAll ds) z ds ∧ d.bulk + 1 + PyData.bulkAll ds ≤ b := by
  have ha := h.shy.a
  have hm := h.shy.m
  have l : d.canLay0 = true ∧ PyData.canLayAll0 ds = true := by simpa [PyData.canLayAll0] using ha.lay
  have s : d.showable = true ∧ PyData.showableAll ds = true := by simpa [PyData.showableAll] using ha.sh
  have m : noLst d = true ∧ noLstA ds = true := by simpa [noLstA] using hm.no
  have v : d.leavesShort 580 = true ∧ PyData.leavesShortAll 580 ds = true := by simpa [PyData.leavesShortAll] using hm.lv
  have dp := ha.dep
  have bk := ha.bk
  simp only [PyData.depthAll] at dp
  simp only [PyData.bulkAll] at bk
  have i : Itsy z d ∧ ItsyA z ds := by have := h.its; rw [ItsyA] at this; exact this
  refine ⟨⟨⟨l.1, by omega, s.1, Nat.le_refl _⟩, m.1, i.1⟩, ⟨⟨⟨l.2, by omega, s.2, Nat.le_refl _⟩, ⟨v.2, m.2, by omega, s.2, Nat.le_refl _⟩⟩, i.2⟩, by omega⟩
theorem pls_sub {n z : Nat} {cs ds : List PyData} (h : cs.Sublist ds) : ∀ {b : Nat}, Pls n b z ds → Pls n b z cs := by
  induction h with
  | slnil => exact fun h => h
  | cons d _ ih =>
    intro b h
    obtain ⟨_, h2, h3⟩ := pls_un h
    exact (ih h2).mono (Nat.le_refl _) (by omega)
  | cons_cons d _ ih =>
    intro b h
    obtain ⟨h1, h2, h3⟩ := pls_un h
    exact (pls_cons h1 (ih h2)).mono (Nat.le_refl _) h3
mutual
theorem its_up {z w : Nat} (l : z ≤ w) : ∀ d : PyData, Itsy z d → Itsy w d
  | .int i, h => its_int (Nat.lt_of_lt_of_le h.int (Nat.pow_le_pow_right (by decide) l))
  | .str s, h => its_str h.str
  | .list ds, h => by rw [Itsy] at h ⊢; exact itsA_up l ds h
  | .tuple ds, h => by rw [Itsy] at h ⊢; exact itsA_up l ds h
  | .none, _ => its_non
  | .bool b, _ => its_bool b
  | .dict b, _ => its_dic b
theorem itsA_up {z w : Nat} (l : z ≤ w) : ∀ ds : List PyData, ItsyA z ds → ItsyA w ds
  | [], _ => by rw [ItsyA]; trivial
  | d :: ds, h => by rw [ItsyA] at h ⊢; exact ⟨its_up l d h.1, itsA_up l ds h.2⟩
end
theorem Pln.up {n b z w : Nat} {d : PyData} (h : Pln n b z d) (l : z ≤ w) : Pln n b w d := ⟨h.shy, h.nl, its_up l d h.its⟩
theorem Pls.up {n b z w : Nat} {ds : List PyData} (h : Pls n b z ds) (l : z ≤ w) : Pls n b w ds := ⟨h.shy, itsA_up l ds h.its⟩
end Mth
namespace Kk07
open PySem L2 B2 Mth
def top (i : Nat) : Stmt := PySem.Challenge.pw_betstall_k07_houses_or_not.main.body.getD i (.Pass ⟨0, 0, 0, 0⟩)
variable {P : Program} {w : World} {K : PySem.W.Frag} {mg : MG} {base : Heap} {E : XK}
local macro_rules | `(tactic| walk_at "bk S") => `(tactic| ((conv => whnf); repeat (first | (refine And.intro (by (first | assumption | exact Nat.le_of_ble_eq_true rfl | exact rfl | exact ⟨rfl, rfl⟩ | exact Or.inl rfl | omega | decide | (simp only [List.length_map, List.length_append, List.length_cons, List.length_nil, List.length_singleton, List.length_take, List.length_drop, List.length_reverse, List.length_replicate, List.length_range, SX.S_len, span_len, List.length_set, List.length_dropLast]; omega) | (refine ⟨?_, ?_⟩ <;> first | assumption | omega | decide | (simp only [List.length_map, List.length_append, List.length_cons, List.length_nil, List.length_singleton, List.length_take, List.length_drop, List.length_reverse, List.length_replicate, List.length_range, SX.S_len, span_len, List.length_set, List.length_dropLast]; omega)) | ((first | ((simp only [tabL_len, rowL_len, intL_len, List.length_append, List.length_singleton, List.length_cons, List.length_nil, List.length_replicate, List.length_map, List.length_set, Int.toNat_natCast]; refine ⟨?_, ?_⟩ <;> omega)) | ((simp only [tabL_len, rowL_len, intL_len, List.length_append, List.length_singleton, List.length_cons, List.length_nil, List.length_replicate, List.length_map, List.length_set, Int.toNat_natCast]; omega)) | with_reducible apply tame_gains | with_reducible apply mild_fr | with_reducible apply mild_frs | with_reducible apply shy_bds | with_reducible apply tame_bds | with_reducible apply tame_bd | with_reducible apply shy_ho | with_reducible apply shy_be | with_reducible apply tame_tab | with_reducible apply tame_op | with_reducible apply tame_be | with_reducible apply tame_te | with_reducible apply tame_fr | with_reducible apply tame_terms | (exact says_snoc (Says.mono (by assumption) (by first | omega | decide)) (by assumption) (by omega)) | (exact Says.mono (by assumption) (by first | omega | decide)) | (exact House.big (by assumption)) | (exact says_app (Says.mono (by assumption) (by first | omega | decide)) (Says.mono (by assumption) (by first | omega | decide))) | with_reducible apply tame_sa2 | with_reducible apply tame_sas | with_reducible apply tame_ho2 | with_reducible apply tame_S | with_reducible apply tame_ch | with_reducible apply House.le6 | with_reducible apply House.ltrs | with_reducible apply tame_wo | with_reducible apply worlds_big | with_reducible apply tame_wd | with_reducible apply Ltrs.low | with_reducible apply Ltrs.ne | with_reducible apply tame_map0 | with_reducible apply tame_str | with_reducible apply tame_none | with_reducible apply tame_bool | with_reducible apply tame_int | with_reducible apply tame_app0 | with_reducible apply tame_cons0 | with_reducible apply tame_nil0 | with_reducible apply tame_L | with_reducible apply tame_T | with_reducible apply eqOk) <;> (repeat' (first | assumption | omega | (first | ((simp only [tabL_len, rowL_len, intL_len, List.length_append, List.length_singleton, List.length_cons, List.length_nil, List.length_replicate, List.length_map, List.length_set, Int.toNat_natCast]; refine ⟨?_, ?_⟩ <;> omega)) | ((simp only [tabL_len, rowL_len, intL_len, List.length_append, List.length_singleton, List.length_cons, List.length_nil, List.length_replicate, List.length_map, List.length_set, Int.toNat_natCast]; omega)) | with_reducible apply tame_gains | with_reducible apply mild_fr | with_reducible apply mild_frs | with_reducible apply shy_bds | with_reducible apply tame_bds | with_reducible apply tame_bd | with_reducible apply shy_ho | with_reducible apply shy_be | with_reducible apply tame_tab | with_reducible apply tame_op | with_reducible apply tame_be | with_reducible apply tame_te | with_reducible apply tame_fr | with_reducible apply tame_terms | (exact says_snoc (Says.mono (by assumption) (by first | omega | decide)) (by assumption) (by omega)) | (exact Says.mono (by assumption) (by first | omega | decide)) | (exact House.big (by assumption)) | (exact says_app (Says.mono (by assumption) (by first | omega | decide)) (Says.mono (by assumption) (by first | omega | decide))) | with_reducible apply tame_sa2 | with_reducible apply tame_sas | with_reducible apply tame_ho2 | with_reducible apply tame_S | with_reducible apply tame_ch | with_reducible apply House.le6 | with_reducible apply House.ltrs | with_reducible apply tame_wo | with_reducible apply worlds_big | with_reducible apply tame_wd | with_reducible apply Ltrs.low | with_reducible apply Ltrs.ne | with_reducible apply tame_map0 | with_reducible apply tame_str | with_reducible apply tame_none | with_reducible apply tame_bool | with_reducible apply tame_int | with_reducible apply tame_app0 | with_reducible apply tame_cons0 | with_reducible apply tame_nil0 | with_reducible apply tame_L | with_reducible apply tame_T | with_reducible apply eqOk) | exact rfl | intro _ _)) <;> fail) | fail)) ?_; (conv => whnf)) | (simp only [map_snoc, map_app]; refine And.intro (by (first | assumption | exact Nat.le_of_ble_eq_true rfl | exact rfl | exact ⟨rfl, rfl⟩ | exact Or.inl rfl | omega | decide | (simp only [List.length_map, List.length_append, List.length_cons, List.length_nil, List.length_singleton, List.length_take, List.length_drop, List.length_reverse, List.length_replicate, List.length_range, SX.S_len, span_len, List.length_set, List.length_dropLast]; omega) | (refine ⟨?_, ?_⟩ <;> first | assumption | omega | decide | (simp only [List.length_map, List.length_append, List.length_cons, List.length_nil, List.length_singleton, List.length_take, List.length_drop, List.length_reverse, List.length_replicate, List.length_range, SX.S_len, span_len, List.length_set, List.length_dropLast]; omega)) | ((first | ((simp only [tabL_len, rowL_len, intL_len, List.length_append, List.length_singleton, List.length_cons, List.length_nil, List.length_replicate, List.length_map, List.length_set, Int.toNat_natCast]; refine ⟨?_, ?_⟩ <;> omega)) | ((simp only [tabL_len, rowL_len, intL_len, List.length_append, List.length_singleton, List.length_cons, List.length_nil, List.length_replicate, List.length_map, List.length_set, Int.toNat_natCast]; omega)) | with_reducible apply tame_gains | with_reducible apply mild_fr | with_reducible apply mild_frs | with_reducible apply shy_bds | with_reducible apply tame_bds | with_reducible apply tame_bd | with_reducible apply shy_ho | with_reducible apply shy_be | with_reducible apply tame_tab | with_reducible apply tame_op | with_reducible apply tame_be | with_reducible apply tame_te | with_reducible apply tame_fr | with_reducible apply tame_terms | (exact says_snoc (Says.mono (by assumption) (by first | omega | decide)) (by assumption) (by omega)) | (exact Says.mono (by assumption) (by first | omega | decide)) | (exact House.big (by assumption)) | (exact says_app (Says.mono (by assumption) (by first | omega | decide)) (Says.mono (by assumption) (by first | omega | decide))) | with_reducible apply tame_sa2 | with_reducible apply tame_sas | with_reducible apply tame_ho2 | with_reducible apply tame_S | with_reducible apply tame_ch | with_reducible apply House.le6 | with_reducible apply House.ltrs | with_reducible apply tame_wo | with_reducible apply worlds_big | with_reducible apply tame_wd | with_reducible apply Ltrs.low | with_reducible apply Ltrs.ne | with_reducible apply tame_map0 | with_reducible apply tame_str | with_reducible apply tame_none | with_reducible apply tame_bool | with_reducible apply tame_int | with_reducible apply tame_app0 | with_reducible apply tame_cons0 | with_reducible apply tame_nil0 | with_reducible apply tame_L | with_reducible apply tame_T | with_reducible apply eqOk) <;> (repeat' (first | assumption | omega | (first | ((simp only [tabL_len, rowL_len, intL_len, List.length_append, List.length_singleton, List.length_cons, List.length_nil, List.length_replicate, List.length_map, List.length_set, Int.toNat_natCast]; refine ⟨?_, ?_⟩ <;> omega)) | ((simp only [tabL_len, rowL_len, intL_len, List.length_append, List.length_singleton, List.length_cons, List.length_nil, List.length_replicate, List.length_map, List.length_set, Int.toNat_natCast]; omega)) | with_reducible apply tame_gains | with_reducible apply mild_fr | with_reducible apply mild_frs | with_reducible apply shy_bds | with_reducible apply tame_bds | with_reducible apply tame_bd | with_reducible apply shy_ho | with_reducible apply shy_be | with_reducible apply tame_tab | with_reducible apply tame_op | with_reducible apply tame_be | with_reducible apply tame_te | with_reducible apply tame_fr | with_reducible apply tame_terms | (exact says_snoc (Says.mono (by assumption) (by first | omega | decide)) (by assumption) (by omega)) | (exact Says.mono (by assumption) (by first | omega | decide)) | (exact House.big (by assumption)) | (exact says_app (Says.mono (by assumption) (by first | omega | decide)) (Says.mono (by assumption) (by first | omega | decide))) | with_reducible apply tame_sa2 | with_reducible apply tame_sas | with_reducible apply tame_ho2 | with_reducible apply tame_S | with_reducible apply tame_ch | with_reducible apply House.le6 | with_reducible apply House.ltrs | with_reducible apply tame_wo | with_reducible apply worlds_big | with_reducible apply tame_wd | with_reducible apply Ltrs.low | with_reducible apply Ltrs.ne | with_reducible apply tame_map0 | with_reducible apply tame_str | with_reducible apply tame_none | with_reducible apply tame_bool | with_reducible apply tame_int | with_reducible apply tame_app0 | with_reducible apply tame_cons0 | with_reducible apply tame_nil0 | with_reducible apply tame_L | with_reducible apply tame_T | with_reducible apply eqOk) | exact rfl | intro _ _)) <;> fail) | fail)) ?_; (conv => whnf)) | ((first | (refine' ⟨_, rfl, _⟩; rotate_right) | (refine' ⟨_, _, rfl, _⟩; rotate_right) | (refine' ⟨_, _, _, rfl, _⟩; rotate_right) | (refine' ⟨_, _, _, _, rfl, _⟩; rotate_right) | (refine' ⟨_, _, _, _, _, rfl, _⟩; rotate_right) | (refine' ⟨_, _, _, _, _, _, rfl, _⟩; rotate_right) | (refine' ⟨_, _, _, _, _, _, _, rfl, _⟩; rotate_right) | (refine' ⟨_, _, _, _, _, _, _, _, rfl, _⟩; rotate_right) | (simp only [map_snoc, map_app]; (first | (refine' ⟨_, rfl, _⟩; rotate_right) | (refine' ⟨_, _, rfl, _⟩; rotate_right) | (refine' ⟨_, _, _, rfl, _⟩; rotate_right) | (refine' ⟨_, _, _, _, rfl, _⟩; rotate_right) | (refine' ⟨_, _, _, _, _, rfl, _⟩; rotate_right) | (refine' ⟨_, _, _, _, _, _, rfl, _⟩; rotate_right) | (refine' ⟨_, _, _, _, _, _, _, rfl, _⟩; rotate_right) | (refine' ⟨_, _, _, _, _, _, _, _, rfl, _⟩; rotate_right)))); (conv => whnf)))))
local macro_rules | `(tactic| walk_at "bk T") => `(tactic| ((conv => whnf); repeat (first | (refine And.intro (by (first | assumption | exact Nat.le_of_ble_eq_true rfl | exact rfl | exact ⟨rfl, rfl⟩ | exact Or.inl rfl | omega | decide | (simp only [List.length_map, List.length_append, List.length_cons, List.length_nil, List.length_singleton, List.length_take, List.length_drop, List.length_reverse, List.length_replicate, List.length_range, SX.S_len, span_len, List.length_set, List.length_dropLast]; omega) | (refine ⟨?_, ?_⟩ <;> first | assumption | omega | decide | (simp only [List.length_map, List.length_append, List.length_cons, List.length_nil, List.length_singleton, List.length_take, List.length_drop, List.length_reverse, List.length_replicate, List.length_range, SX.S_len, span_len, List.length_set, List.length_dropLast]; omega)) | ((first | ((simp only [tabL_len, rowL_len, intL_len, List.length_append, List.length_singleton, List.length_cons, List.length_nil, List.length_replicate, List.length_map, List.length_set, Int.toNat_natCast]; refine ⟨?_, ?_⟩ <;> omega)) | ((simp only [tabL_len, rowL_len, intL_len, List.length_append, List.length_singleton, List.length_cons, List.length_nil, List.length_replicate, List.length_map, List.length_set, Int.toNat_natCast]; omega)) | with_reducible apply tame_gains | with_reducible apply mild_fr | with_reducible apply mild_frs | with_reducible apply shy_bds | with_reducible apply tame_bds | with_reducible apply tame_bd | with_reducible apply shy_ho | with_reducible apply shy_be | with_reducible apply tame_tab | with_reducible apply tame_op | with_reducible apply tame_be | with_reducible apply tame_te | with_reducible apply tame_fr | with_reducible apply tame_terms | (exact says_snoc (Says.mono (by assumption) (by first | omega | decide)) (by assumption) (by omega)) | (exact Says.mono (by assumption) (by first | omega | decide)) | (exact House.big (by assumption)) | (exact says_app (Says.mono (by assumption) (by first | omega | decide)) (Says.mono (by assumption) (by first | omega | decide))) | with_reducible apply tame_sa2 | with_reducible apply tame_sas | with_reducible apply tame_ho2 | with_reducible apply tame_S | with_reducible apply tame_ch | with_reducible apply House.le6 | with_reducible apply House.ltrs | with_reducible apply tame_wo | with_reducible apply worlds_big | with_reducible apply tame_wd | with_reducible apply Ltrs.low | with_reducible apply Ltrs.ne | with_reducible apply tame_map0 | with_reducible apply tame_str | with_reducible apply tame_none | with_reducible apply tame_bool | with_reducible apply tame_int | with_reducible apply tame_app0 | with_reducible apply tame_cons0 | with_reducible apply tame_nil0 | with_reducible apply tame_L | with_reducible apply tame_T | with_reducible apply eqOk) <;> (repeat' (first | assumption | omega | (first | ((simp only [tabL_len, rowL_len, intL_len, List.length_append, List.length_singleton, List.length_cons, List.length_nil, List.length_replicate, List.length_map, List.length_set, Int.toNat_natCast]; refine ⟨?_, ?_⟩ <;> omega)) | ((simp only [tabL_len, rowL_len, intL_len, List.length_append, List.length_singleton, List.length_cons, List.length_nil, List.length_replicate, List.length_map, List.length_set, Int.toNat_natCast]; omega)) | with_reducible apply tame_gains | with_reducible apply mild_fr | with_reducible apply mild_frs | with_reducible apply shy_bds | with_reducible apply tame_bds | with_reducible apply tame_bd | with_reducible apply shy_ho | with_reducible apply shy_be | with_reducible apply tame_tab | with_reducible apply tame_op | with_reducible apply tame_be | with_reducible apply tame_te | with_reducible apply tame_fr | with_reducible apply tame_terms | (exact says_snoc (Says.mono (by assumption) (by first | omega | decide)) (by assumption) (by omega)) | (exact Says.mono (by assumption) (by first | omega | decide)) | (exact House.big (by assumption)) | (exact says_app (Says.mono (by assumption) (by first | omega | decide)) (Says.mono (by assumption) (by first | omega | decide))) | with_reducible apply tame_sa2 | with_reducible apply tame_sas | with_reducible apply tame_ho2 | with_reducible apply tame_S | with_reducible apply tame_ch | with_reducible apply House.le6 | with_reducible apply House.ltrs | with_reducible apply tame_wo | with_reducible apply worlds_big | with_reducible apply tame_wd | with_reducible apply Ltrs.low | with_reducible apply Ltrs.ne | with_reducible apply tame_map0 | with_reducible apply tame_str | with_reducible apply tame_none | with_reducible apply tame_bool | with_reducible apply tame_int | with_reducible apply tame_app0 | with_reducible apply tame_cons0 | with_reducible apply tame_nil0 | with_reducible apply tame_L | with_reducible apply tame_T | with_reducible apply eqOk) | exact rfl | intro _ _)) <;> fail) | fail)) ?_; (conv => whnf)) | (simp only [map_snoc, map_app]; refine And.intro (by (first | assumption | exact Nat.le_of_ble_eq_true rfl | exact rfl | exact ⟨rfl, rfl⟩ | exact Or.inl rfl | omega | decide | (simp only [List.length_map, List.length_append, List.length_cons, List.length_nil, List.length_singleton, List.length_take, List.length_drop, List.length_reverse, List.length_replicate, List.length_range, SX.S_len, span_len, List.length_set, List.length_dropLast]; omega) | (refine ⟨?_, ?_⟩ <;> first | assumption | omega | decide | (simp only [List.length_map, List.length_append, List.length_cons, List.length_nil, List.length_singleton, List.length_take, List.length_drop, List.length_reverse, List.length_replicate, List.length_range, SX.S_len, span_len, List.length_set, List.length_dropLast]; omega)) | ((first | ((simp only [tabL_len, rowL_len, intL_len, List.length_append, List.length_singleton, List.length_cons, List.length_nil, List.length_replicate, List.length_map, List.length_set, Int.toNat_natCast]; refine ⟨?_, ?_⟩ <;> omega)) | ((simp only [tabL_len, rowL_len, intL_len, List.length_append, List.length_singleton, List.length_cons, List.length_nil, List.length_replicate, List.length_map, List.length_set, Int.toNat_natCast]; omega)) | with_reducible apply tame_gains | with_reducible apply mild_fr | with_reducible apply mild_frs | with_reducible apply shy_bds | with_reducible apply tame_bds | with_reducible apply tame_bd | with_reducible apply shy_ho | with_reducible apply shy_be | with_reducible apply tame_tab | with_reducible apply tame_op | with_reducible apply tame_be | with_reducible apply tame_te | with_reducible apply tame_fr | with_reducible apply tame_terms | (exact says_snoc (Says.mono (by assumption) (by first | omega | decide)) (by assumption) (by omega)) | (exact Says.mono (by assumption) (by first | omega | decide)) | (exact House.big (by assumption)) | (exact says_app (Says.mono (by assumption) (by first | omega | decide)) (Says.mono (by assumption) (by first | omega | decide))) | with_reducible apply tame_sa2 | with_reducible apply tame_sas | with_reducible apply tame_ho2 | with_reducible apply tame_S | with_reducible apply tame_ch | with_reducible apply House.le6 | with_reducible apply House.ltrs | with_reducible apply tame_wo | with_reducible apply worlds_big | with_reducible apply tame_wd | with_reducible apply Ltrs.low | with_reducible apply Ltrs.ne | with_reducible apply tame_map0 | with_reducible apply tame_str | with_reducible apply tame_none | with_reducible apply tame_bool | with_reducible apply tame_int | with_reducible apply tame_app0 | with_reducible apply tame_cons0 | with_reducible apply tame_nil0 | with_reducible apply tame_L | with_reducible apply tame_T | with_reducible apply eqOk) <;> (repeat' (first | assumption | omega | (first | ((simp only [tabL_len, rowL_len, intL_len, List.length_append, List.length_singleton, List.length_cons, List.length_nil, List.length_replicate, List.length_map, List.length_set, Int.toNat_natCast]; refine ⟨?_, ?_⟩ <;> omega)) | ((simp only [tabL_len, rowL_len, intL_len, List.length_append, List.length_singleton, List.length_cons, List.length_nil, List.length_replicate, List.length_map, List.length_set, Int.toNat_natCast]; omega)) | with_reducible apply tame_gains | with_reducible apply mild_fr | with_reducible apply mild_frs | with_reducible apply shy_bds | with_reducible apply tame_bds | with_reducible apply tame_bd | with_reducible apply shy_ho | with_reducible apply shy_be | with_reducible apply tame_tab | with_reducible apply tame_op | with_reducible apply tame_be | with_reducible apply tame_te | with_reducible apply tame_fr | with_reducible apply tame_terms | (exact says_snoc (Says.mono (by assumption) (by first | omega | decide)) (by assumption) (by omega)) | (exact Says.mono (by assumption) (by first | omega | decide)) | (exact House.big (by assumption)) | (exact says_app (Says.mono (by assumption) (by first | omega | decide)) (Says.mono (by assumption) (by first | omega | decide))) | with_reducible apply tame_sa2 | with_reducible apply tame_sas | with_reducible apply tame_ho2 | with_reducible apply tame_S | with_reducible apply tame_ch | with_reducible apply House.le6 | with_reducible apply House.ltrs | with_reducible apply tame_wo | with_reducible apply worlds_big | with_reducible apply tame_wd | with_reducible apply Ltrs.low | with_reducible apply Ltrs.ne | with_reducible apply tame_map0 | with_reducible apply tame_str | with_reducible apply tame_none | with_reducible apply tame_bool | with_reducible apply tame_int | with_reducible apply tame_app0 | with_reducible apply tame_cons0 | with_reducible apply tame_nil0 | with_reducible apply tame_L | with_reducible apply tame_T | with_reducible apply eqOk) | exact rfl | intro _ _)) <;> fail) | fail)) ?_; (conv => whnf)) | (refine ⟨_, rfl, ?_⟩; (conv => whnf)))))
abbrev st_wanted_by : Stmt := top 2
--USES isay
def s_wanted_by_d2db2b6d : Spec2 := fun xs k _ => ∃ (ls : List Nat) (s : Str), xs = [.d (.str (SX.S ls)), .d (.str s)] ∧ ls.length ≤ 1000 ∧ s.length ≤ 16777216 ∧ k (.d (.int (wantS ls s)))
theorem s_wanted_by_d2db2b6d_0 : ∀ xs k e, s_wanted_by_d2db2b6d xs k e → s_wanted_by_d2db2b6d xs k fun _ => False := fun _ _ _ h => h

def w_wanted_by_d2db2b6d_r1 : WS :=
  wRet (wNeg (wC (.int 1)))
def w_wanted_by_d2db2b6d_r2 : WS :=
  wSeq (wIf (wTest (wBin (inD false) (wVar 1) (wTup (wCons (wC (.str "and")) (wCons (wC (.str "or")) (wCons (wC (.str "same")) (wNil))))))) (wRet (wC (.int 2))) (wNext))
  (w_wanted_by_d2db2b6d_r1)
def w_wanted_by_d2db2b6d_r3 : WS :=
  wSeq (wIf (wTest (wBin eqD (wVar 1) (wC (.str "not")))) (wRet (wC (.int 1))) (wNext))
  (w_wanted_by_d2db2b6d_r2)
def w_wanted_by_d2db2b6d : WS :=
  wSeq (wIf (wOr (wTest (wBin (inD false) (wVar 1) (wTup (wCons (wC (.str "yes")) (wCons (wC (.str "no")) (wNil)))))) (wAnd (wTest (wBin eqD (wCB cbLen (wCons (wVar 1) (wNil))) (wC (.int 1)))) (wTest (wBin (inD false) (wVar 1) (wVar 0))))) (wRet (wC (.int 0))) (wNext))
  (w_wanted_by_d2db2b6d_r3)

theorem p_wanted_by_d2db2b6d : ∀ xs k e, s_wanted_by_d2db2b6d xs k e → runB w_wanted_by_d2db2b6d xs k fun _ => False := by
  rintro xs k e ⟨ls, s, rfl, hl, hs, hk⟩
  have rest : leafS ls s = false → w_wanted_by_d2db2b6d_r3 { nx := fun _ => k (.d .none), rt := retP k } (fun i => [X2.d (.str (SX.S ls)), X2.d (.str s)][i]?) := by
    intro hf
    unfold wantS at hk
    rw [if_neg (by rw [hf]; decide)] at hk
    (conv => whnf)
    refine ⟨.inl rfl, ?_⟩
    (conv => whnf)
    rw [eqv_str]
    refine iteI (fun h => ?_) (fun h => ?_)
    · rw [if_pos h] at hk
      exact hk
    · rw [if_neg h] at hk
      (conv => whnf)
      refine ⟨Nat.le_of_ble_eq_true rfl, ?_⟩
      (conv => whnf)
      refine ⟨⟨rfl, rfl⟩, ?_⟩
      (conv => whnf)
      rw [in3]
      refine iteI (fun h => ?_) (fun h => ?_)
      · have h : (("and" == s) || ("or" == s) || ("same" == s)) = true := h
        rw [if_pos h] at hk
        exact hk
      · have h : ¬ (("and" == s) || ("or" == s) || ("same" == s)) = true := h
        rw [if_neg h] at hk
        exact hk
  have yes : leafS ls s = true → k (.d (.int 0)) := by
    intro ht
    unfold wantS at hk
    rw [if_pos ht] at hk
    exact hk
  (conv => whnf)
  refine ⟨Nat.le_of_ble_eq_true rfl, ?_⟩
  (conv => whnf)
  refine ⟨⟨rfl, rfl⟩, ?_⟩
  (conv => whnf)
  rw [in2]
  refine iteI (fun h => ?_) (fun h => ?_)
  · have h : (("yes" == s) || ("no" == s)) = true := h
    exact yes (by unfold leafS; rw [h]; rfl)
  have h : ¬ (("yes" == s) || ("no" == s)) = true := h
  have h := Bool.eq_false_iff.mpr h
  (conv => whnf)
  refine ⟨hs, ?_⟩
  (conv => whnf)
  refine ⟨.inl rfl, ?_⟩
  (conv => whnf)
  rw [eqv_int]
  refine iteI (fun h1 => ?_) (fun h1 => ?_)
  · have h1 : s.length = 1 := by
      have := eq_of_beq h1
      omega
    obtain ⟨c, rfl⟩ := one_str h1
    (conv => whnf)
    rw [SX.in_one]
    have e : leafS ls (SX.S [c]) = decide (c ∈ ls) := by
      unfold leafS
      rw [h]
      rfl
    refine iteI (fun h2 => ?_) (fun h2 => ?_)
    · have h2 : decide (c ∈ ls) = true := h2
      exact yes (by rw [e, h2])
    · have h2 : ¬ decide (c ∈ ls) = true := h2
      exact rest (by rw [e]; exact Bool.eq_false_iff.mpr h2)
  · refine rest ?_
    unfold leafS
    rw [h, Bool.false_or]
    split
    · rename_i c hc
      exfalso
      apply h1
      have : s = SX.S [c] := str_ext hc
      rw [this]
      rfl
    · rfl

theorem sc_wanted_by : FnScope ["letters", "word"] ["letters", "word"] (defScope st_wanted_by) := ⟨rfl, rfl, rfl, by decide +kernel, rfl, by decide +kernel, by decide +kernel⟩
theorem ok_wanted_by (A : At K mg "wanted_by" st_wanted_by ["letters", "word"]) (sr : Sr P base) (z_len : mg "len" = none) : Def2 P w K mg base "wanted_by" 1 ["letters", "word"] 0 2 s_wanted_by_d2db2b6d := by
  obtain ⟨f, fd, F, hm, hb⟩ := A.ex
  refine ⟨f, fd, fn_ok (k := 0) (m := 0) (wb := w_wanted_by_d2db2b6d) sr F sc_wanted_by rfl (fun cdv A outer sh H E hr hg => ?_) p_wanted_by_d2db2b6d, hm, F.kp, hb⟩
  exact JSs.cost (jss_cons (js_if (JW.t (jw_or (jt_in (je_var 1) (je_tup (ja_cons (je_str) (ja_cons (je_str) (ja_nil))))) (jw_or1 (JW.t (jw_and (jt_eq (je_len z_len (ja_cons (je_var 1) (ja_nil))) (je_int)) (jw_and1 (jt_in (je_var 1) (je_var 0)))))))) (jss_one (js_ret (je_int))) (jss_nil))
    (jss_cons (js_if (jt_eq (je_var 1) (je_str)) (jss_one (js_ret (je_int))) (jss_nil))
    (jss_cons (js_if (jt_in (je_var 1) (je_tup (ja_cons (je_str) (ja_cons (je_str) (ja_cons (je_str) (ja_nil)))))) (jss_one (js_ret (je_int))) (jss_nil))
    (jss_one (js_ret (je_neg (je_int))))))) (by decide)
abbrev st_is_saying : Stmt := top 3
--USES isay
def s_is_saying_58a5f100 : Spec2 := fun xs k _ => ∃ (ls : List Nat) (d : PyData), xs = [.d (.str (SX.S ls)), .d d] ∧ ls.length ≤ 1000 ∧ (∀ ds, d = .tuple ds → ∀ s, PyData.str s ∈ ds → s.length ≤ 16777216) ∧ k (.d (.bool (sayB ls d)))
theorem s_is_saying_58a5f100_0 : ∀ xs k e, s_is_saying_58a5f100 xs k e → s_is_saying_58a5f100 xs k fun _ => False := fun _ _ _ h => h

def w_is_saying_58a5f100_r1 : WS :=
  wAsg 2 true (wBin addD (wBin subD (wVar 2) (wVar 4)) (wC (.int 1)))
def w_is_saying_58a5f100_r2 : WS :=
  wSeq (wAsg 4 true (wCall s_wanted_by_d2db2b6d (wCons (wVar 0) (wCons (wVar 3) (wNil)))))
  (wSeq (wIf (wOr (wTest (wBin ltD (wVar 4) (wC (.int 0)))) (wTest (wBin gtD (wVar 4) (wVar 2)))) (wRet (wC (.bool false))) (wNext))
  (w_is_saying_58a5f100_r1))
def w_is_saying_58a5f100_l1 : WS :=
  wSeq (wIf (wNot (wTest (wIsi "str" (wVar 3)))) (wRet (wC (.bool false))) (wNext))
  (w_is_saying_58a5f100_r2)
def w_is_saying_58a5f100_r3 : WS :=
  wRet (wBin eqD (wVar 2) (wC (.int 1)))
def w_is_saying_58a5f100_r4 : WS :=
  wSeq (wAsg 2 true (wC (.int 0)))
  (wSeq (wFor (wSeqI (wVar 1)) (gN 3) w_is_saying_58a5f100_l1)
  (w_is_saying_58a5f100_r3))
def w_is_saying_58a5f100 : WS :=
  wSeq (wIf (wOr (wNot (wTest (wIsi "tuple" (wVar 1)))) (wNot (wTest (wChain leD leD (wC (.int 1)) (wCB cbLen (wCons (wVar 1) (wNil))) (wC (.int 40)))))) (wRet (wC (.bool false))) (wNext))
  (w_is_saying_58a5f100_r4)

theorem p_is_saying_58a5f100 : ∀ xs k e, s_is_saying_58a5f100 xs k e → runB w_is_saying_58a5f100 xs k fun _ => False := by
  rintro xs k e ⟨ls, d, rfl, hl, hs, hk⟩
  cases d
  case tuple ds =>
    have hs := hs ds rfl
    have hk : k (.d (.bool (decide (1 ≤ ds.length ∧ ds.length ≤ 40) && goS ls ds 0))) := hk
    (conv => whnf)
    refine iteI (fun h1 => ?_) (fun h1 => ?_)
    · have h1 := of_decide_eq_true h1
      (conv => whnf)
      refine iteI (fun h2 => ?_) (fun h2 => ?_)
      · have h2 : (!decide ((ds.length : Int) ≤ 40)) = true := h2
        have h2 : decide ((ds.length : Int) ≤ 40) = false := by simpa using h2
        have h2 := of_decide_eq_false h2
        rw [decide_eq_false (show ¬ (1 ≤ ds.length ∧ ds.length ≤ 40) by omega), Bool.false_and] at hk
        exact hk
      · have h2 : ¬ (!decide ((ds.length : Int) ≤ 40)) = true := h2
        have h2 : decide ((ds.length : Int) ≤ 40) = true := by simpa using h2
        have h2 := of_decide_eq_true h2
        rw [decide_eq_true (show 1 ≤ ds.length ∧ ds.length ≤ 40 by omega), Bool.true_and] at hk
        (conv => whnf)
        refine forL_ind (I := fun ds ρ => ∃ h : Int, (∀ s, PyData.str s ∈ ds → s.length ≤ 16777216) ∧ k (.d (.bool (goS ls ds h))) ∧ has ρ [(0, .d (.str (SX.S ls))), (2, .d (.int h))]) ?_ ?_ _ _ ?_
        · rintro d ds ρ ⟨h, hs, hk, hρ⟩ ih
          rw [has_put hρ]
          cases d
          case str s =>
            unfold goS at hk
            (conv => whnf)
            refine ⟨ls, s, rfl, hl, hs s (.head _), ?_⟩
            (conv => whnf)
            refine iteI (fun h3 => ?_) (fun h3 => ?_)
            · rw [if_pos (by rw [show decide (wantS ls s < 0) = true from h3]; rfl)] at hk
              exact hk
            · have h3 : decide (wantS ls s < 0) = false := Bool.eq_false_iff.mpr h3
              refine iteI (fun h4 => ?_) (fun h4 => ?_)
              · rw [if_pos (by rw [show decide (h < wantS ls s) = true from h4, Bool.or_true])] at hk
                exact hk
              · have h4 : decide (h < wantS ls s) = false := Bool.eq_false_iff.mpr h4
                rw [if_neg (by rw [h3, h4]; decide)] at hk
                (conv => whnf)
                exact ih _ ⟨_, fun t ht => hs t (.tail _ ht), hk, rfl, rfl, trivial⟩
          all_goals exact hk
        · rintro ρ ⟨h, _, hk, hρ⟩
          rw [has_put hρ]
          (conv => whnf)
          refine ⟨.inl rfl, ?_⟩
          have e3 := congrArg (fun b => k (.d (.bool b))) (eqv_int h 1)
          exact e3.mpr hk
        · exact ⟨0, hs, hk, rfl, rfl, trivial⟩
    · have h1 := of_decide_eq_false (Bool.eq_false_iff.mpr h1)
      rw [decide_eq_false (show ¬ (1 ≤ ds.length ∧ ds.length ≤ 40) by omega), Bool.false_and] at hk
      exact hk
  all_goals exact hk

theorem sc_is_saying : FnScope ["letters", "thing", "heap", "word", "wanted"] ["letters", "thing"] (defScope st_is_saying) := ⟨rfl, rfl, rfl, by decide +kernel, rfl, by decide +kernel, by decide +kernel⟩
theorem ok_is_saying (A : At K mg "is_saying" st_is_saying ["letters", "thing"]) (sr : Sr P base) (d_wanted_by : Def2 P w K mg base "wanted_by" 1 ["letters", "word"] 0 2 s_wanted_by_d2db2b6d) (z_isinstance : mg "isinstance" = none) (z_tuple : mg "tuple" = none) (z_len : mg "len" = none) (z_str : mg "str" = none) (c_MOST_WORDS : ∃ t, mg "MOST_WORDS" = some (.int 40 t)) : Def2 P w K mg base "is_saying" 2 ["letters", "thing"] 0 2 s_is_saying_58a5f100 := by
  obtain ⟨f, fd, F, hm, hb⟩ := A.ex
  refine ⟨f, fd, fn_ok (k := 1) (m := 0) (wb := w_is_saying_58a5f100) sr F sc_is_saying rfl (fun cdv A outer sh H E hr hg => ?_) p_is_saying_58a5f100, hm, F.kp, hb⟩
  exact JSs.cost (jss_cons (js_if (JW.t (jw_or (jt_not (jt_val (je_isi z_isinstance z_tuple (by decide +kernel) kit_tuple (je_var 1)))) (jw_or1 (jt_not (jt_leLe (je_int) (je_len z_len (ja_cons (je_var 1) (ja_nil))) (je_globI c_MOST_WORDS)))))) (jss_one (js_ret (je_bl))) (jss_nil))
    (jss_cons (js_asg 2 true (je_int))
    (jss_cons (js_for (ji_seq (je_var 1)) (jg_name 3) (jss_cons (js_if (jt_not (jt_val (je_isi z_isinstance z_str (by decide +kernel) kit_str (je_var 3)))) (jss_one (js_ret (je_bl))) (jss_nil))
    (jss_cons (js_asg 4 true (je_callD d_wanted_by s_wanted_by_d2db2b6d_0 (ja_cons (je_var 0) (ja_cons (je_var 3) (ja_nil)))))
    (jss_cons (js_if (JW.t (jw_or (jt_lt (je_var 4) (je_int)) (jw_or1 (jt_gt (je_var 4) (je_var 2))))) (jss_one (js_ret (je_bl))) (jss_nil))
    (jss_one (js_asg 2 true (je_add (je_sub (je_var 2) (je_var 4)) (je_int))))))))
    (jss_one (js_ret (je_eq (je_var 2) (je_int))))))) (by decide)
abbrev st_is_so : Stmt := top 4
--USES say
def s_is_so_60535c5e : Spec2 := fun xs k _ => ∃ (ls : List Nat) (bs : List Bool) (w : Wd), xs = [.d (.str (SX.S ls)), .d (.str w.str), .d (.str (woS bs))] ∧ w.need = 0 ∧ (∀ c, w = .let c → c ∈ ls) ∧ bs.length = ls.length ∧ ls.length ≤ 1000 ∧ k (.d (.bool (leafV ls bs w)))
theorem s_is_so_60535c5e_0 : ∀ xs k e, s_is_so_60535c5e xs k e → s_is_so_60535c5e xs k fun _ => False := fun _ _ _ h => h

def w_is_so_60535c5e : WS :=
  wRet (wOrV (wBin eqD (wVar 1) (wC (.str "yes"))) (wAndV (wBin eqD (wCB cbLen (wCons (wVar 1) (wNil))) (wC (.int 1))) (wBin eqD (wBin ixD (wVar 2) (wM1 sindexD (wVar 0) (wVar 1))) (wC (.str "1")))))

theorem p_is_so_60535c5e : ∀ xs k e, s_is_so_60535c5e xs k e → runB w_is_so_60535c5e xs k fun _ => False := by
  rintro xs k e ⟨ls, bs, w, rfl, hn, hl, hb, hz, hk⟩
  cases w <;> first | (exact absurd hn (by decide)) | skip
  case yes =>
    (conv => whnf)
    refine ⟨.inl rfl, ?_⟩
    (conv => whnf)
    exact hk
  case no =>
    (conv => whnf)
    refine ⟨.inl rfl, ?_⟩
    (conv => whnf)
    refine ⟨by decide, ?_⟩
    (conv => whnf)
    refine ⟨.inl rfl, ?_⟩
    (conv => whnf)
    exact hk
  case «let» c =>
    have hc := hl c rfl
    obtain ⟨r, hr⟩ := occ_letter hc
    have hi : ls.idxOf c < bs.length := by rw [hb]; exact List.idxOf_lt_length_of_mem hc
    (conv => whnf)
    refine ⟨.inl rfl, ?_⟩
    (conv => whnf)
    refine ⟨(by decide : (1 : Nat) ≤ 16777216), ?_⟩
    (conv => whnf)
    refine ⟨.inl rfl, ?_⟩
    (conv => whnf)
    rw [show Wd.str (.let c) = SX.S [c] from rfl, hr]
    (conv => whnf)
    refine ⟨?_, ?_⟩
    · show (SX.S (bs.map bitC)).length ≤ _
      rw [SX.S_len, List.length_map]; omega
    rw [atIn]
    have e1 : (woS bs).cps.toList[ls.idxOf c]? = some (bitC (bs.getD (ls.idxOf c) false)) := by
      show (bs.map bitC)[ls.idxOf c]? = _
      rw [List.getElem?_map, List.getElem?_eq_getElem hi]
      simp [hi]
    rw [e1]
    (conv => whnf)
    refine ⟨.inl rfl, ?_⟩
    have e2 : PyData.eqv (.str ⟨#[bitC (bs.getD (ls.idxOf c) false)]⟩) (.str "1") = bs.getD (ls.idxOf c) false := by
      cases bs.getD (ls.idxOf c) false <;> decide +kernel
    have e3 := congrArg (fun b => k (.d (.bool b))) e2
    exact e3.mpr hk

theorem sc_is_so : FnScope ["letters", "word", "world"] ["letters", "word", "world"] (defScope st_is_so) := ⟨rfl, rfl, rfl, by decide +kernel, rfl, by decide +kernel, by decide +kernel⟩
theorem ok_is_so (A : At K mg "is_so" st_is_so ["letters", "word", "world"]) (sr : Sr P base) (z_len : mg "len" = none) : Def2 P w K mg base "is_so" 1 ["letters", "word", "world"] 0 3 s_is_so_60535c5e := by
  obtain ⟨f, fd, F, hm, hb⟩ := A.ex
  refine ⟨f, fd, fn_ok (k := 0) (m := 0) (wb := w_is_so_60535c5e) sr F sc_is_so rfl (fun cdv A outer sh H E hr hg => ?_) p_is_so_60535c5e, hm, F.kp, hb⟩
  exact JSs.cost (jss_one (js_ret (je_or (je_eq (je_var 1) (je_str)) (je_one (je_and (je_eq (je_len z_len (ja_cons (je_var 1) (ja_nil))) (je_int)) (je_one (je_eq (je_ix (je_var 2) (je_sindex (je_var 0) (je_var 1))) (je_str)))))))) (by decide)
abbrev st_are_so : Stmt := top 5
--USES say
def s_are_so_582f24e5 : Spec2 := fun xs k _ => ∃ (w : Wd) (a b : Bool), xs = [.d (.str w.str), .d (.bool a), .d (.bool b)] ∧ ((w = .and ∧ k (.d (.bool (a && b)))) ∨ (w = .or ∧ k (.d (.bool (a || b)))) ∨ (w = .same ∧ k (.d (.bool (a == b)))))
theorem s_are_so_582f24e5_0 : ∀ xs k e, s_are_so_582f24e5 xs k e → s_are_so_582f24e5 xs k fun _ => False := fun _ _ _ h => h

def w_are_so_582f24e5_r1 : WS :=
  wRet (wBin eqD (wVar 1) (wVar 2))
def w_are_so_582f24e5_r2 : WS :=
  wSeq (wIf (wTest (wBin eqD (wVar 0) (wC (.str "or")))) (wRet (wOrV (wVar 1) (wVar 2))) (wNext))
  (w_are_so_582f24e5_r1)
def w_are_so_582f24e5 : WS :=
  wSeq (wIf (wTest (wBin eqD (wVar 0) (wC (.str "and")))) (wRet (wAndV (wVar 1) (wVar 2))) (wNext))
  (w_are_so_582f24e5_r2)

theorem p_are_so_582f24e5 : ∀ xs k e, s_are_so_582f24e5 xs k e → runB w_are_so_582f24e5 xs k fun _ => False := by
  rintro xs k e ⟨w, a, b, rfl, ⟨rfl, hk⟩ | ⟨rfl, hk⟩ | ⟨rfl, hk⟩⟩
  · (conv => whnf)
    refine ⟨.inl rfl, ?_⟩
    cases a <;> ((conv => whnf); exact hk)
  · (conv => whnf)
    refine ⟨.inl rfl, ?_⟩
    (conv => whnf)
    refine ⟨.inl rfl, ?_⟩
    cases a <;> ((conv => whnf); exact hk)
  · (conv => whnf)
    refine ⟨.inl rfl, ?_⟩
    (conv => whnf)
    refine ⟨.inl rfl, ?_⟩
    (conv => whnf)
    refine ⟨.inl rfl, ?_⟩
    cases a <;> cases b <;> exact hk

theorem sc_are_so : FnScope ["word", "one", "other"] ["word", "one", "other"] (defScope st_are_so) := ⟨rfl, rfl, rfl, by decide +kernel, rfl, by decide +kernel, by decide +kernel⟩
theorem ok_are_so (A : At K mg "are_so" st_are_so ["word", "one", "other"]) (sr : Sr P base) : Def2 P w K mg base "are_so" 1 ["word", "one", "other"] 0 3 s_are_so_582f24e5 := by
  obtain ⟨f, fd, F, hm, hb⟩ := A.ex
  refine ⟨f, fd, fn_ok (k := 0) (m := 0) (wb := w_are_so_582f24e5) sr F sc_are_so rfl (fun cdv A outer sh H E hr hg => ?_) p_are_so_582f24e5, hm, F.kp, hb⟩
  exact JSs.cost (jss_cons (js_if (jt_eq (je_var 0) (je_str)) (jss_one (js_ret (je_and (je_var 1) (je_one (je_var 2))))) (jss_nil))
    (jss_cons (js_if (jt_eq (je_var 0) (je_str)) (jss_one (js_ret (je_or (je_var 1) (je_one (je_var 2))))) (jss_nil))
    (jss_one (js_ret (je_eq (je_var 1) (je_var 2)))))) (by decide)
abbrev st_holds : Stmt := top 6
--USES say
def s_holds_521d0c22 : Spec2 := fun xs k _ => ∃ (ls : List Nat) (bs : List Bool) (ws : List Wd), xs = [.d (.str (SX.S ls)), .d (saD ws), .d (.str (woS bs))] ∧ Good ls ws ∧ bs.length = ls.length ∧ ls.length ≤ 1000 ∧ ws.length ≤ 1000000 ∧ k (.d (.bool (valS ls bs ws)))
theorem s_holds_521d0c22_0 : ∀ xs k e, s_holds_521d0c22 xs k e → s_holds_521d0c22 xs k fun _ => False := fun _ _ _ h => h

def w_holds_521d0c22_l1 : WS :=
  wIf (wTest (wBin eqD (wVar 4) (wC (.str "not")))) (wDrop (wAppendS 3 (wNotV (wPop 3)))) (wIf (wTest (wBin (inD false) (wVar 4) (wTup (wCons (wC (.str "and")) (wCons (wC (.str "or")) (wCons (wC (.str "same")) (wNil))))))) (wSeq (wAsg 5 true (wPop 3))
  (wDrop (wAppendS 3 (wCall s_are_so_582f24e5 (wCons (wVar 4) (wCons (wPop 3) (wCons (wVar 5) (wNil)))))))) (wDrop (wAppendS 3 (wCall s_is_so_60535c5e (wCons (wVar 0) (wCons (wVar 4) (wCons (wVar 2) (wNil))))))))
def w_holds_521d0c22_r1 : WS :=
  wRet (wBin ixD (wVar 3) (wC (.int 0)))
def w_holds_521d0c22 : WS :=
  wSeq (wAsg 3 false (wLst (wNil)))
  (wSeq (wFor (wSeqI (wVar 1)) (gN 4) w_holds_521d0c22_l1)
  (w_holds_521d0c22_r1))

theorem p_holds_521d0c22 : ∀ xs k e, s_holds_521d0c22 xs k e → runB w_holds_521d0c22 xs k fun _ => False := by
  rintro xs k e ⟨ls, bs, ws, rfl, hg, hb, hz, hw, hk⟩
  have hrun := hg.run bs
  generalize valS ls bs ws = v at hrun hk
  (conv => whnf)
  refine ⟨Nat.le_of_ble_eq_true rfl, ?_⟩
  (conv => whnf)
  refine forL_ind (I := fun ds ρ => ∃ (us : List Wd) (st : List Bool), ds = us.map (fun w => .str w.str) ∧ has ρ [(0, .d (.str (SX.S ls))), (2, .d (.str (woS bs))), (3, .own (st.reverse.map .bool))] ∧ runW (leafV ls bs) us st = some [v] ∧ (∀ c, Wd.let c ∈ us → c ∈ ls) ∧ st.length + us.length ≤ 1000000) ?_ ?_ _ _ ?_
  · rintro d ds ρ ⟨us, st, hds, hρ, hr, hlt, hsz⟩ ih
    rw [has_put hρ]
    cases us with
    | nil => cases hds
    | cons w us =>
    rw [List.map_cons] at hds
    cases hds
    have hlt' : ∀ c, Wd.let c ∈ us → c ∈ ls := fun c hc => hlt c (.tail _ hc)
    have hsz : st.length + (us.length + 1) ≤ 1000000 := hsz
    unfold runW at hr
    by_cases hw0 : w.need = 0
    · rw [stp_leaf hw0] at hr
      have hr : runW (leafV ls bs) us (leafV ls bs w :: st) = some [v] := hr
      (conv => whnf)
      refine ⟨.inl rfl, ?_⟩
      (conv => whnf)
      refine iteN (leaf_ne hw0 (v := .neg) (by decide)) ?_
      (conv => whnf)
      refine ⟨Nat.le_of_ble_eq_true rfl, ?_⟩
      (conv => whnf)
      refine ⟨⟨rfl, rfl⟩, ?_⟩
      (conv => whnf)
      refine iteN (leaf_in hw0) ?_
      (conv => whnf)
      refine ⟨ls, bs, w, rfl, hw0, fun c e => hlt c (by rw [e]; exact .head _), hb, hz, ?_⟩
      (conv => whnf)
      refine ⟨by rw [List.length_map, List.length_reverse]; omega, ?_⟩
      refine ih _ ⟨us, leafV ls bs w :: st, rfl, ⟨rfl, rfl, by rw [rev_app]; rfl, trivial⟩, hr, hlt', by simp; omega⟩
    · cases w <;> first | (exact absurd rfl hw0) | skip
      · -- not
        rcases st with _ | ⟨a, r⟩
        · simp [stp] at hr
        have hr : runW (leafV ls bs) us ((!a) :: r) = some [v] := hr
        have hsz : r.length + 1 + (us.length + 1) ≤ 1000000 := hsz
        rw [rev_app]
        (conv => whnf)
        refine ⟨.inl rfl, ?_⟩
        (conv => whnf)
        rw [last_app]
        (conv => whnf)
        rw [List.dropLast_concat]
        refine ⟨by rw [List.length_map, List.length_reverse]; omega, ?_⟩
        refine ih _ ⟨us, (!a) :: r, rfl, ⟨rfl, rfl, by rw [rev_app]; rfl, trivial⟩, hr, hlt', by simp; omega⟩
      all_goals
        rcases st with _ | ⟨b, _ | ⟨a, r⟩⟩
        · simp [stp] at hr
        · simp [stp] at hr
        have hsz : r.length + 1 + 1 + (us.length + 1) ≤ 1000000 := hsz
        rw [rev_app]
        rw [rev_app]
        (conv => whnf)
        refine ⟨.inl rfl, ?_⟩
        (conv => whnf)
        refine ⟨Nat.le_of_ble_eq_true rfl, ?_⟩
        (conv => whnf)
        refine ⟨⟨rfl, rfl⟩, ?_⟩
        (conv => whnf)
        rw [last_app]
        (conv => whnf)
        rw [List.dropLast_concat]
        rw [last_app]
        (conv => whnf)
        rw [List.dropLast_concat]
        refine ⟨_, a, b, rfl, ?_⟩
        first
          | refine .inl ⟨rfl, ?_⟩
          | refine .inr (.inl ⟨rfl, ?_⟩)
          | refine .inr (.inr ⟨rfl, ?_⟩)
        (conv => whnf)
        refine ⟨by rw [List.length_map, List.length_reverse]; omega, ?_⟩
        refine ih _ ⟨us, _ :: r, rfl, ⟨rfl, rfl, by rw [rev_app]; rfl, trivial⟩, hr, hlt', by simp; omega⟩
  · rintro ρ ⟨us, st, hds, hρ, hr, _⟩
    rw [has_put hρ]
    cases us with
    | cons w us => cases hds
    | nil =>
    cases hr
    (conv => whnf)
    exact hk
  · exact ⟨ws, [], rfl, ⟨rfl, rfl, rfl, trivial⟩, hrun, hg.ltr, by simpa using hw⟩

theorem sc_holds : FnScope ["letters", "saying", "world", "heap", "word", "other"] ["letters", "saying", "world"] (defScope st_holds) := ⟨rfl, rfl, rfl, by decide +kernel, rfl, by decide +kernel, by decide +kernel⟩
theorem ok_holds (A : At K mg "holds" st_holds ["letters", "saying", "world"]) (sr : Sr P base) (d_are_so : Def2 P w K mg base "are_so" 1 ["word", "one", "other"] 0 3 s_are_so_582f24e5) (d_is_so : Def2 P w K mg base "is_so" 1 ["letters", "word", "world"] 0 3 s_is_so_60535c5e) : Def2 P w K mg base "holds" 2 ["letters", "saying", "world"] 0 3 s_holds_521d0c22 := by
  obtain ⟨f, fd, F, hm, hb⟩ := A.ex
  refine ⟨f, fd, fn_ok (k := 1) (m := 0) (wb := w_holds_521d0c22) sr F sc_holds rfl (fun cdv A outer sh H E hr hg => ?_) p_holds_521d0c22, hm, F.kp, hb⟩
  exact JSs.cost (jss_cons (js_asg 3 false (je_lst (ja_nil)))
    (jss_cons (js_for (ji_seq (je_var 1)) (jg_name 4) (jss_one (js_if (jt_eq (je_var 4) (je_str)) (jss_one (js_expr (je_append 3 (je_not (je_pop 3))))) (jss_one (js_if (jt_in (je_var 4) (je_tup (ja_cons (je_str) (ja_cons (je_str) (ja_cons (je_str) (ja_nil)))))) (jss_cons (js_asg 5 true (je_pop 3))
    (jss_one (js_expr (je_append 3 (je_callD d_are_so s_are_so_582f24e5_0 (ja_cons (je_var 4) (ja_cons (je_pop 3) (ja_cons (je_var 5) (ja_nil))))))))) (jss_one (js_expr (je_append 3 (je_callD d_is_so s_is_so_60535c5e_0 (ja_cons (je_var 0) (ja_cons (je_var 4) (ja_cons (je_var 2) (ja_nil)))))))))))))
    (jss_one (js_ret (je_ix (je_var 3) (je_int)))))) (by decide)
abbrev st_are_letters : Stmt := top 10
--USES logic
def s_are_letters_fdaaf2e9 : Spec2 := fun xs k _ => ∃ d : PyData, xs = [.d d] ∧ (∀ s, d = .str s → s.length ≤ 16777216) ∧ k (.d (.bool (lettersB d)))
theorem s_are_letters_fdaaf2e9_0 : ∀ xs k e, s_are_letters_fdaaf2e9 xs k e → s_are_letters_fdaaf2e9 xs k fun _ => False := fun _ _ _ h => h

def w_are_letters_fdaaf2e9_l1 : WS :=
  wIf (wOr (wNot (wTest (wChain leD leD (wC (.str "a")) (wBin ixD (wVar 0) (wVar 1)) (wC (.str "z"))))) (wAnd (wTest (wBin gtD (wVar 1) (wC (.int 0)))) (wTest (wBin geD (wBin ixD (wVar 0) (wBin subD (wVar 1) (wC (.int 1)))) (wBin ixD (wVar 0) (wVar 1)))))) (wRet (wC (.bool false))) (wNext)
def w_are_letters_fdaaf2e9_r1 : WS :=
  wRet (wC (.bool true))
def w_are_letters_fdaaf2e9_r2 : WS :=
  wSeq (wFor (wRange (wCons (wCB cbLen (wCons (wVar 0) (wNil))) (wNil))) (gN 1) w_are_letters_fdaaf2e9_l1)
  (w_are_letters_fdaaf2e9_r1)
def w_are_letters_fdaaf2e9 : WS :=
  wSeq (wIf (wOr (wNot (wTest (wIsi "str" (wVar 0)))) (wNot (wTest (wChain leD leD (wC (.int 1)) (wCB cbLen (wCons (wVar 0) (wNil))) (wC (.int 6)))))) (wRet (wC (.bool false))) (wNext))
  (w_are_letters_fdaaf2e9_r2)

theorem p_are_letters_fdaaf2e9 : ∀ xs k e, s_are_letters_fdaaf2e9 xs k e → runB w_are_letters_fdaaf2e9 xs k fun _ => False := by
  rintro xs k e ⟨d, rfl, hs, hk⟩
  cases d
  case str s =>
    have hs := hs s rfl
    have hk : k (.d (.bool (decide (1 ≤ s.length ∧ s.length ≤ 6) && goL none s.cps.toList))) := hk
    have hlen : s.length = s.cps.toList.length := by rw [Array.length_toList]; rfl
    (conv => whnf)
    refine ⟨hs, ?_⟩
    (conv => whnf)
    refine iteI (fun h1 => ?_) (fun h1 => ?_)
    · have h1 := of_decide_eq_true h1
      (conv => whnf)
      refine iteI (fun h2 => ?_) (fun h2 => ?_)
      · have h2 : (!decide ((s.length : Int) ≤ 6)) = true := h2
        have h2 : decide ((s.length : Int) ≤ 6) = false := by simpa using h2
        have h2 := of_decide_eq_false h2
        rw [decide_eq_false (show ¬ (1 ≤ s.length ∧ s.length ≤ 6) by omega), Bool.false_and] at hk
        exact hk
      · have h2 : ¬ (!decide ((s.length : Int) ≤ 6)) = true := h2
        have h2 : decide ((s.length : Int) ≤ 6) = true := by simpa using h2
        have h2 := of_decide_eq_true h2
        rw [decide_eq_true (show 1 ≤ s.length ∧ s.length ≤ 6 by omega), Bool.true_and] at hk
        (conv => whnf)
        refine ⟨hs, ?_⟩
        (conv => whnf)
        refine ⟨⟨by omega, by omega⟩, ?_⟩
        rw [Int.toNat_natCast, span0, List.range_eq_range', hlen]
        refine forL_ind (I := fun ds ρ => ∃ (i m : Nat), ds = (List.range' i m).map (fun (i : Nat) => PyData.int (i : Nat)) ∧ i + m = s.cps.toList.length ∧ k (.d (.bool (goL (if i = 0 then none else s.cps.toList[i - 1]?) (s.cps.toList.drop i)))) ∧ has ρ [(0, .d (.str s))]) ?_ ?_ _ _ ?_
        · rintro d ds ρ ⟨i, m, hds, hm, hk, hρ⟩ ih
          rw [has_put hρ]
          cases m with
          | zero => cases hds
          | succ m =>
          rw [List.range'_succ, List.map_cons] at hds
          cases hds
          have hi : i < s.cps.toList.length := by omega
          obtain ⟨c, hc⟩ : ∃ c, s.cps.toList[i]? = some c := ⟨_, List.getElem?_eq_getElem hi⟩
          have hdr : s.cps.toList.drop i = c :: s.cps.toList.drop (i + 1) := by
            rw [List.drop_eq_getElem_cons hi]
            rw [List.getElem?_eq_getElem hi] at hc
            cases hc; rfl
          rw [hdr] at hk
          unfold goL at hk
          have e1 : atI s.cps.toList (i : Nat) = some c := by rw [atIn]; exact hc
          have lt1 : sLt ⟨#[c]⟩ "a" = decide (c < 97) := sLt_one c 97
          have lt2 : sLt "z" ⟨#[c]⟩ = decide (122 < c) := sLt_one 122 c
          have nx : (decide (97 ≤ c) && decide (c ≤ 122)) = true → (match (if i = 0 then none else s.cps.toList[i - 1]?) with
              | some q => decide (q < c)
              | none => true) = true → forL (gN 1) w_are_letters_fdaaf2e9_l1 { nx := fun ρ' => w_are_letters_fdaaf2e9_r1 { nx := fun x => k (X2.d PyData.none), rt := retP k } ρ', rt := retP k } ((List.range' (i + 1) m).map (fun (i : Nat) => PyData.int (i : Nat))) (upE (put ρ [(0, .d (.str s))]) 1 (some (.d (.int (i : Nat))))) := by
            intro a b
            have hk : k (.d (.bool ((true && (match (if i = 0 then none else s.cps.toList[i - 1]?) with
              | some q => decide (q < c)
              | none => true)) && goL (some c) (s.cps.toList.drop (i + 1))))) := by rw [a] at hk; exact hk
            rw [b] at hk
            refine ih _ ⟨i + 1, m, rfl, by omega, ?_, rfl, trivial⟩
            rw [if_neg (by omega), show i + 1 - 1 = i by omega, hc]
            exact hk
          (conv => whnf)
          refine ⟨hs, ?_⟩
          rw [e1]
          (conv => whnf)
          refine iteI (fun h3 => ?_) (fun h3 => ?_)
          · have h3 : (!sLt ⟨#[c]⟩ "a") = true := h3
            rw [lt1] at h3
            have h3 : decide (97 ≤ c) = true := decide_eq_true (by have : decide (c < 97) = false := by simpa using h3
                                                                   have := of_decide_eq_false this; omega)
            (conv => whnf)
            refine iteI (fun h4 => ?_) (fun h4 => ?_)
            · have h4 : (!(!sLt "z" ⟨#[c]⟩)) = true := h4
              rw [lt2] at h4
              have h4 : decide (122 < c) = true := by simpa using h4
              have h4 := of_decide_eq_true h4
              rw [decide_eq_false (show ¬ c ≤ 122 by omega), Bool.and_false, Bool.false_and, Bool.false_and] at hk
              exact hk
            · have h4 : ¬ (!(!sLt "z" ⟨#[c]⟩)) = true := h4
              rw [lt2] at h4
              have h4 : decide (122 < c) = false := by simpa using h4
              have h4 := of_decide_eq_false h4
              have az : (decide (97 ≤ c) && decide (c ≤ 122)) = true := by rw [h3, decide_eq_true (show c ≤ 122 by omega)]; rfl
              (conv => whnf)
              refine iteI (fun h5 => ?_) (fun h5 => ?_)
              · have h5 := of_decide_eq_true h5
                obtain ⟨p, hp⟩ : ∃ p, s.cps.toList[i - 1]? = some p := ⟨_, List.getElem?_eq_getElem (by omega)⟩
                have e2 : atI s.cps.toList ((i : Int) - 1) = some p := by
                  rw [show (i : Int) - 1 = ((i - 1 : Nat) : Int) by omega, atIn]; exact hp
                have lt3 : sLt ⟨#[p]⟩ ⟨#[c]⟩ = decide (p < c) := sLt_one p c
                (conv => whnf)
                refine ⟨hs, ?_⟩
                rw [e2]
                (conv => whnf)
                refine ⟨hs, ?_⟩
                rw [e1]
                (conv => whnf)
                refine iteI (fun h6 => ?_) (fun h6 => ?_)
                · have h6 : (!sLt ⟨#[p]⟩ ⟨#[c]⟩) = true := h6
                  rw [lt3] at h6
                  have h6 : decide (p < c) = false := by simpa using h6
                  rw [if_neg (by omega), hp] at hk
                  have hk : k (.d (.bool ((decide (97 ≤ c) && decide (c ≤ 122)) && decide (p < c) && goL (some c) (s.cps.toList.drop (i + 1))))) := hk
                  rw [h6, Bool.and_false, Bool.false_and] at hk
                  exact hk
                · have h6 : ¬ (!sLt ⟨#[p]⟩ ⟨#[c]⟩) = true := h6
                  rw [lt3] at h6
                  have h6 : decide (p < c) = true := by simpa using h6
                  exact nx az (by rw [if_neg (by omega), hp]; exact h6)
              · have h5 := of_decide_eq_false (Bool.eq_false_iff.mpr h5)
                exact nx az (by rw [if_pos (by omega)])
          · have h3 : ¬ (!sLt ⟨#[c]⟩ "a") = true := h3
            rw [lt1] at h3
            have h3 : decide (c < 97) = true := by simpa using h3
            have h3 := of_decide_eq_true h3
            rw [decide_eq_false (show ¬ 97 ≤ c by omega), Bool.false_and, Bool.false_and, Bool.false_and] at hk
            (conv => whnf)
            exact hk
        · rintro ρ ⟨i, m, hds, hm, hk, hρ⟩
          cases m with
          | succ m => rw [List.range'_succ] at hds; cases hds
          | zero =>
          rw [List.drop_of_length_le (by omega)] at hk
          unfold goL at hk
          exact hk
        · exact ⟨0, s.cps.toList.length, rfl, by omega, hk, rfl, trivial⟩
    · have h1 := of_decide_eq_false (Bool.eq_false_iff.mpr h1)
      rw [decide_eq_false (show ¬ (1 ≤ s.length ∧ s.length ≤ 6) by omega), Bool.false_and] at hk
      (conv => whnf)
      exact hk
  all_goals exact hk

theorem sc_are_letters : FnScope ["thing", "at"] ["thing"] (defScope st_are_letters) := ⟨rfl, rfl, rfl, by decide +kernel, rfl, by decide +kernel, by decide +kernel⟩
theorem ok_are_letters (A : At K mg "are_letters" st_are_letters ["thing"]) (sr : Sr P base) (z_isinstance : mg "isinstance" = none) (z_str : mg "str" = none) (z_len : mg "len" = none) (z_range : mg "range" = none) (c_MOST_LETTERS : ∃ t, mg "MOST_LETTERS" = some (.int 6 t)) : Def2 P w K mg base "are_letters" 1 ["thing"] 0 1 s_are_letters_fdaaf2e9 := by
  obtain ⟨f, fd, F, hm, hb⟩ := A.ex
  refine ⟨f, fd, fn_ok (k := 0) (m := 0) (wb := w_are_letters_fdaaf2e9) sr F sc_are_letters rfl (fun cdv A outer sh H E hr hg => ?_) p_are_letters_fdaaf2e9, hm, F.kp, hb⟩
  exact JSs.cost (jss_cons (js_if (JW.t (jw_or (jt_not (jt_val (je_isi z_isinstance z_str (by decide +kernel) kit_str (je_var 0)))) (jw_or1 (jt_not (jt_leLe (je_int) (je_len z_len (ja_cons (je_var 0) (ja_nil))) (je_globI c_MOST_LETTERS)))))) (jss_one (js_ret (je_bl))) (jss_nil))
    (jss_cons (js_for (ji_range1 z_range (ja_cons (je_len z_len (ja_cons (je_var 0) (ja_nil))) (ja_nil))) (jg_name 1) (jss_one (js_if (JW.t (jw_or (jt_not (jt_leLe (je_str) (je_ix (je_var 0) (je_var 1)) (je_str))) (jw_or1 (JW.t (jw_and (jt_gt (je_var 1) (je_int)) (jw_and1 (jt_ge (je_ix (je_var 0) (je_sub (je_var 1) (je_int))) (je_ix (je_var 0) (je_var 1))))))))) (jss_one (js_ret (je_bl))) (jss_nil))))
    (jss_one (js_ret (je_bl))))) (by decide)
abbrev st_all_worlds : Stmt := top 11
--USES order
def s_all_worlds_5a3d0917 : Spec2 := fun xs k _ => ∃ ls : List Nat, xs = [.d (.str (SX.S ls))] ∧ ls.length ≤ 6 ∧ k (.d (.list ((allW ls.length).map woD)))
theorem s_all_worlds_5a3d0917_0 : ∀ xs k e, s_all_worlds_5a3d0917 xs k e → s_all_worlds_5a3d0917 xs k fun _ => False := fun _ _ _ h => h

def w_all_worlds_5a3d0917_l1 : WS :=
  wDrop (wExtendS 3 (wLst (wCons (wBin addD (wVar 4) (wC (.str "0"))) (wCons (wBin addD (wVar 4) (wC (.str "1"))) (wNil)))))
def w_all_worlds_5a3d0917_r1 : WS :=
  wAsg 1 true (wVar 3)
def w_all_worlds_5a3d0917_l2 : WS :=
  wSeq (wAsg 3 false (wLst (wNil)))
  (wSeq (wFor (wSeqI (wVar 1)) (gN 4) w_all_worlds_5a3d0917_l1)
  (w_all_worlds_5a3d0917_r1))
def w_all_worlds_5a3d0917_r2 : WS :=
  wRet (wVar 1)
def w_all_worlds_5a3d0917 : WS :=
  wSeq (wAsg 1 true (wLst (wCons (wC (.str "")) (wNil))))
  (wSeq (wFor (wRange (wCons (wCB cbLen (wCons (wVar 0) (wNil))) (wNil))) (gN 2) w_all_worlds_5a3d0917_l2)
  (w_all_worlds_5a3d0917_r2))

theorem p_all_worlds_5a3d0917 : ∀ xs k e, s_all_worlds_5a3d0917 xs k e → runB w_all_worlds_5a3d0917 xs k fun _ => False := by
  rintro xs k e ⟨ls, rfl, h6, hk⟩
  (conv => whnf)
  refine ⟨Nat.le_of_ble_eq_true rfl, ?_⟩
  (conv => whnf)
  refine ⟨by rw [SX.S_len]; omega, ?_⟩
  (conv => whnf)
  rw [SX.S_len]
  refine ⟨⟨by omega, by omega⟩, ?_⟩
  rw [Int.toNat_natCast]
  refine forL_ind (I := fun ds ρ => ∃ i : Nat, i + ds.length = ls.length ∧ has ρ [(1, .d (.list ((allW i).map woD)))]) ?_ ?_ _ _ ?_
  · rintro d ds ρ ⟨i, hi, hρ⟩ ih
    rw [has_put hρ]
    have hi : i + (ds.length + 1) = ls.length := hi
    have hW := allW_le (n := i) (by omega)
    (conv => whnf)
    refine ⟨Nat.le_of_ble_eq_true rfl, ?_⟩
    (conv => whnf)
    refine forL_ind (I := fun ds ρ => ∃ us vs : List (List Bool), ds = us.map woD ∧ vs ++ us.flatMap (fun w => [w ++ [false], w ++ [true]]) = allW (i + 1) ∧ vs.length + 2 * us.length ≤ 128 ∧ (∀ u ∈ us, u.length = i) ∧ has ρ [(3, .own (vs.map woD))]) ?_ ?_ _ _ ?_
    · clear hρ
      rintro d ds ρ ⟨us, vs, hds, he, hz, hu, hρ⟩ ih
      rw [has_put hρ]
      cases us with
      | nil => cases hds
      | cons w us =>
      rw [List.map_cons] at hds
      cases hds
      have hz : vs.length + 2 * (us.length + 1) ≤ 128 := hz
      have hw := hu w (.head _)
      (conv => whnf)
      refine ⟨by rw [wo_len, hw]; show i + 1 ≤ _; omega, ?_⟩
      (conv => whnf)
      refine ⟨by rw [wo_len, hw]; show i + 1 ≤ _; omega, ?_⟩
      (conv => whnf)
      refine ⟨Nat.le_of_ble_eq_true rfl, ?_⟩
      have e0 : PyData.str (woS w ++ Str.ofString "0") = woD (w ++ [false]) := by
        unfold woD woS
        rw [List.map_append]
        exact congrArg PyData.str (SX.S_cat _ [48])
      have e1 : PyData.str (woS w ++ Str.ofString "1") = woD (w ++ [true]) := by
        unfold woD woS
        rw [List.map_append]
        exact congrArg PyData.str (SX.S_cat _ [49])
      (conv => whnf)
      refine ⟨by rw [List.length_map]; show vs.length + 2 ≤ _; omega, ?_⟩
      refine ih _ ⟨us, vs ++ [w ++ [false], w ++ [true]], rfl, ?_, by rw [List.length_append]; show vs.length + 2 + _ ≤ _; omega, fun u h => hu u (.tail _ h), ?_, trivial⟩
      · rw [← he, List.flatMap_cons, List.append_assoc]
      · show some (X2.own (vs.map woD ++ [_, _])) = _
        rw [e0, e1, List.map_append]; rfl
    · clear hρ
      rintro ρ ⟨us, vs, hds, he, hz, hu, hρ⟩
      rw [has_put hρ]
      cases us with
      | cons _ _ => cases hds
      | nil =>
      have he : vs = allW (i + 1) := by rw [← he]; simp
      (conv => whnf)
      refine ih _ ⟨i + 1, by omega, ?_, trivial⟩
      show some (X2.d (.list (vs.map woD))) = _
      rw [he]
    · refine ⟨allW i, [], rfl, by rw [allW_succ]; rfl, by simp; omega, fun u h => allW_len h, rfl, trivial⟩
  · rintro ρ ⟨i, hi, hρ⟩
    rw [has_put hρ]
    have hi : i = ls.length := hi
    rw [hi]
    exact hk
  · exact ⟨0, by rw [span_len]; omega, rfl, trivial⟩

theorem sc_all_worlds : FnScope ["letters", "found", "place", "longer", "world"] ["letters"] (defScope st_all_worlds) := ⟨rfl, rfl, rfl, by decide +kernel, rfl, by decide +kernel, by decide +kernel⟩
theorem ok_all_worlds (A : At K mg "all_worlds" st_all_worlds ["letters"]) (sr : Sr P base) (z_len : mg "len" = none) (z_range : mg "range" = none) : Def2 P w K mg base "all_worlds" 1 ["letters"] 0 1 s_all_worlds_5a3d0917 := by
  obtain ⟨f, fd, F, hm, hb⟩ := A.ex
  refine ⟨f, fd, fn_ok (k := 0) (m := 0) (wb := w_all_worlds_5a3d0917) sr F sc_all_worlds rfl (fun cdv A outer sh H E hr hg => ?_) p_all_worlds_5a3d0917, hm, F.kp, hb⟩
  exact JSs.cost (jss_cons (js_asg 1 true (je_lst (ja_cons (je_str) (ja_nil))))
    (jss_cons (js_for (ji_range1 z_range (ja_cons (je_len z_len (ja_cons (je_var 0) (ja_nil))) (ja_nil))) (jg_name 2) (jss_cons (js_asg 3 false (je_lst (ja_nil)))
    (jss_cons (js_for (ji_seq (je_var 1)) (jg_name 4) (jss_one (js_expr (je_extend 3 (je_lst (ja_cons (je_add (je_var 4) (je_str)) (ja_cons (je_add (je_var 4) (je_str)) (ja_nil))))))))
    (jss_one (js_asg 1 true (je_var 3))))))
    (jss_one (js_ret (je_var 1))))) (by decide)
abbrev st_worlds_of : Stmt := top 12
--USES order
def s_worlds_of_f0222a84 : Spec2 := fun xs k _ => ∃ (ls : List Nat) (rs : List (List Wd)), xs = [.d (hoD ls rs)] ∧ ls.length ≤ 6 ∧ (∀ r ∈ rs, Good ls r ∧ r.length ≤ 1000000) ∧ k (.d (.tuple ((worldsOf ls rs).map woD)))
theorem s_worlds_of_f0222a84_0 : ∀ xs k e, s_worlds_of_f0222a84 xs k e → s_worlds_of_f0222a84 xs k fun _ => False := fun _ _ _ h => h

def w_worlds_of_f0222a84_l1 : WS :=
  wAsg 1 true (wLc [3] (wSeqI (wVar 1)) (gN 3) (wTest (wCall s_holds_521d0c22 (wCons (wBin ixD (wVar 0) (wC (.int 0))) (wCons (wVar 2) (wCons (wVar 3) (wNil)))))) (wVar 3))
def w_worlds_of_f0222a84_r1 : WS :=
  wRet (wCB cbTuple (wCons (wVar 1) (wNil)))
def w_worlds_of_f0222a84 : WS :=
  wSeq (wAsg 1 true (wCall s_all_worlds_5a3d0917 (wCons (wBin ixD (wVar 0) (wC (.int 0))) (wNil))))
  (wSeq (wFor (wSeqI (wBin ixD (wVar 0) (wC (.int 1)))) (gN 2) w_worlds_of_f0222a84_l1)
  (w_worlds_of_f0222a84_r1))

theorem p_worlds_of_f0222a84 : ∀ xs k e, s_worlds_of_f0222a84 xs k e → runB w_worlds_of_f0222a84 xs k fun _ => False := by
  rintro xs k e ⟨ls, rs, rfl, h6, hg, hk⟩
  (conv => whnf)
  refine ⟨ls, rfl, h6, ?_⟩
  (conv => whnf)
  refine forL_ind (I := fun ds ρ => ∃ us vs : List (List Wd), ds = us.map saD ∧ vs ++ us = rs ∧ has ρ [(0, .d (hoD ls rs)), (1, .d (.list ((worldsOf ls vs).map woD)))]) ?_ ?_ _ _ ?_
  · rintro d ds ρ ⟨us, vs, hds, he, hρ⟩ ih
    rw [has_put hρ]
    cases us with
    | nil => cases hds
    | cons r us =>
    rw [List.map_cons] at hds
    cases hds
    have hr := hg r (by rw [← he]; simp)
    (conv => whnf)
    refine ⟨by rw [List.length_map]; have := worlds_le h6 vs; omega, ?_⟩
    refine lcL_ind (I := fun ds out => ∃ ws qs : List (List Bool), ds = ws.map woD ∧ (∀ w ∈ ws, w.length = ls.length) ∧ qs ++ ws.filter (fun bs => valS ls bs r) = worldsOf ls (vs ++ [r]) ∧ out = qs.map woD) ?_ ?_ _ _ ?_
    · rintro d ds out ⟨ws, qs, hds, hw, hq, rfl⟩ ih
      cases ws with
      | nil => cases hds
      | cons w ws =>
      rw [List.map_cons] at hds
      cases hds
      rw [List.filter_cons] at hq
      (conv => whnf)
      refine ⟨ls, w, r, rfl, hr.1, hw w (.head _), by omega, hr.2, ?_⟩
      (conv => whnf)
      refine ⟨rfl, ?_⟩
      refine iteI (fun h => ?_) (fun h => ?_)
      · rw [if_pos h] at hq
        (conv => whnf)
        refine ⟨rfl, ?_⟩
        exact ih _ ⟨ws, qs ++ [w], rfl, fun x hx => hw x (.tail _ hx), by rw [List.append_assoc]; exact hq, by rw [List.map_append]; rfl⟩
      · rw [if_neg h] at hq
        exact ih _ ⟨ws, qs, rfl, fun x hx => hw x (.tail _ hx), hq, rfl⟩
    · rintro out ⟨ws, qs, hds, hw, hq, rfl⟩
      cases ws with
      | cons _ _ => cases hds
      | nil =>
      rw [List.filter_nil, List.append_nil] at hq
      refine ih _ ⟨us, vs ++ [r], rfl, by rw [List.append_assoc]; exact he, rfl, ?_, trivial⟩
      rw [← hq]; rfl
    · refine ⟨worldsOf ls vs, [], rfl, fun w h => worlds_mem h, ?_, rfl⟩
      rw [worlds_app]
      simp
  · rintro ρ ⟨us, vs, hds, he, hρ⟩
    rw [has_put hρ]
    cases us with
    | cons _ _ => cases hds
    | nil =>
    rw [List.append_nil] at he
    rw [he]
    exact hk
  · exact ⟨rs, [], rfl, rfl, rfl, by rw [worlds0]; rfl, trivial⟩

theorem sc_worlds_of : FnScope ["house", "found", "rule", "world"] ["house"] (defScope st_worlds_of) := ⟨rfl, rfl, rfl, by decide +kernel, rfl, by decide +kernel, by decide +kernel⟩
theorem ok_worlds_of (A : At K mg "worlds_of" st_worlds_of ["house"]) (sr : Sr P base) (d_all_worlds : Def2 P w K mg base "all_worlds" 1 ["letters"] 0 1 s_all_worlds_5a3d0917) (d_holds : Def2 P w K mg base "holds" 2 ["letters", "saying", "world"] 0 3 s_holds_521d0c22) (z_tuple : mg "tuple" = none) : Def2 P w K mg base "worlds_of" 3 ["house"] 0 1 s_worlds_of_f0222a84 := by
  obtain ⟨f, fd, F, hm, hb⟩ := A.ex
  refine ⟨f, fd, fn_ok (k := 2) (m := 0) (wb := w_worlds_of_f0222a84) sr F sc_worlds_of rfl (fun cdv A outer sh H E hr hg => ?_) p_worlds_of_f0222a84, hm, F.kp, hb⟩
  exact JSs.cost (jss_cons (js_asg 1 true (je_callD d_all_worlds s_all_worlds_5a3d0917_0 (ja_cons (je_ix (je_var 0) (je_int)) (ja_nil))))
    (jss_cons (js_for (ji_seq (je_ix (je_var 0) (je_int))) (jg_name 2) (jss_one (js_setLc 1 true [("world", 3)] (ji_seq (je_var 1)) (by kernel_rfl) (jg_name 3) (jts_one (jt_val (je_callD d_holds s_holds_521d0c22_0 (ja_cons (je_ix (je_var 0) (je_int)) (ja_cons (je_var 2) (ja_cons (je_var 3) (ja_nil))))))) (je_var 3) (fun _ => sw_true rfl rfl rfl (by decide +kernel)))))
    (jss_one (js_ret (je_tuplec z_tuple (ja_cons (je_var 1) (ja_nil))))))) (by decide)
abbrev st_is_house : Stmt := top 13
--USES logic noho
def s_is_house_c7f63f58 : Spec2 := fun xs k _ => (∃ (ls : List Nat) (rs : List (List Wd)), xs = [.d (hoD ls rs)] ∧ House ls rs ∧ k (.d (.bool true))) ∨ ∃ d : PyData, xs = [.d d] ∧ NoHo d ∧ k (.d (.bool false))
theorem s_is_house_c7f63f58_0 : ∀ xs k e, s_is_house_c7f63f58 xs k e → s_is_house_c7f63f58 xs k fun _ => False := fun _ _ _ h => h

def w_is_house_c7f63f58_r1 : WS :=
  wRet (wBin neD (wCall s_worlds_of_f0222a84 (wCons (wVar 0) (wNil))) (wTup (wNil)))
def w_is_house_c7f63f58_r2 : WS :=
  wSeq (wIf (wNot (wTest (wCB cbAll (wCons (wLc [1] (wSeqI (wBin ixD (wVar 0) (wC (.int 1)))) (gN 1) (wYes) (wCall s_is_saying_58a5f100 (wCons (wBin ixD (wVar 0) (wC (.int 0))) (wCons (wVar 1) (wNil))))) (wNil))))) (wRet (wC (.bool false))) (wNext))
  (w_is_house_c7f63f58_r1)
def w_is_house_c7f63f58_r3 : WS :=
  wSeq (wIf (wOr (wNot (wTest (wIsi "tuple" (wBin ixD (wVar 0) (wC (.int 1)))))) (wTest (wBin gtD (wCB cbLen (wCons (wBin ixD (wVar 0) (wC (.int 1))) (wNil))) (wC (.int 8))))) (wRet (wC (.bool false))) (wNext))
  (w_is_house_c7f63f58_r2)
def w_is_house_c7f63f58 : WS :=
  wSeq (wIf (wOr (wNot (wTest (wIsi "tuple" (wVar 0)))) (wOr (wTest (wBin neD (wCB cbLen (wCons (wVar 0) (wNil))) (wC (.int 2)))) (wNot (wTest (wCall s_are_letters_fdaaf2e9 (wCons (wBin ixD (wVar 0) (wC (.int 0))) (wNil))))))) (wRet (wC (.bool false))) (wNext))
  (w_is_house_c7f63f58_r3)

theorem w_is_house_c7f63f58_ok {ls : List Nat} {rs : List (List Wd)} {k : X2 → Prop} (hL : Ltrs ls) (h6 : ls.length ≤ 6) (hg : ∀ r ∈ rs, Good ls r ∧ r.length ≤ 40) (hf : rs.length ≤ 8) (hk : k (.d (.bool (!(worldsOf ls rs).isEmpty)))) : runB w_is_house_c7f63f58 [.d (hoD ls rs)] k fun _ => False := by
  have hg2 : ∀ r ∈ rs, Good ls r ∧ r.length ≤ 1000000 := fun r hr => ⟨(hg r hr).1, by have := (hg r hr).2; omega⟩
  (conv => whnf)
  refine ⟨.inl rfl, ?_⟩
  (conv => whnf)
  refine ⟨_, rfl, fun s e => by cases e; rw [SX.S_len]; omega, ?_⟩
  rw [lettersB_of hL h6]
  (conv => whnf)
  rw [List.length_map]
  refine iteI (fun h => ?_) (fun _ => ?_)
  · have h := of_decide_eq_true h
    omega
  (conv => whnf)
  refine ⟨by rw [List.length_map]; omega, ?_⟩
  refine lcL_ind (I := fun ds out => ∃ (us : List (List Wd)) (n : Nat), ds = us.map saD ∧ (∀ r ∈ us, r ∈ rs) ∧ out = (List.replicate n true).map PyData.bool) ?_ ?_ _ _ ?_
  · rintro d ds out ⟨us, n, hds, hu, rfl⟩ ih
    cases us with
    | nil => cases hds
    | cons r us =>
    rw [List.map_cons] at hds
    cases hds
    have hr := hg r (hu r (.head _))
    (conv => whnf)
    refine ⟨rfl, ?_⟩
    (conv => whnf)
    refine ⟨ls, saD r, rfl, by omega, fun ds e s hs => ?_, ?_⟩
    · cases e
      obtain ⟨w, hw, e⟩ := List.mem_map.mp hs
      cases e
      cases w
      case «let» c => exact (by decide : (1 : Nat) ≤ 16777216)
      all_goals decide
    rw [sayB_good hr.1 hr.2]
    (conv => whnf)
    refine ⟨rfl, ?_⟩
    exact ih _ ⟨us, n + 1, rfl, fun x hx => hu x (.tail _ hx), by rw [List.replicate_succ', List.map_append]; rfl⟩
  · rintro out ⟨us, n, hds, hu, rfl⟩
    (conv => whnf)
    rw [allBls_map]
    (conv => whnf)
    rw [show (List.replicate n true).all id = true by rw [List.all_eq_true]; intro x hx; rw [List.eq_of_mem_replicate hx]; rfl]
    (conv => whnf)
    refine ⟨ls, rs, rfl, h6, hg2, ?_⟩
    (conv => whnf)
    refine ⟨Nat.le_of_ble_eq_true rfl, ?_⟩
    (conv => whnf)
    refine ⟨.inr ⟨(tame_wos (n := 0) _).shaped (by decide), (tame_niT (n := 0)).shaped (by decide)⟩, ?_⟩
    have e1 : (!PyData.eqv (.tuple ((worldsOf ls rs).map woD)) (.tuple [])) = !(worldsOf ls rs).isEmpty := by
      rw [eqv_nilT, List.isEmpty_map]
    have e3 := congrArg (fun b => k (.d (.bool b))) e1
    exact e3.mpr hk
  · exact ⟨rs, 0, rfl, fun _ h => h, rfl⟩
theorem p_is_house_c7f63f58 : ∀ xs k e, s_is_house_c7f63f58 xs k e → runB w_is_house_c7f63f58 xs k fun _ => False := by
  rintro xs k e (⟨ls, rs, rfl, hH, hk⟩ | ⟨d, rfl, hd, hk⟩)
  · refine w_is_house_c7f63f58_ok hH.ltrs hH.le6 hH.good hH.few ?_
    cases hw : worldsOf ls rs with
    | nil => exact absurd hw hH.live
    | cons _ _ => exact hk
  · cases hd with
    | dead ls rs h h6 g f e1 =>
      refine w_is_house_c7f63f58_ok h h6 g f ?_
      rw [e1]
      exact hk
    | shape _ h l =>
      cases d with
      | tuple ds =>
        have l := l ds rfl
        have h2 : ds.length ≠ 2 := fun z => by
          match ds, z with
          | [x, y], _ => exact h x y rfl
        (walk_at "bk T")
        first | refine iteY' ?_ ?_ | refine recY ?_ ?_
        · rw [eqv_int]; simp; omega
        (walk_at "bk T")
        exact hk
      | _ => (walk_at "bk T"); exact hk
    | letters x y h l =>
      (walk_at "bk T")
      rw [h]
      (walk_at "bk T")
      exact hk
    | rules ls y hL h6 n =>
      (walk_at "bk T")
      refine ⟨fun s e => by cases e; rw [SX.S_len]; omega, ?_⟩
      rw [lettersB_of hL h6]
      cases y with
      | tuple ds =>
        obtain ⟨n1, n2⟩ := n ds rfl
        (walk_at "bk T")
        first | refine iteY' ?_ ?_ | refine recY ?_ ?_
        · rw [decide_eq_true_eq]; omega
        (walk_at "bk T")
        exact hk
      | _ => (walk_at "bk T"); exact hk
    | says ls ds hL h6 f b l =>
      (walk_at "bk T")
      refine ⟨fun s e => by cases e; rw [SX.S_len]; omega, ?_⟩
      rw [lettersB_of hL h6]
      (walk_at "bk T")
      first | refine iteN' ?_ ?_ | refine recN ?_ ?_
      · rw [decide_eq_true_eq]; omega
      (walk_at "bk T")
      refine lcL_map (enc := id) (g := fun d => .bool (sayB ls d)) ds (List.map_id _).symm (fun d hd R h => ?_) ?_
      · (walk_at "bk T")
        refine ⟨ls, d, rfl, by omega, fun es e => l d hd es e, ?_⟩
        (walk_at "bk T")
        exact h
      rw [show (ds.map fun d => PyData.bool (sayB ls d)) = (ds.map (sayB ls)).map PyData.bool by rw [List.map_map]; rfl]
      (walk_at "bk T")
      rw [allBls_map]
      (walk_at "bk T")
      rw [show (ds.map (sayB ls)).all id = false by rw [List.all_map]; exact b]
      (walk_at "bk T")
      exact hk

theorem sc_is_house : FnScope ["thing", "rule"] ["thing"] (defScope st_is_house) := ⟨rfl, rfl, rfl, by decide +kernel, rfl, by decide +kernel, by decide +kernel⟩
theorem ok_is_house (A : At K mg "is_house" st_is_house ["thing"]) (sr : Sr P base) (d_are_letters : Def2 P w K mg base "are_letters" 1 ["thing"] 0 1 s_are_letters_fdaaf2e9) (d_is_saying : Def2 P w K mg base "is_saying" 2 ["letters", "thing"] 0 2 s_is_saying_58a5f100) (d_worlds_of : Def2 P w K mg base "worlds_of" 3 ["house"] 0 1 s_worlds_of_f0222a84) (z_isinstance : mg "isinstance" = none) (z_tuple : mg "tuple" = none) (z_len : mg "len" = none) (z_all : mg "all" = none) (c_MOST_RULES : ∃ t, mg "MOST_RULES" = some (.int 8 t)) : Def2 P w K mg base "is_house" 4 ["thing"] 0 1 s_is_house_c7f63f58 := by
  obtain ⟨f, fd, F, hm, hb⟩ := A.ex
  refine ⟨f, fd, fn_ok (k := 3) (m := 0) (wb := w_is_house_c7f63f58) sr F sc_is_house rfl (fun cdv A outer sh H E hr hg => ?_) p_is_house_c7f63f58, hm, F.kp, hb⟩
  exact JSs.cost (jss_cons (js_if (JW.t (jw_or (jt_not (jt_val (je_isi z_isinstance z_tuple (by decide +kernel) kit_tuple (je_var 0)))) (jw_or (jt_ne (je_len z_len (ja_cons (je_var 0) (ja_nil))) (je_int)) (jw_or1 (jt_not (jt_val (je_callD d_are_letters s_are_letters_fdaaf2e9_0 (ja_cons (je_ix (je_var 0) (je_int)) (ja_nil))))))))) (jss_one (js_ret (je_bl))) (jss_nil))
    (jss_cons (js_if (JW.t (jw_or (jt_not (jt_val (je_isi z_isinstance z_tuple (by decide +kernel) kit_tuple (je_ix (je_var 0) (je_int))))) (jw_or1 (jt_gt (je_len z_len (ja_cons (je_ix (je_var 0) (je_int)) (ja_nil))) (je_globI c_MOST_RULES))))) (jss_one (js_ret (je_bl))) (jss_nil))
    (jss_cons (js_if (jt_not (jt_val (je_all z_all (ja_cons (je_lc [("rule", 1)] (ji_seq (je_ix (je_var 0) (je_int))) (by kernel_rfl) (jg_name 1) (jts_nil) (je_callD d_is_saying s_is_saying_58a5f100_0 (ja_cons (je_ix (je_var 0) (je_int)) (ja_cons (je_var 1) (ja_nil))))) (ja_nil))))) (jss_one (js_ret (je_bl))) (jss_nil))
    (jss_one (js_ret (je_ne (je_callD d_worlds_of s_worlds_of_f0222a84_0 (ja_cons (je_var 0) (ja_nil))) (je_tup (ja_nil)))))))) (by decide)
abbrev st__law_draws : Stmt := top 15
theorem sc__law_draws : FnScope ["_law_script", "_law_cells", "_law_cell"] ["_law_script"] (defScope st__law_draws) := ⟨rfl, rfl, rfl, by decide +kernel, rfl, by decide +kernel, by decide +kernel⟩
theorem ok__law_draws (A : At K mg "_law_draws" st__law_draws ["_law_script"]) (z_len : mg "len" = none) (z_list : mg "list" = none) (z_int : mg "int" = none) : DrawsAt P w K mg base := by
  obtain ⟨f, fd, F, hm, hb⟩ := A.ex
  refine ⟨f, fd, FnG.of <| F.ok (k := 0) sc__law_draws (fun vs H Q E h => by obtain ⟨a, ns, rfl, _⟩ := h; rfl) (fun cdv A outer s H vs Q E hr h => ⟨t_draws K, ?_, draws_reads h⟩), hm, F.kp, hb⟩
  unfold t_draws
  exact (pss_cons (ps_set (i := 1) sc__law_draws.nd rfl (.inl rfl) (pe_op op_cat (pe_callTy call_listA (by rfl) z_list (by decide +kernel) (pa_cons (pe_slice sl_list (pv 0) po_none (po_some pe_int)) pa_nil)) (pe_op op_rep (pe_lst (pa_cons pe_int pa_nil)) (pe_callTy call_int1 (by rfl) z_int (by decide +kernel) (pa_cons (pe_cmpR op_eq (pe_callB call_len_seq (by rfl) z_len PySem.boot_len (pa_cons (pv 0) pa_nil)) pe_int (nomark _)) pa_nil)))))
    (pss_one (ps_ret (pe_lst (pa_cons (pv 1) (pa_cons pe_int (pa_cons (pe_lc (own := [("_law_cell", 2)]) (g := gName 2) (tt := tYes) (by rfl) sc__law_draws.nd (pi_list (pv 1)) (blkOk_by (own := [("_law_cell", 2)]) (N := ["_law_script", "_law_cells", "_law_cell"]) (sc := defScope st__law_draws) (by decide +kernel)) (fun _ _ _ _ _ => pg_name (i := 2) sc__law_draws.nd rfl (Or.inl rfl)) (fun _ _ _ _ _ => pts_nil) (fun _ _ _ _ _ => pe_op op_mul (pv 2) (pe_callTy call_int1 (by rfl) z_int (by decide +kernel) (pa_cons (pe_cmpR op_ge (pv 2) (pe_op op_powW pe_int pe_int) (nomark _)) pa_nil)))) pa_nil)))))))
abbrev st__law_next : Stmt := top 16
theorem sc__law_next : FnScope ["_law_drawn", "_law_many", "_law_cells", "_law_count", "_law_rests", "_law_at", "_law_digit", "_law_primes", "_law_mixed", "_law_more"] ["_law_drawn", "_law_many"] (defScope st__law_next) := ⟨rfl, rfl, rfl, by decide +kernel, rfl, by decide +kernel, by decide +kernel⟩
theorem ok__law_next (A : At K mg "_law_next" st__law_next ["_law_drawn", "_law_many"]) (z_len : mg "len" = none) : Def2 P w K mg base "_law_next" 1 ["_law_drawn", "_law_many"] 1 2 s_next := by
  obtain ⟨f, fd, F, hm, hb⟩ := A.ex
  refine ⟨f, fd, FnG.of <| F.ok (k := 0) sc__law_next (fun vs H Q E h => h.1) (fun cdv A outer s H vs Q E hr h => ⟨t_nextA K, ?_, next_A h⟩), hm, F.kp, hb⟩
  unfold t_nextA t_nextTop t_nextEnd tC7
  exact (pss_cons (ps_asg (pv 0) (pg_unl rfl (pgs_cons (pg_name (i := 2) sc__law_next.nd rfl (.inl rfl)) (pgs_cons (pg_name (i := 3) sc__law_next.nd rfl (.inl rfl)) (pgs_cons (pg_name (i := 4) sc__law_next.nd rfl (.inl rfl)) pgs_nil)))))
    (pss_cons (ps_set (i := 5) sc__law_next.nd rfl (.inl rfl) (pe_op op_mod (pv 3) (pe_callB call_len_seq (by rfl) z_len PySem.boot_len (pa_cons (pv 2) pa_nil))))
    (pss_cons (ps_asg (pe_op op_add (pv 3) pe_int) (pg_sub (pv 0) pe_int set_list))
    (pss_cons (ps_if (pt_cmpR op_gt (pe_ix ix_list (pv 4) (pv 5) (fun _ _ => rfl)) pe_int (nomark _)) (pss_cons (ps_set (i := 6) sc__law_next.nd rfl (.inl rfl) (pe_op op_mod (pe_ix ix_list (pv 4) (pv 5) (fun _ _ => rfl)) (pv 1))) (pss_cons (ps_asg (pe_op op_fdivW (pe_ix ix_list (pv 4) (pv 5) (fun _ _ => rfl)) (pv 1)) (pg_sub (pv 4) (pv 5) set_list)) (pss_one (ps_ret (pv 6))))) pss_nil)
    (pss_cons (ps_set (i := 7) sc__law_next.nd rfl (.inl rfl) (pe_lst (pa_cons pe_int (pa_cons pe_int (pa_cons pe_int (pa_cons pe_int (pa_cons pe_int (pa_cons pe_int (pa_cons pe_int pa_nil)))))))))
    (pss_cons (ps_set (i := 8) sc__law_next.nd rfl (.inl rfl) (pe_op op_add (pe_op op_add (pe_op op_mod (pe_ix ix_list (pv 2) (pv 5) (fun _ _ => rfl)) pe_int) (pe_op op_mul pe_int (pv 3))) pe_int))
    (pss_cons (ps_set (i := 8) sc__law_next.nd rfl (.inl rfl) (pe_op op_mod (pe_op op_powW (pv 8) pe_int) (pe_ix ix_list (pv 7) (pe_op op_mod (pv 3) pe_int) (fun _ _ => rfl))))
    (pss_cons (ps_set (i := 9) sc__law_next.nd rfl (.inl rfl) (pe_op op_mod (pe_op op_powW (pe_op op_add (pv 8) (pe_op op_mul pe_int (pv 3))) pe_int) pe_int))
    (pss_one (ps_ret (pe_op op_mod (pe_op op_mod (pe_op op_add (pe_op op_mul (pv 9) pe_int) (pv 8)) pe_int) (pv 1))))))))))))
--USES whole
abbrev st__law_letters : Stmt := top 18
--USES letters
def s_law_letters_0b4e421b : Spec2 := fun xs k _ => ∃ m : Int, xs = [.drw, .d (.int m)] ∧ 1 ≤ m ∧ m ≤ 26 ∧ ∀ ls : List Nat, Ltrs ls → (ls.length : Int) ≤ m → k (.d (.str (SX.S ls)))
theorem s_law_letters_0b4e421b_0 : ∀ xs k e, s_law_letters_0b4e421b xs k e → s_law_letters_0b4e421b xs k fun _ => False := fun _ _ _ h => h

def w_law_letters_0b4e421b_l1 : WS :=
  wDrop (wAppendS 3 (wPopAtS 2 (wCall s_next (wCons (wVar 0) (wCons (wCB cbLen (wCons (wVar 2) (wNil))) (wNil))))))
def w_law_letters_0b4e421b_r1 : WS :=
  wRet (wM1 joinD (wC (.str "")) (wCB cbSortedX (wCons (wVar 3) (wNil))))
def w_law_letters_0b4e421b : WS :=
  wSeq (wAsg 2 false (wCB listX (wCons (wC (.str "abcdefghijklmnopqrstuvwxyz")) (wNil))))
  (wSeq (wAsg 3 false (wLst (wNil)))
  (wSeq (wFor (wRange (wCons (wBin addD (wC (.int 1)) (wCall s_next (wCons (wVar 0) (wCons (wVar 1) (wNil))))) (wNil))) (gN 4) w_law_letters_0b4e421b_l1)
  (w_law_letters_0b4e421b_r1)))

theorem p_law_letters_0b4e421b : ∀ xs k e, s_law_letters_0b4e421b xs k e → runB w_law_letters_0b4e421b xs k fun _ => False := by
  rintro xs k e ⟨m, rfl, h1, h2, hk⟩
  obtain ⟨m, rfl⟩ := Int.eq_ofNat_of_zero_le (show 0 ≤ m by omega)
  (conv => whnf)
  refine ⟨(by decide : (26 : Nat) ≤ 16777216), ?_⟩
  rw [signs_alphabet]
  (conv => whnf)
  refine ⟨Nat.le_of_ble_eq_true rfl, ?_⟩
  (conv => whnf)
  refine ⟨_, rfl, by omega, Nat.lt_of_le_of_lt (by omega : _ ≤ 26) (by decide +kernel), fun r r0 r1 => ?_⟩
  (conv => whnf)
  refine ⟨⟨by omega, by omega⟩, ?_⟩
  (conv => whnf)
  refine forL_ind (I := fun ds ρ => ∃ (left found : List Nat), Drawn2 left found ∧ left.length + found.length = 26 ∧ found.length + ds.length = (1 + r).toNat ∧ has ρ [(0, .drw), (2, .own (left.map chD)), (3, .own (found.map chD))]) ?_ ?_ _ _ ?_
  · rintro d ds ρ ⟨left, found, hd, hl, hf, hρ⟩ ih
    rw [has_put hρ]
    have hf : found.length + (ds.length + 1) = (1 + r).toNat := hf
    (conv => whnf)
    refine ⟨_, rfl, ?_, ?_, fun j j0 j1 => ?_⟩
    · rw [List.length_map]; omega
    · rw [List.length_map]; exact Nat.lt_of_le_of_lt (by omega : _ ≤ 26) (by decide +kernel)
    rw [List.length_map] at j1
    have e1 : ixN (left.map chD).length j = some j.toNat := by
      have := ixN_nat (n := (left.map chD).length) (m := j.toNat) (by rw [List.length_map]; omega)
      rw [Int.toNat_of_nonneg j0] at this
      exact this
    obtain ⟨c, hc⟩ : ∃ c, left[j.toNat]? = some c := ⟨_, List.getElem?_eq_getElem (by omega)⟩
    have e2 : (left.map chD)[j.toNat]? = some (chD c) := by rw [List.getElem?_map, hc]; rfl
    (conv => whnf)
    rw [e1]
    (conv => whnf)
    rw [e2]
    (conv => whnf)
    refine ⟨⟨by omega, by omega⟩, ?_⟩
    (conv => whnf)
    refine ⟨by rw [List.length_map]; omega, ?_⟩
    have hn : j.toNat < left.length := by omega
    refine ih _ ⟨left.eraseIdx j.toNat, found ++ [c], hd.step hc, ?_, ?_, rfl, ?_, ?_, trivial⟩
    · rw [List.length_eraseIdx_of_lt hn, List.length_append, List.length_singleton]; omega
    · rw [List.length_append, List.length_singleton]; omega
    · show some (X2.own ((left.map chD).eraseIdx j.toNat)) = _
      rw [map_erase]
    · show some (X2.own (found.map chD ++ [chD c])) = _
      rw [List.map_append]; rfl
  · rintro ρ ⟨left, found, hd, hl, hf, hρ⟩
    rw [has_put hρ]
    have hf : found.length + 0 = (1 + r).toNat := hf
    have hne : found ≠ [] := by intro e; rw [e] at hf; simp at hf; omega
    have e1 : allInts (found.map chD) = none := by
      cases found with
      | nil => exact absurd rfl hne
      | cons a t => rfl
    have e2 : allStrs (found.map chD) = some (found.map fun c => SX.S [c]) := by
      have := allStrs_map (found.map fun c => SX.S [c])
      rw [List.map_map] at this
      exact this
    (conv => whnf)
    rw [e1]
    (conv => whnf)
    rw [e2]
    refine fun ms hp hs => ?_
    obtain ⟨ds, hds, rfl⟩ := perm_chars hp
    (conv => whnf)
    rw [allStrs_map]
    refine ⟨?_, ?_⟩
    · rw [sum_ones, List.length_map]
      have := hds.length_eq
      show ds.length + ds.length * 0 ≤ _
      omega
    rw [join_chars]
    exact hk ds (hd.ltrs hds (sorted_chars ds hs) hne) (by have := hds.length_eq; omega)
  · exact ⟨alphabet, [], Drawn2.start, rfl, by rw [span_len]; simp, rfl, rfl, rfl, trivial⟩

theorem sc__law_letters : FnScope ["_law_drawn", "_law_most", "_law_left", "_law_found", "_law_k"] ["_law_drawn", "_law_most"] (defScope st__law_letters) := ⟨rfl, rfl, rfl, by decide +kernel, rfl, by decide +kernel, by decide +kernel⟩
theorem ok__law_letters (A : At K mg "_law_letters" st__law_letters ["_law_drawn", "_law_most"]) (sr : Sr P base) (d__law_next : Def2 P w K mg base "_law_next" 1 ["_law_drawn", "_law_many"] 1 2 s_next) (z_list : mg "list" = none) (z_range : mg "range" = none) (z_len : mg "len" = none) (z_sorted : mg "sorted" = none) : Def2 P w K mg base "_law_letters" 2 ["_law_drawn", "_law_most"] 4611686018427387905 2 s_law_letters_0b4e421b := by
  obtain ⟨f, fd, F, hm, hb⟩ := A.ex
  refine ⟨f, fd, fn_ok (k := 1) (m := 4611686018427387905) (wb := w_law_letters_0b4e421b) sr F sc__law_letters rfl (fun cdv A outer sh H E hr hg => ?_) p_law_letters_0b4e421b, hm, F.kp, hb⟩
  exact JSs.cost (jss_cons (js_asg 2 false (je_listX z_list (ja_cons (je_str) (ja_nil))))
    (jss_cons (js_asg 3 false (je_lst (ja_nil)))
    (jss_cons (js_for (ji_range1 z_range (ja_cons (je_add (je_int) (je_callD d__law_next s_next_0 (ja_cons (je_var 0) (ja_cons (je_var 1) (ja_nil))))) (ja_nil))) (jg_name 4) (jss_one (js_expr (je_append 3 (je_popAt 2 (je_callD d__law_next s_next_0 (ja_cons (je_var 0) (ja_cons (je_len z_len (ja_cons (je_var 2) (ja_nil))) (ja_nil)))))))))
    (jss_one (js_ret (je_join (je_str) (je_sortedX z_sorted (ja_cons (je_var 3) (ja_nil))))))))) (by decide)
abbrev st__law_saying : Stmt := top 19
--USES sayings
def s_law_saying_10961deb : Spec2 := fun xs k _ => ∃ (ls : List Nat) (m : Int), xs = [.drw, .d (.str (SX.S ls)), .d (.int m)] ∧ ls ≠ [] ∧ ls.length ≤ 1000 ∧ 1 ≤ m ∧ m ≤ 1000 ∧ ∀ ws : List Wd, Good ls ws → (ws.length : Int) + 2 ≤ 4 * m → k (.d (saD ws))
theorem s_law_saying_10961deb_0 : ∀ xs k e, s_law_saying_10961deb xs k e → s_law_saying_10961deb xs k fun _ => False := fun _ _ _ h => h

def w_law_saying_10961deb_l1 : WS :=
  wSeq (wAsg 5 true (wCall s_next (wCons (wVar 0) (wCons (wC (.int 8)) (wNil)))))
  (wSeq (wAsg 6 true (wBin ixD (wVar 1) (wCall s_next (wCons (wVar 0) (wCons (wCB cbLen (wCons (wVar 1) (wNil))) (wNil))))))
  (wSeq (wDrop (wAppendS 3 (wTup (wCons (wBin ixD (wLst (wCons (wC (.str "yes")) (wCons (wC (.str "no")) (wCons (wVar 6) (wCons (wVar 6) (wCons (wVar 6) (wCons (wVar 6) (wCons (wVar 6) (wCons (wVar 6) (wNil)))))))))) (wVar 5)) (wNil)))))
  (wIf (wTest (wBin gtD (wVar 5) (wC (.int 5)))) (wSetIx 3 (wBin addD (wBin ixD (wVar 3) (wNeg (wC (.int 1)))) (wTup (wCons (wC (.str "not")) (wNil)))) (wNeg (wC (.int 1)))) (wNext))))
def w_law_saying_10961deb_l2 : WS :=
  wSeq (wAsg 7 true (wCall s_next (wCons (wVar 0) (wCons (wBin subD (wCB cbLen (wCons (wVar 3) (wNil))) (wC (.int 1))) (wNil)))))
  (wSeq (wAsg 8 true (wBin ixD (wLst (wCons (wC (.str "and")) (wCons (wC (.str "or")) (wCons (wC (.str "same")) (wCons (wC (.str "or")) (wNil)))))) (wCall s_next (wCons (wVar 0) (wCons (wC (.int 4)) (wNil))))))
  (wSeq (wAsg 3 false (wBin addD (wBin addD (wSl (wVar 3) (none) (some (wVar 7))) (wLst (wCons (wBin addD (wBin addD (wBin ixD (wVar 3) (wVar 7)) (wBin ixD (wVar 3) (wBin addD (wVar 7) (wC (.int 1))))) (wTup (wCons (wVar 8) (wNil)))) (wNil)))) (wSl (wVar 3) (some (wBin addD (wVar 7) (wC (.int 2)))) (none))))
  (wIf (wTest (wBin eqD (wCall s_next (wCons (wVar 0) (wCons (wC (.int 6)) (wNil)))) (wC (.int 0)))) (wSetIx 3 (wBin addD (wBin ixD (wVar 3) (wVar 7)) (wTup (wCons (wC (.str "not")) (wNil)))) (wVar 7)) (wNext))))
def w_law_saying_10961deb_r1 : WS :=
  wRet (wBin ixD (wVar 3) (wC (.int 0)))
def w_law_saying_10961deb_r2 : WS :=
  wSeq (wFor (wRange (wCons (wBin subD (wCB cbLen (wCons (wVar 3) (wNil))) (wC (.int 1))) (wNil))) (gN 4) w_law_saying_10961deb_l2)
  (w_law_saying_10961deb_r1)
def w_law_saying_10961deb : WS :=
  wSeq (wAsg 3 false (wLst (wNil)))
  (wSeq (wFor (wRange (wCons (wBin addD (wC (.int 1)) (wCall s_next (wCons (wVar 0) (wCons (wVar 2) (wNil))))) (wNil))) (gN 4) w_law_saying_10961deb_l1)
  (w_law_saying_10961deb_r2))

theorem p_law_saying_10961deb : ∀ xs k e, s_law_saying_10961deb xs k e → runB w_law_saying_10961deb xs k fun _ => False := by
  rintro xs k e ⟨ls, m, rfl, hne, hls, h1, h2, hk⟩
  obtain ⟨m, rfl⟩ := Int.eq_ofNat_of_zero_le (show 0 ≤ m by omega)
  have lpos : 0 < ls.length := List.length_pos_iff.mpr hne
  (conv => whnf)
  refine ⟨Nat.le_of_ble_eq_true rfl, ?_⟩
  (conv => whnf)
  refine ⟨_, rfl, by omega, Nat.lt_of_le_of_lt (by omega : _ ≤ 1000) (by decide +kernel), fun r r0 r1 => ?_⟩
  (conv => whnf)
  refine ⟨⟨by omega, by omega⟩, ?_⟩
  (conv => whnf)
  refine forL_ind (I := fun ds ρ => ∃ rows : List (List Wd), (∀ ws ∈ rows, Good ls ws) ∧ total rows ≤ 2 * rows.length ∧ rows.length + ds.length = (1 + r).toNat ∧ has ρ [(0, .drw), (1, .d (.str (SX.S ls))), (3, .own (rows.map saD))]) ?_ ?_ _ _ ?_
  · rintro d ds ρ ⟨rows, hg, ht, hl, hρ⟩ ih
    rw [has_put hρ]
    have hl : rows.length + (ds.length + 1) = (1 + r).toNat := hl
    (conv => whnf)
    refine ⟨_, rfl, by decide, by decide +kernel, fun w w0 w1 => ?_⟩
    (conv => whnf)
    refine ⟨by rw [SX.S_len]; omega, ?_⟩
    (conv => whnf)
    refine ⟨_, rfl, by rw [SX.S_len]; omega, by rw [SX.S_len]; exact Nat.lt_of_le_of_lt (by omega : _ ≤ 1000) (by decide +kernel), fun j j0 j1 => ?_⟩
    rw [SX.S_len] at j1
    obtain ⟨n, rfl⟩ := Int.eq_ofNat_of_zero_le j0
    obtain ⟨c, hc⟩ : ∃ c, ls[n]? = some c := ⟨_, List.getElem?_eq_getElem (by omega)⟩
    have hcm : c ∈ ls := List.mem_of_getElem? hc
    (conv => whnf)
    refine ⟨by rw [SX.S_len]; omega, ?_⟩
    rw [show (SX.S ls).cps.toList = ls from rfl, atIn, hc]
    (conv => whnf)
    refine ⟨Nat.le_of_ble_eq_true rfl, ?_⟩
    obtain ⟨v, hv, hv0, hvc⟩ : ∃ v : Wd, atI [PyData.str "yes", .str "no", chD c, chD c, chD c, chD c, chD c, chD c] w = some (.str v.str) ∧ v.need = 0 ∧ (∀ d, v = .let d → d ∈ ls) := by
      have hc' : ∀ d, Wd.let c = .let d → d ∈ ls := fun d e => by cases e; exact hcm
      rcases (show w = 0 ∨ w = 1 ∨ w = 2 ∨ w = 3 ∨ w = 4 ∨ w = 5 ∨ w = 6 ∨ w = 7 by omega) with rfl | rfl | rfl | rfl | rfl | rfl | rfl | rfl
      · exact ⟨.yes, rfl, rfl, fun d e => by cases e⟩
      · exact ⟨.no, rfl, rfl, fun d e => by cases e⟩
      all_goals exact ⟨.let c, rfl, rfl, hc'⟩
    have hv' := hv
    unfold chD SX.S at hv'
    (conv => whnf)
    rw [hv']
    (conv => whnf)
    refine ⟨Nat.le_of_ble_eq_true rfl, ?_⟩
    (conv => whnf)
    refine ⟨by rw [List.length_map]; omega, ?_⟩
    have g1 : Good ls [v] := Good.leaf hv0 hvc
    (conv => whnf)
    refine iteI (fun _ => ?_) (fun _ => ?_)
    · have e1 : atI (rows.map saD ++ [PyData.tuple [.str v.str]]) (-1) = some (.tuple [.str v.str]) := atI_m1
      have e2 : ixN (rows.map saD ++ [PyData.tuple [.str v.str]]).length (-1) = some rows.length := by
        rw [ixN_m1 (by simp)]; simp
      (conv => whnf)
      rw [e1]
      (conv => whnf)
      refine ⟨Nat.le_of_ble_eq_true rfl, ?_⟩
      (conv => whnf)
      refine ⟨Nat.le_of_ble_eq_true rfl, ?_⟩
      (conv => whnf)
      rw [e2]
      (conv => whnf)
      refine ih _ ⟨rows ++ [[v, .neg]], fun ws hws => ?_, ?_, ?_, rfl, rfl, ?_, trivial⟩
      · rcases List.mem_append.mp hws with z | z
        · exact hg ws z
        · rw [List.mem_singleton.mp z]; exact g1.neg
      · rw [total_app, total_cons, total_nil, List.length_append]; simp; omega
      · rw [List.length_append]; simp; omega
      · show some (X2.own ((rows.map saD ++ [PyData.tuple [.str v.str]]).set rows.length _)) = _
        rw [List.map_append, List.set_append_right _ _ (by rw [List.length_map]; exact Nat.le_refl _), List.length_map, Nat.sub_self]
        rfl
    · (conv => whnf)
      refine ih _ ⟨rows ++ [[v]], fun ws hws => ?_, ?_, ?_, rfl, rfl, ?_, trivial⟩
      · rcases List.mem_append.mp hws with z | z
        · exact hg ws z
        · rw [List.mem_singleton.mp z]; exact g1
      · rw [total_app, total_cons, total_nil, List.length_append]; simp; omega
      · rw [List.length_append]; simp; omega
      · show some (X2.own (rows.map saD ++ [PyData.tuple [.str v.str]])) = _
        rw [List.map_append]; rfl
  · rintro ρ ⟨rows, hg, ht, hl, hρ⟩
    rw [has_put hρ]
    replace hl : rows.length + 0 = (1 + r).toNat := hl
    generalize hn0 : rows.length = n0 at hl
    have hn1 : n0 ≤ m := by omega
    (conv => whnf)
    rw [List.length_map, hn0]
    refine ⟨⟨by omega, by omega⟩, ?_⟩
    (conv => whnf)
    refine forL_ind (I := fun ds ρ => ∃ rows : List (List Wd), (∀ ws ∈ rows, Good ls ws) ∧ rows.length = ds.length + 1 ∧ total rows + 2 * ds.length + 2 ≤ 4 * n0 ∧ rows.length ≤ 1000 ∧ has ρ [(0, .drw), (1, .d (.str (SX.S ls))), (3, .own (rows.map saD))]) ?_ ?_ _ _ ?_
    · clear hn0 ht hg hρ hl rows
      rintro d ds ρ ⟨rows, hg, hl, ht, hz, hρ⟩ ih
      rw [has_put hρ]
      have hl : rows.length = ds.length + 1 + 1 := hl
      have ht : total rows + 2 * (ds.length + 1) + 2 ≤ 4 * n0 := ht
      (conv => whnf)
      refine ⟨_, rfl, ?_, ?_, fun j j0 j1 => ?_⟩
      · rw [List.length_map]; omega
      · rw [List.length_map]; exact Nat.lt_of_le_of_lt (by omega : _ ≤ 1000) (by decide +kernel)
      rw [List.length_map] at j1
      obtain ⟨n, rfl⟩ := Int.eq_ofNat_of_zero_le j0
      obtain ⟨a, b, ha, hb, hab⟩ := two_at (l := rows) (n := n) (by omega)
      (conv => whnf)
      refine ⟨Nat.le_of_ble_eq_true rfl, ?_⟩
      (conv => whnf)
      refine ⟨_, rfl, by decide, by decide +kernel, fun w w0 w1 => ?_⟩
      obtain ⟨v, hv, hv2⟩ : ∃ v : Wd, atI [PyData.str "and", .str "or", .str "same", .str "or"] w = some (.str v.str) ∧ v.need = 2 := by
        rcases (show w = 0 ∨ w = 1 ∨ w = 2 ∨ w = 3 by omega) with rfl | rfl | rfl | rfl
        · exact ⟨.and, rfl, rfl⟩
        · exact ⟨.or, rfl, rfl⟩
        · exact ⟨.same, rfl, rfl⟩
        · exact ⟨.or, rfl, rfl⟩
      (conv => whnf)
      rw [hv]
      have ea : (rows.map saD)[n]? = some (saD a) := by rw [List.getElem?_map, ha]; rfl
      have eb : (rows.map saD)[n + 1]? = some (saD b) := by rw [List.getElem?_map, hb]; rfl
      have ga := hg a (List.mem_of_getElem? ha)
      have gb := hg b (List.mem_of_getElem? hb)
      have tt : total rows = total (rows.take n) + (a.length + (b.length + total (rows.drop (n + 2)))) := by
        conv => lhs; rw [hab]
        rw [total_app, total_cons, total_cons]
      (conv => whnf)
      rw [atIn, ea]
      (conv => whnf)
      rw [intN1, atIn, eb]
      (conv => whnf)
      refine ⟨by rw [List.length_map, List.length_map]; omega, ?_⟩
      (conv => whnf)
      refine ⟨Nat.le_of_ble_eq_true rfl, ?_⟩
      (conv => whnf)
      refine ⟨by rw [List.length_append, List.length_map, List.length_map, List.length_singleton]; omega, ?_⟩
      (conv => whnf)
      refine ⟨Nat.le_of_ble_eq_true rfl, ?_⟩
      have eT : (rows.map saD).take n = (rows.take n).map saD := by rw [List.map_take]
      have eD : (rows.map saD).drop (n + 2) = (rows.drop (n + 2)).map saD := by rw [List.map_drop]
      (conv => whnf)
      rw [cutL_to, eT]
      refine ⟨by rw [List.length_map, List.length_take, List.length_singleton]; omega, ?_⟩
      (conv => whnf)
      rw [intN2, cutL_from, eD]
      refine ⟨by rw [List.length_append, List.length_map, List.length_take, List.length_singleton, List.length_map, List.length_drop]; omega, ?_⟩
      have hn : (rows.take n).length = n := by rw [List.length_take]; omega
      have eN : (rows.take n).map saD ++ [PyData.tuple ((a.map fun w => PyData.str w.str) ++ (b.map fun w => PyData.str w.str) ++ [.str v.str])] ++ (rows.drop (n + 2)).map saD = (rows.take n ++ [a ++ b ++ [v]] ++ rows.drop (n + 2)).map saD := by
        rw [List.map_append, List.map_append]
        congr 2
        show [_] = [_]
        unfold saD
        rw [List.map_append, List.map_append]
        rfl
      have gn : Good ls (a ++ b ++ [v]) := Good.two ga gb hv2
      (conv => whnf)
      refine ⟨_, rfl, by decide, by decide +kernel, fun u u0 u1 => ?_⟩
      (conv => whnf)
      refine ⟨.inl rfl, ?_⟩
      (conv => whnf)
      refine iteI (fun _ => ?_) (fun _ => ?_)
      · have eA : atI ((rows.take n).map saD ++ [PyData.tuple ((a.map fun w => PyData.str w.str) ++ (b.map fun w => PyData.str w.str) ++ [.str v.str])] ++ (rows.drop (n + 2)).map saD) (n : Int) = some (saD (a ++ b ++ [v])) := by
          rw [eN, atIn, List.getElem?_map, List.append_assoc, List.getElem?_append_right (by omega), hn, Nat.sub_self]
          rfl
        have eI : ixN ((rows.take n).map saD ++ [PyData.tuple ((a.map fun w => PyData.str w.str) ++ (b.map fun w => PyData.str w.str) ++ [.str v.str])] ++ (rows.drop (n + 2)).map saD).length (n : Int) = some n := by
          refine ixN_nat ?_
          rw [eN, List.length_map, List.length_append, List.length_append, hn, List.length_singleton]; omega
        (conv => whnf)
        rw [eA]
        (conv => whnf)
        refine ⟨Nat.le_of_ble_eq_true rfl, ?_⟩
        (conv => whnf)
        refine ⟨by rw [List.length_map, List.length_append, List.length_append, List.length_singleton, List.length_singleton]; omega, ?_⟩
        (conv => whnf)
        rw [eI]
        (conv => whnf)
        refine ih _ ⟨rows.take n ++ [a ++ b ++ [v] ++ [.neg]] ++ rows.drop (n + 2), fun ws hws => ?_, ?_, ?_, ?_, rfl, rfl, ?_, trivial⟩
        · rcases List.mem_append.mp hws with z | z
          · rcases List.mem_append.mp z with z | z
            · exact hg ws (List.mem_of_mem_take z)
            · rw [List.mem_singleton.mp z]; exact gn.neg
          · exact hg ws (List.mem_of_mem_drop z)
        · rw [List.length_append, List.length_append, hn, List.length_singleton, List.length_drop]; omega
        · rw [total_app, total_app, total_cons, total_nil, List.length_append, List.length_append, List.length_append, List.length_singleton, List.length_singleton]; omega
        · rw [List.length_append, List.length_append, hn, List.length_singleton, List.length_drop]; omega
        · show some (X2.own (List.set _ n _)) = _
          rw [set_mid (by rw [List.length_map, hn])]
          have e6 : PyData.tuple (((a ++ b ++ [v]).map fun w => PyData.str w.str) ++ [.str "not"]) = saD (a ++ b ++ [v] ++ [.neg]) := by
            unfold saD
            rw [List.map_append (l₁ := a ++ b ++ [v])]
            rfl
          rw [e6]
          have e7 : (rows.take n ++ [a ++ b ++ [v] ++ [Wd.neg]] ++ rows.drop (n + 2)).map saD = (rows.take n).map saD ++ [saD (a ++ b ++ [v] ++ [Wd.neg])] ++ (rows.drop (n + 2)).map saD := by
            rw [List.map_append, List.map_append]; rfl
          rw [e7]
      · (conv => whnf)
        refine ih _ ⟨rows.take n ++ [a ++ b ++ [v]] ++ rows.drop (n + 2), fun ws hws => ?_, ?_, ?_, ?_, rfl, rfl, ?_, trivial⟩
        · rcases List.mem_append.mp hws with z | z
          · rcases List.mem_append.mp z with z | z
            · exact hg ws (List.mem_of_mem_take z)
            · rw [List.mem_singleton.mp z]; exact gn
          · exact hg ws (List.mem_of_mem_drop z)
        · rw [List.length_append, List.length_append, hn, List.length_singleton, List.length_drop]; omega
        · rw [total_app, total_app, total_cons, total_nil, List.length_append, List.length_append, List.length_singleton]; omega
        · rw [List.length_append, List.length_append, hn, List.length_singleton, List.length_drop]; omega
        · exact congrArg (fun l => some (X2.own l)) eN
    · clear hn0 ht hg hρ hl rows
      rintro ρ ⟨rows, hg, hl, ht, hz, hρ⟩
      rw [has_put hρ]
      match rows, hl with
      | [ws], _ =>
      have ht : total [ws] + 2 * 0 + 2 ≤ 4 * n0 := ht
      rw [total_cons, total_nil] at ht
      (conv => whnf)
      exact hk ws (hg ws (.head _)) (by omega)
    · refine ⟨rows, hg, ?_, ?_, ?_, rfl, rfl, rfl, trivial⟩
      · rw [span_len]; omega
      · rw [span_len]; omega
      · omega
  · exact ⟨[], fun ws h => (List.not_mem_nil h).elim, by decide, by rw [span_len]; simp, rfl, rfl, rfl, trivial⟩

theorem sc__law_saying : FnScope ["_law_drawn", "_law_letters_here", "_law_leaves", "_law_rows", "_law_k", "_law_way", "_law_leaf", "_law_at", "_law_word"] ["_law_drawn", "_law_letters_here", "_law_leaves"] (defScope st__law_saying) := ⟨rfl, rfl, rfl, by decide +kernel, rfl, by decide +kernel, by decide +kernel⟩
theorem ok__law_saying (A : At K mg "_law_saying" st__law_saying ["_law_drawn", "_law_letters_here", "_law_leaves"]) (sr : Sr P base) (d__law_next : Def2 P w K mg base "_law_next" 1 ["_law_drawn", "_law_many"] 1 2 s_next) (z_range : mg "range" = none) (z_len : mg "len" = none) : Def2 P w K mg base "_law_saying" 2 ["_law_drawn", "_law_letters_here", "_law_leaves"] 23058430092136939521 3 s_law_saying_10961deb := by
  obtain ⟨f, fd, F, hm, hb⟩ := A.ex
  refine ⟨f, fd, fn_ok (k := 1) (m := 23058430092136939521) (wb := w_law_saying_10961deb) sr F sc__law_saying rfl (fun cdv A outer sh H E hr hg => ?_) p_law_saying_10961deb, hm, F.kp, hb⟩
  exact JSs.cost (jss_cons (js_asg 3 false (je_lst (ja_nil)))
    (jss_cons (js_for (ji_range1 z_range (ja_cons (je_add (je_int) (je_callD d__law_next s_next_0 (ja_cons (je_var 0) (ja_cons (je_var 2) (ja_nil))))) (ja_nil))) (jg_name 4) (jss_cons (js_asg 5 true (je_callD d__law_next s_next_0 (ja_cons (je_var 0) (ja_cons (je_int) (ja_nil)))))
    (jss_cons (js_asg 6 true (je_ix (je_var 1) (je_callD d__law_next s_next_0 (ja_cons (je_var 0) (ja_cons (je_len z_len (ja_cons (je_var 1) (ja_nil))) (ja_nil))))))
    (jss_cons (js_expr (je_append 3 (je_tup (ja_cons (je_ix (je_lst (ja_cons (je_str) (ja_cons (je_str) (ja_cons (je_var 6) (ja_cons (je_var 6) (ja_cons (je_var 6) (ja_cons (je_var 6) (ja_cons (je_var 6) (ja_cons (je_var 6) (ja_nil)))))))))) (je_var 5)) (ja_nil)))))
    (jss_one (js_if (jt_gt (je_var 5) (je_int)) (jss_one (js_setIx 3 (je_add (je_ix (je_var 3) (je_neg (je_int))) (je_tup (ja_cons (je_str) (ja_nil)))) (je_neg (je_int)))) (jss_nil)))))))
    (jss_cons (js_for (ji_range1 z_range (ja_cons (je_sub (je_len z_len (ja_cons (je_var 3) (ja_nil))) (je_int)) (ja_nil))) (jg_name 4) (jss_cons (js_asg 7 true (je_callD d__law_next s_next_0 (ja_cons (je_var 0) (ja_cons (je_sub (je_len z_len (ja_cons (je_var 3) (ja_nil))) (je_int)) (ja_nil)))))
    (jss_cons (js_asg 8 true (je_ix (je_lst (ja_cons (je_str) (ja_cons (je_str) (ja_cons (je_str) (ja_cons (je_str) (ja_nil)))))) (je_callD d__law_next s_next_0 (ja_cons (je_var 0) (ja_cons (je_int) (ja_nil))))))
    (jss_cons (js_asg 3 false (je_add (je_add (je_sl (je_var 3) (jo_none) (jo_some (je_var 7))) (je_lst (ja_cons (je_add (je_add (je_ix (je_var 3) (je_var 7)) (je_ix (je_var 3) (je_add (je_var 7) (je_int)))) (je_tup (ja_cons (je_var 8) (ja_nil)))) (ja_nil)))) (je_sl (je_var 3) (jo_some (je_add (je_var 7) (je_int))) (jo_none))))
    (jss_one (js_if (jt_eq (je_callD d__law_next s_next_0 (ja_cons (je_var 0) (ja_cons (je_int) (ja_nil)))) (je_int)) (jss_one (js_setIx 3 (je_add (je_ix (je_var 3) (je_var 7)) (je_tup (ja_cons (je_str) (ja_nil)))) (je_var 7))) (jss_nil)))))))
    (jss_one (js_ret (je_ix (je_var 3) (je_int))))))) (by decide)
abbrev st__law_holds : Stmt := top 20
--USES say great
def s_law_holds_2ff681ad : Spec2 := fun xs k _ => ∃ (ls : List Nat) (bs : List Bool) (ws : List Wd), xs = [.d (.str (SX.S ls)), .d (saD ws), .d (.str (woS bs))] ∧ Good ls ws ∧ bs.length = ls.length ∧ ls.length ≤ 1000 ∧ ws.length ≤ 1000000 ∧ k (.d (.bool (valS ls bs ws)))
theorem s_law_holds_2ff681ad_0 : ∀ xs k e, s_law_holds_2ff681ad xs k e → s_law_holds_2ff681ad xs k fun _ => False := fun _ _ _ h => h

def w_law_holds_2ff681ad_l1 : WS :=
  wIf (wTest (wBin eqD (wVar 4) (wC (.str "not")))) (wAsg 3 true (wBin addD (wSl (wVar 3) (none) (some (wNeg (wC (.int 1))))) (wTup (wCons (wBin subD (wC (.int 1)) (wBin ixD (wVar 3) (wNeg (wC (.int 1))))) (wNil))))) (wIf (wTest (wBin eqD (wVar 4) (wC (.str "and")))) (wAsg 3 true (wBin addD (wSl (wVar 3) (none) (some (wNeg (wC (.int 2))))) (wTup (wCons (wBin mulX (wBin ixD (wVar 3) (wNeg (wC (.int 2)))) (wBin ixD (wVar 3) (wNeg (wC (.int 1))))) (wNil))))) (wIf (wTest (wBin eqD (wVar 4) (wC (.str "or")))) (wAsg 3 true (wBin addD (wSl (wVar 3) (none) (some (wNeg (wC (.int 2))))) (wTup (wCons (wCB maxX (wCons (wSl (wVar 3) (some (wNeg (wC (.int 2)))) (none)) (wNil))) (wNil))))) (wIf (wTest (wBin eqD (wVar 4) (wC (.str "same")))) (wAsg 3 true (wBin addD (wSl (wVar 3) (none) (some (wNeg (wC (.int 2))))) (wTup (wCons (wCB cbInt (wCons (wBin eqD (wBin ixD (wVar 3) (wNeg (wC (.int 2)))) (wBin ixD (wVar 3) (wNeg (wC (.int 1))))) (wNil))) (wNil))))) (wIf (wOr (wTest (wBin eqD (wVar 4) (wC (.str "yes")))) (wTest (wBin eqD (wVar 4) (wC (.str "no"))))) (wAsg 3 true (wBin addD (wVar 3) (wTup (wCons (wCB cbInt (wCons (wBin eqD (wVar 4) (wC (.str "yes"))) (wNil))) (wNil))))) (wAsg 3 true (wBin addD (wVar 3) (wTup (wCons (wCB cbInt (wCons (wBin ixD (wVar 2) (wM1 findD (wVar 0) (wVar 4))) (wNil))) (wNil)))))))))
def w_law_holds_2ff681ad_r1 : WS :=
  wRet (wBin eqD (wBin ixD (wVar 3) (wC (.int 0))) (wC (.int 1)))
def w_law_holds_2ff681ad : WS :=
  wSeq (wAsg 3 true (wTup (wNil)))
  (wSeq (wFor (wSeqI (wVar 1)) (gN 4) w_law_holds_2ff681ad_l1)
  (w_law_holds_2ff681ad_r1))

theorem p_law_holds_2ff681ad : ∀ xs k e, s_law_holds_2ff681ad xs k e → runB w_law_holds_2ff681ad xs k fun _ => False := by
  rintro xs k e ⟨ls, bs, ws, rfl, hg, hb, hz, hw, hk⟩
  have hrun := hg.run bs
  generalize valS ls bs ws = v at hrun hk
  (conv => whnf)
  refine ⟨Nat.le_of_ble_eq_true rfl, ?_⟩
  (conv => whnf)
  refine forL_ind (I := fun ds ρ => ∃ (us : List Wd) (st : List Bool), ds = us.map (fun w => .str w.str) ∧ has ρ [(0, .d (.str (SX.S ls))), (2, .d (.str (woS bs))), (3, .d (.tuple (st.reverse.map biP)))] ∧ runW (leafV ls bs) us st = some [v] ∧ (∀ c, Wd.let c ∈ us → c ∈ ls) ∧ st.length + us.length ≤ 1000000) ?_ ?_ _ _ ?_
  · rintro d ds ρ ⟨us, st, hds, hρ, hr, hlt, hsz⟩ ih
    rw [has_put hρ]
    cases us with
    | nil => cases hds
    | cons w us =>
    rw [List.map_cons] at hds
    cases hds
    have hlt' : ∀ c, Wd.let c ∈ us → c ∈ ls := fun c hc => hlt c (.tail _ hc)
    have hsz : st.length + (us.length + 1) ≤ 1000000 := hsz
    have len1 : ∀ x : PyData, (st.reverse.map biP).length + [x].length ≤ 16777216 := fun x => by rw [List.length_map, List.length_reverse, List.length_singleton]; omega
    unfold runW at hr
    cases w
    case neg =>
      rcases st with _ | ⟨a, r⟩
      · simp [stp] at hr
      rw [rev_bi]
      have hsz : r.length + 1 + (us.length + 1) ≤ 1000000 := hsz
      (conv => whnf)
      refine ⟨.inl rfl, ?_⟩
      (conv => whnf)
      rw [cutL_m1, atI_m1]
      (conv => whnf)
      refine ⟨Nat.le_of_ble_eq_true rfl, ?_⟩
      (conv => whnf)
      refine ⟨by rw [List.length_map, List.length_reverse, List.length_singleton]; omega, ?_⟩
      refine ih _ ⟨us, (!a) :: r, rfl, ⟨rfl, rfl, ?_, trivial⟩, hr, hlt', by simp; omega⟩
      rw [rev_bi]
      cases a <;> rfl
    case yes =>
      iterate 6
        (conv => whnf)
        refine ⟨.inl rfl, ?_⟩
      (conv => whnf)
      refine ⟨Nat.le_of_ble_eq_true rfl, ?_⟩
      (conv => whnf)
      refine ⟨len1 _, ?_⟩
      refine ih _ ⟨us, true :: st, rfl, ⟨rfl, rfl, ?_, trivial⟩, hr, hlt', by simp; omega⟩
      rw [rev_bi]
      rfl
    case no =>
      iterate 7
        (conv => whnf)
        refine ⟨.inl rfl, ?_⟩
      (conv => whnf)
      refine ⟨Nat.le_of_ble_eq_true rfl, ?_⟩
      (conv => whnf)
      refine ⟨len1 _, ?_⟩
      refine ih _ ⟨us, false :: st, rfl, ⟨rfl, rfl, ?_, trivial⟩, hr, hlt', by simp; omega⟩
      rw [rev_bi]
      rfl
    case «let» c =>
      have hc := hlt c (.head _)
      have hi : ls.idxOf c < bs.length := by rw [hb]; exact List.idxOf_lt_length_of_mem hc
      iterate 6
        (conv => whnf)
        refine ⟨.inl rfl, ?_⟩
      (conv => whnf)
      rw [show Wd.str (.let c) = SX.S [c] from rfl, find_letter hc]
      refine ⟨by rw [wo_len]; omega, ?_⟩
      rw [wo_at hi]
      (conv => whnf)
      refine ⟨(by decide : (1 : Nat) ≤ 640), ?_⟩
      rw [int_bit]
      (conv => whnf)
      refine ⟨Nat.le_of_ble_eq_true rfl, ?_⟩
      (conv => whnf)
      refine ⟨len1 _, ?_⟩
      refine ih _ ⟨us, bs.getD (ls.idxOf c) false :: st, rfl, ⟨rfl, rfl, ?_, trivial⟩, hr, hlt', by simp; omega⟩
      rw [rev_bi]
      rfl
    all_goals
      rcases st with _ | ⟨b, _ | ⟨a, r⟩⟩
      · simp [stp] at hr
      · simp [stp] at hr
      rw [rev_bi2]
      have hsz : r.length + 1 + 1 + (us.length + 1) ≤ 1000000 := hsz
    · -- and
      iterate 2
        (conv => whnf)
        refine ⟨.inl rfl, ?_⟩
      (conv => whnf)
      rw [cutL_m2, atI_m2]
      (conv => whnf)
      rw [atI_m1']
      (conv => whnf)
      refine ⟨mul_smallL (by cases a <;> decide), ?_⟩
      (conv => whnf)
      refine ⟨Nat.le_of_ble_eq_true rfl, ?_⟩
      (conv => whnf)
      refine ⟨by rw [List.length_map, List.length_reverse, List.length_singleton]; omega, ?_⟩
      refine ih _ ⟨us, (a && b) :: r, rfl, ⟨rfl, rfl, ?_, trivial⟩, hr, hlt', by simp; omega⟩
      rw [rev_bi]
      cases a <;> cases b <;> rfl
    · -- or
      iterate 3
        (conv => whnf)
        refine ⟨.inl rfl, ?_⟩
      (conv => whnf)
      rw [cutL_m2, cutL_m2r]
      (conv => whnf)
      refine ⟨by simp, ?_⟩
      refine max_bi a b ?_
      (conv => whnf)
      refine ⟨Nat.le_of_ble_eq_true rfl, ?_⟩
      (conv => whnf)
      refine ⟨by rw [List.length_map, List.length_reverse, List.length_singleton]; omega, ?_⟩
      refine ih _ ⟨us, (a || b) :: r, rfl, ⟨rfl, rfl, ?_, trivial⟩, hr, hlt', by simp; omega⟩
      rw [rev_bi]
      rfl
    · -- same
      iterate 4
        (conv => whnf)
        refine ⟨.inl rfl, ?_⟩
      (conv => whnf)
      rw [cutL_m2, atI_m2]
      (conv => whnf)
      rw [atI_m1']
      (conv => whnf)
      refine ⟨.inl rfl, ?_⟩
      (conv => whnf)
      refine ⟨Nat.le_of_ble_eq_true rfl, ?_⟩
      (conv => whnf)
      refine ⟨by rw [List.length_map, List.length_reverse, List.length_singleton]; omega, ?_⟩
      refine ih _ ⟨us, (a == b) :: r, rfl, ⟨rfl, rfl, ?_, trivial⟩, hr, hlt', by simp; omega⟩
      rw [rev_bi]
      cases a <;> cases b <;> rfl
  · rintro ρ ⟨us, st, hds, hρ, hr, _⟩
    rw [has_put hρ]
    cases us with
    | cons w us => cases hds
    | nil =>
    cases hr
    (conv => whnf)
    refine ⟨.inl rfl, ?_⟩
    have e2 : PyData.eqv (biP v) (.int 1) = v := by cases v <;> rfl
    have e3 := congrArg (fun b => k (.d (.bool b))) e2
    exact e3.mpr hk
  · exact ⟨ws, [], rfl, ⟨rfl, rfl, rfl, trivial⟩, hrun, hg.ltr, by simpa using hw⟩

theorem sc__law_holds : FnScope ["_law_letters_here", "_law_saying_here", "_law_world", "_law_heap", "_law_word"] ["_law_letters_here", "_law_saying_here", "_law_world"] (defScope st__law_holds) := ⟨rfl, rfl, rfl, by decide +kernel, rfl, by decide +kernel, by decide +kernel⟩
theorem ok__law_holds (A : At K mg "_law_holds" st__law_holds ["_law_letters_here", "_law_saying_here", "_law_world"]) (sr : Sr P base) (z_max : mg "max" = none) (z_int : mg "int" = none) : Def2 P w K mg base "_law_holds" 1 ["_law_letters_here", "_law_saying_here", "_law_world"] 0 3 s_law_holds_2ff681ad := by
  obtain ⟨f, fd, F, hm, hb⟩ := A.ex
  refine ⟨f, fd, fn_ok (k := 0) (m := 0) (wb := w_law_holds_2ff681ad) sr F sc__law_holds rfl (fun cdv A outer sh H E hr hg => ?_) p_law_holds_2ff681ad, hm, F.kp, hb⟩
  exact JSs.cost (jss_cons (js_asg 3 true (je_tup (ja_nil)))
    (jss_cons (js_for (ji_seq (je_var 1)) (jg_name 4) (jss_one (js_if (jt_eq (je_var 4) (je_str)) (jss_one (js_asg 3 true (je_add (je_sl (je_var 3) (jo_none) (jo_some (je_neg (je_int)))) (je_tup (ja_cons (je_sub (je_int) (je_ix (je_var 3) (je_neg (je_int)))) (ja_nil)))))) (jss_one (js_if (jt_eq (je_var 4) (je_str)) (jss_one (js_asg 3 true (je_add (je_sl (je_var 3) (jo_none) (jo_some (je_neg (je_int)))) (je_tup (ja_cons (je_mulX (je_ix (je_var 3) (je_neg (je_int))) (je_ix (je_var 3) (je_neg (je_int)))) (ja_nil)))))) (jss_one (js_if (jt_eq (je_var 4) (je_str)) (jss_one (js_asg 3 true (je_add (je_sl (je_var 3) (jo_none) (jo_some (je_neg (je_int)))) (je_tup (ja_cons (je_maxX z_max (ja_cons (je_sl (je_var 3) (jo_some (je_neg (je_int))) (jo_none)) (ja_nil))) (ja_nil)))))) (jss_one (js_if (jt_eq (je_var 4) (je_str)) (jss_one (js_asg 3 true (je_add (je_sl (je_var 3) (jo_none) (jo_some (je_neg (je_int)))) (je_tup (ja_cons (je_intc z_int (ja_cons (je_eq (je_ix (je_var 3) (je_neg (je_int))) (je_ix (je_var 3) (je_neg (je_int)))) (ja_nil))) (ja_nil)))))) (jss_one (js_if (JW.t (jw_or (jt_eq (je_var 4) (je_str)) (jw_or1 (jt_eq (je_var 4) (je_str))))) (jss_one (js_asg 3 true (je_add (je_var 3) (je_tup (ja_cons (je_intc z_int (ja_cons (je_eq (je_var 4) (je_str)) (ja_nil))) (ja_nil)))))) (jss_one (js_asg 3 true (je_add (je_var 3) (je_tup (ja_cons (je_intc z_int (ja_cons (je_ix (je_var 2) (je_find (je_var 0) (je_var 4))) (ja_nil))) (ja_nil)))))))))))))))))
    (jss_one (js_ret (je_eq (je_ix (je_var 3) (je_int)) (je_int)))))) (by decide)
abbrev st__law_worlds : Stmt := top 21
--USES worlds
def s_law_worlds_e8e07422 : Spec2 := fun xs k _ => ∃ (ls : List Nat) (rs : List (List Wd)), xs = [.d (.tuple [.str (SX.S ls), .tuple (rs.map saD)])] ∧ ls.length ≤ 6 ∧ (∀ c ∈ ls, c < 1114112) ∧ (∀ r ∈ rs, Good ls r ∧ r.length ≤ 1000000) ∧ rs.length ≤ 16777216 ∧ k (.d (.tuple ((worldsOf ls rs).map woD)))
theorem s_law_worlds_e8e07422_0 : ∀ xs k e, s_law_worlds_e8e07422 xs k e → s_law_worlds_e8e07422 xs k fun _ => False := fun _ _ _ h => h

def w_law_worlds_e8e07422_l1 : WS :=
  wSeq (wAsg 5 true (wBin addD (wCB cbStr (wCons (wBin modD (wVar 6) (wC (.int 2))) (wNil))) (wVar 5)))
  (wAsg 6 true (wBin divD (wVar 6) (wC (.int 2))))
def w_law_worlds_e8e07422_r1 : WS :=
  wIf (wTest (wBin eqD (wLc [8] (wSeqI (wVar 2)) (gN 8) (wNot (wTest (wCall s_law_holds_2ff681ad (wCons (wVar 1) (wCons (wVar 8) (wCons (wVar 5) (wNil))))))) (wVar 8)) (wLst (wNil)))) (wDrop (wAppendS 3 (wVar 5))) (wNext)
def w_law_worlds_e8e07422_l2 : WS :=
  wSeq (wAsg 5 true (wC (.str "")))
  (wSeq (wAsg 6 true (wVar 4))
  (wSeq (wFor (wRange (wCons (wCB cbLen (wCons (wVar 1) (wNil))) (wNil))) (gN 7) w_law_worlds_e8e07422_l1)
  (w_law_worlds_e8e07422_r1)))
def w_law_worlds_e8e07422_r2 : WS :=
  wRet (wCB cbTuple (wCons (wVar 3) (wNil)))
def w_law_worlds_e8e07422 : WS :=
  wSeq (wAsgT (gTup2 2 (gCons2 (gN 1) (gCons2 (gN 2) (gNil2)))) (wVar 0))
  (wSeq (wAsg 3 false (wLst (wNil)))
  (wSeq (wFor (wRange (wCons (wBin ixD (wLst (wCons (wC (.int 1)) (wCons (wC (.int 2)) (wCons (wC (.int 4)) (wCons (wC (.int 8)) (wCons (wC (.int 16)) (wCons (wC (.int 32)) (wCons (wC (.int 64)) (wNil))))))))) (wCB cbLen (wCons (wVar 1) (wNil)))) (wNil))) (gN 4) w_law_worlds_e8e07422_l2)
  (w_law_worlds_e8e07422_r2)))

theorem p_law_worlds_e8e07422 : ∀ xs k e, s_law_worlds_e8e07422 xs k e → runB w_law_worlds_e8e07422 xs k fun _ => False := by
  rintro xs k e ⟨ls, rs, rfl, h6, hlow, hg, hr, hk⟩
  (conv => whnf)
  refine ⟨rfl, ?_⟩
  (conv => whnf)
  refine ⟨Nat.le_of_ble_eq_true rfl, ?_⟩
  (conv => whnf)
  refine ⟨Nat.le_of_ble_eq_true rfl, ?_⟩
  (conv => whnf)
  refine ⟨by rw [SX.S_len]; omega, ?_⟩
  (conv => whnf)
  rw [SX.S_len, pows h6]
  have p6 : 2 ^ ls.length ≤ 2 ^ 6 := Nat.pow_le_pow_right (by decide) h6
  have p0 := Int.natCast_nonneg (2 ^ ls.length)
  (conv => whnf)
  refine ⟨⟨by omega, by omega⟩, ?_⟩
  rw [span0, Int.toNat_natCast]
  refine forL_ind (I := fun ds ρ => ∃ (nums : List Nat) (F : List (List Bool)), ds = nums.map (fun (i : Nat) => PyData.int (i : Nat)) ∧ F ++ (nums.map (bitsN ls.length)).filter (fun bs => rs.all fun r => valS ls bs r) = worldsOf ls rs ∧ F.length + nums.length ≤ 64 ∧ has ρ [(1, .d (.str (SX.S ls))), (2, .d (.tuple (rs.map saD))), (3, .own (F.map woD))]) ?_ ?_ _ _ ?_
  · rintro d ds ρ ⟨nums, F, hds, hF, hz, hρ⟩ ih
    rw [has_put hρ]
    cases nums with
    | nil => cases hds
    | cons num nums =>
    rw [List.map_cons] at hds
    cases hds
    have hz : F.length + (nums.length + 1) ≤ 64 := hz
    (conv => whnf)
    refine ⟨by rw [SX.S_len]; omega, ?_⟩
    (conv => whnf)
    rw [SX.S_len]
    refine ⟨⟨by omega, by omega⟩, ?_⟩
    rw [Int.toNat_natCast]
    refine forL_ind (I := fun ds ρ => ∃ (rest : Nat) (acc : List Bool), bitsN ds.length rest ++ acc = bitsN ls.length num ∧ has ρ [(1, .d (.str (SX.S ls))), (2, .d (.tuple (rs.map saD))), (3, .own (F.map woD)), (5, .d (woD acc)), (6, .d (.int rest))]) ?_ ?_ _ _ ?_
    · clear hρ
      rintro d ds ρ ⟨rest, acc, hb, hρ⟩ ih
      rw [has_put hρ]
      have hb : bitsN (ds.length + 1) rest ++ acc = bitsN ls.length num := hb
      have hlen := congrArg List.length hb
      rw [List.length_append, bitsN_len, bitsN_len] at hlen
      (conv => whnf)
      refine ⟨by decide, ?_⟩
      (conv => whnf)
      refine ⟨?_, ?_⟩
      · refine Nat.lt_of_le_of_lt (Nat.log2_le_self _) ?_
        omega
      rw [str_bit]
      (conv => whnf)
      refine ⟨?_, ?_⟩
      · rw [wo_len]
        show 1 + acc.length ≤ _
        omega
      rw [woS_cons]
      (conv => whnf)
      refine ⟨by decide, ?_⟩
      refine ih _ ⟨rest / 2, (rest % 2 == 1) :: acc, ?_, rfl, rfl, rfl, rfl, rfl, trivial⟩
      rw [← hb]
      show _ = (bitsN ds.length (rest / 2) ++ [rest % 2 == 1]) ++ acc
      rw [List.append_assoc]; rfl
    · clear hρ
      rintro ρ ⟨rest, acc, hb, hρ⟩
      rw [has_put hρ]
      have hb : acc = bitsN ls.length num := hb
      have hlen : acc.length = ls.length := by rw [hb, bitsN_len]
      (conv => whnf)
      refine ⟨by rw [List.length_map]; omega, ?_⟩
      refine lcL_ind (I := fun ds out => ∃ (us : List (List Wd)) (bad : List (List Wd)), ds = us.map saD ∧ (∀ r ∈ us, r ∈ rs) ∧ (∀ r ∈ bad, r ∈ rs) ∧ out = bad.map saD ∧ (bad.isEmpty && (us.all fun r => valS ls acc r)) = (rs.all fun r => valS ls acc r)) ?_ ?_ _ _ ?_
      · rintro d ds out ⟨us, bad, hds, hu, hbd, rfl, hall⟩ ih
        cases us with
        | nil => cases hds
        | cons r us =>
        rw [List.map_cons] at hds
        cases hds
        have g := hg r (hu r (.head _))
        have hu' : ∀ x ∈ us, x ∈ rs := fun x hx => hu x (.tail _ hx)
        (conv => whnf)
        refine ⟨ls, acc, r, rfl, g.1, hlen, by omega, g.2, ?_⟩
        rw [List.all_cons] at hall
        cases hv : valS ls acc r with
        | false =>
          rw [hv] at hall
          (conv => whnf)
          refine ⟨rfl, ?_⟩
          (conv => whnf)
          refine ⟨rfl, ?_⟩
          refine ih _ ⟨us, bad ++ [r], rfl, hu', fun x hx => ?_, by rw [List.map_append]; rfl, ?_⟩
          · rcases List.mem_append.mp hx with z | z
            · exact hbd x z
            · rw [List.mem_singleton.mp z]; exact hu r (.head _)
          · rw [← hall]
            cases bad <;> simp
        | true =>
          rw [hv] at hall
          (conv => whnf)
          refine ⟨rfl, ?_⟩
          (conv => whnf)
          refine ih _ ⟨us, bad, rfl, hu', hbd, rfl, ?_⟩
          rw [← hall]; simp
      · rintro out ⟨us, bad, hds, _, hbd, rfl, hall⟩
        cases us with
        | cons r us => cases hds
        | nil =>
        have hall : (bad.isEmpty && true) = rs.all fun r => valS ls acc r := hall
        rw [Bool.and_true] at hall
        rw [List.map_cons, ← hb, List.filter_cons, ← hall] at hF
        have tb : Tame 2 (.list (bad.map saD)) := tame_list fun d hd => by
          obtain ⟨r, hr, rfl⟩ := List.mem_map.mp hd
          exact tame_sa hlow (hg r (hbd r hr)).1.ltr
        (conv => whnf)
        refine ⟨Nat.le_of_ble_eq_true rfl, ?_⟩
        (conv => whnf)
        refine ⟨.inr ⟨tb.shaped (by decide), (tame_nil (n := 0)).shaped (by decide)⟩, ?_⟩
        (conv => whnf)
        refine iteI (fun c => ?_) (fun c => ?_)
        · have c : PyData.eqv (.list (bad.map saD)) (.list []) = true := c
          rw [eqv_nil, List.isEmpty_map] at c
          rw [c, if_pos rfl] at hF
          (conv => whnf)
          refine ⟨by rw [List.length_map]; omega, ?_⟩
          refine ih _ ⟨nums, F ++ [acc], rfl, ?_, ?_, rfl, rfl, ?_, trivial⟩
          · rw [List.append_assoc]; exact hF
          · rw [List.length_append, List.length_singleton]; omega
          · show some (X2.own (F.map woD ++ [woD acc])) = _
            rw [List.map_append]; rfl
        · have c : ¬ PyData.eqv (.list (bad.map saD)) (.list []) = true := c
          rw [eqv_nil, List.isEmpty_map] at c
          rw [Bool.eq_false_iff.mpr c, if_neg Bool.false_ne_true] at hF
          exact ih _ ⟨nums, F, rfl, hF, by omega, rfl, rfl, rfl, trivial⟩
      · exact ⟨rs, [], rfl, fun _ h => h, fun _ h => (List.not_mem_nil h).elim, rfl, rfl⟩
    · refine ⟨num, [], ?_, rfl, rfl, rfl, rfl, rfl, trivial⟩
      rw [span_len, List.append_nil]
  · rintro ρ ⟨nums, F, hds, hF, hz, hρ⟩
    rw [has_put hρ]
    cases nums with
    | cons _ _ => cases hds
    | nil =>
    rw [List.map_nil, List.filter_nil, List.append_nil] at hF
    rw [← hF] at hk
    exact hk
  · refine ⟨List.range (2 ^ ls.length), [], rfl, rfl, ?_, rfl, rfl, rfl, trivial⟩
    rw [List.length_range]; simpa using p6

theorem sc__law_worlds : FnScope ["_law_house_here", "_law_letters_here", "_law_rules", "_law_found", "_law_number", "_law_world", "_law_rest", "_law_place", "_law_rule"] ["_law_house_here"] (defScope st__law_worlds) := ⟨rfl, rfl, rfl, by decide +kernel, rfl, by decide +kernel, by decide +kernel⟩
theorem ok__law_worlds (A : At K mg "_law_worlds" st__law_worlds ["_law_house_here"]) (sr : Sr P base) (d__law_holds : Def2 P w K mg base "_law_holds" 1 ["_law_letters_here", "_law_saying_here", "_law_world"] 0 3 s_law_holds_2ff681ad) (z_len : mg "len" = none) (z_range : mg "range" = none) (z_str : mg "str" = none) (z_tuple : mg "tuple" = none) : Def2 P w K mg base "_law_worlds" 2 ["_law_house_here"] 0 1 s_law_worlds_e8e07422 := by
  obtain ⟨f, fd, F, hm, hb⟩ := A.ex
  refine ⟨f, fd, fn_ok (k := 1) (m := 0) (wb := w_law_worlds_e8e07422) sr F sc__law_worlds rfl (fun cdv A outer sh H E hr hg => ?_) p_law_worlds_e8e07422, hm, F.kp, hb⟩
  exact JSs.cost (jss_cons (js_asgT (je_var 0) (jg_tup (jgs_cons (jg_name 1) (jgs_cons (jg_name 2) (jgs_nil)))))
    (jss_cons (js_asg 3 false (je_lst (ja_nil)))
    (jss_cons (js_for (ji_range1 z_range (ja_cons (je_ix (je_lst (ja_cons (je_int) (ja_cons (je_int) (ja_cons (je_int) (ja_cons (je_int) (ja_cons (je_int) (ja_cons (je_int) (ja_cons (je_int) (ja_nil))))))))) (je_len z_len (ja_cons (je_var 1) (ja_nil)))) (ja_nil))) (jg_name 4) (jss_cons (js_asg 5 true (je_str))
    (jss_cons (js_asg 6 true (je_var 4))
    (jss_cons (js_for (ji_range1 z_range (ja_cons (je_len z_len (ja_cons (je_var 1) (ja_nil))) (ja_nil))) (jg_name 7) (jss_cons (js_asg 5 true (je_add (je_strc z_str (ja_cons (je_mod (je_var 6) (je_int)) (ja_nil))) (je_var 5)))
    (jss_one (js_asg 6 true (je_div (je_var 6) (je_int))))))
    (jss_one (js_if (jt_eq (je_lc [("_law_rule", 8)] (ji_seq (je_var 2)) (by kernel_rfl) (jg_name 8) (jts_one (jt_not (jt_val (je_callD d__law_holds s_law_holds_2ff681ad_0 (ja_cons (je_var 1) (ja_cons (je_var 8) (ja_cons (je_var 5) (ja_nil)))))))) (je_var 8)) (je_lst (ja_nil))) (jss_one (js_expr (je_append 3 (je_var 5)))) (jss_nil)))))))
    (jss_one (js_ret (je_tuplec z_tuple (ja_cons (je_var 3) (ja_nil)))))))) (by decide)
abbrev st__law_house : Stmt := top 22
--USES order
def s_law_house_7e3c063c : Spec2 := fun xs k _ => ∃ m : Int, xs = [.drw, .d (.int m)] ∧ 1 ≤ m ∧ m ≤ 6 ∧ ∀ (ls : List Nat) (rs : List (List Wd)), House ls rs → (ls.length : Int) ≤ m → rs.length ≤ 3 → (∀ r ∈ rs, r.length ≤ 14) → k (.d (hoD ls rs))
theorem s_law_house_7e3c063c_0 : ∀ xs k e, s_law_house_7e3c063c xs k e → s_law_house_7e3c063c xs k fun _ => False := fun _ _ _ h => h

def w_law_house_7e3c063c_l1 : WS :=
  wSeq (wAsg 5 true (wCall s_law_saying_10961deb (wCons (wVar 0) (wCons (wVar 2) (wCons (wC (.int 4)) (wNil))))))
  (wIf (wTest (wBin neD (wCall s_law_worlds_e8e07422 (wCons (wTup (wCons (wVar 2) (wCons (wBin addD (wVar 3) (wTup (wCons (wVar 5) (wNil)))) (wNil)))) (wNil))) (wTup (wNil)))) (wAsg 3 true (wBin addD (wVar 3) (wTup (wCons (wVar 5) (wNil))))) (wNext))
def w_law_house_7e3c063c_r1 : WS :=
  wRet (wTup (wCons (wVar 2) (wCons (wVar 3) (wNil))))
def w_law_house_7e3c063c : WS :=
  wSeq (wAsg 2 true (wCall s_law_letters_0b4e421b (wCons (wVar 0) (wCons (wVar 1) (wNil)))))
  (wSeq (wAsg 3 true (wTup (wNil)))
  (wSeq (wFor (wRange (wCons (wCall s_next (wCons (wVar 0) (wCons (wC (.int 4)) (wNil)))) (wNil))) (gN 4) w_law_house_7e3c063c_l1)
  (w_law_house_7e3c063c_r1)))

theorem p_law_house_7e3c063c : ∀ xs k e, s_law_house_7e3c063c xs k e → runB w_law_house_7e3c063c xs k fun _ => False := by
  rintro xs k e ⟨m, rfl, h1, h2, hk⟩
  (conv => whnf)
  refine ⟨m, rfl, h1, by omega, fun ls hL hm => ?_⟩
  (conv => whnf)
  refine ⟨Nat.le_of_ble_eq_true rfl, ?_⟩
  (conv => whnf)
  refine ⟨_, rfl, by decide, by decide +kernel, fun j j0 j1 => ?_⟩
  (conv => whnf)
  refine ⟨⟨by omega, by omega⟩, ?_⟩
  refine forL_ind (I := fun ds ρ => ∃ rs : List (List Wd), rs.length + ds.length ≤ 3 ∧ (∀ r ∈ rs, Good ls r ∧ r.length ≤ 14) ∧ worldsOf ls rs ≠ [] ∧ has ρ [(0, .drw), (2, .d (.str (SX.S ls))), (3, .d (.tuple (rs.map saD)))]) ?_ ?_ _ _ ?_
  · rintro d ds ρ ⟨rs, hz, hg, hlv, hρ⟩ ih
    rw [has_put hρ]
    have hz : rs.length + (ds.length + 1) ≤ 3 := hz
    (conv => whnf)
    refine ⟨ls, 4, rfl, hL.ne, by omega, by decide, by decide, fun ws gw lw => ?_⟩
    have e1 : PyData.tuple (rs.map saD ++ [saD ws]) = .tuple ((rs ++ [ws]).map saD) := by rw [List.map_append]; rfl
    have hg2 : ∀ r ∈ rs ++ [ws], Good ls r ∧ r.length ≤ 14 := fun r hr => by
      rcases List.mem_append.mp hr with z | z
      · exact hg r z
      · rw [List.mem_singleton.mp z]; exact ⟨gw, by omega⟩
    (conv => whnf)
    refine ⟨Nat.le_of_ble_eq_true rfl, ?_⟩
    (conv => whnf)
    refine ⟨by rw [List.length_map, List.length_singleton]; omega, ?_⟩
    rw [e1]
    (conv => whnf)
    refine ⟨Nat.le_of_ble_eq_true rfl, ?_⟩
    (conv => whnf)
    refine ⟨ls, rs ++ [ws], rfl, by omega, hL.low, fun r hr => ⟨(hg2 r hr).1, by have := (hg2 r hr).2; omega⟩, by rw [List.length_append, List.length_singleton]; omega, ?_⟩
    (conv => whnf)
    refine ⟨Nat.le_of_ble_eq_true rfl, ?_⟩
    (conv => whnf)
    refine ⟨.inr ⟨(tame_wos (n := 0) _).shaped (by decide), (tame_niT (n := 0)).shaped (by decide)⟩, ?_⟩
    (conv => whnf)
    rw [eqv_nilT]
    refine iteI (fun h => ?_) (fun h => ?_)
    · have hne : worldsOf ls (rs ++ [ws]) ≠ [] := by
        intro z
        rw [z] at h
        exact absurd h (by decide)
      (conv => whnf)
      refine ⟨Nat.le_of_ble_eq_true rfl, ?_⟩
      (conv => whnf)
      refine ⟨by rw [List.length_map, List.length_singleton]; omega, ?_⟩
      refine ih _ ⟨rs ++ [ws], by rw [List.length_append, List.length_singleton]; omega, hg2, hne, rfl, rfl, ?_, trivial⟩
      exact congrArg (fun d => some (X2.d d)) e1
    · (conv => whnf)
      exact ih _ ⟨rs, by omega, hg, hlv, rfl, rfl, rfl, trivial⟩
  · rintro ρ ⟨rs, hz, hg, hlv, hρ⟩
    rw [has_put hρ]
    have hz : rs.length + 0 ≤ 3 := hz
    (conv => whnf)
    refine ⟨Nat.le_of_ble_eq_true rfl, ?_⟩
    exact hk ls rs ⟨hL, by omega, fun r hr => ⟨(hg r hr).1, by have := (hg r hr).2; omega⟩, by omega, hlv⟩ hm (by omega) fun r hr => (hg r hr).2
  · refine ⟨[], by rw [span_len]; simp; omega, fun r h => (List.not_mem_nil h).elim, by rw [worlds0]; exact allW_ne _, rfl, rfl, rfl, trivial⟩

theorem sc__law_house : FnScope ["_law_drawn", "_law_most", "_law_letters_here", "_law_rules", "_law_k", "_law_rule"] ["_law_drawn", "_law_most"] (defScope st__law_house) := ⟨rfl, rfl, rfl, by decide +kernel, rfl, by decide +kernel, by decide +kernel⟩
theorem ok__law_house (A : At K mg "_law_house" st__law_house ["_law_drawn", "_law_most"]) (sr : Sr P base) (d__law_letters : Def2 P w K mg base "_law_letters" 2 ["_law_drawn", "_law_most"] 4611686018427387905 2 s_law_letters_0b4e421b) (d__law_next : Def2 P w K mg base "_law_next" 1 ["_law_drawn", "_law_many"] 1 2 s_next) (d__law_saying : Def2 P w K mg base "_law_saying" 2 ["_law_drawn", "_law_letters_here", "_law_leaves"] 23058430092136939521 3 s_law_saying_10961deb) (d__law_worlds : Def2 P w K mg base "_law_worlds" 2 ["_law_house_here"] 0 1 s_law_worlds_e8e07422) (z_range : mg "range" = none) : Def2 P w K mg base "_law_house" 3 ["_law_drawn", "_law_most"] 106338239662793269841527936859282341890 2 s_law_house_7e3c063c := by
  obtain ⟨f, fd, F, hm, hb⟩ := A.ex
  refine ⟨f, fd, fn_ok (k := 2) (m := 106338239662793269841527936859282341890) (wb := w_law_house_7e3c063c) sr F sc__law_house rfl (fun cdv A outer sh H E hr hg => ?_) p_law_house_7e3c063c, hm, F.kp, hb⟩
  exact JSs.cost (jss_cons (js_asg 2 true (je_callD d__law_letters s_law_letters_0b4e421b_0 (ja_cons (je_var 0) (ja_cons (je_var 1) (ja_nil)))))
    (jss_cons (js_asg 3 true (je_tup (ja_nil)))
    (jss_cons (js_for (ji_range1 z_range (ja_cons (je_callD d__law_next s_next_0 (ja_cons (je_var 0) (ja_cons (je_int) (ja_nil)))) (ja_nil))) (jg_name 4) (jss_cons (js_asg 5 true (je_callD d__law_saying s_law_saying_10961deb_0 (ja_cons (je_var 0) (ja_cons (je_var 2) (ja_cons (je_int) (ja_nil))))))
    (jss_one (js_if (jt_ne (je_callD d__law_worlds s_law_worlds_e8e07422_0 (ja_cons (je_tup (ja_cons (je_var 2) (ja_cons (je_add (je_var 3) (je_tup (ja_cons (je_var 5) (ja_nil)))) (ja_nil)))) (ja_nil))) (je_tup (ja_nil))) (jss_one (js_asg 3 true (je_add (je_var 3) (je_tup (ja_cons (je_var 5) (ja_nil)))))) (jss_nil)))))
    (jss_one (js_ret (je_tup (ja_cons (je_var 2) (ja_cons (je_var 3) (ja_nil))))))))) (by decide)
abbrev st__law_is_saying : Stmt := top 23
--USES isay
def s_law_is_saying_7c7558f3 : Spec2 := fun xs k _ => ∃ (ls : List Nat) (d : PyData), xs = [.d (.str (SX.S ls)), .d d] ∧ (∀ ds, d = .tuple ds → ∀ s, PyData.str s ∈ ds → s.length ≤ 16777216) ∧ k (.d (.bool (sayB ls d)))
theorem s_law_is_saying_7c7558f3_0 : ∀ xs k e, s_law_is_saying_7c7558f3 xs k e → s_law_is_saying_7c7558f3 xs k fun _ => False := fun _ _ _ h => h

def w_law_is_saying_7c7558f3_r1 : WS :=
  wIf (wOr (wTest (wBin eqD (wVar 3) (wC (.str "yes")))) (wOr (wTest (wBin eqD (wVar 3) (wC (.str "no")))) (wAnd (wTest (wBin eqD (wCB cbLen (wCons (wVar 3) (wNil))) (wC (.int 1)))) (wTest (wBin (inD false) (wVar 3) (wVar 0)))))) (wAsg 2 true (wBin addD (wVar 2) (wC (.int 1)))) (wIf (wOr (wTest (wBin eqD (wVar 3) (wC (.str "and")))) (wOr (wTest (wBin eqD (wVar 3) (wC (.str "or")))) (wTest (wBin eqD (wVar 3) (wC (.str "same")))))) (wSeq (wAsg 2 true (wBin subD (wVar 2) (wC (.int 1))))
  (wIf (wTest (wBin ltD (wVar 2) (wC (.int 1)))) (wRet (wC (.bool false))) (wNext))) (wIf (wOr (wTest (wBin neD (wVar 3) (wC (.str "not")))) (wTest (wBin ltD (wVar 2) (wC (.int 1))))) (wRet (wC (.bool false))) (wNext)))
def w_law_is_saying_7c7558f3_l1 : WS :=
  wSeq (wIf (wNot (wTest (wIsi "str" (wVar 3)))) (wRet (wC (.bool false))) (wNext))
  (w_law_is_saying_7c7558f3_r1)
def w_law_is_saying_7c7558f3_r2 : WS :=
  wRet (wBin eqD (wVar 2) (wC (.int 1)))
def w_law_is_saying_7c7558f3_r3 : WS :=
  wSeq (wAsg 2 true (wC (.int 0)))
  (wSeq (wFor (wSeqI (wVar 1)) (gN 3) w_law_is_saying_7c7558f3_l1)
  (w_law_is_saying_7c7558f3_r2))
def w_law_is_saying_7c7558f3 : WS :=
  wSeq (wIf (wOr (wNot (wTest (wIsi "tuple" (wVar 1)))) (wNot (wTest (wChain leD leD (wC (.int 1)) (wCB cbLen (wCons (wVar 1) (wNil))) (wC (.int 40)))))) (wRet (wC (.bool false))) (wNext))
  (w_law_is_saying_7c7558f3_r3)

theorem p_law_is_saying_7c7558f3 : ∀ xs k e, s_law_is_saying_7c7558f3 xs k e → runB w_law_is_saying_7c7558f3 xs k fun _ => False := by
  rintro xs k e ⟨ls, d, rfl, hs, hk⟩
  cases d
  case tuple ds =>
    have hs := hs ds rfl
    have hk : k (.d (.bool (decide (1 ≤ ds.length ∧ ds.length ≤ 40) && goS ls ds 0))) := hk
    (conv => whnf)
    refine iteI (fun h1 => ?_) (fun h1 => ?_)
    · have h1 := of_decide_eq_true h1
      (conv => whnf)
      refine iteI (fun h2 => ?_) (fun h2 => ?_)
      · have h2 : (!decide ((ds.length : Int) ≤ 40)) = true := h2
        have h2 : decide ((ds.length : Int) ≤ 40) = false := by simpa using h2
        have h2 := of_decide_eq_false h2
        rw [decide_eq_false (show ¬ (1 ≤ ds.length ∧ ds.length ≤ 40) by omega), Bool.false_and] at hk
        exact hk
      · have h2 : ¬ (!decide ((ds.length : Int) ≤ 40)) = true := h2
        have h2 : decide ((ds.length : Int) ≤ 40) = true := by simpa using h2
        have h2 := of_decide_eq_true h2
        rw [decide_eq_true (show 1 ≤ ds.length ∧ ds.length ≤ 40 by omega), Bool.true_and] at hk
        (conv => whnf)
        refine forL_ind (I := fun ds ρ => ∃ h : Int, 0 ≤ h ∧ (∀ s, PyData.str s ∈ ds → s.length ≤ 16777216) ∧ k (.d (.bool (goS ls ds h))) ∧ has ρ [(0, .d (.str (SX.S ls))), (2, .d (.int h))]) ?_ ?_ _ _ ?_
        · rintro d ds ρ ⟨p, h0, hs, hk, hρ⟩ ih
          rw [has_put hρ]
          cases d
          case str s =>
            have hl := hs s (.head _)
            have hs' : ∀ s, PyData.str s ∈ ds → s.length ≤ 16777216 := fun t ht => hs t (.tail _ ht)
            by_cases hw : 0 ≤ wantS ls s
            · obtain ⟨w, rfl, hwl, hwn⟩ := wantS_inv hw
              have go : ∀ n : Nat, wantS ls w.str = (n : Nat) → (n : Int) ≤ p → k (.d (.bool (goS ls ds (p - n + 1)))) := fun n e l => by rw [goS_ok e l] at hk; exact hk
              have no : ∀ n : Nat, wantS ls w.str = (n : Nat) → p < (n : Int) → k (.d (.bool false)) := fun n e l => by rw [goS_few e l] at hk; exact hk
              cases w
              case «let» c =>
                (walk_at "bk S")
                first | refine iteY' ?_ ?_ | refine recY ?_ ?_
                · exact (SX.in_one ls c).trans (decide_eq_true (hwl c rfl))
                (walk_at "bk S")
                exact ih _ ⟨p + 1, by omega, hs', by have := go 0 hwn (by omega); rw [show p - ((0 : Nat) : Int) + 1 = p + 1 by omega] at this; exact this, rfl, rfl, trivial⟩
              all_goals (walk_at "bk S")
              · exact ih _ ⟨p + 1, by omega, hs', by have := go 0 hwn (by omega); rw [show p - ((0 : Nat) : Int) + 1 = p + 1 by omega] at this; exact this, rfl, rfl, trivial⟩
              · exact ih _ ⟨p + 1, by omega, hs', by have := go 0 hwn (by omega); rw [show p - ((0 : Nat) : Int) + 1 = p + 1 by omega] at this; exact this, rfl, rfl, trivial⟩
              · (first | refine iteI (fun h => ?_) (fun h => ?_) | refine recI (fun h => ?_) (fun h => ?_))
                · have q := h
                  exact no 1 hwn (by have := of_decide_eq_true q; omega)
                · have q := h
                  have q : ¬ p < 1 := fun z => q (decide_eq_true z)
                  (walk_at "bk S")
                  exact ih _ ⟨p, by omega, hs', by have := go 1 hwn (by omega); rw [show p - ((1 : Nat) : Int) + 1 = p by omega] at this; exact this, rfl, rfl, trivial⟩
              all_goals
                (first | refine iteI (fun h => ?_) (fun h => ?_) | refine recI (fun h => ?_) (fun h => ?_))
                · have q := h
                  exact no 2 hwn (by have := of_decide_eq_true q; omega)
                · have q := h
                  have q : ¬ p - 1 < 1 := fun z => q (decide_eq_true z)
                  (walk_at "bk S")
                  exact ih _ ⟨p - 1, by omega, hs', by have := go 2 hwn (by omega); rw [show p - ((2 : Nat) : Int) + 1 = p - 1 by omega] at this; exact this, rfl, rfl, trivial⟩
            · have nl : ∀ w : Wd, (∀ c, w ≠ .let c) → ¬ PyData.eqv (.str s) (.str w.str) = true := fun w hw' => Bool.eq_false_iff.mp <| eqv_ne (want_no hw w fun c e => absurd e (hw' c))
              have e1 := nl .yes (by simp)
              have e2 := nl .no (by simp)
              have e3 := nl .and (by simp)
              have e4 := nl .or (by simp)
              have e5 := nl .same (by simp)
              have e6 := nl .neg (by simp)
              rw [goS_no hw] at hk
              (conv => whnf)
              refine ⟨.inl rfl, ?_⟩
              (conv => whnf)
              first | refine iteN' ?_ ?_ | refine recN ?_ ?_
              · exact e1
              (conv => whnf)
              refine ⟨.inl rfl, ?_⟩
              (conv => whnf)
              first | refine iteN' ?_ ?_ | refine recN ?_ ?_
              · exact e2
              (conv => whnf)
              refine ⟨hl, ?_⟩
              (conv => whnf)
              refine ⟨.inl rfl, ?_⟩
              (conv => whnf)
              rw [eqv_int]
              refine iteI (fun q => ?_) (fun q => ?_)
              · have q : s.length = 1 := by
                  have := eq_of_beq q
                  omega
                obtain ⟨c, rfl⟩ := one_str q
                (walk_at "bk S")
                first | refine iteN' ?_ ?_ | refine recN ?_ ?_
                · exact Bool.eq_false_iff.mp ((SX.in_one ls c).trans (decide_eq_false (want_letter hw)))
                (walk_at "bk S")
                exact hk
              · (conv => whnf)
                refine ⟨.inl rfl, ?_⟩
                (conv => whnf)
                first | refine iteN' ?_ ?_ | refine recN ?_ ?_
                · exact e3
                (conv => whnf)
                refine ⟨.inl rfl, ?_⟩
                (conv => whnf)
                first | refine iteN' ?_ ?_ | refine recN ?_ ?_
                · exact e4
                (conv => whnf)
                refine ⟨.inl rfl, ?_⟩
                (conv => whnf)
                first | refine iteN' ?_ ?_ | refine recN ?_ ?_
                · exact e5
                (conv => whnf)
                refine ⟨.inl rfl, ?_⟩
                (conv => whnf)
                first | refine iteY' ?_ ?_ | refine recY ?_ ?_
                · rw [show PyData.eqv (.str s) (.str "not") = false from Bool.eq_false_iff.mpr e6]; rfl
                (walk_at "bk S")
                exact hk
          all_goals exact hk
        · rintro ρ ⟨h, _, _, hk, hρ⟩
          rw [has_put hρ]
          (conv => whnf)
          refine ⟨.inl rfl, ?_⟩
          have e3 := congrArg (fun b => k (.d (.bool b))) (eqv_int h 1)
          exact e3.mpr hk
        · exact ⟨0, Int.le_refl 0, hs, hk, rfl, rfl, trivial⟩
    · have h1 := of_decide_eq_false (Bool.eq_false_iff.mpr h1)
      rw [decide_eq_false (show ¬ (1 ≤ ds.length ∧ ds.length ≤ 40) by omega), Bool.false_and] at hk
      exact hk
  all_goals exact hk

theorem sc__law_is_saying : FnScope ["_law_letters_here", "_law_thing", "_law_high", "_law_word"] ["_law_letters_here", "_law_thing"] (defScope st__law_is_saying) := ⟨rfl, rfl, rfl, by decide +kernel, rfl, by decide +kernel, by decide +kernel⟩
theorem ok__law_is_saying (A : At K mg "_law_is_saying" st__law_is_saying ["_law_letters_here", "_law_thing"]) (sr : Sr P base) (z_isinstance : mg "isinstance" = none) (z_tuple : mg "tuple" = none) (z_len : mg "len" = none) (z_str : mg "str" = none) : Def2 P w K mg base "_law_is_saying" 1 ["_law_letters_here", "_law_thing"] 0 2 s_law_is_saying_7c7558f3 := by
  obtain ⟨f, fd, F, hm, hb⟩ := A.ex
  refine ⟨f, fd, fn_ok (k := 0) (m := 0) (wb := w_law_is_saying_7c7558f3) sr F sc__law_is_saying rfl (fun cdv A outer sh H E hr hg => ?_) p_law_is_saying_7c7558f3, hm, F.kp, hb⟩
  exact JSs.cost (jss_cons (js_if (JW.t (jw_or (jt_not (jt_val (je_isi z_isinstance z_tuple (by decide +kernel) kit_tuple (je_var 1)))) (jw_or1 (jt_not (jt_leLe (je_int) (je_len z_len (ja_cons (je_var 1) (ja_nil))) (je_int)))))) (jss_one (js_ret (je_bl))) (jss_nil))
    (jss_cons (js_asg 2 true (je_int))
    (jss_cons (js_for (ji_seq (je_var 1)) (jg_name 3) (jss_cons (js_if (jt_not (jt_val (je_isi z_isinstance z_str (by decide +kernel) kit_str (je_var 3)))) (jss_one (js_ret (je_bl))) (jss_nil))
    (jss_one (js_if (JW.t (jw_or (jt_eq (je_var 3) (je_str)) (jw_or (jt_eq (je_var 3) (je_str)) (jw_or1 (JW.t (jw_and (jt_eq (je_len z_len (ja_cons (je_var 3) (ja_nil))) (je_int)) (jw_and1 (jt_in (je_var 3) (je_var 0))))))))) (jss_one (js_asg 2 true (je_add (je_var 2) (je_int)))) (jss_one (js_if (JW.t (jw_or (jt_eq (je_var 3) (je_str)) (jw_or (jt_eq (je_var 3) (je_str)) (jw_or1 (jt_eq (je_var 3) (je_str)))))) (jss_cons (js_asg 2 true (je_sub (je_var 2) (je_int)))
    (jss_one (js_if (jt_lt (je_var 2) (je_int)) (jss_one (js_ret (je_bl))) (jss_nil)))) (jss_one (js_if (JW.t (jw_or (jt_ne (je_var 3) (je_str)) (jw_or1 (jt_lt (je_var 2) (je_int))))) (jss_one (js_ret (je_bl))) (jss_nil)))))))))
    (jss_one (js_ret (je_eq (je_var 2) (je_int))))))) (by decide)
abbrev st__law_are_letters : Stmt := top 24
--USES house7
def s_law_are_letters_ab07542e : Spec2 := fun xs k _ => ∃ d : PyData, xs = [.d d] ∧ (∀ s, d = .str s → s.length ≤ 16777216) ∧ k (.d (.bool (lettersB d)))
theorem s_law_are_letters_ab07542e_0 : ∀ xs k e, s_law_are_letters_ab07542e xs k e → s_law_are_letters_ab07542e xs k fun _ => False := fun _ _ _ h => h

def w_law_are_letters_ab07542e_r1 : WS :=
  wSeq (wAsg 1 true (wLc [2] (wSeqI (wVar 0)) (gN 2) (wYes) (wM1 findD (wC (.str "abcdefghijklmnopqrstuvwxyz")) (wVar 2))))
  (wRet (wAndV (wBin geD (wCB minX (wCons (wVar 1) (wNil))) (wC (.int 0))) (wBin eqD (wVar 1) (wSortSet (wVar 1)))))
def w_law_are_letters_ab07542e : WS :=
  wSeq (wIf (wOr (wNot (wTest (wIsi "str" (wVar 0)))) (wNot (wTest (wChain leD leD (wC (.int 1)) (wCB cbLen (wCons (wVar 0) (wNil))) (wC (.int 6)))))) (wRet (wC (.bool false))) (wNext))
  (w_law_are_letters_ab07542e_r1)

theorem p_law_are_letters_ab07542e : ∀ xs k e, s_law_are_letters_ab07542e xs k e → runB w_law_are_letters_ab07542e xs k fun _ => False := by
  rintro xs k e ⟨d, rfl, hs, hk⟩
  cases d
  case str s =>
    have hs := hs s rfl
    have hk : k (.d (.bool (decide (1 ≤ s.length ∧ s.length ≤ 6) && goL none s.cps.toList))) := hk
    have hlen : s.length = s.cps.toList.length := by rw [Array.length_toList]; rfl
    (conv => whnf)
    refine ⟨hs, ?_⟩
    (conv => whnf)
    refine iteI (fun h1 => ?_) (fun h1 => ?_)
    · have h1 := of_decide_eq_true h1
      (conv => whnf)
      refine iteI (fun h2 => ?_) (fun h2 => ?_)
      · have h2 : (!decide ((s.length : Int) ≤ 6)) = true := h2
        have h2 : decide ((s.length : Int) ≤ 6) = false := by simpa using h2
        have h2 := of_decide_eq_false h2
        rw [decide_eq_false (show ¬ (1 ≤ s.length ∧ s.length ≤ 6) by omega), Bool.false_and] at hk
        exact hk
      · have h2 : ¬ (!decide ((s.length : Int) ≤ 6)) = true := h2
        have h2 : decide ((s.length : Int) ≤ 6) = true := by simpa using h2
        have h2 := of_decide_eq_true h2
        rw [decide_eq_true (show 1 ≤ s.length ∧ s.length ≤ 6 by omega), Bool.true_and] at hk
        (walk_at "bk T")
        refine ⟨by show (s.cps.toList.map _).length ≤ _; rw [List.length_map]; omega, ?_⟩
        refine lcL_map (enc := fun c => PyData.str ⟨#[c]⟩) (g := fun c => PyData.int (placeZ c)) s.cps.toList rfl (fun c hc R h => ?_) ?_
        · (walk_at "bk T")
          rw [find_one]
          exact h
        rw [show (s.cps.toList.map fun c => PyData.int (placeZ c)) = (s.cps.toList.map placeZ).map PyData.int by rw [List.map_map]; rfl]
        have hp : 0 < (s.cps.toList.map placeZ).length := by rw [List.length_map]; omega
        have h6 : (s.cps.toList.map placeZ).length < 64 := by rw [List.length_map]; omega
        have ht : ∀ {M : Int} {ms : List Int}, M ∈ s.cps.toList.map placeZ → (∀ y ∈ s.cps.toList.map placeZ, M ≤ y) → ms.Pairwise (· < ·) → (∀ j, j ∈ ms ↔ j ∈ s.cps.toList.map placeZ) → goL none s.cps.toList = (decide (0 ≤ M) && decide (s.cps.toList.map placeZ = ms)) := place_tell
        have hb : ∀ {M : Int}, M ∈ s.cps.toList.map placeZ → ¬ 0 ≤ M → goL none s.cps.toList = false := place_bad
        generalize s.cps.toList.map placeZ = ns at *
        generalize goL none s.cps.toList = v at *
        (walk_at "bk T")
        rw [allInts_map]
        refine ⟨hp, fun M hM hmin => ?_⟩
        by_cases h0 : 0 ≤ M
        · (walk_at "bk T")
          first | refine iteY' ?_ ?_ | refine recY ?_ ?_
          · exact decide_eq_true h0
          (walk_at "bk T")
          rw [allInts_map]
          refine ⟨h6, fun ms q1 q2 => ?_⟩
          (walk_at "bk T")
          have e1 : PyData.eqv (.list (ns.map PyData.int)) (.list (ms.map PyData.int)) = decide (ns = ms) := inj_L (fun a b => by rw [eqv_int]; exact (Bool.beq_eq_decide_eq a b)) ns ms
          have e2 : v = PyData.eqv (.list (ns.map PyData.int)) (.list (ms.map PyData.int)) := by rw [e1, ht hM hmin q1 q2, decide_eq_true h0, Bool.true_and]
          rw [e2] at hk
          exact hk
        · (walk_at "bk T")
          first | refine iteN' ?_ ?_ | refine recN ?_ ?_
          · rw [decide_eq_true_eq]; exact h0
          (walk_at "bk T")
          rw [hb hM h0] at hk
          exact hk
    · have h1 := of_decide_eq_false (Bool.eq_false_iff.mpr h1)
      rw [decide_eq_false (show ¬ (1 ≤ s.length ∧ s.length ≤ 6) by omega), Bool.false_and] at hk
      exact hk
  all_goals
    (walk_at "bk T")
    exact hk

theorem sc__law_are_letters : FnScope ["_law_thing", "_law_places", "_law_sign"] ["_law_thing"] (defScope st__law_are_letters) := ⟨rfl, rfl, rfl, by decide +kernel, rfl, by decide +kernel, by decide +kernel⟩
theorem ok__law_are_letters (A : At K mg "_law_are_letters" st__law_are_letters ["_law_thing"]) (sr : Sr P base) (z_isinstance : mg "isinstance" = none) (z_str : mg "str" = none) (z_len : mg "len" = none) (z_min : mg "min" = none) (z_sorted : mg "sorted" = none) (z_set : mg "set" = none) : Def2 P w K mg base "_law_are_letters" 1 ["_law_thing"] 0 1 s_law_are_letters_ab07542e := by
  obtain ⟨f, fd, F, hm, hb⟩ := A.ex
  refine ⟨f, fd, fn_ok (k := 0) (m := 0) (wb := w_law_are_letters_ab07542e) sr F sc__law_are_letters rfl (fun cdv A outer sh H E hr hg => ?_) p_law_are_letters_ab07542e, hm, F.kp, hb⟩
  exact JSs.cost (jss_cons (js_if (JW.t (jw_or (jt_not (jt_val (je_isi z_isinstance z_str (by decide +kernel) kit_str (je_var 0)))) (jw_or1 (jt_not (jt_leLe (je_int) (je_len z_len (ja_cons (je_var 0) (ja_nil))) (je_int)))))) (jss_one (js_ret (je_bl))) (jss_nil))
    (jss_cons (js_setLc 1 true [("_law_sign", 2)] (ji_seq (je_var 0)) (by kernel_rfl) (jg_name 2) (jts_nil) (je_find (je_str) (je_var 2)) (fun _ => sw_true rfl rfl rfl (by decide +kernel)))
    (jss_one (js_ret (je_and (je_ge (je_minX z_min (ja_cons (je_var 1) (ja_nil))) (je_int)) (je_one (je_eq (je_var 1) (je_sortSet z_sorted z_set (je_var 1))))))))) (by decide)
abbrev st__law_is_house : Stmt := top 25
--USES house7
def s_law_is_house_208e4ae9 : Spec2 := fun xs k _ => (∃ (ls : List Nat) (rs : List (List Wd)), xs = [.d (hoD ls rs)] ∧ House ls rs ∧ k (.d (.bool true))) ∨ ∃ d : PyData, xs = [.d d] ∧ NoHo d ∧ k (.d (.bool false))
theorem s_law_is_house_208e4ae9_0 : ∀ xs k e, s_law_is_house_208e4ae9 xs k e → s_law_is_house_208e4ae9 xs k fun _ => False := fun _ _ _ h => h

def w_law_is_house_208e4ae9_r1 : WS :=
  wRet (wBin neD (wCall s_law_worlds_e8e07422 (wCons (wVar 0) (wNil))) (wTup (wNil)))
def w_law_is_house_208e4ae9_r2 : WS :=
  wSeq (wIf (wTest (wBin neD (wLc [1] (wSeqI (wBin ixD (wVar 0) (wC (.int 1)))) (gN 1) (wNot (wTest (wCall s_law_is_saying_7c7558f3 (wCons (wBin ixD (wVar 0) (wC (.int 0))) (wCons (wVar 1) (wNil)))))) (wVar 1)) (wLst (wNil)))) (wRet (wC (.bool false))) (wNext))
  (w_law_is_house_208e4ae9_r1)
def w_law_is_house_208e4ae9_r3 : WS :=
  wSeq (wIf (wOr (wNot (wTest (wIsi "tuple" (wBin ixD (wVar 0) (wC (.int 1)))))) (wTest (wBin gtD (wCB cbLen (wCons (wBin ixD (wVar 0) (wC (.int 1))) (wNil))) (wC (.int 8))))) (wRet (wC (.bool false))) (wNext))
  (w_law_is_house_208e4ae9_r2)
def w_law_is_house_208e4ae9 : WS :=
  wSeq (wIf (wOr (wNot (wTest (wIsi "tuple" (wVar 0)))) (wOr (wTest (wBin neD (wCB cbLen (wCons (wVar 0) (wNil))) (wC (.int 2)))) (wNot (wTest (wCall s_law_are_letters_ab07542e (wCons (wBin ixD (wVar 0) (wC (.int 0))) (wNil))))))) (wRet (wC (.bool false))) (wNext))
  (w_law_is_house_208e4ae9_r3)

theorem w_law_is_house_208e4ae9_sy {ls : List Nat} {ds : List PyData} {k : X2 → Prop} (hL : Ltrs ls) (h6 : ls.length ≤ 6) (f : ds.length ≤ 8) (l : ∀ d ∈ ds, ∀ es, d = .tuple es → ∀ s, PyData.str s ∈ es → s.length ≤ 16777216)
    (hk : ds.all (sayB ls) = false → k (.d (.bool false))) (hr : ∀ rs : List (List Wd), ds = rs.map saD → (∀ r ∈ rs, Good ls r ∧ r.length ≤ 40) → k (.d (.bool (!(worldsOf ls rs).isEmpty)))) : runB w_law_is_house_208e4ae9 [.d (.tuple [.str (SX.S ls), .tuple ds])] k fun _ => False := by
  obtain ⟨R1, eR1⟩ : ∃ R, R = w_law_is_house_208e4ae9_r1 := ⟨_, rfl⟩
  unfold w_law_is_house_208e4ae9 w_law_is_house_208e4ae9_r3 w_law_is_house_208e4ae9_r2
  rw [← eR1]
  (walk_at "bk T")
  refine ⟨fun s e => by cases e; rw [SX.S_len]; omega, ?_⟩
  rw [lettersB_of hL h6]
  (walk_at "bk T")
  first | refine iteN' ?_ ?_ | refine recN ?_ ?_
  · rw [decide_eq_true_eq]; omega
  (walk_at "bk T")
  refine lcL_pure (enc := id) (p := fun d => !(sayB ls d)) (g := id) ds (List.map_id ds).symm (fun d hd R S h1 h2 => ?_) ?_
  · (walk_at "bk T")
    refine ⟨ls, d, rfl, fun es e => l d hd es e, ?_⟩
    cases c : sayB ls d with
    | true => (walk_at "bk T"); exact h2 (by rw [c]; rfl)
    | false => (walk_at "bk T"); exact h1 (by rw [c]; rfl)
  rw [List.map_id]
  (walk_at "bk T")
  rw [eqv_nil]
  have e1 : (ds.filter fun d => !(sayB ls d)).isEmpty = ds.all (sayB ls) := by
    rw [Bool.eq_iff_iff, List.isEmpty_iff, List.filter_eq_nil_iff, List.all_eq_true]
    constructor
    · intro h d hd
      have := h d hd
      simpa using this
    · intro h d hd
      rw [h d hd]; simp
  rw [e1]
  cases ha : ds.all (sayB ls) with
  | false =>
    (walk_at "bk T")
    exact hk ha
  | true =>
    obtain ⟨rs, rfl, g⟩ := says_inv ha
    (walk_at "bk T")
    rw [eR1]
    (walk_at "bk T")
    refine ⟨ls, rs, rfl, h6, hL.low, fun r hr => ⟨(g r hr).1, by have := (g r hr).2; omega⟩, by rw [List.length_map] at f; omega, ?_⟩
    (walk_at "bk T")
    have e2 : (!PyData.eqv (.tuple ((worldsOf ls rs).map woD)) (.tuple [])) = !(worldsOf ls rs).isEmpty := by rw [eqv_nilT, List.isEmpty_map]
    have e3 := congrArg (fun b => k (.d (.bool b))) e2
    exact e3.mpr (hr rs rfl g)
theorem p_law_is_house_208e4ae9 : ∀ xs k e, s_law_is_house_208e4ae9 xs k e → runB w_law_is_house_208e4ae9 xs k fun _ => False := by
  rintro xs k e (⟨ls, rs, rfl, hH, hk⟩ | ⟨d, rfl, hd, hk⟩)
  · refine w_law_is_house_208e4ae9_sy hH.ltrs hH.le6 (by rw [List.length_map]; exact hH.few) (saD_txt rs) (fun h => ?_) fun qs e _ => ?_
    · rw [says_all fun r hr => hH.good r hr] at h; cases h
    · rw [← saDs_inj e]
      cases hw : worldsOf ls rs with
      | nil => exact absurd hw hH.live
      | cons _ _ => exact hk
  · cases hd with
    | dead ls rs h h6 g f e1 =>
      refine w_law_is_house_208e4ae9_sy h h6 (by rw [List.length_map]; exact f) (saD_txt rs) (fun _ => hk) fun qs e _ => ?_
      rw [← saDs_inj e, e1]
      exact hk
    | says ls ds hL h6 f b l =>
      refine w_law_is_house_208e4ae9_sy hL h6 f l (fun _ => hk) fun qs e g => ?_
      rw [e, says_all g] at b; cases b
    | shape _ h l =>
      cases d with
      | tuple ds =>
        have l := l ds rfl
        have h2 : ds.length ≠ 2 := fun z => by
          match ds, z with
          | [x, y], _ => exact h x y rfl
        (walk_at "bk T")
        first | refine iteY' ?_ ?_ | refine recY ?_ ?_
        · rw [eqv_int]; simp; omega
        (walk_at "bk T")
        exact hk
      | _ => (walk_at "bk T"); exact hk
    | letters x y h l =>
      (walk_at "bk T")
      rw [h]
      (walk_at "bk T")
      exact hk
    | rules ls y hL h6 n =>
      (walk_at "bk T")
      refine ⟨fun s e => by cases e; rw [SX.S_len]; omega, ?_⟩
      rw [lettersB_of hL h6]
      cases y with
      | tuple ds =>
        obtain ⟨n1, n2⟩ := n ds rfl
        (walk_at "bk T")
        first | refine iteY' ?_ ?_ | refine recY ?_ ?_
        · rw [decide_eq_true_eq]; omega
        (walk_at "bk T")
        exact hk
      | _ => (walk_at "bk T"); exact hk

theorem sc__law_is_house : FnScope ["_law_thing", "_law_rule"] ["_law_thing"] (defScope st__law_is_house) := ⟨rfl, rfl, rfl, by decide +kernel, rfl, by decide +kernel, by decide +kernel⟩
theorem ok__law_is_house (A : At K mg "_law_is_house" st__law_is_house ["_law_thing"]) (sr : Sr P base) (d__law_are_letters : Def2 P w K mg base "_law_are_letters" 1 ["_law_thing"] 0 1 s_law_are_letters_ab07542e) (d__law_is_saying : Def2 P w K mg base "_law_is_saying" 1 ["_law_letters_here", "_law_thing"] 0 2 s_law_is_saying_7c7558f3) (d__law_worlds : Def2 P w K mg base "_law_worlds" 2 ["_law_house_here"] 0 1 s_law_worlds_e8e07422) (z_isinstance : mg "isinstance" = none) (z_tuple : mg "tuple" = none) (z_len : mg "len" = none) : Def2 P w K mg base "_law_is_house" 3 ["_law_thing"] 0 1 s_law_is_house_208e4ae9 := by
  obtain ⟨f, fd, F, hm, hb⟩ := A.ex
  refine ⟨f, fd, fn_ok (k := 2) (m := 0) (wb := w_law_is_house_208e4ae9) sr F sc__law_is_house rfl (fun cdv A outer sh H E hr hg => ?_) p_law_is_house_208e4ae9, hm, F.kp, hb⟩
  exact JSs.cost (jss_cons (js_if (JW.t (jw_or (jt_not (jt_val (je_isi z_isinstance z_tuple (by decide +kernel) kit_tuple (je_var 0)))) (jw_or (jt_ne (je_len z_len (ja_cons (je_var 0) (ja_nil))) (je_int)) (jw_or1 (jt_not (jt_val (je_callD d__law_are_letters s_law_are_letters_ab07542e_0 (ja_cons (je_ix (je_var 0) (je_int)) (ja_nil))))))))) (jss_one (js_ret (je_bl))) (jss_nil))
    (jss_cons (js_if (JW.t (jw_or (jt_not (jt_val (je_isi z_isinstance z_tuple (by decide +kernel) kit_tuple (je_ix (je_var 0) (je_int))))) (jw_or1 (jt_gt (je_len z_len (ja_cons (je_ix (je_var 0) (je_int)) (ja_nil))) (je_int))))) (jss_one (js_ret (je_bl))) (jss_nil))
    (jss_cons (js_if (jt_ne (je_lc [("_law_rule", 1)] (ji_seq (je_ix (je_var 0) (je_int))) (by kernel_rfl) (jg_name 1) (jts_one (jt_not (jt_val (je_callD d__law_is_saying s_law_is_saying_7c7558f3_0 (ja_cons (je_ix (je_var 0) (je_int)) (ja_cons (je_var 1) (ja_nil))))))) (je_var 1)) (je_lst (ja_nil))) (jss_one (js_ret (je_bl))) (jss_nil))
    (jss_one (js_ret (je_ne (je_callD d__law_worlds s_law_worlds_e8e07422_0 (ja_cons (je_var 0) (ja_nil))) (je_tup (ja_nil)))))))) (by decide)
abbrev st__law_many_rules : Stmt := top 26
--USES house7 bent5
def s_law_many_rules_6813a6f4 : Spec2 := fun xs k _ => ∃ (ls : List Nat) (rs : List (List Wd)), xs = [.drw, .d (hoD ls rs)] ∧ Ltrs ls ∧ ls.length ≤ 6 ∧ (∀ r ∈ rs, Good ls r ∧ r.length ≤ 14) ∧ rs.length ≤ 3 ∧ ∀ d, Thg 9 900 9 d → k (.d d)
theorem s_law_many_rules_6813a6f4_0 : ∀ xs k e, s_law_many_rules_6813a6f4 xs k e → s_law_many_rules_6813a6f4 xs k fun _ => False := fun _ _ _ h => h

def w_law_many_rules_6813a6f4 : WS :=
  wSeq (wAsgT (gTup2 2 (gCons2 (gN 2) (gCons2 (gN 3) (gNil2)))) (wVar 1))
  (wSeq (wAsg 4 true (wBin addD (wVar 3) (wTup (wCons (wTup (wCons (wC (.str "yes")) (wNil))) (wNil)))))
  (wRet (wTup (wCons (wVar 2) (wCons (wSl (wBin mulX (wVar 4) (wC (.int 9))) (none) (some (wBin addD (wC (.int 8)) (wCall s_next (wCons (wVar 0) (wCons (wC (.int 2)) (wNil))))))) (wNil))))))

theorem p_law_many_rules_6813a6f4 : ∀ xs k e, s_law_many_rules_6813a6f4 xs k e → runB w_law_many_rules_6813a6f4 xs k fun _ => False := by
  rintro xs k e ⟨ls, rs, rfl, L, l6, hg, l3, hk⟩
  have low := L.low
  have lm : (rs.map saD).length = rs.length := List.length_map _
  obtain ⟨N, hN⟩ : ∃ N : Int, N = 9 := ⟨_, rfl⟩
  unfold w_law_many_rules_6813a6f4
  rw [← hN]
  (walk_at "bk T")
  obtain ⟨F, hF⟩ : ∃ F, F = (List.replicate N.toNat (rs.map saD ++ [PyData.tuple [PyData.str (Str.ofString "yes")]])).flatten := ⟨_, rfl⟩
  rw [← hF]
  have hm : ∀ d ∈ F, Pln 7 70 9 d := fun d hd => by
    rw [hF] at hd
    obtain ⟨l, hl, hd⟩ := List.mem_flatten.mp hd
    rw [List.eq_of_mem_replicate hl] at hd
    rcases List.mem_append.mp hd with q | q
    · obtain ⟨r, hr, rfl⟩ := List.mem_map.mp q
      exact pln_sa (m := 14) low (hg r hr).1.ltr (hg r hr).2
    · rw [List.mem_singleton.mp q]
      exact (pln_T (n := 6) (pls_cons (pln_str (b := 4) (by decide) (by decide) (by decide)) pls_nil)).mono (Nat.le_refl _) (by decide)
  intro r r0 r1
  have l9 : (cutL F none (some (8 + r))).length ≤ 9 := by
    rw [cutL_toI (by omega), List.length_take]; omega
  have hfin : k (.d (.tuple [.str (SX.S ls), .tuple (cutL F none (some (8 + r)))])) := by
    refine hk _ ?_
    have h1 : Pls 7 (9 * 71) 9 ((cutL F none (some (8 + r))).map id) := pls_map (b := 70) (m := 9) (fun a ha => hm a (cutL_in ha)) l9
    rw [List.map_id] at h1
    exact (pln_T (pls_cons (pln_S low l6 (by decide)) (pls_cons (pln_T h1) pls_nil))).t.mono (by decide) (by decide)
  clear hF
  (walk_at "bk T")
  exact hfin

theorem sc__law_many_rules : FnScope ["_law_drawn", "_law_house_here", "_law_letters_here", "_law_rules", "_law_some"] ["_law_drawn", "_law_house_here"] (defScope st__law_many_rules) := ⟨rfl, rfl, rfl, by decide +kernel, rfl, by decide +kernel, by decide +kernel⟩
theorem ok__law_many_rules (A : At K mg "_law_many_rules" st__law_many_rules ["_law_drawn", "_law_house_here"]) (sr : Sr P base) (d__law_next : Def2 P w K mg base "_law_next" 1 ["_law_drawn", "_law_many"] 1 2 s_next) : Def2 P w K mg base "_law_many_rules" 2 ["_law_drawn", "_law_house_here"] 1 2 s_law_many_rules_6813a6f4 := by
  obtain ⟨f, fd, F, hm, hb⟩ := A.ex
  refine ⟨f, fd, fn_ok (k := 1) (m := 1) (wb := w_law_many_rules_6813a6f4) sr F sc__law_many_rules rfl (fun cdv A outer sh H E hr hg => ?_) p_law_many_rules_6813a6f4, hm, F.kp, hb⟩
  exact JSs.cost (jss_cons (js_asgT (je_var 1) (jg_tup (jgs_cons (jg_name 2) (jgs_cons (jg_name 3) (jgs_nil)))))
    (jss_cons (js_asg 4 true (je_add (je_var 3) (je_tup (ja_cons (je_tup (ja_cons (je_str) (ja_nil))) (ja_nil)))))
    (jss_one (js_ret (je_tup (ja_cons (je_var 2) (ja_cons (je_sl (je_mulX (je_var 4) (je_int)) (jo_none) (jo_some (je_add (je_int) (je_callD d__law_next s_next_0 (ja_cons (je_var 0) (ja_cons (je_int) (ja_nil))))))) (ja_nil)))))))) (by decide)
abbrev st__law_odd_letters : Stmt := top 27
--USES house7 bent5
def s_law_odd_letters_1441443f : Spec2 := fun xs k _ => ∃ ls : List Nat, xs = [.drw, .d (.str (SX.S ls))] ∧ Ltrs ls ∧ ls.length ≤ 6 ∧ ∀ d, Thg 3 60 9 d → k (.d d)
theorem s_law_odd_letters_1441443f_0 : ∀ xs k e, s_law_odd_letters_1441443f xs k e → s_law_odd_letters_1441443f xs k fun _ => False := fun _ _ _ h => h

def w_law_odd_letters_1441443f : WS :=
  wSeq (wAsg 2 true (wCall s_next (wCons (wVar 0) (wCons (wCB cbLen (wCons (wVar 1) (wNil))) (wNil)))))
  (wSeq (wAsg 3 true (wLst (wCons (wBack (wVar 1)) (wCons (wBin addD (wVar 1) (wSl (wVar 1) (some (wNeg (wC (.int 1)))) (none))) (wCons (wBin addD (wBin addD (wSl (wVar 1) (none) (some (wVar 2))) (wUpper (wBin ixD (wVar 1) (wVar 2)))) (wSl (wVar 1) (some (wBin addD (wVar 2) (wC (.int 1)))) (none))) (wCons (wC (.str "")) (wCons (wC (.str "abcdefg")) (wNil))))))))
  (wSeq (wAsg 3 true (wBin addD (wVar 3) (wLst (wCons (wC (.str "uvwxyz")) (wCons (wC (.str "stuvwxyz")) (wCons (wBin addD (wBin addD (wSl (wVar 1) (none) (some (wVar 2))) (wC (.str "1"))) (wSl (wVar 1) (some (wBin addD (wVar 2) (wC (.int 1)))) (none))) (wCons (wBin addD (wBin addD (wSl (wVar 1) (none) (some (wVar 2))) (wC (.str " "))) (wSl (wVar 1) (some (wVar 2)) (none))) (wCons (wC (.str "{")) (wNil)))))))))
  (wSeq (wAsg 3 true (wBin addD (wVar 3) (wLst (wCons (wCB listX (wCons (wVar 1) (wNil))) (wCons (wCB cbTupleT (wCons (wVar 1) (wNil))) (wCons (wC .none) (wCons (wC (.bool true)) (wCons (wC (.int 0)) (wCons (wDic0) (wCons (wBin addD (wSl (wVar 1) (none) (some (wVar 2))) (wSl (wVar 1) (some (wBin addD (wVar 2) (wC (.int 1)))) (none))) (wCons (wC (.str "zz")) (wCons (wC (.str "`")) (wNil)))))))))))))
  (wRet (wBin ixD (wVar 3) (wCall s_next (wCons (wVar 0) (wCons (wCB cbLen (wCons (wVar 3) (wNil))) (wNil)))))))))

theorem p_law_odd_letters_1441443f : ∀ xs k e, s_law_odd_letters_1441443f xs k e → runB w_law_odd_letters_1441443f xs k fun _ => False := by
  rintro xs k e ⟨ls, rfl, L, l6, hk⟩
  have hl := List.length_pos_iff.mpr L.ne
  have sl : (SX.S ls).length = ls.length := SX.S_len ls
  have ss : ∀ l : List Nat, (SX.S l).length = l.length := SX.S_len
  have cl : ∀ lo hi, (cutL ls lo hi).length ≤ 6 := fun lo hi => Nat.le_trans (cutL_le _ _ _) l6
  have cs : ∀ lo hi, (cutS (SX.S ls) lo hi).length ≤ 6 := fun lo hi => by rw [cutS_S, ss]; exact cl lo hi
  have sc : (SX.S ls).cps.toList = ls := by simp [SX.S]
  (walk_at "bk T")
  intro a a0 a1
  have a1 : a < (ls.length : Int) := by rw [sl] at a1; exact a1
  obtain ⟨c, hc, ec⟩ := atI_in a0 a1
  have up : Txt.upper (⟨#[c]⟩ : Str) = SX.S [PyProof.Rows.up1 c] := SX.upper_S (a := [c]) (by
    have := L.az c hc
    simp only [List.all_cons, List.all_nil, Bool.and_true, decide_eq_true_eq]; omega)
  have al : ∀ s t : Str, (s ++ t).length = s.length + t.length := fun s t => by
    show (s.cps ++ t.cps).size = _
    rw [Array.size_append]; rfl
  have c1 := cs (some (-1)) none
  have c2 := cs none (some a)
  have c3 := cs (some (a + 1)) none
  have c4 := cs (some a) none
  have u1 : (SX.S [PyProof.Rows.up1 c]).length = 1 := ss _
  have o1 : (Str.ofString "1").length = 1 := rfl
  have o2 : (Str.ofString " ").length = 1 := rfl
  have q1 := al (cutS (SX.S ls) none (some a)) (SX.S [PyProof.Rows.up1 c])
  have q2 := al (cutS (SX.S ls) none (some a)) (Str.ofString "1")
  have q3 := al (cutS (SX.S ls) none (some a)) (Str.ofString " ")
  (walk_at "bk T")
  rw [revS_S l6]
  refine ⟨by rw [ss, List.length_reverse]; omega, ?_⟩
  (walk_at "bk T")
  rw [sc, ec]
  (walk_at "bk T")
  rw [up]
  (walk_at "bk T")
  have hal : ∀ c ∈ alphabet, PyProof.Rows.up1 c < 1114112 := by decide
  have low := L.low
  have hcc : ∀ lo hi, Tx 6 (cutS (SX.S ls) lo hi) := fun lo hi => tx_cut low l6 lo hi
  have hu : Tx 1 (SX.S [PyProof.Rows.up1 c]) := tx_S (fun x hx => by rw [List.mem_singleton.mp hx]; exact hal c (in_alphabet L c hc)) (Nat.le_refl _)
  have fx : ∀ {n : Nat} {s : Str}, Tx n s → n ≤ 60 → Thg 3 60 9 (.str s) := fun h l => (h.p (m := 3) (by omega)).t.mono (by decide) l
  have lit : ∀ s : Str, (∀ c ∈ s.cps.toList, c < 1114112) → s.cps.size ≤ 20 → Tx 20 s := fun s h l => ⟨l, h⟩
  obtain ⟨M, hM⟩ : ∃ M, M = [PyData.str (SX.S ls.reverse), PyData.str (SX.S ls ++ cutS (SX.S ls) (some (-1)) none), PyData.str (cutS (SX.S ls) none (some a) ++ SX.S [PyProof.Rows.up1 c] ++ cutS (SX.S ls) (some (a + 1)) none), PyData.str (Str.ofString ""), PyData.str (Str.ofString "abcdefg")] ++ [PyData.str (Str.ofString "uvwxyz"), PyData.str (Str.ofString "stuvwxyz"), PyData.str (cutS (SX.S ls) none (some a) ++ Str.ofString "1" ++ cutS (SX.S ls) (some (a + 1)) none), PyData.str (cutS (SX.S ls) none (some a) ++ Str.ofString " " ++ cutS (SX.S ls) (some a) none), PyData.str (Str.ofString "{")] ++ [PyData.list (signs (SX.S ls)), PyData.tuple (signs (SX.S ls)), PyData.none, PyData.bool true, PyData.int 0, PyData.dict [], PyData.str (cutS (SX.S ls) none (some a) ++ cutS (SX.S ls) (some (a + 1)) none), PyData.str (Str.ofString "zz"), PyData.str (Str.ofString "`")] := ⟨_, rfl⟩
  rw [← hM]
  have hg : ∀ d ∈ M, Thg 3 60 9 d := by
    rw [hM]
    intro d hd
    simp only [List.mem_append, List.mem_cons, List.not_mem_nil, or_false] at hd
    rcases hd with ((rfl | rfl | rfl | rfl | rfl) | (rfl | rfl | rfl | rfl | rfl)) | (rfl | rfl | rfl | rfl | rfl | rfl | rfl | rfl | rfl)
    · exact fx (tx_S (n := 6) (fun x hx => low x (List.mem_reverse.mp hx)) (by rw [List.length_reverse]; exact l6)) (by decide)
    · exact fx (tx_app (tx_S low l6) (hcc _ _)) (by decide)
    · exact fx (tx_app (tx_app (hcc _ _) hu) (hcc _ _)) (by decide)
    · exact fx (lit _ (by decide) (by decide)) (by decide)
    · exact fx (lit _ (by decide) (by decide)) (by decide)
    · exact fx (lit _ (by decide) (by decide)) (by decide)
    · exact fx (lit _ (by decide) (by decide)) (by decide)
    · exact fx (tx_app (tx_app (hcc _ _) (lit _ (by decide) (by decide))) (hcc _ _)) (by decide)
    · exact fx (tx_app (tx_app (hcc _ _) (lit _ (by decide) (by decide))) (hcc _ _)) (by decide)
    · exact fx (lit _ (by decide) (by decide)) (by decide)
    · exact (thg_L (n := 2) (pls_signs low l6)).mono (by decide) (by decide)
    · exact (pln_T (n := 2) (pls_signs low l6)).t.mono (by decide) (by decide)
    · exact pln_none.t
    · exact (pln_bool _).t
    · exact (pln_int (by decide) (by decide)).t
    · exact (thg_dic0 (n := 2)).mono (by decide) (by decide)
    · exact fx (tx_app (hcc _ _) (hcc _ _)) (by decide)
    · exact fx (lit _ (by decide) (by decide)) (by decide)
    · exact fx (lit _ (by decide) (by decide)) (by decide)
  clear hM
  intro r r0 r1
  obtain ⟨d, hd, ed⟩ := atI_in r0 r1
  (walk_at "bk T")
  rw [ed]
  (walk_at "bk T")
  exact hk d (hg d hd)

theorem sc__law_odd_letters : FnScope ["_law_drawn", "_law_letters_here", "_law_at", "_law_some"] ["_law_drawn", "_law_letters_here"] (defScope st__law_odd_letters) := ⟨rfl, rfl, rfl, by decide +kernel, rfl, by decide +kernel, by decide +kernel⟩
theorem ok__law_odd_letters (A : At K mg "_law_odd_letters" st__law_odd_letters ["_law_drawn", "_law_letters_here"]) (sr : Sr P base) (d__law_next : Def2 P w K mg base "_law_next" 1 ["_law_drawn", "_law_many"] 1 2 s_next) (z_len : mg "len" = none) (z_list : mg "list" = none) (z_tuple : mg "tuple" = none) : Def2 P w K mg base "_law_odd_letters" 2 ["_law_drawn", "_law_letters_here"] 2 2 s_law_odd_letters_1441443f := by
  obtain ⟨f, fd, F, hm, hb⟩ := A.ex
  refine ⟨f, fd, fn_ok (k := 1) (m := 2) (wb := w_law_odd_letters_1441443f) sr F sc__law_odd_letters rfl (fun cdv A outer sh H E hr hg => ?_) p_law_odd_letters_1441443f, hm, F.kp, hb⟩
  exact JSs.cost (jss_cons (js_asg 2 true (je_callD d__law_next s_next_0 (ja_cons (je_var 0) (ja_cons (je_len z_len (ja_cons (je_var 1) (ja_nil))) (ja_nil)))))
    (jss_cons (js_asg 3 true (je_lst (ja_cons (je_back (je_var 1)) (ja_cons (je_add (je_var 1) (je_sl (je_var 1) (jo_some (je_neg (je_int))) (jo_none))) (ja_cons (je_add (je_add (je_sl (je_var 1) (jo_none) (jo_some (je_var 2))) (je_upper (je_ix (je_var 1) (je_var 2)))) (je_sl (je_var 1) (jo_some (je_add (je_var 2) (je_int))) (jo_none))) (ja_cons (je_str) (ja_cons (je_str) (ja_nil))))))))
    (jss_cons (js_asg 3 true (je_add (je_var 3) (je_lst (ja_cons (je_str) (ja_cons (je_str) (ja_cons (je_add (je_add (je_sl (je_var 1) (jo_none) (jo_some (je_var 2))) (je_str)) (je_sl (je_var 1) (jo_some (je_add (je_var 2) (je_int))) (jo_none))) (ja_cons (je_add (je_add (je_sl (je_var 1) (jo_none) (jo_some (je_var 2))) (je_str)) (je_sl (je_var 1) (jo_some (je_var 2)) (jo_none))) (ja_cons (je_str) (ja_nil)))))))))
    (jss_cons (js_asg 3 true (je_add (je_var 3) (je_lst (ja_cons (je_listX z_list (ja_cons (je_var 1) (ja_nil))) (ja_cons (je_tupleT z_tuple (ja_cons (je_var 1) (ja_nil))) (ja_cons (je_non) (ja_cons (je_bl) (ja_cons (je_int) (ja_cons (je_dic0) (ja_cons (je_add (je_sl (je_var 1) (jo_none) (jo_some (je_var 2))) (je_sl (je_var 1) (jo_some (je_add (je_var 2) (je_int))) (jo_none))) (ja_cons (je_str) (ja_cons (je_str) (ja_nil)))))))))))))
    (jss_one (js_ret (je_ix (je_var 3) (je_callD d__law_next s_next_0 (ja_cons (je_var 0) (ja_cons (je_len z_len (ja_cons (je_var 3) (ja_nil))) (ja_nil))))))))))) (by decide)
abbrev st__law_odd_rules : Stmt := top 28
--USES house7 bent5
def s_law_odd_rules_6f8a0afc : Spec2 := fun xs k _ => ∃ (ls : List Nat) (rs : List (List Wd)), xs = [.drw, .d (.str (SX.S ls)), .d (.tuple (rs.map saD))] ∧ Ltrs ls ∧ ls.length ≤ 6 ∧ (∀ r ∈ rs, Good ls r ∧ r.length ≤ 14) ∧ rs.length ≤ 3 ∧ ∀ d, Thg 9 900 9 d → k (.d d)
theorem s_law_odd_rules_6f8a0afc_0 : ∀ xs k e, s_law_odd_rules_6f8a0afc xs k e → s_law_odd_rules_6f8a0afc xs k fun _ => False := fun _ _ _ h => h

def w_law_odd_rules_6f8a0afc : WS :=
  wSeq (wAsg 3 true (wCall s_law_saying_10961deb (wCons (wVar 0) (wCons (wVar 1) (wCons (wC (.int 4)) (wNil))))))
  (wSeq (wAsg 4 true (wCall s_next (wCons (wVar 0) (wCons (wBin addD (wCB cbLen (wCons (wVar 2) (wNil))) (wC (.int 1))) (wNil)))))
  (wSeq (wAsg 5 true (wBin ixD (wC (.str "abcdefghijklmnopqrstuvwxyz")) (wCall s_next (wCons (wVar 0) (wCons (wC (.int 26)) (wNil))))))
  (wSeq (wAsg 6 true (wLst (wCons (wTup (wNil)) (wCons (wTup (wCons (wC (.str "and")) (wNil))) (wCons (wTup (wCons (wVar 5) (wNil))) (wCons (wCB listX (wCons (wVar 3) (wNil))) (wCons (wBin addD (wVar 3) (wTup (wCons (wC (.str "yes")) (wNil)))) (wCons (wC .none) (wCons (wC (.str "yes")) (wCons (wC (.bool true)) (wCons (wBin addD (wVar 3) (wBin mulX (wTup (wCons (wC (.str "not")) (wNil))) (wC (.int 41)))) (wCons (wTup (wCons (wVar 3) (wNil))) (wNil)))))))))))))
  (wSeq (wAsg 6 true (wBin addD (wVar 6) (wLst (wCons (wTup (wCons (wC (.str "no")) (wNil))) (wCons (wTup (wCons (wBin ixD (wVar 1) (wC (.int 0))) (wCons (wC (.str "not")) (wCons (wBin ixD (wVar 1) (wC (.int 0))) (wCons (wC (.str "and")) (wNil)))))) (wCons (wVar 3) (wCons (wBin addD (wVar 3) (wTup (wCons (wC (.str "not")) (wNil)))) (wNil))))))))
  (wSeq (wAsg 7 true (wBin ixD (wVar 6) (wCall s_next (wCons (wVar 0) (wCons (wCB cbLen (wCons (wVar 6) (wNil))) (wNil))))))
  (wSeq (wAsg 8 true (wLst (wCons (wBin addD (wBin addD (wSl (wVar 2) (none) (some (wVar 4))) (wTup (wCons (wVar 7) (wNil)))) (wSl (wVar 2) (some (wVar 4)) (none))) (wCons (wBin addD (wBin addD (wSl (wVar 2) (none) (some (wVar 4))) (wTup (wCons (wVar 7) (wNil)))) (wSl (wVar 2) (some (wVar 4)) (none))) (wCons (wBin addD (wVar 2) (wTup (wCons (wVar 3) (wCons (wBin addD (wVar 3) (wTup (wCons (wC (.str "not")) (wNil)))) (wNil))))) (wNil))))))
  (wSeq (wAsg 8 true (wBin addD (wVar 8) (wLst (wCons (wCB listX (wCons (wVar 2) (wNil))) (wCons (wC .none) (wCons (wC (.bool true)) (wCons (wC (.str "")) (wCons (wDic0) (wCons (wVar 7) (wCons (wBin addD (wSl (wVar 2) (none) (some (wVar 4))) (wSl (wVar 2) (some (wBin addD (wVar 4) (wC (.int 1)))) (none))) (wNil)))))))))))
  (wRet (wBin ixD (wVar 8) (wCall s_next (wCons (wVar 0) (wCons (wCB cbLen (wCons (wVar 8) (wNil))) (wNil)))))))))))))

theorem p_law_odd_rules_6f8a0afc : ∀ xs k e, s_law_odd_rules_6f8a0afc xs k e → runB w_law_odd_rules_6f8a0afc xs k fun _ => False := by
  rintro xs k e ⟨ls, rs, rfl, L, l6, hg, l3, hk⟩
  have hl := List.length_pos_iff.mpr L.ne
  have sc : (SX.S ls).cps.toList = ls := by simp [SX.S]
  have low := L.low
  have lm : (rs.map saD).length = rs.length := List.length_map _
  (walk_at "bk T")
  refine ⟨ls, 4, rfl, L.ne, by omega, by decide, by decide, fun ws g lw => ?_⟩
  have lws : (ws.map fun w => PyData.str w.str).length = ws.length := List.length_map _
  have lw : ws.length ≤ 14 := by omega
  (walk_at "bk T")
  intro a a0 a1
  (walk_at "bk T")
  intro o o0 o1
  have o1 : o < 26 := o1
  obtain ⟨x, hx, ex⟩ := atI_in (l := (Str.ofString "abcdefghijklmnopqrstuvwxyz").cps.toList) o0 o1
  obtain ⟨c, hc, ec⟩ := atI_in (l := ls) (j := 0) (by decide) (by omega)
  (walk_at "bk T")
  rw [ex]
  (walk_at "bk T")
  obtain ⟨N, hN, lN⟩ : ∃ N, N = (List.replicate (Int.toNat 41) [PyData.str (Str.ofString "not")]).flatten ∧ N.length = 41 := ⟨_, rfl, rfl⟩
  rw [← hN]
  refine ⟨by omega, ?_⟩
  (walk_at "bk T")
  rw [sc, ec]
  (walk_at "bk T")
  rw [sc, ec]
  (walk_at "bk T")
  have wl : ∀ {n : Nat} (s : Str), (∀ c ∈ s.cps.toList, c < 1114112) → s.cps.size ≤ 4 → Pln n 4 9 (.str s) := fun s h l => pln_str h l (by decide)
  have w1 : ∀ {n y : Nat}, y < 1114112 → Pln n 4 9 (.str (⟨#[y]⟩ : Str)) := fun h => wl _ (fun z hz => by rw [List.mem_singleton.mp hz]; exact h) (Nat.le_of_ble_eq_true rfl)
  have lx : x < 1114112 := (by decide : ∀ y ∈ (Str.ofString "abcdefghijklmnopqrstuvwxyz").cps.toList, y < 1114112) x hx
  have P : ∀ {n : Nat}, Pls n 70 9 (ws.map fun w => PyData.str w.str) := fun {n} => pls_wds (m := 14) low g.ltr lw
  have PN : ∀ {n : Nat}, Pls n 205 9 N := fun {n} => by
    rw [hN, show (List.replicate (Int.toNat 41) [PyData.str (Str.ofString "not")]).flatten = (List.range 41).map fun _ => PyData.str (Str.ofString "not") from rfl]
    exact pls_map (b := 4) (m := 41) (fun _ _ => wl _ (by decide) (by decide)) (by decide)
  have S : ∀ {n : Nat}, Pln (n + 1) 70 9 (saD ws) := fun {n} => pln_T P
  have tp : ∀ {ds : List PyData} {b : Nat}, Pls 5 b 9 ds → b ≤ 400 → Thg 7 400 9 (.tuple ds) := fun h l => (pln_T h).t.mono (by decide) l
  obtain ⟨M, hM⟩ : ∃ M, M = [PyData.tuple [], PyData.tuple [PyData.str (Str.ofString "and")], PyData.tuple [PyData.str { cps := #[x] }],
                  PyData.list (List.map (fun w => PyData.str w.str) ws),
                  PyData.tuple (List.map (fun w => PyData.str w.str) ws ++ [PyData.str (Str.ofString "yes")]),
                  PyData.none, PyData.str (Str.ofString "yes"), PyData.bool true,
                  PyData.tuple (List.map (fun w => PyData.str w.str) ws ++ N), PyData.tuple [saD ws]] ++
                [PyData.tuple [PyData.str (Str.ofString "no")],
                  PyData.tuple
                    [PyData.str { cps := #[c] }, PyData.str (Str.ofString "not"), PyData.str { cps := #[c] },
                      PyData.str (Str.ofString "and")],
                  saD ws,
                  PyData.tuple (List.map (fun w => PyData.str w.str) ws ++ [PyData.str (Str.ofString "not")])] := ⟨_, rfl⟩
  rw [← hM]
  have hm : ∀ d ∈ M, Thg 7 400 9 d := by
    rw [hM]
    intro d hd
    simp only [List.mem_append, List.mem_cons, List.not_mem_nil, or_false] at hd
    rcases hd with (rfl | rfl | rfl | rfl | rfl | rfl | rfl | rfl | rfl | rfl) | (rfl | rfl | rfl | rfl)
    · exact tp pls_nil (by decide)
    · exact tp (pls_cons (wl _ (by decide) (by decide)) pls_nil) (by decide)
    · exact tp (pls_cons (w1 lx) pls_nil) (by decide)
    · exact (thg_L (n := 6) P).mono (by decide) (by decide)
    · exact tp (pls_app P (pls_cons (wl _ (by decide) (by decide)) pls_nil)) (by decide)
    · exact pln_none.t
    · exact (wl (n := 7) _ (by decide) (by decide)).t.mono (by decide) (by decide)
    · exact (pln_bool _).t
    · exact tp (pls_app P PN) (by decide)
    · exact tp (pls_cons S pls_nil) (by decide)
    · exact tp (pls_cons (wl _ (by decide) (by decide)) pls_nil) (by decide)
    · exact tp (pls_cons (w1 (low c hc)) (pls_cons (wl _ (by decide) (by decide)) (pls_cons (w1 (low c hc)) (pls_cons (wl _ (by decide) (by decide)) pls_nil)))) (by decide)
    · exact (S (n := 6)).t.mono (by decide) (by decide)
    · exact tp (pls_app P (pls_cons (wl _ (by decide) (by decide)) pls_nil)) (by decide)
  clear hM
  intro r r0 r1
  obtain ⟨d, hd, ed⟩ := atI_in r0 r1
  have D := hm d hd
  clear hm hd
  have cl : ∀ lo hi, (cutL (rs.map saD) lo hi).length ≤ 3 := fun lo hi => Nat.le_trans (cutL_le _ _ _) (by omega)
  have R : ∀ {n : Nat}, Pls (n + 1) 213 9 (rs.map saD) := fun {n} => pls_map (b := 70) (m := 3) (fun r hr => pln_sa (m := 14) low (hg r hr).1.ltr (hg r hr).2) l3
  have C : ∀ {n : Nat} (lo hi : Option Int), Pls (n + 1) 213 9 (cutL (rs.map saD) lo hi) := fun lo hi => pls_sub (cutL_sub _ lo hi) R
  have c1 := cl none (some a)
  have c2 := cl (some a) none
  have c3 := cl (some (a + 1)) none
  (walk_at "bk T")
  rw [ed]
  (walk_at "bk T")
  obtain ⟨M2, hM⟩ : ∃ M2, M2 = [PyData.tuple (cutL (List.map saD rs) none (some a) ++ [d] ++ cutL (List.map saD rs) (some a) none),
                  PyData.tuple (cutL (List.map saD rs) none (some a) ++ [d] ++ cutL (List.map saD rs) (some a) none),
                  PyData.tuple
                    (List.map saD rs ++
                      [saD ws,
                        PyData.tuple
                          (List.map (fun w => PyData.str w.str) ws ++ [PyData.str (Str.ofString "not")])])] ++
                [PyData.list (List.map saD rs), PyData.none, PyData.bool true, PyData.str (Str.ofString ""),
                  PyData.dict [], d,
                  PyData.tuple
                    (cutL (List.map saD rs) none (some a) ++ cutL (List.map saD rs) (some (a + 1)) none)] := ⟨_, rfl⟩
  rw [← hM]
  have ins : Thg 9 900 9 (PyData.tuple (cutL (List.map saD rs) none (some a) ++ [d] ++ cutL (List.map saD rs) (some a) none)) := by
    rw [List.append_assoc]
    exact (thg_T (C none (some a)) D (C (some a) none)).mono (by decide) (by decide)
  have hm2 : ∀ d ∈ M2, Thg 9 900 9 d := by
    rw [hM]
    intro y hy
    simp only [List.mem_append, List.mem_cons, List.not_mem_nil, or_false] at hy
    rcases hy with (rfl | rfl | rfl) | (rfl | rfl | rfl | rfl | rfl | rfl | rfl)
    · exact ins
    · exact ins
    · exact (pln_T (n := 7) (pls_app R (pls_cons S (pls_cons (pln_T (pls_app P (pls_cons (wl _ (by decide) (by decide)) pls_nil))) pls_nil)))).t.mono (by decide) (by decide)
    · exact (thg_L (n := 7) R).mono (by decide) (by decide)
    · exact pln_none.t
    · exact (pln_bool _).t
    · exact (wl (n := 9) _ (by decide) (by decide)).t.mono (by decide) (by decide)
    · exact (thg_dic0 (n := 7)).mono (by decide) (by decide)
    · exact D.mono (by decide) (by decide)
    · exact (pln_T (n := 7) (pls_app (C _ _) (C _ _))).t.mono (by decide) (by decide)
  clear hM
  intro q q0 q1
  obtain ⟨d2, hd2, ed2⟩ := atI_in q0 q1
  (walk_at "bk T")
  rw [ed2]
  (walk_at "bk T")
  exact hk d2 (hm2 d2 hd2)

theorem sc__law_odd_rules : FnScope ["_law_drawn", "_law_letters_here", "_law_rules", "_law_rule", "_law_at", "_law_other", "_law_odd", "_law_one", "_law_some"] ["_law_drawn", "_law_letters_here", "_law_rules"] (defScope st__law_odd_rules) := ⟨rfl, rfl, rfl, by decide +kernel, rfl, by decide +kernel, by decide +kernel⟩
theorem ok__law_odd_rules (A : At K mg "_law_odd_rules" st__law_odd_rules ["_law_drawn", "_law_letters_here", "_law_rules"]) (sr : Sr P base) (d__law_saying : Def2 P w K mg base "_law_saying" 2 ["_law_drawn", "_law_letters_here", "_law_leaves"] 23058430092136939521 3 s_law_saying_10961deb) (d__law_next : Def2 P w K mg base "_law_next" 1 ["_law_drawn", "_law_many"] 1 2 s_next) (z_len : mg "len" = none) (z_list : mg "list" = none) : Def2 P w K mg base "_law_odd_rules" 3 ["_law_drawn", "_law_letters_here", "_law_rules"] 23058430092136939525 3 s_law_odd_rules_6f8a0afc := by
  obtain ⟨f, fd, F, hm, hb⟩ := A.ex
  refine ⟨f, fd, fn_ok (k := 2) (m := 23058430092136939525) (wb := w_law_odd_rules_6f8a0afc) sr F sc__law_odd_rules rfl (fun cdv A outer sh H E hr hg => ?_) p_law_odd_rules_6f8a0afc, hm, F.kp, hb⟩
  exact JSs.cost (jss_cons (js_asg 3 true (je_callD d__law_saying s_law_saying_10961deb_0 (ja_cons (je_var 0) (ja_cons (je_var 1) (ja_cons (je_int) (ja_nil))))))
    (jss_cons (js_asg 4 true (je_callD d__law_next s_next_0 (ja_cons (je_var 0) (ja_cons (je_add (je_len z_len (ja_cons (je_var 2) (ja_nil))) (je_int)) (ja_nil)))))
    (jss_cons (js_asg 5 true (je_ix (je_str) (je_callD d__law_next s_next_0 (ja_cons (je_var 0) (ja_cons (je_int) (ja_nil))))))
    (jss_cons (js_asg 6 true (je_lst (ja_cons (je_tup (ja_nil)) (ja_cons (je_tup (ja_cons (je_str) (ja_nil))) (ja_cons (je_tup (ja_cons (je_var 5) (ja_nil))) (ja_cons (je_listX z_list (ja_cons (je_var 3) (ja_nil))) (ja_cons (je_add (je_var 3) (je_tup (ja_cons (je_str) (ja_nil)))) (ja_cons (je_non) (ja_cons (je_str) (ja_cons (je_bl) (ja_cons (je_add (je_var 3) (je_mulX (je_tup (ja_cons (je_str) (ja_nil))) (je_int))) (ja_cons (je_tup (ja_cons (je_var 3) (ja_nil))) (ja_nil)))))))))))))
    (jss_cons (js_asg 6 true (je_add (je_var 6) (je_lst (ja_cons (je_tup (ja_cons (je_str) (ja_nil))) (ja_cons (je_tup (ja_cons (je_ix (je_var 1) (je_int)) (ja_cons (je_str) (ja_cons (je_ix (je_var 1) (je_int)) (ja_cons (je_str) (ja_nil)))))) (ja_cons (je_var 3) (ja_cons (je_add (je_var 3) (je_tup (ja_cons (je_str) (ja_nil)))) (ja_nil))))))))
    (jss_cons (js_asg 7 true (je_ix (je_var 6) (je_callD d__law_next s_next_0 (ja_cons (je_var 0) (ja_cons (je_len z_len (ja_cons (je_var 6) (ja_nil))) (ja_nil))))))
    (jss_cons (js_asg 8 true (je_lst (ja_cons (je_add (je_add (je_sl (je_var 2) (jo_none) (jo_some (je_var 4))) (je_tup (ja_cons (je_var 7) (ja_nil)))) (je_sl (je_var 2) (jo_some (je_var 4)) (jo_none))) (ja_cons (je_add (je_add (je_sl (je_var 2) (jo_none) (jo_some (je_var 4))) (je_tup (ja_cons (je_var 7) (ja_nil)))) (je_sl (je_var 2) (jo_some (je_var 4)) (jo_none))) (ja_cons (je_add (je_var 2) (je_tup (ja_cons (je_var 3) (ja_cons (je_add (je_var 3) (je_tup (ja_cons (je_str) (ja_nil)))) (ja_nil))))) (ja_nil))))))
    (jss_cons (js_asg 8 true (je_add (je_var 8) (je_lst (ja_cons (je_listX z_list (ja_cons (je_var 2) (ja_nil))) (ja_cons (je_non) (ja_cons (je_bl) (ja_cons (je_str) (ja_cons (je_dic0) (ja_cons (je_var 7) (ja_cons (je_add (je_sl (je_var 2) (jo_none) (jo_some (je_var 4))) (je_sl (je_var 2) (jo_some (je_add (je_var 4) (je_int))) (jo_none))) (ja_nil)))))))))))
    (jss_one (js_ret (je_ix (je_var 8) (je_callD d__law_next s_next_0 (ja_cons (je_var 0) (ja_cons (je_len z_len (ja_cons (je_var 8) (ja_nil))) (ja_nil))))))))))))))) (by decide)
abbrev st__law_bent : Stmt := top 29
--USES house7 bent5
def s_law_bent_19559f55 : Spec2 := fun xs k _ => ∃ (ls : List Nat) (rs : List (List Wd)), xs = [.drw, .d (hoD ls rs)] ∧ Ltrs ls ∧ ls.length ≤ 6 ∧ (∀ r ∈ rs, Good ls r ∧ r.length ≤ 14) ∧ rs.length ≤ 3 ∧ ∀ d, Thg 40 1000 9 d → k (.d d)
theorem s_law_bent_19559f55_0 : ∀ xs k e, s_law_bent_19559f55 xs k e → s_law_bent_19559f55 xs k fun _ => False := fun _ _ _ h => h

def w_law_bent_19559f55_r1 : WS :=
  wSeq (wAsg 5 true (wLst (wCons (wTup (wCons (wVar 2) (wNil))) (wCons (wTup (wCons (wVar 2) (wCons (wVar 3) (wCons (wTup (wNil)) (wNil))))) (wCons (wLst (wCons (wVar 2) (wCons (wVar 3) (wNil)))) (wCons (wTup (wCons (wVar 3) (wCons (wVar 2) (wNil)))) (wCons (wVar 2) (wCons (wVar 3) (wCons (wDic1 (wVar 2) (wVar 3)) (wNil))))))))))
  (wRet (wBin ixD (wVar 5) (wCall s_next (wCons (wVar 0) (wCons (wCB cbLen (wCons (wVar 5) (wNil))) (wNil))))))
def w_law_bent_19559f55_r2 : WS :=
  wSeq (wIf (wTest (wBin eqD (wVar 4) (wC (.int 5)))) (wRet (wCall s_law_many_rules_6813a6f4 (wCons (wVar 0) (wCons (wVar 1) (wNil))))) (wNext))
  (w_law_bent_19559f55_r1)
def w_law_bent_19559f55_r3 : WS :=
  wSeq (wIf (wTest (wBin ltD (wVar 4) (wC (.int 5)))) (wRet (wTup (wCons (wVar 2) (wCons (wCall s_law_odd_rules_6f8a0afc (wCons (wVar 0) (wCons (wVar 2) (wCons (wVar 3) (wNil))))) (wNil))))) (wNext))
  (w_law_bent_19559f55_r2)
def w_law_bent_19559f55 : WS :=
  wSeq (wAsgT (gTup2 2 (gCons2 (gN 2) (gCons2 (gN 3) (gNil2)))) (wVar 1))
  (wSeq (wAsg 4 true (wCall s_next (wCons (wVar 0) (wCons (wC (.int 8)) (wNil)))))
  (wSeq (wIf (wTest (wBin ltD (wVar 4) (wC (.int 2)))) (wRet (wTup (wCons (wCall s_law_odd_letters_1441443f (wCons (wVar 0) (wCons (wVar 2) (wNil)))) (wCons (wVar 3) (wNil))))) (wNext))
  (w_law_bent_19559f55_r3)))

theorem p_law_bent_19559f55 : ∀ xs k e, s_law_bent_19559f55 xs k e → runB w_law_bent_19559f55 xs k fun _ => False := by
  rintro xs k e ⟨ls, rs, rfl, L, l6, hg, l3, hk⟩
  have low := L.low
  have lm : (rs.map saD).length = rs.length := List.length_map _
  have R : ∀ {n : Nat}, Pls (n + 1) 213 9 (rs.map saD) := fun {n} => pls_map (b := 70) (m := 3) (fun r hr => pln_sa (m := 14) low (hg r hr).1.ltr (hg r hr).2) l3
  have T : ∀ {n : Nat}, Pln (n + 2) 213 9 (.tuple (rs.map saD)) := fun {n} => pln_T R
  have S : ∀ {n : Nat}, Pln n 6 9 (.str (SX.S ls)) := fun {n} => pln_S low l6 (by decide)
  obtain ⟨R1, eR1⟩ : ∃ R, R = w_law_bent_19559f55_r1 := ⟨_, rfl⟩
  obtain ⟨R2, eR2⟩ : ∃ R, R = w_law_bent_19559f55_r2 := ⟨_, rfl⟩
  obtain ⟨R3, eR3⟩ : ∃ R, R = w_law_bent_19559f55_r3 := ⟨_, rfl⟩
  unfold w_law_bent_19559f55
  rw [← eR3]
  (walk_at "bk T")
  intro w w0 w1
  by_cases h2 : w < 2
  · (walk_at "bk T")
    first | refine iteY' ?_ ?_ | refine recY ?_ ?_
    · exact decide_eq_true h2
    (walk_at "bk T")
    intro d hd
    have hfin : k (.d (.tuple [d, .tuple (rs.map saD)])) := hk _ ((thg_T (as := []) pls_nil (hd.mono (m := 5) (by decide) (Nat.le_refl _)) (pls_cons T pls_nil)).mono (by decide) (by decide))
    (walk_at "bk T")
    exact hfin
  (walk_at "bk T")
  first | refine iteN' ?_ ?_ | refine recN ?_ ?_
  · exact fun z => h2 (of_decide_eq_true z)
  (walk_at "bk T")
  rw [eR3]
  unfold w_law_bent_19559f55_r3
  rw [← eR2]
  by_cases h5 : w < 5
  · (walk_at "bk T")
    first | refine iteY' ?_ ?_ | refine recY ?_ ?_
    · exact decide_eq_true h5
    (walk_at "bk T")
    refine ⟨ls, rs, rfl, L, l6, hg, l3, fun d hd => ?_⟩
    have hfin : k (.d (.tuple [.str (SX.S ls), d])) := hk _ ((thg_T (as := [.str (SX.S ls)]) (pls_cons S pls_nil) hd pls_nil).mono (by decide) (by decide))
    (walk_at "bk T")
    exact hfin
  (walk_at "bk T")
  first | refine iteN' ?_ ?_ | refine recN ?_ ?_
  · exact fun z => h5 (of_decide_eq_true z)
  (walk_at "bk T")
  rw [eR2]
  unfold w_law_bent_19559f55_r2
  rw [← eR1]
  by_cases h6 : w = 5
  · (walk_at "bk T")
    first | refine iteY' ?_ ?_ | refine recY ?_ ?_
    · rw [h6]; rfl
    (walk_at "bk T")
    refine ⟨ls, rs, rfl, L, l6, hg, l3, fun d hd => ?_⟩
    have hfin : k (.d d) := hk _ (hd.mono (by decide) (by decide))
    (walk_at "bk T")
    exact hfin
  (walk_at "bk T")
  first | refine iteN' ?_ ?_ | refine recN ?_ ?_
  · rw [eqv_int, beq_iff_eq]; exact h6
  (walk_at "bk T")
  rw [eR1]
  unfold w_law_bent_19559f55_r1
  (walk_at "bk T")
  obtain ⟨M, hM⟩ : ∃ M, M = [PyData.tuple [PyData.str (SX.S ls)],
                PyData.tuple [PyData.str (SX.S ls), PyData.tuple (List.map saD rs), PyData.tuple []],
                PyData.list [PyData.str (SX.S ls), PyData.tuple (List.map saD rs)],
                PyData.tuple [PyData.tuple (List.map saD rs), PyData.str (SX.S ls)], PyData.str (SX.S ls),
                PyData.tuple (List.map saD rs),
                PyData.dict [(PyData.str (SX.S ls), PyData.tuple (List.map saD rs))]] := ⟨_, rfl⟩
  rw [← hM]
  have hm : ∀ d ∈ M, Thg 40 1000 9 d := by
    rw [hM]
    intro d hd
    simp only [List.mem_cons, List.not_mem_nil, or_false] at hd
    rcases hd with rfl | rfl | rfl | rfl | rfl | rfl | rfl
    · exact (pln_T (n := 5) (pls_cons S pls_nil)).t.mono (by decide) (by decide)
    · exact (pln_T (n := 5) (pls_cons S (pls_cons T (pls_cons (pln_T (n := 4) pls_nil) pls_nil)))).t.mono (by decide) (by decide)
    · exact (thg_L (n := 5) (pls_cons S (pls_cons T pls_nil))).mono (by decide) (by decide)
    · exact (pln_T (n := 5) (pls_cons T (pls_cons S pls_nil))).t.mono (by decide) (by decide)
    · exact (S (n := 40)).t.mono (by decide) (by decide)
    · exact (T (n := 38)).t.mono (by decide) (by decide)
    · exact (thg_dic1 (n := 5) S T).mono (by decide) (by decide)
  clear hM
  intro r r0 r1
  obtain ⟨d, hd, ed⟩ := atI_in r0 r1
  (walk_at "bk T")
  rw [ed]
  (walk_at "bk T")
  exact hk d (hm d hd)

theorem sc__law_bent : FnScope ["_law_drawn", "_law_house_here", "_law_letters_here", "_law_rules", "_law_way", "_law_some"] ["_law_drawn", "_law_house_here"] (defScope st__law_bent) := ⟨rfl, rfl, rfl, by decide +kernel, rfl, by decide +kernel, by decide +kernel⟩
theorem ok__law_bent (A : At K mg "_law_bent" st__law_bent ["_law_drawn", "_law_house_here"]) (sr : Sr P base) (d__law_next : Def2 P w K mg base "_law_next" 1 ["_law_drawn", "_law_many"] 1 2 s_next) (d__law_odd_letters : Def2 P w K mg base "_law_odd_letters" 2 ["_law_drawn", "_law_letters_here"] 2 2 s_law_odd_letters_1441443f) (d__law_odd_rules : Def2 P w K mg base "_law_odd_rules" 3 ["_law_drawn", "_law_letters_here", "_law_rules"] 23058430092136939525 3 s_law_odd_rules_6f8a0afc) (d__law_many_rules : Def2 P w K mg base "_law_many_rules" 2 ["_law_drawn", "_law_house_here"] 1 2 s_law_many_rules_6813a6f4) (z_len : mg "len" = none) : Def2 P w K mg base "_law_bent" 4 ["_law_drawn", "_law_house_here"] 23058430092136939530 2 s_law_bent_19559f55 := by
  obtain ⟨f, fd, F, hm, hb⟩ := A.ex
  refine ⟨f, fd, fn_ok (k := 3) (m := 23058430092136939530) (wb := w_law_bent_19559f55) sr F sc__law_bent rfl (fun cdv A outer sh H E hr hg => ?_) p_law_bent_19559f55, hm, F.kp, hb⟩
  exact JSs.cost (jss_cons (js_asgT (je_var 1) (jg_tup (jgs_cons (jg_name 2) (jgs_cons (jg_name 3) (jgs_nil)))))
    (jss_cons (js_asg 4 true (je_callD d__law_next s_next_0 (ja_cons (je_var 0) (ja_cons (je_int) (ja_nil)))))
    (jss_cons (js_if (jt_lt (je_var 4) (je_int)) (jss_one (js_ret (je_tup (ja_cons (je_callD d__law_odd_letters s_law_odd_letters_1441443f_0 (ja_cons (je_var 0) (ja_cons (je_var 2) (ja_nil)))) (ja_cons (je_var 3) (ja_nil)))))) (jss_nil))
    (jss_cons (js_if (jt_lt (je_var 4) (je_int)) (jss_one (js_ret (je_tup (ja_cons (je_var 2) (ja_cons (je_callD d__law_odd_rules s_law_odd_rules_6f8a0afc_0 (ja_cons (je_var 0) (ja_cons (je_var 2) (ja_cons (je_var 3) (ja_nil))))) (ja_nil)))))) (jss_nil))
    (jss_cons (js_if (jt_eq (je_var 4) (je_int)) (jss_one (js_ret (je_callD d__law_many_rules s_law_many_rules_6813a6f4_0 (ja_cons (je_var 0) (ja_cons (je_var 1) (ja_nil)))))) (jss_nil))
    (jss_cons (js_asg 5 true (je_lst (ja_cons (je_tup (ja_cons (je_var 2) (ja_nil))) (ja_cons (je_tup (ja_cons (je_var 2) (ja_cons (je_var 3) (ja_cons (je_tup (ja_nil)) (ja_nil))))) (ja_cons (je_lst (ja_cons (je_var 2) (ja_cons (je_var 3) (ja_nil)))) (ja_cons (je_tup (ja_cons (je_var 3) (ja_cons (je_var 2) (ja_nil)))) (ja_cons (je_var 2) (ja_cons (je_var 3) (ja_cons (je_dic1 (je_var 2) (je_var 3)) (ja_nil))))))))))
    (jss_one (js_ret (je_ix (je_var 5) (je_callD d__law_next s_next_0 (ja_cons (je_var 0) (ja_cons (je_len z_len (ja_cons (je_var 5) (ja_nil))) (ja_nil))))))))))))) (by decide)
abbrev st__law_told : Stmt := top 30
--USES house7
def s_law_told_6d5a733d : Spec2 := fun xs k _ => ∃ (z : Nat) (d : PyData), xs = [.d d] ∧ Thg 40 1000 z d ∧ k (.d (.bool true))
theorem s_law_told_6d5a733d_0 : ∀ xs k e, s_law_told_6d5a733d xs k e → s_law_told_6d5a733d xs k fun _ => False := fun _ _ _ h => h

def w_law_told_6d5a733d_l1 : WS :=
  wSeq (wAsg 4 true (wCall s_is_house_c7f63f58 (wCons (wVar 0) (wNil))))
  (wIf (wOr (wNot (wTest (wIsi "bool" (wVar 4)))) (wOr (wTest (wBin neD (wVar 4) (wVar 1))) (wTest (wBin neD (wCB cbRepr (wCons (wVar 0) (wNil))) (wVar 2))))) (wRet (wC (.bool false))) (wNext))
def w_law_told_6d5a733d_r1 : WS :=
  wRet (wC (.bool true))
def w_law_told_6d5a733d : WS :=
  wSeq (wAsg 1 true (wCall s_law_is_house_208e4ae9 (wCons (wVar 0) (wNil))))
  (wSeq (wAsg 2 true (wCB cbRepr (wCons (wVar 0) (wNil))))
  (wSeq (wFor (wRange (wCons (wC (.int 2)) (wNil))) (gN 3) w_law_told_6d5a733d_l1)
  (w_law_told_6d5a733d_r1)))

theorem p_law_told_6d5a733d : ∀ xs k e, s_law_told_6d5a733d xs k e → runB w_law_told_6d5a733d xs k fun _ => False := by
  rintro xs k e ⟨z, d, rfl, T, hk⟩
  have sh : True → ShyE 60 28000 d := fun _ => T.shy.mono (by decide) (by decide)
  obtain ⟨s, es⟩ : ∃ s, PyData.shown d = s := ⟨_, rfl⟩
  obtain ⟨c, hc⟩ : ∃ c : Int, c = 2 := ⟨_, rfl⟩
  unfold w_law_told_6d5a733d
  rw [← hc]
  have c8 : c.toNat = 2 := by rw [hc]; rfl
  rcases hoT_any T (Nat.le_refl _) with ⟨ls, rs, hd, hH⟩ | hN
  · (walk_at "bk T")
    refine .inl ⟨ls, rs, by rw [hd], hH, ?_⟩
    (walk_at "bk T")
    refine ⟨sh trivial, ?_⟩
    rw [es]
    (walk_at "bk T")
    rw [show (span 0 c.toNat) = [0, 1].map PyData.int by rw [c8]; rfl]
    refine forL_do (enc := PyData.int) (E := fun _ : Unit => [(0, .d d), (1, .d (.bool true)), (2, .d (.str s))]) (I := fun _ _ => True) [0, 1] () rfl (by repeat (first | exact trivial | refine And.intro (by first | exact rfl | (simp only [erase_map, List.map_append, List.map_cons, List.map_nil, List.nil_append, List.append_nil]; rfl)) ?_)) trivial ?_ ?_
    · rintro i is _ ρ D _ ih _ _ _ _
      unfold w_law_told_6d5a733d_l1
      (walk_at "bk T")
      refine .inl ⟨ls, rs, by rw [hd], hH, ?_⟩
      (walk_at "bk T")
      refine ⟨sh trivial, ?_⟩
      rw [es]
      (walk_at "bk T")
      first | refine iteN' ?_ ?_ | refine recN ?_ ?_
      · rw [eqv_str, beq_self_eq_true]; decide
      (walk_at "bk T")
      exact ih () _ trivial (by repeat (first | exact trivial | refine And.intro (by first | exact rfl | (simp only [erase_map, List.map_append, List.map_cons, List.map_nil, List.nil_append, List.append_nil]; rfl)) ?_))
    · rintro _ ρ _
      (walk_at "bk T")
      exact hk
  · (walk_at "bk T")
    refine .inr ⟨d, rfl, hN, ?_⟩
    (walk_at "bk T")
    refine ⟨sh trivial, ?_⟩
    rw [es]
    (walk_at "bk T")
    rw [show (span 0 c.toNat) = [0, 1].map PyData.int by rw [c8]; rfl]
    refine forL_do (enc := PyData.int) (E := fun _ : Unit => [(0, .d d), (1, .d (.bool false)), (2, .d (.str s))]) (I := fun _ _ => True) [0, 1] () rfl (by repeat (first | exact trivial | refine And.intro (by first | exact rfl | (simp only [erase_map, List.map_append, List.map_cons, List.map_nil, List.nil_append, List.append_nil]; rfl)) ?_)) trivial ?_ ?_
    · rintro i is _ ρ D _ ih _ _ _ _
      unfold w_law_told_6d5a733d_l1
      (walk_at "bk T")
      refine .inr ⟨d, rfl, hN, ?_⟩
      (walk_at "bk T")
      refine ⟨sh trivial, ?_⟩
      rw [es]
      (walk_at "bk T")
      first | refine iteN' ?_ ?_ | refine recN ?_ ?_
      · rw [eqv_str, beq_self_eq_true]; decide
      (walk_at "bk T")
      exact ih () _ trivial (by repeat (first | exact trivial | refine And.intro (by first | exact rfl | (simp only [erase_map, List.map_append, List.map_cons, List.map_nil, List.nil_append, List.append_nil]; rfl)) ?_))
    · rintro _ ρ _
      (walk_at "bk T")
      exact hk

theorem sc__law_told : FnScope ["_law_thing", "_law_due", "_law_kept", "_law_turn", "_law_found"] ["_law_thing"] (defScope st__law_told) := ⟨rfl, rfl, rfl, by decide +kernel, rfl, by decide +kernel, by decide +kernel⟩
theorem ok__law_told (A : At K mg "_law_told" st__law_told ["_law_thing"]) (sr : Sr P base) (d__law_is_house : Def2 P w K mg base "_law_is_house" 3 ["_law_thing"] 0 1 s_law_is_house_208e4ae9) (d_is_house : Def2 P w K mg base "is_house" 4 ["thing"] 0 1 s_is_house_c7f63f58) (z_repr : mg "repr" = none) (z_range : mg "range" = none) (z_isinstance : mg "isinstance" = none) (z_bool : mg "bool" = none) : Def2 P w K mg base "_law_told" 5 ["_law_thing"] 0 1 s_law_told_6d5a733d := by
  obtain ⟨f, fd, F, hm, hb⟩ := A.ex
  refine ⟨f, fd, fn_ok (k := 4) (m := 0) (wb := w_law_told_6d5a733d) sr F sc__law_told rfl (fun cdv A outer sh H E hr hg => ?_) p_law_told_6d5a733d, hm, F.kp, hb⟩
  exact JSs.cost (jss_cons (js_asg 1 true (je_callD d__law_is_house s_law_is_house_208e4ae9_0 (ja_cons (je_var 0) (ja_nil))))
    (jss_cons (js_asg 2 true (je_repr z_repr (ja_cons (je_var 0) (ja_nil))))
    (jss_cons (js_for (ji_range1 z_range (ja_cons (je_int) (ja_nil))) (jg_name 3) (jss_cons (js_asg 4 true (je_callD d_is_house s_is_house_c7f63f58_0 (ja_cons (je_var 0) (ja_nil))))
    (jss_one (js_if (JW.t (jw_or (jt_not (jt_val (je_isi z_isinstance z_bool (by decide +kernel) kit_bool (je_var 4)))) (jw_or (jt_ne (je_var 4) (je_var 1)) (jw_or1 (jt_ne (je_repr z_repr (ja_cons (je_var 0) (ja_nil))) (je_var 2)))))) (jss_one (js_ret (je_bl))) (jss_nil)))))
    (jss_one (js_ret (je_bl)))))) (by decide)
abbrev st_law : Stmt := top 31
--USES house7 bent5

def w_law_l1 : WS :=
  wIf (wNot (wTest (wCall s_law_told_6d5a733d (wCons (wCall s_law_bent_19559f55 (wCons (wVar 1) (wCons (wVar 3) (wNil)))) (wNil))))) (wRet (wC (.bool false))) (wNext)
def w_law_r1 : WS :=
  wFor (wRange (wCons (wC (.int 4)) (wNil))) (gN 4) w_law_l1
def w_law_l2 : WS :=
  wSeq (wAsg 3 true (wCall s_law_house_7e3c063c (wCons (wVar 1) (wCons (wC (.int 6)) (wNil)))))
  (wSeq (wIf (wNot (wTest (wCall s_law_told_6d5a733d (wCons (wVar 3) (wNil))))) (wRet (wC (.bool false))) (wNext))
  (w_law_r1))
def w_law_l3 : WS :=
  wIf (wNot (wTest (wCall s_law_told_6d5a733d (wCons (wVar 5) (wNil))))) (wRet (wC (.bool false))) (wNext)
def w_law_r2 : WS :=
  wRet (wC (.bool true))
def w_law_r3 : WS :=
  wSeq (wFor (wSeqI (wLst (wCons (wTup (wNil)) (wCons (wC .none) (wCons (wC (.bool true)) (wCons (wC (.int 0)) (wCons (wC (.str "")) (wCons (wTup (wCons (wC (.str "a")) (wNil))) (wCons (wTup (wCons (wC (.str "a")) (wCons (wTup (wNil)) (wNil)))) (wCons (wTup (wCons (wC (.str "a")) (wCons (wTup (wCons (wTup (wCons (wC (.str "no")) (wNil))) (wNil))) (wNil)))) (wCons (wTup (wCons (wC (.str "a")) (wCons (wTup (wCons (wTup (wCons (wC (.str "a")) (wNil))) (wCons (wTup (wCons (wC (.str "a")) (wCons (wC (.str "not")) (wNil)))) (wNil)))) (wNil)))) (wCons (wDic0) (wCons (wLst (wCons (wTup (wNil)) (wNil))) (wNil)))))))))))))) (gN 5) w_law_l3)
  (w_law_r2)
def w_law : WS :=
  wSeq (wFor (wRange (wCons (wC (.int 3)) (wNil))) (gN 2) w_law_l2)
  (w_law_r3)

theorem p_law : w_law { nx := fun _ => False, rt := fun y => y = .d (.bool true) } (upE (fun _ => none) 1 (some .drw)) := by
  obtain ⟨R3, hR3⟩ : ∃ R, R = w_law_r3 := ⟨_, rfl⟩
  obtain ⟨c, hc⟩ : ∃ c : Int, c = 3 := ⟨_, rfl⟩
  unfold w_law
  rw [← hR3, ← hc]
  have c3 : c.toNat = 3 := by rw [hc]; rfl
  (walk_at "bk T")
  rw [show (span 0 c.toNat) = [0, 1, 2].map PyData.int by rw [c3]; rfl]
  refine forL_do (enc := PyData.int) (E := fun _ : Unit => [(1, .drw)]) (I := fun _ _ => True) [0, 1, 2] () rfl (by repeat (first | exact trivial | refine And.intro (by first | exact rfl | (simp only [erase_map, List.map_append, List.map_cons, List.map_nil, List.nil_append, List.append_nil]; rfl)) ?_)) trivial ?_ ?_
  · rintro i is _ ρ D _ ih _ _ _ _
    unfold w_law_l2
    obtain ⟨R1, hR1⟩ : ∃ R, R = w_law_r1 := ⟨_, rfl⟩
    rw [← hR1]
    (walk_at "bk T")
    intro ls rs hH h6 l3 hg
    have g14 : ∀ r ∈ rs, Good ls r ∧ r.length ≤ 14 := fun r hr => ⟨(hH.good r hr).1, hg r hr⟩
    have Z : Thg 40 1000 9 (hoD ls rs) := (pln_T (n := 5) (pls_cons (pln_S hH.ltrs.low hH.le6 (by decide)) (pls_cons (pln_T (n := 4) (pls_map (b := 70) (m := 3) (fun r hr => pln_sa (m := 14) hH.ltrs.low (g14 r hr).1.ltr (g14 r hr).2) l3)) pls_nil))).t.mono (by decide) (by decide)
    (walk_at "bk T")
    refine ⟨9, _, rfl, Z, ?_⟩
    (walk_at "bk T")
    rw [hR1]
    unfold w_law_r1
    obtain ⟨b, hb⟩ : ∃ b : Int, b = 4 := ⟨_, rfl⟩
    rw [← hb]
    have b4 : b.toNat = 4 := by rw [hb]; rfl
    (walk_at "bk T")
    rw [show (span 0 b.toNat) = [0, 1, 2, 3].map PyData.int by rw [b4]; rfl]
    refine forL_do (enc := PyData.int) (E := fun _ : Unit => [(1, .drw), (3, .d (hoD ls rs))]) (I := fun _ _ => True) [0, 1, 2, 3] () rfl (by repeat (first | exact trivial | refine And.intro (by first | exact rfl | (simp only [erase_map, List.map_append, List.map_cons, List.map_nil, List.nil_append, List.append_nil]; rfl)) ?_)) trivial ?_ ?_
    · rintro j js _ ρ D _ ih2 _ _ _ _
      unfold w_law_l1
      (walk_at "bk T")
      refine ⟨ls, rs, rfl, hH.ltrs, hH.le6, g14, l3, fun d hd => ?_⟩
      (walk_at "bk T")
      refine ⟨9, d, rfl, hd, ?_⟩
      (walk_at "bk T")
      exact ih2 () _ trivial (by repeat (first | exact trivial | refine And.intro (by first | exact rfl | (simp only [erase_map, List.map_append, List.map_cons, List.map_nil, List.nil_append, List.append_nil]; rfl)) ?_))
    · rintro _ ρ _
      exact ih () _ trivial (by repeat (first | exact trivial | refine And.intro (by first | exact rfl | (simp only [erase_map, List.map_append, List.map_cons, List.map_nil, List.nil_append, List.append_nil]; rfl)) ?_))
  · rintro _ ρ _
    rw [hR3]
    unfold w_law_r3
    have w : ∀ {n : Nat} (s : Str), (∀ c ∈ s.cps.toList, c < 1114112) → s.cps.size ≤ 4 → Pln n 4 9 (.str s) := fun s h l => pln_str h l (by decide)
    have tp : ∀ {ds : List PyData} {b : Nat}, Pls 9 b 9 ds → b ≤ 1000 → Thg 40 1000 9 (.tuple ds) := fun h l => (pln_T h).t.mono (by decide) l
    (walk_at "bk T")
    refine ⟨9, _, rfl, (tp pls_nil (by decide)), ?_⟩
    (walk_at "bk T")
    refine ⟨9, _, rfl, pln_none.t, ?_⟩
    (walk_at "bk T")
    refine ⟨9, _, rfl, (pln_bool _).t, ?_⟩
    (walk_at "bk T")
    refine ⟨9, _, rfl, (pln_int (by decide) (by decide)).t, ?_⟩
    (walk_at "bk T")
    refine ⟨9, _, rfl, (w (n := 9) _ (by decide) (by decide)).t.mono (by decide) (by decide), ?_⟩
    (walk_at "bk T")
    refine ⟨9, _, rfl, tp (pls_cons (w _ (by decide) (by decide)) pls_nil) (by decide), ?_⟩
    (walk_at "bk T")
    refine ⟨9, _, rfl, tp (pls_cons (w _ (by decide) (by decide)) (pls_cons (pln_T (n := 8) pls_nil) pls_nil)) (by decide), ?_⟩
    (walk_at "bk T")
    refine ⟨9, _, rfl, tp (pls_cons (w _ (by decide) (by decide)) (pls_cons (pln_T (n := 8) (pls_cons (pln_T (n := 7) (pls_cons (w _ (by decide) (by decide)) pls_nil)) pls_nil)) pls_nil)) (by decide), ?_⟩
    (walk_at "bk T")
    refine ⟨9, _, rfl, tp (pls_cons (w _ (by decide) (by decide)) (pls_cons (pln_T (n := 8) (pls_cons (pln_T (n := 7) (pls_cons (w _ (by decide) (by decide)) pls_nil)) (pls_cons (pln_T (n := 7) (pls_cons (w _ (by decide) (by decide)) (pls_cons (w _ (by decide) (by decide)) pls_nil))) pls_nil))) pls_nil)) (by decide), ?_⟩
    (walk_at "bk T")
    refine ⟨9, _, rfl, (thg_dic0 (n := 8)).mono (by decide) (by decide), ?_⟩
    (walk_at "bk T")
    refine ⟨9, _, rfl, (thg_L (n := 9) (pls_cons (pln_T (n := 8) pls_nil) pls_nil)).mono (by decide) (by decide), ?_⟩
    (walk_at "bk T")

theorem sc_law : FnScope ["_law_script", "_law_drawn", "_law_k", "_law_house_here", "_law_turn", "_law_thing"] ["_law_script"] (defScope st_law) := ⟨rfl, rfl, rfl, by decide +kernel, rfl, by decide +kernel, by decide +kernel⟩
theorem final_law {f : Addr} {fd : FuncData} (F : Fun K "law" "law" st_law f fd) (hm : mg "law" = some (.ref f)) (hb : ∀ (s : Shared) (v : Value), BindsTo s fd ⟨[v], []⟩ [("_law_script", v)]) (dd : DrawsAt P w K mg base) (sr : Sr P base) (d__law_house : Def2 P w K mg base "_law_house" 3 ["_law_drawn", "_law_most"] 106338239662793269841527936859282341890 2 s_law_house_7e3c063c) (d__law_told : Def2 P w K mg base "_law_told" 5 ["_law_thing"] 0 1 s_law_told_6d5a733d) (d__law_bent : Def2 P w K mg base "_law_bent" 4 ["_law_drawn", "_law_house_here"] 23058430092136939530 2 s_law_bent_19559f55) (z_range : mg "range" = none) : FnG P w K mg base CX0 6 f fd ["_law_script"] (spLaw K) := by
  obtain ⟨fD, fdD, FD, hmD, hkD, hbD⟩ := dd.ex
  refine fn_law (k := 5) (m := 980797146154168869604553872566901725122747365808186327040) (wb := w_law) sr F sc_law rfl (by decide) (fun cdv A outer sh H E hr hg => ps_set (i := 1) sc_law.nd rfl (by first | exact Or.inl rfl | exact Or.inr rfl) (pe_callG FD (hg.mono (by decide)) (hr.mono (by decide)) rfl hmD hkD hbD .nil pass0 (pa_cons (pv 0) pa_nil))) (fun cdv A outer sh H E hr hg => ?_) (by unfold LIM; decide) p_law
  exact JSs.cost (jss_cons (js_for (ji_range1 z_range (ja_cons (je_int) (ja_nil))) (jg_name 2) (jss_cons (js_asg 3 true (je_callD d__law_house s_law_house_7e3c063c_0 (ja_cons (je_var 1) (ja_cons (je_int) (ja_nil)))))
    (jss_cons (js_if (jt_not (jt_val (je_callD d__law_told s_law_told_6d5a733d_0 (ja_cons (je_var 3) (ja_nil))))) (jss_one (js_ret (je_bl))) (jss_nil))
    (jss_one (js_for (ji_range1 z_range (ja_cons (je_int) (ja_nil))) (jg_name 4) (jss_one (js_if (jt_not (jt_val (je_callD d__law_told s_law_told_6d5a733d_0 (ja_cons (je_callD d__law_bent s_law_bent_19559f55_0 (ja_cons (je_var 1) (ja_cons (je_var 3) (ja_nil)))) (ja_nil))))) (jss_one (js_ret (je_bl))) (jss_nil))))))))
    (jss_cons (js_for (ji_seq (je_lst (ja_cons (je_tup (ja_nil)) (ja_cons (je_non) (ja_cons (je_bl) (ja_cons (je_int) (ja_cons (je_str) (ja_cons (je_tup (ja_cons (je_str) (ja_nil))) (ja_cons (je_tup (ja_cons (je_str) (ja_cons (je_tup (ja_nil)) (ja_nil)))) (ja_cons (je_tup (ja_cons (je_str) (ja_cons (je_tup (ja_cons (je_tup (ja_cons (je_str) (ja_nil))) (ja_nil))) (ja_nil)))) (ja_cons (je_tup (ja_cons (je_str) (ja_cons (je_tup (ja_cons (je_tup (ja_cons (je_str) (ja_nil))) (ja_cons (je_tup (ja_cons (je_str) (ja_cons (je_str) (ja_nil)))) (ja_nil)))) (ja_nil)))) (ja_cons (je_dic0) (ja_cons (je_lst (ja_cons (je_tup (ja_nil)) (ja_nil))) (ja_nil)))))))))))))) (jg_name 5) (jss_one (js_if (jt_not (jt_val (je_callD d__law_told s_law_told_6d5a733d_0 (ja_cons (je_var 5) (ja_nil))))) (jss_one (js_ret (je_bl))) (jss_nil))))
    (jss_one (js_ret (je_bl))))) (by decide)
theorem final {fa : Addr} (hfa : mg "law" = some (.ref fa)) (tree : P.given.tree = none) (A_wanted_by : At K mg "wanted_by" st_wanted_by ["letters", "word"]) (A_is_saying : At K mg "is_saying" st_is_saying ["letters", "thing"]) (A_is_so : At K mg "is_so" st_is_so ["letters", "word", "world"]) (A_are_so : At K mg "are_so" st_are_so ["word", "one", "other"]) (A_holds : At K mg "holds" st_holds ["letters", "saying", "world"]) (A_are_letters : At K mg "are_letters" st_are_letters ["thing"]) (A_all_worlds : At K mg "all_worlds" st_all_worlds ["letters"]) (A_worlds_of : At K mg "worlds_of" st_worlds_of ["house"]) (A_is_house : At K mg "is_house" st_is_house ["thing"]) (A__law_draws : At K mg "_law_draws" st__law_draws ["_law_script"]) (A__law_next : At K mg "_law_next" st__law_next ["_law_drawn", "_law_many"]) (A__law_letters : At K mg "_law_letters" st__law_letters ["_law_drawn", "_law_most"]) (A__law_saying : At K mg "_law_saying" st__law_saying ["_law_drawn", "_law_letters_here", "_law_leaves"]) (A__law_holds : At K mg "_law_holds" st__law_holds ["_law_letters_here", "_law_saying_here", "_law_world"]) (A__law_worlds : At K mg "_law_worlds" st__law_worlds ["_law_house_here"]) (A__law_house : At K mg "_law_house" st__law_house ["_law_drawn", "_law_most"]) (A__law_is_saying : At K mg "_law_is_saying" st__law_is_saying ["_law_letters_here", "_law_thing"]) (A__law_are_letters : At K mg "_law_are_letters" st__law_are_letters ["_law_thing"]) (A__law_is_house : At K mg "_law_is_house" st__law_is_house ["_law_thing"]) (A__law_many_rules : At K mg "_law_many_rules" st__law_many_rules ["_law_drawn", "_law_house_here"]) (A__law_odd_letters : At K mg "_law_odd_letters" st__law_odd_letters ["_law_drawn", "_law_letters_here"]) (A__law_odd_rules : At K mg "_law_odd_rules" st__law_odd_rules ["_law_drawn", "_law_letters_here", "_law_rules"]) (A__law_bent : At K mg "_law_bent" st__law_bent ["_law_drawn", "_law_house_here"]) (A__law_told : At K mg "_law_told" st__law_told ["_law_thing"]) (A_law : LawAt K mg "law" st_law "_law_script") (z_len : mg "len" = none) (z_isinstance : mg "isinstance" = none) (z_tuple : mg "tuple" = none) (z_str : mg "str" = none) (z_range : mg "range" = none) (z_all : mg "all" = none) (z_list : mg "list" = none) (z_int : mg "int" = none) (z_sorted : mg "sorted" = none) (z_max : mg "max" = none) (z_min : mg "min" = none) (z_set : mg "set" = none) (z_repr : mg "repr" = none) (z_bool : mg "bool" = none) (c_MOST_WORDS : ∃ t, mg "MOST_WORDS" = some (.int 40 t)) (c_MOST_LETTERS : ∃ t, mg "MOST_LETTERS" = some (.int 6 t)) (c_MOST_RULES : ∃ t, mg "MOST_RULES" = some (.int 8 t)) : ∃ fd : FuncData, (∀ (s : Shared) (v : Value), BindsTo s fd ⟨[v], []⟩ [("_law_script", v)]) ∧ ∀ base : Heap, K.In base → base.Ns mainGlobals mg → base.NoSeer → FnG P w K mg base CX0 6 fa fd ["_law_script"] (spLaw K) := by
  obtain ⟨f0, fd0, F0, hm0, hb0⟩ := A_law.ex
  have e := hfa.symm.trans hm0
  cases e
  refine ⟨fd0, hb0, fun base _ _ seer => ?_⟩
  have sr : Sr P base := ⟨tree, seer⟩
  have A_law0 : LawAt K mg "law" st_law "_law_script" := ⟨fa, fd0, F0, hm0, hb0⟩
  have d_wanted_by : Def2 P w K mg base "wanted_by" 1 ["letters", "word"] 0 2 s_wanted_by_d2db2b6d := ok_wanted_by A_wanted_by sr z_len
  have d_is_saying : Def2 P w K mg base "is_saying" 2 ["letters", "thing"] 0 2 s_is_saying_58a5f100 := ok_is_saying A_is_saying sr d_wanted_by z_isinstance z_tuple z_len z_str c_MOST_WORDS
  have d_is_so : Def2 P w K mg base "is_so" 1 ["letters", "word", "world"] 0 3 s_is_so_60535c5e := ok_is_so A_is_so sr z_len
  have d_are_so : Def2 P w K mg base "are_so" 1 ["word", "one", "other"] 0 3 s_are_so_582f24e5 := ok_are_so A_are_so sr
  have d_holds : Def2 P w K mg base "holds" 2 ["letters", "saying", "world"] 0 3 s_holds_521d0c22 := ok_holds A_holds sr d_are_so d_is_so
  have d_are_letters : Def2 P w K mg base "are_letters" 1 ["thing"] 0 1 s_are_letters_fdaaf2e9 := ok_are_letters A_are_letters sr z_isinstance z_str z_len z_range c_MOST_LETTERS
  have d_all_worlds : Def2 P w K mg base "all_worlds" 1 ["letters"] 0 1 s_all_worlds_5a3d0917 := ok_all_worlds A_all_worlds sr z_len z_range
  have d_worlds_of : Def2 P w K mg base "worlds_of" 3 ["house"] 0 1 s_worlds_of_f0222a84 := ok_worlds_of A_worlds_of sr d_all_worlds d_holds z_tuple
  have d_is_house : Def2 P w K mg base "is_house" 4 ["thing"] 0 1 s_is_house_c7f63f58 := ok_is_house A_is_house sr d_are_letters d_is_saying d_worlds_of z_isinstance z_tuple z_len z_all c_MOST_RULES
  have dd : DrawsAt P w K mg base := ok__law_draws A__law_draws z_len z_list z_int
  have d__law_next : Def2 P w K mg base "_law_next" 1 ["_law_drawn", "_law_many"] 1 2 s_next := ok__law_next A__law_next z_len
  have d__law_letters : Def2 P w K mg base "_law_letters" 2 ["_law_drawn", "_law_most"] 4611686018427387905 2 s_law_letters_0b4e421b := ok__law_letters A__law_letters sr d__law_next z_list z_range z_len z_sorted
  have d__law_saying : Def2 P w K mg base "_law_saying" 2 ["_law_drawn", "_law_letters_here", "_law_leaves"] 23058430092136939521 3 s_law_saying_10961deb := ok__law_saying A__law_saying sr d__law_next z_range z_len
  have d__law_holds : Def2 P w K mg base "_law_holds" 1 ["_law_letters_here", "_law_saying_here", "_law_world"] 0 3 s_law_holds_2ff681ad := ok__law_holds A__law_holds sr z_max z_int
  have d__law_worlds : Def2 P w K mg base "_law_worlds" 2 ["_law_house_here"] 0 1 s_law_worlds_e8e07422 := ok__law_worlds A__law_worlds sr d__law_holds z_len z_range z_str z_tuple
  have d__law_house : Def2 P w K mg base "_law_house" 3 ["_law_drawn", "_law_most"] 106338239662793269841527936859282341890 2 s_law_house_7e3c063c := ok__law_house A__law_house sr d__law_letters d__law_next d__law_saying d__law_worlds z_range
  have d__law_is_saying : Def2 P w K mg base "_law_is_saying" 1 ["_law_letters_here", "_law_thing"] 0 2 s_law_is_saying_7c7558f3 := ok__law_is_saying A__law_is_saying sr z_isinstance z_tuple z_len z_str
  have d__law_are_letters : Def2 P w K mg base "_law_are_letters" 1 ["_law_thing"] 0 1 s_law_are_letters_ab07542e := ok__law_are_letters A__law_are_letters sr z_isinstance z_str z_len z_min z_sorted z_set
  have d__law_is_house : Def2 P w K mg base "_law_is_house" 3 ["_law_thing"] 0 1 s_law_is_house_208e4ae9 := ok__law_is_house A__law_is_house sr d__law_are_letters d__law_is_saying d__law_worlds z_isinstance z_tuple z_len
  have d__law_many_rules : Def2 P w K mg base "_law_many_rules" 2 ["_law_drawn", "_law_house_here"] 1 2 s_law_many_rules_6813a6f4 := ok__law_many_rules A__law_many_rules sr d__law_next
  have d__law_odd_letters : Def2 P w K mg base "_law_odd_letters" 2 ["_law_drawn", "_law_letters_here"] 2 2 s_law_odd_letters_1441443f := ok__law_odd_letters A__law_odd_letters sr d__law_next z_len z_list z_tuple
  have d__law_odd_rules : Def2 P w K mg base "_law_odd_rules" 3 ["_law_drawn", "_law_letters_here", "_law_rules"] 23058430092136939525 3 s_law_odd_rules_6f8a0afc := ok__law_odd_rules A__law_odd_rules sr d__law_saying d__law_next z_len z_list
  have d__law_bent : Def2 P w K mg base "_law_bent" 4 ["_law_drawn", "_law_house_here"] 23058430092136939530 2 s_law_bent_19559f55 := ok__law_bent A__law_bent sr d__law_next d__law_odd_letters d__law_odd_rules d__law_many_rules z_len
  have d__law_told : Def2 P w K mg base "_law_told" 5 ["_law_thing"] 0 1 s_law_told_6d5a733d := ok__law_told A__law_told sr d__law_is_house d_is_house z_repr z_range z_isinstance z_bool
  exact final_law F0 hm0 hb0 dd sr d__law_house d__law_told d__law_bent z_range
abbrev at_wanted_by := @at_mk2 K mg "wanted_by" st_wanted_by ["letters", "word"] (fun _ _ _ _ _ _ us hl => match us, hl with | [_, _], _ => rfl)
abbrev at_is_saying := @at_mk2 K mg "is_saying" st_is_saying ["letters", "thing"] (fun _ _ _ _ _ _ us hl => match us, hl with | [_, _], _ => rfl)
abbrev at_is_so := @at_mk2 K mg "is_so" st_is_so ["letters", "word", "world"] (fun _ _ _ _ _ _ us hl => match us, hl with | [_, _, _], _ => rfl)
abbrev at_are_so := @at_mk2 K mg "are_so" st_are_so ["word", "one", "other"] (fun _ _ _ _ _ _ us hl => match us, hl with | [_, _, _], _ => rfl)
abbrev at_holds := @at_mk2 K mg "holds" st_holds ["letters", "saying", "world"] (fun _ _ _ _ _ _ us hl => match us, hl with | [_, _, _], _ => rfl)
abbrev at_are_letters := @at_mk2 K mg "are_letters" st_are_letters ["thing"] (fun _ _ _ _ _ _ us hl => match us, hl with | [_], _ => rfl)
abbrev at_all_worlds := @at_mk2 K mg "all_worlds" st_all_worlds ["letters"] (fun _ _ _ _ _ _ us hl => match us, hl with | [_], _ => rfl)
abbrev at_worlds_of := @at_mk2 K mg "worlds_of" st_worlds_of ["house"] (fun _ _ _ _ _ _ us hl => match us, hl with | [_], _ => rfl)
abbrev at_is_house := @at_mk2 K mg "is_house" st_is_house ["thing"] (fun _ _ _ _ _ _ us hl => match us, hl with | [_], _ => rfl)
abbrev at__law_draws := @at_mk2 K mg "_law_draws" st__law_draws ["_law_script"] (fun _ _ _ _ _ _ us hl => match us, hl with | [_], _ => rfl)
abbrev at__law_next := @at_mk2 K mg "_law_next" st__law_next ["_law_drawn", "_law_many"] (fun _ _ _ _ _ _ us hl => match us, hl with | [_, _], _ => rfl)
abbrev at__law_letters := @at_mk2 K mg "_law_letters" st__law_letters ["_law_drawn", "_law_most"] (fun _ _ _ _ _ _ us hl => match us, hl with | [_, _], _ => rfl)
abbrev at__law_saying := @at_mk2 K mg "_law_saying" st__law_saying ["_law_drawn", "_law_letters_here", "_law_leaves"] (fun _ _ _ _ _ _ us hl => match us, hl with | [_, _, _], _ => rfl)
abbrev at__law_holds := @at_mk2 K mg "_law_holds" st__law_holds ["_law_letters_here", "_law_saying_here", "_law_world"] (fun _ _ _ _ _ _ us hl => match us, hl with | [_, _, _], _ => rfl)
abbrev at__law_worlds := @at_mk2 K mg "_law_worlds" st__law_worlds ["_law_house_here"] (fun _ _ _ _ _ _ us hl => match us, hl with | [_], _ => rfl)
abbrev at__law_house := @at_mk2 K mg "_law_house" st__law_house ["_law_drawn", "_law_most"] (fun _ _ _ _ _ _ us hl => match us, hl with | [_, _], _ => rfl)
abbrev at__law_is_saying := @at_mk2 K mg "_law_is_saying" st__law_is_saying ["_law_letters_here", "_law_thing"] (fun _ _ _ _ _ _ us hl => match us, hl with | [_, _], _ => rfl)
abbrev at__law_are_letters := @at_mk2 K mg "_law_are_letters" st__law_are_letters ["_law_thing"] (fun _ _ _ _ _ _ us hl => match us, hl with | [_], _ => rfl)
abbrev at__law_is_house := @at_mk2 K mg "_law_is_house" st__law_is_house ["_law_thing"] (fun _ _ _ _ _ _ us hl => match us, hl with | [_], _ => rfl)
abbrev at__law_many_rules := @at_mk2 K mg "_law_many_rules" st__law_many_rules ["_law_drawn", "_law_house_here"] (fun _ _ _ _ _ _ us hl => match us, hl with | [_, _], _ => rfl)
abbrev at__law_odd_letters := @at_mk2 K mg "_law_odd_letters" st__law_odd_letters ["_law_drawn", "_law_letters_here"] (fun _ _ _ _ _ _ us hl => match us, hl with | [_, _], _ => rfl)
abbrev at__law_odd_rules := @at_mk2 K mg "_law_odd_rules" st__law_odd_rules ["_law_drawn", "_law_letters_here", "_law_rules"] (fun _ _ _ _ _ _ us hl => match us, hl with | [_, _, _], _ => rfl)
abbrev at__law_bent := @at_mk2 K mg "_law_bent" st__law_bent ["_law_drawn", "_law_house_here"] (fun _ _ _ _ _ _ us hl => match us, hl with | [_, _], _ => rfl)
abbrev at__law_told := @at_mk2 K mg "_law_told" st__law_told ["_law_thing"] (fun _ _ _ _ _ _ us hl => match us, hl with | [_], _ => rfl)
theorem at_law {h : Heap} {f : Addr} {od an : Option Addr} {sl : Array (Option Value)} {oc kV dc pm cd ct : Value} (X : K.In h) (G : h.Ns mainGlobals mg) (a : PySem.W.nsIn K mainGlobals "law" = some (some (.ref f))) (l : K.lookup f = some ⟨oc, od, .func (PySem.W.fnOf "law" "law" (defArgs st_law) (defBody st_law) (defScope st_law) .none kV dc pm an cd ct), sl⟩) (c : PySem.W.codeIn K cd "law" = true) (k : PySem.W.keepIn K (.ref f) = true) : LawAt K mg "law" st_law "_law_script" := law_mk X G (fun _ _ _ _ _ _ s v => .of_eq rfl) a l c k
end Kk07
open PySem PySem.W PyProof.Rows
set_option maxRecDepth 100000 in
set_option maxHeartbeats 0 in
theorem PySem.Challenge.cw_betstall_k07_houses_or_not_holds : PySem.Challenge.rw_betstall_k07_houses_or_not.Holds :=
  k07_head (by
  k_fill
  refine B2.walk_ofG (l := PySem.Challenge.rw_betstall_k07_houses_or_not) (n := 63) (k := 6) (x := "_law_script") (CX := fun _ => L2.CX0) (sp := fun w => B2.spLaw _) rfl (by decide) rfl ⟨rfl, by decide, by decide⟩ ⟨rfl, by decide⟩ (by decide +kernel) (fun w h Y => PySem.W.kIn_of Y) ?F (fun _ _ a ns hl _ hS => ⟨a, ns, rfl, hS, hl, fun _ => rfl⟩) (fun _ _ _ _ _ h => h)
  case F =>
    intro w mg fa h KX G hmg
    refine' Kk07.final hmg rfl (Kk07.at_wanted_by KX G ?a_wanted_by ?l_wanted_by ?c_wanted_by ?k_wanted_by) (Kk07.at_is_saying KX G ?a_is_saying ?l_is_saying ?c_is_saying ?k_is_saying) (Kk07.at_is_so KX G ?a_is_so ?l_is_so ?c_is_so ?k_is_so) (Kk07.at_are_so KX G ?a_are_so ?l_are_so ?c_are_so ?k_are_so) (Kk07.at_holds KX G ?a_holds ?l_holds ?c_holds ?k_holds) (Kk07.at_are_letters KX G ?a_are_letters ?l_are_letters ?c_are_letters ?k_are_letters) (Kk07.at_all_worlds KX G ?a_all_worlds ?l_all_worlds ?c_all_worlds ?k_all_worlds) (Kk07.at_worlds_of KX G ?a_worlds_of ?l_worlds_of ?c_worlds_of ?k_worlds_of) (Kk07.at_is_house KX G ?a_is_house ?l_is_house ?c_is_house ?k_is_house) (Kk07.at__law_draws KX G ?a__law_draws ?l__law_draws ?c__law_draws ?k__law_draws) (Kk07.at__law_next KX G ?a__law_next ?l__law_next ?c__law_next ?k__law_next) (Kk07.at__law_letters KX G ?a__law_letters ?l__law_letters ?c__law_letters ?k__law_letters) (Kk07.at__law_saying KX G ?a__law_saying ?l__law_saying ?c__law_saying ?k__law_saying) (Kk07.at__law_holds KX G ?a__law_holds ?l__law_holds ?c__law_holds ?k__law_holds) (Kk07.at__law_worlds KX G ?a__law_worlds ?l__law_worlds ?c__law_worlds ?k__law_worlds) (Kk07.at__law_house KX G ?a__law_house ?l__law_house ?c__law_house ?k__law_house) (Kk07.at__law_is_saying KX G ?a__law_is_saying ?l__law_is_saying ?c__law_is_saying ?k__law_is_saying) (Kk07.at__law_are_letters KX G ?a__law_are_letters ?l__law_are_letters ?c__law_are_letters ?k__law_are_letters) (Kk07.at__law_is_house KX G ?a__law_is_house ?l__law_is_house ?c__law_is_house ?k__law_is_house) (Kk07.at__law_many_rules KX G ?a__law_many_rules ?l__law_many_rules ?c__law_many_rules ?k__law_many_rules) (Kk07.at__law_odd_letters KX G ?a__law_odd_letters ?l__law_odd_letters ?c__law_odd_letters ?k__law_odd_letters) (Kk07.at__law_odd_rules KX G ?a__law_odd_rules ?l__law_odd_rules ?c__law_odd_rules ?k__law_odd_rules) (Kk07.at__law_bent KX G ?a__law_bent ?l__law_bent ?c__law_bent ?k__law_bent) (Kk07.at__law_told KX G ?a__law_told ?l__law_told ?c__law_told ?k__law_told) (Kk07.at_law KX G ?a_law ?l_law ?c_law ?k_law) (PySem.W.mg_none_of KX G ?z_len) (PySem.W.mg_none_of KX G ?z_isinstance) (PySem.W.mg_none_of KX G ?z_tuple) (PySem.W.mg_none_of KX G ?z_str) (PySem.W.mg_none_of KX G ?z_range) (PySem.W.mg_none_of KX G ?z_all) (PySem.W.mg_none_of KX G ?z_list) (PySem.W.mg_none_of KX G ?z_int) (PySem.W.mg_none_of KX G ?z_sorted) (PySem.W.mg_none_of KX G ?z_max) (PySem.W.mg_none_of KX G ?z_min) (PySem.W.mg_none_of KX G ?z_set) (PySem.W.mg_none_of KX G ?z_repr) (PySem.W.mg_none_of KX G ?z_bool) (B2.const_int KX G ?g_MOST_WORDS) (B2.const_int KX G ?g_MOST_LETTERS) (B2.const_int KX G ?g_MOST_RULES)
    (case a_wanted_by => k_is)
    (case l_wanted_by => k_is)
    (case c_wanted_by => k_is)
    (case k_wanted_by => k_is)
    (case a_is_saying => k_is)
    (case l_is_saying => k_is)
    (case c_is_saying => k_is)
    (case k_is_saying => k_is)
    (case a_is_so => k_is)
    (case l_is_so => k_is)
    (case c_is_so => k_is)
    (case k_is_so => k_is)
    (case a_are_so => k_is)
    (case l_are_so => k_is)
    (case c_are_so => k_is)
    (case k_are_so => k_is)
    (case a_holds => k_is)
    (case l_holds => k_is)
    (case c_holds => k_is)
    (case k_holds => k_is)
    (case a_are_letters => k_is)
    (case l_are_letters => k_is)
    (case c_are_letters => k_is)
    (case k_are_letters => k_is)
    (case a_all_worlds => k_is)
    (case l_all_worlds => k_is)
    (case c_all_worlds => k_is)
    (case k_all_worlds => k_is)
    (case a_worlds_of => k_is)
    (case l_worlds_of => k_is)
    (case c_worlds_of => k_is)
    (case k_worlds_of => k_is)
    (case a_is_house => k_is)
    (case l_is_house => k_is)
    (case c_is_house => k_is)
    (case k_is_house => k_is)
    (case a__law_draws => k_is)
    (case l__law_draws => k_is)
    (case c__law_draws => k_is)
    (case k__law_draws => k_is)
    (case a__law_next => k_is)
    (case l__law_next => k_is)
    (case c__law_next => k_is)
    (case k__law_next => k_is)
    (case a__law_letters => k_is)
    (case l__law_letters => k_is)
    (case c__law_letters => k_is)
    (case k__law_letters => k_is)
    (case a__law_saying => k_is)
    (case l__law_saying => k_is)
    (case c__law_saying => k_is)
    (case k__law_saying => k_is)
    (case a__law_holds => k_is)
    (case l__law_holds => k_is)
    (case c__law_holds => k_is)
    (case k__law_holds => k_is)
    (case a__law_worlds => k_is)
    (case l__law_worlds => k_is)
    (case c__law_worlds => k_is)
    (case k__law_worlds => k_is)
    (case a__law_house => k_is)
    (case l__law_house => k_is)
    (case c__law_house => k_is)
    (case k__law_house => k_is)
    (case a__law_is_saying => k_is)
    (case l__law_is_saying => k_is)
    (case c__law_is_saying => k_is)
    (case k__law_is_saying => k_is)
    (case a__law_are_letters => k_is)
    (case l__law_are_letters => k_is)
    (case c__law_are_letters => k_is)
    (case k__law_are_letters => k_is)
    (case a__law_is_house => k_is)
    (case l__law_is_house => k_is)
    (case c__law_is_house => k_is)
    (case k__law_is_house => k_is)
    (case a__law_many_rules => k_is)
    (case l__law_many_rules => k_is)
    (case c__law_many_rules => k_is)
    (case k__law_many_rules => k_is)
    (case a__law_odd_letters => k_is)
    (case l__law_odd_letters => k_is)
    (case c__law_odd_letters => k_is)
    (case k__law_odd_letters => k_is)
    (case a__law_odd_rules => k_is)
    (case l__law_odd_rules => k_is)
    (case c__law_odd_rules => k_is)
    (case k__law_odd_rules => k_is)
    (case a__law_bent => k_is)
    (case l__law_bent => k_is)
    (case c__law_bent => k_is)
    (case k__law_bent => k_is)
    (case a__law_told => k_is)
    (case l__law_told => k_is)
    (case c__law_told => k_is)
    (case k__law_told => k_is)
    (case a_law => k_is)
    (case l_law => k_is)
    (case c_law => k_is)
    (case k_law => k_is)
    (case z_len => k_is)
    (case z_isinstance => k_is)
    (case z_tuple => k_is)
    (case z_str => k_is)
    (case z_range => k_is)
    (case z_all => k_is)
    (case z_list => k_is)
    (case z_int => k_is)
    (case z_sorted => k_is)
    (case z_max => k_is)
    (case z_min => k_is)
    (case z_set => k_is)
    (case z_repr => k_is)
    (case z_bool => k_is)
    (case g_MOST_WORDS => k_is)
    (case g_MOST_LETTERS => k_is)
    (case g_MOST_RULES => k_is))
