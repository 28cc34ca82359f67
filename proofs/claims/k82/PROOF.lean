import PyProof.Rows.All
import Wide.All
import OpenK.AllK
import Wide.FinOn
import HandS.ForMost
import HandS.ForExc
import HandS.Wide
import HandS.TupAny
import HandS.TupMul
import HandS.Walk
import HandS.Zip
import HandS.ExcCtx
import HandS.Flow
import HandS.IsInst
import HandS.Codes
import HandS.HotCalls
import KE.GoesMore
import KE.GoesNew
import HandS.NoneIn
import PyProof.ListStr
import HandS.Replace
import PyProof.Rows.SortShellAny
import HandS.TryOnly
import HandS.WordsExc
import PyProof.ReprBulk
import PyProof.FitsInt
import HandS.Style
import HandS.Conv
import KE.GoesEnum
import HandS.SetFor
import HandS.ExcIs
import HandS.Defaults
import HandS.MakeKw
import KE.KDictZip
import KE.GoesZip
import PyProof.CollectStr
import KE.KDictLaws
import PyProof.DictUpdate
import KE.GoesComp
import KE.KAsSuite
import KE.KIndexOf
import HandS.Strs
import HandS.StrMore
import HandS.StrSplit
import PyProof.Rows.StrOr
import PySem.Challenge.RW_betstall_k82_fractions_written
set_option Elab.async false
set_option maxRecDepth 100000
set_option maxHeartbeats 0
def PySem.W.Fast.tw9679417017120463554 : Nat := 0
def PySem.W.Fast.tw8978021523119900255 : Nat := 0
def PySem.W.Fast.tw12997731403478701322 : Nat := 0
def PySem.W.Fast.tw13904412827138383702 : Nat := 0
def PySem.W.Fast.tw1720257287067082964 : Nat := 0
def PySem.W.Fast.tw10568411541825763527 : Nat := 0
def PySem.W.Fast.tw10250814763945783784 : Nat := 0
def PySem.W.Fast.tw14966303556478090108 : Nat := 0
def PySem.W.Fast.tw18003467308238846623 : Nat := 0
def PySem.W.Fast.tw15288664932630893603 : Nat := 0
def PySem.W.Fast.tw6601138805197115611 : Nat := 0
def PySem.W.Fast.tw8522911761092128535 : Nat := 0
def PySem.W.Fast.tw11631829266714004190 : Nat := 0
def PySem.W.Fast.tw12609223960958708721 : Nat := 0
def PySem.W.Fast.tw3839822271510077750 : Nat := 0
def PySem.W.Fast.tw14789185501959787037 : Nat := 0
def PySem.W.Fast.tw16411863022552492602 : Nat := 0
def PySem.W.Fast.tw4969701103687215011 : Nat := 0
def PySem.W.Fast.tw11044845504985823912 : Nat := 0
def PySem.W.Fast.tw14189534109503492030 : Nat := 0
def PySem.W.Fast.tw4642081916624823380 : Nat := 0
def PySem.W.Fast.tw10804528093013527938 : Nat := 0
def PySem.W.Fast.tw17452897506084788735 : Nat := 0
def PySem.W.Fast.tw16147408111364213518 : Nat := 0
def PySem.W.Fast.tw15469858093602765545 : Nat := 0
def PySem.W.Fast.tw1798071982543186082 : Nat := 0
def PySem.W.Fast.tw3912302817714726429 : Nat := 0
def PySem.W.Fast.tw9092489121260579175 : Nat := 0
def PySem.W.Fast.tw4340862261446304442 : Nat := 0
def PySem.W.Fast.tw7919579594794288567 : Nat := 0
def PySem.W.Fast.tw1482911130469555897 : Nat := 0
def PySem.W.Fast.tw17468753763703004538 : Nat := 0
def PySem.W.Fast.tw17730933994379803416 : Nat := 0
def PySem.W.Fast.tw11061258420525680128 : Nat := 0
def PySem.W.Fast.tw9947255474002117865 : Nat := 0
def PySem.W.Fast.tw13017322114371707835 : Nat := 0
def PySem.W.Fast.tw9415114050404349055 : Nat := 0
def PySem.W.Fast.tw8599845674333012590 : Nat := 0
def PySem.W.Fast.tw1483059767250593164 : Nat := 0
def PySem.W.Fast.tw10372592692368805500 : Nat := 0
def PySem.W.Fast.tw17809998570185996390 : Nat := 0
def PySem.W.Fast.tw8475514905715672783 : Nat := 0
def PySem.W.Fast.tw14640692093048973357 : Nat := 0
def PySem.W.Fast.tw10677634135429977464 : Nat := 0
def PySem.W.Fast.tw15106298375758982023 : Nat := 0
def PySem.W.Fast.tw13101868603394921 : Nat := 0
def PySem.W.Fast.tw5817628275617304019 : Nat := 0
def PySem.W.Fast.tw18225535427253930740 : Nat := 0
def PySem.W.Fast.tw8940001218553283514 : Nat := 0
def PySem.W.Fast.tw14902118215321384041 : Nat := 0
def PySem.W.Fast.tw3127914683774219894 : Nat := 0
def PySem.W.Fast.tw5196639354233835835 : Nat := 0
def PySem.W.Fast.tw9510488734321986201 : Nat := 0
def PySem.W.Fast.tw7150741936844857332 : Nat := 0
def PySem.W.Fast.tw3483908829958643234 : Nat := 0
def PySem.W.Fast.tw853028557676167379 : Nat := 0
def PySem.W.Fast.tw13930501356023120078 : Nat := 0
def PySem.W.Fast.tw4857628550756249671 : Nat := 0
def PySem.W.Fast.tw15431439291899651983 : Nat := 0
def PySem.W.Fast.tw8702072378703302953 : Nat := 0
def PySem.W.Fast.tw6960952867496557238 : Nat := 0
def PySem.W.Fast.tw5537718520422611318 : Nat := 0
def PySem.W.Fast.tw2977487002254518596 : Nat := 0
def PySem.W.Fast.tw240841117495437806 : Nat := 0
def PySem.W.Fast.tw5950624421349433591 : Nat := 0
def PySem.W.Fast.tw15166487412323321769 : Nat := 0
def PySem.W.Fast.tw10256100224543642187 : Nat := 0
def PySem.W.Fast.tw16035262983666378215 : Nat := 0
def PySem.W.Fast.tw9124879180599847662 : Nat := 0
def PySem.W.Fast.tw1144085580966016330 : Nat := 0
def PySem.W.Fast.tw6788123334397299203 : Nat := 0
def PySem.W.Fast.tw9551653666247821516 : Nat := 0
def PySem.W.Fast.tw16290782643071455062 : Nat := 0
def PySem.W.Fast.tw5004578209013333585 : Nat := 0
def PySem.W.Fast.tw4658830820792031752 : Nat := 0
def PySem.W.Fast.tw2611839552917940265 : Nat := 0
def PySem.W.Fast.tw954467102648293738 : Nat := 0
def PySem.W.Fast.tw4095110873449058310 : Nat := 0
def PySem.W.Fast.tw8159318409113800687 : Nat := 0
def PySem.W.Fast.tw10691865407934230781 : Nat := 0
def PySem.W.Fast.tw8873989667167030182 : Nat := 0
def PySem.W.Fast.tw12916773755948319108 : Nat := 0
def PySem.W.Fast.tw10012365271597401313 : Nat := 0
def PySem.W.Fast.tw8573696076674887822 : Nat := 0
def PySem.W.Fast.tw15919845108949973470 : Nat := 0
def PySem.W.Fast.tw15791635230256936714 : Nat := 0
def PySem.W.Fast.tw18417205010761223133 : Nat := 0
def PySem.W.Fast.tw2954155344942023660 : Nat := 0
def PySem.W.Fast.tw10092060495178246818 : Nat := 0
def PySem.W.Fast.tw16211802032263036439 : Nat := 0
def PySem.W.Fast.tw4864105250992515958 : Nat := 0
def PySem.W.Fast.tw3557514646998350447 : Nat := 0
def PySem.W.Fast.tw3848218955148879111 : Nat := 0
def PySem.W.Fast.tw11053805665516001625 : Nat := 0
def PySem.W.Fast.tw1232724606740212775 : Nat := 0
def PySem.W.Fast.tw7796939311065900210 : Nat := 0
def PySem.W.Fast.tw3195730417677684329 : Nat := 0
def PySem.W.Fast.tw10677561746988144183 : Nat := 0
def PySem.W.Fast.tw3637885794416739352 : Nat := 0
def PySem.W.Fast.tw12421444974223417252 : Nat := 0
def PySem.W.Fast.tw1871128371451374767 : Nat := 0
def PySem.W.Fast.tw307969684374670253 : Nat := 0
def PySem.W.Fast.tw6449091909870461418 : Nat := 0
def PySem.W.Fast.tw880419961758183180 : Nat := 0
def PySem.W.Fast.tw16059460013919200503 : Nat := 0
def PySem.W.Fast.tw12087071405477180042 : Nat := 0
def PySem.W.Fast.tw1770527262134039087 : Nat := 0
def PySem.W.Fast.tw3997303228309823012 : Nat := 0
def PySem.W.Fast.tw17671412770805146504 : Nat := 0
def PySem.W.Fast.tw15719012892713466648 : Nat := 0
def PySem.W.Fast.tw12745827233005776727 : Nat := 0
def PySem.W.Fast.tw14293624384998601813 : Nat := 0
def PySem.W.Fast.tw8807803768024629218 : Nat := 0
def PySem.W.Fast.tw1146449882083372085 : Nat := 0
def PySem.W.Fast.tw5555906445836959069 : Nat := 0
def PySem.W.Fast.tw3473660979597141770 : Nat := 0
def PySem.W.Fast.tw947902968644763522 : Nat := 0
def PySem.W.Fast.tw12443430436712778162 : Nat := 0
def PySem.W.Fast.tw18046995798832814054 : Nat := 0
def PySem.W.Fast.tw12027476121703513298 : Nat := 0
def PySem.W.Fast.tw13725266585728235823 : Nat := 0
def PySem.W.Fast.tw8841579778113422879 : Nat := 0
def PySem.W.Fast.tw7804421078766963410 : Nat := 0
def PySem.W.Fast.tw12268462510016648631 : Nat := 0
def PySem.W.Fast.tw1043000392111745912 : Nat := 0
def PySem.W.Fast.tw1611052277344336356 : Nat := 0
def PySem.W.Fast.tw6170895613864360903 : Nat := 0
def PySem.W.Fast.tw12432140546704616907 : Nat := 0
def PySem.W.Fast.tw17133397675536573076 : Nat := 0
def PySem.W.Fast.tw7179468125604521223 : Nat := 0
def PySem.W.Fast.tw6788732084600870658 : Nat := 0
def PySem.W.Fast.tw13359845552600848502 : Nat := 0
def PySem.W.Fast.tw11553403121153887897 : Nat := 0
def PySem.W.Fast.tw2881165618099787092 : Nat := 0
def PySem.W.Fast.tw5755826835896882955 : Nat := 0
def PySem.W.Fast.tw17956492247896588384 : Nat := 0
def PySem.W.Fast.tw3603133204557016927 : Nat := 0
def PySem.W.Fast.tw5391175751562565473 : Nat := 0
def PySem.W.Fast.tw18160752419775755131 : Nat := 0
def PySem.W.Fast.tw8360419328987206013 : Nat := 0
def PySem.W.Fast.tw13797023353246268680 : Nat := 0
def PySem.W.Fast.tw198887014912610937 : Nat := 0
def PySem.W.Fast.tw552358894549824780 : Nat := 0
def PySem.W.Fast.tw298240061330919505 : Nat := 0
def PySem.W.Fast.tw17001605581501465237 : Nat := 0
def PySem.W.Fast.tw16995839800046506377 : Nat := 0
def PySem.W.Fast.tw13207309205368323219 : Nat := 0
def PySem.W.Fast.tw3808915266992030986 : Nat := 0
def PySem.W.Fast.tw7026094695501906545 : Nat := 0
def PySem.W.Fast.tw16712638730716071875 : Nat := 0
def PySem.W.Fast.tw1340494219748351304 : Nat := 0
def PySem.W.Fast.tw17010253392557657036 : Nat := 0
def PySem.W.Fast.tw16763328880702172456 : Nat := 0
def PySem.W.Fast.tw11132231047125111667 : Nat := 0
def PySem.W.Fast.tw5472208251144219555 : Nat := 0
def PySem.W.Fast.tw14489817893323743878 : Nat := 0
def PySem.W.Fast.tw7634847417880962640 : Nat := 0
def PySem.W.Fast.tw18070124363790677475 : Nat := 0
def PySem.W.Fast.tw10066143479704719318 : Nat := 0
def PySem.W.Fast.tw3530186380562634009 : Nat := 0
def PySem.W.Fast.tw4574370946989388453 : Nat := 0
def PySem.W.Fast.tw9919624803757683492 : Nat := 0
def PySem.W.Fast.tw12167160275225533860 : Nat := 0
def PySem.W.Fast.tw18237137675489605217 : Nat := 0
def PySem.W.Fast.tw9995893693587996122 : Nat := 0
def PySem.W.Fast.tw1550649200302837365 : Nat := 0
def PySem.W.Fast.tw15520574500487825817 : Nat := 0
def PySem.W.Fast.tw4895070314854613522 : Nat := 0
def PySem.W.Fast.tw2309243310516150353 : Nat := 0
def PySem.W.Fast.tw17594961463785789762 : Nat := 0
def PySem.W.Fast.tw16772923942648349699 : Nat := 0
def PySem.W.Fast.tw17871650462278872359 : Nat := 0
def PySem.W.Fast.tw7236772525123278083 : Nat := 0
def PySem.W.Fast.tw17471723166458546437 : Nat := 0
def PySem.W.Fast.tw11185691276855607117 : Nat := 0
def PySem.W.Fast.tw5769004771127179204 : Nat := 0
def PySem.W.Fast.tw15419649310517745484 : Nat := 0
def PySem.W.Fast.tw4227255949509559428 : Nat := 0
def PySem.W.Fast.tw184607876686348161 : Nat := 0
def PySem.W.Fast.tw7356454613013074110 : Nat := 0
def PySem.W.Fast.tw15919055522759001047 : Nat := 0
def PySem.W.Fast.tw5509343755551009498 : Nat := 0
def PySem.W.Fast.tw11685954592773576955 : Nat := 0
def PySem.W.Fast.tw8846429403033707757 : Nat := 0
def PySem.W.Fast.tw17948894540712881241 : Nat := 0
def PySem.W.Fast.tw12618329306366664936 : Nat := 0
def PySem.W.Fast.tw9644303118376830800 : Nat := 0
def PySem.W.Fast.tw3740771607610494881 : Nat := 0
def PySem.W.Fast.tw9664315619758905439 : Nat := 0
def PySem.W.Fast.tw872589978619780473 : Nat := 0
def PySem.W.Fast.tw17328304320889277 : Nat := 0
def PySem.W.Fast.tw83039188644889312 : Nat := 0
def PySem.W.Fast.tw2932440694646565975 : Nat := 0
def PySem.W.Fast.tw17815922165956793792 : Nat := 0
def PySem.W.Fast.tw7635184440792518510 : Nat := 0
def PySem.W.Fast.tw4325047059912635696 : Nat := 0
def PySem.W.Fast.tw13727995201710746083 : Nat := 0
def PySem.W.Fast.tw16397535465018501269 : Nat := 0
def PySem.W.Fast.tw9482864598888862141 : Nat := 0
def PySem.W.Fast.tw880044670524844970 : Nat := 0
def PySem.W.Fast.tw12847540132531956490 : Nat := 0
def PySem.W.Fast.tw3046375670208137668 : Nat := 0
def PySem.W.Fast.tw4510334262827462078 : Nat := 0
def PySem.W.Fast.tw10611709975193973397 : Nat := 0
def PySem.W.Fast.tw7661272145219474540 : Nat := 0
def PySem.W.Fast.tw9546248705735971637 : Nat := 0
def PySem.W.Fast.tw4030610197381146980 : Nat := 0
def PySem.W.Fast.tw2364619762654869715 : Nat := 0
def PySem.W.Fast.tw12261802142019833679 : Nat := 0
def PySem.W.Fast.tw1253173614245466927 : Nat := 0
def PySem.W.Fast.tw14187145035060618248 : Nat := 0
def PySem.W.Fast.tw10825128273874218502 : Nat := 0
def PySem.W.Fast.tw8733770669648679485 : Nat := 0
def PySem.W.Fast.tw557021770028876237 : Nat := 0
def PySem.W.Fast.tw286135692486064814 : Nat := 0
def PySem.W.Fast.tw13824597934207070118 : Nat := 0
def PySem.W.Fast.tw4580556104418843414 : Nat := 0
def PySem.W.Fast.tw16704035233994661704 : Nat := 0
def PySem.W.Fast.tw7815706187979927247 : Nat := 0
def PySem.W.Fast.tw16399601312241646240 : Nat := 0
def PySem.W.Fast.tw2898468518404913756 : Nat := 0
def PySem.W.Fast.tw13180097538911310342 : Nat := 0
def PySem.W.Fast.tw13064380247755186876 : Nat := 0
def PySem.W.Fast.tw9037181369333343652 : Nat := 0
def PySem.W.Fast.tw10426520929427320194 : Nat := 0
def PySem.W.Fast.tw2658128242565388911 : Nat := 0
def PySem.W.Fast.tw11809564879365632137 : Nat := 0
def PySem.W.Fast.tw10493246159461647811 : Nat := 0
def PySem.W.Fast.tw9215369725063274447 : Nat := 0
def PySem.W.Fast.tw10135562903605340568 : Nat := 0
def PySem.W.Fast.tw2231705256519375908 : Nat := 0
def PySem.W.Fast.tw1576851686962544111 : Nat := 0
def PySem.W.Fast.tw2948308293414200092 : Nat := 0
def PySem.W.Fast.tw18386556515519100464 : Nat := 0
def PySem.W.Fast.tw14279544799616368768 : Nat := 0
def PySem.W.Fast.tw17746564112342891343 : Nat := 0
def PySem.W.Fast.tw933758875824397260 : Nat := 0
def PySem.W.Fast.tw11127988084806789981 : Nat := 0
def PySem.W.Fast.tw9496208810800342848 : Nat := 0
def PySem.W.Fast.tw12057023602958971686 : Nat := 0
def PySem.W.Fast.tw16104203468623078574 : Nat := 0
def PySem.W.Fast.tw16553766687614145626 : Nat := 0
def PySem.W.Fast.tw12763183448000772304 : Nat := 0
def PySem.W.Fast.tw15839144440824498710 : Nat := 0
def PySem.W.Fast.tw4738882852733602109 : Nat := 0
def PySem.W.Fast.tw517467780183971926 : Nat := 0
def PySem.W.Fast.tw71286258374102445 : Nat := 0
def PySem.W.Fast.tw17571967553386981231 : Nat := 0
def PySem.W.Fast.tw18034219942781799685 : Nat := 0
def PySem.W.Fast.tw494528928701009929 : Nat := 0
def PySem.W.Fast.tw16735837204955082678 : Nat := 0
def PySem.W.Fast.tw4638798484202603626 : Nat := 0
def PySem.W.Fast.tw4809726513333043043 : Nat := 0
def PySem.W.Fast.tw2390374673650132649 : Nat := 0
def PySem.W.Fast.tw6779212623585070334 : Nat := 0
def PySem.W.Fast.tw16805433748766441225 : Nat := 0
def PySem.W.Fast.tw17933476530782283853 : Nat := 0
def PySem.W.Fast.tw15743287071007247651 : Nat := 0
def PySem.W.Fast.tw7280327540283989646 : Nat := 0
def PySem.W.Fast.tw11993984202771354394 : Nat := 0
def PySem.W.Fast.tw10607117028565557556 : Nat := 0
def PySem.W.Fast.tw10110781360577678267 : Nat := 0
def PySem.W.Fast.tw11461453755198089681 : Nat := 0
def PySem.W.Fast.tw17422134577202535734 : Nat := 0
def PySem.W.Fast.tw11766984956753461551 : Nat := 0
def PySem.W.Fast.tw5778582789077269797 : Nat := 0
def PySem.W.Fast.tw15845264753297342833 : Nat := 0
def PySem.W.Fast.tw18391439821984758088 : Nat := 0
def PySem.W.Fast.tw12942103201590436304 : Nat := 0
def PySem.W.Fast.tw6837869151041794910 : Nat := 0
def PySem.W.Fast.tw13619054347509756832 : Nat := 0
def PySem.W.Fast.tw6586785418243967669 : Nat := 0
def PySem.W.Fast.tw9063732550954727114 : Nat := 0
def PySem.W.Fast.tw1789651454146182883 : Nat := 0
def PySem.W.Fast.tw7016639111101925420 : Nat := 0
def PySem.W.Fast.tw6233941896216750932 : Nat := 0
def PySem.W.Fast.tw8775456934663531794 : Nat := 0
def PySem.W.Fast.tw3779846108395063302 : Nat := 0
def PySem.W.Fast.tw17024211472824020023 : Nat := 0
def PySem.W.Fast.tw2952381181738660047 : Nat := 0
def PySem.W.Fast.tw15124397288651068367 : Nat := 0
def PySem.W.Fast.tw18276415289148679957 : Nat := 0
def PySem.W.Fast.tw7117486382563645713 : Nat := 0
def PySem.W.Fast.tw10284483473470667729 : Nat := 0
def PySem.W.Fast.tw17952039972564151599 : Nat := 0
def PySem.W.Fast.tw13994456083412091771 : Nat := 0
def PySem.W.Fast.tw9337980182647139329 : Nat := 0
def PySem.W.Fast.tw16333485657737380986 : Nat := 0
def PySem.W.Fast.tw16900136407747381508 : Nat := 0
def PySem.W.Fast.tw11914653706678645126 : Nat := 0
def PySem.W.Fast.tw2195085528922551726 : Nat := 0
def PySem.W.Fast.tw10908762069778864142 : Nat := 0
def PySem.W.Fast.tw9866481574784746601 : Nat := 0
def PySem.W.Fast.tw10660432597326870878 : Nat := 0
def PySem.W.Fast.tw3746207578000463657 : Nat := 0
def PySem.W.Fast.tw3590626735969222085 : Nat := 0
def PySem.W.Fast.tw12401554340748765598 : Nat := 0
def PySem.W.Fast.tw18224700783822114312 : Nat := 0
def PySem.W.Fast.tw15468405784927252935 : Nat := 0
def PySem.W.Fast.tw12671888866269822268 : Nat := 0
def PySem.W.Fast.tw10593069689616378538 : Nat := 0
def PySem.W.Fast.tw13102695209463308771 : Nat := 0
def PySem.W.Fast.tw17645677672653980749 : Nat := 0
def PySem.W.Fast.tw12378994710121427054 : Nat := 0
def PySem.W.Fast.tw5871571860990417764 : Nat := 0
def PySem.W.Fast.tw10552417322138108899 : Nat := 0
def PySem.W.Fast.tw8630044852084206637 : Nat := 0
def PySem.W.Fast.tw9360142615235178267 : Nat := 0
def PySem.W.Fast.tw9485571166448313850 : Nat := 0
def PySem.W.Fast.tw1040208861665967546 : Nat := 0
def PySem.W.Fast.tw17629017138448025471 : Nat := 0
def PySem.W.Fast.tw832165331877286790 : Nat := 0
def PySem.W.Fast.tw15004653064301799901 : Nat := 0
def PySem.W.Fast.tw5723380922034544596 : Nat := 0
def PySem.W.Fast.tw7801628506053002409 : Nat := 0
def PySem.W.Fast.tw17349469299393283638 : Nat := 0
def PySem.W.Fast.tw4925328410708404222 : Nat := 0
def PySem.W.Fast.tw13624001424560776035 : Nat := 0
def PySem.W.Fast.tw11243432696776653501 : Nat := 0
def PySem.W.Fast.tw18338446754282518910 : Nat := 0
def PySem.W.Fast.tw16482353480799241406 : Nat := 0
def PySem.W.Fast.tw11924274394608010729 : Nat := 0
def PySem.W.Fast.tw11603125322188958764 : Nat := 0
def PySem.W.Fast.tw14206432034828603765 : Nat := 0
def PySem.W.Fast.tw14527762200234145869 : Nat := 0
def PySem.W.Fast.tw2962786810133591927 : Nat := 0
def PySem.W.Fast.tw10311080557766551583 : Nat := 0
def PySem.W.Fast.tw5620205755840058102 : Nat := 0
def PySem.W.Fast.tw320841300056165359 : Nat := 0
def PySem.W.Fast.tw1591779986988024956 : Nat := 0
def PySem.W.Fast.tw10955532055466083390 : Nat := 0
def PySem.W.Fast.tw12393099009924734035 : Nat := 0
def PySem.W.Fast.tw588780582276736785 : Nat := 0
def PySem.W.Fast.tw3957992507016327790 : Nat := 0
def PySem.W.Fast.tw7208030311578071234 : Nat := 0
def PySem.W.Fast.tw343769117400731804 : Nat := 0
def PySem.W.Fast.tw13400977567897105657 : Nat := 0
def PySem.W.Fast.tw6476189622828101311 : Nat := 0
def PySem.W.Fast.tw8612852917684574020 : Nat := 0
def PySem.W.Fast.tw16386994467054104327 : Nat := 0
def PySem.W.Fast.tw8547140286377173105 : Nat := 0
def PySem.W.Fast.tw6358639642393950150 : Nat := 0
def PySem.W.Fast.tw1979440542519103750 : Nat := 0
def PySem.W.Fast.tw18371031703423006935 : Nat := 0
def PySem.W.Fast.tw16089756119387501582 : Nat := 0
def PySem.W.Fast.tw7524589980089050048 : Nat := 0
def PySem.W.Fast.tw8334230422720500163 : Nat := 0
def PySem.W.Fast.tw16715680129818451421 : Nat := 0
def PySem.W.Fast.tw17501378747741623008 : Nat := 0
def PySem.W.Fast.tw6374796922719453542 : Nat := 0
def PySem.W.Fast.tw5638855031901484187 : Nat := 0
def PySem.W.Fast.tw6844541775304233317 : Nat := 0
def PySem.W.Fast.tw1491524796415333137 : Nat := 0
def PySem.W.Fast.tw4046282050694060578 : Nat := 0
def PySem.W.Fast.tw6804289488772542706 : Nat := 0
def PySem.W.Fast.tw15281109866197114143 : Nat := 0
def PySem.W.Fast.tw9004430306742219187 : Nat := 0
def PySem.W.Fast.tw16587164213722115739 : Nat := 0
def PySem.W.Fast.tw15189715238954225145 : Nat := 0
def PySem.W.Fast.tw2002225577860128228 : Nat := 0
def PySem.W.Fast.tw15674405880836086761 : Nat := 0
def PySem.W.Fast.tw5641307268325858482 : Nat := 0
def PySem.W.Fast.tw11112578601732697835 : Nat := 0
def PySem.W.Fast.tw7049453670749360800 : Nat := 0
def PySem.W.Fast.tw263811040871112046 : Nat := 0
def PySem.W.Fast.tw7408928101669032803 : Nat := 0
def PySem.W.Fast.tw5430297597138449601 : Nat := 0
def PySem.W.Fast.tw499262584955713705 : Nat := 0
def PySem.W.Fast.tw2655201781525903307 : Nat := 0
def PySem.W.Fast.tw16528620213323531806 : Nat := 0
def PySem.W.Fast.tw15024007185507903738 : Nat := 0
def PySem.W.Fast.tw5084761767671454120 : Nat := 0
def PySem.W.Fast.tw13800957413722219480 : Nat := 0
def PySem.W.Fast.tw18115467989711629469 : Nat := 0
def PySem.W.Fast.tw5365990912159209127 : Nat := 0
def PySem.W.Fast.tw354102791443504313 : Nat := 0
def PySem.W.Fast.tw3161838820957336963 : Nat := 0
def PySem.W.Fast.tw9275110970701645210 : Nat := 0
def PySem.W.Fast.tw6339654911011421671 : Nat := 0
def PySem.W.Fast.tw10857151208655677199 : Nat := 0
def PySem.W.Fast.tw5662707925127941696 : Nat := 0
def PySem.W.Fast.tw7496646246237014244 : Nat := 0
def PySem.W.Fast.tw1872224231787836917 : Nat := 0
def PySem.W.Fast.tw6285788009194457368 : Nat := 0
def PySem.W.Fast.tw17549268770463659047 : Nat := 0
def PySem.W.Fast.tw3986859651540367281 : Nat := 0
def PySem.W.Fast.tw11919468958020137743 : Nat := 0
def PySem.W.Fast.tw10712791738641681831 : Nat := 0
def PySem.W.Fast.tw15218502262112917914 : Nat := 0
def PySem.W.Fast.tw991951607821375062 : Nat := 0
def PySem.W.Fast.tw9044880629111184162 : Nat := 0
def PySem.W.Fast.tw16676154665812346191 : Nat := 0
def PySem.W.Fast.tw16232991934289752871 : Nat := 0
def PySem.W.Fast.tw10357233749144975639 : Nat := 0
def PySem.W.Fast.tw14106365981874387135 : Nat := 0
def PySem.W.Fast.tw6634421711699950984 : Nat := 0
def PySem.W.Fast.tw5613113226880237468 : Nat := 0
def PySem.W.Fast.tw17358595147661169423 : Nat := 0
def PySem.W.Fast.tw12057934793678992386 : Nat := 0
def PySem.W.Fast.tw16575235137562334221 : Nat := 0
def PySem.W.Fast.tw5953161660188784826 : Nat := 0
def PySem.W.Fast.tw2345239670854519762 : Nat := 0
def PySem.W.Fast.tw18324154763204490648 : Nat := 0
def PySem.W.Fast.tw1567552576643981688 : Nat := 0
def PySem.W.Fast.tw276247307014378104 : Nat := 0
def PySem.W.Fast.tw4340681492898565033 : Nat := 0
def PySem.W.Fast.tw15634552509821557711 : Nat := 0
def PySem.W.Fast.tw11629286859425258195 : Nat := 0
def PySem.W.Fast.tw5342065883989486219 : Nat := 0
def PySem.W.Fast.tw7416698165150497615 : Nat := 0
def PySem.W.Fast.tw13148473521720410411 : Nat := 0
def PySem.W.Fast.tw14373380441332622237 : Nat := 0
def PySem.W.Fast.tw14623625693436357146 : Nat := 0
def PySem.W.Fast.tw4794452009805243228 : Nat := 0
def PySem.W.Fast.tw17406250749637860316 : Nat := 0
def PySem.W.Fast.tw4490118290595488808 : Nat := 0
def PySem.W.Fast.tw7869594450362994206 : Nat := 0
def PySem.W.Fast.tw11800626115799548734 : Nat := 0
def PySem.W.Fast.tw9890592707794477080 : Nat := 0
def PySem.W.Fast.tw3062682033926252345 : Nat := 0
def PySem.W.Fast.tw15182458946231841727 : Nat := 0
def PySem.W.Fast.tw11207745338502911768 : Nat := 0
def PySem.W.Fast.tw18323217430611336180 : Nat := 0
def PySem.W.Fast.tw712073874472526304 : Nat := 0
def PySem.W.Fast.tw17224398035566714436 : Nat := 0
def PySem.W.Fast.tw11540828749707420643 : Nat := 0
def PySem.W.Fast.tw7337984062203529434 : Nat := 0
def PySem.W.Fast.tw7437200365433493400 : Nat := 0
def PySem.W.Fast.tw2979508699990294975 : Nat := 0
def PySem.W.Fast.tw609788292864648406 : Nat := 0
def PySem.W.Fast.tw13271604973636085995 : Nat := 0
def PySem.W.Fast.tw4650666035500219281 : Nat := 0
def PySem.W.Fast.tw475888297674828562 : Nat := 0
def PySem.W.Fast.tw8704759265465051327 : Nat := 0
def PySem.W.Fast.tw13963258481769633348 : Nat := 0
def PySem.W.Fast.tw18133001402861722585 : Nat := 0
def PySem.W.Fast.tw13232098750492844460 : Nat := 0
def PySem.W.Fast.tw6265895971577792449 : Nat := 0
def PySem.W.Fast.tw13832909762872683749 : Nat := 0
def PySem.W.Fast.tw1104116537243161962 : Nat := 0
def PySem.W.Fast.tw14374201423555334378 : Nat := 0
def PySem.W.Fast.tw16718737769031569418 : Nat := 0
def PySem.W.Fast.tw104965530909014482 : Nat := 0
def PySem.W.Fast.tw12244665662450959858 : Nat := 0
def PySem.W.Fast.tw2132900066638449951 : Nat := 0
def PySem.W.Fast.tw9596777098982411142 : Nat := 0
def PySem.W.Fast.tw13612216071777635237 : Nat := 0
def PySem.W.Fast.tw2324110653371386447 : Nat := 0
def PySem.W.Fast.tw6380949637431117207 : Nat := 0
def PySem.W.Fast.tw16161503193792401204 : Nat := 0
def PySem.W.Fast.tw7096464616873093803 : Nat := 0
def PySem.W.Fast.tw9843225007394130625 : Nat := 0
def PySem.W.Fast.tw10734410215357047232 : Nat := 0
def PySem.W.Fast.tw4975992972588171146 : Nat := 0
def PySem.W.Fast.tw1733157378744458272 : Nat := 0
def PySem.W.Fast.tw3604893907372973935 : Nat := 0
def PySem.W.Fast.tw7974248086625988225 : Nat := 0
def PySem.W.Fast.tw4784836995183333076 : Nat := 0
def PySem.W.Fast.tw18140798641994669094 : Nat := 0
def PySem.W.Fast.tw9062560616411891703 : Nat := 0
def PySem.W.Fast.tw14861107583831581901 : Nat := 0
def PySem.W.Fast.tw11261699761298079770 : Nat := 0
def PySem.W.Fast.tw15470211059264416798 : Nat := 0
def PySem.W.Fast.tw8885992340350222234 : Nat := 0
def PySem.W.Fast.tw2946522650521045354 : Nat := 0
def PySem.W.Fast.tw7623521260455640200 : Nat := 0
def PySem.W.Fast.tw7028017181625816924 : Nat := 0
def PySem.W.Fast.tw14918042376627988982 : Nat := 0
def PySem.W.Fast.tw11723325091819146504 : Nat := 0
def PySem.W.Fast.tw8502741557088151466 : Nat := 0
def PySem.W.Fast.tw12774097047221084503 : Nat := 0
def PySem.W.Fast.tw1558903797152837530 : Nat := 0
def PySem.W.Fast.tw14278186864172443030 : Nat := 0
def PySem.W.Fast.tw14119440205693462533 : Nat := 0
def PySem.W.Fast.tw12389806538350666036 : Nat := 0
def PySem.W.Fast.tw16238949886992172575 : Nat := 0
def PySem.W.Fast.tw16955658646353319482 : Nat := 0
def PySem.W.Fast.tw2170753054439904935 : Nat := 0
def PySem.W.Fast.tw14212048830243845790 : Nat := 0
def PySem.W.Fast.tw9890171439230942574 : Nat := 0
def PySem.W.Fast.tw10997399907515831932 : Nat := 0
def PySem.W.Fast.tw2382947162553988564 : Nat := 0
def PySem.W.Fast.tw1229536789089712379 : Nat := 0
def PySem.W.Fast.tw8576205416577642938 : Nat := 0
def PySem.W.Fast.tw3414639490586806126 : Nat := 0
def PySem.W.Fast.tw10719110318869766753 : Nat := 0
def PySem.W.Fast.tw9484028963638452601 : Nat := 0
def PySem.W.Fast.tw8664958064272912259 : Nat := 0
def PySem.W.Fast.tw15882374922632760551 : Nat := 0
def PySem.W.Fast.tw15611745343858063234 : Nat := 0
def PySem.W.Fast.tw10206016441931189175 : Nat := 0
def PySem.W.Fast.tw4576099882033958868 : Nat := 0
def PySem.W.Fast.tw1753151456641053488 : Nat := 0
def PySem.W.Fast.tw15759044762171356232 : Nat := 0
def PySem.W.Fast.tw13968963507891551537 : Nat := 0
def PySem.W.Fast.tw2438194096770052478 : Nat := 0
def PySem.W.Fast.tw5554557018089620608 : Nat := 0
def PySem.W.Fast.tw3870596879105488091 : Nat := 0
def PySem.W.Fast.tw9931207686781362977 : Nat := 0
def PySem.W.Fast.tw1726158549854992392 : Nat := 0
def PySem.W.Fast.tw9636458248034031481 : Nat := 0
def PySem.W.Fast.tw14873289013850415819 : Nat := 0
def PySem.W.Fast.tw3241386968049484937 : Nat := 0
def PySem.W.Fast.tw7024350781853506775 : Nat := 0
def PySem.W.Fast.tw16393897063610641202 : Nat := 0
def PySem.W.Fast.tw3049614884876734883 : Nat := 0
def PySem.W.Fast.tw1099670332948385031 : Nat := 0
def PySem.W.Fast.tw11819365709611140157 : Nat := 0
def PySem.W.Fast.tw15904681277247830286 : Nat := 0
def PySem.W.Fast.tw17829252302889623001 : Nat := 0
def PySem.W.Fast.tw78108582506909528 : Nat := 0
def PySem.W.Fast.tw9317034203692683897 : Nat := 0
def PySem.W.Fast.tw6881750218643025093 : Nat := 0
def PySem.W.Fast.tw10033602283846531619 : Nat := 0
def PySem.W.Fast.tw7208685583984467580 : Nat := 0
def PySem.W.Fast.tw13624176173752830336 : Nat := 0
def PySem.W.Fast.tw17263739398094386461 : Nat := 0
def PySem.W.Fast.tw9639003042298795731 : Nat := 0
def PySem.W.Fast.tw4288641478226037463 : Nat := 0
def PySem.W.Fast.tw8302635097775367063 : Nat := 0
def PySem.W.Fast.tw6043876946460817908 : Nat := 0
def PySem.W.Fast.tw6272087371322519214 : Nat := 0
def PySem.W.Fast.tw8177590343623915330 : Nat := 0
def PySem.W.Fast.tw14934325905255583420 : Nat := 0
def PySem.W.Fast.tw8226353105398158394 : Nat := 0
def PySem.W.Fast.tw12810845151685002044 : Nat := 0
def PySem.W.Fast.tw14339666077338904880 : Nat := 0
def PySem.W.Fast.tw8612555879898848647 : Nat := 0
def PySem.W.Fast.tw4271395083996547174 : Nat := 0
def PySem.W.Fast.tw16272592157160887059 : Nat := 0
def PySem.W.Fast.tw4090816168642140990 : Nat := 0
def PySem.W.Fast.tw9486370736773841472 : Nat := 0
def PySem.W.Fast.tw937654123888177373 : Nat := 0
def PySem.W.Fast.tw6592672669283818913 : Nat := 0
def PySem.W.Fast.tw3988838778367993236 : Nat := 0
def PySem.W.Fast.tw4929825371535205894 : Nat := 0
def PySem.W.Fast.tw13006767247237251819 : Nat := 0
def PySem.W.Fast.tw2820257089215854661 : Nat := 0
def PySem.W.Fast.tw11723383053068856487 : Nat := 0
def PySem.W.Fast.tw8861210596485969979 : Nat := 0
def PySem.W.Fast.tw822122878094890360 : Nat := 0
def PySem.W.Fast.tw4308913590574393858 : Nat := 0
def PySem.W.Fast.tw14579147542581070044 : Nat := 0
def PySem.W.Fast.tw430261216306934520 : Nat := 0
def PySem.W.Fast.tw14071219476212268451 : Nat := 0
def PySem.W.Fast.tw20830457865611393 : Nat := 0
def PySem.W.Fast.tw13898085565819586812 : Nat := 0
def PySem.W.Fast.tw3053457689387736165 : Nat := 0
def PySem.W.Fast.tw8639812934937259978 : Nat := 0
def PySem.W.Fast.tw5305105643290409565 : Nat := 0
def PySem.W.Fast.tw15299128949680225081 : Nat := 0
def PySem.W.Fast.tw5466986241215422476 : Nat := 0
def PySem.W.Fast.tw12701541390653723464 : Nat := 0
def PySem.W.Fast.tw4903344733341577008 : Nat := 0
def PySem.W.Fast.tw18346241895490385538 : Nat := 0
def PySem.W.Fast.tw4147863952267170155 : Nat := 0
def PySem.W.Fast.tw7834585266414095149 : Nat := 0
def PySem.W.Fast.tw1510523878578859135 : Nat := 0
def PySem.W.Fast.tw4981151173298449917 : Nat := 0
def PySem.W.Fast.tw2883416312166911988 : Nat := 0
def PySem.W.Fast.tw3584595205660407042 : Nat := 0
def PySem.W.Fast.tw16540925554420638810 : Nat := 0
def PySem.W.Fast.tw18048945840327926862 : Nat := 0
def PySem.W.Fast.tw14046945806816560384 : Nat := 0
def PySem.W.Fast.tw7789479322035371448 : Nat := 0
def PySem.W.Fast.tw5778653522819561456 : Nat := 0
def PySem.W.Fast.tw9771417205648703969 : Nat := 0
def PySem.W.Fast.tw5738884233818997573 : Nat := 0
def PySem.W.Fast.tw16072453720651435280 : Nat := 0
def PySem.W.Fast.tw4382251291362938289 : Nat := 0
def PySem.W.Fast.tw530661992456987279 : Nat := 0
def PySem.W.Fast.tw12255945085842158545 : Nat := 0
def PySem.W.Fast.tw17858816800126322291 : Nat := 0
def PySem.W.Fast.tw15681988443362940043 : Nat := 0
def PySem.W.Fast.tw5098748022116091159 : Nat := 0
def PySem.W.Fast.tw11834621926908804244 : Nat := 0
def PySem.W.Fast.tw8263974146652919476 : Nat := 0
def PySem.W.Fast.tw13182169063064518715 : Nat := 0
def PySem.W.Fast.tw17769449776994809675 : Nat := 0
def PySem.W.Fast.tw7848404432539663053 : Nat := 0
def PySem.W.Fast.tw8951139513769146357 : Nat := 0
def PySem.W.Fast.tw7374257344925394656 : Nat := 0
def PySem.W.Fast.tw14332162742414523086 : Nat := 0
def PySem.W.Fast.tw14027636256355892969 : Nat := 0
def PySem.W.Fast.tw7267848904257142526 : Nat := 0
def PySem.W.Fast.tw15608233434132126533 : Nat := 0
def PySem.W.Fast.tw17311040527280602649 : Nat := 0
def PySem.W.Fast.tw467928428833681092 : Nat := 0
def PySem.W.Fast.tw6086091502246804888 : Nat := 0
def PySem.W.Fast.tw17069924680794840220 : Nat := 0
def PySem.W.Fast.tw5791401633381339578 : Nat := 0
def PySem.W.Fast.tw14517373844843957869 : Nat := 0
def PySem.W.Fast.tw354670471181481290 : Nat := 0
def PySem.W.Fast.tw18311623377162459735 : Nat := 0
def PySem.W.Fast.tw7115999844140338675 : Nat := 0
def PySem.W.Fast.tw13841525411659020328 : Nat := 0
def PySem.W.Fast.tw12864211539505027648 : Nat := 0
def PySem.W.Fast.tw13348906416650171482 : Nat := 0
def PySem.W.Fast.tw17617206382421569554 : Nat := 0
def PySem.W.Fast.tw1754241058987003463 : Nat := 0
def PySem.W.Fast.tw7887518999701030642 : Nat := 0
def PySem.W.Fast.tw10097012722413092202 : Nat := 0
def PySem.W.Fast.tw14788883315498443467 : Nat := 0
def PySem.W.Fast.tw15777239347396763860 : Nat := 0
def PySem.W.Fast.tw3136639810419982232 : Nat := 0
def PySem.W.Fast.tw17670003124753194350 : Nat := 0
def PySem.W.Fast.tw1646656971637463066 : Nat := 0
def PySem.W.Fast.tw17807187838260581241 : Nat := 0
def PySem.W.Fast.tw7715369124425244259 : Nat := 0
def PySem.W.Fast.tw9306099765635368724 : Nat := 0
def PySem.W.Fast.tw3417620935263959343 : Nat := 0
def PySem.W.Fast.tw10793897847457060354 : Nat := 0
def PySem.W.Fast.tw2891330370798550781 : Nat := 0
def PySem.W.Fast.tw11142790598012516073 : Nat := 0
def PySem.W.Fast.tw11054682313129107004 : Nat := 0
def PySem.W.Fast.tw16118547780627059153 : Nat := 0
def PySem.W.Fast.tw3314672983286997593 : Nat := 0
def PySem.W.Fast.tw13803221414230714331 : Nat := 0
def PySem.W.Fast.tw10706198027195964634 : Nat := 0
def PySem.W.Fast.tw6733893325247309480 : Nat := 0
def PySem.W.Fast.tw9523677953934761377 : Nat := 0
def PySem.W.Fast.tw16647100639808719317 : Nat := 0
def PySem.W.Fast.tw14809646258215198331 : Nat := 0
def PySem.W.Fast.tw17570531717425486518 : Nat := 0
def PySem.W.Fast.tw879177225117683759 : Nat := 0
def PySem.W.Fast.tw2087475693898042378 : Nat := 0
def PySem.W.Fast.tw667079115392451338 : Nat := 0
def PySem.W.Fast.tw697346630698568275 : Nat := 0
def PySem.W.Fast.tw6976697404828868832 : Nat := 0
def PySem.W.Fast.tw1929826707645395468 : Nat := 0
def PySem.W.Fast.tw9440588709140631232 : Nat := 0
def PySem.W.Fast.tw17369628190964909068 : Nat := 0
def PySem.W.Fast.tw738704550237243256 : Nat := 0
def PySem.W.Fast.tw13058192383757571096 : Nat := 0
def PySem.W.Fast.tw6033131702164707997 : Nat := 0
def PySem.W.Fast.tw11144161786485214805 : Nat := 0
def PySem.W.Fast.tw13637765324658893607 : Nat := 0
def PySem.W.Fast.tw815132700828729276 : Nat := 0
def PySem.W.Fast.tw4000949897152316688 : Nat := 0
def PySem.W.Fast.tw13182543459833695374 : Nat := 0
def PySem.W.Fast.tw13814272172312051637 : Nat := 0
def PySem.W.Fast.tw16281376261181426904 : Nat := 0
def PySem.W.Fast.tw9152379532556178644 : Nat := 0
def PySem.W.Fast.tw1150261643972180811 : Nat := 0
def PySem.W.Fast.tw5236571774523089269 : Nat := 0
def PySem.W.Fast.tw17548796368576729179 : Nat := 0
def PySem.W.Fast.tw4798802322135002470 : Nat := 0
def PySem.W.Fast.tw6513503894201587795 : Nat := 0
def PySem.W.Fast.tw5901397167542948883 : Nat := 0
def PySem.W.Fast.tw16561307487991040859 : Nat := 0
def PySem.W.Fast.tw1078597008636136633 : Nat := 0
def PySem.W.Fast.tw5586702367258827636 : Nat := 0
def PySem.W.Fast.tw16371132860627596728 : Nat := 0
def PySem.W.Fast.tw14221520971615189251 : Nat := 0
def PySem.W.Fast.tw4978683583159055561 : Nat := 0
def PySem.W.Fast.tw16752430705441431882 : Nat := 0
def PySem.W.Fast.tw15273659390441551675 : Nat := 0
def PySem.W.Fast.tw2767957608102659007 : Nat := 0
def PySem.W.Fast.tw15631198937648194538 : Nat := 0
def PySem.W.Fast.tw14443960096986673041 : Nat := 0
def PySem.W.Fast.tw14461630204526325170 : Nat := 0
def PySem.W.Fast.tw18264563237748605007 : Nat := 0
def PySem.W.Fast.tw15662086704158350920 : Nat := 0
def PySem.W.Fast.tw9162921928248788663 : Nat := 0
def PySem.W.Fast.tw2688914233964833316 : Nat := 0
def PySem.W.Fast.tw4393821649636932881 : Nat := 0
def PySem.W.Fast.tw7009558369584656891 : Nat := 0
def PySem.W.Fast.tw17851612978847770972 : Nat := 0
def PySem.W.Fast.tw16303795954605347067 : Nat := 0
def PySem.W.Fast.tw10692725112260677195 : Nat := 0
def PySem.W.Fast.tw2248694174860321407 : Nat := 0
def PySem.W.Fast.tw7528332162686508502 : Nat := 0
def PySem.W.Fast.tw8055304642044181130 : Nat := 0
def PySem.W.Fast.tw3837616007139190878 : Nat := 0
def PySem.W.Fast.tw2424723297342856436 : Nat := 0
def PySem.W.Fast.tw11402978106558243182 : Nat := 0
def PySem.W.Fast.tw7652417745795094431 : Nat := 0
def PySem.W.Fast.tw6599229504733843638 : Nat := 0
def PySem.W.Fast.tw5314597822948163909 : Nat := 0
def PySem.W.Fast.tw10280041751234788818 : Nat := 0
def PySem.W.Fast.tw16030045110019791880 : Nat := 0
def PySem.W.Fast.tw13306686172813424584 : Nat := 0
def PySem.W.Fast.tw17004741055611808810 : Nat := 0
def PySem.W.Fast.tw4278082317669927714 : Nat := 0
def PySem.W.Fast.tw6921260501949847420 : Nat := 0
def PySem.W.Fast.tw1079430982821447720 : Nat := 0
def PySem.W.Fast.tw13086312660098415021 : Nat := 0
def PySem.W.Fast.tw2892644044332813102 : Nat := 0
def PySem.W.Fast.tw10563389844535577831 : Nat := 0
def PySem.W.Fast.tw8776531487019208103 : Nat := 0
def PySem.W.Fast.tw3461475729573644118 : Nat := 0
def PySem.W.Fast.tw748175683873299961 : Nat := 0
def PySem.W.Fast.tw15589031073310733638 : Nat := 0
def PySem.W.Fast.tw17906061097267112016 : Nat := 0
def PySem.W.Fast.tw11455044973084824621 : Nat := 0
def PySem.W.Fast.tw17175393882825408901 : Nat := 0
def PySem.W.Fast.tw2520204473964835456 : Nat := 0
def PySem.W.Fast.tw15862772910916601953 : Nat := 0
def PySem.W.Fast.tw11940656500276793189 : Nat := 0
def PySem.W.Fast.tw10666360440785974324 : Nat := 0
def PySem.W.Fast.tw136865327277829903 : Nat := 0
def PySem.W.Fast.tw3827953889380375455 : Nat := 0
def PySem.W.Fast.tw3753437717768735823 : Nat := 0
def PySem.W.Fast.tw3682740014378709464 : Nat := 0
def PySem.W.Fast.tw17384250551081715331 : Nat := 0
def PySem.W.Fast.tw14078258458841369218 : Nat := 0
def PySem.W.Fast.tw13505789170221594238 : Nat := 0
def PySem.W.Fast.tw16096019355297381053 : Nat := 0
def PySem.W.Fast.tw4930539892007263111 : Nat := 0
def PySem.W.Fast.tw1010362475493116325 : Nat := 0
def PySem.W.Fast.tw13448588155480160804 : Nat := 0
def PySem.W.Fast.tw2904965214444221622 : Nat := 0
def PySem.W.Fast.tw12403538330173118616 : Nat := 0
def PySem.W.Fast.tw14822390161666509659 : Nat := 0
def PySem.W.Fast.tw17352877615033000133 : Nat := 0
def PySem.W.Fast.tw2346899561780416906 : Nat := 0
def PySem.W.Fast.tw8204960855381725903 : Nat := 0
def PySem.W.Fast.tw18196843475058102397 : Nat := 0
def PySem.W.Fast.tw15456632576542412895 : Nat := 0
def PySem.W.Fast.tw6792308766083863821 : Nat := 0
def PySem.W.Fast.tw17233128596639226816 : Nat := 0
def PySem.W.Fast.tw839782893882701914 : Nat := 0
def PySem.W.Fast.tw4528349871300252112 : Nat := 0
def PySem.W.Fast.tw13751601563166558501 : Nat := 0
def PySem.W.Fast.tw15726455962361812293 : Nat := 0
def PySem.W.Fast.tw3944041061987491013 : Nat := 0
def PySem.W.Fast.tw9384959056535257448 : Nat := 0
def PySem.W.Fast.tw3762999357684478135 : Nat := 0
def PySem.W.Fast.tw6698195250413953108 : Nat := 0
def PySem.W.Fast.tw2346402016867616796 : Nat := 0
def PySem.W.Fast.tw8421504347217595662 : Nat := 0
def PySem.W.Fast.tw15278587084366751236 : Nat := 0
def PySem.W.Fast.tw18157444326635273226 : Nat := 0
def PySem.W.Fast.tw1029463488287930313 : Nat := 0
def PySem.W.Fast.tw5353593410505294757 : Nat := 0
def PySem.W.Fast.tw5714472700936558225 : Nat := 0
def PySem.W.Fast.tw18297565931848686956 : Nat := 0
def PySem.W.Fast.tw11323785887751097847 : Nat := 0
def PySem.W.Fast.tw3084638451286329913 : Nat := 0
def PySem.W.Fast.tw15501712452048837160 : Nat := 0
def PySem.W.Fast.tw12374578967714255193 : Nat := 0
def PySem.W.Fast.tw11225221092614347470 : Nat := 0
def PySem.W.Fast.tw15676176273675637920 : Nat := 0
def PySem.W.Fast.tw747438816299626221 : Nat := 0
def PySem.W.Fast.tw7469998402371653662 : Nat := 0
def PySem.W.Fast.tw15312584973160108646 : Nat := 0
def PySem.W.Fast.tw14103849506990790364 : Nat := 0
def PySem.W.Fast.tw12546775454723113185 : Nat := 0
def PySem.W.Fast.tw15284023168466696285 : Nat := 0
def PySem.W.Fast.tw12795570433413210017 : Nat := 0
def PySem.W.Fast.tw14203272451478682065 : Nat := 0
def PySem.W.Fast.tw15364753831559211964 : Nat := 0
def PySem.W.Fast.tw15121542387194408783 : Nat := 0
def PySem.W.Fast.tw6997757589771755357 : Nat := 0
def PySem.W.Fast.tw16694113178803492233 : Nat := 0
def PySem.W.Fast.tw9801768891685976966 : Nat := 0
def PySem.W.Fast.tw2973873684896068382 : Nat := 0
def PySem.W.Fast.tw12331602836469562233 : Nat := 0
def PySem.W.Fast.tw157977075147226011 : Nat := 0
def PySem.W.Fast.tw3135611394720725574 : Nat := 0
def PySem.W.Fast.tw3413735113939488184 : Nat := 0
def PySem.W.Fast.tw5768688586001781955 : Nat := 0
def PySem.W.Fast.tw5489176231908721082 : Nat := 0
def PySem.W.Fast.tw4376317081825539858 : Nat := 0
def PySem.W.Fast.tw5973878798454499647 : Nat := 0
def PySem.W.Fast.tw5983155677347128570 : Nat := 0
def PySem.W.Fast.tw6855768998458147425 : Nat := 0
def PySem.W.Fast.tw9118017209715816184 : Nat := 0
def PySem.W.Fast.tw4475792331963915772 : Nat := 0
def PySem.W.Fast.tw15954977880355797259 : Nat := 0
def PySem.W.Fast.tw9747400137182946125 : Nat := 0
def PySem.W.Fast.tw6669519988299121515 : Nat := 0
def PySem.W.Fast.tw6340911491484918985 : Nat := 0
def PySem.W.Fast.tw2414621258779940224 : Nat := 0
def PySem.W.Fast.tw75160969168410139 : Nat := 0
def PySem.W.Fast.tw4407815379640063360 : Nat := 0
def PySem.W.Fast.tw1414065320337065167 : Nat := 0
def PySem.W.Fast.tw8625950397803188817 : Nat := 0
def PySem.W.Fast.tw11955879763112155636 : Nat := 0
def PySem.W.Fast.tw16754511773244114485 : Nat := 0
def PySem.W.Fast.tw2678149987344849982 : Nat := 0
def PySem.W.Fast.tw9218943171474489931 : Nat := 0
def PySem.W.Fast.tw18280627604282799677 : Nat := 0
def PySem.W.Fast.tw14198204014233860832 : Nat := 0
def PySem.W.Fast.tw10218438712964546614 : Nat := 0
def PySem.W.Fast.tw7369231993231725173 : Nat := 0
def PySem.W.Fast.tw7888960063434141647 : Nat := 0
def PySem.W.Fast.tw9565359415088914810 : Nat := 0
def PySem.W.Fast.tw17666228619524515641 : Nat := 0
def PySem.W.Fast.tw8543537102450446428 : Nat := 0
def PySem.W.Fast.tw10549462472379477333 : Nat := 0
def PySem.W.Fast.tw6708791371241641113 : Nat := 0
def PySem.W.Fast.tw2942908851818849137 : Nat := 0
def PySem.W.Fast.tw7780418878925969336 : Nat := 0
def PySem.W.Fast.tw2180626160000404712 : Nat := 0
def PySem.W.Fast.tw9709004015299744733 : Nat := 0
def PySem.W.Fast.tw16769470934253519205 : Nat := 0
def PySem.W.Fast.tw3403523259379526747 : Nat := 0
def PySem.W.Fast.tw3748810210421921253 : Nat := 0
def PySem.W.Fast.tw17935093557593139202 : Nat := 0
def PySem.W.Fast.tw2216994598157210623 : Nat := 0
def PySem.W.Fast.tw4914599756126716037 : Nat := 0
def PySem.W.Fast.tw12720369895664842123 : Nat := 0
def PySem.W.Fast.tw5823880829738063848 : Nat := 0
def PySem.W.Fast.tw12928806346738809071 : Nat := 0
def PySem.W.Fast.tw8613824739837276714 : Nat := 0
def PySem.W.Fast.tw12237234213070747187 : Nat := 0
def PySem.W.Fast.tw8010917436457624022 : Nat := 0
def PySem.W.Fast.tw14783435290000344239 : Nat := 0
def PySem.W.Fast.tw8250184107623118241 : Nat := 0
def PySem.W.Fast.tw4098563841408268225 : Nat := 0
def PySem.W.Fast.tw11295496531855042047 : Nat := 0
def PySem.W.Fast.tw10812916441597494628 : Nat := 0
def PySem.W.Fast.tw11938482567810107715 : Nat := 0
def PySem.W.Fast.tw10104154194670274821 : Nat := 0
def PySem.W.Fast.tw3706782448744623809 : Nat := 0
def PySem.W.Fast.tw7385670377542489019 : Nat := 0
def PySem.W.Fast.tw15002334579535597587 : Nat := 0
def PySem.W.Fast.tw2656332842582745900 : Nat := 0
def PySem.W.Fast.tw16478766102867098784 : Nat := 0
def PySem.W.Fast.tw18379167354260366938 : Nat := 0
def PySem.W.Fast.tw531788452344932922 : Nat := 0
def PySem.W.Fast.tw9471848861081735770 : Nat := 0
def PySem.W.Fast.tw14174868166125395601 : Nat := 0
def PySem.W.Fast.tw5292314358543101096 : Nat := 0
def PySem.W.Fast.tw10295091310326237593 : Nat := 0
def PySem.W.Fast.tw2151630227834026932 : Nat := 0
def PySem.W.Fast.tw10818945052744565625 : Nat := 0
def PySem.W.Fast.tw9411933077367264545 : Nat := 0
def PySem.W.Fast.tw166870265966034735 : Nat := 0
def PySem.W.Fast.tw13785767635241267601 : Nat := 0
def PySem.W.Fast.tw4757169530393897443 : Nat := 0
def PySem.W.Fast.tw10741115967472517822 : Nat := 0
def PySem.W.Fast.tw4086138178155212327 : Nat := 0
def PySem.W.Fast.tw9748486852009270839 : Nat := 0
def PySem.W.Fast.tw12352318823120122669 : Nat := 0
def PySem.W.Fast.tw15926979936092599566 : Nat := 0
def PySem.W.Fast.tw1905120292755930457 : Nat := 0
def PySem.W.Fast.tw17787118866152741807 : Nat := 0
def PySem.W.Fast.tw4779175401720299874 : Nat := 0
def PySem.W.Fast.tw8452617781474515952 : Nat := 0
def PySem.W.Fast.tw585336634774686989 : Nat := 0
def PySem.W.Fast.tw8112825161757270011 : Nat := 0
def PySem.W.Fast.tw2779177110823445054 : Nat := 0
def PySem.W.Fast.tw14249457892474970702 : Nat := 0
def PySem.W.Fast.tw9591368038456016437 : Nat := 0
def PySem.W.Fast.tw9180493249208641299 : Nat := 0
def PySem.W.Fast.tw14395284188298199055 : Nat := 0
def PySem.W.Fast.tw5474253776945357082 : Nat := 0
def PySem.W.Fast.tw9938960321887071497 : Nat := 0
def PySem.W.Fast.tw5568171099633932664 : Nat := 0
def PySem.W.Fast.tw3848301597454625711 : Nat := 0
def PySem.W.Fast.tw17663044794454249228 : Nat := 0
def PySem.W.Fast.tw46749913558006961 : Nat := 0
def PySem.W.Fast.tw12808854676602834179 : Nat := 0
def PySem.W.Fast.tw182061857977120839 : Nat := 0
def PySem.W.Fast.tw16186054254285916526 : Nat := 0
def PySem.W.Fast.tw10771357975257108916 : Nat := 0
def PySem.W.Fast.tw6269023798899936786 : Nat := 0
def PySem.W.Fast.tw16545121078621706143 : Nat := 0
def PySem.W.Fast.tw11087735507301775074 : Nat := 0
def PySem.W.Fast.tw453353572396235604 : Nat := 0
def PySem.W.Fast.tw1628283637954058856 : Nat := 0
def PySem.W.Fast.tw1383016291618779242 : Nat := 0
def PySem.W.Fast.tw5393521249449540144 : Nat := 0
def PySem.W.Fast.tw12401117292152542304 : Nat := 0
def PySem.W.Fast.tw15850746625158561234 : Nat := 0
def PySem.W.Fast.tw15618210129290152829 : Nat := 0
def PySem.W.Fast.tw13450695655325521359 : Nat := 0
def PySem.W.Fast.tw1686828513820620476 : Nat := 0
def PySem.W.Fast.tw18376767088099938593 : Nat := 0
def PySem.W.Fast.tw16214736896135993496 : Nat := 0
def PySem.W.Fast.tw13809939694048369364 : Nat := 0
def PySem.W.Fast.tw3791068925240982880 : Nat := 0
def PySem.W.Fast.tw14349067198698308861 : Nat := 0
def PySem.W.Fast.tw17709616139227357865 : Nat := 0
def PySem.W.Fast.tw15068890809915186957 : Nat := 0
def PySem.W.Fast.tw644885700906735071 : Nat := 0
def PySem.W.Fast.tw10160839796617112645 : Nat := 0
def PySem.W.Fast.tw15376984103049271398 : Nat := 0
def PySem.W.Fast.tw12575584345596280119 : Nat := 0
def PySem.W.Fast.tw13913498053395806736 : Nat := 0
def PySem.W.Fast.tw13909720728251947882 : Nat := 0
def PySem.W.Fast.tw10549743432472221617 : Nat := 0
def PySem.W.Fast.tw6650830261803257005 : Nat := 0
def PySem.W.Fast.tw8512098781601082501 : Nat := 0
def PySem.W.Fast.tw12959351195980723813 : Nat := 0
def PySem.W.Fast.tw15162514063352134109 : Nat := 0
def PySem.W.Fast.tw2365892808584550767 : Nat := 0
def PySem.W.Fast.tw11981840088924172730 : Nat := 0
def PySem.W.Fast.tw293616010730262504 : Nat := 0
def PySem.W.Fast.tw13404719543594903169 : Nat := 0
def PySem.W.Fast.tw11430945794605153342 : Nat := 0
def PySem.W.Fast.tw8146119292994556559 : Nat := 0
def PySem.W.Fast.tw14158549331642337768 : Nat := 0
def PySem.W.Fast.tw4683561284484553796 : Nat := 0
def PySem.W.Fast.tw11875011885017632697 : Nat := 0
def PySem.W.Fast.tw9461460902606341030 : Nat := 0
def PySem.W.Fast.tw10140911602278988592 : Nat := 0
def PySem.W.Fast.tw17747662071637436803 : Nat := 0
def PySem.W.Fast.tw10327945084369750575 : Nat := 0
def PySem.W.Fast.tw13425632828317357942 : Nat := 0
def PySem.W.Fast.tw1623276450078640278 : Nat := 0
def PySem.W.Fast.tw3438651511163316858 : Nat := 0
def PySem.W.Fast.tw6399608582526548766 : Nat := 0
def PySem.W.Fast.tw14831445348499753975 : Nat := 0
def PySem.W.Fast.tw18379825873677163459 : Nat := 0
def PySem.W.Fast.tw8920597530660373220 : Nat := 0
def PySem.W.Fast.tw4248482308305741305 : Nat := 0
def PySem.W.Fast.tw9518060732712513225 : Nat := 0
def PySem.W.Fast.tw817254568176713158 : Nat := 0
def PySem.W.Fast.tw11541567915391013104 : Nat := 0
def PySem.W.Fast.tw5930160576878462708 : Nat := 0
def PySem.W.Fast.tw5158672973073476958 : Nat := 0
def PySem.W.Fast.tw791288381290625275 : Nat := 0
def PySem.W.Fast.tw8691507785623646888 : Nat := 0
def PySem.W.Fast.tw11790715814565884962 : Nat := 0
def PySem.W.Fast.tw3473106108319655672 : Nat := 0
def PySem.W.Fast.tw14625208566782582538 : Nat := 0
def PySem.W.Fast.tw17035448035009746558 : Nat := 0
def PySem.W.Fast.tw5263208197645056308 : Nat := 0
def PySem.W.Fast.tw8567067825788682881 : Nat := 0
def PySem.W.Fast.tw12215799886219020044 : Nat := 0
def PySem.W.Fast.tw17837279594965077367 : Nat := 0
def PySem.W.Fast.tw2788567547664363113 : Nat := 0
def PySem.W.Fast.tw13119109955897412784 : Nat := 0
def PySem.W.Fast.tw1885643342749327769 : Nat := 0
def PySem.W.Fast.tw13453162841754999112 : Nat := 0
def PySem.W.Fast.tw9774586994481013882 : Nat := 0
def PySem.W.Fast.tw4966009231359224994 : Nat := 0
def PySem.W.Fast.tw5566364226099588114 : Nat := 0
def PySem.W.Fast.tw1402540007403027909 : Nat := 0
def PySem.W.Fast.tw3862051720762727747 : Nat := 0
def PySem.W.Fast.tw10543430339818679792 : Nat := 0
def PySem.W.Fast.tw7195242493353473598 : Nat := 0
def PySem.W.Fast.tw2532936830033188445 : Nat := 0
def PySem.W.Fast.tw2646896041131469303 : Nat := 0
def PySem.W.Fast.tw10302338054764877051 : Nat := 0
def PySem.W.Fast.tw9519318948174299519 : Nat := 0
def PySem.W.Fast.tw600796191110383992 : Nat := 0
def PySem.W.Fast.tw5405079634231909444 : Nat := 0
def PySem.W.Fast.tw17892391633658919917 : Nat := 0
def PySem.W.Fast.tw11821685061344349425 : Nat := 0
def PySem.W.Fast.tw15606474317738017925 : Nat := 0
def PySem.W.Fast.tw14855090691588728270 : Nat := 0
def PySem.W.Fast.tw3169021754507393411 : Nat := 0
def PySem.W.Fast.tw2601966725774120996 : Nat := 0
def PySem.W.Fast.tw4402078830484952341 : Nat := 0
def PySem.W.Fast.tw6333341879801761786 : Nat := 0
def PySem.W.Fast.tw5358996159356058215 : Nat := 0
def PySem.W.Fast.tw2356271413135705916 : Nat := 0
def PySem.W.Fast.tw10922010536846475738 : Nat := 0
def PySem.W.Fast.tw6582398532968711096 : Nat := 0
def PySem.W.Fast.tw13611530255954627843 : Nat := 0
def PySem.W.Fast.tw10729041651683339125 : Nat := 0
def PySem.W.Fast.tw286934117101120057 : Nat := 0
def PySem.W.Fast.tw14539993816188826356 : Nat := 0
def PySem.W.Fast.tw15488895245221457204 : Nat := 0
def PySem.W.Fast.tw8232511534319922216 : Nat := 0
def PySem.W.Fast.tw3965203404064699505 : Nat := 0
def PySem.W.Fast.tw10513290528304284604 : Nat := 0
def PySem.W.Fast.tw8443268967045318333 : Nat := 0
def PySem.W.Fast.tw9824129226726433903 : Nat := 0
def PySem.W.Fast.tw11488379901413290609 : Nat := 0
def PySem.W.Fast.tw3070033914932435920 : Nat := 0
def PySem.W.Fast.tw6906863822726420357 : Nat := 0
def PySem.W.Fast.tw11495569906531688191 : Nat := 0
def PySem.W.Fast.tw4373258505317628093 : Nat := 0
def PySem.W.Fast.tw13100125515150764827 : Nat := 0
def PySem.W.Fast.tw17823249109157565121 : Nat := 0
def PySem.W.Fast.tw11852128158471786149 : Nat := 0
def PySem.W.Fast.tw1724035344873832000 : Nat := 0
def PySem.W.Fast.tw11576346279572481318 : Nat := 0
def PySem.W.Fast.tw18190835831098613071 : Nat := 0
def PySem.W.Fast.tw18223966599509508963 : Nat := 0
def PySem.W.Fast.tw10653586568350674969 : Nat := 0
def PySem.W.Fast.tw4857474626135926627 : Nat := 0
def PySem.W.Fast.tw8319023080109404553 : Nat := 0
def PySem.W.Fast.tw15366783555198572658 : Nat := 0
def PySem.W.Fast.tw2380327150353079161 : Nat := 0
def PySem.W.Fast.tw1221349016611082082 : Nat := 0
def PySem.W.Fast.tw15208026561535336952 : Nat := 0
def PySem.W.Fast.tw9532522299710625581 : Nat := 0
def PySem.W.Fast.tw12170791047323004887 : Nat := 0
def PySem.W.Fast.tw16748700980797489977 : Nat := 0
def PySem.W.Fast.tw9793759802659347808 : Nat := 0
def PySem.W.Fast.tw17757610102846391299 : Nat := 0
def PySem.W.Fast.tw9244798451803205261 : Nat := 0
def PySem.W.Fast.tw8982478984650509118 : Nat := 0
def PySem.W.Fast.tw4876983256827405741 : Nat := 0
def PySem.W.Fast.tw11409921509558051616 : Nat := 0
def PySem.W.Fast.tw8825790674699919032 : Nat := 0
def PySem.W.Fast.tw4291874436149197207 : Nat := 0
def PySem.W.Fast.tw11597884575672502048 : Nat := 0
def PySem.W.Fast.tw16424932019158310546 : Nat := 0
def PySem.W.Fast.tw4847369363631691425 : Nat := 0
def PySem.W.Fast.tw4502482164045407515 : Nat := 0
def PySem.W.Fast.tw15313630870605357114 : Nat := 0
def PySem.W.Fast.tw16688289317209981478 : Nat := 0
def PySem.W.Fast.tw4423343013049604700 : Nat := 0
def PySem.W.Fast.tw9172783387132814158 : Nat := 0
def PySem.W.Fast.tw16432313341778494704 : Nat := 0
def PySem.W.Fast.tw1069426651654686278 : Nat := 0
def PySem.W.Fast.tw12021827890118366670 : Nat := 0
def PySem.W.Fast.tw16623668493609036368 : Nat := 0
def PySem.W.Fast.tw389397926499316008 : Nat := 0
def PySem.W.Fast.tw13458623020698435994 : Nat := 0
def PySem.W.Fast.tw11457711056954331544 : Nat := 0
def PySem.W.Fast.tw12855144310839517125 : Nat := 0
def PySem.W.Fast.tw1474797067852042 : Nat := 0
def PySem.W.Fast.tw7190580400306250254 : Nat := 0
def PySem.W.Fast.tw12836820886453915204 : Nat := 0
def PySem.W.Fast.tw10830714832270074911 : Nat := 0
def PySem.W.Fast.tw7239884222705373488 : Nat := 0
def PySem.W.Fast.tw4103545342439403164 : Nat := 0
def PySem.W.Fast.tw13507449452516575641 : Nat := 0
def PySem.W.Fast.tw4452280229721865535 : Nat := 0
def PySem.W.Fast.tw13524700000970923994 : Nat := 0
def PySem.W.Fast.tw17234396238037076251 : Nat := 0
def PySem.W.Fast.tw14232317630639226793 : Nat := 0
def PySem.W.Fast.tw12035341554111864729 : Nat := 0
def PySem.W.Fast.tw288171550108796545 : Nat := 0
def PySem.W.Fast.tw12945464733439700346 : Nat := 0
def PySem.W.Fast.tw14238609613524809116 : Nat := 0
def PySem.W.Fast.tw16872005788044043825 : Nat := 0
def PySem.W.Fast.tw18047602190191926656 : Nat := 0
def PySem.W.Fast.tw3293035871469808375 : Nat := 0
def PySem.W.Fast.tw6496078573768046140 : Nat := 0
def PySem.W.Fast.tw15657256094852755311 : Nat := 0
def PySem.W.Fast.tw14791673768157565565 : Nat := 0
def PySem.W.Fast.tw4618798023516763502 : Nat := 0
def PySem.W.Fast.tw2001507499476242958 : Nat := 0
def PySem.W.Fast.tw13465518826391097099 : Nat := 0
def PySem.W.Fast.tw6368506604184694683 : Nat := 0
def PySem.W.Fast.tw4165161675964372712 : Nat := 0
def PySem.W.Fast.tw12258257200447905836 : Nat := 0
def PySem.W.Fast.tw932141248119447000 : Nat := 0
def PySem.W.Fast.tw246077604316444286 : Nat := 0
def PySem.W.Fast.tw3006286227134223220 : Nat := 0
def PySem.W.Fast.tw2051143113048288994 : Nat := 0
def PySem.W.Fast.tw4788762576124176701 : Nat := 0
def PySem.W.Fast.tw17199451632466393788 : Nat := 0
def PySem.W.Fast.tw9663430842926800491 : Nat := 0
def PySem.W.Fast.tw9855153483964282177 : Nat := 0
def PySem.W.Fast.tw2464934751959925627 : Nat := 0
def PySem.W.Fast.tw14926756604473291946 : Nat := 0
def PySem.W.Fast.tw4586055442562687864 : Nat := 0
def PySem.W.Fast.tw12926057376116445302 : Nat := 0
def PySem.W.Fast.tw15896349017849716541 : Nat := 0
def PySem.W.Fast.tw6571989706528662514 : Nat := 0
def PySem.W.Fast.tw5204766752225927625 : Nat := 0
def PySem.W.Fast.tw3097412533981298705 : Nat := 0
def PySem.W.Fast.tw9161331646903009639 : Nat := 0
def PySem.W.Fast.tw12141495089425957431 : Nat := 0
def PySem.W.Fast.tw15568908414656029580 : Nat := 0
def PySem.W.Fast.tw15329830621595480302 : Nat := 0
def PySem.W.Fast.tw6604391427693830554 : Nat := 0
def PySem.W.Fast.tw8209578508672561753 : Nat := 0
def PySem.W.Fast.tw9140373237956669725 : Nat := 0
def PySem.W.Fast.tw15085027213632095816 : Nat := 0
def PySem.W.Fast.tw5502050751292114534 : Nat := 0
def PySem.W.Fast.tw16650628821845337288 : Nat := 0
def PySem.W.Fast.tw10436805690535986485 : Nat := 0
def PySem.W.Fast.tw12473917091900233156 : Nat := 0
def PySem.W.Fast.tw6757930556877640830 : Nat := 0
def PySem.W.Fast.tw965815505443687539 : Nat := 0
def PySem.W.Fast.tw13166902931076735324 : Nat := 0
def PySem.W.Fast.tw2506976882321923690 : Nat := 0
def PySem.W.Fast.tw9584298847678554617 : Nat := 0
def PySem.W.Fast.tw14239816089612223183 : Nat := 0
def PySem.W.Fast.tw6192652788165362660 : Nat := 0
def PySem.W.Fast.tw16049007761479324940 : Nat := 0
def PySem.W.Fast.tw5656323837446513899 : Nat := 0
def PySem.W.Fast.tw10021026569646439032 : Nat := 0
def PySem.W.Fast.tw1283862595355434669 : Nat := 0
def PySem.W.Fast.tw1255651992469886020 : Nat := 0
def PySem.W.Fast.tw16528095895385245332 : Nat := 0
def PySem.W.Fast.tw17479870196698427083 : Nat := 0
def PySem.W.Fast.tw14810530006836693126 : Nat := 0
def PySem.W.Fast.tw15789923635376374516 : Nat := 0
def PySem.W.Fast.tw7851009220946805748 : Nat := 0
def PySem.W.Fast.tw5111458955437678005 : Nat := 0
def PySem.W.Fast.tw863241967760741094 : Nat := 0
def PySem.W.Fast.tw5649727588436153545 : Nat := 0
def PySem.W.Fast.tw10935102796835258094 : Nat := 0
def PySem.W.Fast.tw9272476671914571398 : Nat := 0
def PySem.W.Fast.tw16593062860663254393 : Nat := 0
def PySem.W.Fast.tw11177713273768499319 : Nat := 0
def PySem.W.Fast.tw8403233939199493806 : Nat := 0
def PySem.W.Fast.tw13594451244906245564 : Nat := 0
def PySem.W.Fast.tw9289688082950625257 : Nat := 0
def PySem.W.Fast.tw3813671983590874074 : Nat := 0
def PySem.W.Fast.tw4919818703799222807 : Nat := 0
def PySem.W.Fast.tw6444807011882424406 : Nat := 0
def PySem.W.Fast.tw9358977020140104131 : Nat := 0
def PySem.W.Fast.tw10168476739070891888 : Nat := 0
def PySem.W.Fast.tw13967392661213775034 : Nat := 0
def PySem.W.Fast.tw470785044088260970 : Nat := 0
def PySem.W.Fast.tw14082001194672229846 : Nat := 0
def PySem.W.Fast.tw9469989594490695217 : Nat := 0
def PySem.W.Fast.tw9793109236480402038 : Nat := 0
def PySem.W.Fast.tw14389056778299878905 : Nat := 0
def PySem.W.Fast.tw13756467602682571917 : Nat := 0
def PySem.W.Fast.tw14861615827070704833 : Nat := 0
def PySem.W.Fast.tw1666255507745168137 : Nat := 0
def PySem.W.Fast.tw13538550787371767681 : Nat := 0
def PySem.W.Fast.tw17696289506865990341 : Nat := 0
def PySem.W.Fast.tw9146358289996392892 : Nat := 0
def PySem.W.Fast.tw10408285464202314611 : Nat := 0
def PySem.W.Fast.tw5074629092760516146 : Nat := 0
def PySem.W.Fast.tw9720026110422448978 : Nat := 0
def PySem.W.Fast.tw10532521425103701794 : Nat := 0
def PySem.W.Fast.tw8872861521929436705 : Nat := 0
def PySem.W.Fast.tw2994859205844132456 : Nat := 0
def PySem.W.Fast.tw17079181288202315662 : Nat := 0
def PySem.W.Fast.tw15280280129167990528 : Nat := 0
def PySem.W.Fast.tw14969965157602595791 : Nat := 0
def PySem.W.Fast.tw3477090454000362555 : Nat := 0
def PySem.W.Fast.tw14219506908325596159 : Nat := 0
def PySem.W.Fast.tw15552856132560093279 : Nat := 0
def PySem.W.Fast.tw17656718084527064844 : Nat := 0
def PySem.W.Fast.tw12009229766970026336 : Nat := 0
def PySem.W.Fast.tw4971169400840980025 : Nat := 0
def PySem.W.Fast.tw15236571092162884082 : Nat := 0
def PySem.W.Fast.tw13239100132269430379 : Nat := 0
def PySem.W.Fast.tw11677028498540758582 : Nat := 0
def PySem.W.Fast.tw831717699547844106 : Nat := 0
def PySem.W.Fast.tw978868697494968507 : Nat := 0
def PySem.W.Fast.tw7835584058699094646 : Nat := 0
def PySem.W.Fast.tw12498205731215748282 : Nat := 0
def PySem.W.Fast.tw5892030982949979995 : Nat := 0
def PySem.W.Fast.tw14760137478387276499 : Nat := 0
def PySem.W.Fast.tw2344804887589196888 : Nat := 0
def PySem.W.Fast.tw10324781198554327939 : Nat := 0
def PySem.W.Fast.tw5562292801353470455 : Nat := 0
def PySem.W.Fast.tw13508535589468202988 : Nat := 0
def PySem.W.Fast.tw6988106787889053375 : Nat := 0
def PySem.W.Fast.tw11941282280539637958 : Nat := 0
def PySem.W.Fast.tw1081640310199386370 : Nat := 0
def PySem.W.Fast.tw8243489167820302165 : Nat := 0
def PySem.W.Fast.tw14814318629339206880 : Nat := 0
def PySem.W.Fast.tw3092064345701749398 : Nat := 0
def PySem.W.Fast.tw10194909925364311570 : Nat := 0
def PySem.W.Fast.tw491729898667854111 : Nat := 0
def PySem.W.Fast.tw9581830023369129745 : Nat := 0
def PySem.W.Fast.tw14792572998176396390 : Nat := 0
def PySem.W.Fast.tw6493320999220452446 : Nat := 0
def PySem.W.Fast.tw17018724609166119991 : Nat := 0
def PySem.W.Fast.tw5216102001849672906 : Nat := 0
def PySem.W.Fast.tw11916722642448203491 : Nat := 0
def PySem.W.Fast.tw12815728658911441423 : Nat := 0
def PySem.W.Fast.tw12275532248286863922 : Nat := 0
def PySem.W.Fast.tw1691773414872646984 : Nat := 0
def PySem.W.Fast.tw5253647881680317884 : Nat := 0
def PySem.W.Fast.tw2977891800281195994 : Nat := 0
def PySem.W.Fast.tw10354178546566327782 : Nat := 0
def PySem.W.Fast.tw16474364782426992950 : Nat := 0
def PySem.W.Fast.tw16317857946471567098 : Nat := 0
def PySem.W.Fast.tw7935566937151341645 : Nat := 0
def PySem.W.Fast.tw318118889793810430 : Nat := 0
def PySem.W.Fast.tw1137255833703815346 : Nat := 0
def PySem.W.Fast.tw15668277993840890813 : Nat := 0
def PySem.W.Fast.tw309004784290668527 : Nat := 0
def PySem.W.Fast.tw13105848635669104121 : Nat := 0
def PySem.W.Fast.tw4932030553511572473 : Nat := 0
def PySem.W.Fast.tw10920255044680727111 : Nat := 0
def PySem.W.Fast.tw8625912918439016940 : Nat := 0
def PySem.W.Fast.tw14972311239250380670 : Nat := 0
def PySem.W.Fast.tw17216062449008104943 : Nat := 0
def PySem.W.Fast.tw4910871685892109824 : Nat := 0
open_top k82_head for PySem.Challenge.rw_betstall_k82_fractions_written
set_option linter.all false
set_option maxHeartbeats 1000000
set_option exponentiation.threshold 100000
namespace B2
open PySem PySem.Spec L2 PyProof.Rows
structure Gd (k : Nat) (A : Around) : Prop where
  no : A.guards = some []
  far : A.depth + 3 * k + 150 < recursionLimit
theorem Gd.mono {j k : Nat} {A : Around} (g : Gd k A) (h : j ≤ k) : Gd j A := ⟨g.no, by have := g.far; omega⟩
theorem Gd.deeper {k : Nat} {A : Around} (g : Gd (k + 1) A) (env : Env) : Gd k (A.deeper env) := ⟨g.no, by have := g.far; show A.depth + 1 + 3 * k + 150 < _; omega⟩
structure Sr (P : Program) (base : Heap) : Prop where
  tree : P.given.tree = none
  seer : base.NoSeer
structure FnG (P : Program) (w : World) (K : PySem.W.Frag) (mg : Str → Option Value) (base : Heap) (CX : CXT) (k : Nat) (f : Addr) (fd : FuncData) (ps : List Str) (sp : Sp) : Prop where
  many : ∀ vs H Q E, sp vs H Q E → vs.length = ps.length
  go : ∀ (A : Around), Gd k A → Room k A → ∀ (up : List Env) (s : Shared) (H : Hp) (args : Args) (us : List Value) (vs : List V) (Q : VK) (E : XK), Env0 P w K mg base A up s H →
    BindsTo s fd args (ps.zip us) → Vals vs us → sp vs H Q E → codeAny (model P w) A (.call (.ref f) args) (CR CX up P w H s Q E) s
section
variable {P : Program} {w : World} {K : PySem.W.Frag} {mg : Str → Option Value} {base : Heap} {CX : CXT} {k : Nat} {f : Addr} {fd : FuncData} {ps : List Str} {sp : Sp}
theorem FnG.of (F : FnOk P w K mg base CX k f fd ps sp) : FnG P w K mg base CX k f fd ps sp := ⟨F.len, fun A _ hr up s H args us vs Q E e b v h => F.run A up s H args us vs Q E hr e b v h⟩
theorem fnG_of {q : Str} {params : Arguments} {body : List Stmt} {scope : Scope} {dV kV doc pm cdv ct oc : Value} {an od : Option Addr} {osl : Array (Option Value)} {nm : Str} {N : List Str}
    (at_ : K.lookup f = some ⟨oc, od, .func (PySem.W.fnOf nm q params body scope dV kV doc pm an cdv ct), osl⟩) (code : PySem.W.codeIn K cdv q = true) (S : FnScope N ps scope) (many : ∀ vs H Q E, sp vs H Q E → vs.length = ps.length)
    (inner : ∀ (A : Around) (up : List Env) (s : Shared) (H : Hp) (vs : List V) (Q : VK) (E : XK), Room k (A.deeper (envOfC q scope s.heap.objs.size f cdv)) → Gd k (A.deeper (envOfC q scope s.heap.objs.size f cdv)) → sp vs H Q E →
      ∃ t, PSs (cxOf CX P w K mg base N q scope f cdv A up s H E) body t ∧ t { nx := fun _ H' => Q .non H', rt := Q } (L2.start N vs) H) :
    FnG P w K mg base CX (k + 1) f (PySem.W.fnOf nm q params body scope dV kV doc pm an cdv ct) ps sp := by
  refine ⟨many, fun A gd room up s H args us vs Q E en binds rel wish => ?_⟩
  have cnt := many _ _ _ _ wish
  have inK : K.In s.heap := en.mod.kin.keeps fun b o z => (en.bs b o z).1
  have free : s.heap.NoLimit := en.mod.nolimit.keeps fun b o z => (en.bs b o z).1
  have kinds : ∀ y ∈ ps.zip us, scope.names.lookup y.1 = some .local ∨ (scope.names.lookup y.1 = some .cell ∧ ((cellsFrom (s.heap.objs.size + 1) scope.names []).lookup y.1).isSome = true) := by
    rintro ⟨n, v⟩ mem
    exact (S.par n (List.of_mem_zip mem).1).imp id fun z => ⟨z, PySem.W.cellsFrom_some _ _ _ (.inl z)⟩
  refine codeAny_call_function room.depth (inK _ _ at_) rfl S.co S.gen rfl (PySem.W.codeRec_of inK code) (binds _ _ _ _ ?_)
  refine wpAny_newFunctionEnv_cells S.kind kinds fun env same s1 x => ?_
  cases same
  refine ⟨free.keeps x.toInCall.keep, codeAny_func ?_⟩
  obtain ⟨t, run, ends⟩ := inner A up s H vs Q E (room.deeper _) (gd.deeper _) wish
  have I := inv_start (CX := CX) (E := E) S room.hd en cnt rel x
  refine wpAny_mono (run.run [] s1 (L2.start N vs) H _ I ends) ?_ (fun _ _ z => z)
  rintro (_ | _ | _ | u) s' z
  · obtain ⟨σ', H', J, q⟩ := z
    exact ⟨.non, H', J.os, J.bare, J.base, J.hok, rfl, q⟩
  · exact z.elim fun _ z => z.elim fun _ z => z.2.elim
  · exact z.elim fun _ z => z.elim fun _ z => z.2.elim
  · obtain ⟨v, σ', H', J, r, q⟩ := z
    exact ⟨v, H', J.os, J.bare, J.base, J.hok, r, q⟩
theorem FunG.ok {x q : Str} {st : Stmt} {N : List Str} (F : Fun K x q st f fd) (S : FnScope N ps (defScope st)) (many : ∀ vs H Q E, sp vs H Q E → vs.length = ps.length)
    (inner : ∀ (cdv : Value) (A : Around) (up : List Env) (s : Shared) (H : Hp) (vs : List V) (Q : VK) (E : XK), Room k (A.deeper (envOfC q (defScope st) s.heap.objs.size f cdv)) → Gd k (A.deeper (envOfC q (defScope st) s.heap.objs.size f cdv)) → sp vs H Q E →
      ∃ t, PSs (cxOf CX0 P w K mg base N q (defScope st) f cdv A up s H E).nox (defBody st) t ∧ t { nx := fun _ H' => Q .non H', rt := Q } (L2.start N vs) H) : FnG P w K mg base CX0 (k + 1) f fd ps sp := by
  obtain ⟨oc, od, kV, doc, pm, an, cdv, ct, osl, rfl, at_, code⟩ := F.ex
  refine fnG_of at_ code S many fun A up s H vs Q E room gd wish => ?_
  obtain ⟨t, a, b⟩ := inner cdv A up s H vs Q E room gd wish
  exact ⟨t, a.nox, b⟩
theorem FunG.okX {x q : Str} {st : Stmt} {N : List Str} (F : Fun K x q st f fd) (S : FnScope N ps (defScope st)) (many : ∀ vs H Q E, sp vs H Q E → vs.length = ps.length)
    (inner : ∀ (cdv : Value) (A : Around) (up : List Env) (s : Shared) (H : Hp) (vs : List V) (Q : VK) (E : XK), Room k (A.deeper (envOfC q (defScope st) s.heap.objs.size f cdv)) → Gd k (A.deeper (envOfC q (defScope st) s.heap.objs.size f cdv)) → sp vs H Q E →
      ∃ t, PSs (cxOf (L2N.CX P w) P w K mg base N q (defScope st) f cdv A up s H E) (defBody st) t ∧ t { nx := fun _ H' => Q .non H', rt := Q } (L2.start N vs) H) : FnG P w K mg base (L2N.CX P w) (k + 1) f fd ps sp := by
  obtain ⟨oc, od, kV, doc, pm, an, cdv, ct, osl, rfl, at_, code⟩ := F.ex
  exact fnG_of at_ code S many fun A up s H vs Q E room gd wish => inner cdv A up s H vs Q E room gd wish
end
section
variable {X : Cx} {CX : CXT} {k : Nat} {f : Addr} {fd : FuncData} {ps : List Str} {sp : Sp} {dvs : List V} {ds : List Value} {E : XK} {x : Str} {p pos : Pos} {e : Expr} {es : List Expr} {t : TA}
theorem runG {pins : List (Addr × Obj)} {σ : L2.St} {H : Hp} {s : Shared} {Q : VK} {us : List Value} {vs : List V} (F : FnG X.prog X.w X.K X.mg X.base CX k f fd ps sp) (gd : Gd k X.A) (room : Room k X.A) (hb : Binds X.K fd ps ds) (hd : Vals dvs ds) (out : Passes CX X E)
    (I : Inv X pins σ H s) (r : Vals vs us) (h : sp (vs ++ dvs) H Q E) : wpAny (model X.prog X.w) X.A (call (.ref f) us) (EP X pins σ Q) X.xe s := by
  have all : Vals (vs ++ dvs) (us ++ ds) := r.append hd
  have cnt := F.many _ _ _ _ h
  rw [all.length] at cnt
  refine wpAny_call (codeAny_mono (F.go X.A gd room X.stack s H ⟨us, []⟩ (us ++ ds) (vs ++ dvs) Q E I.env0 (hb s us I.kIn cnt) all h) ?_)
  rintro (z | _ | _ | _ | u) s' end_
  · exact out pins σ H s z s' I end_
  · exact end_.elim
  · exact end_.elim
  · exact end_.elim
  · exact I.after end_
theorem pe_callG (F : FnG X.prog X.w X.K X.mg X.base CX k f fd ps sp) (gd : Gd k X.A) (room : Room k X.A) (hg : Gl X x) (hm : X.mg x = some (.ref f)) (hk : PySem.W.keepIn X.K (.ref f) = true) (hb : Binds X.K fd ps ds) (hd : Vals dvs ds) (out : Passes CX X E)
    (ha : PA X (e :: es) t) (hdb : (x == ("__debug__" : Str)) = false := by decide) (he : starEach (e :: es) X.env = (false, eval e X.env) :: starEach es X.env := by rfl) (hpl : (backTo pos (starEach es X.env)).any (·.1) = false := by rfl) :
    PE X (.Call (.Name x p) (e :: es) [] pos) (tCall sp dvs E t) :=
  ⟨fun pins s σ H Q I h => wpAny_Call_Name_kw (ld_glob I hg hm (PySem.W.callWith_K (h₀ := X.base) I.ok.mod.kin hk (thn (ha.run pos pins s σ H _ I h) fun _ _ ⟨_, _, I1, r, q⟩ => ⟨I1.kIn, runG F gd room hb hd out I1 r q⟩) he hpl) hdb)⟩
end
section
variable {X : Cx} {CX : CXT} {k : Nat} {f : Addr} {fd : FuncData} {ps : List Str} {sp : Sp} {E : L2.St → XK} {x : Str} {p pos : Pos} {e : Expr} {es : List Expr} {t : TA}
theorem runGS {pins : List (Addr × Obj)} {σ : L2.St} {H : Hp} {s : Shared} {Q : VK} {us : List Value} {vs : List V} (F : FnG X.prog X.w X.K X.mg X.base CX k f fd ps sp) (gd : Gd k X.A) (room : Room k X.A) (hb : Binds X.K fd ps []) (out : PassesAt CX X σ (E σ))
    (I : Inv X pins σ H s) (r : Vals vs us) (h : sp vs H Q (E σ)) : wpAny (model X.prog X.w) X.A (call (.ref f) us) (EP X pins σ Q) X.xe s := by
  have cnt := F.many _ _ _ _ h
  rw [r.length] at cnt
  have b := hb s us I.kIn (by rw [List.append_nil]; exact cnt)
  rw [List.append_nil] at b
  refine wpAny_call (codeAny_mono (F.go X.A gd room X.stack s H ⟨us, []⟩ us vs Q (E σ) I.env0 b r h) ?_)
  rintro (z | _ | _ | _ | u) s' end_
  · exact out pins H s z s' I end_
  · exact end_.elim
  · exact end_.elim
  · exact end_.elim
  · exact I.after end_
theorem pe_callGS (F : FnG X.prog X.w X.K X.mg X.base CX k f fd ps sp) (gd : Gd k X.A) (room : Room k X.A) (hg : Gl X x) (hm : X.mg x = some (.ref f)) (hk : PySem.W.keepIn X.K (.ref f) = true) (hb : Binds X.K fd ps []) (out : ∀ σ, PassesAt CX X σ (E σ))
    (ha : PA X (e :: es) t) (hdb : (x == ("__debug__" : Str)) = false := by decide) (he : starEach (e :: es) X.env = (false, eval e X.env) :: starEach es X.env := by rfl) (hpl : (backTo pos (starEach es X.env)).any (·.1) = false := by rfl) :
    PE X (.Call (.Name x p) (e :: es) [] pos) (tCallS sp E t) :=
  ⟨fun pins s σ H Q I h => wpAny_Call_Name_kw (ld_glob I hg hm (PySem.W.callWith_K (h₀ := X.base) I.ok.mod.kin hk (thn (ha.run pos pins s σ H _ I h) fun _ _ ⟨_, _, I1, r, q⟩ => ⟨I1.kIn, runGS F gd room hb (out σ) I1 r q⟩) he hpl) hdb)⟩
end
section
variable {P : Program} {w : World} {K : PySem.W.Frag} {mg mb : Str → Option Value} {CX : CXT} {k : Nat} {fa a : Addr} {fd : FuncData} {x : Str} {sp : Sp} {s₁ : Shared} {vs : List Value} {ns : List Int}
abbrev LawEnd (s₁ : Shared) : Result → Shared → Prop := fun r s' => r = .ok (.ret (.bool true)) ∧ OldK s₁.heap s'.heap ∧ s'.os = s₁.os ∧ AllBare s'.gens
theorem law_from (KX : K.In s₁.heap) (hns : s₁.heap.Ns mainGlobals mg) (hb : s₁.heap.Ns builtinsNs mb) (hbb : ∀ x : Str, x ≠ "__name__" → mb x = bootBuiltins x) (lim : s₁.heap.NoLimit) (seer : s₁.heap.NoSeer) (far : Gd k callerA) (hg : s₁.gens = #[])
    (ha : s₁.heap.get? a = some { cls := .type "list", data := .seq vs.toArray }) (room : Room k callerA)
    (F : ∀ base : Heap, K.In base → base.Ns mainGlobals mg → base.NoSeer → FnG P w K mg base CX k fa fd [x] sp) (bind : ∀ (s : Shared) (u : Value), BindsTo s fd ⟨[u], []⟩ [(x, u)]) (quiet : ∀ H e s', CX [] H s₁ (fun _ _ _ => False) e s' → False)
    (H : Hp) (only : Only H) (wish : sp [.ref a] H (fun v _ => v = .bl true) fun _ _ _ => False) (hok : HOk P w H s₁.heap) (one : ∀ b, H b ≠ none → b = a) (own : H a ≠ none → K.lookup a = none) :
    codeAny (model P w) callerA (.call (.ref fa) ⟨[.ref a], []⟩) (LawEnd s₁) s₁ := by
  have keep : ∀ {b : Addr} {o : Obj}, s₁.heap.get? b = some o → H b = none → (hidT s₁.heap H).get? b = some o := fun z n => hidT_get z n
  have none_of : ∀ {b : Addr} {o : Obj}, s₁.heap.get? b = some o → (∀ m, o.data ≠ .seq vs.toArray m) → H b = none := by
    intro b o z d
    by_cases q : H b = none
    · exact q
    · cases one b q
      rw [ha] at z
      cases z
      exact absurd rfl (d _)
  have ns' : ∀ {b : Addr} {m : Str → Option Value}, s₁.heap.Ns b m → (hidT s₁.heap H).Ns b m := by
    rintro b m ⟨o, es, ep, z, d, r⟩
    exact ⟨o, es, ep, keep z (none_of z fun m q => by rw [d] at q; cases q), d, r⟩
  have inK : K.In (hidT s₁.heap H) := by
    intro b o z
    refine keep (KX b o z) ?_
    by_cases q : H b = none
    · exact q
    · cases one b q
      rw [own q] at z
      cases z
  obtain ⟨mc, c1, c2⟩ := lim
  have sr : (hidT s₁.heap H).NoSeer := by
    obtain ⟨⟨m1, a1, b1⟩, ⟨m2, a2, b2⟩, ⟨m3, a3, b3⟩, ⟨m4, bm, ob, a4, b4, c4, d4, e4⟩⟩ := seer
    refine ⟨⟨m1, ns' a1, b1⟩, ⟨m2, ns' a2, b2⟩, ⟨m3, ns' a3, b3⟩, ⟨m4, bm, ob, ns' a4, b4, keep c4 ?_, d4, e4⟩⟩
    by_cases q : H bm = none
    · exact q
    · cases one bm q
      rw [ha] at c4
      cases c4
      exact absurd (show Value.type "list" = .type "module" from d4) (by decide)
  have en : Env0 P w K mg (hidT s₁.heap H) callerA [] s₁ H :=
    { frames := rfl, mod := ⟨inK, ns' hns, ⟨mb, ns' hb, hbb⟩, ⟨mc, ns' c1, c2⟩⟩, bs := fun b o z => of_hidT z, bsz := Nat.le_of_eq (hidT_size _ _), funs := trivial, frf := fun b z => absurd z List.not_mem_nil, hok := hok, bare := .of_eq hg }
  refine codeAny_mono ((F _ inK (ns' hns) sr).go callerA far room [] s₁ H ⟨[.ref a], []⟩ [.ref a] [.ref a] _ _ en (bind s₁ (.ref a)) (.cons rfl .nil) wish) ?_
  rintro (e | _ | _ | _ | u) s' z
  · exact (quiet H e s' z).elim
  · exact z.elim
  · exact z.elim
  · exact z.elim
  · obtain ⟨v, H', os, bare, un, hok', r, q⟩ := z
    have q : v = .bl true := q
    cases q
    cases r
    refine ⟨rfl, OldK.of_keep fun b o z => ?_, os, bare⟩
    by_cases q : H b = none
    · exact un.keep b o z q (fun m => absurd m List.not_mem_nil) List.not_mem_nil
    · rcases only b with m | ⟨ob, xs, m⟩
      · exact absurd m q
      · have h1 := (hok b _ m).1
        rw [z] at h1
        cases h1
        exact (hok' b _ (un.frzs b o _ m)).1
theorem law_callG (KX : K.In s₁.heap) (hns : s₁.heap.Ns mainGlobals mg) (hb : s₁.heap.Ns builtinsNs mb) (hbb : ∀ x : Str, x ≠ "__name__" → mb x = bootBuiltins x) (lim : s₁.heap.NoLimit) (seer : s₁.heap.NoSeer) (far : Gd k callerA) (hg : s₁.gens = #[])
    (ha : s₁.heap.get? a = some { cls := .type "list", data := .seq vs.toArray }) (hi : IntsAre vs ns) (hl : ns.length ≤ sizeLine) (room : Room k callerA)
    (F : ∀ base : Heap, K.In base → base.Ns mainGlobals mg → base.NoSeer → FnG P w K mg base CX k fa fd [x] sp) (bind : ∀ (s : Shared) (u : Value), BindsTo s fd ⟨[u], []⟩ [(x, u)]) (quiet : ∀ H e s', CX [] H s₁ (fun _ _ _ => False) e s' → False)
    (wish : ∀ H : Hp, Only H → SqL K H a (ns.map V.int) → sp [.ref a] H (fun v _ => v = .bl true) fun _ _ _ => False) :
    codeAny (model P w) callerA (.call (.ref fa) ⟨[.ref a], []⟩) (LawEnd s₁) s₁ := by
  have rv := vals_ints hi
  have cnt := hi.length
  have go := law_from KX hns hb hbb lim seer far hg ha room F bind quiet
  by_cases hk : K.lookup a = none
  · let H1 : Hp := fun b => if b = a then some (.frz { cls := .type "list", data := .seq vs.toArray } (.lst (ns.map V.int))) else none
    have e1 : H1 a = some (.frz { cls := .type "list", data := .seq vs.toArray } (.lst (ns.map V.int))) := if_pos rfl
    have e2 : ∀ b, b ≠ a → H1 b = none := fun b h => if_neg h
    have only : Only H1 := fun b => by
      by_cases h : b = a
      · exact .inr ⟨_, _, by rw [h]; exact e1⟩
      · exact .inl (e2 b h)
    refine go H1 only (wish H1 only (.inl (.inr ⟨_, e1⟩))) (fun b u z => ?_) (fun b z => Classical.byContradiction fun h => z (e2 b h)) fun _ => hk
    by_cases h : b = a
    · rw [h, e1] at z
      cases z
      rw [h]
      exact ⟨ha, by rw [List.length_map]; exact hl, vs, _, rv, ha⟩
    · rw [e2 b h] at z
      cases z
  · obtain ⟨o, ho⟩ := Option.ne_none_iff_exists'.mp hk
    have z := KX a o ho
    rw [ha] at z
    cases z
    have only : Only (fun _ => none) := fun _ => .inl rfl
    exact go (fun _ => none) only (wish _ only (.inr ⟨_, vs.toArray, _, ho, rfl, rfl, rfl, by rw [List.size_toArray, cnt]; exact hl, by simpa using rv⟩)) (fun b u z => nomatch z) (fun b z => absurd rfl z) fun z => absurd rfl z
theorem walk_ofG {l : PySem.W.OpenLaw} {n k : Nat} {q : Program} {loose : List Str} {XP : (Str → Option Value) → Heap → Prop} {YP : World → Heap → Prop} {d : DefRec} {K : Params → PySem.W.Frag} {CX : World → CXT} {sp : World → Sp} {x : Str}
    (hn : l.most = some n) (hn2 : n ≤ sizeLine) (hdf : d.params.defaults = []) (room : Room k callerA) (far : Gd k callerA) (imp : importsNone q = true) (hY : ∀ (w : World) (h : Heap), YP w h → (K w.params).In h)
    (F : ∀ (w : World) (mg : Str → Option Value) (fa : Addr) (h : Heap), (K w.params).In h → h.Ns mainGlobals mg → mg d.name = some (.ref fa) →
      ∃ fd : FuncData, (∀ (s : Shared) (u : Value), BindsTo s fd ⟨[u], []⟩ [(x, u)]) ∧ ∀ base : Heap, (K w.params).In base → base.Ns mainGlobals mg → base.NoSeer → FnG l.prog w (K w.params) mg base (CX w) k fa fd [x] (sp w))
    (wish : ∀ (w : World) (H : Hp) (a : Addr) (ns : List Int), ns.length ≤ n → Only H → SqL (K w.params) H a (ns.map V.int) → sp w [.ref a] H (fun v _ => v = .bl true) fun _ _ _ => False)
    (quiet : ∀ (w : World) (H : Hp) (s : Shared) (e : Value) (s' : Shared), CX w [] H s (fun _ _ _ => False) e s' → False) :
    PySem.W.WalkO q loose XP YP l.row.toRowW d [] (fun f vs => PySem.call f vs) := by
  refine Att.attach_call hn hdf fun w s₀ s₁ mg mb fa o pm cd doc a vs ns G Y ho hd hcd hmg hobj hints hlen hg => ?_
  obtain ⟨fd, bind, hF⟩ := F w mg fa _ (hY w _ Y) G.T.g hmg
  exact law_callG (hY w _ Y) G.T.g G.T.b G.T.builtins G.T.nolimit (G.T.seer imp) far hg hobj hints (Nat.le_trans hlen hn2) room hF bind (fun H e s' => quiet w H s₁ e s') fun H hO hS => wish w H a ns hlen hO hS
end
end B2

namespace B2
open PySem L2
def keyD : Key → PyData
  | .inl i => .int i
  | .inr x => .str x
mutual
inductive Dq (K : PySem.W.Frag) (H : Hp) : V → PyData → Prop
  | non : Dq K H .non .none
  | bl (b : Bool) : Dq K H (.bl b) (.bool b)
  | int (i : Int) : Dq K H (.int i) (.int i)
  | str (x : Str) : Dq K H (.str x) (.str x)
  | lst {a : Addr} {xs : List V} {ds : List PyData} : H a = some (.lst xs) → DqA K H xs ds → Dq K H (.ref a) (.list ds)
  | tup {a : Addr} {xs : List V} {ds : List PyData} : SqT K H a xs → DqA K H xs ds → Dq K H (.ref a) (.tuple ds)
  | dic {a : Addr} {kvs : List (Key × V)} {ds : List (PyData × PyData)} {vs : List V} {es : List PyData} : H a = some (.dK kvs) → ds.map (·.1) = kvs.map (fun kv => keyD kv.1) → kvs.map (·.2) = vs → ds.map (·.2) = es → DqA K H vs es → Dq K H (.ref a) (.dict ds)
inductive DqA (K : PySem.W.Frag) (H : Hp) : List V → List PyData → Prop
  | nil : DqA K H [] []
  | cons {v : V} {vs : List V} {d : PyData} {ds : List PyData} : Dq K H v d → DqA K H vs ds → DqA K H (v :: vs) (d :: ds)
end
theorem Same.sqt {K : PySem.W.Frag} {H H' : Hp} {a : Addr} {xs : List V} (e : Same H H') (h : SqT K H a xs) : SqT K H' a xs := by
  rcases h with (h | ⟨o, h⟩) | h
  · exact .inl (.inl (e _ _ h))
  · exact .inl (.inr ⟨o, e _ _ h⟩)
  · exact .inr h
mutual
theorem Dq.mono {K : PySem.W.Frag} {H H' : Hp} (e : Same H H') : ∀ {v : V} {d : PyData}, Dq K H v d → Dq K H' v d
  | _, _, .non => .non
  | _, _, .bl b => .bl b
  | _, _, .int i => .int i
  | _, _, .str x => .str x
  | _, _, .lst h q => .lst (e _ _ h) (DqA.mono e q)
  | _, _, .tup h q => .tup (Same.sqt e h) (DqA.mono e q)
  | _, _, .dic h e1 e2 e3 q => .dic (e _ _ h) e1 e2 e3 (DqA.mono e q)
theorem DqA.mono {K : PySem.W.Frag} {H H' : Hp} (e : Same H H') : ∀ {vs : List V} {ds : List PyData}, DqA K H vs ds → DqA K H' vs ds
  | _, _, .nil => .nil
  | _, _, .cons h q => .cons (Dq.mono e h) (DqA.mono e q)
end
mutual
def noLst : PyData → Bool
  | .list _ => false
  | .tuple xs => noLstA xs
  | .dict kvs => noLstK kvs
  | _ => true
def noLstA : List PyData → Bool
  | [] => true
  | x :: xs => noLst x && noLstA xs
def noLstK : List (PyData × PyData) → Bool
  | [] => true
  | (_, v) :: r => noLst v && noLstK r
end
theorem noLstK_map : ∀ kvs : List (PyData × PyData), noLstK kvs = noLstA (kvs.map (·.2))
  | [] => by simp only [noLstK, List.map_nil, noLstA]
  | (k, v) :: r => by simp only [noLstK, List.map_cons, noLstA, noLstK_map r]
theorem keys_read {h : Heap} {P : Program} {w : World} : ∀ {es : List DictEntry} {kvs : List (Key × V)} {rs : List (Key × Value)}, KV kvs rs → Pairs (mixKind P w) es rs → ReadsAll h (es.map (·.key)) (kvs.map fun kv => keyD kv.1) []
  | [], [], _, _, _ => .nil
  | [], _ :: _, _, r, p => by cases p; cases r
  | _ :: _, [], _, r, p => by cases p; cases r
  | e :: es, kv :: kvs, _, r, p => by
    cases p with
    | cons h1 h2 h3 =>
      cases r with
      | cons r1 r2 =>
        have ih := keys_read (h := h) r2 h3
        have k : Reads h e.key (keyD kv.1) [] := by
          rcases keyIs_shape h1 with ⟨i, t, e1, e2⟩ | ⟨x, t, e1, e2⟩
          · rw [e2, show kv.1 = Sum.inl i from r1.1.trans e1]; exact .int i t
          · rw [e2, show kv.1 = Sum.inr x from r1.1.trans e1]; exact .str x t
        exact .cons k ih
theorem vals_of {P : Program} {w : World} : ∀ {es : List DictEntry} {kvs : List (Key × V)} {rs : List (Key × Value)}, KV kvs rs → Pairs (mixKind P w) es rs → Vals (kvs.map (·.2)) (es.map (·.val))
  | [], [], _, _, _ => .nil
  | [], _ :: _, _, r, p => by cases p; cases r
  | _ :: _, [], _, r, p => by cases p; cases r
  | e :: es, kv :: kvs, _, r, p => by
    cases p with
    | cons h1 h2 h3 =>
      cases r with
      | cons r1 r2 =>
        refine .cons ?_ (vals_of r2 h3)
        show RelV kv.2 e.val
        rw [h2]; exact r1.2
section
variable {X : Cx} {pins : List (Addr × Obj)} {σ : St} {H : Hp} {s : Shared}
mutual
theorem Dq.reads (I : Inv X pins σ H s) : ∀ {v : V} {d : PyData}, Dq X.K H v d → ∀ {u : Value}, RelV v u → ∃ as, Reads s.heap u d as ∧ (noLst d = true → ∀ a ∈ as, a ≠ sysModules)
  | _, _, .non, _, r => by
    cases r
    exact ⟨_, Reads.none, fun _ _ h => (List.not_mem_nil h).elim⟩
  | _, _, .bl b, _, r => by
    cases r
    exact ⟨_, Reads.bool b, fun _ _ h => (List.not_mem_nil h).elim⟩
  | _, _, .int i, _, r => by
    obtain ⟨t, rfl⟩ := r
    exact ⟨_, Reads.int i t, fun _ _ h => (List.not_mem_nil h).elim⟩
  | _, _, .str x, _, r => by
    obtain ⟨t, rfl⟩ := r
    exact ⟨_, Reads.str x t, fun _ _ h => (List.not_mem_nil h).elim⟩
  | _, _, .lst hs ha, _, r => by
    cases r
    obtain ⟨its, rv, ⟨o, n, ho, hc, _, hd⟩, _⟩ := I.list (SqL.of hs)
    obtain ⟨as, hr, hn⟩ := DqA.reads I ha rv
    exact ⟨_, Reads.list ho hc hd hr, fun z => by simp only [noLst] at z; cases z⟩
  | _, _, .tup hs ha, _, r => by
    cases r
    obtain ⟨its, rv, ⟨o, ho, hc, n, hd⟩, _⟩ := I.tuple hs
    obtain ⟨as, hr, hn⟩ := DqA.reads I ha rv
    exact ⟨_, Reads.tuple ho hc hd hr, fun z => hn (by simpa only [noLst] using z)⟩
  | _, _, .dic hs e1 e2 e3 ha, _, r => by
    cases r
    obtain ⟨_, hsm, rs, rk, o, es, ep, ho, hx, hd, _, hp, _⟩ := dk_of I.hok hs
    obtain ⟨bs, hr, hn⟩ := DqA.reads I ha (by rw [← e2]; exact vals_of rk hp)
    refine ⟨_, Reads.dict ho hx.1 hd (by rw [e1]; exact keys_read rk hp) (by rw [e3]; exact hr), fun hz a hm => ?_⟩
    rcases List.mem_cons.mp hm with z | z
    · rw [z]; exact fun q => by rw [q] at hsm; exact absurd hsm (by decide)
    · simp only [noLst] at hz
      rw [noLstK_map, e3] at hz
      exact hn hz a z
theorem DqA.reads (I : Inv X pins σ H s) : ∀ {vs : List V} {ds : List PyData}, DqA X.K H vs ds → ∀ {us : List Value}, Vals vs us → ∃ as, ReadsAll s.heap us ds as ∧ (noLstA ds = true → ∀ a ∈ as, a ≠ sysModules)
  | _, _, .nil, _, r => by
    cases r
    exact ⟨_, ReadsAll.nil, fun _ _ h => (List.not_mem_nil h).elim⟩
  | _, _, .cons h1 h2, _, r => by
    cases r with
    | cons r1 r2 =>
      obtain ⟨as, q1, n1⟩ := Dq.reads I h1 r1
      obtain ⟨bs, q2, n2⟩ := DqA.reads I h2 r2
      exact ⟨_, ReadsAll.cons q1 q2, fun z a hm => by
        simp only [noLstA, Bool.and_eq_true] at z
        exact (List.mem_append.mp hm).elim (n1 z.1 a) (n2 z.2 a)⟩
end
end
section
variable {K : PySem.W.Frag} {H : Hp}
theorem DqA.length : ∀ {vs : List V} {ds : List PyData}, DqA K H vs ds → vs.length = ds.length
  | _, _, .nil => rfl
  | _, _, .cons _ q => by simp [DqA.length q]
theorem DqA.get : ∀ {vs : List V} {ds : List PyData} {i : Nat} {d : PyData}, DqA K H vs ds → ds[i]? = some d → ∃ v, vs[i]? = some v ∧ Dq K H v d
  | _, _, _, _, .nil, h => by simp at h
  | _, _, 0, _, .cons h q, e => by simp at e; subst e; exact ⟨_, rfl, h⟩
  | _, _, i + 1, _, .cons h q, e => by
    obtain ⟨v, h1, h2⟩ := DqA.get (i := i) q (by simpa using e)
    exact ⟨v, by simpa using h1, h2⟩
theorem DqA.get' : ∀ {vs : List V} {ds : List PyData} {i : Nat} {v : V}, DqA K H vs ds → vs[i]? = some v → ∃ d, ds[i]? = some d ∧ Dq K H v d
  | _, _, _, _, .nil, h => by simp at h
  | _, _, 0, _, .cons h q, e => by simp at e; subst e; exact ⟨_, rfl, h⟩
  | _, _, i + 1, _, .cons h q, e => by
    obtain ⟨v, h1, h2⟩ := DqA.get' (i := i) q (by simpa using e)
    exact ⟨v, by simpa using h1, h2⟩
theorem DqA.append : ∀ {vs ws : List V} {ds es : List PyData}, DqA K H vs ds → DqA K H ws es → DqA K H (vs ++ ws) (ds ++ es)
  | _, _, _, _, .nil, s => s
  | _, _, _, _, .cons h q, s => .cons h (DqA.append q s)
theorem DqA.set {v : V} {d : PyData} (h : Dq K H v d) : ∀ {vs : List V} {ds : List PyData} (i : Nat), DqA K H vs ds → DqA K H (vs.set i v) (ds.set i d)
  | _, _, _, .nil => .nil
  | _, _, 0, .cons _ q => .cons h q
  | _, _, i + 1, .cons r q => .cons r (DqA.set h i q)
theorem DqA.take : ∀ {vs : List V} {ds : List PyData} (n : Nat), DqA K H vs ds → DqA K H (vs.take n) (ds.take n)
  | _, _, 0, _ => .nil
  | _, _, _ + 1, .nil => .nil
  | _, _, n + 1, .cons r q => .cons r (DqA.take n q)
theorem DqA.drop : ∀ {vs : List V} {ds : List PyData} (n : Nat), DqA K H vs ds → DqA K H (vs.drop n) (ds.drop n)
  | _, _, 0, r => r
  | _, _, _ + 1, .nil => .nil
  | _, _, n + 1, .cons _ q => DqA.drop n q
theorem DqA.eraseIdx : ∀ {vs : List V} {ds : List PyData} (i : Nat), DqA K H vs ds → DqA K H (vs.eraseIdx i) (ds.eraseIdx i)
  | _, _, _, .nil => .nil
  | _, _, 0, .cons _ q => q
  | _, _, i + 1, .cons r q => .cons r (DqA.eraseIdx i q)
theorem DqA.reverse : ∀ {vs : List V} {ds : List PyData}, DqA K H vs ds → DqA K H vs.reverse ds.reverse
  | _, _, .nil => .nil
  | _, _, .cons r q => by
    rw [List.reverse_cons, List.reverse_cons]
    exact (DqA.reverse q).append (.cons r .nil)
theorem DqA.rep {vs : List V} {ds : List PyData} (h : DqA K H vs ds) : ∀ k : Nat, DqA K H (List.replicate k vs).flatten (List.replicate k ds).flatten
  | 0 => .nil
  | k + 1 => by
    rw [List.replicate_succ, List.replicate_succ, List.flatten_cons, List.flatten_cons]
    exact h.append (DqA.rep h k)
theorem DqA.one {v : V} {ds : List PyData} (h : DqA K H [v] ds) : ∃ d, ds = [d] ∧ Dq K H v d := by
  cases h with
  | cons a b => cases b; exact ⟨_, rfl, a⟩
theorem DqA.strs : ∀ {vs : List V} {ns : List Str}, DqA K H vs (ns.map PyData.str) → vs = ns.map V.str
  | _, [], h => by cases h; rfl
  | _, n :: ns, h => by
    rw [List.map_cons] at h
    cases h with
    | cons a b => cases a; rw [DqA.strs b]; rfl
theorem DqA.of_strs : ∀ (ns : List Str), DqA K H (ns.map V.str) (ns.map PyData.str)
  | [] => .nil
  | n :: ns => .cons (.str n) (DqA.of_strs ns)
end
structure Gs where
  a : Addr
  b : Addr
  c : Addr
def InG (g : Option Gs) (p : Addr) : Prop := match g with
  | none => False
  | some g => p = g.a ∨ p = g.b ∨ p = g.c
structure DrawOk (H : Hp) (g : Gs) (n : Nat) : Prop where
  ab : g.a ≠ g.b
  ac : g.a ≠ g.c
  bc : g.b ≠ g.c
  ex : ∃ (k : Nat) (cs rs : List Int), k ≤ n ∧ H g.a = some (.lst [.ref g.b, .int (k : Nat), .ref g.c]) ∧ H g.b = some (.lst (cs.map V.int)) ∧ H g.c = some (.lst (rs.map V.int)) ∧ cs.length = rs.length ∧ 0 < cs.length ∧ cs.length ≤ 64
theorem DrawOk.mono {H : Hp} {g : Gs} {n m : Nat} (h : DrawOk H g n) (l : n ≤ m) : DrawOk H g m := by
  obtain ⟨k, cs, rs, h1, h2⟩ := h.ex
  exact ⟨h.ab, h.ac, h.bc, k, cs, rs, Nat.le_trans h1 l, h2⟩
theorem DrawOk.keep {H H' : Hp} {g : Gs} {n : Nat} (h : DrawOk H g n) (e : ∀ p o, InG (some g) p → H p = some o → H' p = some o) : DrawOk H' g n := by
  obtain ⟨k, cs, rs, h1, h2, h3, h4, h5⟩ := h.ex
  exact ⟨h.ab, h.ac, h.bc, k, cs, rs, h1, e _ _ (.inl rfl) h2, e _ _ (.inr (.inl rfl)) h3, e _ _ (.inr (.inr rfl)) h4, h5⟩
theorem DrawOk.there {H : Hp} {g : Gs} {n : Nat} (h : DrawOk H g n) {p : Addr} (q : InG (some g) p) : H p ≠ none := by
  obtain ⟨k, cs, rs, h1, h2, h3, h4, h5⟩ := h.ex
  rcases q with rfl | rfl | rfl
  · rw [h2]; simp
  · rw [h3]; simp
  · rw [h4]; simp
def LIM : Nat := 2 ^ 40000
inductive OB where
  | dic (kvs : List (Key × PyData))
  | rows (as : List Addr) (dss : List (List PyData))
  | «at» (a : Addr) (ds : List PyData)
  | ret (a : Addr) (ds : List PyData) (d : PyData)
  | tt (ds : List PyData)
inductive X2 where
  | d (d : PyData)
  | own (ds : List PyData)
  | slot (i : Nat)
  | drw
  | scr (a : Addr)
  | ob (o : OB)
abbrev Env := Nat → Option X2
def upE (ρ : Env) (i : Nat) (x : Option X2) : Env := fun j => if j = i then x else ρ j
structure Base where
  He : Hp
  Hb : Hp
  g : Option Gs
def OwnAt (K : PySem.W.Frag) (B : Base) (H0 H : Hp) (g : Option Gs) (p : Addr) (ds : List PyData) : Prop :=
  ∃ vs, H p = some (.lst vs) ∧ DqA K H0 vs ds ∧ H0 p = none ∧ B.He p = none ∧ ¬ InG g p
def Foot : X2 → Addr → Addr → Prop
  | .own _, p, a => a = p
  | .ob (.dic _), p, a => a = p
  | .ob (.rows as _), p, a => a = p ∨ a ∈ as
  | .ob (.at _ _), p, a => a = p
  | _, _, _ => False
structure Priv (B : Base) (H0 : Hp) (g : Option Gs) (p : Addr) : Prop where
  h0 : H0 p = none
  he : B.He p = none
  ng : ¬ InG g p
def TtAt (K : PySem.W.Frag) (H0 : Hp) (p : Addr) (ds : List PyData) : Prop := ∃ (o : Obj) (xs : List V), H0 p = some (.frz o (.tup xs)) ∧ o.dict = none ∧ DqA K H0 xs ds
theorem TtAt.mono {K : PySem.W.Frag} {H0 H0' : Hp} {p : Addr} {ds : List PyData} (e : Same H0 H0') (h : TtAt K H0 p ds) : TtAt K H0' p ds := let ⟨o, xs, h1, h2, h3⟩ := h; ⟨o, xs, e _ _ h1, h2, h3.mono e⟩
theorem TtAt.dq {K : PySem.W.Frag} {H0 : Hp} {p : Addr} {ds : List PyData} (h : TtAt K H0 p ds) : Dq K H0 (.ref p) (.tuple ds) := let ⟨o, _, h1, _, h3⟩ := h; .tup (.inl (.inr ⟨o, h1⟩)) h3
def ObAt (K : PySem.W.Frag) (B : Base) (H0 H : Hp) (g : Option Gs) (p : Addr) : OB → Prop
  | .dic kvs => Priv B H0 g p ∧ ∃ ks : List (Key × V), H p = some (.dK ks) ∧ ks.map (·.1) = kvs.map (·.1) ∧ DqA K H0 (ks.map (·.2)) (kvs.map (·.2))
  | .rows as dss => Priv B H0 g p ∧ (∀ a ∈ as, Priv B H0 g a) ∧ H p = some (.lst (as.map .ref)) ∧ (p :: as).Nodup ∧ as.length = dss.length ∧ ∀ (i : Nat) (a : Addr) (ds : List PyData), as[i]? = some a → dss[i]? = some ds → ∃ vs, H a = some (.lst vs) ∧ DqA K H0 vs ds
  | .at b ds => p = b ∧ Priv B H0 g p ∧ ∃ vs, H p = some (.lst vs) ∧ DqA K H0 vs ds
  | .ret _ _ d => Dq K H0 (.ref p) d
  | .tt ds => TtAt K H0 p ds
theorem ObAt.foot {K : PySem.W.Frag} {B : Base} {H0 H : Hp} {g : Option Gs} {p : Addr} {o : OB} (h : ObAt K B H0 H g p o) {a : Addr} (f : Foot (.ob o) p a) : Priv B H0 g a ∧ H a ≠ none := by
  cases o with
  | dic kvs =>
    obtain ⟨h1, ks, h2, _⟩ := h
    have f : a = p := f
    rw [f]
    exact ⟨h1, by rw [h2]; simp⟩
  | rows as dss =>
    obtain ⟨h1, h2, h3, h4, h5, h6⟩ := h
    rcases f with f | f
    · rw [f]; exact ⟨h1, by rw [h3]; simp⟩
    · refine ⟨h2 a f, ?_⟩
      obtain ⟨i, hi, e⟩ := List.getElem_of_mem f
      obtain ⟨vs, q, _⟩ := h6 i a (dss[i]'(by omega)) (by rw [List.getElem?_eq_getElem hi, e]) (List.getElem?_eq_getElem _)
      rw [q]; simp
  | «at» b ds =>
    obtain ⟨_, h1, vs, h2, _⟩ := h
    have f : a = p := f
    rw [f]
    exact ⟨h1, by rw [h2]; simp⟩
  | ret _ _ _ => exact f.elim
  | tt _ => exact f.elim
theorem ObAt.keep {K : PySem.W.Frag} {B B' : Base} {H0 H0' H H' : Hp} {g g' : Option Gs} {p : Addr} {o : OB} (h : ObAt K B H0 H g p o) (e : Same H0 H0') (k : ∀ a, Foot (.ob o) p a → (∀ u, H a = some u → H' a = some u) ∧ (Priv B H0 g a → Priv B' H0' g' a)) : ObAt K B' H0' H' g' p o := by
  cases o with
  | dic kvs =>
    obtain ⟨h1, ks, h2, h3, h4⟩ := h
    exact ⟨(k p rfl).2 h1, ks, (k p rfl).1 _ h2, h3, DqA.mono e h4⟩
  | rows as dss =>
    obtain ⟨h1, h2, h3, h4, h5, h6⟩ := h
    refine ⟨(k p (.inl rfl)).2 h1, fun a ha => (k a (.inr ha)).2 (h2 a ha), (k p (.inl rfl)).1 _ h3, h4, h5, fun i a ds e1 e2 => ?_⟩
    obtain ⟨vs, q1, q2⟩ := h6 i a ds e1 e2
    exact ⟨vs, (k a (.inr (List.mem_of_getElem? e1))).1 _ q1, DqA.mono e q2⟩
  | «at» b ds =>
    obtain ⟨h0, h1, vs, h2, h3⟩ := h
    exact ⟨h0, (k p rfl).2 h1, vs, (k p rfl).1 _ h2, DqA.mono e h3⟩
  | ret _ _ _ => exact Dq.mono e h
  | tt _ => exact TtAt.mono e h
theorem OwnAt.priv {K : PySem.W.Frag} {B : Base} {H0 H : Hp} {g : Option Gs} {p : Addr} {ds : List PyData} (h : OwnAt K B H0 H g p ds) : Priv B H0 g p ∧ H p ≠ none := by
  obtain ⟨vs, h1, _, h2, h3, h4⟩ := h
  exact ⟨⟨h2, h3, h4⟩, by rw [h1]; simp⟩
def RelN (K : PySem.W.Frag) (H0 : Hp) (g : Option Gs) (σ : St) (v : V) : X2 → Prop
  | .d d => Dq K H0 v d
  | .own _ => False
  | .slot i => σ[i]? = some (some v)
  | .drw => ∃ g', g = some g' ∧ v = .ref g'.a
  | .scr a => v = .ref a
  | .ob _ => False
def RelS (K : PySem.W.Frag) (B : Base) (H0 H : Hp) (g : Option Gs) (v : V) : X2 → Prop
  | .d d => Dq K H0 v d
  | .own ds => ∃ p, v = .ref p ∧ OwnAt K B H0 H g p ds
  | .slot _ => False
  | .drw => ∃ g', g = some g' ∧ v = .ref g'.a
  | .scr a => v = .ref a
  | .ob o => ∃ p, v = .ref p ∧ ObAt K B H0 H g p o
theorem RelS.foot {K : PySem.W.Frag} {B : Base} {H0 H : Hp} {g : Option Gs} {v : V} {x : X2} (h : RelS K B H0 H g v x) {q a : Addr} (e : v = .ref q) (f : Foot x q a) : Priv B H0 g a ∧ H a ≠ none := by
  cases x with
  | own ds =>
    obtain ⟨p, h1, h2⟩ := h
    rw [h1] at e; cases e
    have f : a = q := f
    rw [f]; exact h2.priv
  | ob o =>
    obtain ⟨p, h1, h2⟩ := h
    rw [h1] at e; cases e
    exact h2.foot f
  | d _ => exact f.elim
  | slot _ => exact f.elim
  | drw => exact f.elim
  | scr _ => exact f.elim
theorem RelS.keep {K : PySem.W.Frag} {B B' : Base} {H0 H0' H H' : Hp} {g : Option Gs} {v : V} {x : X2} (h : RelS K B H0 H g v x) (e : Same H0 H0') (k : ∀ q a, v = .ref q → Foot x q a → (∀ u, H a = some u → H' a = some u) ∧ (Priv B H0 g a → Priv B' H0' g a)) : RelS K B' H0' H' g v x := by
  cases x with
  | own ds =>
    obtain ⟨p, rfl, vs, h1, h2, h3, h4, h5⟩ := h
    obtain ⟨k1, k2⟩ := k p p rfl rfl
    have := k2 ⟨h3, h4, h5⟩
    exact ⟨_, rfl, vs, k1 _ h1, DqA.mono e h2, this.h0, this.he, this.ng⟩
  | ob o =>
    obtain ⟨p, rfl, h2⟩ := h
    exact ⟨p, rfl, h2.keep e fun a f => k p a rfl f⟩
  | d _ => exact Dq.mono e h
  | slot _ => exact h
  | drw => exact h
  | scr _ => exact h
structure RS (K : PySem.W.Frag) (B : Base) (H0 : Hp) (g : Option Gs) (σ : St) (ρ : Env) (n : Nat) (H : Hp) : Prop where
  hb : Same B.Hb H0
  new : ∀ p o, H0 p = some o → B.Hb p = some o ∨ B.He p = none
  ext : Same H0 H
  keep : ∀ p o, B.He p = some o → ¬ InG B.g p → H p = some o
  drw : ∀ g', g = some g' → DrawOk H g' n
  drf : ∀ p, InG g p → H0 p = none
  gg : B.g = g ∨ (B.g = none ∧ ∀ p, InG g p → B.He p = none)
  sl : ∀ i x, ρ i = some x → ∃ v, σ[i]? = some (some v) ∧ RelS K B H0 H g v x
  dist : ∀ i j p q a x y, ρ i = some x → ρ j = some y → σ[i]? = some (some (.ref p)) → σ[j]? = some (some (.ref q)) → Foot x p a → Foot y q a → i = j
def RelR (K : PySem.W.Frag) (B : Base) (H0 H : Hp) (g : Option Gs) (σ : St) (ρ : Env) (v : V) : X2 → Prop
  | .own ds => ∃ p, v = .ref p ∧ OwnAt K B H0 H g p ds ∧ ∀ i x q, ρ i = some x → σ[i]? = some (some (.ref q)) → ¬ Foot x q p
  | .ob (.ret a ds d) => ∃ q, v = .ref q ∧ Dq K H0 v d ∧ ∃ us, H a = some (.lst us) ∧ DqA K H0 us ds ∧ Priv B H0 g a
  | .ob (.tt ds) => ∃ q, v = .ref q ∧ TtAt K H0 q ds
  | x => RelN K H0 g σ v x
def rd (ρ : Env) : X2 → Option PyData
  | .d d => some d
  | .own ds => some (.list ds)
  | .slot i => match ρ i with
    | some (.own ds) => some (.list ds)
    | some (.d d) => some d
    | some (.ob (.at _ ds)) => some (.list ds)
    | some (.ob (.tt ds)) => some (.tuple ds)
    | _ => none
  | .ob (.tt ds) => some (.tuple ds)
  | _ => none
section
variable {K : PySem.W.Frag} {B : Base} {H0 H0' H H' : Hp} {g : Option Gs} {σ : St} {ρ : Env} {n m : Nat} {v : V} {x : X2}
theorem RelN.mono (e : Same H0 H0') (h : RelN K H0 g σ v x) : RelN K H0' g σ v x := by
  cases x with
  | d d => exact Dq.mono e h
  | own _ => exact h
  | slot _ => exact h
  | drw => exact h
  | scr _ => exact h
  | ob _ => exact h
theorem RS.count (r : RS K B H0 g σ ρ n H) (l : n ≤ m) : RS K B H0 g σ ρ m H :=
  ⟨r.hb, r.new, r.ext, r.keep, fun g' e => (r.drw g' e).mono l, r.drf, r.gg, r.sl, r.dist⟩
theorem RS.fresh (r : RS K B H0 g σ ρ n H) {p : Addr} (h : H p = none) : B.He p = none ∧ H0 p = none ∧ ¬ InG g p := by
  have hg : ¬ InG g p := fun q => by
    cases e : g with
    | none => rw [e] at q; exact q
    | some g' =>
      rw [e] at q
      exact (r.drw g' e).there q h
  refine ⟨?_, ?_, hg⟩
  · cases e : B.He p with
    | none => rfl
    | some o =>
      have := r.keep p o e fun q => by
        rcases r.gg with k | ⟨k, _⟩
        · rw [k] at q; exact hg q
        · rw [k] at q; exact q
      rw [h] at this; cases this
  · cases e : H0 p with
    | none => rfl
    | some o =>
      have := r.ext p o e
      rw [h] at this; cases this
theorem RS.grow (r : RS K B H0 g σ ρ n H) (e : Same H H') : RS K B H0 g σ ρ n H' := by
  refine ⟨r.hb, r.new, fun p o q => e p o (r.ext p o q), fun p o q z => e p o (r.keep p o q z), fun g' q => (r.drw g' q).keep fun p o _ z => e p o z, r.drf, r.gg, fun i x q => ?_, r.dist⟩
  obtain ⟨v, h1, h2⟩ := r.sl i x q
  exact ⟨v, h1, h2.keep (Same.refl _) fun _ a _ _ => ⟨fun u z => e a u z, id⟩⟩
theorem RelR.grow (r : RelR K B H0 H g σ ρ v x) (e : Same H H') : RelR K B H0 H' g σ ρ v x := by
  cases x with
  | own ds =>
    obtain ⟨p, h3, ⟨vs, h4, h5⟩, h6⟩ := r
    exact ⟨p, h3, ⟨vs, e p _ h4, h5⟩, h6⟩
  | d _ => exact r
  | slot _ => exact r
  | drw => exact r
  | scr _ => exact r
  | ob o => cases o with
    | ret a ds d =>
      obtain ⟨q, h1, h2, us, h3, h4⟩ := r
      exact ⟨q, h1, h2, us, e a _ h3, h4⟩
    | dic _ => exact r
    | tt _ => exact r
    | rows _ _ => exact r
    | «at» _ _ => exact r
theorem RS.lay (r : RS K B H0 g σ ρ n H) {p : Addr} {o : HO} (h : H p = none) : RS K B (upd H0 p o) g σ ρ n (upd H p o) ∧ Same H0 (upd H0 p o) := by
  obtain ⟨f1, f2, f3⟩ := r.fresh h
  have s0 : Same H0 (upd H0 p o) := fun b u e => by rw [upd_ne (ne_of_none e f2)]; exact e
  have s1 : Same H (upd H p o) := fun b u e => by rw [upd_ne (ne_of_none e h)]; exact e
  have r1 := r.grow s1
  refine ⟨⟨fun b u e => s0 b u (r.hb b u e), fun b u e => ?_, fun b u e => ?_, r1.keep, r1.drw, fun b q => ?_, r.gg, fun i x q => ?_, r.dist⟩, s0⟩
  · by_cases hb : b = p
    · subst hb; exact .inr f1
    · rw [upd_ne hb] at e; exact r.new b u e
  · by_cases hb : b = p
    · subst hb; rw [upd_same] at e ⊢; exact e
    · rw [upd_ne hb] at e ⊢; exact r.ext b u e
  · rw [upd_ne (fun z : b = p => f3 (by rw [← z]; exact q))]; exact r.drf b q
  · obtain ⟨v, h1, h2⟩ := r.sl i x q
    refine ⟨v, h1, h2.keep s0 fun q' a e f => ?_⟩
    obtain ⟨_, hn⟩ := h2.foot e f
    have hne : a ≠ p := fun z => hn (by rw [z]; exact h)
    exact ⟨fun u z => s1 a u z, fun w => ⟨by rw [upd_ne hne]; exact w.h0, w.he, w.ng⟩⟩
theorem RS.mkOwn (r : RS K B H0 g σ ρ n H) {p : Addr} {vs : List V} {ds : List PyData} (h : H p = none) (q : DqA K H0 vs ds) :
    RS K B H0 g σ ρ n (upd H p (.lst vs)) ∧ RelR K B H0 (upd H p (.lst vs)) g σ ρ (.ref p) (.own ds) := by
  obtain ⟨f1, f2, f3⟩ := r.fresh h
  have s1 : Same H (upd H p (.lst vs)) := fun b u e => by rw [upd_ne (ne_of_none e h)]; exact e
  refine ⟨r.grow s1, p, rfl, ⟨vs, upd_same, q, f2, f1, f3⟩, fun i x q' e z f => ?_⟩
  obtain ⟨v, h1, h2⟩ := r.sl i _ e
  rw [z] at h1
  have e1 := Option.some.inj (Option.some.inj h1)
  exact (h2.foot e1.symm f).2 h
theorem RS.freezeR (r : RS K B H0 g σ ρ n H) {ds : List PyData} (h : RelR K B H0 H g σ ρ v (.own ds)) :
    ∃ H0', Same H0 H0' ∧ RS K B H0' g σ ρ n H ∧ Dq K H0' v (.list ds) := by
  obtain ⟨p, rfl, ⟨vs, h1, h2, h3, h4, h5⟩, h6⟩ := h
  have s0 : Same H0 (upd H0 p (.lst vs)) := fun b u e => by rw [upd_ne (ne_of_none e h3)]; exact e
  refine ⟨upd H0 p (.lst vs), s0, ⟨fun b u e => s0 b u (r.hb b u e), fun b u e => ?_, fun b u e => ?_, r.keep, r.drw, fun b q => ?_, r.gg, fun i x q => ?_, r.dist⟩, .lst upd_same (h2.mono s0)⟩
  · by_cases hb : b = p
    · subst hb; exact .inr h4
    · rw [upd_ne hb] at e; exact r.new b u e
  · by_cases hb : b = p
    · subst hb; rw [upd_same] at e; cases e; exact h1
    · rw [upd_ne hb] at e; exact r.ext b u e
  · rw [upd_ne (fun z : b = p => h5 (by rw [← z]; exact q))]; exact r.drf b q
  · obtain ⟨v, q1, q2⟩ := r.sl i x q
    refine ⟨v, q1, q2.keep s0 fun q' a e f => ⟨fun _ z => z, fun w => ⟨?_, w.he, w.ng⟩⟩⟩
    have hne : a ≠ p := fun z => h6 i x q' q (by rw [q1, e]) (by rw [← z]; exact f)
    rw [upd_ne hne]; exact w.h0
theorem RS.freezeS (r : RS K B H0 g σ ρ n H) {i : Nat} {ds : List PyData} (h : ρ i = some (.own ds)) :
    ∃ H0', Same H0 H0' ∧ RS K B H0' g σ (upE ρ i (some (.d (.list ds)))) n H := by
  obtain ⟨v, hv, p, rfl, vs, h1, h2, h3, h4, h5⟩ := r.sl i _ h
  have s0 : Same H0 (upd H0 p (.lst vs)) := fun b u e => by rw [upd_ne (ne_of_none e h3)]; exact e
  refine ⟨upd H0 p (.lst vs), s0, ⟨fun b u e => s0 b u (r.hb b u e), fun b u e => ?_, fun b u e => ?_, r.keep, r.drw, fun b q => ?_, r.gg, fun j x q => ?_, fun j k p' q' a x y e1 e2 e3 e4 e5 e6 => ?_⟩⟩
  · by_cases hb : b = p
    · subst hb; exact .inr h4
    · rw [upd_ne hb] at e; exact r.new b u e
  · by_cases hb : b = p
    · subst hb; rw [upd_same] at e; cases e; exact h1
    · rw [upd_ne hb] at e; exact r.ext b u e
  · rw [upd_ne (fun z : b = p => h5 (by rw [← z]; exact q))]; exact r.drf b q
  · by_cases hj : j = i
    · subst hj
      unfold upE at q
      rw [if_pos rfl] at q
      cases q
      exact ⟨_, hv, .lst upd_same (h2.mono s0)⟩
    · unfold upE at q
      rw [if_neg hj] at q
      obtain ⟨v, q1, q2⟩ := r.sl j x q
      refine ⟨v, q1, q2.keep s0 fun q' a e f => ⟨fun _ z => z, fun w => ⟨?_, w.he, w.ng⟩⟩⟩
      have hne : a ≠ p := fun z => hj (r.dist j i q' p a x _ q h (by rw [q1, e]) hv f z)
      rw [upd_ne hne]; exact w.h0
  · unfold upE at e1 e2
    by_cases hj : j = i
    · rw [if_pos hj] at e1; cases e1; exact e5.elim
    · by_cases hk : k = i
      · rw [if_pos hk] at e2; cases e2; exact e6.elim
      · rw [if_neg hj] at e1
        rw [if_neg hk] at e2
        exact r.dist j k p' q' a x y e1 e2 e3 e4 e5 e6
theorem RS.read (r : RS K B H0 g σ ρ n H) (h : RelR K B H0 H g σ ρ v x) {d : PyData} (e : rd ρ x = some d) : Dq K H v d ∧
    ((∃ ds, d = .list ds ∧ ∃ p vs, v = .ref p ∧ H p = some (.lst vs) ∧ DqA K H0 vs ds) ∨ Dq K H0 v d) := by
  have own : ∀ p ds, OwnAt K B H0 H g p ds → v = .ref p → Dq K H v (.list ds) ∧ ((∃ es, PyData.list ds = .list es ∧ ∃ p vs, v = .ref p ∧ H p = some (.lst vs) ∧ DqA K H0 vs es) ∨ Dq K H0 v (.list ds)) := by
    rintro p ds ⟨vs, h1, h2, _⟩ rfl
    exact ⟨.lst h1 (h2.mono r.ext), .inl ⟨ds, rfl, p, vs, rfl, h1, h2⟩⟩
  have dat : ∀ d', Dq K H0 v d' → Dq K H v d' ∧ ((∃ ds, d' = .list ds ∧ ∃ p vs, v = .ref p ∧ H p = some (.lst vs) ∧ DqA K H0 vs ds) ∨ Dq K H0 v d') := fun d' q => ⟨Dq.mono r.ext q, .inr q⟩
  cases x with
  | d d' => cases e; exact dat _ h
  | own ds =>
    cases e
    obtain ⟨p, rfl, h1, _⟩ := h
    exact own p ds h1 rfl
  | slot i =>
    have hi : σ[i]? = some (some v) := h
    cases q : ρ i with
    | none => simp [rd, q] at e
    | some y =>
      simp only [rd, q] at e
      obtain ⟨v', q1, q2⟩ := r.sl i y q
      rw [hi] at q1; cases q1
      cases y with
      | d d' => cases e; exact dat _ q2
      | own ds =>
        cases e
        obtain ⟨p, rfl, h1⟩ := q2
        exact own p ds h1 rfl
      | slot _ => cases e
      | drw => cases e
      | scr _ => cases e
      | ob o => cases o with
        | dic _ => cases e
        | rows _ _ => cases e
        | ret _ _ _ => cases e
        | tt ds =>
          cases e
          obtain ⟨p, rfl, h1⟩ := q2
          exact dat _ (TtAt.dq h1)
        | «at» a ds =>
          cases e
          obtain ⟨p, rfl, _, _, vs, h1, h2⟩ := q2
          exact ⟨.lst h1 (h2.mono r.ext), .inl ⟨ds, rfl, p, vs, rfl, h1, h2⟩⟩
  | drw => cases e
  | scr _ => cases e
  | ob o => cases o with
    | tt ds =>
      cases e
      obtain ⟨p, rfl, h1⟩ := h
      exact dat _ h1.dq
    | dic _ => cases e
    | rows _ _ => cases e
    | ret _ _ _ => cases e
    | «at» _ _ => cases e
theorem RS.list (r : RS K B H0 g σ ρ n H) (h : RelR K B H0 H g σ ρ v x) {ds : List PyData} (e : rd ρ x = some (.list ds)) : ∃ p vs, v = .ref p ∧ H p = some (.lst vs) ∧ DqA K H0 vs ds := by
  rcases (r.read h e).2 with ⟨es, z, p, vs, h1, h2, h3⟩ | q
  · cases z; exact ⟨p, vs, h1, h2, h3⟩
  · cases q with
    | lst h1 h2 => exact ⟨_, _, rfl, r.ext _ _ h1, h2⟩
theorem RS.tuple (r : RS K B H0 g σ ρ n H) (h : RelR K B H0 H g σ ρ v x) {ds : List PyData} (e : rd ρ x = some (.tuple ds)) : ∃ p vs, v = .ref p ∧ SqT K H p vs ∧ DqA K H0 vs ds := by
  rcases (r.read h e).2 with ⟨es, z, _⟩ | q
  · cases z
  · cases q with
    | tup h1 h2 => exact ⟨_, _, rfl, Same.sqt r.ext h1, h2⟩
theorem RS.int (r : RS K B H0 g σ ρ n H) (h : RelR K B H0 H g σ ρ v x) {i : Int} (e : rd ρ x = some (.int i)) : v = .int i := by
  cases (r.read h e).1; rfl
theorem RS.str (r : RS K B H0 g σ ρ n H) (h : RelR K B H0 H g σ ρ v x) {i : Str} (e : rd ρ x = some (.str i)) : v = .str i := by
  cases (r.read h e).1; rfl
theorem RS.bool (r : RS K B H0 g σ ρ n H) (h : RelR K B H0 H g σ ρ v x) {i : Bool} (e : rd ρ x = some (.bool i)) : v = .bl i := by
  cases (r.read h e).1; rfl
theorem RS.isNone (r : RS K B H0 g σ ρ n H) (h : RelR K B H0 H g σ ρ v x) (e : rd ρ x = some .none) : v = .non := by
  cases (r.read h e).1; rfl
def calm1 : X2 → X2
  | .own ds => .d (.list ds)
  | .ob (.ret _ _ d) => .d d
  | .ob (.tt ds) => .d (.tuple ds)
  | x => x
theorem RS.calm (r : RS K B H0 g σ ρ n H) (h : RelR K B H0 H g σ ρ v x) : ∃ H0', Same H0 H0' ∧ RS K B H0' g σ ρ n H ∧ RelN K H0' g σ v (calm1 x) := by
  cases x with
  | own ds => exact r.freezeR h
  | d _ => exact ⟨H0, Same.refl _, r, h⟩
  | slot _ => exact ⟨H0, Same.refl _, r, h⟩
  | drw => exact ⟨H0, Same.refl _, r, h⟩
  | scr _ => exact ⟨H0, Same.refl _, r, h⟩
  | ob o => cases o with
    | ret a ds d => exact ⟨H0, Same.refl _, r, h.choose_spec.2.1⟩
    | tt ds =>
      obtain ⟨p, rfl, h1⟩ := h
      exact ⟨H0, Same.refl _, r, h1.dq⟩
    | dic _ => exact h.elim
    | rows _ _ => exact h.elim
    | «at» _ _ => exact h.elim
theorem RelN.r (h : RelN K H0 g σ v x) : RelR K B H0 H g σ ρ v x := by
  cases x with
  | own ds => exact h.elim
  | d _ => exact h
  | slot _ => exact h
  | drw => exact h
  | scr _ => exact h
  | ob _ => exact h.elim
end
end B2

namespace B2
open PySem L2
abbrev Xn := Str → Env → Prop
abbrev W2 := Xn → Env → (X2 → Env → Prop) → Prop
abbrev WT := Xn → Env → (Bool → Env → Prop) → Prop
abbrev WA := Xn → Env → (List X2 → Env → Prop) → Prop
def RelNs (K : PySem.W.Frag) (H0 : Hp) (g : Option Gs) (σ : St) : List V → List X2 → Prop := Paired fun v x => RelN K H0 g σ v x
theorem RelNs.mono {K : PySem.W.Frag} {H0 H0' : Hp} {g : Option Gs} {σ : St} (e : Same H0 H0') {vs : List V} {xs : List X2} (h : RelNs K H0 g σ vs xs) : RelNs K H0' g σ vs xs := Paired.mapP h fun _ _ q => RelN.mono e q
abbrev MG := Str → Option Value
structure Exn (mg : MG) (nm : Str) (cls : Value) (d : Option Addr) : Prop where
  cl : mg nm = some cls
  nd : d = none
section
variable (K : PySem.W.Frag) (mg : MG) (W : WX) (m : Nat)
def SimE (t : TE) (w : W2) : Prop := ∀ (B : Base) (H0 : Hp) (g : Option Gs) (σ : St) (ρ : Env) (n : Nat) (H : Hp) (e : Xn) (k : X2 → Env → Prop) (Q : VK), RS K B H0 g σ ρ n H → n + m ≤ LIM → w e ρ k →
  (∀ H0' ρ' H' v x, Same H0 H0' → RS K B H0' g σ ρ' (n + m) H' → RelR K B H0' H' g σ ρ' v x → k x ρ' → Q v H') →
  (∀ H0' ρ' H' nm cls d, Same H0 H0' → RS K B H0' g σ ρ' (n + m) H' → e nm ρ' → Exn mg nm cls d → W cls d σ H') → t σ H Q
def SimT (t : TT) (w : WT) : Prop := ∀ (B : Base) (H0 : Hp) (g : Option Gs) (σ : St) (ρ : Env) (n : Nat) (H : Hp) (e : Xn) (k : Bool → Env → Prop) (Q : Bool → Hp → Prop), RS K B H0 g σ ρ n H → n + m ≤ LIM → w e ρ k →
  (∀ H0' ρ' H' b, Same H0 H0' → RS K B H0' g σ ρ' (n + m) H' → k b ρ' → Q b H') →
  (∀ H0' ρ' H' nm cls d, Same H0 H0' → RS K B H0' g σ ρ' (n + m) H' → e nm ρ' → Exn mg nm cls d → W cls d σ H') → t σ H Q
def SimA (L : Nat) (t : TA) (w : WA) : Prop := ∀ (B : Base) (H0 : Hp) (g : Option Gs) (σ : St) (ρ : Env) (n : Nat) (H : Hp) (e : Xn) (k : List X2 → Env → Prop) (Q : List V → Hp → Prop), RS K B H0 g σ ρ n H → n + m ≤ LIM → w e ρ k →
  (∀ H0' ρ' H' vs xs, Same H0 H0' → RS K B H0' g σ ρ' (n + m) H' → RelNs K H0' g σ vs xs → vs.length = L → k xs ρ' → Q vs H') →
  (∀ H0' ρ' H' nm cls d, Same H0 H0' → RS K B H0' g σ ρ' (n + m) H' → e nm ρ' → Exn mg nm cls d → W cls d σ H') → t σ H Q
end
structure Fam (ι : Type) where
  X : ι → Cx
  K : PySem.W.Frag
  mg : MG
  N : List Str
  sc : Scope
  k : Nat
  P : Program
  w : World
  base : Heap
  hK : ∀ i, (X i).K = K
  hmg : ∀ i, (X i).mg = mg
  hN : ∀ i, (X i).N = N
  hsc : ∀ i, (X i).env.scope = sc
  hP : ∀ i, (X i).prog = P
  hw : ∀ i, (X i).w = w
  hbase : ∀ i, (X i).base = base
  rm : ∀ i, L2H.RoomH k (X i).A
  cm : Bool
  calm : cm = true → ∀ i, (X i).calm = true
  room : cm = true → ∀ i, Room k (X i).A
  gd : ∀ i, Gd k (X i).A
  sr : Sr P base
  stk : ∀ i, ∃ env l, (X i).stack = env :: l ∧ env.scope.isGenerator = false ∧ env.scope.isCoroutine = false ∧ env.builtins = builtinsNs ∧ env.globals = mainGlobals
  nd : N.Nodup
  pass : ∀ i, PassesOwn (model (X i).prog (X i).w) (X i).A (X i).env (X i).xe
section
variable {ι : Type} (Φ : Fam ι) (W : WX) (m : Nat)
def JE (e : Expr) (w : W2) : Prop := ∃ t, (∀ i, PE (Φ.X i) e t) ∧ SimE Φ.K Φ.mg W m t w
def JT (e : Expr) (w : WT) : Prop := ∃ t, (∀ i, PT (Φ.X i) e t) ∧ SimT Φ.K Φ.mg W m t w
def JW (e : Expr) (w : WT) : Prop := ∃ t, (∀ i, PW (Φ.X i) e t) ∧ SimT Φ.K Φ.mg W m t w
def JA (es : List Expr) (w : WA) : Prop := ∃ t, (∀ i, PA (Φ.X i) es t) ∧ SimA Φ.K Φ.mg W m es.length t w
end
section
variable {ι : Type} {Φ : Fam ι} {W : WX} {m m1 m2 m3 : Nat}
def wVar (i : Nat) : W2 := fun _ ρ k => match ρ i with
  | some (.own _) => k (.slot i) ρ
  | some (.ob _) => k (.slot i) ρ
  | some x => k x ρ
  | none => False
def wC (d : PyData) : W2 := fun _ ρ k => k (.d d) ρ
theorem simE_var {K : PySem.W.Frag} {mg : MG} (i : Nat) : SimE K mg W 0 (tVar i) (wVar i) := by
  intro B H0 g σ ρ n H e k Q r l h q _
  unfold wVar at h
  cases hx : ρ i with
  | none => rw [hx] at h; exact h.elim
  | some x =>
    rw [hx] at h
    obtain ⟨v, h1, h2⟩ := r.sl i x hx
    refine ⟨v, h1, ?_⟩
    cases x with
    | own ds => exact q H0 ρ H v (.slot i) (Same.refl _) r h1 h
    | ob o => exact q H0 ρ H v (.slot i) (Same.refl _) r h1 h
    | d d => exact q H0 ρ H v (.d d) (Same.refl _) r h2 h
    | slot j => exact h2.elim
    | drw => exact q H0 ρ H v .drw (Same.refl _) r h2 h
    | scr ns => exact q H0 ρ H v (.scr ns) (Same.refl _) r h2 h
theorem je_var (i : Nat) {x : Str} {pos : Pos} (hN : Φ.N[i]? = some x := by rfl) (hv : Vis Φ.sc x := by first | exact Or.inl rfl | exact Or.inr (Or.inl rfl) | exact Or.inr (Or.inr rfl)) (hd : (x == ("__debug__" : Str)) = false := by decide) (hcd : (x == ("__classdict__" : Str)) = false := by decide) :
    JE Φ W 0 (.Name x pos) (wVar i) :=
  ⟨tVar i, fun j => pe_var (by rw [Φ.hN j]; exact hN) (by rw [Φ.hsc j]; exact hv) hd hcd, simE_var i⟩
theorem simE_c {K : PySem.W.Frag} {mg : MG} {v : V} {d : PyData} (h : ∀ H, Dq K H v d) : SimE K mg W 0 (tC v) (wC d) := by
  intro B H0 g σ ρ n H e k Q r l hw q _
  exact q H0 ρ H v (.d d) (Same.refl _) r (h H0) hw
theorem je_int {i j pos} : JE Φ W 0 (.Constant (.int i) j pos) (wC (.int i)) := ⟨_, fun _ => pe_int, simE_c fun _ => .int _⟩
theorem je_bl {i j pos} : JE Φ W 0 (.Constant (.bool i) j pos) (wC (.bool i)) := ⟨_, fun _ => pe_bl, simE_c fun _ => .bl _⟩
theorem je_str {i j pos} : JE Φ W 0 (.Constant (.str i) j pos) (wC (.str i)) := ⟨_, fun _ => pe_str, simE_c fun _ => .str _⟩
theorem je_non {j pos} : JE Φ W 0 (.Constant .none j pos) (wC .none) := ⟨_, fun _ => pe_non, simE_c fun _ => .non⟩
theorem je_glob {x : Str} {v : V} {u : Value} {pos : Pos} {d : PyData} (hg : ∀ i, Gl (Φ.X i) x) (hm : Φ.mg x = some u) (r : RelV v u) (hq : ∀ H, Dq Φ.K H v d) (hd : (x == ("__debug__" : Str)) = false := by decide) : JE Φ W 0 (.Name x pos) (wC d) :=
  ⟨_, fun i => pe_glob (hg i) (by rw [Φ.hmg i]; exact hm) r hd, simE_c hq⟩
theorem SimE.cost {K : PySem.W.Frag} {mg : MG} {t : TE} {w : W2} (h : SimE K mg W m t w) (l : m ≤ m1) : SimE K mg W m1 t w := by
  intro B H0 g σ ρ n H e k Q r l1 hw q x
  exact h B H0 g σ ρ n H e k Q r (by omega) hw (fun H0' ρ' H' v y s r' => q H0' ρ' H' v y s (r'.count (by omega))) (fun H0' ρ' H' nm cls d s r' => x H0' ρ' H' nm cls d s (r'.count (by omega)))
theorem SimT.cost {K : PySem.W.Frag} {mg : MG} {t : TT} {w : WT} (h : SimT K mg W m t w) (l : m ≤ m1) : SimT K mg W m1 t w := by
  intro B H0 g σ ρ n H e k Q r l1 hw q x
  exact h B H0 g σ ρ n H e k Q r (by omega) hw (fun H0' ρ' H' v s r' => q H0' ρ' H' v s (r'.count (by omega))) (fun H0' ρ' H' nm cls d s r' => x H0' ρ' H' nm cls d s (r'.count (by omega)))
theorem JE.cost {e : Expr} {w : W2} (h : JE Φ W m e w) (l : m ≤ m1) : JE Φ W m1 e w := let ⟨t, a, b⟩ := h; ⟨t, a, b.cost l⟩
def rdK (ρ : Env) (x : X2) (k : PyData → Prop) : Prop := match rd ρ x with
  | some d => k d
  | none => False
theorem rdK_of {ρ : Env} {x : X2} {k : PyData → Prop} (h : rdK ρ x k) : ∃ d, rd ρ x = some d ∧ k d := by
  unfold rdK at h
  cases e : rd ρ x with
  | none => rw [e] at h; exact h.elim
  | some d => rw [e] at h; exact ⟨d, rfl, h⟩
def RSim (K : PySem.W.Frag) (r : R2) (f : PyData → PyData → (X2 → Prop) → Prop) : Prop := ∀ (B : Base) (H0 : Hp) (g : Option Gs) (σ : St) (ρ : Env) (n : Nat) (H : Hp) (v1 v2 : V) (x1 x2 : X2) (a b : PyData) (k : X2 → Prop) (Q : VK),
  RS K B H0 g σ ρ n H → RelR K B H0 H g σ ρ v1 x1 → rd ρ x1 = some a → RelR K B H0 H g σ ρ v2 x2 → rd ρ x2 = some b → f a b k →
  (∀ H0' H' v x, Same H0 H0' → RS K B H0' g σ ρ n H' → RelR K B H0' H' g σ ρ v x → k x → Q v H') → r v1 v2 H Q
def wBin (f : PyData → PyData → (X2 → Prop) → Prop) (wa wb : W2) : W2 := fun e ρ k => wa e ρ fun x ρ1 => wb e ρ1 fun y ρ2 => rdK ρ2 (calm1 x) fun a => rdK ρ2 y fun b => f a b fun z => k z ρ2
theorem sim_bin {K : PySem.W.Frag} {mg : MG} {r : R2} {f : PyData → PyData → (X2 → Prop) → Prop} {ta tb : TE} {wa wb : W2} (hr : RSim K r f) (ha : SimE K mg W m1 ta wa) (hb : SimE K mg W m2 tb wb) : SimE K mg W (m1 + m2) (tOp r ta tb) (wBin f wa wb) := by
  intro B H0 g σ ρ n H e k Q rs l hw q xq
  refine ha B H0 g σ ρ n H e _ _ rs (by omega) hw (fun H1 ρ1 Ha v1 x1 s1 r1 h1 q1 => ?_) (fun H0' ρ' H' nm cls d s r' => xq H0' ρ' H' nm cls d s (r'.count (by omega)))
  obtain ⟨H2, s2, r2, h2⟩ := r1.calm h1
  refine hb B H2 g σ ρ1 (n + m1) Ha e _ _ r2 (by omega) q1 (fun H3 ρ3 Hb v2 x2 s3 r3 h3 q3 => ?_) (fun H0' ρ' H' nm cls d s r' => xq H0' ρ' H' nm cls d ((s1.trans s2).trans s) (r'.count (by omega)))
  obtain ⟨a, ea, q4⟩ := rdK_of q3
  obtain ⟨b, eb, q5⟩ := rdK_of q4
  exact hr B H3 g σ ρ3 _ Hb v1 v2 (calm1 x1) x2 a b _ Q r3 (h2.mono s3).r ea h3 eb q5 fun H4 Hc v x s4 r4 h4 q6 => q H4 ρ3 Hc v x (((s1.trans s2).trans s3).trans s4) (r4.count (by omega)) h4 q6
theorem je_op {op : Operator} {a b : Expr} {pos : Pos} {r : R2} {f : PyData → PyData → (X2 → Prop) → Prop} {wa wb : W2} (ho : ∀ i, OpR (Φ.X i) (binaryOp op) r) (hr : RSim Φ.K r f) (ha : JE Φ W m1 a wa) (hb : JE Φ W m2 b wb) : JE Φ W (m1 + m2) (.BinOp a op b pos) (wBin f wa wb) :=
  let ⟨ta, a1, a2⟩ := ha
  let ⟨tb, b1, b2⟩ := hb
  ⟨tOp r ta tb, fun i => pe_op (ho i) (a1 i) (b1 i), sim_bin hr a2 b2⟩
theorem je_cmp {op : CmpOp} {a b : Expr} {pos : Pos} {r : R2} {f : PyData → PyData → (X2 → Prop) → Prop} {wa wb : W2} (ho : ∀ i, OpR (Φ.X i) (compareOp op) r) (hr : RSim Φ.K r f) (ha : JE Φ W m1 a wa) (hb : JE Φ W m2 b wb) (hm : behindInMarks op b = false := by first | exact nomark _ (by decide) (by decide) | rfl) : JE Φ W (m1 + m2) (.Compare a [op] [b] pos) (wBin f wa wb) :=
  let ⟨ta, a1, a2⟩ := ha
  let ⟨tb, b1, b2⟩ := hb
  ⟨tOp r ta tb, fun i => pe_cmpR (ho i) (a1 i) (b1 i) hm, sim_bin hr a2 b2⟩
theorem RS.flat {K : PySem.W.Frag} {B : Base} {H0 H : Hp} {g : Option Gs} {σ : St} {ρ : Env} {n : Nat} (r : RS K B H0 g σ ρ n H) {v : V} {d : PyData} (h : ∀ H, Dq K H v d) {k : X2 → Prop} {Q : VK}
    (q : ∀ H0' H' v x, Same H0 H0' → RS K B H0' g σ ρ n H' → RelR K B H0' H' g σ ρ v x → k x → Q v H') (hk : k (.d d)) : Q v H := q H0 H v (.d d) (Same.refl _) r (h H0) hk
theorem RS.newT {K : PySem.W.Frag} {B : Base} {H0 H : Hp} {g : Option Gs} {σ : St} {ρ : Env} {n : Nat} (r : RS K B H0 g σ ρ n H) {vs : List V} {ds : List PyData} (h : DqA K H0 vs ds) {p : Addr} (hp : H p = none) {k : X2 → Prop} {Q : VK}
    (q : ∀ H0' H' v x, Same H0 H0' → RS K B H0' g σ ρ n H' → RelR K B H0' H' g σ ρ v x → k x → Q v H') (hk : k (.d (.tuple ds))) : Q (.ref p) (upd H p (.tup vs)) := by
  obtain ⟨r1, s1⟩ := r.lay (o := .tup vs) hp
  exact q _ _ _ (.d (.tuple ds)) s1 r1 (Dq.tup (SqT.of upd_same) (h.mono s1)) hk
theorem RS.newL {K : PySem.W.Frag} {B : Base} {H0 H : Hp} {g : Option Gs} {σ : St} {ρ : Env} {n : Nat} (r : RS K B H0 g σ ρ n H) {vs : List V} {ds : List PyData} (h : DqA K H0 vs ds) {p : Addr} (hp : H p = none) {k : X2 → Prop} {Q : VK}
    (q : ∀ H0' H' v x, Same H0 H0' → RS K B H0' g σ ρ n H' → RelR K B H0' H' g σ ρ v x → k x → Q v H') (hk : k (.own ds)) : Q (.ref p) (upd H p (.lst vs)) := by
  obtain ⟨r1, h1⟩ := r.mkOwn hp h
  exact q _ _ _ _ (Same.refl _) r1 h1 hk
theorem RS.oldT {K : PySem.W.Frag} {B : Base} {H0 H : Hp} {g : Option Gs} {σ : St} {ρ : Env} {n : Nat} (r : RS K B H0 g σ ρ n H) {v : V} {x : X2} {ds : List PyData} (h : RelR K B H0 H g σ ρ v x) (e : rd ρ x = some (.tuple ds)) : Dq K H0 v (.tuple ds) := by
  rcases (r.read h e).2 with ⟨_, z, _⟩ | q
  · cases z
  · exact q
def rAddA (K : PySem.W.Frag) : R2 := fun x y H Q => (∃ i j, x = .int i ∧ y = .int j ∧ Q (.int (i + j)) H) ∨ (∃ i j, x = .str i ∧ y = .str j ∧ i.length + j.length ≤ sizeLine ∧ Q (.str (i ++ j)) H) ∨ rCatA K x y H Q ∨ rCat x y H Q
theorem op_addA {X : Cx} : OpR X (binaryOp .Add) (rAddA X.K) := OpR.or op_add (OpR.or op_add_str (OpR.or op_catA op_cat))
def addD (a b : PyData) (k : X2 → Prop) : Prop := match a, b with
  | .int i, .int j => k (.d (.int (i + j)))
  | .str s, .str t => s.length + t.length ≤ 16777216 ∧ k (.d (.str (s ++ t)))
  | .tuple xs, .tuple ys => xs.length + ys.length ≤ 16777216 ∧ k (.d (.tuple (xs ++ ys)))
  | .list xs, .list ys => xs.length + ys.length ≤ 16777216 ∧ k (.own (xs ++ ys))
  | _, _ => False
theorem rsim_add {K : PySem.W.Frag} : RSim K (rAddA K) addD := by
  intro B H0 g σ ρ n H v1 v2 x1 x2 a b k Q r h1 e1 h2 e2 hf q
  unfold addD at hf
  split at hf
  · rw [r.int h1 e1, r.int h2 e2]
    exact .inl ⟨_, _, rfl, rfl, r.flat (fun _ => .int _) q hf⟩
  · rw [r.str h1 e1, r.str h2 e2]
    exact .inr (.inl ⟨_, _, rfl, rfl, by rw [sizeLine_eq]; exact hf.1, r.flat (fun _ => .str _) q hf.2⟩)
  · rename_i xs ys
    obtain ⟨p, vs, rfl, s1, d1⟩ := r.tuple h1 e1
    obtain ⟨p', vs', rfl, s2, d2⟩ := r.tuple h2 e2
    have t1 := r.oldT h1 e1
    have t2 := r.oldT h2 e2
    refine .inr (.inr (.inl ⟨p, p', vs, vs', rfl, rfl, s1, s2, by rw [d1.length, d2.length, sizeLine_eq]; exact hf.1, fun z => ?_, fun z1 z2 => ?_, fun z1 z2 p2 hp => ?_⟩))
    · subst z
      cases d1
      exact q H0 H _ (.d (.tuple ys)) (Same.refl _) r t2 hf.2
    · subst z2
      cases d2
      exact q H0 H _ (.d (.tuple xs)) (Same.refl _) r t1 (by have := hf.2; rw [List.append_nil] at this; exact this)
    · exact r.newT (d1.append d2) hp q hf.2
  · obtain ⟨p, vs, rfl, s1, d1⟩ := r.list h1 e1
    obtain ⟨p', vs', rfl, s2, d2⟩ := r.list h2 e2
    exact .inr (.inr (.inr ⟨p, p', vs, vs', rfl, rfl, s1, s2, by rw [d1.length, d2.length, sizeLine_eq]; exact hf.1, fun p2 hp => r.newL (d1.append d2) hp q hf.2⟩))
  · exact hf.elim
theorem je_add {a b : Expr} {pos : Pos} {wa wb : W2} (ha : JE Φ W m1 a wa) (hb : JE Φ W m2 b wb) : JE Φ W (m1 + m2) (.BinOp a .Add b pos) (wBin addD wa wb) := je_op (fun i => by rw [← Φ.hK i]; exact op_addA) rsim_add ha hb
theorem rsim_int {K : PySem.W.Frag} {C : Int → Int → Prop} {g : Int → Int → Int} {f : PyData → PyData → (X2 → Prop) → Prop} (hf : ∀ a b k, f a b k → ∃ i j, a = .int i ∧ b = .int j ∧ C i j ∧ k (.d (.int (g i j)))) : RSim K (rI C fun i j => .int (g i j)) f := by
  intro B H0 gs σ ρ n H v1 v2 x1 x2 a b k Q r h1 e1 h2 e2 h q
  obtain ⟨i, j, rfl, rfl, c, hk⟩ := hf a b k h
  rw [r.int h1 e1, r.int h2 e2]
  exact ⟨i, j, rfl, rfl, c, r.flat (fun _ => .int _) q hk⟩
def subD (a b : PyData) (k : X2 → Prop) : Prop := match a, b with
  | .int i, .int j => k (.d (.int (i - j)))
  | _, _ => False
theorem op_subC {X : Cx} : OpR X (binaryOp .Sub) (rI (fun _ _ => True) fun i j => .int (i - j)) := opI fun _ _ _ _ _ _ _ _ q => PyProof.Rows.sub_int q
theorem je_sub {a b : Expr} {pos : Pos} {wa wb : W2} (ha : JE Φ W m1 a wa) (hb : JE Φ W m2 b wb) : JE Φ W (m1 + m2) (.BinOp a .Sub b pos) (wBin subD wa wb) :=
  je_op (fun i => op_subC) (rsim_int fun a b k h => by
    unfold subD at h
    split at h
    · exact ⟨_, _, rfl, rfl, trivial, h⟩
    · exact h.elim) ha hb
def MulOk (i j : Int) : Prop := (-(2 ^ 64) < i ∧ i < 2 ^ 64) ∨ (-(2 ^ 64) < j ∧ j < 2 ^ 64) ∨ ∃ a b : Nat, i.natAbs < 2 ^ a ∧ j.natAbs < 2 ^ b ∧ a + b ≤ 130000000
theorem bits_lt {i : Int} {a : Nat} (h : i.natAbs < 2 ^ a) : Builtin.Int.intBits i ≤ a + 1 := by
  unfold Builtin.Int.intBits
  by_cases z : i.natAbs = 0
  · rw [z]; split <;> simp
  · have := (Nat.log2_lt z).mpr h
    split <;> omega
theorem MulOk.w {i j : Int} (h : MulOk i j) : PySem.IntMulOk i j := by
  rcases h with ⟨h1, h2⟩ | ⟨h1, h2⟩ | ⟨a, b, h1, h2, h3⟩
  · exact .of_left (intBits_le_64 h1 h2)
  · exact .of_right (intBits_le_64 h1 h2)
  exact PySem.IntMulOk.of_le (bits_lt h1) (bits_lt h2) (by omega)
theorem op_mulI {X : Cx} : OpR X (binaryOp .Mult) (rI PySem.IntMulOk fun i j => .int (i * j)) := opI fun _ _ _ _ _ _ _ hc q => PyProof.Rows.mul_int q hc
def mulD (a b : PyData) (k : X2 → Prop) : Prop := match a, b with
  | .int i, .int j => MulOk i j ∧ k (.d (.int (i * j)))
  | .list xs, .int j => (-(2 ^ 63) ≤ j ∧ j < 2 ^ 63 ∧ xs.length * j.toNat ≤ 16777216) ∧ k (.own (List.replicate j.toNat xs).flatten)
  | .tuple xs, .int j => (xs ≠ [] ∧ 2 ≤ j ∧ j ≤ 1000 ∧ xs.length ≤ 1000) ∧ k (.d (.tuple (List.replicate j.toNat xs).flatten))
  | _, _ => False
def rMulA (K : PySem.W.Frag) : R2 := fun x y H Q => rI PySem.IntMulOk (fun i j => .int (i * j)) x y H Q ∨ rRep x y H Q ∨ rRepT K x y H Q
theorem op_mulA {X : Cx} : OpR X (binaryOp .Mult) (rMulA X.K) := OpR.or op_mulI (OpR.or op_rep op_repT)
theorem rsim_mul {K : PySem.W.Frag} : RSim K (rMulA K) mulD := by
  intro B H0 g σ ρ n H v1 v2 x1 x2 a b k Q r h1 e1 h2 e2 hf q
  unfold mulD at hf
  split at hf
  · rw [r.int h1 e1, r.int h2 e2]
    exact .inl ⟨_, _, rfl, rfl, hf.1.w, r.flat (fun _ => .int _) q hf.2⟩
  · obtain ⟨p, vs, rfl, s1, d1⟩ := r.list h1 e1
    rw [r.int h2 e2]
    exact .inr (.inl ⟨p, _, vs, rfl, rfl, s1, hf.1.1, hf.1.2.1, by rw [d1.length, sizeLine_eq]; exact hf.1.2.2, fun p2 hp => r.newL (d1.rep _) hp q hf.2⟩)
  · obtain ⟨p, vs, rfl, s1, d1⟩ := r.tuple h1 e1
    rw [r.int h2 e2]
    refine .inr (.inr ⟨p, _, vs, rfl, rfl, s1, fun z => hf.1.1 ?_, hf.1.2.1, hf.1.2.2.1, by rw [d1.length]; exact hf.1.2.2.2, fun p2 hp => r.newT (d1.rep _) hp q hf.2⟩)
    subst z
    cases d1; rfl
  · exact hf.elim
theorem op_fdivL {X : Cx} {k : Nat} (gd : Gd k X.A) (tree : X.prog.given.tree = none) (seer : X.base.NoSeer) (stk : ∃ env l, X.stack = env :: l ∧ env.scope.isGenerator = false ∧ env.scope.isCoroutine = false ∧ env.builtins = builtinsNs ∧ env.globals = mainGlobals) :
    OpR X (binaryOp .FloorDiv) (rI (fun _ j => 0 < j) fun i j => .int (i / j)) := by
  intro pins s σ H x y v u Q I rx ry h
  obtain ⟨i, j, rfl, rfl, hc, q⟩ := h
  obtain ⟨t, rfl⟩ := rx
  obtain ⟨t', rfl⟩ := ry
  obtain ⟨env, l, e1, e2, e3, e4, e5⟩ := stk
  have far : X.A.depth + Builtin.pylongFrames < recursionLimit := by
    have := gd.far
    show _ + 100 < _
    omega
  refine PyProof.Rows.floordiv_int (by omega) ?_ (.inr (PySem.PylongRoom.of I.nolimit far (PySem.SeerAt.of (seer.keeps I.bk) tree (I.ok.frames.trans (congrArg some e1)) e2 e3 e4 e5)))
  rw [Int.fdiv_eq_ediv_of_nonneg i (by omega)]
  exact ⟨.int _, H, I.tok _, ⟨_, rfl⟩, q⟩
def divD (a b : PyData) (k : X2 → Prop) : Prop := match a, b with
  | .int i, .int j => 0 < j ∧ k (.d (.int (i / j)))
  | _, _ => False
theorem je_div {a b : Expr} {pos : Pos} {wa wb : W2} (ha : JE Φ W m1 a wa) (hb : JE Φ W m2 b wb) : JE Φ W (m1 + m2) (.BinOp a .FloorDiv b pos) (wBin divD wa wb) :=
  je_op (fun i => op_fdivL (Φ.gd i) (by rw [Φ.hP i]; exact Φ.sr.tree) (by rw [Φ.hbase i]; exact Φ.sr.seer) (Φ.stk i)) (rsim_int fun a b k h => by
    unfold divD at h
    split at h
    · exact ⟨_, _, rfl, rfl, h.1, h.2⟩
    · exact h.elim) ha hb
def modD (a b : PyData) (k : X2 → Prop) : Prop := match a, b with
  | .int i, .int j => 0 < j ∧ k (.d (.int (i % j)))
  | _, _ => False
theorem je_mod {a b : Expr} {pos : Pos} {wa wb : W2} (ha : JE Φ W m1 a wa) (hb : JE Φ W m2 b wb) : JE Φ W (m1 + m2) (.BinOp a .Mod b pos) (wBin modD wa wb) :=
  je_op (fun i => op_mod) (rsim_int fun a b k h => by
    unfold modD at h
    split at h
    · exact ⟨_, _, rfl, rfl, h.1, h.2⟩
    · exact h.elim) ha hb
def CPowW (i j : Int) : Prop := 0 ≤ j ∧ (Builtin.Int.intBits i : Int) * j ≤ 2 ^ 27
theorem op_powW {X : Cx} : OpR X (binaryOp .Pow) (rI CPowW fun i j => .int (i ^ j.toNat)) := opI fun _ _ _ _ _ _ _ hc q => PyProof.Rows.pow_int hc.1 hc.2 q
def powD (a b : PyData) (k : X2 → Prop) : Prop := match a, b with
  | .int i, .int j => (0 ≤ j ∧ (Builtin.Int.intBits i : Int) * j ≤ 2 ^ 27) ∧ k (.d (.int (i ^ j.toNat)))
  | _, _ => False
theorem je_pow {a b : Expr} {pos : Pos} {wa wb : W2} (ha : JE Φ W m1 a wa) (hb : JE Φ W m2 b wb) : JE Φ W (m1 + m2) (.BinOp a .Pow b pos) (wBin powD wa wb) :=
  je_op (fun i => op_powW) (rsim_int fun a b k h => by
    unfold powD at h
    split at h
    · exact ⟨_, _, rfl, rfl, h.1, h.2⟩
    · exact h.elim) ha hb
def wNeg (wa : W2) : W2 := fun e ρ k => wa e ρ fun x ρ1 => rdK ρ1 x fun a => match a with
  | .int i => k (.d (.int (-i))) ρ1
  | _ => False
theorem je_neg {a : Expr} {pos : Pos} {wa : W2} (ha : JE Φ W m a wa) : JE Φ W m (.UnaryOp .USub a pos) (wNeg wa) := by
  obtain ⟨ta, a1, a2⟩ := ha
  refine ⟨tUn _ ta, fun i => pe_un un_neg (a1 i), ?_⟩
  intro B H0 g σ ρ n H e k Q rs l hw q xq
  refine a2 B H0 g σ ρ n H e _ _ rs l hw (fun H1 ρ1 Ha v1 x1 s1 r1 h1 q1 => ?_) xq
  obtain ⟨a, ea, q2⟩ := rdK_of q1
  split at q2
  · rename_i i
    rw [r1.int h1 ea]
    exact ⟨i, rfl, q H1 ρ1 Ha _ (.d (.int (-i))) s1 r1 (.int _) q2⟩
  · exact q2.elim
end
end B2

namespace B2
open PySem L2
section
variable {ι : Type} {Φ : Fam ι} {W : WX} {m m1 m2 m3 : Nat}
def rEqQ (K : PySem.W.Frag) : R2 := fun x y H Q => ∃ d e, Dq K H x d ∧ Dq K H y e ∧ SeqAt.shaped d = true ∧ SeqAt.shaped e = true ∧ Q (.bl (PyData.eqv d e)) H
def rNeQ (K : PySem.W.Frag) : R2 := fun x y H Q => ∃ d e, Dq K H x d ∧ Dq K H y e ∧ SeqAt.shaped d = true ∧ SeqAt.shaped e = true ∧ Q (.bl (!PyData.eqv d e)) H
theorem op_eqQ {X : Cx} (hu : X.A.units + 64 < cLine) : OpR X (compareOp .Eq) (rEqQ X.K) := by
  intro pins s σ H x y v u Q I rx ry h
  obtain ⟨d, e, hd, he, sd, se, q⟩ := h
  obtain ⟨as, r1, _⟩ := Dq.reads I hd rx
  obtain ⟨bs, r2, _⟩ := Dq.reads I he ry
  exact SeqAt.compareEq_shaped r1 r2 sd se hu ⟨.bl _, H, I, rfl, q⟩
theorem op_neQ {X : Cx} (hu : X.A.units + 64 < cLine) : OpR X (compareOp .NotEq) (rNeQ X.K) := by
  intro pins s σ H x y v u Q I rx ry h
  obtain ⟨d, e, hd, he, sd, se, q⟩ := h
  obtain ⟨as, r1, _⟩ := Dq.reads I hd rx
  obtain ⟨bs, r2, _⟩ := Dq.reads I he ry
  exact SeqAt.compareNe_shaped r1 r2 sd se hu ⟨.bl _, H, I, rfl, q⟩
def rEqL (K : PySem.W.Frag) : R2 := fun x y H Q => ∃ (a b : Addr) (xs : List V), x = .ref a ∧ y = .ref b ∧ SqL K H a xs ∧ SqL K H b [] ∧ Q (.bl xs.isEmpty) H
def rNeL (K : PySem.W.Frag) : R2 := fun x y H Q => ∃ (a b : Addr) (xs : List V), x = .ref a ∧ y = .ref b ∧ SqL K H a xs ∧ SqL K H b [] ∧ Q (.bl (!xs.isEmpty)) H
theorem op_eqL {X : Cx} (hu : X.A.units + 64 < cLine) : OpR X (compareOp .Eq) (rEqL X.K) := by
  intro pins s σ H x y v u Q I rx ry h
  obtain ⟨a, b, xs, rfl, rfl, h1, h2, q⟩ := h
  cases rx
  cases ry
  obtain ⟨its, rv, pl, _⟩ := I.list h1
  obtain ⟨its2, rv2, pl2, _⟩ := I.list h2
  cases rv2
  have hA : X.A.units < cLine := by omega
  cases rv with
  | nil => exact SeqAt.eq_listAt (e := fun _ => true) pl.isList pl2.isList rfl hA (fun j h1 => absurd h1 (by simp)) ⟨.bl true, H, I, rfl, q⟩
  | cons r1 r2 => exact SeqAt.eq_list_lengthsAt pl.isList pl2.isList (by simp) hA ⟨.bl false, H, I, rfl, q⟩
theorem op_neL {X : Cx} (hu : X.A.units + 64 < cLine) : OpR X (compareOp .NotEq) (rNeL X.K) := by
  intro pins s σ H x y v u Q I rx ry h
  obtain ⟨a, b, xs, rfl, rfl, h1, h2, q⟩ := h
  cases rx
  cases ry
  obtain ⟨its, rv, pl, _⟩ := I.list h1
  obtain ⟨its2, rv2, pl2, _⟩ := I.list h2
  cases rv2
  have hA : X.A.units < cLine := by omega
  cases rv with
  | nil => exact SeqAt.RcNeAt.lists (e := fun _ => true) pl.isList pl2.isList rfl hA (fun j h1 => absurd h1 (by simp)) X.prog X.w _ _ ⟨.bl false, H, I, rfl, q⟩
  | cons r1 r2 => exact SeqAt.RcNeAt.lists_lengths pl.isList pl2.isList (by simp) hA X.prog X.w _ _ ⟨.bl true, H, I, rfl, q⟩
def rEqT (K : PySem.W.Frag) : R2 := fun x y H Q => ∃ (a b : Addr) (xs : List V), x = .ref a ∧ y = .ref b ∧ SqT K H a xs ∧ SqT K H b [] ∧ Q (.bl xs.isEmpty) H
def rNeT (K : PySem.W.Frag) : R2 := fun x y H Q => ∃ (a b : Addr) (xs : List V), x = .ref a ∧ y = .ref b ∧ SqT K H a xs ∧ SqT K H b [] ∧ Q (.bl (!xs.isEmpty)) H
theorem op_eqT {X : Cx} (hu : X.A.units + 64 < cLine) : OpR X (compareOp .Eq) (rEqT X.K) := by
  intro pins s σ H x y v u Q I rx ry h
  obtain ⟨a, b, xs, rfl, rfl, h1, h2, q⟩ := h
  cases rx
  cases ry
  obtain ⟨its, rv, pl, _⟩ := I.tuple h1
  obtain ⟨its2, rv2, pl2, _⟩ := I.tuple h2
  cases rv2
  have hA : X.A.units < cLine := by omega
  cases rv with
  | nil => exact SeqAt.eq_tupleAt (e := fun _ => true) pl pl2 hA (fun j h1 => absurd h1 (by simp)) ⟨.bl true, H, I, rfl, q⟩
  | cons r1 r2 => exact SeqAt.eq_tupleAt (e := fun _ => true) pl pl2 hA (fun j h1 h2 => absurd h2 (by simp)) ⟨.bl false, H, I, by simp [RelV], q⟩
theorem op_neT {X : Cx} (hu : X.A.units + 64 < cLine) : OpR X (compareOp .NotEq) (rNeT X.K) := by
  intro pins s σ H x y v u Q I rx ry h
  obtain ⟨a, b, xs, rfl, rfl, h1, h2, q⟩ := h
  cases rx
  cases ry
  obtain ⟨its, rv, pl, _⟩ := I.tuple h1
  obtain ⟨its2, rv2, pl2, _⟩ := I.tuple h2
  cases rv2
  have hA : X.A.units < cLine := by omega
  cases rv with
  | nil => exact SeqAt.RcNeAt.tuples (e := fun _ => true) pl pl2 hA (fun j h1 => absurd h1 (by simp)) X.prog X.w _ _ ⟨.bl false, H, I, rfl, q⟩
  | cons r1 r2 => exact SeqAt.RcNeAt.tuples (e := fun _ => true) pl pl2 hA (fun j h1 h2 => absurd h2 (by simp)) X.prog X.w _ _ ⟨.bl true, H, I, by simp [RelV], q⟩
def rEqA (K : PySem.W.Frag) : R2 := fun x y H Q => rEq x y H Q ∨ rEqQ K x y H Q ∨ rEqL K x y H Q ∨ rEqT K x y H Q
def rNeA (K : PySem.W.Frag) : R2 := fun x y H Q => rNe x y H Q ∨ rNeQ K x y H Q ∨ rNeL K x y H Q ∨ rNeT K x y H Q
theorem op_eqA {X : Cx} (hu : X.A.units + 64 < cLine) : OpR X (compareOp .Eq) (rEqA X.K) := OpR.or op_eq (OpR.or (op_eqQ hu) (OpR.or (op_eqL hu) (op_eqT hu)))
theorem op_neA {X : Cx} (hu : X.A.units + 64 < cLine) : OpR X (compareOp .NotEq) (rNeA X.K) := OpR.or op_ne (OpR.or (op_neQ hu) (OpR.or (op_neL hu) (op_neT hu)))
def easy : PyData → PyData → Bool
  | .int _, .int _ => true
  | .str _, .str _ => true
  | .bool _, .bool _ => true
  | .none, .none => true
  | _, _ => false
def bare : PyData → PyData → Bool
  | .list _, .list [] => true
  | .tuple _, .tuple [] => true
  | _, _ => false
def EqOk (a b : PyData) : Prop := (easy a b || bare a b) = true ∨ (SeqAt.shaped a = true ∧ SeqAt.shaped b = true)
def eqD (a b : PyData) (k : X2 → Prop) : Prop := EqOk a b ∧ k (.d (.bool (PyData.eqv a b)))
def neD (a b : PyData) (k : X2 → Prop) : Prop := EqOk a b ∧ k (.d (.bool (!PyData.eqv a b)))
theorem unitsH {k : Nat} {A : Around} (r : L2H.RoomH k A) : A.units + 64 < cLine := by have := r.un; omega
theorem easy_eq {K : PySem.W.Frag} {H : Hp} {a b : PyData} {v1 v2 : V} (h : easy a b = true) (h1 : Dq K H v1 a) (h2 : Dq K H v2 b) : scal v1 v2 = true ∧ decide (v1 = v2) = PyData.eqv a b := by
  cases h1 <;> cases h2 <;> first
    | exact absurd (show false = true from h) Bool.false_ne_true
    | exact ⟨rfl, by simp only [PyData.eqv]; exact dec_int⟩
    | exact ⟨rfl, by simp only [PyData.eqv]; exact dec_bl⟩
    | exact ⟨rfl, by simp only [PyData.eqv]; exact dec_str⟩
    | exact ⟨rfl, by simp [PyData.eqv]⟩
theorem bare_eq {K : PySem.W.Frag} {H : Hp} {a b : PyData} {v1 v2 : V} (h : bare a b = true) (h1 : Dq K H v1 a) (h2 : Dq K H v2 b) : ∃ (p q : Addr) (xs : List V), v1 = .ref p ∧ v2 = .ref q ∧ ((SqL K H p xs ∧ SqL K H q []) ∨ (SqT K H p xs ∧ SqT K H q [])) ∧ xs.isEmpty = PyData.eqv a b := by
  unfold bare at h
  split at h
  · cases h1 with
    | lst e1 q1 =>
      cases h2 with
      | lst e2 q2 =>
        cases q2
        refine ⟨_, _, _, rfl, rfl, .inl ⟨SqL.of e1, SqL.of e2⟩, ?_⟩
        cases q1 with
        | nil => simp [PyData.eqv, PyData.eqvAll]
        | cons => simp [PyData.eqv, PyData.eqvAll]
  · cases h1 with
    | tup e1 q1 =>
      cases h2 with
      | tup e2 q2 =>
        cases q2
        refine ⟨_, _, _, rfl, rfl, .inr ⟨e1, e2⟩, ?_⟩
        cases q1 with
        | nil => simp [PyData.eqv, PyData.eqvAll]
        | cons => simp [PyData.eqv, PyData.eqvAll]
  · cases h
theorem rsim_eq {K : PySem.W.Frag} : RSim K (rEqA K) eqD := by
  intro B H0 g σ ρ n H v1 v2 x1 x2 a b k Q r h1 e1 h2 e2 hf q
  have d1 := (r.read h1 e1).1
  have d2 := (r.read h2 e2).1
  rcases hf with ⟨he | he, hk⟩
  · rcases Bool.or_eq_true_iff.mp he with he | he
    · obtain ⟨a1, a2⟩ := easy_eq he d1 d2
      exact .inl ⟨a1, by rw [a2]; exact r.flat (fun _ => .bl _) q hk⟩
    · obtain ⟨p1, p2, xs, z1, z2, z3, z5⟩ := bare_eq he d1 d2
      rcases z3 with ⟨z3, z4⟩ | ⟨z3, z4⟩
      · exact .inr (.inr (.inl ⟨p1, p2, xs, z1, z2, z3, z4, by rw [z5]; exact r.flat (fun _ => .bl _) q hk⟩))
      · exact .inr (.inr (.inr ⟨p1, p2, xs, z1, z2, z3, z4, by rw [z5]; exact r.flat (fun _ => .bl _) q hk⟩))
  · exact .inr (.inl ⟨a, b, d1, d2, he.1, he.2, r.flat (fun _ => .bl _) q hk⟩)
theorem rsim_ne {K : PySem.W.Frag} : RSim K (rNeA K) neD := by
  intro B H0 g σ ρ n H v1 v2 x1 x2 a b k Q r h1 e1 h2 e2 hf q
  have d1 := (r.read h1 e1).1
  have d2 := (r.read h2 e2).1
  rcases hf with ⟨he | he, hk⟩
  · rcases Bool.or_eq_true_iff.mp he with he | he
    · obtain ⟨a1, a2⟩ := easy_eq he d1 d2
      exact .inl ⟨a1, by rw [a2]; exact r.flat (fun _ => .bl _) q hk⟩
    · obtain ⟨p1, p2, xs, z1, z2, z3, z5⟩ := bare_eq he d1 d2
      rcases z3 with ⟨z3, z4⟩ | ⟨z3, z4⟩
      · exact .inr (.inr (.inl ⟨p1, p2, xs, z1, z2, z3, z4, by rw [z5]; exact r.flat (fun _ => .bl _) q hk⟩))
      · exact .inr (.inr (.inr ⟨p1, p2, xs, z1, z2, z3, z4, by rw [z5]; exact r.flat (fun _ => .bl _) q hk⟩))
  · exact .inr (.inl ⟨a, b, d1, d2, he.1, he.2, r.flat (fun _ => .bl _) q hk⟩)
theorem je_eq {a b : Expr} {pos : Pos} {wa wb : W2} (ha : JE Φ W m1 a wa) (hb : JE Φ W m2 b wb) : JE Φ W (m1 + m2) (.Compare a [.Eq] [b] pos) (wBin eqD wa wb) := je_cmp (fun i => by rw [← Φ.hK i]; exact op_eqA (unitsH (Φ.rm i))) rsim_eq ha hb
def rOrd (f : Int → Int → Bool) (g : Str → Str → Bool) : R2 := fun x y H Q => rI0 (fun i j => .bl (f i j)) x y H Q ∨ ∃ i j, x = .str i ∧ y = .str j ∧ Q (.bl (g i j)) H
def ordD (f : Int → Int → Bool) (g : Str → Str → Bool) (a b : PyData) (k : X2 → Prop) : Prop := match a, b with
  | .int i, .int j => k (.d (.bool (f i j)))
  | .str i, .str j => k (.d (.bool (g i j)))
  | _, _ => False
def sLt (i j : Str) : Bool := decide (i.cps.toList < j.cps.toList)
theorem rsim_ord {K : PySem.W.Frag} {f : Int → Int → Bool} {g : Str → Str → Bool} : RSim K (rOrd f g) (ordD f g) := by
  intro B H0 gs σ ρ n H v1 v2 x1 x2 a b k Q r h1 e1 h2 e2 hf q
  unfold ordD at hf
  split at hf
  · rw [r.int h1 e1, r.int h2 e2]
    exact .inl ⟨_, _, rfl, rfl, r.flat (fun _ => .bl _) q hf⟩
  · rw [r.str h1 e1, r.str h2 e2]
    exact .inr ⟨_, _, rfl, rfl, r.flat (fun _ => .bl _) q hf⟩
  · exact hf.elim
def ltD := ordD (fun i j => decide (i < j)) sLt
def gtD := ordD (fun i j => decide (j < i)) (fun i j => sLt j i)
def geD := ordD (fun i j => decide (j ≤ i)) (fun i j => !sLt i j)
theorem op_ltA {X : Cx} : OpR X (compareOp .Lt) (rOrd (fun i j => decide (i < j)) sLt) := OpR.or op_lt op_lt_str
theorem op_gtA {X : Cx} : OpR X (compareOp .Gt) (rOrd (fun i j => decide (j < i)) (fun i j => sLt j i)) := OpR.or op_gt op_gt_str
theorem op_geA {X : Cx} : OpR X (compareOp .GtE) (rOrd (fun i j => decide (j ≤ i)) (fun i j => !sLt i j)) := OpR.or op_ge op_ge_str
theorem je_gt {a b : Expr} {pos : Pos} {wa wb : W2} (ha : JE Φ W m1 a wa) (hb : JE Φ W m2 b wb) : JE Φ W (m1 + m2) (.Compare a [.Gt] [b] pos) (wBin gtD wa wb) := je_cmp (fun _ => op_gtA) rsim_ord ha hb
def flatD : PyData → Bool
  | .none => true
  | .bool _ => true
  | .int _ => true
  | .str _ => true
  | _ => false
def inD (neg : Bool) (a b : PyData) (k : X2 → Prop) : Prop := match b with
  | .list ds => (flatD a = true ∧ ds.all flatD = true) ∧ k (.d (.bool (if neg then !(ds.any fun y => PyData.eqv y a) else ds.any fun y => PyData.eqv y a)))
  | .tuple ds => (flatD a = true ∧ ds.all flatD = true) ∧ k (.d (.bool (if neg then !(ds.any fun y => PyData.eqv y a) else ds.any fun y => PyData.eqv y a)))
  | .str z => match a with
    | .str y => k (.d (.bool (if neg then Builtin.Str.occurrences z y 0 z.length 1 |>.isEmpty else !(Builtin.Str.occurrences z y 0 z.length 1).isEmpty)))
    | _ => False
  | _ => False
def rInA (K : PySem.W.Frag) (neg : Bool) : R2 := fun x y H Q => rIn K neg x y H Q ∨ ∃ i j, x = .str i ∧ y = .str j ∧ Q (.bl (if neg then Builtin.Str.occurrences j i 0 j.length 1 |>.isEmpty else !(Builtin.Str.occurrences j i 0 j.length 1).isEmpty)) H
theorem op_inA {X : Cx} : OpR X (compareOp .In) (rInA X.K false) := OpR.or op_in_seq op_in_str
theorem op_notInA {X : Cx} : OpR X (compareOp .NotIn) (rInA X.K true) := OpR.or op_notIn_seq (fun pins s σ H x y v u Q I rx ry h => op_notin_str pins s σ H x y v u Q I rx ry (by
  obtain ⟨i, j, a, b, c⟩ := h
  exact ⟨i, j, a, b, by rw [Bool.not_not]; exact c⟩))
theorem flat_dq {K : PySem.W.Frag} {H : Hp} {v : V} {d : PyData} (h : Dq K H v d) : flatV v = flatD d := by cases h <;> rfl
theorem flat_dqa {K : PySem.W.Frag} {H : Hp} : ∀ {vs : List V} {ds : List PyData}, DqA K H vs ds → vs.all flatV = ds.all flatD
  | _, _, .nil => rfl
  | _, _, .cons h q => by rw [List.all_cons, List.all_cons, flat_dq h, flat_dqa q]
theorem eqv_dq {K : PySem.W.Frag} {H H' : Hp} {v w : V} {d e : PyData} (h : Dq K H v d) (h' : Dq K H' w e) (f : flatD d = true) (f' : flatD e = true) : eqV v w = PyData.eqv d e := by
  cases h <;> cases h' <;> first | (simp [eqV, PyData.eqv]; done) | (exact absurd f Bool.false_ne_true) | (exact absurd f' Bool.false_ne_true)
theorem any_dq {K : PySem.W.Frag} {H H' : Hp} {w : V} {e : PyData} (h' : Dq K H' w e) (f' : flatD e = true) : ∀ {vs : List V} {ds : List PyData}, DqA K H vs ds → ds.all flatD = true → inV w vs = ds.any fun y => PyData.eqv y e
  | _, _, .nil, _ => rfl
  | _, _, .cons h q, z => by
    rw [List.all_cons, Bool.and_eq_true] at z
    have := any_dq h' f' q z.2
    unfold inV at this ⊢
    rw [List.any_cons, List.any_cons, eqv_dq h h' z.1 f', this]
theorem rsim_in {K : PySem.W.Frag} {neg : Bool} : RSim K (rInA K neg) (inD neg) := by
  intro B H0 gs σ ρ n H v1 v2 x1 x2 a b k Q r h1 e1 h2 e2 hf q
  have d1 := (r.read h1 e1).1
  unfold inD at hf
  split at hf
  · obtain ⟨p, vs, rfl, s2, d2⟩ := r.list h2 e2
    refine .inl ⟨p, vs, rfl, .inl (SqL.of s2), by rw [flat_dq d1]; exact hf.1.1, by rw [flat_dqa d2]; exact hf.1.2, ?_⟩
    rw [any_dq d1 hf.1.1 d2 hf.1.2]
    exact r.flat (fun _ => .bl _) q hf.2
  · obtain ⟨p, vs, rfl, s2, d2⟩ := r.tuple h2 e2
    refine .inl ⟨p, vs, rfl, .inr s2, by rw [flat_dq d1]; exact hf.1.1, by rw [flat_dqa d2]; exact hf.1.2, ?_⟩
    rw [any_dq d1 hf.1.1 d2 hf.1.2]
    exact r.flat (fun _ => .bl _) q hf.2
  · split at hf
    · rw [r.str h1 e1, r.str h2 e2]
      exact .inr ⟨_, _, rfl, rfl, r.flat (fun _ => .bl _) q hf⟩
    · exact hf.elim
  · exact hf.elim
def isNone : PyData → Bool
  | .none => true
  | _ => false
theorem isNone_dq {K : PySem.W.Frag} {H : Hp} {v : V} {d : PyData} (h : Dq K H v d) : decide (v = .non) = isNone d := by cases h <;> simp [isNone]
def wIsN (neg : Bool) (wa : W2) : W2 := fun e ρ k => wa e ρ fun x ρ1 => rdK ρ1 x fun a => k (.d (.bool (if neg then !isNone a else isNone a))) ρ1
theorem je_isN {a : Expr} {pos : Pos} {j p} {wa : W2} (ha : JE Φ W m a wa) : JE Φ W m (.Compare a [.Is] [.Constant .none j p] pos) (wIsN false wa) := by
  obtain ⟨ta, a1, a2⟩ := ha
  refine ⟨tIsN ta, fun i => pe_cmp (pc_isN (a1 i)) rfl, ?_⟩
  intro B H0 g σ ρ n H e k Q rs l hw q xq
  refine a2 B H0 g σ ρ n H e _ _ rs l hw (fun H1 ρ1 Ha v1 x1 s1 r1 h1 q1 => ?_) xq
  obtain ⟨a, ea, q2⟩ := rdK_of q1
  rw [isNone_dq (r1.read h1 ea).1]
  exact q H1 ρ1 Ha _ (.d (.bool _)) s1 r1 (.bl _) q2
def wTest (wa : W2) : WT := fun e ρ k => wa e ρ fun x ρ1 => match x with
  | .d (.bool b) => k b ρ1
  | _ => False
theorem simT_of {K : PySem.W.Frag} {mg : MG} {ta : TE} {wa : W2} (a2 : SimE K mg W m ta wa) : SimT K mg W m (tTest ta) (wTest wa) := by
  intro B H0 g σ ρ n H e k Q rs l hw q xq
  refine a2 B H0 g σ ρ n H e _ _ rs l hw (fun H1 ρ1 Ha v1 x1 s1 r1 h1 q1 => ?_) xq
  split at q1
  · cases (show Dq K H1 v1 _ from h1)
    exact ⟨_, rfl, q H1 ρ1 Ha _ s1 r1 q1⟩
  · exact q1.elim
theorem jt_val {a : Expr} {wa : W2} (ha : JE Φ W m a wa) (he : ∀ i whole, isTrue a (Φ.X i).env whole = (do let v ← whole; standAt a.pos; holding [v] (truthy v)) := by intro _ _; rfl) : JT Φ W m a (wTest wa) := by
  obtain ⟨ta, a1, a2⟩ := ha
  exact ⟨tB ta, fun i => pt_val (a1 i) (he i), simT_of a2⟩
theorem jt_cmp {op : CmpOp} {a b : Expr} {pos : Pos} {r : R2} {f : PyData → PyData → (X2 → Prop) → Prop} {wa wb : W2} (ho : ∀ i, OpR (Φ.X i) (compareOp op) r) (hr : RSim Φ.K r f) (ha : JE Φ W m1 a wa) (hb : JE Φ W m2 b wb) (hm : behindInMarks op b = false := by first | exact nomark _ (by decide) (by decide) | rfl) : JT Φ W (m1 + m2) (.Compare a [op] [b] pos) (wTest (wBin f wa wb)) :=
  let ⟨ta, a1, a2⟩ := ha
  let ⟨tb, b1, b2⟩ := hb
  ⟨_, fun i => pt_cmpR (ho i) (a1 i) (b1 i) hm, simT_of (sim_bin hr a2 b2)⟩
theorem jt_eq {a b : Expr} {pos : Pos} {wa wb : W2} (ha : JE Φ W m1 a wa) (hb : JE Φ W m2 b wb) : JT Φ W (m1 + m2) (.Compare a [.Eq] [b] pos) (wTest (wBin eqD wa wb)) := jt_cmp (fun i => by rw [← Φ.hK i]; exact op_eqA (unitsH (Φ.rm i))) rsim_eq ha hb
theorem jt_ne {a b : Expr} {pos : Pos} {wa wb : W2} (ha : JE Φ W m1 a wa) (hb : JE Φ W m2 b wb) : JT Φ W (m1 + m2) (.Compare a [.NotEq] [b] pos) (wTest (wBin neD wa wb)) := jt_cmp (fun i => by rw [← Φ.hK i]; exact op_neA (unitsH (Φ.rm i))) rsim_ne ha hb
theorem jt_lt {a b : Expr} {pos : Pos} {wa wb : W2} (ha : JE Φ W m1 a wa) (hb : JE Φ W m2 b wb) : JT Φ W (m1 + m2) (.Compare a [.Lt] [b] pos) (wTest (wBin ltD wa wb)) := jt_cmp (fun _ => op_ltA) rsim_ord ha hb
theorem jt_gt {a b : Expr} {pos : Pos} {wa wb : W2} (ha : JE Φ W m1 a wa) (hb : JE Φ W m2 b wb) : JT Φ W (m1 + m2) (.Compare a [.Gt] [b] pos) (wTest (wBin gtD wa wb)) := jt_cmp (fun _ => op_gtA) rsim_ord ha hb
theorem jt_ge {a b : Expr} {pos : Pos} {wa wb : W2} (ha : JE Φ W m1 a wa) (hb : JE Φ W m2 b wb) : JT Φ W (m1 + m2) (.Compare a [.GtE] [b] pos) (wTest (wBin geD wa wb)) := jt_cmp (fun _ => op_geA) rsim_ord ha hb
theorem jt_in {a b : Expr} {pos : Pos} {wa wb : W2} (ha : JE Φ W m1 a wa) (hb : JE Φ W m2 b wb) (hm : behindInMarks .In b = false := by rfl) : JT Φ W (m1 + m2) (.Compare a [.In] [b] pos) (wTest (wBin (inD false) wa wb)) := jt_cmp (fun i => by rw [← Φ.hK i]; exact op_inA) rsim_in ha hb hm
theorem jt_notIn {a b : Expr} {pos : Pos} {wa wb : W2} (ha : JE Φ W m1 a wa) (hb : JE Φ W m2 b wb) (hm : behindInMarks .NotIn b = false := by rfl) : JT Φ W (m1 + m2) (.Compare a [.NotIn] [b] pos) (wTest (wBin (inD true) wa wb)) := jt_cmp (fun i => by rw [← Φ.hK i]; exact op_notInA) rsim_in ha hb hm
theorem jt_isN {a : Expr} {pos : Pos} {j p} {wa : W2} (ha : JE Φ W m a wa) : JT Φ W m (.Compare a [.Is] [.Constant .none j p] pos) (wTest (wIsN false wa)) := by
  obtain ⟨ta, a1, a2⟩ := ha
  refine ⟨tB (tIsN ta), fun i => pt_cmp (pc_isN (a1 i)) rfl, ?_⟩
  intro B H0 g σ ρ n H e k Q rs l hw q xq
  refine a2 B H0 g σ ρ n H e _ _ rs l hw (fun H1 ρ1 Ha v1 x1 s1 r1 h1 q1 => ?_) xq
  obtain ⟨a, ea, q2⟩ := rdK_of q1
  rw [isNone_dq (r1.read h1 ea).1]
  exact ⟨_, rfl, q H1 ρ1 Ha _ s1 r1 q2⟩
def wAnd (a b : WT) : WT := fun e ρ k => a e ρ fun c ρ1 => if c = true then b e ρ1 k else k false ρ1
def wOr (a b : WT) : WT := fun e ρ k => a e ρ fun c ρ1 => if c = true then k true ρ1 else b e ρ1 k
def wNot (a : WT) : WT := fun e ρ k => a e ρ fun c ρ1 => k (!c) ρ1
theorem simT_and {K : PySem.W.Frag} {mg : MG} {ta tb : TT} {wa wb : WT} (a2 : SimT K mg W m1 ta wa) (b2 : SimT K mg W m2 tb wb) : SimT K mg W (m1 + m2) (tAnd ta tb) (wAnd wa wb) := by
  intro B H0 g σ ρ n H e k Q rs l hw q xq
  refine a2 B H0 g σ ρ n H e _ _ rs (by omega) hw (fun H1 ρ1 Ha c s1 r1 q1 => ?_) (fun H0' ρ' H' nm cls d s r' => xq H0' ρ' H' nm cls d s (r'.count (by omega)))
  cases c with
  | true =>
    rw [if_pos rfl] at q1 ⊢
    exact b2 B H1 g σ ρ1 _ Ha e k Q r1 (by omega) q1 (fun H2 ρ2 Hb c2 s2 r2 q2 => q H2 ρ2 Hb c2 (s1.trans s2) (r2.count (by omega)) q2) (fun H0' ρ' H' nm cls d s r' => xq H0' ρ' H' nm cls d (s1.trans s) (r'.count (by omega)))
  | false =>
    rw [if_neg Bool.false_ne_true] at q1 ⊢
    exact q H1 ρ1 Ha false s1 (r1.count (by omega)) q1
theorem simT_or {K : PySem.W.Frag} {mg : MG} {ta tb : TT} {wa wb : WT} (a2 : SimT K mg W m1 ta wa) (b2 : SimT K mg W m2 tb wb) : SimT K mg W (m1 + m2) (tOr ta tb) (wOr wa wb) := by
  intro B H0 g σ ρ n H e k Q rs l hw q xq
  refine a2 B H0 g σ ρ n H e _ _ rs (by omega) hw (fun H1 ρ1 Ha c s1 r1 q1 => ?_) (fun H0' ρ' H' nm cls d s r' => xq H0' ρ' H' nm cls d s (r'.count (by omega)))
  cases c with
  | false =>
    rw [if_neg Bool.false_ne_true] at q1 ⊢
    exact b2 B H1 g σ ρ1 _ Ha e k Q r1 (by omega) q1 (fun H2 ρ2 Hb c2 s2 r2 q2 => q H2 ρ2 Hb c2 (s1.trans s2) (r2.count (by omega)) q2) (fun H0' ρ' H' nm cls d s r' => xq H0' ρ' H' nm cls d (s1.trans s) (r'.count (by omega)))
  | true =>
    rw [if_pos rfl] at q1 ⊢
    exact q H1 ρ1 Ha true s1 (r1.count (by omega)) q1
theorem jw_and1 {a : Expr} {pos : Pos} {wa : WT} (ha : JT Φ W m a wa) : JW Φ W m (.BoolOp .And [a] pos) wa := let ⟨t, a1, a2⟩ := ha; ⟨t, fun i => pw_and1 (a1 i), a2⟩
theorem jw_or1 {a : Expr} {pos : Pos} {wa : WT} (ha : JT Φ W m a wa) : JW Φ W m (.BoolOp .Or [a] pos) wa := let ⟨t, a1, a2⟩ := ha; ⟨t, fun i => pw_or1 (a1 i), a2⟩
theorem jw_and {a b : Expr} {r : List Expr} {pos : Pos} {wa wb : WT} (ha : JT Φ W m1 a wa) (hb : JW Φ W m2 (.BoolOp .And (b :: r) pos) wb) : JW Φ W (m1 + m2) (.BoolOp .And (a :: b :: r) pos) (wAnd wa wb) :=
  let ⟨_, a1, a2⟩ := ha; let ⟨_, b1, b2⟩ := hb; ⟨_, fun i => pw_and (a1 i) (b1 i), simT_and a2 b2⟩
theorem jw_or {a b : Expr} {r : List Expr} {pos : Pos} {wa wb : WT} (ha : JT Φ W m1 a wa) (hb : JW Φ W m2 (.BoolOp .Or (b :: r) pos) wb) : JW Φ W (m1 + m2) (.BoolOp .Or (a :: b :: r) pos) (wOr wa wb) :=
  let ⟨_, a1, a2⟩ := ha; let ⟨_, b1, b2⟩ := hb; ⟨_, fun i => pw_or (a1 i) (b1 i), simT_or a2 b2⟩
theorem JW.t {a : Expr} {wa : WT} (h : JW Φ W m a wa) : JT Φ W m a wa := let ⟨t, a1, a2⟩ := h; ⟨t, fun i => (a1 i).pt, a2⟩
theorem jt_not {a : Expr} {pos : Pos} {wa : WT} (ha : JT Φ W m a wa) : JT Φ W m (.UnaryOp .Not a pos) (wNot wa) := by
  obtain ⟨t, a1, a2⟩ := ha
  refine ⟨_, fun i => pt_not (a1 i), ?_⟩
  intro B H0 g σ ρ n H e k Q rs l hw q xq
  exact a2 B H0 g σ ρ n H e _ _ rs l hw (fun H1 ρ1 Ha c s1 r1 q1 => q H1 ρ1 Ha (!c) s1 r1 q1) xq
def wAndV (a b : W2) : W2 := fun e ρ k => a e ρ fun x ρ1 => match x with
  | .d (.bool c) => if c = true then b e ρ1 k else k (.d (.bool false)) ρ1
  | _ => False
def wNotV (a : W2) : W2 := fun e ρ k => a e ρ fun x ρ1 => match x with
  | .d (.bool c) => k (.d (.bool (!c))) ρ1
  | _ => False
theorem je_one {op} {a : Expr} {pos : Pos} {wa : W2} (ha : JE Φ W m a wa) : JE Φ W m (.BoolOp op [a] pos) wa := let ⟨t, a1, a2⟩ := ha; ⟨t, fun i => pe_one (a1 i), a2⟩
theorem je_and {a b : Expr} {r : List Expr} {pos : Pos} {wa wb : W2} (ha : JE Φ W m1 a wa) (hb : JE Φ W m2 (.BoolOp .And (b :: r) pos) wb) : JE Φ W (m1 + m2) (.BoolOp .And (a :: b :: r) pos) (wAndV wa wb) := by
  obtain ⟨t, a1, a2⟩ := ha
  obtain ⟨u, b1, b2⟩ := hb
  refine ⟨_, fun i => pe_and (a1 i) (b1 i), ?_⟩
  intro B H0 g σ ρ n H e k Q rs l hw q xq
  refine a2 B H0 g σ ρ n H e _ _ rs (by omega) hw (fun H1 ρ1 Ha v1 x1 s1 r1 h1 q1 => ?_) (fun H0' ρ' H' nm cls d s r' => xq H0' ρ' H' nm cls d s (r'.count (by omega)))
  split at q1
  · rename_i cc
    cases (show Dq Φ.K H1 v1 (.bool cc) from h1)
    cases cc with
    | true =>
      rw [if_pos rfl] at q1
      refine ⟨true, rfl, iteT ?_⟩
      exact b2 B H1 g σ ρ1 _ Ha e k Q r1 (by omega) q1 (fun H2 ρ2 Hb v2 x2 s2 r2 h2 q2 => q H2 ρ2 Hb v2 x2 (s1.trans s2) (r2.count (by omega)) h2 q2) (fun H0' ρ' H' nm cls d s r' => xq H0' ρ' H' nm cls d (s1.trans s) (r'.count (by omega)))
    | false =>
      rw [if_neg Bool.false_ne_true] at q1
      exact ⟨false, rfl, iteF (q H1 ρ1 Ha _ (.d (.bool false)) s1 (r1.count (by omega)) (.bl _) q1)⟩
  · exact q1.elim
theorem je_not {a : Expr} {pos : Pos} {wa : W2} (ha : JE Φ W m a wa) : JE Φ W m (.UnaryOp .Not a pos) (wNotV wa) := by
  obtain ⟨t, a1, a2⟩ := ha
  refine ⟨_, fun i => pe_not (a1 i), ?_⟩
  intro B H0 g σ ρ n H e k Q rs l hw q xq
  refine a2 B H0 g σ ρ n H e _ _ rs l hw (fun H1 ρ1 Ha v1 x1 s1 r1 h1 q1 => ?_) xq
  split at q1
  · cases (show Dq Φ.K H1 v1 _ from h1)
    exact ⟨_, rfl, q H1 ρ1 Ha _ (.d (.bool _)) s1 r1 (.bl _) q1⟩
  · exact q1.elim
def wNil : WA := fun _ ρ k => k [] ρ
def wCons (a : W2) (r : WA) : WA := fun e ρ k => a e ρ fun x ρ1 => r e ρ1 fun xs ρ2 => k (calm1 x :: xs) ρ2
theorem ja_nil : JA Φ W 0 [] wNil := by
  refine ⟨tNil, fun _ => pa_nil, ?_⟩
  intro B H0 g σ ρ n H e k Q rs l hw q xq
  exact q H0 ρ H [] [] (Same.refl _) rs .nil rfl hw
theorem ja_cons {a : Expr} {r : List Expr} {wa : W2} {wr : WA} (ha : JE Φ W m1 a wa) (hr : JA Φ W m2 r wr) (hs : ∀ i, starEach (a :: r) (Φ.X i).env = (false, eval a (Φ.X i).env) :: starEach r (Φ.X i).env := by intro _; rfl) : JA Φ W (m1 + m2) (a :: r) (wCons wa wr) := by
  obtain ⟨ta, a1, a2⟩ := ha
  obtain ⟨tr, b1, b2⟩ := hr
  refine ⟨tCons ta tr, fun i => pa_cons (a1 i) (b1 i) (hs i), ?_⟩
  intro B H0 g σ ρ n H e k Q rs l hw q xq
  refine a2 B H0 g σ ρ n H e _ _ rs (by omega) hw (fun H1 ρ1 Ha v1 x1 s1 r1 h1 q1 => ?_) (fun H0' ρ' H' nm cls d s r' => xq H0' ρ' H' nm cls d s (r'.count (by omega)))
  obtain ⟨H2, s2, r2, h2⟩ := r1.calm h1
  refine b2 B H2 g σ ρ1 (n + m1) Ha e _ _ r2 (by omega) q1 (fun H3 ρ3 Hb vs xs s3 r3 h3 hl q3 => ?_) (fun H0' ρ' H' nm cls d s r' => xq H0' ρ' H' nm cls d ((s1.trans s2).trans s) (r'.count (by omega)))
  exact q H3 ρ3 Hb _ _ ((s1.trans s2).trans s3) (r3.count (by omega)) (.cons (h2.mono s3) h3) (by rw [List.length_cons, List.length_cons, hl]) q3
def frzK : Env → List X2 → (List PyData → Env → Prop) → Prop
  | ρ, [], k => k [] ρ
  | ρ, .d d :: xs, k => frzK ρ xs fun ds ρ' => k (d :: ds) ρ'
  | ρ, .slot i :: xs, k => match ρ i with
    | some (.own ds) => frzK (upE ρ i (some (.d (.list ds)))) xs fun es ρ' => k (.list ds :: es) ρ'
    | some (.d d) => frzK ρ xs fun es ρ' => k (d :: es) ρ'
    | _ => False
  | _, _, _ => False
theorem RS.frz {K : PySem.W.Frag} {B : Base} {g : Option Gs} {σ : St} {n : Nat} {H : Hp} : ∀ {vs : List V} {xs : List X2} {H0 : Hp} {ρ : Env} {k : List PyData → Env → Prop}, RS K B H0 g σ ρ n H → RelNs K H0 g σ vs xs → frzK ρ xs k →
    ∃ H0' ρ' ds, Same H0 H0' ∧ RS K B H0' g σ ρ' n H ∧ DqA K H0' vs ds ∧ k ds ρ'
  | _, [], H0, ρ, k, r, .nil, h => ⟨H0, ρ, [], Same.refl _, r, .nil, h⟩
  | _, .d d :: xs, H0, ρ, k, r, .cons h1 h2, h => by
    obtain ⟨H1, ρ1, ds, s1, r1, q1, k1⟩ := RS.frz (k := fun ds ρ' => k (d :: ds) ρ') r h2 h
    exact ⟨H1, ρ1, d :: ds, s1, r1, .cons (Dq.mono s1 h1) q1, k1⟩
  | _, .slot i :: xs, H0, ρ, k, r, .cons h1 h2, h => by
    have hi : σ[i]? = some (some _) := h1
    unfold frzK at h
    cases q : ρ i with
    | none => rw [q] at h; exact h.elim
    | some y =>
      rw [q] at h
      cases y with
      | own ds =>
        obtain ⟨v, z1, z2⟩ := r.sl i _ q
        rw [hi] at z1; cases z1
        obtain ⟨p, rfl, hp⟩ := z2
        obtain ⟨H1, s1, r1⟩ := r.freezeS q
        obtain ⟨v', z3, z4⟩ := r1.sl i (.d (.list ds)) (by unfold upE; rw [if_pos rfl])
        rw [hi] at z3; cases z3
        obtain ⟨H2, ρ2, es, s2, r2, q2, k2⟩ := RS.frz (k := fun es ρ' => k (.list ds :: es) ρ') r1 (RelNs.mono s1 h2) h
        exact ⟨H2, ρ2, _, s1.trans s2, r2, .cons (Dq.mono s2 z4) q2, k2⟩
      | d d =>
        obtain ⟨v, z1, z2⟩ := r.sl i _ q
        rw [hi] at z1; cases z1
        obtain ⟨H2, ρ2, es, s2, r2, q2, k2⟩ := RS.frz (k := fun es ρ' => k (d :: es) ρ') r h2 h
        exact ⟨H2, ρ2, _, s2, r2, .cons (Dq.mono s2 z2) q2, k2⟩
      | slot _ => exact h.elim
      | drw => exact h.elim
      | scr _ => exact h.elim
      | ob _ => exact h.elim
  | _, .own _ :: _, _, _, _, _, .cons h1 _, _ => h1.elim
  | _, .drw :: _, _, _, _, _, .cons h1 _, h => h.elim
  | _, .scr _ :: _, _, _, _, _, .cons h1 _, h => h.elim
  | _, .ob _ :: _, _, _, _, _, .cons h1 _, h => h.elim
def wTup (a : WA) : W2 := fun e ρ k => a e ρ fun xs ρ1 => frzK ρ1 xs fun ds ρ2 => ds.length ≤ 16777216 ∧ k (.d (.tuple ds)) ρ2
def wLst (a : WA) : W2 := fun e ρ k => a e ρ fun xs ρ1 => frzK ρ1 xs fun ds ρ2 => ds.length ≤ 16777216 ∧ k (.own ds) ρ2
theorem je_tup {es : List Expr} {x1} {pos : Pos} {wa : WA} (h : JA Φ W m es wa) : JE Φ W m (.Tuple es x1 pos) (wTup wa) := by
  obtain ⟨ta, a1, a2⟩ := h
  refine ⟨_, fun i => pe_tup (a1 i), ?_⟩
  intro B H0 g σ ρ n H e k Q rs l hw q xq
  refine a2 B H0 g σ ρ n H e _ _ rs l hw (fun H1 ρ1 Ha vs xs s1 r1 h1 _ q1 => ?_) xq
  obtain ⟨H2, ρ2, ds, s2, r2, d2, hz, k2⟩ := r1.frz h1 q1
  refine ⟨by rw [d2.length, sizeLine_eq]; exact hz, fun p hp => ?_⟩
  exact r2.newT (k := fun x => k x ρ2) d2 hp (fun H3 Hc v x s3 r3 h3 k3 => q H3 ρ2 Hc v x ((s1.trans s2).trans s3) r3 h3 k3) k2
theorem je_lst {es : List Expr} {pos : Pos} {wa : WA} (h : JA Φ W m es wa) : JE Φ W m (.List es pos) (wLst wa) := by
  obtain ⟨ta, a1, a2⟩ := h
  refine ⟨_, fun i => pe_lst (a1 i), ?_⟩
  intro B H0 g σ ρ n H e k Q rs l hw q xq
  refine a2 B H0 g σ ρ n H e _ _ rs l hw (fun H1 ρ1 Ha vs xs s1 r1 h1 _ q1 => ?_) xq
  obtain ⟨H2, ρ2, ds, s2, r2, d2, hz, k2⟩ := r1.frz h1 q1
  refine ⟨by rw [d2.length, sizeLine_eq]; exact hz, fun p hp => ?_⟩
  exact r2.newL (k := fun x => k x ρ2) d2 hp (fun H3 Hc v x s3 r3 h3 k3 => q H3 ρ2 Hc v x ((s1.trans s2).trans s3) r3 h3 k3) k2
def ixD (a b : PyData) (k : X2 → Prop) : Prop := match a, b with
  | .tuple ds, .int i => match atI ds i with
    | some d => k (.d d)
    | none => False
  | .list ds, .int i => match atI ds i with
    | some d => k (.d d)
    | none => False
  | .str z, .int i => z.length ≤ 16777216 ∧ match atI z.cps.toList i with
    | some c => k (.d (.str ⟨#[c]⟩))
    | none => False
  | _, _ => False
theorem atI_dqa {K : PySem.W.Frag} {H : Hp} {vs : List V} {ds : List PyData} {i : Int} {d : PyData} (h : DqA K H vs ds) (e : atI ds i = some d) : ∃ v, atI vs i = some v ∧ Dq K H v d := by
  unfold atI at e ⊢
  rw [h.length]
  cases z : ixN ds.length i with
  | none => rw [z] at e; cases e
  | some j =>
    rw [z] at e
    exact h.get e
theorem rsim_ix {K : PySem.W.Frag} : RSim K (rIx K) ixD := by
  intro B H0 g σ ρ n H v1 v2 x1 x2 a b k Q r h1 e1 h2 e2 hf q
  unfold ixD at hf
  split at hf
  · rename_i ds i
    split at hf
    · rename_i d hd
      obtain ⟨p, vs, rfl, s1, d1⟩ := r.tuple h1 e1
      rw [r.int h2 e2]
      obtain ⟨v, z1, z2⟩ := atI_dqa d1 hd
      exact .inr (.inl ⟨p, vs, i, v, rfl, rfl, s1, z1, q H0 H v (.d d) (Same.refl _) r z2 hf⟩)
    · exact hf.elim
  · rename_i ds i
    split at hf
    · rename_i d hd
      obtain ⟨p, vs, rfl, s1, d1⟩ := r.list h1 e1
      rw [r.int h2 e2]
      obtain ⟨v, z1, z2⟩ := atI_dqa d1 hd
      exact .inl ⟨p, vs, i, v, rfl, rfl, SqL.of s1, z1, q H0 H v (.d d) (Same.refl _) r z2 hf⟩
    · exact hf.elim
  · rename_i z i
    obtain ⟨hz, hf⟩ := hf
    split at hf
    · rename_i c hc
      rw [r.str h1 e1, r.int h2 e2]
      exact .inr (.inr ⟨z, i, c, rfl, rfl, by rw [sizeLine_eq]; exact hz, hc, r.flat (fun _ => .str _) q hf⟩)
    · exact hf.elim
  · exact hf.elim
theorem je_ix {a b : Expr} {pos : Pos} {wa wb : W2} (ha : JE Φ W m1 a wa) (hb : JE Φ W m2 b wb) (hs : PlainIx b := by exact fun _ _ => rfl) : JE Φ W (m1 + m2) (.Subscript a b pos) (wBin ixD wa wb) :=
  let ⟨ta, a1, a2⟩ := ha
  let ⟨tb, b1, b2⟩ := hb
  ⟨tOp (rIx Φ.K) ta tb, fun i => pe_ix (by rw [← Φ.hK i]; exact ix_seq) (a1 i) (b1 i) hs, sim_bin rsim_ix a2 b2⟩
end
end B2

namespace B2
open PySem L2
section
variable {ι : Type} {Φ : Fam ι} {W : WX} {m m1 m2 m3 : Nat}
def cutL {α : Type} (xs : List α) (lo hi : Option Int) : List α := (xs.drop (HT.sIx xs.length 0 lo)).take (HT.sIx xs.length xs.length hi - HT.sIx xs.length 0 lo)
theorem cutV_dqa {K : PySem.W.Frag} {H : Hp} {vs : List V} {ds : List PyData} (h : DqA K H vs ds) (lo hi : Option Int) : DqA K H (cutV vs lo hi) (cutL ds lo hi) := by
  unfold cutV cutL
  rw [h.length]
  exact (h.drop _).take _
def wPart : Option W2 → Xn → Env → (Option Int → Env → Prop) → Prop
  | none, _, ρ, k => k none ρ
  | some w, e, ρ, k => w e ρ fun x ρ1 => rdK ρ1 x fun d => match d with
    | .int i => k (some i) ρ1
    | _ => False
def sliceD (a : PyData) (lo hi : Option Int) (k : X2 → Prop) : Prop := match a with
  | .tuple ds => k (.d (.tuple (cutL ds lo hi)))
  | .list ds => k (.own (cutL ds lo hi))
  | .str z => z.length ≤ 16777216 ∧ k (.d (.str (cutS z lo hi)))
  | _ => False
def wSl (wa : W2) (wl wh : Option W2) : W2 := fun e ρ k => wa e ρ fun x ρ1 => wPart wl e ρ1 fun lo ρ2 => wPart wh e ρ2 fun hi ρ3 => rdK ρ3 (calm1 x) fun a => sliceD a lo hi fun z => k z ρ3
def JO (Φ : Fam ι) (W : WX) (m : Nat) (e : Option Expr) (w : Option W2) : Prop := ∃ t, (∀ i, PO (Φ.X i) e t) ∧
  ∀ (B : Base) (H0 : Hp) (g : Option Gs) (σ : St) (ρ : Env) (n : Nat) (H : Hp) (x : Xn) (k : Option Int → Env → Prop) (Q : Option Int → Hp → Prop), RS Φ.K B H0 g σ ρ n H → n + m ≤ LIM → (wPart w x ρ k) →
  (∀ H0' ρ' H' o, Same H0 H0' → RS Φ.K B H0' g σ ρ' (n + m) H' → k o ρ' → Q o H') →
  (∀ H0' ρ' H' nm cls d, Same H0 H0' → RS Φ.K B H0' g σ ρ' (n + m) H' → x nm ρ' → Exn Φ.mg nm cls d → W cls d σ H') → t σ H Q
theorem jo_none : JO Φ W 0 none none := by
  refine ⟨tNoPart, fun _ => po_none, ?_⟩
  intro B H0 g σ ρ n H x k Q r l h q _
  exact q H0 ρ H none (Same.refl _) r h
theorem jo_some {e : Expr} {w : W2} (h : JE Φ W m e w) : JO Φ W m (some e) (some w) := by
  obtain ⟨t, a1, a2⟩ := h
  refine ⟨tPart t, fun i => po_some (a1 i), ?_⟩
  intro B H0 g σ ρ n H x k Q r l h q xq
  refine a2 B H0 g σ ρ n H x _ _ r l h (fun H1 ρ1 Ha v y s1 r1 h1 q1 => ?_) xq
  obtain ⟨d, e1, hk⟩ := rdK_of q1
  split at hk
  · rename_i i
    rw [r1.int h1 e1]
    exact ⟨i, rfl, q H1 ρ1 Ha (some i) s1 r1 hk⟩
  · exact hk.elim
theorem cut_whole {vs : List V} {ds : List PyData} {K : PySem.W.Frag} {H : Hp} (h : DqA K H vs ds) {lo hi : Option Int} (hw : HT.sIx vs.length 0 lo = 0 ∧ HT.sIx vs.length vs.length hi = vs.length) : cutL ds lo hi = ds := by
  unfold cutL
  rw [← h.length, hw.1, hw.2, h.length]
  simp
theorem je_sl {a : Expr} {lo hi : Option Expr} {p2 pos : Pos} {wa : W2} {wl wh : Option W2} (ha : JE Φ W m1 a wa) (hl : JO Φ W m2 lo wl) (hh : JO Φ W m3 hi wh) : JE Φ W (m1 + m2 + m3) (.Subscript a (.Slice lo hi none p2) pos) (wSl wa wl wh) := by
  obtain ⟨ta, a1, a2⟩ := ha
  obtain ⟨tl, b1, b2⟩ := hl
  obtain ⟨th, c1, c2⟩ := hh
  refine ⟨_, fun i => pe_slice (SlR.or (by rw [← Φ.hK i]; exact sl_tupA) (SlR.or (by rw [← Φ.hK i]; exact sl_list) sl_str) : SlR (Φ.X i) (fun x lo hi H Q => rSlA Φ.K x lo hi H Q ∨ (rSlL Φ.K x lo hi H Q ∨ rSlS x lo hi H Q))) (a1 i) (b1 i) (c1 i), ?_⟩
  intro B H0 g σ ρ n H e k Q rs l hw q xq
  refine a2 B H0 g σ ρ n H e _ _ rs (by omega) hw (fun H1 ρ1 Ha v1 x1 s1 r1 h1 q1 => ?_) (fun H0' ρ' H' nm cls d s r' => xq H0' ρ' H' nm cls d s (r'.count (by omega)))
  obtain ⟨H2, s2, r2, h2⟩ := r1.calm h1
  refine b2 B H2 g σ ρ1 (n + m1) Ha e _ _ r2 (by omega) q1 (fun H3 ρ3 Hb o3 s3 r3 q3 => ?_) (fun H0' ρ' H' nm cls d s r' => xq H0' ρ' H' nm cls d ((s1.trans s2).trans s) (r'.count (by omega)))
  refine c2 B H3 g σ ρ3 _ Hb e _ _ r3 (by omega) q3 (fun H4 ρ4 Hc o4 s4 r4 q4 => ?_) (fun H0' ρ' H' nm cls d s r' => xq H0' ρ' H' nm cls d (((s1.trans s2).trans s3).trans s) (r'.count (by omega)))
  obtain ⟨a, ea, q6⟩ := rdK_of q4
  have h4 : RelR Φ.K B H4 Hc g σ ρ4 v1 (calm1 x1) := ((h2.mono s3).mono s4).r
  have st : Same H0 H4 := ((s1.trans s2).trans s3).trans s4
  unfold sliceD at q6
  split at q6
  · obtain ⟨p, vs, rfl, t1, d1⟩ := r4.tuple h4 ea
    have t0 := r4.oldT h4 ea
    refine .inl ⟨p, vs, rfl, t1, fun hwh => ?_, fun _ p2 hp => ?_⟩
    · rw [cut_whole d1 hwh] at q6
      exact q H4 ρ4 Hc _ (.d _) st (r4.count (by omega)) t0 q6
    · exact r4.newT (k := fun x => k x ρ4) (cutV_dqa d1 _ _) hp (fun H5 Hd v x s5 r5 h5 k5 => q H5 ρ4 Hd v x (st.trans s5) (r5.count (by omega)) h5 k5) q6
  · obtain ⟨p, vs, rfl, t1, d1⟩ := r4.list h4 ea
    exact .inr (.inl ⟨p, vs, rfl, SqL.of t1, fun p2 hp => r4.newL (k := fun x => k x ρ4) (cutV_dqa d1 _ _) hp (fun H5 Hd v x s5 r5 h5 k5 => q H5 ρ4 Hd v x (st.trans s5) (r5.count (by omega)) h5 k5) q6⟩)
  · rw [r4.str h4 ea]
    exact .inr (.inr ⟨_, rfl, by rw [sizeLine_eq]; exact q6.1, q H4 ρ4 Hc _ (.d (.str _)) st (r4.count (by omega)) (.str _) q6.2⟩)
  · exact q6.elim
def rdsK (ρ : Env) : List X2 → (List PyData → Prop) → Prop
  | [], k => k []
  | x :: xs, k => rdK ρ x fun d => rdsK ρ xs fun ds => k (d :: ds)
def CSim (K : PySem.W.Frag) (r : List V → Hp → VK → Prop) (f : List PyData → (X2 → Prop) → Prop) : Prop := ∀ (B : Base) (H0 : Hp) (g : Option Gs) (σ : St) (ρ : Env) (n : Nat) (H : Hp) (vs : List V) (xs : List X2) (k : X2 → Prop) (Q : VK),
  RS K B H0 g σ ρ n H → RelNs K H0 g σ vs xs → rdsK ρ xs (fun ds => f ds k) →
  (∀ H0' H' v x, Same H0 H0' → RS K B H0' g σ ρ n H' → RelR K B H0' H' g σ ρ v x → k x → Q v H') → r vs H Q
def wCB (f : List PyData → (X2 → Prop) → Prop) (wa : WA) : W2 := fun e ρ k => wa e ρ fun xs ρ1 => rdsK ρ1 xs fun ds => f ds fun z => k z ρ1
theorem sim_cb {K : PySem.W.Frag} {mg : MG} {L : Nat} {r : List V → Hp → VK → Prop} {f : List PyData → (X2 → Prop) → Prop} {ta : TA} {wa : WA} (hr : CSim K r f) (a2 : SimA K mg W m L ta wa) : SimE K mg W m (tCB r ta) (wCB f wa) := by
  intro B H0 g σ ρ n H e k Q rs l hw q xq
  refine a2 B H0 g σ ρ n H e _ _ rs l hw (fun H1 ρ1 Ha vs xs s1 r1 h1 _ q1 => ?_) xq
  exact hr B H1 g σ ρ1 _ Ha vs xs (fun x => k x ρ1) Q r1 h1 q1 fun H2 Hb v x s2 r2 h2 k2 => q H2 ρ1 Hb v x (s1.trans s2) r2 h2 k2
theorem csim1 {K : PySem.W.Frag} {r : List V → Hp → VK → Prop} {f : PyData → (X2 → Prop) → Prop}
    (h : ∀ (B : Base) (H0 : Hp) (g : Option Gs) (σ : St) (ρ : Env) (n : Nat) (H : Hp) (v : V) (x : X2) (d : PyData) (k : X2 → Prop) (Q : VK), RS K B H0 g σ ρ n H → RelR K B H0 H g σ ρ v x → rd ρ x = some d → f d k →
      (∀ H0' H' v x, Same H0 H0' → RS K B H0' g σ ρ n H' → RelR K B H0' H' g σ ρ v x → k x → Q v H') → r [v] H Q) : CSim K r (fun ds k => match ds with | [d] => f d k | _ => False) := by
  intro B H0 g σ ρ n H vs xs k Q rs h1 hf q
  cases h1 with
  | nil => exact False.elim hf
  | cons a b =>
    cases b with
    | nil =>
      obtain ⟨d, e, hk⟩ := rdK_of hf
      exact h B H0 g σ ρ n H _ _ d k Q rs a.r e hk q
    | cons c d =>
      obtain ⟨d1, e1, hk⟩ := rdK_of hf
      obtain ⟨d2, e2, hk⟩ := rdK_of hk
      exfalso
      have : ∀ (l : List X2) (P : List PyData → Prop), (∀ ds, ¬ P ds) → ¬ rdsK ρ l P := by
        intro l
        induction l with
        | nil => intro P hP h; exact hP _ h
        | cons y ys ih => intro P hP h; obtain ⟨d, _, h⟩ := rdK_of h; exact ih _ (fun ds => hP _) h
      exact this _ _ (fun ds z => z) hk
theorem csim2 {K : PySem.W.Frag} {r : List V → Hp → VK → Prop} {f : PyData → PyData → (X2 → Prop) → Prop}
    (h : ∀ (B : Base) (H0 : Hp) (g : Option Gs) (σ : St) (ρ : Env) (n : Nat) (H : Hp) (v v' : V) (x x' : X2) (d d' : PyData) (k : X2 → Prop) (Q : VK), RS K B H0 g σ ρ n H → RelR K B H0 H g σ ρ v x → rd ρ x = some d → RelR K B H0 H g σ ρ v' x' → rd ρ x' = some d' → f d d' k →
      (∀ H0' H' v x, Same H0 H0' → RS K B H0' g σ ρ n H' → RelR K B H0' H' g σ ρ v x → k x → Q v H') → r [v, v'] H Q) : CSim K r (fun ds k => match ds with | [d, d'] => f d d' k | _ => False) := by
  intro B H0 g σ ρ n H vs xs k Q rs h1 hf q
  have no : ∀ (l : List X2) (P : List PyData → Prop), (∀ ds, ¬ P ds) → ¬ rdsK ρ l P := by
    intro l
    induction l with
    | nil => intro P hP h; exact hP _ h
    | cons y ys ih => intro P hP h; obtain ⟨d, _, h⟩ := rdK_of h; exact ih _ (fun ds => hP _) h
  cases h1 with
  | nil => exact False.elim hf
  | cons a b =>
    obtain ⟨d, e, hk⟩ := rdK_of hf
    cases b with
    | nil => exact False.elim hk
    | cons a' b' =>
      obtain ⟨d', e', hk⟩ := rdK_of hk
      cases b' with
      | nil => exact h B H0 g σ ρ n H _ _ _ _ d d' k Q rs a.r e a'.r e' hk q
      | cons c c' =>
        obtain ⟨d2, e2, hk⟩ := rdK_of hk
        exact absurd hk (no _ _ (fun ds z => z))
theorem je_cb {id : String} {x : Str} {a : Expr} {as : List Expr} {p pos : Pos} {r : List V → Hp → VK → Prop} {f : List PyData → (X2 → Prop) → Prop} {wa : WA} (hc : ∀ i, CallR (Φ.X i) (.builtin id) r) (hr : CSim Φ.K r f) (hm : Φ.mg x = none) (hv : bootBuiltins x = some (.builtin id)) (ha : JA Φ W m (a :: as) wa) (hg : ∀ i, Gl (Φ.X i) x := by intro _; rfl)
    (hn : x ≠ "__name__" := by decide) (hdb : (x == ("__debug__" : Str)) = false := by decide) (he : ∀ i, starEach (a :: as) (Φ.X i).env = (false, eval a (Φ.X i).env) :: starEach as (Φ.X i).env := by intro _; rfl) (hpl : ∀ i, (backTo pos (starEach as (Φ.X i).env)).any (·.1) = false := by intro _; rfl) : JE Φ W m (.Call (.Name x p) (a :: as) [] pos) (wCB f wa) := by
  obtain ⟨ta, a1, a2⟩ := ha
  exact ⟨tCB r ta, fun i => pe_callB (hc i) (hg i) (by rw [Φ.hmg i]; exact hm) hv (a1 i) hn hdb (he i) (hpl i), sim_cb hr a2⟩
theorem je_ct {T : String} {x : Str} {a : Expr} {as : List Expr} {p pos : Pos} {r : List V → Hp → VK → Prop} {f : List PyData → (X2 → Prop) → Prop} {wa : WA} (hc : ∀ i, CallR (Φ.X i) (.type T) r) (hr : CSim Φ.K r f) (hm : Φ.mg x = none) (hv : bootBuiltins x = some (.type T)) (ha : JA Φ W m (a :: as) wa) (hg : ∀ i, Gl (Φ.X i) x := by intro _; rfl)
    (hn : x ≠ "__name__" := by decide) (hdb : (x == ("__debug__" : Str)) = false := by decide) (he : ∀ i, starEach (a :: as) (Φ.X i).env = (false, eval a (Φ.X i).env) :: starEach as (Φ.X i).env := by intro _; rfl) (hpl : ∀ i, (backTo pos (starEach as (Φ.X i).env)).any (·.1) = false := by intro _; rfl) : JE Φ W m (.Call (.Name x p) (a :: as) [] pos) (wCB f wa) := by
  obtain ⟨ta, a1, a2⟩ := ha
  exact ⟨tCB r ta, fun i => pe_callTy (hc i) (hg i) (by rw [Φ.hmg i]; exact hm) hv (a1 i) hn hdb (he i) (hpl i), sim_cb hr a2⟩
def lenD (d : PyData) (k : X2 → Prop) : Prop := match d with
  | .list ds => k (.d (.int ds.length))
  | .tuple ds => k (.d (.int ds.length))
  | .str z => z.length ≤ 16777216 ∧ k (.d (.int z.length))
  | _ => False
theorem csim_len {K : PySem.W.Frag} : CSim K (fun xs H Q => ∃ x n, xs = [x] ∧ LenV K x H n ∧ Q (.int n) H) (fun ds k => match ds with | [d] => lenD d k | _ => False) := csim1 fun B H0 g σ ρ n H v x d k Q r h e hf q => by
  unfold lenD at hf
  split at hf
  · obtain ⟨p, vs, rfl, s1, d1⟩ := r.list h e
    exact ⟨_, vs.length, rfl, .inl ⟨vs, SqL.of s1, rfl⟩, by rw [d1.length]; exact r.flat (fun _ => .int _) q hf⟩
  · obtain ⟨p, vs, rfl, s1, d1⟩ := r.tuple h e
    exact ⟨_, vs.length, rfl, .inr ⟨vs, s1, rfl⟩, by rw [d1.length]; exact r.flat (fun _ => .int _) q hf⟩
  · rw [r.str h e]
    exact ⟨_, _, rfl, ⟨by rw [sizeLine_eq]; exact hf.1, rfl⟩, r.flat (fun _ => .int _) q hf.2⟩
  · exact hf.elim
def cbLen : List PyData → (X2 → Prop) → Prop := fun ds k => match ds with | [d] => lenD d k | _ => False
theorem je_len {a : Expr} {p pos : Pos} {wa : WA} (hm : Φ.mg "len" = none) (ha : JA Φ W m [a] wa) (hg : ∀ i, Gl (Φ.X i) "len" := by intro _; rfl) (he : ∀ i, starEach [a] (Φ.X i).env = (false, eval a (Φ.X i).env) :: starEach [] (Φ.X i).env := by intro _; rfl) : JE Φ W m (.Call (.Name "len" p) [a] [] pos) (wCB cbLen wa) :=
  je_cb (fun i => by rw [← Φ.hK i]; exact call_len) csim_len hm PySem.boot_len ha hg (by decide) (by decide) he (fun _ => rfl)
def cbAbs : List PyData → (X2 → Prop) → Prop := fun ds k => match ds with | [d] => (match d with | .int i => k (.d (.int (if i < 0 then -i else i))) | _ => False) | _ => False
theorem je_abs {a : Expr} {p pos : Pos} {wa : WA} (hm : Φ.mg "abs" = none) (ha : JA Φ W m [a] wa) (hg : ∀ i, Gl (Φ.X i) "abs" := by intro _; rfl) (he : ∀ i, starEach [a] (Φ.X i).env = (false, eval a (Φ.X i).env) :: starEach [] (Φ.X i).env := by intro _; rfl) : JE Φ W m (.Call (.Name "abs" p) [a] [] pos) (wCB cbAbs wa) :=
  je_cb (fun i => call_abs) (csim1 (f := fun d k => match d with | .int i => k (.d (.int (if i < 0 then -i else i))) | _ => False) fun B H0 g σ ρ n H v x d k Q r h e hf q => by
    split at hf
    · rw [r.int h e]; exact ⟨_, rfl, r.flat (fun _ => .int _) q hf⟩
    · exact hf.elim) hm (by decide +kernel) ha hg (by decide) (by decide) he (fun _ => rfl)
def intD (d : PyData) (k : X2 → Prop) : Prop := match d with
  | .int i => k (.d (.int i))
  | .bool b => k (.d (.int (if b then 1 else 0)))
  | .str z => z.length ≤ 640 ∧ match PySem.intText? z with
    | some n => k (.d (.int n))
    | none => False
  | _ => False
def cbInt : List PyData → (X2 → Prop) → Prop := fun ds k => match ds with | [d] => intD d k | _ => False
theorem je_intc {a : Expr} {p pos : Pos} {wa : WA} (hm : Φ.mg "int" = none) (ha : JA Φ W m [a] wa) (hg : ∀ i, Gl (Φ.X i) "int" := by intro _; rfl) (he : ∀ i, starEach [a] (Φ.X i).env = (false, eval a (Φ.X i).env) :: starEach [] (Φ.X i).env := by intro _; rfl) : JE Φ W m (.Call (.Name "int" p) [a] [] pos) (wCB cbInt wa) :=
  je_ct (fun i => CallR.or call_int1 call_int_str) (csim1 (f := intD) fun B H0 g σ ρ n H v x d k Q r h e hf q => by
    unfold intD at hf
    split at hf
    · rw [r.int h e]; exact .inl (.inl ⟨_, rfl, r.flat (fun _ => .int _) q hf⟩)
    · rw [r.bool h e]; exact .inl (.inr ⟨_, rfl, r.flat (fun _ => .int _) q hf⟩)
    · rw [r.str h e]
      obtain ⟨hl, hf⟩ := hf
      split at hf
      · rename_i m hm
        exact .inr ⟨_, m, rfl, hm, hl, r.flat (fun _ => .int _) q hf⟩
      · exact hf.elim
    · exact hf.elim) hm (by decide +kernel) ha hg (by decide) (by decide) he (fun _ => rfl)
def strD (d : PyData) (k : X2 → Prop) : Prop := match d with
  | .int i => i.natAbs.log2 < 1920 ∧ k (.d (.str (toString i)))
  | _ => False
def cbStr : List PyData → (X2 → Prop) → Prop := fun ds k => match ds with | [d] => strD d k | _ => False
theorem je_strc {a : Expr} {p pos : Pos} {wa : WA} (hm : Φ.mg "str" = none) (ha : JA Φ W m [a] wa) (hg : ∀ i, Gl (Φ.X i) "str" := by intro _; rfl) (he : ∀ i, starEach [a] (Φ.X i).env = (false, eval a (Φ.X i).env) :: starEach [] (Φ.X i).env := by intro _; rfl) : JE Φ W m (.Call (.Name "str" p) [a] [] pos) (wCB cbStr wa) :=
  je_ct (fun i => call_str_int) (csim1 (f := strD) fun B H0 g σ ρ n H v x d k Q r h e hf q => by
    unfold strD at hf
    split at hf
    · rw [r.int h e]; exact ⟨_, rfl, hf.1, r.flat (fun _ => .str _) q hf.2⟩
    · exact hf.elim) hm (by decide +kernel) ha hg (by decide) (by decide) he (fun _ => rfl)
def rListA (K : PySem.W.Frag) : List V → Hp → VK → Prop := fun xs H Q => ∃ p ys, xs = [.ref p] ∧ (SqL K H p ys ∨ SqT K H p ys) ∧ ∀ l, H l = none → Q (.ref l) (upd H l (.lst ys))
theorem call_listA {X : Cx} : CallR X (.type "list") (rListA X.K) := call_list_of
def allStrs : List PyData → Option (List Str)
  | [] => some []
  | .str i :: r => (allStrs r).map (i :: ·)
  | _ => none
theorem allStrs_eq : ∀ {ds : List PyData} {ns : List Str}, allStrs ds = some ns → ds = ns.map PyData.str
  | [], ns, h => by cases h; rfl
  | .str i :: r, ns, h => by
    unfold allStrs at h
    cases e : allStrs r with
    | none => rw [e] at h; cases h
    | some ms => rw [e] at h; cases h; rw [allStrs_eq e]; rfl
  | .none :: _, _, h | .bool _ :: _, _, h | .int _ :: _, _, h | .list _ :: _, _, h | .tuple _ :: _, _, h | .dict _ :: _, _, h => by cases h
theorem allStrs_map (ns : List Str) : allStrs (ns.map PyData.str) = some ns := by
  induction ns with
  | nil => rfl
  | cons a r ih => rw [List.map_cons, allStrs, ih]; rfl
theorem rdsK_of : ∀ {xs : List X2} {ρ : Env} {P : List PyData → Prop}, rdsK ρ xs P → ∃ ds, Paired (fun x d => rd ρ x = some d) xs ds ∧ P ds
  | [], _, _, h => ⟨[], .nil, h⟩
  | _ :: xs, _, _, h => by
    obtain ⟨d, e, h⟩ := rdK_of h
    obtain ⟨ds, q, h⟩ := rdsK_of h
    exact ⟨d :: ds, .cons e q, h⟩
def tyD : PyData → String
  | .none => "NoneType"
  | .bool _ => "bool"
  | .int _ => "int"
  | .str _ => "str"
  | .list _ => "list"
  | .tuple _ => "tuple"
  | .dict _ => "dict"
theorem tyX_of {K : PySem.W.Frag} {H : Hp} {v : V} {d : PyData} (h : Dq K H v d) : TyX K H v (.type (tyD d)) := by
  cases h with
  | non => exact .base .non
  | bl b => exact .base (.bl b)
  | int i => exact .base (.int i)
  | str x => exact .base (.str x)
  | lst h _ => exact .base (.lst h)
  | tup h _ =>
    rcases h with (h | ⟨o, h⟩) | ⟨o, its, n, h, c, _⟩
    · exact .base (.tup h)
    · exact .fTuple h
    · exact .kTuple h c
  | dic h _ _ _ _ => exact .base (.dK h)
def isT (T : String) (d : PyData) : Bool := tyD d == T || (T == "int" && tyD d == "bool")
def wIsi (T : String) (wa : W2) : W2 := fun e ρ k => wa e ρ fun x ρ1 => rdK ρ1 (calm1 x) fun d => k (.d (.bool (isT T d))) ρ1
theorem je_isi {a : Expr} {T : Str} {T' : String} {p p2 pos : Pos} {wa : W2} (hm : Φ.mg "isinstance" = none) (hmT : Φ.mg T = none) (hT : bootBuiltins T = some (.type T')) (hk : ∀ d : PyData, kitB (tyD d) T' = some (isT T' d)) (ha : JE Φ W m a wa) (hg : ∀ i, Gl (Φ.X i) "isinstance" := by intro _; rfl) (hgT : ∀ i, Gl (Φ.X i) T := by intro _; rfl)
    (hs : ∀ i, starEach [a, .Name T p2] (Φ.X i).env = (false, eval a (Φ.X i).env) :: starEach [.Name T p2] (Φ.X i).env := by intro _; rfl) (hn : T ≠ "__name__" := by decide) (hd : (T == ("__debug__" : Str)) = false := by decide) :
    JE Φ W m (.Call (.Name "isinstance" p) [a, .Name T p2] [] pos) (wIsi T' wa) := by
  obtain ⟨ta, a1, a2⟩ := ha
  have hT2 : ∀ i, PE (Φ.X i) (.Name T p2) (tC (.ty T')) := fun i => pe_bltn (hgT i) (by rw [Φ.hmg i]; exact hmT) hT rfl hn hd
  refine ⟨tCB (rIsi Φ.K) (tCons ta (tCons (tC (.ty T')) tNil)), fun i => pe_callB (by rw [← Φ.hK i]; exact call_isi) (hg i) (by rw [Φ.hmg i]; exact hm) (by decide +kernel) (pa_cons (a1 i) (pa_cons (hT2 i) pa_nil rfl) (hs i)) (by decide) (by decide) (hs i) rfl, ?_⟩
  intro B H0 g σ ρ n H e k Q rs l hw q xq
  refine a2 B H0 g σ ρ n H e _ _ rs l hw (fun H1 ρ1 Ha v1 x1 s1 r1 h1 q1 => ?_) xq
  obtain ⟨H2, s2, r2, h2⟩ := r1.calm h1
  obtain ⟨d, ed, q2⟩ := rdK_of q1
  have dd := (r2.read h2.r ed).1
  exact ⟨v1, .ty T', .type (tyD d), .type T', isT T' d, rfl, .ty T', tyX_of dd, kit_ty (hk d), q H2 ρ1 Ha _ (.d (.bool _)) (s1.trans s2) r2 (.bl _) q2⟩
theorem kit_tuple (d : PyData) : kitB (tyD d) "tuple" = some (isT "tuple" d) := by cases d <;> simp only [tyD, isT] <;> decide +kernel
theorem kit_int (d : PyData) : kitB (tyD d) "int" = some (isT "int" d) := by cases d <;> simp only [tyD, isT] <;> decide +kernel
theorem kit_bool (d : PyData) : kitB (tyD d) "bool" = some (isT "bool" d) := by cases d <;> simp only [tyD, isT] <;> decide +kernel
theorem kit_str (d : PyData) : kitB (tyD d) "str" = some (isT "str" d) := by cases d <;> simp only [tyD, isT] <;> decide +kernel
end
end B2

namespace B2
open PySem L2
section
variable {K : PySem.W.Frag} {B : Base} {H0 H0' H H' : Hp} {g : Option Gs} {σ σ' : St} {ρ ρ' : Env} {n m : Nat} {v : V} {x : X2}
theorem upE_same {i : Nat} {x : Option X2} : upE ρ i x i = x := by unfold upE; rw [if_pos rfl]
theorem upE_ne {i j : Nat} {x : Option X2} (h : j ≠ i) : upE ρ i x j = ρ j := by unfold upE; rw [if_neg h]
theorem RS.mutF (r : RS K B H0 g σ ρ n H) {i : Nat} {x y : X2} (h : ρ i = some x) {p : Addr} (hv : σ[i]? = some (some (.ref p))) (same : ∀ b, ¬ Foot x p b → H' b = H b) (hy : RelS K B H0 H' g (.ref p) y) (hf : ∀ a, Foot y p a → Foot x p a) :
    RS K B H0 g σ (upE ρ i (some y)) n H' := by
  obtain ⟨v, z1, z2⟩ := r.sl i _ h
  rw [hv] at z1; cases z1
  have ft : ∀ a, Foot x p a → Priv B H0 g a := fun a fa => (z2.foot rfl fa).1
  refine ⟨r.hb, r.new, fun b u e => ?_, fun b u e z => ?_, fun g' e => (r.drw g' e).keep fun b u hb z => ?_, r.drf, r.gg, fun j w q' => ?_, fun j k p' q' a x' y' e1 e2 e3 e4 e5 e6 => ?_⟩
  · rw [same b fun fb => by rw [(ft b fb).h0] at e; cases e]; exact r.ext b u e
  · rw [same b fun fb => by rw [(ft b fb).he] at e; cases e]; exact r.keep b u e z
  · rw [same b fun fb => (ft b fb).ng (by rw [e]; exact hb)]; exact z
  · by_cases hj : j = i
    · subst hj
      rw [upE_same] at q'; cases q'
      exact ⟨_, hv, hy⟩
    · rw [upE_ne hj] at q'
      obtain ⟨v, k1, k2⟩ := r.sl j w q'
      refine ⟨v, k1, k2.keep (Same.refl _) fun q2 a e fa => ⟨fun u z => ?_, id⟩⟩
      rw [same a fun fb => hj (r.dist j i q2 p a w x q' h (by rw [k1, e]) hv fa fb)]; exact z
  · by_cases hj : j = i
    · by_cases hk : k = i
      · rw [hj, hk]
      · rw [upE_ne hk] at e2
        subst hj
        rw [upE_same] at e1; cases e1
        rw [hv] at e3; cases e3
        exact r.dist j k p q' a x y' h e2 hv e4 (hf a e5) e6
    · rw [upE_ne hj] at e1
      by_cases hk : k = i
      · subst hk
        rw [upE_same] at e2; cases e2
        rw [hv] at e4; cases e4
        exact r.dist j k p' p a x' x e1 h e3 hv e5 (hf a e6)
      · rw [upE_ne hk] at e2
        exact r.dist j k p' q' a x' y' e1 e2 e3 e4 e5 e6
theorem RS.mut (r : RS K B H0 g σ ρ n H) {i : Nat} {ds es : List PyData} (h : ρ i = some (.own ds)) {p : Addr} (hv : σ[i]? = some (some (.ref p))) {vs : List V} (q : DqA K H0 vs es) :
    RS K B H0 g σ (upE ρ i (some (.own es))) n (upd H p (.lst vs)) := by
  obtain ⟨v, z1, p', z2, ws, h1, h2, h3, h4, h5⟩ := r.sl i _ h
  rw [hv] at z1; cases z1; cases z2
  exact r.mutF h hv (fun b fb => upd_ne fb) ⟨p, rfl, vs, upd_same, q, h3, h4, h5⟩ fun a fa => fa
theorem RS.ownP (r : RS K B H0 g σ ρ n H) {i : Nat} {ds : List PyData} (h : ρ i = some (.own ds)) : ∃ p vs, σ[i]? = some (some (.ref p)) ∧ H p = some (.lst vs) ∧ DqA K H0 vs ds := by
  obtain ⟨v, z1, p', rfl, ws, h1, h2, _⟩ := r.sl i _ h
  exact ⟨p', ws, z1, h1, h2⟩
theorem RS.set (r : RS K B H0 g σ ρ n H) {j : Nat} (hj : j < σ.length) (h : RelR K B H0 H g σ ρ v x) (hx : ∀ i, x ≠ .slot i) : RS K B H0 g (σ.set j (some v)) (upE ρ j (some x)) n H := by
  refine ⟨r.hb, r.new, r.ext, r.keep, r.drw, r.drf, r.gg, fun i y q => ?_, fun i k p p2 a y z e1 e2 e3 e4 e5 e6 => ?_⟩
  · by_cases hi : i = j
    · subst hi
      rw [upE_same] at q; cases q
      refine ⟨v, by rw [List.getElem?_set_self hj], ?_⟩
      cases x with
      | own ds => obtain ⟨p, k1, k2, _⟩ := h; exact ⟨p, k1, k2⟩
      | d _ => exact h
      | slot i => exact absurd rfl (hx i)
      | drw => exact h
      | scr _ => exact h
      | ob o => cases o with
        | ret a ds d =>
          obtain ⟨q, hq, hd, _⟩ := h
          subst hq
          exact ⟨q, rfl, hd⟩
        | tt ds =>
          obtain ⟨q, hq, hd⟩ := h
          exact ⟨q, hq, hd⟩
        | dic _ => exact h.elim
        | rows _ _ => exact h.elim
        | «at» _ _ => exact h.elim
    · rw [upE_ne hi] at q
      obtain ⟨v', k1, k2⟩ := r.sl i y q
      exact ⟨v', by rw [List.getElem?_set_ne (Ne.symm hi)]; exact k1, k2⟩
  · have no : ∀ i q a y, ρ i = some y → σ[i]? = some (some (.ref q)) → Foot y q a → ∀ p, v = .ref p → Foot x p a → False := by
      intro i q a y f1 f2 f3 p f4 f5
      cases x with
      | own ds =>
        obtain ⟨p', k1, _, k3⟩ := h
        rw [k1] at f4; cases f4
        have f5 : a = p := f5
        exact k3 i y q f1 f2 (by rw [← f5]; exact f3)
      | ob o => cases o with
        | ret a ds d => exact f5.elim
        | tt _ => exact f5.elim
        | dic _ => exact h.elim
        | rows _ _ => exact h.elim
        | «at» _ _ => exact h.elim
      | d _ => exact f5.elim
      | slot _ => exact f5.elim
      | drw => exact f5.elim
      | scr _ => exact f5.elim
    by_cases hi : i = j
    · by_cases hk : k = j
      · rw [hi, hk]
      · subst hi
        rw [upE_same] at e1; cases e1
        rw [upE_ne hk] at e2
        rw [List.getElem?_set_ne (Ne.symm hk)] at e4
        rw [List.getElem?_set_self hj] at e3
        exact (no k p2 a z e2 e4 e6 p (Option.some.inj (Option.some.inj e3)) e5).elim
    · rw [upE_ne hi] at e1
      rw [List.getElem?_set_ne (Ne.symm hi)] at e3
      by_cases hk : k = j
      · subst hk
        rw [upE_same] at e2; cases e2
        rw [List.getElem?_set_self hj] at e4
        exact (no i p a y e1 e3 e5 p2 (Option.some.inj (Option.some.inj e4)) e6).elim
      · rw [upE_ne hk] at e2
        rw [List.getElem?_set_ne (Ne.symm hk)] at e4
        exact r.dist i k p p2 a y z e1 e2 e3 e4 e5 e6
theorem RS.weak (r : RS K B H0 g σ ρ n H) (h : ∀ i y, ρ' i = some y → ρ i = some y ∧ σ'[i]? = σ[i]?) : RS K B H0 g σ' ρ' n H := by
  refine ⟨r.hb, r.new, r.ext, r.keep, r.drw, r.drf, r.gg, fun i y q => ?_, fun i k p p2 a2 y z e1 e2 e3 e4 e5 e6 => ?_⟩
  · obtain ⟨a, b⟩ := h i y q
    obtain ⟨v, k1, k2⟩ := r.sl i y a
    exact ⟨v, by rw [b]; exact k1, k2⟩
  · obtain ⟨a, b⟩ := h i _ e1
    obtain ⟨a', b'⟩ := h k _ e2
    rw [b] at e3
    rw [b'] at e4
    exact r.dist i k p p2 a2 y z a a' e3 e4 e5 e6
end
section
variable {ι : Type} {Φ : Fam ι} {W : WX} {m m1 m2 m3 : Nat}
def wAppend (i : Nat) (wa : W2) : W2 := fun e ρ k => wa e ρ fun x ρ1 => frzK ρ1 [calm1 x] fun ds ρ2 => match ds, ρ2 i with
  | [d], some (.own es) => es.length < 16777216 ∧ k (.d .none) (upE ρ2 i (some (.own (es ++ [d]))))
  | _, _ => False
def wReverse (i : Nat) : W2 := fun _ ρ k => match ρ i with
  | some (.own ds) => k (.d .none) (upE ρ i (some (.own ds.reverse)))
  | _ => False
def wAppendS (i : Nat) (wa : W2) : W2 := fun e ρ k => match ρ i with
  | some (.own _) => wAppend i wa e ρ k
  | _ => False
theorem je_append (i : Nat) {x : Str} {a : Expr} {p apos pos : Pos} {wa : W2} (ha : JE Φ W m a wa) (hN : Φ.N[i]? = some x := by rfl) (hv : Vis Φ.sc x := by first | exact Or.inl rfl | exact Or.inr (Or.inl rfl) | exact Or.inr (Or.inr rfl)) (hd : (x == ("__debug__" : Str)) = false := by decide) (hcd : (x == ("__classdict__" : Str)) = false := by decide)
    (hb : ∀ j, attributeBase (.Name x p) "append" (Φ.X j).env (eval (.Name x p) (Φ.X j).env) = eval (.Name x p) (Φ.X j).env := by intro _; rfl) (hs : ∀ j, starEach [a] (Φ.X j).env = (false, eval a (Φ.X j).env) :: starEach [] (Φ.X j).env := by intro _; rfl) (hfew : ∀ j, ((backTo pos (starEach (a :: []) (Φ.X j).env)).all (fun x => !x.1) && (backToKw pos (keywordEach [] (Φ.X j).env)).all (fun x => x.1.isSome) && decide ((a :: []).length + ([] : List Keyword).length + (if ([] : List Keyword).isEmpty then 0 else 1) < 30)) = true := by intro _; rfl) (hl : (apos.endLine == pos.line) = true := by rfl) :
    JE Φ W m (.Call (.Attribute (.Name x p) "append" apos) [a] [] pos) (wAppendS i wa) := by
  obtain ⟨ta, a1, a2⟩ := ha
  refine ⟨tBM Φ.K "list" rAppend (tVar i) (tCons ta tNil), fun j => ?_, ?_⟩
  · have h1 := pe_bm (X := Φ.X j) (apos := apos) (cpos := pos) PySem.F.plainAttrs_list PySem.F.slot_list_append PySem.F.type_list_append mt_append (pe_var (X := Φ.X j) (pos := p) (by rw [Φ.hN j]; exact hN) (by rw [Φ.hsc j]; exact hv) hd hcd) (pa_cons (a1 j) pa_nil (hs j)) (hb j) (hfew j) hl (hs j) rfl
    rw [Φ.hK j] at h1
    exact h1
  · intro B H0 g σ ρ n H e k Q rs l hw q xq
    unfold wAppendS at hw
    split at hw
    · rename_i ds0 h0
      obtain ⟨p0, vs0, z1, z2, z3⟩ := rs.ownP h0
      refine ⟨_, z1, .inl ⟨rfl, _, SqL.of z2⟩, ?_⟩
      refine a2 B H0 g σ ρ n H e _ _ rs l hw (fun H1 ρ1 Ha v1 x1 s1 r1 h1 q1 => ?_) xq
      obtain ⟨H2, s2, r2, h2⟩ := r1.calm h1
      obtain ⟨H3, ρ3, ds, s3, r3, d3, hk⟩ := r2.frz (vs := [v1]) (xs := [calm1 x1]) (.cons h2 .nil) q1
      split at hk
      · rename_i d es he
        cases d3 with
        | cons d3 d4 =>
          obtain ⟨p1, vs1, y1, y2, y3⟩ := r3.ownP he
          rw [z1] at y1; cases y1
          refine ⟨p0, vs1, v1, rfl, rfl, y2, by rw [y3.length]; exact Nat.lt_of_lt_of_le hk.1 (by rw [sizeLine_eq]; exact Nat.le_refl _), ?_⟩
          exact q H3 _ _ _ (.d .none) ((s1.trans s2).trans s3) (r3.mut he z1 (y3.append (.cons d3 .nil))) .non hk.2
      · exact hk.elim
    · exact hw.elim
theorem je_reverse (i : Nat) {x : Str} {p apos pos : Pos} (hN : Φ.N[i]? = some x := by rfl) (hv : Vis Φ.sc x := by first | exact Or.inl rfl | exact Or.inr (Or.inl rfl) | exact Or.inr (Or.inr rfl)) (hd : (x == ("__debug__" : Str)) = false := by decide) (hcd : (x == ("__classdict__" : Str)) = false := by decide)
    (hb : ∀ j, attributeBase (.Name x p) "reverse" (Φ.X j).env (eval (.Name x p) (Φ.X j).env) = eval (.Name x p) (Φ.X j).env := by intro _; rfl) (hl : (apos.endLine == pos.line) = true := by rfl) :
    JE Φ W 0 (.Call (.Attribute (.Name x p) "reverse" apos) [] [] pos) (wReverse i) := by
  refine ⟨tBM0 Φ.K "list" rReverse (tVar i), fun j => ?_, ?_⟩
  · have h1 := pe_bm0 (X := Φ.X j) (apos := apos) (cpos := pos) PySem.F.plainAttrs_list PySem.F.slot_list_reverse PySem.F.type_list_reverse mt_reverse (pe_var (X := Φ.X j) (pos := p) (by rw [Φ.hN j]; exact hN) (by rw [Φ.hsc j]; exact hv) hd hcd) (hb j) hl
    rw [Φ.hK j] at h1
    exact h1
  · intro B H0 g σ ρ n H e k Q rs l hw q xq
    unfold wReverse at hw
    split at hw
    · rename_i ds h0
      obtain ⟨p0, vs0, z1, z2, z3⟩ := rs.ownP h0
      exact ⟨_, z1, .inl ⟨rfl, _, SqL.of z2⟩, p0, vs0, rfl, rfl, z2, q H0 _ _ _ (.d .none) (Same.refl _) (rs.mut h0 z1 z3.reverse) .non hw⟩
    · exact hw.elim
def MSim (K : PySem.W.Frag) (r : V → List V → Hp → VK → Prop) (f : Str → PyData → (X2 → Prop) → Prop) : Prop := ∀ (B : Base) (H0 : Hp) (g : Option Gs) (σ : St) (ρ : Env) (n : Nat) (H : Hp) (s : Str) (v : V) (x : X2) (d : PyData) (k : X2 → Prop) (Q : VK),
  RS K B H0 g σ ρ n H → RelR K B H0 H g σ ρ v x → rd ρ x = some d → f s d k → (∀ H0' H' v x, Same H0 H0' → RS K B H0' g σ ρ n H' → RelR K B H0' H' g σ ρ v x → k x → Q v H') → r (.str s) [v] H Q
def wM1 (f : Str → PyData → (X2 → Prop) → Prop) (wo wa : W2) : W2 := fun e ρ k => wo e ρ fun x ρ1 => match x with
  | .d (.str s) => wa e ρ1 fun y ρ2 => rdK ρ2 (calm1 y) fun d => f s d fun z => k z ρ2
  | _ => False
theorem je_m1 {id : String} {name : Str} {o a : Expr} {apos pos : Pos} {r : V → List V → Hp → VK → Prop} {f : Str → PyData → (X2 → Prop) → Prop} {wo wa : W2} (slot : Slot "str" name id) (ty : typeOf (.builtin id) = pure (.type "method_descriptor")) (rule : ∀ i, MtR (Φ.X i) id r) (hr : MSim Φ.K r f) (ho : JE Φ W m1 o wo) (ha : JE Φ W m2 a wa)
    (hs : ∀ i, starEach [a] (Φ.X i).env = [(false, eval a (Φ.X i).env)] := by intro _; rfl) (hbase : ∀ i, attributeBase o name (Φ.X i).env (eval o (Φ.X i).env) = eval o (Φ.X i).env := by intro _; rfl) (hline : (apos.endLine == pos.line) = true := by rfl) :
    JE Φ W (m1 + m2) (.Call (.Attribute o name apos) [a] [] pos) (wM1 f wo wa) := by
  obtain ⟨to, o1, o2⟩ := ho
  obtain ⟨ta, a1, a2⟩ := ha
  refine ⟨tM1 r to ta, fun i => pe_m1 slot ty (rule i) (o1 i) (a1 i) (hs i) (hbase i) hline, ?_⟩
  intro B H0 g σ ρ n H e k Q rs l hw q xq
  refine o2 B H0 g σ ρ n H e _ _ rs (by omega) hw (fun H1 ρ1 Ha v1 x1 s1 r1 h1 q1 => ?_) (fun H0' ρ' H' nm cls d s r' => xq H0' ρ' H' nm cls d s (r'.count (by omega)))
  split at q1
  · rename_i s
    cases (show Dq Φ.K H1 v1 (.str s) from h1)
    refine ⟨⟨s, rfl⟩, ?_⟩
    refine a2 B H1 g σ ρ1 _ Ha e _ _ r1 (by omega) q1 (fun H2 ρ2 Hb v2 x2 s2 r2 h2 q2 => ?_) (fun H0' ρ' H' nm cls d s r' => xq H0' ρ' H' nm cls d (s1.trans s) (r'.count (by omega)))
    obtain ⟨H3, s3, r3, h3⟩ := r2.calm h2
    obtain ⟨d, ed, q3⟩ := rdK_of q2
    exact hr B H3 g σ ρ2 _ Hb s v2 (calm1 x2) d (fun z => k z ρ2) Q r3 h3.r ed q3 fun H4 Hc v x s4 r4 h4 k4 => q H4 ρ2 Hc v x (((s1.trans s2).trans s3).trans s4) (r4.count (by omega)) h4 k4
  · exact q1.elim
def joinD (s : Str) (d : PyData) (k : X2 → Prop) : Prop := match d with
  | .list ds => match allStrs ds with
    | some ys => (ys.map (·.length)).sum + ys.length * s.length ≤ 16777216 ∧ k (.d (.str (Txt.join s ys)))
    | none => False
  | .tuple ds => match allStrs ds with
    | some ys => (ys.map (·.length)).sum + ys.length * s.length ≤ 16777216 ∧ k (.d (.str (Txt.join s ys)))
    | none => False
  | _ => False
def rJoinA (K : PySem.W.Frag) : V → List V → Hp → VK → Prop := fun x xs H Q => ∃ a p, ∃ ys : List Str, x = .str a ∧ xs = [.ref p] ∧ (SqL K H p (ys.map V.str) ∨ SqT K H p (ys.map V.str)) ∧
    (ys.map (·.length)).sum + ys.length * a.length ≤ 16777216 ∧ Q (.str (Txt.join a ys)) H
theorem mt_joinA {X : Cx} : MtR X "str.join" (rJoinA X.K) := mt_join
theorem msim_join {K : PySem.W.Frag} : MSim K (rJoinA K) joinD := by
  intro B H0 g σ ρ n H s v x d k Q r h e hf q
  unfold joinD at hf
  split at hf
  · split at hf
    · rename_i ds ys hy
      obtain ⟨p, vs, rfl, s1, d1⟩ := r.list h e
      rw [allStrs_eq hy] at d1
      rw [d1.strs] at s1
      exact ⟨s, p, ys, rfl, rfl, .inl (SqL.of s1), hf.1, r.flat (fun _ => .str _) q hf.2⟩
    · exact hf.elim
  · split at hf
    · rename_i ds ys hy
      obtain ⟨p, vs, rfl, s1, d1⟩ := r.tuple h e
      rw [allStrs_eq hy] at d1
      rw [d1.strs] at s1
      exact ⟨s, p, ys, rfl, rfl, .inr s1, hf.1, r.flat (fun _ => .str _) q hf.2⟩
    · exact hf.elim
  · exact hf.elim
theorem je_join {o a : Expr} {apos pos : Pos} {wo wa : W2} (ho : JE Φ W m1 o wo) (ha : JE Φ W m2 a wa)
    (hs : ∀ i, starEach [a] (Φ.X i).env = [(false, eval a (Φ.X i).env)] := by intro _; rfl) (hbase : ∀ i, attributeBase o "join" (Φ.X i).env (eval o (Φ.X i).env) = eval o (Φ.X i).env := by intro _; rfl) (hline : (apos.endLine == pos.line) = true := by rfl) :
    JE Φ W (m1 + m2) (.Call (.Attribute o "join" apos) [a] [] pos) (wM1 joinD wo wa) :=
  je_m1 PySem.F.slot_str_join PySem.F.type_str_join (fun i => by rw [← Φ.hK i]; exact mt_joinA) msim_join ho ha hs hbase hline
end
end B2

namespace B2
open PySem L2
abbrev Spec2 := List X2 → (X2 → Prop) → (Str → Prop) → Prop
def RelA (K : PySem.W.Frag) (Hb : Hp) (g : Option Gs) (v : V) : X2 → Prop
  | .d d => Dq K Hb v d
  | .own _ => False
  | .slot _ => False
  | .drw => ∃ g', g = some g' ∧ v = .ref g'.a
  | .scr a => v = .ref a
  | .ob _ => False
def RelAs (K : PySem.W.Frag) (Hb : Hp) (g : Option Gs) : List V → List X2 → Prop := Paired (RelA K Hb g)
def RetR (K : PySem.W.Frag) (Hr H H' : Hp) (g : Option Gs) (v : V) : X2 → Prop
  | .d d => Dq K Hr v d
  | .own ds => ∃ p vs, v = .ref p ∧ H' p = some (.lst vs) ∧ DqA K Hr vs ds ∧ Hr p = none ∧ H p = none ∧ ¬ InG g p
  | .ob (.tt ds) => ∃ q, v = .ref q ∧ TtAt K Hr q ds
  | _ => False
structure Left (Hb Hr H H' : Hp) (g : Option Gs) (n : Nat) : Prop where
  b : Same Hb Hr
  new : ∀ p o, Hr p = some o → Hb p = some o ∨ H p = none
  r : Same Hr H'
  keep : ∀ p o, H p = some o → ¬ InG g p → H' p = some o
  drw : ∀ g', g = some g' → DrawOk H' g' n
  drf : ∀ p, InG g p → Hr p = none
def liftS (K : PySem.W.Frag) (mg : MG) (m : Nat) (len : Nat) (s : Spec2) : Sp := fun vs H Q E => vs.length = len ∧ ∃ (Hb : Hp) (g : Option Gs) (n : Nat) (xs : List X2) (k : X2 → Prop) (e : Str → Prop),
  n + m ≤ LIM ∧ Same Hb H ∧ (∀ p, InG g p → Hb p = none) ∧ (∀ g', g = some g' → DrawOk H g' n) ∧ RelAs K Hb g vs xs ∧ s xs k e ∧
  (∀ Hr H' v x, Left Hb Hr H H' g (n + m) → RetR K Hr H H' g v x → k x → Q v H') ∧
  (∀ Hr H' nm cls d, Left Hb Hr H H' g (n + m) → e nm → Exn mg nm cls d → E cls d H')
def argK : Env → List X2 → (List X2 → Env → Prop) → Prop
  | ρ, [], k => k [] ρ
  | ρ, .d d :: xs, k => argK ρ xs fun ds ρ' => k (.d d :: ds) ρ'
  | ρ, .drw :: xs, k => argK ρ xs fun ds ρ' => k (.drw :: ds) ρ'
  | ρ, .scr ns :: xs, k => argK ρ xs fun ds ρ' => k (.scr ns :: ds) ρ'
  | ρ, .slot i :: xs, k => match ρ i with
    | some (.own ds) => argK (upE ρ i (some (.d (.list ds)))) xs fun es ρ' => k (.d (.list ds) :: es) ρ'
    | some (.d d) => argK ρ xs fun es ρ' => k (.d d :: es) ρ'
    | _ => False
  | _, .own _ :: _, _ => False
  | _, .ob _ :: _, _ => False
theorem RelA.mono {K : PySem.W.Frag} {H0 H0' : Hp} {g : Option Gs} {v : V} {x : X2} (e : Same H0 H0') (h : RelA K H0 g v x) : RelA K H0' g v x := by
  cases x with
  | d _ => exact Dq.mono e h
  | own _ => exact h
  | slot _ => exact h
  | drw => exact h
  | scr _ => exact h
  | ob _ => exact h
theorem RS.arg {K : PySem.W.Frag} {B : Base} {g : Option Gs} {σ : St} {n : Nat} {H : Hp} : ∀ {vs : List V} {xs : List X2} {H0 : Hp} {ρ : Env} {k : List X2 → Env → Prop}, RS K B H0 g σ ρ n H → RelNs K H0 g σ vs xs → argK ρ xs k →
    ∃ H0' ρ' ys, Same H0 H0' ∧ RS K B H0' g σ ρ' n H ∧ RelAs K H0' g vs ys ∧ k ys ρ'
  | _, [], H0, ρ, k, r, .nil, h => ⟨H0, ρ, [], Same.refl _, r, .nil, h⟩
  | _, .d d :: xs, H0, ρ, k, r, .cons h1 h2, h => by
    obtain ⟨H1, ρ1, ds, s1, r1, q1, k1⟩ := RS.arg (k := fun ds ρ' => k (.d d :: ds) ρ') r h2 h
    exact ⟨H1, ρ1, .d d :: ds, s1, r1, .cons (Dq.mono s1 h1) q1, k1⟩
  | _, .drw :: xs, H0, ρ, k, r, .cons h1 h2, h => by
    obtain ⟨H1, ρ1, ds, s1, r1, q1, k1⟩ := RS.arg (k := fun ds ρ' => k (.drw :: ds) ρ') r h2 h
    exact ⟨H1, ρ1, .drw :: ds, s1, r1, .cons h1 q1, k1⟩
  | _, .scr ns :: xs, H0, ρ, k, r, .cons h1 h2, h => by
    obtain ⟨H1, ρ1, ds, s1, r1, q1, k1⟩ := RS.arg (k := fun ds ρ' => k (.scr ns :: ds) ρ') r h2 h
    exact ⟨H1, ρ1, .scr ns :: ds, s1, r1, .cons h1 q1, k1⟩
  | _, .slot i :: xs, H0, ρ, k, r, .cons h1 h2, h => by
    have hi : σ[i]? = some (some _) := h1
    unfold argK at h
    cases q : ρ i with
    | none => rw [q] at h; exact h.elim
    | some y =>
      rw [q] at h
      cases y with
      | own ds =>
        obtain ⟨v, z1, z2⟩ := r.sl i _ q
        rw [hi] at z1; cases z1
        obtain ⟨p, rfl, hp⟩ := z2
        obtain ⟨H1, s1, r1⟩ := r.freezeS q
        obtain ⟨v', z3, z4⟩ := r1.sl i (.d (.list ds)) upE_same
        rw [hi] at z3; cases z3
        obtain ⟨H2, ρ2, es, s2, r2, q2, k2⟩ := RS.arg (k := fun es ρ' => k (.d (.list ds) :: es) ρ') r1 (RelNs.mono s1 h2) h
        exact ⟨H2, ρ2, .d (.list ds) :: es, s1.trans s2, r2, .cons (Dq.mono s2 z4) q2, k2⟩
      | d d =>
        obtain ⟨v, z1, z2⟩ := r.sl i _ q
        rw [hi] at z1; cases z1
        obtain ⟨H2, ρ2, es, s2, r2, q2, k2⟩ := RS.arg (k := fun es ρ' => k (.d d :: es) ρ') r h2 h
        exact ⟨H2, ρ2, .d d :: es, s2, r2, .cons (Dq.mono s2 z2) q2, k2⟩
      | slot _ => exact h.elim
      | drw => exact h.elim
      | scr _ => exact h.elim
      | ob _ => exact h.elim
  | _, .own _ :: _, _, _, _, _, .cons h1 _, _ => h1.elim
  | _, .ob _ :: _, _, _, _, _, .cons h1 _, _ => h1.elim
theorem RS.left {K : PySem.W.Frag} {B : Base} {H0 Hr H H' : Hp} {g : Option Gs} {σ : St} {ρ : Env} {n n' : Nat} (r : RS K B H0 g σ ρ n H) (l : Left H0 Hr H H' g n') : RS K B Hr g σ ρ n' H' := by
  refine ⟨fun p o e => l.b p o (r.hb p o e), fun p o e => ?_, l.r, fun p o e z => l.keep p o (r.keep p o e z) fun q => ?_, l.drw, l.drf, r.gg, fun i x q => ?_, r.dist⟩
  · rcases l.new p o e with k | k
    · exact r.new p o k
    · exact .inr (r.fresh k).1
  · rcases r.gg with k | ⟨k, k2⟩
    · exact z (by rw [k]; exact q)
    · have := k2 p q
      rw [e] at this; cases this
  · obtain ⟨v, h1, h2⟩ := r.sl i x q
    refine ⟨v, h1, h2.keep l.b fun q' a e f => ?_⟩
    obtain ⟨w, hn⟩ := h2.foot e f
    refine ⟨fun u z => l.keep a u z w.ng, fun _ => ⟨?_, w.he, w.ng⟩⟩
    cases z : Hr a with
    | none => rfl
    | some o =>
      rcases l.new a o z with k | k
      · rw [w.h0] at k; cases k
      · exact absurd k hn
theorem RetR.r {K : PySem.W.Frag} {B : Base} {H0 Hr H H' : Hp} {g : Option Gs} {σ : St} {ρ : Env} {n n' : Nat} {v : V} {x : X2} (h : RetR K Hr H H' g v x) (r : RS K B H0 g σ ρ n H) (l : Left H0 Hr H H' g n') : RelR K B Hr H' g σ ρ v x := by
  cases x with
  | d _ => exact h
  | own ds =>
    obtain ⟨p, vs, rfl, h1, h2, h3, h4, h5⟩ := h
    refine ⟨p, rfl, ⟨vs, h1, h2, h3, (r.fresh h4).1, h5⟩, fun i x q e z f => ?_⟩
    obtain ⟨v', q1, q2⟩ := r.sl i x e
    rw [z] at q1; cases q1
    exact (q2.foot rfl f).2 h4
  | slot _ => exact h.elim
  | drw => exact h.elim
  | scr _ => exact h.elim
  | ob o => cases o with
    | tt ds => exact h
    | dic _ => exact h.elim
    | rows _ _ => exact h.elim
    | ret _ _ _ => exact h.elim
    | «at» _ _ => exact h.elim
section
variable {ι : Type} {Φ : Fam ι} {W : WX} {m m1 m2 m3 : Nat}
def wCall (s : Spec2) (wa : WA) : W2 := fun e ρ k => wa e ρ fun xs ρ1 => argK ρ1 xs fun ys ρ2 => s ys (fun x => k x ρ2) fun nm => e nm ρ2
theorem je_call {f : Addr} {fd : FuncData} {ps : List Str} {j mf len : Nat} {s : Spec2} {x : Str} {a : Expr} {as : List Expr} {p pos : Pos} {wa : WA} (F : FnG Φ.P Φ.w Φ.K Φ.mg Φ.base CX0 j f fd ps (liftS Φ.K Φ.mg mf len s)) (hj : j ≤ Φ.k) (hm : Φ.mg x = some (.ref f)) (hk : PySem.W.keepIn Φ.K (.ref f) = true) (hb : Binds Φ.K fd ps []) (hs0 : ∀ xs k e, s xs k e → s xs k fun _ => False)
    (ha : JA Φ W m (a :: as) wa) (hlen : (a :: as).length = len) (hcm : Φ.cm = true) (hg : ∀ i, Gl (Φ.X i) x := by intro _; rfl) (hdb : (x == ("__debug__" : Str)) = false := by decide) (he : ∀ i, starEach (a :: as) (Φ.X i).env = (false, eval a (Φ.X i).env) :: starEach as (Φ.X i).env := by intro _; rfl) (hpl : ∀ i, (backTo pos (starEach as (Φ.X i).env)).any (·.1) = false := by intro _; rfl) : JE Φ W (m + mf) (.Call (.Name x p) (a :: as) [] pos) (wCall s wa) := by
  obtain ⟨ta, a1, a2⟩ := ha
  refine ⟨tCall (liftS Φ.K Φ.mg mf len s) [] E0 ta, fun i => ?_, ?_⟩
  · have F' : FnG (Φ.X i).prog (Φ.X i).w (Φ.X i).K (Φ.X i).mg (Φ.X i).base CX0 j f fd ps (liftS Φ.K Φ.mg mf len s) := by rw [Φ.hP i, Φ.hw i, Φ.hK i, Φ.hmg i, Φ.hbase i]; exact F
    exact pe_callG F' ((Φ.gd i).mono hj) ((Φ.room hcm i).mono hj) (hg i) (by rw [Φ.hmg i]; exact hm) (by rw [Φ.hK i]; exact hk) (by rw [Φ.hK i]; exact hb) .nil pass0 (a1 i) hdb (he i) (hpl i)
  · intro B H0 g σ ρ n H e k Q rs l hw q xq
    refine a2 B H0 g σ ρ n H e _ _ rs (by omega) hw (fun H1 ρ1 Ha vs xs s1 r1 h1 hl q1 => ?_) (fun H0' ρ' H' nm cls d s r' => xq H0' ρ' H' nm cls d s (r'.count (by omega)))
    obtain ⟨H2, ρ2, ys, s2, r2, h2, hq⟩ := r1.arg h1 q1
    refine ⟨by rw [List.append_nil]; exact hl.trans hlen, H2, g, n + m, ys, _, _, by omega, r2.ext, r2.drf, r2.drw, by rw [List.append_nil]; exact h2, hs0 _ _ _ hq, fun Hr H' v x lf hr hk => ?_, fun _ _ _ _ _ _ z _ => z.elim⟩
    exact q Hr ρ2 H' v x ((s1.trans s2).trans lf.b) ((r2.left lf).count (by omega)) (hr.r r2 lf) hk
structure Def2 (P : Program) (w : World) (K : PySem.W.Frag) (mg : MG) (base : Heap) (x : Str) (j : Nat) (ps : List Str) (mf len : Nat) (s : Spec2) : Prop where
  ex : ∃ (f : Addr) (fd : FuncData), FnG P w K mg base CX0 j f fd ps (liftS K mg mf len s) ∧ mg x = some (.ref f) ∧ PySem.W.keepIn K (.ref f) = true ∧ Binds K fd ps []
theorem je_callD {ps : List Str} {j mf len : Nat} {s : Spec2} {x : Str} {a : Expr} {as : List Expr} {p pos : Pos} {wa : WA} (D : Def2 Φ.P Φ.w Φ.K Φ.mg Φ.base x j ps mf len s) (hs0 : ∀ xs k e, s xs k e → s xs k fun _ => False) (ha : JA Φ W m (a :: as) wa) (hj : j ≤ Φ.k := by exact Nat.le_of_ble_eq_true rfl) (hcm : Φ.cm = true := by rfl)
    (hlen : (a :: as).length = len := by rfl) (hg : ∀ i, Gl (Φ.X i) x := by intro _; rfl) (hdb : (x == ("__debug__" : Str)) = false := by decide) (he : ∀ i, starEach (a :: as) (Φ.X i).env = (false, eval a (Φ.X i).env) :: starEach as (Φ.X i).env := by intro _; rfl) (hpl : ∀ i, (backTo pos (starEach as (Φ.X i).env)).any (·.1) = false := by intro _; rfl) : JE Φ W (m + mf) (.Call (.Name x p) (a :: as) [] pos) (wCall s wa) := by
  obtain ⟨f, fd, F, hm, hk, hb⟩ := D.ex
  exact je_call F hj hm hk hb hs0 ha hlen hcm hg hdb he hpl
end
structure At (K : PySem.W.Frag) (mg : MG) (x : Str) (st : Stmt) (ps : List Str) : Prop where
  ex : ∃ (f : Addr) (fd : FuncData), Fun K x x st f fd ∧ mg x = some (.ref f) ∧ Binds K fd ps []
end B2

namespace B2
open PySem L2 RZ
section

theorem vals_back : ∀ {vs : List V} {us : List Value} {j : Nat} {v : Value}, Vals vs us → us[j]? = some v → ∃ x, vs[j]? = some x ∧ RelV x v
  | _, _, _, _, .nil, h => by simp at h
  | _, _, 0, _, .cons r q, h => by simp at h; subst h; exact ⟨_, rfl, r⟩
  | _, _, j + 1, _, .cons r q, h => by
    obtain ⟨x, h1, h2⟩ := vals_back (j := j) q (by simpa using h)
    exact ⟨x, by simpa using h1, h2⟩
inductive Src where
  | l (a : Addr) (xs : List V)
  | t (a : Addr) (xs : List V)
  | s (x : Str)
def sgV (x : Str) : List V := x.cps.toList.map fun c => V.str ⟨#[c]⟩
namespace Src
def val : Src → V
  | .l a _ => .ref a
  | .t a _ => .ref a
  | .s x => .str x
def ok (K : PySem.W.Frag) (H : Hp) : Src → Prop
  | .l a xs => SqL K H a xs
  | .t a xs => SqT K H a xs
  | .s _ => True
def items : Src → List V
  | .l _ xs => xs
  | .t _ xs => xs
  | .s x => sgV x
def it (h : Heap) (I : Addr) (i : Nat) : Src → Prop
  | .l a _ => h.IsListIter I a i
  | .t a _ => h.IsTupleIter I a i
  | .s x => ∃ t, h.IsStrIter I (strIterType x) x t i
def more : Src → List Addr
  | .l a _ => [a]
  | .t a _ => [a]
  | .s _ => []
end Src
theorem Src.obj {S : Src} {h : Heap} {I : Addr} {i : Nat} (x : S.it h I i) : ∃ o, h.get? I = some o ∧ ∀ v, o.data ≠ .cell v := by
  cases S with
  | l a _ => obtain ⟨o, e, _, d⟩ := x; exact ⟨o, e, fun v q => by rw [d] at q; cases q⟩
  | t a _ => obtain ⟨o, e, _, d⟩ := x; exact ⟨o, e, fun v q => by rw [d] at q; cases q⟩
  | s z => obtain ⟨t, o, e, _, d⟩ := x; exact ⟨o, e, fun v q => by rw [d] at q; cases q⟩
theorem Src.keep {S : Src} {h h' : Heap} {I : Addr} {i : Nat} (x : S.it h I i) (k : ∀ o, h.get? I = some o → h'.get? I = some o) : S.it h' I i := by
  cases S with
  | l a _ => obtain ⟨o, e, r⟩ := x; exact ⟨o, k o e, r⟩
  | t a _ => obtain ⟨o, e, r⟩ := x; exact ⟨o, k o e, r⟩
  | s z => obtain ⟨t, o, e, r⟩ := x; exact ⟨t, o, k o e, r⟩
section
variable {X : Cx} {pins : List (Addr × Obj)} {σ : St} {H : Hp} {s : Shared}
theorem Src.draws (S : Src) (I : Inv X pins σ H s) (hd : X.A.handled = none) (ok : S.ok X.K H) {J : Addr} {i : Nat} (st : S.it s.heap J i) (hne : ∀ b ∈ S.more, b ≠ J) :
    ∃ (n : Nat) (P : Nat → Value → Prop) (St : Nat → Heap → Prop), Draws X.prog X.w X.A.in1 J (J :: S.more) n P St ∧ n = S.items.length ∧ (∀ j v, P j v → ∃ x, S.items[j]? = some x ∧ RelV x v) ∧ St i s.heap ∧ ∀ j h, St j h → S.it h J j := by
  cases S with
  | l a xs =>
    obtain ⟨its, rv, p, _⟩ := I.list ok
    refine ⟨_, _, _, Draws.list (A := X.A.in1) hd J a (hne a (.head _)) its.toArray, by show its.toArray.size = xs.length; rw [List.size_toArray]; exact rv.length.symm, fun j v q => ?_, ⟨st, p.isList⟩, fun j h q => q.1⟩
    exact vals_back rv (by simpa using q)
  | t a xs =>
    obtain ⟨its, rv, p, _⟩ := I.tuple ok
    refine ⟨_, _, _, Draws.tuple (A := X.A.in1) hd J a (hne a (.head _)) its.toArray, by show its.toArray.size = xs.length; rw [List.size_toArray]; exact rv.length.symm, fun j v q => ?_, ⟨st, p⟩, fun j h q => q.1⟩
    exact vals_back rv (by simpa using q)
  | s x =>
    obtain ⟨t, st⟩ := st
    refine ⟨_, _, _, Draws.text (A := X.A.in1) hd J x t, by show _ = (sgV x).length; unfold sgV; rw [List.length_map, Array.length_toList], fun j v q => ?_, st, fun j h q => ⟨t, q⟩⟩
    obtain ⟨c, u, hc, rfl⟩ := q
    refine ⟨.str ⟨#[c]⟩, ?_, u, rfl⟩
    show (sgV x)[j]? = _
    unfold sgV
    rw [List.getElem?_map, Array.getElem?_toList, hc]; rfl
theorem Src.begins (S : Src) (I : Inv X pins σ H s) (ok : S.ok X.K H) {u : Value} (r : RelV S.val u) : ∃ (o : Obj) (Hc : Heap → Prop), Begins u o Hc ∧ Hc s.heap ∧ (∀ h J, h.get? J = some o → S.it h J 0) ∧ ∀ b ∈ S.more, b < s.heap.objs.size := by
  cases S with
  | l a xs =>
    cases r
    obtain ⟨its, rv, p, _⟩ := I.list ok
    exact ⟨_, _, begins_list a its.toArray, p.isList, fun h J e => ⟨_, e, rfl, rfl⟩, fun b hb => by rw [List.mem_singleton.mp hb]; exact p.lt⟩
  | t a xs =>
    cases r
    obtain ⟨its, rv, p, _⟩ := I.tuple ok
    obtain ⟨o, ho, _⟩ := id p
    exact ⟨_, _, begins_tuple a its.toArray, p, fun h J e => ⟨_, e, rfl, rfl⟩, fun b hb => by rw [List.mem_singleton.mp hb]; exact Heap.lt_size ho⟩
  | s x =>
    obtain ⟨t, rfl⟩ := r
    exact ⟨_, _, begins_text x t, trivial, fun h J e => ⟨t, _, e, rfl, rfl⟩, fun b hb => (List.not_mem_nil hb).elim⟩
end
def ItzS (K : PySem.W.Frag) (A B : Src) : It :=
  ⟨fun i H => (A.ok K H ∧ B.ok K H) ∧ i < A.items.length ∧ i < B.items.length,
    fun i H v H' => ∃ T x y, v = .ref T ∧ H T = none ∧ H' = upd H T (.tup [x, y]) ∧ A.items[i]? = some x ∧ B.items[i]? = some y,
    fun i H => (A.ok K H ∧ B.ok K H) ∧ i = min A.items.length B.items.length⟩
theorem turn_zS2 {P : Program} {w : World} {K : PySem.W.Frag} {elts : List Expr} {kk : Nat} {tpos : Pos} {N : Nat} {A B : Src} (ha : ∀ b ∈ A.more, b < N) (hb : ∀ b ∈ B.more, b < N) :
    Turn P w K (.Tuple elts kk tpos) (ItzS K A B) [N + 4, N + 2, N + 3, N, N + 1] (N + 4) (fun i h => IsZip h (N + 4) (N + 2) (N + 3) .none ∧ IsTupOf2 h (N + 2) (.ref N) (.ref (N + 1)) ∧ (∃ x y, IsTupOf2 h (N + 3) x y) ∧ A.it h N i ∧ B.it h (N + 1) i) where
  mem := by simp
  obj := fun i h st c hc => by
    obtain ⟨hz, hTI, ⟨x, y, hTO⟩, h1, h2⟩ := st
    have e' : c = N + 4 ∨ c = N + 2 ∨ c = N + 3 ∨ c = N ∨ c = N + 1 := by simpa using hc
    rcases e' with q | q | q | q | q
    · rw [q]; exact ⟨_, hz, fun v q => nomatch q⟩
    · rw [q]; exact ⟨_, hTI, fun v q => nomatch q⟩
    · rw [q]; exact ⟨_, hTO, fun v q => nomatch q⟩
    · rw [q]; exact Src.obj h1
    · rw [q]; exact Src.obj h2
  keep := fun i h h' st k => by
    obtain ⟨hz, hTI, ⟨x, y, hTO⟩, h1, h2⟩ := st
    exact ⟨k _ (by simp) _ hz, k _ (by simp) _ hTI, ⟨x, y, k _ (by simp) _ hTO⟩, Src.keep h1 fun o q => k N (by simp) o q, Src.keep h2 fun o q => k (N + 1) (by simp) o q⟩
  item := by
    intro X hP hw hK hc i pins s σ H E I hf st hg
    subst hP hw hK
    obtain ⟨hz, hTI, hTO, h1, h2⟩ := st
    obtain ⟨⟨o1, o2⟩, l1, l2⟩ := hg
    have hd := I.ok.hd hc
    obtain ⟨n1, P1, St1, D1, e1, p1, s1, t1⟩ := A.draws I hd o1 h1 fun b hb' => Nat.ne_of_lt (ha b hb')
    obtain ⟨n2, P2, St2, D2, e2, p2, s2, t2⟩ := B.draws I hd o2 h2 fun b hb' => Nat.ne_of_lt (Nat.lt_succ_of_lt (hb b hb'))
    refine (GoesN.zip2 (elts := elts) (x1 := kk) (pos := tpos) (zip_sep2 ha hb) D1 D2).goes i s _ E (by rw [e1, e2]; omega) ⟨hz, hTI, hTO, s1, s2⟩ fun v h' tk hY st' hk htk => ?_
    obtain ⟨T, x, y, rfl, hn, hx, hy, hT⟩ := hY
    obtain ⟨x', hx', rx⟩ := p1 i x hx
    obtain ⟨y', hy', ry⟩ := p2 i y hy
    obtain ⟨hz', hTI', hTO', s1', s2'⟩ := st'
    have new : ObjOk X.prog X.w (upd H T (.tup [x', y'])) h' T (.tup [x', y']) := ⟨by show 2 ≤ sizeLine; decide, [x, y], .cons rx (.cons ry .nil), hT⟩
    have hfw : ∀ b ∈ [N + 4, N + 3, N, N + 1], FpOk X pins H b := fun b hb' => hf b (by simp only [List.mem_cons, List.not_mem_nil, or_false] at hb' ⊢; rcases hb' with h | h | h | h <;> simp [h])
    have I1 := I.turnedNew (t' := tk) hk hfw hn new
    refine ⟨.ref T, _, I1, rfl, ⟨T, x', y', rfl, I.hok.fresh hn, rfl, hx', hy'⟩, ⟨hz', hTI', hTO', t1 _ _ s1', t2 _ _ s2'⟩, fun c hcm => ?_⟩
    have hlt : c < s.heap.objs.size := by
      have e' : c = N + 4 ∨ c = N + 2 ∨ c = N + 3 ∨ c = N ∨ c = N + 1 := by simpa using hcm
      obtain ⟨_, _, hTO2⟩ := hTO
      rcases e' with q | q | q | q | q
      · rw [q]; exact Heap.lt_size hz
      · rw [q]; exact Heap.lt_size hTI
      · rw [q]; exact Heap.lt_size hTO2
      · rw [q]; obtain ⟨_, e, _⟩ := Src.obj h1; exact Heap.lt_size e
      · rw [q]; obtain ⟨_, e, _⟩ := Src.obj h2; exact Heap.lt_size e
    rw [upd_ne (Nat.ne_of_lt (Nat.lt_of_lt_of_le hlt hn))]
    exact (hf c hcm).1
  done := by
    intro X hP hw hK hc i pins s σ H E I hf st hg
    subst hP hw hK
    obtain ⟨hz, hTI, hTO, h1, h2⟩ := st
    obtain ⟨⟨o1, o2⟩, hi⟩ := hg
    have hd := I.ok.hd hc
    obtain ⟨n1, P1, St1, D1, e1, p1, s1, t1⟩ := A.draws I hd o1 h1 fun b hb' => Nat.ne_of_lt (ha b hb')
    obtain ⟨n2, P2, St2, D2, e2, p2, s2, t2⟩ := B.draws I hd o2 h2 fun b hb' => Nat.ne_of_lt (Nat.lt_succ_of_lt (hb b hb'))
    rw [← e1, ← e2] at hi
    subst hi
    refine (GoesN.zip2 (elts := elts) (x1 := kk) (pos := tpos) (zip_sep2 ha hb) D1 D2).stops s _ E ⟨hz, hTI, hTO, s1, s2⟩ fun h' tk hk htk => ?_
    exact I.turnedL (t' := tk) hk fun b hb' => hf b (by simp only [List.mem_cons, List.not_mem_nil, or_false] at hb' ⊢; rcases hb' with h | h | h | h <;> simp [h])
  self := fun A i s Q E st h => wpAny_pyIter_zip st.1 h
def iZS2 (K : PySem.W.Frag) (ta : TA) : TI := fun σ H R => ta σ H fun vs H1 => ∃ A B : Src, vs = [A.val, B.val] ∧ A.ok K H1 ∧ B.ok K H1 ∧ R (ItzS K A B) H1
theorem pi_zS2 {X : Cx} {e e2 : Expr} {ta : TA} {p pos tpos : Pos} {elts : List Expr} {kk : Nat} (hg : Gl X "zip") (hm : X.mg "zip" = none) (ha : PA X [e, e2] ta)
    (hs : starEach [e, e2] X.env = (false, eval e X.env) :: starEach [e2] X.env := by rfl) (hpl : (backTo pos (starEach [e2] X.env)).any (·.1) = false := by rfl) :
    PI X (.Tuple elts kk tpos) (.Call (.Name "zip" p) [e, e2] [] pos) (iZS2 X.K ta) := by
  refine ⟨fun pins s σ H R I h => ?_⟩
  refine PyProof.Rows.Call_ (ld_blt I hg hm PyProof.Rows.boot_zip (PyProof.Rows.callWith_type1 (thn (ha.run pos pins s σ H _ I h) fun us s1 ⟨vs, H1, I1, r1, q1⟩ => ?_) hs hpl))
  obtain ⟨A, B, ex, oa, ob, q⟩ := q1
  subst ex
  cases r1 with
  | cons r rr => cases rr with
    | cons r' rr =>
      cases rr
      obtain ⟨o1, c1, b1, d1, f1, m1⟩ := A.begins I1 oa r
      obtain ⟨o2, c2, b2, d2, f2, m2⟩ := B.begins I1 ob r'
      refine zip_begins2 b1 b2 d1 d2 fun h' hz hTI hTO g1 g2 hsz hk => wpAny_pyIter_zip hz ?_
      have I2 : Inv X pins σ H1 { s1 with heap := h' } := I1.kept (t' := s1.toks) hk
      refine ⟨s1.heap.objs.size + 4, [s1.heap.objs.size + 4, s1.heap.objs.size + 2, s1.heap.objs.size + 3, s1.heap.objs.size, s1.heap.objs.size + 1], _, _, H1, rfl, I2, turn_zS2 m1 m2, ⟨hz, hTI, ⟨_, _, hTO⟩, f1 _ _ g1, f2 _ _ g2⟩, fun c hcm => ?_, q⟩
      have hle : s1.heap.objs.size ≤ c := by
        have e' : c = s1.heap.objs.size + 4 ∨ c = s1.heap.objs.size + 2 ∨ c = s1.heap.objs.size + 3 ∨ c = s1.heap.objs.size ∨ c = s1.heap.objs.size + 1 := by simpa using hcm
        rcases e' with z | z | z | z | z <;> rw [z] <;> first | exact Nat.le_add_right _ _ | exact Nat.le_refl _
      exact I1.fpOk hle (I1.hok.fresh hle)
end
def LenOk (K : PySem.W.Frag) (H : Hp) : Prop := (∀ a xs, SqL K H a xs → xs.length ≤ 16777216) ∧ ∀ a xs, SqT K H a xs → xs.length ≤ 16777216
theorem Inv.lenOk {X : Cx} {pins : List (Addr × Obj)} {σ : St} {H : Hp} {s : Shared} (I : Inv X pins σ H s) : LenOk X.K H :=
  ⟨fun a xs h => by obtain ⟨_, _, _, z⟩ := I.list h; rw [sizeLine_eq] at z; exact z, fun a xs h => by obtain ⟨_, _, _, z⟩ := I.tuple h; rw [sizeLine_eq] at z; exact z⟩
structure Wk (K : PySem.W.Frag) (H0 : Hp) (J : It) (ds : List PyData) : Prop where
  goes : ∀ i H', i < ds.length → Same H0 H' → J.go i H'
  stops : ∀ H', Same H0 H' → J.stop ds.length H'
  yields : ∀ i H1 x H2, i < ds.length → Same H0 H1 → J.yld i H1 x H2 → ∃ d, ds[i]? = some d ∧ ((H2 = H1 ∧ Dq K H0 x d) ∨ ∃ T vs es, x = .ref T ∧ H1 T = none ∧ H2 = upd H1 T (.tup vs) ∧ d = .tuple es ∧ DqA K H0 vs es)
abbrev WI := Xn → Env → (List PyData → Env → Prop) → Prop
def SimI (K : PySem.W.Frag) (mg : MG) (W : WX) (m : Nat) (wi : TI) (w : WI) : Prop := ∀ (B : Base) (H0 : Hp) (g : Option Gs) (σ : St) (ρ : Env) (n : Nat) (H : Hp) (e : Xn) (k : List PyData → Env → Prop) (R : It → Hp → Prop), RS K B H0 g σ ρ n H → n + m ≤ LIM → w e ρ k →
  (∀ H0' ρ' H' J ds, Same H0 H0' → RS K B H0' g σ ρ' (n + m) H' → Wk K H0' J ds → ds.length ≤ 2 ^ 62 → k ds ρ' → R J H') →
  (∀ H0' ρ' H' nm cls d, Same H0 H0' → RS K B H0' g σ ρ' (n + m) H' → e nm ρ' → Exn mg nm cls d → W cls d σ H') → wi σ H R
def iLen (K : PySem.W.Frag) (wi : TI) : TI := fun σ H R => wi σ H fun J H1 => LenOk K H1 → R J H1
theorem pi_len {X : Cx} {tg iter : Expr} {wi : TI} (h : PI X tg iter wi) : PI X tg iter (iLen X.K wi) := by
  refine ⟨fun pins s σ H R I hw => ?_⟩
  refine thn (h.run pins s σ H _ I hw) fun v s1 h1 => thn h1 fun itv s2 h2 => ?_
  obtain ⟨it, fp, tn, J, H', e, I', T, t0, f, q⟩ := h2
  exact ⟨it, fp, tn, J, H', e, I', T, t0, f, q (Inv.lenOk I')⟩
def JI {ι : Type} (Φ : Fam ι) (W : WX) (m : Nat) (tg iter : Expr) (w : WI) : Prop := ∃ wi, (∀ i, PI (Φ.X i) tg iter wi) ∧ SimI Φ.K Φ.mg W m wi w
def iSeq (K : PySem.W.Frag) (tl : TE) : TI := fun σ H R => tl σ H fun x H1 => (∃ a, x = .ref a ∧ (∃ xs, SqL K H1 a xs) ∧ R (Itl K a) H1) ∨ (∃ a, x = .ref a ∧ (∃ xs, SqT K H1 a xs) ∧ R (Itt K a) H1) ∨ ∃ z, x = .str z ∧ R (Its z) H1
theorem pi_seq {X : Cx} {tg l : Expr} {tl : TE} (hl : PE X l tl) : PI X tg l (iSeq X.K tl) := by
  refine ⟨fun pins s σ H R I h => ?_⟩
  refine thn (hl.run pins s σ H _ I h) fun v s1 ⟨x, H1, I1, r1, q1⟩ => ?_
  rcases q1 with ⟨a, e, ⟨xs, hq⟩, q⟩ | ⟨a, e, ⟨xs, hq⟩, q⟩ | ⟨z, e, q⟩
  · subst e
    cases r1
    obtain ⟨its, rv, p, hz⟩ := I1.list hq
    refine wpAny_pyIter_list p.isList ?_
    refine ⟨s1.heap.objs.size, [s1.heap.objs.size], _, _, H1, rfl, I1.kept (t' := s1.toks) fun b o e => Heap.get?_push_of_some _ e, turn_list a _, ⟨_, Heap.get?_push_size _ rfl, rfl, rfl⟩, fun b hb => ?_, q⟩
    have e : b = s1.heap.objs.size := by simpa using hb
    subst e
    exact I1.fpOk (Nat.le_refl _) (I1.hok.fresh (Nat.le_refl _))
  · subst e
    cases r1
    obtain ⟨its, rv, p, hz⟩ := I1.tuple hq
    refine wpAny_pyIter_tuple (show s1.heap.IsTuple a its.toArray from p) ?_
    refine ⟨s1.heap.objs.size, [s1.heap.objs.size], _, _, H1, rfl, I1.kept (t' := s1.toks) fun b o e => Heap.get?_push_of_some _ e, turn_tuple a _, ⟨_, Heap.get?_push_size _ rfl, rfl, rfl⟩, fun b hb => ?_, q⟩
    have e : b = s1.heap.objs.size := by simpa using hb
    subst e
    exact I1.fpOk (Nat.le_refl _) (I1.hok.fresh (Nat.le_refl _))
  · subst e
    obtain ⟨t, rfl⟩ := r1
    cases ha : z.cps.all (· < 128)
    · exact wpAny_pyIter_wide ha (pi_one (tk := s1.toks) I1 _ (turn_str _ z t "str_iterator" (.inr rfl)) ⟨_, Heap.get?_push_size _ rfl, rfl, rfl⟩ q)
    · exact wpAny_pyIter_ascii ha (pi_one (tk := s1.toks) I1 _ (turn_str _ z t "str_ascii_iterator" (.inl rfl)) ⟨_, Heap.get?_push_size _ rfl, rfl, rfl⟩ q)
section
variable {K : PySem.W.Frag} {H0 : Hp}
theorem wk_list {a : Addr} {vs : List V} {ds : List PyData} (h : H0 a = some (.lst vs)) (q : DqA K H0 vs ds) : Wk K H0 (Itl K a) ds := by
  have sq : ∀ H', Same H0 H' → SqL K H' a vs := fun H' e => SqL.of (e _ _ h)
  refine ⟨fun i H' hi e => ⟨vs, vs[i]'(by rw [q.length]; exact hi), sq H' e, by simp [q.length, hi]⟩, fun H' e => ⟨vs, sq H' e, by rw [q.length]; exact Nat.le_refl _⟩, fun i H1 x H2 hi e y => ?_⟩
  obtain ⟨e2, y2⟩ := y
  obtain ⟨d, h1, h2⟩ := q.get' (y2 vs (sq H1 e))
  exact ⟨d, h1, .inl ⟨e2, h2⟩⟩
theorem wk_tup {a : Addr} {vs : List V} {ds : List PyData} (h : SqT K H0 a vs) (q : DqA K H0 vs ds) : Wk K H0 (Itt K a) ds := by
  have sq : ∀ H', Same H0 H' → SqT K H' a vs := fun H' e => Same.sqt e h
  refine ⟨fun i H' hi e => ⟨vs, vs[i]'(by rw [q.length]; exact hi), sq H' e, by simp [q.length, hi]⟩, fun H' e => ⟨vs, sq H' e, by rw [q.length]; exact Nat.le_refl _⟩, fun i H1 x H2 hi e y => ?_⟩
  obtain ⟨e2, y2⟩ := y
  obtain ⟨d, h1, h2⟩ := q.get' (y2 vs (sq H1 e))
  exact ⟨d, h1, .inl ⟨e2, h2⟩⟩
def signs (z : Str) : List PyData := z.cps.toList.map fun c => .str ⟨#[c]⟩
theorem wk_str {z : Str} : Wk K H0 (Its z) (signs z) := by
  have hl : (signs z).length = z.cps.size := by unfold signs; rw [List.length_map, Array.length_toList]
  refine ⟨fun i H' hi _ => by rw [hl] at hi; exact hi, fun H' _ => by rw [hl]; exact Nat.le_refl _, fun i H1 x H2 hi _ y => ?_⟩
  obtain ⟨e, c, hc, rfl⟩ := y
  refine ⟨.str ⟨#[c]⟩, ?_, .inl ⟨e, .str _⟩⟩
  unfold signs
  rw [List.getElem?_map, Array.getElem?_toList, hc]
  rfl
def span (lo : Int) (n : Nat) : List PyData := (List.range n).map fun i => .int (lo + (i : Nat))
theorem wk_range {lo : Int} {n : Nat} : Wk K H0 (Itr lo n) (span lo n) := by
  have hl : (span lo n).length = n := by unfold span; rw [List.length_map, List.length_range]
  refine ⟨fun i H' hi _ => by rw [hl] at hi; exact hi, fun H' _ => by rw [hl]; exact Nat.le_refl _, fun i H1 x H2 hi _ y => ?_⟩
  obtain ⟨e, rfl⟩ := y
  rw [hl] at hi
  refine ⟨.int (lo + (i : Nat)), ?_, .inl ⟨e, .int _⟩⟩
  unfold span
  rw [List.getElem?_map, List.getElem?_range hi]
  rfl
end
section
variable {ι : Type} {Φ : Fam ι} {W : WX} {m m1 m2 m3 : Nat}
def seqD : PyData → Option (List PyData)
  | .list ds => some ds
  | .tuple ds => some ds
  | .str z => some (signs z)
  | _ => none
def wSeqI (wa : W2) : WI := fun e ρ k => wa e ρ fun x ρ1 => frzK ρ1 [calm1 x] fun ds ρ2 => match ds with
  | [.list ds] => k ds ρ2
  | [.tuple ds] => k ds ρ2
  | [.str z] => z.length ≤ 16777216 ∧ k (signs z) ρ2
  | _ => False
theorem ji_seq {tg a : Expr} {wa : W2} (ha : JE Φ W m a wa) : JI Φ W m tg a (wSeqI wa) := by
  obtain ⟨ta, a1, a2⟩ := ha
  refine ⟨iLen Φ.K (iSeq Φ.K ta), fun i => by have := pi_len (pi_seq (tg := tg) (a1 i)); rw [Φ.hK i] at this; exact this, ?_⟩
  intro B H0 g σ ρ n H e k R rs l hw q xq
  refine a2 B H0 g σ ρ n H e _ _ rs l hw (fun H1 ρ1 Ha v1 x1 s1 r1 h1 q1 => ?_) xq
  obtain ⟨H2, s2, r2, h2⟩ := r1.calm h1
  obtain ⟨H3, ρ3, ds, s3, r3, d3, hk⟩ := r2.frz (vs := [v1]) (xs := [calm1 x1]) (.cons h2 .nil) q1
  have st := (s1.trans s2).trans s3
  split at hk
  · rename_i ds
    cases d3 with
    | cons d3 _ =>
      cases d3 with
      | @lst a vs ds h q2 =>
        exact .inl ⟨a, rfl, ⟨vs, SqL.of (r3.ext _ _ h)⟩, fun lo => q H3 ρ3 Ha _ ds st r3 (wk_list h q2) (by have := lo.1 a vs (SqL.of (r3.ext _ _ h)); rw [q2.length] at this; omega) hk⟩
  · rename_i ds
    cases d3 with
    | cons d3 _ =>
      cases d3 with
      | @tup a vs ds h q2 =>
        exact .inr (.inl ⟨a, rfl, ⟨vs, Same.sqt r3.ext h⟩, fun lo => q H3 ρ3 Ha _ ds st r3 (wk_tup h q2) (by have := lo.2 a vs (Same.sqt r3.ext h); rw [q2.length] at this; omega) hk⟩)
  · rename_i z
    cases d3 with
    | cons d3 _ =>
      cases d3
      exact .inr (.inr ⟨z, rfl, fun lo => q H3 ρ3 Ha _ _ st r3 wk_str (by unfold signs; rw [List.length_map, Array.length_toList]; have := hk.1; unfold PySem.Str.length at this; omega) hk.2⟩)
  · exact hk.elim
def wRange (wa : WA) : WI := fun e ρ k => wa e ρ fun xs ρ1 => rdsK ρ1 xs fun ds => match ds with
  | [.int j] => (-(2 ^ 62) ≤ j ∧ j < 2 ^ 62) ∧ k (span 0 j.toNat) ρ1
  | [.int i, .int j] => (-(2 ^ 61) ≤ i ∧ i < 2 ^ 61 ∧ -(2 ^ 61) ≤ j ∧ j < 2 ^ 61) ∧ k (span i (j - i).toNat) ρ1
  | _ => False
theorem span_len {lo : Int} {n : Nat} : (span lo n).length = n := by unfold span; rw [List.length_map, List.length_range]
theorem ji_range1 {tg a : Expr} {p pos : Pos} {wa : WA} (hm : Φ.mg "range" = none) (ha : JA Φ W m [a] wa) (hg : ∀ i, Gl (Φ.X i) "range" := by intro _; rfl) (hs : ∀ i, starEach [a] (Φ.X i).env = [(false, eval a (Φ.X i).env)] := by intro _; rfl) : JI Φ W m tg (.Call (.Name "range" p) [a] [] pos) (wRange wa) := by
  obtain ⟨ta, a1, a2⟩ := ha
  refine ⟨iRng1 ta, fun i => pi_range1 (hg i) (by rw [Φ.hmg i]; exact hm) (a1 i) (hs i), ?_⟩
  intro B H0 g σ ρ n H e k R rs l hw q xq
  refine a2 B H0 g σ ρ n H e _ _ rs l hw (fun H1 ρ1 Ha vs xs s1 r1 h1 hl q1 => ?_) xq
  obtain ⟨ds, e1, hk⟩ := rdsK_of q1
  split at hk
  · rename_i j
    cases e1 with
    | cons e1 e2 => cases e2; cases h1 with
      | cons b1 b2 => cases b2; rw [r1.int b1.r e1]; exact ⟨j, rfl, hk.1.1, hk.1.2, q H1 ρ1 Ha _ _ s1 r1 wk_range (by rw [span_len]; omega) hk.2⟩
  · have := Paired.length e1
    have := Paired.length h1
    simp at *
    try omega
  · exact hk.elim
def zipD : List PyData → List PyData → List PyData
  | a :: as, b :: bs => .tuple [a, b] :: zipD as bs
  | _, _ => []
def zip3D : List PyData → List PyData → List PyData → List PyData
  | a :: as, b :: bs, c :: cs => .tuple [a, b, c] :: zip3D as bs cs
  | _, _, _ => []
def wZip (wa : WA) : WI := fun e ρ k => wa e ρ fun xs ρ1 => frzK ρ1 xs fun ds ρ2 => match ds with
  | [.list as, .list bs] => k (zipD as bs) ρ2
  | [.tuple as, .tuple bs] => k (zipD as bs) ρ2
  | [.list as, .tuple bs] => k (zipD as bs) ρ2
  | [.tuple as, .list bs] => k (zipD as bs) ρ2
  | [a, b] => match seqD a, seqD b with
    | some as, some bs => (zipD as bs).length ≤ 16777216 ∧ k (zipD as bs) ρ2
    | _, _ => False
  | [a, b, c] => match seqD a, seqD b, seqD c with
    | some as, some bs, some cs => (zip3D as bs cs).length ≤ 16777216 ∧ k (zip3D as bs cs) ρ2
    | _, _, _ => False
  | _ => False
theorem zipD_len : ∀ as bs : List PyData, (zipD as bs).length = min as.length bs.length
  | [], _ => by simp [zipD]
  | _ :: _, [] => by simp [zipD]
  | a :: as, b :: bs => by simp [zipD, zipD_len as bs]
theorem zipD_get : ∀ {as bs : List PyData} {i : Nat} {a b : PyData}, as[i]? = some a → bs[i]? = some b → (zipD as bs)[i]? = some (.tuple [a, b])
  | [], _, _, _, _, h, _ => by simp at h
  | _ :: _, [], _, _, _, _, h => by simp at h
  | a :: as, b :: bs, 0, _, _, h, h' => by simp at h h'; subst h h'; rfl
  | a :: as, b :: bs, i + 1, _, _, h, h' => by
    have := zipD_get (as := as) (bs := bs) (i := i) (by simpa using h) (by simpa using h')
    simpa [zipD] using this
theorem dqa_sgV {K : PySem.W.Frag} {H : Hp} (x : Str) : DqA K H (sgV x) (signs x) := by
  unfold sgV signs
  generalize x.cps.toList = l
  induction l with
  | nil => exact .nil
  | cons c l ih => exact .cons (.str _) ih
theorem src_of {K : PySem.W.Frag} {H0 : Hp} {v : V} {d : PyData} {as : List PyData} (h : Dq K H0 v d) (e : seqD d = some as) : ∃ S : Src, v = S.val ∧ (∀ H', Same H0 H' → S.ok K H') ∧ DqA K H0 S.items as := by
  cases h with
  | @lst a vs ds h q => cases e; exact ⟨.l a vs, rfl, fun H' s => SqL.of (s _ _ h), q⟩
  | @tup a vs ds h q => cases e; exact ⟨.t a vs, rfl, fun H' s => Same.sqt s h, q⟩
  | str x => cases e; exact ⟨.s x, rfl, fun _ _ => trivial, dqa_sgV x⟩
  | non => cases e
  | bl b => cases e
  | int b => cases e
  | dic => cases e
theorem wk_zS2 {K : PySem.W.Frag} {H0 : Hp} {A B : Src} {ds es : List PyData} (h1 : ∀ H', Same H0 H' → A.ok K H') (q1 : DqA K H0 A.items ds) (h2 : ∀ H', Same H0 H' → B.ok K H') (q2 : DqA K H0 B.items es) : Wk K H0 (ItzS K A B) (zipD ds es) := by
  have l1 := q1.length
  have l2 := q2.length
  refine ⟨fun i H' hi e => ⟨⟨h1 _ e, h2 _ e⟩, by rw [zipD_len] at hi; omega, by rw [zipD_len] at hi; omega⟩, fun H' e => ⟨⟨h1 _ e, h2 _ e⟩, by rw [zipD_len]; omega⟩, fun i H1 x H2 hi e y => ?_⟩
  obtain ⟨T, x', y', rfl, hT, hH, k1, k2⟩ := y
  obtain ⟨d, d1, d2⟩ := q1.get' k1
  obtain ⟨d', d3, d4⟩ := q2.get' k2
  exact ⟨_, zipD_get d1 d3, .inr ⟨T, _, _, rfl, hT, hH, rfl, .cons d2 (.cons d4 .nil)⟩⟩
theorem ji_zip {elts : List Expr} {kk : Nat} {tpos : Pos} {a b : Expr} {p pos : Pos} {wa : WA} (hm : Φ.mg "zip" = none) (ha : JA Φ W m [a, b] wa) (hg : ∀ i, Gl (Φ.X i) "zip" := by intro _; rfl) (hs : ∀ i, starEach [a, b] (Φ.X i).env = (false, eval a (Φ.X i).env) :: starEach [b] (Φ.X i).env := by intro _; rfl) (hpl : ∀ i, (backTo pos (starEach [b] (Φ.X i).env)).any (·.1) = false := by intro _; rfl) :
    JI Φ W m (.Tuple elts kk tpos) (.Call (.Name "zip" p) [a, b] [] pos) (wZip wa) := by
  obtain ⟨ta, a1, a2⟩ := ha
  refine ⟨iLen Φ.K (iZS2 Φ.K ta), fun i => ?_, ?_⟩
  · have h1 := pi_len (pi_zS2 (X := Φ.X i) (tpos := tpos) (elts := elts) (kk := kk) (p := p) (pos := pos) (hg i) (by rw [Φ.hmg i]; exact hm) (a1 i) (hs i) (hpl i))
    rw [Φ.hK i] at h1
    exact h1
  · intro B H0 g σ ρ n H e k R rs l hw q xq
    refine a2 B H0 g σ ρ n H e _ _ rs l hw (fun H1 ρ1 Ha vs xs s1 r1 h1 hl q1 => ?_) xq
    obtain ⟨H2, ρ2, ds, s2, r2, d2, hk⟩ := r1.frz h1 q1
    have len2 : ∀ {v : V} {d : PyData} {as : List PyData}, Dq Φ.K H2 v d → (d = .list as ∨ d = .tuple as) → LenOk Φ.K Ha → as.length ≤ 16777216 := fun {v d as} hd e lo => by
      rcases e with rfl | rfl
      · cases hd with
        | @lst a vs _ h q => have := lo.1 a vs (SqL.of (r2.ext _ _ h)); rw [q.length] at this; exact this
      · cases hd with
        | @tup a vs _ h q => have := lo.2 a vs (Same.sqt r2.ext h); rw [q.length] at this; exact this
    have fin : ∀ {v1 v2 : V} {d1 d2 : PyData} {as bs : List PyData}, vs = [v1, v2] → Dq Φ.K H2 v1 d1 → Dq Φ.K H2 v2 d2 → seqD d1 = some as → seqD d2 = some bs → (LenOk Φ.K Ha → (zipD as bs).length ≤ 2 ^ 62) → k (zipD as bs) ρ2 → iLen Φ.K (iZS2 Φ.K fun _ H R => R vs H) σ Ha R := by
      intro v1 v2 d1 d2 as bs ev h1 h2 e1 e2 hz hk
      obtain ⟨A, rfl, oa, qa⟩ := src_of h1 e1
      obtain ⟨B, rfl, ob, qb⟩ := src_of h2 e2
      exact ⟨A, B, ev, oa _ r2.ext, ob _ r2.ext, fun lo => q H2 ρ2 Ha _ _ (s1.trans s2) r2 (wk_zS2 oa qa ob qb) (hz lo) hk⟩
    split at hk
    all_goals first | (exact hk.elim) | skip
    · rename_i as bs
      cases d2 with | cons d2 d3 => cases d3 with | cons d3 d4 => cases d4; exact fin rfl d2 d3 rfl rfl (fun lo => by have := len2 d2 (.inl rfl) lo; rw [zipD_len]; omega) hk
    · rename_i as bs
      cases d2 with | cons d2 d3 => cases d3 with | cons d3 d4 => cases d4; exact fin rfl d2 d3 rfl rfl (fun lo => by have := len2 d2 (.inr rfl) lo; rw [zipD_len]; omega) hk
    · rename_i as bs
      cases d2 with | cons d2 d3 => cases d3 with | cons d3 d4 => cases d4; exact fin rfl d2 d3 rfl rfl (fun lo => by have := len2 d2 (.inl rfl) lo; rw [zipD_len]; omega) hk
    · rename_i as bs
      cases d2 with | cons d2 d3 => cases d3 with | cons d3 d4 => cases d4; exact fin rfl d2 d3 rfl rfl (fun lo => by have := len2 d2 (.inr rfl) lo; rw [zipD_len]; omega) hk
    · split at hk
      · rename_i e1 e2
        cases d2 with | cons d2 d3 => cases d3 with | cons d3 d4 => cases d4; exact fin rfl d2 d3 e1 e2 (fun lo => by have := hk.1; omega) hk.2
      · exact hk.elim
    · have := d2.length
      rw [hl] at this
      simp at this
end
end B2

namespace B2
open PySem L2
structure Ends2 where
  nx : Env → Prop
  rt : X2 → Prop
  bk : Env → Prop := fun _ => False
  ct : Env → Prop := fun _ => False
  ex : Xn := fun _ _ => False
abbrev WS := Ends2 → Env → Prop
def Sub (g' g : Option Gs) : Prop := g' = g ∨ g = none
structure Fits (K : PySem.W.Frag) (mg : MG) (W : WX) (B : Base) (H0 : Hp) (g : Option Gs) (n : Nat) (D2 : Ends2) (D : Ends) : Prop where
  nx : ∀ H0' g' σ' ρ' H', Same H0 H0' → Sub g' g → RS K B H0' g' σ' ρ' n H' → D2.nx ρ' → D.nx σ' H'
  rt : ∀ H0' g' σ' ρ' H' v x, Same H0 H0' → Sub g' g → RS K B H0' g' σ' ρ' n H' → RelR K B H0' H' g' σ' ρ' v x → (∀ i, x ≠ .slot i) → D2.rt x → D.rt v H'
  bk : ∀ H0' g' σ' ρ' H', Same H0 H0' → Sub g' g → RS K B H0' g' σ' ρ' n H' → D2.bk ρ' → D.bk σ' H'
  ct : ∀ H0' g' σ' ρ' H', Same H0 H0' → Sub g' g → RS K B H0' g' σ' ρ' n H' → D2.ct ρ' → D.ct σ' H'
  ex : ∀ H0' g' σ' ρ' H' nm cls d, Same H0 H0' → Sub g' g → RS K B H0' g' σ' ρ' n H' → D2.ex nm ρ' → Exn mg nm cls d → W cls d σ' H'
def SimS (K : PySem.W.Frag) (mg : MG) (W : WX) (m : Nat) (t : TS) (w : WS) : Prop := ∀ (B : Base) (H0 : Hp) (g : Option Gs) (σ : St) (ρ : Env) (n : Nat) (H : Hp) (D2 : Ends2) (D : Ends), RS K B H0 g σ ρ n H → n + m ≤ LIM → w D2 ρ → Fits K mg W B H0 g (n + m) D2 D → t D σ H
theorem Sub.refl (g : Option Gs) : Sub g g := .inl rfl
theorem Sub.trans {a b c : Option Gs} (h : Sub a b) (h' : Sub b c) : Sub a c := by
  rcases h with h | h
  · rw [h]; exact h'
  · rcases h' with h' | h'
    · exact .inr (h' ▸ h)
    · exact .inr h'
theorem Fits.mono {K : PySem.W.Frag} {mg : MG} {W : WX} {B : Base} {H0 H1 : Hp} {g g' : Option Gs} {n n' : Nat} {D2 : Ends2} {D : Ends} (f : Fits K mg W B H0 g n D2 D) (s : Same H0 H1) (l : n' ≤ n) (hg : Sub g' g) : Fits K mg W B H1 g' n' D2 D :=
  ⟨fun H0' g2 σ' ρ' H' s' z r => f.nx H0' g2 σ' ρ' H' (s.trans s') (z.trans hg) (r.count l), fun H0' g2 σ' ρ' H' v x s' z r => f.rt H0' g2 σ' ρ' H' v x (s.trans s') (z.trans hg) (r.count l), fun H0' g2 σ' ρ' H' s' z r => f.bk H0' g2 σ' ρ' H' (s.trans s') (z.trans hg) (r.count l),
   fun H0' g2 σ' ρ' H' s' z r => f.ct H0' g2 σ' ρ' H' (s.trans s') (z.trans hg) (r.count l), fun H0' g2 σ' ρ' H' nm cls d s' z r => f.ex H0' g2 σ' ρ' H' nm cls d (s.trans s') (z.trans hg) (r.count l)⟩
theorem Fits.x {K : PySem.W.Frag} {mg : MG} {W : WX} {B : Base} {H0 : Hp} {g : Option Gs} {n n' : Nat} {D2 : Ends2} {D : Ends} {σ : St} (f : Fits K mg W B H0 g n D2 D) (l : n' ≤ n) :
    ∀ H0' ρ' H' nm cls d, Same H0 H0' → RS K B H0' g σ ρ' n' H' → D2.ex nm ρ' → Exn mg nm cls d → W cls d σ H' := fun H0' ρ' H' nm cls d s r => f.ex H0' g σ ρ' H' nm cls d s (Sub.refl g) (r.count l)
section
variable {ι : Type} (Φ : Fam ι) (W : WX) (m : Nat)
def JS (st : Stmt) (w : WS) : Prop := ∃ t, (∀ i, PS (Φ.X i) st t) ∧ SimS Φ.K Φ.mg W m t w
def JSs (st : List Stmt) (w : WS) : Prop := ∃ t, (∀ i, PSs (Φ.X i) st t) ∧ SimS Φ.K Φ.mg W m t w
end
def sLen (L : Nat) (t : TS) : TS := fun D σ H => σ.length = L → t D σ H
theorem ps_len {X : Cx} {st : Stmt} {t : TS} {N : List Str} (hN : X.N = N) (h : PS X st t) : PS X st (sLen N.length t) := ⟨fun pins s σ H D I hw => h.run pins s σ H D I (hw (by rw [I.len, hN]))⟩
section
variable {ι : Type} {Φ : Fam ι} {W : WX} {m m1 m2 m3 : Nat}
def wNext : WS := fun D ρ => D.nx ρ
def wSeq (a b : WS) : WS := fun D ρ => a { D with nx := fun ρ' => b D ρ' } ρ
theorem jss_nil : JSs Φ W 0 [] wNext := ⟨_, fun _ => pss_nil, fun B H0 g σ ρ n H D2 D r l h f => f.nx H0 g σ ρ H (Same.refl _) (Sub.refl g) r h⟩
theorem sim_seq {K : PySem.W.Frag} {mg : MG} {t u : TS} {a b : WS} (h1 : SimS K mg W m1 t a) (h2 : SimS K mg W m2 u b) : SimS K mg W (m1 + m2) (tSeq t u) (wSeq a b) := by
  intro B H0 g σ ρ n H D2 D r l h f
  refine h1 B H0 g σ ρ n H { D2 with nx := fun ρ' => b D2 ρ' } { D with nx := u D } r (by omega) h ?_
  have f1 := f.mono (Same.refl H0) (show n + m1 ≤ n + (m1 + m2) by omega) (Sub.refl g)
  refine ⟨fun H0' g' σ' ρ' H' s z r' q => ?_, f1.rt, f1.bk, f1.ct, f1.ex⟩
  exact h2 B H0' g' σ' ρ' _ H' D2 D r' (by omega) q (f.mono s (by omega) z)
theorem jss_cons {s : Stmt} {r : List Stmt} {a b : WS} (h1 : JS Φ W m1 s a) (h2 : JSs Φ W m2 r b) : JSs Φ W (m1 + m2) (s :: r) (wSeq a b) :=
  let ⟨_, a1, a2⟩ := h1; let ⟨_, b1, b2⟩ := h2; ⟨_, fun i => pss_cons (a1 i) (b1 i), sim_seq a2 b2⟩
theorem jss_one {s : Stmt} {a : WS} (h1 : JS Φ W m s a) : JSs Φ W m [s] a := let ⟨t, a1, a2⟩ := h1; ⟨t, fun i => pss_one (a1 i), a2⟩
theorem SimS.cost {K : PySem.W.Frag} {mg : MG} {t : TS} {w : WS} (h : SimS K mg W m t w) (l : m ≤ m1) : SimS K mg W m1 t w := fun B H0 g σ ρ n H D2 D r l1 hw f => h B H0 g σ ρ n H D2 D r (by omega) hw (f.mono (Same.refl _) (by omega) (Sub.refl g))
theorem JSs.cost {s : List Stmt} {a : WS} (h1 : JSs Φ W m s a) (l : m ≤ m1) : JSs Φ W m1 s a := let ⟨t, a1, a2⟩ := h1; ⟨t, a1, a2.cost l⟩
def wDrop (a : W2) : WS := fun D ρ => a D.ex ρ fun _ ρ1 => D.nx ρ1
theorem js_expr {a : Expr} {pos : Pos} {wa : W2} (ha : JE Φ W m a wa) (hs : ∀ i, swapsWith a none pos.line (Φ.X i).env = pure false := by intro _; rfl) : JS Φ W m (.Expr a pos) (wDrop wa) := by
  obtain ⟨ta, a1, a2⟩ := ha
  refine ⟨_, fun i => ps_expr (a1 i) (hs i), ?_⟩
  intro B H0 g σ ρ n H D2 D r l h f
  exact a2 B H0 g σ ρ n H _ _ _ r l h (fun H1 ρ1 Ha v x s1 r1 h1 q1 => f.nx H1 g σ ρ1 Ha s1 (Sub.refl g) r1 q1) (f.x (Nat.le_refl _))
def retK (ρ : Env) (x : X2) (k : X2 → Prop) : Prop := match x with
  | .slot i => match ρ i with
    | some (.own ds) => k (.own ds)
    | some (.d d) => k (.d d)
    | _ => False
  | x => k x
def wRet (a : W2) : WS := fun D ρ => a D.ex ρ fun x ρ1 => retK ρ1 x D.rt
theorem js_ret {a : Expr} {pos : Pos} {wa : W2} (ha : JE Φ W m a wa) : JS Φ W m (.Return (some a) pos) (wRet wa) := by
  obtain ⟨ta, a1, a2⟩ := ha
  refine ⟨_, fun i => ps_ret (a1 i), ?_⟩
  intro B H0 g σ ρ n H D2 D r l h f
  refine a2 B H0 g σ ρ n H _ _ _ r l h (fun H1 ρ1 Ha v x s1 r1 h1 q1 => ?_) (f.x (Nat.le_refl _))
  unfold retK at q1
  split at q1
  · rename_i i
    have hi : σ[i]? = some (some v) := h1
    split at q1
    · rename_i ds h0
      obtain ⟨v', z1, p, rfl, z2⟩ := r1.sl i _ h0
      rw [hi] at z1; cases z1
      have r2 : RS Φ.K B H1 g σ (upE ρ1 i none) (n + m) Ha := r1.weak fun j y q => by
        by_cases hj : j = i
        · rw [hj, upE_same] at q; cases q
        · rw [upE_ne hj] at q; exact ⟨q, rfl⟩
      refine f.rt H1 g σ (upE ρ1 i none) Ha _ (.own ds) s1 (Sub.refl g) r2 ⟨p, rfl, z2, fun j y q e z fy => ?_⟩ (fun _ z => nomatch z) q1
      by_cases hj : j = i
      · rw [hj, upE_same] at e; cases e
      · rw [upE_ne hj] at e
        exact hj (r1.dist j i q p p y _ e h0 z hi fy rfl)
    · rename_i d h0
      obtain ⟨v', z1, z2⟩ := r1.sl i _ h0
      rw [hi] at z1; cases z1
      exact f.rt H1 g σ ρ1 Ha _ (.d d) s1 (Sub.refl g) r1 z2 (fun _ z => nomatch z) q1
    · exact q1.elim
  · rename_i hx
    exact f.rt H1 g σ ρ1 Ha _ x s1 (Sub.refl g) r1 h1 (fun i z => hx i z) q1
def wIf (c : WT) (a b : WS) : WS := fun D ρ => c D.ex ρ fun t ρ1 => if t = true then a D ρ1 else b D ρ1
theorem js_if {c : Expr} {a b : List Stmt} {pos : Pos} {wc : WT} {wa wb : WS} (hc : JT Φ W m1 c wc) (ha : JSs Φ W m2 a wa) (hb : JSs Φ W m3 b wb) : JS Φ W (m1 + (m2 + m3)) (.If c a b pos) (wIf wc wa wb) := by
  obtain ⟨tc, c1, c2⟩ := hc
  obtain ⟨ta, a1, a2⟩ := ha
  obtain ⟨tb, b1, b2⟩ := hb
  refine ⟨_, fun i => ps_if (c1 i) (a1 i) (b1 i), ?_⟩
  intro B H0 g σ ρ n H D2 D r l h f
  refine c2 B H0 g σ ρ n H _ _ _ r (by omega) h (fun H1 ρ1 Ha t s1 r1 q1 => ?_) (f.x (by omega))
  cases t with
  | true =>
    rw [if_pos rfl] at q1 ⊢
    exact a2 B H1 g σ ρ1 _ Ha D2 D r1 (by omega) q1 (f.mono s1 (by omega) (Sub.refl g))
  | false =>
    rw [if_neg Bool.false_ne_true] at q1 ⊢
    exact b2 B H1 g σ ρ1 _ Ha D2 D r1 (by omega) q1 (f.mono s1 (by omega) (Sub.refl g))
abbrev WG := PyData → Env → (Env → Prop) → Prop
def SimG (K : PySem.W.Frag) (own : List Nat) (t : TG) (w : WG) : Prop := ∀ (B : Base) (H0 : Hp) (g : Option Gs) (σ : St) (ρ : Env) (n : Nat) (H : Hp) (v : V) (d : PyData) (k : Env → Prop) (Q : St → Hp → Prop), RS K B H0 g σ ρ n H → Dq K H0 v d → w d ρ k →
  (∀ σ' ρ', σ'.length = σ.length → (∀ i, i ∉ own → σ'[i]? = σ[i]? ∧ ρ' i = ρ i) → RS K B H0 g σ' ρ' n H → k ρ' → Q σ' H) → t v σ H Q
def JG (Φ : Fam ι) (own : List Nat) (e : Expr) (w : WG) : Prop := ∃ t, (∀ i, PG (Φ.X i) e t) ∧ SimG Φ.K own t w
def gN (i : Nat) : WG := fun d ρ k => k (upE ρ i (some (.d d)))
def gLen (L : Nat) (t : TG) : TG := fun v σ H Q => σ.length = L → t v σ H Q
theorem pg_len {X : Cx} {e : Expr} {t : TG} {N : List Str} (hN : X.N = N) (h : PG X e t) : PG X e (gLen N.length t) := ⟨fun pins s σ H v u Q I r hw => h.run pins s σ H v u Q I r (hw (by rw [I.len, hN]))⟩
theorem simG_name {K : PySem.W.Frag} {L : Nat} {i : Nat} (hi : i < L) : SimG K [i] (gLen L (gName i)) (gN i) := by
  intro B H0 g σ ρ n H v d k Q r h hw q hl
  exact q _ _ (by rw [List.length_set]) (fun j hj => ⟨by rw [List.getElem?_set_ne (fun z => hj (by simp [z]))], upE_ne (fun z => hj (by simp [z]))⟩) (r.set (x := .d d) (by omega) h (fun _ z => nomatch z)) hw
theorem jg_name (i : Nat) {x : Str} {pos : Pos} (hi : Φ.N[i]? = some x := by rfl) (hx : Loc Φ.sc x := by first | exact Or.inl rfl | exact Or.inr rfl) (hf : ∀ j, (Φ.X j).fn x = true ∨ Φ.sc.names.lookup x = some .local := by intro _; first | exact .inl rfl | exact .inr rfl) : JG Φ [i] (.Name x pos) (gN i) :=
  ⟨_, fun j => pg_len (Φ.hN j) (pg_name (by rw [Φ.hN j]; exact Φ.nd) (by rw [Φ.hN j]; exact hi) (by rw [Φ.hsc j]; exact hx) (by rw [Φ.hsc j]; exact hf j)), simG_name (List.getElem?_eq_some_iff.mp hi).1⟩
abbrev WGs := List PyData → Env → (Env → Prop) → Prop
def SimGs (K : PySem.W.Frag) (own : List Nat) (t : TGs) (w : WGs) : Prop := ∀ (B : Base) (H0 : Hp) (g : Option Gs) (σ : St) (ρ : Env) (n : Nat) (H : Hp) (vs : List V) (ds : List PyData) (k : Env → Prop) (Q : St → Hp → Prop), RS K B H0 g σ ρ n H → DqA K H0 vs ds → w ds ρ k →
  (∀ σ' ρ', σ'.length = σ.length → (∀ i, i ∉ own → σ'[i]? = σ[i]? ∧ ρ' i = ρ i) → RS K B H0 g σ' ρ' n H → k ρ' → Q σ' H) → t vs σ H Q
def JGs (Φ : Fam ι) (own : List Nat) (es : List Expr) (w : WGs) : Prop := ∃ t, (∀ i, PGs (Φ.X i) es t) ∧ SimGs Φ.K own t w
def gNil2 : WGs := fun ds ρ k => match ds with
  | [] => k ρ
  | _ => False
def gCons2 (a : WG) (b : WGs) : WGs := fun ds ρ k => match ds with
  | d :: ds => a d ρ fun ρ' => b ds ρ' k
  | [] => False
theorem jgs_nil : JGs Φ [] [] gNil2 := by
  refine ⟨_, fun _ => pgs_nil, ?_⟩
  intro B H0 g σ ρ n H vs ds k Q r h hw q
  cases h with
  | nil => exact ⟨rfl, q σ ρ rfl (fun _ _ => ⟨rfl, rfl⟩) r hw⟩
  | cons _ _ => exact hw.elim
theorem jgs_cons {own1 own2 : List Nat} {e : Expr} {es : List Expr} {a : WG} {b : WGs} (ha : JG Φ own1 e a) (hb : JGs Φ own2 es b) (hs : ∀ i, (assignEach (e :: es) (Φ.X i).env).map (·.2) = assign e (Φ.X i).env :: (assignEach es (Φ.X i).env).map (·.2) := by intro _; rfl) : JGs Φ (own1 ++ own2) (e :: es) (gCons2 a b) := by
  obtain ⟨ta, a1, a2⟩ := ha
  obtain ⟨tb, b1, b2⟩ := hb
  refine ⟨_, fun i => pgs_cons (a1 i) (b1 i) (hs i), ?_⟩
  intro B H0 g σ ρ n H vs ds k Q r h hw q
  cases h with
  | nil => exact hw.elim
  | cons h1 h2 =>
    refine ⟨_, _, rfl, ?_⟩
    refine a2 B H0 g σ ρ n H _ _ _ _ r h1 hw fun σ' ρ' l' e' r' k' => ?_
    refine b2 B H0 g σ' ρ' n H _ _ k Q r' h2 k' fun σ2 ρ2 l2 e2 r2 k2 => ?_
    exact q σ2 ρ2 (l2.trans l') (fun i hi => by
      rw [List.mem_append, not_or] at hi
      exact ⟨(e2 i hi.2).1.trans (e' i hi.1).1, (e2 i hi.2).2.trans (e' i hi.1).2⟩) r2 k2
def gTup2 (n : Nat) (b : WGs) : WG := fun d ρ k => match d with
  | .tuple ds => ds.length = n ∧ b ds ρ k
  | _ => False
theorem jg_tup {own : List Nat} {es : List Expr} {x1 : Nat} {pos : Pos} {b : WGs} {n : Nat} (hb : JGs Φ own es b) (hn : ∀ i, (assignEach es (Φ.X i).env).length = n := by intro _; rfl) (hst : ∀ i, (assignEach es (Φ.X i).env).findIdx? (·.1) = none := by intro _; rfl) (hcm : Φ.cm = true := by rfl) : JG Φ own (.Tuple es x1 pos) (gTup2 n b) := by
  obtain ⟨tb, b1, b2⟩ := hb
  refine ⟨gTup Φ.K n tb, fun i => by have := pg_tup (k := x1) (pos := pos) (Φ.calm hcm i) (b1 i) (hn i) (hst i); rw [Φ.hK i] at this; exact this, ?_⟩
  intro B H0 g σ ρ nn H v d k Q r h hw q
  unfold gTup2 at hw
  split at hw
  · cases h with
    | tup h1 h2 => exact ⟨_, _, rfl, Same.sqt r.ext h1, by rw [h2.length]; exact hw.1, b2 B H0 g σ ρ nn H _ _ k Q r h2 hw.2 q⟩
  · exact hw.elim
def wAsg (i : Nat) (frz : Bool) (a : W2) : WS := fun D ρ => a D.ex ρ fun x ρ1 => match x with
  | .slot j => match ρ1 j with
    | some (.own ds) => D.nx (upE (upE ρ1 j none) i (some (if frz then .d (.list ds) else .own ds)))
    | some (.d d) => D.nx (upE ρ1 i (some (.d d)))
    | _ => False
  | .own ds => D.nx (upE ρ1 i (some (if frz then .d (.list ds) else .own ds)))
  | x => D.nx (upE ρ1 i (some x))
theorem RS.setF {K : PySem.W.Frag} {B : Base} {H0 H : Hp} {g : Option Gs} {σ : St} {ρ : Env} {n : Nat} {v : V} {ds : List PyData} (r : RS K B H0 g σ ρ n H) {j : Nat} (hj : j < σ.length) (frz : Bool) (h : RelR K B H0 H g σ ρ v (.own ds)) :
    ∃ H0', Same H0 H0' ∧ RS K B H0' g (σ.set j (some v)) (upE ρ j (some (if frz = true then .d (.list ds) else .own ds))) n H := by
  cases frz with
  | true =>
    obtain ⟨H1, s1, r1, h1⟩ := r.freezeR h
    exact ⟨H1, s1, r1.set (x := .d (.list ds)) hj h1 (fun _ z => nomatch z)⟩
  | false => exact ⟨H0, Same.refl _, r.set (x := .own ds) hj h (fun _ z => nomatch z)⟩
theorem sim_asg {K : PySem.W.Frag} {mg : MG} {t : TE} {w : W2} {i L : Nat} {frz : Bool} (hi : i < L) (a2 : SimE K mg W m t w) : SimS K mg W m (sLen L (tAsg t (gName i))) (wAsg i frz w) := by
  intro B H0 g σ ρ n H D2 D r l h f hl
  refine a2 B H0 g σ ρ n H _ _ _ r l h (fun H1 ρ1 Ha v x s1 r1 h1 q1 => ?_) (f.x (Nat.le_refl _))
  have hj : i < σ.length := by omega
  have plain : ∀ y, x = y → (∀ ds, y ≠ .own ds) → (∀ j, y ≠ .slot j) → D2.nx (upE ρ1 i (some y)) → D.nx (σ.set i (some v)) Ha := fun y e _ n2 q => by
    subst e
    exact f.nx H1 g _ _ Ha s1 (Sub.refl g) (r1.set hj h1 n2) q
  cases x with
  | slot j =>
    have hv : σ[j]? = some (some v) := h1
    cases e : ρ1 j with
    | none => simp only [e] at q1
    | some y =>
      cases y with
      | own ds =>
        simp only [e] at q1
        obtain ⟨v', z1, p, rfl, z2⟩ := r1.sl j _ e
        rw [hv] at z1; cases z1
        have r2 : RS K B H1 g σ (upE ρ1 j none) (n + m) Ha := r1.weak fun j' y q => by
          by_cases hj' : j' = j
          · rw [hj', upE_same] at q; cases q
          · rw [upE_ne hj'] at q; exact ⟨q, rfl⟩
        have h2 : RelR K B H1 Ha g σ (upE ρ1 j none) (.ref p) (.own ds) := ⟨p, rfl, z2, fun j' y q2 e' z fy => by
          by_cases hj' : j' = j
          · rw [hj', upE_same] at e'; cases e'
          · rw [upE_ne hj'] at e'
            exact hj' (r1.dist j' j q2 p p y _ e' e z hv fy rfl)⟩
        obtain ⟨H2, s2, r3⟩ := r2.setF hj frz h2
        exact f.nx H2 g _ _ Ha (s1.trans s2) (Sub.refl g) r3 q1
      | d d =>
        simp only [e] at q1
        obtain ⟨v', z1, z2⟩ := r1.sl j _ e
        rw [hv] at z1; cases z1
        exact f.nx H1 g _ _ Ha s1 (Sub.refl g) (r1.set (x := .d d) hj z2 (fun _ z => nomatch z)) q1
      | slot _ => simp only [e] at q1
      | drw => simp only [e] at q1
      | scr _ => simp only [e] at q1
      | ob _ => simp only [e] at q1
  | own ds =>
    obtain ⟨H2, s2, r3⟩ := r1.setF hj frz h1
    exact f.nx H2 g _ _ Ha (s1.trans s2) (Sub.refl g) r3 q1
  | d d => exact plain _ rfl (fun _ z => nomatch z) (fun _ z => nomatch z) q1
  | drw => exact plain _ rfl (fun _ z => nomatch z) (fun _ z => nomatch z) q1
  | scr ns => exact plain _ rfl (fun _ z => nomatch z) (fun _ z => nomatch z) q1
  | ob o => exact plain _ rfl (fun _ z => nomatch z) (fun _ z => nomatch z) q1
theorem js_asg (i : Nat) (frz : Bool) {x : Str} {a : Expr} {pos pos' : Pos} {wa : W2} (ha : JE Φ W m a wa) (hi : Φ.N[i]? = some x := by rfl) (hx : Loc Φ.sc x := by first | exact Or.inl rfl | exact Or.inr rfl) (hs : ∀ j, swapsWith a (some (.Name x pos')) pos.line (Φ.X j).env = pure false := by intro _; rfl) (hf : ∀ j, (Φ.X j).fn x = true ∨ Φ.sc.names.lookup x = some .local := by intro _; first | exact .inl rfl | exact .inr rfl) :
    JS Φ W m (.Assign [.Name x pos'] a pos) (wAsg i frz wa) := by
  obtain ⟨ta, a1, a2⟩ := ha
  exact ⟨_, fun j => ps_len (Φ.hN j) (ps_set (by rw [Φ.hN j]; exact Φ.nd) (by rw [Φ.hN j]; exact hi) (by rw [Φ.hsc j]; exact hx) (a1 j) (hs j) (by rw [Φ.hsc j]; exact hf j)), sim_asg (List.getElem?_eq_some_iff.mp hi).1 a2⟩
def wAsgT (gt : WG) (a : W2) : WS := fun D ρ => a D.ex ρ fun x ρ1 => match x with
  | .d d => gt d ρ1 D.nx
  | _ => False
theorem js_asgT {own : List Nat} {tg a : Expr} {pos : Pos} {wa : W2} {gt : WG} (ha : JE Φ W m a wa) (hg : JG Φ own tg gt) (hs : ∀ i, swapsWithSole [tg] a pos.line (Φ.X i).env = pure false := by intro _; rfl) (hw : ∀ i, swappedStores [tg] a (Φ.X i).env = pure none := by intro _; rfl)
    (h1 : ∀ i, (assignEach [tg] (Φ.X i).env).map (·.2) = [assign tg (Φ.X i).env] := by intro _; rfl) : JS Φ W m (.Assign [tg] a pos) (wAsgT gt wa) := by
  obtain ⟨ta, a1, a2⟩ := ha
  obtain ⟨tg, g1, g2⟩ := hg
  refine ⟨tAsg ta tg, fun i => ps_asg (a1 i) (g1 i) (hs i) (hw i) (h1 i), ?_⟩
  intro B H0 g σ ρ n H D2 D r l h f
  refine a2 B H0 g σ ρ n H _ _ _ r l h (fun H1 ρ1 Ha v x s1 r1 h1 q1 => ?_) (f.x (Nat.le_refl _))
  split at q1
  · exact g2 B H1 g σ ρ1 _ Ha v _ _ _ r1 h1 q1 fun σ' ρ' l' _ r' k' => f.nx H1 g σ' ρ' Ha s1 (Sub.refl g) r' k'
  · exact q1.elim
def wPar (i j : Nat) (a : WA) : WS := fun D ρ => a D.ex ρ fun xs ρ1 => match xs with
  | [.d x, .d y] => D.nx (upE (upE ρ1 i (some (.d x))) j (some (.d y)))
  | _ => False
theorem js_par (i j : Nat) {x y : Str} {a b : Expr} {px py pt : Pos} {kt k2 pt2} {pos : Pos} {wa : WA} (ha : JA Φ W m [a, b] wa) (hi : Φ.N[i]? = some x := by rfl) (hj : Φ.N[j]? = some y := by rfl) (hij : i ≠ j := by decide) (hx : Φ.sc.names.lookup x = some .local := by rfl) (hy : Φ.sc.names.lookup y = some .local := by rfl)
    (hw : ∀ l, swappedStores [.Tuple [.Name x px, .Name y py] kt pt] (.Tuple [a, b] k2 pt2) (Φ.X l).env = pure (some [x, y]) := by intro _; rfl) (hs : ∀ l, swapsWithSole [.Tuple [.Name x px, .Name y py] kt pt] (.Tuple [a, b] k2 pt2) pos.line (Φ.X l).env = pure false := by intro _; rfl) (hcm : Φ.cm = true := by rfl) :
    JS Φ W m (.Assign [.Tuple [.Name x px, .Name y py] kt pt] (.Tuple [a, b] k2 pt2) pos) (wPar i j wa) := by
  obtain ⟨ta, a1, a2⟩ := ha
  refine ⟨_, fun l => ps_len (Φ.hN l) (ps_par (Φ.calm hcm l) (by rw [Φ.hN l]; exact Φ.nd) (by rw [Φ.hN l]; exact hi) (by rw [Φ.hN l]; exact hj) hij (by rw [Φ.hsc l]; exact hx) (by rw [Φ.hsc l]; exact hy) (a1 l) (hw l) (hs l)), ?_⟩
  intro B H0 g σ ρ n H D2 D r l h f hl
  have b1 := (List.getElem?_eq_some_iff.mp hi).1
  have b2 := (List.getElem?_eq_some_iff.mp hj).1
  refine a2 B H0 g σ ρ n H _ _ _ r l h (fun H1 ρ1 Ha vs xs s1 r1 h1 _ q1 => ?_) (f.x (Nat.le_refl _))
  split at q1
  · cases h1 with
    | cons h1 h2 => cases h2 with
      | cons h2 h3 =>
        cases h3
        refine ⟨_, _, rfl, ?_⟩
        have r2 := r1.set (x := .d _) (j := i) (by omega) h1 (fun _ z => nomatch z)
        have r3 := r2.set (x := .d _) (j := j) (by rw [List.length_set]; omega) (show Dq Φ.K H1 _ _ from h2) (fun _ z => nomatch z)
        exact f.nx H1 g _ _ Ha s1 (Sub.refl g) r3 q1
  · exact q1.elim
end
end B2

namespace B2
open PySem L2
section
variable {ι : Type} {Φ : Fam ι} {W : WX} {m m1 m2 m3 : Nat}
def forL (gt : WG) (b : WS) (D : Ends2) : List PyData → Env → Prop
  | [], ρ => D.nx ρ
  | d :: ds, ρ => gt d ρ fun ρ' => b { D with nx := forL gt b D ds, ct := forL gt b D ds, bk := D.nx } ρ'
def wFor (wi : WI) (gt : WG) (b : WS) : WS := fun D ρ => wi D.ex ρ fun ds ρ1 => forL gt b D ds ρ1
theorem sim_for {K : PySem.W.Frag} {mg : MG} {own : List Nat} {wi : TI} {g : TG} {tb : TS} {w1 : WI} {w2 : WG} {w3 : WS} (h1 : SimI K mg W m1 wi w1) (h2 : SimG K own g w2) (h3 : SimS K mg W m2 tb w3) : SimS K mg W (m1 + 2 ^ 62 * m2) (tFor wi g tb) (wFor w1 w2 w3) := by
  intro B H0 gs σ ρ n H D2 D r l h f
  refine h1 B H0 gs σ ρ n H _ _ _ r (by omega) h (fun H1 ρ1 Ha J ds s1 r1 wk hz q1 => ?_) (f.x (by omega))
  have cost : ∀ i, i ≤ ds.length → i * m2 ≤ 2 ^ 62 * m2 := fun i hi => Nat.mul_le_mul_right m2 (Nat.le_trans hi hz)
  refine ⟨fun i mm σ' H' => mm = ds.length - i ∧ i ≤ ds.length ∧ ∃ H0i gi ρi, Same H1 H0i ∧ Sub gi gs ∧ RS K B H0i gi σ' ρi (n + m1 + i * m2) H' ∧ forL w2 w3 D2 (ds.drop i) ρi, ⟨ds.length, by simp, Nat.zero_le _, H1, gs, ρ1, Same.refl _, Sub.refl _, by simpa using r1, q1⟩, ?_⟩
  rintro i mm σ' H' ⟨rfl, hi, H0i, gi, ρi, si, sgi, ri, qi⟩
  have ci := cost i hi
  by_cases hlt : i < ds.length
  · refine .inr ⟨wk.goes i H' hlt (fun p o e => ri.ext p o (si p o e)), fun σ2 H2 => ∃ mm', mm' < ds.length - i ∧ (mm' = ds.length - (i + 1) ∧ i + 1 ≤ ds.length ∧ ∃ H0i gi ρi, Same H1 H0i ∧ Sub gi gs ∧ RS K B H0i gi σ2 ρi (n + m1 + (i + 1) * m2) H2 ∧ forL w2 w3 D2 (ds.drop (i + 1)) ρi), fun σ2 H2 hN => hN, fun x H2 y => ?_⟩
    obtain ⟨d, hd, hy⟩ := wk.yields i H' x H2 hlt (fun p o e => ri.ext p o (si p o e)) y
    have hdr : ds.drop i = d :: ds.drop (i + 1) := by
      rw [List.drop_eq_getElem_cons hlt]
      rw [List.getElem?_eq_getElem hlt] at hd
      cases hd; rfl
    rw [hdr] at qi
    obtain ⟨H0j, sj, rj, dj⟩ : ∃ H0j, Same H0i H0j ∧ RS K B H0j gi σ' ρi (n + m1 + i * m2) H2 ∧ Dq K H0j x d := by
      rcases hy with ⟨e, hx⟩ | ⟨T, vs, es, rfl, hT, e, rfl, q⟩
      · subst e
        exact ⟨H0i, Same.refl _, ri, Dq.mono si hx⟩
      · subst e
        obtain ⟨r', s'⟩ := ri.lay (o := .tup vs) hT
        exact ⟨_, s', r', .tup (SqT.of upd_same) (q.mono (si.trans s'))⟩
    refine h2 B H0j gi σ' ρi _ H2 x d _ _ rj dj qi fun σ3 ρ3 l3 e3 r3 k3 => ?_
    have ci1 := cost (i + 1) hlt
    have e1 : (i + 1) * m2 = i * m2 + m2 := Nat.succ_mul i m2
    have bnd : n + m1 + i * m2 + m2 ≤ n + (m1 + 2 ^ 62 * m2) := by omega
    refine h3 B H0j gi σ3 ρ3 _ H2 { D2 with nx := forL w2 w3 D2 (ds.drop (i + 1)), ct := forL w2 w3 D2 (ds.drop (i + 1)), bk := D2.nx } _ r3 (by omega) k3 ?_
    have f2 := f.mono ((s1.trans si).trans sj) bnd sgi
    have again : ∀ H0' g' σ4 ρ4 H4, Same H0j H0' → Sub g' gi → RS K B H0' g' σ4 ρ4 (n + m1 + i * m2 + m2) H4 → forL w2 w3 D2 (ds.drop (i + 1)) ρ4 → ∃ mm', mm' < ds.length - i ∧ (mm' = ds.length - (i + 1) ∧ i + 1 ≤ ds.length ∧ ∃ H0i gi ρi, Same H1 H0i ∧ Sub gi gs ∧ RS K B H0i gi σ4 ρi (n + m1 + (i + 1) * m2) H4 ∧ forL w2 w3 D2 (ds.drop (i + 1)) ρi) := fun H0' g' σ4 ρ4 H4 s4 z4 r4 k4 =>
      ⟨_, by omega, rfl, hlt, H0', g', ρ4, (si.trans sj).trans s4, z4.trans sgi, by rw [e1, ← Nat.add_assoc]; exact r4, k4⟩
    exact ⟨fun H0' g' σ4 ρ4 H4 s4 z4 r4 k4 => again H0' g' σ4 ρ4 H4 s4 z4 r4 k4, f2.rt, fun H0' g' σ4 ρ4 H4 s4 z4 r4 k4 => f2.nx H0' g' σ4 ρ4 H4 s4 z4 r4 k4, fun H0' g' σ4 ρ4 H4 s4 z4 r4 k4 => again H0' g' σ4 ρ4 H4 s4 z4 r4 k4, f2.ex⟩
  · have e : i = ds.length := by omega
    subst e
    refine .inl ⟨wk.stops H' (fun p o e => ri.ext p o (si p o e)), ?_⟩
    rw [List.drop_length] at qi
    exact f.nx H0i gi σ' ρi H' (s1.trans si) sgi (ri.count (by omega)) qi
theorem js_for {own : List Nat} {tg iter : Expr} {body : List Stmt} {pos : Pos} {w1 : WI} {w2 : WG} {w3 : WS} (hi : JI Φ W m1 tg iter w1) (hg : JG Φ own tg w2) (hb : JSs Φ W m2 body w3) (hs : ∀ i x, foldedSetIterable iter (Φ.X i).env x = pure x := by intro _ _; rfl) (hcm : Φ.cm = true := by rfl) : JS Φ W (m1 + 2 ^ 62 * m2) (.For tg iter body [] pos) (wFor w1 w2 w3) :=
  let ⟨_, a1, a2⟩ := hi; let ⟨_, b1, b2⟩ := hg; let ⟨_, c1, c2⟩ := hb
  ⟨_, fun i => ps_for (Φ.pass i) (Φ.calm hcm i) (a1 i) (b1 i) (c1 i) (hs i), sim_for a2 b2 c2⟩
def whileN (c : WT) (b : WS) (D : Ends2) : Nat → Env → Prop
  | 0, _ => False
  | n + 1, ρ => c D.ex ρ fun t ρ1 => if t = true then b { D with nx := whileN c b D n, ct := whileN c b D n, bk := D.nx } ρ1 else D.nx ρ1
def wWhile (mb : Nat) (M : Nat) (c : WT) (b : WS) : WS := fun D ρ => ∃ N, N * mb ≤ M ∧ whileN c b D N ρ
theorem sim_while {K : PySem.W.Frag} {mg : MG} {tc : TT} {tb : TS} {wc : WT} {wb : WS} {M : Nat} (h1 : SimT K mg W m1 tc wc) (h2 : SimS K mg W m2 tb wb) : SimS K mg W M (tWhile tc tb) (wWhile (m1 + m2) M wc wb) := by
  intro B H0 g σ ρ n H D2 D r l ⟨N, hN, h⟩ f
  refine ⟨fun k σ' H' => ∃ H0' g' ρ', Same H0 H0' ∧ Sub g' g ∧ k ≤ N ∧ RS K B H0' g' σ' ρ' (n + (N - k) * (m1 + m2)) H' ∧ whileN wc wb D2 k ρ', ⟨N, H0, g, ρ, Same.refl _, Sub.refl _, Nat.le_refl _, by simpa using r, h⟩, ?_⟩
  rintro k σ' H' ⟨H0i, gi, ρi, si, sgi, hk, ri, hi⟩
  cases k with
  | zero => exact hi.elim
  | succ k =>
    have hm : (N - (k + 1)) * (m1 + m2) + (m1 + m2) = (N - k) * (m1 + m2) := by
      have : N - k = N - (k + 1) + 1 := by omega
      rw [this, Nat.succ_mul]
    have hm2 : (N - k) * (m1 + m2) ≤ N * (m1 + m2) := Nat.mul_le_mul_right _ (Nat.sub_le _ _)
    have f1 := f.mono si (show n + (N - (k + 1)) * (m1 + m2) + (m1 + m2) ≤ n + M by omega) sgi
    refine h1 B H0i gi σ' ρi _ H' _ _ _ ri (by omega) hi (fun H1 ρ1 Ha t s1 r1 q1 => ?_) (f1.x (by omega))
    cases t with
    | true =>
      rw [if_pos rfl] at q1 ⊢
      refine ⟨fun σ2 H2 => ∃ k', k' < k + 1 ∧ ∃ H0' g' ρ', Same H0 H0' ∧ Sub g' g ∧ k' ≤ N ∧ RS K B H0' g' σ2 ρ' (n + (N - k') * (m1 + m2)) H2 ∧ whileN wc wb D2 k' ρ', fun σ2 H2 hh => hh, ?_⟩
      refine h2 B H1 gi σ' ρ1 _ Ha { D2 with nx := whileN wc wb D2 k, ct := whileN wc wb D2 k, bk := D2.nx } _ r1 (by omega) q1 ?_
      have f2 := f1.mono s1 (show n + (N - (k + 1)) * (m1 + m2) + m1 + m2 ≤ n + (N - (k + 1)) * (m1 + m2) + (m1 + m2) by omega) (Sub.refl gi)
      have again : ∀ H0' g' σ4 ρ4 H4, Same H1 H0' → Sub g' gi → RS K B H0' g' σ4 ρ4 (n + (N - (k + 1)) * (m1 + m2) + m1 + m2) H4 → whileN wc wb D2 k ρ4 → ∃ k', k' < k + 1 ∧ ∃ H0' g' ρ', Same H0 H0' ∧ Sub g' g ∧ k' ≤ N ∧ RS K B H0' g' σ4 ρ' (n + (N - k') * (m1 + m2)) H4 ∧ whileN wc wb D2 k' ρ' := fun H0' g' σ4 ρ4 H4 s4 z4 r4 k4 =>
        ⟨k, Nat.lt_succ_self k, H0', g', ρ4, (si.trans s1).trans s4, z4.trans sgi, by omega, r4.count (by omega), k4⟩
      exact ⟨again, f2.rt, f2.nx, again, f2.ex⟩
    | false =>
      rw [if_neg Bool.false_ne_true] at q1 ⊢
      exact f1.nx H1 gi σ' ρ1 Ha s1 (Sub.refl gi) (r1.count (by omega)) q1
theorem js_while (M : Nat) {c : Expr} {body : List Stmt} {pos : Pos} {wc : WT} {wb : WS} (hc : JT Φ W m1 c wc) (hb : JSs Φ W m2 body wb) : JS Φ W M (.While c body [] pos) (wWhile (m1 + m2) M wc wb) :=
  let ⟨_, a1, a2⟩ := hc; let ⟨_, b1, b2⟩ := hb
  ⟨_, fun i => ps_while (Φ.pass i) (a1 i) (b1 i), sim_while a2 b2⟩
end
end B2

namespace B2
open PySem L2 PySem.Calls
open PyProof.Rows (envOfC)
theorem wipe_ne {σ : St} {i : Nat} : ∀ {vs : List Nat}, i ∉ vs → (wipe σ vs)[i]? = σ[i]?
  | [], _ => rfl
  | v :: vs, h => by
    rw [List.mem_cons, not_or] at h
    unfold wipe
    rw [List.getElem?_set_ne (fun z => h.1 z.symm), wipe_ne h.2]
theorem wipe_in {σ : St} {i : Nat} : ∀ {vs : List Nat}, i ∈ vs → (wipe σ vs)[i]? = if i < σ.length then some none else none
  | v :: vs, h => by
    unfold wipe
    by_cases hv : v = i
    · subst hv
      rw [List.getElem?_set]
      simp [wipe_length]
    · rw [List.getElem?_set_ne hv]
      rcases List.mem_cons.mp h with e | h
      · exact absurd e.symm hv
      · exact wipe_in h
theorem wipe_eq {σ σ2 : St} {vs : List Nat} (hl : σ2.length = (wipe σ vs).length) (h : ∀ i, i ∉ vs → σ2[i]? = (wipe σ vs)[i]?) : wipe σ2 vs = wipe σ vs := by
  refine List.ext_getElem? fun i => ?_
  by_cases hi : i ∈ vs
  · rw [wipe_in hi, wipe_in hi, hl, wipe_length]
  · rw [wipe_ne hi, h i hi]
def isOwn : Option X2 → Bool
  | some (.own _) => true
  | some (.ob _) => true
  | _ => false
theorem Foot.own {x : X2} {p a : Addr} (h : Foot x p a) : isOwn (some x) = true := by
  cases x with
  | own _ => rfl
  | ob _ => rfl
  | d _ => exact h.elim
  | slot _ => exact h.elim
  | drw => exact h.elim
  | scr _ => exact h.elim
def wipeE (ρ : Env) (own : List Nat) : Env := fun i => if i ∈ own then none else if isOwn (ρ i) = true then none else ρ i
def noX : Xn := fun _ _ => False
def lcL (gt : WG) (wt : WT) (we : W2) (ρb : Env) (k : List PyData → Prop) : List PyData → List PyData → Prop
  | [], acc => k acc
  | d :: ds, acc => gt d ρb fun ρ2 => wt noX ρ2 fun b ρ3 => ρ3 = ρ2 ∧ if b = true then we noX ρ3 (fun y ρ4 => ρ4 = ρ3 ∧ match y with
      | .d dy => lcL gt wt we ρb k ds (acc ++ [dy])
      | .own es => lcL gt wt we ρb k ds (acc ++ [.list es])
      | _ => False) else lcL gt wt we ρb k ds acc
def wLc (own : List Nat) (wi : WI) (gt : WG) (wt : WT) (we : W2) : W2 := fun e ρ k => wi e ρ fun ds ρ1 => ds.length ≤ 16777216 ∧ lcL gt wt we (wipeE ρ1 own) (fun acc => k (.own acc) ρ1) ds []
section
variable {K : PySem.W.Frag} {B : Base} {H0 H0' H H' : Hp} {g : Option Gs} {σ σ' : St} {ρ ρ' : Env} {n m : Nat} {v : V} {x : X2}
theorem RS.mutT (r : RS K B H0 g σ ρ n H) {p : Addr} {ds es : List PyData} (h : RelR K B H0 H g σ ρ (.ref p) (.own ds)) {vs : List V} (q : DqA K H0 vs es) :
    RS K B H0 g σ ρ n (upd H p (.lst vs)) ∧ RelR K B H0 (upd H p (.lst vs)) g σ ρ (.ref p) (.own es) := by
  obtain ⟨p', e, ⟨ws, h1, h2, h3, h4, h5⟩, h6⟩ := h
  cases e
  refine ⟨⟨r.hb, r.new, fun b u e => ?_, fun b u e z => ?_, fun g' e => (r.drw g' e).keep fun b u hb z => ?_, r.drf, r.gg, fun j x q' => ?_, r.dist⟩, p, rfl, ⟨vs, upd_same, q, h3, h4, h5⟩, h6⟩
  · rw [upd_ne (fun z : b = p => by rw [z, h3] at e; cases e)]; exact r.ext b u e
  · rw [upd_ne (fun z' : b = p => by rw [z', h4] at e; cases e)]; exact r.keep b u e z
  · rw [upd_ne (fun z' : b = p => h5 (by rw [← z', e]; exact hb))]; exact z
  · obtain ⟨v, k1, k2⟩ := r.sl j x q'
    refine ⟨v, k1, k2.keep (Same.refl _) fun q2 a e fa => ⟨fun u z => ?_, id⟩⟩
    have hne : a ≠ p := fun z => h6 j x q2 q' (by rw [k1, e]) (by rw [← z]; exact fa)
    rw [upd_ne hne]; exact z
theorem RS.inner (r : RS K B H0 g σ ρ n H) (h : ∀ i y, ρ' i = some y → ρ i = some y ∧ σ'[i]? = σ[i]? ∧ isOwn (some y) = false) : RS K ⟨H, H0, g⟩ H0 g σ' ρ' n H := by
  refine ⟨Same.refl _, fun p o e => .inl e, r.ext, fun p o e _ => e, r.drw, r.drf, .inl rfl, fun i y q => ?_, fun i j p q a x y e1 _ _ _ f _ => ?_⟩
  · obtain ⟨a, b, c⟩ := h i y q
    obtain ⟨v, k1, k2⟩ := r.sl i y a
    refine ⟨v, by rw [b]; exact k1, ?_⟩
    cases y with
    | own _ => cases c
    | ob _ => cases c
    | d _ => exact k2
    | slot _ => exact k2
    | drw => exact k2
    | scr _ => exact k2
  · have := (h i _ e1).2.2
    rw [f.own] at this; cases this
theorem RS.innerLeft {σ2 : St} {ρ2 : Env} {n2 : Nat} {H02 H2 : Hp} (r : RS K ⟨H, H0, g⟩ H02 g σ2 ρ2 n2 H2) : Left H0 H02 H H2 g n2 :=
  ⟨r.hb, fun p o e => r.new p o e, r.ext, fun p o e z => r.keep p o e z, r.drw, r.drf⟩
theorem RelR.left {Hr : Hp} {n' : Nat} {p : Addr} {ds : List PyData} (h : RelR K B H0 H g σ ρ (.ref p) (.own ds)) (l : Left H0 Hr H H' g n') : RelR K B Hr H' g σ ρ (.ref p) (.own ds) := by
  obtain ⟨p', e, ⟨ws, h1, h2, h3, h4, h5⟩, h6⟩ := h
  cases e
  refine ⟨p, rfl, ⟨ws, l.keep p _ h1 h5, h2.mono l.b, ?_, h4, h5⟩, h6⟩
  cases z : Hr p with
  | none => rfl
  | some o =>
    rcases l.new p o z with k | k
    · rw [h3] at k; cases k
    · rw [h1] at k; cases k
end
theorem sim_lc {K : PySem.W.Frag} {mg : MG} {W : WX} {m1 m2 m3 : Nat} {own : List Nat} {wi : TI} {g : TG} {tt : TT} {te : TE} {w1 : WI} {w2 : WG} {w3 : WT} {w4 : W2} (h1 : SimI K mg W m1 wi w1) (h2 : SimG K own g w2) (h3 : SimT K mg W m2 tt w3) (h4 : SimE K mg W m3 te w4) :
    SimE K mg W (m1 + 2 ^ 62 * (m2 + m3)) (tLc wi g tt te own) (wLc own w1 w2 w3 w4) := by
  intro B H0 gs σ ρ n H e k Q rs l hw q xq
  refine h1 B H0 gs σ ρ n H _ _ _ rs (by omega) hw (fun H1 ρ1 Ha J ds s1 r1 wk hz q1 => ?_) (fun H0' ρ' H' nm cls d s r' => xq H0' ρ' H' nm cls d s (r'.count (by omega)))
  obtain ⟨hsz, q1⟩ := q1
  intro D hD
  have cost : ∀ i, i ≤ ds.length → i * (m2 + m3) ≤ 2 ^ 62 * (m2 + m3) := fun i hi => Nat.mul_le_mul_right _ (Nat.le_trans hi hz)
  obtain ⟨r2, t2⟩ := r1.mkOwn (vs := []) (ds := []) hD .nil
  refine ⟨fun i mm H' => mm = ds.length - i ∧ i ≤ ds.length ∧ ∃ H0i acc, Same H1 H0i ∧ RS K B H0i gs σ ρ1 (n + m1 + i * (m2 + m3)) H' ∧ RelR K B H0i H' gs σ ρ1 (.ref D) (.own acc) ∧ acc.length ≤ i ∧ lcL w2 w3 w4 (wipeE ρ1 own) (fun acc => k (.own acc) ρ1) (ds.drop i) acc,
    ⟨ds.length, by simp, Nat.zero_le _, H1, [], Same.refl _, by simpa using r2, t2, Nat.le_refl _, q1⟩, ?_⟩
  rintro i mm H' ⟨rfl, hi, H0i, acc, si, ri, ti, hacc, qi⟩
  have ci := cost i hi
  by_cases hlt : i < ds.length
  · have ci1 := cost (i + 1) hlt
    have e1 : (i + 1) * (m2 + m3) = i * (m2 + m3) + (m2 + m3) := Nat.succ_mul i _
    refine .inr ⟨wk.goes i H' hlt (fun p o e => ri.ext p o (si p o e)), fun H2 => i + 1 ≤ ds.length ∧ ∃ H0i acc, Same H1 H0i ∧ RS K B H0i gs σ ρ1 (n + m1 + (i + 1) * (m2 + m3)) H2 ∧ RelR K B H0i H2 gs σ ρ1 (.ref D) (.own acc) ∧ acc.length ≤ i + 1 ∧ lcL w2 w3 w4 (wipeE ρ1 own) (fun acc => k (.own acc) ρ1) (ds.drop (i + 1)) acc,
      fun H2 hN => ⟨_, by omega, rfl, hN.1, hN.2⟩, fun x H2 y => ?_⟩
    obtain ⟨d, hd, hy⟩ := wk.yields i H' x H2 hlt (fun p o e => ri.ext p o (si p o e)) y
    have hdr : ds.drop i = d :: ds.drop (i + 1) := by
      rw [List.drop_eq_getElem_cons hlt]
      rw [List.getElem?_eq_getElem hlt] at hd
      cases hd; rfl
    rw [hdr] at qi
    obtain ⟨H0j, sj, rj, dj, tj⟩ : ∃ H0j, Same H0i H0j ∧ RS K B H0j gs σ ρ1 (n + m1 + i * (m2 + m3)) H2 ∧ Dq K H0j x d ∧ RelR K B H0j H2 gs σ ρ1 (.ref D) (.own acc) := by
      rcases hy with ⟨e, hx⟩ | ⟨T, vs, es, rfl, hT, e, rfl, q⟩
      · subst e
        exact ⟨H0i, Same.refl _, ri, Dq.mono si hx, ti⟩
      · subst e
        obtain ⟨r', s'⟩ := ri.lay (o := .tup vs) hT
        obtain ⟨p', e', ⟨ws, k1, k2, k3, k4, k5⟩, k6⟩ := id ti
        cases e'
        have hne : D ≠ T := ne_of_none k1 hT
        exact ⟨_, s', r', .tup (SqT.of upd_same) (q.mono (si.trans s')), D, rfl, ⟨ws, by rw [upd_ne hne]; exact k1, k2.mono s', by rw [upd_ne hne]; exact k3, k4, k5⟩, k6⟩
    -- within the block
    have rb : RS K ⟨H2, H0j, gs⟩ H0j gs (wipe σ own) (wipeE ρ1 own) (n + m1 + i * (m2 + m3)) H2 := rj.inner fun j y q => by
      unfold wipeE at q
      by_cases hj : j ∈ own
      · rw [if_pos hj] at q; cases q
      · rw [if_neg hj] at q
        by_cases ho : isOwn (ρ1 j) = true
        · rw [if_pos ho] at q; cases q
        · rw [if_neg ho] at q
          exact ⟨q, wipe_ne hj, by rw [← q]; exact Bool.eq_false_iff.mpr ho⟩
    refine h2 _ H0j gs (wipe σ own) (wipeE ρ1 own) _ H2 x d _ _ rb dj qi fun σ3 ρ3 l3 e3 r3 k3 => ?_
    refine ⟨wipe_eq l3 (fun j hj => (e3 j hj).1), ?_⟩
    refine h3 _ H0j gs σ3 ρ3 _ H2 noX _ _ r3 (by omega) k3 (fun H4 ρ4 Hb b s4 r4 q4 => ?_) (fun _ _ _ _ _ _ _ _ z => z.elim)
    obtain ⟨e4, q4⟩ := q4
    cases b with
    | true =>
      rw [if_pos rfl] at q4 ⊢
      refine h4 _ H4 gs σ3 ρ4 _ Hb noX _ _ r4 (by omega) q4 (fun H5 ρ5 Hc vy y s5 r5 h5 q5 => ?_) (fun _ _ _ _ _ _ _ _ z => z.elim)
      obtain ⟨e5, q5⟩ := q5
      -- the element, as frozen data
      obtain ⟨dy, H6, s6, r6, d6, q6⟩ : ∃ dy H6, Same H5 H6 ∧ RS K ⟨H2, H0j, gs⟩ H6 gs σ3 ρ5 (n + m1 + i * (m2 + m3) + m2 + m3) Hc ∧ Dq K H6 vy dy ∧ lcL w2 w3 w4 (wipeE ρ1 own) (fun acc => k (.own acc) ρ1) (ds.drop (i + 1)) (acc ++ [dy]) := by
        cases y with
        | d dy => exact ⟨dy, H5, Same.refl _, r5, h5, q5⟩
        | own es =>
          obtain ⟨H6, s6, r6, d6⟩ := r5.freezeR h5
          exact ⟨.list es, H6, s6, r6, d6, q5⟩
        | slot _ => exact q5.elim
        | drw => exact q5.elim
        | scr _ => exact q5.elim
        | ob _ => exact q5.elim
      have lf := r6.innerLeft
      have r7 := rj.left lf
      have t7 := tj.left lf
      obtain ⟨p', e', ⟨ws, k1, k2, k3, k4, k5⟩, k6⟩ := id t7
      cases e'
      refine ⟨ws, k1, by rw [k2.length, sizeLine_eq]; omega, hlt, ?_⟩
      obtain ⟨r8, t8⟩ := r7.mutT t7 (k2.append (.cons d6 .nil))
      exact ⟨H6, _, (si.trans sj).trans lf.b, by rw [e1]; exact r8.count (by omega), t8, by rw [List.length_append]; simp; omega, q6⟩
    | false =>
      rw [if_neg Bool.false_ne_true] at q4 ⊢
      have lf := r4.innerLeft
      exact ⟨hlt, H4, acc, (si.trans sj).trans lf.b, by rw [e1]; exact (rj.left lf).count (by omega), tj.left lf, by omega, q4⟩
  · have e : i = ds.length := by omega
    subst e
    refine .inl ⟨wk.stops H' (fun p o e => ri.ext p o (si p o e)), ?_⟩
    rw [List.drop_length] at qi
    exact q H0i ρ1 H' _ (.own acc) (s1.trans si) (ri.count (by omega)) ti qi
def Fam.blk {ι : Type} (Φ : Fam ι) (scope : Scope) : Fam (ι × Shared × Hp × Addr × List (Str × Addr) × List Addr) where
  X := fun q => (Φ.X q.1).blk q.2.1 q.2.2.1 scope (compEnvC scope q.2.2.2.2.1 q.2.2.2.1 (Φ.X q.1).env) q.2.2.2.2.2
  K := Φ.K
  mg := Φ.mg
  N := Φ.N
  sc := relS scope Φ.sc
  k := Φ.k
  P := Φ.P
  w := Φ.w
  base := Φ.base
  hK := fun q => Φ.hK q.1
  hmg := fun q => Φ.hmg q.1
  hN := fun q => Φ.hN q.1
  hsc := fun q => by
    have h := Φ.hsc q.1
    show relS scope (Φ.X q.1).env.scope = relS scope Φ.sc
    rw [h]
  hP := fun q => Φ.hP q.1
  hw := fun q => Φ.hw q.1
  hbase := fun q => Φ.hbase q.1
  rm := fun q => Φ.rm q.1
  room := fun h q => Φ.room h q.1
  gd := fun q => Φ.gd q.1
  sr := Φ.sr
  stk := fun q => Φ.stk q.1
  cm := Φ.cm
  calm := fun h q => Φ.calm h q.1
  nd := Φ.nd
  pass := fun _ => PassesOwn.never
section
variable {ι : Type} {Φ : Fam ι} {W : WX} {m m1 m2 m3 : Nat}
def JTs (Φ : Fam ι) (W : WX) (m : Nat) (es : List Expr) (w : WT) : Prop := ∃ t, (∀ i, PTs (Φ.X i) es t) ∧ SimT Φ.K Φ.mg W m t w
def wYes : WT := fun _ ρ k => k true ρ
theorem jts_nil : JTs Φ W 0 [] wYes := ⟨_, fun _ => pts_nil, fun B H0 g σ ρ n H e k Q r l h q _ => q H0 ρ H true (Same.refl _) r h⟩
theorem jts_one {e : Expr} {w : WT} (h : JT Φ W m e w) : JTs Φ W m [e] w := let ⟨t, a, b⟩ := h; ⟨t, fun i => pts_one (a i), b⟩
theorem je_lc (own : List (Str × Nat)) {elt tg iter : Expr} {ifs : List Expr} {scope : Scope} {pos : Pos} {w1 : WI} {w2 : WG} {w3 : WT} {w4 : W2} (hi : JI Φ W m1 tg iter w1) (ok : blkC Φ.N Φ.sc scope own = true) (hg : JG (Φ.blk scope) (own.map (·.2)) tg w2) (ht : JTs (Φ.blk scope) W m2 ifs w3) (he : JE (Φ.blk scope) W m3 elt w4)
    (hs : ∀ i x, foldedSetIterable iter (Φ.X i).env x = pure x := by intro _ _; rfl) (hcm : Φ.cm = true := by rfl) : JE Φ W (m1 + 2 ^ 62 * (m2 + m3)) (.ListComp elt [⟨tg, iter, ifs, 0⟩] scope pos) (wLc (own.map (·.2)) w1 w2 w3 w4) := by
  obtain ⟨ti, a1, a2⟩ := hi
  obtain ⟨tg, b1, b2⟩ := hg
  obtain ⟨tt, c1, c2⟩ := ht
  obtain ⟨te, d1, d2⟩ := he
  exact ⟨_, fun i => pe_lc (Φ.calm hcm i) (by rw [Φ.hN i]; exact Φ.nd) (a1 i) (by rw [Φ.hN i, Φ.hsc i]; exact blkOk_by ok) (fun s H C cl fp => b1 (i, s, H, C, cl, fp)) (fun s H C cl fp => c1 (i, s, H, C, cl, fp)) (fun s H C cl fp => d1 (i, s, H, C, cl, fp)) (hs i), sim_lc a2 b2 c2 d2⟩
theorem js_setLc (i : Nat) (frz : Bool) (own : List (Str × Nat)) {y : Str} {py : Pos} {elt tg iter : Expr} {ifs : List Expr} {scope : Scope} {pos spos : Pos} {w1 : WI} {w2 : WG} {w3 : WT} {w4 : W2} (hi : JI Φ W m1 tg iter w1) (ok : blkC Φ.N Φ.sc scope own = true) (hg : JG (Φ.blk scope) (own.map (·.2)) tg w2) (ht : JTs (Φ.blk scope) W m2 ifs w3) (he : JE (Φ.blk scope) W m3 elt w4)
    (hsw : ∀ j, swapsWith (.ListComp elt [⟨tg, iter, ifs, 0⟩] scope pos) (some (.Name y py)) spos.line (Φ.X j).env = pure true) (hy : Φ.N[i]? = some y := by rfl) (hyl : Φ.sc.names.lookup y = some .local := by rfl)
    (hs : ∀ i x, foldedSetIterable iter (Φ.X i).env x = pure x := by intro _ _; rfl) (hcm : Φ.cm = true := by rfl) : JS Φ W (m1 + 2 ^ 62 * (m2 + m3)) (.Assign [.Name y py] (.ListComp elt [⟨tg, iter, ifs, 0⟩] scope pos) spos) (wAsg i frz (wLc (own.map (·.2)) w1 w2 w3 w4)) := by
  obtain ⟨ti, a1, a2⟩ := hi
  obtain ⟨tg, b1, b2⟩ := hg
  obtain ⟨tt, c1, c2⟩ := ht
  obtain ⟨te, d1, d2⟩ := he
  exact ⟨_, fun j => ps_len (Φ.hN j) (ps_setLc (Φ.calm hcm j) (by rw [Φ.hN j]; exact Φ.nd) (by rw [Φ.hN j]; exact hy) (by rw [Φ.hsc j]; exact hyl) (hsw j) (a1 j) (by rw [Φ.hN j, Φ.hsc j]; exact blkOk_by ok) (fun s H C cl fp => b1 (j, s, H, C, cl, fp)) (fun s H C cl fp => c1 (j, s, H, C, cl, fp)) (fun s H C cl fp => d1 (j, s, H, C, cl, fp)) (hs j)), sim_asg (List.getElem?_eq_some_iff.mp hy).1 (sim_lc a2 b2 c2 d2)⟩
def retP (k : X2 → Prop) : X2 → Prop
  | .d d => k (.d d)
  | .own ds => k (.own ds)
  | .ob (.tt ds) => k (.ob (.tt ds))
  | _ => False
def runB (w : WS) (xs : List X2) (k : X2 → Prop) (e : Str → Prop) : Prop := w { nx := fun _ => k (.d .none), rt := retP k, ex := fun nm _ => e nm } fun i => xs[i]?
def famN (P : Program) (w : World) (K : PySem.W.Frag) (mg : MG) (base : Heap) (N : List Str) (qual : Str) (scope : Scope) (f : Addr) (cdv : Value) (A : Around) (outer : List PySem.Env) (s : Shared) (H : Hp) (E : XK) (k : Nat) (nd : N.Nodup) (hr : Room k (A.deeper (envOfC qual scope s.heap.objs.size f cdv))) (hg : Gd k (A.deeper (envOfC qual scope s.heap.objs.size f cdv))) (sr : Sr P base) (hsc : scope.isGenerator = false ∧ scope.isCoroutine = false) : Fam Unit where
  X := fun _ => (cxOf CX0 P w K mg base N qual scope f cdv A outer s H E).nox
  K := K
  mg := mg
  N := N
  sc := scope
  k := k
  P := P
  w := w
  base := base
  hK := fun _ => rfl
  hmg := fun _ => rfl
  hN := fun _ => rfl
  hsc := fun _ => rfl
  hP := fun _ => rfl
  hw := fun _ => rfl
  hbase := fun _ => rfl
  rm := fun _ => L2H.roomH_of hr
  room := fun _ _ => hr
  gd := fun _ => hg
  sr := sr
  stk := fun _ => ⟨_, _, rfl, hsc.1, hsc.2, rfl, rfl⟩
  cm := true
  calm := fun _ _ => rfl
  nd := nd
  pass := fun _ => PassesOwn.never
theorem start_get {N : List Str} {vs : List V} {i : Nat} {v : V} (h : vs[i]? = some v) : (L2.start N vs)[i]? = some (some v) := by
  unfold L2.start
  have hi := (List.getElem?_eq_some_iff.mp h).1
  rw [List.getElem?_append_left (by rw [List.length_map]; exact hi), List.getElem?_map, h]
  rfl
theorem paired_get {α β : Type} {F : α → β → Prop} : ∀ {as : List α} {bs : List β} {i : Nat} {b : β}, Paired F as bs → bs[i]? = some b → ∃ a, as[i]? = some a ∧ F a b
  | _, _, _, _, .nil, h => by simp at h
  | _, _, 0, _, .cons r _, h => by simp at h; subst h; exact ⟨_, rfl, r⟩
  | _, _, i + 1, b, .cons _ t, h => by
    obtain ⟨a, h1, h2⟩ := paired_get (i := i) t (by simpa using h)
    exact ⟨a, by simpa using h1, h2⟩
theorem RS.start {K : PySem.W.Frag} {H Hb : Hp} {g : Option Gs} {n : Nat} {N : List Str} {vs : List V} {xs : List X2} (hs : Same Hb H) (hf : ∀ p, InG g p → Hb p = none) (hd : ∀ g', g = some g' → DrawOk H g' n) (ha : RelAs K Hb g vs xs) : RS K ⟨H, Hb, g⟩ Hb g (L2.start N vs) (fun i => xs[i]?) n H := by
  refine ⟨Same.refl _, fun p o e => .inl e, hs, fun p o e _ => e, hd, hf, .inl rfl, fun i x q => ?_, fun i j p q a x y e1 _ _ _ f _ => ?_⟩
  · obtain ⟨v, h1, h2⟩ := paired_get ha q
    refine ⟨v, start_get h1, ?_⟩
    cases x with
    | own _ => exact h2.elim
    | d _ => exact h2
    | slot _ => exact h2.elim
    | drw => exact h2
    | scr _ => exact h2
    | ob _ => exact h2.elim
  · obtain ⟨v, h1, h2⟩ := paired_get ha e1
    cases x with
    | own _ => exact h2.elim
    | ob _ => exact h2.elim
    | d _ => exact f.elim
    | slot _ => exact f.elim
    | drw => exact f.elim
    | scr _ => exact f.elim
theorem RS.toLeft {K : PySem.W.Frag} {H Hb H0' H' : Hp} {g g' : Option Gs} {σ : St} {ρ : Env} {n : Nat} (r : RS K ⟨H, Hb, g⟩ H0' g' σ ρ n H') : Left Hb H0' H H' g n :=
  ⟨r.hb, r.new, r.ext, r.keep, (fun g1 e => by
    rcases r.gg with k | ⟨k, _⟩
    · exact r.drw g1 (by rw [← k]; exact e)
    · have k' : g = none := k
      rw [k'] at e
      exact nomatch e), (fun p q => by
    rcases r.gg with k | ⟨k, _⟩
    · have k' : g = g' := k
      exact r.drf p (by rw [← k']; exact q)
    · have k' : g = none := k
      rw [k'] at q
      exact False.elim q)⟩
theorem RelR.ret {K : PySem.W.Frag} {H Hb H0' H' : Hp} {g g' : Option Gs} {σ : St} {ρ : Env} {n : Nat} {v : V} {x : X2} (h : RelR K ⟨H, Hb, g⟩ H0' H' g' σ ρ v x) (r : RS K ⟨H, Hb, g⟩ H0' g' σ ρ n H') {k : X2 → Prop} (hk : retP k x) : RetR K H0' H H' g v x ∧ k x := by
  cases x with
  | d _ => exact ⟨h, hk⟩
  | own ds =>
    obtain ⟨p, rfl, ⟨vs, h1, h2, h3, h4, h5⟩, _⟩ := h
    refine ⟨⟨p, vs, rfl, h1, h2, h3, h4, fun q => ?_⟩, hk⟩
    rcases r.gg with k | ⟨k, _⟩
    · have k' : g = g' := k
      exact h5 (by rw [← k']; exact q)
    · have k' : g = none := k
      rw [k'] at q; exact q
  | slot _ => exact hk.elim
  | drw => exact hk.elim
  | scr _ => exact hk.elim
  | ob o => cases o with
    | tt ds => exact ⟨h, hk⟩
    | dic _ => exact hk.elim
    | rows _ _ => exact hk.elim
    | ret _ _ _ => exact hk.elim
    | «at» _ _ => exact hk.elim
variable {P : Program} {w : World} {K : PySem.W.Frag} {mg : MG} {base : Heap}
theorem fn_ok {x qual : Str} {st : Stmt} {f : Addr} {fd : FuncData} {N ps : List Str} {k len : Nat} {s : Spec2} {wb : WS} (sr : Sr P base) (F : Fun K x qual st f fd) (S : FnScope N ps (defScope st)) (hlen : ps.length = len)
    (hb : ∀ (cdv : Value) (A : Around) (outer : List PySem.Env) (sh : Shared) (H : Hp) (E : XK) (hr : Room k (A.deeper (envOfC qual (defScope st) sh.heap.objs.size f cdv))) (hg : Gd k (A.deeper (envOfC qual (defScope st) sh.heap.objs.size f cdv))), JSs (famN P w K mg base N qual (defScope st) f cdv A outer sh H E k S.nd hr hg sr ⟨S.gen, S.co⟩) (fun _ _ _ _ => False) m (defBody st) wb)
    (hs : ∀ xs k e, s xs k e → runB wb xs k fun _ => False) : FnG P w K mg base CX0 (k + 1) f fd ps (liftS K mg m len s) := by
  refine FunG.ok F S (fun vs H Q E h => h.1.trans hlen.symm) (fun cdv A outer sh H vs Q E hr hg h => ?_)
  obtain ⟨_, Hb, g, n, xs, kk, e, hl, hsame, hf, hd, ha, hsp, hq, _⟩ := h
  obtain ⟨t, a1, a2⟩ := hb cdv A outer sh H E hr hg
  refine ⟨t, a1 (), ?_⟩
  refine a2 ⟨H, Hb, g⟩ Hb g (L2.start N vs) _ n H _ _ (RS.start hsame hf hd ha) hl (hs _ _ _ hsp) ?_
  refine ⟨fun H0' g' σ' ρ' H' _ _ r z => ?_, fun H0' g' σ' ρ' H' v x _ _ r h1 _ z => ?_, fun _ _ _ _ _ _ _ _ z => z.elim, fun _ _ _ _ _ _ _ _ z => z.elim, fun _ _ _ _ _ _ _ _ _ _ _ z _ => z.elim⟩
  · exact hq H0' H' .non (.d .none) r.toLeft .non z
  · obtain ⟨z1, z2⟩ := h1.ret r z
    exact hq H0' H' v x r.toLeft z1 z2
end
end B2

namespace B2
open PySem L2
def s_next : Spec2 := fun xs k _ => ∃ many : Int, xs = [.drw, .d (.int many)] ∧ 0 < many ∧ many.natAbs < 2 ^ 9000 ∧ ∀ r : Int, 0 ≤ r → r < many → k (.d (.int r))
theorem s_next_0 : ∀ xs k e, s_next xs k e → s_next xs k fun _ => False := fun _ _ _ h => h
abbrev rModP : R2 := rI (fun _ j => 0 < j) fun i j => .int (i % j)
abbrev rAddI : R2 := rI0 fun i j => .int (i + j)
abbrev rMulI : R2 := rI CMul fun i j => .int (i * j)
abbrev rDivW : R2 := rI CDivW fun i j => .int (i / j)
abbrev rPowW : R2 := rI CPowW fun i j => .int (i ^ j.toNat)
abbrev rGtI : R2 := rI0 fun i j => .bl (decide (j < i))
abbrev rLenQ (K : PySem.W.Frag) : List V → Hp → VK → Prop := fun xs H Q => ∃ p ys, xs = [.ref p] ∧ (SqL K H p ys ∨ SqT K H p ys) ∧ Q (.int ys.length) H
def tC7 : TA := tCons (tC (.int 2147483629)) (tCons (tC (.int 2147483587)) (tCons (tC (.int 2147483579)) (tCons (tC (.int 2147483563)) (tCons (tC (.int 2147483549)) (tCons (tC (.int 2147483543)) (tCons (tC (.int 2147483497)) tNil))))))
def primes7 : List V := [.int 2147483629, .int 2147483587, .int 2147483579, .int 2147483563, .int 2147483549, .int 2147483543, .int 2147483497]
def t_nextEnd (K : PySem.W.Frag) : TS :=
  tSeq (tAsg (tOp rModP (tOp rPowW (tOp rAddI (tVar 8) (tOp rMulI (tC (.int 7919)) (tVar 3))) (tC (.int 2))) (tC (.int 2147483477))) (gName 9))
  (tRet (tOp rModP (tOp rModP (tOp rAddI (tOp rMulI (tVar 9) (tC (.int 2147483423))) (tVar 8)) (tC (.int 4611686018427387847))) (tVar 1)))
def t_nextTop (K : PySem.W.Frag) (t : TS) : TS :=
  tSeq (tAsg (tVar 0) (gUnl K 3 (gCons (gName 2) (gCons (gName 3) (gCons (gName 4) gNil)))))
  (tSeq (tAsg (tOp rModP (tVar 3) (tCB (rLenQ K) (tCons (tVar 2) tNil))) (gName 5))
  (tSeq (tAsg (tOp rAddI (tVar 3) (tC (.int 1))) (gSub (tVar 0) (tC (.int 1)) rSetL))
  (tSeq (tIfS (tTest (tOp rGtI (tOp (rIxL K) (tVar 4) (tVar 5)) (tC (.int 0))))
    (tSeq (tAsg (tOp rModP (tOp (rIxL K) (tVar 4) (tVar 5)) (tVar 1)) (gName 6))
    (tSeq (tAsg (tOp rDivW (tOp (rIxL K) (tVar 4) (tVar 5)) (tVar 1)) (gSub (tVar 4) (tVar 5) rSetL))
    (tRet (tVar 6)))) tNext)
  (tSeq (tAsg (tLst tC7) (gName 7)) t))))
def t_nextA (K : PySem.W.Frag) : TS := t_nextTop K
  (tSeq (tAsg (tOp rAddI (tOp rAddI (tOp rModP (tOp (rIxL K) (tVar 2) (tVar 5)) (tC (.int 2147483647))) (tOp rMulI (tC (.int 48271)) (tVar 3))) (tC (.int 104729))) (gName 8))
  (tSeq (tAsg (tOp rModP (tOp rPowW (tVar 8) (tC (.int 3))) (tOp (rIxL K) (tVar 7) (tOp rModP (tVar 3) (tC (.int 7))))) (gName 8)) (t_nextEnd K)))
theorem bits_le {x : Int} {a : Nat} (h : x.natAbs < 2 ^ a) : Builtin.Int.intBits x ≤ a + 1 := by
  unfold Builtin.Int.intBits
  by_cases z : x.natAbs = 0
  · rw [if_pos (by simpa using z)]; omega
  · have := (Nat.log2_lt z).mpr h
    split <;> omega
theorem pow_ok {x : Int} {a : Nat} {j : Int} (h : x.natAbs < 2 ^ a) (h0 : 0 ≤ j) (h1 : ((a + 1 : Nat) : Int) * j ≤ 2 ^ 27) : CPowW x j := by
  refine ⟨h0, ?_⟩
  have := bits_le h
  exact Int.le_trans (Int.mul_le_mul_of_nonneg_right (by omega) h0) h1
theorem pow2_le {a b : Nat} (h : a ≤ b) : 2 ^ a ≤ 2 ^ b := Nat.pow_le_pow_right (by decide) h
theorem cnt_small {n k : Nat} (hk : k ≤ n) (hn : n ≤ LIM) {c d : Int} (hc : 0 ≤ c ∧ c < 2 ^ 40) (hd : 0 ≤ d ∧ d < 2 ^ 40) : (d + c * (k : Int)).natAbs < 2 ^ 40050 := by
  have h1 : k ≤ 2 ^ 40000 := Nat.le_trans hk hn
  obtain ⟨c', rfl⟩ : ∃ c' : Nat, c = c' := ⟨c.toNat, by omega⟩
  obtain ⟨d', rfl⟩ : ∃ d' : Nat, d = d' := ⟨d.toNat, by omega⟩
  have e : ((d' : Int) + (c' : Int) * (k : Int)).natAbs = d' + c' * k := by
    rw [← Int.natCast_mul, ← Int.natCast_add, Int.natAbs_natCast]
  rw [e]
  have h2 : c' < 2 ^ 40 := by omega
  have h3 : d' < 2 ^ 40 := by omega
  have h4 : c' * k ≤ 2 ^ 40 * 2 ^ 40000 := Nat.mul_le_mul (Nat.le_of_lt h2) h1
  have h5 : (2 : Nat) ^ 40 * 2 ^ 40000 = 2 ^ 40040 := by rw [← Nat.pow_add]
  have h6 : (2 : Nat) ^ 40 ≤ 2 ^ 40040 := pow2_le (by decide)
  have h7 : (2 : Nat) ^ 40050 = 2 ^ 40040 * 2 ^ 10 := by rw [← Nat.pow_add]
  rw [h7]
  have h8 : (2 : Nat) ^ 10 = 1024 := by decide
  rw [h8]
  omega
section
variable {K : PySem.W.Frag} {mg : MG} {vs : List V} {H : Hp} {Q : VK} {E : XK}
theorem getL {α : Type} {xs : List α} {i : Nat} (h : i < xs.length) : xs[i]? = some xs[i] := List.getElem?_eq_getElem h
theorem sixteen : (7 : Nat) ≤ sizeLine := by rw [sizeLine_eq]; decide
theorem prime_at (j : Nat) (h : j < 7) : ∃ p : Int, atI primes7 (j : Int) = some (.int p) ∧ 0 < p ∧ p < 2 ^ 31 := by
  have : j = 0 ∨ j = 1 ∨ j = 2 ∨ j = 3 ∨ j = 4 ∨ j = 5 ∨ j = 6 := by omega
  rcases this with rfl | rfl | rfl | rfl | rfl | rfl | rfl <;> exact ⟨_, rfl, by decide, by decide⟩
theorem next_reads (t : TS) (ht : ∀ (D : Ends) (a b c p : Addr) (many cell : Int) (k n at_ : Nat) (cs : List Int) (H : Hp) (v6 : Option V), 0 < many → k ≤ n → n ≤ LIM → at_ < cs.length → cs[at_]? = some cell → H b = some (.lst (cs.map V.int)) → H p = some (.lst primes7) →
      (∀ r : Int, 0 ≤ r → r < many → D.rt (.int r) H) → t D [some (.ref a), some (.int many), some (.ref b), some (.int (k : Nat)), some (.ref c), some (.int (at_ : Nat)), v6, some (.ref p), none, none] H)
    (h : liftS K mg 1 2 s_next vs H Q E) : t_nextTop K t { nx := fun _ H' => Q .non H', rt := Q } (vs.map some ++ List.replicate (10 - vs.length) none) H := by
  obtain ⟨hlen, Hb, g, n, xs, kk, e, hl, hs, hf, hd, ha, ⟨many, rfl, hm, hb, hk⟩, hq, _⟩ := h
  cases ha with
  | cons a1 a2 => cases a2 with
    | cons a2 a3 =>
    cases a3
    cases (show Dq K Hb _ (.int many) from a2)
    obtain ⟨g', rfl, rfl⟩ := (show ∃ g', g = some g' ∧ _ = V.ref g'.a from a1)
    have dk := hd g' rfl
    obtain ⟨k, cs, rs, hkn, h1, h2, h3, h4, h5, h6⟩ := dk.ex
    have hpos : (0 : Int) < (cs.map V.int).length := by rw [List.length_map]; omega
    -- cells, count, rests = drawn
    refine ⟨_, rfl, g'.a, _, rfl, SqL.of h1, rfl, .ref g'.b, _, rfl, .int (k : Nat), _, rfl, .ref g'.c, _, rfl, rfl, ?_⟩
    -- at = count % len(cells)
    refine ⟨_, rfl, _, rfl, g'.b, _, rfl, .inl (SqL.of h2), (k : Nat), _, rfl, rfl, hpos, ?_⟩
    obtain ⟨at_, eat⟩ : ∃ at_ : Nat, ((k : Int) % ((cs.map V.int).length : Nat)) = (at_ : Nat) ∧ at_ < cs.length := by
      refine ⟨k % cs.length, ?_, Nat.mod_lt _ h5⟩
      rw [List.length_map]
      first | exact (Int.natCast_emod _ _).symm | exact (Int.ofNat_emod _ _).symm | simp
    obtain ⟨eat, hat⟩ := eat
    -- drawn[1] = count + 1
    refine ⟨_, rfl, k, 1, rfl, rfl, _, rfl, g'.a, _, 1, 1, rfl, rfl, h1, rfl, ?_⟩
    have eset : ([V.ref g'.b, V.int (k : Nat), V.ref g'.c].set 1 (.int ((k : Int) + 1))) = [V.ref g'.b, V.int ((k + 1 : Nat)), V.ref g'.c] := by
      show [V.ref g'.b, V.int ((k : Int) + 1), V.ref g'.c] = _
      rw [Int.natCast_add]; rfl
    rw [eset]
    have hatr : at_ < rs.length := by omega
    have c3 : (upd H g'.a (.lst [V.ref g'.b, V.int ((k + 1 : Nat)), V.ref g'.c])) g'.c = some (.lst (rs.map V.int)) := by rw [upd_ne (Ne.symm dk.ac)]; exact h3
    have c2 : (upd H g'.a (.lst [V.ref g'.b, V.int ((k + 1 : Nat)), V.ref g'.c])) g'.b = some (.lst (cs.map V.int)) := by rw [upd_ne (Ne.symm dk.ab)]; exact h2
    have c1 : (upd H g'.a (.lst [V.ref g'.b, V.int ((k + 1 : Nat)), V.ref g'.c])) g'.a = some (.lst [V.ref g'.b, V.int ((k + 1 : Nat)), V.ref g'.c]) := upd_same
    have ir : atI (rs.map V.int) (at_ : Int) = some (.int rs[at_]) := atI_nat (by rw [List.getElem?_map, getL hatr]; rfl)
    -- what is left at the end of each way
    have fin : ∀ (H' : Hp) (r : Int) (rs' : List Int), 0 ≤ r → r < many → rs'.length = rs.length → H' g'.a = some (.lst [V.ref g'.b, V.int ((k + 1 : Nat)), V.ref g'.c]) → H' g'.b = some (.lst (cs.map V.int)) → H' g'.c = some (.lst (rs'.map V.int)) → (∀ p o, H p = some o → ¬ InG (some g') p → H' p = some o) → Q (.int r) H' := fun H' r rs' r0 r1 rl q1 q2 q3 q4 => by
      refine hq Hb H' (.int r) (.d (.int r)) ⟨Same.refl _, fun p o e => .inl e, fun p o e => q4 p o (hs p o e) fun z => ?_, q4, fun g2 e => ?_, hf⟩ (.int r) (hk r r0 r1)
      · rw [hf p z] at e; cases e
      · cases e
        exact ⟨dk.ab, dk.ac, dk.bc, k + 1, cs, rs', by omega, q1, q2, q3, by omega, h5, h6⟩
    refine ⟨_, rfl, _, rfl, g'.c, _, _, _, rfl, rfl, SqL.of c3, by rw [eat]; exact ir, rs[at_], 0, rfl, rfl, _, rfl, ?_⟩
    by_cases hr : 0 < rs[at_]
    · show (if decide (0 < rs[at_]) = true then _ else _)
      rw [if_pos (decide_eq_true hr)]
      refine ⟨_, rfl, _, rfl, g'.c, _, _, _, rfl, rfl, SqL.of c3, by rw [eat]; exact ir, _, rfl, rs[at_], many, rfl, rfl, hm, ?_⟩
      refine ⟨_, rfl, _, rfl, g'.c, _, _, _, rfl, rfl, SqL.of c3, by rw [eat]; exact ir, _, rfl, rs[at_], many, rfl, rfl, wide_div hm hb (by decide) (Nat.le_refl _), _, rfl, _, rfl, g'.c, _, _, at_, rfl, rfl, c3, ?_, ?_⟩
      · rw [eat]
        unfold ixN
        rw [if_pos (by omega), if_pos (by rw [List.length_map]; omega), Int.toNat_natCast]
      · refine ⟨_, rfl, ?_⟩
        have em : (rs.map V.int).set at_ (.int (rs[at_] / many)) = (rs.set at_ (rs[at_] / many)).map V.int := by rw [List.map_set]
        rw [em]
        refine fin _ _ (rs.set at_ (rs[at_] / many)) (Int.emod_nonneg _ (by omega)) (Int.emod_lt_of_pos _ hm) (by rw [List.length_set]) ?_ ?_ upd_same fun p o e z => ?_
        · rw [upd_ne dk.ac]; exact c1
        · rw [upd_ne dk.bc]; exact c2
        · rw [upd_ne (fun q : p = g'.c => z (.inr (.inr q))), upd_ne (fun q : p = g'.a => z (.inl q))]; exact e
    · show (if decide (0 < rs[at_]) = true then _ else _)
      rw [if_neg (fun z => hr (of_decide_eq_true z))]
      refine ⟨sixteen, fun p hp => ?_⟩
      have nb : g'.b ≠ p := ne_of_none c2 hp
      have nc : g'.c ≠ p := ne_of_none c3 hp
      have na : g'.a ≠ p := ne_of_none c1 hp
      have ecat : (V.int ((k : Int) % ((cs.map V.int).length : Nat))) = V.int (at_ : Nat) := by rw [eat]
      show t _ [some (.ref g'.a), some (.int many), some (.ref g'.b), some (.int (k : Nat)), some (.ref g'.c), some (V.int ((k : Int) % ((cs.map V.int).length : Nat))), none, some (.ref p), none, none] _
      rw [ecat]
      refine ht _ g'.a g'.b g'.c p many cs[at_] k n at_ cs _ none hm hkn (by omega) hat (getL hat) ?_ upd_same fun r r0 r1 => ?_
      · rw [upd_ne nb]; exact c2
      · refine fin _ r rs r0 r1 rfl ?_ ?_ ?_ fun q o e z => ?_
        · rw [upd_ne na]; exact c1
        · rw [upd_ne nb]; exact c2
        · rw [upd_ne nc]; exact c3
        · have : upd H g'.a (.lst [V.ref g'.b, V.int ((k + 1 : Nat)), V.ref g'.c]) q = some o := by rw [upd_ne (fun x : q = g'.a => z (.inl x))]; exact e
          rw [upd_ne (ne_of_none this hp)]; exact this
theorem next_end {D : Ends} {many m8 : Int} {k n : Nat} {s0 s2 s4 s5 s6 s7 s9 : Option V} {H : Hp} (hm : 0 < many) (hkn : k ≤ n) (hn : n ≤ LIM) (h8 : 0 ≤ m8 ∧ m8 < 2 ^ 31) (q : ∀ r : Int, 0 ≤ r → r < many → D.rt (.int r) H) :
    t_nextEnd K D [s0, some (.int many), s2, some (.int (k : Nat)), s4, s5, s6, s7, some (.int m8), s9] H := by
  refine ⟨_, rfl, _, rfl, 7919, k, rfl, rfl, .inl ⟨by decide, by decide⟩, m8, _, rfl, rfl, _, 2, rfl, rfl, pow_ok (cnt_small hkn hn (c := 7919) (d := m8) ⟨by decide, by decide⟩ ⟨by omega, by omega⟩) (by decide) (by decide), _, 2147483477, rfl, rfl, (by show (0 : Int) < _; decide), ?_⟩
  have b1 := Int.emod_nonneg ((m8 + 7919 * (k : Int)) ^ (2 : Int).toNat) (b := 2147483477) (by decide)
  have b2 := Int.emod_lt_of_pos ((m8 + 7919 * (k : Int)) ^ (2 : Int).toNat) (b := 2147483477) (by decide)
  refine ⟨_, rfl, _, 2147483423, rfl, rfl, .inr ⟨by decide, by decide⟩, _, rfl, _, m8, rfl, rfl, _, 4611686018427387847, rfl, rfl, (by show (0 : Int) < _; decide), _, rfl, _, many, rfl, rfl, hm, ?_⟩
  exact q _ (Int.emod_nonneg _ (by omega)) (Int.emod_lt_of_pos _ hm)
theorem next_A (h : liftS K mg 1 2 s_next vs H Q E) : t_nextA K { nx := fun _ H' => Q .non H', rt := Q } (vs.map some ++ List.replicate (10 - vs.length) none) H := by
  refine next_reads _ (fun D a b c p many cell k n at_ cs H v6 hm hkn hn hat hc hb hp q => ?_) h
  have ib : atI (cs.map V.int) (at_ : Int) = some (.int cell) := atI_nat (by rw [List.getElem?_map, hc]; rfl)
  have e1 := Int.emod_nonneg cell (b := 2147483647) (by decide)
  have e2 := Int.emod_lt_of_pos cell (b := 2147483647) (by decide)
  refine ⟨_, rfl, _, rfl, b, _, _, _, rfl, rfl, SqL.of hb, ib, cell, 2147483647, rfl, rfl, (by show (0 : Int) < _; decide), _, rfl, 48271, k, rfl, rfl, .inl ⟨by decide, by decide⟩, _, _, rfl, rfl, _, 104729, rfl, rfl, ?_⟩
  obtain ⟨pr, hpr, p0, p1⟩ := prime_at (k % 7) (Nat.mod_lt _ (by decide))
  have ek : (k : Int) % 7 = ((k % 7 : Nat) : Int) := by omega
  have sm : (cell % 2147483647 + 48271 * (k : Int) + 104729).natAbs < 2 ^ 40050 := by
    have := cnt_small hkn hn (c := 48271) (d := cell % 2147483647 + 104729) ⟨by decide, by decide⟩ ⟨by omega, by omega⟩
    have e3 : cell % 2147483647 + 48271 * (k : Int) + 104729 = cell % 2147483647 + 104729 + 48271 * (k : Int) := by omega
    rw [e3]; exact this
  refine ⟨_, rfl, _, 3, rfl, rfl, pow_ok sm (by decide) (by decide), _, rfl, _, rfl, k, 7, rfl, rfl, (by show (0 : Int) < _; decide), p, _, _, _, rfl, rfl, SqL.of hp, by rw [ek]; exact hpr, _, pr, rfl, rfl, p0, ?_⟩
  exact next_end (K := K) hm hkn hn ⟨Int.emod_nonneg _ (by omega), Int.lt_trans (Int.emod_lt_of_pos _ p0) p1⟩ q
end
abbrev rInt1 : List V → Hp → VK → Prop := fun xs H Q => (∃ i, xs = [.int i] ∧ Q (.int i) H) ∨ ∃ k, xs = [.bl k] ∧ Q (.int (if k then 1 else 0)) H
abbrev rGeI : R2 := rI0 fun i j => .bl (decide (j ≤ i))
def t_draws (K : PySem.W.Frag) : TS :=
  tSeq (tAsg (tOp rCat (tCB (rListA K) (tCons (tSl (rSlL K) (tVar 0) tNoPart (tPart (tC (.int 63)))) tNil)) (tOp rRep (tLst (tCons (tC (.int 0)) tNil)) (tCB rInt1 (tCons (tOp rEq (tCB (rLenQ K) (tCons (tVar 0) tNil)) (tC (.int 0))) tNil)))) (gName 1))
  (tRet (tLst (tCons (tVar 1) (tCons (tC (.int 0)) (tCons (tLc (iList K (tVar 1)) (gName 2) tYes (tOp rMulI (tVar 2) (tCB rInt1 (tCons (tOp rGeI (tVar 2) (tOp rPowW (tC (.int 10)) (tC (.int 18)))) tNil))) [2]) tNil)))))
def spDraws (K : PySem.W.Frag) : Sp := fun vs H Q _ => ∃ (a : Addr) (ns : List Int), vs = [.ref a] ∧ SqL K H a (ns.map V.int) ∧ ns.length ≤ 63 ∧
  ∀ (g : Gs) (H' : Hp), DrawOk H' g 0 → (∀ p, InG (some g) p → H p = none) → Same H H' → Q (.ref g.a) H'
def mulBig (x : Int) : Int := x * (if decide (10 ^ (18 : Int).toNat ≤ x) = true then 1 else 0)
theorem draws_reads {K : PySem.W.Frag} {vs : List V} {H : Hp} {Q : VK} {E : XK} (h : spDraws K vs H Q E) : t_draws K { nx := fun _ H' => Q .non H', rt := Q } (vs.map some ++ List.replicate (3 - vs.length) none) H := by
  obtain ⟨a, ns, rfl, hS, hlen, hq⟩ := h
  -- script[:63], list(..)
  refine ⟨_, rfl, 63, rfl, a, _, rfl, hS, fun p1 n1 => ⟨p1, _, rfl, .inl (SqL.of upd_same), fun p2 n2 => ?_⟩⟩
  have ecut : cutV (ns.map V.int) none (some 63) = ns.map V.int := by
    unfold cutV
    rw [HT.sIx_none, List.drop_zero, Nat.sub_zero]
    have : HT.sIx (ns.map V.int).length (ns.map V.int).length (some ((63 : Nat) : Int)) = min 63 (ns.map V.int).length := HT.sIx_nat _ _ 63
    have e2 : (63 : Int) = ((63 : Nat) : Int) := rfl
    rw [e2, this, List.take_of_length_le]
    rw [List.length_map]; omega
  rw [ecut] at n2 ⊢
  have s1 : Same H (upd H p1 (.lst (ns.map V.int))) := fun b o e => by rw [upd_ne (ne_of_none e n1)]; exact e
  have s2 : Same (upd H p1 (.lst (ns.map V.int))) (upd (upd H p1 (.lst (ns.map V.int))) p2 (.lst (ns.map V.int))) := fun b o e => by rw [upd_ne (ne_of_none e n2)]; exact e
  have m2 : H p2 = none := by
    cases z : H p2 with
    | none => rfl
    | some o => rw [s1 _ _ z] at n2; cases n2
  generalize eH2 : upd (upd H p1 (.lst (ns.map V.int))) p2 (.lst (ns.map V.int)) = H2 at s2 ⊢
  have h2 : H2 p2 = some (.lst (ns.map V.int)) := by rw [← eH2]; exact upd_same
  -- [0] * int(len(script) == 0)
  refine ⟨by rw [sizeLine_eq]; show 1 ≤ 16777216; decide, fun p3 n3 => ?_⟩
  have s3 : Same H2 (upd H2 p3 (.lst [V.int 0])) := fun b o e => by rw [upd_ne (ne_of_none e n3)]; exact e
  have hS3 : SqL K (upd H2 p3 (.lst [V.int 0])) a (ns.map V.int) := s3.seq (s2.seq (s1.seq hS))
  refine ⟨_, rfl, a, _, rfl, .inl hS3, rfl, .inr ⟨_, rfl, p3, _, _, rfl, rfl, upd_same, ?_, ?_, ?_, fun p4 n4 => ?_⟩⟩
  · split <;> decide
  · split <;> decide
  · rw [sizeLine_eq]; split <;> decide
  generalize ek : (if decide (V.int ((ns.map V.int).length : Nat) = V.int 0) = true then (1 : Int) else 0) = k at n4 ⊢
  have s4 : Same (upd H2 p3 (.lst [V.int 0])) (upd (upd H2 p3 (.lst [V.int 0])) p4 (.lst (List.replicate k.toNat [V.int 0]).flatten)) := fun b o e => by rw [upd_ne (ne_of_none e n4)]; exact e
  -- the cells
  have hrep : ∃ zs : List Int, (List.replicate k.toNat [V.int 0]).flatten = zs.map V.int ∧ zs.length ≤ 1 ∧ 0 < (ns ++ zs).length := by
    by_cases hn : ns = []
    · subst hn
      have : k = 1 := by rw [← ek]; rfl
      rw [this]
      exact ⟨[0], rfl, by decide, by decide⟩
    · have hl : 0 < ns.length := List.length_pos_iff.mpr hn
      have : k = 0 := by
        rw [← ek, if_neg]
        intro z
        have := of_decide_eq_true z
        injection this with z2
        rw [List.length_map] at z2
        omega
      rw [this]
      exact ⟨[], rfl, by decide, by simp; omega⟩
  obtain ⟨zs, ez, hz1, hz2⟩ := hrep
  rw [ez] at s4 ⊢
  generalize eH4 : upd (upd H2 p3 (.lst [V.int 0])) p4 (.lst (zs.map V.int)) = H4 at s4 ⊢
  have h4 : H4 p4 = some (.lst (zs.map V.int)) := by rw [← eH4]; exact upd_same
  have h24 : H4 p2 = some (.lst (ns.map V.int)) := s4 _ _ (s3 _ _ h2)
  refine ⟨p2, p4, _, _, rfl, rfl, h24, h4, ?_, fun p5 n5 => ?_⟩
  · rw [List.length_map, List.length_map, sizeLine_eq]; omega
  rw [← List.map_append]
  generalize ecs : ns ++ zs = cs at hz2 ⊢
  have hcl : cs.length ≤ 64 := by rw [← ecs, List.length_append]; omega
  have s5 : Same H4 (upd H4 p5 (.lst (cs.map V.int))) := fun b o e => by rw [upd_ne (ne_of_none e n5)]; exact e
  generalize eH5 : upd H4 p5 (.lst (cs.map V.int)) = H5 at s5 ⊢
  have h5 : H5 p5 = some (.lst (cs.map V.int)) := by rw [← eH5]; exact upd_same
  have sAll : Same H H5 := (((s1.trans s2).trans s3).trans s4).trans s5
  have f5 : H p5 = none := Same.free (((s1.trans s2).trans s3).trans s4) n5
  -- return [cells, 0, [..]]
  refine ⟨_, rfl, _, rfl, p5, rfl, ⟨_, SqL.of h5⟩, fun D nD => ?_⟩
  refine lc_list (K := K) (a := p5) (xs := cs.map V.int) (fun i H' => Same H5 H' ∧ H' D = some (.lst ((cs.take i).map fun x => V.int (mulBig x)))) ?_ (fun i H' _ hp => SqL.of (hp.1 _ _ h5)) ?_ ?_
  · exact ⟨fun b o e => by rw [upd_ne (ne_of_none e nD)]; exact e, upd_same⟩
  · rintro i y H' hi ⟨hs, hD⟩
    obtain ⟨x, hx, rfl⟩ : ∃ x, cs[i]? = some x ∧ y = V.int x := by
      rw [List.getElem?_map] at hi
      cases e : cs[i]? with
      | none => rw [e] at hi; cases hi
      | some x => rw [e] at hi; exact ⟨x, rfl, (Option.some.inj hi).symm⟩
    refine ⟨rfl, ?_⟩
    refine ⟨_, rfl, _, rfl, 10, 18, rfl, rfl, ⟨by decide, by decide⟩, x, _, rfl, rfl, .inr ⟨_, rfl, x, _, rfl, rfl, .inr (by split <;> decide), _, hD, ?_, ?_, ?_⟩⟩
    · have := (List.getElem?_eq_some_iff.mp hx).1
      rw [List.length_map, List.length_take, sizeLine_eq]; omega
    · have : D ≠ D ∨ True := .inr trivial
      exact fun b o e => by
        have : b ≠ D := fun z => by rw [z, nD] at e; cases e
        rw [upd_ne this]; exact hs b o e
    · rw [upd_same]
      have e1 : cs.take (i + 1) = cs.take i ++ [x] := by
        rw [List.take_succ, hx]; rfl
      rw [e1, List.map_append]
      rfl
  · rintro H' ⟨hs, hD⟩
    rw [List.length_map, List.take_length] at hD
    refine ⟨by rw [sizeLine_eq]; show 3 ≤ 16777216; decide, fun p6 n6 => ?_⟩
    have fD : H D = none := Same.free sAll nD
    have f6 : H p6 = none := Same.free (sAll.trans hs) n6
    have n56 : p5 ≠ p6 := ne_of_none (hs _ _ h5) n6
    have nD6 : D ≠ p6 := ne_of_none hD n6
    have n5D : p5 ≠ D := ne_of_none h5 nD
    refine hq ⟨p6, p5, D⟩ _ ⟨Ne.symm n56, Ne.symm nD6, n5D, 0, cs, cs.map mulBig, Nat.le_refl _, upd_same, ?_, ?_, by rw [List.length_map], hz2, hcl⟩ ?_ ?_
    · show upd H' p6 _ p5 = _
      rw [upd_ne n56]; exact hs _ _ h5
    · show upd H' p6 _ D = _
      rw [upd_ne nD6, List.map_map]; exact hD
    · rintro p (rfl | rfl | rfl)
      · exact f6
      · exact f5
      · exact fD
    · exact (sAll.trans hs).trans fun b o e => by rw [upd_ne (ne_of_none e n6)]; exact e
def spLaw (K : PySem.W.Frag) : Sp := fun vs H Q _ => ∃ (a : Addr) (ns : List Int), vs = [.ref a] ∧ SqL K H a (ns.map V.int) ∧ ns.length ≤ 63 ∧ ∀ H', Q (.bl true) H'
structure DrawsAt (P : Program) (w : World) (K : PySem.W.Frag) (mg : MG) (base : Heap) : Prop where
  ex : ∃ (f : Addr) (fd : FuncData), FnG P w K mg base CX0 1 f fd ["_law_script"] (spDraws K) ∧ mg "_law_draws" = some (.ref f) ∧ PySem.W.keepIn K (.ref f) = true ∧ Binds K fd ["_law_script"] []
open PyProof.Rows (envOfC)
theorem fn_law {P : Program} {w : World} {K : PySem.W.Frag} {mg : MG} {base : Heap} {x qual : Str} {st : Stmt} {f : Addr} {fd : FuncData} {N : List Str} {k m : Nat} {s1 : Stmt} {rest : List Stmt} {wb : WS} (sr : Sr P base) (F : Fun K x qual st f fd) (S : FnScope N ["_law_script"] (defScope st)) (hd : defBody st = s1 :: rest) (hN1 : 2 ≤ N.length)
    (h1 : ∀ (cdv : Value) (A : Around) (outer : List PySem.Env) (sh : Shared) (H : Hp) (E : XK) (hr : Room k (A.deeper (envOfC qual (defScope st) sh.heap.objs.size f cdv))) (hg : Gd k (A.deeper (envOfC qual (defScope st) sh.heap.objs.size f cdv))), PS ((famN P w K mg base N qual (defScope st) f cdv A outer sh H E k S.nd hr hg sr ⟨S.gen, S.co⟩).X ()) s1 (tAsg (tCall (spDraws K) [] E0 (tCons (tVar 0) tNil)) (gName 1)))
    (hb : ∀ (cdv : Value) (A : Around) (outer : List PySem.Env) (sh : Shared) (H : Hp) (E : XK) (hr : Room k (A.deeper (envOfC qual (defScope st) sh.heap.objs.size f cdv))) (hg : Gd k (A.deeper (envOfC qual (defScope st) sh.heap.objs.size f cdv))), JSs (famN P w K mg base N qual (defScope st) f cdv A outer sh H E k S.nd hr hg sr ⟨S.gen, S.co⟩) (fun _ _ _ _ => False) m rest wb)
    (hm : m ≤ LIM) (hw : wb { nx := fun _ => False, rt := fun y => y = .d (.bool true) } (upE (fun _ => none) 1 (some .drw))) : FnG P w K mg base CX0 (k + 1) f fd ["_law_script"] (spLaw K) := by
  refine FunG.ok F S (fun vs H Q E h => by obtain ⟨a, ns, rfl, _⟩ := h; rfl) (fun cdv A outer sh H vs Q E hr hg h => ?_)
  obtain ⟨a, ns, rfl, hS, hlen, hq⟩ := h
  obtain ⟨t, a1, a2⟩ := hb cdv A outer sh H E hr hg
  refine ⟨_, by rw [hd]; exact pss_cons (h1 cdv A outer sh H E hr hg) (a1 ()), ?_⟩
  refine ⟨_, start_get (i := 0) rfl, a, ns, rfl, hS, hlen, fun g H' dk fr same => ?_⟩
  have hl : (L2.start N [V.ref a]).length = N.length := by
    unfold L2.start
    rw [List.length_append, List.length_map, List.length_replicate]
    show 1 + (N.length - 1) = _
    omega
  refine a2 ⟨H, fun _ => none, none⟩ (fun _ => none) (some g) _ (upE (fun _ => none) 1 (some .drw)) 0 H' _ _ ⟨Same.refl _, fun _ _ e => (nomatch e), fun _ _ e => (nomatch e), fun p o e _ => same p o e, fun g' e => by cases e; exact dk, fun _ _ => rfl, .inr ⟨rfl, fr⟩, fun i y q => ?_, fun i j p q a x y e1 _ _ _ f _ => ?_⟩ (by omega) hw ?_
  · by_cases hi : i = 1
    · subst hi
      rw [upE_same] at q; cases q
      exact ⟨.ref g.a, List.getElem?_set_self (by rw [hl]; omega), g, rfl, rfl⟩
    · rw [upE_ne hi] at q; cases q
  · by_cases hi : i = 1
    · subst hi
      rw [upE_same] at e1; cases e1
      exact f.elim
    · rw [upE_ne hi] at e1; cases e1
  · refine ⟨fun _ _ _ _ _ _ _ _ z => z.elim, fun H0' g' σ' ρ' H2 v y _ _ _ h1 _ z => ?_, fun _ _ _ _ _ _ _ _ z => z.elim, fun _ _ _ _ _ _ _ _ z => z.elim, fun _ _ _ _ _ _ _ _ _ _ _ z _ => z.elim⟩
    subst z
    cases (show Dq K H0' v (.bool true) from h1)
    exact hq H2
end B2

namespace B2
open PySem L2
theorem at_mk {K : PySem.W.Frag} {mg : MG} {h : Heap} {x : Str} {st : Stmt} {ps : List Str} {f : Addr} {od an : Option Addr} {sl : Array (Option Value)} {oc kV dc pm cd ct : Value} (X : K.In h) (G : h.Ns mainGlobals mg)
    (hb : ∀ (kV doc pm : Value) (an : Option Addr) (cdv ct : Value) (us : List Value), us.length = ps.length → bindArgs (PySem.W.fnOf x x (defArgs st) (defBody st) (defScope st) .none kV doc pm an cdv ct) ⟨us, []⟩ = pure (ps.zip us))
    (a : PySem.W.nsIn K mainGlobals x = some (some (.ref f))) (l : K.lookup f = some ⟨oc, od, .func (PySem.W.fnOf x x (defArgs st) (defBody st) (defScope st) .none kV dc pm an cd ct), sl⟩) (c : PySem.W.codeIn K cd x = true) (k : PySem.W.keepIn K (.ref f) = true) : At K mg x st ps :=
  ⟨f, _, fun_mk l c k, PySem.W.mg_of X G a, (fun_mk l c k).binds hb⟩
structure LawAt (K : PySem.W.Frag) (mg : MG) (x : Str) (st : Stmt) (p : Str) : Prop where
  ex : ∃ (f : Addr) (fd : FuncData), Fun K x x st f fd ∧ mg x = some (.ref f) ∧ ∀ (s : Shared) (v : Value), BindsTo s fd ⟨[v], []⟩ [(p, v)]
theorem law_mk {K : PySem.W.Frag} {mg : MG} {h : Heap} {x : Str} {st : Stmt} {p : Str} {f : Addr} {od an : Option Addr} {sl : Array (Option Value)} {oc kV dc pm cd ct : Value} (X : K.In h) (G : h.Ns mainGlobals mg)
    (hb : ∀ (kV doc pm : Value) (an : Option Addr) (cdv ct : Value) (s : Shared) (v : Value), BindsTo s (PySem.W.fnOf x x (defArgs st) (defBody st) (defScope st) .none kV doc pm an cdv ct) ⟨[v], []⟩ [(p, v)])
    (a : PySem.W.nsIn K mainGlobals x = some (some (.ref f))) (l : K.lookup f = some ⟨oc, od, .func (PySem.W.fnOf x x (defArgs st) (defBody st) (defScope st) .none kV dc pm an cd ct), sl⟩) (c : PySem.W.codeIn K cd x = true) (k : PySem.W.keepIn K (.ref f) = true) : LawAt K mg x st p :=
  ⟨f, _, fun_mk l c k, PySem.W.mg_of X G a, hb _ _ _ _ _ _⟩
section
variable {ι : Type} {Φ : Fam ι} {W : WX}
theorem je_globI {x : Str} {pos : Pos} {i : Int} (c : ∃ t, Φ.mg x = some (.int i t)) (hg : ∀ j, Gl (Φ.X j) x := by intro _; rfl) (hd : (x == ("__debug__" : Str)) = false := by decide) : JE Φ W 0 (.Name x pos) (wC (.int i)) := by
  obtain ⟨t, c⟩ := c
  exact je_glob (v := .int i) hg c ⟨t, rfl⟩ (fun _ => .int i) hd
theorem je_globS {x : Str} {pos : Pos} {i : Str} (c : ∃ t, Φ.mg x = some (.str i t)) (hg : ∀ j, Gl (Φ.X j) x := by intro _; rfl) (hd : (x == ("__debug__" : Str)) = false := by decide) : JE Φ W 0 (.Name x pos) (wC (.str i)) := by
  obtain ⟨t, c⟩ := c
  exact je_glob (v := .str i) hg c ⟨t, rfl⟩ (fun _ => .str i) hd
end
end B2

namespace B2
open PySem L2
def ev (l : List (Option X2)) : Env := fun i => (l[i]?).join
theorem whileN_ind {c : WT} {b : WS} {D : Ends2} (I : Nat → Env → Prop) (no : ∀ ρ, ¬ I 0 ρ)
    (step : ∀ n ρ, I (n + 1) ρ → (∀ ρ', I n ρ' → whileN c b D n ρ') → c D.ex ρ fun t ρ1 => if t = true then b { D with nx := whileN c b D n, ct := whileN c b D n, bk := D.nx } ρ1 else D.nx ρ1) : ∀ n ρ, I n ρ → whileN c b D n ρ
  | 0, ρ, h => (no ρ h).elim
  | n + 1, ρ, h => step n ρ h fun ρ' h' => whileN_ind I no step n ρ' h'
theorem iteI {c : Prop} [Decidable c] {A B : Prop} (h : c → A) (h' : ¬ c → B) : if c then A else B := by
  by_cases e : c
  · rw [if_pos e]; exact h e
  · rw [if_neg e]; exact h' e
def has (ρ : Env) : List (Nat × X2) → Prop
  | [] => True
  | (i, x) :: r => ρ i = some x ∧ has ρ r
def put (ρ : Env) : List (Nat × X2) → Env
  | [] => ρ
  | (i, x) :: r => upE (put ρ r) i (some x)
theorem has_put {ρ : Env} : ∀ {l : List (Nat × X2)}, has ρ l → ρ = put ρ l
  | [], _ => rfl
  | (i, x) :: r, h => by
    have e := has_put (l := r) h.2
    show ρ = upE (put ρ r) i (some x)
    rw [← e]
    funext j
    unfold upE
    by_cases z : j = i
    · rw [if_pos z, z]; exact h.1
    · rw [if_neg z]
end B2
namespace B2
open PySem L2
end B2
namespace B2
open PySem L2
end B2

namespace B2
open PySem L2
section
variable {prog : Program} {w : World} {A : Around} {E : Value → Shared → Prop} {s : Shared} {l : Addr} {its : List Value} {ns : List Int} {Q : Value → Shared → Prop}
end
section
variable {ι : Type} {Φ : Fam ι} {W : WX} {m m1 m2 m3 : Nat}
end
section
open PySem.Spec PyProof.Rows
theorem tuple_mulSame (l : Addr) (items : Array Value) (n : Nat) (dd : Option Addr) (sl : Array (Option Value)) (x : Int) (u : Tok) (c0 : (decide (x < -(2 ^ 63)) || decide (x ≥ 2 ^ 63)) = false) (c1 : (items.isEmpty || x == 1) = true) :
    Meets (Builtin.«tuple.__mul__» ⟨[.ref l, .int x u], []⟩) (fun _ R s => s.heap.get? l = some { cls := .type "tuple", dict := dd, data := .seq items n, slots := sl } ∧ R (.ok (.ret (Value.ref l))) s) :=
  .of_wp fun prog w A R s h => by
    obtain ⟨hp, g, d, tk, os⟩ := s
    obtain ⟨hl, h⟩ := h
    have f1 := AutoSeq1.idx_int
    wp_walk using wpAny_loadPart' hl
    repeat (first
      | (refine wpAny_ite_false (decide_eq_false (by rw [c0]; exact Bool.false_ne_true)) ?_; wp_walk using wpAny_loadPart' hl)
      | (refine wpAny_ite_true (decide_eq_true c1) ?_; wp_walk using wpAny_loadPart' hl))
    exact ⟨_, rfl, h⟩
theorem tuple_mulNone (l : Addr) (items : Array Value) (n : Nat) (dd : Option Addr) (sl : Array (Option Value)) (x : Int) (u : Tok) (c0 : (decide (x < -(2 ^ 63)) || decide (x ≥ 2 ^ 63)) = false) (c1 : (items.isEmpty || x == 1) = false) (c2 : (decide (x ≤ 0) || items.isEmpty) = true) :
    Meets (Builtin.«tuple.__mul__» ⟨[.ref l, .int x u], []⟩) (fun _ R s => s.heap.get? l = some { cls := .type "tuple", dict := dd, data := .seq items n, slots := sl } ∧
      R (.ok (.ret (Value.ref s.heap.objs.size))) { s with heap := s.heap.push { cls := Value.type "tuple", data := Data.seq #[] }, toks := s.toks }) :=
  .of_wp fun prog w A R s h => by
    obtain ⟨hp, g, d, tk, os⟩ := s
    obtain ⟨hl, h⟩ := h
    have f1 := AutoSeq1.idx_int
    wp_walk using wpAny_loadPart' hl
    repeat (first
      | (refine wpAny_ite_false (decide_eq_false (by rw [c0]; exact Bool.false_ne_true)) ?_; wp_walk using wpAny_loadPart' hl)
      | (refine wpAny_ite_false (decide_eq_false (by rw [c1]; exact Bool.false_ne_true)) ?_; wp_walk using wpAny_loadPart' hl)
      | (refine wpAny_ite_true (decide_eq_true c2) ?_; wp_walk using wpAny_loadPart' hl))
    exact ⟨_, rfl, h⟩
end
def rRepX (K : PySem.W.Frag) : R2 := fun x y H Q => ∃ l k xs, x = .ref l ∧ y = .int k ∧ SqT K H l xs ∧ -(2 ^ 63) ≤ k ∧ k ≤ 1000 ∧ xs.length ≤ 1000 ∧ ((xs = [] ∨ k = 1) → Q (.ref l) H) ∧ (¬ (xs = [] ∨ k = 1) → ∀ p, H p = none → Q (.ref p) (upd H p (.tup (List.replicate k.toNat xs).flatten)))
section
open PySem.Spec PyProof.Rows
variable {X : Cx}
theorem op_repX : OpR X (binaryOp .Mult) (rRepX X.K) := by
  intro pins s σ H x y v u Q I rx ry h
  obtain ⟨l, k, xs, hx, hy, hT, h1, h2, hz, q1, q2⟩ := h
  by_cases big : xs ≠ [] ∧ 2 ≤ k
  · exact op_repT pins s σ H x y v u Q I rx ry ⟨l, k, xs, hx, hy, hT, big.1, big.2, h2, hz, q2 (fun z => by
      rcases z with z | z
      · exact big.1 z
      · omega)⟩
  subst hx hy
  cases rx
  obtain ⟨t, rfl⟩ := ry
  obtain ⟨its, r, ⟨⟨cls, dd, data, sl⟩, ho, hc, n, hd⟩, hs⟩ := I.tuple hT
  simp only at hc hd
  subst hc hd
  have hle : its.length = xs.length := r.length.symm
  have c0 : (decide (k < -(2 ^ 63)) || decide (k ≥ 2 ^ 63)) = false := by
    rw [decide_eq_false (by omega), decide_eq_false (by omega)] <;> rfl
  by_cases same : xs = [] ∨ k = 1
  · have c1 : (its.toArray.isEmpty || k == 1) = true := by
      rcases same with e | e
      · have : its = [] := List.eq_nil_of_length_eq_zero (by rw [hle, e]; rfl)
        subst this
        rfl
      · rw [e, show ((1 : Int) == 1) = true from rfl, Bool.or_true]
    refine wpAny_binaryOp_repeat_ref (T := "tuple") (U := "int") (by decide) ⟨_, ho, rfl⟩ (fun s' => typeIs_int s' k t) noFill_tuple_mul F.fills_int_mul F.slot_int_rmul repeat_tuple F.slot_int_index.lookup
      (call_meets F.slot_int_rmul (typeIs_int s k t) F.entry_int_rmul (F.args_int_rmul_2 _ _) (int_rmul_tuple k t l its.toArray n dd sl)
        ⟨ho, rfl, ⟨_, ho, rfl⟩, call_meets F.slot_tuple_mul ⟨_, ho, rfl⟩ F.entry_tuple_mul (F.args_tuple_mul_2 _ _) (tuple_mulSame l its.toArray n dd sl k t c0 c1) ⟨ho, ?_⟩⟩)
    exact ⟨.ref l, H, I, rfl, q1 same⟩
  · have hn : its ≠ [] := fun e => same (.inl (List.eq_nil_of_length_eq_zero (by rw [← hle, e]; rfl)))
    have hi : its.toArray.isEmpty = false := by
      cases its with
      | nil => exact absurd rfl hn
      | cons a b => rfl
    have hk : k ≤ 0 := by
      by_cases z : 2 ≤ k
      · exact absurd ⟨fun e => same (.inl e), z⟩ big
      · have : k ≠ 1 := fun e => same (.inr e)
        omega
    have c1 : (its.toArray.isEmpty || k == 1) = false := by
      rw [hi, Bool.false_or]
      exact beq_eq_false_iff_ne.mpr (by omega)
    have c2 : (decide (k ≤ 0) || its.toArray.isEmpty) = true := by rw [decide_eq_true hk]; rfl
    refine wpAny_binaryOp_repeat_ref (T := "tuple") (U := "int") (by decide) ⟨_, ho, rfl⟩ (fun s' => typeIs_int s' k t) noFill_tuple_mul F.fills_int_mul F.slot_int_rmul repeat_tuple F.slot_int_index.lookup
      (call_meets F.slot_int_rmul (typeIs_int s k t) F.entry_int_rmul (F.args_int_rmul_2 _ _) (int_rmul_tuple k t l its.toArray n dd sl)
        ⟨ho, rfl, ⟨_, ho, rfl⟩, call_meets F.slot_tuple_mul ⟨_, ho, rfl⟩ F.entry_tuple_mul (F.args_tuple_mul_2 _ _) (tuple_mulNone l its.toArray n dd sl k t c0 c1 c2) ⟨ho, ?_⟩⟩)
    have e0 : k.toNat = 0 := by omega
    have q3 := q2 same
    rw [e0] at q3
    refine ⟨.ref s.heap.objs.size, _, I.laid (t' := s.toks) (o := .tup []) (fun b ob q => Heap.get?_push_of_some _ q) (Nat.le_refl _) ?_, rfl, q3 _ (I.hok.fresh (Nat.le_refl _))⟩
    exact ⟨by rw [sizeLine_eq]; simp, [], .nil, IsTup.new _ _⟩
end
section
variable {ι : Type} {Φ : Fam ι} {W : WX} {m m1 m2 m3 : Nat}
def rMulS : R2 := fun x y H Q => ∃ z j, x = .str z ∧ y = .int j ∧ -(2 ^ 63) ≤ j ∧ j ≤ 1000 ∧ z.length ≤ 10000 ∧ Q (.str (Txt.mul z j)) H
theorem op_mulS {X : Cx} : OpR X (binaryOp .Mult) rMulS := by
  intro pins s σ H x y v u Q I rx ry h
  obtain ⟨z, j, rfl, rfl, h1, h2, h3, q⟩ := h
  obtain ⟨t, rfl⟩ := rx
  obtain ⟨t2, rfl⟩ := ry
  refine PySem.SB.mul ⟨?_, fun a _ => ?_, fun a _ => ?_⟩ fun t' k => ⟨.str _, H, I.tok _, ⟨_, rfl⟩, q⟩
  · rw [decide_eq_false (by omega), decide_eq_false (by omega)] <;> rfl
  · have : (10000 : Int) ≤ (2 ^ 63 - 1) / j := by
      refine Int.le_ediv_of_mul_le (by omega) ?_
      omega
    omega
  · unfold Builtin.Str.tooLong
    rw [sizeLine_eq]
    have : z.length * j.toNat ≤ 10000 * 1000 := Nat.mul_le_mul h3 (by omega)
    exact decide_eq_false (by omega)
def mulX (a b : PyData) (k : X2 → Prop) : Prop := match a, b with
  | .str z, .int j => (-(2 ^ 63) ≤ j ∧ j ≤ 1000 ∧ z.length ≤ 10000) ∧ k (.d (.str (Txt.mul z j)))
  | .int i, .int j => MulOk i j ∧ k (.d (.int (i * j)))
  | .list xs, .int j => (-(2 ^ 63) ≤ j ∧ j < 2 ^ 63 ∧ xs.length * j.toNat ≤ 16777216) ∧ k (.own (List.replicate j.toNat xs).flatten)
  | .tuple xs, .int j => (-(2 ^ 63) ≤ j ∧ j ≤ 1000 ∧ xs.length ≤ 1000) ∧ k (.d (.tuple (List.replicate j.toNat xs).flatten))
  | _, _ => False
theorem rsim_mulX {K : PySem.W.Frag} : RSim K (fun x y H Q => rMulA K x y H Q ∨ rRepX K x y H Q ∨ rMulS x y H Q) mulX := by
  intro B H0 g σ ρ n H v1 v2 x1 x2 a b k Q r h1 e1 h2 e2 hf q
  unfold mulX at hf
  split at hf
  · rw [r.str h1 e1, r.int h2 e2]
    exact .inr (.inr ⟨_, _, rfl, rfl, hf.1.1, hf.1.2.1, hf.1.2.2, r.flat (fun _ => .str _) q hf.2⟩)
  · exact .inl (rsim_mul B H0 g σ ρ n H v1 v2 x1 x2 _ _ k Q r h1 e1 h2 e2 hf q)
  · exact .inl (rsim_mul B H0 g σ ρ n H v1 v2 x1 x2 _ _ k Q r h1 e1 h2 e2 hf q)
  · rename_i xs j
    obtain ⟨p, vs, rfl, s1, d1⟩ := r.tuple h1 e1
    rw [r.int h2 e2]
    refine .inr (.inl ⟨p, _, vs, rfl, rfl, s1, hf.1.1, hf.1.2.1, by rw [d1.length]; exact hf.1.2.2, fun z => ?_, fun z p2 hp => r.newT (d1.rep _) hp q hf.2⟩)
    have e0 : (List.replicate j.toNat xs).flatten = xs := by
      rcases z with z | z
      · subst z
        have : xs = [] := List.eq_nil_of_length_eq_zero (by rw [← d1.length]; rfl)
        subst this
        simp
      · subst z
        simp
    have hk := hf.2
    rw [e0] at hk
    exact q H0 H _ (.d (.tuple xs)) (Same.refl _) r (r.oldT h1 e1) hk
  · exact hf.elim
theorem je_mulX {a b : Expr} {pos : Pos} {wa wb : W2} (ha : JE Φ W m1 a wa) (hb : JE Φ W m2 b wb) : JE Φ W (m1 + m2) (.BinOp a .Mult b pos) (wBin mulX wa wb) := je_op (fun i => by rw [← Φ.hK i]; exact OpR.or op_mulA (OpR.or op_repX op_mulS)) rsim_mulX ha hb
end
end B2

namespace PyProof.Rows
open PySem
section
variable {prog : Program} {w : World} {A : Around} {E : Value → Shared → Prop} {s : Shared}
end
end PyProof.Rows
namespace B2
open PySem L2
section
variable {ι : Type} {Φ : Fam ι} {W : WX} {m m1 m2 m3 : Nat}
end
end B2

namespace B2
open PySem L2
section
variable {ι : Type} {Φ : Fam ι} {W : WX} {m m1 m2 m3 : Nat}
end
end B2

namespace B2
open PySem L2
section
variable {ι : Type} {Φ : Fam ι} {W : WX} {m m1 m2 m3 : Nat}
end
theorem const_int {K : PySem.W.Frag} {mg : MG} {h : Heap} {x : Str} {i : Int} {t : Tok} (X : K.In h) (G : h.Ns mainGlobals mg) (a : PySem.W.nsIn K mainGlobals x = some (some (.int i t))) : ∃ t, mg x = some (.int i t) := ⟨t, PySem.W.mg_of X G a⟩
theorem const_str {K : PySem.W.Frag} {mg : MG} {h : Heap} {x : Str} {i : Str} {t : Tok} (X : K.In h) (G : h.Ns mainGlobals mg) (a : PySem.W.nsIn K mainGlobals x = some (some (.str i t))) : ∃ t, mg x = some (.str i t) := ⟨t, PySem.W.mg_of X G a⟩
end B2

namespace B2
open PySem L2 PySem.Calls
open PyProof.Rows (envOfC)
structure Def2X (P : Program) (w : World) (K : PySem.W.Frag) (mg : MG) (base : Heap) (x : Str) (j : Nat) (ps : List Str) (mf len : Nat) (s : Spec2) : Prop where
  ex : ∃ (f : Addr) (fd : FuncData), FnG P w K mg base (L2N.CX P w) j f fd ps (liftS K mg mf len s) ∧ mg x = some (.ref f) ∧ PySem.W.keepIn K (.ref f) = true ∧ Binds K fd ps []
section
variable {ι : Type} {Φ : Fam ι} {W : WX} {m m1 m2 m3 : Nat}
theorem takesN0 {X : Cx} : L2N.Takes X (fun _ _ _ _ => False) := fun _ _ x => by
  obtain ⟨_, _, _, _, _, _, _, _, _, _, _, _, _, _, _, _, z⟩ := x
  exact z.elim
abbrev Tk (Φ : Fam ι) (W : WX) : Prop := ∀ i, L2N.Takes (Φ.X i) W
theorem je_callX {ps : List Str} {j mf len : Nat} {s : Spec2} {x : Str} {a : Expr} {as : List Expr} {p pos : Pos} {wa : WA} (D : Def2X Φ.P Φ.w Φ.K Φ.mg Φ.base x j ps mf len s) (tk : Tk Φ W) (ha : JA Φ W m (a :: as) wa) (hj : j ≤ Φ.k := by exact Nat.le_of_ble_eq_true rfl) (hcm : Φ.cm = true := by rfl)
    (hlen : (a :: as).length = len := by rfl) (hg : ∀ i, Gl (Φ.X i) x := by intro _; rfl) (hdb : (x == ("__debug__" : Str)) = false := by decide) (he : ∀ i, starEach (a :: as) (Φ.X i).env = (false, eval a (Φ.X i).env) :: starEach as (Φ.X i).env := by intro _; rfl) (hpl : ∀ i, (backTo pos (starEach as (Φ.X i).env)).any (·.1) = false := by intro _; rfl) : JE Φ W (m + mf) (.Call (.Name x p) (a :: as) [] pos) (wCall s wa) := by
  obtain ⟨f, fd, F, hm, hk, hb⟩ := D.ex
  obtain ⟨ta, a1, a2⟩ := ha
  refine ⟨tCallS (liftS Φ.K Φ.mg mf len s) (WE W) ta, fun i => ?_, ?_⟩
  · have F' : FnG (Φ.X i).prog (Φ.X i).w (Φ.X i).K (Φ.X i).mg (Φ.X i).base (L2N.CX (Φ.X i).prog (Φ.X i).w) j f fd ps (liftS Φ.K Φ.mg mf len s) := by rw [Φ.hP i, Φ.hw i, Φ.hK i, Φ.hmg i, Φ.hbase i]; exact F
    exact pe_callGS F' ((Φ.gd i).mono hj) ((Φ.room hcm i).mono hj) (hg i) (by rw [Φ.hmg i]; exact hm) (by rw [Φ.hK i]; exact hk) (by rw [Φ.hK i]; exact hb) (fun σ => L2N.passAt (tk i) σ) (a1 i) hdb (he i) (hpl i)
  · intro B H0 g σ ρ n H e k Q rs l hw q xq
    refine a2 B H0 g σ ρ n H e _ _ rs (by omega) hw (fun H1 ρ1 Ha vs xs s1 r1 h1 hl q1 => ?_) (fun H0' ρ' H' nm cls d s r' => xq H0' ρ' H' nm cls d s (r'.count (by omega)))
    obtain ⟨H2, ρ2, ys, s2, r2, h2, hq⟩ := r1.arg h1 q1
    refine ⟨hl.trans hlen, H2, g, n + m, ys, _, _, by omega, r2.ext, r2.drf, r2.drw, h2, hq, fun Hr H' v x lf hr hk => ?_, fun Hr H' nm cls d lf hen hmn => ?_⟩
    · exact q Hr ρ2 H' v x ((s1.trans s2).trans lf.b) ((r2.left lf).count (by omega)) (hr.r r2 lf) hk
    · exact xq Hr ρ2 H' nm cls d ((s1.trans s2).trans lf.b) ((r2.left lf).count (by omega)) hen hmn
def wRaise (nm : Str) : WS := fun D ρ => D.ex nm ρ
structure ErrC (K : PySem.W.Frag) (mg : MG) (x : Str) : Prop where
  ex : ∃ (C : Addr) (B newId initId : String) (bmB : List Value), ExcBaseFacts B newId initId bmB ∧ PySem.W.excIn K C bmB newId = true ∧ mg x = some (.ref C) ∧ PySem.W.keepIn K (.ref C) = true ∧ PySem.W.subIn K (.ref C) (.type "BaseException") = some true ∧ PySem.W.typeIn K (.ref C) = some (.type "type")
theorem js_raise {x t : Str} {j : Nat} {p p2 pos pos2 : Pos} (c : ErrC Φ.K Φ.mg x) (tk : Tk Φ W) (hcm : Φ.cm = true := by rfl) (hg : ∀ i, Gl (Φ.X i) x := by intro _; rfl) (hdb : (x == ("__debug__" : Str)) = false := by decide) : JS Φ W 0 (.Raise (some (.Call (.Name x p) [.Constant (.str t) j p2] [] pos)) none pos2) (wRaise x) := by
  obtain ⟨C, B, newId, initId, bmB, F, q, gC, kC, r1, r2⟩ := c.ex
  refine ⟨fun _ σ H => W (.ref C) none σ H, fun i => ?_, ?_⟩
  · exact L2N.ps_raise (Φ.calm hcm i) (tk i) (L2N.pmk_own F (by rw [Φ.hK i]; exact q) (by rw [Φ.hmg i]; exact gC) (by rw [Φ.hK i]; exact kC) (raises_own (by rw [Φ.hK i]; exact r1) (by rw [Φ.hK i]; exact r2)) (hg i) hdb)
  · intro B H0 g σ ρ n H D2 D r l h f
    exact f.ex H0 g σ ρ H x _ none (Same.refl _) (Sub.refl g) r h ⟨gC, rfl⟩
end
def famX (P : Program) (w : World) (K : PySem.W.Frag) (mg : MG) (base : Heap) (N : List Str) (qual : Str) (scope : Scope) (f : Addr) (cdv : Value) (A : Around) (outer : List PySem.Env) (s : Shared) (H : Hp) (E : XK) (k : Nat) (nd : N.Nodup) (hr : Room k (A.deeper (envOfC qual scope s.heap.objs.size f cdv))) (hg : Gd k (A.deeper (envOfC qual scope s.heap.objs.size f cdv))) (sr : Sr P base) (hsc : scope.isGenerator = false ∧ scope.isCoroutine = false) : Fam Unit where
  X := fun _ => cxOf (L2N.CX P w) P w K mg base N qual scope f cdv A outer s H E
  K := K
  mg := mg
  N := N
  sc := scope
  k := k
  P := P
  w := w
  base := base
  hK := fun _ => rfl
  hmg := fun _ => rfl
  hN := fun _ => rfl
  hsc := fun _ => rfl
  hP := fun _ => rfl
  hw := fun _ => rfl
  hbase := fun _ => rfl
  rm := fun _ => L2H.roomH_of hr
  room := fun _ _ => hr
  gd := fun _ => hg
  sr := sr
  stk := fun _ => ⟨_, _, rfl, hsc.1, hsc.2, rfl, rfl⟩
  cm := true
  calm := fun _ _ => rfl
  nd := nd
  pass := fun _ => passes_of rfl
abbrev WofE (E : XK) : WX := fun cls d _ H => E cls d H
theorem tk_famX {P : Program} {w : World} {K : PySem.W.Frag} {mg : MG} {base : Heap} {N : List Str} {qual : Str} {scope : Scope} {f : Addr} {cdv : Value} {A : Around} {outer : List PySem.Env} {s : Shared} {H : Hp} {E : XK} {k : Nat} {nd : N.Nodup} {hr : Room k (A.deeper (envOfC qual scope s.heap.objs.size f cdv))} {hg : Gd k (A.deeper (envOfC qual scope s.heap.objs.size f cdv))} {sr : Sr P base} {hsc : scope.isGenerator = false ∧ scope.isCoroutine = false} : Tk (famX P w K mg base N qual scope f cdv A outer s H E k nd hr hg sr hsc) (WofE E) := fun _ => L2N.takes_of rfl rfl rfl rfl
theorem tk_famN {P : Program} {w : World} {K : PySem.W.Frag} {mg : MG} {base : Heap} {N : List Str} {qual : Str} {scope : Scope} {f : Addr} {cdv : Value} {A : Around} {outer : List PySem.Env} {s : Shared} {H : Hp} {E : XK} {k : Nat} {nd : N.Nodup} {hr : Room k (A.deeper (envOfC qual scope s.heap.objs.size f cdv))} {hg : Gd k (A.deeper (envOfC qual scope s.heap.objs.size f cdv))} {sr : Sr P base} {hsc : scope.isGenerator = false ∧ scope.isCoroutine = false} : Tk (famN P w K mg base N qual scope f cdv A outer s H E k nd hr hg sr hsc) (fun _ _ _ _ => False) := fun _ => takesN0
section
variable {P : Program} {w : World} {K : PySem.W.Frag} {mg : MG} {base : Heap} {m : Nat}
theorem fn_okX {x qual : Str} {st : Stmt} {f : Addr} {fd : FuncData} {N ps : List Str} {k len : Nat} {s : Spec2} {wb : WS} (sr : Sr P base) (F : Fun K x qual st f fd) (S : FnScope N ps (defScope st)) (hlen : ps.length = len)
    (hb : ∀ (cdv : Value) (A : Around) (outer : List PySem.Env) (sh : Shared) (H : Hp) (E : XK) (hr : Room k (A.deeper (envOfC qual (defScope st) sh.heap.objs.size f cdv))) (hg : Gd k (A.deeper (envOfC qual (defScope st) sh.heap.objs.size f cdv))), JSs (famX P w K mg base N qual (defScope st) f cdv A outer sh H E k S.nd hr hg sr ⟨S.gen, S.co⟩) (WofE E) m (defBody st) wb)
    (hs : ∀ xs k e, s xs k e → runB wb xs k e) : FnG P w K mg base (L2N.CX P w) (k + 1) f fd ps (liftS K mg m len s) := by
  refine FunG.okX F S (fun vs H Q E h => h.1.trans hlen.symm) (fun cdv A outer sh H vs Q E hr hg h => ?_)
  obtain ⟨_, Hb, g, n, xs, kk, e, hl, hsame, hf, hd, ha, hsp, hq, hx⟩ := h
  obtain ⟨t, a1, a2⟩ := hb cdv A outer sh H E hr hg
  refine ⟨t, a1 (), ?_⟩
  refine a2 ⟨H, Hb, g⟩ Hb g (L2.start N vs) _ n H _ _ (RS.start hsame hf hd ha) hl (hs _ _ _ hsp) ?_
  refine ⟨fun H0' g' σ' ρ' H' _ _ r z => ?_, fun H0' g' σ' ρ' H' v x _ _ r h1 _ z => ?_, fun _ _ _ _ _ _ _ _ z => z.elim, fun _ _ _ _ _ _ _ _ z => z.elim, fun H0' g' σ' ρ' H' nm cls d _ _ r z hm => ?_⟩
  · exact hq H0' H' .non (.d .none) r.toLeft .non z
  · obtain ⟨z1, z2⟩ := h1.ret r z
    exact hq H0' H' v x r.toLeft z1 z2
  · exact hx H0' H' nm cls d r.toLeft z hm
end
end B2

namespace B2
open PySem L2 PySem.Calls PyProof.Rows
structure TrIx {ι : Type} (Φ : Fam ι) (W : WX) where
  i : ι
  pn : List (Addr × Obj)
  xe : Value → Shared → Prop
  tk : L2N.Takes ((Φ.X i).tr pn xe) W
  ps : PassesOwn (model (Φ.X i).prog (Φ.X i).w) (Φ.X i).A (Φ.X i).env xe
def Fam.tr {ι : Type} (Φ : Fam ι) (W : WX) : Fam (TrIx Φ W) where
  X := fun q => (Φ.X q.i).tr q.pn q.xe
  K := Φ.K
  mg := Φ.mg
  N := Φ.N
  sc := Φ.sc
  k := Φ.k
  P := Φ.P
  w := Φ.w
  base := Φ.base
  hK := fun q => Φ.hK q.i
  hmg := fun q => Φ.hmg q.i
  hN := fun q => Φ.hN q.i
  hsc := fun q => Φ.hsc q.i
  hP := fun q => Φ.hP q.i
  hw := fun q => Φ.hw q.i
  hbase := fun q => Φ.hbase q.i
  rm := fun q => Φ.rm q.i
  room := fun h q => Φ.room h q.i
  gd := fun q => Φ.gd q.i
  sr := Φ.sr
  stk := fun q => Φ.stk q.i
  cm := Φ.cm
  calm := fun h q => Φ.calm h q.i
  nd := Φ.nd
  pass := fun q => q.ps
theorem tk_tr {ι : Type} {Φ : Fam ι} {W : WX} : Tk (Φ.tr W) W := fun q => q.tk
structure SuIx {ι : Type} (Φ : Fam ι) (cls : Value) (d : Option Addr) where
  i : ι
  oe : Obj
  pn : List (Addr × Obj)
  hz : L2N.Zn cls d oe
  hf : ∃ vs, oe.data = .fields vs
def Fam.su {ι : Type} (Φ : Fam ι) (a : Addr) (cls : Value) (d : Option Addr) : Fam (SuIx Φ cls d) where
  X := fun q => (Φ.X q.i).suite a ((a, q.oe) :: q.pn)
  K := Φ.K
  mg := Φ.mg
  N := Φ.N
  sc := Φ.sc
  k := Φ.k
  P := Φ.P
  w := Φ.w
  base := Φ.base
  hK := fun q => Φ.hK q.i
  hmg := fun q => Φ.hmg q.i
  hN := fun q => Φ.hN q.i
  hsc := fun q => Φ.hsc q.i
  hP := fun q => Φ.hP q.i
  hw := fun q => Φ.hw q.i
  hbase := fun q => Φ.hbase q.i
  rm := fun q => ⟨(Φ.rm q.i).dp, (Φ.rm q.i).un⟩
  room := fun h => nomatch h
  gd := fun q => ⟨(Φ.gd q.i).no, (Φ.gd q.i).far⟩
  sr := Φ.sr
  stk := fun q => Φ.stk q.i
  cm := false
  calm := fun h => nomatch h
  nd := Φ.nd
  pass := fun _ => PassesOwn.never
structure ErrM (K : PySem.W.Frag) (mg : MG) (x : Str) (errs : List Str) (f : Str → Bool) : Prop where
  ex : ∃ c, (mg x = some c ∨ (mg x = none ∧ bootBuiltins x = some c ∧ x ≠ "__name__")) ∧ ∀ nm ∈ errs, ∀ cls, mg nm = some cls → PySem.W.exmOne K cls c = some (f nm)
def goneW (i : Nat) (D : Ends2) : Ends2 := { nx := fun ρ => D.nx (upE ρ i none), rt := D.rt, bk := fun ρ => D.bk (upE ρ i none), ct := fun ρ => D.ct (upE ρ i none) }
abbrev W0 : WX := fun _ _ _ _ => False
section
variable {ι : Type} {Φ : Fam ι} {W : WX} {m m1 m2 m3 : Nat}
noncomputable def tSu (errs : List Str) (f : Str → Bool) (mg : MG) (cls : Value) (d : Option Addr) (t : ∀ nm, nm ∈ errs → f nm = true → Exn mg nm cls d → TS) : TS := fun D σ H => ∃ (nm : Str) (h1 : nm ∈ errs) (h2 : f nm = true) (h3 : Exn mg nm cls d), t nm h1 h2 h3 D σ H
theorem pss_su {X : Cx} {errs : List Str} {f : Str → Bool} {mg : MG} {cls : Value} {d : Option Addr} {b : List Stmt} {t : ∀ nm, nm ∈ errs → f nm = true → Exn mg nm cls d → TS} (h : ∀ nm h1 h2 h3, PSs X b (t nm h1 h2 h3)) : PSs X b (tSu errs f mg cls d t) :=
  ⟨fun pins s σ H D I hw => let ⟨nm, h1, h2, h3, q⟩ := hw; (h nm h1 h2 h3).run pins s σ H D I q⟩
theorem RS.gone {K : PySem.W.Frag} {B : Base} {H0 H : Hp} {g : Option Gs} {σ : L2.St} {ρ : Env} {n : Nat} (r : RS K B H0 g σ ρ n H) (i : Nat) : RS K B H0 g (σ.set i none) (upE ρ i none) n H := r.weak fun j y q => by
  by_cases hj : j = i
  · rw [hj, upE_same] at q; cases q
  · rw [upE_ne hj] at q; exact ⟨q, List.getElem?_set_ne (Ne.symm hj)⟩
def ssLen (L : Nat) (t : TS) : TS := fun D σ H => σ.length = L → t D σ H
theorem pss_len {X : Cx} {st : List Stmt} {t : TS} {N : List Str} (hN : X.N = N) (h : PSs X st t) : PSs X st (ssLen N.length t) := ⟨fun pins s σ H D I hw => h.run pins s σ H D I (hw (by rw [I.len, hN]))⟩
end
end B2

namespace B2
open PySem PySem.Spec L2 PySem.Calls
section
variable {ι : Type} {Φ : Fam ι} {W : WX} {m m1 m2 m3 : Nat}
end
end B2

namespace B2
open PySem PySem.Spec L2 PySem.Calls
theorem errC_mk {K : PySem.W.Frag} {mg : MG} {h : Heap} {x : Str} {C : Addr} (X : K.In h) (G : h.Ns mainGlobals mg) (a : PySem.W.nsIn K mainGlobals x = some (some (.ref C))) (q : PySem.W.excIn K C [.type "ValueError", .type "Exception", .type "BaseException", .type "object"] "ValueError.__new__" = true) (k : PySem.W.keepIn K (.ref C) = true)
    (b : PySem.W.subIn K (.ref C) (.type "BaseException") = some true) (t : PySem.W.typeIn K (.ref C) = some (.type "type")) : ErrC K mg x :=
  ⟨C, _, _, _, _, PySem.F.excBase_ValueError, q, PySem.W.mg_of X G a, k, b, t⟩
theorem exm_sub {K : PySem.W.Frag} {cls : Value} {C : Addr} {r : Bool} (b : PySem.W.subIn K (.ref C) (.type "BaseException") = some true) (i : PySem.W.isClsIn K C = true) (t : PySem.W.typeIn K (.ref C) = some (.type "type")) (s : PySem.W.subIn K cls (.ref C) = some r) : PySem.W.exmOne K cls (.ref C) = some r := by
  have i' : (PySem.W.clsIn K C).isSome = true := i
  have e : PySem.W.kitCls K cls (.ref C) = some r := by
    show (if ((PySem.W.clsIn K C).isSome && PySem.W.typeIn K (.ref C) == some (.type "type")) = true then PySem.W.subIn K cls (.ref C) else none) = some r
    rw [i', t]
    exact s
  unfold PySem.W.exmOne
  rw [b, e]
  rfl
structure Sub1 (K : PySem.W.Frag) (mg : MG) (C : Addr) (nm : Str) (r : Bool) : Prop where
  ex : ∃ D, mg nm = some (.ref D) ∧ PySem.W.subIn K (.ref D) (.ref C) = some r
theorem sub1_mk {K : PySem.W.Frag} {mg : MG} {h : Heap} {C D : Addr} {nm : Str} {r : Bool} (X : K.In h) (G : h.Ns mainGlobals mg) (a : PySem.W.nsIn K mainGlobals nm = some (some (.ref D))) (s : PySem.W.subIn K (.ref D) (.ref C) = some r) : Sub1 K mg C nm r := ⟨D, PySem.W.mg_of X G a, s⟩
theorem errM_mk {K : PySem.W.Frag} {mg : MG} {h : Heap} {x : Str} {C : Addr} {errs : List Str} {f : Str → Bool} (X : K.In h) (G : h.Ns mainGlobals mg) (a : PySem.W.nsIn K mainGlobals x = some (some (.ref C))) (b : PySem.W.subIn K (.ref C) (.type "BaseException") = some true) (i : PySem.W.isClsIn K C = true) (t : PySem.W.typeIn K (.ref C) = some (.type "type"))
    (s : ∀ nm ∈ errs, Sub1 K mg C nm (f nm)) : ErrM K mg x errs f :=
  ⟨.ref C, .inl (PySem.W.mg_of X G a), fun nm hn cls hc => by
    obtain ⟨D, h1, h2⟩ := (s nm hn).ex
    rw [h1] at hc
    cases hc
    exact exm_sub b i t h2⟩
theorem subs_nil {K : PySem.W.Frag} {mg : MG} {C : Addr} {f : Str → Bool} : ∀ nm ∈ ([] : List Str), Sub1 K mg C nm (f nm) := fun _ h => nomatch h
theorem subs_cons {K : PySem.W.Frag} {mg : MG} {C : Addr} {f : Str → Bool} {nm : Str} {r : List Str} (h : Sub1 K mg C nm (f nm)) (t : ∀ nm ∈ r, Sub1 K mg C nm (f nm)) : ∀ x ∈ nm :: r, Sub1 K mg C x (f x) := fun x hx => by
  rcases List.mem_cons.mp hx with e | e
  · rw [e]; exact h
  · exact t x e
end B2

namespace B2
open PySem L2
section
variable {α β τ : Type}
theorem forL_put {gt : WG} {b : WS} {D : Ends2} (enc : α → PyData) (E : τ → List (Nat × X2)) (I : List α → τ → Prop)
    (step : ∀ a as t ρ, I (a :: as) t → (∀ t' ρ', I as t' → has ρ' (E t') → forL gt b D (as.map enc) ρ') → gt (enc a) (put ρ (E t)) fun ρ' => b { D with nx := forL gt b D (as.map enc), ct := forL gt b D (as.map enc), bk := D.nx } ρ')
    (done : ∀ t ρ, I [] t → D.nx (put ρ (E t))) : ∀ (as : List α) (t : τ) (ρ : Env), I as t → has ρ (E t) → forL gt b D (as.map enc) ρ
  | [], t, ρ, h, hρ => by rw [has_put hρ]; exact done t ρ h
  | a :: as, t, ρ, h, hρ => by rw [has_put hρ]; exact step a as t ρ h fun t' ρ' h' hρ' => forL_put enc E I step done as t' ρ' h' hρ'
theorem forL_of {gt : WG} {b : WS} {D : Ends2} (enc : α → PyData) (E : τ → List (Nat × X2)) (I : List α → τ → Prop) (as : List α) (t : τ)
    {ds : List PyData} {ρ : Env} (hds : ds = as.map enc) (hρ : has ρ (E t)) (h : I as t)
    (step : ∀ a as t ρ, I (a :: as) t → (∀ t' ρ', I as t' → has ρ' (E t') → forL gt b D (as.map enc) ρ') → gt (enc a) (put ρ (E t)) fun ρ' => b { D with nx := forL gt b D (as.map enc), ct := forL gt b D (as.map enc), bk := D.nx } ρ')
    (done : ∀ t ρ, I [] t → D.nx (put ρ (E t))) : forL gt b D ds ρ := by
  rw [hds]; exact forL_put enc E I step done as t ρ h hρ
def lcT (gt : WG) (wt : WT) (we : W2) (ρb : Env) (d : PyData) (R : PyData → Prop) (S : Prop) : Prop := gt d ρb fun ρ2 => wt noX ρ2 fun b ρ3 => ρ3 = ρ2 ∧ if b = true then we noX ρ3 (fun y ρ4 => ρ4 = ρ3 ∧ match y with
      | .d dy => R dy
      | .own es => R (.list es)
      | _ => False) else S
theorem lcL_cons {gt : WG} {wt : WT} {we : W2} {ρb : Env} {k : List PyData → Prop} {d : PyData} {ds acc : List PyData} (h : lcT gt wt we ρb d (fun y => lcL gt wt we ρb k ds (acc ++ [y])) (lcL gt wt we ρb k ds acc)) : lcL gt wt we ρb k (d :: ds) acc := h
theorem lcL_pure {gt : WG} {wt : WT} {we : W2} {ρb : Env} {k : List PyData → Prop} (enc : α → PyData) (p : α → Bool) (g : α → PyData) (as : List α) {ds : List PyData} (hds : ds = as.map enc)
    (step : ∀ a ∈ as, ∀ (R : PyData → Prop) (S : Prop), (p a = true → R (g a)) → (p a = false → S) → lcT gt wt we ρb (enc a) R S) (done : k ((as.filter p).map g)) : lcL gt wt we ρb k ds [] := by
  subst hds
  have key : ∀ (as : List α) (acc : List PyData), (∀ a ∈ as, ∀ (R : PyData → Prop) (S : Prop), (p a = true → R (g a)) → (p a = false → S) → lcT gt wt we ρb (enc a) R S) → k (acc ++ (as.filter p).map g) → lcL gt wt we ρb k (as.map enc) acc := by
    intro as
    induction as with
    | nil => intro acc _ h; simpa [lcL] using h
    | cons a as ih =>
      intro acc hs h
      rw [List.map_cons]
      refine lcL_cons (hs a (.head _) _ _ (fun e => ?_) (fun e => ?_))
      · refine ih _ (fun x hx => hs x (.tail _ hx)) ?_
        rw [List.filter_cons_of_pos e, List.map_cons] at h
        rw [List.append_assoc]
        exact h
      · refine ih _ (fun x hx => hs x (.tail _ hx)) ?_
        rw [List.filter_cons_of_neg (by rw [e]; decide)] at h
        exact h
  exact key as [] step done
theorem lcL_map {gt : WG} {we : W2} {ρb : Env} {k : List PyData → Prop} (enc : α → PyData) (g : α → PyData) (as : List α) {ds : List PyData} (hds : ds = as.map enc)
    (step : ∀ a ∈ as, ∀ (R : PyData → Prop), R (g a) → lcT gt wYes we ρb (enc a) R False) (done : k (as.map g)) : lcL gt wYes we ρb k ds [] := by
  refine lcL_pure enc (fun _ => true) g as hds (fun a ha R S h1 _ => ?_) (by rw [List.filter_eq_self.mpr fun _ _ => rfl]; exact done)
  exact step a ha R (h1 rfl)
end
end B2
namespace B2
theorem map_snoc {α β : Type} (f : α → β) (l : List α) (a : α) : l.map f ++ [f a] = (l ++ [a]).map f := by rw [List.map_append]; rfl
theorem map_app {α β : Type} (f : α → β) (l m : List α) : l.map f ++ m.map f = (l ++ m).map f := by rw [List.map_append]
end B2
namespace B2
theorem recI {c : Prop} {F : ¬c → Prop} {T : c → Prop} {d : Decidable c} (h : ∀ h : c, T h) (h' : ∀ h : ¬c, F h) : @Decidable.rec c (fun _ => Prop) F T d := by
  cases d with
  | isTrue z => exact h z
  | isFalse z => exact h' z
theorem recY {c : Prop} {F : ¬c → Prop} {T : c → Prop} {d : Decidable c} (z : c) (h : T z) : @Decidable.rec c (fun _ => Prop) F T d := recI (fun _ => h) fun n => (n z).elim
theorem recN {c : Prop} {F : ¬c → Prop} {T : c → Prop} {d : Decidable c} (z : ¬c) (h : F z) : @Decidable.rec c (fun _ => Prop) F T d := recI (fun n => (z n).elim) fun _ => h
theorem iteY' {c : Prop} {d : Decidable c} {A B : Prop} (z : c) (h : A) : @ite _ c d A B := by rw [if_pos z]; exact h
theorem iteN' {c : Prop} {d : Decidable c} {A B : Prop} (z : ¬c) (h : B) : @ite _ c d A B := by rw [if_neg z]; exact h
end B2
namespace B2
theorem erase_map {α β : Type} (f : α → β) (l : List α) (n : Nat) : (l.map f).eraseIdx n = (l.eraseIdx n).map f := by
  induction l generalizing n with
  | nil => simp
  | cons a l ih => cases n with
    | zero => simp
    | succ n => simp [ih]
end B2

namespace B2
open PySem L2
theorem int_short {i : Int} (h : i.natAbs.log2 < 1920) : (PyData.shown (.int i)).length ≤ 580 := by
  have h1 : i.natAbs < 10 ^ 579 := by
    by_cases z : i.natAbs = 0
    · rw [z]; exact Nat.pow_pos (by decide)
    · have := (Nat.log2_lt z).mp h
      exact Nat.lt_of_lt_of_le this (by decide +kernel)
  have e := int_text_length_le10 (k := 579) (by decide) h1
  show (Str.ofString (toString i)).length ≤ 580
  rw [ofString_length]
  exact e
mutual
theorem short_of : ∀ d : PyData, d.canLay0 = true → d.showable = true → d.leavesShort 580 = true
  | .none, _, _ => by simp [PyData.leavesShort]
  | .bool _, _, _ => by simp [PyData.leavesShort]
  | .int i, _, h => by
    simp only [PyData.leavesShort, decide_eq_true_eq]
    exact int_short (by simpa [PyData.showable] using h)
  | .str x, h, _ => by
    simp only [PyData.canLay0] at h
    unfold PyData.strOk at h
    rw [Array.all_eq_true_iff_forall_mem] at h
    simp only [PyData.leavesShort, List.all_eq_true, decide_eq_true_eq]
    intro c hc
    have := h c (by simpa using hc)
    simp only [decide_eq_true_eq] at this
    exact Nat.lt_of_lt_of_le this (by decide)
  | .list xs, h, s => by
    simp only [PyData.leavesShort]
    exact short_all xs (by simpa [PyData.canLay0] using h) (by simpa [PyData.showable] using s)
  | .tuple xs, h, s => by
    simp only [PyData.leavesShort]
    exact short_all xs (by simpa [PyData.canLay0] using h) (by simpa [PyData.showable] using s)
  | .dict _, h, _ => by simp [PyData.canLay0] at h
theorem short_all : ∀ ds : List PyData, PyData.canLayAll0 ds = true → PyData.showableAll ds = true → PyData.leavesShortAll 580 ds = true
  | [], _, _ => by simp [PyData.leavesShortAll]
  | d :: ds, h, s => by
    have h : d.canLay0 = true ∧ PyData.canLayAll0 ds = true := by simpa [PyData.canLayAll0] using h
    have s : d.showable = true ∧ PyData.showableAll ds = true := by simpa [PyData.showableAll] using s
    simp only [PyData.leavesShortAll, short_of d h.1 s.1, short_all ds h.2 s.2, Bool.and_self]
end
structure Shy (n b : Nat) (d : PyData) : Prop where
  lay : d.canLay0 = true
  dep : d.depth ≤ n
  sh : d.showable = true
  bk : d.bulk ≤ b
structure ShyM (n b : Nat) (d : PyData) : Prop where
  lv : d.leavesShort 580 = true
  no : noLst d = true
  dep : d.depth ≤ n
  sh : d.showable = true
  bk : d.bulk ≤ b
structure ShyE (n b : Nat) (d : PyData) : Prop where
  or : Shy n b d ∨ ShyM n b d
theorem Shy.e {n b : Nat} {d : PyData} (h : Shy n b d) : ShyE n b d := ⟨.inl h⟩
theorem ShyM.e {n b : Nat} {d : PyData} (h : ShyM n b d) : ShyE n b d := ⟨.inr h⟩
instance {n b : Nat} {d : PyData} : Coe (Shy n b d) (ShyE n b d) := ⟨Shy.e⟩
theorem len_of {d : PyData} (h : d.leavesShort 580 = true) (k : d.bulk ≤ 28000) : d.shown.length ≤ sizeLine := by
  have e := PyData.shown_le_bulk 580 (by decide) d h
  rw [sizeLine_eq]
  have e2 : (580 + 2) * d.bulk ≤ 582 * 28000 := Nat.mul_le_mul (Nat.le_refl _) k
  omega
theorem ShyE.lv {n b : Nat} {d : PyData} (h : ShyE n b d) : d.leavesShort 580 = true := h.or.elim (fun h => short_of d h.lay h.sh) fun h => h.lv
theorem ShyE.dep {n b : Nat} {d : PyData} (h : ShyE n b d) : d.depth ≤ n := h.or.elim (fun h => h.dep) fun h => h.dep
theorem ShyE.sh {n b : Nat} {d : PyData} (h : ShyE n b d) : d.showable = true := h.or.elim (fun h => h.sh) fun h => h.sh
theorem ShyE.bk {n b : Nat} {d : PyData} (h : ShyE n b d) : d.bulk ≤ b := h.or.elim (fun h => h.bk) fun h => h.bk
theorem ShyE.len {n : Nat} {d : PyData} (h : ShyE n 28000 d) : d.shown.length ≤ sizeLine := len_of h.lv h.bk
theorem ShyE.sm {n b : Nat} {d : PyData} {as : List Addr} (h : ShyE n b d) (q : noLst d = true → ∀ a ∈ as, a ≠ sysModules) : d.hasDict = true → sysModules ∉ as := by
  rcases h.or with h | h
  · exact PyData.noDict_hsm (PyData.hasDict_of_canLay _ h.lay)
  · exact fun _ hm => q h.no _ hm rfl
section
variable {ι : Type} {Φ : Fam ι} {W : WX} {m m1 m2 m3 : Nat}
end
structure ShyA (n b : Nat) (ds : List PyData) : Prop where
  lay : PyData.canLayAll0 ds = true
  dep : PyData.depthAll ds ≤ n
  sh : PyData.showableAll ds = true
  bk : PyData.bulkAll ds ≤ b
theorem Shy.mono {n m b c : Nat} {d : PyData} (h : Shy n b d) (l : n ≤ m) (k : b ≤ c) : Shy m c d := ⟨h.lay, Nat.le_trans h.dep l, h.sh, Nat.le_trans h.bk k⟩
theorem ShyA.mono {n m b c : Nat} {d : List PyData} (h : ShyA n b d) (l : n ≤ m) (k : b ≤ c) : ShyA m c d := ⟨h.lay, Nat.le_trans h.dep l, h.sh, Nat.le_trans h.bk k⟩
theorem shy_nil0 {n : Nat} : ShyA n 0 [] := ⟨by simp [PyData.canLayAll0], by simp [PyData.depthAll], by simp [PyData.showableAll], by simp [PyData.bulkAll]⟩
theorem shy_cons0 {n b c : Nat} {d : PyData} {ds : List PyData} (h : Shy n b d) (t : ShyA n c ds) : ShyA n (b + 1 + c) (d :: ds) :=
  ⟨by simp only [PyData.canLayAll0, h.lay, t.lay, Bool.and_self], by have := h.dep; have := t.dep; simp only [PyData.depthAll]; omega, by simp only [PyData.showableAll, h.sh, t.sh, Bool.and_self], by have := h.bk; have := t.bk; simp only [PyData.bulkAll]; omega⟩
theorem shy_map0 {n b m : Nat} {α : Type} {f : α → PyData} : ∀ {as : List α}, (∀ a ∈ as, Shy n b (f a)) → as.length ≤ m → ShyA n (m * (b + 1)) (as.map f)
  | [], _, _ => shy_nil0.mono (Nat.le_refl _) (Nat.zero_le _)
  | a :: as, h, l => by
    cases m with
    | zero => simp at l
    | succ m =>
      have ih := shy_map0 (m := m) (as := as) (fun x hx => h x (.tail _ hx)) (by simpa using l)
      exact (shy_cons0 (h a (.head _)) ih).mono (Nat.le_refl _) (by rw [Nat.succ_mul]; omega)
theorem shy_T {n b : Nat} {ds : List PyData} (h : ShyA n b ds) : Shy (n + 1) b (.tuple ds) := ⟨by simp only [PyData.canLay0]; exact h.lay, by have := h.dep; simp only [PyData.depth]; omega, by simp only [PyData.showable]; exact h.sh, by simp only [PyData.bulk]; exact h.bk⟩
theorem shy_int {n b : Nat} {i : Int} (h : i.natAbs.log2 < 1920) : Shy n b (.int i) := ⟨by simp [PyData.canLay0], by simp [PyData.depth], by simpa [PyData.showable] using h, by simp [PyData.bulk]⟩
theorem shy_str {n b : Nat} {s : Str} (h : ∀ c ∈ s.cps.toList, c < 1114112) (l : s.cps.size ≤ b) : Shy n b (.str s) := by
  refine ⟨?_, by simp [PyData.depth], by simp [PyData.showable], by simpa [PyData.bulk] using l⟩
  simp only [PyData.canLay0]
  unfold PyData.strOk
  rw [Array.all_eq_true_iff_forall_mem]
  intro c hc
  simpa using h c (by simpa using hc)
end B2

namespace B2
open PySem L2
section
open PySem.Spec PyProof.Rows HT
variable {prog : Program} {w : World} {A : Around} {E : Value → Shared → Prop} {s : Shared}
end
section
open PySem.Spec PyProof.Rows
variable {X : Cx} {e : Expr} {te : TE}
end
section
variable {ι : Type} {Φ : Fam ι} {W : WX} {m m1 m2 m3 : Nat}
end
section
variable {ι : Type} {Φ : Fam ι} {W : WX} {m m1 m2 m3 : Nat}
end
end B2

namespace B2
open PySem L2 PySem.Calls
open PyProof.Rows (envOfC)
section
variable {K : PySem.W.Frag} {B : Base} {H0 H0' H H' : Hp} {g : Option Gs} {σ σ' : St} {ρ ρ' : Env} {n m : Nat} {v : V} {x : X2}
end
section
variable {ι : Type} {Φ : Fam ι} {W : WX} {m m1 m2 m3 : Nat}
end
end B2
namespace B2
open PySem L2
structure TupC (K : PySem.W.Frag) (mg : MG) (x : Str) (ds : List PyData) : Prop where
  ex : ∃ a : Addr, mg x = some (.ref a) ∧ ∀ H : Hp, Dq K H (.ref a) (.tuple ds)
section
variable {ι : Type} {Φ : Fam ι} {W : WX}
end
end B2
namespace B2
open PySem L2 PySem.Calls
section
variable {ι : Type} {Φ : Fam ι} {W : WX} {m m1 m2 m3 : Nat}
end
end B2
namespace B2
open PySem L2
theorem js_whileE {ι : Type} {Φ : Fam ι} {W : WX} {m1 m2 : Nat} (c M : Nat) {ce : Expr} {body : List Stmt} {pos : Pos} {wc : WT} {wb : WS} (hc : JT Φ W m1 ce wc) (hb : JSs Φ W m2 body wb) (e : m1 + m2 = c := by rfl) : JS Φ W M (.While ce body [] pos) (wWhile c M wc wb) := by
  subst e; exact js_while M hc hb
end B2

namespace B2
open PySem L2
section
variable {K : PySem.W.Frag} {B : Base} {H0 H : Hp} {g : Option Gs} {σ : St} {ρ : Env} {n : Nat}
theorem RS.apart (r : RS K B H0 g σ ρ n H) {p : Addr} {o : HO} (h : H p = none) : RS K ⟨upd B.He p o, B.Hb, B.g⟩ H0 g σ ρ n (upd H p o) := by
  obtain ⟨f1, f2, f3⟩ := r.fresh h
  have s1 : Same H (upd H p o) := fun b u e => by rw [upd_ne (ne_of_none e h)]; exact e
  have r1 := r.grow s1
  have hp : B.Hb p = none := by
    cases e : B.Hb p with
    | none => rfl
    | some u => rw [r.hb p u e] at f2; cases f2
  refine ⟨r.hb, fun b u e => ?_, r1.ext, fun b u e ng => ?_, r1.drw, r.drf, ?_, fun i x q => ?_, r.dist⟩
  · rcases r.new b u e with z | z
    · exact .inl z
    · have hb : b ≠ p := fun w => by rw [w, f2] at e; cases e
      exact .inr (by show upd B.He p o b = none; rw [upd_ne hb]; exact z)
  · by_cases hb : b = p
    · rw [hb, upd_same]; rw [hb] at e; have e : upd B.He p o p = some u := e; rw [upd_same] at e; exact e
    · have e : upd B.He p o b = some u := e
      rw [upd_ne hb] at e
      exact r1.keep b u e ng
  · rcases r.gg with z | ⟨z1, z2⟩
    · exact .inl z
    · refine .inr ⟨z1, fun b hb => ?_⟩
      have hne : b ≠ p := fun w => f3 (by rw [← w]; exact hb)
      show upd B.He p o b = none
      rw [upd_ne hne]; exact z2 b hb
  · obtain ⟨v, h1, h2⟩ := r.sl i x q
    refine ⟨v, h1, h2.keep (Same.refl _) fun q' a e f => ?_⟩
    obtain ⟨w, hn⟩ := h2.foot e f
    have hne : a ≠ p := fun z => hn (by rw [z]; exact h)
    exact ⟨fun u z => s1 a u z, fun _ => ⟨w.h0, by show upd B.He p o a = none; rw [upd_ne hne]; exact w.he, w.ng⟩⟩
theorem RS.unapart {p : Addr} {o : HO} (f1 : B.He p = none) (r : RS K ⟨upd B.He p o, B.Hb, B.g⟩ H0 g σ ρ n H) : RS K B H0 g σ ρ n H := by
  have low : ∀ b, upd B.He p o b = none → B.He b = none := fun b e => by
    by_cases hb : b = p
    · rw [hb]; exact f1
    · rw [upd_ne hb] at e; exact e
  refine ⟨r.hb, fun b u e => (r.new b u e).imp id (low b), r.ext, fun b u e ng => ?_, r.drw, r.drf, ?_, fun i x q => ?_, r.dist⟩
  · have hb : b ≠ p := fun w => by rw [w, f1] at e; cases e
    exact r.keep b u (by show upd B.He p o b = some u; rw [upd_ne hb]; exact e) ng
  · rcases r.gg with z | ⟨z1, z2⟩
    · exact .inl z
    · exact .inr ⟨z1, fun b hb => low b (z2 b hb)⟩
  · obtain ⟨v, h1, h2⟩ := r.sl i x q
    exact ⟨v, h1, h2.keep (Same.refl _) fun q' a e f => ⟨fun _ z => z, fun w => ⟨w.h0, low a w.he, w.ng⟩⟩⟩
theorem RelN.unapart {H0 : Hp} {g : Option Gs} {σ : St} {v : V} {x : X2} (h : RelN K H0 g σ v x) : RelN K H0 g σ v x := h
theorem RS.relay {p : Addr} {o u : HO} (r : RS K B H0 g σ ρ n H) (hp : H p = some o) (f1 : B.He p = none) (f2 : H0 p = none) (f3 : ¬ InG g p) (nl : ∀ i x q, ρ i = some x → σ[i]? = some (some (.ref q)) → ¬ Foot x q p) : RS K B (upd H0 p u) g σ ρ n (upd H p u) ∧ Same H0 (upd H0 p u) := by
  have s0 : Same H0 (upd H0 p u) := fun b w e => by rw [upd_ne (ne_of_none e f2)]; exact e
  refine ⟨⟨fun b w e => s0 b w (r.hb b w e), fun b w e => ?_, fun b w e => ?_, fun b w e ng => ?_, fun g' e => ?_, fun b q => ?_, r.gg, fun i x q => ?_, r.dist⟩, s0⟩
  · by_cases hb : b = p
    · rw [hb]; exact .inr f1
    · rw [upd_ne hb] at e; exact r.new b w e
  · by_cases hb : b = p
    · rw [hb] at e ⊢; rw [upd_same] at e ⊢; exact e
    · rw [upd_ne hb] at e ⊢; exact r.ext b w e
  · have hb : b ≠ p := fun z => by rw [z, f1] at e; cases e
    rw [upd_ne hb]; exact r.keep b w e ng
  · exact (r.drw g' e).keep fun b w hb z => by rw [upd_ne (fun y : b = p => f3 (by rw [← y, e]; exact hb))]; exact z
  · rw [upd_ne (fun z : b = p => f3 (by rw [← z]; exact q))]; exact r.drf b q
  · obtain ⟨v, h1, h2⟩ := r.sl i x q
    refine ⟨v, h1, h2.keep s0 fun q' a e f => ?_⟩
    have hne : a ≠ p := fun z => nl i x q' q (by rw [h1, e]) (by rw [← z]; exact f)
    exact ⟨fun u z => by rw [upd_ne hne]; exact z, fun w => ⟨by rw [upd_ne hne]; exact w.h0, w.he, w.ng⟩⟩
end
section
variable {ι : Type} {Φ : Fam ι} {W : WX} {m m1 m2 : Nat}
def wDic0 : W2 := fun _ ρ k => k (.d (.dict [])) ρ
theorem je_dic0 {pos : Pos} : JE Φ W 0 (.Dict [] [] pos) wDic0 := by
  refine ⟨tDNewK, fun i => pe_dnewK, ?_⟩
  intro B H0 g σ ρ n H e k Q rs l hw q xq
  intro p hp
  obtain ⟨r1, s1⟩ := rs.lay (o := .dK []) hp
  exact q _ _ _ _ (.d (.dict [])) s1 r1 (Dq.dic (kvs := []) (ds := []) (vs := []) (es := []) upd_same rfl rfl rfl .nil) hw
def wDic1 (wk wv : W2) : W2 := fun e ρ k => wk e ρ fun x ρ1 => wv e ρ1 fun y ρ2 => match x, y with
  | .d (.int i), .d d => k (.d (.dict [(.int i, d)])) ρ2
  | .d (.str s), .d d => k (.d (.dict [(.str s, d)])) ρ2
  | _, _ => False
theorem je_dic1 {ke ve : Expr} {pos : Pos} {wk wv : W2} (hk : JE Φ W m1 ke wk) (hv : JE Φ W m2 ve wv) : JE Φ W (m1 + m2) (.Dict [some ke] [ve] pos) (wDic1 wk wv) := by
  obtain ⟨tk, a1, a2⟩ := hk
  obtain ⟨tv, b1, b2⟩ := hv
  refine ⟨tDisp [(tk, tv)], fun i => pe_disp (pps_cons (a1 i) (b1 i) pps_nil) rfl rfl (by simp) (Nat.le_of_ble_eq_true rfl), ?_⟩
  intro B H0 g σ ρ n H e k Q rs l hw q xq
  intro p hp
  obtain ⟨f1, f2, f3⟩ := rs.fresh hp
  have hbp : B.Hb p = none := by
    cases z : B.Hb p with
    | none => rfl
    | some u => rw [rs.hb p u z] at f2; cases f2
  have ng : ¬ InG B.g p := fun z => by
    rcases rs.gg with y | ⟨y, _⟩
    · exact f3 (by rw [← y]; exact z)
    · rw [y] at z; exact z
  refine a2 ⟨upd B.He p (.dK []), B.Hb, B.g⟩ H0 g σ ρ n _ e _ _ (rs.apart hp) (by omega) hw (fun H1 ρ1 Ha v1 x1 s1 r1 h1 k1 => ?_) (fun H1 ρ1 Ha nm cls d s1 r1 h1 h2 => xq _ _ _ _ _ _ s1 ((r1.unapart f1).count (by omega)) h1 h2)
  refine b2 _ H1 g σ ρ1 (n + m1) Ha e _ _ r1 (by omega) k1 (fun H2 ρ2 Hb v2 x2 s2 r2 h2 k2 => ?_) (fun H2 ρ2 Hb nm cls d s2 r2 h1 h2 => xq _ _ _ _ _ _ (s1.trans s2) ((r2.unapart f1).count (by omega)) h1 h2)
  have hc : Hb p = some (.dK []) := r2.keep p _ (by show upd B.He p (.dK []) p = _; rw [upd_same]) ng
  have h0 : H2 p = none := by
    cases z : H2 p with
    | none => rfl
    | some u =>
      rcases r2.new p u z with y | y
      · have y : B.Hb p = some u := y
        rw [hbp] at y; cases y
      · have y : upd B.He p (.dK []) p = none := y
        rw [upd_same] at y; cases y
  split at k2
  · rename_i i d
    have e1 : v1 = .int i := by
      have h1 : Dq Φ.K H1 v1 (.int i) := h1
      cases h1; rfl
    have h2 : Dq Φ.K H2 v2 d := h2
    refine ⟨hc, [(Sum.inl i, v2)], by rw [e1]; rfl, Nat.le_of_ble_eq_true rfl, ?_⟩
    obtain ⟨r3, s3⟩ := RS.relay (u := .dK [(Sum.inl i, v2)]) (r2.unapart f1) hc f1 h0 f3 (fun i x q' z z2 f => by
      obtain ⟨v', q1, q2⟩ := r2.sl i x z
      rw [z2] at q1; cases q1
      have := (q2.foot rfl f).1.he
      have : upd B.He p (.dK []) p = none := this
      rw [upd_same] at this; cases this)
    have em : mergeK [] [((Sum.inl i : Key), v2)] = [(Sum.inl i, v2)] := rfl
    rw [em]
    exact q _ ρ2 _ _ (.d (.dict [(.int i, d)])) ((s1.trans s2).trans s3) (r3.count (by omega)) (Dq.dic (ds := [(.int i, d)]) upd_same rfl rfl rfl (.cons (h2.mono s3) .nil)) k2
  · rename_i i d
    have e1 : v1 = .str i := by
      have h1 : Dq Φ.K H1 v1 (.str i) := h1
      cases h1; rfl
    have h2 : Dq Φ.K H2 v2 d := h2
    refine ⟨hc, [(Sum.inr i, v2)], by rw [e1]; rfl, Nat.le_of_ble_eq_true rfl, ?_⟩
    obtain ⟨r3, s3⟩ := RS.relay (u := .dK [(Sum.inr i, v2)]) (r2.unapart f1) hc f1 h0 f3 (fun i x q' z z2 f => by
      obtain ⟨v', q1, q2⟩ := r2.sl i x z
      rw [z2] at q1; cases q1
      have := (q2.foot rfl f).1.he
      have : upd B.He p (.dK []) p = none := this
      rw [upd_same] at this; cases this)
    have em : mergeK [] [((Sum.inr i : Key), v2)] = [(Sum.inr i, v2)] := rfl
    rw [em]
    exact q _ ρ2 _ _ (.d (.dict [(.str i, d)])) ((s1.trans s2).trans s3) (r3.count (by omega)) (Dq.dic (ds := [(.str i, d)]) upd_same rfl rfl rfl (.cons (h2.mono s3) .nil)) k2
  · exact k2.elim
end
end B2
namespace B2
open PySem L2
structure ShyMA (n b : Nat) (ds : List PyData) : Prop where
  lv : PyData.leavesShortAll 580 ds = true
  no : noLstA ds = true
  dep : PyData.depthAll ds ≤ n
  sh : PyData.showableAll ds = true
  bk : PyData.bulkAll ds ≤ b
theorem Shy.m {n b : Nat} {d : PyData} (h : Shy n b d) (k : noLst d = true) : ShyM n b d := ⟨short_of d h.lay h.sh, k, h.dep, h.sh, h.bk⟩
theorem ShyM.mono {n m b c : Nat} {d : PyData} (h : ShyM n b d) (l : n ≤ m) (k : b ≤ c) : ShyM m c d := ⟨h.lv, h.no, Nat.le_trans h.dep l, h.sh, Nat.le_trans h.bk k⟩
theorem ShyMA.mono {n m b c : Nat} {d : List PyData} (h : ShyMA n b d) (l : n ≤ m) (k : b ≤ c) : ShyMA m c d := ⟨h.lv, h.no, Nat.le_trans h.dep l, h.sh, Nat.le_trans h.bk k⟩
theorem ShyE.mono {n m b c : Nat} {d : PyData} (h : ShyE n b d) (l : n ≤ m) (k : b ≤ c) : ShyE m c d := ⟨h.or.imp (fun h => h.mono l k) fun h => h.mono l k⟩
structure ShyP (n b : Nat) (ds : List PyData) : Prop where
  a : ShyA n b ds
  m : ShyMA n b ds
theorem ShyP.mono {n m b c : Nat} {d : List PyData} (h : ShyP n b d) (l : n ≤ m) (k : b ≤ c) : ShyP m c d := ⟨h.a.mono l k, h.m.mono l k⟩
end B2
namespace B2
open PySem L2
section
variable {ι : Type} {Φ : Fam ι} {W : WX} {m : Nat}
end
end B2
namespace B2
open PySem L2
section
variable {ι : Type} {Φ : Fam ι} {W : WX} {m m1 m2 m3 : Nat}
end
end B2
namespace B2
open PySem L2
section
variable {ι : Type} {Φ : Fam ι} {W : WX} {m m1 m2 : Nat}
end
end B2
namespace B2
open PySem L2
section
variable {ι : Type} {Φ : Fam ι} {W : WX} {m : Nat}
end
end B2
namespace B2
open PySem L2 PySem.Spec PyProof.Rows
section
variable {ι : Type} {Φ : Fam ι} {W : WX} {m1 m2 : Nat}
end
end B2
namespace B2
open PySem L2 PySem.Spec PyProof.Rows
section
variable {ι : Type} {Φ : Fam ι} {W : WX} {m1 m2 : Nat}
end
end B2
namespace B2
open PySem L2 PySem.Spec PySem.Calls
structure RowsAt (K : PySem.W.Frag) (B : Base) (H0 H : Hp) (g : Option Gs) (σ : St) (ρ : Env) (p : Addr) (ps : List Addr) (rows : List (List PyData)) : Prop where
  at_ : H p = some (.lst (ps.map V.ref))
  f0 : H0 p = none
  fe : B.He p = none
  fg : ¬ InG g p
  fs : ∀ i x q, ρ i = some x → σ[i]? = some (some (.ref q)) → ¬ Foot x q p
  ni : p ∉ ps
  nd : ps.Nodup
  len : ps.length = rows.length
  row : ∀ (k : Nat) (q : Addr) (ds : List PyData), ps[k]? = some q → rows[k]? = some ds → RelR K B H0 H g σ ρ (.ref q) (.own ds)
section
variable {K : PySem.W.Frag} {B : Base} {H0 H0' Hr H H' : Hp} {g : Option Gs} {σ σ' : St} {ρ ρ' : Env} {n n' : Nat} {p q : Addr} {ps : List Addr} {rows : List (List PyData)} {ds : List PyData}
theorem RelR.growA (h : RelR K B H0 H g σ ρ (.ref q) (.own ds)) (e : ∀ o, H q = some o → H' q = some o) : RelR K B H0 H' g σ ρ (.ref q) (.own ds) := by
  obtain ⟨p', e', ⟨ws, h1, h2, h3, h4, h5⟩, h6⟩ := h
  cases e'
  exact ⟨q, rfl, ⟨ws, e _ h1, h2, h3, h4, h5⟩, h6⟩
theorem RelR.envA (h : RelR K B H0 H g σ ρ (.ref q) (.own ds)) (e : ∀ i x, ρ' i = some x → isOwn (some x) = true → ρ i = some x ∧ σ'[i]? = σ[i]?) : RelR K B H0 H g σ' ρ' (.ref q) (.own ds) := by
  obtain ⟨p', e', a, h6⟩ := h
  cases e'
  refine ⟨q, rfl, a, fun i x q2 z z3 f => ?_⟩
  obtain ⟨z1, z2⟩ := e i x z f.own
  exact h6 i x q2 z1 (by rw [← z2]; exact z3) f
theorem RowsAt.env (h : RowsAt K B H0 H g σ ρ p ps rows) (e : ∀ i x, ρ' i = some x → isOwn (some x) = true → ρ i = some x ∧ σ'[i]? = σ[i]?) : RowsAt K B H0 H g σ' ρ' p ps rows :=
  ⟨h.at_, h.f0, h.fe, h.fg, fun i x q2 z z3 f => by obtain ⟨z1, z2⟩ := e i x z f.own; exact h.fs i x q2 z1 (by rw [← z2]; exact z3) f, h.ni, h.nd, h.len, fun k q ds a b => (h.row k q ds a b).envA e⟩
theorem RowsAt.left (h : RowsAt K B H0 H g σ ρ p ps rows) (l : Left H0 Hr H H' g n') : RowsAt K B Hr H' g σ ρ p ps rows := by
  refine ⟨l.keep p _ h.at_ h.fg, ?_, h.fe, h.fg, h.fs, h.ni, h.nd, h.len, fun k q ds a b => (h.row k q ds a b).left l⟩
  cases z : Hr p with
  | none => rfl
  | some o =>
    rcases l.new p o z with k | k
    · rw [h.f0] at k; cases k
    · rw [h.at_] at k; cases k
theorem RowsAt.lay (h : RowsAt K B H0 H g σ ρ p ps rows) {T : Addr} {o : HO} (hT : H T = none) (s : Same H0 (upd H0 T o)) : RowsAt K B (upd H0 T o) (upd H T o) g σ ρ p ps rows := by
  have np : p ≠ T := ne_of_none h.at_ hT
  refine ⟨by rw [upd_ne np]; exact h.at_, by rw [upd_ne np]; exact h.f0, h.fe, h.fg, h.fs, h.ni, h.nd, h.len, fun k q ds a b => ?_⟩
  obtain ⟨q', e, ⟨ws, k1, k2, k3, k4, k5⟩, k6⟩ := h.row k q ds a b
  cases e
  have nq : q ≠ T := ne_of_none k1 hT
  exact ⟨q, rfl, ⟨ws, by rw [upd_ne nq]; exact k1, k2.mono s, by rw [upd_ne nq]; exact k3, k4, k5⟩, k6⟩
theorem RowsAt.app (r : RS K B H0 g σ ρ n H) (h : RowsAt K B H0 H g σ ρ p ps rows) {k : Nat} {v : V} {d : PyData} (hk : ps[k]? = some q) (hd : rows[k]? = some ds) (hv : Dq K H0 v d) :
    ∃ ws, H q = some (.lst ws) ∧ ws.length = ds.length ∧ RS K B H0 g σ ρ n (upd H q (.lst (ws ++ [v]))) ∧ RowsAt K B H0 (upd H q (.lst (ws ++ [v]))) g σ ρ p ps (rows.set k (ds ++ [d])) := by
  have hr := h.row k q ds hk hd
  obtain ⟨q', e, ⟨ws, k1, k2, k3, k4, k5⟩, k6⟩ := id hr
  cases e
  obtain ⟨r8, t8⟩ := r.mutT hr (k2.append (.cons hv .nil))
  have np : p ≠ q := fun z => h.ni (by rw [z]; exact List.mem_of_getElem? hk)
  refine ⟨ws, k1, k2.length, r8, ⟨by rw [upd_ne np]; exact h.at_, h.f0, h.fe, h.fg, h.fs, h.ni, h.nd, by rw [List.length_set]; exact h.len, fun j q2 es a b => ?_⟩⟩
  by_cases c : j = k
  · subst c
    rw [hk] at a; cases a
    have hl := (List.getElem?_eq_some_iff.mp hd).1
    rw [List.getElem?_set_self hl] at b; cases b
    exact t8
  · rw [List.getElem?_set_ne (fun z => c z.symm)] at b
    have nq : q2 ≠ q := fun z => by
      subst z
      have h1 := (List.getElem?_eq_some_iff.mp a)
      have h2 := (List.getElem?_eq_some_iff.mp hk)
      exact c ((List.getElem_inj h.nd).mp (h1.2.trans h2.2.symm))
    exact (h.row j q2 es a b).growA fun o z => by rw [upd_ne nq]; exact z
theorem dqa_rows {H1 : Hp} : ∀ {ps : List Addr} {rows : List (List PyData)}, ps.length = rows.length → (∀ (k : Nat) (q : Addr) (ds : List PyData), ps[k]? = some q → rows[k]? = some ds → ∃ ws, H1 q = some (.lst ws) ∧ DqA K H1 ws ds) → DqA K H1 (ps.map V.ref) (rows.map PyData.list)
  | [], [], _, _ => .nil
  | [], _ :: _, h, _ => by cases h
  | _ :: _, [], h, _ => by cases h
  | q :: ps, ds :: rows, h, hr => by
    obtain ⟨ws, h1, h2⟩ := hr 0 q ds rfl rfl
    exact .cons (.lst h1 h2) (dqa_rows (by simpa using h) fun k q' ds' a b => hr (k + 1) q' ds' (by simpa using a) (by simpa using b))
theorem RowsAt.done (r : RS K B H0 g σ ρ n H) (h : RowsAt K B H0 H g σ ρ p ps rows) {i : Nat} (hi : σ[i]? = some (some (.ref p))) :
    ∃ H0', Same H0 H0' ∧ RS K B H0' g σ (upE ρ i (some (.d (.list (rows.map PyData.list))))) n H := by
  have rw_ : ∀ q, q ∈ ps → ∃ ws, H q = some (.lst ws) ∧ H0 q = none ∧ B.He q = none ∧ ¬ InG g q ∧ ∀ i x q2, ρ i = some x → σ[i]? = some (some (.ref q2)) → ¬ Foot x q2 q := fun q hq => by
    obtain ⟨k, hk⟩ := List.mem_iff_getElem?.mp hq
    have hl := (List.getElem?_eq_some_iff.mp hk).1
    obtain ⟨q', e, ⟨ws, k1, k2, k3, k4, k5⟩, k6⟩ := h.row k q _ hk (List.getElem?_eq_getElem (by rw [← h.len]; exact hl))
    cases e
    exact ⟨ws, k1, k3, k4, k5, k6⟩
  let H1 : Hp := fun b => if b = p ∨ b ∈ ps then H b else H0 b
  have in1 : ∀ b, (b = p ∨ b ∈ ps) → H0 b = none ∧ B.He b = none ∧ ¬ InG g b ∧ ∀ i x q2, ρ i = some x → σ[i]? = some (some (.ref q2)) → ¬ Foot x q2 b := fun b hb => by
    rcases hb with rfl | hb
    · exact ⟨h.f0, h.fe, h.fg, h.fs⟩
    · obtain ⟨ws, _, a2, a3, a4, a5⟩ := rw_ b hb
      exact ⟨a2, a3, a4, a5⟩
  have s0 : Same H0 H1 := fun b u e => by
    show (if b = p ∨ b ∈ ps then H b else H0 b) = some u
    rw [if_neg fun z => by rw [(in1 b z).1] at e; cases e]; exact e
  have eq1 : ∀ b, (b = p ∨ b ∈ ps) → H1 b = H b := fun b hb => if_pos hb
  have eq0 : ∀ b, ¬ (b = p ∨ b ∈ ps) → H1 b = H0 b := fun b hb => if_neg hb
  have r1 : RS K B H1 g σ ρ n H := by
    refine ⟨fun b u e => s0 b u (r.hb b u e), fun b u e => ?_, fun b u e => ?_, r.keep, r.drw, fun b z => ?_, r.gg, fun j x z => ?_, r.dist⟩
    · by_cases hb : b = p ∨ b ∈ ps
      · exact .inr (in1 b hb).2.1
      · rw [eq0 b hb] at e; exact r.new b u e
    · by_cases hb : b = p ∨ b ∈ ps
      · rw [eq1 b hb] at e; exact e
      · rw [eq0 b hb] at e; exact r.ext b u e
    · rw [eq0 b fun hb => (in1 b hb).2.2.1 z]; exact r.drf b z
    · obtain ⟨v, h1, h2⟩ := r.sl j x z
      refine ⟨v, h1, h2.keep s0 fun q' a e f => ⟨fun _ z => z, fun w => ⟨?_, w.he, w.ng⟩⟩⟩
      rw [eq0 a fun hb => (in1 a hb).2.2.2 j x q' z (by rw [h1, e]) f]; exact w.h0
  have hd : Dq K H1 (.ref p) (.list (rows.map PyData.list)) := by
    refine .lst (xs := ps.map V.ref) (by rw [eq1 p (.inl rfl)]; exact h.at_) (dqa_rows h.len fun k q ds a b => ?_)
    obtain ⟨q', e, ⟨ws, k1, k2, _⟩, _⟩ := h.row k q ds a b
    cases e
    exact ⟨ws, by rw [eq1 q (.inr (List.mem_of_getElem? a))]; exact k1, k2.mono s0⟩
  have hil := (List.getElem?_eq_some_iff.mp hi).1
  have r2 := r1.set (x := .d (.list (rows.map PyData.list))) (v := .ref p) hil hd (fun _ z => nomatch z)
  have es : σ.set i (some (.ref p)) = σ := by
    refine List.ext_getElem? fun j => ?_
    by_cases c : i = j
    · subst c; rw [List.getElem?_set_self hil, hi]
    · rw [List.getElem?_set_ne c]
  rw [es] at r2
  exact ⟨H1, s0, r2⟩
end
section
variable {ι : Type} {Φ : Fam ι} {W : WX} {m m1 m2 m3 m4 : Nat}
end
end B2

namespace B2
open PySem PySem.Spec L2 PyProof.Rows
section
variable {prog : Program} {w : World} {A : Around} {E : Value → Shared → Prop} {s : Shared}
end
section
variable {ι : Type} {Φ : Fam ι} {W : WX} {m : Nat}
end
end B2

namespace B2
open PySem L2 PySem.Calls
open PyProof.Rows (envOfC)
section
variable {ι : Type} {Φ : Fam ι} {W : WX} {m m1 m2 m3 : Nat}
end
end B2

namespace B2
open PySem L2
section
variable {ι : Type} {Φ : Fam ι} {W : WX} {m1 m2 : Nat}
end
end B2

namespace B2
open PySem L2
section
variable {ι : Type} {Φ : Fam ι} {W : WX} {m : Nat}
end
end B2

namespace B2
open PySem PySem.Spec L2 PySem.Calls PyProof.Rows
def rIsET (K : PySem.W.Frag) (D a : Addr) : List V → Hp → VK → Prop := fun xs H Q => ∃ (tp : Addr) (cs : List V) (us : List Value) (b : Bool), xs = [.ref a, .ref tp] ∧ H tp = some (.tup cs) ∧ Paired ClsV cs us ∧ PySem.W.kitAny K (.ref D) us = some b ∧ Q (.bl b) H
structure ErrI (K : PySem.W.Frag) (mg : MG) (errs : List Str) : Prop where
  ex : ∀ nm ∈ errs, ∃ D, mg nm = some (.ref D) ∧ ExcC K D
structure ErrV (K : PySem.W.Frag) (mg : MG) (T : Str) (errs : List Str) (f : Str → Bool) : Prop where
  ex : ∃ (c : V) (u : Value), ClsV c u ∧ (mg T = some u ∨ (mg T = none ∧ bootBuiltins T = some u ∧ T ≠ "__name__")) ∧ ∀ nm ∈ errs, ∀ D, mg nm = some (.ref D) → PySem.W.kitOne K (.ref D) u = some (f nm)
theorem clsv_rel {c : V} {u : Value} (h : ClsV c u) : RelV c u := by cases h <;> rfl
section
variable {ι : Type} {Φ : Fam ι} {W : WX} {m m1 m2 m3 : Nat}
theorem pe_errV {X : Cx} {T : Str} {c : V} {u : Value} {pos : Pos} (h : ClsV c u) (hm : X.mg T = some u ∨ (X.mg T = none ∧ bootBuiltins T = some u ∧ T ≠ "__name__")) (hg : Gl X T) (hd : (T == ("__debug__" : Str)) = false) : PE X (.Name T pos) (tC c) := by
  rcases hm with hm | ⟨hm, hb, hn⟩
  · exact pe_glob hg hm (clsv_rel h) hd
  · exact pe_bltn hg hm hb (clsv_rel h) hn hd
def wIsE (a : Addr) (b : Bool) (wa : W2) : W2 := fun e ρ k => wa e ρ fun x ρ1 => match x with
  | .scr a' => a' = a ∧ k (.d (.bool b)) ρ1
  | _ => False
structure JV {ι : Type} (Ψ : Fam ι) (es : List Expr) (errs : List Str) (f : Str → Bool) : Prop where
  ex : ∃ (cs : List V) (us : List Value), Paired ClsV cs us ∧ cs.length = es.length ∧ (∀ i, PA (Ψ.X i) es (fun _ H Q => Q cs H)) ∧ ∀ nm ∈ errs, ∀ D, Ψ.mg nm = some (.ref D) → PySem.W.kitAny Ψ.K (.ref D) us = some (f nm)
  len : es.length ≤ 100
theorem kit_any1 {K : PySem.W.Frag} {t c : Value} {cs : List Value} {b r : Bool} (h : PySem.W.kitOne K t c = some b) (hr : PySem.W.kitAny K t cs = some r) : PySem.W.kitAny K t (c :: cs) = some (b || r) := by
  unfold PySem.W.kitAny
  rw [h]
  cases b with
  | true => rfl
  | false => exact hr
theorem jv_nil {Ψ : Fam ι} {errs : List Str} : JV Ψ [] errs (fun _ => false) := ⟨⟨[], [], .nil, rfl, fun _ => pa_nil, fun _ _ _ _ => rfl⟩, by decide⟩
theorem jv_cons {Ψ : Fam ι} {errs : List Str} {f g : Str → Bool} {T : Str} {p : Pos} {es : List Expr} (cv : ErrV Ψ.K Ψ.mg T errs f) (h : JV Ψ es errs g) (l : (Expr.Name T p :: es).length ≤ 100 := by decide) (hgT : ∀ i, Gl (Ψ.X i) T := by intro _; rfl) (hd : (T == ("__debug__" : Str)) = false := by decide)
    (hs : ∀ i, starEach (.Name T p :: es) (Ψ.X i).env = (false, eval (.Name T p) (Ψ.X i).env) :: starEach es (Ψ.X i).env := by intro _; rfl) : JV Ψ (.Name T p :: es) errs (fun nm => f nm || g nm) := by
  obtain ⟨c, u, hc, hT, hk⟩ := cv.ex
  obtain ⟨⟨cs, us, h1, h2, h3, h4⟩, hl⟩ := h
  refine ⟨⟨c :: cs, u :: us, .cons hc h1, congrArg (· + 1) h2, fun i => pa_cons (pe_errV hc (by rw [Ψ.hmg i]; exact hT) (hgT i) hd) (h3 i) (hs i), fun nm hn D hD => kit_any1 (hk nm hn D hD) (h4 nm hn D hD)⟩, l⟩
open PySem.W in
theorem kit1_own {K : Frag} {D C : Addr} {b : Bool} (i : isClsIn K C = true) (t : typeIn K (.ref C) = some (.type "type")) (s : subIn K (.ref D) (.ref C) = some b) (e : (Value.ref D == Value.ref C) = false) : kitOne K (.ref D) (.ref C) = some b := by
  have i' : (clsIn K C).isSome = true := i
  unfold kitOne
  rw [e]
  show (if ((clsIn K C).isSome && typeIn K (.ref C) == some (.type "type")) = true then subIn K (.ref D) (.ref C) else none) = some b
  rw [i', t]
  exact s
open PySem.W in
theorem kit1_bt {K : Frag} {D : Addr} {T : String} {b : Bool} (km : kitMeta T = true) (s : subIn K (.ref D) (.type T) = some b) : kitOne K (.ref D) (.type T) = some b := by
  show (if kitMeta T = true then subIn K (.ref D) (.type T) else none) = some b
  rw [if_pos km]; exact s
structure Is1 (K : PySem.W.Frag) (mg : MG) (u : Value) (nm : Str) (r : Bool) : Prop where
  ex : ∃ D, mg nm = some (.ref D) ∧ PySem.W.kitOne K (.ref D) u = some r
theorem is1_same {K : PySem.W.Frag} {mg : MG} {h : Heap} {C : Addr} {nm : Str} (X : K.In h) (G : h.Ns mainGlobals mg) (a : PySem.W.nsIn K mainGlobals nm = some (some (.ref C))) : Is1 K mg (.ref C) nm true := ⟨C, PySem.W.mg_of X G a, by unfold PySem.W.kitOne; rw [show (Value.ref C == Value.ref C) = true from beq_self_eq_true _]; rfl⟩
theorem is1_own {K : PySem.W.Frag} {mg : MG} {h : Heap} {C D : Addr} {nm : Str} {b : Bool} (X : K.In h) (G : h.Ns mainGlobals mg) (a : PySem.W.nsIn K mainGlobals nm = some (some (.ref D))) (i : PySem.W.isClsIn K C = true) (t : PySem.W.typeIn K (.ref C) = some (.type "type")) (s : PySem.W.subIn K (.ref D) (.ref C) = some b) (e : (Value.ref D == Value.ref C) = false) : Is1 K mg (.ref C) nm b := ⟨D, PySem.W.mg_of X G a, kit1_own i t s e⟩
theorem is1_bt {K : PySem.W.Frag} {mg : MG} {h : Heap} {D : Addr} {nm : Str} {T : String} {b : Bool} (X : K.In h) (G : h.Ns mainGlobals mg) (a : PySem.W.nsIn K mainGlobals nm = some (some (.ref D))) (km : PySem.W.kitMeta T = true) (s : PySem.W.subIn K (.ref D) (.type T) = some b) : Is1 K mg (.type T) nm b := ⟨D, PySem.W.mg_of X G a, kit1_bt km s⟩
theorem is_nil {K : PySem.W.Frag} {mg : MG} {u : Value} {f : Str → Bool} : ∀ nm ∈ ([] : List Str), Is1 K mg u nm (f nm) := fun _ h => nomatch h
theorem is_cons {K : PySem.W.Frag} {mg : MG} {u : Value} {f : Str → Bool} {nm : Str} {r : List Str} (h : Is1 K mg u nm (f nm)) (t : ∀ nm ∈ r, Is1 K mg u nm (f nm)) : ∀ x ∈ nm :: r, Is1 K mg u x (f x) := fun x hx => by
  rcases List.mem_cons.mp hx with e | e
  · rw [e]; exact h
  · exact t x e
theorem is_all {K : PySem.W.Frag} {mg : MG} {u : Value} {errs : List Str} {f : Str → Bool} (s : ∀ nm ∈ errs, Is1 K mg u nm (f nm)) : ∀ nm ∈ errs, ∀ D, mg nm = some (.ref D) → PySem.W.kitOne K (.ref D) u = some (f nm) := fun nm hn D hD => by
  obtain ⟨E, h1, h2⟩ := (s nm hn).ex
  rw [h1] at hD
  cases hD
  exact h2
theorem errV_own {K : PySem.W.Frag} {mg : MG} {h : Heap} {T : Str} {C : Addr} {errs : List Str} {f : Str → Bool} (X : K.In h) (G : h.Ns mainGlobals mg) (a : PySem.W.nsIn K mainGlobals T = some (some (.ref C))) (s : ∀ nm ∈ errs, Is1 K mg (.ref C) nm (f nm)) : ErrV K mg T errs f :=
  ⟨.ref C, .ref C, .own C, .inl (PySem.W.mg_of X G a), is_all s⟩
theorem errV_bt {K : PySem.W.Frag} {mg : MG} {h : Heap} {T : Str} {T' : String} {errs : List Str} {f : Str → Bool} (X : K.In h) (G : h.Ns mainGlobals mg) (a : PySem.W.nsIn K mainGlobals T = some none) (b : bootBuiltins T = some (.type T')) (n : T ≠ "__name__") (s : ∀ nm ∈ errs, Is1 K mg (.type T') nm (f nm)) : ErrV K mg T errs f :=
  ⟨.ty T', .type T', .ty T', .inr ⟨PySem.W.mg_none_of X G a, b, n⟩, is_all s⟩
theorem errI_nil {K : PySem.W.Frag} {mg : MG} : ErrI K mg [] := ⟨fun _ h => nomatch h⟩
theorem errI_cons {K : PySem.W.Frag} {mg : MG} {h : Heap} {D : Addr} {nm : Str} {r : List Str} (X : K.In h) (G : h.Ns mainGlobals mg) (a : PySem.W.nsIn K mainGlobals nm = some (some (.ref D)))
    (h1 : PySem.W.findIn K (.ref D) "__getattribute__" = some (some (.builtin "BaseException.__getattribute__"))) (h2 : PySem.W.findIn K (.ref D) "__getattr__" = some none) (h3 : PySem.W.subIn K (.ref D) (.type "BaseException") = some true) (h4 : PySem.W.hasDictIn K D = true)
    (h5 : PySem.W.findIn K (.ref D) "__class__" = some (some (.builtin "object.__class__"))) (h6 : PySem.W.specialIn K (.builtin "object.__class__") "__get__" = some (some (.builtin "getset_descriptor.__get__"))) (h7 : PySem.W.takesIn K (.builtin "object.__class__") = some true) (h8 : PySem.W.mroIn K D (.type "object") = some true) (t : ErrI K mg r) : ErrI K mg (nm :: r) := ⟨fun x hx => by
  rcases List.mem_cons.mp hx with e | e
  · rw [e]; exact ⟨D, PySem.W.mg_of X G a, h1, h2, h3, h4, h5, h6, h7, h8⟩
  · exact t.ex x e⟩
end
end B2

namespace B2
open PySem PySem.Spec L2 PySem.Calls PyProof.Rows
abbrev SpecE := Str → (X2 → Prop) → Prop
def spE (a : Addr) (nm : Str) (s : SpecE) : Spec2 := fun xs k _ => xs = [.scr a] ∧ s nm k
structure FnE (P : Program) (w : World) (K : PySem.W.Frag) (mg : MG) (base : Heap) (k : Nat) (f : Addr) (fd : FuncData) (ps : List Str) (errs : List Str) (m : Nat) (s : SpecE) : Prop where
  one : ps.length = 1
  run : ∀ (A : Around) (up : List PySem.Env) (sh : Shared) (H : Hp) (args : Args) (Q : VK) (E : XK) (p : Addr × Obj) (nm : Str) (D : Addr), L2H.RoomH k A → Gd k A → L2H.PinOk up H sh p → nm ∈ errs → mg nm = some (.ref D) → Zc (.ref D) none p.2 → (∃ vs, p.2.data = .fields vs) → L2H.Hot1 A p →
    Env0 P w K mg base A up sh H → BindsTo sh fd args (ps.zip [.ref p.1]) → liftS K mg m 1 (spE p.1 nm s) [.ref p.1] H Q E → codeAny (model P w) A (.call (.ref f) args) (CR CX0 up P w H sh Q E) sh
def famE (P : Program) (w : World) (K : PySem.W.Frag) (mg : MG) (base : Heap) (N : List Str) (qual : Str) (scope : Scope) (f : Addr) (cdv : Value) (A : Around) (outer : List PySem.Env) (s : Shared) (H : Hp) (E : XK) (p : Addr × Obj) (k : Nat) (nd : N.Nodup) (hr : L2H.RoomH k (A.deeper (envOfC qual scope s.heap.objs.size f cdv))) (hg : Gd k (A.deeper (envOfC qual scope s.heap.objs.size f cdv))) (sr : Sr P base) (hsc : scope.isGenerator = false ∧ scope.isCoroutine = false) : Fam Unit where
  X := fun _ => (L2H.cxH CX0 P w K mg base N qual scope f cdv A outer s H E p).nox
  K := K
  mg := mg
  N := N
  sc := scope
  k := k
  P := P
  w := w
  base := base
  hK := fun _ => rfl
  hmg := fun _ => rfl
  hN := fun _ => rfl
  hsc := fun _ => rfl
  hP := fun _ => rfl
  hw := fun _ => rfl
  hbase := fun _ => rfl
  rm := fun _ => hr
  room := fun h => nomatch h
  gd := fun _ => hg
  sr := sr
  stk := fun _ => ⟨_, _, rfl, hsc.1, hsc.2, rfl, rfl⟩
  cm := false
  calm := fun h => nomatch h
  nd := nd
  pass := fun _ => PassesOwn.never
structure PnE {ι : Type} (Ψ : Fam ι) (a D : Addr) : Prop where
  ex : ∀ i, ∃ oe, (a, oe) ∈ (Ψ.X i).pn ∧ Zc (.ref D) none oe ∧ (∃ vs, oe.data = .fields vs) ∧ L2H.Hot1 (Ψ.X i).A (a, oe)
theorem pnE_fam {P : Program} {w : World} {K : PySem.W.Frag} {mg : MG} {base : Heap} {N : List Str} {qual : Str} {scope : Scope} {f : Addr} {cdv : Value} {A : Around} {outer : List PySem.Env} {s : Shared} {H : Hp} {E : XK} {p : Addr × Obj} {k : Nat} {nd : N.Nodup} {hr : L2H.RoomH k (A.deeper (envOfC qual scope s.heap.objs.size f cdv))} {hg : Gd k (A.deeper (envOfC qual scope s.heap.objs.size f cdv))} {sr : Sr P base} {hsc : scope.isGenerator = false ∧ scope.isCoroutine = false} {D : Addr} (hz : Zc (.ref D) none p.2) (hf : ∃ vs, p.2.data = .fields vs) (hh : L2H.Hot1 A p) :
    PnE (famE P w K mg base N qual scope f cdv A outer s H E p k nd hr hg sr hsc) p.1 D := ⟨fun _ => ⟨p.2, List.mem_cons_self, hz, hf, hh⟩⟩
theorem pnE_su {ι : Type} {Φ : Fam ι} {a D : Addr} : PnE (Φ.su a (.ref D) none) a D := ⟨fun i => ⟨i.oe, List.mem_cons_self, i.hz.zc, i.hf, rfl, let ⟨vs, e⟩ := i.hf; ⟨vs, e, i.hz.2.2 vs e⟩⟩⟩
theorem call_isP {X : Cx} {a D : Addr} {oe : Obj} (C : ExcC X.K D) (hp : (a, oe) ∈ X.pn) (hz : Zc (.ref D) none oe) (hf : ∃ vs, oe.data = .fields vs) : CallR X (.builtin "isinstance") (rIsE X.K D a) := by
  intro pins s σ H xs us Q I r h
  obtain ⟨c, cv, b, rfl, hcv, e, q⟩ := h
  cases r with
  | cons rx rr =>
    cases rr with
    | cons rt rr =>
      cases rr
      cases rx
      have ec := hcv _ rt
      subst ec
      obtain ⟨hget, _⟩ := I.pin (a, oe) (List.mem_append.mpr (.inl hp))
      obtain ⟨vs, hv⟩ := hf
      have J : PySem.W.InstAt s.heap a oe D none := by
        obtain ⟨oc, od, oda, osl⟩ := oe
        obtain ⟨h1, h2⟩ := hz
        dsimp only at h1 h2 hv
        subst h1 h2 hv
        exact ⟨hget, rfl, rfl, trivial⟩
      exact PySem.W.kia_one (PySem.W.handS_kitx_exc C.hg C.hk C.hs C.hd C.ha C.hn C.ht C.hm) I.kIn J e (fun z => nomatch z) fun tk => ⟨.bl b, H, I.kept (t' := tk) fun _ _ z => z, rfl, q⟩
theorem call_isPT {X : Cx} {a D : Addr} {oe : Obj} (C : ExcC X.K D) (hp : (a, oe) ∈ X.pn) (hz : Zc (.ref D) none oe) (hf : ∃ vs, oe.data = .fields vs) : CallR X (.builtin "isinstance") (rIsET X.K D a) := by
  intro pins s σ H xs us Q I r h
  obtain ⟨tp, cs, ws, b, rfl, hT, k, e, q⟩ := h
  obtain ⟨u1, u2, rfl, r1, r2⟩ := vals2 r
  cases (show u1 = Value.ref a from r1)
  cases (show u2 = Value.ref tp from r2)
  obtain ⟨hget, _⟩ := I.pin (a, oe) (List.mem_append.mpr (.inl hp))
  obtain ⟨vs, hv⟩ := hf
  have J : PySem.W.InstAt s.heap a oe D none := by
    obtain ⟨oc, od, oda, osl⟩ := oe
    obtain ⟨h1, h2⟩ := hz
    dsimp only at h1 h2 hv
    subst h1 h2 hv
    exact ⟨hget, rfl, rfl, trivial⟩
  obtain ⟨_, its, rv, o, h1, h2, n, h3⟩ := (show ObjOk X.prog X.w H s.heap tp (.tup cs) from I.hok tp _ hT)
  have e3 := ClsV.all k rv
  subst e3
  obtain ⟨oc, od, dt, sl⟩ := o
  simp only at h2 h3
  subst h2 h3
  exact PySem.W.kia_tup (PySem.W.handS_kitx_exc C.hg C.hk C.hs C.hd C.ha C.hn C.ht C.hm) I.kIn J h1 e (fun z => nomatch z) fun tk => ⟨.bl b, H, I.kept (t' := tk) fun _ _ z => z, rfl, q⟩
section
variable {ι : Type} {Ψ Φ : Fam ι} {W : WX} {m m1 m2 m3 : Nat}
theorem je_isP {a D : Addr} {nm : Str} {errs : List Str} {f : Str → Bool} {T : Str} {ea : Expr} {p p2 pos : Pos} {wa : W2} (pn : PnE Ψ a D) (hD : Ψ.mg nm = some (.ref D)) (hin : nm ∈ errs) (ci : ErrI Ψ.K Ψ.mg errs) (cv : ErrV Ψ.K Ψ.mg T errs f) (hm : Ψ.mg "isinstance" = none) (ha : JE Ψ W m ea wa)
    (hg : ∀ i, Gl (Ψ.X i) "isinstance" := by intro _; rfl) (hgT : ∀ i, Gl (Ψ.X i) T := by intro _; rfl) (hd : (T == ("__debug__" : Str)) = false := by decide)
    (hs : ∀ i, starEach [ea, .Name T p2] (Ψ.X i).env = (false, eval ea (Ψ.X i).env) :: starEach [.Name T p2] (Ψ.X i).env := by intro _; rfl) :
    JE Ψ W m (.Call (.Name "isinstance" p) [ea, .Name T p2] [] pos) (wIsE a (f nm) wa) := by
  obtain ⟨D', hD', C⟩ := ci.ex nm hin
  obtain ⟨c, u, hc, hT, hk⟩ := cv.ex
  have e := hD.symm.trans hD'
  cases e
  obtain ⟨ta, a1, a2⟩ := ha
  refine ⟨tCB (rIsE Ψ.K D a) (tCons ta (tCons (tC c) tNil)), fun i => ?_, ?_⟩
  · obtain ⟨oe, hp, hz, hf, hh⟩ := pn.ex i
    exact pe_callB (by rw [← Ψ.hK i]; exact call_isP (by rw [Ψ.hK i]; exact C) hp hz hf) (hg i) (by rw [Ψ.hmg i]; exact hm) (by decide +kernel) (pa_cons (a1 i) (pa_cons (pe_errV hc (by rw [Ψ.hmg i]; exact hT) (hgT i) hd) pa_nil rfl) (hs i)) (by decide) (by decide) (hs i) rfl
  intro B H0 g σ ρ n H e k Q rs l hw q xq
  refine a2 B H0 g σ ρ n H e _ _ rs l hw (fun H1 ρ1 Ha v1 x1 s1 r1 h1 q1 => ?_) xq
  cases x1 with
  | scr a' =>
    obtain ⟨rfl, q2⟩ := q1
    have h1 : v1 = .ref a' := h1
    subst h1
    exact ⟨c, u, f nm, rfl, fun w hw => hc.eq hw, hk nm hin D hD, q H1 ρ1 Ha _ (.d (.bool _)) s1 r1 (.bl _) q2⟩
  | _ => exact q1.elim
theorem je_isPT {a D : Addr} {nm : Str} {errs : List Str} {f : Str → Bool} {ea : Expr} {es : List Expr} {x1} {p p2 pos : Pos} {wa : W2} (pn : PnE Ψ a D) (hD : Ψ.mg nm = some (.ref D)) (hin : nm ∈ errs) (ci : ErrI Ψ.K Ψ.mg errs) (cv : JV Ψ es errs f) (hm : Ψ.mg "isinstance" = none) (ha : JE Ψ W m ea wa)
    (hg : ∀ i, Gl (Ψ.X i) "isinstance" := by intro _; rfl)
    (hs : ∀ i, starEach [ea, .Tuple es x1 p2] (Ψ.X i).env = (false, eval ea (Ψ.X i).env) :: starEach [.Tuple es x1 p2] (Ψ.X i).env := by intro _; rfl) :
    JE Ψ W m (.Call (.Name "isinstance" p) [ea, .Tuple es x1 p2] [] pos) (wIsE a (f nm) wa) := by
  obtain ⟨D', hD', C⟩ := ci.ex nm hin
  obtain ⟨⟨cs, us, hc, hl, hp0, hk⟩, hle⟩ := cv
  have e := hD.symm.trans hD'
  cases e
  obtain ⟨ta, a1, a2⟩ := ha
  refine ⟨tCB (rIsET Ψ.K D a) (tCons ta (tCons (tTup fun _ H Q => Q cs H) tNil)), fun i => ?_, ?_⟩
  · obtain ⟨oe, hp, hz, hf, hh⟩ := pn.ex i
    exact pe_callB (by rw [← Ψ.hK i]; exact call_isPT (by rw [Ψ.hK i]; exact C) hp hz hf) (hg i) (by rw [Ψ.hmg i]; exact hm) (by decide +kernel) (pa_cons (a1 i) (pa_cons (pe_tup (hp0 i)) pa_nil rfl) (hs i)) (by decide) (by decide) (hs i) rfl
  intro B H0 g σ ρ n H e k Q rs l hw q xq
  refine a2 B H0 g σ ρ n H e _ _ rs l hw (fun H1 ρ1 Ha v1 x1 s1 r1 h1 q1 => ?_) xq
  cases x1 with
  | scr a' =>
    obtain ⟨rfl, q2⟩ := q1
    have h1 : v1 = .ref a' := h1
    subst h1
    refine ⟨by have : sizeLine = 16777216 := sizeLine_eq; omega, fun tp htp => ?_⟩
    obtain ⟨r2, s2⟩ := r1.lay (o := .tup cs) htp
    exact ⟨tp, cs, us, f nm, rfl, upd_same, hc, hk nm hin D hD, q _ ρ1 _ _ (.d (.bool _)) (s1.trans s2) r2 (.bl _) q2⟩
  | _ => exact q1.elim
end
section
variable {P : Program} {w : World} {K : PySem.W.Frag} {mg : MG} {base : Heap} {m : Nat}
theorem fn_okE {x qual : Str} {st : Stmt} {f : Addr} {fd : FuncData} {N ps : List Str} {k : Nat} {errs : List Str} {s : SpecE} {wb : Addr → Str → WS} (sr : Sr P base) (F : Fun K x qual st f fd) (S : FnScope N ps (defScope st)) (hlen : ps.length = 1)
    (hb : ∀ (nm : Str) (D : Addr), nm ∈ errs → mg nm = some (.ref D) → ∀ (cdv : Value) (A : Around) (outer : List PySem.Env) (sh : Shared) (H : Hp) (E : XK) (p : Addr × Obj) (hz : Zc (.ref D) none p.2) (hf : ∃ vs, p.2.data = .fields vs) (hr : L2H.RoomH k (A.deeper (envOfC qual (defScope st) sh.heap.objs.size f cdv))) (hg : Gd k (A.deeper (envOfC qual (defScope st) sh.heap.objs.size f cdv))),
      PnE (famE P w K mg base N qual (defScope st) f cdv A outer sh H E p k S.nd hr hg sr ⟨S.gen, S.co⟩) p.1 D → JSs (famE P w K mg base N qual (defScope st) f cdv A outer sh H E p k S.nd hr hg sr ⟨S.gen, S.co⟩) (fun _ _ _ _ => False) m (defBody st) (wb p.1 nm))
    (hs : ∀ nm ∈ errs, ∀ a k, s nm k → runB (wb a nm) [.scr a] k fun _ => False) : FnE P w K mg base (k + 1) f fd ps errs m s := by
  refine ⟨hlen, fun A up sh H args Q E p nm D hr hg hpin hin hD hz hf hh e0 hbd wish => ?_⟩
  obtain ⟨oc, od, kV, doc, pm, an, cdv, ct, osl, rfl, lk, hcd⟩ := F.ex
  have hl : ([V.ref p.1] : List V).length = ps.length := hlen.symm
  have KX : K.In sh.heap := e0.mod.kin.keeps fun b o e => (e0.bs b o e).1
  have lim : sh.heap.NoLimit := e0.mod.nolimit.keeps fun b o e => (e0.bs b o e).1
  have hkind : ∀ y ∈ ps.zip [Value.ref p.1], (defScope st).names.lookup y.1 = some .local ∨ ((defScope st).names.lookup y.1 = some .cell ∧ ((cellsFrom (sh.heap.objs.size + 1) (defScope st).names []).lookup y.1).isSome = true) := fun ⟨n, v⟩ hy => by
    rcases S.par n (List.of_mem_zip hy).1 with q | q
    · exact .inl q
    · exact .inr ⟨q, PySem.W.cellsFrom_some _ _ _ (.inl q)⟩
  refine codeAny_call_function hr.depth (KX _ _ lk) rfl S.co S.gen rfl (PySem.W.codeRec_of KX hcd) (hbd _ _ _ _ ?_)
  refine wpAny_newFunctionEnv_cells S.kind hkind fun env he s1 x => ?_
  subst he
  refine ⟨lim.keeps x.toInCall.keep, codeAny_func ?_⟩
  have hr2 := hr.deeper (envOfC qual (defScope st) sh.heap.objs.size f cdv)
  have hg2 := hg.deeper (envOfC qual (defScope st) sh.heap.objs.size f cdv)
  obtain ⟨t, a1, a2⟩ := hb nm D hin hD cdv A up sh H E p hz hf hr2 hg2 (pnE_fam hz hf hh)
  obtain ⟨_, Hb, g, n, xs, kk, e, hle, hsame, hfr, hdr, ha, ⟨rfl, hsp⟩, hq, _⟩ := wish
  have ends := a2 ⟨H, Hb, g⟩ Hb g (L2.start N [V.ref p.1]) _ n H _ { nx := fun _ H' => Q .non H', rt := Q } (RS.start hsame hfr hdr ha) hle (hs nm hin p.1 kk hsp) (by
    refine ⟨fun H0' g' σ' ρ' H' _ _ r z => ?_, fun H0' g' σ' ρ' H' v x _ _ r h1 _ z => ?_, fun _ _ _ _ _ _ _ _ z => z.elim, fun _ _ _ _ _ _ _ _ z => z.elim, fun _ _ _ _ _ _ _ _ _ _ _ z _ => z.elim⟩
    · exact hq H0' H' .non (.d .none) r.toLeft .non z
    · obtain ⟨z1, z2⟩ := h1.ret r z
      exact hq H0' H' v x r.toLeft z1 z2)
  have I : Inv (L2H.cxH CX0 P w K mg base N qual (defScope st) f cdv A up sh H E p) [] (L2.start N [V.ref p.1]) H s1 := L2H.inv_startH S hpin e0 hl (.cons rfl .nil) x
  refine wpAny_mono ((a1 ()).nox.run [] s1 (L2.start N [V.ref p.1]) H _ I ends) (fun fl s' hs => ?_) fun e s' hs => hs
  have fin : ∀ {σ' : L2.St} {H' : Hp} {v : V} {u : Value}, Inv (L2H.cxH CX0 P w K mg base N qual (defScope st) f cdv A up sh H E p) [] σ' H' s' → RelV v u → Q v H' → CE up P w H sh Q u s' :=
    fun {σ' H' v u} J rv q => ⟨v, H', J.os, J.bare, J.base, J.hok, rv, q⟩
  cases fl with
  | ret u =>
    obtain ⟨v, σ', H', J, rv, q⟩ := hs
    exact fin J rv q
  | next =>
    obtain ⟨σ', H', J, q⟩ := hs
    exact fin (v := V.non) (u := Value.none) J rfl q
  | brk =>
    obtain ⟨_, _, _, q⟩ := hs
    exact False.elim q
  | cont =>
    obtain ⟨_, _, _, q⟩ := hs
    exact False.elim q
end
structure Def2E (P : Program) (w : World) (K : PySem.W.Frag) (mg : MG) (base : Heap) (x : Str) (j : Nat) (ps : List Str) (mf : Nat) (errs : List Str) (s : SpecE) : Prop where
  ex : ∃ (f : Addr) (fd : FuncData), FnE P w K mg base j f fd ps errs mf s ∧ mg x = some (.ref f) ∧ PySem.W.keepIn K (.ref f) = true ∧ Binds K fd ps []
theorem run_fnE {X : Cx} {k : Nat} {f a D : Addr} {fd : FuncData} {ps errs : List Str} {m : Nat} {sp : SpecE} {nm : Str} {oe : Obj} {pins : List (Addr × Obj)} {σ : L2.St} {H : Hp} {s : Shared} {Q : VK} (F : FnE X.prog X.w X.K X.mg X.base k f fd ps errs m sp) (gd : Gd k X.A) (rm : L2H.RoomH k X.A) (hb : Binds X.K fd ps []) (hp : (a, oe) ∈ X.pn) (hz : Zc (.ref D) none oe) (hf : ∃ vs, oe.data = .fields vs) (hh : L2H.Hot1 X.A (a, oe)) (hin : nm ∈ errs) (hD : X.mg nm = some (.ref D))
    (I : Inv X pins σ H s) (h : liftS X.K X.mg m 1 (spE a nm sp) [.ref a] H Q E0) : wpAny (model X.prog X.w) X.A (call (.ref f) [.ref a]) (EP X pins σ Q) X.xe s := by
  have b := hb s [.ref a] I.kIn (by rw [List.append_nil]; exact F.one.symm)
  rw [List.append_nil] at b
  have P1 := I.pin (a, oe) (List.mem_append_left _ hp)
  have hpin : L2H.PinOk X.stack H s (a, oe) := ⟨P1.1, P1.2.1, fun hm => (List.mem_cons.mp (I.stkSub a hm)).elim P1.2.2.1 P1.2.2.2.1, P1.2.2.2.2⟩
  refine wpAny_call (codeAny_mono (F.run X.A X.stack s H ⟨[.ref a], []⟩ Q E0 (a, oe) nm D rm gd hpin hin hD hz hf hh I.env0 b h) ?_)
  rintro (z | _ | _ | _ | u) s' end_
  · exact pass0 pins σ H s z s' I end_
  · exact end_.elim
  · exact end_.elim
  · exact end_.elim
  · exact I.after end_
def wCallE (a : Addr) (nm : Str) (s : SpecE) (wa : W2) : W2 := fun e ρ k => wa e ρ fun x ρ1 => match x with
  | .scr a' => a' = a ∧ s nm (fun y => k y ρ1)
  | _ => False
def tCallE (K : PySem.W.Frag) (mg : MG) (mf : Nat) (a : Addr) (nm : Str) (s : SpecE) (ta : TE) : TE := fun σ H Q => tCons ta tNil σ H fun vs H1 => vs = [.ref a] ∧ liftS K mg mf 1 (spE a nm s) [.ref a] H1 Q E0
section
variable {ι : Type} {Ψ : Fam ι} {W : WX} {m : Nat}
theorem je_callE {a D : Addr} {nm : Str} {errs ps : List Str} {j mf : Nat} {s : SpecE} {x : Str} {ea : Expr} {p pos : Pos} {wa : W2} (pn : PnE Ψ a D) (hD : Ψ.mg nm = some (.ref D)) (hin : nm ∈ errs) (De : Def2E Ψ.P Ψ.w Ψ.K Ψ.mg Ψ.base x j ps mf errs s) (ha : JE Ψ W m ea wa) (hj : j ≤ Ψ.k := by exact Nat.le_of_ble_eq_true rfl)
    (hg : ∀ i, Gl (Ψ.X i) x := by intro _; rfl) (hdb : (x == ("__debug__" : Str)) = false := by decide) (he : ∀ i, starEach [ea] (Ψ.X i).env = (false, eval ea (Ψ.X i).env) :: starEach [] (Ψ.X i).env := by intro _; rfl) : JE Ψ W (m + mf) (.Call (.Name x p) [ea] [] pos) (wCallE a nm s wa) := by
  obtain ⟨f, fd, F, hm, hk, hb⟩ := De.ex
  obtain ⟨ta, a1, a2⟩ := ha
  refine ⟨tCallE Ψ.K Ψ.mg mf a nm s ta, fun i => ?_, ?_⟩
  · obtain ⟨oe, hp, hz, hf, hh⟩ := pn.ex i
    have F' : FnE (Ψ.X i).prog (Ψ.X i).w (Ψ.X i).K (Ψ.X i).mg (Ψ.X i).base j f fd ps errs mf s := by rw [Ψ.hP i, Ψ.hw i, Ψ.hK i, Ψ.hmg i, Ψ.hbase i]; exact F
    refine ⟨fun pins s0 σ H Q I h => wpAny_Call_Name_kw (ld_glob I (hg i) (by rw [Ψ.hmg i]; exact hm) (PySem.W.callWith_K (h₀ := (Ψ.X i).base) I.ok.mod.kin (by rw [Ψ.hK i]; exact hk) (thn ((pa_cons (a1 i) pa_nil (he i)).run pos pins s0 σ H _ I h) fun us s1 ⟨vs, H1, I1, r, q⟩ => ⟨I1.kIn, ?_⟩) (he i) rfl) hdb)⟩
    obtain ⟨rfl, q⟩ := q
    cases r with
    | cons r1 r2 =>
      cases r2
      cases r1
      exact run_fnE F' ((Ψ.gd i).mono hj) ((Ψ.rm i).mono hj) (by rw [Ψ.hK i]; exact hb) hp hz hf hh hin (by rw [Ψ.hmg i]; exact hD) I1 (by rw [Ψ.hK i, Ψ.hmg i]; exact q)
  · intro B H0 g σ ρ n H e k Q rs l hw q xq
    refine a2 B H0 g σ ρ n H e _ _ rs (by omega) hw (fun H1 ρ1 Ha v1 x1 s1 r1 h1 q1 => ?_) (fun H0' ρ' H' nm cls d s r' => xq H0' ρ' H' nm cls d s (r'.count (by omega)))
    cases x1 with
    | scr a' =>
      obtain ⟨rfl, q2⟩ := q1
      have h1 : v1 = .ref a' := h1
      subst h1
      refine ⟨rfl, rfl, H1, g, n + m, [.scr a'], _, (fun _ => False), by omega, r1.ext, r1.drf, r1.drw, .cons rfl .nil, ⟨rfl, q2⟩, fun Hr H' v x lf hr hk => ?_, fun _ _ _ _ _ _ z _ => z.elim⟩
      exact q Hr ρ1 H' v x (s1.trans lf.b) ((r1.left lf).count (by omega)) (hr.r r1 lf) hk
    | _ => exact q1.elim
end
section
variable {ι : Type} {Φ : Fam ι} {W : WX} {m : Nat}
theorem je_callS {a : Addr} {cls : Value} {d : Option Addr} {nm : Str} {errs ps : List Str} {j mf : Nat} {s : SpecE} {x : Str} {ea : Expr} {p pos : Pos} {wa : W2} (hx : Exn Φ.mg nm cls d) (hin : nm ∈ errs) (ci : ErrI Φ.K Φ.mg errs) (De : Def2E Φ.P Φ.w Φ.K Φ.mg Φ.base x j ps mf errs s) (ha : JE (Φ.su a cls d) W m ea wa) (hj : j ≤ Φ.k := by exact Nat.le_of_ble_eq_true rfl)
    (hg : ∀ i, Gl ((Φ.su a cls d).X i) x := by intro _; rfl) (hdb : (x == ("__debug__" : Str)) = false := by decide) (he : ∀ i, starEach [ea] ((Φ.su a cls d).X i).env = (false, eval ea ((Φ.su a cls d).X i).env) :: starEach [] ((Φ.su a cls d).X i).env := by intro _; rfl) : JE (Φ.su a cls d) W (m + mf) (.Call (.Name x p) [ea] [] pos) (wCallE a nm s wa) := by
  obtain ⟨D, hD, _⟩ := ci.ex nm hin
  have e := hx.cl.symm.trans hD
  cases e
  cases hx.nd
  exact je_callE (Ψ := Φ.su a (.ref D) none) pnE_su hD hin De ha hj hg hdb he
end
section
variable {ι : Type} {Φ : Fam ι} {W : WX} {m : Nat}
end
end B2

namespace B2
open PySem PySem.Spec L2 PySem.Calls PyProof.Rows
structure FunV (K : PySem.W.Frag) (x qual : Str) (st : Stmt) (f : Addr) (fd : FuncData) : Prop where
  ex : ∃ (oc : Value) (od : Option Addr) (dV kV doc pm : Value) (an : Option Addr) (cdv ct : Value) (osl : Array (Option Value)),
    fd = PySem.W.fnOf x qual (defArgs st) (defBody st) (defScope st) dV kV doc pm an cdv ct ∧ K.lookup f = some ⟨oc, od, .func fd, osl⟩ ∧ PySem.W.codeIn K cdv qual = true
  kp : PySem.W.keepIn K (.ref f) = true
section
variable {P : Program} {w : World} {K : PySem.W.Frag} {mg : Str → Option Value} {base : Heap} {k : Nat} {f : Addr} {fd : FuncData} {ps : List Str} {sp : Sp}
theorem FunV.ok {x q : Str} {st : Stmt} {N : List Str} (F : FunV K x q st f fd) (S : FnScope N ps (defScope st)) (many : ∀ vs H Q E, sp vs H Q E → vs.length = ps.length)
    (inner : ∀ (cdv : Value) (A : Around) (up : List PySem.Env) (s : Shared) (H : Hp) (vs : List V) (Q : VK) (E : XK), Room k (A.deeper (envOfC q (defScope st) s.heap.objs.size f cdv)) → Gd k (A.deeper (envOfC q (defScope st) s.heap.objs.size f cdv)) → sp vs H Q E →
      ∃ t, PSs (cxOf CX0 P w K mg base N q (defScope st) f cdv A up s H E).nox (defBody st) t ∧ t { nx := fun _ H' => Q .non H', rt := Q } (L2.start N vs) H) : FnG P w K mg base CX0 (k + 1) f fd ps sp := by
  obtain ⟨oc, od, dV, kV, doc, pm, an, cdv, ct, osl, rfl, at_, code⟩ := F.ex
  refine fnG_of at_ code S many fun A up s H vs Q E room gd wish => ?_
  obtain ⟨t, a, b⟩ := inner cdv A up s H vs Q E room gd wish
  exact ⟨t, a.nox, b⟩
theorem FunV.okX {x q : Str} {st : Stmt} {N : List Str} (F : FunV K x q st f fd) (S : FnScope N ps (defScope st)) (many : ∀ vs H Q E, sp vs H Q E → vs.length = ps.length)
    (inner : ∀ (cdv : Value) (A : Around) (up : List PySem.Env) (s : Shared) (H : Hp) (vs : List V) (Q : VK) (E : XK), Room k (A.deeper (envOfC q (defScope st) s.heap.objs.size f cdv)) → Gd k (A.deeper (envOfC q (defScope st) s.heap.objs.size f cdv)) → sp vs H Q E →
      ∃ t, PSs (cxOf (L2N.CX P w) P w K mg base N q (defScope st) f cdv A up s H E) (defBody st) t ∧ t { nx := fun _ H' => Q .non H', rt := Q } (L2.start N vs) H) : FnG P w K mg base (L2N.CX P w) (k + 1) f fd ps sp := by
  obtain ⟨oc, od, dV, kV, doc, pm, an, cdv, ct, osl, rfl, at_, code⟩ := F.ex
  exact fnG_of at_ code S many fun A up s H vs Q E room gd wish => inner cdv A up s H vs Q E room gd wish
end
structure AtV (K : PySem.W.Frag) (mg : MG) (x : Str) (st : Stmt) (ps : List Str) : Prop where
  ex : ∃ (f : Addr) (fd : FuncData), FunV K x x st f fd ∧ mg x = some (.ref f) ∧ Binds K fd ps [] ∧ ∃ ds, Vals [.non] ds ∧ Binds K fd ps ds
section
variable {P : Program} {w : World} {K : PySem.W.Frag} {mg : MG} {base : Heap} {m : Nat}
end
structure Def2V (P : Program) (w : World) (K : PySem.W.Frag) (mg : MG) (base : Heap) (x : Str) (j : Nat) (ps : List Str) (mf len : Nat) (s : Spec2) : Prop where
  full : Def2 P w K mg base x j ps mf len s
  ex : ∃ (f : Addr) (fd : FuncData) (ds : List Value), FnG P w K mg base CX0 j f fd ps (liftS K mg mf len s) ∧ mg x = some (.ref f) ∧ PySem.W.keepIn K (.ref f) = true ∧ Vals [.non] ds ∧ Binds K fd ps ds
section
variable {ι : Type} {Φ : Fam ι} {W : WX} {m : Nat}
end
end B2

namespace B2
open PySem PySem.Spec L2 PySem.Calls PyProof.Rows
abbrev KLast (K : PySem.W.Frag) (fd : FuncData) (ps : List Str) (key : Str) : Prop := KBn K fd ps (ps.length - 1) [key] (fun us ws => us ++ ws) (fun vs zs => vs ++ zs)
structure AtK (K : PySem.W.Frag) (mg : MG) (x : Str) (st : Stmt) (ps : List Str) (key : Str) : Prop where
  ex : ∃ (f : Addr) (fd : FuncData), FunV K x x st f fd ∧ mg x = some (.ref f) ∧ Binds K fd ps [] ∧ (∃ ds, Vals [.non] ds ∧ Binds K fd ps ds) ∧ KLast K fd ps key
structure Def2K (P : Program) (w : World) (K : PySem.W.Frag) (mg : MG) (base : Heap) (x : Str) (j : Nat) (ps : List Str) (key : Str) (mf len : Nat) (s : Spec2) : Prop where
  v : Def2V P w K mg base x j ps mf len s
  kw : ∃ (f : Addr) (fd : FuncData), FnG P w K mg base CX0 j f fd ps (liftS K mg mf len s) ∧ mg x = some (.ref f) ∧ PySem.W.keepIn K (.ref f) = true ∧ KLast K fd ps key
section
variable {X : Cx} {CX : CXT} {k n : Nat} {f : Addr} {fd : FuncData} {ps ks : List Str} {sp : Sp} {E : XK} {x : Str} {p pos : Pos} {e : Expr} {es : List Expr} {kws : List Keyword} {t tk : TA} {g : List Value → List Value → List Value} {gV : List V → List V → List V}
end
section
variable {ι : Type} {Φ : Fam ι} {W : WX} {m m1 m2 : Nat}
end
end B2

namespace B2
open PySem PySem.Spec L2 PySem.Calls PyProof.Rows
section
variable {ι : Type} {Φ : Fam ι} {W : WX} {m : Nat}
end
end B2

namespace B2
open PySem PySem.Spec L2 PySem.Calls PyProof.Rows
section
variable {prog : Program} {w : World} {A : Around} {R : Result → Shared → Prop} {I l S : Addr}
end
section
variable {prog : Program} {w : World} {A : Around} {E : Value → Shared → Prop} {s : Shared}
end
inductive LLs (H : Hp) : List V → List (List V) → Prop
  | nil : LLs H [] []
  | cons {b : Addr} {vs xs : List V} {xss : List (List V)} : H b = some (.lst xs) → LLs H vs xss → LLs H (.ref b :: vs) (xs :: xss)
theorem LLs.obj {X : Cx} {pins : List (Addr × Obj)} {σ : L2.St} {H : Hp} {s : Shared} (I : Inv X pins σ H s) : ∀ {bs : List V} {xss : List (List V)} {us : List Value}, LLs H bs xss → Vals bs us → ∃ els : List (List Value), us.length = els.length ∧ els.length = xss.length ∧ Vals xss.flatten els.flatten ∧
    ∀ (j : Nat) (x : List Value), els[j]? = some x → ∃ (b : Addr) (nb : Nat), us[j]? = some (Value.ref b) ∧ IsL s.heap b x.toArray nb
  | _, _, _, .nil, .nil => ⟨[], rfl, rfl, .nil, fun j x h => by simp at h⟩
  | _, _, _, .cons hb t, .cons rv rt => by
    obtain ⟨els, h1, h2, h3, h4⟩ := LLs.obj I t rt
    cases rv
    obtain ⟨z, its, n, r, hl, e⟩ := I.lstM hb
    refine ⟨its :: els, by rw [List.length_cons, List.length_cons, h1], by rw [List.length_cons, List.length_cons, h2], ?_, fun j x hx => ?_⟩
    · rw [List.flatten_cons, List.flatten_cons]; exact r.append h3
    · cases j with
      | zero => cases hx; exact ⟨_, n, rfl, e⟩
      | succ j => exact h4 j x hx
section
variable {ι : Type} {Φ : Fam ι} {W : WX} {m : Nat}
end
end B2

namespace B2
open PySem PySem.Spec L2 PySem.Calls PyProof.Rows
structure ZL (prog : Program) (w : World) (A : Around) (z D : Addr) (wr : List Addr) (n : Nat) (V : Nat → Array Value → Prop) (St : Nat → Heap → Prop) : Prop where
  typ : ∀ i h, St i h → ∃ o, h.get? z = some o ∧ o.cls = .type "zip"
  frame : ∀ i h h', St i h → (∀ b o, b ≠ D → h.get? b = some o → h'.get? b = some o) → St i h'
  item : ∀ i (s : Shared) (Q : Option Value → Shared → Prop) (E : Value → Shared → Prop), i < n → St i s.heap → D < s.heap.objs.size →
    (∀ T vals h' tk, V i vals → h'.get? T = some { cls := .type "tuple", data := .seq vals } → s.heap.objs.size ≤ T → St (i + 1) h' → (∀ b o, b ∉ wr → s.heap.get? b = some o → h'.get? b = some o) → Q (some (.ref T)) { s with heap := h', toks := tk }) → wpAny (model prog w) A (pyNext (.ref z)) Q E s
  done : ∀ (s : Shared) (Q : Option Value → Shared → Prop) (E : Value → Shared → Prop), St n s.heap → (∀ h' tk, (∀ b o, b ∉ wr → s.heap.get? b = some o → h'.get? b = some o) → Q none { s with heap := h', toks := tk }) → wpAny (model prog w) A (pyNext (.ref z)) Q E s
  self : ∀ (A : Around) i (s : Shared) (Q : Value → Shared → Prop) (E : Value → Shared → Prop), St i s.heap → Q (.ref z) s → wpAny (model prog w) A (pyIter (.ref z)) Q E s
section
variable {prog : Program} {w : World} {A : Around} {E : Value → Shared → Prop} {s : Shared} {z TI TO T i1 i2 i3 : Addr} {f : Bool} {oT : Obj} {fp1 fp2 fp3 : List Addr} {n1 n2 n3 i : Nat} {P1 P2 P3 : Nat → Value → Prop} {St1 St2 St3 : Nat → Heap → Prop}
theorem pyIter_zipT {z : Addr} {Q : Value → Shared → Prop} (hT : s.TypeIs (.ref z) "zip") (h : Q (.ref z) s) : wpAny (model prog w) A (pyIter (.ref z)) Q E s := by
  refine wpAny_pyIter_slot hT F.slot_zip_iter (wpAny_call_entry F.slot_zip_iter hT F.entry_zip_iter ?_ (F.args_zip_iter_1 _))
  show wpAny _ _ (ret (.ref z)) _ _ s
  exact wpAny_pure ⟨_, rfl, "zip", _, hT, F.slot_zip_next.lookup, h⟩
theorem zl2_item {Q : Value → Shared → Prop} (S : ZipSep2 z TI TO i1 i2 fp1 fp2) (D1 : Draws prog w A i1 fp1 n1 P1 St1) (D2 : Draws prog w A i2 fp2 n2 P2 St2)
    (hz : IsZipHeld s.heap z TI TO T f) (hT : s.heap.get? T = some oT) (hTI : IsTupOf2 s.heap TI (.ref i1) (.ref i2)) (st1 : St1 i s.heap) (st2 : St2 i s.heap) (hlt1 : i < n1) (hlt2 : i < n2)
    (hQ : ∀ x1 x2 h' tk, P1 i x1 → P2 i x2 → IsZipHeld h' z TI TO T true → St1 (i + 1) h' → St2 (i + 1) h' → IsTupOf2 h' s.heap.objs.size x1 x2 → h'.objs.size = s.heap.objs.size + 1 →
      (∀ c o, c ≠ z → c ≠ i1 → c ≠ i2 → s.heap.get? c = some o → h'.get? c = some o) → Q (.ref s.heap.objs.size) { s with heap := h', toks := tk }) :
    wpAny (model prog w) A (Builtin.«zip.__next__» ⟨[.ref z], []⟩) (fun fin s' => ∃ v, fin = .done (.ret v) ∧ Q v s') E s := by
  obtain ⟨hp, g, d, tk0, os⟩ := s
  show wpAny _ _ (field (.ref z) 2 >>= _) _ _ _
  refine wpAny_bind (wpAny_field hz rfl (x := .bool false) rfl ?_)
  show wpAny _ _ (field (.ref z) 3 >>= _) _ _ _
  refine wpAny_bind (wpAny_field hz rfl (x := .ref TI) rfl ?_)
  refine wpAny_bind (wpAny_seqItems hTI rfl ?_)
  show wpAny _ _ (Builtin.SmallTypes.ownedTupleIsFree (.ref z) >>= _) _ _ _
  refine wpAny_bind (wpAny_tupleHeld_zip hz hT fun h0 hz0 hs0 => ?_)
  replace hs0 : Heap.SameBut z hp h0 := hs0
  simp only [Bool.false_eq_true, if_false]
  refine wpAny_bind ?_
  rw [← Array.forIn_toList]
  simp only [List.forIn_cons, List.forIn_nil]
  refine wpAny_bind (wpAny_bind (wpAny_holding ?_))
  show wpAny _ _ (Builtin.SmallTypes.nextOf (.ref i1) >>= _) _ _ ⟨h0, g, d, tk0, os⟩
  refine wpAny_bind (D1.item i _ _ _ hlt1 (D1.over st1 hs0 S.zf1) fun x1 p1 tk1 hx1 sn1 hp1 => wpAny_pure ?_)
  replace hp1 : Heap.SameBut i1 h0 p1 := hp1
  refine wpAny_pure ?_
  refine wpAny_bind (wpAny_bind (wpAny_holding ?_))
  show wpAny _ _ (Builtin.SmallTypes.nextOf (.ref i2) >>= _) _ _ ⟨p1, g, d, tk1, os⟩
  refine wpAny_bind (D2.item i _ _ _ hlt2 (D2.over (D2.over st2 hs0 S.zf2) hp1 S.sep1_2) fun x2 p2 tk2 hx2 sn2 hp2 => wpAny_pure ?_)
  replace hp2 : Heap.SameBut i2 p1 p2 := hp2
  refine wpAny_pure ?_
  refine wpAny_pure ?_
  show wpAny _ _ (newTuple [x1, x2] >>= _) _ _ ⟨p2, g, d, tk2, os⟩
  refine wpAny_bind (wpAny_newTuple ?_)
  have hsz : p2.objs.size = hp.objs.size := by rw [hp2.1, hp1.1, hs0.1]
  have hzz : IsZipHeld p2 z TI TO T true := hp2.extBut _ _ S.zi2 (hp1.extBut _ _ S.zi1 (hz0))
  have hk : ∀ c o, c ≠ z → c ≠ i1 → c ≠ i2 → hp.get? c = some o → p2.get? c = some o := fun c o cz c1 c2 e => hp2.extBut _ _ c2 (hp1.extBut _ _ c1 (hs0.extBut _ _ cz e))
  have hj1 : St1 (i + 1) p2 := D1.over (sn1) hp2 S.sep2_1
  have hj2 : St2 (i + 1) p2 := sn2
  refine wpAny_pure ⟨_, rfl, ?_⟩
  show Q (.ref p2.objs.size) _
  have hp9 : IsTupOf2 (p2.push { cls := .type "tuple", data := .seq #[x1, x2] }) p2.objs.size x1 x2 := Heap.get?_push_size _ rfl
  have hz4 : (p2.push { cls := .type "tuple", data := .seq #[x1, x2] }).objs.size = p2.objs.size + 1 := Heap.size_push ..
  rw [hsz] at hp9 hz4 ⊢
  exact hQ x1 x2 _ _ hx1 hx2 (Heap.get?_push_of_some _ hzz) (D1.frame _ _ _ hj1 fun b hb o e => Heap.get?_push_of_some _ e) (D2.frame _ _ _ hj2 fun b hb o e => Heap.get?_push_of_some _ e) hp9 hz4 fun c o cz c1 c2 e => Heap.get?_push_of_some _ (hk c o cz c1 c2 e)

theorem zl2_end {Q : Fin → Shared → Prop} (S : ZipSep2 z TI TO i1 i2 fp1 fp2) (D1 : Draws prog w A i1 fp1 n1 P1 St1) (D2 : Draws prog w A i2 fp2 n2 P2 St2)
    (hz : IsZipHeld s.heap z TI TO T f) (hT : s.heap.get? T = some oT) (hTI : IsTupOf2 s.heap TI (.ref i1) (.ref i2)) (st1 : St1 i s.heap) (st2 : St2 i s.heap) (hle1 : i ≤ n1) (hle2 : i ≤ n2) (hend : i = n1 ∨ i = n2)
    (hE : ∀ h' tk e, (∀ c o, c ≠ z → c ≠ i1 → c ≠ i2 → s.heap.get? c = some o → h'.get? c = some o) → (∃ o, h'.get? e = some o ∧ o.cls = .type "StopIteration") → E (.ref e) { s with heap := h', toks := tk }) :
    wpAny (model prog w) A (Builtin.«zip.__next__» ⟨[.ref z], []⟩) Q E s := by
  obtain ⟨hp, g, d, tk0, os⟩ := s
  show wpAny _ _ (field (.ref z) 2 >>= _) _ _ _
  refine wpAny_bind (wpAny_field hz rfl (x := .bool false) rfl ?_)
  show wpAny _ _ (field (.ref z) 3 >>= _) _ _ _
  refine wpAny_bind (wpAny_field hz rfl (x := .ref TI) rfl ?_)
  refine wpAny_bind (wpAny_seqItems hTI rfl ?_)
  show wpAny _ _ (Builtin.SmallTypes.ownedTupleIsFree (.ref z) >>= _) _ _ _
  refine wpAny_bind (wpAny_tupleHeld_zip hz hT fun h0 hz0 hs0 => ?_)
  replace hs0 : Heap.SameBut z hp h0 := hs0
  simp only [Bool.false_eq_true, if_false]
  refine wpAny_bind ?_
  rw [← Array.forIn_toList]
  simp only [List.forIn_cons, List.forIn_nil]
  refine wpAny_bind (wpAny_bind (wpAny_holding ?_))
  show wpAny _ _ (Builtin.SmallTypes.nextOf (.ref i1) >>= _) _ _ ⟨h0, g, d, tk0, os⟩
  by_cases hlt1 : i < n1
  · refine wpAny_bind (D1.item i _ _ _ hlt1 (D1.over st1 hs0 S.zf1) fun x1 p1 tk1 hx1 sn1 hp1 => wpAny_pure ?_)
    replace hp1 : Heap.SameBut i1 h0 p1 := hp1
    refine wpAny_pure ?_
    refine wpAny_bind (wpAny_bind (wpAny_holding ?_))
    show wpAny _ _ (Builtin.SmallTypes.nextOf (.ref i2) >>= _) _ _ ⟨p1, g, d, tk1, os⟩
    have he2 : i = n2 := by omega
    refine wpAny_bind (D2.done ⟨p1, g, d, tk1, os⟩ _ _ (by rw [← he2]; exact D2.over (D2.over st2 hs0 S.zf2) hp1 S.sep1_2) fun q e hq he => ?_)
    exact hE q tk1 e (fun c o cz c1 c2 x => hq _ _ c2 (hp1.extBut _ _ c1 (hs0.extBut _ _ cz x))) he
  · have he1 : i = n1 := by omega
    refine wpAny_bind (D1.done ⟨h0, g, d, tk0, os⟩ _ _ (by rw [← he1]; exact D1.over st1 hs0 S.zf1) fun q e hq he => ?_)
    exact hE q tk0 e (fun c o cz c1 c2 x => hq _ _ c1 (hs0.extBut _ _ cz x)) he

theorem zl2_pyNext_item {Q : Option Value → Shared → Prop} (S : ZipSep2 z TI TO i1 i2 fp1 fp2) (D1 : Draws prog w A.in1 i1 fp1 n1 P1 St1) (D2 : Draws prog w A.in1 i2 fp2 n2 P2 St2)
    (hz : IsZipHeld s.heap z TI TO T f) (hT : s.heap.get? T = some oT) (hTI : IsTupOf2 s.heap TI (.ref i1) (.ref i2)) (st1 : St1 i s.heap) (st2 : St2 i s.heap) (hlt1 : i < n1) (hlt2 : i < n2)
    (hQ : ∀ x1 x2 h' tk, P1 i x1 → P2 i x2 → IsZipHeld h' z TI TO T true → St1 (i + 1) h' → St2 (i + 1) h' → IsTupOf2 h' s.heap.objs.size x1 x2 → h'.objs.size = s.heap.objs.size + 1 →
      (∀ c o, c ≠ z → c ≠ i1 → c ≠ i2 → s.heap.get? c = some o → h'.get? c = some o) → Q (some (.ref s.heap.objs.size)) { s with heap := h', toks := tk }) : wpAny (model prog w) A (pyNext (.ref z)) Q E s := by
  have hTy : s.TypeIs (.ref z) "zip" := ⟨_, hz, rfl⟩
  unfold pyNext
  exact wpAny_bind (wpAny_attempt (wpAny_callSpecial?_slot (name := Str.ofString "__next__") hTy F.slot_zip_next
    (wpAny_call_entry F.slot_zip_next hTy F.entry_zip_next
      (zl2_item S D1 D2 hz hT hTI st1 st2 hlt1 hlt2 fun x1 x2 h' tk y1 y2 b1 d1 d2 b5 b6 b7 => wpAny_pure (hQ x1 x2 h' tk y1 y2 b1 d1 d2 b5 b6 b7)) (F.args_zip_next_1 _))))
theorem zl2_pyNext_end {Q : Option Value → Shared → Prop} (S : ZipSep2 z TI TO i1 i2 fp1 fp2) (D1 : Draws prog w A.in1 i1 fp1 n1 P1 St1) (D2 : Draws prog w A.in1 i2 fp2 n2 P2 St2)
    (hz : IsZipHeld s.heap z TI TO T f) (hT : s.heap.get? T = some oT) (hTI : IsTupOf2 s.heap TI (.ref i1) (.ref i2)) (st1 : St1 i s.heap) (st2 : St2 i s.heap) (hle1 : i ≤ n1) (hle2 : i ≤ n2) (hend : i = n1 ∨ i = n2)
    (hQ : ∀ h' tk, (∀ c o, c ≠ z → c ≠ i1 → c ≠ i2 → s.heap.get? c = some o → h'.get? c = some o) → Q none { s with heap := h', toks := tk }) : wpAny (model prog w) A (pyNext (.ref z)) Q E s := by
  have hTy : s.TypeIs (.ref z) "zip" := ⟨_, hz, rfl⟩
  unfold pyNext
  refine wpAny_bind (wpAny_attempt (wpAny_callSpecial?_slot (name := Str.ofString "__next__") hTy F.slot_zip_next
    (wpAny_call_entry F.slot_zip_next hTy F.entry_zip_next (zl2_end S D1 D2 hz hT hTI st1 st2 hle1 hle2 hend fun h' tk e hk he => ?_) (F.args_zip_next_1 _))))
  obtain ⟨o, ho, hc⟩ := he
  refine wpAny_bind (wpAny_isInstance (T := "StopIteration") (b := true) ⟨o, ho, hc⟩ isSubtype_stop ?_)
  exact wpAny_pure (hQ _ _ hk)

theorem ZL.zip2 {D : Addr} (S : ZipSep2 z TI TO i1 i2 fp1 fp2) (D1 : Draws prog w A.in1 i1 fp1 n1 P1 St1) (D2 : Draws prog w A.in1 i2 fp2 n2 P2 St2) (hz : D ≠ z) (hTI : D ≠ TI) (hTO : D ≠ TO) (hf1 : D ∉ fp1) (hf2 : D ∉ fp2) :
    ZL prog w A z D [z, TO, i1, i2] (min n1 n2) (fun i vals => ∃ x1 x2, P1 i x1 ∧ P2 i x2 ∧ vals = #[x1, x2])
      (fun i h => IsTupOf2 h TI (.ref i1) (.ref i2) ∧ St1 i h ∧ St2 i h ∧ ((IsZip h z TI TO .none ∧ ∃ a1 a2, IsTupOf2 h TO a1 a2) ∨ ∃ T f oT, IsZipHeld h z TI TO T f ∧ h.get? T = some oT ∧ T ≠ z ∧ T ≠ TO ∧ T ≠ D ∧ T ≠ i1 ∧ T ≠ i2)) where
  typ := fun i h st => by
    obtain ⟨_, _, _, st⟩ := st
    rcases st with ⟨q, _⟩ | ⟨_, _, _, q, _⟩
    · exact ⟨_, q, rfl⟩
    · exact ⟨_, q, rfl⟩
  frame := fun i h h' st hk => by
    obtain ⟨q1, st1, st2, st⟩ := st
    refine ⟨hk _ _ hTI.symm q1, D1.frame _ _ _ st1 fun b hb o e => hk b o (fun x => hf1 (x ▸ hb)) e, D2.frame _ _ _ st2 fun b hb o e => hk b o (fun x => hf2 (x ▸ hb)) e, ?_⟩
    rcases st with ⟨q, a1, a2, q2⟩ | ⟨T, f, oT, q, q3, q4, q5, q6, q7⟩
    · exact .inl ⟨hk _ _ hz.symm q, a1, a2, hk _ _ hTO.symm q2⟩
    · exact .inr ⟨T, f, oT, hk _ _ hz.symm q, hk _ _ q6 q3, q4, q5, q6, q7⟩
  item := fun i s Q E hi st hD hQ => by
    obtain ⟨q1, st1, st2, st⟩ := st
    have hi1 : i < n1 := by omega
    have hi2 : i < n2 := by omega
    have lt : ∀ {c o}, s.heap.get? c = some o → s.heap.objs.size ≠ c := fun e => Nat.ne_of_gt (Heap.lt_size e)
    have l1 : s.heap.objs.size ≠ i1 := by obtain ⟨_, e⟩ := D1.live _ _ st1; exact lt e
    have l2 : s.heap.objs.size ≠ i2 := by obtain ⟨_, e⟩ := D2.live _ _ st2; exact lt e
    rcases st with ⟨q, a1, a2, q2⟩ | ⟨T, f, oT, q, q3, q4, q5, q6, r1, r2⟩
    · refine wpAny_pyNext_zipD2_item S D1 D2 q q1 q2 st1 st2 hi1 hi2 fun x1 x2 h' tk y1 y2 b1 b2 d1 d2 b5 b6 hk => ?_
      exact hQ s.heap.objs.size _ h' tk ⟨x1, x2, y1, y2, rfl⟩ b5 (Nat.le_refl _) ⟨hk _ _ S.TIz S.TITO S.TIi1 S.TIi2 q1, d1, d2, .inr ⟨_, false, _, b1, b5, lt q, lt q2, Nat.ne_of_gt hD, l1, l2⟩⟩
        fun c o hc e => hk c o (fun x => hc (by simp [x])) (fun x => hc (by simp [x])) (fun x => hc (by simp [x])) (fun x => hc (by simp [x])) e
    · refine zl2_pyNext_item S D1 D2 q q3 q1 st1 st2 hi1 hi2 fun x1 x2 h' tk y1 y2 b1 d1 d2 b5 b6 hk => ?_
      exact hQ s.heap.objs.size _ h' tk ⟨x1, x2, y1, y2, rfl⟩ b5 (Nat.le_refl _) ⟨hk _ _ S.TIz S.TIi1 S.TIi2 q1, d1, d2, .inr ⟨T, true, oT, b1, hk _ _ q4 r1 r2 q3, q4, q5, q6, r1, r2⟩⟩
        fun c o hc e => hk c o (fun x => hc (by simp [x])) (fun x => hc (by simp [x])) (fun x => hc (by simp [x])) e
  done := fun s Q E st hQ => by
    obtain ⟨q1, st1, st2, st⟩ := st
    rcases st with ⟨q, a1, a2, q2⟩ | ⟨T, f, oT, q, q3, q4, q5, q6, r1, r2⟩
    · exact wpAny_pyNext_zipD2_end S D1 D2 q q1 q2 st1 st2 (by omega) (by omega) (by omega) fun h' tk hk => hQ h' tk fun c o hc e => hk c o (fun x => hc (by simp [x])) (fun x => hc (by simp [x])) (fun x => hc (by simp [x])) (fun x => hc (by simp [x])) e
    · exact zl2_pyNext_end S D1 D2 q q3 q1 st1 st2 (by omega) (by omega) (by omega) fun h' tk hk => hQ h' tk fun c o hc e => hk c o (fun x => hc (by simp [x])) (fun x => hc (by simp [x])) (fun x => hc (by simp [x])) e
  self := fun A i s Q E st h => by
    obtain ⟨_, _, _, st⟩ := st
    rcases st with ⟨q, _⟩ | ⟨_, _, _, q, _⟩
    · exact pyIter_zipT ⟨_, q, rfl⟩ h
    · exact pyIter_zipT ⟨_, q, rfl⟩ h

end
section
variable {X : Cx} {pins : List (Addr × Obj)} {σ : L2.St}
end
section
variable {X : Cx}
end
section
variable {ι : Type} {Φ : Fam ι} {W : WX} {m : Nat}
end
end B2

namespace B2
open PySem PySem.Spec L2 PySem.Calls PyProof.Rows
section
variable {P : Program} {w : World} {K : PySem.W.Frag} {mg : MG} {base : Heap}
theorem fnG_void {CX : CXT} {k m len : Nat} {f : Addr} {fd : FuncData} {ps : List Str} {s : Spec2} (h : ∀ xs k e, s xs k e → False) : FnG P w K mg base CX k f fd ps (liftS K mg m len s) :=
  ⟨fun _ _ _ _ q => by obtain ⟨_, _, _, _, _, _, _, _, _, _, _, _, z, _⟩ := q; exact (h _ _ _ z).elim, fun _ _ _ _ _ _ _ _ _ _ _ _ _ _ q => by obtain ⟨_, _, _, _, _, _, _, _, _, _, _, _, z, _⟩ := q; exact (h _ _ _ z).elim⟩
end
end B2

namespace B2
open PySem PySem.Spec L2 RZ PyProof.Rows
section
variable {prog : Program} {w : World} {A : Around} {E : Value → Shared → Prop} {s : Shared}
end
structure TurnK (P : Program) (w : World) (K : PySem.W.Frag) (x1 : Addr) (tg : Expr) (J : It) (fp : List Addr) (it : Addr) (tn : Nat → Heap → Prop) : Prop where
  mem : it ∈ fp
  obj : ∀ i h, tn i h → ∀ b ∈ fp, ∃ o, h.get? b = some o ∧ ∀ v, o.data ≠ .cell v
  keep : ∀ i h h', tn i h → (∀ b ∈ fp, ∀ o, h.get? b = some o → h'.get? b = some o) → tn i h'
  item : ∀ (X : Cx), X.prog = P → X.w = w → X.K = K → ∀ (i : Nat) (pins : List (Addr × Obj)) (s : Shared) (σ : L2.St) (H : Hp) (E : Value → Shared → Prop), HotX.HotAt X.A x1 s.heap → Inv X pins σ H s → (∀ b ∈ fp, FpOk X pins H b) → tn i s.heap → J.go i H →
    wpAny (model P w) X.A (pyNext (.ref it)) (fun r s1 => ∃ u, r = some u ∧ wpAny (model P w) X.A (letOwnedTupleGo tg (.ref it) u) (fun _ s2 => ∃ x H', Inv X pins σ H' s2 ∧ RelV x u ∧ J.yld i H x H' ∧ tn (i + 1) s2.heap ∧ ∀ b ∈ fp, H' b = none) E s1) E s
  done : ∀ (X : Cx), X.prog = P → X.w = w → X.K = K → ∀ (i : Nat) (pins : List (Addr × Obj)) (s : Shared) (σ : L2.St) (H : Hp) (E : Value → Shared → Prop), HotX.HotAt X.A x1 s.heap → Inv X pins σ H s → (∀ b ∈ fp, FpOk X pins H b) → tn i s.heap → J.stop i H →
    wpAny (model P w) X.A (pyNext (.ref it)) (fun r s1 => r = none ∧ Inv X pins σ H s1) E s
  self : ∀ (A : Around) (i : Nat) (s : Shared) (Q : Value → Shared → Prop) (E : Value → Shared → Prop), tn i s.heap → Q (.ref it) s → wpAny (model P w) A (pyIter (.ref it)) Q E s
section
variable {X : Cx} {pins : List (Addr × Obj)} {σ : L2.St} {H : Hp} {s : Shared} {x1 : Addr}
end
def PIEK (X : Cx) (pins : List (Addr × Obj)) (σ : L2.St) (tg : Expr) (x1 : Addr) (R : It → Hp → Prop) (itv : Value) (s2 : Shared) : Prop :=
  ∃ (it : Addr) (fp : List Addr) (tn : Nat → Heap → Prop) (J : It) (H' : Hp), itv = .ref it ∧ Inv X pins σ H' s2 ∧ TurnK X.prog X.w X.K x1 tg J fp it tn ∧ tn 0 s2.heap ∧ (∀ b ∈ fp, FpOk X pins H' b) ∧ R J H'
structure PIK (X : Cx) (tg iter : Expr) (wi : TI) : Prop where
  run : ∀ (pins : List (Addr × Obj)) (s : Shared) (σ : L2.St) (H : Hp) (R : It → Hp → Prop) (p : Addr × Obj), L2H.Hot1 X.A p → p ∈ X.pn → Inv X pins σ H s → wi σ H R →
    wpAny (model X.prog X.w) X.A (eval iter X.env) (fun v s1 => wpAny (model X.prog X.w) X.A (pyIter v) (PIEK X pins σ tg p.1 R) X.xe s1) X.xe s
section
variable {prog : Program} {w : World} {A : Around} {E : Value → Shared → Prop} {s : Shared}
end
structure PGK (X : Cx) (target : Expr) (t : TG) : Prop where
  run : ∀ (pins : List (Addr × Obj)) (s : Shared) (σ : L2.St) (H : Hp) (v : V) (u : Value) (Q : L2.St → Hp → Prop) (x1 : Addr), HotX.HotAt X.A x1 s.heap → Inv X pins σ H s → RelV v u → t v σ H Q →
    wpAny (model X.prog X.w) X.A (assign target X.env u) (fun _ s' => ∃ σ' H', Inv X pins σ' H' s' ∧ Q σ' H') X.xe s
section
variable {X : Cx}
end
section
variable {ι : Type} {Φ : Fam ι} {W : WX} {m m1 m2 m3 : Nat}
end
end B2

namespace PyProof.Rows
open PySem
section
variable {prog : Program} {w : World} {A : Around} {E : Value → Shared → Prop} {s : Shared}
theorem strs_of : ∀ {vs : List Value} {cs : List Nat}, vs.length = cs.length → (∀ (j : Nat) (v : Value), vs[j]? = some v → ∃ (c : Nat) (u : Tok), cs[j]? = some c ∧ v = Value.str ⟨#[c]⟩ u) → StrsAre vs (cs.map fun c => (⟨#[c]⟩ : Str))
  | [], [], _, _ => .nil
  | [], _ :: _, h, _ => nomatch h
  | _ :: _, [], h, _ => nomatch h
  | v :: vs, c :: cs, h, g => by
    obtain ⟨c', u, h1, h2⟩ := g 0 v rfl
    cases h1
    rw [h2]
    exact .cons _ _ (strs_of (Nat.succ.inj h) fun j y hy => g (j + 1) y hy)
end
end PyProof.Rows
namespace B2
open PySem L2
section
variable {ι : Type} {Φ : Fam ι} {W : WX} {m : Nat}
end
end B2

namespace B2
open PySem PySem.Spec L2 L2N RZ PyProof.Rows
section
variable {X : Cx} {x1 x2 n : Str} {c1 c2 : Value} {i : Nat} {body u1 u2 : List Stmt} {b1 b2 : Stmt} {np1 np2 pos p1 p2 : Pos} {tb : WX → TS} {t1 t2 : Addr → Value → Option Addr → TS} {Wout : WX}
end
section
variable {ι : Type} {Φ : Fam ι} {W : WX} {m m1 m2 m3 : Nat}
end
end B2

namespace B2
open PySem PySem.Spec L2 PySem.Calls PyProof.Rows
section
variable {prog : Program} {w : World} {z TI TO i1 i2 : Addr} {fp1 fp2 : List Addr} {n1 n2 : Nat} {P1 P2 : Nat → Value → Prop} {St1 St2 : Nat → Heap → Prop}
end
section
variable {X : Cx} {pins : List (Addr × Obj)} {σ : L2.St}
end
section
variable {X : Cx}
end
end B2

namespace B2
open PySem PySem.Spec L2 PySem.Calls PyProof.Rows
def valP (kvs : List (Key × PyData)) (k : Key) : Option PyData := (kvs.find? fun kv => decide (kv.1 = k)).map (·.2)
def putP (kvs : List (Key × PyData)) (k : Key) (v : PyData) : List (Key × PyData) :=
  if (kvs.any fun kv => decide (kv.1 = k)) = true then kvs.map (fun kv => if kv.1 = k then (kv.1, v) else kv) else kvs ++ [(k, v)]
section
variable {K : PySem.W.Frag} {H H' : Hp}
inductive DK (K : PySem.W.Frag) (H : Hp) : List (Key × V) → List (Key × PyData) → Prop
  | nil : DK K H [] []
  | cons {k : Key} {v : V} {d : PyData} {ks : List (Key × V)} {ds : List (Key × PyData)} : Dq K H v d → DK K H ks ds → DK K H ((k, v) :: ks) ((k, d) :: ds)
theorem DK.mono (e : Same H H') : ∀ {ks : List (Key × V)} {ds : List (Key × PyData)}, DK K H ks ds → DK K H' ks ds
  | _, _, .nil => .nil
  | _, _, .cons a b => .cons (Dq.mono e a) (DK.mono e b)
theorem DK.length : ∀ {ks : List (Key × V)} {ds : List (Key × PyData)}, DK K H ks ds → ks.length = ds.length
  | _, _, .nil => rfl
  | _, _, .cons _ b => by simp [DK.length b]
theorem DK.app : ∀ {ks ls : List (Key × V)} {ds es : List (Key × PyData)}, DK K H ks ds → DK K H ls es → DK K H (ks ++ ls) (ds ++ es)
  | _, _, _, _, .nil, q => q
  | _, _, _, _, .cons a b, q => .cons a (DK.app b q)
theorem DK.any {k : Key} : ∀ {ks : List (Key × V)} {ds : List (Key × PyData)}, DK K H ks ds → (ks.any fun kv => decide (kv.1 = k)) = ds.any fun kv => decide (kv.1 = k)
  | _, _, .nil => rfl
  | _, _, .cons a b => by rw [List.any_cons, List.any_cons, DK.any b]
theorem DK.repl {k : Key} {v : V} {d : PyData} (h : Dq K H v d) : ∀ {ks : List (Key × V)} {ds : List (Key × PyData)}, DK K H ks ds → DK K H (ks.map fun kv => if kv.1 = k then (kv.1, v) else kv) (ds.map fun kv => if kv.1 = k then (kv.1, d) else kv)
  | _, _, .nil => .nil
  | _, _, @DK.cons _ _ k' v' d' ks ds a b => by
    rw [List.map_cons, List.map_cons]
    by_cases e : k' = k
    · rw [if_pos e, if_pos e]; exact .cons h (DK.repl h b)
    · rw [if_neg e, if_neg e]; exact .cons a (DK.repl h b)
theorem DK.put {ks : List (Key × V)} {ds : List (Key × PyData)} (q : DK K H ks ds) (k : Key) {v : V} {d : PyData} (h : Dq K H v d) : DK K H (putK ks k v) (putP ds k d) := by
  unfold putK putP
  rw [q.any]
  split
  · exact q.repl h
  · exact q.app (.cons h .nil)
theorem DK.val {k : Key} {d : PyData} : ∀ {ks : List (Key × V)} {ds : List (Key × PyData)}, DK K H ks ds → valP ds k = some d → ∃ v, valV ks k = some v ∧ Dq K H v d
  | _, _, .nil, h => by cases h
  | _, _, @DK.cons _ _ k' v' d' ks ds a b, h => by
    unfold valP at h
    rw [List.find?_cons] at h
    by_cases e : k' = k
    · rw [show decide ((k', d').1 = k) = true from decide_eq_true e] at h
      cases h
      exact ⟨v', valV_pos e, a⟩
    · rw [show decide ((k', d').1 = k) = false from decide_eq_false e] at h
      obtain ⟨v, h1, h2⟩ := DK.val b h
      exact ⟨v, by rw [valV_neg e]; exact h1, h2⟩
end
section
variable {ι : Type} {Φ : Fam ι} {W : WX} {m m1 m2 m3 : Nat}
end
end B2

namespace B2
open PySem PySem.Spec L2 PySem.Calls PyProof.Rows
section
variable {K : PySem.W.Frag} {B : Base} {H0 H0' H H' : Hp} {g : Option Gs} {σ σ' : L2.St} {ρ ρ' : Env} {n m : Nat} {v : V} {x : X2}
end
section
variable {X : Cx} {pins : List (Addr × Obj)} {σ : L2.St} {H : Hp} {s : Shared} {a b : Addr} {kvs more : List (Key × V)} {A : Around} {E : Value → Shared → Prop}
end
section
variable {ι : Type} {Φ : Fam ι} {W : WX} {m m1 m2 m3 : Nat}
end
end B2

namespace B2
open PySem PySem.Spec L2 PySem.Calls PyProof.Rows
section
variable {K : PySem.W.Frag} {B : Base} {H0 H0' H H' Hr : Hp} {g : Option Gs} {σ σ' : L2.St} {ρ ρ' : Env} {n n' m : Nat} {v : V} {x : X2} {as : List Addr} {dss : List (List PyData)}
def RelO (K : PySem.W.Frag) (B : Base) (H0 H : Hp) (g : Option Gs) (σ : L2.St) (ρ : Env) (v : V) (as : List Addr) (dss : List (List PyData)) : Prop :=
  ∃ p, v = .ref p ∧ ObAt K B H0 H g p (.rows as dss) ∧ ∀ i x q a, ρ i = some x → σ[i]? = some (some (.ref q)) → Foot (.ob (.rows as dss)) p a → ¬ Foot x q a
theorem Left.priv (l : Left H0 Hr H H' g n) {a : Addr} (h : Priv B H0 g a) (h2 : H a ≠ none) : Priv B Hr g a := by
  refine ⟨?_, h.he, h.ng⟩
  cases z : Hr a with
  | none => rfl
  | some o =>
    rcases l.new a o z with k | k
    · rw [h.h0] at k; cases k
    · exact (h2 k).elim
theorem RelO.left (h : RelO K B H0 H g σ ρ v as dss) (l : Left H0 Hr H H' g n) : RelO K B Hr H' g σ ρ v as dss := by
  obtain ⟨p, e, h1, h2⟩ := h
  refine ⟨p, e, h1.keep l.b fun a f => ?_, h2⟩
  obtain ⟨k1, k2⟩ := h1.foot f
  exact ⟨fun u z => l.keep a u z k1.ng, fun _ => l.priv k1 k2⟩
theorem RelO.mono (h : RelO K B H0 H g σ ρ v as dss) (e : Same H0 Hr) (s : Same H H') (f : ∀ p, Hr p ≠ none → H0 p ≠ none ∨ H p = none) : RelO K B Hr H' g σ ρ v as dss := by
  obtain ⟨p, ev, h1, h2⟩ := h
  refine ⟨p, ev, h1.keep e fun a fa => ?_, h2⟩
  obtain ⟨k1, k2⟩ := h1.foot fa
  refine ⟨fun u z => s a u z, fun w => ⟨?_, w.he, w.ng⟩⟩
  cases z : Hr a with
  | none => rfl
  | some o =>
    rcases f a (by rw [z]; simp) with q | q
    · exact (q w.h0).elim
    · exact (k2 q).elim
theorem RS.mutP (r : RS K B H0 g σ ρ n H) {p : Addr} (h : Priv B H0 g p) (hx : ∀ i x q, ρ i = some x → σ[i]? = some (some (.ref q)) → ¬ Foot x q p) (o : HO) : RS K B H0 g σ ρ n (upd H p o) := by
  refine ⟨r.hb, r.new, fun b u e => ?_, fun b u e z => ?_, fun g' e => (r.drw g' e).keep fun b u hb z => ?_, r.drf, r.gg, fun j x q' => ?_, r.dist⟩
  · rw [upd_ne (fun z : b = p => by rw [z, h.h0] at e; cases e)]; exact r.ext b u e
  · rw [upd_ne (fun z' : b = p => by rw [z', h.he] at e; cases e)]; exact r.keep b u e z
  · rw [upd_ne (fun z' : b = p => h.ng (by rw [← z', e]; exact hb))]; exact z
  · obtain ⟨v, k1, k2⟩ := r.sl j x q'
    refine ⟨v, k1, k2.keep (Same.refl _) fun q2 a e fa => ⟨fun u z => ?_, id⟩⟩
    have hne : a ≠ p := fun z => hx j x q2 q' (by rw [k1, e]) (by rw [← z]; exact fa)
    rw [upd_ne hne]; exact z
theorem RelO.push (r : RS K B H0 g σ ρ n H) {p a : Addr} (h : RelO K B H0 H g σ ρ (.ref p) as dss) {ds : List PyData} (ha : OwnAt K B H0 H g a ds) (hna : a ∉ p :: as) (hx : ∀ i x q, ρ i = some x → σ[i]? = some (some (.ref q)) → ¬ Foot x q a) :
    RS K B H0 g σ ρ n (upd H p (.lst (as.map .ref ++ [.ref a]))) ∧ RelO K B H0 (upd H p (.lst (as.map .ref ++ [.ref a]))) g σ ρ (.ref p) (as ++ [a]) (dss ++ [ds]) := by
  obtain ⟨p', e, h1, h2⟩ := h
  cases e
  obtain ⟨k1, k2, k3, k4, k5, k6⟩ := h1
  obtain ⟨vs, a1, a2, a3, a4, a5⟩ := ha
  have nap : a ≠ p := fun z => hna (by rw [z]; exact .head _)
  have naa : a ∉ as := fun z => hna (.tail _ z)
  have ndp : p ∉ as := (List.nodup_cons.mp k4).1
  refine ⟨r.mutP k1 (fun i x q e1 e2 f => h2 i x q p e1 e2 (.inl rfl) f) _, p, rfl, ⟨k1, fun b hb => ?_, ?_, ?_, ?_, fun i b es e1 e2 => ?_⟩, fun i x q b e1 e2 f => ?_⟩
  · rcases List.mem_append.mp hb with z | z
    · exact k2 b z
    · rw [List.mem_singleton.mp z]; exact ⟨a3, a4, a5⟩
  · rw [upd_same, List.map_append]; rfl
  · rw [List.nodup_cons]
    refine ⟨fun z => ?_, ?_⟩
    · rcases List.mem_append.mp z with z | z
      · exact ndp z
      · exact nap (List.mem_singleton.mp z).symm
    · rw [List.nodup_append]
      exact ⟨(List.nodup_cons.mp k4).2, List.nodup_cons.mpr ⟨List.not_mem_nil, List.nodup_nil⟩, fun x hx y hy e => naa (by rw [← List.mem_singleton.mp hy, ← e]; exact hx)⟩
  · rw [List.length_append, List.length_append, k5]; rfl
  · by_cases hi : i < as.length
    · rw [List.getElem?_append_left hi] at e1
      rw [List.getElem?_append_left (by omega)] at e2
      obtain ⟨ws, q1, q2⟩ := k6 i b es e1 e2
      have : b ≠ p := fun z => ndp (by rw [← z]; exact List.mem_of_getElem? e1)
      exact ⟨ws, by rw [upd_ne this]; exact q1, q2⟩
    · have hi2 : i = as.length := by
        have := (List.getElem?_eq_some_iff.mp e1).1
        rw [List.length_append, List.length_singleton] at this
        omega
      subst hi2
      rw [List.getElem?_append_right (Nat.le_refl _), Nat.sub_self] at e1
      rw [k5, List.getElem?_append_right (Nat.le_refl _), Nat.sub_self] at e2
      cases e1; cases e2
      exact ⟨vs, by rw [upd_ne nap]; exact a1, a2⟩
  · rcases f with f | f
    · exact h2 i x q b e1 e2 (.inl f)
    · rcases List.mem_append.mp f with z | z
      · exact h2 i x q b e1 e2 (.inr z)
      · rw [List.mem_singleton.mp z]; exact hx i x q e1 e2
end
section
variable {ι : Type} {Φ : Fam ι} {W : WX} {m m1 m2 m3 : Nat}
end
section
variable {ι : Type} {Φ : Fam ι} {W : WX} {m m1 m2 m3 : Nat}
end
end B2

namespace B2
open PySem L2
structure AtA (K : PySem.W.Frag) (mg : MG) (x y : Str) (st : Stmt) (ps : List Str) : Prop where
  ex : ∃ (f : Addr) (fd : FuncData), Fun K y y st f fd ∧ mg x = some (.ref f) ∧ Binds K fd ps []
end B2
namespace B2
open PySem PySem.Spec L2 PySem.Calls PyProof.Rows
def lookS (kvs : List (Str × Int)) (s : Str) : Option Int := (kvs.find? fun kv => kv.1 = s).map (·.2)
structure DicC (P : Program) (w : World) (K : PySem.W.Frag) (mg : MG) (x : Str) (kvs : List (Str × Int)) : Prop where
  ex : ∃ (a : Addr) (o : Obj) (vs : List (Str × Value)), mg x = some (.ref a) ∧ (a == sysModules) = false ∧ K.lookup a = some o ∧ (∀ h : Heap, h.get? a = some o → h.DictOf (PySem.strKind P w) a vs) ∧ ∀ (s : Str) (j : Int) (u : Value), RelV (.int j) u → RelV (.int ((lookS kvs s).getD j)) ((valueAt vs s).getD u)
section
variable {ι : Type} {Φ : Fam ι} {W : WX} {m m1 m2 m3 : Nat} {kvs : List (Str × Int)}
end
end B2

namespace B2
open PySem PySem.Spec L2 PySem.Calls PyProof.Rows
abbrev SpecB := List X2 → List PyData → (PyData → List PyData → Prop) → Prop
section
variable {K : PySem.W.Frag} {B : Base} {H0 H0' H H' : Hp} {g : Option Gs} {σ σ' : L2.St} {ρ ρ' : Env} {n m : Nat} {v : V} {x : X2}
theorem RelA.s {Hb : Hp} (h : RelA K Hb g v x) : RelS K B Hb H g v x := by
  cases x with
  | own _ => exact h.elim
  | d _ => exact h
  | slot _ => exact h.elim
  | drw => exact h
  | scr _ => exact h
  | ob _ => exact h.elim
theorem RelA.foot {Hb : Hp} (h : RelA K Hb g v x) {p a : Addr} (f : Foot x p a) : False := by
  cases x with
  | own _ => exact h.elim
  | ob _ => exact h.elim
  | d _ => exact f.elim
  | slot _ => exact f.elim
  | drw => exact f.elim
  | scr _ => exact f.elim
end
section
variable {ι : Type} {Φ : Fam ι} {W : WX} {m m1 m2 m3 : Nat}
end
def liftB (K : PySem.W.Frag) (m : Nat) (s : SpecB) : Sp := fun vs H Q E => ∃ (v0 : V) (p : Addr) (v2 : V) (Hb : Hp) (g : Option Gs) (n : Nat) (x0 x2 : X2) (ds : List PyData) (us : List V) (k : PyData → List PyData → Prop),
  vs = [v0, .ref p, v2] ∧ n + m ≤ LIM ∧ Same Hb H ∧ (∀ p, InG g p → Hb p = none) ∧ (∀ g', g = some g' → DrawOk H g' n) ∧ RelA K Hb g v0 x0 ∧ RelA K Hb g v2 x2 ∧ H p = some (.lst us) ∧ DqA K Hb us ds ∧ Hb p = none ∧ ¬ InG g p ∧ s [x0, x2] ds k ∧
  ∀ Hr H' v d ds' us', Left Hb Hr H (upd H' p (.lst us)) g (n + m) → H' p = some (.lst us') → DqA K Hr us' ds' → Hr p = none → Dq K Hr v d → k d ds' → Q v H'
section
variable {P : Program} {w : World} {K : PySem.W.Frag} {mg : MG} {base : Heap} {m : Nat}
end
structure Def2B (P : Program) (w : World) (K : PySem.W.Frag) (mg : MG) (base : Heap) (x : Str) (j : Nat) (ps : List Str) (mf : Nat) (s : SpecB) : Prop where
  ex : ∃ (f : Addr) (fd : FuncData), FnG P w K mg base CX0 j f fd ps (liftB K mf s) ∧ mg x = some (.ref f) ∧ PySem.W.keepIn K (.ref f) = true ∧ Binds K fd ps []
section
variable {ι : Type} {Φ : Fam ι} {W : WX} {m m1 m2 m3 : Nat}
end
end B2

namespace B2
open PySem PySem.Spec L2 RZ PyProof.Rows
section
variable {M : Model} {A : Around} {E : Value → Shared → Prop} {s : Shared} {Z : Obj → Prop} {base : Heap} {env : PySem.Env} {outer : List PySem.Env} {L e : Addr}
end
abbrev bxe (X : Cx) (cenv : PySem.Env) : Value → Shared → Prop := notedBy (model X.prog X.w) X.A cenv (CompFails (model X.prog X.w) X.A X.xe cenv)
abbrev blkX (X : Cx) (s : Shared) (H : Hp) (scope : Scope) (C : Addr) (cl : List (Str × Addr)) (fp : List Addr) : Cx := (X.blk s H scope (compEnvC scope cl C X.env) fp).wish (bxe X (compEnvC scope cl C X.env))
section
variable {X : Cx} {W : WX}
end
structure BxIx {ι : Type} (Φ : Fam ι) (scope : Scope) (W : WX) where
  i : ι
  s : Shared
  H : Hp
  C : Addr
  cl : List (Str × Addr)
  fp : List Addr
  tk : L2N.Takes (blkX (Φ.X i) s H scope C cl fp) W
section
variable {X : Cx} {W : WX}
end
section
variable {ι : Type} {Φ : Fam ι} {W : WX} {m m1 m2 m3 : Nat}
end
end B2

namespace B2
open PySem PySem.Spec L2 PySem.Calls PyProof.Rows
theorem at_mk2 {K : PySem.W.Frag} {mg : MG} (x : Str) (st : Stmt) (ps : List Str) (hb : ∀ (kV doc pm : Value) (an : Option Addr) (cdv ct : Value) (us : List Value), us.length = ps.length → bindArgs (PySem.W.fnOf x x (defArgs st) (defBody st) (defScope st) .none kV doc pm an cdv ct) ⟨us, []⟩ = pure (ps.zip us))
    {h : Heap} {f : Addr} {od an : Option Addr} {sl : Array (Option Value)} {oc kV dc pm cd ct : Value} (X : K.In h) (G : h.Ns mainGlobals mg)
    (a : PySem.W.nsIn K mainGlobals x = some (some (.ref f))) (l : K.lookup f = some ⟨oc, od, .func (PySem.W.fnOf x x (defArgs st) (defBody st) (defScope st) .none kV dc pm an cd ct), sl⟩) (c : PySem.W.codeIn K cd x = true) (k : PySem.W.keepIn K (.ref f) = true) : At K mg x st ps := at_mk X G hb a l c k
theorem strs_of : ∀ {ys : List Str} {us : List Value}, Vals (ys.map V.str) us → StrsAre us ys
  | [], _, .nil => .nil
  | y :: ys, _, .cons ⟨t, e⟩ q => by
    subst e
    exact .cons y t (strs_of q)
section
variable {X : Cx} {o e : Expr} {es : List Expr} {to : TE} {t : TA} {name : Str} {apos cpos : Pos} {id : String} {r : V → List V → Hp → VK → Prop}
end
section
variable {ι : Type} {Φ : Fam ι} {W : WX} {m m1 m2 m3 : Nat}
end
end B2

namespace B2
open PySem PySem.Spec L2 PySem.Calls PyProof.Rows
section
variable {prog : Program} {w : World} {A : Around} {E : Value → Shared → Prop} {s : Shared}
end
section
variable {X : Cx} {e : Expr} {te : TE}
end
section
variable {ι : Type} {Φ : Fam ι} {W : WX} {m : Nat}
end
section
variable {ι : Type} {Φ : Fam ι} {W : WX} {m : Nat}
end
end B2

namespace B2
open PySem PySem.Spec L2
variable {ι : Type} {Φ : Fam ι} {W : WX} {m m1 m2 : Nat}
def startD (s : Str) (d : PyData) (k : X2 → Prop) : Prop := match d with
  | .str t => k (.d (.bool (Txt.startswith s t)))
  | _ => False
def splitD (s : Str) (d : PyData) (k : X2 → Prop) : Prop := match d with
  | .str t => ((t.length == 0) = false ∧ s.length + 2 ≤ 16777216) ∧ k (.own ((Txt.split s t).map PyData.str))
  | _ => False
def partD (s : Str) (d : PyData) (k : X2 → Prop) : Prop := match d with
  | .str t => ((t.length == 0) = false ∧ s.length ≤ 16777216) ∧ k (.d (.tuple [.str (Txt.partition s t).1, .str (Txt.partition s t).2.1, .str (Txt.partition s t).2.2]))
  | _ => False
def zfillD (s : Str) (d : PyData) (k : X2 → Prop) : Prop := match d with
  | .int i => PadOk i = true ∧ k (.d (.str (Txt.zfill s i)))
  | _ => False
section
variable {o a : Expr} {apos pos : Pos} {wo wa : W2}
theorem je_startswith (ho : JE Φ W m1 o wo) (ha : JE Φ W m2 a wa)
    (hs : ∀ i, starEach [a] (Φ.X i).env = [(false, eval a (Φ.X i).env)] := by intro _; rfl) (hbase : ∀ i, attributeBase o "startswith" (Φ.X i).env (eval o (Φ.X i).env) = eval o (Φ.X i).env := by intro _; rfl) (hline : (apos.endLine == pos.line) = true := by rfl) :
    JE Φ W (m1 + m2) (.Call (.Attribute o "startswith" apos) [a] [] pos) (wM1 startD wo wa) :=
  je_m1 PySem.F.slot_str_startswith PySem.F.type_str_startswith (fun i => mt_startswith) (fun B H0 g σ ρ n H s v x d k Q r h e hf q => by
    unfold startD at hf
    split at hf
    · rw [r.str h e]; exact ⟨s, _, rfl, rfl, r.flat (fun _ => .bl _) q hf⟩
    · exact hf.elim) ho ha hs hbase hline
theorem je_split (ho : JE Φ W m1 o wo) (ha : JE Φ W m2 a wa)
    (hs : ∀ i, starEach [a] (Φ.X i).env = [(false, eval a (Φ.X i).env)] := by intro _; rfl) (hbase : ∀ i, attributeBase o "split" (Φ.X i).env (eval o (Φ.X i).env) = eval o (Φ.X i).env := by intro _; rfl) (hline : (apos.endLine == pos.line) = true := by rfl) :
    JE Φ W (m1 + m2) (.Call (.Attribute o "split" apos) [a] [] pos) (wM1 splitD wo wa) :=
  je_m1 PySem.F.slot_str_split PySem.F.type_str_split (fun i => mt_split) (fun B H0 g σ ρ n H s v x d k Q r h e hf q => by
    unfold splitD at hf
    split at hf
    · rw [r.str h e]
      exact ⟨s, _, rfl, rfl, hf.1.1, by rw [sizeLine_eq]; exact hf.1.2, fun p hp => r.newL (DqA.of_strs _) hp q hf.2⟩
    · exact hf.elim) ho ha hs hbase hline
theorem je_partition (ho : JE Φ W m1 o wo) (ha : JE Φ W m2 a wa)
    (hs : ∀ i, starEach [a] (Φ.X i).env = [(false, eval a (Φ.X i).env)] := by intro _; rfl) (hbase : ∀ i, attributeBase o "partition" (Φ.X i).env (eval o (Φ.X i).env) = eval o (Φ.X i).env := by intro _; rfl) (hline : (apos.endLine == pos.line) = true := by rfl) :
    JE Φ W (m1 + m2) (.Call (.Attribute o "partition" apos) [a] [] pos) (wM1 partD wo wa) :=
  je_m1 PySem.F.slot_str_partition PySem.F.type_str_partition (fun i => mt_partition) (fun B H0 g σ ρ n H s v x d k Q r h e hf q => by
    unfold partD at hf
    split at hf
    · rw [r.str h e]
      exact ⟨s, _, rfl, rfl, hf.1.1, by rw [sizeLine_eq]; exact hf.1.2, fun p hp => r.newT (.cons (.str _) (.cons (.str _) (.cons (.str _) .nil))) hp q hf.2⟩
    · exact hf.elim) ho ha hs hbase hline
theorem je_zfill (ho : JE Φ W m1 o wo) (ha : JE Φ W m2 a wa)
    (hs : ∀ i, starEach [a] (Φ.X i).env = [(false, eval a (Φ.X i).env)] := by intro _; rfl) (hbase : ∀ i, attributeBase o "zfill" (Φ.X i).env (eval o (Φ.X i).env) = eval o (Φ.X i).env := by intro _; rfl) (hline : (apos.endLine == pos.line) = true := by rfl) :
    JE Φ W (m1 + m2) (.Call (.Attribute o "zfill" apos) [a] [] pos) (wM1 zfillD wo wa) :=
  je_m1 PySem.F.slot_str_zfill PySem.F.type_str_zfill (fun i => mt_zfill) (fun B H0 g σ ρ n H s v x d k Q r h e hf q => by
    unfold zfillD at hf
    split at hf
    · rw [r.int h e]; exact ⟨s, _, rfl, rfl, hf.1, r.flat (fun _ => .str _) q hf.2⟩
    · exact hf.elim) ho ha hs hbase hline
end
end B2

namespace B2
open PySem PySem.Spec L2 PySem.Calls PyProof.Rows
section
variable {K : PySem.W.Frag} {B : Base} {H0 H H' : Hp} {g : Option Gs} {σ : L2.St} {ρ : Env} {n : Nat}
end
section
variable {ι : Type} {Φ : Fam ι} {W : WX} {m m1 m2 : Nat}
end
end B2

namespace B2
open PySem PySem.Spec L2 L2N RZ PyProof.Rows
section
variable {X : Cx} {x1 n : Str} {c1 : Value} {i : Nat} {body u1 orelse : List Stmt} {b1 : Stmt} {np1 pos p1 : Pos} {tb : WX → TS} {te : TS} {t1 : Addr → Value → Option Addr → TS} {Wout : WX}
theorem ps_try_else (hs : X.stack = X.env :: X.outer) (hf : X.env.frame = some X.env.locals) (hN : X.N.Nodup) (hi : X.N[i]? = some n) (hln : X.env.kindOf n = some .local) (k1 : Names X x1 c1) (tk : L2N.Takes X Wout)
    (hb : ∀ (W : WX) (pn : List (Addr × Obj)) (xe : Value → Shared → Prop), L2N.Takes (X.tr pn xe) W → PassesOwn (model X.prog X.w) X.A X.env xe → PSs (X.tr pn xe) body (tb W))
    (hs1 : ∀ (a : Addr) (oe : Obj) (cls : Value) (d : Option Addr) (pn : List (Addr × Obj)), Zn cls d oe → (∃ vs, oe.data = .fields vs) → PSs (X.suite a ((a, oe) :: pn)) (b1 :: u1) (t1 a cls d))
    (ho : PSs X orelse te) :
    PS X (.Try body [.ExceptHandler (some (.Name x1 np1)) (some n) (b1 :: u1) p1] orelse [] pos) (fun D σ H => tb (wAs X.K c1 i t1 Wout D) { D with nx := te D } σ H) := by
  refine ⟨fun pins s σ H D I hw => ?_⟩
  have ok := I.ok
  have frm : X.A.frames = some (X.env :: X.outer) := by rw [ok.frames, hs]
  have hloc : Loc X.env.scope n := .inl hln
  refine wpAny_Try_except ?_
  refine wpAny_mono ((hb (wAs X.K c1 i t1 Wout D) (X.pn ++ pins) (fun e sa => wpAny (model X.prog X.w) X.A (noteFrame e X.env) (fun _ sb => wpAny (model X.prog X.w) X.A (setFlight e none) (fun _ sc =>
    wpAny (model X.prog X.w) X.A (handleBy e X.env [.ExceptHandler (some (.Name x1 np1)) (some n) (b1 :: u1) p1]) (SP X pins D) X.xe sc) X.xe sb) X.xe sa) (fun u s' xx => ?_) PassesOwn.looking).run [] s σ H { D with nx := te D } (I.toTry _) hw) (fun f s1 hsp => ?_) (fun e s1 he => he)
  · obtain ⟨a, B, sI, _, σ', H', cls, d, rfl, J', nb, up, sky, na, os, ag, w⟩ := xx
    have J : Inv X pins σ' H' sI := J'.ofTry ok
    rw [hs] at sky
    show wpAny (model X.prog X.w) X.A (noteFrame (.ref a) X.env) _ _ _
    refine L2N.Sky.land Zn.steady frm hf sky fun h3 fl3 up3 => ?_
    have J3 : Inv X pins σ' H' { s' with heap := h3 } := J.landed nb fl3.1 (up.trans up3) os ag
    obtain ⟨oe3, vs3, he3, hz3, hd3⟩ := fl3.there
    have out : a ∉ frs (X.env :: X.outer) := fun hm => by
      obtain ⟨_, o', e', hnf⟩ := fl3.2.2.1.mem hm
      rw [he3] at e'; cases e'
      exact hnf _ hd3
    have nL : a ≠ X.env.locals := fun z => out (List.mem_filterMap.mpr ⟨X.env, List.mem_cons_self, by rw [hf, z]⟩)
    have nF : a ∉ X.fs := fun hm => let ⟨e, he, q⟩ := List.mem_filterMap.mp hm; out (List.mem_filterMap.mpr ⟨e, List.mem_cons_of_mem _ he, q⟩)
    have S3 := J3.suite he3 hd3 na nL nF
    have LT : PySem.W.Looks (model X.prog X.w) h3 (typeOf (.ref a)) cls := fun A Q E s k q => wpAny_typeOf_ref (k _ _ he3) (by rw [hz3.1]; exact q)
    have one : ∀ {x : Str} {c : Value} {np p : Pos} {b₀ : Stmt} {us : List Stmt} {hds : List ExceptHandler} {t : Addr → Value → Option Addr → TS} {Wr : WX}, Names X x c →
        (∀ (a : Addr) (oe : Obj) (cls : Value) (d : Option Addr) (pn : List (Addr × Obj)), Zn cls d oe → (∃ vs, oe.data = .fields vs) → PSs (X.suite a ((a, oe) :: pn)) (b₀ :: us) (t a cls d)) → wAs X.K c i t Wr D cls d σ' H' →
        (Wr cls d σ' H' → wpAny (model X.prog X.w) X.A (handleBy (.ref a) X.env hds) (SP X pins D) X.xe { s' with heap := h3 }) →
        wpAny (model X.prog X.w) X.A (handleBy (.ref a) X.env (.ExceptHandler (some (.Name x np)) (some n) (b₀ :: us) p :: hds)) (SP X pins D) X.xe { s' with heap := h3 } := by
      intro x c np p b₀ us hds t Wr hc hsu ⟨b, e1, yes, no⟩ rest
      refine wpAny_handleBy_cons (codeAny_handlers_test ?_) (by intro q; cases q)
      have LM := PySem.W.exm_one (M := model X.prog X.w) (J3.kIn) LT e1
      have test : ∀ {Q : Value → Shared → Prop} {E : Value → Shared → Prop}, Q c { s' with heap := h3 } → wpAny (model X.prog X.w) (X.A.mark (some (.ref a))) (eval (.Name x np) X.env) Q E { s' with heap := h3 } := fun {Q E} q => by
        obtain ⟨hg, hdbg, hm | ⟨hm, hv, hnn⟩⟩ := hc
        · exact ld_glob (X := X.suite a ((a, oe3) :: (X.pn ++ pins))) S3 hg hm q hdbg
        · exact ld_blt (X := X.suite a ((a, oe3) :: (X.pn ++ pins))) S3 hg hm hv q hnn hdbg
      refine test (LM.here ?_)
      cases b with
      | true =>
        refine codeAny_handlers_suite_as ?_
        refine HandSPX.lands_againZ fl3 fun h4 fl4 up4 => ?_
        have J4 : Inv X pins σ' H' { s' with heap := h4 } := J.landed nb fl4.1 ((up.trans up3).trans up4) os ag
        obtain ⟨oe4, vs4, he4, hz4, hd4⟩ := fl4.there
        have S4 := J4.suite he4 hd4 na nL nF
        refine store_ok (X := X.suite a ((a, oe4) :: (X.pn ++ pins))) (v := .ref a) S4 hN hi hloc rfl (fun s5 S5 => ?_) (.inr hln)
        refine wpAny_mono ((hsu a oe4 cls d (X.pn ++ pins) hz4 ⟨_, hd4⟩).run [] s5 _ H' _ S5 (yes rfl a na)) (fun f s6 hsp => ?_) (fun _ _ z => False.elim z)
        have fin : ∀ {σ6 : L2.St} {H6 : Hp} {Q : Shared → Prop}, Inv (X.suite a ((a, oe4) :: (X.pn ++ pins))) [] σ6 H6 s6 → (∀ s7, Inv X pins (σ6.set i none) H6 s7 → Q s7) →
            wpAny (model X.prog X.w) X.A (do bindName X.env n .none; unbindBehindTheSuite X.env n p) (fun _ s7 => Q s7) X.xe s6 := fun {σ6 H6 Q} S6 hq => gone_ok (S6.unsuite ok) hN hi hln hq
        cases f with
        | ret u => obtain ⟨v6, σ6, H6, S6, r6, q6⟩ := hsp; exact fin S6 fun s7 J7 => ⟨_, _, _, J7, r6, q6⟩
        | next => obtain ⟨σ6, H6, S6, q6⟩ := hsp; exact fin S6 fun s7 J7 => ⟨_, _, J7, q6⟩
        | brk => obtain ⟨σ6, H6, S6, q6⟩ := hsp; exact fin S6 fun s7 J7 => ⟨_, _, J7, q6⟩
        | cont => obtain ⟨σ6, H6, S6, q6⟩ := hsp; exact fin S6 fun s7 J7 => ⟨_, _, J7, q6⟩
      | false =>
        show wpAny _ X.A (handleBy (.ref a) X.env hds) _ _ _
        exact rest (no rfl)
    refine one k1 hs1 w fun w => ?_
    refine wpAny_handleBy_nil ?_
    obtain ⟨_, _, _, oe, vs, T, oT, _, he, hz, hd, h1, hr⟩ := id fl3
    unfold PySem.passOn
    refine wpAny_bind (wpAny_field he hd h1 ?_)
    rw [if_neg (show ¬ ((Value.ref T == Value.none) = true) from by simp)]
    have fly : wpAny (model X.prog X.w) X.A (setFlight (.ref a) X.env.frame) (fun _ s4 => wpAny (model X.prog X.w) X.A (throw (.ref a) : Sem Flow) (SP X pins D) X.xe s4) X.xe { s' with heap := h3 } := by
      rw [hf]
      exact HandSPX.setFlight_upZ fl3 fun h4 hh4 up4 => wpAny_throw (tk _ _ ⟨a, B, sI, pins, σ', H', cls, d, rfl, J, nb, (up.trans up3).trans up4, .inr (.inr (by rw [hs]; exact hh4)), na, os, ag, w⟩)
    first
      | exact wpAny_bind (wpAny_pure (wpAny_bind fly))
      | exact wpAny_bind fly
  · cases f with
    | ret u => obtain ⟨v, σ', H', J', r, q⟩ := hsp; exact ⟨v, σ', H', J'.ofTry ok, r, q⟩
    | next => obtain ⟨σ', H', J', q⟩ := hsp; exact ho.run pins s1 σ' H' D (J'.ofTry ok) q
    | brk => obtain ⟨σ', H', J', q⟩ := hsp; exact ⟨σ', H', J'.ofTry ok, q⟩
    | cont => obtain ⟨σ', H', J', q⟩ := hsp; exact ⟨σ', H', J'.ofTry ok, q⟩
end
def wTryElse (i : Nat) (errs : List Str) (f : Str → Bool) (wb : WS) (ws : Addr → Str → WS) (we : WS) : WS := fun D ρ => wb { D with nx := we D, ex := fun nm ρ' => nm ∈ errs ∧ if f nm = true then ∀ a, ws a nm (goneW i D) (upE ρ' i (some (.scr a))) else D.ex nm ρ' } ρ
section
variable {ι : Type} {Φ : Fam ι} {W : WX} {m m1 m2 m3 : Nat}
theorem js_try_else (i : Nat) {x nme : Str} {errs : List Str} {f : Str → Bool} {body suite orelse : List Stmt} {b₀ : Stmt} {np pos pos' : Pos} {wb : WS} {ws : Addr → Str → WS} {we : WS} (c : ErrM Φ.K Φ.mg x errs f) (tk : Tk Φ W) (hb : ∀ W', JSs (Φ.tr W') W' m1 body wb) (hsu : ∀ nm a cls d, nm ∈ errs → Exn Φ.mg nm cls d → JSs (Φ.su a cls d) W0 m2 (b₀ :: suite) (ws a nm)) (ho : JSs Φ W m3 orelse we)
    (hi : Φ.N[i]? = some nme := by rfl) (hk : ∀ j, (Φ.X j).env.kindOf nme = some .local := by intro _; rfl)
    (hs : ∀ i, (Φ.X i).stack = (Φ.X i).env :: (Φ.X i).outer := by intro _; rfl) (hf : ∀ i, (Φ.X i).env.frame = some (Φ.X i).env.locals := by intro _; rfl) (hg : ∀ i, Gl (Φ.X i) x := by intro _; rfl) (hdb : (x == ("__debug__" : Str)) = false := by decide) :
    JS Φ W (m1 + m2 + m3) (.Try body [.ExceptHandler (some (.Name x np)) (some nme) (b₀ :: suite) pos'] orelse [] pos) (wTryElse i errs f wb ws we) := by
  obtain ⟨cv, hc, hm⟩ := c.ex
  obtain ⟨te, o1, o2⟩ := ho
  let ts : Addr → Value → Option Addr → TS := fun a cls d => tSu errs f Φ.mg cls d fun nm h1 _ h3 => ssLen Φ.N.length (Classical.choose (hsu nm a cls d h1 h3))
  let tb : WX → TS := fun W' => Classical.choose (hb W')
  refine ⟨fun D σ H => tb (wAs Φ.K cv i ts W D) { D with nx := te D } σ H, fun j => ?_, ?_⟩
  · have := ps_try_else (X := Φ.X j) (x1 := x) (n := nme) (i := i) (c1 := cv) (body := body) (u1 := suite) (b1 := b₀) (np1 := np) (pos := pos) (p1 := pos') (orelse := orelse) (tb := tb) (t1 := ts) (te := te) (Wout := W) (hs j) (hf j) (by rw [Φ.hN j]; exact Φ.nd) (by rw [Φ.hN j]; exact hi) (hk j) ⟨hg j, hdb, by rw [Φ.hmg j]; exact hc⟩ (tk j)
      (fun W' pn xe tk' ps' => (Classical.choose_spec (hb W')).1 ⟨j, pn, xe, tk', ps'⟩)
      (fun a oe cls d pn hz hf' => pss_su fun nm h1 _ h3 => pss_len (Φ.hN j) ((Classical.choose_spec (hsu nm a cls d h1 h3)).1 ⟨j, oe, pn, hz, hf'⟩))
      (o1 j)
    rw [Φ.hK j] at this
    exact this
  · intro B H0 g σ ρ n H D2 D r l h fit
    refine (Classical.choose_spec (hb (wAs Φ.K cv i ts W D))).2 B H0 g σ ρ n H _ { D with nx := te D } r (by omega) h ?_
    have f1 := fit.mono (Same.refl H0) (show n + m1 ≤ n + (m1 + m2 + m3) by omega) (Sub.refl g)
    refine ⟨fun A1 A2 A3 A4 A5 s2 z2 r3 k => o2 B A1 A2 A3 A4 _ A5 D2 D r3 (by omega) k (fit.mono s2 (by omega) z2), f1.rt, f1.bk, f1.ct, fun H0' g' σ' ρ' H' nm cls d s z r' q hmn => ?_⟩
    obtain ⟨hin, q⟩ := q
    refine ⟨f nm, hm nm hin cls hmn.cl, fun hfn a ha => ?_, fun hfn => ?_⟩
    · rw [if_pos hfn] at q
      refine ⟨nm, hin, hfn, hmn, fun hl => ?_⟩
      rw [List.length_set] at hl
      have hil := (List.getElem?_eq_some_iff.mp hi).1
      have r2 := r'.set (x := .scr a) (v := .ref a) (j := i) (by omega) rfl (fun _ z => nomatch z)
      have f2 := fit.mono s (show n + m1 + m2 ≤ n + (m1 + m2 + m3) by omega) z
      refine (Classical.choose_spec (hsu nm a cls d hin hmn)).2 B H0' g' _ _ _ H' (goneW i D2) _ r2 (by omega) (q a) ⟨fun A1 A2 A3 A4 A5 s2 z2 r3 k => ?_, f2.rt, fun A1 A2 A3 A4 A5 s2 z2 r3 k => ?_, fun A1 A2 A3 A4 A5 s2 z2 r3 k => ?_, fun _ _ _ _ _ _ _ _ _ _ _ z' _ => z'.elim⟩
      · exact f2.nx A1 A2 _ _ A5 s2 z2 (r3.gone i) k
      · exact f2.bk A1 A2 _ _ A5 s2 z2 (r3.gone i) k
      · exact f2.ct A1 A2 _ _ A5 s2 z2 (r3.gone i) k
    · rw [if_neg (by rw [hfn]; decide)] at q
      exact f1.ex H0' g' σ' ρ' H' nm cls d s z r' q hmn
end
end B2

namespace B2
open PySem PySem.Spec L2 PyProof.Rows
theorem nodigits_of {K : PySem.W.Frag} {h : Heap} (X : K.In h) (L : h.NoLimit) (q : PySem.W.nsIn K cStatics "sys.int_max_str_digits" = some none) : h.NoDigits := by
  obtain ⟨mc, h1, _⟩ := L
  exact ⟨mc, h1, PySem.W.ns_none_of X h1 q⟩
theorem call_str_big {X : Cx} (hc : X.calm = true) (q : PySem.W.nsIn X.K cStatics "sys.int_max_str_digits" = some none) : CallR X (.type "str") (fun xs H Q => ∃ i, xs = [.int i] ∧ i.natAbs < 10 ^ 4300 ∧ Q (.str (toString i)) H) := by
  intro pins s σ H xs us Q I r h
  obtain ⟨i, rfl, hz, k⟩ := h
  obtain ⟨u, rfl, t, rfl⟩ := vals1 r
  exact str_of_int_or (I.ok.hd hc) (nodigits_of I.kIn I.nolimit q) (fun _ => ⟨.str _, H, I.tok _, ⟨_, rfl⟩, k⟩) fun h2 => absurd hz (Nat.not_lt.mpr h2)
section
variable {ι : Type} {Φ : Fam ι} {W : WX} {m : Nat}
def strBD (d : PyData) (k : X2 → Prop) : Prop := match d with
  | .int i => i.natAbs < 10 ^ 4300 ∧ k (.d (.str (toString i)))
  | _ => False
def cbStrB : List PyData → (X2 → Prop) → Prop := fun ds k => match ds with | [d] => strBD d k | _ => False
theorem je_strB {a : Expr} {p pos : Pos} {wa : WA} (q : PySem.W.nsIn Φ.K cStatics "sys.int_max_str_digits" = some none) (hm : Φ.mg "str" = none) (ha : JA Φ W m [a] wa) (hcm : Φ.cm = true := by rfl) (hg : ∀ i, Gl (Φ.X i) "str" := by intro _; rfl) (he : ∀ i, starEach [a] (Φ.X i).env = (false, eval a (Φ.X i).env) :: starEach [] (Φ.X i).env := by intro _; rfl) : JE Φ W m (.Call (.Name "str" p) [a] [] pos) (wCB cbStrB wa) :=
  je_ct (T := "str") (f := cbStrB) (fun i => call_str_big (Φ.calm hcm i) (by rw [Φ.hK i]; exact q)) (csim1 (f := strBD) fun B H0 g σ ρ n H v x d k Q r h e hf q => by
    unfold strBD at hf
    split at hf
    · rw [r.int h e]; exact ⟨_, rfl, hf.1, r.flat (fun _ => .str _) q hf.2⟩
    · exact hf.elim) hm (by decide +kernel) ha hg (by decide) (by decide) he (fun _ => rfl)
end
theorem call_divmodW {X : Cx} : CallR X (.builtin "divmod") (fun xs H Q => ∃ i j, xs = [.int i, .int j] ∧ CDivW i j ∧ ∀ p, H p = none → Q (.ref p) (upd H p (.tup [.int (i / j), .int (i % j)]))) := by
  intro pins s σ H xs us Q I r h
  obtain ⟨i, j, rfl, ⟨h1, h2⟩, q⟩ := h
  obtain ⟨u, w', rfl, ⟨t, rfl⟩, ⟨t', rfl⟩⟩ := vals2 r
  refine divmod_int (by omega) ?_ (.inl (PyProof.noPylong_of_log2 h2))
  rw [Int.fdiv_eq_ediv_of_nonneg i (by omega), Int.fmod_eq_emod_of_nonneg i (by omega)]
  have hn : H s.heap.objs.size = none := I.hok.fresh (Nat.le_refl _)
  refine ⟨.ref s.heap.objs.size, _, ?_, rfl, q _ hn⟩
  refine I.laid (fun b o e => Heap.get?_push_of_some _ e) (Nat.le_refl _) ⟨by simp only [List.length_cons, List.length_nil]; rw [sizeLine_eq]; decide, [.int (i / j) s.toks, .int (i % j) (s.toks + 1)], .cons ⟨_, rfl⟩ (.cons ⟨_, rfl⟩ .nil), ?_⟩
  exact ⟨_, Heap.get?_push_size s.heap rfl, rfl, 0, rfl⟩
section
variable {ι : Type} {Φ : Fam ι} {W : WX} {m : Nat}
def divmodWD (a b : PyData) (k : X2 → Prop) : Prop := match a, b with
  | .int i, .int j => CDivW i j ∧ k (.d (.tuple [.int (i / j), .int (i % j)]))
  | _, _ => False
def cbDivmodW : List PyData → (X2 → Prop) → Prop := fun ds k => match ds with | [d, d'] => divmodWD d d' k | _ => False
theorem je_divmodW {a b : Expr} {p pos : Pos} {wa : WA} (hm : Φ.mg "divmod" = none) (ha : JA Φ W m [a, b] wa) (hg : ∀ i, Gl (Φ.X i) "divmod" := by intro _; rfl) (he : ∀ i, starEach [a, b] (Φ.X i).env = (false, eval a (Φ.X i).env) :: starEach [b] (Φ.X i).env := by intro _; rfl)
    (hpl : ∀ i, (backTo pos (starEach [b] (Φ.X i).env)).any (·.1) = false := by intro _; rfl) : JE Φ W m (.Call (.Name "divmod" p) [a, b] [] pos) (wCB cbDivmodW wa) :=
  je_cb (id := "divmod") (f := cbDivmodW) (fun i => call_divmodW) (csim2 (f := divmodWD) fun B H0 g σ ρ n H v v' x x' d d' k Q r h e h' e' hf q => by
    unfold divmodWD at hf
    split at hf
    · rw [r.int h e, r.int h' e']
      exact ⟨_, _, rfl, hf.1, fun p hp => r.newT (.cons (.int _) (.cons (.int _) .nil)) hp q hf.2⟩
    · exact hf.elim) hm (by decide +kernel) ha hg (by decide) (by decide) he hpl
end
end B2

namespace Mth
open PySem L2 B2
theorem atIn {α : Type} {xs : List α} {n : Nat} : atI xs (n : Int) = xs[n]? := by
  unfold atI ixN
  by_cases h : n < xs.length
  · rw [if_pos (by omega), if_pos (by omega)]; simp
  · rw [if_pos (by omega), if_neg (by omega)]; simp; omega
theorem cutL_to {α : Type} {xs : List α} {n : Nat} : cutL xs none (some (n : Int)) = xs.take n := by
  unfold cutL HT.sIx
  simp only [List.drop_zero, Nat.sub_zero]
  rw [if_neg (by omega), Int.toNat_natCast]
  by_cases h : n ≤ xs.length
  · rw [Nat.min_eq_left h]
  · rw [Nat.min_eq_right (by omega), List.take_of_length_le (Nat.le_refl _), List.take_of_length_le (by omega)]
theorem cutL_from {α : Type} {xs : List α} {n : Nat} : cutL xs (some (n : Int)) none = xs.drop n := by
  unfold cutL
  rw [HT.sIx_nat, HT.sIx_none]
  by_cases h : n ≤ xs.length
  · rw [Nat.min_eq_left h, List.take_of_length_le (by simp)]
  · rw [Nat.min_eq_right (by omega), List.drop_length, List.drop_of_length_le (by omega)]; simp
theorem eqv_str (s t : Str) : PyData.eqv (.str s) (.str t) = (s == t) := by simp [PyData.eqv]
theorem eqv_int (i j : Int) : PyData.eqv (.int i) (.int j) = (i == j) := by simp [PyData.eqv]
inductive Wd where
  | yes | no | neg | and | or | same
  | let (c : Nat)
deriving DecidableEq
def Wd.str : Wd → Str
  | .yes => "yes"
  | .no => "no"
  | .neg => "not"
  | .and => "and"
  | .or => "or"
  | .same => "same"
  | .let c => SX.S [c]
def saD (ws : List Wd) : PyData := .tuple (ws.map fun w => .str w.str)
def bitC (b : Bool) : Nat := if b then 49 else 48
def woS (bs : List Bool) : Str := SX.S (bs.map bitC)
def leafV (ls : List Nat) (bs : List Bool) : Wd → Bool
  | .yes => true
  | .let c => bs.getD (ls.idxOf c) false
  | _ => false
def stp (v : Wd → Bool) : Wd → List Bool → Option (List Bool)
  | .neg, a :: r => some ((!a) :: r)
  | .and, b :: a :: r => some ((a && b) :: r)
  | .or, b :: a :: r => some ((a || b) :: r)
  | .same, b :: a :: r => some ((a == b) :: r)
  | .neg, _ => none
  | .and, _ => none
  | .or, _ => none
  | .same, _ => none
  | w, r => some (v w :: r)
def runW (v : Wd → Bool) : List Wd → List Bool → Option (List Bool)
  | [], st => some st
  | w :: ws, st => match stp v w st with
    | some st' => runW v ws st'
    | none => none
def Wd.need : Wd → Nat
  | .neg => 1
  | .and => 2
  | .or => 2
  | .same => 2
  | _ => 0
def dep1 (w : Wd) (n : Nat) : Option Nat := if w.need ≤ n then some (n + 1 - w.need) else none
def dep : List Wd → Nat → Option Nat
  | [], n => some n
  | w :: ws, n => match dep1 w n with
    | some m => dep ws m
    | none => none
theorem dep_run1 {v : Wd → Bool} {w : Wd} {st : List Bool} {m : Nat} (h : dep1 w st.length = some m) : ∃ st', stp v w st = some st' ∧ st'.length = m := by
  unfold dep1 at h
  split at h
  · rename_i hn
    simp only [Option.some.injEq] at h
    cases w <;> rcases st with _ | ⟨a, _ | ⟨b, r⟩⟩ <;> simp [Wd.need, stp] at hn h ⊢ <;> omega
  · cases h
theorem dep_run {v : Wd → Bool} : ∀ {ws : List Wd} {st : List Bool} {m : Nat}, dep ws st.length = some m → ∃ st', runW v ws st = some st' ∧ st'.length = m
  | [], st, m, h => ⟨st, rfl, by simpa [dep] using h⟩
  | w :: ws, st, m, h => by
    unfold dep at h
    split at h
    · rename_i n hn
      obtain ⟨st', h1, h2⟩ := dep_run1 (v := v) hn
      unfold runW
      rw [h1]
      exact dep_run (by rw [h2]; exact h)
    · cases h
theorem dep_app : ∀ {ws vs : List Wd} {n m : Nat}, dep ws n = some m → dep (ws ++ vs) n = dep vs m
  | [], vs, n, m, h => by simp [dep] at h; subst h; rfl
  | w :: ws, vs, n, m, h => by
    unfold dep at h
    split at h
    · rename_i k hk
      rw [List.cons_append]
      conv => lhs; unfold dep
      rw [hk]
      exact dep_app h
    · cases h
structure Good (ls : List Nat) (ws : List Wd) : Prop where
  one : dep ws 0 = some 1
  ltr : ∀ c, Wd.let c ∈ ws → c ∈ ls
def valS (ls : List Nat) (bs : List Bool) (ws : List Wd) : Bool := match runW (leafV ls bs) ws [] with
  | some (b :: _) => b
  | _ => false
theorem Good.run {ls : List Nat} {ws : List Wd} (h : Good ls ws) (bs : List Bool) : runW (leafV ls bs) ws [] = some [valS ls bs ws] := by
  obtain ⟨st, h1, h2⟩ := dep_run (v := leafV ls bs) (ws := ws) (st := []) h.one
  unfold valS
  rw [h1]
  match st, h2 with
  | [b], _ => rfl
structure Ltrs (ls : List Nat) : Prop where
  ne : ls ≠ []
  up : ls.Pairwise (· < ·)
  az : ∀ c ∈ ls, 97 ≤ c ∧ c ≤ 122
def chD (c : Nat) : PyData := .str (SX.S [c])
def alphabet : List Nat := [97, 98, 99, 100, 101, 102, 103, 104, 105, 106, 107, 108, 109, 110, 111, 112, 113, 114, 115, 116, 117, 118, 119, 120, 121, 122]
structure Drawn2 (left found : List Nat) : Prop where
  nd : (left ++ found).Nodup
  az : ∀ c ∈ left ++ found, 97 ≤ c ∧ c ≤ 122
theorem Drawn2.start : Drawn2 alphabet [] := ⟨by decide, by decide⟩
theorem Drawn2.step {left found : List Nat} (h : Drawn2 left found) {n c : Nat} (hc : left[n]? = some c) : Drawn2 (left.eraseIdx n) (found ++ [c]) := by
  obtain ⟨hn, he⟩ := List.getElem?_eq_some_iff.mp hc
  have p : (left.eraseIdx n ++ (found ++ [c])).Perm (left ++ found) := by
    have e : left = left.take n ++ c :: left.drop (n + 1) := by
      rw [← he, List.getElem_cons_drop, List.take_append_drop]
    have e2 : left.eraseIdx n = left.take n ++ left.drop (n + 1) := List.eraseIdx_eq_take_drop_succ ..
    rw [e2]
    conv => rhs; rw [e]
    rw [List.append_assoc, List.append_assoc]
    refine List.Perm.append_left _ ?_
    rw [← List.append_assoc]
    have : (left.drop (n + 1) ++ found ++ [c]).Perm (c :: (left.drop (n + 1) ++ found)) := List.perm_append_singleton ..
    exact this
  exact ⟨p.nodup_iff.mpr h.nd, fun x hx => h.az x (p.mem_iff.mp hx)⟩
theorem Drawn2.ltrs {left found ds : List Nat} (h : Drawn2 left found) (hp : ds.Perm found) (hs : ds.Pairwise (· ≤ ·)) (hne : found ≠ []) : Ltrs ds := by
  have nd : ds.Nodup := hp.nodup_iff.mpr (List.nodup_append.mp h.nd).2.1
  refine ⟨fun e => hne (by rw [e] at hp; exact hp.symm.eq_nil), ?_, fun c hc => h.az c (List.mem_append_right _ (hp.mem_iff.mp hc))⟩
  exact (hs.and nd).imp fun ⟨a, b⟩ => by omega

theorem Good.neg {ls : List Nat} {ws : List Wd} (h : Good ls ws) : Good ls (ws ++ [.neg]) := by
  refine ⟨(dep_app h.one).trans rfl, fun c hc => ?_⟩
  rcases List.mem_append.mp hc with z | z
  · exact h.ltr c z
  · cases List.mem_singleton.mp z
structure Tame (n : Nat) (d : PyData) : Prop where
  lay : d.canLay0 = true
  dep : d.depth ≤ n
theorem Tame.shaped {n : Nat} {d : PyData} (h : Tame n d) (l : n ≤ 64) : SeqAt.shaped d = true := by
  unfold SeqAt.shaped
  rw [h.lay, decide_eq_true (Nat.le_trans h.dep l)]; rfl
theorem Tame.mono {n m : Nat} {d : PyData} (h : Tame n d) (l : n ≤ m) : Tame m d := ⟨h.lay, Nat.le_trans h.dep l⟩
theorem tame_all {n : Nat} : ∀ {ds : List PyData}, (∀ d ∈ ds, Tame n d) → PyData.canLayAll0 ds = true ∧ PyData.depthAll ds ≤ n
  | [], _ => ⟨by simp [PyData.canLayAll0], by simp [PyData.depthAll]⟩
  | d :: ds, h => by
    obtain ⟨h1, h2⟩ := tame_all (ds := ds) fun x hx => h x (.tail _ hx)
    have h0 := h d (.head _)
    refine ⟨by simp only [PyData.canLayAll0]; rw [h0.lay, h1]; rfl, ?_⟩
    have := h0.dep
    simp only [PyData.depthAll]
    omega
theorem tame_list {n : Nat} {ds : List PyData} (h : ∀ d ∈ ds, Tame n d) : Tame (n + 1) (.list ds) := by
  obtain ⟨h1, h2⟩ := tame_all h
  exact ⟨by simp only [PyData.canLay0]; exact h1, by simp only [PyData.depth]; omega⟩
theorem tame_tup {n : Nat} {ds : List PyData} (h : ∀ d ∈ ds, Tame n d) : Tame (n + 1) (.tuple ds) := by
  obtain ⟨h1, h2⟩ := tame_all h
  exact ⟨by simp only [PyData.canLay0]; exact h1, by simp only [PyData.depth]; omega⟩
theorem tame_int {n : Nat} (i : Int) : Tame n (.int i) := ⟨by simp [PyData.canLay0], by simp [PyData.depth]⟩
theorem tame_bool {n : Nat} (i : Bool) : Tame n (.bool i) := ⟨by simp [PyData.canLay0], by simp [PyData.depth]⟩
theorem tame_none {n : Nat} : Tame n .none := ⟨by simp [PyData.canLay0], by simp [PyData.depth]⟩
theorem tame_str {n : Nat} {ls : List Nat} (h : ∀ c ∈ ls, c < 1114112) : Tame n (.str (SX.S ls)) := by
  refine ⟨?_, by simp [PyData.depth]⟩
  simp only [PyData.canLay0]
  unfold PySem.PyData.strOk
  rw [Array.all_eq_true_iff_forall_mem]
  intro c hc
  have : c ∈ ls := by simpa using hc
  simpa using h c this
theorem eqv_refl {n : Nat} {d : PyData} (h : Tame n d) : PyData.eqv d d = true := PySem.SeqAt.eqv_refl d h.lay
theorem eqv_nil (ds : List PyData) : PyData.eqv (.list ds) (.list []) = ds.isEmpty := by
  cases ds <;> simp [PyData.eqv, PyData.eqvAll]
structure TameA (n : Nat) (ds : List PyData) : Prop where
  h : ∀ d ∈ ds, Tame n d
theorem tame_nil0 {n : Nat} : TameA n [] := ⟨fun d h => (List.not_mem_nil h).elim⟩
theorem tame_cons0 {n : Nat} {d : PyData} {ds : List PyData} (h : Tame n d) (t : TameA n ds) : TameA n (d :: ds) := ⟨fun x hx => by
  rcases List.mem_cons.mp hx with e | e
  · rw [e]; exact h
  · exact t.h x e⟩
theorem tame_app0 {n : Nat} {ds es : List PyData} (h : TameA n ds) (t : TameA n es) : TameA n (ds ++ es) := ⟨fun x hx => by
  rcases List.mem_append.mp hx with e | e
  · exact h.h x e
  · exact t.h x e⟩
theorem tame_map0 {n : Nat} {α : Type} {f : α → PyData} {as : List α} (h : ∀ a ∈ as, Tame n (f a)) : TameA n (as.map f) := ⟨fun x hx => by
  obtain ⟨a, ha, rfl⟩ := List.mem_map.mp hx
  exact h a ha⟩
theorem tame_T {n : Nat} {ds : List PyData} (h : TameA n ds) : Tame (n + 1) (.tuple ds) := tame_tup h.h
theorem tame_L {n : Nat} {ds : List PyData} (h : TameA n ds) : Tame (n + 1) (.list ds) := tame_list h.h
theorem eqOk {a b : PyData} (h : Tame 30 a) (h2 : Tame 30 b) : B2.EqOk a b := .inr ⟨h.shaped (by decide), h2.shaped (by decide)⟩

def bitsN : Nat → Nat → List Bool
  | 0, _ => []
  | n + 1, r => bitsN n (r / 2) ++ [r % 2 == 1]
def allW (n : Nat) : List (List Bool) := (List.range (2 ^ n)).map (bitsN n)
def worldsOf (ls : List Nat) (rs : List (List Wd)) : List (List Bool) := (allW ls.length).filter fun bs => rs.all fun r => valS ls bs r
def woD (bs : List Bool) : PyData := .str (woS bs)
theorem tame_wd {n : Nat} {ls : List Nat} (hl : ∀ c ∈ ls, c < 1114112) {w : Wd} (h : ∀ c, w = .let c → c ∈ ls) : Tame n (.str w.str) := by
  have k : ∀ s : List Nat, (∀ c ∈ s, c < 1114112) → Tame n (.str (SX.S s)) := fun s h => tame_str h
  cases w
  case «let» c => exact k [c] fun d hd => by rw [List.mem_singleton.mp hd]; exact hl c (h c rfl)
  case yes => exact k [121, 101, 115] (by decide)
  case no => exact k [110, 111] (by decide)
  case neg => exact k [110, 111, 116] (by decide)
  case and => exact k [97, 110, 100] (by decide)
  case or => exact k [111, 114] (by decide)
  case same => exact k [115, 97, 109, 101] (by decide)
theorem tame_sa {n : Nat} {ls : List Nat} (hl : ∀ c ∈ ls, c < 1114112) {ws : List Wd} (h : ∀ c, Wd.let c ∈ ws → c ∈ ls) : Tame (n + 1) (saD ws) :=
  tame_tup fun d hd => by
    obtain ⟨w, hw, rfl⟩ := List.mem_map.mp hd
    exact tame_wd hl fun c e => h c (by rw [← e]; exact hw)
theorem Ltrs.low {ls : List Nat} (h : Ltrs ls) : ∀ c ∈ ls, c < 1114112 := fun c hc => by have := h.az c hc; omega
theorem mul_one (c : Nat) (n : Nat) : Txt.mul (SX.S [c]) (n : Int) = SX.S (List.replicate n c) := by
  unfold Txt.mul
  by_cases h : (n : Int) < 1
  · rw [if_pos h, show n = 0 by omega]; rfl
  · rw [if_neg h]
    have e : ∀ (m : Nat) (a : Array Nat), (List.replicate m #[c]).foldl (· ++ ·) a = a ++ (List.replicate m c).toArray := by
      intro m
      induction m with
      | zero => intro a; simp
      | succ m ih => intro a; rw [List.replicate_succ, List.foldl_cons, ih, List.replicate_succ]; apply Array.toList_inj.mp; simp
    have e2 : (⟨(List.replicate (n : Int).toNat (SX.S [c]).cps).foldl (· ++ ·) #[]⟩ : Str) = SX.S (List.replicate n c) := by
      rw [Int.toNat_natCast, show (SX.S [c]).cps = #[c] from rfl, e]; simp
    split
    · rename_i hh
      have hn : n = 1 := by
        rw [Bool.or_eq_true] at hh
        rcases hh with z | z
        · have := eq_of_beq z; omega
        · exact absurd z (show ¬ ((1 : Nat) == 0) = true by decide)
      subst hn
      rfl
    · exact e2
theorem cutS_S (l : List Nat) (lo hi : Option Int) : cutS (SX.S l) lo hi = SX.S (cutL l lo hi) := by
  unfold cutS cutL
  rw [SX.S_len]
theorem str_ext {a b : Str} (h : a.cps.toList = b.cps.toList) : a = b := by
  cases a; cases b
  congr 1
  exact Array.toList_inj.mp h
theorem tame_wo {n : Nat} (bs : List Bool) : Tame n (woD bs) := tame_str fun c hc => by
  obtain ⟨b, _, rfl⟩ := List.mem_map.mp hc
  cases b <;> decide
def hoD (ls : List Nat) (rs : List (List Wd)) : PyData := .tuple [.str (SX.S ls), .tuple (rs.map saD)]
structure House (ls : List Nat) (rs : List (List Wd)) : Prop where
  ltrs : Ltrs ls
  le6 : ls.length ≤ 6
  good : ∀ r ∈ rs, Good ls r ∧ r.length ≤ 40
  few : rs.length ≤ 8
  live : worldsOf ls rs ≠ []
theorem tame_ho {n : Nat} {ls : List Nat} {rs : List (List Wd)} (hl : ∀ c ∈ ls, c < 1114112) (h : ∀ r ∈ rs, Good ls r) : Tame (n + 3) (hoD ls rs) := tame_tup fun d hd => by
  rcases List.mem_cons.mp hd with e | hd
  · rw [e]; exact tame_str hl
  · rw [List.mem_singleton.mp hd]
    exact tame_tup fun d hd => by
      obtain ⟨r, hr, rfl⟩ := List.mem_map.mp hd
      exact tame_sa hl (h r hr).ltr
theorem allW_le {n : Nat} (h : n ≤ 6) : (allW n).length ≤ 64 := by
  unfold allW
  rw [List.length_map, List.length_range]
  exact Nat.le_trans (Nat.pow_le_pow_right (by decide) h) (by decide)
theorem worlds_le {ls : List Nat} (h : ls.length ≤ 6) (rs : List (List Wd)) : (worldsOf ls rs).length ≤ 64 := Nat.le_trans (List.length_filter_le _ _) (allW_le h)
theorem worlds_big {ls : List Nat} (h : ls.length ≤ 6) (rs : List (List Wd)) : ((worldsOf ls rs).map woD).length ≤ 16777216 := by
  rw [List.length_map]; exact Nat.le_trans (worlds_le h rs) (by decide)

def setW (c : Nat) (t : Bool) (w : Wd) : Wd := if w = .let c then (if t then .yes else .no) else w
theorem setW_need (c : Nat) (t : Bool) (w : Wd) : (setW c t w).need = w.need := by
  unfold setW
  split
  · rename_i h; subst h; cases t <;> rfl
  · rfl
theorem dep_map {f : Wd → Wd} (hf : ∀ w, (f w).need = w.need) : ∀ (ws : List Wd) (n : Nat), dep (ws.map f) n = dep ws n
  | [], n => rfl
  | w :: ws, n => by
    rw [List.map_cons]
    unfold dep dep1
    rw [hf]
    split <;> simp_all [dep_map hf ws]
theorem setW_let {c d : Nat} {t : Bool} {w : Wd} (h : setW c t w = .let d) : w = .let d ∧ d ≠ c := by
  unfold setW at h
  split at h
  · cases t <;> cases h
  · rename_i hn
    exact ⟨h, fun e => hn (by rw [h, e])⟩
theorem Good.set {ls : List Nat} {ws : List Wd} (h : Good ls ws) (c : Nat) (t : Bool) : Good ls (ws.map (setW c t)) := by
  refine ⟨by rw [dep_map (setW_need c t)]; exact h.one, fun d hd => ?_⟩
  obtain ⟨w, hw, e⟩ := List.mem_map.mp hd
  exact h.ltr d (by rw [← (setW_let e).1]; exact hw)
theorem isEmpty_map {α β : Type} (f : α → β) (l : List α) : (l.map f).isEmpty = l.isEmpty := by cases l <;> rfl
theorem House.more {ls : List Nat} {rs : List (List Wd)} {ws : List Wd} (h : House ls rs) (g : Good ls ws) (l : ws.length ≤ 40) (f : rs.length < 8) (n : worldsOf ls (rs ++ [ws]) ≠ []) : House ls (rs ++ [ws]) := ⟨h.ltrs, h.le6, fun r hr => by
  rcases List.mem_append.mp hr with z | z
  · exact h.good r z
  · rw [List.mem_singleton.mp z]; exact ⟨g, l⟩, by rw [List.length_append, List.length_singleton]; omega, n⟩
theorem tame_ch {n : Nat} {c : Nat} (h : c < 1114112) : Tame n (chD c) := tame_str fun d hd => by rw [List.mem_singleton.mp hd]; exact h
theorem tame_S {n : Nat} {ls : List Nat} (h : Ltrs ls) : Tame n (.str (SX.S ls)) := tame_str h.low
abbrev Says (ls : List Nat) (n : Nat) (rs : List (List Wd)) : Prop := ∀ r ∈ rs, Good ls r ∧ r.length ≤ n
theorem Says.mono {ls : List Nat} {n m : Nat} {rs : List (List Wd)} (h : Says ls n rs) (l : n ≤ m) : Says ls m rs := fun r hr => ⟨(h r hr).1, Nat.le_trans (h r hr).2 l⟩
theorem says_nil {ls : List Nat} {n : Nat} : Says ls n [] := fun r h => (List.not_mem_nil h).elim
theorem says_cons {ls : List Nat} {n : Nat} {ws : List Wd} {rs : List (List Wd)} (g : Good ls ws) (l : ws.length ≤ n) (h : Says ls n rs) : Says ls n (ws :: rs) := fun r hr => by
  rcases List.mem_cons.mp hr with z | z
  · rw [z]; exact ⟨g, l⟩
  · exact h r z
theorem says_app {ls : List Nat} {n : Nat} {rs qs : List (List Wd)} (h : Says ls n rs) (h' : Says ls n qs) : Says ls n (rs ++ qs) := fun r hr => by
  rcases List.mem_append.mp hr with z | z
  · exact h r z
  · exact h' r z
theorem says_snoc {ls : List Nat} {n : Nat} {ws : List Wd} {rs : List (List Wd)} (h : Says ls n rs) (g : Good ls ws) (l : ws.length ≤ n) : Says ls n (rs ++ [ws]) := says_app h (says_cons g l says_nil)
theorem House.says {ls : List Nat} {rs : List (List Wd)} (h : House ls rs) : Says ls 40 rs := h.good
theorem House.big {ls : List Nat} {rs : List (List Wd)} (h : House ls rs) : Says ls 1000000 rs := h.says.mono (by decide)
theorem tame_ho2 {n m : Nat} {ls : List Nat} {rs : List (List Wd)} (h : Says ls m rs) (l : Ltrs ls) : Tame (n + 3) (hoD ls rs) := tame_ho l.low fun r hr => (h r hr).1
theorem tame_sas {n m : Nat} {ls : List Nat} {rs : List (List Wd)} (h : Says ls m rs) (l : Ltrs ls) : Tame (n + 2) (.tuple (rs.map saD)) := tame_T (tame_map0 fun r hr => tame_sa l.low (h r hr).1.ltr)
theorem tame_sa2 {n : Nat} {ls : List Nat} {ws : List Wd} (h : Good ls ws) (l : Ltrs ls) : Tame (n + 1) (saD ws) := tame_sa l.low h.ltr

def s_gcd : Spec2 := fun xs k _ => ∃ a b : Nat, xs = [.d (.int a), .d (.int b)] ∧ k (.d (.int (Nat.gcd a b)))
def w_gcd : WS :=
  wSeq (wWhile 0 0 (wTest (wBin gtD (wVar 1) (wC (.int 0)))) (wPar 0 1 (wCons (wVar 1) (wCons (wBin modD (wVar 0) (wVar 1)) (wNil)))))
  (wRet (wVar 0))
theorem p_gcd : ∀ xs k e, s_gcd xs k e → runB w_gcd xs k fun _ => False := by
  rintro xs k e ⟨a, b, rfl, hk⟩
  (conv => whnf)
  refine ⟨b + 1, by omega, ?_⟩
  refine whileN_ind (I := fun n ρ => ∃ x y : Nat, ρ = ev [some (.d (.int x)), some (.d (.int y))] ∧ y < n ∧ Nat.gcd x y = Nat.gcd a b) ?_ ?_ _ _ ?_
  · rintro ρ ⟨x, y, _, h, _⟩
    omega
  · rintro n ρ ⟨x, y, rfl, h, hg⟩ ih
    (conv => whnf)
    refine iteI (fun c => ?_) (fun c => ?_)
    · have c1 := of_decide_eq_true c
      have hy : 0 < y := by omega
      (conv => whnf)
      refine ⟨c1, ?_⟩
      (conv => whnf)
      refine ih _ ⟨y, x % y, ?_, ?_, ?_⟩
      · rw [Int.natCast_emod]
        exact (by funext i; rcases i with _ | _ | _ | _ | _ | _ | _ | _ | _ | _ | _ | _ | _ | _ | i <;> rfl)
      · have := Nat.mod_lt x hy
        omega
      · rw [← hg, Nat.gcd_comm x y, Nat.gcd_rec y x, Nat.gcd_comm]
    · have c1 := of_decide_eq_false (Bool.eq_false_iff.mpr c)
      have hy : y = 0 := by omega
      subst hy
      (conv => whnf)
      rw [← hg, Nat.gcd_zero_right] at hk
      exact hk
  · exact ⟨a, b, (by funext i; rcases i with _ | _ | _ | _ | _ | _ | _ | _ | _ | _ | _ | _ | _ | _ | i <;> rfl), by omega, rfl⟩

def lowN (p q : Int) : Int := (if q < 0 then 0 - p else p) / (Nat.gcd p.natAbs q.natAbs : Nat)
def lowD (p q : Int) : Int := (if q < 0 then 0 - q else q) / (Nat.gcd p.natAbs q.natAbs : Nat)
theorem low_facts {p q : Int} (hq : q ≠ 0) : 1 ≤ lowD p q ∧ Nat.gcd (lowN p q).natAbs (lowD p q).natAbs = 1 ∧ lowN p q * q = p * lowD p q ∧ (lowN p q).natAbs ≤ p.natAbs ∧ (lowD p q).natAbs ≤ q.natAbs := by
  have hg : 0 < Nat.gcd p.natAbs q.natAbs := Nat.gcd_pos_of_pos_right _ (by omega)
  generalize hG : Nat.gcd p.natAbs q.natAbs = g at hg
  obtain ⟨a, ha⟩ : (g : Int) ∣ p := by
    rw [← hG]; exact Int.ofNat_dvd_left.mpr (Nat.gcd_dvd_left _ _)
  obtain ⟨b, hb⟩ : (g : Int) ∣ q := by
    rw [← hG]; exact Int.ofNat_dvd_left.mpr (Nat.gcd_dvd_right _ _)
  have g0 : (g : Int) ≠ 0 := by omega
  have gp : 0 < (g : Int) := by omega
  have hc : Nat.gcd a.natAbs b.natAbs = 1 := by
    have h := hG
    rw [ha, hb, Int.natAbs_mul, Int.natAbs_mul, Nat.gcd_mul_left, Int.natAbs_natCast] at h
    exact Nat.eq_of_mul_eq_mul_left hg (by rw [h, Nat.mul_one])
  have hn : lowN p q = if q < 0 then -a else a := by
    unfold lowN
    rw [hG]
    split
    · rw [ha, show 0 - (g : Int) * a = g * (-a) by rw [Int.mul_neg]; omega, Int.mul_ediv_cancel_left _ g0]
    · rw [ha, Int.mul_ediv_cancel_left _ g0]
  have hd : lowD p q = if q < 0 then -b else b := by
    unfold lowD
    rw [hG]
    by_cases z : q < 0
    · rw [if_pos z, if_pos z, hb, show 0 - (g : Int) * b = g * (-b) by rw [Int.mul_neg]; omega, Int.mul_ediv_cancel_left _ g0]
    · rw [if_neg z, if_neg z, hb, Int.mul_ediv_cancel_left _ g0]
  have b0 : b ≠ 0 := fun h => hq (by rw [hb, h, Int.mul_zero])
  have hs : q < 0 ↔ b < 0 := by
    rw [hb]
    constructor
    · intro h
      by_cases z : b < 0
      · exact z
      · have := Int.mul_nonneg (Int.le_of_lt gp) (Int.not_lt.mp z)
        omega
    · intro h
      exact Int.mul_neg_of_pos_of_neg gp h
  have l1 : a.natAbs ≤ p.natAbs := by
    rw [ha, Int.natAbs_mul, Int.natAbs_natCast]
    exact Nat.le_mul_of_pos_left _ hg
  have l2 : b.natAbs ≤ q.natAbs := by
    rw [hb, Int.natAbs_mul, Int.natAbs_natCast]
    exact Nat.le_mul_of_pos_left _ hg
  rw [hn, hd]
  by_cases z : q < 0
  · rw [if_pos z, if_pos z]
    have := hs.mp z
    refine ⟨by omega, by rw [Int.natAbs_neg, Int.natAbs_neg]; exact hc, ?_, by rw [Int.natAbs_neg]; exact l1, by rw [Int.natAbs_neg]; exact l2⟩
    rw [ha, hb]
    rw [Int.neg_mul, Int.mul_neg, ← Int.mul_assoc, Int.mul_comm a g]
  · rw [if_neg z, if_neg z]
    have : ¬ b < 0 := fun h => z (hs.mpr h)
    refine ⟨by omega, hc, ?_, l1, l2⟩
    rw [ha, hb, ← Int.mul_assoc, Int.mul_comm a g]

theorem mul_small {i j : Int} (h : j.natAbs < 2 ^ 64) : MulOk i j := .inr (.inl ⟨by omega, by omega⟩)
theorem mul_smallL {i j : Int} (h : i.natAbs < 2 ^ 64) : MulOk i j := .inl ⟨by omega, by omega⟩
theorem mul_big {i j : Int} {a b : Nat} (h : i.natAbs < 2 ^ a) (h' : j.natAbs < 2 ^ b) (l : a + b ≤ 130000000) : MulOk i j := .inr (.inr ⟨a, b, h, h', l⟩)

def isWhole : PyData → Bool
  | .int _ => true
  | _ => false
def s_whole : Spec2 := fun xs k _ => ∃ d, xs = [.d d] ∧ k (.d (.bool (isWhole d)))

def frD (r : Rat) : PyData := .tuple [.int r.num, .int r.den]
theorem lowN_rat {p q : Int} (hq : q ≠ 0) : lowN p q = (Rat.divInt p q).num := by
  rw [Rat.num_divInt]
  unfold lowN
  rw [show (Nat.gcd p.natAbs q.natAbs : Nat) = Int.gcd q p from Nat.gcd_comm _ _]
  by_cases z : q < 0
  · rw [if_pos z, Int.sign_eq_neg_one_of_neg z]
    rw [show 0 - p = -1 * p by omega]
  · rw [if_neg z, Int.sign_eq_one_of_pos (by omega), Int.one_mul]
theorem lowD_rat {p q : Int} (hq : q ≠ 0) : lowD p q = ((Rat.divInt p q).den : Int) := by
  rw [Rat.den_divInt, if_neg hq]
  unfold lowD
  rw [show (Nat.gcd p.natAbs q.natAbs : Nat) = Int.gcd q p from Nat.gcd_comm _ _]
  rw [Int.natCast_ediv]
  by_cases z : q < 0
  · rw [if_pos z]
    rw [show 0 - q = (q.natAbs : Int) by omega]
  · rw [if_neg z]
    rw [show (q.natAbs : Int) = q by omega]
theorem low_frD {p q : Int} (hq : q ≠ 0) : PyData.tuple [.int (lowN p q), .int (lowD p q)] = frD (Rat.divInt p q) := by
  rw [lowN_rat hq, lowD_rat hq]; rfl
def Sz (n : Nat) (r : Rat) : Prop := r.num.natAbs < 2 ^ n ∧ r.den < 2 ^ n
theorem Sz.mono {n m : Nat} {r : Rat} (h : Sz n r) (l : n ≤ m) : Sz m r :=
  ⟨Nat.lt_of_lt_of_le h.1 (Nat.pow_le_pow_right (by decide) l), Nat.lt_of_lt_of_le h.2 (Nat.pow_le_pow_right (by decide) l)⟩
theorem sz_divInt {n : Nat} {p q : Int} (hq : q ≠ 0) (h1 : p.natAbs < 2 ^ n) (h2 : q.natAbs < 2 ^ n) : Sz n (Rat.divInt p q) := by
  obtain ⟨f1, f2, f3, f4, f5⟩ := low_facts (p := p) hq
  rw [lowN_rat hq] at f4
  rw [lowD_rat hq] at f5
  exact ⟨Nat.lt_of_le_of_lt f4 h1, by rw [Int.natAbs_natCast] at f5; omega⟩
theorem den0 (r : Rat) : ((r.den : Nat) : Int) ≠ 0 := by have := r.den_pos; omega
theorem denP (r : Rat) : 0 < ((r.den : Nat) : Int) := by have := r.den_pos; omega
theorem lt_mul2 {a b n m : Nat} (h : a < 2 ^ n) (h' : b < 2 ^ m) : a * b < 2 ^ (n + m) := by
  rw [Nat.pow_add]; exact Nat.mul_lt_mul'' h h'
theorem mul2N {i j : Int} {n m : Nat} (h : i.natAbs < 2 ^ n) (h' : j.natAbs < 2 ^ m) : (i * j).natAbs < 2 ^ (n + m) := by
  rw [Int.natAbs_mul]; exact lt_mul2 h h'
theorem add2N {i j : Int} {n : Nat} (h : i.natAbs < 2 ^ n) (h' : j.natAbs < 2 ^ n) : (i + j).natAbs < 2 ^ (n + 1) := by
  rw [Nat.pow_succ]; omega
theorem den2N {n : Nat} {r : Rat} (h : Sz n r) : ((r.den : Nat) : Int).natAbs < 2 ^ n := by rw [Int.natAbs_natCast]; exact h.2
theorem add_divInt (a b : Rat) : a + b = Rat.divInt (a.num * b.den + b.num * a.den) (a.den * b.den) := by
  conv => lhs; rw [← Rat.num_divInt_den a, ← Rat.num_divInt_den b]
  rw [Rat.divInt_add_divInt _ _ (den0 a) (den0 b)]
theorem mul_divInt (a b : Rat) : a * b = Rat.divInt (a.num * b.num) (a.den * b.den) := by
  conv => lhs; rw [← Rat.num_divInt_den a, ← Rat.num_divInt_den b]
  rw [Rat.divInt_mul_divInt]
theorem sz_add {n m : Nat} {a b : Rat} (h : Sz n a) (h' : Sz m b) : Sz (n + m + 1) (a + b) := by
  rw [add_divInt]
  refine sz_divInt (Int.mul_ne_zero (den0 a) (den0 b)) (add2N (mul2N h.1 (den2N h')) ?_) ?_
  · rw [Nat.add_comm]; exact mul2N h'.1 (den2N h)
  · exact Nat.lt_of_lt_of_le (mul2N (den2N h) (den2N h')) (Nat.pow_le_pow_right (by decide) (by omega))
theorem sz_mul {n m : Nat} {a b : Rat} (h : Sz n a) (h' : Sz m b) : Sz (n + m) (a * b) := by
  rw [mul_divInt]
  exact sz_divInt (Int.mul_ne_zero (den0 a) (den0 b)) (mul2N h.1 h'.1) (mul2N (den2N h) (den2N h'))
theorem sz_neg {n : Nat} {a : Rat} (h : Sz n a) : Sz n (-a) := ⟨by rw [Rat.neg_num, Int.natAbs_neg]; exact h.1, by rw [Rat.neg_den]; exact h.2⟩
theorem lt9 {n m : Nat} (h : n < 2 ^ m) (l : m ≤ 130000000) : True := trivial
def s_fr2 (f : Rat → Rat → Rat) : Spec2 := fun xs k _ => ∃ (a b : Rat) (n m : Nat), xs = [.d (frD a), .d (frD b)] ∧ Sz n a ∧ Sz m b ∧ n + m ≤ 100000000 ∧ k (.d (frD (f a b)))
def s_lowest : Spec2 := fun xs k _ => ∃ p q : Int, xs = [.d (.int p), .d (.int q)] ∧ q ≠ 0 ∧ True ∧ k (.d (frD (Rat.divInt p q)))
def isFrB : PyData → Bool
  | .tuple [.int a, .int b] => decide (0 < b) && decide (Nat.gcd a.natAbs b.natAbs = 1)
  | _ => false
theorem isFrB_fr (r : Rat) : isFrB (frD r) = true := by
  show (decide (0 < (r.den : Int)) && decide (Nat.gcd r.num.natAbs (r.den : Int).natAbs = 1)) = true
  rw [decide_eq_true (denP r), Int.natAbs_natCast, decide_eq_true r.reduced]; rfl
theorem low_id (a b : Int) (hb : 0 < b) : PyData.tuple [.int a, .int b] = frD (Rat.divInt a b) ↔ Nat.gcd a.natAbs b.natAbs = 1 := by
  rw [← low_frD (by omega : b ≠ 0)]
  unfold lowN lowD
  rw [if_neg (by omega), if_neg (by omega)]
  constructor
  · intro h
    injection h with h
    injection h with h1 h2
    injection h2 with h2 _
    injection h2 with h2
    have hg : 0 < Nat.gcd a.natAbs b.natAbs := Nat.gcd_pos_of_pos_right _ (by omega)
    have hd : ((Nat.gcd a.natAbs b.natAbs : Nat) : Int) ∣ b := Int.ofNat_dvd_left.mpr (Nat.gcd_dvd_right _ _)
    generalize Nat.gcd a.natAbs b.natAbs = g at *
    have h3 : b = b / (g : Int) := h2
    have h4 := Int.ediv_mul_cancel hd
    rw [← h3] at h4
    have h5 : b * (g : Int) = b * 1 := by omega
    have := Int.eq_of_mul_eq_mul_left (by omega : b ≠ 0) h5
    omega
  · intro h
    rw [h]
    simp
theorem eqv_low (a b : Int) (hb : 0 < b) : PyData.eqv (frD (Rat.divInt a b)) (.tuple [.int a, .int b]) = decide (Nat.gcd a.natAbs b.natAbs = 1) := by
  rw [Bool.eq_iff_iff, decide_eq_true_eq, ← low_id a b hb]
  unfold frD
  simp only [PyData.eqv, PyData.eqvAll, Bool.and_true]
  rw [Bool.and_eq_true, beq_iff_eq, beq_iff_eq]
  constructor
  · rintro ⟨h1, h2⟩; rw [h1, h2]
  · intro h
    injection h with h
    injection h with h1 h2
    injection h2 with h2 _
    injection h1 with h1
    injection h2 with h2
    exact ⟨h1.symm, h2.symm⟩
abbrev Bet := List (Rat × List Wd) × List Wd
def teD (t : Rat × List Wd) : PyData := .tuple [frD t.1, saD t.2]
def beD (b : Bet) : PyData := .tuple [.tuple (b.1.map teD), saD b.2]
def opD : Option Rat → PyData
  | none => .none
  | some r => frD r
structure GBet (ls : List Nat) (n m : Nat) (b : Bet) : Prop where
  ok : Good ls b.2
  len : b.2.length ≤ 40
  terms : ∀ t ∈ b.1, Good ls t.2 ∧ t.2.length ≤ 40 ∧ Sz n t.1
  few : b.1.length ≤ m
theorem GBet.mono {ls : List Nat} {n m n' m' : Nat} {b : Bet} (h : GBet ls n m b) (l : n ≤ n') (k : m ≤ m') : GBet ls n' m' b :=
  ⟨h.ok, h.len, fun t ht => ⟨(h.terms t ht).1, (h.terms t ht).2.1, (h.terms t ht).2.2.mono l⟩, Nat.le_trans h.few k⟩
def sumT (ls : List Nat) (bs : List Bool) (ts : List (Rat × List Wd)) : Rat := ts.foldl (fun a t => if valS ls bs t.2 then a + t.1 else a) 0
def payS (ls : List Nat) (bs : List Bool) (b : Bet) : Option Rat := if valS ls bs b.2 then some (sumT ls bs b.1) else none
theorem sz0 {n : Nat} : Sz (n + 1) (0 : Rat) := ⟨by show 0 < _; exact Nat.pow_pos (by decide), by show 1 < _; exact Nat.lt_of_lt_of_le (by decide : 1 < 2 ^ 1) (Nat.pow_le_pow_right (by decide) (by omega))⟩
theorem sz1 {n : Nat} : Sz (n + 1) (1 : Rat) := ⟨by show 1 < _; exact Nat.lt_of_lt_of_le (by decide : 1 < 2 ^ 1) (Nat.pow_le_pow_right (by decide) (by omega)), by show 1 < _; exact Nat.lt_of_lt_of_le (by decide : 1 < 2 ^ 1) (Nat.pow_le_pow_right (by decide) (by omega))⟩
theorem fold_sz {ls : List Nat} {bs : List Bool} {n : Nat} : ∀ (ts : List (Rat × List Wd)) (a : Rat) (m : Nat), (∀ t ∈ ts, Sz n t.1) → Sz m a → Sz (m + ts.length * (n + 1)) (ts.foldl (fun a t => if valS ls bs t.2 then a + t.1 else a) a)
  | [], a, m, _, h => by simpa using h
  | t :: ts, a, m, ht, h => by
    rw [List.foldl_cons, List.length_cons, Nat.succ_mul]
    have h1 : Sz (m + (n + 1)) (if valS ls bs t.2 then a + t.1 else a) := by
      split
      · exact (sz_add h (ht t (.head _))).mono (by omega)
      · exact h.mono (by omega)
    exact (fold_sz ts _ _ (fun x hx => ht x (.tail _ hx)) h1).mono (by omega)
theorem GBet.pay_sz {ls : List Nat} {n m : Nat} {b : Bet} (h : GBet ls n m b) (bs : List Bool) : Sz (1 + m * (n + 1)) (sumT ls bs b.1) :=
  (fold_sz b.1 0 1 (fun t ht => (h.terms t ht).2.2) (sz0 (n := 0))).mono (by have := Nat.mul_le_mul_right (n + 1) h.few; omega)
theorem tame_fr {n : Nat} (r : Rat) : Tame (n + 1) (frD r) := tame_T (tame_cons0 (tame_int _) (tame_cons0 (tame_int _) tame_nil0))
theorem tame_te {ls : List Nat} {k n : Nat} (l : Ltrs ls) {t : Rat × List Wd} (h : Good ls t.2 ∧ t.2.length ≤ 40 ∧ Sz n t.1) : Tame (k + 2) (teD t) := tame_T (tame_cons0 (tame_fr _) (tame_cons0 (tame_sa2 h.1 l) tame_nil0))
theorem tame_be {ls : List Nat} {k n m : Nat} {b : Bet} (h : GBet ls n m b) (l : Ltrs ls) : Tame (k + 4) (beD b) :=
  tame_T (tame_cons0 (tame_T (tame_map0 fun t ht => tame_te l (h.terms t ht))) (tame_cons0 (tame_sa2 h.ok l) tame_nil0))
theorem tame_op {n : Nat} : ∀ o : Option Rat, Tame (n + 1) (opD o)
  | none => tame_none
  | some r => tame_fr r
theorem shy_fr {n b : Nat} {m : Nat} {r : Rat} (h : Sz m r) (l : m ≤ 1900) : Shy (n + 1) (b + 2) (frD r) := by
  have k : ∀ x : Nat, x < 2 ^ m → x.log2 < 1920 := fun x hx => by
    by_cases z : x = 0
    · rw [z]; decide
    · exact Nat.lt_of_lt_of_le ((Nat.log2_lt z).mpr hx) (by omega)
  exact (shy_T (shy_cons0 (shy_int (n := n) (b := 0) (k _ h.1)) (shy_cons0 (shy_int (n := n) (b := 0) (k _ (by rw [Int.natAbs_natCast]; exact h.2))) shy_nil0))).mono (Nat.le_refl _) (by omega)
theorem shy_wd {n : Nat} {ls : List Nat} (hl : ∀ c ∈ ls, c < 1114112) {w : Wd} (h : ∀ c, w = .let c → c ∈ ls) : Shy n 4 (.str w.str) := by
  cases w
  case «let» c => exact shy_str (fun d hd => by have : d = c := by simpa [Wd.str, SX.S] using hd
                                                rw [this]; exact hl c (h c rfl)) (show 1 ≤ 4 by decide)
  all_goals exact shy_str (by decide) (by decide)
theorem shy_sa {n : Nat} {ls : List Nat} (l : Ltrs ls) {ws : List Wd} (g : Good ls ws) {m : Nat} (z : ws.length ≤ m) : Shy (n + 1) (m * 5) (saD ws) :=
  shy_T (shy_map0 (fun w hw => shy_wd l.low fun c e => g.ltr c (by rw [← e]; exact hw)) z)
theorem shy_te {k n : Nat} {ls : List Nat} (l : Ltrs ls) (hn : n ≤ 1900) {t : Rat × List Wd} (h : Good ls t.2 ∧ t.2.length ≤ 40 ∧ Sz n t.1) : Shy (k + 2) 204 (teD t) :=
  shy_T (shy_cons0 (shy_fr (b := 0) h.2.2 hn) (shy_cons0 (shy_sa l h.1 h.2.1) shy_nil0))
theorem shy_be {k n m : Nat} {ls : List Nat} {b : Bet} (h : GBet ls n m b) (l : Ltrs ls) (hn : n ≤ 1900) : Shy (k + 4) (m * 205 + 202) (beD b) :=
  (shy_T (shy_cons0 (shy_T (shy_map0 (fun t ht => shy_te l hn (h.terms t ht)) h.few)) (shy_cons0 (shy_sa l h.ok h.len) shy_nil0))).mono (Nat.le_refl _) (by omega)
theorem shy_S {n : Nat} {ls : List Nat} (l : Ltrs ls) {m : Nat} (z : ls.length ≤ m) : Shy n m (.str (SX.S ls)) := shy_str (fun c hc => l.low c (by simpa [SX.S] using hc)) (by simpa [SX.S] using z)
theorem shy_ho {k : Nat} {ls : List Nat} {rs : List (List Wd)} (h : House ls rs) : Shy (k + 3) 1620 (hoD ls rs) :=
  (shy_T (shy_cons0 (shy_S h.ltrs h.le6) (shy_cons0 (shy_T (shy_map0 (m := 8) (fun r hr => shy_sa (n := k) h.ltrs (h.good r hr).1 (h.good r hr).2) h.few)) shy_nil0))).mono (Nat.le_refl _) (by omega)
def tabS (ls : List Nat) (rs : List (List Wd)) (b : Bet) : List (Option Rat) := (worldsOf ls rs).map fun bs => payS ls bs b
theorem tab_len (ls : List Nat) (rs : List (List Wd)) (b : Bet) : (tabS ls rs b).length = (worldsOf ls rs).length := List.length_map _
theorem tame_tab {n : Nat} (l : List (Option Rat)) : Tame (n + 2) (.tuple (l.map opD)) := tame_T (tame_map0 fun o _ => tame_op o)
theorem good_more {ls ms : List Nat} {ws : List Wd} (h : Good ls ws) (s : ∀ c ∈ ls, c ∈ ms) : Good ms ws := ⟨h.one, fun c hc => s c (h.ltr c hc)⟩
theorem GBet.more {ls ms : List Nat} {n m : Nat} {b : Bet} (h : GBet ls n m b) (s : ∀ c ∈ ls, c ∈ ms) : GBet ms n m b :=
  ⟨good_more h.ok s, h.len, fun t ht => ⟨good_more (h.terms t ht).1 s, (h.terms t ht).2⟩, h.few⟩
def termV (ls : List Nat) (bs : List Bool) (t : Rat × List Wd) : Rat := if valS ls bs t.2 then t.1 else 0
theorem fold_termV {ls : List Nat} {bs : List Bool} : ∀ (ts : List (Rat × List Wd)) (a : Rat), ts.foldl (fun a t => if valS ls bs t.2 then a + t.1 else a) a = a + (ts.map (termV ls bs)).sum
  | [], a => by simp only [List.foldl_nil, List.map_nil, List.sum_nil]; grind
  | t :: ts, a => by
    rw [List.foldl_cons, fold_termV ts, List.map_cons, List.sum_cons]
    unfold termV
    split <;> grind
theorem sumT_eq (ls : List Nat) (bs : List Bool) (ts : List (Rat × List Wd)) : sumT ls bs ts = (ts.map (termV ls bs)).sum := by
  unfold sumT
  rw [fold_termV]; grind
theorem sumT_app (ls : List Nat) (bs : List Bool) (a b : List (Rat × List Wd)) : sumT ls bs (a ++ b) = sumT ls bs a + sumT ls bs b := by
  rw [sumT_eq, sumT_eq, sumT_eq, List.map_append]
  generalize b.map (termV ls bs) = y
  generalize a.map (termV ls bs) = x
  induction x with
  | nil => simp only [List.nil_append, List.sum_nil]; grind
  | cons p x ih => rw [List.cons_append, List.sum_cons, List.sum_cons, ih]; grind
theorem sumT_one (ls : List Nat) (bs : List Bool) (t : Rat × List Wd) : sumT ls bs [t] = termV ls bs t := by rw [sumT_eq]; simp only [List.map_cons, List.map_nil, List.sum_cons, List.sum_nil]; grind
theorem sumT_cons (ls : List Nat) (bs : List Bool) (t : Rat × List Wd) (ts : List (Rat × List Wd)) : sumT ls bs (t :: ts) = termV ls bs t + sumT ls bs ts := by
  rw [show t :: ts = [t] ++ ts from rfl, sumT_app, sumT_one]
theorem tame_terms {k n : Nat} {ls : List Nat} (l : Ltrs ls) {ts : List (Rat × List Wd)} (h : ∀ t ∈ ts, Good ls t.2 ∧ t.2.length ≤ 40 ∧ Sz n t.1) : Tame (k + 3) (.tuple (ts.map teD)) := tame_T (tame_map0 fun t ht => tame_te l (h t ht))

abbrev Bid := Bet × Rat
def bdD (b : Bid) : PyData := .tuple [beD b.1, frD b.2]
structure GBid (ls : List Nat) (n m : Nat) (b : Bid) : Prop where
  bet : GBet ls n m b.1
  price : Sz n b.2
theorem GBid.mono {ls : List Nat} {n m n' m' : Nat} {b : Bid} (h : GBid ls n m b) (l : n ≤ n') (k : m ≤ m') : GBid ls n' m' b := ⟨h.bet.mono l k, h.price.mono l⟩
abbrev GBids (ls : List Nat) (n m : Nat) (bs : List Bid) : Prop := ∀ b ∈ bs, GBid ls n m b
theorem tame_bd {k n m : Nat} {ls : List Nat} {b : Bid} (h : GBid ls n m b) (l : Ltrs ls) : Tame (k + 5) (bdD b) := tame_T (tame_cons0 (tame_be h.bet l) (tame_cons0 (tame_fr _) tame_nil0))
theorem tame_bds {k n m : Nat} {ls : List Nat} {bs : List Bid} (h : GBids ls n m bs) (l : Ltrs ls) : Tame (k + 6) (.tuple (bs.map bdD)) := tame_T (tame_map0 fun b hb => tame_bd (h b hb) l)
theorem shy_bd {k n m : Nat} {ls : List Nat} {b : Bid} (h : GBid ls n m b) (l : Ltrs ls) (hn : n ≤ 1900) : Shy (k + 5) (m * 205 + 206) (bdD b) :=
  (shy_T (shy_cons0 (shy_be h.bet l hn) (shy_cons0 (shy_fr (b := 0) h.price hn) shy_nil0))).mono (Nat.le_refl _) (by omega)
theorem shy_bds {k n m c : Nat} {ls : List Nat} {bs : List Bid} (h : GBids ls n m bs) (l : Ltrs ls) (hn : n ≤ 1900) (hc : bs.length ≤ c) : Shy (k + 6) (c * (m * 205 + 207)) (.tuple (bs.map bdD)) :=
  shy_T (shy_map0 (fun b hb => shy_bd (h b hb) l hn) hc)
def gainW (p : Rat) : Option Rat → Option Rat := Option.map fun r => r + -p
def gainsB (ls : List Nat) (rs : List (List Wd)) (b : Bid) : List (Option Rat) := (tabS ls rs b.1).map (gainW b.2)
def addO : Option Rat → Rat → Option Rat
  | none, x => some x
  | some a, x => some (a + x)
def withG (t : Option Rat) (s : Rat) : Option Rat → Option Rat
  | none => t
  | some g => if s = 0 then t else addO t (s * g)
def bookW (ls : List Nat) (u : List Bool) (zs : List (Bid × Rat)) (a : Option Rat) : Option Rat := zs.foldl (fun a z => withG a z.2 (gainW z.1.2 (payS ls u z.1.1))) a
def gainsOf (ls : List Nat) (rs : List (List Wd)) (bs : List Bid) (st : List Rat) : List (Option Rat) := (worldsOf ls rs).map fun u => bookW ls u (bs.zip st) none
def Szo (n : Nat) : Option Rat → Prop
  | none => True
  | some r => Sz n r
theorem Szo.mono {n m : Nat} {o : Option Rat} (h : Szo n o) (l : n ≤ m) : Szo m o := by
  cases o with
  | none => trivial
  | some r => exact Sz.mono h l
theorem GBet.pay_szo {ls : List Nat} {n m : Nat} {b : Bet} (h : GBet ls n m b) (bs : List Bool) : Szo (1 + m * (n + 1)) (payS ls bs b) := by
  unfold payS
  split
  · exact h.pay_sz bs
  · trivial
theorem zipD_same {α : Type} (f g : α → PyData) : ∀ l : List α, zipD (l.map f) (l.map g) = l.map fun u => .tuple [f u, g u]
  | [] => rfl
  | a :: l => by rw [List.map_cons, List.map_cons, zipD, zipD_same f g l]; rfl
theorem gainsB_len (ls : List Nat) (rs : List (List Wd)) (b : Bid) : (gainsB ls rs b).length = (worldsOf ls rs).length := by unfold gainsB; rw [List.length_map, tab_len]
theorem bookW_cons (ls : List Nat) (u : List Bool) (z : Bid × Rat) (zs : List (Bid × Rat)) (a : Option Rat) : bookW ls u (z :: zs) a = bookW ls u zs (withG a z.2 (gainW z.1.2 (payS ls u z.1.1))) := rfl
mutual
def Mild : PyData → Prop
  | .int i => i.natAbs < 2 ^ 100000
  | .str s => s.length ≤ 16777216
  | .list ds => MildA ds
  | .tuple ds => MildA ds
  | _ => True
def MildA : List PyData → Prop
  | [] => True
  | d :: ds => Mild d ∧ MildA ds
end
theorem mildA_iff : ∀ {ds : List PyData}, MildA ds ↔ ∀ d ∈ ds, Mild d
  | [] => by simp [MildA]
  | d :: ds => by rw [MildA, mildA_iff (ds := ds)]; simp
theorem mild_T {ds : List PyData} (h : ∀ d ∈ ds, Mild d) : Mild (.tuple ds) := by rw [Mild]; exact mildA_iff.mpr h
theorem Mild.tup {ds : List PyData} (h : Mild (.tuple ds)) : ∀ d ∈ ds, Mild d := by rw [Mild] at h; exact mildA_iff.mp h
theorem Mild.lst {ds : List PyData} (h : Mild (.list ds)) : ∀ d ∈ ds, Mild d := by rw [Mild] at h; exact mildA_iff.mp h
theorem Mild.int {i : Int} (h : Mild (.int i)) : i.natAbs < 2 ^ 100000 := by rw [Mild] at h; exact h
theorem Mild.str {s : Str} (h : Mild (.str s)) : s.length ≤ 16777216 := by rw [Mild] at h; exact h
theorem mild_int {i : Int} (h : i.natAbs < 2 ^ 100000) : Mild (.int i) := by rw [Mild]; exact h
theorem mild_str {s : Str} (h : s.length ≤ 16777216) : Mild (.str s) := by rw [Mild]; exact h
theorem mild_non : Mild .none := by rw [Mild] <;> simp
theorem mild_bool (b : Bool) : Mild (.bool b) := by rw [Mild] <;> simp
theorem Mild.fr {r : Rat} (h : Mild (frD r)) : Sz 100000 r := by
  have h1 := (h.tup _ (.head _)).int
  have h2 := (h.tup _ (.tail _ (.head _))).int
  exact ⟨h1, by rw [Int.natAbs_natCast] at h2; exact h2⟩
theorem mild_fr {n : Nat} {r : Rat} (h : Sz n r) (l : n ≤ 100000) : Mild (frD r) := mild_T fun d hd => by
  have h := h.mono l
  rcases List.mem_cons.mp hd with e | hd
  · rw [e]; exact mild_int h.1
  · rw [List.mem_singleton.mp hd]; exact mild_int (by rw [Int.natAbs_natCast]; exact h.2)
theorem mild_frs {n : Nat} {st : List Rat} (h : ∀ s ∈ st, Sz n s) (l : n ≤ 100000) : Mild (.tuple (st.map frD)) := mild_T fun d hd => by
  obtain ⟨s, hs, rfl⟩ := List.mem_map.mp hd
  exact mild_fr (h s hs) l
def geZ : PyData → Bool
  | .tuple [.int a, _] => decide (0 ≤ a)
  | _ => false
def stakesB (m : Nat) : PyData → Bool
  | .tuple ds => decide (ds.length = m) && ds.all fun s => isFrB s && geZ s
  | _ => false
theorem stakesB_fr (m : Nat) (st : List Rat) : stakesB m (.tuple (st.map frD)) = (decide (st.length = m) && st.all fun s => decide (0 ≤ s.num)) := by
  show (decide ((st.map frD).length = m) && (st.map frD).all fun s => isFrB s && geZ s) = _
  rw [List.length_map, List.all_map]
  congr 2
  funext s
  show (isFrB (frD s) && decide (0 ≤ s.num)) = _
  rw [isFrB_fr, Bool.true_and]
theorem num_nonneg {r : Rat} : decide (0 ≤ r.num) = !decide (r < 0) := by
  rw [Bool.eq_iff_iff, decide_eq_true_eq, Bool.not_eq_true', decide_eq_false_iff_not, Rat.num_nonneg, Rat.not_lt]
def losesB (os : List (Option Rat)) : Bool := !(os.filterMap id).isEmpty && (os.filterMap id).all fun r => decide (r < 0)
theorem atI_in {α : Type} {l : List α} {j : Int} (h0 : 0 ≤ j) (h : j < l.length) : ∃ d ∈ l, atI l j = some d := by
  obtain ⟨n, rfl⟩ := Int.eq_ofNat_of_zero_le h0
  have hn : n < l.length := by omega
  exact ⟨l[n], List.getElem_mem hn, by rw [atIn]; exact List.getElem?_eq_getElem hn⟩
theorem log_lt {i : Int} {n : Nat} (h : i.natAbs < 2 ^ n) (l : n ≤ 1920) : i.natAbs.log2 < 1920 := by
  by_cases z : i.natAbs = 0
  · rw [z]; decide
  · exact Nat.lt_of_lt_of_le ((Nat.log2_lt z).mpr h) l
mutual
def Itsy (z : Nat) : PyData → Prop
  | .int i => i.natAbs < 2 ^ z
  | .str s => s.length ≤ 1000
  | .list ds => ItsyA z ds
  | .tuple ds => ItsyA z ds
  | _ => True
def ItsyA (z : Nat) : List PyData → Prop
  | [] => True
  | d :: ds => Itsy z d ∧ ItsyA z ds
end
theorem itsyA_iff {z : Nat} : ∀ {ds : List PyData}, ItsyA z ds ↔ ∀ d ∈ ds, Itsy z d
  | [] => by simp [ItsyA]
  | d :: ds => by rw [ItsyA, itsyA_iff (ds := ds)]; simp
theorem Itsy.tup {z : Nat} {ds : List PyData} (h : Itsy z (.tuple ds)) : ∀ d ∈ ds, Itsy z d := by rw [Itsy] at h; exact itsyA_iff.mp h
theorem Itsy.str {z : Nat} {s : Str} (h : Itsy z (.str s)) : s.length ≤ 1000 := by rw [Itsy] at h; exact h
theorem Itsy.int {z : Nat} {i : Int} (h : Itsy z (.int i)) : i.natAbs < 2 ^ z := by rw [Itsy] at h; exact h
structure Thg (n b z : Nat) (d : PyData) : Prop where
  shy : ShyE n b d
  its : Itsy z d
structure Pln (n b z : Nat) (d : PyData) : Prop where
  shy : Shy n b d
  nl : noLst d = true
  its : Itsy z d
structure Pls (n b z : Nat) (ds : List PyData) : Prop where
  shy : ShyP n b ds
  its : ItsyA z ds
theorem Thg.mono {n m b c z : Nat} {d : PyData} (h : Thg n b z d) (l : n ≤ m) (k : b ≤ c) : Thg m c z d := ⟨h.shy.mono l k, h.its⟩
theorem Pln.mono {n m b c z : Nat} {d : PyData} (h : Pln n b z d) (l : n ≤ m) (k : b ≤ c) : Pln m c z d := ⟨h.shy.mono l k, h.nl, h.its⟩
theorem Pls.mono {n m b c z : Nat} {d : List PyData} (h : Pls n b z d) (l : n ≤ m) (k : b ≤ c) : Pls m c z d := ⟨h.shy.mono l k, h.its⟩
theorem Pln.t {n b z : Nat} {d : PyData} (h : Pln n b z d) : Thg n b z d := ⟨h.shy.e, h.its⟩
theorem forL_do {α τ : Type} {gt : WG} {b : WS} {D : Ends2} (enc : α → PyData) (E : τ → List (Nat × X2)) (I : List α → τ → Prop) (as : List α) (t : τ)
    {ds : List PyData} {ρ : B2.Env} (hds : ds = as.map enc) (hρ : has ρ (E t)) (h : I as t)
    (step : ∀ a as t ρ (D' : Ends2), I (a :: as) t → (∀ t' ρ', I as t' → has ρ' (E t') → D'.nx ρ') → (∀ t' ρ', I as t' → has ρ' (E t') → D'.ct ρ') → D'.bk = D.nx → D'.rt = D.rt → D'.ex = D.ex → gt (enc a) (put ρ (E t)) fun ρ' => b D' ρ')
    (done : ∀ t ρ, I [] t → D.nx (put ρ (E t))) : forL gt b D ds ρ :=
  forL_of enc E I as t hds hρ h (fun a as t ρ h ih => step a as t ρ _ h ih ih rfl rfl rfl) done
theorem cut_le {α : Type} (l : List α) (lo hi : Option Int) : (cutL l lo hi).length ≤ l.length := by
  unfold cutL
  rw [List.length_take, List.length_drop]
  omega
mutual
theorem its_mild {z : Nat} (hz : z ≤ 100000) : ∀ d : PyData, Itsy z d → Mild d
  | .int i, h => mild_int (Nat.lt_of_lt_of_le h.int (Nat.pow_le_pow_right (by decide) hz))
  | .str s, h => mild_str (Nat.le_trans h.str (by decide))
  | .list ds, h => by rw [Itsy] at h; rw [Mild]; exact its_mildA hz ds h
  | .tuple ds, h => by rw [Itsy] at h; rw [Mild]; exact its_mildA hz ds h
  | .none, _ => mild_non
  | .bool b, _ => mild_bool b
  | .dict _, _ => by rw [Mild] <;> simp
theorem its_mildA {z : Nat} (hz : z ≤ 100000) : ∀ ds : List PyData, ItsyA z ds → MildA ds
  | [], _ => by rw [MildA]; trivial
  | d :: ds, h => by rw [ItsyA] at h; rw [MildA]; exact ⟨its_mild hz d h.1, its_mildA hz ds h.2⟩
end
def numS (n : Nat) : Str := SX.S (TL.numL n)
theorem tl_SX (l : List Nat) : TL.tl (SX.S l) = l := by simp [TL.tl, SX.S]
theorem toS_nat (n : Nat) : (Str.ofString (toString ((n : Nat) : Int))) = numS n := str_ext (TL.tl_num n)
def sgnL (i : Int) : List Nat := if i < 0 then [45] else []
def ntL (i : Int) : List Nat := sgnL i ++ TL.numL i.natAbs
theorem toS_int (i : Int) : Str.ofString (toString i) = SX.S (ntL i) := by
  cases i with
  | ofNat m =>
    have e : ntL (Int.ofNat m) = TL.numL m := by
      unfold ntL sgnL
      rw [if_neg (by simp)]; rfl
    rw [e]; exact toS_nat m
  | negSucc m =>
    refine str_ext ?_
    rw [PyProof.Rows.signs_ofString]
    have e : ntL (Int.negSucc m) = 45 :: TL.numL (m + 1) := by
      unfold ntL sgnL
      rw [if_pos (Int.negSucc_lt_zero m)]; rfl
    rw [e]
    show ("-" ++ Nat.repr (m + 1)).toList.map Char.toNat = _
    rw [String.toList_append, List.map_append, Nat.toList_repr]
    rfl
def figL (r : Rat) : List Nat := ntL r.num ++ (if r.den = 1 then [] else 47 :: TL.numL r.den)
def frS (r : Rat) : Str := SX.S (figL r)
theorem S_cat (a b : List Nat) : SX.S a ++ SX.S b = SX.S (a ++ b) := str_ext (by
  show (SX.S a ++ SX.S b).cps.toList = _
  have e : (SX.S a ++ SX.S b).cps = (SX.S a).cps ++ (SX.S b).cps := rfl
  rw [e, Array.toList_append])
theorem num_len {n k : Nat} (hk : 0 < k) (h : n < 10 ^ k) : (TL.numL n).length ≤ k := TL.numL_len hk h
theorem num_dig {n c : Nat} (h : c ∈ TL.numL n) : 48 ≤ c ∧ c ≤ 57 := by
  have := TL.numL_digits n c h
  omega
theorem fig_free {r : Rat} {c : Nat} (h : c ∈ figL r) : c ≠ 32 ∧ c < 100 := by
  unfold figL ntL sgnL at h
  rcases List.mem_append.mp h with q | q
  · rcases List.mem_append.mp q with q | q
    · split at q
      · rw [List.mem_singleton.mp q]; decide
      · cases q
    · have := num_dig q; omega
  · split at q
    · cases q
    · rcases List.mem_cons.mp q with z | z
      · rw [z]; decide
      · have := num_dig z; omega
theorem starts_S (c : Nat) (r : List Nat) : Txt.startswith (SX.S (c :: r)) (Str.ofString "-") = (c == 45) := by
  have h1 : (SX.S (c :: r)).length = r.length + 1 := by rw [SX.S_len]; rfl
  have h2 : (Str.ofString "-").length = 1 := rfl
  have h3 : (SX.S (c :: r)).cps.extract 0 (0 + 1) = #[c] := by
    show ((c :: r).toArray.extract 0 1) = #[c]
    simp
  have h4 : (Str.ofString "-").cps = #[45] := rfl
  unfold Txt.startswith Builtin.Str.subAt
  rw [h1, h2]
  have h5 : decide (0 + 1 ≤ r.length + 1) = true := decide_eq_true (by omega)
  rw [h5, Bool.true_and]
  show ((SX.S (c :: r)).cps.extract 0 (0 + 1) == (Str.ofString "-").cps) = _
  rw [h3, h4]
  simp
theorem at_0 {α : Type} (a : α) (l : List α) : atI (a :: l) 0 = some a := by rw [show (0 : Int) = ((0 : Nat) : Int) from rfl, atIn]; rfl
theorem at_1 {α : Type} (a b : α) (l : List α) : atI (a :: b :: l) 1 = some b := by rw [show (1 : Int) = ((1 : Nat) : Int) from rfl, atIn]; rfl
theorem sum_cap {c : Nat} : ∀ {P : List Str}, (∀ p ∈ P, p.length ≤ c) → (P.map (·.length)).sum ≤ c * P.length
  | [], _ => by simp
  | p :: P, h => by
    have h1 := h p (.head _)
    have h2 := sum_cap fun q hq => h q (.tail _ hq)
    simp only [List.map_cons, List.sum_cons, List.length_cons]
    have : c * (P.length + 1) = c * P.length + c := by rw [Nat.mul_succ]
    omega
theorem len_app (s t : Str) : (s ++ t).length = s.length + t.length := by
  show (s.cps ++ t.cps).size = _
  rw [Array.size_append]; rfl
theorem frS_low (r : Rat) : ∀ c ∈ TL.tl (frS r), c < 1114112 := fun c hc => by
  unfold frS at hc
  rw [tl_SX] at hc
  have := (fig_free hc).2
  omega
def digC (c : Nat) : Bool := decide (48 ≤ c) && decide (c ≤ 57)
def zeroB (l : List Nat) : Bool := decide (1 < l.length) && (l.head? == some 48)
def cnB (l : List Nat) (m : Nat) : Bool := (decide (1 ≤ l.length ∧ l.length ≤ m) && !zeroB l) && l.all digC
def cnD (l : List Nat) (m : Nat) : PyData := if cnB l m = true then .int ((NumText.digitsVal l : Nat) : Int) else .none
theorem dig_in (c : Nat) : (Builtin.Str.occurrences (Str.ofString "0123456789") (⟨#[c]⟩ : Str) 0 (Str.ofString "0123456789").length 1).isEmpty = !digC c := by
  have h := SX.in_one [48, 49, 50, 51, 52, 53, 54, 55, 56, 57] c
  have h2 : Txt.contains (Str.ofString "0123456789") (⟨#[c]⟩ : Str) = decide (c ∈ [48, 49, 50, 51, 52, 53, 54, 55, 56, 57]) := h
  unfold Txt.contains at h2
  have h3 : decide (c ∈ [48, 49, 50, 51, 52, 53, 54, 55, 56, 57]) = digC c := by
    unfold digC
    rw [Bool.eq_iff_iff, Bool.and_eq_true, decide_eq_true_eq, decide_eq_true_eq, decide_eq_true_eq]
    simp only [List.mem_cons, List.not_mem_nil, or_false]
    omega
  rw [h3] at h2
  rw [← h2, Bool.not_not]
theorem cnt_no {l : List Nat} {m : Nat} (h : cnB l m = false) : cnD l m = .none := by unfold cnD; rw [if_neg (by rw [h]; decide)]
def cut47 : List Nat → List (List Nat)
  | [] => [[]]
  | c :: r => if c = 47 then [] :: cut47 r else match cut47 r with
    | p :: q => (c :: p) :: q
    | [] => [[c]]
theorem cut47_ne : ∀ l, cut47 l ≠ []
  | [] => by simp [cut47]
  | c :: r => by
    unfold cut47
    split
    · simp
    · split <;> simp
theorem cut47_free : ∀ {a : List Nat}, 47 ∉ a → cut47 a = [a]
  | [], _ => rfl
  | c :: a, h => by
    have hc : ¬ c = 47 := fun z => h (by rw [z]; exact .head _)
    unfold cut47
    rw [if_neg hc, cut47_free fun z => h (.tail _ z)]
theorem cut47_at : ∀ {a b : List Nat}, 47 ∉ a → cut47 (a ++ 47 :: b) = a :: cut47 b
  | [], b, _ => by
    show cut47 (47 :: b) = _
    conv => lhs; unfold cut47
    rw [if_pos rfl]
  | c :: a, b, h => by
    have hc : ¬ c = 47 := fun z => h (by rw [z]; exact .head _)
    have ih := cut47_at (b := b) (a := a) fun z => h (.tail _ z)
    rw [List.cons_append]
    conv => lhs; unfold cut47
    rw [if_neg hc, ih]
theorem first47 {l : List Nat} (h : 47 ∈ l) : ∃ a b, l = a ++ 47 :: b ∧ 47 ∉ a := by
  induction l with
  | nil => cases h
  | cons c l ih =>
    by_cases hc : c = 47
    · exact ⟨[], l, by rw [hc]; rfl, List.not_mem_nil⟩
    · rcases List.mem_cons.mp h with z | z
      · exact (hc z.symm).elim
      · obtain ⟨a, b, e, ha⟩ := ih z
        exact ⟨c :: a, b, by rw [e]; rfl, fun q => by
          rcases List.mem_cons.mp q with w | w
          · exact hc w.symm
          · exact ha w⟩
theorem spl_cut (l : List Nat) : TL.spl [47] 0 [] l = cut47 l := by
  generalize hn : l.length = n
  induction n using Nat.strongRecOn generalizing l with
  | _ n ih =>
    by_cases h : 47 ∈ l
    · obtain ⟨a, b, rfl, ha⟩ := first47 h
      rw [cut47_at ha]
      have e : a ++ 47 :: b = a ++ ([47] ++ b) := rfl
      rw [e, TL.spl_part1 ha, List.nil_append, ih b.length (by rw [← hn, List.length_append, List.length_cons]; omega) b rfl]
    · rw [TL.spl_last1 h, List.nil_append, cut47_free h]
theorem split_cut (l : List Nat) : Txt.split (SX.S l) (Str.ofString "/") = (cut47 l).map SX.S := by
  refine TL.map_tl_inj ?_
  rw [TL.split_spl _ _ (by decide) (TL.kind_ok (by decide +kernel)), tl_SX, List.map_map]
  have e : TL.tl ∘ SX.S = id := funext tl_SX
  rw [e, List.map_id]
  exact spl_cut l
theorem cut47_len : ∀ l : List Nat, (cut47 l).length ≤ l.length + 1 ∧ ∀ p ∈ cut47 l, p.length ≤ l.length
  | [] => ⟨by simp [cut47], fun p hp => by rw [List.mem_singleton.mp hp]; simp⟩
  | c :: r => by
    obtain ⟨h1, h2⟩ := cut47_len r
    unfold cut47
    by_cases hc : c = 47
    · rw [if_pos hc]
      refine ⟨by rw [List.length_cons, List.length_cons]; omega, fun p hp => ?_⟩
      rcases List.mem_cons.mp hp with z | z
      · rw [z]; simp
      · have := h2 p z; rw [List.length_cons]; omega
    · rw [if_neg hc]
      cases h : cut47 r with
      | nil => exact (cut47_ne r h).elim
      | cons x y =>
        rw [h] at h1 h2
        refine ⟨by rw [List.length_cons] at h1 ⊢; rw [List.length_cons]; omega, fun p hp => ?_⟩
        rcases List.mem_cons.mp hp with z | z
        · have := h2 x (.head _); rw [z, List.length_cons, List.length_cons]; omega
        · have := h2 p (.tail _ z); rw [List.length_cons]; omega
def ngB (l : List Nat) : Bool := l.head? == some 45
def bodO (l : List Nat) : List Nat := if ngB l = true then l.drop 1 else l
def sgZ (l : List Nat) : Int := if ngB l = true then -1 else 1
def dvN (l : List Nat) : Nat := NumText.digitsVal l
def oneOk (l a : List Nat) : Bool := cnB a 300 && !(ngB l && (dvN a == 0))
def twoOk (a b : List Nat) : Bool := cnB b 300 && (decide (2 ≤ dvN b) && !decide (1 < Nat.gcd (dvN a) (dvN b)))
def frcD (l : List Nat) : PyData := match cut47 (bodO l) with
  | [a] => if oneOk l a = true then .tuple [.int (sgZ l * ((dvN a : Nat) : Int)), .int 1] else .none
  | [a, b] => if (oneOk l a && twoOk a b) = true then .tuple [.int (sgZ l * ((dvN a : Nat) : Int)), .int ((dvN b : Nat) : Int)] else .none
  | _ => .none
theorem cn_yes {l : List Nat} {m : Nat} (h : cnB l m = true) : cnD l m = .int ((dvN l : Nat) : Int) := by unfold cnD dvN; rw [if_pos h]
theorem starts_any (l : List Nat) : Txt.startswith (SX.S l) (Str.ofString "-") = ngB l := by
  cases l with
  | nil =>
    unfold Txt.startswith
    rfl
  | cons c r => rw [starts_S]; rfl
theorem frcD_cases (l : List Nat) : frcD l = .none ∨ ∃ p q : Int, frcD l = .tuple [.int p, .int q] := by
  unfold frcD
  split
  · split
    · exact .inr ⟨_, _, rfl⟩
    · exact .inl rfl
  · split
    · exact .inr ⟨_, _, rfl⟩
    · exact .inl rfl
  · exact .inl rfl
def thD : PyData → PyData
  | .str s => frcD (TL.tl s)
  | _ => .none
theorem thD_cases (d : PyData) : thD d = .none ∨ ∃ p q : Int, thD d = .tuple [.int p, .int q] := by
  cases d
  case str s => exact frcD_cases _
  all_goals exact .inl rfl
def rdL (d : PyData) : List PyData := match thD d with
  | .tuple ds => [.str (Str.ofString "told"), .tuple ds]
  | _ => [.str (Str.ofString "refused"), .bool true]
theorem S_tl (s : Str) : s = SX.S (TL.tl s) := str_ext rfl
theorem len_tl (s : Str) : (TL.tl s).length = s.length := by
  have := SX.S_len (TL.tl s)
  rw [← S_tl s] at this; exact this.symm
theorem thD_S (l : List Nat) : thD (.str (SX.S l)) = frcD l := by
  show frcD (TL.tl (SX.S l)) = _
  rw [tl_SX]
theorem rdL_no {l : List Nat} (h : frcD l = .none) : rdL (.str (SX.S l)) = [.str (Str.ofString "refused"), .bool true] := by
  unfold rdL
  rw [thD_S, h]
theorem rdL_yes {l : List Nat} {p q : Int} (h : frcD l = .tuple [.int p, .int q]) : rdL (.str (SX.S l)) = [.str (Str.ofString "told"), .tuple [.int p, .int q]] := by
  unfold rdL
  rw [thD_S, h]
theorem cn_dig {l : List Nat} {m : Nat} (h : cnB l m = true) : l.all digC = true ∧ 1 ≤ l.length ∧ l.length ≤ m ∧ zeroB l = false := by
  unfold cnB at h
  rw [Bool.and_eq_true, Bool.and_eq_true, decide_eq_true_eq] at h
  exact ⟨h.2, h.1.1.1, h.1.1.2, by have := h.1.2; simpa using this⟩
theorem no47 {l : List Nat} (h : l.all digC = true) : 47 ∉ l := fun z => by
  have := List.all_eq_true.mp h 47 z
  exact absurd this (by decide)
theorem cn_int {l : List Nat} (h : cnB l 300 = true) : PySem.intText? (SX.S l) = some ((dvN l : Nat) : Int) := by
  obtain ⟨h1, h2, h3, _⟩ := cn_dig h
  exact SX.int_S h1 (fun z => by rw [z] at h2; simp at h2) (by omega)
theorem fold_pos : ∀ (r : List Nat) (a : Nat), 0 < a → 0 < r.foldl (fun acc c => acc * 10 + (c - 48)) a
  | [], _, h => h
  | c :: r, a, h => fold_pos r (a * 10 + (c - 48)) (by omega)
theorem zero_canon {p : List Nat} {m : Nat} (h : cnB p m = true) (z : dvN p = 0) : p = [48] := by
  obtain ⟨h1, h2, _, h4⟩ := cn_dig h
  cases p with
  | nil => simp at h2
  | cons c r =>
    have hc : 48 ≤ c := by
      have := List.all_eq_true.mp h1 c (.head _)
      unfold digC at this
      rw [Bool.and_eq_true, decide_eq_true_eq] at this
      exact this.1
    unfold dvN NumText.digitsVal at z
    rw [List.foldl_cons] at z
    by_cases h48 : c = 48
    · cases r with
      | nil => rw [h48]
      | cons x y =>
        exfalso
        unfold zeroB at h4
        rw [h48] at h4
        simp at h4
    · have := fold_pos r (0 * 10 + (c - 48)) (by omega)
      omega
theorem ng_body {l : List Nat} (h : ngB l = true) : l = 45 :: bodO l := by
  cases l with
  | nil => cases h
  | cons c r =>
    have hc : c = 45 := by
      have h : (some c == some 45) = true := h
      rw [beq_iff_eq] at h
      cases h; rfl
    unfold bodO
    rw [if_pos h, hc]; rfl
def padL : Nat → Nat → List Nat
  | 0, _ => []
  | K + 1, r => padL K (r / 10) ++ [48 + r % 10]
theorem padL_succ (K r : Nat) : padL (K + 1) r = padL K (r / 10) ++ [48 + r % 10] := rfl
theorem padL_len : ∀ K r, (padL K r).length = K
  | 0, _ => rfl
  | K + 1, r => by unfold padL; rw [List.length_append, padL_len K]; rfl
theorem num_split : ∀ (K m : Nat), 10 ^ K ≤ m → TL.numL m = TL.numL (m / 10 ^ K) ++ padL K (m % 10 ^ K)
  | 0, m, _ => by
    rw [Nat.pow_zero, Nat.div_one]
    show _ = TL.numL m ++ []
    rw [List.append_nil]
  | K + 1, m, h => by
    have e : 10 ^ (K + 1) = 10 * 10 ^ K := by rw [Nat.pow_succ, Nat.mul_comm]
    have hp : 0 < 10 ^ K := Nat.pow_pos (by decide)
    have h10 : 10 ≤ m := by
      rw [e] at h
      have := Nat.mul_le_mul_left 10 hp
      omega
    have ih := num_split K (m / 10) (by
      rw [e] at h
      exact (Nat.le_div_iff_mul_le (by decide)).mpr (by rw [Nat.mul_comm]; exact h))
    rw [TL.numL_step h10, ih, padL_succ]
    have e1 : m / 10 / 10 ^ K = m / 10 ^ (K + 1) := by rw [e, Nat.div_div_eq_div_mul]
    have e2 : m % 10 ^ (K + 1) / 10 = m / 10 % 10 ^ K := by rw [e, Nat.mod_mul_right_div_self]
    have e3 : m % 10 ^ (K + 1) % 10 = m % 10 := by rw [e, Nat.mod_mul_right_mod]
    rw [e1, e2, e3, List.append_assoc]
theorem padL_zero : ∀ K, padL K 0 = List.replicate K 48
  | 0 => rfl
  | K + 1 => by
    rw [padL_succ, Nat.zero_div, padL_zero K, Nat.zero_mod]
    exact (List.replicate_succ' ..).symm
theorem padL_num : ∀ (K r : Nat), r < 10 ^ (K + 1) → padL (K + 1) r = List.replicate (K + 1 - (TL.numL r).length) 48 ++ TL.numL r
  | K, r, h => by
    by_cases h9 : r < 10
    · have e : r / 10 = 0 := by omega
      have e2 : r % 10 = r := by omega
      rw [padL_succ, e, e2, padL_zero, TL.numL_lt h9]; rfl
    · cases K with
      | zero =>
        have h : r < 10 := h
        exact (h9 h).elim
      | succ K =>
        have ih := padL_num K (r / 10) (Nat.div_lt_of_lt_mul (by rw [Nat.pow_succ, Nat.mul_comm] at h; exact h))
        have e : K + 1 + 1 - (TL.numL (r / 10) ++ [48 + r % 10]).length = K + 1 - (TL.numL (r / 10)).length := by
          rw [List.length_append]
          simp only [List.length_singleton]
          omega
        rw [padL_succ, ih, TL.numL_step (n := r) (by omega), e, List.append_assoc]
theorem zfill_num {r : Nat} (h : r < 10 ^ 60) : Txt.zfill (numS r) 60 = SX.S (padL 60 r) := by
  rw [padL_num 59 r h]
  have hl : (TL.numL r).length ≤ 60 := num_len (by decide) h
  have sl : (numS r).length = (TL.numL r).length := by unfold numS; rw [SX.S_len]
  unfold Txt.zfill
  by_cases h60 : (60 : Int) ≤ ((numS r).length : Int)
  · have e : (TL.numL r).length = 60 := by omega
    rw [if_pos h60, e]; rfl
  · rw [if_neg h60]
    obtain ⟨c, t, ec⟩ : ∃ c t, TL.numL r = c :: t := by
      cases h : TL.numL r with
      | nil => exact (TL.numL_ne r h).elim
      | cons c t => exact ⟨c, t, rfl⟩
    have hc := num_dig (n := r) (c := c) (by rw [ec]; exact .head _)
    have h0 : (numS r).cps[0]? = some c := by
      unfold numS
      rw [ec]; rfl
    have e1 : (Int.toNat 60 - (numS r).length) = 59 + 1 - (TL.numL r).length := by rw [sl]; rfl
    unfold zfilled
    rw [h0, e1]
    split
    · rename_i q; cases q; omega
    · rename_i q; cases q; omega
    · refine str_ext ?_
      unfold numS
      simp [Builtin.Str.padded, SX.S]
theorem joinL_nil : ∀ ps : List (List Nat), TL.joinL [] ps = ps.flatten
  | [] => rfl
  | [p] => by rw [List.flatten_cons, List.flatten_nil, List.append_nil]; rfl
  | p :: q :: r => by
    rw [List.flatten_cons, ← joinL_nil (q :: r)]; rfl
theorem join_parts (ps : List (List Nat)) : Txt.join (Str.ofString "") (ps.map SX.S) = SX.S ps.flatten := by
  refine TL.ext_tl ?_
  rw [TL.join_eq, TL.tl_join, List.map_map, tl_SX]
  have e : TL.tl ∘ SX.S = id := funext tl_SX
  rw [e, List.map_id]
  exact joinL_nil ps
theorem flat_len {K : Nat} : ∀ {ps : List (List Nat)}, (∀ p ∈ ps, p.length = K) → ps.flatten.length = K * ps.length
  | [], _ => by simp
  | p :: ps, h => by
    rw [List.flatten_cons, List.length_append, h p (.head _), flat_len fun q hq => h q (.tail _ hq), List.length_cons, Nat.mul_succ]; omega
theorem big_len {n : Nat} (h : n < 2 ^ 10000) : (TL.numL n).length ≤ 3100 := num_len (by decide) (Nat.lt_of_lt_of_le h (by decide +kernel))
theorem big_lt {n : Nat} (h : n < 2 ^ 10000) : n < 10 ^ 4300 := Nat.lt_of_lt_of_le h (by decide +kernel)
theorem figB_len {r : Rat} (h : Sz 10000 r) : (figL r).length ≤ 6300 := by
  have h1 := big_len h.1
  have h2 := big_len h.2
  unfold figL ntL sgnL
  split <;> split <;> simp only [List.length_append, List.length_cons, List.length_nil] <;> omega
theorem frI (x : Int) : frD ((x : Int) : Rat) = .tuple [.int x, .int 1] := rfl
theorem cut_lenS (s : Str) (lo hi : Option Int) : (cutS s lo hi).length ≤ s.length := by
  have e := S_tl s
  generalize TL.tl s = l at e
  subst e
  rw [cutS_S, SX.S_len, SX.S_len]
  exact cut_le _ _ _
theorem part_lenS (s : Str) : ∃ x y z : Str, Txt.partition s (Str.ofString "/") = (x, y, z) ∧ x.length ≤ s.length ∧ z.length ≤ s.length := by
  have e := S_tl s
  generalize TL.tl s = l at e
  subst e
  by_cases h47 : 47 ∈ l
  · obtain ⟨a, b, e, ha⟩ := first47 h47
    have := TL.partition_app (y := Str.ofString "/") (s := 47) (S := []) rfl (a := SX.S a) (b := SX.S b) (by rw [tl_SX]; exact ha)
    rw [show Str.ofString "/" = SX.S [47] from rfl, S_cat, S_cat] at this
    have e2 : a ++ [47] ++ b = l := by rw [e, List.append_assoc]; rfl
    rw [e2] at this
    refine ⟨_, _, _, this, ?_, ?_⟩
    · rw [SX.S_len, SX.S_len, ← e2]; simp
    · rw [SX.S_len, SX.S_len, ← e2]; simp; omega
  · exact ⟨_, _, _, TL.partition_none (s := 47) (S := []) rfl (by rw [tl_SX]; exact h47), Nat.le_refl _, Nat.zero_le _⟩
theorem rdL_odd {d : PyData} (h : ∀ s, d ≠ .str s) : rdL d = [.str (Str.ofString "refused"), .bool true] := by
  unfold rdL
  cases d
  case str s => exact (h s rfl).elim
  all_goals rfl

def sumN : Nat → (Nat → Rat) → Rat
  | 0, _ => 0
  | n + 1, f => sumN n f + f n
theorem sumN_congr {f g : Nat → Rat} : ∀ {n : Nat}, (∀ k, k < n → f k = g k) → sumN n f = sumN n g
  | 0, _ => rfl
  | n + 1, h => by
    show sumN n f + f n = sumN n g + g n
    rw [sumN_congr fun k hk => h k (by omega), h n (by omega)]
theorem sumN_add (f g : Nat → Rat) : ∀ n, sumN n (fun k => f k + g k) = sumN n f + sumN n g
  | 0 => by show (0 : Rat) = 0 + 0; grind
  | n + 1 => by
    show sumN n (fun k => f k + g k) + (f n + g n) = (sumN n f + f n) + (sumN n g + g n)
    rw [sumN_add f g n]; grind
theorem sumN_mul (c : Rat) (f : Nat → Rat) : ∀ n, sumN n (fun k => c * f k) = c * sumN n f
  | 0 => by simp [sumN]
  | n + 1 => by
    show sumN n (fun k => c * f k) + c * f n = c * (sumN n f + f n)
    rw [sumN_mul c f n]; grind
theorem sumN_zero {f : Nat → Rat} {n : Nat} (h : ∀ k, k < n → f k = 0) : sumN n f = 0 := by
  induction n with
  | zero => rfl
  | succ n ih =>
    show sumN n f + f n = 0
    rw [ih fun k hk => h k (by omega), h n (by omega)]; grind
theorem sumN_nonneg {f : Nat → Rat} : ∀ {n : Nat}, (∀ k, k < n → 0 ≤ f k) → 0 ≤ sumN n f
  | 0, _ => by show (0 : Rat) ≤ 0; grind
  | n + 1, h => by
    have h1 := sumN_nonneg (n := n) fun k hk => h k (by omega)
    have h2 := h n (by omega)
    show 0 ≤ sumN n f + f n
    grind
theorem sumN_out {f : Nat → Rat} {r : Nat} : ∀ {n : Nat}, r < n → sumN n f = sumN n (fun k => if k = r then 0 else f k) + f r
  | 0, h => by omega
  | n + 1, h => by
    show sumN n f + f n = (sumN n (fun k => if k = r then 0 else f k) + (if n = r then 0 else f n)) + f r
    by_cases e : n = r
    · subst e
      rw [if_pos rfl, sumN_congr (f := fun k => if k = n then 0 else f k) (g := f) fun k hk => if_neg (by omega)]
      grind
    · rw [if_neg e, sumN_out (n := n) (r := r) (by omega)]
      grind
theorem sumN_one {f : Nat → Rat} {r n : Nat} (h : r < n) (z : ∀ k, k < n → k ≠ r → f k = 0) : sumN n f = f r := by
  rw [sumN_out h, sumN_zero]
  · grind
  · intro k hk
    by_cases e : k = r
    · rw [if_pos e]
    · rw [if_neg e]; exact z k hk e
theorem sumN_swap (f : Nat → Nat → Rat) (n : Nat) : ∀ m, sumN m (fun i => sumN n (fun j => f i j)) = sumN n (fun j => sumN m (fun i => f i j))
  | 0 => by
    show (0 : Rat) = _
    rw [sumN_zero (f := fun j => sumN 0 fun i => f i j)]
    intro k _; rfl
  | m + 1 => by
    show sumN m (fun i => sumN n (fun j => f i j)) + sumN n (fun j => f m j) = sumN n (fun j => sumN m (fun i => f i j) + f m j)
    rw [sumN_swap f n m, sumN_add]
theorem sumN_pos {f : Nat → Rat} : ∀ {n : Nat}, 0 < sumN n f → ∃ k, k < n ∧ 0 < f k
  | 0, h => by
    have h : (0 : Rat) < 0 := h
    grind
  | n + 1, h => by
    have h : 0 < sumN n f + f n := h
    by_cases z : 0 < f n
    · exact ⟨n, by omega, z⟩
    · obtain ⟨k, h1, h2⟩ := sumN_pos (f := f) (n := n) (by grind)
      exact ⟨k, by omega, h2⟩
structure Tab where
  T : Nat → Nat → Rat
  z : Nat → Rat
  own : Nat → Nat
structure Dims where
  m : Nat
  N : Nat
  A : Nat → Nat → Rat
  c : Nat → Rat
  u : Nat → Nat
structure Good0 (D : Dims) (S : Tab) : Prop where
  lt : ∀ i, i < D.m → S.own i < D.N
  id : ∀ i j, i < D.m → j < D.m → S.T i (S.own j) = if i = j then 1 else 0
  z0 : ∀ i, i < D.m → S.z (S.own i) = 0
  col : ∀ k j, k < D.m → j ≤ D.N → D.A k j = sumN D.m fun i => D.A k (S.own i) * S.T i j
  rows : ∃ R : Nat → Nat → Rat, ∀ i j, i < D.m → j ≤ D.N → S.T i j = sumN D.m fun k => R i k * D.A k j
  row : ∃ y : Nat → Rat, ∀ j, j ≤ D.N → S.z j = D.c j + sumN D.m fun k => y k * D.A k j
  pos : ∀ i, i < D.m → 0 ≤ S.T i D.N
structure Enters (D : Dims) (S : Tab) (s : Nat) : Prop where
  lt : s < D.N
  neg : S.z s < 0
  first : ∀ j, j < s → 0 ≤ S.z j
structure Leaves (D : Dims) (S : Tab) (s r : Nat) : Prop where
  lt : r < D.m
  pos : 0 < S.T r s
  least : ∀ i, i < D.m → 0 < S.T i s → S.T r D.N * S.T i s ≤ S.T i D.N * S.T r s
  tie : ∀ i, i < D.m → 0 < S.T i s → S.T r D.N * S.T i s = S.T i D.N * S.T r s → S.own r ≤ S.own i
def Tab.step (S : Tab) (s r : Nat) : Tab where
  T := fun i j => if i = r then S.T r j / S.T r s else S.T i j - S.T i s * (S.T r j / S.T r s)
  z := fun j => S.z j - S.z s * (S.T r j / S.T r s)
  own := fun i => if i = r then s else S.own i
theorem div_self' {a : Rat} (h : a ≠ 0) : a / a = 1 := by rw [Rat.div_def]; exact Rat.mul_inv_cancel a h
theorem mul_div' {a b : Rat} (h : a ≠ 0) : a * (b / a) = b := by
  rw [Rat.div_def, Rat.mul_comm b, ← Rat.mul_assoc, Rat.mul_inv_cancel a h, Rat.one_mul]
theorem zero_div' (a : Rat) : 0 / a = 0 := by rw [Rat.div_def, Rat.zero_mul]
theorem div_nonneg' {a b : Rat} (h : 0 ≤ a) (h' : 0 < b) : 0 ≤ a / b := by
  rw [Rat.div_def]; exact Rat.mul_nonneg h (Rat.le_of_lt (Rat.inv_pos.mpr h'))
theorem Enters.out {D : Dims} {S : Tab} {s : Nat} (g : Good0 D S) (e : Enters D S s) : ∀ i, i < D.m → S.own i ≠ s := fun i hi h => by
  have := g.z0 i hi
  rw [h] at this
  have := e.neg
  grind
theorem step_good {D : Dims} {S : Tab} {s r : Nat} (g : Good0 D S) (e : Enters D S s) (l : Leaves D S s r) : Good0 D (S.step s r) := by
  have p0 : S.T r s ≠ 0 := by have := l.pos; grind
  have out := e.out g
  refine ⟨fun i hi => ?_, fun i j hi hj => ?_, fun i hi => ?_, fun k j hk hj => ?_, ?_, ?_, fun i hi => ?_⟩
  · show (if i = r then s else S.own i) < D.N
    split
    · exact e.lt
    · exact g.lt i hi
  · show (if i = r then S.T r (if j = r then s else S.own j) / S.T r s else S.T i (if j = r then s else S.own j) - S.T i s * (S.T r (if j = r then s else S.own j) / S.T r s)) = if i = j then 1 else 0
    by_cases hj' : j = r
    · rw [if_pos hj']
      by_cases hi' : i = r
      · rw [if_pos hi', hi', hj', if_pos rfl]; exact div_self' p0
      · rw [if_neg hi', hj', if_neg hi', div_self' p0]; grind
    · rw [if_neg hj', g.id r j l.lt hj, if_neg (fun z => hj' z.symm : ¬ r = j), zero_div']
      by_cases hi' : i = r
      · rw [if_pos hi', hi', if_neg fun z => hj' z.symm]
      · rw [if_neg hi', g.id i j hi hj]; grind
  · show S.z (if i = r then s else S.own i) - S.z s * (S.T r (if i = r then s else S.own i) / S.T r s) = 0
    by_cases hi' : i = r
    · rw [if_pos hi', div_self' p0]; grind
    · rw [if_neg hi', g.z0 i hi, g.id r i l.lt hi, if_neg fun z => hi' z.symm, zero_div']; grind
  · rw [g.col k j hk hj, sumN_out l.lt]
    conv => rhs; rw [sumN_out l.lt]
    have e1 : D.A k s = sumN D.m (fun i => if i = r then 0 else D.A k (S.own i) * S.T i s) + D.A k (S.own r) * S.T r s := by
      rw [g.col k s hk (Nat.le_of_lt e.lt), sumN_out l.lt]
    have e2 : sumN D.m (fun i => if i = r then 0 else D.A k ((S.step s r).own i) * (S.step s r).T i j) = sumN D.m (fun i => (if i = r then 0 else D.A k (S.own i) * S.T i j) + (-(S.T r j / S.T r s)) * (if i = r then 0 else D.A k (S.own i) * S.T i s)) := by
      refine sumN_congr fun i hi => ?_
      by_cases hi' : i = r
      · rw [if_pos hi', if_pos hi', if_pos hi']; grind
      · rw [if_neg hi', if_neg hi', if_neg hi']
        show D.A k (if i = r then s else S.own i) * (if i = r then _ else S.T i j - S.T i s * (S.T r j / S.T r s)) = _
        rw [if_neg hi', if_neg hi']; grind
    rw [e2, sumN_add, sumN_mul]
    have e3 : (S.step s r).own r = s := if_pos rfl
    have e4 : (S.step s r).T r j = S.T r j / S.T r s := if_pos rfl
    rw [e3, e4]
    generalize sumN D.m (fun i => if i = r then 0 else D.A k (S.own i) * S.T i j) = X
    generalize hY : sumN D.m (fun i => if i = r then 0 else D.A k (S.own i) * S.T i s) = Y at e1
    have e5 : S.T r s * (S.T r j / S.T r s) = S.T r j := mul_div' p0
    generalize S.T r j / S.T r s = q at e5 ⊢
    rw [e1, ← e5]
    grind
  · obtain ⟨R, hR⟩ := g.rows
    refine ⟨fun i k => if i = r then R r k / S.T r s else R i k - S.T i s * (R r k / S.T r s), fun i j hi hj => ?_⟩
    show (if i = r then S.T r j / S.T r s else S.T i j - S.T i s * (S.T r j / S.T r s)) = _
    by_cases hi' : i = r
    · rw [if_pos hi', hR r j l.lt hj]
      rw [sumN_congr (f := fun k => (if i = r then _ else _) * _) (g := fun k => (S.T r s)⁻¹ * (R r k * D.A k j)) fun k _ => by rw [if_pos hi', Rat.div_def]; grind]
      rw [sumN_mul, Rat.div_def]; grind
    · rw [if_neg hi', hR i j hi hj, hR r j l.lt hj]
      rw [sumN_congr (f := fun k => (if i = r then _ else _) * _) (g := fun k => R i k * D.A k j + (-(S.T i s * (S.T r s)⁻¹)) * (R r k * D.A k j)) fun k _ => by rw [if_neg hi', Rat.div_def]; grind]
      rw [sumN_add, sumN_mul, Rat.div_def]; grind
  · obtain ⟨y, hy⟩ := g.row
    obtain ⟨R, hR⟩ := g.rows
    refine ⟨fun k => y k - (S.z s / S.T r s) * R r k, fun j hj => ?_⟩
    show S.z j - S.z s * (S.T r j / S.T r s) = _
    have e1 : sumN D.m (fun k => (y k - S.z s / S.T r s * R r k) * D.A k j) = sumN D.m (fun k => y k * D.A k j + (-(S.z s / S.T r s)) * (R r k * D.A k j)) := sumN_congr fun k _ => by grind
    rw [e1, sumN_add, sumN_mul, hy j hj, ← hR r j l.lt hj, Rat.div_def, Rat.div_def]
    grind
  · show 0 ≤ (if i = r then S.T r D.N / S.T r s else S.T i D.N - S.T i s * (S.T r D.N / S.T r s))
    split
    · exact div_nonneg' (g.pos r l.lt) l.pos
    · by_cases z : 0 < S.T i s
      · have h1 := l.least i hi z
        have h2 := mul_div' (b := S.T r D.N) p0
        have h3 := div_nonneg' (g.pos r l.lt) l.pos
        have lp := l.pos
        generalize S.T r D.N / S.T r s = q at h2 h3 ⊢
        rw [← h2] at h1
        have h4 : S.T r s * (S.T i s * q) ≤ S.T r s * S.T i D.N := by grind
        have := Rat.le_of_mul_le_mul_left h4 lp
        grind
      · have h1 := g.pos i hi
        have h3 := div_nonneg' (g.pos r l.lt) l.pos
        have h4 : 0 ≤ (- S.T i s) * (S.T r D.N / S.T r s) := Rat.mul_nonneg (by grind) h3
        grind
def Tab.at (D : Dims) (S : Tab) (j : Nat) : Rat := sumN D.m fun i => if S.own i = j then S.T i D.N else 0
theorem Good0.inj {D : Dims} {S : Tab} (g : Good0 D S) {i j : Nat} (hi : i < D.m) (hj : j < D.m) (h : S.own i = S.own j) : i = j := by
  have h1 := g.id i i hi hi
  rw [if_pos rfl, h, g.id i j hi hj] at h1
  by_cases e : i = j
  · exact e
  · rw [if_neg e] at h1; grind
theorem at_own {D : Dims} {S : Tab} (g : Good0 D S) {i : Nat} (hi : i < D.m) : S.at D (S.own i) = S.T i D.N := by
  unfold Tab.at
  rw [sumN_one hi, if_pos rfl]
  intro k hk ne
  rw [if_neg]
  intro h
  exact ne (g.inj hk hi h)
theorem at_out {D : Dims} {S : Tab} {j : Nat} (h : ∀ i, i < D.m → S.own i ≠ j) : S.at D j = 0 := sumN_zero fun i hi => if_neg (h i hi)
theorem cost_eq {D : Dims} {S U : Tab} (g : Good0 D S) (g' : Good0 D U) {j : Nat} (hj : j ≤ D.N) : S.z j - U.z j = - sumN D.m fun i => U.z (S.own i) * S.T i j := by
  obtain ⟨y, hy⟩ := g.row
  obtain ⟨w, hw⟩ := g'.row
  have lin : ∀ j, j ≤ D.N → S.z j - U.z j = sumN D.m fun k => (y k - w k) * D.A k j := fun j hj => by
    rw [hy j hj, hw j hj, sumN_congr (f := fun k => (y k - w k) * D.A k j) (g := fun k => y k * D.A k j + (-1) * (w k * D.A k j)) fun k _ => by grind, sumN_add, sumN_mul]
    grind
  rw [lin j hj]
  rw [sumN_congr (g := fun k => sumN D.m fun i => ((y k - w k) * D.A k (S.own i)) * S.T i j) fun k hk => by
    rw [g.col k j hk hj, ← sumN_mul]; exact sumN_congr fun i _ => by grind]
  rw [sumN_swap]
  rw [sumN_congr (g := fun i => (-1) * (U.z (S.own i) * S.T i j)) fun i hi => by
    rw [sumN_congr (g := fun k => S.T i j * ((y k - w k) * D.A k (S.own i))) fun k _ => by grind, sumN_mul, ← lin _ (Nat.le_of_lt (g.lt i hi)), g.z0 i hi]; grind]
  rw [sumN_mul]; grind
theorem bland {D : Dims} {S U : Tab} {s r t : Nat} (g : Good0 D S) (g' : Good0 D U) (e : Enters D S s) (l : Leaves D S s r) (ht : S.own r = t) (e' : Enters D U t) (hst : s < t)
    (same : ∀ j, j < D.N → S.at D j = U.at D j) (deg : S.T r D.N = 0) (up : ∀ j, t < j → j < D.N → (∃ i, i < D.m ∧ S.own i = j) → ∃ i, i < D.m ∧ U.own i = j) : False := by
  have h1 := cost_eq g g' (Nat.le_of_lt e.lt)
  have h2 := e.neg
  have h3 := e'.first s hst
  obtain ⟨i, hi, hp⟩ := sumN_pos (f := fun i => U.z (S.own i) * S.T i s) (n := D.m) (by grind)
  have zi : U.z (S.own i) ≠ 0 := fun z => by rw [z] at hp; grind
  have nb : ∀ i', i' < D.m → U.own i' ≠ S.own i := fun i' hi' z => zi (by rw [← z]; exact g'.z0 i' hi')
  rcases Nat.lt_trichotomy (S.own i) t with z | z | z
  · have q := e'.first _ z
    have T0 : 0 < S.T i s := by
      by_cases c : 0 < S.T i s
      · exact c
      · have : 0 ≤ U.z (S.own i) * (- S.T i s) := Rat.mul_nonneg q (by grind)
        grind
    have x0 : S.T i D.N = 0 := by
      rw [← at_own g hi, same _ (g.lt i hi)]
      exact at_out nb
    have := l.tie i hi T0 (by rw [x0, deg]; grind)
    omega
  · have : i = r := g.inj hi l.lt (z.trans ht.symm)
    subst this
    rw [z] at hp
    have a := e'.neg
    have b := l.pos
    have : 0 ≤ (- U.z t) * S.T i s := Rat.mul_nonneg (by grind) (by grind)
    grind
  · obtain ⟨i', hi', h⟩ := up _ z (g.lt i hi) ⟨i, hi, rfl⟩
    exact nb i' hi' h
theorem step_at {D : Dims} {S : Tab} {s r : Nat} (g : Good0 D S) (e : Enters D S s) (l : Leaves D S s r) (deg : S.T r D.N = 0) (j : Nat) : (S.step s r).at D j = S.at D j := by
  have g2 := step_good g e l
  have own2 : ∀ i, (S.step s r).own i = if i = r then s else S.own i := fun i => rfl
  have T2 : ∀ i, (S.step s r).T i D.N = if i = r then 0 else S.T i D.N := fun i => by
    show (if i = r then S.T r D.N / S.T r s else S.T i D.N - S.T i s * (S.T r D.N / S.T r s)) = _
    rw [deg, zero_div']
    split
    · rfl
    · grind
  unfold Tab.at
  refine sumN_congr fun i hi => ?_
  rw [own2, T2]
  by_cases h : i = r
  · rw [if_pos h, if_pos h, h, deg]; simp
  · rw [if_neg h, if_neg h]
theorem bounded {D : Dims} {S : Tab} {s : Nat} (g : Good0 D S) (e : Enters D S s) (y : Nat → Rat) (hy : ∀ j, j < D.N → 0 ≤ D.c j + sumN D.m fun k => y k * D.A k j) : ∃ i, i < D.m ∧ 0 < S.T i s := by
  by_cases h : ∃ i, i < D.m ∧ 0 < S.T i s
  · exact h
  exfalso
  have neg : ∀ i, i < D.m → S.T i s ≤ 0 := fun i hi => by
    by_cases z : 0 < S.T i s
    · exact absurd ⟨i, hi, z⟩ h
    · grind
  obtain ⟨v, hv⟩ := g.row
  have lin : ∀ j, j ≤ D.N → D.c j + (sumN D.m fun k => y k * D.A k j) = S.z j + sumN D.m fun k => (y k - v k) * D.A k j := fun j hj => by
    rw [hv j hj, sumN_congr (f := fun k => (y k - v k) * D.A k j) (g := fun k => y k * D.A k j + (-1) * (v k * D.A k j)) fun k _ => by grind, sumN_add, sumN_mul]
    grind
  have e1 : (sumN D.m fun k => (y k - v k) * D.A k s) = sumN D.m fun i => S.T i s * (D.c (S.own i) + sumN D.m fun k => y k * D.A k (S.own i)) := by
    rw [sumN_congr (g := fun k => sumN D.m fun i => ((y k - v k) * D.A k (S.own i)) * S.T i s) fun k hk => by
      rw [g.col k s hk (Nat.le_of_lt e.lt), ← sumN_mul]; exact sumN_congr fun i _ => by grind]
    rw [sumN_swap]
    refine sumN_congr fun i hi => ?_
    rw [lin _ (Nat.le_of_lt (g.lt i hi)), g.z0 i hi, sumN_congr (g := fun k => S.T i s * ((y k - v k) * D.A k (S.own i))) fun k _ => by grind, sumN_mul]; grind
  have e2 := lin s (Nat.le_of_lt e.lt)
  have e3 := hy s e.lt
  have e4 : 0 ≤ sumN D.m fun i => (- S.T i s) * (D.c (S.own i) + sumN D.m fun k => y k * D.A k (S.own i)) := sumN_nonneg fun i hi => Rat.mul_nonneg (by have := neg i hi; grind) (hy _ (g.lt i hi))
  rw [sumN_congr (g := fun i => (-1) * (S.T i s * (D.c (S.own i) + sumN D.m fun k => y k * D.A k (S.own i)))) fun i _ => by grind, sumN_mul] at e4
  have := e.neg
  grind

theorem again {P : Nat → Prop} (f : Nat → Nat) : ∀ M : Nat, (∀ k, P k → f k < M) → (∀ n, ∃ k, n ≤ k ∧ P k) → ∃ c, ∀ n, ∃ k, n ≤ k ∧ P k ∧ f k = c
  | 0, h, hi => by
    obtain ⟨k, _, hk⟩ := hi 0
    exact absurd (h k hk) (Nat.not_lt_zero _)
  | M + 1, h, hi => by
    by_cases c : ∀ n, ∃ k, n ≤ k ∧ P k ∧ f k = M
    · exact ⟨M, c⟩
    · have : ∃ n0, ∀ k, n0 ≤ k → P k → f k ≠ M := by
        refine Classical.byContradiction fun z => c fun n => ?_
        refine Classical.byContradiction fun y => z ⟨n, fun k hk hp e => y ⟨k, hk, hp, e⟩⟩
      obtain ⟨n0, h0⟩ := this
      obtain ⟨c, hc⟩ := again (P := fun k => P k ∧ n0 ≤ k) f M (fun k hk => by
        have := h k hk.1
        have := h0 k hk.2 hk.1
        omega) (fun n => by
        obtain ⟨k, h1, h2⟩ := hi (n + n0)
        exact ⟨k, by omega, h2, by omega⟩)
      exact ⟨c, fun n => by obtain ⟨k, h1, h2, h3⟩ := hc n; exact ⟨k, h1, h2.1, h3⟩⟩
theorem agains (o : Nat → Nat → Nat) (M : Nat) : ∀ m : Nat, (∀ k i, i < m → o k i < M) → ∃ c : Nat → Nat, ∀ n, ∃ k, n ≤ k ∧ ∀ i, i < m → o k i = c i
  | 0, _ => ⟨fun _ => 0, fun n => ⟨n, Nat.le_refl _, fun i h => absurd h (Nat.not_lt_zero _)⟩⟩
  | m + 1, h => by
    obtain ⟨c, hc⟩ := agains o M m fun k i hi => h k i (by omega)
    obtain ⟨d, hd⟩ := again (P := fun k => ∀ i, i < m → o k i = c i) (fun k => o k m) M (fun k _ => h k m (by omega)) hc
    refine ⟨fun i => if i = m then d else c i, fun n => ?_⟩
    obtain ⟨k, h1, h2, h3⟩ := hd n
    refine ⟨k, h1, fun i hi => ?_⟩
    dsimp only
    by_cases e : i = m
    · rw [if_pos e, e]; exact h3
    · rw [if_neg e]; exact h2 i (by omega)
theorem same_z {D : Dims} {S U : Tab} (g : Good0 D S) (g' : Good0 D U) (h : ∀ i, i < D.m → S.own i = U.own i) {j : Nat} (hj : j ≤ D.N) : S.z j = U.z j := by
  have := cost_eq g g' hj
  rw [sumN_zero fun i hi => by rw [h i hi, g'.z0 i hi]; grind] at this
  grind
def InB (D : Dims) (S : Tab) (j : Nat) : Prop := ∃ i, i < D.m ∧ S.own i = j
structure Run (D : Dims) (S : Nat → Tab) (s r : Nat → Nat) : Prop where
  good : ∀ k, Good0 D (S k)
  ent : ∀ k, Enters D (S k) (s k)
  lea : ∀ k, Leaves D (S k) (s k) (r k)
  nxt : ∀ k, S (k + 1) = (S k).step (s k) (r k)
section
variable {D : Dims} {S : Nat → Tab} {s r : Nat → Nat}
theorem Run.own_nx (R : Run D S s r) (k i : Nat) : (S (k + 1)).own i = if i = r k then s k else (S k).own i := by rw [R.nxt k]; rfl
theorem Run.comes (R : Run D S s r) {j : Nat} : ∀ {d a : Nat}, ¬ InB D (S a) j → InB D (S (a + d)) j → ∃ k, a ≤ k ∧ k < a + d ∧ s k = j
  | 0, a, h, h' => absurd h' h
  | d + 1, a, h, h' => by
    by_cases c : InB D (S (a + d)) j
    · obtain ⟨k, h1, h2, h3⟩ := R.comes h c
      exact ⟨k, h1, by omega, h3⟩
    · obtain ⟨i, hi, e⟩ := h'
      rw [show a + (d + 1) = (a + d) + 1 from rfl, R.own_nx] at e
      split at e
      · exact ⟨a + d, by omega, by omega, e⟩
      · exact absurd ⟨i, hi, e⟩ c
theorem Run.goes (R : Run D S s r) {j : Nat} : ∀ {d a : Nat}, InB D (S a) j → ¬ InB D (S (a + d)) j → ∃ k, a ≤ k ∧ k < a + d ∧ (S k).own (r k) = j
  | 0, a, h, h' => absurd h h'
  | d + 1, a, h, h' => by
    by_cases c : InB D (S (a + d)) j
    · obtain ⟨i, hi, e⟩ := c
      by_cases q : i = r (a + d)
      · exact ⟨a + d, by omega, by omega, by rw [← q]; exact e⟩
      · exact absurd ⟨i, hi, by rw [show a + (d + 1) = (a + d) + 1 from rfl, R.own_nx, if_neg q]; exact e⟩ h'
    · obtain ⟨k, h1, h2, h3⟩ := R.goes h c
      exact ⟨k, h1, by omega, h3⟩
theorem Run.up (R : Run D S s r) (k : Nat) : (S k).z D.N ≤ (S (k + 1)).z D.N ∧ ((S k).z D.N = (S (k + 1)).z D.N → (S k).T (r k) D.N = 0) := by
  have h1 := (R.ent k).neg
  have h2 := (R.lea k).pos
  have h3 := (R.good k).pos _ (R.lea k).lt
  have h4 := div_nonneg' h3 h2
  have e : (S (k + 1)).z D.N = (S k).z D.N - (S k).z (s k) * ((S k).T (r k) D.N / (S k).T (r k) (s k)) := by rw [R.nxt k]; rfl
  have h5 : 0 ≤ (- (S k).z (s k)) * ((S k).T (r k) D.N / (S k).T (r k) (s k)) := Rat.mul_nonneg (by grind) h4
  refine ⟨by rw [e]; grind, fun q => ?_⟩
  rw [e] at q
  have h6 : (S k).z (s k) * ((S k).T (r k) D.N / (S k).T (r k) (s k)) = 0 := by grind
  rcases Rat.mul_eq_zero.mp h6 with z | z
  · grind
  · have := mul_div' (b := (S k).T (r k) D.N) (show (S k).T (r k) (s k) ≠ 0 by grind)
    rw [z] at this
    grind
theorem Run.up_to (R : Run D S s r) (a : Nat) : ∀ d, (S a).z D.N ≤ (S (a + d)).z D.N
  | 0 => Rat.le_refl
  | d + 1 => Rat.le_trans (R.up_to a d) (R.up (a + d)).1
theorem Run.flat (R : Run D S s r) {a b : Nat} (hz : (S a).z D.N = (S b).z D.N) {k : Nat} (h1 : a ≤ k) (h2 : k < b) : (S k).T (r k) D.N = 0 := by
  refine (R.up k).2 ?_
  have u1 := R.up_to a (k - a)
  have u2 := R.up_to (k + 1) (b - (k + 1))
  rw [show a + (k - a) = k by omega] at u1
  rw [show k + 1 + (b - (k + 1)) = b by omega] at u2
  have u3 := (R.up k).1
  grind
theorem Run.still (R : Run D S s r) {a b : Nat} (hz : (S a).z D.N = (S b).z D.N) {j : Nat} : ∀ d, a + d ≤ b → (S (a + d)).at D j = (S a).at D j
  | 0, _ => rfl
  | d + 1, h => by
    rw [show a + (d + 1) = (a + d) + 1 from rfl, R.nxt (a + d), step_at (R.good _) (R.ent _) (R.lea _) (R.flat hz (by omega) (by omega)), R.still hz d (by omega)]
theorem top_of (s : Nat → Nat) (a : Nat) : ∀ d, 0 < d → ∃ q, a ≤ q ∧ q < a + d ∧ ∀ k, a ≤ k → k < a + d → s k ≤ s q
  | 0, h => absurd h (Nat.lt_irrefl _)
  | d + 1, _ => by
    by_cases z : d = 0
    · subst z
      exact ⟨a, Nat.le_refl _, by omega, fun k h1 h2 => by rw [show k = a by omega]; exact Nat.le_refl _⟩
    · obtain ⟨q, h1, h2, h3⟩ := top_of s a d (by omega)
      by_cases c : s q ≤ s (a + d)
      · exact ⟨a + d, by omega, by omega, fun k k1 k2 => by
          by_cases e : k = a + d
          · rw [e]; exact Nat.le_refl _
          · exact Nat.le_trans (h3 k k1 (by omega)) c⟩
      · exact ⟨q, h1, by omega, fun k k1 k2 => by
          by_cases e : k = a + d
          · rw [e]; omega
          · exact h3 k k1 (by omega)⟩
theorem Run.ends (R : Run D S s r) : False := by
  obtain ⟨c, hc⟩ := agains (fun k i => (S k).own i) D.N D.m fun k i hi => (R.good k).lt i hi
  obtain ⟨a, _, ha⟩ := hc 0
  obtain ⟨b, hab, hb⟩ := hc (a + 1)
  obtain ⟨d, rfl⟩ := Nat.exists_eq_add_of_le (show a ≤ b by omega)
  have hd : 0 < d := by omega
  have ho : ∀ i, i < D.m → (S a).own i = (S (a + d)).own i := fun i hi => by rw [ha i hi, hb i hi]
  have hB : ∀ j, InB D (S a) j ↔ InB D (S (a + d)) j := fun j => ⟨fun ⟨i, h1, h2⟩ => ⟨i, h1, by rw [← ho i h1]; exact h2⟩, fun ⟨i, h1, h2⟩ => ⟨i, h1, by rw [ho i h1]; exact h2⟩⟩
  have hz := same_z (R.good a) (R.good (a + d)) ho (Nat.le_refl D.N)
  obtain ⟨q, q1, q2, q3⟩ := top_of s a d hd
  have out : ¬ InB D (S q) (s q) := fun ⟨i, h1, h2⟩ => (R.ent q).out (R.good q) i h1 h2
  have inn : InB D (S (q + 1)) (s q) := ⟨r q, (R.lea q).lt, by rw [R.own_nx, if_pos rfl]⟩
  -- it goes somewhere, too
  obtain ⟨p, p1, p2, p3⟩ : ∃ p, a ≤ p ∧ p < a + d ∧ (S p).own (r p) = s q := by
    by_cases z : InB D (S a) (s q)
    · obtain ⟨p, h1, h2, h3⟩ := R.goes (d := q - a) z (by rw [show a + (q - a) = q by omega]; exact out)
      exact ⟨p, h1, by omega, h3⟩
    · obtain ⟨p, h1, h2, h3⟩ := R.goes (a := q + 1) (d := a + d - (q + 1)) inn (by rw [show q + 1 + (a + d - (q + 1)) = a + d by omega, ← hB]; exact z)
      exact ⟨p, by omega, by omega, h3⟩
  have ne : s p ≠ s q := fun e => (R.ent p).out (R.good p) (r p) (R.lea p).lt (by rw [p3, e])
  have lt : s p < s q := by have := q3 p p1 p2; omega
  refine bland (R.good p) (R.good q) (R.ent p) (R.lea p) p3 (R.ent q) lt (fun j _ => ?_) (R.flat hz p1 p2) (fun j hj hN hin => ?_)
  · have e1 := R.still hz (j := j) (p - a) (by omega)
    have e2 := R.still hz (j := j) (q - a) (by omega)
    rw [show a + (p - a) = p by omega] at e1
    rw [show a + (q - a) = q by omega] at e2
    rw [e1, e2]
  · refine Classical.byContradiction fun nin => ?_
    by_cases z : InB D (S a) j
    · obtain ⟨k, k1, k2, k3⟩ := R.comes (a := q) (d := a + d - q) nin (by rw [show q + (a + d - q) = a + d by omega, ← hB]; exact z)
      have := q3 k (by omega) (by omega)
      omega
    · obtain ⟨k, k1, k2, k3⟩ := R.comes (d := p - a) z (by rw [show a + (p - a) = p by omega]; exact hin)
      have := q3 k (by omega) (by omega)
      omega
end

theorem sumN_abs {B : Nat} : ∀ {m : Nat} {f : Nat → Int}, (∀ i, i < m → (f i).natAbs ≤ B) → ∃ c : Int, sumN m (fun i => ((f i : Int) : Rat)) = (c : Rat) ∧ c.natAbs ≤ m * B
  | 0, _, _ => ⟨0, rfl, Nat.zero_le _⟩
  | m + 1, f, h => by
    obtain ⟨c, h1, h2⟩ := sumN_abs (m := m) (f := f) fun i hi => h i (by omega)
    have h3 := h m (by omega)
    refine ⟨c + f m, ?_, ?_⟩
    · show sumN m (fun i => ((f i : Int) : Rat)) + ((f m : Int) : Rat) = _
      rw [h1, Rat.intCast_add]
    · rw [Nat.succ_mul]
      have := Int.natAbs_add_le c (f m)
      omega
def skp (i r : Nat) : Nat := if r < i then r else r + 1
def sgn (i : Nat) : Rat := if i % 2 = 0 then 1 else -1
def det : Nat → (Nat → Nat → Rat) → Rat
  | 0, _ => 1
  | n + 1, M => sumN (n + 1) fun i => sgn i * (M i 0 * det n fun r c => M (skp i r) (c + 1))
theorem sgn_succ (i : Nat) : sgn (i + 1) = - sgn i := by
  unfold sgn
  by_cases h : i % 2 = 0
  · rw [if_pos h, if_neg (by omega)]
  · rw [if_neg h, if_pos (by omega)]; grind
theorem det_congr : ∀ {n : Nat} {M N : Nat → Nat → Rat}, (∀ r c, r < n → c < n → M r c = N r c) → det n M = det n N
  | 0, _, _, _ => rfl
  | n + 1, M, N, h => by
    show sumN (n + 1) _ = sumN (n + 1) _
    refine sumN_congr fun i hi => ?_
    rw [h i 0 hi (by omega), det_congr (n := n) (M := fun r c => M (skp i r) (c + 1)) (N := fun r c => N (skp i r) (c + 1)) fun r c hr hc => h _ _ (by unfold skp; split <;> omega) (by omega)]
def rwM (k : Nat) (u : Nat → Rat) (M : Nat → Nat → Rat) : Nat → Nat → Rat := fun r => if r = k then u else M r
theorem rwM_at (k : Nat) (u : Nat → Rat) (M : Nat → Nat → Rat) : rwM k u M k = u := if_pos rfl
theorem rwM_ne {k r : Nat} (u : Nat → Rat) (M : Nat → Nat → Rat) (h : r ≠ k) : rwM k u M r = M r := if_neg h
theorem rwM_self (k : Nat) (M : Nat → Nat → Rat) : rwM k (M k) M = M := by
  funext r
  unfold rwM
  split
  · rename_i h; rw [h]
  · rfl
def dwn (i k : Nat) : Nat := if k < i then k else k - 1
theorem min_at (k : Nat) (u : Nat → Rat) (M : Nat → Nat → Rat) : (fun r c => rwM k u M (skp k r) (c + 1)) = fun r c => M (skp k r) (c + 1) := by
  funext r c
  rw [rwM_ne]
  unfold skp
  split <;> omega
theorem min_ne {k i : Nat} (u : Nat → Rat) (M : Nat → Nat → Rat) (h : i ≠ k) : (fun r c => rwM k u M (skp i r) (c + 1)) = rwM (dwn i k) (fun c => u (c + 1)) fun r c => M (skp i r) (c + 1) := by
  funext r c
  unfold rwM
  by_cases e : skp i r = k
  · rw [if_pos e, if_pos]
    unfold skp at e
    unfold dwn
    split at e <;> split <;> omega
  · rw [if_neg e, if_neg]
    intro e2
    apply e
    unfold dwn at e2
    unfold skp
    split at e2 <;> split <;> omega
theorem det_lin : ∀ {n k : Nat} (M : Nat → Nat → Rat) (u v : Nat → Rat) (a : Rat), k < n → det n (rwM k (fun c => a * u c + v c) M) = a * det n (rwM k u M) + det n (rwM k v M)
  | 0, _, _, _, _, _, h => absurd h (Nat.not_lt_zero _)
  | n + 1, k, M, u, v, a, h => by
    show sumN (n + 1) _ = a * sumN (n + 1) _ + sumN (n + 1) _
    rw [← sumN_mul, ← sumN_add]
    refine sumN_congr fun i hi => ?_
    by_cases e : i = k
    · subst e
      rw [min_at, min_at, min_at, rwM_at, rwM_at, rwM_at]; grind
    · rw [min_ne _ _ e, min_ne _ _ e, min_ne _ _ e, rwM_ne _ _ e, rwM_ne _ _ e, rwM_ne _ _ e]
      rw [det_lin (n := n) (k := dwn i k) (fun r c => M (skp i r) (c + 1)) (fun c => u (c + 1)) (fun c => v (c + 1)) a (by unfold dwn; split <;> omega)]
      grind
theorem sumN_two {f : Nat → Rat} {p n : Nat} (h : p + 1 < n) (h2 : f p + f (p + 1) = 0) (z : ∀ k, k < n → k ≠ p → k ≠ p + 1 → f k = 0) : sumN n f = 0 := by
  rw [sumN_out (show p < n by omega), sumN_one (r := p + 1) h]
  · rw [if_neg (by omega)]; grind
  · intro k hk ne
    by_cases e : k = p
    · rw [if_pos e]
    · rw [if_neg e]; exact z k hk e ne
theorem det_adj : ∀ {n p : Nat} {M : Nat → Nat → Rat}, p + 1 < n → M p = M (p + 1) → det n M = 0
  | 0, _, _, h, _ => absurd h (Nat.not_lt_zero _)
  | n + 1, p, M, h, e => by
    show sumN (n + 1) _ = 0
    refine sumN_two (p := p) h ?_ fun k hk h1 h2 => ?_
    · have em : (fun r c => M (skp p r) (c + 1)) = fun r c => M (skp (p + 1) r) (c + 1) := by
        funext r c
        by_cases q : r = p
        · subst q
          rw [show skp r r = r + 1 by unfold skp; rw [if_neg (Nat.lt_irrefl _)], show skp (r + 1) r = r by unfold skp; rw [if_pos (by omega)], e]
        · rw [show skp p r = skp (p + 1) r by unfold skp; split <;> split <;> omega]
      rw [em, sgn_succ, e]; grind
    · have : det n (fun r c => M (skp k r) (c + 1)) = 0 := by
        by_cases q : p + 1 < k
        · refine det_adj (p := p) (by omega) ?_
          show (fun c => M (skp k p) (c + 1)) = fun c => M (skp k (p + 1)) (c + 1)
          rw [show skp k p = p by unfold skp; rw [if_pos (by omega)], show skp k (p + 1) = p + 1 by unfold skp; rw [if_pos q], e]
        · refine det_adj (p := p - 1) (by omega) ?_
          show (fun c => M (skp k (p - 1)) (c + 1)) = fun c => M (skp k (p - 1 + 1)) (c + 1)
          rw [show skp k (p - 1) = p by unfold skp; rw [if_neg (by omega)]; omega, show skp k (p - 1 + 1) = p + 1 by unfold skp; rw [if_neg (by omega)]; omega, e]
      rw [this]; grind
theorem rwM_comm {k l : Nat} (h : k ≠ l) (u v : Nat → Rat) (M : Nat → Nat → Rat) : rwM k u (rwM l v M) = rwM l v (rwM k u M) := by
  funext r
  unfold rwM
  by_cases e : r = k
  · rw [if_pos e, if_neg (by omega), if_pos e]
  · rw [if_neg e, if_neg e]
theorem det_swap {n p : Nat} (M : Nat → Nat → Rat) (u v : Nat → Rat) (h : p + 1 < n) : det n (rwM p u (rwM (p + 1) v M)) = - det n (rwM p v (rwM (p + 1) u M)) := by
  have z : ∀ x, det n (rwM p x (rwM (p + 1) x M)) = 0 := fun x => det_adj h (by rw [rwM_at, rwM_ne _ _ (by omega), rwM_at])
  have l1 := det_lin (rwM (p + 1) (fun c => 1 * u c + v c) M) u v 1 (show p < n by omega)
  rw [z, rwM_comm (by omega), rwM_comm (k := p) (u := v) (by omega), det_lin _ u v 1 h, det_lin _ u v 1 h, rwM_comm (k := p + 1) (by omega), rwM_comm (k := p + 1) (by omega), rwM_comm (k := p + 1) (by omega), rwM_comm (k := p + 1) (by omega), z, z] at l1
  grind
theorem det_two : ∀ (d : Nat) {n p : Nat} {M : Nat → Nat → Rat}, p + d + 1 < n → M p = M (p + d + 1) → det n M = 0
  | 0, _, _, _, h, e => det_adj h e
  | d + 1, n, p, M, h, e => by
    have e1 : M = rwM (p + d + 1) (M (p + d + 1)) (rwM (p + d + 1 + 1) (M (p + d + 1 + 1)) M) := by
      rw [rwM_self (p + d + 1 + 1), rwM_self]
    rw [e1, det_swap (p := p + d + 1) _ _ _ h, det_two d (p := p) (by omega)]
    · grind
    · rw [rwM_ne _ _ (by omega), rwM_ne _ _ (by omega), rwM_at]
      exact e
theorem det_eq {n p q : Nat} {M : Nat → Nat → Rat} (hp : p < n) (hq : q < n) (h : p ≠ q) (e : M p = M q) : det n M = 0 := by
  rcases Nat.lt_or_ge p q with l | l
  · exact det_two (q - p - 1) (p := p) (by omega) (by rw [e]; congr 1; omega)
  · exact det_two (p - q - 1) (p := q) (by omega) (by rw [← e]; congr 1; omega)
theorem det_zero {n k : Nat} (M : Nat → Nat → Rat) (h : k < n) : det n (rwM k (fun _ => 0) M) = 0 := by
  have := det_lin M (fun _ => 0) (fun _ => 0) 1 h
  rw [show (fun c : Nat => (1 : Rat) * (fun _ => 0) c + (fun _ => (0 : Rat)) c) = fun _ => 0 from funext fun _ => by grind] at this
  grind
theorem det_sum {n k : Nat} (M : Nat → Nat → Rat) (f : Nat → Nat → Rat) (x : Nat → Rat) (h : k < n) : ∀ m, det n (rwM k (fun c => sumN m fun i => x i * f i c) M) = sumN m fun i => x i * det n (rwM k (f i) M)
  | 0 => det_zero M h
  | m + 1 => by
    show det n (rwM k (fun c => sumN m (fun i => x i * f i c) + x m * f m c) M) = sumN m (fun i => x i * det n (rwM k (f i) M)) + x m * det n (rwM k (f m) M)
    have e : (fun c => sumN m (fun i => x i * f i c) + x m * f m c) = fun c => x m * f m c + sumN m fun i => x i * f i c := funext fun _ => Rat.add_comm _ _
    rw [e, det_lin M (f m) (fun c => sumN m fun i => x i * f i c) (x m) h, det_sum M f x h m, Rat.add_comm]
theorem cramer {n k : Nat} (M : Nat → Nat → Rat) (x : Nat → Rat) (h : k < n) : det n (rwM k (fun c => sumN n fun i => x i * M i c) M) = x k * det n M := by
  rw [det_sum M M x h, sumN_one (r := k) h]
  · rw [rwM_self]
  · intro i hi ne
    rw [det_eq h hi (fun e => ne e.symm)]
    · grind
    · rw [rwM_at, rwM_ne _ _ ne]
theorem det_id : ∀ n, det n (fun r c => if r = c then 1 else 0) = 1
  | 0 => rfl
  | n + 1 => by
    show sumN (n + 1) _ = 1
    rw [sumN_one (r := 0) (by omega)]
    · dsimp only
      rw [if_pos rfl, det_congr (N := fun r c => if r = c then 1 else 0), det_id n]
      · unfold sgn; rw [if_pos rfl]; grind
      · intro r c _ _
        show (if skp 0 r = c + 1 then (1 : Rat) else 0) = _
        rw [show skp 0 r = r + 1 by unfold skp; rw [if_neg (by omega)]]
        by_cases e : r = c
        · rw [if_pos e, if_pos (by omega)]
        · rw [if_neg e, if_neg (by omega)]
    · intro k _ ne
      dsimp only
      rw [if_neg ne]; grind
def prodN : Nat → (Nat → Rat) → Rat
  | 0, _ => 1
  | n + 1, f => f 0 * prodN n fun k => f (k + 1)
theorem prodN_ne : ∀ {n : Nat} {f : Nat → Rat}, (∀ k, k < n → f k ≠ 0) → prodN n f ≠ 0
  | 0, _, _ => by show (1 : Rat) ≠ 0; decide
  | n + 1, f, h => fun z => by
    rcases Rat.mul_eq_zero.mp (show f 0 * prodN n (fun k => f (k + 1)) = 0 from z) with y | y
    · exact h 0 (by omega) y
    · exact prodN_ne (n := n) (fun k hk => h (k + 1) (by omega)) y
theorem det_cols : ∀ (n : Nat) (d : Nat → Rat) (M : Nat → Nat → Rat), det n (fun r c => d c * M r c) = prodN n d * det n M
  | 0, _, _ => by show (1 : Rat) = 1 * 1; grind
  | n + 1, d, M => by
    show sumN (n + 1) _ = d 0 * prodN n (fun k => d (k + 1)) * sumN (n + 1) _
    rw [← sumN_mul]
    refine sumN_congr fun i _ => ?_
    rw [det_cols n (fun k => d (k + 1)) fun r c => M (skp i r) (c + 1)]; grind
theorem fam_den {s : Nat} : ∀ (n : Nat) (f : Nat → Rat), (∀ i, i < n → Sz s (f i)) → ∃ D : Nat, 0 < D ∧ D ≤ 2 ^ (s * n) ∧ ∀ i, i < n → ∃ c : Int, (D : Rat) * f i = (c : Rat) ∧ c.natAbs < 2 ^ (s * n)
  | 0, _, _ => ⟨1, by decide, by simp, fun i h => absurd h (Nat.not_lt_zero _)⟩
  | n + 1, f, h => by
    obtain ⟨D, d0, d1, d2⟩ := fam_den n f fun i hi => h i (by omega)
    have hn := h n (by omega)
    rw [Nat.mul_succ, Nat.pow_add]
    refine ⟨D * (f n).den, Nat.mul_pos d0 (f n).den_pos, Nat.mul_le_mul d1 (Nat.le_of_lt hn.2), fun i hi => ?_⟩
    by_cases e : i = n
    · subst e
      refine ⟨(D : Int) * (f i).num, ?_, ?_⟩
      · rw [Rat.natCast_mul, Rat.intCast_mul, Rat.mul_assoc]
        have e0 : (((f i).den : Nat) : Rat) ≠ 0 := fun z => absurd (Rat.natCast_eq_zero_iff.mp z) (f i).den_nz
        have e1 : f i = ((f i).num : Rat) / (((f i).den : Nat) : Rat) := by
          conv => lhs; rw [← Rat.num_divInt_den (f i)]
          rw [Rat.divInt_eq_div]; rfl
        have := mul_div' (b := ((f i).num : Rat)) e0
        rw [← e1] at this
        rw [this]; rfl
      · rw [Int.natAbs_mul, Int.natAbs_natCast]
        exact Nat.lt_of_le_of_lt (Nat.mul_le_mul_right _ d1) (Nat.mul_lt_mul_of_pos_left hn.1 (Nat.two_pow_pos _))
    · obtain ⟨c, c1, c2⟩ := d2 i (by omega)
      refine ⟨c * ((f n).den : Nat), ?_, ?_⟩
      · rw [Rat.natCast_mul, Rat.intCast_mul, ← c1]
        have : (((f n).den : Int) : Rat) = ((f n).den : Rat) := rfl
        rw [this]; grind
      · rw [Int.natAbs_mul, Int.natAbs_natCast]
        exact Nat.mul_lt_mul'' c2 hn.2
structure Few (D : Dims) (s : Nat) : Prop where
  A : ∀ k j, k < D.m → j ≤ D.N → Sz s (D.A k j)
  c : ∀ j, j ≤ D.N → Sz s (D.c j)
def own_M (D : Dims) (S : Tab) : Nat → Nat → Rat := fun l k => D.A k (S.own l)
structure GoodD (D : Dims) (S : Tab) : Prop where
  g : Good0 D S
  d : det D.m (own_M D S) ≠ 0
theorem step_det {D : Dims} {S : Tab} {s r : Nat} (g : GoodD D S) (e : Enters D S s) (l : Leaves D S s r) : GoodD D (S.step s r) := by
  refine ⟨step_good g.g e l, ?_⟩
  have p0 : S.T r s ≠ 0 := by have := l.pos; grind
  rw [det_congr (N := rwM r (fun c => sumN D.m fun i => S.T i s * own_M D S i c) (own_M D S))]
  · rw [cramer _ _ l.lt]
    intro z
    rcases Rat.mul_eq_zero.mp z with y | y
    · exact p0 y
    · exact g.d y
  · intro i c hi hc
    show D.A c (if i = r then s else S.own i) = (if i = r then _ else own_M D S i) c
    by_cases q : i = r
    · rw [if_pos q, if_pos q, g.g.col c s hc (Nat.le_of_lt e.lt)]
      exact sumN_congr fun k _ => Rat.mul_comm _ _
    · rw [if_neg q, if_neg q]; rfl
def Fw (D : Dims) (S : Tab) (K : Nat) : Prop := ∀ j, j ≤ D.N → ∀ k, k < D.m → ∃ d : Nat, 0 < d ∧ (∀ i, i < D.m → ∃ c : Int, (d : Rat) * D.A k (S.own i) = (c : Rat) ∧ c.natAbs < 2 ^ K) ∧ ∃ c : Int, (d : Rat) * D.A k j = (c : Rat) ∧ c.natAbs < 2 ^ K
theorem Few.fw {D : Dims} {S : Tab} {s : Nat} (h : Few D s) (g : Good0 D S) : Fw D S (s * (D.m + 1)) := fun j hj k hk => by
  obtain ⟨d, d0, _, d2⟩ := fam_den (s := s) (D.m + 1) (fun i => if i < D.m then D.A k (S.own i) else D.A k j) fun i _ => by
    split
    · exact h.A k _ hk (Nat.le_of_lt (g.lt i (by assumption)))
    · exact h.A k j hk hj
  refine ⟨d, d0, fun i hi => ?_, ?_⟩
  · obtain ⟨c, c1, c2⟩ := d2 i (by omega)
    rw [if_pos hi] at c1
    exact ⟨c, c1, c2⟩
  · obtain ⟨c, c1, c2⟩ := d2 D.m (by omega)
    rw [if_neg (Nat.lt_irrefl _)] at c1
    exact ⟨c, c1, c2⟩
def Few1 (D : Dims) (K : Nat) : Prop := ∀ k, k < D.m → ∃ d : Nat, 0 < d ∧ ∀ j, j ≤ D.N → ∃ c : Int, (d : Rat) * D.A k j = (c : Rat) ∧ c.natAbs < 2 ^ K
theorem Few1.fw {D : Dims} {S : Tab} {K : Nat} (h : Few1 D K) (g : Good0 D S) : Fw D S K := fun j hj k hk => by
  obtain ⟨d, d0, d1⟩ := h k hk
  exact ⟨d, d0, fun i hi => d1 _ (Nat.le_of_lt (g.lt i hi)), d1 j hj⟩
theorem z_eq {D : Dims} {S : Tab} (g : Good0 D S) {j : Nat} (hj : j ≤ D.N) : S.z j = D.c j + -(sumN D.m fun i => D.c (S.own i) * S.T i j) := by
  obtain ⟨y, hy⟩ := g.row
  have e : sumN D.m (fun i => S.z (S.own i) * S.T i j) = sumN D.m (fun i => D.c (S.own i) * S.T i j) + sumN D.m fun k => y k * D.A k j := by
    rw [sumN_congr (f := fun i => S.z (S.own i) * S.T i j) (g := fun i => D.c (S.own i) * S.T i j + sumN D.m fun k => y k * (D.A k (S.own i) * S.T i j)) fun i hi => by
      rw [hy _ (Nat.le_of_lt (g.lt i hi)), Rat.add_mul]
      congr 1
      rw [Rat.mul_comm, ← sumN_mul]
      exact sumN_congr fun k _ => by grind, sumN_add]
    congr 1
    rw [sumN_swap]
    exact sumN_congr fun k hk => by rw [g.col k j hk hj, ← sumN_mul]
  rw [sumN_zero fun i hi => by rw [g.z0 i hi]; grind] at e
  rw [hy j hj]
  grind
def qT (D : Dims) (S : Tab) (s i : Nat) : Rat := S.T i D.N / S.T i s
def leaveF (D : Dims) (S : Tab) (s : Nat) : Nat → Option Nat
  | 0 => none
  | k + 1 => if 0 < S.T k s then
      (match leaveF D S s k with
      | none => some k
      | some f => if qT D S s k < qT D S s f ∨ (qT D S s k = qT D S s f ∧ S.own k < S.own f) then some k else some f)
    else leaveF D S s k
theorem leaveF_spec (D : Dims) (S : Tab) (s : Nat) : ∀ k, (leaveF D S s k = none → ∀ i, i < k → ¬ 0 < S.T i s) ∧ (∀ f, leaveF D S s k = some f → f < k ∧ 0 < S.T f s ∧ ∀ i, i < k → 0 < S.T i s → qT D S s f < qT D S s i ∨ (qT D S s f = qT D S s i ∧ S.own f ≤ S.own i))
  | 0 => ⟨fun _ i h => absurd h (Nat.not_lt_zero _), fun f h => by cases h⟩
  | k + 1 => by
    obtain ⟨h1, h2⟩ := leaveF_spec D S s k
    unfold leaveF
    by_cases p : 0 < S.T k s
    · rw [if_pos p]
      cases e : leaveF D S s k with
      | none =>
        refine ⟨fun z => (by cases z), fun f z => ?_⟩
        injection z with z
        subst z
        refine ⟨by omega, p, fun i hi hp => ?_⟩
        by_cases q : i = k
        · exact .inr ⟨by rw [q], by rw [q]; exact Nat.le_refl _⟩
        · exact absurd hp (h1 e i (by omega))
      | some f0 =>
        obtain ⟨a1, a2, a3⟩ := h2 f0 e
        dsimp only
        by_cases c : qT D S s k < qT D S s f0 ∨ (qT D S s k = qT D S s f0 ∧ S.own k < S.own f0)
        · rw [if_pos c]
          refine ⟨fun z => (by cases z), fun f z => ?_⟩
          injection z with z
          subst z
          refine ⟨by omega, p, fun i hi hp => ?_⟩
          by_cases q : i = k
          · exact .inr ⟨by rw [q], by rw [q]; exact Nat.le_refl _⟩
          · rcases a3 i (by omega) hp with y | ⟨y1, y2⟩
            · rcases c with z | ⟨z1, z2⟩
              · exact .inl (by grind)
              · exact .inl (by grind)
            · rcases c with z | ⟨z1, z2⟩
              · exact .inl (by grind)
              · exact .inr ⟨by grind, by omega⟩
        · rw [if_neg c]
          refine ⟨fun z => (by cases z), fun f z => ?_⟩
          injection z with z
          subst z
          refine ⟨by omega, a2, fun i hi hp => ?_⟩
          by_cases q : i = k
          · subst q
            by_cases y : qT D S s f0 = qT D S s i
            · exact .inr ⟨y, by
                by_cases o : S.own i < S.own f0
                · exact absurd (.inr ⟨y.symm, o⟩) c
                · omega⟩
            · refine .inl ?_
              by_cases o : qT D S s i < qT D S s f0
              · exact absurd (.inl o) c
              · grind
          · exact a3 i (by omega) hp
    · rw [if_neg p]
      refine ⟨fun z i hi => ?_, fun f z => ?_⟩
      · by_cases q : i = k
        · rw [q]; exact p
        · exact h1 z i (by omega)
      · obtain ⟨a1, a2, a3⟩ := h2 f z
        refine ⟨by omega, a2, fun i hi hp => ?_⟩
        by_cases q : i = k
        · rw [q] at hp; exact absurd hp p
        · exact a3 i (by omega) hp
theorem leaves_of {D : Dims} {S : Tab} {s f : Nat} (h : leaveF D S s D.m = some f) : Leaves D S s f := by
  obtain ⟨h1, h2, h3⟩ := (leaveF_spec D S s D.m).2 f h
  have key : ∀ i, 0 < S.T i s → S.T i s * qT D S s i = S.T i D.N := fun i hp => mul_div' (by grind)
  have kf := key f h2
  refine ⟨h1, h2, fun i hi hp => ?_, fun i hi hp e => ?_⟩
  · have ki := key i hp
    have h4 : qT D S s f ≤ qT D S s i := by
      rcases h3 i hi hp with y | ⟨y, _⟩
      · exact Rat.le_of_lt y
      · rw [y]; exact Rat.le_refl
    have h5 : 0 ≤ (qT D S s i - qT D S s f) * (S.T f s * S.T i s) := Rat.mul_nonneg (by grind) (Rat.mul_nonneg (Rat.le_of_lt h2) (Rat.le_of_lt hp))
    rw [← kf, ← ki]
    grind
  · have ki := key i hp
    have : qT D S s f = qT D S s i := by
      rw [← kf, ← ki] at e
      have h5 : (S.T f s * S.T i s) * (qT D S s f - qT D S s i) = 0 := by grind
      rcases Rat.mul_eq_zero.mp h5 with y | y
      · rcases Rat.mul_eq_zero.mp y with y | y <;> grind
      · grind
    rcases h3 i hi hp with y | ⟨_, y⟩
    · grind
    · exact y
def enterF (N : Nat) (z : Nat → Rat) : Option Nat := (List.range N).find? fun j => decide (z j < 0)
theorem enters_of {D : Dims} {S : Tab} {s : Nat} (h : enterF D.N S.z = some s) : Enters D S s := by
  unfold enterF at h
  rw [List.find?_range_eq_some] at h
  obtain ⟨h1, h2, h3⟩ := h
  refine ⟨by simpa using h2, of_decide_eq_true h1, fun j hj => ?_⟩
  have := h3 j hj
  simp at this
  grind
theorem enter_none {N : Nat} {z : Nat → Rat} (h : enterF N z = none) : ∀ j, j < N → 0 ≤ z j := fun j hj => by
  unfold enterF at h
  rw [List.find?_eq_none] at h
  have := h j (List.mem_range.mpr hj)
  simp at this
  grind
def nextT (D : Dims) (S : Tab) : Option Tab := match enterF D.N S.z with
  | none => none
  | some s => match leaveF D S s D.m with
    | none => none
    | some r => some (S.step s r)
def runN (D : Dims) : Nat → Tab → Tab
  | 0, S => S
  | n + 1, S => match nextT D (runN D n S) with
    | none => runN D n S
    | some U => U
theorem next_good {D : Dims} {S U : Tab} (g : Good0 D S) (h : nextT D S = some U) : Good0 D U ∧ ∃ s r, enterF D.N S.z = some s ∧ leaveF D S s D.m = some r ∧ U = S.step s r := by
  unfold nextT at h
  cases e : enterF D.N S.z with
  | none => rw [e] at h; cases h
  | some s =>
    rw [e] at h
    cases l : leaveF D S s D.m with
    | none => dsimp only at h; rw [l] at h; cases h
    | some r =>
      dsimp only at h
      rw [l] at h
      injection h with h
      exact ⟨h ▸ step_good g (enters_of e) (leaves_of l), s, r, rfl, l, h.symm⟩
theorem run_good {D : Dims} {S : Tab} (g : Good0 D S) : ∀ n, Good0 D (runN D n S)
  | 0 => g
  | n + 1 => by
    have ih := run_good g n
    show Good0 D (match nextT D (runN D n S) with | none => runN D n S | some U => U)
    cases h : nextT D (runN D n S) with
    | none => exact ih
    | some U => exact (next_good ih h).1
theorem run_goodD {D : Dims} {S : Tab} (g : GoodD D S) : ∀ n, GoodD D (runN D n S)
  | 0 => g
  | n + 1 => by
    have ih := run_goodD g n
    show GoodD D (match nextT D (runN D n S) with | none => runN D n S | some U => U)
    cases h : nextT D (runN D n S) with
    | none => exact ih
    | some U =>
      obtain ⟨_, s, r, h1, h2, h3⟩ := next_good ih.g h
      rw [h3]
      exact step_det ih (enters_of h1) (leaves_of h2)
theorem halts {D : Dims} {S : Tab} (g : Good0 D S) : ∃ n, nextT D (runN D n S) = none := by
  refine Classical.byContradiction fun z => ?_
  have ne : ∀ n, ∃ U, nextT D (runN D n S) = some U := fun n => by
    cases h : nextT D (runN D n S) with
    | none => exact absurd ⟨n, h⟩ z
    | some U => exact ⟨U, rfl⟩
  have st : ∀ n, ∃ p : Nat × Nat, enterF D.N (runN D n S).z = some p.1 ∧ leaveF D (runN D n S) p.1 D.m = some p.2 ∧ runN D (n + 1) S = (runN D n S).step p.1 p.2 := fun n => by
    obtain ⟨U, hU⟩ := ne n
    obtain ⟨_, s, r, h1, h2, h3⟩ := next_good (run_good g n) hU
    refine ⟨(s, r), h1, h2, ?_⟩
    show (match nextT D (runN D n S) with | none => runN D n S | some U => U) = _
    rw [hU]; exact h3
  exact Run.ends (D := D) (S := fun n => runN D n S) (s := fun n => (Classical.choose (st n)).1) (r := fun n => (Classical.choose (st n)).2)
    ⟨fun n => run_good g n, fun n => enters_of (Classical.choose_spec (st n)).1, fun n => leaves_of (Classical.choose_spec (st n)).2.1, fun n => (Classical.choose_spec (st n)).2.2⟩
theorem run_stop {D : Dims} {S : Tab} {n : Nat} (h : nextT D (runN D n S) = none) : ∀ k, runN D (n + k) S = runN D n S
  | 0 => rfl
  | k + 1 => by
    have ih := run_stop h k
    show (match nextT D (runN D (n + k) S) with | none => runN D (n + k) S | some U => U) = _
    rw [ih, h]
theorem run_uniq {D : Dims} {S : Tab} {n m : Nat} (h : nextT D (runN D n S) = none) (h' : nextT D (runN D m S) = none) : runN D n S = runN D m S := by
  rcases Nat.le_total n m with l | l
  · obtain ⟨k, rfl⟩ := Nat.exists_eq_add_of_le l
    exact (run_stop h k).symm
  · obtain ⟨k, rfl⟩ := Nat.exists_eq_add_of_le l
    exact run_stop h' k
structure Lp where
  m : Nat
  n : Nat
  A : Nat → Nat → Rat
  b : Nat → Rat
  w : Nat → Rat
def Lp.dims (L : Lp) : Dims where
  m := L.m
  N := L.n + L.m
  A := fun k j => if j < L.n then L.A k j else if j < L.n + L.m then (if j = L.n + k then 1 else 0) else L.b k
  c := fun j => if j < L.n then - L.w j else 0
  u := fun _ => 0
def Lp.tab (L : Lp) : Tab where
  T := L.dims.A
  z := L.dims.c
  own := fun i => L.n + i
theorem Lp.good (L : Lp) (hb : ∀ k, k < L.m → 0 ≤ L.b k) : Good0 L.dims L.tab := by
  have eA : ∀ k i, k < L.m → i < L.m → L.dims.A k (L.n + i) = if k = i then 1 else 0 := fun k i hk hi => by
    show (if L.n + i < L.n then _ else if L.n + i < L.n + L.m then (if L.n + i = L.n + k then (1 : Rat) else 0) else L.b k) = _
    rw [if_neg (by omega), if_pos (by omega)]
    by_cases e : k = i
    · rw [if_pos e, if_pos (by omega)]
    · rw [if_neg e, if_neg (by omega)]
  refine ⟨fun i hi => ?_, fun i j hi hj => eA i j hi hj, fun i hi => ?_, fun k j hk hj => ?_, ⟨fun i k => if i = k then 1 else 0, fun i j hi hj => ?_⟩, ⟨fun _ => 0, fun j _ => ?_⟩, fun i hi => ?_⟩
  · show L.n + i < L.n + L.m
    have : i < L.m := hi
    omega
  · show (if L.n + i < L.n then _ else (0 : Rat)) = 0
    rw [if_neg (by omega)]
  · rw [sumN_one (r := k) hk]
    · rw [show L.tab.own k = L.n + k from rfl, eA k k hk hk, if_pos rfl]
      show _ = 1 * L.dims.A k j
      grind
    · intro i hi ne
      rw [show L.tab.own i = L.n + i from rfl, eA k i hk hi, if_neg fun e => ne e.symm]; grind
  · rw [sumN_one (r := i) hi]
    · dsimp only
      rw [if_pos rfl]
      show L.dims.A i j = 1 * L.dims.A i j
      grind
    · intro k _ ne
      dsimp only
      rw [if_neg fun e => ne e.symm]; grind
  · rw [sumN_zero fun k _ => by grind]
    show L.dims.c j = L.dims.c j + 0
    grind
  · show 0 ≤ (if L.n + L.m < L.n then _ else if L.n + L.m < L.n + L.m then _ else L.b i)
    rw [if_neg (by omega), if_neg (by omega)]
    exact hb i hi
theorem Lp.goodD (L : Lp) (hb : ∀ k, k < L.m → 0 ≤ L.b k) : GoodD L.dims L.tab := by
  refine ⟨L.good hb, ?_⟩
  rw [det_congr (N := fun r c => if r = c then 1 else 0), det_id]
  · decide
  · intro r c hr hc
    have hr : r < L.m := hr
    have hc : c < L.m := hc
    show (if L.n + r < L.n then _ else if L.n + r < L.n + L.m then (if L.n + r = L.n + c then (1 : Rat) else 0) else L.b c) = if r = c then 1 else 0
    rw [if_neg (by omega), if_pos (by omega)]
    by_cases e : r = c
    · rw [if_pos e, if_pos (by omega)]
    · rw [if_neg e, if_neg (by omega)]
theorem sumN_split (f : Nat → Rat) (n : Nat) : ∀ m, sumN (n + m) f = sumN n f + sumN m fun k => f (n + k)
  | 0 => by show _ = sumN n f + 0; grind
  | m + 1 => by
    show sumN (n + m) f + f (n + m) = sumN n f + (sumN m (fun k => f (n + k)) + f (n + m))
    rw [sumN_split f n m]; grind
theorem at_sum {D : Dims} {S : Tab} (g : Good0 D S) (f : Nat → Rat) : sumN D.N (fun j => f j * S.at D j) = sumN D.m fun i => f (S.own i) * S.T i D.N := by
  unfold Tab.at
  rw [sumN_congr (g := fun j => sumN D.m fun i => if S.own i = j then f j * S.T i D.N else 0) fun j _ => by
    rw [← sumN_mul]; exact sumN_congr fun i _ => by split <;> grind, ← sumN_swap]
  refine sumN_congr fun i hi => ?_
  rw [sumN_one (r := S.own i) (g.lt i hi)]
  · rw [if_pos rfl]
  · intro k _ ne
    rw [if_neg fun e => ne e.symm]
theorem at_pos {D : Dims} {S : Tab} (g : Good0 D S) (j : Nat) : 0 ≤ S.at D j := sumN_nonneg fun i hi => by
  split
  · exact g.pos i hi
  · exact Rat.le_refl
structure Best (L : Lp) (x y : Nat → Rat) : Prop where
  x0 : ∀ j, j < L.n → 0 ≤ x j
  y0 : ∀ k, k < L.m → 0 ≤ y k
  le : ∀ k, k < L.m → sumN L.n (fun j => L.A k j * x j) ≤ L.b k
  ge : ∀ j, j < L.n → L.w j ≤ sumN L.m fun k => y k * L.A k j
  eq : sumN L.n (fun j => L.w j * x j) = sumN L.m fun k => y k * L.b k
theorem best_of {L : Lp} {S : Tab} (g : Good0 L.dims S) (h : enterF L.dims.N S.z = none) : Best L (S.at L.dims) (fun k => S.z (L.n + k)) := by
  have z0 := enter_none h
  have dA1 : ∀ k j, j < L.n → L.dims.A k j = L.A k j := fun k j hj => if_pos hj
  have dA2 : ∀ k i, i < L.m → L.dims.A k (L.n + i) = if i = k then 1 else 0 := fun k i hi => by
    show (if L.n + i < L.n then _ else if L.n + i < L.n + L.m then (if L.n + i = L.n + k then (1 : Rat) else 0) else L.b k) = _
    rw [if_neg (by omega), if_pos (by omega)]
    by_cases e : i = k
    · rw [if_pos e, if_pos (by omega)]
    · rw [if_neg e, if_neg (by omega)]
  have dA3 : ∀ k, L.dims.A k (L.n + L.m) = L.b k := fun k => by
    show (if L.n + L.m < L.n then _ else if L.n + L.m < L.n + L.m then _ else L.b k) = _
    rw [if_neg (by omega), if_neg (by omega)]
  have dc1 : ∀ j, j < L.n → L.dims.c j = - L.w j := fun j hj => if_pos hj
  have dc2 : ∀ i, L.dims.c (L.n + i) = 0 := fun i => if_neg (by omega)
  obtain ⟨y, hy⟩ := g.row
  have ey : ∀ k, k < L.m → S.z (L.n + k) = y k := fun k hk => by
    rw [hy (L.n + k) (by show L.n + k ≤ L.n + L.m; omega), dc2]
    show 0 + sumN L.m (fun i => y i * L.dims.A i (L.n + k)) = y k
    rw [sumN_one (r := k) hk]
    · rw [dA2 k k hk, if_pos rfl]; grind
    · intro i hi ne
      rw [dA2 i k hk, if_neg fun e => ne e.symm]; grind
  refine ⟨fun j _ => at_pos g j, fun k hk => z0 _ (by show L.n + k < L.n + L.m; omega), fun k hk => ?_, fun j hj => ?_, ?_⟩
  · have e := at_sum g (fun j => L.dims.A k j)
    have e2 := g.col k (L.n + L.m) hk (Nat.le_refl _)
    rw [show L.dims.N = L.n + L.m from rfl] at e
    rw [← e, sumN_split, dA3] at e2
    rw [e2, sumN_congr (f := fun j => L.dims.A k j * S.at L.dims j) (g := fun j => L.A k j * S.at L.dims j) fun j hj => by rw [dA1 k j hj]]
    have : 0 ≤ sumN L.m fun i => L.dims.A k (L.n + i) * S.at L.dims (L.n + i) := sumN_nonneg fun i hi => by
      rw [dA2 k i hi]
      have := at_pos g (L.n + i)
      split <;> grind
    grind
  · have e := hy j (by show j ≤ L.n + L.m; omega)
    rw [dc1 j hj] at e
    have h0 := z0 j (by show j < L.n + L.m; omega)
    rw [sumN_congr (g := fun k => y k * L.dims.A k j) fun k hk => by rw [ey k hk, dA1 k j hj]]
    have e : S.z j = - L.w j + sumN L.m fun k => y k * L.dims.A k j := e
    grind
  · have e1 := z_eq g (Nat.le_refl L.dims.N)
    have e2 := hy L.dims.N (Nat.le_refl _)
    have e3 := at_sum g (fun j => L.dims.c j)
    have e4 : sumN L.m (fun k => S.z (L.n + k) * L.b k) = sumN L.m fun k => y k * L.dims.A k L.dims.N := sumN_congr fun k hk => by rw [ey k hk]; exact congrArg _ (dA3 k).symm
    rw [e4]
    rw [show L.dims.N = L.n + L.m from rfl, sumN_split, sumN_zero (f := fun k => L.dims.c (L.n + k) * S.at L.dims (L.n + k)) fun i _ => by rw [dc2]; grind] at e3
    rw [sumN_congr (f := fun j => L.dims.c j * S.at L.dims j) (g := fun j => (-1) * (L.w j * S.at L.dims j)) fun j hj => by rw [dc1 j hj]; grind, sumN_mul] at e3
    have e1 : S.z (L.n + L.m) = L.dims.c (L.n + L.m) + -(sumN L.m fun i => L.dims.c (S.own i) * S.T i (L.n + L.m)) := e1
    have e2 : S.z (L.n + L.m) = L.dims.c (L.n + L.m) + sumN L.m fun k => y k * L.dims.A k (L.n + L.m) := e2
    have e3 : -1 * (sumN L.n fun j => L.w j * S.at L.dims j) + 0 = sumN L.m fun i => L.dims.c (S.own i) * S.T i (L.n + L.m) := e3
    show _ = sumN L.m fun k => y k * L.dims.A k (L.n + L.m)
    grind
def Lp.Bnd (L : Lp) : Prop := ∃ y : Nat → Rat, (∀ k, k < L.m → 0 ≤ y k) ∧ ∀ j, j < L.n → L.w j ≤ sumN L.m fun k => y k * L.A k j
theorem Lp.leaves {L : Lp} (h : L.Bnd) {S : Tab} (g : Good0 L.dims S) {s : Nat} (e : enterF L.dims.N S.z = some s) : ∃ r, leaveF L.dims S s L.m = some r := by
  cases l : leaveF L.dims S s L.m with
  | some r => exact ⟨r, rfl⟩
  | none =>
    exfalso
    obtain ⟨y, y0, hy⟩ := h
    obtain ⟨i, hi, hp⟩ := bounded g (enters_of e) y fun j hj => by
      have hj : j < L.n + L.m := hj
      by_cases c : j < L.n
      · rw [show L.dims.c j = - L.w j from if_pos c]
        have := hy j c
        rw [sumN_congr (f := fun k => y k * L.dims.A k j) (g := fun k => y k * L.A k j) fun k _ => by rw [show L.dims.A k j = L.A k j from if_pos c]]
        show 0 ≤ - L.w j + sumN L.m _
        grind
      · rw [show L.dims.c j = 0 from if_neg c]
        have : 0 ≤ sumN L.m fun k => y k * L.dims.A k j := sumN_nonneg fun k hk => by
          show 0 ≤ y k * (if j < L.n then L.A k j else if j < L.n + L.m then (if j = L.n + k then (1 : Rat) else 0) else L.b k)
          rw [if_neg c, if_pos hj]
          have := y0 k hk
          split <;> grind
        show 0 ≤ 0 + sumN L.m _
        grind
    exact (leaveF_spec L.dims S s L.m).1 l i hi hp
theorem Lp.stop {L : Lp} (h : L.Bnd) {S : Tab} (g : Good0 L.dims S) (e : nextT L.dims S = none) : enterF L.dims.N S.z = none := by
  cases c : enterF L.dims.N S.z with
  | none => rfl
  | some s =>
    obtain ⟨r, hr⟩ := Lp.leaves h g c
    have hr : leaveF L.dims S s L.dims.m = some r := hr
    unfold nextT at e
    rw [c] at e
    dsimp only at e
    rw [hr] at e
    cases e
open Classical in
noncomputable def Lp.last (L : Lp) : Tab := if h : ∃ n, nextT L.dims (runN L.dims n L.tab) = none then runN L.dims (Classical.choose h) L.tab else L.tab
theorem Lp.last_eq {L : Lp} {n : Nat} (h : nextT L.dims (runN L.dims n L.tab) = none) : runN L.dims n L.tab = L.last := by
  unfold Lp.last
  rw [dif_pos ⟨n, h⟩]
  exact run_uniq h (Classical.choose_spec (⟨n, h⟩ : ∃ n, nextT L.dims (runN L.dims n L.tab) = none))
theorem Lp.last_good {L : Lp} (hb : ∀ k, k < L.m → 0 ≤ L.b k) : Good0 L.dims L.last ∧ nextT L.dims L.last = none := by
  obtain ⟨n, hn⟩ := halts (L.good hb)
  rw [← Lp.last_eq hn]
  exact ⟨run_good (L.good hb) n, hn⟩
theorem Lp.best {L : Lp} (hb : ∀ k, k < L.m → 0 ≤ L.b k) (h : L.Bnd) : Best L (L.last.at L.dims) (fun k => L.last.z (L.n + k)) := by
  obtain ⟨h1, h2⟩ := L.last_good hb
  exact best_of h1 (Lp.stop h h1 h2)
theorem Lp.last_goodD {L : Lp} (hb : ∀ k, k < L.m → 0 ≤ L.b k) : GoodD L.dims L.last := by
  obtain ⟨n, hn⟩ := halts (L.good hb)
  rw [← Lp.last_eq hn]
  exact run_goodD (L.goodD hb) n
theorem at_or {D : Dims} {S : Tab} (g : Good0 D S) (j : Nat) : S.at D j = 0 ∨ ∃ i, i < D.m ∧ S.at D j = S.T i D.N := by
  by_cases h : ∃ i, i < D.m ∧ S.own i = j
  · obtain ⟨i, hi, e⟩ := h
    exact .inr ⟨i, hi, by rw [← e]; exact at_own g hi⟩
  · refine .inl (sumN_zero fun i hi => ?_)
    rw [if_neg fun e => h ⟨i, hi, e⟩]
def LpSz (L : Lp) (B : Nat) : Prop := ∀ U, GoodD L.dims U → (∀ i j, i < L.m → j ≤ L.dims.N → Sz B (U.T i j)) ∧ ∀ j, j ≤ L.dims.N → Sz B (U.z j)
theorem LpSz.mono {L : Lp} {B C : Nat} (h : LpSz L B) (l : B ≤ C) : LpSz L C := fun U g => ⟨fun i j hi hj => ((h U g).1 i j hi hj).mono l, fun j hj => ((h U g).2 j hj).mono l⟩
theorem LpSz.x {L : Lp} {B : Nat} (h : LpSz L B) (h1 : 1 ≤ B) (hb : ∀ k, k < L.m → 0 ≤ L.b k) (j : Nat) : Sz B (L.last.at L.dims j) := by
  have g := Lp.last_goodD hb
  rcases at_or g.g j with e | ⟨i, hi, e⟩
  · rw [e]; exact ⟨Nat.two_pow_pos _, Nat.one_lt_two_pow (by omega)⟩
  · rw [e]; exact (h _ g).1 i _ hi (Nat.le_refl _)
theorem LpSz.y {L : Lp} {B : Nat} (h : LpSz L B) (hb : ∀ k, k < L.m → 0 ≤ L.b k) {k : Nat} (hk : k < L.m) : Sz B (L.last.z (L.n + k)) :=
  (h _ (Lp.last_goodD hb)).2 _ (by show L.n + k ≤ L.n + L.m; omega)

theorem tame_gains {k : Nat} (os : List (Option Rat)) : Tame (k + 2) (.tuple (os.map opD)) := tame_T (tame_map0 fun o _ => tame_op o)
structure Made (ls : List Nat) (rs : List (List Wd)) (bs : List Bid) (st : List Rat) (p own : Rat) (bits : List Rat) : Prop where
  house : House ls rs
  le3 : ls.length ≤ 3
  bids : GBids ls 100 2 bs
  few : bs.length ≤ 10
  len : st.length = bs.length
  stakes : ∀ s ∈ st, Sz 10 s ∧ 0 ≤ s.num
  price : Sz 100 p
  own : Sz 10 own ∧ 0 < own.num
  blen : bits.length = (worldsOf ls rs).length
  bits : ∀ b ∈ bits, Sz 10 b ∧ 0 < b.num
section
variable {ls : List Nat} {rs : List (List Wd)} {bs : List Bid} {st : List Rat} {p own : Rat} {bits : List Rat}
end
theorem loses_of {os : List (Option Rat)} {r : Rat} (h : some r ∈ os) (ha : ∀ r, some r ∈ os → r < 0) : losesB os = true := by
  unfold losesB
  rw [Bool.and_eq_true]
  refine ⟨?_, List.all_eq_true.mpr fun x hx => ?_⟩
  · rw [Bool.not_eq_true', ← Bool.not_eq_true, List.isEmpty_iff]
    intro e
    have : r ∈ os.filterMap id := List.mem_filterMap.mpr ⟨some r, h, rfl⟩
    rw [e] at this
    exact absurd this List.not_mem_nil
  · obtain ⟨o, ho, e⟩ := List.mem_filterMap.mp hx
    exact decide_eq_true (ha x (by rw [← (show o = some x from e)]; exact ho))
theorem loses_not {os : List (Option Rat)} {r : Rat} (h : some r ∈ os) (hr : ¬ r < 0) : losesB os = false := by
  unfold losesB
  rw [Bool.and_eq_false_iff]
  refine .inr (Bool.eq_false_iff.mpr fun e => ?_)
  exact hr (of_decide_eq_true (List.all_eq_true.mp e r (List.mem_filterMap.mpr ⟨some r, h, rfl⟩)))
section
variable {ls : List Nat} {rs : List (List Wd)} {bs : List Bid} {st : List Rat} {p own : Rat} {bits : List Rat}
end

def lvR : List (Rat × Option Rat) → Rat
  | [] => 0
  | (_, none) :: zs => lvR zs
  | (w, some _) :: zs => w + lvR zs
def ttR : List (Rat × Option Rat) → Rat
  | [] => 0
  | (_, none) :: zs => ttR zs
  | (w, some p) :: zs => w * p + ttR zs
def meanR (zs : List (Rat × Option Rat)) : Option Rat := if lvR zs = 0 then none else some (ttR zs / lvR zs)
theorem lv_nonneg : ∀ {zs : List (Rat × Option Rat)}, (∀ z ∈ zs, 0 ≤ z.1) → 0 ≤ lvR zs
  | [], _ => by show (0 : Rat) ≤ 0; grind
  | (w, none) :: zs, h => lv_nonneg (zs := zs) fun z hz => h z (.tail _ hz)
  | (w, some p) :: zs, h => by
    have := lv_nonneg (zs := zs) fun z hz => h z (.tail _ hz)
    have h1 : 0 ≤ w := h _ (.head _)
    show 0 ≤ w + lvR zs
    grind
theorem GBet.join {ls : List Nat} {n m p : Nat} {a b : List (Rat × List Wd)} {g : List Wd} (h : GBet ls n m (a, g)) (h' : GBet ls n p (b, g)) : GBet ls n (m + p) (a ++ b, g) :=
  ⟨h.ok, h.len, fun t ht => by
    rcases List.mem_append.mp ht with z | z
    · exact h.terms t z
    · exact h'.terms t z, by show (a ++ b).length ≤ m + p; rw [List.length_append]; have := h.few; have := h'.few; dsimp only at *; omega⟩
structure Wg (m : Nat) (ws : List Rat) : Prop where
  len : ws.length = m
  sz : ∀ w ∈ ws, Sz 20 w ∧ 0 ≤ w
  one : ws.sum = 1
  prt : ∃ T : Nat, 0 < T ∧ T < 2 ^ 17 ∧ ∀ w ∈ ws, ∃ p : Nat, p ≤ T ∧ w = Rat.divInt (p : Nat) (T : Nat)
def lsD (Ls : List (List Rat)) : PyData := .tuple (Ls.map fun ws => .tuple (ws.map frD))
def meanIn (os : List (Option Rat)) (Ls : List (List Rat)) : Option Rat := Ls.findSome? fun ws => meanR (ws.zip os)
theorem mean_none {zs : List (Rat × Option Rat)} : meanR zs = none ↔ lvR zs = 0 := by
  unfold meanR
  by_cases h : lvR zs = 0
  · rw [if_pos h]; exact ⟨fun _ => h, fun _ => rfl⟩
  · rw [if_neg h]; exact ⟨fun e => (by cases e), fun e => absurd e h⟩
def rowL (n : Nat) (f : Nat → Rat) : List PyData := (List.range n).map fun j => frD (f j)
def intL (n : Nat) (f : Nat → Nat) : List PyData := (List.range n).map fun j => .int (f j : Nat)
def tabL (m n : Nat) (T : Nat → Nat → Rat) : List PyData := (List.range m).map fun i => .list (rowL n (T i))
theorem rowL_len (n : Nat) (f : Nat → Rat) : (rowL n f).length = n := by unfold rowL; rw [List.length_map, List.length_range]
theorem intL_len (n : Nat) (f : Nat → Nat) : (intL n f).length = n := by unfold intL; rw [List.length_map, List.length_range]
theorem tabL_len (m n : Nat) (T : Nat → Nat → Rat) : (tabL m n T).length = m := by unfold tabL; rw [List.length_map, List.length_range]
theorem range_get {i n : Nat} (h : i < n) : (List.range n)[i]? = some i := by rw [List.getElem?_range h]
theorem Lp.few {L : Lp} {s : Nat} (h1 : 1 ≤ s) (hA : ∀ k j, k < L.m → j < L.n → Sz s (L.A k j)) (hb : ∀ k, k < L.m → Sz s (L.b k)) (hw : ∀ j, j < L.n → Sz s (L.w j)) : Few L.dims s := by
  have z0 : Sz s (0 : Rat) := (sz0 (n := 0)).mono h1
  have z1 : Sz s (1 : Rat) := (sz1 (n := 0)).mono h1
  refine ⟨fun k j hk hj => ?_, fun j hj => ?_⟩
  · show Sz s (if j < L.n then L.A k j else if j < L.n + L.m then (if j = L.n + k then (1 : Rat) else 0) else L.b k)
    split
    · exact hA k j hk (by assumption)
    · split
      · split
        · exact z1
        · exact z0
      · exact hb k hk
  · show Sz s (if j < L.n then - L.w j else 0)
    split
    · exact sz_neg (hw j (by assumption))
    · exact z0
def prodD : List (Rat × List Wd) → Nat
  | [] => 1
  | t :: ts => t.1.den * prodD ts
theorem prodD_pos : ∀ ts : List (Rat × List Wd), 0 < prodD ts
  | [] => by decide
  | t :: ts => Nat.mul_pos t.1.den_pos (prodD_pos ts)
theorem prodD_le {n : Nat} : ∀ {ts : List (Rat × List Wd)}, (∀ t ∈ ts, Sz n t.1) → prodD ts ≤ 2 ^ (n * ts.length)
  | [], _ => by simp [prodD]
  | t :: ts, h => by
    have h1 := (h t (.head _)).2
    have h2 := prodD_le (ts := ts) fun x hx => h x (.tail _ hx)
    show t.1.den * prodD ts ≤ 2 ^ (n * (ts.length + 1))
    rw [Nat.mul_succ, Nat.pow_add, Nat.mul_comm (2 ^ (n * ts.length))]
    exact Nat.mul_le_mul (Nat.le_of_lt h1) h2
theorem sumT_den {ls : List Nat} {u : List Bool} {n : Nat} : ∀ {ts : List (Rat × List Wd)}, (∀ t ∈ ts, Sz n t.1) → ∃ c : Int, sumT ls u ts = Rat.divInt c (prodD ts : Nat) ∧ c.natAbs ≤ ts.length * 2 ^ (n * ts.length)
  | [], _ => ⟨0, (Rat.zero_divInt _).symm, by simp⟩
  | t :: ts, h => by
    obtain ⟨c, h1, h2⟩ := sumT_den (ls := ls) (u := u) (ts := ts) fun x hx => h x (.tail _ hx)
    have hs := h t (.head _)
    have hp := prodD_le (ts := ts) fun x hx => h x (.tail _ hx)
    have d0 := prodD_pos ts
    have t0 := t.1.den_pos
    have key : ∀ a : Int, a.natAbs ≤ 2 ^ n → (a * (prodD ts : Nat) + c * (t.1.den : Nat)).natAbs ≤ (ts.length + 1) * 2 ^ (n * (ts.length + 1)) := fun a ha => by
      refine Nat.le_trans (Int.natAbs_add_le _ _) ?_
      rw [Int.natAbs_mul, Int.natAbs_mul, Int.natAbs_natCast, Int.natAbs_natCast, Nat.mul_succ n, Nat.pow_add, Nat.succ_mul, Nat.add_comm]
      have q1 := Nat.mul_le_mul ha hp
      have q2 := Nat.mul_le_mul h2 (Nat.le_of_lt hs.2)
      rw [Nat.mul_comm (2 ^ n)] at q1
      rw [Nat.mul_assoc] at q2
      exact Nat.add_le_add q2 q1
    rw [sumT_cons, h1]
    unfold termV
    by_cases e : valS ls u t.2 = true
    · rw [if_pos e]
      refine ⟨t.1.num * (prodD ts : Nat) + c * (t.1.den : Nat), ?_, key _ (Nat.le_of_lt hs.1)⟩
      conv => lhs; lhs; rw [← Rat.num_divInt_den t.1]
      rw [Rat.divInt_add_divInt _ _ (by omega) (by omega)]; rfl
    · rw [if_neg e]
      refine ⟨0 * (prodD ts : Nat) + c * (t.1.den : Nat), ?_, key 0 (Nat.zero_le _)⟩
      rw [Rat.zero_add, Int.zero_mul, Int.zero_add]
      show _ = Rat.divInt (c * (t.1.den : Nat)) ((t.1.den * prodD ts : Nat) : Int)
      rw [Int.natCast_mul, Int.mul_comm (t.1.den : Int), Rat.divInt_mul_right (by omega)]
theorem pay_den {ls : List Nat} {u : List Bool} {n m : Nat} {b : Bet} (h : GBet ls n m b) {r : Rat} (e : payS ls u b = some r) : ∃ c : Int, r = Rat.divInt c (prodD b.1 : Nat) ∧ c.natAbs ≤ m * 2 ^ (n * m) := by
  unfold payS at e
  split at e
  · injection e with e
    obtain ⟨c, h1, h2⟩ := sumT_den (ls := ls) (u := u) (n := n) (ts := b.1) fun t ht => (h.terms t ht).2.2
    exact ⟨c, by rw [← e, h1], Nat.le_trans h2 (Nat.mul_le_mul h.few (Nat.pow_le_pow_right (by decide) (Nat.mul_le_mul_left _ h.few)))⟩
  · cases e
def ratOf : PyData → Rat
  | .tuple [.int a, .int b] => Rat.divInt a b
  | _ => 0
theorem ratOf_fr (r : Rat) : ratOf (frD r) = r := Rat.num_divInt_den r
def wgB (m : Nat) (d : PyData) : Bool := stakesB m d && (match d with
  | .tuple ds => decide ((ds.map ratOf).sum = 1)
  | _ => false)
def layB (m : Nat) : PyData → Bool
  | .tuple ds => decide (ds.length ≤ 40) && ds.all (wgB m)
  | _ => false
theorem map_ratOf (ws : List Rat) : (ws.map frD).map ratOf = ws := by
  rw [List.map_map, show ratOf ∘ frD = id from funext ratOf_fr, List.map_id]
theorem wgB_fr (m : Nat) (ws : List Rat) : wgB m (.tuple (ws.map frD)) = ((decide (ws.length = m) && ws.all fun s => decide (0 ≤ s.num)) && decide (ws.sum = 1)) := by
  unfold wgB
  rw [stakesB_fr]
  dsimp only
  rw [map_ratOf]
theorem Wg.ok {m : Nat} {ws : List Rat} (W : Wg m ws) : wgB m (.tuple (ws.map frD)) = true := by
  rw [wgB_fr, decide_eq_true W.len, decide_eq_true W.one, Bool.true_and, Bool.and_true, List.all_eq_true]
  exact fun w hw => decide_eq_true (Rat.num_nonneg.mpr (W.sz w hw).2)
def bearsB (os : List (Option Rat)) (Ls : List (List Rat)) (p : Rat) : Bool := match meanIn os Ls with
  | none => false
  | some r => !(decide (r < p))
abbrev Tbs := List (List (Option Rat))
def gtA (ts : Tbs) (i u : Nat) : Option Rat := (ts.getD i []).getD u none
def nD (l : List Nat) : List PyData := l.map fun j => .int (j : Nat)
structure Tbl (ts : Tbs) (w q : Nat) : Prop where
  len : ∀ t ∈ ts, t.length = w
  sz : ∀ t ∈ ts, ∀ o ∈ t, Szo q o
theorem Tbl.get {ts : Tbs} {w q i : Nat} (T : Tbl ts w q) (h : i < ts.length) : ∃ t, ts[i]? = some t ∧ ts.getD i [] = t ∧ t ∈ ts ∧ t.length = w := by
  refine ⟨ts[i], List.getElem?_eq_getElem h, by rw [List.getD_eq_getElem?_getD, List.getElem?_eq_getElem h]; rfl, List.getElem_mem h, T.len _ (List.getElem_mem h)⟩
def liveL (ts : Tbs) (w : Nat) (left : List Nat) : List Nat := (List.range w).filter fun u => left.any fun i => (gtA ts i u).isSome
theorem liveL_lt {ts : Tbs} {w : Nat} {left : List Nat} : ∀ u ∈ liveL ts w left, u < w := fun u h => List.mem_range.mp (List.mem_filter.mp h).1
theorem liveL_nd {ts : Tbs} {w : Nat} {left : List Nat} : (liveL ts w left).Nodup := List.nodup_range.sublist List.filter_sublist
def negO : Option Rat → Rat
  | none => 0
  | some r => -r
def lpOf (ts : Tbs) (left W : List Nat) : Lp where
  m := left.length + 1
  n := W.length
  A := fun k j => if k < left.length then negO (gtA ts (left.getD k 0) (W.getD j 0)) else 1
  b := fun k => if k < left.length then 0 else 1
  w := fun _ => 1
theorem lpOf_bnd (ts : Tbs) (left W : List Nat) : (lpOf ts left W).Bnd := by
  refine ⟨fun k => if k = left.length then 1 else 0, fun k _ => by dsimp only; split <;> decide, fun j _ => ?_⟩
  show (1 : Rat) ≤ sumN (left.length + 1) fun k => (if k = left.length then (1 : Rat) else 0) * (if k < left.length then negO (gtA ts (left.getD k 0) (W.getD j 0)) else 1)
  rw [sumN_one (r := left.length) (by omega)]
  · rw [if_pos rfl, if_neg (Nat.lt_irrefl _)]; decide +kernel
  · intro k _ ne
    rw [if_neg ne]; grind
theorem map_getD {α : Type} (f : Nat → α) (l : List Nat) : l.map f = (List.range l.length).map fun j => f (l.getD j 0) := by
  refine List.ext_getElem? fun i => ?_
  rw [List.getElem?_map, List.getElem?_map]
  rcases Nat.lt_or_ge i l.length with h | h
  · rw [range_get h, List.getElem?_eq_getElem h]
    show some _ = some (f (l.getD i 0))
    rw [List.getD_eq_getElem?_getD, List.getElem?_eq_getElem h]; rfl
  · rw [List.getElem?_eq_none h, List.getElem?_eq_none (by simpa using h)]; rfl
noncomputable def xOf (ts : Tbs) (left W : List Nat) : Nat → Rat := (lpOf ts left W).last.at (lpOf ts left W).dims
noncomputable def yOf (ts : Tbs) (left W : List Nat) : Nat → Rat := fun k => (lpOf ts left W).last.z (W.length + k)
theorem lpOf_best (ts : Tbs) (left W : List Nat) : Best (lpOf ts left W) (xOf ts left W) (yOf ts left W) :=
  Lp.best (fun k _ => by show (0 : Rat) ≤ if k < left.length then 0 else 1; split <;> decide) (lpOf_bnd ts left W)
def sprd (many : Nat) (W : List Nat) (vs : List Rat) : List Rat := (W.zip vs).foldl (fun f z => f.set z.1 z.2) (List.replicate many 0)
theorem sprd_len (many : Nat) (W : List Nat) (vs : List Rat) : (sprd many W vs).length = many := by
  unfold sprd
  have : ∀ (zs : List (Nat × Rat)) (f : List Rat), (zs.foldl (fun f z => f.set z.1 z.2) f).length = f.length := by
    intro zs
    induction zs with
    | nil => intro f; rfl
    | cons z zs ih => intro f; rw [List.foldl_cons, ih, List.length_set]
  rw [this, List.length_replicate]
def unwB (t : List (Option Rat)) (wz : List Rat) : Bool := (t.zip wz).all fun z => z.1.isNone || decide (z.2 = 0)
noncomputable def wOf (ts : Tbs) (many : Nat) (left : List Nat) : List Rat := sprd many (liveL ts many left) ((List.range (liveL ts many left).length).map (xOf ts left (liveL ts many left)))
noncomputable def layR (ts : Tbs) (many : Nat) : Nat → List Nat → List (List Rat) × List Nat × List Rat
  | 0, left => ([], left, [])
  | f + 1, left => if left = [] then ([], [], []) else
    if (wOf ts many left).all (fun w => decide (w = 0)) then ([], left, (List.range left.length).map (yOf ts left (liveL ts many left)))
    else
      let r := layR ts many f (left.filter fun i => unwB (ts.getD i []) (wOf ts many left))
      (wOf ts many left :: r.1, r.2.1, r.2.2)
theorem fold_set {zs : List (Nat × Rat)} {u : Nat} : ∀ {f : List Rat}, (∀ z ∈ zs, z.1 ≠ u) → (zs.foldl (fun f z => f.set z.1 z.2) f)[u]? = f[u]? := by
  induction zs with
  | nil => intro f _; rfl
  | cons z zs ih =>
    intro f h
    rw [List.foldl_cons, ih fun x hx => h x (.tail _ hx), List.getElem?_set_ne (h z (.head _))]
theorem sprd_out {m u : Nat} {W : List Nat} {vs : List Rat} (h : u ∉ W) (hu : u < m) : (sprd m W vs)[u]? = some 0 := by
  unfold sprd
  rw [fold_set (u := u) fun z hz e => h (by rw [← e]; exact (List.of_mem_zip hz).1), List.getElem?_replicate, if_pos hu]
theorem wOf_len (ts : Tbs) (m : Nat) (left : List Nat) : (wOf ts m left).length = m := sprd_len _ _ _
theorem wOf_out {ts : Tbs} {m u : Nat} {left : List Nat} (h : u ∉ liveL ts m left) (hu : u < m) : (wOf ts m left)[u]? = some 0 := sprd_out h hu
theorem unwB_false {t : List (Option Rat)} {wz : List Rat} {u : Nat} {x : Rat} (h1 : (t.getD u none).isSome = true) (h2 : wz[u]? = some x) (h3 : x ≠ 0) : unwB t wz = false := by
  have hu : u < t.length := by
    rcases Nat.lt_or_ge u t.length with h | h
    · exact h
    · rw [List.getD_eq_getElem?_getD, List.getElem?_eq_none h] at h1; cases h1
  rw [List.getD_eq_getElem?_getD, List.getElem?_eq_getElem hu] at h1
  have hm : (t[u], x) ∈ t.zip wz := List.mem_of_getElem? (i := u) (List.getElem?_zip_eq_some.mpr ⟨List.getElem?_eq_getElem hu, h2⟩)
  unfold unwB
  rw [Bool.eq_false_iff]
  intro h
  have := List.all_eq_true.mp h _ hm
  rw [Bool.or_eq_true, decide_eq_true_eq] at this
  rcases this with y | y
  · have h1 : t[u].isSome = true := h1
    dsimp only at y
    cases e : t[u] with
    | none => rw [e] at h1; cases h1
    | some r => rw [e] at y; cases y
  · exact h3 y
theorem dec_left {ts : Tbs} {w : Nat} {left : List Nat} (h : (wOf ts w left).all (fun x => decide (x = 0)) = false) : (left.filter fun i => unwB (ts.getD i []) (wOf ts w left)).length < left.length := by
  obtain ⟨x, hx, hx0⟩ := List.all_eq_false.mp h
  have hx0 : x ≠ 0 := by simpa using hx0
  obtain ⟨u, hu, e⟩ := List.mem_iff_getElem.mp hx
  have hum : u < w := by rw [wOf_len] at hu; exact hu
  have hg : (wOf ts w left)[u]? = some x := by rw [List.getElem?_eq_getElem hu, e]
  have hl : u ∈ liveL ts w left := by
    by_cases c : u ∈ liveL ts w left
    · exact c
    · rw [wOf_out c hum] at hg
      injection hg with hg
      exact absurd hg.symm hx0
  obtain ⟨i, hi, hs⟩ := List.any_eq_true.mp (List.mem_filter.mp hl).2
  rw [List.length_filter_lt_length_iff_exists]
  refine ⟨i, hi, ?_⟩
  rw [unwB_false hs hg hx0]; decide
def Tin (K : Nat) (t : List (Option Rat)) : Prop := ∃ d : Nat, 0 < d ∧ d < 2 ^ K ∧ ∀ r, some r ∈ t → ∃ c : Int, (d : Rat) * r = (c : Rat) ∧ c.natAbs < 2 ^ K
theorem gtA_mem {ts : Tbs} {i u : Nat} {r : Rat} (h : gtA ts i u = some r) : some r ∈ ts.getD i [] := by
  unfold gtA at h
  rw [List.getD_eq_getElem?_getD (i := u)] at h
  cases e : (ts.getD i [])[u]? with
  | none => rw [e] at h; cases h
  | some o =>
    rw [e] at h
    have h : o = some r := h
    rw [h] at e
    exact List.mem_of_getElem? e
def addOO : Option Rat → Option Rat → Option Rat
  | none, b => b
  | some a, none => some a
  | some a, some b => some (a + b)
theorem addOO_none (a : Option Rat) : addOO a none = a := by cases a <;> rfl
theorem addOO_assoc (a b c : Option Rat) : addOO (addOO a b) c = addOO a (addOO b c) := by
  cases a <;> cases b <;> cases c <;> first | rfl | (show some _ = some _; congr 1; grind)
def tmG (s : Rat) : Option Rat → Option Rat
  | none => none
  | some g => if s = 0 then none else some (s * g)
theorem withG_tm (t : Option Rat) (s : Rat) (g : Option Rat) : withG t s g = addOO t (tmG s g) := by
  cases g with
  | none => exact (addOO_none t).symm
  | some g =>
    show (if s = 0 then t else addO t (s * g)) = addOO t (if s = 0 then none else some (s * g))
    by_cases h : s = 0
    · rw [if_pos h, if_pos h, addOO_none]
    · rw [if_neg h, if_neg h]; cases t <;> rfl
def zG (ls : List Nat) (u : List Bool) (z : Bid × Rat) : Option Rat := tmG z.2 (gainW z.1.2 (payS ls u z.1.1))
theorem bookW_sum (ls : List Nat) (u : List Bool) : ∀ (zs : List (Bid × Rat)) (a : Option Rat), bookW ls u zs a = addOO a (bookW ls u zs none)
  | [], a => (addOO_none a).symm
  | z :: zs, a => by
    rw [bookW_cons, bookW_cons, bookW_sum ls u zs, bookW_sum ls u zs (withG none _ _), withG_tm, withG_tm, addOO_assoc]; rfl
theorem bookW_zs (ls : List Nat) (u : List Bool) (z : Bid × Rat) (zs : List (Bid × Rat)) : bookW ls u (z :: zs) none = addOO (zG ls u z) (bookW ls u zs none) := by
  rw [bookW_cons, bookW_sum, withG_tm]; rfl
def oV (o : Option Rat) : Rat := o.getD 0
def dotL : List Rat → (Nat → Rat) → Rat
  | [], _ => 0
  | a :: l, h => a * h 0 + dotL l fun i => h (i + 1)
theorem dot_set : ∀ {f : List Rat} {i : Nat} {v : Rat} {h : Nat → Rat}, f[i]? = some 0 → dotL (f.set i v) h = dotL f h + v * h i
  | [], i, v, h, e => by simp at e
  | a :: l, 0, v, h, e => by
    have e : a = 0 := by simpa using e
    subst e
    show v * h 0 + _ = 0 * h 0 + _ + v * h 0
    grind
  | a :: l, i + 1, v, h, e => by
    show a * h 0 + dotL (l.set i v) _ = a * h 0 + dotL l _ + v * h (i + 1)
    rw [dot_set (f := l) (i := i) (by simpa using e)]; grind
theorem dot_zero : ∀ {f : List Rat} {h : Nat → Rat}, (∀ i, i < f.length → f.getD i 0 * h i = 0) → dotL f h = 0
  | [], _, _ => rfl
  | a :: l, h, e => by
    show a * h 0 + dotL l _ = 0
    have e0 : a * h 0 = 0 := e 0 (by simp)
    rw [e0, dot_zero (f := l) fun i hi => by have := e (i + 1) (by simpa using hi); simpa using this]; grind
theorem dot_rep (m : Nat) (h : Nat → Rat) : dotL (List.replicate m 0) h = 0 := dot_zero fun i hi => by
  rw [List.getD_eq_getElem?_getD, List.getElem?_replicate, if_pos (by simpa using hi)]
  show (0 : Rat) * _ = 0
  grind
theorem dot_congr : ∀ {f : List Rat} {h g : Nat → Rat}, (∀ i, i < f.length → h i = g i) → dotL f h = dotL f g
  | [], _, _, _ => rfl
  | a :: l, h, g, e => by
    show a * h 0 + dotL l _ = a * g 0 + dotL l _
    rw [e 0 (by simp), dot_congr (f := l) fun i hi => e (i + 1) (by simpa using hi)]
theorem dot_fold : ∀ {zs : List (Nat × Rat)} {f : List Rat} {h : Nat → Rat}, (zs.map Prod.fst).Nodup → (∀ z ∈ zs, f[z.1]? = some 0) → dotL (zs.foldl (fun f z => f.set z.1 z.2) f) h = dotL f h + (zs.map fun z => z.2 * h z.1).sum
  | [], f, h, _, _ => by show dotL f h = dotL f h + 0; grind
  | z :: zs, f, h, nd, hz => by
    rw [List.map_cons, List.nodup_cons] at nd
    rw [List.foldl_cons, dot_fold nd.2 (fun x hx => by rw [List.getElem?_set_ne fun e => nd.1 (by rw [e]; exact List.mem_map_of_mem hx)]; exact hz x (.tail _ hx)), dot_set (hz z (.head _)), List.map_cons, List.sum_cons]; grind
theorem zip_fst_sub {α β : Type} : ∀ (W : List α) (vs : List β), ((W.zip vs).map Prod.fst).Sublist W
  | [], _ => by rw [List.zip_nil_left]; exact List.Sublist.refl _
  | a :: W, [] => by rw [List.zip_nil_right]; exact List.nil_sublist _
  | a :: W, v :: vs => by rw [List.zip_cons_cons, List.map_cons]; exact (zip_fst_sub W vs).cons₂ a
theorem rng_sum (f : Nat → Rat) : ∀ n, ((List.range n).map f).sum = sumN n f
  | 0 => rfl
  | n + 1 => by
    rw [List.range_succ, List.map_append, List.sum_append, rng_sum f n]
    show _ + (f n + 0) = sumN n f + f n
    grind
theorem zip_rng_sum (W : List Nat) (x : Nat → Rat) (h : Nat → Rat) : ((W.zip ((List.range W.length).map x)).map fun z => z.2 * h z.1).sum = sumN W.length fun j => x j * h (W.getD j 0) := by
  rw [← rng_sum]
  congr 1
  have e := map_getD (fun i => i) W
  rw [List.map_id''] at e
  · conv => lhs; rw [e]
    rw [List.length_map, List.length_range, List.zip_map', List.map_map]; rfl
  · exact fun _ => rfl
theorem dot_sprd {m : Nat} {W : List Nat} (nd : W.Nodup) (hW : ∀ u ∈ W, u < m) (x : Nat → Rat) (h : Nat → Rat) : dotL (sprd m W ((List.range W.length).map x)) h = sumN W.length fun j => x j * h (W.getD j 0) := by
  unfold sprd
  rw [dot_fold (nd.sublist (zip_fst_sub _ _)) fun z hz => by rw [List.getElem?_replicate, if_pos (hW _ (List.of_mem_zip hz).1)], dot_rep, zip_rng_sum, Rat.zero_add]
theorem sprd_mem {m : Nat} {W : List Nat} {vs : List Rat} {v : Rat} (h : v ∈ sprd m W vs) : v = 0 ∨ v ∈ vs := by
  have key : ∀ (zs : List (Nat × Rat)) (f : List Rat), v ∈ zs.foldl (fun f z => f.set z.1 z.2) f → v ∈ f ∨ ∃ z ∈ zs, z.2 = v := by
    intro zs
    induction zs with
    | nil => exact fun f h => .inl h
    | cons z zs ih =>
      intro f h
      rcases ih _ h with y | ⟨y, y1, y2⟩
      · rcases List.mem_or_eq_of_mem_set y with q | q
        · exact .inl q
        · exact .inr ⟨z, .head _, q.symm⟩
      · exact .inr ⟨y, .tail _ y1, y2⟩
  rcases key _ _ h with y | ⟨y, y1, y2⟩
  · exact .inl (List.eq_of_mem_replicate y)
  · rw [← y2]; exact .inr (List.of_mem_zip y1).2
theorem sum_dot : ∀ ws : List Rat, ws.sum = dotL ws fun _ => 1
  | [] => rfl
  | w :: ws => by rw [List.sum_cons, sum_dot ws]; show _ = w * 1 + _; grind
theorem tt_dot : ∀ (ws : List Rat) (os : List (Option Rat)), ttR (ws.zip os) = dotL ws fun u => oV (os.getD u none)
  | [], _ => rfl
  | w :: ws, [] => by
    rw [List.zip_nil_right]
    exact (dot_zero fun i _ => by show _ * (0 : Rat) = 0; grind).symm
  | w :: ws, none :: os => by
    show ttR (ws.zip os) = w * 0 + dotL ws fun u => oV (os.getD u none)
    rw [tt_dot ws os]; grind
  | w :: ws, some p :: os => by
    show w * p + ttR (ws.zip os) = w * p + dotL ws fun u => oV (os.getD u none)
    rw [tt_dot ws os]
theorem lv_zero : ∀ {zs : List (Rat × Option Rat)}, (∀ z ∈ zs, 0 ≤ z.1) → (lvR zs = 0 ↔ ∀ z ∈ zs, z.2.isSome = true → z.1 = 0)
  | [], _ => ⟨fun _ z h => (List.not_mem_nil h).elim, fun _ => rfl⟩
  | (w, o) :: zs, h => by
    have h1 : ∀ z ∈ zs, 0 ≤ z.1 := fun x hx => h x (.tail _ hx)
    have hn := lv_nonneg h1
    have ih := lv_zero h1
    have h2 : 0 ≤ w := h _ (.head _)
    cases o with
    | none =>
      show lvR zs = 0 ↔ _
      rw [ih]
      constructor
      · intro g x hx hs
        rcases List.mem_cons.mp hx with y | y
        · rw [y] at hs; cases hs
        · exact g x y hs
      · exact fun g x hx => g x (.tail _ hx)
    | some p =>
      show w + lvR zs = 0 ↔ _
      constructor
      · intro g x hx hs
        rcases List.mem_cons.mp hx with y | y
        · rw [y]; show w = 0; grind
        · exact ih.mp (by grind) x y hs
      · intro g
        have e1 : w = 0 := g _ (.head _) rfl
        rw [e1, ih.mpr fun x hx => g x (.tail _ hx)]; grind
theorem tt_zero : ∀ {zs : List (Rat × Option Rat)}, (∀ z ∈ zs, z.2.isSome = true → z.1 = 0) → ttR zs = 0
  | [], _ => rfl
  | (w, none) :: zs, h => tt_zero (zs := zs) fun x hx => h x (.tail _ hx)
  | (w, some p) :: zs, h => by
    have e : w = 0 := h _ (.head _) rfl
    show w * p + ttR zs = 0
    rw [e, tt_zero (zs := zs) fun x hx => h x (.tail _ hx)]; grind
theorem neg_tt : ∀ {zs : List (Rat × Option Rat)}, (∀ z ∈ zs, 0 ≤ z.1) → (∀ z ∈ zs, ∀ r, z.2 = some r → r < 0) → ttR zs ≤ 0 ∧ (ttR zs = 0 → lvR zs = 0)
  | [], _, _ => ⟨Rat.le_refl, fun _ => rfl⟩
  | (w, none) :: zs, h, h' => neg_tt (zs := zs) (fun x hx => h x (.tail _ hx)) fun x hx => h' x (.tail _ hx)
  | (w, some p) :: zs, h, h' => by
    obtain ⟨i1, i2⟩ := neg_tt (zs := zs) (fun x hx => h x (.tail _ hx)) fun x hx => h' x (.tail _ hx)
    have hw : 0 ≤ w := h _ (.head _)
    have hp : p < 0 := h' _ (.head _) p rfl
    have key : 0 ≤ w * (-p) := Rat.mul_nonneg hw (by grind)
    show w * p + ttR zs ≤ 0 ∧ (w * p + ttR zs = 0 → w + lvR zs = 0)
    refine ⟨by grind, fun e => ?_⟩
    have e1 : w * p = 0 := by grind
    rcases Rat.mul_eq_zero.mp e1 with y | y
    · rw [y, i2 (by grind)]; grind
    · grind
theorem lv_le {α : Type} {f g : α → Option Rat} : ∀ {ws : List Rat} {W : List α}, (∀ w ∈ ws, 0 ≤ w) → (∀ u ∈ W, (f u).isSome = true → (g u).isSome = true) → lvR (ws.zip (W.map f)) ≤ lvR (ws.zip (W.map g))
  | [], _, _, _ => Rat.le_refl
  | _ :: _, [], _, _ => Rat.le_refl
  | w :: ws, u :: W, h, h' => by
    have ih := lv_le (f := f) (g := g) (ws := ws) (W := W) (fun x hx => h x (.tail _ hx)) fun x hx => h' x (.tail _ hx)
    have hw := h w (.head _)
    have hu := h' u (.head _)
    rw [List.map_cons, List.map_cons, List.zip_cons_cons, List.zip_cons_cons]
    cases e : f u with
    | none =>
      cases e2 : g u with
      | none => exact ih
      | some b => show lvR (ws.zip (W.map f)) ≤ w + lvR (ws.zip (W.map g)); grind
    | some a =>
      rw [e] at hu
      cases e2 : g u with
      | none => rw [e2] at hu; cases hu rfl
      | some b => show w + lvR (ws.zip (W.map f)) ≤ w + lvR (ws.zip (W.map g)); grind
theorem lv_gain (p : Rat) : ∀ (ws : List Rat) (os : List (Option Rat)), lvR (ws.zip (os.map (gainW p))) = lvR (ws.zip os) ∧ ttR (ws.zip (os.map (gainW p))) = ttR (ws.zip os) + -p * lvR (ws.zip os)
  | [], _ => ⟨rfl, by show (0 : Rat) = 0 + -p * 0; grind⟩
  | _ :: _, [] => ⟨rfl, by show (0 : Rat) = 0 + -p * 0; grind⟩
  | w :: ws, none :: os => lv_gain p ws os
  | w :: ws, some r :: os => by
    obtain ⟨h1, h2⟩ := lv_gain p ws os
    refine ⟨?_, ?_⟩
    · show w + lvR (ws.zip (os.map (gainW p))) = w + lvR (ws.zip os)
      rw [h1]
    · show w * (r + -p) + ttR (ws.zip (os.map (gainW p))) = w * r + ttR (ws.zip os) + -p * (w + lvR (ws.zip os))
      rw [h2]; grind
theorem mean_gain (p : Rat) (ws : List Rat) (os : List (Option Rat)) : meanR (ws.zip (os.map (gainW p))) = gainW p (meanR (ws.zip os)) := by
  obtain ⟨h1, h2⟩ := lv_gain p ws os
  unfold meanR
  rw [h1, h2]
  by_cases h : lvR (ws.zip os) = 0
  · rw [if_pos h, if_pos h]; rfl
  · rw [if_neg h, if_neg h]
    show some _ = some (_ + -p)
    congr 1
    rw [Rat.div_def, Rat.div_def, Rat.add_mul, Rat.mul_assoc, Rat.mul_inv_cancel _ h, Rat.mul_one]
theorem meanIn_gain (p : Rat) (os : List (Option Rat)) : ∀ Ls : List (List Rat), meanIn (os.map (gainW p)) Ls = gainW p (meanIn os Ls)
  | [] => rfl
  | ws :: Ls => by
    have ih : Ls.findSome? (fun ws => meanR (ws.zip (os.map (gainW p)))) = gainW p (Ls.findSome? fun ws => meanR (ws.zip os)) := meanIn_gain p os Ls
    unfold meanIn
    rw [List.findSome?_cons, List.findSome?_cons, mean_gain, ih]
    cases meanR (ws.zip os) <;> rfl
theorem bears_gain (os : List (Option Rat)) (Ls : List (List Rat)) (p : Rat) : bearsB os Ls p = true ↔ ∃ g, meanIn (os.map (gainW p)) Ls = some g ∧ 0 ≤ g := by
  rw [meanIn_gain]
  unfold bearsB
  cases meanIn os Ls with
  | none => exact ⟨fun h => (by cases h), fun ⟨g, h, _⟩ => (by cases h)⟩
  | some r =>
    show (!(decide (r < p))) = true ↔ ∃ g, some (r + -p) = some g ∧ 0 ≤ g
    rw [Bool.not_eq_true', decide_eq_false_iff_not]
    constructor
    · exact fun h => ⟨_, rfl, by grind⟩
    · rintro ⟨g, h, h2⟩ h3
      injection h with h
      grind
theorem sumN_eq0 {f : Nat → Rat} : ∀ {n : Nat}, (∀ k, k < n → 0 ≤ f k) → sumN n f = 0 → ∀ k, k < n → f k = 0
  | 0, _, _ => fun k h => absurd h (Nat.not_lt_zero _)
  | n + 1, h, e => by
    have h1 := sumN_nonneg (f := f) (n := n) fun k hk => h k (by omega)
    have h2 := h n (by omega)
    have e : sumN n f + f n = 0 := e
    intro k hk
    by_cases q : k = n
    · rw [q]; grind
    · exact sumN_eq0 (n := n) (fun k hk => h k (by omega)) (by grind) k (by omega)
theorem sumN_le {f g : Nat → Rat} : ∀ {n : Nat}, (∀ k, k < n → f k ≤ g k) → sumN n f ≤ sumN n g
  | 0, _ => Rat.le_refl
  | n + 1, h => by
    have h1 := sumN_le (n := n) fun k hk => h k (by omega)
    have h2 := h n (by omega)
    show sumN n f + f n ≤ sumN n g + g n
    grind
theorem negO_oV (o : Option Rat) : negO o = -(oV o) := by
  cases o with
  | none => show (0 : Rat) = -0; grind
  | some r => rfl
section
variable {ts : Tbs} {w q : Nat} {left : List Nat}
theorem wdot (h : Nat → Rat) : dotL (wOf ts w left) h = sumN (liveL ts w left).length fun j => xOf ts left (liveL ts w left) j * h ((liveL ts w left).getD j 0) := dot_sprd liveL_nd liveL_lt _ _
theorem w_nonneg : ∀ v ∈ wOf ts w left, 0 ≤ v := fun v hv => by
  rcases sprd_mem hv with y | y
  · rw [y]; exact Rat.le_refl
  · obtain ⟨j, hj, rfl⟩ := List.mem_map.mp y
    exact (lpOf_best ts left (liveL ts w left)).x0 j (List.mem_range.mp hj)
theorem y_last (W : List Nat) : sumN W.length (xOf ts left W) = yOf ts left W left.length := by
  have e := (lpOf_best ts left W).eq
  have e1 : sumN W.length (fun j => (1 : Rat) * xOf ts left W j) = sumN (left.length + 1) fun k => yOf ts left W k * (if k < left.length then 0 else 1) := e
  rw [sumN_congr (f := fun j => (1 : Rat) * xOf ts left W j) (g := xOf ts left W) fun k _ => Rat.one_mul _] at e1
  rw [e1, sumN_one (r := left.length) (by omega), if_neg (Nat.lt_irrefl _), Rat.mul_one]
  intro k hk ne
  rw [if_pos (by omega), Rat.mul_zero]
theorem row_le (W : List Nat) {k : Nat} (hk : k < left.length) : 0 ≤ sumN W.length fun j => xOf ts left W j * oV (gtA ts (left.getD k 0) (W.getD j 0)) := by
  have e := (lpOf_best ts left W).le k (by show k < left.length + 1; omega)
  have e1 : sumN W.length (fun j => (if k < left.length then negO (gtA ts (left.getD k 0) (W.getD j 0)) else 1) * xOf ts left W j) ≤ if k < left.length then 0 else 1 := e
  rw [if_pos hk, sumN_congr (g := fun j => (-1) * (xOf ts left W j * oV (gtA ts (left.getD k 0) (W.getD j 0)))) fun j _ => by rw [if_pos hk, negO_oV]; grind, sumN_mul] at e1
  grind
theorem col_ge (W : List Nat) {j : Nat} (hj : j < W.length) : 1 ≤ -(sumN left.length fun k => yOf ts left W k * oV (gtA ts (left.getD k 0) (W.getD j 0))) + yOf ts left W left.length := by
  have e := (lpOf_best ts left W).ge j hj
  have e1 : (1 : Rat) ≤ sumN left.length (fun k => yOf ts left W k * (if k < left.length then negO (gtA ts (left.getD k 0) (W.getD j 0)) else 1)) + yOf ts left W left.length * (if left.length < left.length then _ else 1) := e
  rw [if_neg (Nat.lt_irrefl _), Rat.mul_one, sumN_congr (g := fun k => (-1) * (yOf ts left W k * oV (gtA ts (left.getD k 0) (W.getD j 0)))) fun k hk => by rw [if_pos hk, negO_oV]; grind, sumN_mul] at e1
  grind
theorem fair_tt {i : Nat} (hi : i ∈ left) : 0 ≤ ttR ((wOf ts w left).zip (ts.getD i [])) := by
  rw [tt_dot, wdot]
  obtain ⟨k, hk, e⟩ := List.mem_iff_getElem.mp hi
  have := row_le (ts := ts) (liveL ts w left) hk
  rw [List.getD_eq_getElem?_getD, List.getElem?_eq_getElem hk, Option.getD_some, e] at this
  exact this
theorem sum_w : (wOf ts w left).sum = sumN (liveL ts w left).length (xOf ts left (liveL ts w left)) := by
  rw [sum_dot, wdot]
  exact sumN_congr fun j _ => Rat.mul_one _
theorem one_of (h : (wOf ts w left).all (fun x => decide (x = 0)) = false) : (wOf ts w left).sum = 1 := by
  obtain ⟨W, hW⟩ : ∃ W, liveL ts w left = W := ⟨_, rfl⟩
  rw [sum_w, hW]
  have B := lpOf_best ts left W
  have x0 : ∀ j, j < W.length → 0 ≤ xOf ts left W j := B.x0
  have y0 : ∀ k, k < left.length + 1 → 0 ≤ yOf ts left W k := B.y0
  have hy := y_last (ts := ts) (left := left) W
  obtain ⟨σ, hσ⟩ : ∃ σ, sumN W.length (xOf ts left W) = σ := ⟨_, rfl⟩
  have s0 : 0 ≤ σ := by rw [← hσ]; exact sumN_nonneg x0
  have sne : σ ≠ 0 := fun z => by
    obtain ⟨x, hx, hx0⟩ := List.all_eq_false.mp h
    rcases sprd_mem hx with y | y
    · exact hx0 (decide_eq_true y)
    · obtain ⟨j, hj, e⟩ := List.mem_map.mp y
      rw [hW] at hj e
      have := sumN_eq0 x0 (hσ.trans z) j (List.mem_range.mp hj)
      exact hx0 (decide_eq_true (e.symm.trans this))
  have s1 : σ ≤ 1 := by
    have e := B.le left.length (by show left.length < left.length + 1; omega)
    have e1 : sumN W.length (fun j => (if left.length < left.length then negO (gtA ts (left.getD left.length 0) (W.getD j 0)) else 1) * xOf ts left W j) ≤ if left.length < left.length then 0 else 1 := e
    rw [if_neg (Nat.lt_irrefl _), sumN_congr (g := xOf ts left W) fun j _ => by rw [if_neg (Nat.lt_irrefl _), Rat.one_mul], hσ] at e1
    exact e1
  rw [hσ] at hy
  have key : sumN W.length (xOf ts left W) ≤ sumN W.length fun j => xOf ts left W j * (-(sumN left.length fun k => yOf ts left W k * oV (gtA ts (left.getD k 0) (W.getD j 0))) + σ) := sumN_le fun j hj => by
    have := Rat.mul_le_mul_of_nonneg_left (hy ▸ col_ge (ts := ts) (left := left) W hj) (x0 j hj)
    rw [Rat.mul_one] at this
    exact this
  have e2 : sumN W.length (fun j => xOf ts left W j * (-(sumN left.length fun k => yOf ts left W k * oV (gtA ts (left.getD k 0) (W.getD j 0))) + σ)) = -(sumN left.length fun k => yOf ts left W k * sumN W.length fun j => xOf ts left W j * oV (gtA ts (left.getD k 0) (W.getD j 0))) + σ * σ := by
    rw [sumN_congr (g := fun j => (-1) * (sumN left.length fun k => yOf ts left W k * (xOf ts left W j * oV (gtA ts (left.getD k 0) (W.getD j 0)))) + σ * xOf ts left W j) fun j _ => by
      rw [sumN_congr (f := fun k => yOf ts left W k * (xOf ts left W j * oV (gtA ts (left.getD k 0) (W.getD j 0)))) (g := fun k => xOf ts left W j * (yOf ts left W k * oV (gtA ts (left.getD k 0) (W.getD j 0)))) fun k _ => by grind, sumN_mul]; grind, sumN_add, sumN_mul, sumN_mul, hσ, sumN_swap]
    rw [sumN_congr (f := fun k => sumN W.length _) (g := fun k => yOf ts left W k * sumN W.length fun j => xOf ts left W j * oV (gtA ts (left.getD k 0) (W.getD j 0))) fun k _ => sumN_mul _ _ _]
    grind
  have e3 : 0 ≤ sumN left.length fun k => yOf ts left W k * sumN W.length fun j => xOf ts left W j * oV (gtA ts (left.getD k 0) (W.getD j 0)) := sumN_nonneg fun k hk => Rat.mul_nonneg (y0 k (by omega)) (row_le W hk)
  rw [e2, hσ] at key
  have e4 : σ * 1 ≤ σ * σ := by grind
  have := Rat.le_of_mul_le_mul_left e4 (by grind)
  grind
theorem unw_true {t : List (Option Rat)} {wz : List Rat} (h0 : ∀ v ∈ wz, 0 ≤ v) : unwB t wz = true ↔ lvR (wz.zip t) = 0 := by
  rw [lv_zero fun z hz => h0 _ (List.of_mem_zip hz).1]
  unfold unwB
  rw [List.all_eq_true]
  have sw : ∀ {t : List (Option Rat)} {wz : List Rat} (o : Option Rat) (v : Rat), (o, v) ∈ t.zip wz ↔ (v, o) ∈ wz.zip t := by
    intro t
    induction t with
    | nil => intro wz o v; rw [List.zip_nil_left, List.zip_nil_right]; exact ⟨fun h => (List.not_mem_nil h).elim, fun h => (List.not_mem_nil h).elim⟩
    | cons a t ih =>
      intro wz o v
      cases wz with
      | nil => rw [List.zip_nil_left, List.zip_nil_right]; exact ⟨fun h => (List.not_mem_nil h).elim, fun h => (List.not_mem_nil h).elim⟩
      | cons b wz =>
        rw [List.zip_cons_cons, List.zip_cons_cons, List.mem_cons, List.mem_cons, ih]
        simp only [Prod.mk.injEq]
        constructor
        · rintro (⟨rfl, rfl⟩ | h)
          · exact .inl ⟨rfl, rfl⟩
          · exact .inr h
        · rintro (⟨rfl, rfl⟩ | h)
          · exact .inl ⟨rfl, rfl⟩
          · exact .inr h
  constructor
  · rintro h ⟨v, o⟩ hz hs
    have := h (o, v) ((sw o v).mpr hz)
    rw [Bool.or_eq_true, decide_eq_true_eq] at this
    rcases this with y | y
    · cases o <;> simp at y hs
    · exact y
  · rintro h ⟨o, v⟩ hz
    rw [Bool.or_eq_true, decide_eq_true_eq]
    cases o with
    | none => exact .inl rfl
    | some r => exact .inr (h (v, some r) ((sw _ _).mp hz) rfl)
structure LayOk (ts : Tbs) (w : Nat) (left : List Nat) (r : List (List Rat) × List Nat × List Rat) : Prop where
  wg : ∀ ws ∈ r.1, ws.length = w ∧ (∀ v ∈ ws, 0 ≤ v) ∧ ws.sum = 1
  len : r.1.length ≤ left.length
  sub : r.2.1.Sublist left
  fair : r.2.1 = [] → ∀ i ∈ left, ∃ g, meanIn (ts.getD i []) r.1 = some g ∧ 0 ≤ g
  loss : r.2.1 ≠ [] → (wOf ts w r.2.1).all (fun x => decide (x = 0)) = true ∧ r.2.2 = (List.range r.2.1.length).map (yOf ts r.2.1 (liveL ts w r.2.1))
end
theorem lay_ok (ts : Tbs) (w : Nat) : ∀ (f : Nat) (left : List Nat), left.length < f → LayOk ts w left (layR ts w f left)
  | 0, _, h => absurd h (Nat.not_lt_zero _)
  | f + 1, left, h => by
    unfold layR
    by_cases h0 : left = []
    · rw [if_pos h0]
      exact ⟨fun ws h => (List.not_mem_nil h).elim, Nat.zero_le _, List.nil_sublist _, fun _ i hi => by rw [h0] at hi; exact (List.not_mem_nil hi).elim, fun z => (z rfl).elim⟩
    · rw [if_neg h0]
      cases c : (wOf ts w left).all (fun x => decide (x = 0)) with
      | true =>
        rw [if_pos rfl]
        exact ⟨fun ws h => (List.not_mem_nil h).elim, Nat.zero_le _, List.Sublist.refl _, fun z => (h0 z).elim, fun _ => ⟨c, rfl⟩⟩
      | false =>
        rw [if_neg Bool.false_ne_true]
        have hdec := dec_left c
        have ih := lay_ok ts w f (left.filter fun i => unwB (ts.getD i []) (wOf ts w left)) (by omega)
        refine ⟨fun ws hw => ?_, ?_, ih.sub.trans List.filter_sublist, fun z i hi => ?_, ih.loss⟩
        · rcases List.mem_cons.mp hw with y | y
          · rw [y]; exact ⟨wOf_len _ _ _, w_nonneg, one_of c⟩
          · exact ih.wg ws y
        · have := ih.len
          show (_ :: _).length ≤ _
          rw [List.length_cons]; omega
        · show ∃ g, meanIn (ts.getD i []) (wOf ts w left :: _) = some g ∧ 0 ≤ g
          unfold meanIn
          rw [List.findSome?_cons]
          by_cases u : unwB (ts.getD i []) (wOf ts w left) = true
          · rw [mean_none.mpr ((unw_true w_nonneg).mp u)]
            exact ih.fair z i (List.mem_filter.mpr ⟨hi, u⟩)
          · have lv : lvR ((wOf ts w left).zip (ts.getD i [])) ≠ 0 := fun e => u ((unw_true w_nonneg).mpr e)
            have lp := lv_nonneg (zs := (wOf ts w left).zip (ts.getD i [])) fun z hz => w_nonneg _ (List.of_mem_zip hz).1
            have e : meanR ((wOf ts w left).zip (ts.getD i [])) = some (ttR ((wOf ts w left).zip (ts.getD i [])) / lvR ((wOf ts w left).zip (ts.getD i []))) := if_neg lv
            rw [e]
            exact ⟨_, rfl, div_nonneg' (fair_tt hi) (by grind)⟩
theorem tm_some {s : Rat} {g : Option Rat} : (tmG s g).isSome = true ↔ s ≠ 0 ∧ g.isSome = true := by
  cases g with
  | none => exact ⟨fun h => (by cases h), fun h => (by cases h.2)⟩
  | some g =>
    show (if s = 0 then none else some (s * g)).isSome = true ↔ _
    by_cases h : s = 0
    · rw [if_pos h]; exact ⟨fun z => (by cases z), fun z => (z.1 h).elim⟩
    · rw [if_neg h]; exact ⟨fun _ => ⟨h, rfl⟩, fun _ => rfl⟩
theorem book_some {ls : List Nat} {u : List Bool} : ∀ {zs : List (Bid × Rat)}, (bookW ls u zs none).isSome = true ↔ ∃ z ∈ zs, z.2 ≠ 0 ∧ (gainW z.1.2 (payS ls u z.1.1)).isSome = true
  | [] => ⟨fun h => (by cases h), fun ⟨z, h, _⟩ => (List.not_mem_nil h).elim⟩
  | z :: zs => by
    have ad : ∀ a b : Option Rat, (addOO a b).isSome = true ↔ a.isSome = true ∨ b.isSome = true := fun a b => by cases a <;> cases b <;> simp [addOO]
    rw [bookW_zs, ad, book_some (zs := zs)]
    unfold zG
    rw [tm_some]
    constructor
    · rintro (h | ⟨x, hx, h⟩)
      · exact ⟨z, .head _, h⟩
      · exact ⟨x, .tail _ hx, h⟩
    · rintro ⟨x, hx, h⟩
      rcases List.mem_cons.mp hx with y | y
      · rw [y] at h; exact .inl h
      · exact .inr ⟨x, y, h⟩
theorem tt_add {α : Type} (f g : α → Option Rat) : ∀ (ws : List Rat) (W : List α), ttR (ws.zip (W.map fun u => addOO (f u) (g u))) = ttR (ws.zip (W.map f)) + ttR (ws.zip (W.map g))
  | [], _ => by show (0 : Rat) = 0 + 0; grind
  | _ :: _, [] => by show (0 : Rat) = 0 + 0; grind
  | w :: ws, u :: W => by
    have ih := tt_add f g ws W
    simp only [List.map_cons, List.zip_cons_cons]
    cases f u <;> cases g u
    · exact ih
    · show w * _ + ttR _ = ttR (ws.zip (W.map f)) + (w * _ + ttR _); rw [ih]; grind
    · show w * _ + ttR _ = w * _ + ttR _ + ttR (ws.zip (W.map g)); rw [ih]; grind
    · show w * (_ + _) + ttR _ = w * _ + ttR _ + (w * _ + ttR _); rw [ih]; grind
theorem tt_tm {α : Type} (s : Rat) (f : α → Option Rat) : ∀ (ws : List Rat) (W : List α), ttR (ws.zip (W.map fun u => tmG s (f u))) = s * ttR (ws.zip (W.map f))
  | [], _ => by show (0 : Rat) = s * 0; grind
  | _ :: _, [] => by show (0 : Rat) = s * 0; grind
  | w :: ws, u :: W => by
    have ih := tt_tm s f ws W
    simp only [List.map_cons, List.zip_cons_cons]
    cases f u with
    | none => exact ih
    | some g =>
      show ttR ((w, if s = 0 then none else some (s * g)) :: _) = s * (w * g + ttR _)
      by_cases h : s = 0
      · rw [if_pos h]
        show ttR (ws.zip (W.map fun u => tmG s (f u))) = _
        rw [ih, h]; grind
      · rw [if_neg h]
        show w * (s * g) + ttR _ = _
        rw [ih]; grind
theorem tt_book (ls : List Nat) (rs : List (List Wd)) (ws : List Rat) : ∀ zs : List (Bid × Rat), ttR (ws.zip ((worldsOf ls rs).map fun u => bookW ls u zs none)) = (zs.map fun z => z.2 * ttR (ws.zip (gainsB ls rs z.1))).sum
  | [] => by
    show _ = (0 : Rat)
    refine tt_zero fun z hz hs => ?_
    obtain ⟨u, _, e⟩ := List.mem_map.mp (List.of_mem_zip hz).2
    rw [← e] at hs
    cases hs
  | z :: zs => by
    rw [List.map_cons, List.sum_cons, ← tt_book ls rs ws zs, List.map_congr_left (g := fun u => addOO (tmG z.2 (gainW z.1.2 (payS ls u z.1.1))) (bookW ls u zs none)) fun u _ => bookW_zs ls u z zs, tt_add, tt_tm]
    unfold gainsB tabS
    rw [List.map_map]; rfl
theorem loses_alive {os : List (Option Rat)} (h : losesB os = true) : (∃ r, some r ∈ os) ∧ ∀ r, some r ∈ os → r < 0 := by
  have key : ∀ r, some r ∈ os → r < 0 := fun r hr => by
    by_cases c : r < 0
    · exact c
    · rw [loses_not hr c] at h; cases h
  refine ⟨?_, key⟩
  refine Classical.byContradiction fun z => ?_
  have : os.filterMap id = [] := by
    rw [List.filterMap_eq_nil_iff]
    intro o ho
    cases o with
    | none => rfl
    | some r => exact (z ⟨r, ho⟩).elim
  revert h
  unfold losesB
  simp [this]
theorem no_loss' {ls : List Nat} {rs : List (List Wd)} {zs : List (Bid × Rat)} (hs : ∀ z ∈ zs, 0 ≤ z.2) (hn : ∀ r, some r ∈ (worldsOf ls rs).map (fun u => bookW ls u zs none) → r < 0) : ∀ {Ls : List (List Rat)}, (∀ ws ∈ Ls, ∀ w ∈ ws, 0 ≤ w) → (∀ z ∈ zs, z.2 ≠ 0 → ∃ g, meanIn (gainsB ls rs z.1) Ls = some g ∧ 0 ≤ g) → ∀ z ∈ zs, z.2 = 0
  | [], _, h => fun z hz => by
    by_cases c : z.2 = 0
    · exact c
    · obtain ⟨g, e, _⟩ := h z hz c
      cases e
  | ws :: Ls, hL, h => by
    have w0 := hL ws (.head _)
    have hb := tt_book ls rs ws zs
    have t0 : ∀ z ∈ zs, z.2 ≠ 0 → 0 ≤ ttR (ws.zip (gainsB ls rs z.1)) := fun z hz c => by
      obtain ⟨g, e, g0⟩ := h z hz c
      have ln := lv_nonneg (zs := ws.zip (gainsB ls rs z.1)) fun x hx => w0 _ (List.of_mem_zip hx).1
      by_cases l0 : lvR (ws.zip (gainsB ls rs z.1)) = 0
      · rw [tt_zero ((lv_zero fun x hx => w0 _ (List.of_mem_zip hx).1).mp l0)]; exact Rat.le_refl
      · unfold meanIn at e
        rw [List.findSome?_cons] at e
        have em : meanR (ws.zip (gainsB ls rs z.1)) = some (ttR (ws.zip (gainsB ls rs z.1)) / lvR (ws.zip (gainsB ls rs z.1))) := if_neg l0
        rw [em] at e
        injection e with e
        have := mul_div' (b := ttR (ws.zip (gainsB ls rs z.1))) l0
        rw [e] at this
        rw [← this]
        exact Rat.mul_nonneg ln g0
    have sn : ∀ l : List Rat, (∀ x ∈ l, 0 ≤ x) → 0 ≤ l.sum := fun l => by
      induction l with
      | nil => exact fun _ => Rat.le_refl
      | cons a l ih =>
        intro h
        rw [List.sum_cons]
        have h1 := ih fun x hx => h x (.tail _ hx)
        have h2 := h a (.head _)
        grind
    have s0 : 0 ≤ (zs.map fun z => z.2 * ttR (ws.zip (gainsB ls rs z.1))).sum := sn _ fun x hx => by
      obtain ⟨z, hz, rfl⟩ := List.mem_map.mp hx
      by_cases c : z.2 = 0
      · rw [c]; grind
      · exact Rat.mul_nonneg (hs z hz) (t0 z hz c)
    obtain ⟨n1, n2⟩ := neg_tt (zs := ws.zip ((worldsOf ls rs).map fun u => bookW ls u zs none)) (fun x hx => w0 _ (List.of_mem_zip hx).1) fun x hx r e => hn r (by rw [← e]; exact (List.of_mem_zip hx).2)
    have l0 := n2 (by grind)
    refine no_loss' hs hn (Ls := Ls) (fun x hx => hL x (.tail _ hx)) fun z hz c => ?_
    obtain ⟨g, e, g0⟩ := h z hz c
    have le : lvR (ws.zip (gainsB ls rs z.1)) ≤ lvR (ws.zip ((worldsOf ls rs).map fun u => bookW ls u zs none)) := by
      have e1 : gainsB ls rs z.1 = (worldsOf ls rs).map fun u => gainW z.1.2 (payS ls u z.1.1) := by unfold gainsB tabS; rw [List.map_map]; rfl
      rw [e1]
      exact lv_le w0 fun u _ hu => book_some.mpr ⟨z, hz, c, hu⟩
    have ln := lv_nonneg (zs := ws.zip (gainsB ls rs z.1)) fun x hx => w0 _ (List.of_mem_zip hx).1
    have lz : lvR (ws.zip (gainsB ls rs z.1)) = 0 := by grind
    unfold meanIn at e
    rw [List.findSome?_cons, mean_none.mpr lz] at e
    exact ⟨g, e, g0⟩
theorem no_loss {ls : List Nat} {rs : List (List Wd)} {bs : List Bid} {st : List Rat} {Ls : List (List Rat)} (hs : ∀ s ∈ st, 0 ≤ s) (hL : ∀ ws ∈ Ls, ∀ w ∈ ws, 0 ≤ w) (hb : ∀ b ∈ bs, bearsB (tabS ls rs b.1) Ls b.2 = true) : losesB (gainsOf ls rs bs st) = false := by
  rw [Bool.eq_false_iff]
  intro h
  obtain ⟨⟨r, hr⟩, hn⟩ := loses_alive h
  have key := no_loss' (ls := ls) (rs := rs) (zs := bs.zip st) (fun z hz => hs _ (List.of_mem_zip hz).2) hn hL fun z hz _ => (bears_gain _ _ _).mp (hb _ (List.of_mem_zip hz).1)
  obtain ⟨u, _, e⟩ := List.mem_map.mp hr
  obtain ⟨z, hz, c, _⟩ := book_some.mp (show (bookW ls u (bs.zip st) none).isSome = true by rw [e]; rfl)
  exact c (key z hz)
theorem oV_book {ls : List Nat} {u : List Bool} : ∀ {bs : List Bid} {st : List Rat} {h : Nat → Rat}, bs.length = st.length → (∀ i b, bs[i]? = some b → h i = oV (gainW b.2 (payS ls u b.1))) → oV (bookW ls u (bs.zip st) none) = dotL st h
  | [], [], _, _, _ => rfl
  | b :: bs, s :: st, h, hl, e => by
    have ad : ∀ a b : Option Rat, oV (addOO a b) = oV a + oV b := fun a b => by
      cases a <;> cases b
      · show (0 : Rat) = 0 + 0; grind
      · show _ = (0 : Rat) + _; rw [Rat.zero_add]; rfl
      · show _ = _ + (0 : Rat); rw [Rat.add_zero]; rfl
      · rfl
    have tm : ∀ s g, oV (tmG s g) = s * oV g := fun s g => by
      cases g with
      | none => show (0 : Rat) = s * 0; grind
      | some g =>
        show oV (if s = 0 then none else some (s * g)) = s * g
        by_cases c : s = 0
        · rw [if_pos c, c]; show (0 : Rat) = 0 * g; grind
        · rw [if_neg c]; rfl
    rw [List.zip_cons_cons, bookW_zs, ad, oV_book (bs := bs) (st := st) (h := fun i => h (i + 1)) (by simpa using hl) fun i b hb => e (i + 1) b (by simpa using hb)]
    show oV (tmG s _) + _ = s * h 0 + _
    rw [tm, e 0 b rfl]
theorem gtA_get {ls : List Nat} {rs : List (List Wd)} {bs : List Bid} {i u : Nat} {b : Bid} {U : List Bool} (hb : bs[i]? = some b) (hu : (worldsOf ls rs)[u]? = some U) : gtA (bs.map (gainsB ls rs)) i u = gainW b.2 (payS ls U b.1) := by
  unfold gtA
  rw [List.getD_eq_getElem?_getD (l := bs.map _), List.getElem?_map, hb]
  show ((tabS ls rs b.1).map (gainW b.2)).getD u none = _
  unfold tabS
  rw [List.map_map, List.getD_eq_getElem?_getD, List.getElem?_map, hu]; rfl
theorem loss_ok {ls : List Nat} {rs : List (List Wd)} {bs : List Bid} {left : List Nat} (hl : left ≠ []) (hi : ∀ i ∈ left, i < bs.length) (nd : left.Nodup) (hlive : ∀ b ∈ bs, ((worldsOf ls rs).any fun u => valS ls u b.1.2) = true)
    (h0 : (wOf (bs.map (gainsB ls rs)) (worldsOf ls rs).length left).all (fun x => decide (x = 0)) = true) : losesB (gainsOf ls rs bs (sprd bs.length left ((List.range left.length).map (yOf (bs.map (gainsB ls rs)) left (liveL (bs.map (gainsB ls rs)) (worldsOf ls rs).length left))))) = true := by
  obtain ⟨ts, hts⟩ : ∃ ts, bs.map (gainsB ls rs) = ts := ⟨_, rfl⟩
  rw [hts] at h0 ⊢
  obtain ⟨W, hW⟩ : ∃ W, liveL ts (worldsOf ls rs).length left = W := ⟨_, rfl⟩
  rw [hW]
  obtain ⟨st, hst⟩ : ∃ st, sprd bs.length left ((List.range left.length).map (yOf ts left W)) = st := ⟨_, rfl⟩
  rw [hst]
  have lst : bs.length = st.length := by rw [← hst, sprd_len]
  have y00 : yOf ts left W left.length = 0 := by
    rw [← y_last, ← hW, ← sum_w, sum_dot]
    exact dot_zero fun i hi => by
      rw [List.getD_eq_getElem?_getD, List.getElem?_eq_getElem hi, Option.getD_some, of_decide_eq_true (List.all_eq_true.mp h0 _ (List.getElem_mem hi)), Rat.zero_mul]
  have hdot : ∀ u U, (worldsOf ls rs)[u]? = some U → oV (bookW ls U (bs.zip st) none) = sumN left.length fun k => yOf ts left W k * oV (gtA ts (left.getD k 0) u) := fun u U hu => by
    rw [oV_book (h := fun i => oV (gtA ts i u)) lst fun i b hb => by rw [← hts, gtA_get hb hu], ← hst, dot_sprd nd hi]
  have hlt : ∀ u U, (worldsOf ls rs)[u]? = some U → u ∈ W → ∃ r, bookW ls U (bs.zip st) none = some r ∧ r < 0 := fun u U hu huW => by
    obtain ⟨j, hj, e⟩ := List.mem_iff_getElem.mp huW
    have hc := col_ge (ts := ts) (left := left) W hj
    rw [y00, List.getD_eq_getElem?_getD, List.getElem?_eq_getElem hj, Option.getD_some, e, ← hdot u U hu] at hc
    cases eb : bookW ls U (bs.zip st) none with
    | none =>
      rw [eb] at hc
      have hc : (1 : Rat) ≤ -0 + 0 := hc
      grind
    | some r =>
      rw [eb] at hc
      have hc : (1 : Rat) ≤ -r + 0 := hc
      exact ⟨r, rfl, by grind⟩
  have hin : ∀ u U, (worldsOf ls rs)[u]? = some U → ∀ i b, i ∈ left → bs[i]? = some b → (gainW b.2 (payS ls U b.1)).isSome = true → u ∈ W := fun u U hu i b him hb hs => by
    rw [← hW]
    refine List.mem_filter.mpr ⟨List.mem_range.mpr (List.getElem?_eq_some_iff.mp hu).1, List.any_eq_true.mpr ⟨i, him, ?_⟩⟩
    rw [← hts, gtA_get hb hu]; exact hs
  have ps : ∀ (p : Rat) (o : Option Rat), (gainW p o).isSome = o.isSome := fun p o => by cases o <;> rfl
  -- some world at which it lives
  obtain ⟨i, him⟩ := List.exists_mem_of_ne_nil _ hl
  obtain ⟨b, hb⟩ : ∃ b, bs[i]? = some b := ⟨_, List.getElem?_eq_getElem (hi i him)⟩
  obtain ⟨U, hU, hv⟩ := List.any_eq_true.mp (hlive b (List.mem_of_getElem? hb))
  obtain ⟨u, hu⟩ := List.mem_iff_getElem?.mp hU
  have hp : (payS ls U b.1).isSome = true := by unfold payS; rw [if_pos hv]; rfl
  obtain ⟨r, er, _⟩ := hlt u U hu (hin u U hu i b him hb (by rw [ps]; exact hp))
  refine loses_of (r := r) ?_ fun r' hr' => ?_
  · rw [← er]; exact List.mem_map_of_mem hU
  · obtain ⟨U', hU', e'⟩ := List.mem_map.mp hr'
    obtain ⟨u', hu'⟩ := List.mem_iff_getElem?.mp hU'
    obtain ⟨z, hz, c, hs⟩ := book_some.mp (show (bookW ls U' (bs.zip st) none).isSome = true by rw [e']; rfl)
    obtain ⟨i', hi'⟩ := List.mem_iff_getElem?.mp hz
    rw [List.getElem?_zip_eq_some] at hi'
    have hm : i' ∈ left := by
      refine Classical.byContradiction fun q => ?_
      have h1 : i' < bs.length := (List.getElem?_eq_some_iff.mp hi'.1).1
      have := sprd_out (vs := (List.range left.length).map (yOf ts left W)) q h1
      rw [hst, hi'.2] at this
      injection this with this
      exact c this
    obtain ⟨r2, er2, hr2⟩ := hlt u' U' hu' (hin u' U' hu' i' z.1 hm hi'.1 hs)
    rw [e'] at er2
    injection er2 with er2
    rw [er2]; exact hr2

def jTs (ls : List Nat) (rs : List (List Wd)) (bs : List Bid) : Tbs := bs.map (gainsB ls rs)
section
variable {ls : List Nat} {rs : List (List Wd)} {bs : List Bid}
theorem jTs_len : (jTs ls rs bs).length = bs.length := List.length_map _
theorem jTs_get {i : Nat} {b : Bid} (h : bs[i]? = some b) : (jTs ls rs bs).getD i [] = gainsB ls rs b := by
  unfold jTs
  rw [List.getD_eq_getElem?_getD, List.getElem?_map, h]; rfl
end
def JSz (ts : Tbs) (w : Nat) (left : List Nat) (B : Nat) : Prop := ∀ l W : List Nat, l.Sublist left → (∀ u ∈ W, u < w) → LpSz (lpOf ts l W) B
structure JIn (ls : List Nat) (rs : List (List Wd)) (bs : List Bid) (B : Nat) : Prop where
  few : bs.length ≤ 19
  sz : JSz (jTs ls rs bs) (worldsOf ls rs).length (List.range bs.length) B
  le : B ≤ 10000000
  one : 1 ≤ B
def WgL (m q : Nat) (Ls : List (List Rat)) : Prop := ∀ ws ∈ Ls, ws.length = m ∧ (∀ v ∈ ws, Sz q v ∧ 0 ≤ v) ∧ ws.sum = 1
theorem WgL.layB {m q : Nat} {Ls : List (List Rat)} (h : WgL m q Ls) (l : Ls.length ≤ 40) : layB m (lsD Ls) = true := by
  show (decide ((Ls.map fun ws => PyData.tuple (ws.map frD)).length ≤ 40) && (Ls.map fun ws => PyData.tuple (ws.map frD)).all (wgB m)) = true
  rw [List.length_map, decide_eq_true l, Bool.true_and, List.all_map, List.all_eq_true]
  intro ws hw
  obtain ⟨a, b, c⟩ := h ws hw
  show wgB m (.tuple (ws.map frD)) = true
  rw [wgB_fr, decide_eq_true a, decide_eq_true c, Bool.true_and, Bool.and_true, List.all_eq_true]
  exact fun w hw => decide_eq_true (Rat.num_nonneg.mpr (b w hw).2)
theorem rat_den (b : Rat) : (b.den : Rat) * b = (b.num : Rat) := by
  have h : Rat.divInt b.num (b.den : Int) = b := Rat.num_divInt_den b
  rw [Rat.divInt_eq_div] at h
  have hd : ((b.den : Nat) : Rat) ≠ 0 := fun z => by have := Rat.natCast_eq_zero_iff.mp z; have := b.den_pos; omega
  have e : (b.den : Rat) * ((b.num : Rat) / (b.den : Rat)) = (b.num : Rat) := mul_div' hd
  exact Eq.trans (congrArg (fun x => (b.den : Rat) * x) h.symm) e
theorem Tin.mono {K L : Nat} {t : List (Option Rat)} (h : Tin K t) (l : K ≤ L) : Tin L t := by
  obtain ⟨d, d0, d1, d2⟩ := h
  have p : 2 ^ K ≤ 2 ^ L := Nat.pow_le_pow_right (by decide) l
  exact ⟨d, d0, Nat.lt_of_lt_of_le d1 p, fun r hr => by obtain ⟨c, c1, c2⟩ := d2 r hr; exact ⟨c, c1, Nat.lt_of_lt_of_le c2 p⟩⟩
def Borne (ls : List Nat) (rs : List (List Wd)) (bs : List Bid) : Prop := ∃ Ls : List (List Rat), (∀ ws ∈ Ls, ∀ w ∈ ws, 0 ≤ w) ∧ ∀ b ∈ bs, bearsB (tabS ls rs b.1) Ls b.2 = true
def KS (f : Nat → Nat) : Nat → Nat
  | 0 => 0
  | n + 1 => f 0 + KS (fun c => f (c + 1)) n
def FBc (n : Nat) (f : Nat → Nat) : Nat := KS f n + n * n + 1
theorem det_intC : ∀ {n : Nat} {f : Nat → Nat} {M : Nat → Nat → Rat}, (∀ r c, r < n → c < n → ∃ z : Int, M r c = (z : Rat) ∧ z.natAbs < 2 ^ f c) → ∃ z : Int, det n M = (z : Rat) ∧ z.natAbs < 2 ^ FBc n f
  | 0, _, _, _ => ⟨1, rfl, by simp [FBc, KS]⟩
  | n + 1, f, M, h => by
    have h1 : ∀ i, ∃ z : Int, i < n + 1 → sgn i * (M i 0 * det n fun r c => M (skp i r) (c + 1)) = (z : Rat) ∧ z.natAbs ≤ 2 ^ (f 0 + FBc n fun c => f (c + 1)) := fun i => by
      by_cases hi : i < n + 1
      · obtain ⟨a, a1, a2⟩ := h i 0 hi (by omega)
        obtain ⟨b, b1, b2⟩ := det_intC (n := n) (f := fun c => f (c + 1)) (M := fun r c => M (skp i r) (c + 1)) fun r c hr hc => h _ _ (by unfold skp; split <;> omega) (by omega)
        have key : (a * b).natAbs ≤ 2 ^ (f 0 + FBc n fun c => f (c + 1)) := by
          rw [Int.natAbs_mul, Nat.pow_add]
          exact Nat.mul_le_mul (Nat.le_of_lt a2) (Nat.le_of_lt b2)
        rw [a1, b1]
        unfold sgn
        by_cases e : i % 2 = 0
        · refine ⟨a * b, fun _ => ⟨?_, key⟩⟩
          rw [if_pos e, Rat.intCast_mul]; grind
        · refine ⟨-(a * b), fun _ => ⟨?_, by rw [Int.natAbs_neg]; exact key⟩⟩
          rw [if_neg e, Rat.intCast_neg, Rat.intCast_mul]; grind
      · exact ⟨0, fun z => absurd z hi⟩
    obtain ⟨c, c1, c2⟩ := sumN_abs (m := n + 1) (f := fun i => Classical.choose (h1 i)) (B := 2 ^ (f 0 + FBc n fun c => f (c + 1))) fun i hi => (Classical.choose_spec (h1 i) hi).2
    refine ⟨c, ?_, ?_⟩
    · rw [← c1]
      exact sumN_congr fun i hi => (Classical.choose_spec (h1 i) hi).1
    · refine Nat.lt_of_le_of_lt c2 ?_
      have : (n + 1) * 2 ^ (f 0 + FBc n fun c => f (c + 1)) < 2 ^ ((n + 1) + (f 0 + FBc n fun c => f (c + 1))) := by
        rw [Nat.pow_add 2 (n + 1)]
        exact (Nat.mul_lt_mul_right (Nat.two_pow_pos _)).mpr Nat.lt_two_pow_self
      refine Nat.lt_of_lt_of_le this (Nat.pow_le_pow_right (by decide) ?_)
      unfold FBc
      show _ ≤ f 0 + KS (fun c => f (c + 1)) n + (n + 1) * (n + 1) + 1
      have : (n + 1) * (n + 1) = n * n + n + n + 1 := by rw [Nat.succ_mul, Nat.mul_succ]; omega
      omega
def FwC (D : Dims) (S : Tab) (f : Nat → Nat) : Prop := ∀ j, j ≤ D.N → ∀ k, k < D.m → ∃ d : Nat, 0 < d ∧ (∀ i, i < D.m → ∃ c : Int, (d : Rat) * D.A k (S.own i) = (c : Rat) ∧ c.natAbs < 2 ^ f k) ∧ ∃ c : Int, (d : Rat) * D.A k j = (c : Rat) ∧ c.natAbs < 2 ^ f k
def FewC (D : Dims) (f : Nat → Nat) : Prop := ∀ k, k < D.m → ∃ d : Nat, 0 < d ∧ ∀ j, j ≤ D.N → ∃ c : Int, (d : Rat) * D.A k j = (c : Rat) ∧ c.natAbs < 2 ^ f k
theorem FewC.fw {D : Dims} {S : Tab} {f : Nat → Nat} (h : FewC D f) (g : Good0 D S) : FwC D S f := fun j hj k hk => by
  obtain ⟨d, d0, d1⟩ := h k hk
  exact ⟨d, d0, fun i hi => d1 _ (Nat.le_of_lt (g.lt i hi)), d1 j hj⟩
theorem tab_cdC {D : Dims} {S : Tab} {f : Nat → Nat} (h : FwC D S f) (gd : GoodD D S) {j : Nat} (hj : j ≤ D.N) : ∃ e : Int, e ≠ 0 ∧ e.natAbs < 2 ^ FBc D.m f ∧ ∀ i, i < D.m → ∃ n : Int, (e : Rat) * S.T i j = (n : Rat) ∧ n.natAbs < 2 ^ FBc D.m f := by
  have g := gd.g
  have fam : ∀ k, ∃ d : Nat, k < D.m → 0 < d ∧ (∀ i, i < D.m → ∃ c : Int, (d : Rat) * D.A k (S.own i) = (c : Rat) ∧ c.natAbs < 2 ^ f k) ∧ ∃ c : Int, (d : Rat) * D.A k j = (c : Rat) ∧ c.natAbs < 2 ^ f k := fun k => by
    by_cases hk : k < D.m
    · obtain ⟨d, hd⟩ := h j hj k hk
      exact ⟨d, fun _ => hd⟩
    · exact ⟨0, fun z => absurd z hk⟩
  obtain ⟨d, hd⟩ : ∃ d : Nat → Nat, ∀ k, k < D.m → 0 < d k ∧ (∀ i, i < D.m → ∃ c : Int, (d k : Rat) * D.A k (S.own i) = (c : Rat) ∧ c.natAbs < 2 ^ f k) ∧ ∃ c : Int, (d k : Rat) * D.A k j = (c : Rat) ∧ c.natAbs < 2 ^ f k := ⟨fun k => Classical.choose (fam k), fun k => Classical.choose_spec (fam k)⟩
  have iM : ∀ r c, r < D.m → c < D.m → ∃ z : Int, (d c : Rat) * own_M D S r c = (z : Rat) ∧ z.natAbs < 2 ^ f c := fun r c hr hc => (hd c hc).2.1 r hr
  have ia : ∀ c, c < D.m → ∃ z : Int, (d c : Rat) * D.A c j = (z : Rat) ∧ z.natAbs < 2 ^ f c := fun c hc => (hd c hc).2.2
  obtain ⟨e, e1, e2⟩ := det_intC (n := D.m) (f := f) (M := fun r c => (d c : Rat) * own_M D S r c) iM
  have e0 : prodN D.m (fun c => (d c : Rat)) ≠ 0 := prodN_ne fun k hk => fun z => by have := (hd k hk).1; have := Rat.natCast_eq_zero_iff.mp z; omega
  rw [det_cols] at e1
  refine ⟨e, fun z => ?_, e2, fun i hi => ?_⟩
  · rw [z] at e1
    rcases Rat.mul_eq_zero.mp (show _ * _ = (0 : Rat) from e1) with y | y
    · exact e0 y
    · exact gd.d y
  · obtain ⟨n, n1, n2⟩ := det_intC (n := D.m) (f := f) (M := fun r c => (d c : Rat) * rwM i (fun c => D.A c j) (own_M D S) r c) fun r c hr hc => by
      by_cases q : r = i
      · rw [q, rwM_at]; exact ia c hc
      · rw [rwM_ne _ _ q]; exact iM r c hr hc
    refine ⟨n, ?_, n2⟩
    have key : det D.m (rwM i (fun c => D.A c j) (own_M D S)) = S.T i j * det D.m (own_M D S) := by
      rw [← cramer (own_M D S) (fun k => S.T k j) hi]
      refine det_congr fun r c hr hc => ?_
      unfold rwM
      by_cases q : r = i
      · rw [if_pos q, if_pos q, g.col c j hc hj]
        exact sumN_congr fun k _ => Rat.mul_comm _ _
      · rw [if_neg q, if_neg q]
    rw [← n1, ← e1, det_cols, key, Rat.mul_assoc, Rat.mul_comm (det D.m _)]
theorem tab_TC {D : Dims} {S : Tab} {f : Nat → Nat} (h : FwC D S f) (g : GoodD D S) {i j : Nat} (hi : i < D.m) (hj : j ≤ D.N) : Sz (FBc D.m f) (S.T i j) := by
  obtain ⟨e, e0, e1, e2⟩ := tab_cdC h g hj
  obtain ⟨n, n1, n2⟩ := e2 i hi
  have e0' : (e : Rat) ≠ 0 := fun z => e0 (Rat.intCast_eq_zero_iff.mp z)
  have : S.T i j = Rat.divInt n e := by
    rw [Rat.divInt_eq_div, ← n1]
    have := mul_div' (b := (e : Rat) * S.T i j) e0'
    generalize (e : Rat) * S.T i j / (e : Rat) = q at this ⊢
    have h3 : (e : Rat) * (q - S.T i j) = 0 := by grind
    rcases Rat.mul_eq_zero.mp h3 with y | y
    · exact absurd y e0'
    · grind
  rw [this]
  exact sz_divInt e0 n2 e1
theorem tab_ziC {D : Dims} {S : Tab} {f : Nat → Nat} (h : FwC D S f) (hc : ∀ j, j ≤ D.N → ∃ c : Int, D.c j = (c : Rat) ∧ c.natAbs ≤ 1) (g : GoodD D S) {j : Nat} (hj : j ≤ D.N) : Sz (FBc D.m f + (D.m + 1)) (S.z j) := by
  obtain ⟨d, d0, d1, d2⟩ := tab_cdC h g hj
  have z_eq' : S.z j = D.c j + -(sumN D.m fun i => D.c (S.own i) * S.T i j) := z_eq g.g hj
  have ns : ∃ n : Nat → Int, ∀ i, i < D.m → (d : Rat) * (D.c (S.own i) * S.T i j) = (n i : Rat) ∧ (n i).natAbs ≤ 2 ^ FBc D.m f := by
    have : ∀ i, ∃ n : Int, i < D.m → (d : Rat) * (D.c (S.own i) * S.T i j) = (n : Rat) ∧ n.natAbs ≤ 2 ^ FBc D.m f := fun i => by
      by_cases hi : i < D.m
      · obtain ⟨c, c1, c2⟩ := hc (S.own i) (Nat.le_of_lt (g.g.lt i hi))
        obtain ⟨n, n1, n2⟩ := d2 i hi
        refine ⟨c * n, fun _ => ⟨?_, ?_⟩⟩
        · rw [c1, Rat.intCast_mul, ← n1]; grind
        · rw [Int.natAbs_mul]
          have := Nat.mul_le_mul c2 (Nat.le_of_lt n2)
          omega
      · exact ⟨0, fun z => absurd z hi⟩
    exact ⟨fun i => Classical.choose (this i), fun i hi => Classical.choose_spec (this i) hi⟩
  obtain ⟨n, hn⟩ := ns
  obtain ⟨e, e1, e2⟩ := sumN_abs (m := D.m) (f := n) (B := 2 ^ FBc D.m f) fun i hi => (hn i hi).2
  obtain ⟨c, c1, c2⟩ := hc j hj
  have key : (d : Rat) * S.z j = ((c * d - e : Int) : Rat) := by
    rw [z_eq', c1, Rat.intCast_sub, Rat.intCast_mul, ← e1]
    have : (d : Rat) * sumN D.m (fun i => D.c (S.own i) * S.T i j) = sumN D.m fun i => (n i : Rat) := by
      rw [← sumN_mul]
      exact sumN_congr fun i hi => (hn i hi).1
    grind
  have d0' : (d : Rat) ≠ 0 := fun z => d0 (Rat.intCast_eq_zero_iff.mp z)
  have e3 : S.z j = Rat.divInt (c * d - e) d := by
    rw [Rat.divInt_eq_div, ← key]
    have := mul_div' (b := (d : Rat) * S.z j) d0'
    generalize (d : Rat) * S.z j / (d : Rat) = q at this ⊢
    have h3 : (d : Rat) * (q - S.z j) = 0 := by grind
    rcases Rat.mul_eq_zero.mp h3 with y | y
    · exact absurd y d0'
    · grind
  rw [e3]
  have hp : 2 ^ FBc D.m f < 2 ^ (FBc D.m f + (D.m + 1)) := Nat.pow_lt_pow_right (by decide) (by omega)
  refine sz_divInt d0 ?_ (by omega)
  have q1 : (c * d).natAbs ≤ 2 ^ FBc D.m f := by
    rw [Int.natAbs_mul]
    have := Nat.mul_le_mul c2 (Nat.le_of_lt d1)
    omega
  have q2 : (c * d - e).natAbs ≤ (D.m + 1) * 2 ^ FBc D.m f := by
    rw [Nat.succ_mul]; omega
  refine Nat.lt_of_le_of_lt q2 ?_
  rw [Nat.pow_add _ _ (D.m + 1), Nat.mul_comm]
  exact Nat.mul_lt_mul_of_pos_left Nat.lt_two_pow_self (Nat.two_pow_pos _)
theorem KS_congr : ∀ {n : Nat} {f g : Nat → Nat}, (∀ k, k < n → f k = g k) → KS f n = KS g n
  | 0, _, _, _ => rfl
  | n + 1, f, g, h => by
    show f 0 + _ = g 0 + _
    rw [h 0 (by omega), KS_congr (n := n) (f := fun c => f (c + 1)) (g := fun c => g (c + 1)) fun k hk => h (k + 1) (by omega)]
theorem KS_list (f : Nat → Nat) (a : Nat) : ∀ left : List Nat, KS (fun k => if k < left.length then f (left.getD k 0) else a) (left.length + 1) = (left.map f).sum + a
  | [] => by show (if 0 < 0 then _ else a) + 0 = 0 + a; rw [if_neg (by decide)]; omega
  | b :: left => by
    show (if 0 < (b :: left).length then f ((b :: left).getD 0 0) else a) + KS _ (left.length + 1) = _
    rw [if_pos (by simp), KS_congr (g := fun k => if k < left.length then f (left.getD k 0) else a) (fun k hk => ?_), KS_list f a left, List.map_cons, List.sum_cons]
    · show f b + _ = _
      omega
    · show (if k + 1 < left.length + 1 then f ((b :: left).getD (k + 1) 0) else a) = _
      by_cases c : k < left.length
      · rw [if_pos c, if_pos (by omega)]; rfl
      · rw [if_neg c, if_neg (by omega)]
theorem sub_sum (f : Nat → Nat) {l m : List Nat} (h : l.Sublist m) : (l.map f).sum ≤ (m.map f).sum := by
  induction h with
  | slnil => exact Nat.le_refl _
  | cons a h ih => rw [List.map_cons, List.sum_cons]; omega
  | cons_cons a h ih => rw [List.map_cons, List.map_cons, List.sum_cons, List.sum_cons]; omega
def SzC (f : Nat → Nat) (left : List Nat) : Nat := (left.map f).sum + 1 + (left.length + 1) * (left.length + 1) + 1 + (left.length + 2)
theorem lpOf_szC {ts : Tbs} {left W : List Nat} {f : Nat → Nat} (h : ∀ i ∈ left, Tin (f i) (ts.getD i [])) : LpSz (lpOf ts left W) (SzC f left) := by
  have z0 : ∀ d e : Nat, ∃ c : Int, (d : Rat) * 0 = (c : Rat) ∧ c.natAbs < 2 ^ e := fun d e => ⟨0, by rw [Rat.mul_zero]; rfl, Nat.two_pow_pos _⟩
  have z1 : ∀ d e : Nat, d < 2 ^ e → ∃ c : Int, (d : Rat) * 1 = (c : Rat) ∧ c.natAbs < 2 ^ e := fun d e hd => ⟨d, by rw [Rat.mul_one]; rfl, hd⟩
  have few : FewC (lpOf ts left W).dims (fun k => if k < left.length then f (left.getD k 0) else 1) := fun k hk => by
    have hk : k < left.length + 1 := hk
    by_cases c : k < left.length
    · dsimp only
      rw [if_pos c]
      obtain ⟨d, d0, dK, hd⟩ := h (left.getD k 0) (by rw [List.getD_eq_getElem?_getD, List.getElem?_eq_getElem c]; exact List.getElem_mem c)
      refine ⟨d, d0, fun j _ => ?_⟩
      show ∃ c' : Int, (d : Rat) * (if j < W.length then (if k < left.length then negO (gtA ts (left.getD k 0) (W.getD j 0)) else 1) else if j < W.length + (left.length + 1) then (if j = W.length + k then (1 : Rat) else 0) else (if k < left.length then 0 else 1)) = (c' : Rat) ∧ _
      rw [if_pos c, if_pos c]
      split
      · cases e : gtA ts (left.getD k 0) (W.getD j 0) with
        | none => exact z0 d _
        | some r =>
          obtain ⟨c', e1, e2⟩ := hd r (gtA_mem e)
          refine ⟨-c', ?_, by rw [Int.natAbs_neg]; exact e2⟩
          show (d : Rat) * -r = _
          rw [Rat.intCast_neg, ← e1]; grind
      · split
        · split
          · exact z1 d _ dK
          · exact z0 d _
        · exact z0 d _
    · dsimp only
      rw [if_neg c]
      refine ⟨1, by decide, fun j _ => ?_⟩
      show ∃ c' : Int, ((1 : Nat) : Rat) * (if j < W.length then (if k < left.length then negO (gtA ts (left.getD k 0) (W.getD j 0)) else 1) else if j < W.length + (left.length + 1) then (if j = W.length + k then (1 : Rat) else 0) else (if k < left.length then 0 else 1)) = (c' : Rat) ∧ _
      rw [if_neg c, if_neg c]
      split
      · exact z1 1 1 (by decide)
      · split
        · split
          · exact z1 1 1 (by decide)
          · exact z0 1 1
        · exact z1 1 1 (by decide)
  have e : FBc (left.length + 1) (fun k => if k < left.length then f (left.getD k 0) else 1) + (left.length + 2) = SzC f left := by
    unfold FBc SzC
    rw [KS_list]
  refine fun U g => ⟨fun i j hi hj => (tab_TC (few.fw g.g) g hi hj).mono (by show FBc (left.length + 1) _ ≤ _; rw [← e]; exact Nat.le_add_right _ _), fun j hj => (tab_ziC (few.fw g.g) (fun j _ => ?_) g hj).mono (Nat.le_of_eq e)⟩
  show ∃ c' : Int, (if j < W.length then -(1 : Rat) else 0) = (c' : Rat) ∧ _
  split
  · exact ⟨-1, rfl, by decide⟩
  · exact ⟨0, rfl, by decide⟩
noncomputable def wAt (ts : Tbs) (w : Nat) (left W : List Nat) : List Rat := sprd w W ((List.range W.length).map (xOf ts left W))
def offW (ts : Tbs) (os : List (Option Rat)) (left : List Nat) : List Nat := (liveL ts os.length left).filter fun u => (os.getD u none).isNone
theorem offW_nd {ts : Tbs} {os : List (Option Rat)} {left : List Nat} : (offW ts os left).Nodup := liveL_nd.sublist List.filter_sublist
theorem offW_lt {ts : Tbs} {os : List (Option Rat)} {left : List Nat} : ∀ u ∈ offW ts os left, u < os.length := fun u h => liveL_lt u (List.mem_filter.mp h).1
theorem offW_none {ts : Tbs} {os : List (Option Rat)} {left : List Nat} {u : Nat} (h : u ∈ offW ts os left) : os.getD u none = none := by
  have := (List.mem_filter.mp h).2
  cases e : os.getD u none with
  | none => rfl
  | some r => rw [e] at this; cases this
theorem mem_live {ts : Tbs} {w u : Nat} {left : List Nat} : u ∈ liveL ts w left ↔ u < w ∧ ∃ i ∈ left, (gtA ts i u).isSome = true := by
  unfold liveL
  rw [List.mem_filter, List.mem_range, List.any_eq_true]
theorem mem_off {ts : Tbs} {os : List (Option Rat)} {left : List Nat} {u : Nat} (h : u < os.length) (ho : os.getD u none = none) {i : Nat} (hi : i ∈ left) (hs : (gtA ts i u).isSome = true) : u ∈ offW ts os left :=
  List.mem_filter.mpr ⟨mem_live.mpr ⟨h, i, hi, hs⟩, by rw [ho]; rfl⟩
section
variable {ts : Tbs} {w : Nat} {left W : List Nat}
theorem wAt_len : (wAt ts w left W).length = w := sprd_len _ _ _
theorem wAt_dot (nd : W.Nodup) (hW : ∀ u ∈ W, u < w) (h : Nat → Rat) : dotL (wAt ts w left W) h = sumN W.length fun j => xOf ts left W j * h (W.getD j 0) := dot_sprd nd hW _ _
theorem wAt_nonneg : ∀ v ∈ wAt ts w left W, 0 ≤ v := fun v hv => by
  rcases sprd_mem hv with y | y
  · rw [y]; exact Rat.le_refl
  · obtain ⟨j, hj, rfl⟩ := List.mem_map.mp y
    exact (lpOf_best ts left W).x0 j (List.mem_range.mp hj)
theorem wAt_fair (nd : W.Nodup) (hW : ∀ u ∈ W, u < w) {i : Nat} (hi : i ∈ left) : 0 ≤ ttR ((wAt ts w left W).zip (ts.getD i [])) := by
  rw [tt_dot, wAt_dot nd hW]
  obtain ⟨k, hk, e⟩ := List.mem_iff_getElem.mp hi
  have := row_le (ts := ts) W hk
  rw [List.getD_eq_getElem?_getD, List.getElem?_eq_getElem hk, Option.getD_some, e] at this
  exact this
theorem wAt_sum (nd : W.Nodup) (hW : ∀ u ∈ W, u < w) : (wAt ts w left W).sum = sumN W.length (xOf ts left W) := by
  rw [sum_dot, wAt_dot nd hW]
  exact sumN_congr fun j _ => Rat.mul_one _
theorem sum_one (hne : sumN W.length (xOf ts left W) ≠ 0) : sumN W.length (xOf ts left W) = 1 := by
  have B := lpOf_best ts left W
  have x0 : ∀ j, j < W.length → 0 ≤ xOf ts left W j := B.x0
  have y0 : ∀ k, k < left.length + 1 → 0 ≤ yOf ts left W k := B.y0
  have hy := y_last (ts := ts) (left := left) W
  obtain ⟨σ, hσ⟩ : ∃ σ, sumN W.length (xOf ts left W) = σ := ⟨_, rfl⟩
  have s0 : 0 ≤ σ := by rw [← hσ]; exact sumN_nonneg x0
  have sne : σ ≠ 0 := by rw [← hσ]; exact hne
  have s1 : σ ≤ 1 := by
    have e := B.le left.length (by show left.length < left.length + 1; omega)
    have e1 : sumN W.length (fun j => (if left.length < left.length then negO (gtA ts (left.getD left.length 0) (W.getD j 0)) else 1) * xOf ts left W j) ≤ if left.length < left.length then 0 else 1 := e
    rw [if_neg (Nat.lt_irrefl _), sumN_congr (g := xOf ts left W) fun j _ => by rw [if_neg (Nat.lt_irrefl _), Rat.one_mul], hσ] at e1
    exact e1
  rw [hσ] at hy ⊢
  have key : sumN W.length (xOf ts left W) ≤ sumN W.length fun j => xOf ts left W j * (-(sumN left.length fun k => yOf ts left W k * oV (gtA ts (left.getD k 0) (W.getD j 0))) + σ) := sumN_le fun j hj => by
    have := Rat.mul_le_mul_of_nonneg_left (hy ▸ col_ge (ts := ts) (left := left) W hj) (x0 j hj)
    rw [Rat.mul_one] at this
    exact this
  have e2 : sumN W.length (fun j => xOf ts left W j * (-(sumN left.length fun k => yOf ts left W k * oV (gtA ts (left.getD k 0) (W.getD j 0))) + σ)) = -(sumN left.length fun k => yOf ts left W k * sumN W.length fun j => xOf ts left W j * oV (gtA ts (left.getD k 0) (W.getD j 0))) + σ * σ := by
    rw [sumN_congr (g := fun j => (-1) * (sumN left.length fun k => yOf ts left W k * (xOf ts left W j * oV (gtA ts (left.getD k 0) (W.getD j 0)))) + σ * xOf ts left W j) fun j _ => by
      rw [sumN_congr (f := fun k => yOf ts left W k * (xOf ts left W j * oV (gtA ts (left.getD k 0) (W.getD j 0)))) (g := fun k => xOf ts left W j * (yOf ts left W k * oV (gtA ts (left.getD k 0) (W.getD j 0)))) fun k _ => by grind, sumN_mul]; grind, sumN_add, sumN_mul, sumN_mul, hσ, sumN_swap]
    rw [sumN_congr (f := fun k => sumN W.length _) (g := fun k => yOf ts left W k * sumN W.length fun j => xOf ts left W j * oV (gtA ts (left.getD k 0) (W.getD j 0))) fun k _ => sumN_mul _ _ _]
    grind
  have e3 : 0 ≤ sumN left.length fun k => yOf ts left W k * sumN W.length fun j => xOf ts left W j * oV (gtA ts (left.getD k 0) (W.getD j 0)) := sumN_nonneg fun k hk => Rat.mul_nonneg (y0 k (by omega)) (row_le W hk)
  rw [e2, hσ] at key
  have e4 : σ * 1 ≤ σ * σ := by grind
  have := Rat.le_of_mul_le_mul_left e4 (by grind)
  grind
theorem all_zero_sum {ws : List Rat} (h0 : ∀ v ∈ ws, 0 ≤ v) : ws.all (fun x => decide (x = 0)) = true ↔ ws.sum = 0 := by
  rw [List.all_eq_true]
  induction ws with
  | nil => exact ⟨fun _ => rfl, fun _ _ h => (List.not_mem_nil h).elim⟩
  | cons a ws ih =>
    have ih := ih fun v hv => h0 v (.tail _ hv)
    have sn : ∀ l : List Rat, (∀ x ∈ l, 0 ≤ x) → 0 ≤ l.sum := fun l => by
      induction l with
      | nil => exact fun _ => Rat.le_refl
      | cons a l ih =>
        intro h
        rw [List.sum_cons]
        have h1 := ih fun x hx => h x (.tail _ hx)
        have h2 := h a (.head _)
        grind
    have h1 := sn ws fun v hv => h0 v (.tail _ hv)
    have h2 := h0 a (.head _)
    rw [List.sum_cons]
    constructor
    · intro h
      have e1 : a = 0 := of_decide_eq_true (h a (.head _))
      rw [e1, ih.mp fun x hx => h x (.tail _ hx)]; grind
    · intro h x hx
      rcases List.mem_cons.mp hx with y | y
      · rw [y]; exact decide_eq_true (by grind)
      · exact ih.mpr (by grind) x y
theorem wAt_one (nd : W.Nodup) (hW : ∀ u ∈ W, u < w) (h : (wAt ts w left W).all (fun x => decide (x = 0)) = false) : (wAt ts w left W).sum = 1 := by
  rw [wAt_sum nd hW]
  refine sum_one fun z => ?_
  rw [← wAt_sum (w := w) nd hW] at z
  rw [(all_zero_sum wAt_nonneg).mpr z] at h
  cases h
theorem wAt_out {u : Nat} (h : u ∉ W) (hu : u < w) : (wAt ts w left W)[u]? = some 0 := sprd_out h hu
theorem dec_at (hl : ∀ u ∈ W, u ∈ liveL ts w left) (h : (wAt ts w left W).all (fun x => decide (x = 0)) = false) : (left.filter fun i => unwB (ts.getD i []) (wAt ts w left W)).length < left.length := by
  obtain ⟨x, hx, hx0⟩ := List.all_eq_false.mp h
  have hx0 : x ≠ 0 := by simpa using hx0
  obtain ⟨u, hu, e⟩ := List.mem_iff_getElem.mp hx
  have hum : u < w := by rw [wAt_len] at hu; exact hu
  have hg : (wAt ts w left W)[u]? = some x := by rw [List.getElem?_eq_getElem hu, e]
  have hl : u ∈ liveL ts w left := by
    by_cases c : u ∈ W
    · exact hl u c
    · rw [wAt_out c hum] at hg
      injection hg with hg
      exact absurd hg.symm hx0
  obtain ⟨i, hi, hs⟩ := List.any_eq_true.mp (List.mem_filter.mp hl).2
  rw [List.length_filter_lt_length_iff_exists]
  refine ⟨i, hi, ?_⟩
  rw [unwB_false hs hg hx0]; decide
end
noncomputable def strR (ts : Tbs) (os : List (Option Rat)) : Nat → List Nat → List (List Rat) × List Nat × List Rat
  | 0, left => ([], left, [])
  | f + 1, left =>
    if (wAt ts os.length left (offW ts os left)).all (fun x => decide (x = 0)) then ([], left, (List.range left.length).map (yOf ts left (offW ts os left)))
    else
      let r := strR ts os f (left.filter fun i => unwB (ts.getD i []) (wAt ts os.length left (offW ts os left)))
      (wAt ts os.length left (offW ts os left) :: r.1, r.2.1, r.2.2)
structure StrOk (ts : Tbs) (os : List (Option Rat)) (left : List Nat) (r : List (List Rat) × List Nat × List Rat) : Prop where
  wg : ∀ ws ∈ r.1, ws.length = os.length ∧ (∀ v ∈ ws, 0 ≤ v) ∧ ws.sum = 1
  len : r.1.length + r.2.1.length ≤ left.length
  sub : r.2.1.Sublist left
  off : meanIn os r.1 = none
  fair : ∀ i ∈ left, i ∉ r.2.1 → ∃ g, meanIn (ts.getD i []) r.1 = some g ∧ 0 ≤ g
  non : ∀ i ∈ r.2.1, meanIn (ts.getD i []) r.1 = none
  loss : (wAt ts os.length r.2.1 (offW ts os r.2.1)).all (fun x => decide (x = 0)) = true ∧ r.2.2 = (List.range r.2.1.length).map (yOf ts r.2.1 (offW ts os r.2.1))
theorem mean_cons {os : List (Option Rat)} {ws : List Rat} {Ls : List (List Rat)} : meanIn os (ws :: Ls) = (meanR (ws.zip os)).or (meanIn os Ls) := by
  unfold meanIn
  rw [List.findSome?_cons]
  cases meanR (ws.zip os) <;> rfl
theorem mean_append {os : List (Option Rat)} (A B : List (List Rat)) : meanIn os (A ++ B) = (meanIn os A).or (meanIn os B) := by
  induction A with
  | nil => rfl
  | cons ws A ih => rw [List.cons_append, mean_cons, mean_cons, ih, Option.or_assoc]
theorem off_mean {ts : Tbs} {os : List (Option Rat)} {left : List Nat} : meanR ((wAt ts os.length left (offW ts os left)).zip os) = none := by
  rw [mean_none, lv_zero fun z hz => wAt_nonneg _ (List.of_mem_zip hz).1]
  intro z hz hs
  obtain ⟨u, hu⟩ := List.mem_iff_getElem?.mp hz
  rw [List.getElem?_zip_eq_some] at hu
  obtain ⟨h1, h2⟩ := hu
  have hul := (List.getElem?_eq_some_iff.mp h2).1
  have hn : u ∉ offW ts os left := fun c => by
    have := offW_none c
    rw [List.getD_eq_getElem?_getD, h2] at this
    have this : z.2 = none := this
    rw [this] at hs; cases hs
  rw [wAt_out hn hul] at h1
  injection h1 with h1
  exact h1.symm
theorem mean_pos {ws : List Rat} {t : List (Option Rat)} (h0 : ∀ v ∈ ws, 0 ≤ v) (ht : 0 ≤ ttR (ws.zip t)) (hu : unwB t ws = false) : ∃ g, meanR (ws.zip t) = some g ∧ 0 ≤ g := by
  have lv : lvR (ws.zip t) ≠ 0 := fun e => by rw [(unw_true h0).mpr e] at hu; cases hu
  have lp := lv_nonneg (zs := ws.zip t) fun z hz => h0 _ (List.of_mem_zip hz).1
  exact ⟨_, if_neg lv, div_nonneg' ht (by grind)⟩
theorem str_ok (ts : Tbs) (os : List (Option Rat)) : ∀ (f : Nat) (left : List Nat), left.length < f → StrOk ts os left (strR ts os f left)
  | 0, _, h => absurd h (Nat.not_lt_zero _)
  | f + 1, left, h => by
    unfold strR
    obtain ⟨V, hV⟩ : ∃ V, wAt ts os.length left (offW ts os left) = V := ⟨_, rfl⟩
    cases c : (wAt ts os.length left (offW ts os left)).all (fun x => decide (x = 0)) with
    | true =>
      rw [if_pos rfl]
      exact ⟨fun ws h => (List.not_mem_nil h).elim, by show 0 + left.length ≤ _; omega, List.Sublist.refl _, rfl, fun i hi z => (z hi).elim, fun _ _ => rfl, c, rfl⟩
    | false =>
      rw [if_neg Bool.false_ne_true]
      have hdec := dec_at (ts := ts) (w := os.length) (left := left) (W := offW ts os left) (fun u hu => (List.mem_filter.mp hu).1) c
      have hone := wAt_one offW_nd offW_lt c
      have hoff := off_mean (ts := ts) (os := os) (left := left)
      have hfr : ∀ i ∈ left, 0 ≤ ttR (V.zip (ts.getD i [])) := fun i hi => by rw [← hV]; exact wAt_fair offW_nd offW_lt hi
      have v0 : ∀ v ∈ V, 0 ≤ v := by rw [← hV]; exact wAt_nonneg
      have vl : V.length = os.length := by rw [← hV]; exact wAt_len
      rw [hV] at hdec hone hoff ⊢
      have ih := str_ok ts os f (left.filter fun i => unwB (ts.getD i []) V) (by omega)
      refine ⟨fun ws hw => ?_, ?_, ih.sub.trans List.filter_sublist, ?_, fun i hi hn => ?_, fun i hi => ?_, ih.loss⟩
      · rcases List.mem_cons.mp hw with y | y
        · rw [y]; exact ⟨vl, v0, hone⟩
        · exact ih.wg ws y
      · have := ih.len
        show (_ :: _).length + _ ≤ _
        rw [List.length_cons]
        dsimp only at this ⊢
        omega
      · show meanIn os (V :: _) = none
        rw [mean_cons, hoff]; exact ih.off
      · show ∃ g, meanIn (ts.getD i []) (V :: _) = some g ∧ 0 ≤ g
        rw [mean_cons]
        cases u : unwB (ts.getD i []) V with
        | true =>
          rw [mean_none.mpr ((unw_true v0).mp u)]
          exact ih.fair i (List.mem_filter.mpr ⟨hi, u⟩) hn
        | false =>
          obtain ⟨g, e, g0⟩ := mean_pos v0 (hfr i hi) u
          exact ⟨g, by rw [e]; rfl, g0⟩
      · show meanIn (ts.getD i []) (V :: _) = none
        have hm := List.mem_filter.mp (ih.sub.subset hi)
        rw [mean_cons, mean_none.mpr ((unw_true v0).mp hm.2)]
        exact ih.non i hi

def lowW (ts : Tbs) (os : List (Option Rat)) (left : List Nat) : List Nat := (List.range os.length).filter fun u => (os.getD u none).isSome || left.any fun i => (gtA ts i u).isSome
theorem lowW_nd {ts : Tbs} {os : List (Option Rat)} {left : List Nat} : (lowW ts os left).Nodup := List.nodup_range.sublist List.filter_sublist
theorem lowW_lt {ts : Tbs} {os : List (Option Rat)} {left : List Nat} : ∀ u ∈ lowW ts os left, u < os.length := fun u h => List.mem_range.mp (List.mem_filter.mp h).1
theorem lowW_len {ts : Tbs} {os : List (Option Rat)} {left : List Nat} : (lowW ts os left).length ≤ os.length := Nat.le_trans (List.length_filter_le _ _) (by rw [List.length_range]; exact Nat.le_refl _)
def maxO (a o : Option Rat) : Option Rat := match o with
  | none => a
  | some p => match a with
    | none => some p
    | some m => if m < p then some p else some m
def gmaxO (os : List (Option Rat)) : Option Rat := os.foldl maxO none
theorem maxO_spec {a : Option Rat} : ∀ {os : List (Option Rat)}, (∀ m, a = some m → ∃ M, os.foldl maxO a = some M ∧ m ≤ M) ∧ (∀ p, some p ∈ os → ∃ M, os.foldl maxO a = some M ∧ p ≤ M) ∧ ∀ M, os.foldl maxO a = some M → a = some M ∨ some M ∈ os
  | [] => ⟨fun m h => ⟨m, h, Rat.le_refl⟩, fun p h => (List.not_mem_nil h).elim, fun M h => .inl h⟩
  | o :: os => by
    obtain ⟨i1, i2, i3⟩ := maxO_spec (a := maxO a o) (os := os)
    refine ⟨fun m e => ?_, fun p hp => ?_, fun M hM => ?_⟩
    · rw [List.foldl_cons]
      have : ∃ m', maxO a o = some m' ∧ m ≤ m' := by
        rw [e]
        cases o with
        | none => exact ⟨m, rfl, Rat.le_refl⟩
        | some p =>
          show ∃ m', (if m < p then some p else some m) = some m' ∧ m ≤ m'
          by_cases c : m < p
          · exact ⟨p, if_pos c, Rat.le_of_lt c⟩
          · exact ⟨m, if_neg c, Rat.le_refl⟩
      obtain ⟨m', e1, l1⟩ := this
      obtain ⟨M, e2, l2⟩ := i1 m' e1
      exact ⟨M, e2, Rat.le_trans l1 l2⟩
    · rw [List.foldl_cons]
      rcases List.mem_cons.mp hp with y | y
      · have : ∃ m', maxO a o = some m' ∧ p ≤ m' := by
          rw [← y]
          cases a with
          | none => exact ⟨p, rfl, Rat.le_refl⟩
          | some m =>
            show ∃ m', (if m < p then some p else some m) = some m' ∧ p ≤ m'
            by_cases c : m < p
            · exact ⟨p, if_pos c, Rat.le_refl⟩
            · exact ⟨m, if_neg c, by grind⟩
        obtain ⟨m', e1, l1⟩ := this
        obtain ⟨M, e2, l2⟩ := i1 m' e1
        exact ⟨M, e2, Rat.le_trans l1 l2⟩
      · exact i2 p y
    · rw [List.foldl_cons] at hM
      rcases i3 M hM with y | y
      · cases o with
        | none => exact .inl y
        | some p =>
          cases a with
          | none => exact .inr (by rw [show some M = some p from y.symm]; exact .head _)
          | some m =>
            have y : (if m < p then some p else some m) = some M := y
            by_cases c : m < p
            · rw [if_pos c] at y; exact .inr (by rw [← y]; exact .head _)
            · rw [if_neg c] at y; exact .inl y
      · exact .inr (.tail _ y)
def topR (os : List (Option Rat)) : Rat := (gmaxO os).getD 0 + 1
theorem top_gt {os : List (Option Rat)} {p : Rat} (h : some p ∈ os) : p + 1 ≤ topR os := by
  obtain ⟨M, e, l⟩ := (maxO_spec (a := none) (os := os)).2.1 p h
  unfold topR gmaxO
  rw [e]
  show p + 1 ≤ M + 1
  grind
def wthO (top : Rat) : Option Rat → Rat
  | none => 0
  | some p => top + -p
def gvO : Option Rat → Rat
  | none => 0
  | some _ => 1
theorem wthO_eq (top : Rat) (o : Option Rat) : wthO top o = top * gvO o + -(oV o) := by
  cases o with
  | none => show (0 : Rat) = top * 0 + -0; grind
  | some p => show top + -p = top * 1 + -p; grind
theorem gvO_01 (o : Option Rat) : 0 ≤ gvO o ∧ gvO o ≤ 1 := by
  cases o
  · exact ⟨Rat.le_refl, by show (0 : Rat) ≤ 1; decide⟩
  · exact ⟨by show (0 : Rat) ≤ 1; decide, Rat.le_refl⟩
def lp2 (ts : Tbs) (os : List (Option Rat)) (left W : List Nat) (top : Rat) : Lp where
  m := left.length + 1
  n := W.length
  A := fun k j => if k < left.length then negO (gtA ts (left.getD k 0) (W.getD j 0)) else gvO (os.getD (W.getD j 0) none)
  b := fun k => if k < left.length then 0 else 1
  w := fun j => wthO top (os.getD (W.getD j 0) none)
theorem getD_mem {os : List (Option Rat)} {u : Nat} {p : Rat} (h : os.getD u none = some p) : some p ∈ os := by
  rw [List.getD_eq_getElem?_getD] at h
  cases e : os[u]? with
  | none => rw [e] at h; cases h
  | some o =>
    rw [e] at h
    have h : o = some p := h
    rw [h] at e
    exact List.mem_of_getElem? e
theorem wth_nonneg (os : List (Option Rat)) (u : Nat) : 0 ≤ wthO (topR os) (os.getD u none) := by
  cases e : os.getD u none with
  | none => exact Rat.le_refl
  | some p =>
    have := top_gt (getD_mem e)
    show 0 ≤ topR os + -p
    grind
theorem lp2_b (ts : Tbs) (os : List (Option Rat)) (left W : List Nat) (top : Rat) : ∀ k, k < (lp2 ts os left W top).m → 0 ≤ (lp2 ts os left W top).b k := fun k _ => by show (0 : Rat) ≤ if k < left.length then 0 else 1; split <;> decide
theorem sumN_mem {f : Nat → Rat} : ∀ {n j : Nat}, (∀ k, k < n → 0 ≤ f k) → j < n → f j ≤ sumN n f
  | 0, j, _, h => absurd h (Nat.not_lt_zero _)
  | n + 1, j, h0, h => by
    have h1 := sumN_nonneg (f := f) (n := n) fun k hk => h0 k (by omega)
    have h2 := h0 n (by omega)
    show f j ≤ sumN n f + f n
    by_cases c : j = n
    · rw [c]; grind
    · have := sumN_mem (f := f) (n := n) (j := j) (fun k hk => h0 k (by omega)) (by omega)
      grind
theorem lp2_bnd (ts : Tbs) (os : List (Option Rat)) (left W : List Nat) : (lp2 ts os left W (topR os)).Bnd := by
  have w0 : ∀ j, j < W.length → 0 ≤ wthO (topR os) (os.getD (W.getD j 0) none) := fun j _ => wth_nonneg _ _
  refine ⟨fun k => if k = left.length then sumN W.length fun j => wthO (topR os) (os.getD (W.getD j 0) none) else 0, fun k _ => ?_, fun j hj => ?_⟩
  · dsimp only
    split
    · exact sumN_nonneg w0
    · exact Rat.le_refl
  · have hj : j < W.length := hj
    show wthO (topR os) (os.getD (W.getD j 0) none) ≤ sumN (left.length + 1) fun k => (if k = left.length then (sumN W.length fun j => wthO (topR os) (os.getD (W.getD j 0) none)) else 0) * (if k < left.length then negO (gtA ts (left.getD k 0) (W.getD j 0)) else gvO (os.getD (W.getD j 0) none))
    rw [sumN_one (r := left.length) (by omega)]
    · rw [if_pos rfl, if_neg (Nat.lt_irrefl _)]
      have := sumN_mem w0 hj
      cases e : os.getD (W.getD j 0) none with
      | none => show (0 : Rat) ≤ _ * 0; grind
      | some p =>
        rw [e] at this
        show _ ≤ _ * (1 : Rat)
        rw [Rat.mul_one]; exact this
    · intro k _ ne
      rw [if_neg ne]; grind
noncomputable def x2 (ts : Tbs) (os : List (Option Rat)) (left W : List Nat) : Nat → Rat := (lp2 ts os left W (topR os)).last.at (lp2 ts os left W (topR os)).dims
noncomputable def y2 (ts : Tbs) (os : List (Option Rat)) (left W : List Nat) : Nat → Rat := fun k => (lp2 ts os left W (topR os)).last.z (W.length + k)
theorem lp2_best (ts : Tbs) (os : List (Option Rat)) (left W : List Nat) : Best (lp2 ts os left W (topR os)) (x2 ts os left W) (y2 ts os left W) :=
  Lp.best (lp2_b _ _ _ _ _) (lp2_bnd ts os left W)
section
variable {ts : Tbs} {os : List (Option Rat)} {left W : List Nat}
theorem x2_0 : ∀ j, j < W.length → 0 ≤ x2 ts os left W j := (lp2_best ts os left W).x0
theorem y2_0 : ∀ k, k < left.length + 1 → 0 ≤ y2 ts os left W k := (lp2_best ts os left W).y0
theorem eq2 : sumN W.length (fun j => wthO (topR os) (os.getD (W.getD j 0) none) * x2 ts os left W j) = y2 ts os left W left.length := by
  have e1 : sumN W.length (fun j => wthO (topR os) (os.getD (W.getD j 0) none) * x2 ts os left W j) = sumN (left.length + 1) fun k => y2 ts os left W k * (if k < left.length then 0 else 1) := (lp2_best ts os left W).eq
  rw [e1, sumN_one (r := left.length) (by omega), if_neg (Nat.lt_irrefl _), Rat.mul_one]
  intro k hk ne
  rw [if_pos (by omega), Rat.mul_zero]
theorem row2 {k : Nat} (hk : k < left.length) : 0 ≤ sumN W.length fun j => x2 ts os left W j * oV (gtA ts (left.getD k 0) (W.getD j 0)) := by
  have e := (lp2_best ts os left W).le k (by show k < left.length + 1; omega)
  have e1 : sumN W.length (fun j => (if k < left.length then negO (gtA ts (left.getD k 0) (W.getD j 0)) else gvO (os.getD (W.getD j 0) none)) * x2 ts os left W j) ≤ if k < left.length then 0 else 1 := e
  rw [if_pos hk, sumN_congr (g := fun j => (-1) * (x2 ts os left W j * oV (gtA ts (left.getD k 0) (W.getD j 0)))) fun j _ => by rw [if_pos hk, negO_oV]; grind, sumN_mul] at e1
  grind
theorem giv2 : sumN W.length (fun j => x2 ts os left W j * gvO (os.getD (W.getD j 0) none)) ≤ 1 := by
  have e := (lp2_best ts os left W).le left.length (by show left.length < left.length + 1; omega)
  have e1 : sumN W.length (fun j => (if left.length < left.length then negO (gtA ts (left.getD left.length 0) (W.getD j 0)) else gvO (os.getD (W.getD j 0) none)) * x2 ts os left W j) ≤ if left.length < left.length then 0 else 1 := e
  rw [if_neg (Nat.lt_irrefl _), sumN_congr (g := fun j => x2 ts os left W j * gvO (os.getD (W.getD j 0) none)) fun j _ => by rw [if_neg (Nat.lt_irrefl _), Rat.mul_comm]] at e1
  exact e1
theorem col2 {j : Nat} (hj : j < W.length) : wthO (topR os) (os.getD (W.getD j 0) none) ≤ -(sumN left.length fun k => y2 ts os left W k * oV (gtA ts (left.getD k 0) (W.getD j 0))) + y2 ts os left W left.length * gvO (os.getD (W.getD j 0) none) := by
  have e := (lp2_best ts os left W).ge j hj
  have e1 : wthO (topR os) (os.getD (W.getD j 0) none) ≤ sumN left.length (fun k => y2 ts os left W k * (if k < left.length then negO (gtA ts (left.getD k 0) (W.getD j 0)) else gvO (os.getD (W.getD j 0) none))) + y2 ts os left W left.length * (if left.length < left.length then _ else gvO (os.getD (W.getD j 0) none)) := e
  rw [if_neg (Nat.lt_irrefl _), sumN_congr (g := fun k => (-1) * (y2 ts os left W k * oV (gtA ts (left.getD k 0) (W.getD j 0)))) fun k hk => by rw [if_pos hk, negO_oV]; grind, sumN_mul] at e1
  grind
theorem slack2 (h : y2 ts os left W left.length ≠ 0) : sumN W.length (fun j => x2 ts os left W j * gvO (os.getD (W.getD j 0) none)) = 1 := by
  obtain ⟨y, hy⟩ : ∃ y, y2 ts os left W left.length = y := ⟨_, rfl⟩
  obtain ⟨s, hs⟩ : ∃ s, sumN W.length (fun j => x2 ts os left W j * gvO (os.getD (W.getD j 0) none)) = s := ⟨_, rfl⟩
  have y0 : 0 ≤ y := by rw [← hy]; exact y2_0 _ (by omega)
  have s1 : s ≤ 1 := by rw [← hs]; exact giv2
  have key : sumN W.length (fun j => wthO (topR os) (os.getD (W.getD j 0) none) * x2 ts os left W j) ≤ sumN W.length fun j => x2 ts os left W j * (-(sumN left.length fun k => y2 ts os left W k * oV (gtA ts (left.getD k 0) (W.getD j 0))) + y * gvO (os.getD (W.getD j 0) none)) := sumN_le fun j hj => by
    have := Rat.mul_le_mul_of_nonneg_left (hy ▸ col2 (ts := ts) (os := os) (left := left) (W := W) hj) (x2_0 (ts := ts) (os := os) (left := left) j hj)
    rw [Rat.mul_comm]; exact this
  have e2 : sumN W.length (fun j => x2 ts os left W j * (-(sumN left.length fun k => y2 ts os left W k * oV (gtA ts (left.getD k 0) (W.getD j 0))) + y * gvO (os.getD (W.getD j 0) none))) = -(sumN left.length fun k => y2 ts os left W k * sumN W.length fun j => x2 ts os left W j * oV (gtA ts (left.getD k 0) (W.getD j 0))) + y * s := by
    rw [sumN_congr (g := fun j => (-1) * (sumN left.length fun k => y2 ts os left W k * (x2 ts os left W j * oV (gtA ts (left.getD k 0) (W.getD j 0)))) + y * (x2 ts os left W j * gvO (os.getD (W.getD j 0) none))) fun j _ => by
      rw [sumN_congr (f := fun k => y2 ts os left W k * (x2 ts os left W j * oV (gtA ts (left.getD k 0) (W.getD j 0)))) (g := fun k => x2 ts os left W j * (y2 ts os left W k * oV (gtA ts (left.getD k 0) (W.getD j 0)))) fun k _ => by grind, sumN_mul]; grind, sumN_add, sumN_mul, sumN_mul, hs, sumN_swap]
    rw [sumN_congr (f := fun k => sumN W.length _) (g := fun k => y2 ts os left W k * sumN W.length fun j => x2 ts os left W j * oV (gtA ts (left.getD k 0) (W.getD j 0))) fun k _ => sumN_mul _ _ _]
    grind
  have e3 : 0 ≤ sumN left.length fun k => y2 ts os left W k * sumN W.length fun j => x2 ts os left W j * oV (gtA ts (left.getD k 0) (W.getD j 0)) := sumN_nonneg fun k hk => Rat.mul_nonneg (y2_0 k (by omega)) (row2 hk)
  rw [eq2, hy, e2] at key
  rw [hs]
  have e4 : y * 1 ≤ y * s := by grind
  have := Rat.le_of_mul_le_mul_left e4 (by have : y ≠ 0 := by rw [← hy]; exact h
                                           grind)
  grind
theorem mean2 (h : y2 ts os left W left.length ≠ 0) : sumN W.length (fun j => x2 ts os left W j * oV (os.getD (W.getD j 0) none)) = topR os + -(y2 ts os left W left.length) := by
  have e := eq2 (ts := ts) (os := os) (left := left) (W := W)
  rw [sumN_congr (g := fun j => topR os * (x2 ts os left W j * gvO (os.getD (W.getD j 0) none)) + (-1) * (x2 ts os left W j * oV (os.getD (W.getD j 0) none))) fun j _ => by rw [wthO_eq]; grind, sumN_add, sumN_mul, sumN_mul, slack2 h] at e
  grind
end
theorem dot_le : ∀ {ws : List Rat} {h g : Nat → Rat}, (∀ i, i < ws.length → ws.getD i 0 * h i ≤ ws.getD i 0 * g i) → dotL ws h ≤ dotL ws g
  | [], _, _, _ => Rat.le_refl
  | a :: l, h, g, e => by
    have e0 : a * h 0 ≤ a * g 0 := e 0 (by simp)
    have ih := dot_le (ws := l) (h := fun i => h (i + 1)) (g := fun i => g (i + 1)) fun i hi => by have := e (i + 1) (by simpa using hi); simpa using this
    show a * h 0 + dotL l _ ≤ a * g 0 + dotL l _
    grind
theorem dot_lin (c d : Rat) : ∀ (ws : List Rat) (h g : Nat → Rat), dotL ws (fun u => c * h u + d * g u) = c * dotL ws h + d * dotL ws g
  | [], _, _ => by show (0 : Rat) = c * 0 + d * 0; grind
  | a :: l, h, g => by
    show a * (c * h 0 + d * g 0) + dotL l _ = c * (a * h 0 + dotL l _) + d * (a * g 0 + dotL l _)
    rw [dot_lin c d l (fun i => h (i + 1)) fun i => g (i + 1)]; grind
theorem dot_sum (c : Nat → Rat) (h : Nat → Nat → Rat) (ws : List Rat) : ∀ n, dotL ws (fun u => sumN n fun k => c k * h k u) = sumN n fun k => c k * dotL ws (h k)
  | 0 => dot_zero fun i _ => by show _ * (0 : Rat) = 0; grind
  | n + 1 => by
    have ih := dot_sum c h ws n
    have e := dot_lin 1 (c n) ws (fun u => sumN n fun k => c k * h k u) (h n)
    show dotL ws (fun u => (sumN n fun k => c k * h k u) + c n * h n u) = (sumN n fun k => c k * dotL ws (h k)) + c n * dotL ws (h n)
    rw [← ih, show (fun u => (sumN n fun k => c k * h k u) + c n * h n u) = fun u => 1 * (sumN n fun k => c k * h k u) + c n * h n u from funext fun u => by grind, e]; grind
theorem lv_dot : ∀ (ws : List Rat) (os : List (Option Rat)), lvR (ws.zip os) = dotL ws fun u => gvO (os.getD u none)
  | [], _ => rfl
  | w :: ws, [] => by
    rw [List.zip_nil_right]
    exact (dot_zero fun i _ => by show _ * (0 : Rat) = 0; grind).symm
  | w :: ws, none :: os => by
    show lvR (ws.zip os) = w * 0 + dotL ws fun u => gvO (os.getD u none)
    rw [lv_dot ws os]; grind
  | w :: ws, some p :: os => by
    show w + lvR (ws.zip os) = w * 1 + dotL ws fun u => gvO (os.getD u none)
    rw [lv_dot ws os]; grind
theorem mean_le {M : Rat} {os : List (Option Rat)} (hM : ∀ p, some p ∈ os → p ≤ M) : ∀ {Ls : List (List Rat)} {μ : Rat}, (∀ ws ∈ Ls, ∀ w ∈ ws, 0 ≤ w) → meanIn os Ls = some μ → μ ≤ M
  | [], μ, _, h => by cases h
  | ws :: Ls, μ, h0, h => by
    rw [mean_cons] at h
    by_cases c : lvR (ws.zip os) = 0
    · rw [mean_none.mpr c] at h
      exact mean_le hM (fun x hx => h0 x (.tail _ hx)) h
    · have e : meanR (ws.zip os) = some (ttR (ws.zip os) / lvR (ws.zip os)) := if_neg c
      rw [e] at h
      have h : some (ttR (ws.zip os) / lvR (ws.zip os)) = some μ := h
      injection h with h
      have ln := lv_nonneg (zs := ws.zip os) fun z hz => h0 ws (.head _) _ (List.of_mem_zip hz).1
      have k : ttR (ws.zip os) ≤ M * lvR (ws.zip os) := by
        have e2 := dot_lin M 0 ws (fun u => gvO (os.getD u none)) fun _ => 0
        rw [tt_dot, lv_dot]
        have : dotL ws (fun u => oV (os.getD u none)) ≤ dotL ws fun u => M * gvO (os.getD u none) + 0 * 0 := dot_le fun i hi => Rat.mul_le_mul_of_nonneg_left (by
          cases e : os.getD i none with
          | none => show (0 : Rat) ≤ M * 0 + 0 * 0; grind
          | some p =>
            have := hM p (getD_mem e)
            show p ≤ M * 1 + 0 * 0
            grind) (by
          rw [List.getD_eq_getElem?_getD, List.getElem?_eq_getElem hi]
          exact h0 ws (.head _) _ (List.getElem_mem hi))
        rw [e2] at this
        grind
      have m := mul_div' (b := ttR (ws.zip os)) c
      rw [h] at m
      rw [← m] at k
      have pos : 0 < lvR (ws.zip os) := by grind
      have k2 : lvR (ws.zip os) * μ ≤ lvR (ws.zip os) * M := by grind
      exact Rat.le_of_mul_le_mul_left k2 pos
theorem low_bound {ts : Tbs} {os : List (Option Rat)} {left : List Nat} {y yf : Nat → Rat} {price : Rat} (y0 : ∀ k, k < left.length → 0 ≤ y k) (yf0 : ∀ k, k < left.length → 0 ≤ yf k)
    (hF : ∀ u, os.getD u none = none → (∃ i ∈ left, (gtA ts i u).isSome = true) → (sumN left.length fun k => yf k * oV (gtA ts (left.getD k 0) u)) ≤ -1)
    (hG : ∀ u p, os.getD u none = some p → (sumN left.length fun k => y k * oV (gtA ts (left.getD k 0) u)) + price ≤ p)
    (hG0 : ∀ u, os.getD u none = none → (∃ i ∈ left, (gtA ts i u).isSome = true) → (sumN left.length fun k => y k * oV (gtA ts (left.getD k 0) u)) ≤ 0) :
    ∀ {Ls : List (List Rat)}, (∀ ws ∈ Ls, ∀ w ∈ ws, 0 ≤ w) → (∀ i ∈ left, ∃ g, meanIn (ts.getD i []) Ls = some g ∧ 0 ≤ g) → (meanIn os Ls = none → left = []) ∧ ∀ μ, meanIn os Ls = some μ → price ≤ μ
  | [], _, hb => ⟨fun _ => (by
      cases left with
      | nil => rfl
      | cons i l => (obtain ⟨g, e, _⟩ := hb i (.head _); cases e)), fun μ h => (by cases h)⟩
  | ws :: Ls, h0, hb => by
    have w0 : ∀ w ∈ ws, 0 ≤ w := h0 ws (.head _)
    have wg : ∀ i, i < ws.length → 0 ≤ ws.getD i 0 := fun i hi => by
      rw [List.getD_eq_getElem?_getD, List.getElem?_eq_getElem hi]
      exact w0 _ (List.getElem_mem hi)
    have kmem : ∀ k, k < left.length → left.getD k 0 ∈ left := fun k hk => by
      rw [List.getD_eq_getElem?_getD, List.getElem?_eq_getElem hk]
      exact List.getElem_mem hk
    have t0 : ∀ i ∈ left, 0 ≤ ttR (ws.zip (ts.getD i [])) := fun i hi => by
      obtain ⟨g, e, g0⟩ := hb i hi
      have ln := lv_nonneg (zs := ws.zip (ts.getD i [])) fun x hx => w0 _ (List.of_mem_zip hx).1
      by_cases l0 : lvR (ws.zip (ts.getD i [])) = 0
      · rw [tt_zero ((lv_zero fun x hx => w0 _ (List.of_mem_zip hx).1).mp l0)]; exact Rat.le_refl
      · rw [mean_cons, show meanR (ws.zip (ts.getD i [])) = some _ from if_neg l0] at e
        have e : some (ttR (ws.zip (ts.getD i [])) / lvR (ws.zip (ts.getD i []))) = some g := e
        injection e with e
        have := mul_div' (b := ttR (ws.zip (ts.getD i []))) l0
        rw [e] at this
        rw [← this]
        exact Rat.mul_nonneg ln g0
    have dotS : ∀ c : Nat → Rat, (∀ k, k < left.length → 0 ≤ c k) → 0 ≤ dotL ws fun u => sumN left.length fun k => c k * oV (gtA ts (left.getD k 0) u) := fun c c0 => by
      rw [dot_sum c (fun k u => oV (gtA ts (left.getD k 0) u))]
      refine sumN_nonneg fun k hk => Rat.mul_nonneg (c0 k hk) ?_
      have := t0 _ (kmem k hk)
      rw [tt_dot] at this
      exact this
    have dead : ∀ (c : Nat → Rat) u, (¬ ∃ i ∈ left, (gtA ts i u).isSome = true) → (sumN left.length fun k => c k * oV (gtA ts (left.getD k 0) u)) = 0 := fun c u hn => sumN_zero fun k hk => by
      cases e : gtA ts (left.getD k 0) u with
      | none => show c k * (0 : Rat) = 0; grind
      | some r => exact (hn ⟨_, kmem k hk, by rw [e]; rfl⟩).elim
    rw [mean_cons]
    by_cases lz : lvR (ws.zip os) = 0
    · have wz := lz
      rw [lv_dot] at wz
      have hall : ∀ i ∈ left, lvR (ws.zip (ts.getD i [])) = 0 := by
        have h1 := dotS yf yf0
        have h2 : dotL ws (fun u => sumN left.length fun k => yf k * oV (gtA ts (left.getD k 0) u)) ≤ dotL ws fun u => (-1) * (if left.any (fun i => (gtA ts i u).isSome) then (1 : Rat) else 0) + 0 * 0 := dot_le fun u hu => by
          cases eo : os.getD u none with
          | some p =>
            have hz : ws.getD u 0 = 0 := by
              have := (lv_zero (zs := ws.zip os) fun x hx => w0 _ (List.of_mem_zip hx).1).mp lz (ws.getD u 0, some p) (by
                refine List.mem_of_getElem? (i := u) (List.getElem?_zip_eq_some.mpr ⟨by rw [List.getD_eq_getElem?_getD, List.getElem?_eq_getElem hu]; rfl, ?_⟩)
                rw [List.getD_eq_getElem?_getD] at eo
                cases e2 : os[u]? with
                | none => rw [e2] at eo; cases eo
                | some o => rw [e2] at eo; exact congrArg some eo) rfl
              exact this
            rw [hz, Rat.zero_mul, Rat.zero_mul]; exact Rat.le_refl
          | none =>
            refine Rat.mul_le_mul_of_nonneg_left ?_ (wg u hu)
            by_cases lv : ∃ i ∈ left, (gtA ts i u).isSome = true
            · have := hF u eo lv
              rw [if_pos (List.any_eq_true.mpr lv)]
              grind
            · rw [dead yf u lv, if_neg fun z => lv (List.any_eq_true.mp z)]
              grind
        rw [dot_lin] at h2
        have h3 : dotL ws (fun u => if left.any (fun i => (gtA ts i u).isSome) then (1 : Rat) else 0) ≤ 0 := by grind
        intro i hi
        refine (lv_zero fun x hx => w0 _ (List.of_mem_zip hx).1).mpr fun z hz hs => ?_
        obtain ⟨u, hu⟩ := List.mem_iff_getElem?.mp hz
        rw [List.getElem?_zip_eq_some] at hu
        obtain ⟨hu1, hu2⟩ := hu
        have hul := (List.getElem?_eq_some_iff.mp hu1).1
        have hz1 : ws.getD u 0 = z.1 := by rw [List.getD_eq_getElem?_getD, hu1]; rfl
        have hlive : left.any (fun i => (gtA ts i u).isSome) = true := List.any_eq_true.mpr ⟨i, hi, by
          unfold gtA
          rw [List.getD_eq_getElem?_getD (i := u), hu2]; exact hs⟩
        have h4 : dotL ws (fun v => if v = u then (1 : Rat) else 0) ≤ dotL ws (fun u => if left.any (fun i => (gtA ts i u).isSome) then (1 : Rat) else 0) := dot_le fun v hv => Rat.mul_le_mul_of_nonneg_left (by
          by_cases c : v = u
          · rw [if_pos c, c, if_pos hlive]; exact Rat.le_refl
          · rw [if_neg c]; split <;> decide) (wg v hv)
        have h5 : ∀ (l : List Rat) (v : Nat), dotL l (fun w => if w = v then (1 : Rat) else 0) = l.getD v 0 := by
          intro l
          induction l with
          | nil => intro v; rfl
          | cons a l ih =>
            intro v
            cases v with
            | zero =>
              show a * 1 + dotL l (fun w => if w + 1 = 0 then (1 : Rat) else 0) = a
              rw [dot_zero fun w _ => by rw [if_neg (by omega)]; grind]; grind
            | succ v =>
              show a * 0 + dotL l (fun w => if w + 1 = v + 1 then (1 : Rat) else 0) = l.getD v 0
              rw [← ih v, dot_congr (g := fun w => if w = v then (1 : Rat) else 0) fun w _ => by
                by_cases c : w = v
                · rw [if_pos c, if_pos (by omega)]
                · rw [if_neg c, if_neg (by omega)]]; grind
        rw [h5, hz1] at h4
        have := w0 z.1 (List.of_mem_zip hz).1
        grind
      rw [mean_none.mpr lz, Option.none_or]
      refine low_bound y0 yf0 hF hG hG0 (fun x hx => h0 x (.tail _ hx)) fun i hi => ?_
      have := hb i hi
      rw [mean_cons, mean_none.mpr (hall i hi), Option.none_or] at this
      exact this
    · have e : meanR (ws.zip os) = some (ttR (ws.zip os) / lvR (ws.zip os)) := if_neg lz
      rw [e, Option.some_or]
      refine ⟨fun h => (by cases h), fun μ h => ?_⟩
      injection h with h
      have ln := lv_nonneg (zs := ws.zip os) fun z hz => w0 _ (List.of_mem_zip hz).1
      have h1 := dotS y y0
      have h2 : dotL ws (fun u => sumN left.length fun k => y k * oV (gtA ts (left.getD k 0) u)) ≤ dotL ws fun u => 1 * oV (os.getD u none) + (-price) * gvO (os.getD u none) := dot_le fun u hu => Rat.mul_le_mul_of_nonneg_left (by
        cases eo : os.getD u none with
        | some p =>
          have := hG u p eo
          show _ ≤ 1 * p + -price * 1
          grind
        | none =>
          show _ ≤ 1 * (0 : Rat) + -price * 0
          by_cases lv : ∃ i ∈ left, (gtA ts i u).isSome = true
          · have := hG0 u eo lv
            grind
          · rw [dead y u lv]; grind) (wg u hu)
      rw [dot_lin, ← tt_dot, ← lv_dot] at h2
      have m := mul_div' (b := ttR (ws.zip os)) lz
      rw [h] at m
      rw [← m] at h2
      have pos : 0 < lvR (ws.zip os) := by grind
      have k2 : lvR (ws.zip os) * price ≤ lvR (ws.zip os) * μ := by grind
      exact Rat.le_of_mul_le_mul_left k2 pos

section
variable (ls : List Nat) (rs : List (List Wd)) (bs : List Bid) (b : Bet)
noncomputable def loS : List (List Rat) × List Nat × List Rat := strR (jTs ls rs bs) (tabS ls rs b) (bs.length + 1) (List.range bs.length)
noncomputable def loL : List Nat := (loS ls rs bs b).2.1
noncomputable def loW : List Nat := lowW (jTs ls rs bs) (tabS ls rs b) (loL ls rs bs b)
noncomputable def loX : Nat → Rat := x2 (jTs ls rs bs) (tabS ls rs b) (loL ls rs bs b) (loW ls rs bs b)
noncomputable def loY : Nat → Rat := y2 (jTs ls rs bs) (tabS ls rs b) (loL ls rs bs b) (loW ls rs bs b)
noncomputable def loP : Rat := topR (tabS ls rs b) + -(loY ls rs bs b (loL ls rs bs b).length)
noncomputable def loT : Rat := sumN (loW ls rs bs b).length (loX ls rs bs b)
noncomputable def loV : List Rat := sprd (worldsOf ls rs).length (loW ls rs bs b) ((List.range (loW ls rs bs b).length).map fun j => loX ls rs bs b j * (loT ls rs bs b)⁻¹)
noncomputable def loU : List Nat := (loL ls rs bs b).filter fun i => unwB ((jTs ls rs bs).getD i []) (loV ls rs bs b)
noncomputable def loR : List (List Rat) × List Nat × List Rat := layR (jTs ls rs bs) (worldsOf ls rs).length ((loU ls rs bs b).length + 1) (loU ls rs bs b)
noncomputable def loLs : List (List Rat) := (loS ls rs bs b).1 ++ [loV ls rs bs b] ++ (loR ls rs bs b).1
end
section
variable {ls : List Nat} {rs : List (List Wd)} {bs : List Bid} {b : Bet}
theorem loS_ok : StrOk (jTs ls rs bs) (tabS ls rs b) (List.range bs.length) (loS ls rs bs b) := str_ok _ _ _ _ (by rw [List.length_range]; omega)
theorem loL_lt : ∀ i ∈ loL ls rs bs b, i < bs.length := fun i hi => List.mem_range.mp (loS_ok.sub.subset hi)
theorem loL_nd : (loL ls rs bs b).Nodup := List.nodup_range.sublist loS_ok.sub
theorem loW_lt : ∀ u ∈ loW ls rs bs b, u < (worldsOf ls rs).length := fun u h => by have := lowW_lt u h; rw [tab_len] at this; exact this
theorem loW_len : (loW ls rs bs b).length ≤ (worldsOf ls rs).length := by have := lowW_len (ts := jTs ls rs bs) (os := tabS ls rs b) (left := loL ls rs bs b); rw [tab_len] at this; exact this
theorem live_lt {i u : Nat} (h : (gtA (jTs ls rs bs) i u).isSome = true) : u < (worldsOf ls rs).length := by
  unfold gtA at h
  rcases Nat.lt_or_ge i (jTs ls rs bs).length with hi | hi
  · have hi' : i < bs.length := by rw [jTs_len] at hi; exact hi
    rw [jTs_get (List.getElem?_eq_getElem hi'), List.getD_eq_getElem?_getD] at h
    cases e : (gainsB ls rs bs[i])[u]? with
    | none => rw [e] at h; cases h
    | some o =>
      have := (List.getElem?_eq_some_iff.mp e).1
      rw [gainsB_len] at this; exact this
  · rw [show (jTs ls rs bs).getD i [] = [] by rw [List.getD_eq_getElem?_getD, List.getElem?_eq_none hi]; rfl] at h
    cases h
theorem lo_yf0 : ∀ k, k < (loL ls rs bs b).length → 0 ≤ yOf (jTs ls rs bs) (loL ls rs bs b) (offW (jTs ls rs bs) (tabS ls rs b) (loL ls rs bs b)) k := fun k hk => (lpOf_best _ _ _).y0 k (by show k < _ + 1; omega)
theorem lo_F (u : Nat) (ho : (tabS ls rs b).getD u none = none) (hl : ∃ i ∈ loL ls rs bs b, (gtA (jTs ls rs bs) i u).isSome = true) : (sumN (loL ls rs bs b).length fun k => yOf (jTs ls rs bs) (loL ls rs bs b) (offW (jTs ls rs bs) (tabS ls rs b) (loL ls rs bs b)) k * oV (gtA (jTs ls rs bs) ((loL ls rs bs b).getD k 0) u)) ≤ -1 := by
  obtain ⟨i, hi, hs⟩ := hl
  have hu : u < (tabS ls rs b).length := by rw [tab_len]; exact live_lt hs
  have hm := mem_off hu ho hi hs
  obtain ⟨j, hj, e⟩ := List.mem_iff_getElem.mp hm
  have hc := col_ge (ts := jTs ls rs bs) (left := loL ls rs bs b) _ hj
  have hz : yOf (jTs ls rs bs) (loL ls rs bs b) (offW (jTs ls rs bs) (tabS ls rs b) (loL ls rs bs b)) (loL ls rs bs b).length = 0 := by
    rw [← y_last, ← wAt_sum (w := (tabS ls rs b).length) offW_nd offW_lt]
    exact (all_zero_sum wAt_nonneg).mp loS_ok.loss.1
  rw [hz, List.getD_eq_getElem?_getD, List.getElem?_eq_getElem hj, Option.getD_some, e] at hc
  grind
theorem lo_col {u : Nat} (hu : u ∈ loW ls rs bs b) : wthO (topR (tabS ls rs b)) ((tabS ls rs b).getD u none) ≤ -(sumN (loL ls rs bs b).length fun k => loY ls rs bs b k * oV (gtA (jTs ls rs bs) ((loL ls rs bs b).getD k 0) u)) + loY ls rs bs b (loL ls rs bs b).length * gvO ((tabS ls rs b).getD u none) := by
  obtain ⟨j, hj, e⟩ := List.mem_iff_getElem.mp hu
  have hc := col2 (ts := jTs ls rs bs) (os := tabS ls rs b) (left := loL ls rs bs b) hj
  rw [List.getD_eq_getElem?_getD (l := loW ls rs bs b), List.getElem?_eq_getElem hj, Option.getD_some, e] at hc
  exact hc
theorem lo_G (u : Nat) (p : Rat) (ho : (tabS ls rs b).getD u none = some p) : (sumN (loL ls rs bs b).length fun k => loY ls rs bs b k * oV (gtA (jTs ls rs bs) ((loL ls rs bs b).getD k 0) u)) + loP ls rs bs b ≤ p := by
  have hu : u < (tabS ls rs b).length := by
    rcases Nat.lt_or_ge u (tabS ls rs b).length with h | h
    · exact h
    · rw [List.getD_eq_getElem?_getD, List.getElem?_eq_none h] at ho; cases ho
  have hc := lo_col (ls := ls) (rs := rs) (bs := bs) (b := b) (u := u) (List.mem_filter.mpr ⟨List.mem_range.mpr hu, by rw [ho]; rfl⟩)
  rw [ho] at hc
  have hc : topR (tabS ls rs b) + -p ≤ _ + _ * (1 : Rat) := hc
  unfold loP
  grind
theorem lo_G0 (u : Nat) (ho : (tabS ls rs b).getD u none = none) (hl : ∃ i ∈ loL ls rs bs b, (gtA (jTs ls rs bs) i u).isSome = true) : (sumN (loL ls rs bs b).length fun k => loY ls rs bs b k * oV (gtA (jTs ls rs bs) ((loL ls rs bs b).getD k 0) u)) ≤ 0 := by
  obtain ⟨i, hi, hs⟩ := hl
  have hu : u < (tabS ls rs b).length := by rw [tab_len]; exact live_lt hs
  have hc := lo_col (ls := ls) (rs := rs) (bs := bs) (b := b) (u := u) (List.mem_filter.mpr ⟨List.mem_range.mpr hu, by rw [List.any_eq_true.mpr ⟨i, hi, hs⟩, Bool.or_true]⟩)
  rw [ho] at hc
  have hc : (0 : Rat) ≤ _ + _ * (0 : Rat) := hc
  grind
theorem lo_y0 : ∀ k, k < (loL ls rs bs b).length + 1 → 0 ≤ loY ls rs bs b k := y2_0
theorem bid_mean {Ls : List (List Rat)} (hb : ∀ c ∈ bs, bearsB (tabS ls rs c.1) Ls c.2 = true) : ∀ i, i < bs.length → ∃ g, meanIn ((jTs ls rs bs).getD i []) Ls = some g ∧ 0 ≤ g := fun i hi => by
  rw [jTs_get (List.getElem?_eq_getElem hi)]
  exact (bears_gain _ _ _).mp (hb _ (List.getElem_mem hi))
theorem lo_low0 {Ls : List (List Rat)} (h0 : ∀ ws ∈ Ls, ∀ w ∈ ws, 0 ≤ w) (hb : ∀ c ∈ bs, bearsB (tabS ls rs c.1) Ls c.2 = true) : (meanIn (tabS ls rs b) Ls = none → loL ls rs bs b = []) ∧ ∀ μ, meanIn (tabS ls rs b) Ls = some μ → loP ls rs bs b ≤ μ :=
  low_bound (fun k hk => lo_y0 k (by omega)) lo_yf0 lo_F lo_G lo_G0 h0 fun i hi => bid_mean hb i (loL_lt i hi)
theorem lo_ne (hB : Borne ls rs bs) {p : Rat} (hp : some p ∈ tabS ls rs b) : loY ls rs bs b (loL ls rs bs b).length ≠ 0 := fun z => by
  have e : loP ls rs bs b = topR (tabS ls rs b) := by unfold loP; rw [z]; grind
  obtain ⟨Ls, h0, hb⟩ := hB
  obtain ⟨h1, h2⟩ := lo_low0 (b := b) h0 hb
  cases c : meanIn (tabS ls rs b) Ls with
  | none =>
    have hn := h1 c
    obtain ⟨u, hu⟩ := List.mem_iff_getElem?.mp hp
    have := lo_G (ls := ls) (rs := rs) (bs := bs) (b := b) u p (by rw [List.getD_eq_getElem?_getD, hu]; rfl)
    rw [hn, e] at this
    have t := top_gt hp
    have this : (0 : Rat) + topR (tabS ls rs b) ≤ p := this
    grind
  | some μ =>
    have := h2 μ c
    have t := mean_le (M := topR (tabS ls rs b) + -1) (fun q hq => by have := top_gt hq; grind) h0 c
    grind
theorem loT_ge (hne : loY ls rs bs b (loL ls rs bs b).length ≠ 0) : 1 ≤ loT ls rs bs b := by
  have s := slack2 (ts := jTs ls rs bs) (os := tabS ls rs b) (left := loL ls rs bs b) (W := loW ls rs bs b) hne
  rw [← s]
  refine sumN_le fun j hj => ?_
  have x0 := x2_0 (ts := jTs ls rs bs) (os := tabS ls rs b) (left := loL ls rs bs b) j hj
  obtain ⟨_, g1⟩ := gvO_01 ((tabS ls rs b).getD ((loW ls rs bs b).getD j 0) none)
  have := Rat.mul_le_mul_of_nonneg_left g1 x0
  rw [Rat.mul_one] at this
  exact this
theorem inv_mul {t : Rat} (h : t ≠ 0) : t⁻¹ * t = 1 := by rw [Rat.mul_comm]; exact Rat.mul_inv_cancel _ h
theorem inv_pos' {t : Rat} (h : 1 ≤ t) : 0 < t⁻¹ := by
  have h0 : t ≠ 0 := by grind
  have e := inv_mul h0
  by_cases c : 0 < t⁻¹
  · exact c
  · have : 0 ≤ (-t⁻¹) * t := Rat.mul_nonneg (by grind) (by grind)
    grind
theorem loV_dot (h : Nat → Rat) : dotL (loV ls rs bs b) h = (loT ls rs bs b)⁻¹ * sumN (loW ls rs bs b).length fun j => loX ls rs bs b j * h ((loW ls rs bs b).getD j 0) := by
  unfold loV
  rw [dot_sprd (W := loW ls rs bs b) lowW_nd loW_lt, ← sumN_mul]
  exact sumN_congr fun j _ => by grind
theorem loV_len : (loV ls rs bs b).length = (worldsOf ls rs).length := sprd_len _ _ _
theorem loV_nonneg (hne : loY ls rs bs b (loL ls rs bs b).length ≠ 0) : ∀ v ∈ loV ls rs bs b, 0 ≤ v := fun v hv => by
  rcases sprd_mem hv with y | y
  · rw [y]; exact Rat.le_refl
  · obtain ⟨j, hj, rfl⟩ := List.mem_map.mp y
    exact Rat.mul_nonneg (x2_0 j (List.mem_range.mp hj)) (Rat.le_of_lt (inv_pos' (loT_ge hne)))
theorem loV_sum (hne : loY ls rs bs b (loL ls rs bs b).length ≠ 0) : (loV ls rs bs b).sum = 1 := by
  rw [sum_dot, loV_dot, sumN_congr (g := loX ls rs bs b) fun j _ => Rat.mul_one _]
  exact inv_mul (by have := loT_ge hne; grind)
theorem loV_fair (hne : loY ls rs bs b (loL ls rs bs b).length ≠ 0) {i : Nat} (hi : i ∈ loL ls rs bs b) : 0 ≤ ttR ((loV ls rs bs b).zip ((jTs ls rs bs).getD i [])) := by
  rw [tt_dot, loV_dot]
  refine Rat.mul_nonneg (Rat.le_of_lt (inv_pos' (loT_ge hne))) ?_
  obtain ⟨k, hk, e⟩ := List.mem_iff_getElem.mp hi
  have := row2 (ts := jTs ls rs bs) (os := tabS ls rs b) (W := loW ls rs bs b) hk
  rw [List.getD_eq_getElem?_getD, List.getElem?_eq_getElem hk, Option.getD_some, e] at this
  exact this
theorem loV_mean (hne : loY ls rs bs b (loL ls rs bs b).length ≠ 0) : meanR ((loV ls rs bs b).zip (tabS ls rs b)) = some (loP ls rs bs b) := by
  have ip := inv_pos' (loT_ge hne)
  have e1 : lvR ((loV ls rs bs b).zip (tabS ls rs b)) = (loT ls rs bs b)⁻¹ := by
    rw [lv_dot, loV_dot, show (sumN (loW ls rs bs b).length fun j => loX ls rs bs b j * gvO ((tabS ls rs b).getD ((loW ls rs bs b).getD j 0) none)) = 1 from slack2 hne, Rat.mul_one]
  have e2 : ttR ((loV ls rs bs b).zip (tabS ls rs b)) = (loT ls rs bs b)⁻¹ * loP ls rs bs b := by
    rw [tt_dot, loV_dot, show (sumN (loW ls rs bs b).length fun j => loX ls rs bs b j * oV ((tabS ls rs b).getD ((loW ls rs bs b).getD j 0) none)) = loP ls rs bs b from mean2 hne]
  unfold meanR
  rw [e1, e2, if_neg (by grind)]
  congr 1
  have m := mul_div' (a := (loT ls rs bs b)⁻¹) (b := (loT ls rs bs b)⁻¹ * loP ls rs bs b) (by grind)
  have : (loT ls rs bs b)⁻¹ * ((loT ls rs bs b)⁻¹ * loP ls rs bs b / (loT ls rs bs b)⁻¹ - loP ls rs bs b) = 0 := by grind
  rcases Rat.mul_eq_zero.mp this with y | y <;> grind
theorem loU_lt : ∀ i ∈ loU ls rs bs b, i < bs.length := fun i hi => loL_lt i (List.mem_filter.mp hi).1
theorem loU_nd : (loU ls rs bs b).Nodup := loL_nd.sublist List.filter_sublist
theorem loR_ok : LayOk (jTs ls rs bs) (worldsOf ls rs).length (loU ls rs bs b) (loR ls rs bs b) := lay_ok _ _ _ _ (by omega)
theorem loR_nil (hB : Borne ls rs bs) (hl : ∀ c ∈ bs, ((worldsOf ls rs).any fun u => valS ls u c.1.2) = true) : (loR ls rs bs b).2.1 = [] := by
  refine Classical.byContradiction fun z => ?_
  obtain ⟨h1, h2⟩ := loR_ok.loss z
  have lt : ∀ i ∈ (loR ls rs bs b).2.1, i < bs.length := fun i hi => loU_lt i (loR_ok.sub.subset hi)
  have h3 := loss_ok (ls := ls) (rs := rs) (bs := bs) z lt (loU_nd.sublist loR_ok.sub) hl h1
  obtain ⟨Ls, h0, hb⟩ := hB
  rw [no_loss (fun s hs => ?_) h0 hb] at h3
  · cases h3
  · rcases sprd_mem hs with y | y
    · rw [y]; exact Rat.le_refl
    · obtain ⟨k, hk, rfl⟩ := List.mem_map.mp y
      exact (lpOf_best _ _ _).y0 k (by have := List.mem_range.mp hk; show k < (loR ls rs bs b).2.1.length + 1; omega)
structure LoOk (ls : List Nat) (rs : List (List Wd)) (bs : List Bid) (b : Bet) : Prop where
  wg : ∀ ws ∈ loLs ls rs bs b, ws.length = (worldsOf ls rs).length ∧ (∀ v ∈ ws, 0 ≤ v) ∧ ws.sum = 1
  few : (loLs ls rs bs b).length ≤ bs.length + 1
  mean : meanIn (tabS ls rs b) (loLs ls rs bs b) = some (loP ls rs bs b)
  bears : ∀ c ∈ bs, bearsB (tabS ls rs c.1) (loLs ls rs bs b) c.2 = true
theorem lo_ok (hB : Borne ls rs bs) (hl : ∀ c ∈ bs, ((worldsOf ls rs).any fun u => valS ls u c.1.2) = true) {p : Rat} (hp : some p ∈ tabS ls rs b) : LoOk ls rs bs b := by
  have hne := lo_ne hB hp
  have hS := loS_ok (ls := ls) (rs := rs) (bs := bs) (b := b)
  have hR := loR_ok (ls := ls) (rs := rs) (bs := bs) (b := b)
  refine ⟨fun ws hw => ?_, ?_, ?_, fun c hc => ?_⟩
  · rcases List.mem_append.mp hw with y | y
    · rcases List.mem_append.mp y with y | y
      · have := hS.wg ws y
        rw [tab_len] at this
        exact this
      · rw [List.mem_singleton] at y
        rw [y]
        exact ⟨loV_len, loV_nonneg hne, loV_sum hne⟩
    · exact hR.wg ws y
  · have h1 := hS.len
    have h2 := hR.len
    have h3 : (loU ls rs bs b).length ≤ (loL ls rs bs b).length := List.length_filter_le _ _
    rw [List.length_range] at h1
    unfold loLs
    rw [List.length_append, List.length_append, List.length_singleton]
    have h1 : (loS ls rs bs b).1.length + (loL ls rs bs b).length ≤ bs.length := h1
    omega
  · unfold loLs
    rw [mean_append, mean_append, hS.off, Option.none_or, mean_cons, loV_mean hne]; rfl
  · obtain ⟨i, hi⟩ := List.mem_iff_getElem?.mp hc
    have hil := (List.getElem?_eq_some_iff.mp hi).1
    refine (bears_gain _ _ _).mpr ?_
    show ∃ g, meanIn (gainsB ls rs c) _ = some g ∧ 0 ≤ g
    rw [← jTs_get hi]
    unfold loLs
    rw [mean_append, mean_append, mean_cons]
    by_cases hm : i ∈ loL ls rs bs b
    · rw [hS.non i hm, Option.none_or]
      cases u : unwB ((jTs ls rs bs).getD i []) (loV ls rs bs b) with
      | true =>
        obtain ⟨g, e, g0⟩ := hR.fair (loR_nil hB hl) i (List.mem_filter.mpr ⟨hm, u⟩)
        rw [mean_none.mpr ((unw_true (loV_nonneg hne)).mp u)]
        exact ⟨g, by rw [e]; rfl, g0⟩
      | false =>
        obtain ⟨g, e, g0⟩ := mean_pos (loV_nonneg hne) (loV_fair hne hm) u
        exact ⟨g, by rw [e]; rfl, g0⟩
    · obtain ⟨g, e, g0⟩ := hS.fair i (List.mem_range.mpr hil) hm
      exact ⟨g, by rw [e]; rfl, g0⟩
end

theorem tab_zgC {D : Dims} {S : Tab} {f : Nat → Nat} {G : Nat} (h : FwC D S f) (hc : ∃ d2 : Nat, 0 < d2 ∧ d2 ≤ 2 ^ G ∧ ∀ j, j ≤ D.N → ∃ c : Int, (d2 : Rat) * D.c j = (c : Rat) ∧ c.natAbs ≤ 2 ^ G) (g : GoodD D S) {j : Nat} (hj : j ≤ D.N) : Sz (FBc D.m f + (D.m + 1) + G) (S.z j) := by
  obtain ⟨d, d0, d1, d2⟩ := tab_cdC h g hj
  obtain ⟨q, q0, q1, hc⟩ := hc
  have z_eq' : S.z j = D.c j + -(sumN D.m fun i => D.c (S.own i) * S.T i j) := z_eq g.g hj
  have ns : ∃ n : Nat → Int, ∀ i, i < D.m → ((d : Rat) * (q : Rat)) * (D.c (S.own i) * S.T i j) = (n i : Rat) ∧ (n i).natAbs ≤ 2 ^ FBc D.m f * 2 ^ G := by
    have : ∀ i, ∃ n : Int, i < D.m → ((d : Rat) * (q : Rat)) * (D.c (S.own i) * S.T i j) = (n : Rat) ∧ n.natAbs ≤ 2 ^ FBc D.m f * 2 ^ G := fun i => by
      by_cases hi : i < D.m
      · obtain ⟨c, c1, c2⟩ := hc (S.own i) (Nat.le_of_lt (g.g.lt i hi))
        obtain ⟨n, n1, n2⟩ := d2 i hi
        refine ⟨c * n, fun _ => ⟨?_, ?_⟩⟩
        · rw [Rat.intCast_mul, ← n1, ← c1]; grind
        · rw [Int.natAbs_mul, Nat.mul_comm]
          exact Nat.mul_le_mul (Nat.le_of_lt n2) c2
      · exact ⟨0, fun z => absurd z hi⟩
    exact ⟨fun i => Classical.choose (this i), fun i hi => Classical.choose_spec (this i) hi⟩
  obtain ⟨n, hn⟩ := ns
  obtain ⟨e, e1, e2⟩ := sumN_abs (m := D.m) (f := n) (B := 2 ^ FBc D.m f * 2 ^ G) fun i hi => (hn i hi).2
  obtain ⟨c, c1, c2⟩ := hc j hj
  have key : ((d : Rat) * (q : Rat)) * S.z j = ((c * d - e : Int) : Rat) := by
    rw [z_eq', Rat.intCast_sub, Rat.intCast_mul, ← e1, ← c1]
    have : ((d : Rat) * (q : Rat)) * sumN D.m (fun i => D.c (S.own i) * S.T i j) = sumN D.m fun i => (n i : Rat) := by
      rw [← sumN_mul]
      exact sumN_congr fun i hi => (hn i hi).1
    grind
  have d0' : (d : Rat) ≠ 0 := fun z => d0 (Rat.intCast_eq_zero_iff.mp z)
  have q0' : (q : Rat) ≠ 0 := fun z => by have := Rat.natCast_eq_zero_iff.mp z; omega
  have dq0 : (d : Rat) * (q : Rat) ≠ 0 := fun z => by rcases Rat.mul_eq_zero.mp z with y | y <;> contradiction
  have dqe : ((d * (q : Int) : Int) : Rat) = (d : Rat) * (q : Rat) := by rw [Rat.intCast_mul]; rfl
  have e3 : S.z j = Rat.divInt (c * d - e) (d * (q : Int)) := by
    rw [Rat.divInt_eq_div, ← key, dqe]
    have := mul_div' (b := ((d : Rat) * (q : Rat)) * S.z j) dq0
    generalize ((d : Rat) * (q : Rat)) * S.z j / ((d : Rat) * (q : Rat)) = r at this ⊢
    have h3 : ((d : Rat) * (q : Rat)) * (r - S.z j) = 0 := by grind
    rcases Rat.mul_eq_zero.mp h3 with y | y
    · exact absurd y dq0
    · grind
  rw [e3]
  have pw : 2 ^ (FBc D.m f + (D.m + 1) + G) = (2 ^ FBc D.m f * 2 ^ G) * 2 ^ (D.m + 1) := by
    rw [show FBc D.m f + (D.m + 1) + G = FBc D.m f + G + (D.m + 1) by omega, Nat.pow_add, Nat.pow_add]
  have pp : 0 < 2 ^ FBc D.m f * 2 ^ G := Nat.mul_pos (Nat.two_pow_pos _) (Nat.two_pow_pos _)
  have tm : D.m + 1 < 2 ^ (D.m + 1) := Nat.lt_two_pow_self
  have t1 := Nat.mul_lt_mul_of_pos_left tm pp
  refine sz_divInt (fun z => dq0 (by rw [← dqe, z]; rfl)) ?_ ?_
  · have q1' : (c * d).natAbs ≤ 2 ^ FBc D.m f * 2 ^ G := by
      rw [Int.natAbs_mul, Nat.mul_comm]
      exact Nat.mul_le_mul (Nat.le_of_lt d1) c2
    rw [pw]
    refine Nat.lt_of_le_of_lt ?_ t1
    rw [Nat.mul_add, Nat.mul_one, Nat.mul_comm _ D.m]
    generalize 2 ^ FBc D.m f * 2 ^ G = P at q1' e2
    omega
  · rw [pw, Int.natAbs_mul, Int.natAbs_natCast]
    have h1 : d.natAbs * q < 2 ^ FBc D.m f * 2 ^ G + 1 := Nat.lt_succ_of_le (Nat.mul_le_mul (Nat.le_of_lt d1) q1)
    have h2 : 2 ^ FBc D.m f * 2 ^ G * 1 < 2 ^ FBc D.m f * 2 ^ G * 2 ^ (D.m + 1) := Nat.mul_lt_mul_of_pos_left (by omega) pp
    omega
theorem lp2_few {ts : Tbs} {os : List (Option Rat)} {left W : List Nat} {f : Nat → Nat} {top : Rat} (h : ∀ i ∈ left, Tin (f i) (ts.getD i [])) : FewC (lp2 ts os left W top).dims (fun k => if k < left.length then f (left.getD k 0) else 1) := fun k hk => by
  have z0 : ∀ d e : Nat, ∃ c : Int, (d : Rat) * 0 = (c : Rat) ∧ c.natAbs < 2 ^ e := fun d e => ⟨0, by rw [Rat.mul_zero]; rfl, Nat.two_pow_pos _⟩
  have z1 : ∀ d e : Nat, d < 2 ^ e → ∃ c : Int, (d : Rat) * 1 = (c : Rat) ∧ c.natAbs < 2 ^ e := fun d e hd => ⟨d, by rw [Rat.mul_one]; rfl, hd⟩
  have hk : k < left.length + 1 := hk
  by_cases c : k < left.length
  · dsimp only
    rw [if_pos c]
    obtain ⟨d, d0, dK, hd⟩ := h (left.getD k 0) (by rw [List.getD_eq_getElem?_getD, List.getElem?_eq_getElem c]; exact List.getElem_mem c)
    refine ⟨d, d0, fun j _ => ?_⟩
    show ∃ c' : Int, (d : Rat) * (if j < W.length then (if k < left.length then negO (gtA ts (left.getD k 0) (W.getD j 0)) else gvO (os.getD (W.getD j 0) none)) else if j < W.length + (left.length + 1) then (if j = W.length + k then (1 : Rat) else 0) else (if k < left.length then 0 else 1)) = (c' : Rat) ∧ _
    rw [if_pos c, if_pos c]
    split
    · cases e : gtA ts (left.getD k 0) (W.getD j 0) with
      | none => exact z0 d _
      | some r =>
        obtain ⟨c', e1, e2⟩ := hd r (gtA_mem e)
        refine ⟨-c', ?_, by rw [Int.natAbs_neg]; exact e2⟩
        show (d : Rat) * -r = _
        rw [Rat.intCast_neg, ← e1]; grind
    · split
      · split
        · exact z1 d _ dK
        · exact z0 d _
      · exact z0 d _
  · dsimp only
    rw [if_neg c]
    refine ⟨1, by decide, fun j _ => ?_⟩
    show ∃ c' : Int, ((1 : Nat) : Rat) * (if j < W.length then (if k < left.length then negO (gtA ts (left.getD k 0) (W.getD j 0)) else gvO (os.getD (W.getD j 0) none)) else if j < W.length + (left.length + 1) then (if j = W.length + k then (1 : Rat) else 0) else (if k < left.length then 0 else 1)) = (c' : Rat) ∧ _
    rw [if_neg c, if_neg c]
    split
    · cases os.getD (W.getD j 0) none with
      | none => exact z0 1 1
      | some _ => exact z1 1 1 (by decide)
    · split
      · split
        · exact z1 1 1 (by decide)
        · exact z0 1 1
      · exact z1 1 1 (by decide)
theorem top_den {g : Nat} {os : List (Option Rat)} (h : Tin g os) : ∃ d : Nat, 0 < d ∧ d < 2 ^ g ∧ (∀ r, some r ∈ os → ∃ c : Int, (d : Rat) * r = (c : Rat) ∧ c.natAbs < 2 ^ g) ∧ ∃ c : Int, (d : Rat) * topR os = (c : Rat) ∧ c.natAbs ≤ 2 * 2 ^ g := by
  obtain ⟨d, d0, d1, d2⟩ := h
  refine ⟨d, d0, d1, d2, ?_⟩
  unfold topR
  cases e : gmaxO os with
  | none =>
    refine ⟨d, ?_, by rw [Int.natAbs_natCast]; omega⟩
    show (d : Rat) * (0 + 1) = _
    rw [Rat.zero_add, Rat.mul_one]; rfl
  | some M =>
    obtain ⟨c, c1, c2⟩ := d2 M (by rcases (maxO_spec (a := none) (os := os)).2.2 M e with y | y; (cases y); exact y)
    refine ⟨c + d, ?_, by omega⟩
    show (d : Rat) * (M + 1) = _
    rw [Rat.intCast_add, ← c1]
    show _ = _ + (d : Rat)
    grind
theorem lp2_sz {ts : Tbs} {os : List (Option Rat)} {left W : List Nat} {f : Nat → Nat} {g : Nat} (h : ∀ i ∈ left, Tin (f i) (ts.getD i [])) (ho : Tin g os) : LpSz (lp2 ts os left W (topR os)) (SzC f left + (g + 2)) := by
  have few := lp2_few (os := os) (W := W) (top := topR os) h
  have e : FBc (left.length + 1) (fun k => if k < left.length then f (left.getD k 0) else 1) + (left.length + 2) = SzC f left := by
    unfold FBc SzC
    rw [KS_list]
  obtain ⟨d, d0, d1, d2, ct, t1, t2⟩ := top_den ho
  have p2 : 2 ^ (g + 2) = 4 * 2 ^ g := by rw [Nat.pow_add]; omega
  refine fun U gU => ⟨fun i j hi hj => (tab_TC (few.fw gU.g) gU hi hj).mono (by show FBc (left.length + 1) _ ≤ _; omega), fun j hj => (tab_zgC (G := g + 2) (few.fw gU.g) ⟨d, d0, by omega, fun j _ => ?_⟩ gU hj).mono (by show FBc (left.length + 1) _ + (left.length + 1 + 1) + _ ≤ _; omega)⟩
  show ∃ c' : Int, (d : Rat) * (if j < W.length then -(wthO (topR os) (os.getD (W.getD j 0) none)) else 0) = (c' : Rat) ∧ _
  split
  · cases eo : os.getD (W.getD j 0) none with
    | none => exact ⟨0, by show (d : Rat) * -0 = 0; grind, Nat.zero_le _⟩
    | some p =>
      obtain ⟨c, c1, c2⟩ := d2 p (getD_mem eo)
      refine ⟨c - ct, ?_, by omega⟩
      show (d : Rat) * -(topR os + -p) = _
      rw [Rat.intCast_sub, ← c1, ← t1]; grind
  · exact ⟨0, by rw [Rat.mul_zero]; rfl, Nat.zero_le _⟩
theorem last_cd {L : Lp} {f : Nat → Nat} (few : FewC L.dims f) (hb : ∀ k, k < L.m → 0 ≤ L.b k) : ∃ e : Int, e ≠ 0 ∧ e.natAbs < 2 ^ FBc L.m f ∧ ∀ j, ∃ n : Int, (e : Rat) * L.last.at L.dims j = (n : Rat) ∧ n.natAbs < 2 ^ FBc L.m f := by
  have gd := Lp.last_goodD hb
  obtain ⟨e, e0, e1, e2⟩ := tab_cdC (few.fw gd.g) gd (Nat.le_refl L.dims.N)
  refine ⟨e, e0, e1, fun j => ?_⟩
  rcases at_or gd.g j with y | ⟨i, hi, y⟩
  · rw [y]; exact ⟨0, by rw [Rat.mul_zero]; rfl, Nat.two_pow_pos _⟩
  · rw [y]; exact e2 i hi
theorem div_of {e n : Int} {r : Rat} (e0 : e ≠ 0) (h : (e : Rat) * r = (n : Rat)) : r = Rat.divInt n e := by
  have e0' : (e : Rat) ≠ 0 := fun z => e0 (Rat.intCast_eq_zero_iff.mp z)
  rw [Rat.divInt_eq_div, ← h]
  have := mul_div' (b := (e : Rat) * r) e0'
  generalize (e : Rat) * r / (e : Rat) = q at this ⊢
  have h3 : (e : Rat) * (q - r) = 0 := by grind
  rcases Rat.mul_eq_zero.mp h3 with y | y
  · exact absurd y e0'
  · grind
theorem sum_cd {e : Int} {x : Nat → Rat} {F : Nat} (h : ∀ j, ∃ n : Int, (e : Rat) * x j = (n : Rat) ∧ n.natAbs < 2 ^ F) (t : Nat) : ∃ m : Int, (e : Rat) * sumN t x = (m : Rat) ∧ m.natAbs ≤ t * 2 ^ F := by
  obtain ⟨n, hn⟩ : ∃ n : Nat → Int, ∀ j, (e : Rat) * x j = (n j : Rat) ∧ (n j).natAbs < 2 ^ F := ⟨fun j => Classical.choose (h j), fun j => Classical.choose_spec (h j)⟩
  obtain ⟨m, m1, m2⟩ := sumN_abs (m := t) (f := n) (B := 2 ^ F) fun i _ => Nat.le_of_lt (hn i).2
  refine ⟨m, ?_, m2⟩
  rw [← m1, ← sumN_mul]
  exact sumN_congr fun j _ => (hn j).1
structure LowIn (ls : List Nat) (rs : List (List Wd)) (bs : List Bid) (b : Bet) (f : Nat → Nat) (g B : Nat) : Prop where
  few : bs.length ≤ 19
  tin : ∀ i c, bs[i]? = some c → Tin (f i) (gainsB ls rs c)
  pay : Tin g (tabS ls rs b)
  le : SzC f (List.range bs.length) + g + 8 ≤ B
  b7 : B ≤ 10000000
section
variable {ls : List Nat} {rs : List (List Wd)} {bs : List Bid} {b : Bet} {f : Nat → Nat} {g B : Nat}
theorem LowIn.one (h : LowIn ls rs bs b f g B) : 1 ≤ B := by have := h.le; omega
theorem LowIn.tinL (h : LowIn ls rs bs b f g B) {l : List Nat} (hl : l.Sublist (List.range bs.length)) : ∀ i ∈ l, Tin (f i) ((jTs ls rs bs).getD i []) := fun i hi => by
  have hi := List.mem_range.mp (hl.subset hi)
  rw [jTs_get (List.getElem?_eq_getElem hi)]
  exact h.tin i _ (List.getElem?_eq_getElem hi)
theorem szc_sub {l m : List Nat} (hl : l.Sublist m) : SzC f l ≤ SzC f m := by
  have hn := hl.length_le
  have h1 := sub_sum f hl
  have h2 := Nat.mul_le_mul (show l.length + 1 ≤ m.length + 1 by omega) (show l.length + 1 ≤ m.length + 1 by omega)
  unfold SzC
  omega
theorem LowIn.lp (h : LowIn ls rs bs b f g B) {l W : List Nat} (hl : l.Sublist (List.range bs.length)) : LpSz (lpOf (jTs ls rs bs) l W) B := (lpOf_szC (h.tinL hl)).mono (by have := h.le; have := szc_sub (f := f) hl; omega)
theorem LowIn.lp2 (h : LowIn ls rs bs b f g B) : LpSz (lp2 (jTs ls rs bs) (tabS ls rs b) (loL ls rs bs b) (loW ls rs bs b) (topR (tabS ls rs b))) B := (lp2_sz (h.tinL loS_ok.sub) h.pay).mono (by have := h.le; have := szc_sub (f := f) (loS_ok (ls := ls) (rs := rs) (bs := bs) (b := b)).sub; show SzC f (loL ls rs bs b) + _ ≤ B; have e : (loS ls rs bs b).2.1 = loL ls rs bs b := rfl; rw [e] at this; omega)
theorem LowIn.cd (h : LowIn ls rs bs b f g B) : ∃ (e : Int) (F : Nat), e ≠ 0 ∧ e.natAbs < 2 ^ F ∧ F + g + 8 ≤ B ∧ ∀ j, ∃ n : Int, (e : Rat) * loX ls rs bs b j = (n : Rat) ∧ n.natAbs < 2 ^ F := by
  obtain ⟨e, e0, e1, e2⟩ := last_cd (lp2_few (os := tabS ls rs b) (W := loW ls rs bs b) (top := topR (tabS ls rs b)) (h.tinL (loS_ok (b := b)).sub)) (lp2_b _ _ _ _ _)
  refine ⟨e, _, e0, e1, ?_, e2⟩
  have e : FBc ((loL ls rs bs b).length + 1) (fun k => if k < (loL ls rs bs b).length then f ((loL ls rs bs b).getD k 0) else 1) + ((loL ls rs bs b).length + 2) = SzC f (loL ls rs bs b) := by
    unfold FBc SzC
    rw [KS_list]
  have := h.le
  have h2 := szc_sub (f := f) (loS_ok (ls := ls) (rs := rs) (bs := bs) (b := b)).sub
  have h2 : SzC f (loL ls rs bs b) ≤ _ := h2
  show FBc ((loL ls rs bs b).length + 1) _ + g + 8 ≤ B
  have e3 : FBc ((loL ls rs bs b).length + 1) (fun k => if k < (loS ls rs bs b).2.1.length then f ((loS ls rs bs b).2.1.getD k 0) else 1) = FBc ((loL ls rs bs b).length + 1) (fun k => if k < (loL ls rs bs b).length then f ((loL ls rs bs b).getD k 0) else 1) := rfl
  omega
theorem LowIn.psz (h : LowIn ls rs bs b f g B) (hw : (worldsOf ls rs).length ≤ 64) (hne : loY ls rs bs b (loL ls rs bs b).length ≠ 0) : Sz B (loP ls rs bs b) := by
  obtain ⟨e, F, e0, e1, hF, he⟩ := h.cd
  obtain ⟨d, d0, d1, d2⟩ := h.pay
  have hl := loW_len (ls := ls) (rs := rs) (bs := bs) (b := b)
  have e0' : (e : Rat) ≠ 0 := fun z => e0 (Rat.intCast_eq_zero_iff.mp z)
  have hp : ∀ j, ∃ n : Int, ((e * (d : Int) : Int) : Rat) * (loX ls rs bs b j * oV ((tabS ls rs b).getD ((loW ls rs bs b).getD j 0) none)) = (n : Rat) ∧ n.natAbs < 2 ^ (F + g) := fun j => by
    obtain ⟨n, n1, n2⟩ := he j
    have : ∃ c : Int, (d : Rat) * oV ((tabS ls rs b).getD ((loW ls rs bs b).getD j 0) none) = (c : Rat) ∧ c.natAbs < 2 ^ g := by
      cases eo : (tabS ls rs b).getD ((loW ls rs bs b).getD j 0) none with
      | none => exact ⟨0, by show (d : Rat) * 0 = 0; grind, Nat.two_pow_pos _⟩
      | some p => exact d2 p (getD_mem eo)
    obtain ⟨c, c1, c2⟩ := this
    refine ⟨n * c, ?_, ?_⟩
    · rw [Rat.intCast_mul, Rat.intCast_mul, ← n1, ← c1]
      show (e : Rat) * (d : Rat) * _ = _
      grind
    · rw [Int.natAbs_mul, Nat.pow_add]
      exact Nat.mul_lt_mul'' n2 c2
  obtain ⟨m, m1, m2⟩ := sum_cd hp (loW ls rs bs b).length
  rw [show (sumN (loW ls rs bs b).length fun j => loX ls rs bs b j * oV ((tabS ls rs b).getD ((loW ls rs bs b).getD j 0) none)) = loP ls rs bs b from mean2 hne] at m1
  have ed0 : e * (d : Int) ≠ 0 := Int.mul_ne_zero e0 (by omega)
  rw [div_of ed0 m1]
  have pp := Nat.two_pow_pos (F + g)
  refine (sz_divInt (n := F + g + 7) ed0 ?_ ?_).mono (by omega)
  · have := Nat.mul_le_mul_right (2 ^ (F + g)) (show (loW ls rs bs b).length ≤ 64 by omega)
    rw [Nat.pow_add]
    omega
  · have : (e * (d : Int)).natAbs < 2 ^ (F + g) := by
      rw [Int.natAbs_mul, Int.natAbs_natCast, Nat.pow_add]
      exact Nat.mul_lt_mul'' e1 d1
    rw [Nat.pow_add]
    omega
end
structure BB (ls : List Nat) (rs : List (List Wd)) (Ls : List (List Rat)) (b : Bid) : Prop where
  gb : GBid ls 260 2 b
  live : ((worldsOf ls rs).any fun u => valS ls u b.1.2) = true
  tin : Tin 240 (gainsB ls rs b)
  brn : bearsB (tabS ls rs b.1) Ls b.2 = true
theorem divInt_mul {c : Int} {d : Nat} (h : 0 < d) : (d : Rat) * Rat.divInt c (d : Int) = (c : Rat) := by
  rw [Rat.divInt_eq_div]
  exact mul_div' fun z => by have z : ((d : Nat) : Rat) = 0 := z; have := Rat.natCast_eq_zero_iff.mp z; omega
theorem tin_bet {ls : List Nat} {rs : List (List Wd)} {n m : Nat} {b : Bet} (h : GBet ls n m b) : Tin (n * m + m + 1) (tabS ls rs b) := by
  have d0 := prodD_pos b.1
  have d1 : prodD b.1 ≤ 2 ^ (n * m) := Nat.le_trans (prodD_le (n := n) (ts := b.1) fun t ht => (h.terms t ht).2.2) (Nat.pow_le_pow_right (by decide) (Nat.mul_le_mul_left _ h.few))
  have e0 : 2 ^ (n * m + m + 1) = 2 ^ (n * m) * 2 ^ (m + 1) := by rw [Nat.add_assoc, Nat.pow_add]
  have m1 : m + 1 < 2 ^ (m + 1) := Nat.lt_two_pow_self
  have k0 : 0 < 2 ^ (n * m) := Nat.two_pow_pos _
  refine ⟨prodD b.1, d0, ?_, fun p hp => ?_⟩
  · rw [e0]
    have h2 := Nat.mul_lt_mul_of_pos_left (show 1 < 2 ^ (m + 1) by omega) k0
    omega
  · obtain ⟨u, _, eu⟩ := List.mem_map.mp hp
    obtain ⟨c, c1, c2⟩ := pay_den h eu
    refine ⟨c, by rw [c1]; exact divInt_mul d0, ?_⟩
    rw [e0]
    have h2 := Nat.mul_lt_mul_of_pos_left m1 k0
    have e1 : m * 2 ^ (n * m) = 2 ^ (n * m) * m := Nat.mul_comm _ _
    have h3 : 2 ^ (n * m) * (m + 1) = 2 ^ (n * m) * m + 2 ^ (n * m) := Nat.mul_succ _ _
    omega
def Lens2 (b : Bet) : Prop := (∀ t ∈ b.1, t.2.length ≤ 10) ∧ b.2.length ≤ 24
structure FB1 (ls : List Nat) (rs : List (List Wd)) (Ls : List (List Rat)) (c : Bid) : Prop where
  gb : GBet ls 100 2 c.1
  pr : Sz 245 c.2
  ln : Lens2 c.1
  live : ((worldsOf ls rs).any fun u => valS ls u c.1.2) = true
  brn : bearsB (tabS ls rs c.1) Ls c.2 = true
theorem FB1.gd {ls : List Nat} {rs : List (List Wd)} {Ls : List (List Rat)} {c : Bid} (h : FB1 ls rs Ls c) : GBid ls 350 2 c := ⟨h.gb.mono (by decide) (by decide), h.pr.mono (by decide)⟩
structure FBs (ls : List Nat) (rs : List (List Wd)) (bs : List Bid) (Ls : List (List Rat)) : Prop where
  bid : ∀ c ∈ bs, FB1 ls rs Ls c
  few : bs.length ≤ 12
  wg : ∀ ws ∈ Ls, Wg (worldsOf ls rs).length ws
  lay : Ls.length ≤ 4
  some : ∀ b : Bet, ((worldsOf ls rs).any fun u => valS ls u b.2) = true → meanIn (tabS ls rs b) Ls ≠ none
structure LQ1 (T : Nat) (ls : List Nat) (rs : List (List Wd)) (c : Bid) : Prop where
  gd : GBid ls 9000 3 c
  tin : Tin T (gainsB ls rs c)
  live : ((worldsOf ls rs).any fun u => valS ls u c.1.2) = true
structure LowQ (T m : Nat) (ls : List Nat) (rs : List (List Wd)) (bs : List Bid) : Prop where
  bid : ∀ c ∈ bs, LQ1 T ls rs c
  few : bs.length ≤ m
  m14 : m ≤ 14
  brn : Borne ls rs bs
theorem LowQ.gd {T m : Nat} {ls : List Nat} {rs : List (List Wd)} {bs : List Bid} (h : LowQ T m ls rs bs) : GBids ls 9000 3 bs := fun c hc => (h.bid c hc).gd
theorem LowQ.live {T m : Nat} {ls : List Nat} {rs : List (List Wd)} {bs : List Bid} (h : LowQ T m ls rs bs) : ∀ c ∈ bs, ((worldsOf ls rs).any fun u => valS ls u c.1.2) = true := fun c hc => (h.bid c hc).live
theorem tin_two {ls : List Nat} {rs : List (List Wd)} {n m q : Nat} {b : Bid} (h : GBet ls n m b.1) (hq : Sz q b.2) : Tin (n * m + q + m + 1) (gainsB ls rs b) := by
  have d0 := prodD_pos b.1.1
  have d1 : prodD b.1.1 ≤ 2 ^ (n * m) := Nat.le_trans (prodD_le (n := n) (ts := b.1.1) fun t ht => (h.terms t ht).2.2) (Nat.pow_le_pow_right (by decide) (Nat.mul_le_mul_left _ h.few))
  obtain ⟨p1, p2⟩ := hq
  have e0 : 2 ^ (n * m + q + m + 1) = 2 ^ (n * m) * 2 ^ q * 2 ^ (m + 1) := by rw [Nat.add_assoc (n * m + q), Nat.pow_add, Nat.pow_add]
  have m1 : m + 1 < 2 ^ (m + 1) := Nat.lt_two_pow_self
  have k0 : 0 < 2 ^ (n * m) * 2 ^ q := Nat.mul_pos (Nat.two_pow_pos _) (Nat.two_pow_pos _)
  refine ⟨prodD b.1.1 * b.2.den, Nat.mul_pos d0 b.2.den_pos, ?_, fun g hg => ?_⟩
  · rw [e0]
    have h1 := Nat.mul_le_mul d1 (Nat.le_of_lt p2)
    have h2 := Nat.mul_lt_mul_of_pos_left (show 1 < 2 ^ (m + 1) by omega) k0
    omega
  · obtain ⟨o, ho, ho2⟩ := List.mem_map.mp hg
    cases o with
    | none => cases ho2
    | some p =>
      have ho2 : some (p + -b.2) = some g := ho2
      injection ho2 with ho2
      obtain ⟨u, _, eu⟩ := List.mem_map.mp ho
      obtain ⟨c, c1, c2⟩ := pay_den h eu
      have f1 : (prodD b.1.1 : Rat) * p = (c : Rat) := by rw [c1]; exact divInt_mul d0
      have f2 : (b.2.den : Rat) * b.2 = (b.2.num : Rat) := rat_den b.2
      refine ⟨c * b.2.den - prodD b.1.1 * b.2.num, ?_, ?_⟩
      · rw [Rat.intCast_sub, Rat.intCast_mul, Rat.intCast_mul, ← f1, ← f2, ← ho2, Rat.natCast_mul]
        show _ = (prodD b.1.1 : Rat) * p * (b.2.den : Rat) - (prodD b.1.1 : Rat) * ((b.2.den : Rat) * b.2)
        grind
      · have g1 : (c * (b.2.den : Int)).natAbs ≤ m * 2 ^ (n * m) * 2 ^ q := by
          rw [Int.natAbs_mul, Int.natAbs_natCast]
          exact Nat.mul_le_mul c2 (Nat.le_of_lt p2)
        have g2 : ((prodD b.1.1 : Int) * b.2.num).natAbs ≤ 2 ^ (n * m) * 2 ^ q := by
          rw [Int.natAbs_mul, Int.natAbs_natCast]
          exact Nat.mul_le_mul d1 (Nat.le_of_lt p1)
        have g3 := Nat.mul_lt_mul_of_pos_left m1 k0
        rw [e0]
        have g4 : m * 2 ^ (n * m) * 2 ^ q + 2 ^ (n * m) * 2 ^ q = 2 ^ (n * m) * 2 ^ q * (m + 1) := by rw [Nat.mul_assoc, Nat.mul_add, Nat.mul_one, Nat.mul_comm m]
        generalize c * (b.2.den : Int) = P at g1 ⊢
        generalize (prodD b.1.1 : Int) * b.2.num = Q at g2 ⊢
        omega
theorem some_live {ls : List Nat} {rs : List (List Wd)} {b : Bet} (h : ((worldsOf ls rs).any fun u => valS ls u b.2) = true) : ∃ p, some p ∈ tabS ls rs b := by
  obtain ⟨u, hu, hv⟩ := List.any_eq_true.mp h
  exact ⟨sumT ls u b.1, List.mem_map.mpr ⟨u, hu, by unfold payS; rw [if_pos hv]⟩⟩
theorem SzC_const (a n : Nat) : SzC (fun _ => a) (List.range n) = n * a + 1 + (n + 1) * (n + 1) + 1 + (n + 2) := by
  unfold SzC
  rw [List.length_range]
  have : ∀ l : List Nat, (l.map fun _ => a).sum = l.length * a := fun l => by
    induction l with
    | nil => simp
    | cons x l ih => rw [List.map_cons, List.sum_cons, ih, List.length_cons, Nat.succ_mul]; omega
  rw [this, List.length_range]
theorem LowQ.lin {T m n : Nat} {ls : List Nat} {rs : List (List Wd)} {bs : List Bid} {b : Bet} (h : LowQ T m ls rs bs) (hb : GBet ls n 3 b) (hz : m * T + 1000 ≤ 10000000) (hn : n ≤ 110 := by decide) : LowIn ls rs bs b (fun _ => T) 334 (m * T + 1000) := by
  have := h.few
  have := h.m14
  refine ⟨by omega, fun i c hc => (h.bid c (List.mem_of_getElem? hc)).tin, (tin_bet hb).mono (by omega), ?_, hz⟩
  rw [SzC_const]
  have h1 := Nat.mul_le_mul (show bs.length + 1 ≤ 15 by omega) (show bs.length + 1 ≤ 15 by omega)
  have h2 := Nat.mul_le_mul_right T h.few
  omega
theorem FB1.q {ls : List Nat} {rs : List (List Wd)} {Ls : List (List Rat)} {c : Bid} (h : FB1 ls rs Ls c) : LQ1 450 ls rs c := ⟨h.gd.mono (by decide) (by decide), (tin_two h.gb h.pr).mono (by decide), h.live⟩
theorem FBs.q {m : Nat} {ls : List Nat} {rs : List (List Wd)} {bs : List Bid} {Ls : List (List Rat)} (h : FBs ls rs bs Ls) (hm : bs.length ≤ m) (h14 : m ≤ 14) : LowQ 450 m ls rs bs :=
  ⟨fun c hc => (h.bid c hc).q, hm, h14, Ls, fun ws hw w hv => ((h.wg ws hw).sz w hv).2, fun c hc => (h.bid c hc).brn⟩
theorem LowQ.sub {T m : Nat} {ls : List Nat} {rs : List (List Wd)} {bs cs : List Bid} (h : LowQ T m ls rs bs) (l : cs.Sublist bs) : LowQ T m ls rs cs := by
  obtain ⟨Ls, h1, h2⟩ := h.brn
  exact ⟨fun c hc => h.bid c (l.subset hc), by have := h.few; have := l.length_le; omega, h.m14, Ls, h1, fun c hc => h2 c (l.subset hc)⟩
theorem LowQ.nil {T m : Nat} {ls : List Nat} {rs : List (List Wd)} (h : m ≤ 14) : LowQ T m ls rs [] := ⟨fun c h => (List.not_mem_nil h).elim, by simp, h, [], fun c h => (List.not_mem_nil h).elim, fun c h => (List.not_mem_nil h).elim⟩
section
variable {T m : Nat} {ls : List Nat} {rs : List (List Wd)} {bs cs : List Bid} {b : Bet}
theorem LowQ.ok (h : LowQ T m ls rs bs) (hv : ((worldsOf ls rs).any fun u => valS ls u b.2) = true) : LoOk ls rs bs b := by
  obtain ⟨p, hp⟩ := some_live hv
  exact lo_ok h.brn h.live hp
end
section
variable {T m : Nat} {ls : List Nat} {rs : List (List Wd)} {bs : List Bid} {b : Bet}
end
theorem GBet.up {ls : List Nat} {b : Bet} (h : GBet ls 100 3 b) : GBet ls 110 3 b := h.mono (by decide) (by decide)

structure Tick where
  no : Nat
  lg : Nat
  sh : Nat
  bet : Bet
  pr : Rat
  st : Rat
def shT (t : Tick) : Option Rat → Rat
  | none => 0
  | some r => t.st * (r + -t.pr)
def wAddT (h : Nat) (t : Tick) (a x : Rat) : Rat := if t.lg = h then a + x else if t.sh = h then a + -x else a
def worthW (ls : List Nat) (u : List Bool) (ts : List Tick) (h : Nat) (p : Rat) : Rat := ts.foldl (fun a t => wAddT h t a (shT t (payS ls u t.bet))) p
def bz (r : Rat) : Nat := max (Nat.log2 r.num.natAbs) (Nat.log2 r.den) + 1
theorem bz_sz (r : Rat) : Sz (bz r) r := by
  have h1 := Nat.lt_log2_self (n := r.num.natAbs)
  have h2 := Nat.lt_log2_self (n := r.den)
  exact ⟨Nat.lt_of_lt_of_le h1 (Nat.pow_le_pow_right (by decide) (by unfold bz; omega)), Nat.lt_of_lt_of_le h2 (Nat.pow_le_pow_right (by decide) (by unfold bz; omega))⟩
def bzs (ts : List Tick) : Nat := (ts.map fun t => bz t.st).sum
theorem bzs_cons (t : Tick) (ts : List Tick) : bzs (t :: ts) = bz t.st + bzs ts := by unfold bzs; rw [List.map_cons, List.sum_cons]
theorem bzs_mem : ∀ {ts : List Tick} {t : Tick}, t ∈ ts → bz t.st ≤ bzs ts
  | s :: ts, t, h => by
    rw [bzs_cons]
    rcases List.mem_cons.mp h with e | e
    · rw [e]; omega
    · have := bzs_mem e; omega
structure TkOk (ls : List Nat) (rs : List (List Wd)) (n m H : Nat) (t : Tick) : Prop where
  bet : GBet ls n m t.bet
  live : ((worldsOf ls rs).any fun u => valS ls u t.bet.2) = true
  pr : Sz n t.pr
  pos : 0 < t.st
  lg : t.lg < H
  sh : t.sh < H
  ne : t.lg ≠ t.sh
theorem sh_sz {t : Tick} {o : Option Rat} {a b c : Nat} (ho : Szo a o) (hp : Sz b t.pr) (hs : Sz c t.st) : Sz (c + (a + b + 1)) (shT t o) := by
  cases o with
  | none => exact sz0 (n := c + (a + b))
  | some r => exact sz_mul hs (sz_add ho (sz_neg hp))
theorem wAdd_sz {h : Nat} {t : Tick} {a x : Rat} {p q : Nat} (ha : Sz p a) (hx : Sz q x) : Sz (p + q + 1) (wAddT h t a x) := by
  unfold wAddT
  split
  · exact sz_add ha hx
  · split
    · exact sz_add ha (sz_neg hx)
    · exact ha.mono (by omega)
def shZ (n m : Nat) : Nat := (m + 1) * (n + 1) + n + 1
theorem GBet.psz {ls : List Nat} {n m : Nat} {b : Bet} (h : GBet ls n m b) (u : List Bool) : Szo ((m + 1) * (n + 1)) (payS ls u b) := by
  have := h.pay_szo u
  cases e : payS ls u b with
  | none => trivial
  | some r =>
    rw [e] at this
    have this : Sz (1 + m * (n + 1)) r := this
    refine this.mono ?_
    have e2 : (m + 1) * (n + 1) = m * (n + 1) + (n + 1) := Nat.succ_mul m _
    omega
theorem TkOk.shz {ls : List Nat} {rs : List (List Wd)} {n m H : Nat} {t : Tick} (h : TkOk ls rs n m H t) (u : List Bool) : Sz (bz t.st + shZ n m) (shT t (payS ls u t.bet)) := sh_sz (h.bet.psz u) h.pr (bz_sz t.st)
theorem worth_sz {ls : List Nat} {rs : List (List Wd)} {u : List Bool} {n m H h : Nat} : ∀ {ts : List Tick} {p : Rat} {q : Nat}, (∀ t ∈ ts, TkOk ls rs n m H t) → Sz q p → Sz (q + bzs ts + ts.length * (shZ n m + 1)) (worthW ls u ts h p)
  | [], p, q, _, hp => by
    show Sz (q + 0 + 0 * _) p
    rw [Nat.zero_mul]; exact hp
  | t :: ts, p, q, ht, hp => by
    have h1 := wAdd_sz (h := h) (t := t) hp ((ht t (.head _)).shz u)
    have h2 := worth_sz (u := u) (h := h) (fun x hx => ht x (.tail _ hx)) h1
    refine h2.mono ?_
    rw [List.length_cons, Nat.succ_mul, bzs_cons]; omega
structure SumQ (ls : List Nat) (rs : List (List Wd)) (n m q H : Nat) (ps : List Rat) (ts : List Tick) : Prop where
  hH : House ls rs
  pl : ps.length ≤ 6
  tl : ts.length ≤ 13
  sb : bzs ts ≤ 1000000
  ps : ∀ p ∈ ps, Sz q p
  ts : ∀ t ∈ ts, TkOk ls rs n m H t
  nm : (m + 1) * (n + 1) ≤ 100000
  q : q ≤ 1000000
section
variable {ls : List Nat} {rs : List (List Wd)} {n m q H : Nat} {ps : List Rat} {ts : List Tick}
theorem SumQ.nle (h : SumQ ls rs n m q H ps ts) : n ≤ 100000 := by
  have := h.nm
  have := Nat.mul_le_mul_right (n + 1) (show 1 ≤ m + 1 by omega)
  omega
theorem SumQ.zle (h : SumQ ls rs n m q H ps ts) : shZ n m ≤ 200001 := by
  have := h.nm
  have := h.nle
  unfold shZ; omega
theorem SumQ.wz (h : SumQ ls rs n m q H ps ts) {p : Rat} (hp : Sz q p) (u : List Bool) (k : Nat) : Sz 5000000 (worthW ls u ts k p) := by
  refine (worth_sz (u := u) (h := k) h.ts hp).mono ?_
  have h1 := h.q
  have h2 := Nat.mul_le_mul h.tl (show shZ n m + 1 ≤ 200002 by have := h.zle; omega)
  have h3 := h.sb
  omega
theorem SumQ.bz (h : SumQ ls rs n m q H ps ts) {t : Tick} (ht : t ∈ ts) : bz t.st ≤ 1000000 := Nat.le_trans (bzs_mem ht) h.sb
end
inductive Jst : Nat → PyData → Prop
  | int (n : Nat) (i : Int) : Jst n (.int i)
  | non (n : Nat) : Jst n .none
  | str (n : Nat) (s : Str) : (∀ c ∈ s.cps.toList, c < 1114112) → Jst n (.str s)
  | tup (n : Nat) (ds : List PyData) : ds.length ≤ 1000000 → (∀ d ∈ ds, Jst n d) → Jst (n + 1) (.tuple ds)
theorem Jst.mono {n : Nat} {d : PyData} (h : Jst n d) : ∀ {m : Nat}, n ≤ m → Jst m d := by
  induction h with
  | int n i => intro m _; exact .int m i
  | non n => intro m _; exact .non m
  | str n s h => intro m _; exact .str m s h
  | tup n ds hl hd ih =>
    intro m l
    obtain ⟨m, rfl⟩ : ∃ m', m = m' + 1 := ⟨m - 1, by omega⟩
    exact .tup m ds hl fun d hx => ih d hx (by omega)
theorem jst_T {n : Nat} {ds : List PyData} (hl : ds.length ≤ 1000000) (h : ∀ d ∈ ds, Jst n d) : Jst (n + 1) (.tuple ds) := .tup n ds hl h
theorem jst_2 {n : Nat} {a b : PyData} (h : Jst n a) (h' : Jst n b) : Jst (n + 1) (.tuple [a, b]) := jst_T (by show 2 ≤ _; omega) fun d hd => by
  simp only [List.mem_cons, List.not_mem_nil, or_false] at hd
  rcases hd with rfl | rfl
  · exact h
  · exact h'
end Mth
namespace Kk82
open PySem L2 B2 Mth
def ek_Fair : Str → Bool := (fun _ => false)
def ek_NoBet : Str → Bool := (fun _ => false)
def ek_NoCover : Str → Bool := (fun _ => false)
def ek_NoDeed : Str → Bool := (fun _ => false)
def ek_NoHolder : Str → Bool := (fun _ => false)
def ek_NoSaying : Str → Bool := (fun _ => false)
def ek_NoStake : Str → Bool := (fun _ => false)
def ek_NoStep : Str → Bool := (fun _ => false)
def ek_NotAlike : Str → Bool := (fun _ => false)
def ek_NoTicket : Str → Bool := (fun _ => false)
def ek_NoWorld : Str → Bool := (fun _ => false)
def ek_TooLong : Str → Bool := (fun _ => false)
def ek_TooMany : Str → Bool := (fun _ => false)
def ek_Unfair : Str → Bool := (fun _ => false)
def ek_ValueError : Str → Bool := (fun _ => true)
def ek_NoText : Str → Bool := (fun _ => true)

def top (i : Nat) : Stmt := PySem.Challenge.pw_betstall_k82_fractions_written.main.body.getD i (.Pass ⟨0, 0, 0, 0⟩)
variable {P : Program} {w : World} {K : PySem.W.Frag} {mg : MG} {base : Heap} {E : XK}
local macro_rules | `(tactic| walk_at "bk T") => `(tactic| ((conv => whnf); repeat (first | (refine And.intro (by (first | assumption | exact Nat.le_of_ble_eq_true rfl | exact rfl | exact ⟨rfl, rfl⟩ | exact Or.inl rfl | omega | decide | (simp only [List.length_map, List.length_append, List.length_cons, List.length_nil, List.length_singleton, List.length_take, List.length_drop, List.length_reverse, List.length_replicate, List.length_range, SX.S_len, span_len, List.length_set, List.length_dropLast]; omega) | (refine ⟨?_, ?_⟩ <;> first | assumption | omega | decide | (simp only [List.length_map, List.length_append, List.length_cons, List.length_nil, List.length_singleton, List.length_take, List.length_drop, List.length_reverse, List.length_replicate, List.length_range, SX.S_len, span_len, List.length_set, List.length_dropLast]; omega)) | ((first | ((simp only [tabL_len, rowL_len, intL_len, List.length_append, List.length_singleton, List.length_cons, List.length_nil, List.length_replicate, List.length_map, List.length_set, Int.toNat_natCast]; refine ⟨?_, ?_⟩ <;> omega)) | ((simp only [tabL_len, rowL_len, intL_len, List.length_append, List.length_singleton, List.length_cons, List.length_nil, List.length_replicate, List.length_map, List.length_set, Int.toNat_natCast]; omega)) | with_reducible apply tame_gains | with_reducible apply mild_fr | with_reducible apply mild_frs | with_reducible apply shy_bds | with_reducible apply tame_bds | with_reducible apply tame_bd | with_reducible apply shy_ho | with_reducible apply shy_be | with_reducible apply tame_tab | with_reducible apply tame_op | with_reducible apply tame_be | with_reducible apply tame_te | with_reducible apply tame_fr | with_reducible apply tame_terms | (exact says_snoc (Says.mono (by assumption) (by first | omega | decide)) (by assumption) (by omega)) | (exact Says.mono (by assumption) (by first | omega | decide)) | (exact House.big (by assumption)) | (exact says_app (Says.mono (by assumption) (by first | omega | decide)) (Says.mono (by assumption) (by first | omega | decide))) | with_reducible apply tame_sa2 | with_reducible apply tame_sas | with_reducible apply tame_ho2 | with_reducible apply tame_S | with_reducible apply tame_ch | with_reducible apply House.le6 | with_reducible apply House.ltrs | with_reducible apply tame_wo | with_reducible apply worlds_big | with_reducible apply tame_wd | with_reducible apply Ltrs.low | with_reducible apply Ltrs.ne | with_reducible apply tame_map0 | with_reducible apply tame_str | with_reducible apply tame_none | with_reducible apply tame_bool | with_reducible apply tame_int | with_reducible apply tame_app0 | with_reducible apply tame_cons0 | with_reducible apply tame_nil0 | with_reducible apply tame_L | with_reducible apply tame_T | with_reducible apply eqOk) <;> (repeat' (first | assumption | omega | (first | ((simp only [tabL_len, rowL_len, intL_len, List.length_append, List.length_singleton, List.length_cons, List.length_nil, List.length_replicate, List.length_map, List.length_set, Int.toNat_natCast]; refine ⟨?_, ?_⟩ <;> omega)) | ((simp only [tabL_len, rowL_len, intL_len, List.length_append, List.length_singleton, List.length_cons, List.length_nil, List.length_replicate, List.length_map, List.length_set, Int.toNat_natCast]; omega)) | with_reducible apply tame_gains | with_reducible apply mild_fr | with_reducible apply mild_frs | with_reducible apply shy_bds | with_reducible apply tame_bds | with_reducible apply tame_bd | with_reducible apply shy_ho | with_reducible apply shy_be | with_reducible apply tame_tab | with_reducible apply tame_op | with_reducible apply tame_be | with_reducible apply tame_te | with_reducible apply tame_fr | with_reducible apply tame_terms | (exact says_snoc (Says.mono (by assumption) (by first | omega | decide)) (by assumption) (by omega)) | (exact Says.mono (by assumption) (by first | omega | decide)) | (exact House.big (by assumption)) | (exact says_app (Says.mono (by assumption) (by first | omega | decide)) (Says.mono (by assumption) (by first | omega | decide))) | with_reducible apply tame_sa2 | with_reducible apply tame_sas | with_reducible apply tame_ho2 | with_reducible apply tame_S | with_reducible apply tame_ch | with_reducible apply House.le6 | with_reducible apply House.ltrs | with_reducible apply tame_wo | with_reducible apply worlds_big | with_reducible apply tame_wd | with_reducible apply Ltrs.low | with_reducible apply Ltrs.ne | with_reducible apply tame_map0 | with_reducible apply tame_str | with_reducible apply tame_none | with_reducible apply tame_bool | with_reducible apply tame_int | with_reducible apply tame_app0 | with_reducible apply tame_cons0 | with_reducible apply tame_nil0 | with_reducible apply tame_L | with_reducible apply tame_T | with_reducible apply eqOk) | exact rfl | intro _ _)) <;> fail) | fail)) ?_; (conv => whnf)) | (simp only [map_snoc, map_app]; refine And.intro (by (first | assumption | exact Nat.le_of_ble_eq_true rfl | exact rfl | exact ⟨rfl, rfl⟩ | exact Or.inl rfl | omega | decide | (simp only [List.length_map, List.length_append, List.length_cons, List.length_nil, List.length_singleton, List.length_take, List.length_drop, List.length_reverse, List.length_replicate, List.length_range, SX.S_len, span_len, List.length_set, List.length_dropLast]; omega) | (refine ⟨?_, ?_⟩ <;> first | assumption | omega | decide | (simp only [List.length_map, List.length_append, List.length_cons, List.length_nil, List.length_singleton, List.length_take, List.length_drop, List.length_reverse, List.length_replicate, List.length_range, SX.S_len, span_len, List.length_set, List.length_dropLast]; omega)) | ((first | ((simp only [tabL_len, rowL_len, intL_len, List.length_append, List.length_singleton, List.length_cons, List.length_nil, List.length_replicate, List.length_map, List.length_set, Int.toNat_natCast]; refine ⟨?_, ?_⟩ <;> omega)) | ((simp only [tabL_len, rowL_len, intL_len, List.length_append, List.length_singleton, List.length_cons, List.length_nil, List.length_replicate, List.length_map, List.length_set, Int.toNat_natCast]; omega)) | with_reducible apply tame_gains | with_reducible apply mild_fr | with_reducible apply mild_frs | with_reducible apply shy_bds | with_reducible apply tame_bds | with_reducible apply tame_bd | with_reducible apply shy_ho | with_reducible apply shy_be | with_reducible apply tame_tab | with_reducible apply tame_op | with_reducible apply tame_be | with_reducible apply tame_te | with_reducible apply tame_fr | with_reducible apply tame_terms | (exact says_snoc (Says.mono (by assumption) (by first | omega | decide)) (by assumption) (by omega)) | (exact Says.mono (by assumption) (by first | omega | decide)) | (exact House.big (by assumption)) | (exact says_app (Says.mono (by assumption) (by first | omega | decide)) (Says.mono (by assumption) (by first | omega | decide))) | with_reducible apply tame_sa2 | with_reducible apply tame_sas | with_reducible apply tame_ho2 | with_reducible apply tame_S | with_reducible apply tame_ch | with_reducible apply House.le6 | with_reducible apply House.ltrs | with_reducible apply tame_wo | with_reducible apply worlds_big | with_reducible apply tame_wd | with_reducible apply Ltrs.low | with_reducible apply Ltrs.ne | with_reducible apply tame_map0 | with_reducible apply tame_str | with_reducible apply tame_none | with_reducible apply tame_bool | with_reducible apply tame_int | with_reducible apply tame_app0 | with_reducible apply tame_cons0 | with_reducible apply tame_nil0 | with_reducible apply tame_L | with_reducible apply tame_T | with_reducible apply eqOk) <;> (repeat' (first | assumption | omega | (first | ((simp only [tabL_len, rowL_len, intL_len, List.length_append, List.length_singleton, List.length_cons, List.length_nil, List.length_replicate, List.length_map, List.length_set, Int.toNat_natCast]; refine ⟨?_, ?_⟩ <;> omega)) | ((simp only [tabL_len, rowL_len, intL_len, List.length_append, List.length_singleton, List.length_cons, List.length_nil, List.length_replicate, List.length_map, List.length_set, Int.toNat_natCast]; omega)) | with_reducible apply tame_gains | with_reducible apply mild_fr | with_reducible apply mild_frs | with_reducible apply shy_bds | with_reducible apply tame_bds | with_reducible apply tame_bd | with_reducible apply shy_ho | with_reducible apply shy_be | with_reducible apply tame_tab | with_reducible apply tame_op | with_reducible apply tame_be | with_reducible apply tame_te | with_reducible apply tame_fr | with_reducible apply tame_terms | (exact says_snoc (Says.mono (by assumption) (by first | omega | decide)) (by assumption) (by omega)) | (exact Says.mono (by assumption) (by first | omega | decide)) | (exact House.big (by assumption)) | (exact says_app (Says.mono (by assumption) (by first | omega | decide)) (Says.mono (by assumption) (by first | omega | decide))) | with_reducible apply tame_sa2 | with_reducible apply tame_sas | with_reducible apply tame_ho2 | with_reducible apply tame_S | with_reducible apply tame_ch | with_reducible apply House.le6 | with_reducible apply House.ltrs | with_reducible apply tame_wo | with_reducible apply worlds_big | with_reducible apply tame_wd | with_reducible apply Ltrs.low | with_reducible apply Ltrs.ne | with_reducible apply tame_map0 | with_reducible apply tame_str | with_reducible apply tame_none | with_reducible apply tame_bool | with_reducible apply tame_int | with_reducible apply tame_app0 | with_reducible apply tame_cons0 | with_reducible apply tame_nil0 | with_reducible apply tame_L | with_reducible apply tame_T | with_reducible apply eqOk) | exact rfl | intro _ _)) <;> fail) | fail)) ?_; (conv => whnf)) | (refine ⟨_, rfl, ?_⟩; (conv => whnf)))))
abbrev st_figures_of : Stmt := top 21
--USES reads
def s_figures_of_775ace51 : Spec2 := fun xs k _ => ∃ n : Nat, xs = [.d (.int n)] ∧ (TL.numL n).length ≤ 4300 ∧ k (.d (.str (numS n)))
theorem s_figures_of_775ace51_0 : ∀ xs k e, s_figures_of_775ace51 xs k e → s_figures_of_775ace51 xs k fun _ => False := fun _ _ _ h => h

def w_figures_of_775ace51_l1 : WS :=
  wSeq (wAsgT (gTup2 2 (gCons2 (gN 0) (gCons2 (gN 2) (gNil2)))) (wCB cbDivmodW (wCons (wVar 0) (wCons (wBin powD (wC (.int 10)) (wC (.int 60))) (wNil)))))
  (wDrop (wAppendS 1 (wM1 zfillD (wCB cbStr (wCons (wVar 2) (wNil))) (wC (.int 60)))))
def w_figures_of_775ace51_r1 : WS :=
  wSeq (wDrop (wAppendS 1 (wCB cbStr (wCons (wVar 0) (wNil)))))
  (wSeq (wDrop (wReverse 1))
  (wRet (wM1 joinD (wC (.str "")) (wVar 1))))
def w_figures_of_775ace51 : WS :=
  wSeq (wAsg 1 false (wLst (wNil)))
  (wSeq (wWhile 0 0 (wTest (wBin geD (wVar 0) (wBin powD (wC (.int 10)) (wC (.int 60))))) w_figures_of_775ace51_l1)
  (w_figures_of_775ace51_r1))

theorem p_figures_of_775ace51 : ∀ xs k e, s_figures_of_775ace51 xs k e → runB w_figures_of_775ace51 xs k fun _ => False := by
  rintro xs k e ⟨n, rfl, hn, hk⟩
  have h60 : (10 : Int) ^ (60 : Int).toNat = ((10 ^ 60 : Nat) : Int) := by decide +kernel
  have hd60 : CDivW 0 ((10 ^ 60 : Nat) : Int) := ⟨by decide +kernel, by decide +kernel⟩
  obtain ⟨T, hT⟩ : ∃ T : Nat, T = 10 ^ 60 := ⟨_, rfl⟩
  rw [← hT] at h60 hd60
  have hTp : 1 < T := by rw [hT]; decide +kernel
  obtain ⟨L1, eL1⟩ : ∃ R, R = w_figures_of_775ace51_l1 := ⟨_, rfl⟩
  obtain ⟨R1, eR1⟩ : ∃ R, R = w_figures_of_775ace51_r1 := ⟨_, rfl⟩
  unfold w_figures_of_775ace51
  rw [← eL1, ← eR1]
  (walk_at "bk T")
  refine ⟨n + 1, by omega, ?_⟩
  refine whileN_ind (I := fun N ρ => ∃ (m : Nat) (Ps : List (List Nat)), has ρ [(0, .d (.int m)), (1, .own ((Ps.map SX.S).map PyData.str))] ∧ m < N ∧ TL.numL n = TL.numL m ++ Ps.reverse.flatten ∧ ∀ p ∈ Ps, p.length = 60) ?_ ?_ _ _ ?_
  · rintro ρ ⟨m, Ps, _, h, _⟩
    omega
  · rintro N ρ ⟨m, Ps, hρ, hm, hf, hP⟩ ih
    have lP : 60 * Ps.length ≤ 4300 := by
      have := congrArg List.length hf
      rw [List.length_append, flat_len (K := 60) (fun p hp => hP p (List.mem_reverse.mp hp)), List.length_reverse] at this
      omega
    have lP2 : ((Ps.map SX.S).map PyData.str).length ≤ 100 := by rw [List.length_map, List.length_map]; omega
    rw [has_put hρ]
    by_cases hb : T ≤ m
    · (walk_at "bk T")
      first | refine iteY' ?_ ?_ | refine recY ?_ ?_
      · rw [h60, decide_eq_true_eq]; omega
      (walk_at "bk T")
      have hr : m % T < 10 ^ 60 := by rw [hT]; exact Nat.mod_lt _ (by decide +kernel)
      have hz := zfill_num hr
      have tn := toS_nat (m % T)
      have cd : CDivW ((m : Nat) : Int) ((T : Nat) : Int) := hd60
      have lr : ((m % T : Nat) : Int).natAbs.log2 < 1920 := log_lt (n := 200) (Nat.lt_of_lt_of_le hr (by decide +kernel)) (by decide)
      have ed : ((m : Nat) : Int) / ((T : Nat) : Int) = ((m / T : Nat) : Int) := by omega
      have em : ((m : Nat) : Int) % ((T : Nat) : Int) = ((m % T : Nat) : Int) := by omega
      rw [eL1] at ih ⊢
      unfold w_figures_of_775ace51_l1 at ih ⊢
      (walk_at "bk T")
      rw [h60, ed, em]
      refine ⟨lr, ?_⟩
      rw [tn]
      (walk_at "bk T")
      rw [hz]
      have e2 : ((Ps.map SX.S).map PyData.str) ++ [PyData.str (SX.S (padL 60 (m % T)))] = ((Ps ++ [padL 60 (m % T)]).map SX.S).map PyData.str := by simp
      rw [e2]
      have hlt : m / T < m := Nat.div_lt_self (by omega) hTp
      refine ih _ ⟨m / T, Ps ++ [padL 60 (m % T)], (by repeat (first | exact trivial | refine And.intro (by first | exact rfl | (simp only [erase_map, List.map_append, List.map_cons, List.map_nil, List.nil_append, List.append_nil]; rfl)) ?_)), by omega, ?_, fun p hp => ?_⟩
      · have hs := num_split 60 m (by rw [← hT]; exact hb)
        rw [← hT] at hs
        rw [hf, hs, List.reverse_append, List.reverse_singleton, List.singleton_append, List.flatten_cons, List.append_assoc]
      · rcases List.mem_append.mp hp with z | z
        · exact hP p z
        · rw [List.mem_singleton.mp z]; exact padL_len 60 _
    · (walk_at "bk T")
      first | refine iteN' ?_ ?_ | refine recN ?_ ?_
      · rw [h60, decide_eq_true_eq]; omega
      (walk_at "bk T")
      rw [eR1]
      unfold w_figures_of_775ace51_r1
      have hm60 : m < 10 ^ 60 := by rw [← hT]; omega
      have lr : ((m : Nat) : Int).natAbs.log2 < 1920 := log_lt (n := 200) (Nat.lt_of_lt_of_le hm60 (by decide +kernel)) (by decide)
      have tn := toS_nat m
      have e2 : (((Ps.map SX.S).map PyData.str) ++ [PyData.str (numS m)]).reverse = (((TL.numL m :: Ps.reverse)).map SX.S).map PyData.str := by
        unfold numS
        rw [List.reverse_append, List.reverse_singleton, List.singleton_append, List.map_cons, List.map_cons, List.map_reverse, List.map_reverse]
      have hj := join_parts (TL.numL m :: Ps.reverse)
      rw [List.flatten_cons, ← hf] at hj
      have hsum : (((TL.numL m :: Ps.reverse).map SX.S).map (·.length)).sum ≤ 5000 * ((TL.numL m :: Ps.reverse).map SX.S).length := sum_cap fun q hq => by
        obtain ⟨p, hp, rfl⟩ := List.mem_map.mp hq
        rw [SX.S_len]
        rcases List.mem_cons.mp hp with z | z
        · have := num_len (n := m) (k := 60) (by decide) hm60
          rw [z]; omega
        · rw [hP p (List.mem_reverse.mp z)]; omega
      have hcount : ((TL.numL m :: Ps.reverse).map SX.S).length ≤ 101 := by rw [List.length_map, List.length_cons, List.length_reverse]; omega
      have l0 : (Str.ofString "").length = 0 := rfl
      (walk_at "bk T")
      rw [tn, e2, allStrs_map]
      refine ⟨by rw [l0]; omega, ?_⟩
      rw [hj]
      (walk_at "bk T")
      exact hk
  · exact ⟨n, [], (by repeat (first | exact trivial | refine And.intro (by first | exact rfl | (simp only [erase_map, List.map_append, List.map_cons, List.map_nil, List.nil_append, List.append_nil]; rfl)) ?_)), by omega, by simp, fun p hp => (List.not_mem_nil hp).elim⟩

theorem sc_figures_of : FnScope ["number", "pieces", "rest"] ["number"] (defScope st_figures_of) := ⟨rfl, rfl, rfl, by decide +kernel, rfl, by decide +kernel, by decide +kernel⟩
theorem ok_figures_of (A : At K mg "figures_of" st_figures_of ["number"]) (sr : Sr P base) (z_divmod : mg "divmod" = none) (z_str : mg "str" = none) (c_PART : ∃ t, mg "PART" = some (.int 60 t)) : Def2 P w K mg base "figures_of" 1 ["number"] 0 1 s_figures_of_775ace51 := by
  obtain ⟨f, fd, F, hm, hb⟩ := A.ex
  refine ⟨f, fd, fn_ok (k := 0) (m := 0) (wb := w_figures_of_775ace51) sr F sc_figures_of rfl (fun cdv A outer sh H E hr hg => ?_) p_figures_of_775ace51, hm, F.kp, hb⟩
  exact JSs.cost (jss_cons (js_asg 1 false (je_lst (ja_nil)))
    (jss_cons (js_whileE 0 0 (jt_ge (je_var 0) (je_pow (je_int) (je_int))) (jss_cons (js_asgT (je_divmodW z_divmod (ja_cons (je_var 0) (ja_cons (je_pow (je_int) (je_int)) (ja_nil)))) (jg_tup (jgs_cons (jg_name 0) (jgs_cons (jg_name 2) (jgs_nil)))))
    (jss_one (js_expr (je_append 1 (je_zfill (je_strc z_str (ja_cons (je_var 2) (ja_nil))) (je_globI c_PART)))))))
    (jss_cons (js_expr (je_append 1 (je_strc z_str (ja_cons (je_var 0) (ja_nil)))))
    (jss_cons (js_expr (je_reverse 1))
    (jss_one (js_ret (je_join (je_str) (je_var 1)))))))) (by decide)
abbrev st_show_fraction : Stmt := top 22
--USES reads
def s_show_fraction_e130b370 : Spec2 := fun xs k _ => ∃ r : Rat, xs = [.d (frD r)] ∧ Sz 10000 r ∧ k (.d (.str (frS r)))
theorem s_show_fraction_e130b370_0 : ∀ xs k e, s_show_fraction_e130b370 xs k e → s_show_fraction_e130b370 xs k fun _ => False := fun _ _ _ h => h

def w_show_fraction_e130b370_r1 : WS :=
  wRet (wVar 3)
def w_show_fraction_e130b370_r2 : WS :=
  wSeq (wIf (wTest (wBin gtD (wVar 2) (wC (.int 1)))) (wAsg 3 true (wBin addD (wBin addD (wVar 3) (wC (.str "/"))) (wCall s_figures_of_775ace51 (wCons (wVar 2) (wNil))))) (wNext))
  (w_show_fraction_e130b370_r1)
def w_show_fraction_e130b370 : WS :=
  wSeq (wAsgT (gTup2 2 (gCons2 (gN 1) (gCons2 (gN 2) (gNil2)))) (wVar 0))
  (wSeq (wAsg 3 true (wCall s_figures_of_775ace51 (wCons (wCB cbAbs (wCons (wVar 1) (wNil))) (wNil))))
  (wSeq (wIf (wTest (wBin ltD (wVar 1) (wC (.int 0)))) (wAsg 3 true (wBin addD (wC (.str "-")) (wVar 3))) (wNext))
  (w_show_fraction_e130b370_r2)))

theorem p_show_fraction_e130b370 : ∀ xs k e, s_show_fraction_e130b370 xs k e → runB w_show_fraction_e130b370 xs k fun _ => False := by
  rintro xs k e ⟨r, rfl, hr, hk⟩
  have h1 : (if r.num < 0 then -r.num else r.num) = ((r.num.natAbs : Nat) : Int) := by split <;> omega
  have l1 := big_len hr.1
  have l2 := big_len hr.2
  have la : (numS r.num.natAbs).length ≤ 3100 := by unfold numS; rw [SX.S_len]; exact l1
  have lb : (numS r.den).length ≤ 3100 := by unfold numS; rw [SX.S_len]; exact l2
  have lm : (Str.ofString "-").length = 1 := rfl
  have lk : (Str.ofString "/").length = 1 := rfl
  have dp : 0 < r.den := r.den_pos
  have e45 : Str.ofString "-" = SX.S [45] := rfl
  have e47 : Str.ofString "/" = SX.S [47] := rfl
  have fin : ∀ t : List Nat, t = ntL r.num → t.length ≤ 3200 → ∀ ρ : B2.Env, has ρ [(2, .d (.int r.den)), (3, .d (.str (SX.S t)))] → w_show_fraction_e130b370_r2 { nx := fun _ => k (.d .none), rt := retP k } ρ := fun t ht hl ρ h => by
    have lt : (SX.S t).length ≤ 3200 := by rw [SX.S_len]; exact hl
    rw [has_put h]
    unfold w_show_fraction_e130b370_r2
    by_cases hd : 1 < r.den
    · have hf : figL r = t ++ 47 :: TL.numL r.den := by unfold figL; rw [if_neg (by omega), ht]
      (walk_at "bk T")
      first | refine iteY' ?_ ?_ | refine recY ?_ ?_
      · exact decide_eq_true (by omega)
      (walk_at "bk T")
      rw [e47, S_cat]
      have l3 : (SX.S (t ++ [47])).length ≤ 3201 := by rw [SX.S_len, List.length_append]; simp only [List.length_cons, List.length_nil]; omega
      refine ⟨by omega, ?_⟩
      (walk_at "bk T")
      have e3 : SX.S (t ++ [47]) ++ numS r.den = frS r := by
        unfold numS frS
        rw [S_cat, hf, List.append_assoc]; rfl
      rw [e3]
      exact hk
    · have hf : figL r = t := by unfold figL; rw [if_pos (by omega), List.append_nil, ht]
      (walk_at "bk T")
      first | refine iteN' ?_ ?_ | refine recN ?_ ?_
      · rw [decide_eq_true_eq]; omega
      (walk_at "bk T")
      rw [← hf]
      exact hk
  obtain ⟨R2, eR2⟩ : ∃ R, R = w_show_fraction_e130b370_r2 := ⟨_, rfl⟩
  rw [← eR2] at fin
  unfold w_show_fraction_e130b370
  rw [← eR2]
  (walk_at "bk T")
  rw [h1]
  refine ⟨_, rfl, by omega, ?_⟩
  by_cases hn : r.num < 0
  · have hf : ntL r.num = 45 :: TL.numL r.num.natAbs := by unfold ntL sgnL; rw [if_pos hn]; rfl
    have e2 : Str.ofString "-" ++ numS r.num.natAbs = SX.S (45 :: TL.numL r.num.natAbs) := by rw [e45]; unfold numS; rw [S_cat]; rfl
    (walk_at "bk T")
    first | refine iteY' ?_ ?_ | refine recY ?_ ?_
    · exact decide_eq_true hn
    (walk_at "bk T")
    rw [e2]
    refine fin _ hf.symm (by simp only [List.length_cons]; omega) _ (by repeat (first | exact trivial | refine And.intro (by first | exact rfl | (simp only [erase_map, List.map_append, List.map_cons, List.map_nil, List.nil_append, List.append_nil]; rfl)) ?_))
  · have hf : ntL r.num = TL.numL r.num.natAbs := by unfold ntL sgnL; rw [if_neg hn]; rfl
    (walk_at "bk T")
    first | refine iteN' ?_ ?_ | refine recN ?_ ?_
    · rw [decide_eq_true_eq]; exact hn
    (walk_at "bk T")
    exact fin _ hf.symm (by omega) _ (by repeat (first | exact trivial | refine And.intro (by first | exact rfl | (simp only [erase_map, List.map_append, List.map_cons, List.map_nil, List.nil_append, List.append_nil]; rfl)) ?_))

theorem sc_show_fraction : FnScope ["one", "top", "bottom", "found"] ["one"] (defScope st_show_fraction) := ⟨rfl, rfl, rfl, by decide +kernel, rfl, by decide +kernel, by decide +kernel⟩
theorem ok_show_fraction (A : At K mg "show_fraction" st_show_fraction ["one"]) (sr : Sr P base) (d_figures_of : Def2 P w K mg base "figures_of" 1 ["number"] 0 1 s_figures_of_775ace51) (z_abs : mg "abs" = none) : Def2 P w K mg base "show_fraction" 2 ["one"] 0 1 s_show_fraction_e130b370 := by
  obtain ⟨f, fd, F, hm, hb⟩ := A.ex
  refine ⟨f, fd, fn_ok (k := 1) (m := 0) (wb := w_show_fraction_e130b370) sr F sc_show_fraction rfl (fun cdv A outer sh H E hr hg => ?_) p_show_fraction_e130b370, hm, F.kp, hb⟩
  exact JSs.cost (jss_cons (js_asgT (je_var 0) (jg_tup (jgs_cons (jg_name 1) (jgs_cons (jg_name 2) (jgs_nil)))))
    (jss_cons (js_asg 3 true (je_callD d_figures_of s_figures_of_775ace51_0 (ja_cons (je_abs z_abs (ja_cons (je_var 1) (ja_nil))) (ja_nil))))
    (jss_cons (js_if (jt_lt (je_var 1) (je_int)) (jss_one (js_asg 3 true (je_add (je_str) (je_var 3)))) (jss_nil))
    (jss_cons (js_if (jt_gt (je_var 2) (je_int)) (jss_one (js_asg 3 true (je_add (je_add (je_var 3) (je_str)) (je_callD d_figures_of s_figures_of_775ace51_0 (ja_cons (je_var 2) (ja_nil)))))) (jss_nil))
    (jss_one (js_ret (je_var 3))))))) (by decide)
abbrev st_count_read : Stmt := top 23
--USES reads
def s_count_read_b47a9caa : Spec2 := fun xs k _ => ∃ (l : List Nat) (m : Nat), xs = [.d (.str (SX.S l)), .d (.int m)] ∧ l.length ≤ 16777216 ∧ m ≤ 640 ∧ k (.d (cnD l m))
theorem s_count_read_b47a9caa_0 : ∀ xs k e, s_count_read_b47a9caa xs k e → s_count_read_b47a9caa xs k fun _ => False := fun _ _ _ h => h

def w_count_read_b47a9caa_l1 : WS :=
  wIf (wTest (wBin (inD true) (wVar 2) (wC (.str "0123456789")))) (wRet (wC .none)) (wNext)
def w_count_read_b47a9caa_r1 : WS :=
  wRet (wCB cbInt (wCons (wVar 0) (wNil)))
def w_count_read_b47a9caa_r2 : WS :=
  wSeq (wFor (wSeqI (wVar 0)) (gN 2) w_count_read_b47a9caa_l1)
  (w_count_read_b47a9caa_r1)
def w_count_read_b47a9caa : WS :=
  wSeq (wIf (wOr (wTest (wBin ltD (wCB cbLen (wCons (wVar 0) (wNil))) (wC (.int 1)))) (wOr (wTest (wBin gtD (wCB cbLen (wCons (wVar 0) (wNil))) (wVar 1))) (wAnd (wTest (wBin gtD (wCB cbLen (wCons (wVar 0) (wNil))) (wC (.int 1)))) (wTest (wBin eqD (wBin ixD (wVar 0) (wC (.int 0))) (wC (.str "0"))))))) (wRet (wC .none)) (wNext))
  (w_count_read_b47a9caa_r2)

theorem p_count_read_b47a9caa : ∀ xs k e, s_count_read_b47a9caa xs k e → runB w_count_read_b47a9caa xs k fun _ => False := by
  rintro xs k e ⟨l, m, rfl, hl, hm, hk⟩
  have ls : (SX.S l).length = l.length := SX.S_len l
  have sc : (SX.S l).cps.toList = l := by simp [SX.S]
  have no : (decide (1 ≤ l.length ∧ l.length ≤ m) && !zeroB l) = false → k (.d .none) := fun h => by
    rw [cnt_no (by unfold cnB; rw [h, Bool.false_and])] at hk; exact hk
  obtain ⟨R2, eR2⟩ : ∃ R, R = w_count_read_b47a9caa_r2 := ⟨_, rfl⟩
  have fin : (decide (1 ≤ l.length ∧ l.length ≤ m) && !zeroB l) = true → ∀ ρ : B2.Env, has ρ [(0, .d (.str (SX.S l))), (1, .d (.int m))] → w_count_read_b47a9caa_r2 { nx := fun _ => k (.d .none), rt := retP k } ρ := fun hy ρ h => by
    rw [has_put h]
    unfold w_count_read_b47a9caa_r2
    have hk2 : k (.d (if l.all digC = true then .int ((NumText.digitsVal l : Nat) : Int) else .none)) := by
      unfold cnD cnB at hk
      rw [hy, Bool.true_and] at hk; exact hk
    have h1 : 1 ≤ l.length ∧ l.length ≤ m := by
      rw [Bool.and_eq_true, decide_eq_true_eq] at hy; exact hy.1
    obtain ⟨R1, eR1⟩ : ∃ R, R = w_count_read_b47a9caa_r1 := ⟨_, rfl⟩
    rw [← eR1]
    (walk_at "bk T")
    have e1 : signs (SX.S l) = l.map fun c => PyData.str ⟨#[c]⟩ := by
      show (SX.S l).cps.toList.map _ = _
      rw [sc]
    rw [e1]
    refine forL_do (enc := fun c => PyData.str ⟨#[c]⟩) (E := fun _ : Unit => [(0, .d (.str (SX.S l))), (1, .d (.int m))]) (I := fun cs _ => l.all digC = cs.all digC) l () rfl (by repeat (first | exact trivial | refine And.intro (by first | exact rfl | (simp only [erase_map, List.map_append, List.map_cons, List.map_nil, List.nil_append, List.append_nil]; rfl)) ?_)) rfl ?_ ?_
    · rintro c cs _ ρ D hI ih _ _ hrt _
      unfold w_count_read_b47a9caa_l1
      have hin := dig_in c
      rw [List.all_cons] at hI
      cases hc : digC c with
      | false =>
        rw [hc, Bool.false_and] at hI
        rw [hI] at hk2
        (walk_at "bk T")
        first | refine iteY' ?_ ?_ | refine recY ?_ ?_
        · show (Builtin.Str.occurrences (Str.ofString "0123456789") (⟨#[c]⟩ : Str) 0 (Str.ofString "0123456789").length 1).isEmpty = true
          rw [hin, hc]; rfl
        (walk_at "bk T")
        rw [if_neg (by decide)] at hk2
        have h9 : D.rt (.d .none) := by rw [hrt]; exact hk2
        exact h9
      | true =>
        rw [hc, Bool.true_and] at hI
        (walk_at "bk T")
        first | refine iteN' ?_ ?_ | refine recN ?_ ?_
        · show ¬ (Builtin.Str.occurrences (Str.ofString "0123456789") (⟨#[c]⟩ : Str) 0 (Str.ofString "0123456789").length 1).isEmpty = true
          rw [hin, hc]; decide
        (walk_at "bk T")
        exact ih () _ hI (by repeat (first | exact trivial | refine And.intro (by first | exact rfl | (simp only [erase_map, List.map_append, List.map_cons, List.map_nil, List.nil_append, List.append_nil]; rfl)) ?_))
    · rintro _ ρ hI
      rw [List.all_nil] at hI
      rw [hI, if_pos rfl] at hk2
      rw [eR1]
      unfold w_count_read_b47a9caa_r1
      have hi : PySem.intText? (SX.S l) = some ((NumText.digitsVal l : Nat) : Int) := SX.int_S hI (fun z => by rw [z] at h1; simp at h1) (by omega)
      (walk_at "bk T")
      rw [hi]
      exact hk2
  rw [← eR2] at fin
  unfold w_count_read_b47a9caa
  rw [← eR2]
  by_cases h0 : (l.length : Int) < 1
  · (walk_at "bk T")
    first | refine iteY' ?_ ?_ | refine recY ?_ ?_
    · rw [decide_eq_true_eq]; omega
    (walk_at "bk T")
    exact no (by rw [decide_eq_false (by omega), Bool.false_and])
  (walk_at "bk T")
  first | refine iteN' ?_ ?_ | refine recN ?_ ?_
  · rw [decide_eq_true_eq]; omega
  (walk_at "bk T")
  by_cases hb : (m : Int) < l.length
  · (walk_at "bk T")
    first | refine iteY' ?_ ?_ | refine recY ?_ ?_
    · rw [decide_eq_true_eq]; omega
    (walk_at "bk T")
    exact no (by rw [decide_eq_false (by omega), Bool.false_and])
  (walk_at "bk T")
  first | refine iteN' ?_ ?_ | refine recN ?_ ?_
  · rw [decide_eq_true_eq]; omega
  (walk_at "bk T")
  by_cases h1 : 1 < l.length
  · obtain ⟨c, r, ec⟩ : ∃ c r, l = c :: r := by
      cases l with
      | nil => simp at h1
      | cons c r => exact ⟨c, r, rfl⟩
    have e0 : atI (SX.S l).cps.toList 0 = some c := by rw [sc, ec]; exact at_0 c r
    have hz : zeroB l = (c == 48) := by
      unfold zeroB
      rw [decide_eq_true h1, Bool.true_and, ec]
      show (some c == some 48) = _
      rfl
    (walk_at "bk T")
    first | refine iteY' ?_ ?_ | refine recY ?_ ?_
    · rw [decide_eq_true_eq]; omega
    (walk_at "bk T")
    rw [e0]
    (walk_at "bk T")
    by_cases h48 : c = 48
    · first | refine iteY' ?_ ?_ | refine recY ?_ ?_
      · rw [eqv_str, h48]; rfl
      (walk_at "bk T")
      exact no (by rw [hz, h48]; simp)
    · first | refine iteN' ?_ ?_ | refine recN ?_ ?_
      · rw [eqv_str, beq_iff_eq]
        intro z
        have := congrArg (fun s : Str => s.cps.toList) z
        have : [c] = [48] := this
        exact h48 (by simpa using this)
      (walk_at "bk T")
      exact fin (by rw [hz, decide_eq_true (by omega), Bool.true_and, beq_eq_false_iff_ne.mpr h48]; rfl) _ (by repeat (first | exact trivial | refine And.intro (by first | exact rfl | (simp only [erase_map, List.map_append, List.map_cons, List.map_nil, List.nil_append, List.append_nil]; rfl)) ?_))
  · (walk_at "bk T")
    first | refine iteN' ?_ ?_ | refine recN ?_ ?_
    · rw [decide_eq_true_eq]; omega
    (walk_at "bk T")
    have hz : zeroB l = false := by unfold zeroB; rw [decide_eq_false h1, Bool.false_and]
    exact fin (by rw [hz, decide_eq_true (by omega)]; rfl) _ (by repeat (first | exact trivial | refine And.intro (by first | exact rfl | (simp only [erase_map, List.map_append, List.map_cons, List.map_nil, List.nil_append, List.append_nil]; rfl)) ?_))

theorem sc_count_read : FnScope ["word", "most", "sign"] ["word", "most"] (defScope st_count_read) := ⟨rfl, rfl, rfl, by decide +kernel, rfl, by decide +kernel, by decide +kernel⟩
theorem ok_count_read (A : At K mg "count_read" st_count_read ["word", "most"]) (sr : Sr P base) (z_len : mg "len" = none) (z_int : mg "int" = none) (c_FIGURES : ∃ t, mg "FIGURES" = some (.str "0123456789" t)) : Def2 P w K mg base "count_read" 1 ["word", "most"] 0 2 s_count_read_b47a9caa := by
  obtain ⟨f, fd, F, hm, hb⟩ := A.ex
  refine ⟨f, fd, fn_ok (k := 0) (m := 0) (wb := w_count_read_b47a9caa) sr F sc_count_read rfl (fun cdv A outer sh H E hr hg => ?_) p_count_read_b47a9caa, hm, F.kp, hb⟩
  exact JSs.cost (jss_cons (js_if (JW.t (jw_or (jt_lt (je_len z_len (ja_cons (je_var 0) (ja_nil))) (je_int)) (jw_or (jt_gt (je_len z_len (ja_cons (je_var 0) (ja_nil))) (je_var 1)) (jw_or1 (JW.t (jw_and (jt_gt (je_len z_len (ja_cons (je_var 0) (ja_nil))) (je_int)) (jw_and1 (jt_eq (je_ix (je_var 0) (je_int)) (je_str))))))))) (jss_one (js_ret (je_non))) (jss_nil))
    (jss_cons (js_for (ji_seq (je_var 0)) (jg_name 2) (jss_one (js_if (jt_notIn (je_var 2) (je_globS c_FIGURES)) (jss_one (js_ret (je_non))) (jss_nil))))
    (jss_one (js_ret (je_intc z_int (ja_cons (je_var 0) (ja_nil))))))) (by decide)
abbrev st_is_shared : Stmt := top 24
--USES texts
def s_is_shared_87f6b559 : Spec2 := fun xs k _ => ∃ a b : Nat, xs = [.d (.int a), .d (.int b)] ∧ k (.d (.bool (decide (1 < Nat.gcd a b))))
theorem s_is_shared_87f6b559_0 : ∀ xs k e, s_is_shared_87f6b559 xs k e → s_is_shared_87f6b559 xs k fun _ => False := fun _ _ _ h => h

def w_is_shared_87f6b559_l1 : WS :=
  wPar 0 1 (wCons (wVar 1) (wCons (wBin modD (wVar 0) (wVar 1)) (wNil)))
def w_is_shared_87f6b559_r1 : WS :=
  wRet (wBin gtD (wVar 0) (wC (.int 1)))
def w_is_shared_87f6b559 : WS :=
  wSeq (wWhile 0 0 (wTest (wBin gtD (wVar 1) (wC (.int 0)))) w_is_shared_87f6b559_l1)
  (w_is_shared_87f6b559_r1)

theorem p_is_shared_87f6b559 : ∀ xs k e, s_is_shared_87f6b559 xs k e → runB w_is_shared_87f6b559 xs k fun _ => False := by
  rintro xs k e ⟨a, b, rfl, hk⟩
  (conv => whnf)
  refine ⟨b + 1, by omega, ?_⟩
  refine whileN_ind (I := fun n ρ => ∃ x y : Nat, ρ = ev [some (.d (.int x)), some (.d (.int y))] ∧ y < n ∧ Nat.gcd x y = Nat.gcd a b) ?_ ?_ _ _ ?_
  · rintro ρ ⟨x, y, _, h, _⟩
    omega
  · rintro n ρ ⟨x, y, rfl, h, hg⟩ ih
    (conv => whnf)
    refine iteI (fun c => ?_) (fun c => ?_)
    · have c1 := of_decide_eq_true c
      have hy : 0 < y := by omega
      (conv => whnf)
      refine ⟨c1, ?_⟩
      (conv => whnf)
      refine ih _ ⟨y, x % y, ?_, ?_, ?_⟩
      · rw [Int.natCast_emod]
        exact (by funext i; rcases i with _ | _ | _ | _ | _ | _ | _ | _ | _ | _ | _ | _ | _ | _ | i <;> rfl)
      · have := Nat.mod_lt x hy
        omega
      · rw [← hg, Nat.gcd_comm x y, Nat.gcd_rec y x, Nat.gcd_comm]
    · have c1 := of_decide_eq_false (Bool.eq_false_iff.mpr c)
      have hy : y = 0 := by omega
      subst hy
      (conv => whnf)
      rw [← hg, Nat.gcd_zero_right] at hk
      have e1 : decide ((1 : Int) < (x : Int)) = decide (1 < x) := decide_eq_decide.mpr (by omega)
      have e2 := congrArg (fun b => k (.d (.bool b))) e1
      exact e2.mpr hk
  · exact ⟨a, b, (by funext i; rcases i with _ | _ | _ | _ | _ | _ | _ | _ | _ | _ | _ | _ | _ | _ | i <;> rfl), by omega, rfl⟩

theorem sc_is_shared : FnScope ["one", "other"] ["one", "other"] (defScope st_is_shared) := ⟨rfl, rfl, rfl, by decide +kernel, rfl, by decide +kernel, by decide +kernel⟩
theorem ok_is_shared (A : At K mg "is_shared" st_is_shared ["one", "other"]) (sr : Sr P base) : Def2 P w K mg base "is_shared" 1 ["one", "other"] 0 2 s_is_shared_87f6b559 := by
  obtain ⟨f, fd, F, hm, hb⟩ := A.ex
  refine ⟨f, fd, fn_ok (k := 0) (m := 0) (wb := w_is_shared_87f6b559) sr F sc_is_shared rfl (fun cdv A outer sh H E hr hg => ?_) p_is_shared_87f6b559, hm, F.kp, hb⟩
  exact JSs.cost (jss_cons (js_whileE 0 0 (jt_gt (je_var 1) (je_int)) (jss_one (js_par 0 1 (ja_cons (je_var 1) (ja_cons (je_mod (je_var 0) (je_var 1)) (ja_nil))))))
    (jss_one (js_ret (je_gt (je_var 0) (je_int))))) (by decide)
abbrev st_fraction_read : Stmt := top 25
--USES reads
def s_fraction_read_ccc4afb4 : Spec2 := fun xs k _ => ∃ l : List Nat, xs = [.d (.str (SX.S l))] ∧ l.length ≤ 100000 ∧ k (.d (frcD l))
theorem s_fraction_read_ccc4afb4_0 : ∀ xs k e, s_fraction_read_ccc4afb4 xs k e → s_fraction_read_ccc4afb4 xs k fun _ => False := fun _ _ _ h => h

def w_fraction_read_ccc4afb4_r1 : WS :=
  wRet (wTup (wCons (wBin mulX (wVar 1) (wBin ixD (wVar 3) (wC (.int 0)))) (wCons (wBin ixD (wVar 3) (wC (.int 1))) (wNil))))
def w_fraction_read_ccc4afb4_r2 : WS :=
  wSeq (wIf (wOr (wTest (wBin ltD (wBin ixD (wVar 3) (wC (.int 1))) (wC (.int 2)))) (wTest (wCall s_is_shared_87f6b559 (wCons (wBin ixD (wVar 3) (wC (.int 0))) (wCons (wBin ixD (wVar 3) (wC (.int 1))) (wNil)))))) (wRet (wC .none)) (wNext))
  (w_fraction_read_ccc4afb4_r1)
def w_fraction_read_ccc4afb4_r3 : WS :=
  wSeq (wIf (wTest (wBin eqD (wCB cbLen (wCons (wVar 3) (wNil))) (wC (.int 1)))) (wRet (wTup (wCons (wBin mulX (wVar 1) (wBin ixD (wVar 3) (wC (.int 0)))) (wCons (wC (.int 1)) (wNil))))) (wNext))
  (w_fraction_read_ccc4afb4_r2)
def w_fraction_read_ccc4afb4_r4 : WS :=
  wSeq (wAsg 2 true (wM1 splitD (wVar 0) (wC (.str "/"))))
  (wSeq (wAsg 3 true (wLc [4] (wSeqI (wVar 2)) (gN 4) (wYes) (wCall s_count_read_b47a9caa (wCons (wVar 4) (wCons (wC (.int 300)) (wNil))))))
  (wSeq (wIf (wOr (wTest (wBin gtD (wCB cbLen (wCons (wVar 2) (wNil))) (wC (.int 2)))) (wOr (wTest (wBin (inD false) (wC .none) (wVar 3))) (wAnd (wTest (wBin ltD (wVar 1) (wC (.int 0)))) (wTest (wBin eqD (wBin ixD (wVar 3) (wC (.int 0))) (wC (.int 0))))))) (wRet (wC .none)) (wNext))
  (w_fraction_read_ccc4afb4_r3)))
def w_fraction_read_ccc4afb4 : WS :=
  wSeq (wAsg 1 true (wC (.int 1)))
  (wSeq (wIf (wTest (wM1 startD (wVar 0) (wC (.str "-")))) (wSeq (wAsg 1 true (wNeg (wC (.int 1))))
  (wAsg 0 true (wSl (wVar 0) (some (wC (.int 1))) (none)))) (wNext))
  (w_fraction_read_ccc4afb4_r4))

theorem p_fraction_read_ccc4afb4 : ∀ xs k e, s_fraction_read_ccc4afb4 xs k e → runB w_fraction_read_ccc4afb4 xs k fun _ => False := by
  rintro xs k e ⟨l, rfl, hl, hk⟩
  have fin : ∀ sg : Int, sg = sgZ l → ∀ ρ : B2.Env, has ρ [(0, .d (.str (SX.S (bodO l)))), (1, .d (.int sg))] → w_fraction_read_ccc4afb4_r4 { nx := fun _ => k (.d .none), rt := retP k } ρ := fun sg hsg ρ h => by
    rw [has_put h]
    have hw : (bodO l).length ≤ 100000 := by
      unfold bodO
      split
      · rw [List.length_drop]; omega
      · exact hl
    have e1 := split_cut (bodO l)
    obtain ⟨c1, c2⟩ := cut47_len (bodO l)
    have lS : (SX.S (bodO l)).length ≤ 100000 := by rw [SX.S_len]; exact hw
    have mOk : ∀ j : Int, MulOk sg j := fun j => by
      rw [hsg]; unfold sgZ
      split <;> exact mul_smallL (by decide)
    obtain ⟨R3, eR3⟩ : ∃ R, R = w_fraction_read_ccc4afb4_r3 := ⟨_, rfl⟩
    unfold w_fraction_read_ccc4afb4_r4
    rw [← eR3]
    (walk_at "bk T")
    rw [e1]
    (walk_at "bk T")
    refine lcL_map (enc := fun p : List Nat => PyData.str (SX.S p)) (g := fun p : List Nat => cnD p 300) (cut47 (bodO l)) (by rw [List.map_map]; rfl) (fun x hx R h => ?_) ?_
    · (walk_at "bk T")
      refine ⟨x, 300, rfl, by have := c2 x hx; omega, by decide, ?_⟩
      (walk_at "bk T")
      exact h
    unfold frcD at hk
    have hne := cut47_ne (bodO l)
    generalize cut47 (bodO l) = P at hk hne ⊢
    cases P with
    | nil => exact (hne rfl).elim
    | cons a P =>
    cases P with
    | nil =>
      have hk : k (.d (if oneOk l a = true then .tuple [.int (sgZ l * ((dvN a : Nat) : Int)), .int 1] else .none)) := hk
      rw [← hsg] at hk
      cases ha : cnB a 300 with
      | false =>
        have e2 : ([a].map fun p : List Nat => cnD p 300) = [PyData.none] := by rw [List.map_cons, cnt_no ha]; rfl
        rw [e2]
        have hk2 : k (.d .none) := by
          rw [if_neg (by unfold oneOk; rw [ha, Bool.false_and]; decide)] at hk; exact hk
        (walk_at "bk T")
        exact hk2
      | true =>
        have e2 : ([a].map fun p : List Nat => cnD p 300) = [PyData.int ((dvN a : Nat) : Int)] := by rw [List.map_cons, cn_yes ha]; rfl
        rw [e2]
        have f3 : oneOk l a = true → ∀ ρ : B2.Env, has ρ [(1, .d (.int sg)), (3, .d (.list [PyData.int ((dvN a : Nat) : Int)]))] → w_fraction_read_ccc4afb4_r3 { nx := fun _ => k (.d .none), rt := retP k } ρ := fun ho ρ h => by
          rw [if_pos ho] at hk
          have mo := mOk ((dvN a : Nat) : Int)
          rw [has_put h]
          unfold w_fraction_read_ccc4afb4_r3
          (walk_at "bk T")
          exact hk
        rw [← eR3] at f3
        cases hn : ngB l with
        | false =>
          have hs : sg = 1 := by rw [hsg]; unfold sgZ; rw [if_neg (by rw [hn]; decide)]
          subst hs
          (walk_at "bk T")
          exact f3 (by unfold oneOk; rw [ha, hn]; rfl) _ (by repeat (first | exact trivial | refine And.intro (by first | exact rfl | (simp only [erase_map, List.map_append, List.map_cons, List.map_nil, List.nil_append, List.append_nil]; rfl)) ?_))
        | true =>
          have hs : sg = -1 := by rw [hsg]; unfold sgZ; rw [if_pos hn]
          subst hs
          by_cases hz : dvN a = 0
          · have hk2 : k (.d .none) := by
              rw [if_neg (by unfold oneOk; rw [ha, hn, hz]; decide)] at hk; exact hk
            (walk_at "bk T")
            first | refine iteY' ?_ ?_ | refine recY ?_ ?_
            · show PyData.eqv (.int ((dvN a : Nat) : Int)) (.int 0) = true
              rw [eqv_int, hz]; rfl
            (walk_at "bk T")
            exact hk2
          · (walk_at "bk T")
            first | refine iteN' ?_ ?_ | refine recN ?_ ?_
            · show ¬ PyData.eqv (.int ((dvN a : Nat) : Int)) (.int 0) = true
              rw [eqv_int, beq_iff_eq]; omega
            (walk_at "bk T")
            exact f3 (by unfold oneOk; rw [ha, hn, beq_eq_false_iff_ne.mpr hz]; rfl) _ (by repeat (first | exact trivial | refine And.intro (by first | exact rfl | (simp only [erase_map, List.map_append, List.map_cons, List.map_nil, List.nil_append, List.append_nil]; rfl)) ?_))
    | cons b P =>
    cases P with
    | nil =>
      have hk : k (.d (if (oneOk l a && twoOk a b) = true then .tuple [.int (sgZ l * ((dvN a : Nat) : Int)), .int ((dvN b : Nat) : Int)] else .none)) := hk
      rw [← hsg] at hk
      by_cases hab : cnB a 300 = true ∧ cnB b 300 = true
      · obtain ⟨ha, hb⟩ := hab
        have e2 : ([a, b].map fun p : List Nat => cnD p 300) = [PyData.int ((dvN a : Nat) : Int), PyData.int ((dvN b : Nat) : Int)] := by rw [List.map_cons, List.map_cons, cn_yes ha, cn_yes hb]; rfl
        rw [e2]
        have f3 : oneOk l a = true → ∀ ρ : B2.Env, has ρ [(1, .d (.int sg)), (3, .d (.list [PyData.int ((dvN a : Nat) : Int), PyData.int ((dvN b : Nat) : Int)]))] → w_fraction_read_ccc4afb4_r3 { nx := fun _ => k (.d .none), rt := retP k } ρ := fun ho ρ h => by
          rw [ho, Bool.true_and] at hk
          have mo := mOk ((dvN a : Nat) : Int)
          rw [has_put h]
          unfold w_fraction_read_ccc4afb4_r3
          obtain ⟨R2, eR2⟩ : ∃ R, R = w_fraction_read_ccc4afb4_r2 := ⟨_, rfl⟩
          rw [← eR2]
          (walk_at "bk T")
          rw [eR2]
          unfold w_fraction_read_ccc4afb4_r2
          obtain ⟨R1, eR1⟩ : ∃ R, R = w_fraction_read_ccc4afb4_r1 := ⟨_, rfl⟩
          rw [← eR1]
          by_cases h2 : ((dvN b : Nat) : Int) < 2
          · (walk_at "bk T")
            first | refine iteY' ?_ ?_ | refine recY ?_ ?_
            · exact decide_eq_true h2
            (walk_at "bk T")
            rw [if_neg (by unfold twoOk; rw [decide_eq_false (by omega : ¬ 2 ≤ dvN b)]; simp)] at hk
            exact hk
          · (walk_at "bk T")
            first | refine iteN' ?_ ?_ | refine recN ?_ ?_
            · rw [decide_eq_true_eq]; exact h2
            (walk_at "bk T")
            refine ⟨_, _, rfl, ?_⟩
            cases hg : decide (1 < Nat.gcd (dvN a) (dvN b)) with
            | true =>
              (walk_at "bk T")
              rw [if_neg (by unfold twoOk; rw [hg]; simp)] at hk
              exact hk
            | false =>
              rw [if_pos (by unfold twoOk; rw [hg, hb, decide_eq_true (by omega : 2 ≤ dvN b)]; rfl)] at hk
              (walk_at "bk T")
              rw [eR1]
              unfold w_fraction_read_ccc4afb4_r1
              (walk_at "bk T")
              exact hk
        rw [← eR3] at f3
        cases hn : ngB l with
        | false =>
          have hs : sg = 1 := by rw [hsg]; unfold sgZ; rw [if_neg (by rw [hn]; decide)]
          subst hs
          (walk_at "bk T")
          exact f3 (by unfold oneOk; rw [ha, hn]; rfl) _ (by repeat (first | exact trivial | refine And.intro (by first | exact rfl | (simp only [erase_map, List.map_append, List.map_cons, List.map_nil, List.nil_append, List.append_nil]; rfl)) ?_))
        | true =>
          have hs : sg = -1 := by rw [hsg]; unfold sgZ; rw [if_pos hn]
          subst hs
          by_cases hz : dvN a = 0
          · have hk2 : k (.d .none) := by
              rw [if_neg (by unfold oneOk; rw [ha, hn, hz]; simp)] at hk; exact hk
            (walk_at "bk T")
            first | refine iteY' ?_ ?_ | refine recY ?_ ?_
            · show PyData.eqv (.int ((dvN a : Nat) : Int)) (.int 0) = true
              rw [eqv_int, hz]; rfl
            (walk_at "bk T")
            exact hk2
          · (walk_at "bk T")
            first | refine iteN' ?_ ?_ | refine recN ?_ ?_
            · show ¬ PyData.eqv (.int ((dvN a : Nat) : Int)) (.int 0) = true
              rw [eqv_int, beq_iff_eq]; omega
            (walk_at "bk T")
            exact f3 (by unfold oneOk; rw [ha, hn, beq_eq_false_iff_ne.mpr hz]; rfl) _ (by repeat (first | exact trivial | refine And.intro (by first | exact rfl | (simp only [erase_map, List.map_append, List.map_cons, List.map_nil, List.nil_append, List.append_nil]; rfl)) ?_))
      · have hk2 : k (.d .none) := by
          rw [if_neg (by
            unfold oneOk twoOk
            intro z
            simp only [Bool.and_eq_true] at z
            exact hab ⟨z.1.1, z.2.1⟩)] at hk
          exact hk
        have e3 : (([a, b].map fun p : List Nat => cnD p 300).all flatD) = true := by
          unfold cnD
          simp only [List.map_cons, List.map_nil, List.all_cons, List.all_nil]
          split <;> split <;> rfl
        have e4 : (([a, b].map fun p : List Nat => cnD p 300).any fun y => PyData.eqv y .none) = true := by
          by_cases ha : cnB a 300 = true
          · have hb : cnB b 300 = false := Bool.eq_false_iff.mpr fun z => hab ⟨ha, z⟩
            rw [List.map_cons, List.map_cons, cnt_no hb]
            simp [PyData.eqv]
          · rw [List.map_cons, cnt_no (Bool.eq_false_iff.mpr ha)]
            simp [PyData.eqv]
        (walk_at "bk T")
        first | refine iteY' ?_ ?_ | refine recY ?_ ?_
        · exact e4
        (walk_at "bk T")
        exact hk2
    | cons d P =>
      have hk : k (.d .none) := hk
      (walk_at "bk T")
      first | refine iteY' ?_ ?_ | refine recY ?_ ?_
      · rw [decide_eq_true_eq]; simp only [List.length_map, List.length_cons]; omega
      (walk_at "bk T")
      exact hk
  obtain ⟨R4, eR4⟩ : ∃ R, R = w_fraction_read_ccc4afb4_r4 := ⟨_, rfl⟩
  rw [← eR4] at fin
  unfold w_fraction_read_ccc4afb4
  rw [← eR4]
  have hs := starts_any l
  cases hn : ngB l with
  | true =>
    have hcut : cutS (SX.S l) (some 1) none = SX.S (bodO l) := by
      unfold bodO
      rw [if_pos hn, show (some (1 : Int)) = some ((1 : Nat) : Int) from rfl, cutS_S, cutL_from]
    (walk_at "bk T")
    first | refine iteY' ?_ ?_ | refine recY ?_ ?_
    · rw [hs, hn]
    (walk_at "bk T")
    rw [hcut]
    exact fin (-1) (by unfold sgZ; rw [if_pos hn]) _ (by repeat (first | exact trivial | refine And.intro (by first | exact rfl | (simp only [erase_map, List.map_append, List.map_cons, List.map_nil, List.nil_append, List.append_nil]; rfl)) ?_))
  | false =>
    have hb : bodO l = l := by unfold bodO; rw [if_neg (by rw [hn]; decide)]
    rw [hb] at fin
    (walk_at "bk T")
    first | refine iteN' ?_ ?_ | refine recN ?_ ?_
    · rw [hs, hn]; decide
    (walk_at "bk T")
    exact fin 1 (by unfold sgZ; rw [if_neg (by rw [hn]; decide)]) _ (by repeat (first | exact trivial | refine And.intro (by first | exact rfl | (simp only [erase_map, List.map_append, List.map_cons, List.map_nil, List.nil_append, List.append_nil]; rfl)) ?_))

theorem sc_fraction_read : FnScope ["word", "sign", "pieces", "numbers", "piece"] ["word"] (defScope st_fraction_read) := ⟨rfl, rfl, rfl, by decide +kernel, rfl, by decide +kernel, by decide +kernel⟩
theorem ok_fraction_read (A : At K mg "fraction_read" st_fraction_read ["word"]) (sr : Sr P base) (d_count_read : Def2 P w K mg base "count_read" 1 ["word", "most"] 0 2 s_count_read_b47a9caa) (d_is_shared : Def2 P w K mg base "is_shared" 1 ["one", "other"] 0 2 s_is_shared_87f6b559) (z_len : mg "len" = none) (c_MOST_FIGURES : ∃ t, mg "MOST_FIGURES" = some (.int 300 t)) : Def2 P w K mg base "fraction_read" 2 ["word"] 0 1 s_fraction_read_ccc4afb4 := by
  obtain ⟨f, fd, F, hm, hb⟩ := A.ex
  refine ⟨f, fd, fn_ok (k := 1) (m := 0) (wb := w_fraction_read_ccc4afb4) sr F sc_fraction_read rfl (fun cdv A outer sh H E hr hg => ?_) p_fraction_read_ccc4afb4, hm, F.kp, hb⟩
  exact JSs.cost (jss_cons (js_asg 1 true (je_int))
    (jss_cons (js_if (jt_val (je_startswith (je_var 0) (je_str))) (jss_cons (js_asg 1 true (je_neg (je_int)))
    (jss_one (js_asg 0 true (je_sl (je_var 0) (jo_some (je_int)) (jo_none))))) (jss_nil))
    (jss_cons (js_asg 2 true (je_split (je_var 0) (je_str)))
    (jss_cons (js_setLc 3 true [("piece", 4)] (ji_seq (je_var 2)) (by kernel_rfl) (jg_name 4) (jts_nil) (je_callD d_count_read s_count_read_b47a9caa_0 (ja_cons (je_var 4) (ja_cons (je_globI c_MOST_FIGURES) (ja_nil)))) (fun _ => sw_true rfl rfl rfl (by decide +kernel)))
    (jss_cons (js_if (JW.t (jw_or (jt_gt (je_len z_len (ja_cons (je_var 2) (ja_nil))) (je_int)) (jw_or (jt_in (je_non) (je_var 3)) (jw_or1 (JW.t (jw_and (jt_lt (je_var 1) (je_int)) (jw_and1 (jt_eq (je_ix (je_var 3) (je_int)) (je_int))))))))) (jss_one (js_ret (je_non))) (jss_nil))
    (jss_cons (js_if (jt_eq (je_len z_len (ja_cons (je_var 3) (ja_nil))) (je_int)) (jss_one (js_ret (je_tup (ja_cons (je_mulX (je_var 1) (je_ix (je_var 3) (je_int))) (ja_cons (je_int) (ja_nil)))))) (jss_nil))
    (jss_cons (js_if (JW.t (jw_or (jt_lt (je_ix (je_var 3) (je_int)) (je_int)) (jw_or1 (jt_val (je_callD d_is_shared s_is_shared_87f6b559_0 (ja_cons (je_ix (je_var 3) (je_int)) (ja_cons (je_ix (je_var 3) (je_int)) (ja_nil)))))))) (jss_one (js_ret (je_non))) (jss_nil))
    (jss_one (js_ret (je_tup (ja_cons (je_mulX (je_var 1) (je_ix (je_var 3) (je_int))) (ja_cons (je_ix (je_var 3) (je_int)) (ja_nil))))))))))))) (by decide)
abbrev st_read_fraction : Stmt := top 26
--USES reads
def s_read_fraction_07a05707 : Spec2 := fun xs k e => ∃ d : PyData, xs = [.d d] ∧ (∀ s, d = .str s → s.length ≤ 100000) ∧ (thD d = .none → e "NoText") ∧ (thD d ≠ .none → k (.d (thD d)))

def w_read_fraction_07a05707_r1 : WS :=
  wRet (wVar 1)
def w_read_fraction_07a05707_r2 : WS :=
  wSeq (wIf (wTest (wIsN false (wVar 1))) (wRaise "NoText") (wNext))
  (w_read_fraction_07a05707_r1)
def w_read_fraction_07a05707 : WS :=
  wSeq (wAsg 1 true (wC .none))
  (wSeq (wIf (wTest (wIsi "str" (wVar 0))) (wAsg 1 true (wCall s_fraction_read_ccc4afb4 (wCons (wVar 0) (wNil)))) (wNext))
  (w_read_fraction_07a05707_r2))

theorem p_read_fraction_07a05707 : ∀ xs k e, s_read_fraction_07a05707 xs k e → runB w_read_fraction_07a05707 xs k e := by
  rintro xs k e ⟨d, rfl, hs, he, hk⟩
  cases d
  case str s =>
    have hs := hs s rfl
    have es := S_tl s
    have ls := len_tl s
    generalize TL.tl s = l at es ls
    subst es
    have ht := thD_S l
    rw [ht] at he hk
    have hl : l.length ≤ 100000 := by omega
    rcases frcD_cases l with h | ⟨p, q, h⟩
    · have he := he h
      (walk_at "bk T")
      rw [h]
      (walk_at "bk T")
      exact he
    · rw [h] at hk
      have hk := hk (by simp)
      (walk_at "bk T")
      rw [h]
      (walk_at "bk T")
      exact hk
  all_goals
    have he := he rfl
    (walk_at "bk T")
    exact he

theorem sc_read_fraction : FnScope ["thing", "found"] ["thing"] (defScope st_read_fraction) := ⟨rfl, rfl, rfl, by decide +kernel, rfl, by decide +kernel, by decide +kernel⟩
theorem ok_read_fraction (A : At K mg "read_fraction" st_read_fraction ["thing"]) (sr : Sr P base) (d_fraction_read : Def2 P w K mg base "fraction_read" 2 ["word"] 0 1 s_fraction_read_ccc4afb4) (z_isinstance : mg "isinstance" = none) (z_str : mg "str" = none) (x_NoText : ErrC K mg "NoText") : Def2X P w K mg base "read_fraction" 3 ["thing"] 0 1 s_read_fraction_07a05707 := by
  obtain ⟨f, fd, F, hm, hb⟩ := A.ex
  refine ⟨f, fd, fn_okX (k := 2) (m := 0) (wb := w_read_fraction_07a05707) sr F sc_read_fraction rfl (fun cdv A outer sh H E hr hg => ?_) p_read_fraction_07a05707, hm, F.kp, hb⟩
  exact JSs.cost (jss_cons (js_asg 1 true (je_non))
    (jss_cons (js_if (jt_val (je_isi z_isinstance z_str (by decide +kernel) kit_str (je_var 0))) (jss_one (js_asg 1 true (je_callD d_fraction_read s_fraction_read_ccc4afb4_0 (ja_cons (je_var 0) (ja_nil))))) (jss_nil))
    (jss_cons (js_if (jt_isN (je_var 1)) (jss_one (js_raise x_NoText tk_famX)) (jss_nil))
    (jss_one (js_ret (je_var 1)))))) (by decide)
abbrev st_common : Stmt := top 28
--USES gcd
def s_common_58998760 : Spec2 := s_gcd
theorem s_common_58998760_0 : ∀ xs k e, s_common_58998760 xs k e → s_common_58998760 xs k fun _ => False := fun _ _ _ h => h

def w_common_58998760_l1 : WS :=
  wPar 0 1 (wCons (wVar 1) (wCons (wBin modD (wVar 0) (wVar 1)) (wNil)))
def w_common_58998760_r1 : WS :=
  wRet (wVar 0)
def w_common_58998760 : WS :=
  wSeq (wWhile 0 0 (wTest (wBin gtD (wVar 1) (wC (.int 0)))) w_common_58998760_l1)
  (w_common_58998760_r1)

theorem p_common_58998760 : ∀ xs k e, s_common_58998760 xs k e → runB w_common_58998760 xs k fun _ => False := p_gcd

theorem sc_common : FnScope ["one", "other"] ["one", "other"] (defScope st_common) := ⟨rfl, rfl, rfl, by decide +kernel, rfl, by decide +kernel, by decide +kernel⟩
theorem ok_common (A : At K mg "common" st_common ["one", "other"]) (sr : Sr P base) : Def2 P w K mg base "common" 1 ["one", "other"] 0 2 s_common_58998760 := by
  obtain ⟨f, fd, F, hm, hb⟩ := A.ex
  refine ⟨f, fd, fn_ok (k := 0) (m := 0) (wb := w_common_58998760) sr F sc_common rfl (fun cdv A outer sh H E hr hg => ?_) p_common_58998760, hm, F.kp, hb⟩
  exact JSs.cost (jss_cons (js_whileE 0 0 (jt_gt (je_var 1) (je_int)) (jss_one (js_par 0 1 (ja_cons (je_var 1) (ja_cons (je_mod (je_var 0) (je_var 1)) (ja_nil))))))
    (jss_one (js_ret (je_var 0)))) (by decide)
abbrev st_lowest : Stmt := top 29
--USES frac
def s_lowest_dfeee63e : Spec2 := s_lowest
theorem s_lowest_dfeee63e_0 : ∀ xs k e, s_lowest_dfeee63e xs k e → s_lowest_dfeee63e xs k fun _ => False := fun _ _ _ h => h

def w_lowest_dfeee63e_r1 : WS :=
  wSeq (wAsg 2 true (wCall s_common_58998760 (wCons (wCB cbAbs (wCons (wVar 0) (wNil))) (wCons (wVar 1) (wNil)))))
  (wRet (wTup (wCons (wBin divD (wVar 0) (wVar 2)) (wCons (wBin divD (wVar 1) (wVar 2)) (wNil)))))
def w_lowest_dfeee63e : WS :=
  wSeq (wIf (wTest (wBin ltD (wVar 1) (wC (.int 0)))) (wSeq (wAsg 0 true (wBin subD (wC (.int 0)) (wVar 0)))
  (wAsg 1 true (wBin subD (wC (.int 0)) (wVar 1)))) (wNext))
  (w_lowest_dfeee63e_r1)

theorem p_lowest_dfeee63e : ∀ xs k e, s_lowest_dfeee63e xs k e → runB w_lowest_dfeee63e xs k fun _ => False := by
  rintro xs k e ⟨p, q, rfl, hq, hl, hk⟩
  rw [← low_frD hq] at hk
  have hg : 0 < Nat.gcd p.natAbs q.natAbs := Nat.gcd_pos_of_pos_right _ (by omega)
  have aux : ∀ p' q' : Int, p'.natAbs = p.natAbs → q'.natAbs = q.natAbs → 0 ≤ q' → ∃ a b : Nat, [X2.d (.int (if p' < 0 then -p' else p')), X2.d (.int q')] = [.d (.int a), .d (.int b)] ∧ ((Nat.gcd a b : Nat) : Int) = (Nat.gcd p.natAbs q.natAbs : Nat) := by
    intro p' q' h1 h2 h3
    refine ⟨p.natAbs, q.natAbs, ?_, rfl⟩
    have e1 : (if p' < 0 then -p' else p') = (p.natAbs : Int) := by split <;> omega
    have e2 : q' = (q.natAbs : Int) := by omega
    rw [e1, e2]
  (conv => whnf)
  refine iteI (fun c => ?_) (fun c => ?_)
  · have c1 : q < 0 := of_decide_eq_true c
    (conv => whnf)
    obtain ⟨a, b, h1, h2⟩ := aux (0 - p) (0 - q) (by omega) (by omega) (by omega)
    refine ⟨a, b, h1, ?_⟩
    rw [h2]
    (conv => whnf)
    refine ⟨by omega, ?_⟩
    (conv => whnf)
    refine ⟨by omega, ?_⟩
    (conv => whnf)
    refine ⟨Nat.le_of_ble_eq_true rfl, ?_⟩
    (conv => whnf)
    unfold lowN lowD at hk
    rw [if_pos c1, if_pos c1] at hk
    exact hk
  · have c1 : ¬ q < 0 := of_decide_eq_false (Bool.eq_false_iff.mpr c)
    (conv => whnf)
    obtain ⟨a, b, h1, h2⟩ := aux p q rfl rfl (by omega)
    refine ⟨a, b, h1, ?_⟩
    rw [h2]
    (conv => whnf)
    refine ⟨by omega, ?_⟩
    (conv => whnf)
    refine ⟨by omega, ?_⟩
    (conv => whnf)
    refine ⟨Nat.le_of_ble_eq_true rfl, ?_⟩
    (conv => whnf)
    unfold lowN lowD at hk
    rw [if_neg c1, if_neg c1] at hk
    exact hk

theorem sc_lowest : FnScope ["top", "bottom", "by"] ["top", "bottom"] (defScope st_lowest) := ⟨rfl, rfl, rfl, by decide +kernel, rfl, by decide +kernel, by decide +kernel⟩
theorem ok_lowest (A : At K mg "lowest" st_lowest ["top", "bottom"]) (sr : Sr P base) (d_common : Def2 P w K mg base "common" 1 ["one", "other"] 0 2 s_common_58998760) (z_abs : mg "abs" = none) : Def2 P w K mg base "lowest" 2 ["top", "bottom"] 0 2 s_lowest_dfeee63e := by
  obtain ⟨f, fd, F, hm, hb⟩ := A.ex
  refine ⟨f, fd, fn_ok (k := 1) (m := 0) (wb := w_lowest_dfeee63e) sr F sc_lowest rfl (fun cdv A outer sh H E hr hg => ?_) p_lowest_dfeee63e, hm, F.kp, hb⟩
  exact JSs.cost (jss_cons (js_if (jt_lt (je_var 1) (je_int)) (jss_cons (js_asg 0 true (je_sub (je_int) (je_var 0)))
    (jss_one (js_asg 1 true (je_sub (je_int) (je_var 1))))) (jss_nil))
    (jss_cons (js_asg 2 true (je_callD d_common s_common_58998760_0 (ja_cons (je_abs z_abs (ja_cons (je_var 0) (ja_nil))) (ja_cons (je_var 1) (ja_nil)))))
    (jss_one (js_ret (je_tup (ja_cons (je_div (je_var 0) (je_var 2)) (ja_cons (je_div (je_var 1) (je_var 2)) (ja_nil)))))))) (by decide)
abbrev st_times : Stmt := top 30
--USES frac
def s_times_59e72531 : Spec2 := s_fr2 fun a b => a * b
theorem s_times_59e72531_0 : ∀ xs k e, s_times_59e72531 xs k e → s_times_59e72531 xs k fun _ => False := fun _ _ _ h => h

def w_times_59e72531 : WS :=
  wRet (wCall s_lowest_dfeee63e (wCons (wBin mulX (wBin ixD (wVar 0) (wC (.int 0))) (wBin ixD (wVar 1) (wC (.int 0)))) (wCons (wBin mulX (wBin ixD (wVar 0) (wC (.int 1))) (wBin ixD (wVar 1) (wC (.int 1)))) (wNil))))

theorem p_times_59e72531 : ∀ xs k e, s_times_59e72531 xs k e → runB w_times_59e72531 xs k fun _ => False := by
  rintro xs k e ⟨a, b, n, m, rfl, ha, hb, hl, hk⟩
  have hk : k (.d (frD (a * b))) := hk
  rw [mul_divInt] at hk
  have q0 := Int.mul_ne_zero (den0 a) (den0 b)
  have q1 := lt9 (mul2N (den2N ha) (den2N hb)) (by omega)
  (conv => whnf)
  refine ⟨mul_big ha.1 hb.1 (by omega), ?_⟩
  (conv => whnf)
  refine ⟨mul_big (den2N ha) (den2N hb) (by omega), ?_⟩
  (conv => whnf)
  refine ⟨_, _, rfl, q0, q1, ?_⟩
  exact hk

theorem sc_times : FnScope ["one", "other"] ["one", "other"] (defScope st_times) := ⟨rfl, rfl, rfl, by decide +kernel, rfl, by decide +kernel, by decide +kernel⟩
theorem ok_times (A : At K mg "times" st_times ["one", "other"]) (sr : Sr P base) (d_lowest : Def2 P w K mg base "lowest" 2 ["top", "bottom"] 0 2 s_lowest_dfeee63e) : Def2 P w K mg base "times" 3 ["one", "other"] 0 2 s_times_59e72531 := by
  obtain ⟨f, fd, F, hm, hb⟩ := A.ex
  refine ⟨f, fd, fn_ok (k := 2) (m := 0) (wb := w_times_59e72531) sr F sc_times rfl (fun cdv A outer sh H E hr hg => ?_) p_times_59e72531, hm, F.kp, hb⟩
  exact JSs.cost (jss_one (js_ret (je_callD d_lowest s_lowest_dfeee63e_0 (ja_cons (je_mulX (je_ix (je_var 0) (je_int)) (je_ix (je_var 1) (je_int))) (ja_cons (je_mulX (je_ix (je_var 0) (je_int)) (je_ix (je_var 1) (je_int))) (ja_nil)))))) (by decide)
abbrev st__law_draws : Stmt := top 32
theorem sc__law_draws : FnScope ["_law_script", "_law_cells", "_law_cell"] ["_law_script"] (defScope st__law_draws) := ⟨rfl, rfl, rfl, by decide +kernel, rfl, by decide +kernel, by decide +kernel⟩
theorem ok__law_draws (A : At K mg "_law_draws" st__law_draws ["_law_script"]) (z_len : mg "len" = none) (z_list : mg "list" = none) (z_int : mg "int" = none) : DrawsAt P w K mg base := by
  obtain ⟨f, fd, F, hm, hb⟩ := A.ex
  refine ⟨f, fd, FnG.of <| F.ok (k := 0) sc__law_draws (fun vs H Q E h => by obtain ⟨a, ns, rfl, _⟩ := h; rfl) (fun cdv A outer s H vs Q E hr h => ⟨t_draws K, ?_, draws_reads h⟩), hm, F.kp, hb⟩
  unfold t_draws
  exact (pss_cons (ps_set (i := 1) sc__law_draws.nd rfl (.inl rfl) (pe_op op_cat (pe_callTy call_listA (by rfl) z_list (by decide +kernel) (pa_cons (pe_slice sl_list (pv 0) po_none (po_some pe_int)) pa_nil)) (pe_op op_rep (pe_lst (pa_cons pe_int pa_nil)) (pe_callTy call_int1 (by rfl) z_int (by decide +kernel) (pa_cons (pe_cmpR op_eq (pe_callB call_len_seq (by rfl) z_len PySem.boot_len (pa_cons (pv 0) pa_nil)) pe_int (nomark _)) pa_nil)))))
    (pss_one (ps_ret (pe_lst (pa_cons (pv 1) (pa_cons pe_int (pa_cons (pe_lc (own := [("_law_cell", 2)]) (g := gName 2) (tt := tYes) (by rfl) sc__law_draws.nd (pi_list (pv 1)) (blkOk_by (own := [("_law_cell", 2)]) (N := ["_law_script", "_law_cells", "_law_cell"]) (sc := defScope st__law_draws) (by decide +kernel)) (fun _ _ _ _ _ => pg_name (i := 2) sc__law_draws.nd rfl (Or.inl rfl)) (fun _ _ _ _ _ => pts_nil) (fun _ _ _ _ _ => pe_op op_mul (pv 2) (pe_callTy call_int1 (by rfl) z_int (by decide +kernel) (pa_cons (pe_cmpR op_ge (pv 2) (pe_op op_powW pe_int pe_int) (nomark _)) pa_nil)))) pa_nil)))))))
abbrev st__law_next : Stmt := top 33
theorem sc__law_next : FnScope ["_law_drawn", "_law_many", "_law_cells", "_law_count", "_law_rests", "_law_at", "_law_digit", "_law_primes", "_law_mixed", "_law_more"] ["_law_drawn", "_law_many"] (defScope st__law_next) := ⟨rfl, rfl, rfl, by decide +kernel, rfl, by decide +kernel, by decide +kernel⟩
theorem ok__law_next (A : At K mg "_law_next" st__law_next ["_law_drawn", "_law_many"]) (z_len : mg "len" = none) : Def2 P w K mg base "_law_next" 1 ["_law_drawn", "_law_many"] 1 2 s_next := by
  obtain ⟨f, fd, F, hm, hb⟩ := A.ex
  refine ⟨f, fd, FnG.of <| F.ok (k := 0) sc__law_next (fun vs H Q E h => h.1) (fun cdv A outer s H vs Q E hr h => ⟨t_nextA K, ?_, next_A h⟩), hm, F.kp, hb⟩
  unfold t_nextA t_nextTop t_nextEnd tC7
  exact (pss_cons (ps_asg (pv 0) (pg_unl rfl (pgs_cons (pg_name (i := 2) sc__law_next.nd rfl (.inl rfl)) (pgs_cons (pg_name (i := 3) sc__law_next.nd rfl (.inl rfl)) (pgs_cons (pg_name (i := 4) sc__law_next.nd rfl (.inl rfl)) pgs_nil)))))
    (pss_cons (ps_set (i := 5) sc__law_next.nd rfl (.inl rfl) (pe_op op_mod (pv 3) (pe_callB call_len_seq (by rfl) z_len PySem.boot_len (pa_cons (pv 2) pa_nil))))
    (pss_cons (ps_asg (pe_op op_add (pv 3) pe_int) (pg_sub (pv 0) pe_int set_list))
    (pss_cons (ps_if (pt_cmpR op_gt (pe_ix ix_list (pv 4) (pv 5) (fun _ _ => rfl)) pe_int (nomark _)) (pss_cons (ps_set (i := 6) sc__law_next.nd rfl (.inl rfl) (pe_op op_mod (pe_ix ix_list (pv 4) (pv 5) (fun _ _ => rfl)) (pv 1))) (pss_cons (ps_asg (pe_op op_fdivW (pe_ix ix_list (pv 4) (pv 5) (fun _ _ => rfl)) (pv 1)) (pg_sub (pv 4) (pv 5) set_list)) (pss_one (ps_ret (pv 6))))) pss_nil)
    (pss_cons (ps_set (i := 7) sc__law_next.nd rfl (.inl rfl) (pe_lst (pa_cons pe_int (pa_cons pe_int (pa_cons pe_int (pa_cons pe_int (pa_cons pe_int (pa_cons pe_int (pa_cons pe_int pa_nil)))))))))
    (pss_cons (ps_set (i := 8) sc__law_next.nd rfl (.inl rfl) (pe_op op_add (pe_op op_add (pe_op op_mod (pe_ix ix_list (pv 2) (pv 5) (fun _ _ => rfl)) pe_int) (pe_op op_mul pe_int (pv 3))) pe_int))
    (pss_cons (ps_set (i := 8) sc__law_next.nd rfl (.inl rfl) (pe_op op_mod (pe_op op_powW (pv 8) pe_int) (pe_ix ix_list (pv 7) (pe_op op_mod (pv 3) pe_int) (fun _ _ => rfl))))
    (pss_cons (ps_set (i := 9) sc__law_next.nd rfl (.inl rfl) (pe_op op_mod (pe_op op_powW (pe_op op_add (pv 8) (pe_op op_mul pe_int (pv 3))) pe_int) pe_int))
    (pss_one (ps_ret (pe_op op_mod (pe_op op_mod (pe_op op_add (pe_op op_mul (pv 9) pe_int) (pv 8)) pe_int) (pv 1))))))))))))
abbrev st__law_whole : Stmt := top 34
--USES whole
def s_law_whole_93584714 : Spec2 := s_whole
theorem s_law_whole_93584714_0 : ∀ xs k e, s_law_whole_93584714 xs k e → s_law_whole_93584714 xs k fun _ => False := fun _ _ _ h => h

def w_law_whole_93584714 : WS :=
  wRet (wAndV (wIsi "int" (wVar 0)) (wNotV (wIsi "bool" (wVar 0))))

theorem p_law_whole_93584714 : ∀ xs k e, s_law_whole_93584714 xs k e → runB w_law_whole_93584714 xs k fun _ => False := by
  rintro xs k e ⟨d, rfl, hk⟩
  cases d <;> exact hk

theorem sc__law_whole : FnScope ["_law_thing"] ["_law_thing"] (defScope st__law_whole) := ⟨rfl, rfl, rfl, by decide +kernel, rfl, by decide +kernel, by decide +kernel⟩
theorem ok__law_whole (A : At K mg "_law_whole" st__law_whole ["_law_thing"]) (sr : Sr P base) (z_isinstance : mg "isinstance" = none) (z_int : mg "int" = none) (z_bool : mg "bool" = none) : Def2 P w K mg base "_law_whole" 1 ["_law_thing"] 0 1 s_law_whole_93584714 := by
  obtain ⟨f, fd, F, hm, hb⟩ := A.ex
  refine ⟨f, fd, fn_ok (k := 0) (m := 0) (wb := w_law_whole_93584714) sr F sc__law_whole rfl (fun cdv A outer sh H E hr hg => ?_) p_law_whole_93584714, hm, F.kp, hb⟩
  exact JSs.cost (jss_one (js_ret (je_and (je_isi z_isinstance z_int (by decide +kernel) kit_int (je_var 0)) (je_one (je_not (je_isi z_isinstance z_bool (by decide +kernel) kit_bool (je_var 0))))))) (by decide)
abbrev st__law_lowest : Stmt := top 35
--USES frac
def s_law_lowest_bd3ba674 : Spec2 := fun xs k _ => ∃ p q : Int, xs = [.d (.int p), .d (.int q)] ∧ 0 < q ∧ True ∧ k (.d (frD (Rat.divInt p q)))
theorem s_law_lowest_bd3ba674_0 : ∀ xs k e, s_law_lowest_bd3ba674 xs k e → s_law_lowest_bd3ba674 xs k fun _ => False := fun _ _ _ h => h

def w_law_lowest_bd3ba674_l1 : WS :=
  wPar 2 3 (wCons (wVar 3) (wCons (wBin modD (wVar 2) (wVar 3)) (wNil)))
def w_law_lowest_bd3ba674_r1 : WS :=
  wRet (wTup (wCons (wBin divD (wVar 0) (wVar 2)) (wCons (wBin divD (wVar 1) (wVar 2)) (wNil))))
def w_law_lowest_bd3ba674 : WS :=
  wSeq (wPar 2 3 (wCons (wCB cbAbs (wCons (wVar 0) (wNil))) (wCons (wVar 1) (wNil))))
  (wSeq (wWhile 0 0 (wTest (wBin gtD (wVar 3) (wC (.int 0)))) w_law_lowest_bd3ba674_l1)
  (w_law_lowest_bd3ba674_r1))

theorem p_law_lowest_bd3ba674 : ∀ xs k e, s_law_lowest_bd3ba674 xs k e → runB w_law_lowest_bd3ba674 xs k fun _ => False := by
  rintro xs k e ⟨p, q, rfl, hq, hl, hk⟩
  have hg : 0 < Nat.gcd p.natAbs q.natAbs := Nat.gcd_pos_of_pos_right _ (by omega)
  have e1 : (if p < 0 then -p else p) = (p.natAbs : Int) := by split <;> omega
  have e2 : (q.natAbs : Int) = q := by omega
  rw [← low_frD (by omega)] at hk
  unfold lowN lowD at hk
  rw [if_neg (by omega), if_neg (by omega)] at hk
  (conv => whnf)
  refine ⟨q.natAbs + 1, by omega, ?_⟩
  refine whileN_ind (I := fun n ρ => ∃ x y : Nat, ρ = ev [some (.d (.int p)), some (.d (.int q)), some (.d (.int x)), some (.d (.int y))] ∧ y < n ∧ Nat.gcd x y = Nat.gcd p.natAbs q.natAbs) ?_ ?_ _ _ ?_
  · rintro ρ ⟨x, y, _, h, _⟩
    omega
  · rintro n ρ ⟨x, y, rfl, h, hgg⟩ ih
    (conv => whnf)
    refine iteI (fun c => ?_) (fun c => ?_)
    · have c1 := of_decide_eq_true c
      have hy : 0 < y := by omega
      (conv => whnf)
      refine ⟨c1, ?_⟩
      (conv => whnf)
      refine ih _ ⟨y, x % y, ?_, ?_, ?_⟩
      · rw [Int.natCast_emod]
        exact (by funext i; rcases i with _ | _ | _ | _ | _ | _ | _ | _ | _ | _ | _ | _ | _ | _ | i <;> rfl)
      · have := Nat.mod_lt x hy
        omega
      · rw [← hgg, Nat.gcd_comm x y, Nat.gcd_rec y x, Nat.gcd_comm]
    · have c1 := of_decide_eq_false (Bool.eq_false_iff.mpr c)
      have hy : y = 0 := by omega
      subst hy
      rw [Nat.gcd_zero_right] at hgg
      subst hgg
      (conv => whnf)
      refine ⟨by omega, ?_⟩
      (conv => whnf)
      refine ⟨by omega, ?_⟩
      (conv => whnf)
      refine ⟨Nat.le_of_ble_eq_true rfl, ?_⟩
      exact hk
  · refine ⟨p.natAbs, q.natAbs, ?_, by omega, rfl⟩
    rw [e2, ← e1]
    exact (by funext i; rcases i with _ | _ | _ | _ | _ | _ | _ | _ | _ | _ | _ | _ | _ | _ | i <;> rfl)

theorem sc__law_lowest : FnScope ["_law_top", "_law_bottom", "_law_one", "_law_other"] ["_law_top", "_law_bottom"] (defScope st__law_lowest) := ⟨rfl, rfl, rfl, by decide +kernel, rfl, by decide +kernel, by decide +kernel⟩
theorem ok__law_lowest (A : At K mg "_law_lowest" st__law_lowest ["_law_top", "_law_bottom"]) (sr : Sr P base) (z_abs : mg "abs" = none) : Def2 P w K mg base "_law_lowest" 1 ["_law_top", "_law_bottom"] 0 2 s_law_lowest_bd3ba674 := by
  obtain ⟨f, fd, F, hm, hb⟩ := A.ex
  refine ⟨f, fd, fn_ok (k := 0) (m := 0) (wb := w_law_lowest_bd3ba674) sr F sc__law_lowest rfl (fun cdv A outer sh H E hr hg => ?_) p_law_lowest_bd3ba674, hm, F.kp, hb⟩
  exact JSs.cost (jss_cons (js_par 2 3 (ja_cons (je_abs z_abs (ja_cons (je_var 0) (ja_nil))) (ja_cons (je_var 1) (ja_nil))))
    (jss_cons (js_whileE 0 0 (jt_gt (je_var 3) (je_int)) (jss_one (js_par 2 3 (ja_cons (je_var 3) (ja_cons (je_mod (je_var 2) (je_var 3)) (ja_nil))))))
    (jss_one (js_ret (je_tup (ja_cons (je_div (je_var 0) (je_var 2)) (ja_cons (je_div (je_var 1) (je_var 2)) (ja_nil)))))))) (by decide)
abbrev st__law_fraction : Stmt := top 36
--USES frac
def s_law_fraction_3f6da292 : Spec2 := fun xs k _ => xs = [.drw] ∧ ∀ r : Rat, Sz 100 r → k (.d (frD r))
theorem s_law_fraction_3f6da292_0 : ∀ xs k e, s_law_fraction_3f6da292 xs k e → s_law_fraction_3f6da292 xs k fun _ => False := fun _ _ _ h => h

def w_law_fraction_3f6da292_r1 : WS :=
  wSeq (wAsg 2 true (wBin addD (wBin mulX (wCall s_next (wCons (wVar 0) (wCons (wBin powD (wC (.int 10)) (wC (.int 10))) (wNil)))) (wBin powD (wC (.int 10)) (wC (.int 10)))) (wCall s_next (wCons (wVar 0) (wCons (wBin powD (wC (.int 10)) (wC (.int 10))) (wNil))))))
  (wRet (wCall s_law_lowest_bd3ba674 (wCons (wBin subD (wVar 2) (wBin mulX (wC (.int 5)) (wBin powD (wC (.int 10)) (wC (.int 19))))) (wCons (wBin addD (wC (.int 1)) (wBin mulX (wCall s_next (wCons (wVar 0) (wCons (wBin powD (wC (.int 10)) (wC (.int 10))) (wNil)))) (wBin ixD (wLst (wCons (wC (.int 1)) (wCons (wBin subD (wBin powD (wC (.int 10)) (wC (.int 10))) (wC (.int 1))) (wNil)))) (wCall s_next (wCons (wVar 0) (wCons (wC (.int 2)) (wNil))))))) (wNil)))))
def w_law_fraction_3f6da292_r2 : WS :=
  wSeq (wIf (wTest (wBin ltD (wVar 1) (wC (.int 7)))) (wRet (wCall s_law_lowest_bd3ba674 (wCons (wBin subD (wCall s_next (wCons (wVar 0) (wCons (wC (.int 41)) (wNil)))) (wC (.int 20))) (wCons (wBin addD (wC (.int 1)) (wCall s_next (wCons (wVar 0) (wCons (wC (.int 12)) (wNil))))) (wNil))))) (wNext))
  (w_law_fraction_3f6da292_r1)
def w_law_fraction_3f6da292_r3 : WS :=
  wSeq (wIf (wTest (wBin ltD (wVar 1) (wC (.int 4)))) (wRet (wTup (wCons (wBin subD (wCall s_next (wCons (wVar 0) (wCons (wC (.int 13)) (wNil)))) (wC (.int 6))) (wCons (wC (.int 1)) (wNil))))) (wNext))
  (w_law_fraction_3f6da292_r2)
def w_law_fraction_3f6da292 : WS :=
  wSeq (wAsg 1 true (wCall s_next (wCons (wVar 0) (wCons (wC (.int 8)) (wNil)))))
  (wSeq (wIf (wTest (wBin eqD (wVar 1) (wC (.int 0)))) (wRet (wTup (wCons (wC (.int 0)) (wCons (wC (.int 1)) (wNil))))) (wNext))
  (w_law_fraction_3f6da292_r3))

theorem p_law_fraction_3f6da292 : ∀ xs k e, s_law_fraction_3f6da292 xs k e → runB w_law_fraction_3f6da292 xs k fun _ => False := by
  rintro xs k e ⟨rfl, hk⟩
  (conv => whnf)
  refine ⟨_, rfl, by decide, by decide +kernel, fun w w0 w1 => ?_⟩
  (conv => whnf)
  refine ⟨.inl rfl, ?_⟩
  (conv => whnf)
  refine iteI (fun c => ?_) (fun c => ?_)
  · (conv => whnf)
    refine ⟨Nat.le_of_ble_eq_true rfl, ?_⟩
    exact hk 0 ⟨by decide, by decide⟩
  (conv => whnf)
  refine iteI (fun c => ?_) (fun c => ?_)
  · (conv => whnf)
    refine ⟨_, rfl, by decide, by decide +kernel, fun x x0 x1 => ?_⟩
    (conv => whnf)
    refine ⟨Nat.le_of_ble_eq_true rfl, ?_⟩
    exact hk ((x - 6 : Int) : Rat) ⟨by rw [Rat.num_intCast]; omega, by rw [Rat.den_intCast]; decide⟩
  (conv => whnf)
  refine iteI (fun c => ?_) (fun c => ?_)
  · (conv => whnf)
    refine ⟨_, rfl, by decide, by decide +kernel, fun x x0 x1 => ?_⟩
    (conv => whnf)
    refine ⟨_, rfl, by decide, by decide +kernel, fun y y0 y1 => ?_⟩
    (conv => whnf)
    refine ⟨_, _, rfl, by omega, trivial, ?_⟩
    exact hk _ (sz_divInt (by omega) (by omega) (by omega))
  have h10 : (10 : Int) ^ (10 : Int).toNat = 10000000000 := by decide +kernel
  have h19 : (10 : Int) ^ (19 : Int).toNat = 10000000000000000000 := by decide +kernel
  (conv => whnf)
  refine ⟨by decide +kernel, ?_⟩
  (conv => whnf)
  refine ⟨_, rfl, by decide, by decide +kernel, fun x x0 x1 => ?_⟩
  (conv => whnf)
  refine ⟨by decide +kernel, ?_⟩
  (conv => whnf)
  refine ⟨mul_small (by decide +kernel), ?_⟩
  (conv => whnf)
  refine ⟨by decide +kernel, ?_⟩
  (conv => whnf)
  refine ⟨_, rfl, by decide, by decide +kernel, fun y y0 y1 => ?_⟩
  (conv => whnf)
  refine ⟨by decide +kernel, ?_⟩
  (conv => whnf)
  refine ⟨mul_smallL (by decide +kernel), ?_⟩
  (conv => whnf)
  refine ⟨by decide +kernel, ?_⟩
  (conv => whnf)
  refine ⟨_, rfl, by decide, by decide +kernel, fun z z0 z1 => ?_⟩
  (conv => whnf)
  refine ⟨by decide +kernel, ?_⟩
  (conv => whnf)
  refine ⟨Nat.le_of_ble_eq_true rfl, ?_⟩
  (conv => whnf)
  refine ⟨_, rfl, by decide, by decide +kernel, fun u u0 u1 => ?_⟩
  rw [h10] at x1 y1 z1
  obtain ⟨s, hs, s0, s1⟩ : ∃ s : Int, atI [PyData.int 1, PyData.int (10 ^ (10 : Int).toNat - 1)] u = some (.int s) ∧ 0 < s ∧ s < 10000000000 := by
    rcases (show u = 0 ∨ u = 1 by omega) with rfl | rfl
    · exact ⟨1, rfl, by decide, by decide⟩
    · exact ⟨_, rfl, by rw [h10]; decide, by rw [h10]; decide⟩
  (conv => whnf)
  rw [hs]
  (conv => whnf)
  have b1 := mul2N (i := z) (j := s) (n := 34) (m := 34) (by omega) (by omega)
  have b2 : 0 ≤ z * s := Int.mul_nonneg z0 (by omega)
  refine ⟨mul_small (by omega), ?_⟩
  (conv => whnf)
  generalize z * s = v at *
  refine ⟨_, _, rfl, by omega, trivial, ?_⟩
  refine hk _ (sz_divInt (by omega) ?_ (by omega))
  rw [h10, h19]
  omega

theorem sc__law_fraction : FnScope ["_law_drawn", "_law_way", "_law_top"] ["_law_drawn"] (defScope st__law_fraction) := ⟨rfl, rfl, rfl, by decide +kernel, rfl, by decide +kernel, by decide +kernel⟩
theorem ok__law_fraction (A : At K mg "_law_fraction" st__law_fraction ["_law_drawn"]) (sr : Sr P base) (d__law_next : Def2 P w K mg base "_law_next" 1 ["_law_drawn", "_law_many"] 1 2 s_next) (d__law_lowest : Def2 P w K mg base "_law_lowest" 1 ["_law_top", "_law_bottom"] 0 2 s_law_lowest_bd3ba674) : Def2 P w K mg base "_law_fraction" 2 ["_law_drawn"] 8 1 s_law_fraction_3f6da292 := by
  obtain ⟨f, fd, F, hm, hb⟩ := A.ex
  refine ⟨f, fd, fn_ok (k := 1) (m := 8) (wb := w_law_fraction_3f6da292) sr F sc__law_fraction rfl (fun cdv A outer sh H E hr hg => ?_) p_law_fraction_3f6da292, hm, F.kp, hb⟩
  exact JSs.cost (jss_cons (js_asg 1 true (je_callD d__law_next s_next_0 (ja_cons (je_var 0) (ja_cons (je_int) (ja_nil)))))
    (jss_cons (js_if (jt_eq (je_var 1) (je_int)) (jss_one (js_ret (je_tup (ja_cons (je_int) (ja_cons (je_int) (ja_nil)))))) (jss_nil))
    (jss_cons (js_if (jt_lt (je_var 1) (je_int)) (jss_one (js_ret (je_tup (ja_cons (je_sub (je_callD d__law_next s_next_0 (ja_cons (je_var 0) (ja_cons (je_int) (ja_nil)))) (je_int)) (ja_cons (je_int) (ja_nil)))))) (jss_nil))
    (jss_cons (js_if (jt_lt (je_var 1) (je_int)) (jss_one (js_ret (je_callD d__law_lowest s_law_lowest_bd3ba674_0 (ja_cons (je_sub (je_callD d__law_next s_next_0 (ja_cons (je_var 0) (ja_cons (je_int) (ja_nil)))) (je_int)) (ja_cons (je_add (je_int) (je_callD d__law_next s_next_0 (ja_cons (je_var 0) (ja_cons (je_int) (ja_nil))))) (ja_nil)))))) (jss_nil))
    (jss_cons (js_asg 2 true (je_add (je_mulX (je_callD d__law_next s_next_0 (ja_cons (je_var 0) (ja_cons (je_pow (je_int) (je_int)) (ja_nil)))) (je_pow (je_int) (je_int))) (je_callD d__law_next s_next_0 (ja_cons (je_var 0) (ja_cons (je_pow (je_int) (je_int)) (ja_nil))))))
    (jss_one (js_ret (je_callD d__law_lowest s_law_lowest_bd3ba674_0 (ja_cons (je_sub (je_var 2) (je_mulX (je_int) (je_pow (je_int) (je_int)))) (ja_cons (je_add (je_int) (je_mulX (je_callD d__law_next s_next_0 (ja_cons (je_var 0) (ja_cons (je_pow (je_int) (je_int)) (ja_nil)))) (je_ix (je_lst (ja_cons (je_int) (ja_cons (je_sub (je_pow (je_int) (je_int)) (je_int)) (ja_nil)))) (je_callD d__law_next s_next_0 (ja_cons (je_var 0) (ja_cons (je_int) (ja_nil))))))) (ja_nil))))))))))) (by decide)
abbrev st__law_just : Stmt := top 37
--USES jst
def s_law_just_ad54055br : Nat → Spec2
  | 0, _, _, _ => False
  | dp + 1, xs, k, _ => ∃ d : PyData, xs = [.d d, .d d] ∧ Jst dp d ∧ k (.d (.bool true))
def s_law_just_ad54055b : Spec2 := s_law_just_ad54055br 12
theorem s_law_just_ad54055br_0 : ∀ dp xs k e, s_law_just_ad54055br dp xs k e → s_law_just_ad54055br dp xs k fun _ => False := fun dp _ _ _ h => match dp, h with
  | 0, h => h
  | _ + 1, h => h
theorem s_law_just_ad54055b_0 : ∀ xs k e, s_law_just_ad54055b xs k e → s_law_just_ad54055b xs k fun _ => False := s_law_just_ad54055br_0 12

def w_law_just_ad54055b_r1 (dp : Nat) : WS :=
  wRet (wBin eqD (wLc [2, 3] (wZip (wCons (wVar 0) (wCons (wVar 1) (wNil)))) (gTup2 2 (gCons2 (gN 2) (gCons2 (gN 3) (gNil2)))) (wNot (wTest (wCall (s_law_just_ad54055br dp) (wCons (wVar 2) (wCons (wVar 3) (wNil)))))) (wC (.int 1))) (wLst (wNil)))
def w_law_just_ad54055b_r2 (dp : Nat) : WS :=
  wRet (wAndV (wCall s_law_whole_93584714 (wCons (wVar 0) (wNil))) (wBin eqD (wVar 0) (wVar 1)))
def w_law_just_ad54055b_r3 (dp : Nat) : WS :=
  wSeq (wIf (wTest (wIsi "str" (wVar 1))) (wRet (wAndV (wIsi "str" (wVar 0)) (wBin eqD (wVar 0) (wVar 1)))) (wNext))
  ((w_law_just_ad54055b_r2 dp))
def w_law_just_ad54055b_r4 (dp : Nat) : WS :=
  wSeq (wIf (wTest (wIsN false (wVar 1))) (wRet (wIsN false (wVar 0))) (wNext))
  ((w_law_just_ad54055b_r3 dp))
def w_law_just_ad54055b (dp : Nat) : WS :=
  wSeq (wIf (wTest (wIsi "tuple" (wVar 1))) (wSeq (wIf (wOr (wNot (wTest (wIsi "tuple" (wVar 0)))) (wTest (wBin neD (wCB cbLen (wCons (wVar 0) (wNil))) (wCB cbLen (wCons (wVar 1) (wNil)))))) (wRet (wC (.bool false))) (wNext))
  ((w_law_just_ad54055b_r1 dp))) (wNext))
  ((w_law_just_ad54055b_r4 dp))

theorem p_law_just_ad54055b : ∀ dp xs k e, s_law_just_ad54055br (dp + 1) xs k e → runB (w_law_just_ad54055b dp) xs k fun _ => False := by
  rintro dp xs k e ⟨d, rfl, hj, hk⟩
  unfold runB w_law_just_ad54055b
  cases hj with
  | int _ i =>
    have e1 : PyData.eqv (.int i) (.int i) = true := by rw [eqv_int, beq_self_eq_true]
    (walk_at "bk T")
    rw [e1]
    exact hk
  | non _ =>
    (walk_at "bk T")
    exact hk
  | str _ s hs =>
    have e1 : PyData.eqv (.str s) (.str s) = true := eqv_refl (n := 1) (tame_str hs)
    (walk_at "bk T")
    rw [e1]
    exact hk
  | tup n ds hl hd =>
    have e1 : PyData.eqv (.int (ds.length : Int)) (.int (ds.length : Int)) = true := by rw [eqv_int, beq_self_eq_true]
    have ez : zipD ds ds = ds.map fun d => .tuple [d, d] := by
      have := zipD_same (fun d => d) (fun d => d) ds
      rwa [List.map_id'] at this
    (walk_at "bk T")
    rw [e1]
    (walk_at "bk T")
    rw [ez]
    refine ⟨by rw [List.length_map]; omega, ?_⟩
    refine lcL_pure (enc := fun d => .tuple [d, d]) (p := fun _ => false) (g := id) ds rfl (fun d hw R S h1 h2 => ?_) ?_
    · (walk_at "bk T")
      refine ⟨hd d hw, ?_⟩
      (walk_at "bk T")
      exact h2 rfl
    · rw [show ds.filter (fun _ => false) = [] by simp]
      (walk_at "bk T")
      exact hk

theorem sc__law_just : FnScope ["_law_thing", "_law_due", "_law_one", "_law_other"] ["_law_thing", "_law_due"] (defScope st__law_just) := ⟨rfl, rfl, rfl, by decide +kernel, rfl, by decide +kernel, by decide +kernel⟩
theorem ok__law_just_0 (A : At K mg "_law_just" st__law_just ["_law_thing", "_law_due"]) : Def2 P w K mg base "_law_just" 2 ["_law_thing", "_law_due"] 0 2 (s_law_just_ad54055br 0) := by
  obtain ⟨f, fd, F, hm, hb⟩ := A.ex
  exact ⟨f, fd, fnG_void fun _ _ _ h => h, hm, F.kp, hb⟩
theorem ok__law_just_1 (A : At K mg "_law_just" st__law_just ["_law_thing", "_law_due"]) (sr : Sr P base) (d__law_just : Def2 P w K mg base "_law_just" 2 ["_law_thing", "_law_due"] 0 2 (s_law_just_ad54055br 0)) (d__law_whole : Def2 P w K mg base "_law_whole" 1 ["_law_thing"] 0 1 s_law_whole_93584714) (z_isinstance : mg "isinstance" = none) (z_tuple : mg "tuple" = none) (z_len : mg "len" = none) (z_zip : mg "zip" = none) (z_str : mg "str" = none) : Def2 P w K mg base "_law_just" 3 ["_law_thing", "_law_due"] 0 2 (s_law_just_ad54055br 1) := by
  obtain ⟨f, fd, F, hm, hb⟩ := A.ex
  refine ⟨f, fd, fn_ok (k := 2) (m := 0) (wb := w_law_just_ad54055b 0) sr F sc__law_just rfl (fun cdv A outer sh H E hr hg => ?_) (p_law_just_ad54055b 0), hm, F.kp, hb⟩
  exact JSs.cost (jss_cons (js_if (jt_val (je_isi z_isinstance z_tuple (by decide +kernel) kit_tuple (je_var 1))) (jss_cons (js_if (JW.t (jw_or (jt_not (jt_val (je_isi z_isinstance z_tuple (by decide +kernel) kit_tuple (je_var 0)))) (jw_or1 (jt_ne (je_len z_len (ja_cons (je_var 0) (ja_nil))) (je_len z_len (ja_cons (je_var 1) (ja_nil))))))) (jss_one (js_ret (je_bl))) (jss_nil))
    (jss_one (js_ret (je_eq (je_lc [("_law_one", 2), ("_law_other", 3)] (ji_zip z_zip (ja_cons (je_var 0) (ja_cons (je_var 1) (ja_nil)))) (by kernel_rfl) (jg_tup (jgs_cons (jg_name 2) (jgs_cons (jg_name 3) (jgs_nil)))) (jts_one (jt_not (jt_val (je_callD d__law_just (s_law_just_ad54055br_0 0) (ja_cons (je_var 2) (ja_cons (je_var 3) (ja_nil))))))) (je_int)) (je_lst (ja_nil)))))) (jss_nil))
    (jss_cons (js_if (jt_isN (je_var 1)) (jss_one (js_ret (je_isN (je_var 0)))) (jss_nil))
    (jss_cons (js_if (jt_val (je_isi z_isinstance z_str (by decide +kernel) kit_str (je_var 1))) (jss_one (js_ret (je_and (je_isi z_isinstance z_str (by decide +kernel) kit_str (je_var 0)) (je_one (je_eq (je_var 0) (je_var 1)))))) (jss_nil))
    (jss_one (js_ret (je_and (je_callD d__law_whole s_law_whole_93584714_0 (ja_cons (je_var 0) (ja_nil))) (je_one (je_eq (je_var 0) (je_var 1))))))))) (by decide)
theorem ok__law_just_2 (A : At K mg "_law_just" st__law_just ["_law_thing", "_law_due"]) (sr : Sr P base) (d__law_just : Def2 P w K mg base "_law_just" 3 ["_law_thing", "_law_due"] 0 2 (s_law_just_ad54055br 1)) (d__law_whole : Def2 P w K mg base "_law_whole" 1 ["_law_thing"] 0 1 s_law_whole_93584714) (z_isinstance : mg "isinstance" = none) (z_tuple : mg "tuple" = none) (z_len : mg "len" = none) (z_zip : mg "zip" = none) (z_str : mg "str" = none) : Def2 P w K mg base "_law_just" 4 ["_law_thing", "_law_due"] 0 2 (s_law_just_ad54055br 2) := by
  obtain ⟨f, fd, F, hm, hb⟩ := A.ex
  refine ⟨f, fd, fn_ok (k := 3) (m := 0) (wb := w_law_just_ad54055b 1) sr F sc__law_just rfl (fun cdv A outer sh H E hr hg => ?_) (p_law_just_ad54055b 1), hm, F.kp, hb⟩
  exact JSs.cost (jss_cons (js_if (jt_val (je_isi z_isinstance z_tuple (by decide +kernel) kit_tuple (je_var 1))) (jss_cons (js_if (JW.t (jw_or (jt_not (jt_val (je_isi z_isinstance z_tuple (by decide +kernel) kit_tuple (je_var 0)))) (jw_or1 (jt_ne (je_len z_len (ja_cons (je_var 0) (ja_nil))) (je_len z_len (ja_cons (je_var 1) (ja_nil))))))) (jss_one (js_ret (je_bl))) (jss_nil))
    (jss_one (js_ret (je_eq (je_lc [("_law_one", 2), ("_law_other", 3)] (ji_zip z_zip (ja_cons (je_var 0) (ja_cons (je_var 1) (ja_nil)))) (by kernel_rfl) (jg_tup (jgs_cons (jg_name 2) (jgs_cons (jg_name 3) (jgs_nil)))) (jts_one (jt_not (jt_val (je_callD d__law_just (s_law_just_ad54055br_0 1) (ja_cons (je_var 2) (ja_cons (je_var 3) (ja_nil))))))) (je_int)) (je_lst (ja_nil)))))) (jss_nil))
    (jss_cons (js_if (jt_isN (je_var 1)) (jss_one (js_ret (je_isN (je_var 0)))) (jss_nil))
    (jss_cons (js_if (jt_val (je_isi z_isinstance z_str (by decide +kernel) kit_str (je_var 1))) (jss_one (js_ret (je_and (je_isi z_isinstance z_str (by decide +kernel) kit_str (je_var 0)) (je_one (je_eq (je_var 0) (je_var 1)))))) (jss_nil))
    (jss_one (js_ret (je_and (je_callD d__law_whole s_law_whole_93584714_0 (ja_cons (je_var 0) (ja_nil))) (je_one (je_eq (je_var 0) (je_var 1))))))))) (by decide)
theorem ok__law_just_3 (A : At K mg "_law_just" st__law_just ["_law_thing", "_law_due"]) (sr : Sr P base) (d__law_just : Def2 P w K mg base "_law_just" 4 ["_law_thing", "_law_due"] 0 2 (s_law_just_ad54055br 2)) (d__law_whole : Def2 P w K mg base "_law_whole" 1 ["_law_thing"] 0 1 s_law_whole_93584714) (z_isinstance : mg "isinstance" = none) (z_tuple : mg "tuple" = none) (z_len : mg "len" = none) (z_zip : mg "zip" = none) (z_str : mg "str" = none) : Def2 P w K mg base "_law_just" 5 ["_law_thing", "_law_due"] 0 2 (s_law_just_ad54055br 3) := by
  obtain ⟨f, fd, F, hm, hb⟩ := A.ex
  refine ⟨f, fd, fn_ok (k := 4) (m := 0) (wb := w_law_just_ad54055b 2) sr F sc__law_just rfl (fun cdv A outer sh H E hr hg => ?_) (p_law_just_ad54055b 2), hm, F.kp, hb⟩
  exact JSs.cost (jss_cons (js_if (jt_val (je_isi z_isinstance z_tuple (by decide +kernel) kit_tuple (je_var 1))) (jss_cons (js_if (JW.t (jw_or (jt_not (jt_val (je_isi z_isinstance z_tuple (by decide +kernel) kit_tuple (je_var 0)))) (jw_or1 (jt_ne (je_len z_len (ja_cons (je_var 0) (ja_nil))) (je_len z_len (ja_cons (je_var 1) (ja_nil))))))) (jss_one (js_ret (je_bl))) (jss_nil))
    (jss_one (js_ret (je_eq (je_lc [("_law_one", 2), ("_law_other", 3)] (ji_zip z_zip (ja_cons (je_var 0) (ja_cons (je_var 1) (ja_nil)))) (by kernel_rfl) (jg_tup (jgs_cons (jg_name 2) (jgs_cons (jg_name 3) (jgs_nil)))) (jts_one (jt_not (jt_val (je_callD d__law_just (s_law_just_ad54055br_0 2) (ja_cons (je_var 2) (ja_cons (je_var 3) (ja_nil))))))) (je_int)) (je_lst (ja_nil)))))) (jss_nil))
    (jss_cons (js_if (jt_isN (je_var 1)) (jss_one (js_ret (je_isN (je_var 0)))) (jss_nil))
    (jss_cons (js_if (jt_val (je_isi z_isinstance z_str (by decide +kernel) kit_str (je_var 1))) (jss_one (js_ret (je_and (je_isi z_isinstance z_str (by decide +kernel) kit_str (je_var 0)) (je_one (je_eq (je_var 0) (je_var 1)))))) (jss_nil))
    (jss_one (js_ret (je_and (je_callD d__law_whole s_law_whole_93584714_0 (ja_cons (je_var 0) (ja_nil))) (je_one (je_eq (je_var 0) (je_var 1))))))))) (by decide)
theorem ok__law_just_4 (A : At K mg "_law_just" st__law_just ["_law_thing", "_law_due"]) (sr : Sr P base) (d__law_just : Def2 P w K mg base "_law_just" 5 ["_law_thing", "_law_due"] 0 2 (s_law_just_ad54055br 3)) (d__law_whole : Def2 P w K mg base "_law_whole" 1 ["_law_thing"] 0 1 s_law_whole_93584714) (z_isinstance : mg "isinstance" = none) (z_tuple : mg "tuple" = none) (z_len : mg "len" = none) (z_zip : mg "zip" = none) (z_str : mg "str" = none) : Def2 P w K mg base "_law_just" 6 ["_law_thing", "_law_due"] 0 2 (s_law_just_ad54055br 4) := by
  obtain ⟨f, fd, F, hm, hb⟩ := A.ex
  refine ⟨f, fd, fn_ok (k := 5) (m := 0) (wb := w_law_just_ad54055b 3) sr F sc__law_just rfl (fun cdv A outer sh H E hr hg => ?_) (p_law_just_ad54055b 3), hm, F.kp, hb⟩
  exact JSs.cost (jss_cons (js_if (jt_val (je_isi z_isinstance z_tuple (by decide +kernel) kit_tuple (je_var 1))) (jss_cons (js_if (JW.t (jw_or (jt_not (jt_val (je_isi z_isinstance z_tuple (by decide +kernel) kit_tuple (je_var 0)))) (jw_or1 (jt_ne (je_len z_len (ja_cons (je_var 0) (ja_nil))) (je_len z_len (ja_cons (je_var 1) (ja_nil))))))) (jss_one (js_ret (je_bl))) (jss_nil))
    (jss_one (js_ret (je_eq (je_lc [("_law_one", 2), ("_law_other", 3)] (ji_zip z_zip (ja_cons (je_var 0) (ja_cons (je_var 1) (ja_nil)))) (by kernel_rfl) (jg_tup (jgs_cons (jg_name 2) (jgs_cons (jg_name 3) (jgs_nil)))) (jts_one (jt_not (jt_val (je_callD d__law_just (s_law_just_ad54055br_0 3) (ja_cons (je_var 2) (ja_cons (je_var 3) (ja_nil))))))) (je_int)) (je_lst (ja_nil)))))) (jss_nil))
    (jss_cons (js_if (jt_isN (je_var 1)) (jss_one (js_ret (je_isN (je_var 0)))) (jss_nil))
    (jss_cons (js_if (jt_val (je_isi z_isinstance z_str (by decide +kernel) kit_str (je_var 1))) (jss_one (js_ret (je_and (je_isi z_isinstance z_str (by decide +kernel) kit_str (je_var 0)) (je_one (je_eq (je_var 0) (je_var 1)))))) (jss_nil))
    (jss_one (js_ret (je_and (je_callD d__law_whole s_law_whole_93584714_0 (ja_cons (je_var 0) (ja_nil))) (je_one (je_eq (je_var 0) (je_var 1))))))))) (by decide)
theorem ok__law_just_5 (A : At K mg "_law_just" st__law_just ["_law_thing", "_law_due"]) (sr : Sr P base) (d__law_just : Def2 P w K mg base "_law_just" 6 ["_law_thing", "_law_due"] 0 2 (s_law_just_ad54055br 4)) (d__law_whole : Def2 P w K mg base "_law_whole" 1 ["_law_thing"] 0 1 s_law_whole_93584714) (z_isinstance : mg "isinstance" = none) (z_tuple : mg "tuple" = none) (z_len : mg "len" = none) (z_zip : mg "zip" = none) (z_str : mg "str" = none) : Def2 P w K mg base "_law_just" 7 ["_law_thing", "_law_due"] 0 2 (s_law_just_ad54055br 5) := by
  obtain ⟨f, fd, F, hm, hb⟩ := A.ex
  refine ⟨f, fd, fn_ok (k := 6) (m := 0) (wb := w_law_just_ad54055b 4) sr F sc__law_just rfl (fun cdv A outer sh H E hr hg => ?_) (p_law_just_ad54055b 4), hm, F.kp, hb⟩
  exact JSs.cost (jss_cons (js_if (jt_val (je_isi z_isinstance z_tuple (by decide +kernel) kit_tuple (je_var 1))) (jss_cons (js_if (JW.t (jw_or (jt_not (jt_val (je_isi z_isinstance z_tuple (by decide +kernel) kit_tuple (je_var 0)))) (jw_or1 (jt_ne (je_len z_len (ja_cons (je_var 0) (ja_nil))) (je_len z_len (ja_cons (je_var 1) (ja_nil))))))) (jss_one (js_ret (je_bl))) (jss_nil))
    (jss_one (js_ret (je_eq (je_lc [("_law_one", 2), ("_law_other", 3)] (ji_zip z_zip (ja_cons (je_var 0) (ja_cons (je_var 1) (ja_nil)))) (by kernel_rfl) (jg_tup (jgs_cons (jg_name 2) (jgs_cons (jg_name 3) (jgs_nil)))) (jts_one (jt_not (jt_val (je_callD d__law_just (s_law_just_ad54055br_0 4) (ja_cons (je_var 2) (ja_cons (je_var 3) (ja_nil))))))) (je_int)) (je_lst (ja_nil)))))) (jss_nil))
    (jss_cons (js_if (jt_isN (je_var 1)) (jss_one (js_ret (je_isN (je_var 0)))) (jss_nil))
    (jss_cons (js_if (jt_val (je_isi z_isinstance z_str (by decide +kernel) kit_str (je_var 1))) (jss_one (js_ret (je_and (je_isi z_isinstance z_str (by decide +kernel) kit_str (je_var 0)) (je_one (je_eq (je_var 0) (je_var 1)))))) (jss_nil))
    (jss_one (js_ret (je_and (je_callD d__law_whole s_law_whole_93584714_0 (ja_cons (je_var 0) (ja_nil))) (je_one (je_eq (je_var 0) (je_var 1))))))))) (by decide)
theorem ok__law_just_6 (A : At K mg "_law_just" st__law_just ["_law_thing", "_law_due"]) (sr : Sr P base) (d__law_just : Def2 P w K mg base "_law_just" 7 ["_law_thing", "_law_due"] 0 2 (s_law_just_ad54055br 5)) (d__law_whole : Def2 P w K mg base "_law_whole" 1 ["_law_thing"] 0 1 s_law_whole_93584714) (z_isinstance : mg "isinstance" = none) (z_tuple : mg "tuple" = none) (z_len : mg "len" = none) (z_zip : mg "zip" = none) (z_str : mg "str" = none) : Def2 P w K mg base "_law_just" 8 ["_law_thing", "_law_due"] 0 2 (s_law_just_ad54055br 6) := by
  obtain ⟨f, fd, F, hm, hb⟩ := A.ex
  refine ⟨f, fd, fn_ok (k := 7) (m := 0) (wb := w_law_just_ad54055b 5) sr F sc__law_just rfl (fun cdv A outer sh H E hr hg => ?_) (p_law_just_ad54055b 5), hm, F.kp, hb⟩
  exact JSs.cost (jss_cons (js_if (jt_val (je_isi z_isinstance z_tuple (by decide +kernel) kit_tuple (je_var 1))) (jss_cons (js_if (JW.t (jw_or (jt_not (jt_val (je_isi z_isinstance z_tuple (by decide +kernel) kit_tuple (je_var 0)))) (jw_or1 (jt_ne (je_len z_len (ja_cons (je_var 0) (ja_nil))) (je_len z_len (ja_cons (je_var 1) (ja_nil))))))) (jss_one (js_ret (je_bl))) (jss_nil))
    (jss_one (js_ret (je_eq (je_lc [("_law_one", 2), ("_law_other", 3)] (ji_zip z_zip (ja_cons (je_var 0) (ja_cons (je_var 1) (ja_nil)))) (by kernel_rfl) (jg_tup (jgs_cons (jg_name 2) (jgs_cons (jg_name 3) (jgs_nil)))) (jts_one (jt_not (jt_val (je_callD d__law_just (s_law_just_ad54055br_0 5) (ja_cons (je_var 2) (ja_cons (je_var 3) (ja_nil))))))) (je_int)) (je_lst (ja_nil)))))) (jss_nil))
    (jss_cons (js_if (jt_isN (je_var 1)) (jss_one (js_ret (je_isN (je_var 0)))) (jss_nil))
    (jss_cons (js_if (jt_val (je_isi z_isinstance z_str (by decide +kernel) kit_str (je_var 1))) (jss_one (js_ret (je_and (je_isi z_isinstance z_str (by decide +kernel) kit_str (je_var 0)) (je_one (je_eq (je_var 0) (je_var 1)))))) (jss_nil))
    (jss_one (js_ret (je_and (je_callD d__law_whole s_law_whole_93584714_0 (ja_cons (je_var 0) (ja_nil))) (je_one (je_eq (je_var 0) (je_var 1))))))))) (by decide)
theorem ok__law_just_7 (A : At K mg "_law_just" st__law_just ["_law_thing", "_law_due"]) (sr : Sr P base) (d__law_just : Def2 P w K mg base "_law_just" 8 ["_law_thing", "_law_due"] 0 2 (s_law_just_ad54055br 6)) (d__law_whole : Def2 P w K mg base "_law_whole" 1 ["_law_thing"] 0 1 s_law_whole_93584714) (z_isinstance : mg "isinstance" = none) (z_tuple : mg "tuple" = none) (z_len : mg "len" = none) (z_zip : mg "zip" = none) (z_str : mg "str" = none) : Def2 P w K mg base "_law_just" 9 ["_law_thing", "_law_due"] 0 2 (s_law_just_ad54055br 7) := by
  obtain ⟨f, fd, F, hm, hb⟩ := A.ex
  refine ⟨f, fd, fn_ok (k := 8) (m := 0) (wb := w_law_just_ad54055b 6) sr F sc__law_just rfl (fun cdv A outer sh H E hr hg => ?_) (p_law_just_ad54055b 6), hm, F.kp, hb⟩
  exact JSs.cost (jss_cons (js_if (jt_val (je_isi z_isinstance z_tuple (by decide +kernel) kit_tuple (je_var 1))) (jss_cons (js_if (JW.t (jw_or (jt_not (jt_val (je_isi z_isinstance z_tuple (by decide +kernel) kit_tuple (je_var 0)))) (jw_or1 (jt_ne (je_len z_len (ja_cons (je_var 0) (ja_nil))) (je_len z_len (ja_cons (je_var 1) (ja_nil))))))) (jss_one (js_ret (je_bl))) (jss_nil))
    (jss_one (js_ret (je_eq (je_lc [("_law_one", 2), ("_law_other", 3)] (ji_zip z_zip (ja_cons (je_var 0) (ja_cons (je_var 1) (ja_nil)))) (by kernel_rfl) (jg_tup (jgs_cons (jg_name 2) (jgs_cons (jg_name 3) (jgs_nil)))) (jts_one (jt_not (jt_val (je_callD d__law_just (s_law_just_ad54055br_0 6) (ja_cons (je_var 2) (ja_cons (je_var 3) (ja_nil))))))) (je_int)) (je_lst (ja_nil)))))) (jss_nil))
    (jss_cons (js_if (jt_isN (je_var 1)) (jss_one (js_ret (je_isN (je_var 0)))) (jss_nil))
    (jss_cons (js_if (jt_val (je_isi z_isinstance z_str (by decide +kernel) kit_str (je_var 1))) (jss_one (js_ret (je_and (je_isi z_isinstance z_str (by decide +kernel) kit_str (je_var 0)) (je_one (je_eq (je_var 0) (je_var 1)))))) (jss_nil))
    (jss_one (js_ret (je_and (je_callD d__law_whole s_law_whole_93584714_0 (ja_cons (je_var 0) (ja_nil))) (je_one (je_eq (je_var 0) (je_var 1))))))))) (by decide)
theorem ok__law_just_8 (A : At K mg "_law_just" st__law_just ["_law_thing", "_law_due"]) (sr : Sr P base) (d__law_just : Def2 P w K mg base "_law_just" 9 ["_law_thing", "_law_due"] 0 2 (s_law_just_ad54055br 7)) (d__law_whole : Def2 P w K mg base "_law_whole" 1 ["_law_thing"] 0 1 s_law_whole_93584714) (z_isinstance : mg "isinstance" = none) (z_tuple : mg "tuple" = none) (z_len : mg "len" = none) (z_zip : mg "zip" = none) (z_str : mg "str" = none) : Def2 P w K mg base "_law_just" 10 ["_law_thing", "_law_due"] 0 2 (s_law_just_ad54055br 8) := by
  obtain ⟨f, fd, F, hm, hb⟩ := A.ex
  refine ⟨f, fd, fn_ok (k := 9) (m := 0) (wb := w_law_just_ad54055b 7) sr F sc__law_just rfl (fun cdv A outer sh H E hr hg => ?_) (p_law_just_ad54055b 7), hm, F.kp, hb⟩
  exact JSs.cost (jss_cons (js_if (jt_val (je_isi z_isinstance z_tuple (by decide +kernel) kit_tuple (je_var 1))) (jss_cons (js_if (JW.t (jw_or (jt_not (jt_val (je_isi z_isinstance z_tuple (by decide +kernel) kit_tuple (je_var 0)))) (jw_or1 (jt_ne (je_len z_len (ja_cons (je_var 0) (ja_nil))) (je_len z_len (ja_cons (je_var 1) (ja_nil))))))) (jss_one (js_ret (je_bl))) (jss_nil))
    (jss_one (js_ret (je_eq (je_lc [("_law_one", 2), ("_law_other", 3)] (ji_zip z_zip (ja_cons (je_var 0) (ja_cons (je_var 1) (ja_nil)))) (by kernel_rfl) (jg_tup (jgs_cons (jg_name 2) (jgs_cons (jg_name 3) (jgs_nil)))) (jts_one (jt_not (jt_val (je_callD d__law_just (s_law_just_ad54055br_0 7) (ja_cons (je_var 2) (ja_cons (je_var 3) (ja_nil))))))) (je_int)) (je_lst (ja_nil)))))) (jss_nil))
    (jss_cons (js_if (jt_isN (je_var 1)) (jss_one (js_ret (je_isN (je_var 0)))) (jss_nil))
    (jss_cons (js_if (jt_val (je_isi z_isinstance z_str (by decide +kernel) kit_str (je_var 1))) (jss_one (js_ret (je_and (je_isi z_isinstance z_str (by decide +kernel) kit_str (je_var 0)) (je_one (je_eq (je_var 0) (je_var 1)))))) (jss_nil))
    (jss_one (js_ret (je_and (je_callD d__law_whole s_law_whole_93584714_0 (ja_cons (je_var 0) (ja_nil))) (je_one (je_eq (je_var 0) (je_var 1))))))))) (by decide)
theorem ok__law_just_9 (A : At K mg "_law_just" st__law_just ["_law_thing", "_law_due"]) (sr : Sr P base) (d__law_just : Def2 P w K mg base "_law_just" 10 ["_law_thing", "_law_due"] 0 2 (s_law_just_ad54055br 8)) (d__law_whole : Def2 P w K mg base "_law_whole" 1 ["_law_thing"] 0 1 s_law_whole_93584714) (z_isinstance : mg "isinstance" = none) (z_tuple : mg "tuple" = none) (z_len : mg "len" = none) (z_zip : mg "zip" = none) (z_str : mg "str" = none) : Def2 P w K mg base "_law_just" 11 ["_law_thing", "_law_due"] 0 2 (s_law_just_ad54055br 9) := by
  obtain ⟨f, fd, F, hm, hb⟩ := A.ex
  refine ⟨f, fd, fn_ok (k := 10) (m := 0) (wb := w_law_just_ad54055b 8) sr F sc__law_just rfl (fun cdv A outer sh H E hr hg => ?_) (p_law_just_ad54055b 8), hm, F.kp, hb⟩
  exact JSs.cost (jss_cons (js_if (jt_val (je_isi z_isinstance z_tuple (by decide +kernel) kit_tuple (je_var 1))) (jss_cons (js_if (JW.t (jw_or (jt_not (jt_val (je_isi z_isinstance z_tuple (by decide +kernel) kit_tuple (je_var 0)))) (jw_or1 (jt_ne (je_len z_len (ja_cons (je_var 0) (ja_nil))) (je_len z_len (ja_cons (je_var 1) (ja_nil))))))) (jss_one (js_ret (je_bl))) (jss_nil))
    (jss_one (js_ret (je_eq (je_lc [("_law_one", 2), ("_law_other", 3)] (ji_zip z_zip (ja_cons (je_var 0) (ja_cons (je_var 1) (ja_nil)))) (by kernel_rfl) (jg_tup (jgs_cons (jg_name 2) (jgs_cons (jg_name 3) (jgs_nil)))) (jts_one (jt_not (jt_val (je_callD d__law_just (s_law_just_ad54055br_0 8) (ja_cons (je_var 2) (ja_cons (je_var 3) (ja_nil))))))) (je_int)) (je_lst (ja_nil)))))) (jss_nil))
    (jss_cons (js_if (jt_isN (je_var 1)) (jss_one (js_ret (je_isN (je_var 0)))) (jss_nil))
    (jss_cons (js_if (jt_val (je_isi z_isinstance z_str (by decide +kernel) kit_str (je_var 1))) (jss_one (js_ret (je_and (je_isi z_isinstance z_str (by decide +kernel) kit_str (je_var 0)) (je_one (je_eq (je_var 0) (je_var 1)))))) (jss_nil))
    (jss_one (js_ret (je_and (je_callD d__law_whole s_law_whole_93584714_0 (ja_cons (je_var 0) (ja_nil))) (je_one (je_eq (je_var 0) (je_var 1))))))))) (by decide)
theorem ok__law_just_10 (A : At K mg "_law_just" st__law_just ["_law_thing", "_law_due"]) (sr : Sr P base) (d__law_just : Def2 P w K mg base "_law_just" 11 ["_law_thing", "_law_due"] 0 2 (s_law_just_ad54055br 9)) (d__law_whole : Def2 P w K mg base "_law_whole" 1 ["_law_thing"] 0 1 s_law_whole_93584714) (z_isinstance : mg "isinstance" = none) (z_tuple : mg "tuple" = none) (z_len : mg "len" = none) (z_zip : mg "zip" = none) (z_str : mg "str" = none) : Def2 P w K mg base "_law_just" 12 ["_law_thing", "_law_due"] 0 2 (s_law_just_ad54055br 10) := by
  obtain ⟨f, fd, F, hm, hb⟩ := A.ex
  refine ⟨f, fd, fn_ok (k := 11) (m := 0) (wb := w_law_just_ad54055b 9) sr F sc__law_just rfl (fun cdv A outer sh H E hr hg => ?_) (p_law_just_ad54055b 9), hm, F.kp, hb⟩
  exact JSs.cost (jss_cons (js_if (jt_val (je_isi z_isinstance z_tuple (by decide +kernel) kit_tuple (je_var 1))) (jss_cons (js_if (JW.t (jw_or (jt_not (jt_val (je_isi z_isinstance z_tuple (by decide +kernel) kit_tuple (je_var 0)))) (jw_or1 (jt_ne (je_len z_len (ja_cons (je_var 0) (ja_nil))) (je_len z_len (ja_cons (je_var 1) (ja_nil))))))) (jss_one (js_ret (je_bl))) (jss_nil))
    (jss_one (js_ret (je_eq (je_lc [("_law_one", 2), ("_law_other", 3)] (ji_zip z_zip (ja_cons (je_var 0) (ja_cons (je_var 1) (ja_nil)))) (by kernel_rfl) (jg_tup (jgs_cons (jg_name 2) (jgs_cons (jg_name 3) (jgs_nil)))) (jts_one (jt_not (jt_val (je_callD d__law_just (s_law_just_ad54055br_0 9) (ja_cons (je_var 2) (ja_cons (je_var 3) (ja_nil))))))) (je_int)) (je_lst (ja_nil)))))) (jss_nil))
    (jss_cons (js_if (jt_isN (je_var 1)) (jss_one (js_ret (je_isN (je_var 0)))) (jss_nil))
    (jss_cons (js_if (jt_val (je_isi z_isinstance z_str (by decide +kernel) kit_str (je_var 1))) (jss_one (js_ret (je_and (je_isi z_isinstance z_str (by decide +kernel) kit_str (je_var 0)) (je_one (je_eq (je_var 0) (je_var 1)))))) (jss_nil))
    (jss_one (js_ret (je_and (je_callD d__law_whole s_law_whole_93584714_0 (ja_cons (je_var 0) (ja_nil))) (je_one (je_eq (je_var 0) (je_var 1))))))))) (by decide)
theorem ok__law_just_11 (A : At K mg "_law_just" st__law_just ["_law_thing", "_law_due"]) (sr : Sr P base) (d__law_just : Def2 P w K mg base "_law_just" 12 ["_law_thing", "_law_due"] 0 2 (s_law_just_ad54055br 10)) (d__law_whole : Def2 P w K mg base "_law_whole" 1 ["_law_thing"] 0 1 s_law_whole_93584714) (z_isinstance : mg "isinstance" = none) (z_tuple : mg "tuple" = none) (z_len : mg "len" = none) (z_zip : mg "zip" = none) (z_str : mg "str" = none) : Def2 P w K mg base "_law_just" 13 ["_law_thing", "_law_due"] 0 2 (s_law_just_ad54055br 11) := by
  obtain ⟨f, fd, F, hm, hb⟩ := A.ex
  refine ⟨f, fd, fn_ok (k := 12) (m := 0) (wb := w_law_just_ad54055b 10) sr F sc__law_just rfl (fun cdv A outer sh H E hr hg => ?_) (p_law_just_ad54055b 10), hm, F.kp, hb⟩
  exact JSs.cost (jss_cons (js_if (jt_val (je_isi z_isinstance z_tuple (by decide +kernel) kit_tuple (je_var 1))) (jss_cons (js_if (JW.t (jw_or (jt_not (jt_val (je_isi z_isinstance z_tuple (by decide +kernel) kit_tuple (je_var 0)))) (jw_or1 (jt_ne (je_len z_len (ja_cons (je_var 0) (ja_nil))) (je_len z_len (ja_cons (je_var 1) (ja_nil))))))) (jss_one (js_ret (je_bl))) (jss_nil))
    (jss_one (js_ret (je_eq (je_lc [("_law_one", 2), ("_law_other", 3)] (ji_zip z_zip (ja_cons (je_var 0) (ja_cons (je_var 1) (ja_nil)))) (by kernel_rfl) (jg_tup (jgs_cons (jg_name 2) (jgs_cons (jg_name 3) (jgs_nil)))) (jts_one (jt_not (jt_val (je_callD d__law_just (s_law_just_ad54055br_0 10) (ja_cons (je_var 2) (ja_cons (je_var 3) (ja_nil))))))) (je_int)) (je_lst (ja_nil)))))) (jss_nil))
    (jss_cons (js_if (jt_isN (je_var 1)) (jss_one (js_ret (je_isN (je_var 0)))) (jss_nil))
    (jss_cons (js_if (jt_val (je_isi z_isinstance z_str (by decide +kernel) kit_str (je_var 1))) (jss_one (js_ret (je_and (je_isi z_isinstance z_str (by decide +kernel) kit_str (je_var 0)) (je_one (je_eq (je_var 0) (je_var 1)))))) (jss_nil))
    (jss_one (js_ret (je_and (je_callD d__law_whole s_law_whole_93584714_0 (ja_cons (je_var 0) (ja_nil))) (je_one (je_eq (je_var 0) (je_var 1))))))))) (by decide)
theorem ok__law_just_12 (A : At K mg "_law_just" st__law_just ["_law_thing", "_law_due"]) (sr : Sr P base) (d__law_just : Def2 P w K mg base "_law_just" 13 ["_law_thing", "_law_due"] 0 2 (s_law_just_ad54055br 11)) (d__law_whole : Def2 P w K mg base "_law_whole" 1 ["_law_thing"] 0 1 s_law_whole_93584714) (z_isinstance : mg "isinstance" = none) (z_tuple : mg "tuple" = none) (z_len : mg "len" = none) (z_zip : mg "zip" = none) (z_str : mg "str" = none) : Def2 P w K mg base "_law_just" 14 ["_law_thing", "_law_due"] 0 2 (s_law_just_ad54055br 12) := by
  obtain ⟨f, fd, F, hm, hb⟩ := A.ex
  refine ⟨f, fd, fn_ok (k := 13) (m := 0) (wb := w_law_just_ad54055b 11) sr F sc__law_just rfl (fun cdv A outer sh H E hr hg => ?_) (p_law_just_ad54055b 11), hm, F.kp, hb⟩
  exact JSs.cost (jss_cons (js_if (jt_val (je_isi z_isinstance z_tuple (by decide +kernel) kit_tuple (je_var 1))) (jss_cons (js_if (JW.t (jw_or (jt_not (jt_val (je_isi z_isinstance z_tuple (by decide +kernel) kit_tuple (je_var 0)))) (jw_or1 (jt_ne (je_len z_len (ja_cons (je_var 0) (ja_nil))) (je_len z_len (ja_cons (je_var 1) (ja_nil))))))) (jss_one (js_ret (je_bl))) (jss_nil))
    (jss_one (js_ret (je_eq (je_lc [("_law_one", 2), ("_law_other", 3)] (ji_zip z_zip (ja_cons (je_var 0) (ja_cons (je_var 1) (ja_nil)))) (by kernel_rfl) (jg_tup (jgs_cons (jg_name 2) (jgs_cons (jg_name 3) (jgs_nil)))) (jts_one (jt_not (jt_val (je_callD d__law_just (s_law_just_ad54055br_0 11) (ja_cons (je_var 2) (ja_cons (je_var 3) (ja_nil))))))) (je_int)) (je_lst (ja_nil)))))) (jss_nil))
    (jss_cons (js_if (jt_isN (je_var 1)) (jss_one (js_ret (je_isN (je_var 0)))) (jss_nil))
    (jss_cons (js_if (jt_val (je_isi z_isinstance z_str (by decide +kernel) kit_str (je_var 1))) (jss_one (js_ret (je_and (je_isi z_isinstance z_str (by decide +kernel) kit_str (je_var 0)) (je_one (je_eq (je_var 0) (je_var 1)))))) (jss_nil))
    (jss_one (js_ret (je_and (je_callD d__law_whole s_law_whole_93584714_0 (ja_cons (je_var 0) (ja_nil))) (je_one (je_eq (je_var 0) (je_var 1))))))))) (by decide)
abbrev st__law_fraction_text : Stmt := top 38
--USES reads
def s_law_fraction_text_112bd051 : Spec2 := fun xs k _ => ∃ r : Rat, xs = [.d (frD r)] ∧ Sz 10000 r ∧ k (.d (.str (frS r)))
theorem s_law_fraction_text_112bd051_0 : ∀ xs k e, s_law_fraction_text_112bd051 xs k e → s_law_fraction_text_112bd051 xs k fun _ => False := fun _ _ _ h => h

def w_law_fraction_text_112bd051_r1 : WS :=
  wRet (wBin addD (wBin addD (wCB cbStrB (wCons (wBin ixD (wVar 0) (wC (.int 0))) (wNil))) (wC (.str "/"))) (wCB cbStrB (wCons (wBin ixD (wVar 0) (wC (.int 1))) (wNil))))
def w_law_fraction_text_112bd051 : WS :=
  wSeq (wIf (wTest (wBin eqD (wBin ixD (wVar 0) (wC (.int 1))) (wC (.int 1)))) (wRet (wCB cbStrB (wCons (wBin ixD (wVar 0) (wC (.int 0))) (wNil)))) (wNext))
  (w_law_fraction_text_112bd051_r1)

theorem p_law_fraction_text_112bd051 : ∀ xs k e, s_law_fraction_text_112bd051 xs k e → runB w_law_fraction_text_112bd051 xs k fun _ => False := by
  rintro xs k e ⟨r, rfl, hr, hk⟩
  have h1 : r.num.natAbs < 10 ^ 4300 := big_lt hr.1
  have h2 : ((r.den : Nat) : Int).natAbs < 10 ^ 4300 := by rw [Int.natAbs_natCast]; exact big_lt hr.2
  have l1 := big_len hr.1
  have l2 := big_len hr.2
  have e1 := toS_int r.num
  have e2 := toS_nat r.den
  have e47 : Str.ofString "/" = SX.S [47] := rfl
  have lk : (Str.ofString "/").length = 1 := rfl
  have la : (SX.S (ntL r.num)).length ≤ 3101 := by
    rw [SX.S_len]; unfold ntL sgnL
    split <;> simp only [List.length_append, List.length_cons, List.length_nil] <;> omega
  have lb : (numS r.den).length ≤ 3100 := by unfold numS; rw [SX.S_len]; exact l2
  by_cases hd : r.den = 1
  · have hf : figL r = ntL r.num := by unfold figL; rw [if_pos hd, List.append_nil]
    (walk_at "bk T")
    first | refine iteY' ?_ ?_ | refine recY ?_ ?_
    · rw [eqv_int, hd]; rfl
    (walk_at "bk T")
    rw [e1, ← hf]
    exact hk
  · have hf : figL r = ntL r.num ++ 47 :: TL.numL r.den := by unfold figL; rw [if_neg hd]
    (walk_at "bk T")
    first | refine iteN' ?_ ?_ | refine recN ?_ ?_
    · rw [eqv_int, beq_iff_eq]; omega
    (walk_at "bk T")
    rw [e1]
    refine ⟨by omega, ?_⟩
    (walk_at "bk T")
    rw [e2, e47, S_cat]
    refine ⟨?_, ?_⟩
    · rw [SX.S_len, List.length_append]
      rw [SX.S_len] at la
      simp only [List.length_cons, List.length_nil]; omega
    (walk_at "bk T")
    have e3 : SX.S (ntL r.num ++ [47]) ++ numS r.den = frS r := by
      unfold numS frS
      rw [S_cat, hf, List.append_assoc]; rfl
    rw [e3]
    exact hk

theorem sc__law_fraction_text : FnScope ["_law_one"] ["_law_one"] (defScope st__law_fraction_text) := ⟨rfl, rfl, rfl, by decide +kernel, rfl, by decide +kernel, by decide +kernel⟩
theorem ok__law_fraction_text (A : At K mg "_law_fraction_text" st__law_fraction_text ["_law_one"]) (sr : Sr P base) (z_figures__ : PySem.W.nsIn K cStatics "sys.int_max_str_digits" = some none) (z_str : mg "str" = none) : Def2 P w K mg base "_law_fraction_text" 1 ["_law_one"] 0 1 s_law_fraction_text_112bd051 := by
  obtain ⟨f, fd, F, hm, hb⟩ := A.ex
  refine ⟨f, fd, fn_ok (k := 0) (m := 0) (wb := w_law_fraction_text_112bd051) sr F sc__law_fraction_text rfl (fun cdv A outer sh H E hr hg => ?_) p_law_fraction_text_112bd051, hm, F.kp, hb⟩
  exact JSs.cost (jss_cons (js_if (jt_eq (je_ix (je_var 0) (je_int)) (je_int)) (jss_one (js_ret (je_strB z_figures__ z_str (ja_cons (je_ix (je_var 0) (je_int)) (ja_nil))))) (jss_nil))
    (jss_one (js_ret (je_add (je_add (je_strB z_figures__ z_str (ja_cons (je_ix (je_var 0) (je_int)) (ja_nil))) (je_str)) (je_strB z_figures__ z_str (ja_cons (je_ix (je_var 0) (je_int)) (ja_nil))))))) (by decide)
abbrev st__law_fraction_of : Stmt := top 39
--USES reads
def s_law_fraction_of_4f0d6c37 : Spec2 := fun xs k _ => ∃ l : List Nat, xs = [.d (.str (SX.S l))] ∧ l.length ≤ 100000 ∧ k (.d (frcD l))
theorem s_law_fraction_of_4f0d6c37_0 : ∀ xs k e, s_law_fraction_of_4f0d6c37 xs k e → s_law_fraction_of_4f0d6c37 xs k fun _ => False := fun _ _ _ h => h

def w_law_fraction_of_4f0d6c37_r1 : WS :=
  wIf (wTest (wBin neD (wLc [7] (wSeqI (wVar 5)) (gN 7) (wTest (wBin (inD true) (wVar 7) (wC (.str "0123456789")))) (wVar 7)) (wLst (wNil)))) (wRet (wC .none)) (wNext)
def w_law_fraction_of_4f0d6c37_l1 : WS :=
  wSeq (wIf (wOr (wTest (wBin eqD (wVar 5) (wC (.str "")))) (wOr (wTest (wBin gtD (wCB cbLen (wCons (wVar 5) (wNil))) (wC (.int 300)))) (wAnd (wTest (wBin eqD (wBin ixD (wVar 5) (wC (.int 0))) (wC (.str "0")))) (wTest (wBin neD (wVar 5) (wC (.str "0"))))))) (wRet (wC .none)) (wNext))
  (w_law_fraction_of_4f0d6c37_r1)
def w_law_fraction_of_4f0d6c37_r2 : WS :=
  wRet (wVar 6)
def w_law_fraction_of_4f0d6c37_r3 : WS :=
  wSeq (wAsg 6 true (wTup (wCons (wBin mulX (wCB cbInt (wCons (wVar 2) (wNil))) (wBin subD (wC (.int 1)) (wBin mulX (wC (.int 2)) (wVar 1)))) (wCons (wCB cbInt (wCons (wVar 4) (wNil))) (wNil)))))
  (wSeq (wIf (wOr (wTest (wBin ltD (wBin ixD (wVar 6) (wC (.int 1))) (wC (.int 2)))) (wTest (wBin neD (wCall s_law_lowest_bd3ba674 (wCons (wBin ixD (wVar 6) (wC (.int 0))) (wCons (wBin ixD (wVar 6) (wC (.int 1))) (wNil)))) (wVar 6)))) (wRet (wC .none)) (wNext))
  (w_law_fraction_of_4f0d6c37_r2))
def w_law_fraction_of_4f0d6c37_r4 : WS :=
  wSeq (wIf (wTest (wBin eqD (wVar 3) (wC (.str "")))) (wRet (wBin ixD (wLst (wCons (wTup (wCons (wBin mulX (wCB cbInt (wCons (wVar 2) (wNil))) (wBin subD (wC (.int 1)) (wBin mulX (wC (.int 2)) (wVar 1)))) (wCons (wC (.int 1)) (wNil)))) (wCons (wC .none) (wNil)))) (wCB cbInt (wCons (wBin eqD (wVar 0) (wC (.str "-0"))) (wNil))))) (wNext))
  (w_law_fraction_of_4f0d6c37_r3)
def w_law_fraction_of_4f0d6c37 : WS :=
  wSeq (wAsg 1 true (wCB cbInt (wCons (wBin eqD (wSl (wVar 0) (none) (some (wC (.int 1)))) (wC (.str "-"))) (wNil))))
  (wSeq (wAsgT (gTup2 3 (gCons2 (gN 2) (gCons2 (gN 3) (gCons2 (gN 4) (gNil2))))) (wM1 partD (wSl (wVar 0) (some (wVar 1)) (none)) (wC (.str "/"))))
  (wSeq (wFor (wSeqI (wBin addD (wLst (wCons (wVar 2) (wNil))) (wBin mulX (wLst (wCons (wVar 4) (wNil))) (wCB cbLen (wCons (wVar 3) (wNil)))))) (gN 5) w_law_fraction_of_4f0d6c37_l1)
  (w_law_fraction_of_4f0d6c37_r4)))

theorem w_law_fraction_of_4f0d6c37_step {p : List Nat} {D : Ends2} {ρ : B2.Env} (lp : p.length ≤ 100000) (h : has ρ [(5, .d (.str (SX.S p)))]) (no : cnB p 300 = false → D.rt (.d .none)) (yes : cnB p 300 = true → D.nx ρ) : w_law_fraction_of_4f0d6c37_l1 D ρ := by
  have sl : (SX.S p).length = p.length := SX.S_len p
  have sc : (SX.S p).cps.toList = p := by simp [SX.S]
  obtain ⟨R1, eR1⟩ : ∃ R, R = w_law_fraction_of_4f0d6c37_r1 := ⟨_, rfl⟩
  have hρ := has_put h
  rw [hρ] at yes ⊢
  unfold w_law_fraction_of_4f0d6c37_l1
  rw [← eR1]
  have h0 : PyData.eqv (.str (SX.S p)) (.str (Str.ofString "")) = decide (p = []) := by
    rw [eqv_str, Bool.eq_iff_iff, beq_iff_eq, decide_eq_true_eq]
    constructor
    · intro z
      have := congrArg TL.tl z
      rw [tl_SX] at this
      exact this
    · intro z; rw [z]; rfl
  by_cases he : p = []
  · have no := no (by rw [he]; rfl)
    (walk_at "bk T")
    first | refine iteY' ?_ ?_ | refine recY ?_ ?_
    · rw [h0, decide_eq_true he]
    (walk_at "bk T")
    exact no
  (walk_at "bk T")
  first | refine iteN' ?_ ?_ | refine recN ?_ ?_
  · rw [h0, decide_eq_true_eq]; exact he
  (walk_at "bk T")
  by_cases hb : (300 : Int) < p.length
  · have no := no (by unfold cnB; rw [decide_eq_false (by omega : ¬ (1 ≤ p.length ∧ p.length ≤ 300))]; rfl)
    (walk_at "bk T")
    first | refine iteY' ?_ ?_ | refine recY ?_ ?_
    · rw [decide_eq_true_eq]; omega
    (walk_at "bk T")
    exact no
  (walk_at "bk T")
  first | refine iteN' ?_ ?_ | refine recN ?_ ?_
  · rw [decide_eq_true_eq]; omega
  have hlen : decide (1 ≤ p.length ∧ p.length ≤ 300) = true := decide_eq_true ⟨List.length_pos_iff.mpr he, by omega⟩
  have fin : zeroB p = false → R1 D (put ρ [(5, .d (.str (SX.S p)))]) := fun hz => by
    rw [eR1]
    unfold w_law_fraction_of_4f0d6c37_r1
    have yes : p.all digC = true → D.nx (put ρ [(5, .d (.str (SX.S p)))]) := fun h => yes (by unfold cnB; rw [hlen, hz, h]; rfl)
    have no : p.all digC = false → D.rt (.d .none) := fun h => no (by unfold cnB; rw [hlen, hz, h]; rfl)
    have e1 : signs (SX.S p) = p.map fun c => PyData.str ⟨#[c]⟩ := by
      show (SX.S p).cps.toList.map _ = _
      rw [sc]
    have ls : (signs (SX.S p)).length ≤ 16777216 := by rw [e1, List.length_map]; omega
    (walk_at "bk T")
    refine lcL_pure (enc := fun c : Nat => PyData.str ⟨#[c]⟩) (p := fun c => !(digC c)) (g := fun c : Nat => PyData.str ⟨#[c]⟩) p e1 (fun c hc R S h1 h2 => ?_) ?_
    · have hin := dig_in c
      cases hc2 : digC c with
      | false =>
        rw [hc2] at hin
        (walk_at "bk T")
        first | refine iteY' ?_ ?_ | refine recY ?_ ?_
        · exact hin
        (walk_at "bk T")
        exact h1 (by rw [hc2]; rfl)
      | true =>
        rw [hc2] at hin
        (walk_at "bk T")
        first | refine iteN' ?_ ?_ | refine recN ?_ ?_
        · show ¬ (Builtin.Str.occurrences (Str.ofString "0123456789") (⟨#[c]⟩ : Str) 0 (Str.ofString "0123456789").length 1).isEmpty = true
          rw [hin]; decide
        (walk_at "bk T")
        exact h2 (by rw [hc2]; rfl)
    · have e2 : ((p.filter fun c => !(digC c)).map fun c : Nat => PyData.str ⟨#[c]⟩).isEmpty = p.all digC := by
        rw [List.isEmpty_map, Bool.eq_iff_iff, List.isEmpty_iff, List.filter_eq_nil_iff, List.all_eq_true]
        constructor
        · intro h x hx
          have := h x hx
          simpa using this
        · intro h x hx
          rw [h x hx]; simp
      (walk_at "bk T")
      rw [eqv_nil, e2]
      cases hall : p.all digC with
      | true =>
        (walk_at "bk T")
        exact yes hall
      | false =>
        (walk_at "bk T")
        exact no hall
  obtain ⟨c, r, ec⟩ : ∃ c r, p = c :: r := by
    cases p with
    | nil => exact (he rfl).elim
    | cons c r => exact ⟨c, r, rfl⟩
  have e0 : atI (SX.S p).cps.toList 0 = some c := by rw [sc, ec]; exact at_0 c r
  (walk_at "bk T")
  rw [e0]
  (walk_at "bk T")
  by_cases h48 : c = 48
  · first | refine iteY' ?_ ?_ | refine recY ?_ ?_
    · rw [eqv_str, h48]; rfl
    (walk_at "bk T")
    have e3 : PyData.eqv (.str (SX.S p)) (.str (Str.ofString "0")) = decide (p = [48]) := by
      rw [eqv_str, Bool.eq_iff_iff, beq_iff_eq, decide_eq_true_eq]
      constructor
      · intro z
        have := congrArg TL.tl z
        rw [tl_SX] at this
        exact this
      · intro z; rw [z]; rfl
    by_cases h1 : p = [48]
    · first | refine iteN' ?_ ?_ | refine recN ?_ ?_
      · rw [e3, decide_eq_true h1]; decide
      (walk_at "bk T")
      exact fin (by rw [h1]; rfl)
    · have no := no (by
        have hz : zeroB p = true := by
          unfold zeroB
          have hl1 : 1 < p.length := by
            rw [ec, h48] at h1 ⊢
            cases r with
            | nil => exact (h1 rfl).elim
            | cons x y => simp
          rw [decide_eq_true hl1, ec, h48]; rfl
        unfold cnB
        rw [hz]; simp)
      first | refine iteY' ?_ ?_ | refine recY ?_ ?_
      · rw [e3, decide_eq_false h1]; rfl
      (walk_at "bk T")
      exact no
  · first | refine iteN' ?_ ?_ | refine recN ?_ ?_
    · rw [eqv_str, beq_iff_eq]
      intro z
      have := congrArg (fun s : Str => s.cps.toList) z
      have : [c] = [48] := this
      exact h48 (by simpa using this)
    (walk_at "bk T")
    exact fin (by
      unfold zeroB
      rw [ec]
      have : ((c :: r).head? == some 48) = false := by
        show (some c == some 48) = false
        rw [beq_eq_false_iff_ne]
        intro q; cases q; exact h48 rfl
      rw [this, Bool.and_false])
theorem p_law_fraction_of_4f0d6c37 : ∀ xs k e, s_law_fraction_of_4f0d6c37 xs k e → runB w_law_fraction_of_4f0d6c37 xs k fun _ => False := by
  rintro xs k e ⟨l, rfl, hl, hk⟩
  have sl : (SX.S l).length = l.length := SX.S_len l
  have hs1 : PyData.eqv (.str (cutS (SX.S l) none (some 1))) (.str (Str.ofString "-")) = ngB l := by
    rw [eqv_str, show (some (1 : Int)) = some ((1 : Nat) : Int) from rfl, cutS_S, cutL_to]
    cases l with
    | nil => rfl
    | cons c r =>
      show (SX.S [c] == SX.S [45]) = (some c == some 45)
      rw [Bool.eq_iff_iff, beq_iff_eq, beq_iff_eq]
      constructor
      · intro z
        have := congrArg TL.tl z
        rw [tl_SX, tl_SX] at this
        cases this; rfl
      · intro z; cases z; rfl
  have hw : (bodO l).length ≤ 100000 := by
    unfold bodO
    split
    · rw [List.length_drop]; omega
    · exact hl
  have hcut : cutS (SX.S l) (some (if ngB l = true then 1 else 0)) none = SX.S (bodO l) := by
    unfold bodO
    cases ngB l with
    | true =>
      rw [if_pos rfl, if_pos rfl, show (some (1 : Int)) = some ((1 : Nat) : Int) from rfl, cutS_S, cutL_from]
    | false =>
      rw [if_neg (by decide), if_neg (by decide), show (some (0 : Int)) = some ((0 : Nat) : Int) from rfl, cutS_S, cutL_from]; rfl
  obtain ⟨W, hW⟩ : ∃ W, W = bodO l := ⟨_, rfl⟩
  have lW : (SX.S W).length ≤ 100000 := by rw [SX.S_len, hW]; exact hw
  have lW2 : W.length ≤ 100000 := by rw [hW]; exact hw
  obtain ⟨L1, eL1⟩ : ∃ R, R = w_law_fraction_of_4f0d6c37_l1 := ⟨_, rfl⟩
  obtain ⟨R4, eR4⟩ : ∃ R, R = w_law_fraction_of_4f0d6c37_r4 := ⟨_, rfl⟩
  unfold frcD at hk
  rw [← hW] at hk
  have E : ∀ (as : List (List Nat)) (x y z : Str) (ρ : B2.Env), (∀ p ∈ as, p.length ≤ 100000) → has ρ [(0, .d (.str (SX.S l))), (1, .d (.int (if ngB l = true then 1 else 0))), (2, .d (.str x)), (3, .d (.str y)), (4, .d (.str z))] →
      ((∃ p ∈ as, cnB p 300 = false) → k (.d .none)) →
      ((∀ p ∈ as, cnB p 300 = true) → ∀ ρ : B2.Env, has ρ [(0, .d (.str (SX.S l))), (1, .d (.int (if ngB l = true then 1 else 0))), (2, .d (.str x)), (3, .d (.str y)), (4, .d (.str z))] → R4 { nx := fun _ => k (.d .none), rt := retP k } ρ) →
      forL (gN 5) L1 { nx := fun ρ' => R4 { nx := fun _ => k (.d .none), rt := retP k } ρ', rt := retP k } (as.map fun p => PyData.str (SX.S p)) ρ := fun as x y z ρ hlen hρ no yes => by
    refine forL_do (enc := fun p : List Nat => PyData.str (SX.S p)) (E := fun _ : Unit => [(0, .d (.str (SX.S l))), (1, .d (.int (if ngB l = true then 1 else 0))), (2, .d (.str x)), (3, .d (.str y)), (4, .d (.str z))]) (I := fun ps _ => ∃ dn, dn ++ ps = as ∧ ∀ p ∈ dn, cnB p 300 = true) as () rfl hρ ⟨[], rfl, fun p hp => (List.not_mem_nil hp).elim⟩ ?_ ?_
    · rintro p ps _ ρ D ⟨dn, hd, hdn⟩ ih _ _ hrt _
      have hp : p ∈ as := by rw [← hd]; exact List.mem_append_right _ (.head _)
      rw [eL1]
      refine w_law_fraction_of_4f0d6c37_step (hlen p hp) (by repeat (first | exact trivial | refine And.intro (by first | exact rfl | (simp only [erase_map, List.map_append, List.map_cons, List.map_nil, List.nil_append, List.append_nil]; rfl)) ?_)) (fun h => ?_) (fun h => ?_)
      · rw [hrt]; exact no ⟨p, hp, h⟩
      · exact ih () _ ⟨dn ++ [p], by rw [List.append_assoc]; exact hd, fun q hq => by
          rcases List.mem_append.mp hq with z | z
          · exact hdn q z
          · rw [List.mem_singleton.mp z]; exact h⟩ (by repeat (first | exact trivial | refine And.intro (by first | exact rfl | (simp only [erase_map, List.map_append, List.map_cons, List.map_nil, List.nil_append, List.append_nil]; rfl)) ?_))
    · rintro _ ρ ⟨dn, hd, hdn⟩
      rw [List.append_nil] at hd
      subst hd
      exact yes hdn _ (by repeat (first | exact trivial | refine And.intro (by first | exact rfl | (simp only [erase_map, List.map_append, List.map_cons, List.map_nil, List.nil_append, List.append_nil]; rfl)) ?_))
  unfold w_law_fraction_of_4f0d6c37
  rw [← eL1, ← eR4]
  (walk_at "bk T")
  rw [hs1, hcut, ← hW]
  refine ⟨⟨rfl, by omega⟩, ?_⟩
  by_cases h47 : 47 ∈ W
  · obtain ⟨a, b, e, ha⟩ := first47 h47
    have la : a.length + b.length + 1 = W.length := by rw [e, List.length_append, List.length_cons]; omega
    have hp : Txt.partition (SX.S W) (Str.ofString "/") = (SX.S a, Str.ofString "/", SX.S b) := by
      have := TL.partition_app (y := Str.ofString "/") (s := 47) (S := []) rfl (a := SX.S a) (b := SX.S b) (by rw [tl_SX]; exact ha)
      rw [show Str.ofString "/" = SX.S [47] from rfl, S_cat, S_cat] at this
      rw [e, show Str.ofString "/" = SX.S [47] from rfl, ← this, List.append_assoc]; rfl
    rw [hp]
    (walk_at "bk T")
    refine ⟨⟨by show (-2 ^ 63 : Int) ≤ ((1 : Nat) : Int); decide, by show ((1 : Nat) : Int) < 2 ^ 63; decide, by show 1 * ((1 : Nat) : Int).toNat ≤ 16777216; decide⟩, ?_⟩
    (walk_at "bk T")
    refine E [a, b] (SX.S a) (Str.ofString "/") (SX.S b) _ (fun p hp => ?_) (by repeat (first | exact trivial | refine And.intro (by first | exact rfl | (simp only [erase_map, List.map_append, List.map_cons, List.map_nil, List.nil_append, List.append_nil]; rfl)) ?_)) ?_ ?_
    · rcases List.mem_cons.mp hp with z | z
      · rw [z]; omega
      · rw [List.mem_singleton.mp z]; omega
    · rintro ⟨p, hp, hn⟩
      rw [e, cut47_at ha] at hk
      by_cases hb : 47 ∈ b
      · obtain ⟨c, d, e2, hc⟩ := first47 hb
        rw [e2, cut47_at hc] at hk
        cases hd : cut47 d with
        | nil => exact (cut47_ne d hd).elim
        | cons x y => rw [hd] at hk; exact hk
      · rw [cut47_free hb] at hk
        have hk : k (.d (if (oneOk l a && twoOk a b) = true then .tuple [.int (sgZ l * ((dvN a : Nat) : Int)), .int ((dvN b : Nat) : Int)] else .none)) := hk
        rw [if_neg (by
          unfold oneOk twoOk
          intro z
          simp only [Bool.and_eq_true] at z
          rcases List.mem_cons.mp hp with w | w
          · rw [w, z.1.1] at hn; cases hn
          · rw [List.mem_singleton.mp w, z.2.1] at hn; cases hn)] at hk
        exact hk
    · intro hall ρ h
      have ca := hall a (.head _)
      have cb := hall b (.tail _ (.head _))
      have nb := no47 (cn_dig cb).1
      rw [e, cut47_at ha, cut47_free nb] at hk
      have hk : k (.d (if (oneOk l a && twoOk a b) = true then .tuple [.int (sgZ l * ((dvN a : Nat) : Int)), .int ((dvN b : Nat) : Int)] else .none)) := hk
      have ia := cn_int ca
      have ib := cn_int cb
      have la3 : (SX.S a).length ≤ 640 := by rw [SX.S_len]; have := (cn_dig ca).2.2.1; omega
      have lb3 : (SX.S b).length ≤ 640 := by rw [SX.S_len]; have := (cn_dig cb).2.2.1; omega
      obtain ⟨g, eg, g01, hsg⟩ : ∃ g : Int, (if ngB l = true then (1 : Int) else 0) = g ∧ (g = 0 ∧ ngB l = false ∨ g = 1 ∧ ngB l = true) ∧ sgZ l = 1 - 2 * g := by
        unfold sgZ
        cases ngB l with
        | true => exact ⟨1, rfl, .inr ⟨rfl, rfl⟩, rfl⟩
        | false => exact ⟨0, rfl, .inl ⟨rfl, rfl⟩, rfl⟩
      rw [eg] at h
      have m1 : MulOk 2 g := mul_smallL (by decide)
      have m2 : MulOk ((dvN a : Nat) : Int) (1 - 2 * g) := mul_small (by omega)
      have eP : ((dvN a : Nat) : Int) * (1 - 2 * g) = sgZ l * ((dvN a : Nat) : Int) := by rw [hsg, Int.mul_comm]
      rw [has_put h, eR4]
      unfold w_law_fraction_of_4f0d6c37_r4
      obtain ⟨R3, eR3⟩ : ∃ R, R = w_law_fraction_of_4f0d6c37_r3 := ⟨_, rfl⟩
      rw [← eR3]
      (walk_at "bk T")
      rw [eR3]
      unfold w_law_fraction_of_4f0d6c37_r3
      obtain ⟨R2, eR2⟩ : ∃ R, R = w_law_fraction_of_4f0d6c37_r2 := ⟨_, rfl⟩
      rw [← eR2]
      (walk_at "bk T")
      rw [ia]
      (walk_at "bk T")
      rw [ib]
      (walk_at "bk T")
      rw [eP]
      by_cases h2 : ((dvN b : Nat) : Int) < 2
      · (walk_at "bk T")
        first | refine iteY' ?_ ?_ | refine recY ?_ ?_
        · exact decide_eq_true h2
        (walk_at "bk T")
        rw [if_neg (by unfold twoOk; rw [decide_eq_false (by omega : ¬ 2 ≤ dvN b)]; simp)] at hk
        exact hk
      · (walk_at "bk T")
        first | refine iteN' ?_ ?_ | refine recN ?_ ?_
        · rw [decide_eq_true_eq]; exact h2
        (walk_at "bk T")
        refine ⟨_, _, rfl, by omega, trivial, ?_⟩
        have T1 : Tame 10 (frD (Rat.divInt (sgZ l * ((dvN a : Nat) : Int)) ((dvN b : Nat) : Int))) := tame_fr (n := 9) _
        have T2 : Tame 10 (.tuple [.int (sgZ l * ((dvN a : Nat) : Int)), .int ((dvN b : Nat) : Int)]) := tame_T (n := 9) (tame_cons0 (tame_int _) (tame_cons0 (tame_int _) tame_nil0))
        have el := eqv_low (sgZ l * ((dvN a : Nat) : Int)) ((dvN b : Nat) : Int) (by omega)
        have en : (sgZ l * ((dvN a : Nat) : Int)).natAbs = dvN a := by
          rw [hsg]
          rcases g01 with ⟨rfl, _⟩ | ⟨rfl, _⟩ <;> omega
        rw [en, Int.natAbs_natCast] at el
        by_cases hgc : Nat.gcd (dvN a) (dvN b) = 1
        · have ho : (oneOk l a && twoOk a b) = true := by
            have hz : dvN a ≠ 0 := fun z => by
              rw [z, Nat.gcd_zero_left] at hgc
              omega
            unfold oneOk twoOk
            rw [ca, cb, beq_eq_false_iff_ne.mpr hz, hgc, decide_eq_true (by omega : 2 ≤ dvN b)]
            simp
          rw [if_pos ho] at hk
          (walk_at "bk T")
          first | refine iteN' ?_ ?_ | refine recN ?_ ?_
          · rw [el, decide_eq_true hgc]; decide
          (walk_at "bk T")
          rw [eR2]
          unfold w_law_fraction_of_4f0d6c37_r2
          (walk_at "bk T")
          exact hk
        · have ho : ¬ (oneOk l a && twoOk a b) = true := by
            have hp : 0 < Nat.gcd (dvN a) (dvN b) := Nat.gcd_pos_of_pos_right _ (by omega)
            unfold twoOk
            rw [decide_eq_true (by omega : 1 < Nat.gcd (dvN a) (dvN b))]
            simp
          rw [if_neg ho] at hk
          (walk_at "bk T")
          first | refine iteY' ?_ ?_ | refine recY ?_ ?_
          · rw [el, decide_eq_false hgc]; rfl
          (walk_at "bk T")
          exact hk
  · have hp : Txt.partition (SX.S W) (Str.ofString "/") = (SX.S W, Str.empty, Str.empty) := TL.partition_none (s := 47) (S := []) rfl (by rw [tl_SX]; exact h47)
    rw [hp]
    (walk_at "bk T")
    refine E [W] (SX.S W) Str.empty Str.empty _ (fun p hp => by rw [List.mem_singleton.mp hp]; exact lW2) (by repeat (first | exact trivial | refine And.intro (by first | exact rfl | (simp only [erase_map, List.map_append, List.map_cons, List.map_nil, List.nil_append, List.append_nil]; rfl)) ?_)) ?_ ?_
    · rintro ⟨p, hp, hn⟩
      rw [cut47_free h47] at hk
      have hk : k (.d (if oneOk l W = true then .tuple [.int (sgZ l * ((dvN W : Nat) : Int)), .int 1] else .none)) := hk
      rw [List.mem_singleton.mp hp] at hn
      rw [if_neg (by unfold oneOk; rw [hn, Bool.false_and]; decide)] at hk
      exact hk
    · intro hall ρ h
      have cw := hall W (.head _)
      rw [cut47_free h47] at hk
      have hk : k (.d (if oneOk l W = true then .tuple [.int (sgZ l * ((dvN W : Nat) : Int)), .int 1] else .none)) := hk
      have iw := cn_int cw
      have lw3 : (SX.S W).length ≤ 640 := by rw [SX.S_len]; have := (cn_dig cw).2.2.1; omega
      obtain ⟨g, eg, g01, hsg⟩ : ∃ g : Int, (if ngB l = true then (1 : Int) else 0) = g ∧ (g = 0 ∧ ngB l = false ∨ g = 1 ∧ ngB l = true) ∧ sgZ l = 1 - 2 * g := by
        unfold sgZ
        cases ngB l with
        | true => exact ⟨1, rfl, .inr ⟨rfl, rfl⟩, rfl⟩
        | false => exact ⟨0, rfl, .inl ⟨rfl, rfl⟩, rfl⟩
      rw [eg] at h
      have m1 : MulOk 2 g := mul_smallL (by decide)
      have m2 : MulOk ((dvN W : Nat) : Int) (1 - 2 * g) := mul_small (by omega)
      have eP : ((dvN W : Nat) : Int) * (1 - 2 * g) = sgZ l * ((dvN W : Nat) : Int) := by rw [hsg, Int.mul_comm]
      rw [has_put h, eR4]
      unfold w_law_fraction_of_4f0d6c37_r4
      obtain ⟨R3, eR3⟩ : ∃ R, R = w_law_fraction_of_4f0d6c37_r3 := ⟨_, rfl⟩
      rw [← eR3]
      (walk_at "bk T")
      rw [iw]
      (walk_at "bk T")
      rw [eP]
      have e5 : PyData.eqv (.str (SX.S l)) (.str (Str.ofString "-0")) = decide (l = [45, 48]) := by
        rw [eqv_str, Bool.eq_iff_iff, beq_iff_eq, decide_eq_true_eq]
        constructor
        · intro z
          have := congrArg TL.tl z
          rw [tl_SX] at this
          exact this
        · intro z; rw [z]; rfl
      rw [e5]
      by_cases h0 : l = [45, 48]
      · rw [decide_eq_true h0, if_pos rfl, at_1]
        have hn : ngB l = true := by rw [h0]; rfl
        have hz : dvN W = 0 := by rw [hW, h0]; rfl
        rw [if_neg (by unfold oneOk; rw [cw, hn, hz]; decide)] at hk
        (walk_at "bk T")
        exact hk
      · rw [decide_eq_false h0, if_neg (by decide), at_0]
        have ho : oneOk l W = true := by
          unfold oneOk
          rw [cw]
          cases hn : ngB l with
          | false => rfl
          | true =>
            have hz : dvN W ≠ 0 := fun z => h0 (by rw [ng_body hn, ← hW, zero_canon cw z])
            rw [beq_eq_false_iff_ne.mpr hz]; rfl
        rw [if_pos ho] at hk
        (walk_at "bk T")
        exact hk

theorem sc__law_fraction_of : FnScope ["_law_word", "_law_sign", "_law_top", "_law_bar", "_law_bottom", "_law_one", "_law_found", "_law_figure"] ["_law_word"] (defScope st__law_fraction_of) := ⟨rfl, rfl, rfl, by decide +kernel, rfl, by decide +kernel, by decide +kernel⟩
theorem ok__law_fraction_of (A : At K mg "_law_fraction_of" st__law_fraction_of ["_law_word"]) (sr : Sr P base) (d__law_lowest : Def2 P w K mg base "_law_lowest" 1 ["_law_top", "_law_bottom"] 0 2 s_law_lowest_bd3ba674) (z_int : mg "int" = none) (z_len : mg "len" = none) : Def2 P w K mg base "_law_fraction_of" 2 ["_law_word"] 0 1 s_law_fraction_of_4f0d6c37 := by
  obtain ⟨f, fd, F, hm, hb⟩ := A.ex
  refine ⟨f, fd, fn_ok (k := 1) (m := 0) (wb := w_law_fraction_of_4f0d6c37) sr F sc__law_fraction_of rfl (fun cdv A outer sh H E hr hg => ?_) p_law_fraction_of_4f0d6c37, hm, F.kp, hb⟩
  exact JSs.cost (jss_cons (js_asg 1 true (je_intc z_int (ja_cons (je_eq (je_sl (je_var 0) (jo_none) (jo_some (je_int))) (je_str)) (ja_nil))))
    (jss_cons (js_asgT (je_partition (je_sl (je_var 0) (jo_some (je_var 1)) (jo_none)) (je_str)) (jg_tup (jgs_cons (jg_name 2) (jgs_cons (jg_name 3) (jgs_cons (jg_name 4) (jgs_nil))))))
    (jss_cons (js_for (ji_seq (je_add (je_lst (ja_cons (je_var 2) (ja_nil))) (je_mulX (je_lst (ja_cons (je_var 4) (ja_nil))) (je_len z_len (ja_cons (je_var 3) (ja_nil)))))) (jg_name 5) (jss_cons (js_if (JW.t (jw_or (jt_eq (je_var 5) (je_str)) (jw_or (jt_gt (je_len z_len (ja_cons (je_var 5) (ja_nil))) (je_int)) (jw_or1 (JW.t (jw_and (jt_eq (je_ix (je_var 5) (je_int)) (je_str)) (jw_and1 (jt_ne (je_var 5) (je_str))))))))) (jss_one (js_ret (je_non))) (jss_nil))
    (jss_one (js_if (jt_ne (je_lc [("_law_figure", 7)] (ji_seq (je_var 5)) (by kernel_rfl) (jg_name 7) (jts_one (jt_notIn (je_var 7) (je_str))) (je_var 7)) (je_lst (ja_nil))) (jss_one (js_ret (je_non))) (jss_nil)))))
    (jss_cons (js_if (jt_eq (je_var 3) (je_str)) (jss_one (js_ret (je_ix (je_lst (ja_cons (je_tup (ja_cons (je_mulX (je_intc z_int (ja_cons (je_var 2) (ja_nil))) (je_sub (je_int) (je_mulX (je_int) (je_var 1)))) (ja_cons (je_int) (ja_nil)))) (ja_cons (je_non) (ja_nil)))) (je_intc z_int (ja_cons (je_eq (je_var 0) (je_str)) (ja_nil)))))) (jss_nil))
    (jss_cons (js_asg 6 true (je_tup (ja_cons (je_mulX (je_intc z_int (ja_cons (je_var 2) (ja_nil))) (je_sub (je_int) (je_mulX (je_int) (je_var 1)))) (ja_cons (je_intc z_int (ja_cons (je_var 4) (ja_nil))) (ja_nil)))))
    (jss_cons (js_if (JW.t (jw_or (jt_lt (je_ix (je_var 6) (je_int)) (je_int)) (jw_or1 (jt_ne (je_callD d__law_lowest s_law_lowest_bd3ba674_0 (ja_cons (je_ix (je_var 6) (je_int)) (ja_cons (je_ix (je_var 6) (je_int)) (ja_nil)))) (je_var 6))))) (jss_one (js_ret (je_non))) (jss_nil))
    (jss_one (js_ret (je_var 6))))))))) (by decide)
abbrev st__law_no_text : Stmt := top 40

def s_law_no_text_0f950822 : SpecE := fun nm k => k (.d (.bool true))

def w_law_no_text_0f950822 (a_e : Addr) (nm_e : Str) : WS :=
  wSeq (wIf (wTest (wIsE a_e ((fun nm => ek_Fair nm || (fun nm => ek_NoBet nm || (fun nm => ek_NoCover nm || (fun nm => ek_NoDeed nm || (fun nm => ek_NoHolder nm || (fun nm => ek_NoSaying nm || (fun nm => ek_NoStake nm || (fun nm => ek_NoStep nm || (fun nm => ek_NotAlike nm || (fun nm => ek_NoTicket nm || (fun _ => false) nm) nm) nm) nm) nm) nm) nm) nm) nm) nm) nm_e) (wVar 0))) (wRet (wC (.bool false))) (wNext))
  ((wSeq (wIf (wOr (wTest (wIsE a_e ((fun nm => ek_NoWorld nm || (fun nm => ek_TooLong nm || (fun nm => ek_TooMany nm || (fun nm => ek_Unfair nm || (fun _ => false) nm) nm) nm) nm) nm_e) (wVar 0))) (wNot (wTest (wIsE a_e (ek_ValueError nm_e) (wVar 0))))) (wRet (wC (.bool false))) (wNext))
  ((wRet (wIsE a_e (ek_NoText nm_e) (wVar 0))))))

theorem p_law_no_text_0f950822 : ∀ nm ∈ (["NoText"] : List Str), ∀ a k, s_law_no_text_0f950822 nm k → runB (w_law_no_text_0f950822 a nm) [.scr a] k fun _ => False := by
  intro nm hnm a k hk
  have hs : s_law_no_text_0f950822 nm k := hk
  repeat' (rcases List.mem_cons.mp hnm with rfl | hnm)
  all_goals (first | (exact absurd hnm List.not_mem_nil) | skip)
  all_goals ((walk_at "bk T"); exact hk)

theorem sc__law_no_text : FnScope ["_law_error"] ["_law_error"] (defScope st__law_no_text) := ⟨rfl, rfl, rfl, by decide +kernel, rfl, by decide +kernel, by decide +kernel⟩
theorem ok__law_no_text (A : At K mg "_law_no_text" st__law_no_text ["_law_error"]) (sr : Sr P base) (z_isinstance : mg "isinstance" = none) (i_errs : ErrI K mg ["NoText"]) (v_Fair : ErrV K mg "Fair" ["NoText"] (fun _ => false)) (v_NoBet : ErrV K mg "NoBet" ["NoText"] (fun _ => false)) (v_NoCover : ErrV K mg "NoCover" ["NoText"] (fun _ => false)) (v_NoDeed : ErrV K mg "NoDeed" ["NoText"] (fun _ => false)) (v_NoHolder : ErrV K mg "NoHolder" ["NoText"] (fun _ => false)) (v_NoSaying : ErrV K mg "NoSaying" ["NoText"] (fun _ => false)) (v_NoStake : ErrV K mg "NoStake" ["NoText"] (fun _ => false)) (v_NoStep : ErrV K mg "NoStep" ["NoText"] (fun _ => false)) (v_NotAlike : ErrV K mg "NotAlike" ["NoText"] (fun _ => false)) (v_NoTicket : ErrV K mg "NoTicket" ["NoText"] (fun _ => false)) (v_NoWorld : ErrV K mg "NoWorld" ["NoText"] (fun _ => false)) (v_TooLong : ErrV K mg "TooLong" ["NoText"] (fun _ => false)) (v_TooMany : ErrV K mg "TooMany" ["NoText"] (fun _ => false)) (v_Unfair : ErrV K mg "Unfair" ["NoText"] (fun _ => false)) (v_ValueError : ErrV K mg "ValueError" ["NoText"] (fun _ => true)) (v_NoText : ErrV K mg "NoText" ["NoText"] (fun _ => true)) : Def2E P w K mg base "_law_no_text" 1 ["_law_error"] 0 ["NoText"] s_law_no_text_0f950822 := by
  obtain ⟨f, fd, F, hm, hb⟩ := A.ex
  refine ⟨f, fd, fn_okE (k := 0) (m := 0) (errs := ["NoText"]) (wb := w_law_no_text_0f950822) sr F sc__law_no_text rfl (fun nm_e D_e hin_e hD_e cdv A outer sh H E p hz hf hr hg pn_e => ?_) p_law_no_text_0f950822, hm, F.kp, hb⟩
  exact JSs.cost (jss_cons (js_if (jt_val (je_isPT pn_e hD_e hin_e i_errs (jv_cons v_Fair (jv_cons v_NoBet (jv_cons v_NoCover (jv_cons v_NoDeed (jv_cons v_NoHolder (jv_cons v_NoSaying (jv_cons v_NoStake (jv_cons v_NoStep (jv_cons v_NotAlike (jv_cons v_NoTicket jv_nil)))))))))) z_isinstance (je_var 0))) (jss_one (js_ret (je_bl))) (jss_nil))
    (jss_cons (js_if (JW.t (jw_or (jt_val (je_isPT pn_e hD_e hin_e i_errs (jv_cons v_NoWorld (jv_cons v_TooLong (jv_cons v_TooMany (jv_cons v_Unfair jv_nil)))) z_isinstance (je_var 0))) (jw_or1 (jt_not (jt_val (je_isP pn_e hD_e hin_e i_errs v_ValueError z_isinstance (je_var 0))))))) (jss_one (js_ret (je_bl))) (jss_nil))
    (jss_one (js_ret (je_isP pn_e hD_e hin_e i_errs v_NoText z_isinstance (je_var 0)))))) (by decide)
abbrev st__law_any_fraction : Stmt := top 41
--USES reads
def s_law_any_fraction_8d33e5b6 : Spec2 := fun xs k _ => xs = [.drw] ∧ ∀ r : Rat, Sz 10000 r → k (.d (frD r))
theorem s_law_any_fraction_8d33e5b6_0 : ∀ xs k e, s_law_any_fraction_8d33e5b6 xs k e → s_law_any_fraction_8d33e5b6 xs k fun _ => False := fun _ _ _ h => h

def w_law_any_fraction_8d33e5b6_l1 : WS :=
  wAsg 5 true (wCall s_times_59e72531 (wCons (wVar 5) (wCons (wTup (wCons (wBin subD (wVar 2) (wBin mulX (wC (.int 2)) (wVar 6))) (wCons (wC (.int 1)) (wNil)))) (wNil))))
def w_law_any_fraction_8d33e5b6_r1 : WS :=
  wRet (wVar 5)
def w_law_any_fraction_8d33e5b6_r2 : WS :=
  wSeq (wAsg 7 true (wLst (wCons (wTup (wCons (wBin mulX (wVar 4) (wBin subD (wVar 2) (wVar 3))) (wCons (wC (.int 1)) (wNil)))) (wCons (wTup (wCons (wBin mulX (wVar 4) (wBin addD (wC (.int 1)) (wVar 3))) (wCons (wVar 2) (wNil)))) (wCons (wTup (wCons (wBin subD (wVar 2) (wVar 3)) (wCons (wBin subD (wBin subD (wVar 2) (wBin mulX (wC (.int 2)) (wVar 3))) (wC (.int 1))) (wNil)))) (wNil))))))
  (wRet (wCall s_law_lowest_bd3ba674 (wCons (wBin ixD (wBin ixD (wVar 7) (wBin subD (wVar 1) (wC (.int 4)))) (wC (.int 0))) (wCons (wBin ixD (wBin ixD (wVar 7) (wBin subD (wVar 1) (wC (.int 4)))) (wC (.int 1))) (wNil)))))
def w_law_any_fraction_8d33e5b6_r3 : WS :=
  wSeq (wAsg 2 true (wBin subD (wBin powD (wBin powD (wC (.int 10)) (wC (.int 50))) (wC (.int 6))) (wC (.int 1))))
  (wSeq (wAsg 3 true (wCall s_next (wCons (wVar 0) (wCons (wBin powD (wC (.int 10)) (wC (.int 9))) (wNil)))))
  (wSeq (wAsg 4 true (wBin subD (wC (.int 1)) (wBin mulX (wC (.int 2)) (wCall s_next (wCons (wVar 0) (wCons (wC (.int 2)) (wNil)))))))
  (wSeq (wIf (wTest (wBin eqD (wVar 1) (wC (.int 7)))) (wSeq (wAsg 5 true (wCall s_law_lowest_bd3ba674 (wCons (wBin mulX (wVar 4) (wBin subD (wVar 2) (wVar 3))) (wCons (wBin ixD (wLst (wCons (wC (.int 1)) (wCons (wBin addD (wC (.int 1)) (wVar 3)) (wNil)))) (wCall s_next (wCons (wVar 0) (wCons (wC (.int 2)) (wNil))))) (wNil)))))
  (wSeq (wFor (wRange (wCons (wC (.int 9)) (wNil))) (gN 6) w_law_any_fraction_8d33e5b6_l1)
  (w_law_any_fraction_8d33e5b6_r1))) (wNext))
  (w_law_any_fraction_8d33e5b6_r2))))
def w_law_any_fraction_8d33e5b6 : WS :=
  wSeq (wAsg 1 true (wCall s_next (wCons (wVar 0) (wCons (wC (.int 8)) (wNil)))))
  (wSeq (wIf (wTest (wBin ltD (wVar 1) (wC (.int 4)))) (wRet (wCall s_law_fraction_3f6da292 (wCons (wVar 0) (wNil)))) (wNext))
  (w_law_any_fraction_8d33e5b6_r3))

theorem p_law_any_fraction_8d33e5b6 : ∀ xs k e, s_law_any_fraction_8d33e5b6 xs k e → runB w_law_any_fraction_8d33e5b6 xs k fun _ => False := by
  rintro xs k e ⟨rfl, hk⟩
  obtain ⟨R3, eR3⟩ : ∃ R, R = w_law_any_fraction_8d33e5b6_r3 := ⟨_, rfl⟩
  unfold w_law_any_fraction_8d33e5b6
  rw [← eR3]
  (walk_at "bk T")
  intro w w0 w1
  by_cases h4 : w < 4
  · (walk_at "bk T")
    first | refine iteY' ?_ ?_ | refine recY ?_ ?_
    · exact decide_eq_true h4
    (walk_at "bk T")
    intro r hr
    have hfin := hk r (hr.mono (by decide))
    (walk_at "bk T")
    exact hfin
  (walk_at "bk T")
  first | refine iteN' ?_ ?_ | refine recN ?_ ?_
  · rw [decide_eq_true_eq]; exact h4
  (walk_at "bk T")
  rw [eR3]
  unfold w_law_any_fraction_8d33e5b6_r3
  obtain ⟨R2, eR2⟩ : ∃ R, R = w_law_any_fraction_8d33e5b6_r2 := ⟨_, rfl⟩
  rw [← eR2]
  (walk_at "bk T")
  obtain ⟨T, hT, t1, t2⟩ : ∃ T : Int, (10 ^ Int.toNat 50) ^ Int.toNat 6 - 1 = T ∧ 10 ^ 20 < T ∧ T < ((2 ^ 1000 : Nat) : Int) := ⟨_, rfl, by decide +kernel, by decide +kernel⟩
  rw [hT]
  have h9 : (10 : Int) ^ (9 : Int).toNat = 1000000000 := by decide +kernel
  intro v v0 v1
  rw [h9] at v1
  (walk_at "bk T")
  intro u u0 u1
  have m2u : B2.MulOk 2 u := mul_smallL (by decide)
  have m3 : ∀ j : Int, B2.MulOk (1 - 2 * u) j := fun j => mul_smallL (by omega)
  have m3a := m3 (T - v)
  have m3b := m3 (1 + v)
  have m2v : B2.MulOk 2 v := mul_smallL (by decide)
  have hu : 1 - 2 * u = 1 ∨ 1 - 2 * u = -1 := by omega
  have ab : ∀ y : Int, ((1 - 2 * u) * y).natAbs = y.natAbs := fun y => by
    rcases hu with h | h <;> rw [h] <;> omega
  obtain ⟨B, hB⟩ : ∃ B : Nat, B = 2 ^ 1000 := ⟨_, rfl⟩
  have hB9 : 10000000000 < B := by rw [hB]; decide +kernel
  rw [← hB] at t2
  have mm : ∀ j : Int, B2.MulOk 2 j := fun j => mul_smallL (by decide)
  (walk_at "bk T")
  by_cases h7 : w = 7
  · (walk_at "bk T")
    first | refine iteY' ?_ ?_ | refine recY ?_ ?_
    · rw [eqv_int, h7]; rfl
    (walk_at "bk T")
    intro x x0 x1
    obtain ⟨d, hd, ed⟩ := atI_in (l := [PyData.int 1, PyData.int (1 + v)]) x0 x1
    obtain ⟨q, rfl, q0, q1⟩ : ∃ q : Int, d = .int q ∧ 0 < q ∧ q ≤ 1000000000 := by
      simp only [List.mem_cons, List.not_mem_nil, or_false] at hd
      rcases hd with rfl | rfl
      · exact ⟨1, rfl, by decide, by decide⟩
      · exact ⟨1 + v, rfl, by omega, by omega⟩
    (walk_at "bk T")
    rw [ed]
    (walk_at "bk T")
    refine ⟨_, q, rfl, q0, trivial, ?_⟩
    have s0 : Sz 1000 (Rat.divInt ((1 - 2 * u) * (T - v)) q) := sz_divInt (by omega) (by rw [ab, ← hB]; omega) (by rw [← hB]; omega)
    have si : ∀ y : Int, y.natAbs < B → Sz 1000 ((y : Int) : Rat) := fun y hy => ⟨by rw [← hB]; exact hy, by rw [← hB]; show 1 < B; omega⟩
    (walk_at "bk T")
    refine ⟨mm _, ?_⟩
    (walk_at "bk T")
    refine ⟨_, (((T - 2 * (0 + ((0 : Nat) : Int))) : Int) : Rat), 1000, 1000, by rw [frI], s0, si _ (by omega), by decide, ?_⟩
    have s1 := sz_mul s0 (si (T - 2 * (0 + ((0 : Nat) : Int))) (by omega))
    (walk_at "bk T")
    refine ⟨mm _, ?_⟩
    (walk_at "bk T")
    refine ⟨_, (((T - 2 * (0 + ((1 : Nat) : Int))) : Int) : Rat), 2000, 1000, by rw [frI], s1, si _ (by omega), by decide, ?_⟩
    have s2 := sz_mul s1 (si (T - 2 * (0 + ((1 : Nat) : Int))) (by omega))
    (walk_at "bk T")
    refine ⟨mm _, ?_⟩
    (walk_at "bk T")
    refine ⟨_, (((T - 2 * (0 + ((2 : Nat) : Int))) : Int) : Rat), 3000, 1000, by rw [frI], s2, si _ (by omega), by decide, ?_⟩
    have s3 := sz_mul s2 (si (T - 2 * (0 + ((2 : Nat) : Int))) (by omega))
    (walk_at "bk T")
    refine ⟨mm _, ?_⟩
    (walk_at "bk T")
    refine ⟨_, (((T - 2 * (0 + ((3 : Nat) : Int))) : Int) : Rat), 4000, 1000, by rw [frI], s3, si _ (by omega), by decide, ?_⟩
    have s4 := sz_mul s3 (si (T - 2 * (0 + ((3 : Nat) : Int))) (by omega))
    (walk_at "bk T")
    refine ⟨mm _, ?_⟩
    (walk_at "bk T")
    refine ⟨_, (((T - 2 * (0 + ((4 : Nat) : Int))) : Int) : Rat), 5000, 1000, by rw [frI], s4, si _ (by omega), by decide, ?_⟩
    have s5 := sz_mul s4 (si (T - 2 * (0 + ((4 : Nat) : Int))) (by omega))
    (walk_at "bk T")
    refine ⟨mm _, ?_⟩
    (walk_at "bk T")
    refine ⟨_, (((T - 2 * (0 + ((5 : Nat) : Int))) : Int) : Rat), 6000, 1000, by rw [frI], s5, si _ (by omega), by decide, ?_⟩
    have s6 := sz_mul s5 (si (T - 2 * (0 + ((5 : Nat) : Int))) (by omega))
    (walk_at "bk T")
    refine ⟨mm _, ?_⟩
    (walk_at "bk T")
    refine ⟨_, (((T - 2 * (0 + ((6 : Nat) : Int))) : Int) : Rat), 7000, 1000, by rw [frI], s6, si _ (by omega), by decide, ?_⟩
    have s7 := sz_mul s6 (si (T - 2 * (0 + ((6 : Nat) : Int))) (by omega))
    (walk_at "bk T")
    refine ⟨mm _, ?_⟩
    (walk_at "bk T")
    refine ⟨_, (((T - 2 * (0 + ((7 : Nat) : Int))) : Int) : Rat), 8000, 1000, by rw [frI], s7, si _ (by omega), by decide, ?_⟩
    have s8 := sz_mul s7 (si (T - 2 * (0 + ((7 : Nat) : Int))) (by omega))
    (walk_at "bk T")
    refine ⟨mm _, ?_⟩
    (walk_at "bk T")
    refine ⟨_, (((T - 2 * (0 + ((8 : Nat) : Int))) : Int) : Rat), 9000, 1000, by rw [frI], s8, si _ (by omega), by decide, ?_⟩
    have s9 := sz_mul s8 (si (T - 2 * (0 + ((8 : Nat) : Int))) (by omega))
    (walk_at "bk T")
    have hfin := hk _ s9
    exact hfin
  · (walk_at "bk T")
    first | refine iteN' ?_ ?_ | refine recN ?_ ?_
    · rw [eqv_int, beq_iff_eq]; exact h7
    (walk_at "bk T")
    rw [eR2]
    unfold w_law_any_fraction_8d33e5b6_r2
    (walk_at "bk T")
    obtain ⟨d, hd, ed⟩ := atI_in (l := [PyData.tuple [.int ((1 - 2 * u) * (T - v)), .int 1], PyData.tuple [.int ((1 - 2 * u) * (1 + v)), .int T], PyData.tuple [.int (T - v), .int (T - 2 * v - 1)]]) (j := w - 4) (by omega) (by show w - 4 < 3; omega)
    obtain ⟨p, q, rfl, q0, q1, p1⟩ : ∃ p q : Int, d = .tuple [.int p, .int q] ∧ 0 < q ∧ q.natAbs < B ∧ p.natAbs < B := by
      simp only [List.mem_cons, List.not_mem_nil, or_false] at hd
      rcases hd with rfl | rfl | rfl
      · exact ⟨_, _, rfl, by decide, by omega, by rw [ab]; omega⟩
      · exact ⟨_, _, rfl, by omega, by omega, by rw [ab]; omega⟩
      · exact ⟨_, _, rfl, by omega, by omega, by omega⟩
    rw [ed]
    (walk_at "bk T")
    rw [ed]
    (walk_at "bk T")
    refine ⟨p, q, rfl, q0, trivial, ?_⟩
    have hfin := hk _ ((sz_divInt (n := 1000) (p := p) (q := q) (by omega) (by rw [← hB]; exact p1) (by rw [← hB]; exact q1)).mono (by decide))
    (walk_at "bk T")
    exact hfin

theorem sc__law_any_fraction : FnScope ["_law_drawn", "_law_way", "_law_nines", "_law_small", "_law_sign", "_law_one", "_law_k", "_law_some"] ["_law_drawn"] (defScope st__law_any_fraction) := ⟨rfl, rfl, rfl, by decide +kernel, rfl, by decide +kernel, by decide +kernel⟩
theorem ok__law_any_fraction (A : At K mg "_law_any_fraction" st__law_any_fraction ["_law_drawn"]) (sr : Sr P base) (d__law_next : Def2 P w K mg base "_law_next" 1 ["_law_drawn", "_law_many"] 1 2 s_next) (d__law_fraction : Def2 P w K mg base "_law_fraction" 2 ["_law_drawn"] 8 1 s_law_fraction_3f6da292) (d__law_lowest : Def2 P w K mg base "_law_lowest" 1 ["_law_top", "_law_bottom"] 0 2 s_law_lowest_bd3ba674) (d_times : Def2 P w K mg base "times" 3 ["one", "other"] 0 2 s_times_59e72531) (z_range : mg "range" = none) : Def2 P w K mg base "_law_any_fraction" 4 ["_law_drawn"] 12 1 s_law_any_fraction_8d33e5b6 := by
  obtain ⟨f, fd, F, hm, hb⟩ := A.ex
  refine ⟨f, fd, fn_ok (k := 3) (m := 12) (wb := w_law_any_fraction_8d33e5b6) sr F sc__law_any_fraction rfl (fun cdv A outer sh H E hr hg => ?_) p_law_any_fraction_8d33e5b6, hm, F.kp, hb⟩
  exact JSs.cost (jss_cons (js_asg 1 true (je_callD d__law_next s_next_0 (ja_cons (je_var 0) (ja_cons (je_int) (ja_nil)))))
    (jss_cons (js_if (jt_lt (je_var 1) (je_int)) (jss_one (js_ret (je_callD d__law_fraction s_law_fraction_3f6da292_0 (ja_cons (je_var 0) (ja_nil))))) (jss_nil))
    (jss_cons (js_asg 2 true (je_sub (je_pow (je_pow (je_int) (je_int)) (je_int)) (je_int)))
    (jss_cons (js_asg 3 true (je_callD d__law_next s_next_0 (ja_cons (je_var 0) (ja_cons (je_pow (je_int) (je_int)) (ja_nil)))))
    (jss_cons (js_asg 4 true (je_sub (je_int) (je_mulX (je_int) (je_callD d__law_next s_next_0 (ja_cons (je_var 0) (ja_cons (je_int) (ja_nil)))))))
    (jss_cons (js_if (jt_eq (je_var 1) (je_int)) (jss_cons (js_asg 5 true (je_callD d__law_lowest s_law_lowest_bd3ba674_0 (ja_cons (je_mulX (je_var 4) (je_sub (je_var 2) (je_var 3))) (ja_cons (je_ix (je_lst (ja_cons (je_int) (ja_cons (je_add (je_int) (je_var 3)) (ja_nil)))) (je_callD d__law_next s_next_0 (ja_cons (je_var 0) (ja_cons (je_int) (ja_nil))))) (ja_nil)))))
    (jss_cons (js_for (ji_range1 z_range (ja_cons (je_int) (ja_nil))) (jg_name 6) (jss_one (js_asg 5 true (je_callD d_times s_times_59e72531_0 (ja_cons (je_var 5) (ja_cons (je_tup (ja_cons (je_sub (je_var 2) (je_mulX (je_int) (je_var 6))) (ja_cons (je_int) (ja_nil)))) (ja_nil)))))))
    (jss_one (js_ret (je_var 5))))) (jss_nil))
    (jss_cons (js_asg 7 true (je_lst (ja_cons (je_tup (ja_cons (je_mulX (je_var 4) (je_sub (je_var 2) (je_var 3))) (ja_cons (je_int) (ja_nil)))) (ja_cons (je_tup (ja_cons (je_mulX (je_var 4) (je_add (je_int) (je_var 3))) (ja_cons (je_var 2) (ja_nil)))) (ja_cons (je_tup (ja_cons (je_sub (je_var 2) (je_var 3)) (ja_cons (je_sub (je_sub (je_var 2) (je_mulX (je_int) (je_var 3))) (je_int)) (ja_nil)))) (ja_nil))))))
    (jss_one (js_ret (je_callD d__law_lowest s_law_lowest_bd3ba674_0 (ja_cons (je_ix (je_ix (je_var 7) (je_sub (je_var 1) (je_int))) (je_int)) (ja_cons (je_ix (je_ix (je_var 7) (je_sub (je_var 1) (je_int))) (je_int)) (ja_nil))))))))))))) (by decide)
abbrev st__law_bent : Stmt := top 42
--USES reads
def s_law_bent_afc009fe : Spec2 := fun xs k _ => ∃ s : Str, xs = [.drw, .d (.str s)] ∧ s.length ≤ 9000 ∧ ∀ t : Str, t.length ≤ 20000 → k (.d (.str t))
theorem s_law_bent_afc009fe_0 : ∀ xs k e, s_law_bent_afc009fe xs k e → s_law_bent_afc009fe xs k fun _ => False := fun _ _ _ h => h

def w_law_bent_afc009fe : WS :=
  wSeq (wAsg 2 true (wCall s_next (wCons (wVar 0) (wCons (wBin addD (wCB cbLen (wCons (wVar 1) (wNil))) (wC (.int 1))) (wNil)))))
  (wSeq (wAsg 3 true (wC (.str "0123456789/-+ .,aA_\n")))
  (wSeq (wAsg 4 true (wBin ixD (wVar 3) (wCall s_next (wCons (wVar 0) (wCons (wCB cbLen (wCons (wVar 3) (wNil))) (wNil))))))
  (wSeq (wAsgT (gTup2 3 (gCons2 (gN 5) (gCons2 (gN 6) (gCons2 (gN 7) (gNil2))))) (wM1 partD (wVar 1) (wC (.str "/"))))
  (wSeq (wAsg 8 true (wLst (wCons (wBin addD (wBin addD (wSl (wVar 1) (none) (some (wVar 2))) (wVar 4)) (wSl (wVar 1) (some (wVar 2)) (none))) (wCons (wBin addD (wBin addD (wSl (wVar 1) (none) (some (wVar 2))) (wVar 4)) (wSl (wVar 1) (some (wBin addD (wVar 2) (wC (.int 1)))) (none))) (wCons (wBin addD (wSl (wVar 1) (none) (some (wVar 2))) (wSl (wVar 1) (some (wBin addD (wVar 2) (wC (.int 1)))) (none))) (wCons (wBin addD (wC (.str "0")) (wVar 1)) (wNil)))))))
  (wSeq (wAsg 8 true (wBin addD (wVar 8) (wLst (wCons (wBin addD (wC (.str "+")) (wVar 1)) (wCons (wBin addD (wC (.str "-")) (wVar 1)) (wCons (wBin addD (wVar 1) (wC (.str "/1"))) (wCons (wBin addD (wVar 1) (wC (.str "/0"))) (wCons (wBin addD (wVar 1) (wC (.str " "))) (wCons (wBin addD (wC (.str " ")) (wVar 1)) (wCons (wBin addD (wVar 1) (wC (.str "\n"))) (wCons (wC (.str "-0")) (wCons (wC (.str "0/1")) (wNil)))))))))))))
  (wSeq (wAsg 8 true (wBin addD (wVar 8) (wLst (wCons (wBin addD (wVar 5) (wC (.str "/"))) (wCons (wBin addD (wC (.str "/")) (wVar 7)) (wCons (wBin addD (wBin addD (wVar 5) (wC (.str "//"))) (wVar 7)) (wCons (wBin addD (wBin addD (wVar 5) (wC (.str "/0"))) (wVar 7)) (wCons (wC (.str "2/4")) (wCons (wC (.str "6/3")) (wCons (wC (.str "")) (wNil)))))))))))
  (wSeq (wAsg 8 true (wBin addD (wVar 8) (wLst (wCons (wC (.str "-")) (wCons (wC (.str "/")) (wCons (wC (.str "1e3")) (wNil)))))))
  (wSeq (wAsg 8 true (wBin addD (wVar 8) (wLst (wCons (wBin mulX (wC (.str "9")) (wC (.int 300))) (wCons (wBin mulX (wC (.str "9")) (wC (.int 301))) (wCons (wBin addD (wC (.str "1/")) (wBin mulX (wC (.str "9")) (wC (.int 300)))) (wCons (wBin addD (wC (.str "1/")) (wBin mulX (wC (.str "9")) (wC (.int 301)))) (wCons (wBin mulX (wC (.str "0")) (wC (.int 301))) (wCons (wBin addD (wC (.str "-")) (wBin mulX (wC (.str "8")) (wC (.int 300)))) (wNil))))))))))
  (wRet (wBin ixD (wVar 8) (wCall s_next (wCons (wVar 0) (wCons (wCB cbLen (wCons (wVar 8) (wNil))) (wNil))))))))))))))

theorem p_law_bent_afc009fe : ∀ xs k e, s_law_bent_afc009fe xs k e → runB w_law_bent_afc009fe xs k fun _ => False := by
  rintro xs k e ⟨s, rfl, hs, hk⟩
  obtain ⟨x, y, z, hp, lx, lz⟩ := part_lenS s
  (walk_at "bk T")
  intro a a0 a1
  (walk_at "bk T")
  intro b b0 b1
  have b1 : b < 20 := b1
  obtain ⟨c, hc, ec⟩ := atI_in (l := (Str.ofString "0123456789/-+ .,aA_\n").cps.toList) b0 b1
  (walk_at "bk T")
  rw [ec]
  (walk_at "bk T")
  rw [hp]
  (walk_at "bk T")
  have c1 := Nat.le_trans (cut_lenS s none (some a)) hs
  have c2 := Nat.le_trans (cut_lenS s (some a) none) hs
  have c3 := Nat.le_trans (cut_lenS s (some (a + 1)) none) hs
  have lc : (⟨#[c]⟩ : Str).length = 1 := rfl
  have q1 := len_app (cutS s none (some a)) (⟨#[c]⟩ : Str)
  have o1 : (Str.ofString "0").length = 1 := rfl
  have o2 : (Str.ofString "+").length = 1 := rfl
  have o3 : (Str.ofString "-").length = 1 := rfl
  have o4 : (Str.ofString "/1").length = 2 := rfl
  have o5 : (Str.ofString "/0").length = 2 := rfl
  have o6 : (Str.ofString " ").length = 1 := rfl
  have o7 : (Str.ofString "\n").length = 1 := rfl
  have o8 : (Str.ofString "/").length = 1 := rfl
  have o9 : (Str.ofString "//").length = 2 := rfl
  have p1 := len_app x (Str.ofString "//")
  have p2 := len_app x (Str.ofString "/0")
  (walk_at "bk T")
  have w1 : (Txt.mul (Str.ofString "9") 300).length = 300 := by decide +kernel
  have w2 : (Txt.mul (Str.ofString "9") 301).length = 301 := by decide +kernel
  have w3 : (Txt.mul (Str.ofString "0") 301).length = 301 := by decide +kernel
  have w4 : (Txt.mul (Str.ofString "8") 300).length = 300 := by decide +kernel
  have w5 : (Str.ofString "1/").length = 2 := rfl
  have v1 : (Str.ofString "-0").length = 2 := rfl
  have v2 : (Str.ofString "0/1").length = 3 := rfl
  have v3 : (Str.ofString "2/4").length = 3 := rfl
  have v4 : (Str.ofString "6/3").length = 3 := rfl
  have v5 : (Str.ofString "").length = 0 := rfl
  have v6 : (Str.ofString "1e3").length = 3 := rfl
  obtain ⟨M, hM⟩ : ∃ M, M = [PyData.str (cutS s none (some a) ++ { cps := #[c] } ++ cutS s (some a) none),
                        PyData.str (cutS s none (some a) ++ { cps := #[c] } ++ cutS s (some (a + 1)) none),
                        PyData.str (cutS s none (some a) ++ cutS s (some (a + 1)) none),
                        PyData.str (Str.ofString "0" ++ s)] ++
                      [PyData.str (Str.ofString "+" ++ s), PyData.str (Str.ofString "-" ++ s),
                        PyData.str (s ++ Str.ofString "/1"), PyData.str (s ++ Str.ofString "/0"),
                        PyData.str (s ++ Str.ofString " "), PyData.str (Str.ofString " " ++ s),
                        PyData.str (s ++ Str.ofString "\n"), PyData.str (Str.ofString "-0"),
                        PyData.str (Str.ofString "0/1")] ++
                    [PyData.str (x ++ Str.ofString "/"), PyData.str (Str.ofString "/" ++ z),
                      PyData.str (x ++ Str.ofString "//" ++ z),
                      PyData.str (x ++ Str.ofString "/0" ++ z),
                      PyData.str (Str.ofString "2/4"), PyData.str (Str.ofString "6/3"), PyData.str (Str.ofString "")] ++
                  [PyData.str (Str.ofString "-"), PyData.str (Str.ofString "/"), PyData.str (Str.ofString "1e3")] ++
                [PyData.str (Txt.mul (Str.ofString "9") 300), PyData.str (Txt.mul (Str.ofString "9") 301),
                  PyData.str (Str.ofString "1/" ++ Txt.mul (Str.ofString "9") 300),
                  PyData.str (Str.ofString "1/" ++ Txt.mul (Str.ofString "9") 301),
                  PyData.str (Txt.mul (Str.ofString "0") 301),
                  PyData.str (Str.ofString "-" ++ Txt.mul (Str.ofString "8") 300)] := ⟨_, rfl⟩
  have hm : ∀ d ∈ M, ∃ t : Str, d = .str t ∧ t.length ≤ 20000 := by
    rw [hM]
    intro d hd
    simp only [List.mem_append, List.mem_cons, List.not_mem_nil, or_false] at hd
    rcases hd with (((hd | hd) | hd) | hd) | hd
    · rcases hd with rfl | rfl | rfl | rfl
      all_goals exact ⟨_, rfl, by simp only [len_app]; omega⟩
    · rcases hd with rfl | rfl | rfl | rfl | rfl | rfl | rfl | rfl | rfl
      all_goals exact ⟨_, rfl, by first | omega | (simp only [len_app]; omega)⟩
    · rcases hd with rfl | rfl | rfl | rfl | rfl | rfl | rfl
      all_goals exact ⟨_, rfl, by first | omega | (simp only [len_app]; omega)⟩
    · rcases hd with rfl | rfl | rfl
      all_goals exact ⟨_, rfl, by omega⟩
    · rcases hd with rfl | rfl | rfl | rfl | rfl | rfl
      all_goals exact ⟨_, rfl, by first | omega | (simp only [len_app]; omega)⟩
  dsimp only
  rw [← hM]
  clear hM
  intro r r0 r1
  obtain ⟨d, hd, ed⟩ := atI_in r0 r1
  obtain ⟨t, rfl, lt⟩ := hm d hd
  have hfin := hk t lt
  (walk_at "bk T")
  rw [ed]
  (walk_at "bk T")
  exact hfin

theorem sc__law_bent : FnScope ["_law_drawn", "_law_text", "_law_at", "_law_signs", "_law_sign", "_law_top", "_law_bar", "_law_bottom", "_law_some"] ["_law_drawn", "_law_text"] (defScope st__law_bent) := ⟨rfl, rfl, rfl, by decide +kernel, rfl, by decide +kernel, by decide +kernel⟩
theorem ok__law_bent (A : At K mg "_law_bent" st__law_bent ["_law_drawn", "_law_text"]) (sr : Sr P base) (d__law_next : Def2 P w K mg base "_law_next" 1 ["_law_drawn", "_law_many"] 1 2 s_next) (z_len : mg "len" = none) : Def2 P w K mg base "_law_bent" 2 ["_law_drawn", "_law_text"] 3 2 s_law_bent_afc009fe := by
  obtain ⟨f, fd, F, hm, hb⟩ := A.ex
  refine ⟨f, fd, fn_ok (k := 1) (m := 3) (wb := w_law_bent_afc009fe) sr F sc__law_bent rfl (fun cdv A outer sh H E hr hg => ?_) p_law_bent_afc009fe, hm, F.kp, hb⟩
  exact JSs.cost (jss_cons (js_asg 2 true (je_callD d__law_next s_next_0 (ja_cons (je_var 0) (ja_cons (je_add (je_len z_len (ja_cons (je_var 1) (ja_nil))) (je_int)) (ja_nil)))))
    (jss_cons (js_asg 3 true (je_str))
    (jss_cons (js_asg 4 true (je_ix (je_var 3) (je_callD d__law_next s_next_0 (ja_cons (je_var 0) (ja_cons (je_len z_len (ja_cons (je_var 3) (ja_nil))) (ja_nil))))))
    (jss_cons (js_asgT (je_partition (je_var 1) (je_str)) (jg_tup (jgs_cons (jg_name 5) (jgs_cons (jg_name 6) (jgs_cons (jg_name 7) (jgs_nil))))))
    (jss_cons (js_asg 8 true (je_lst (ja_cons (je_add (je_add (je_sl (je_var 1) (jo_none) (jo_some (je_var 2))) (je_var 4)) (je_sl (je_var 1) (jo_some (je_var 2)) (jo_none))) (ja_cons (je_add (je_add (je_sl (je_var 1) (jo_none) (jo_some (je_var 2))) (je_var 4)) (je_sl (je_var 1) (jo_some (je_add (je_var 2) (je_int))) (jo_none))) (ja_cons (je_add (je_sl (je_var 1) (jo_none) (jo_some (je_var 2))) (je_sl (je_var 1) (jo_some (je_add (je_var 2) (je_int))) (jo_none))) (ja_cons (je_add (je_str) (je_var 1)) (ja_nil)))))))
    (jss_cons (js_asg 8 true (je_add (je_var 8) (je_lst (ja_cons (je_add (je_str) (je_var 1)) (ja_cons (je_add (je_str) (je_var 1)) (ja_cons (je_add (je_var 1) (je_str)) (ja_cons (je_add (je_var 1) (je_str)) (ja_cons (je_add (je_var 1) (je_str)) (ja_cons (je_add (je_str) (je_var 1)) (ja_cons (je_add (je_var 1) (je_str)) (ja_cons (je_str) (ja_cons (je_str) (ja_nil)))))))))))))
    (jss_cons (js_asg 8 true (je_add (je_var 8) (je_lst (ja_cons (je_add (je_var 5) (je_str)) (ja_cons (je_add (je_str) (je_var 7)) (ja_cons (je_add (je_add (je_var 5) (je_str)) (je_var 7)) (ja_cons (je_add (je_add (je_var 5) (je_str)) (je_var 7)) (ja_cons (je_str) (ja_cons (je_str) (ja_cons (je_str) (ja_nil)))))))))))
    (jss_cons (js_asg 8 true (je_add (je_var 8) (je_lst (ja_cons (je_str) (ja_cons (je_str) (ja_cons (je_str) (ja_nil)))))))
    (jss_cons (js_asg 8 true (je_add (je_var 8) (je_lst (ja_cons (je_mulX (je_str) (je_int)) (ja_cons (je_mulX (je_str) (je_int)) (ja_cons (je_add (je_str) (je_mulX (je_str) (je_int))) (ja_cons (je_add (je_str) (je_mulX (je_str) (je_int))) (ja_cons (je_mulX (je_str) (je_int)) (ja_cons (je_add (je_str) (je_mulX (je_str) (je_int))) (ja_nil))))))))))
    (jss_one (js_ret (je_ix (je_var 8) (je_callD d__law_next s_next_0 (ja_cons (je_var 0) (ja_cons (je_len z_len (ja_cons (je_var 8) (ja_nil))) (ja_nil)))))))))))))))) (by decide)
abbrev st__law_read : Stmt := top 43
--USES reads
def s_law_read_ffb987b1 : Spec2 := fun xs k _ => ∃ d : PyData, xs = [.d d] ∧ (∀ s, d = .str s → s.length ≤ 100000) ∧ k (.own (rdL d))
theorem s_law_read_ffb987b1_0 : ∀ xs k e, s_law_read_ffb987b1 xs k e → s_law_read_ffb987b1 xs k fun _ => False := fun _ _ _ h => h

def w_law_read_ffb987b1 : WS :=
  wTryElse 2 ["NoText"] (fun _ => true) (wAsg 1 true (wCall s_read_fraction_07a05707 (wCons (wVar 0) (wNil)))) (fun a_e nm_e => wRet (wLst (wCons (wC (.str "refused")) (wCons (wCallE a_e nm_e s_law_no_text_0f950822 (wVar 2)) (wNil))))) (wRet (wLst (wCons (wC (.str "told")) (wCons (wVar 1) (wNil)))))

theorem p_law_read_ffb987b1 : ∀ xs k e, s_law_read_ffb987b1 xs k e → runB w_law_read_ffb987b1 xs k fun _ => False := by
  rintro xs k e ⟨d, rfl, hs, hk⟩
  (walk_at "bk T")
  refine ⟨fun h => ?_, fun h => ?_⟩
  · have hk : k (.own [.str (Str.ofString "refused"), .bool true]) := by unfold rdL at hk; rw [h] at hk; exact hk
    refine ⟨List.mem_cons_self .., ?_⟩
    (walk_at "bk T")
    intro a
    (walk_at "bk T")
    exact hk
  · rcases thD_cases d with z | ⟨p, q, z⟩
    · exact (h z).elim
    have hk : k (.own [.str (Str.ofString "told"), .tuple [.int p, .int q]]) := by unfold rdL at hk; rw [z] at hk; exact hk
    rw [z]
    (walk_at "bk T")
    exact hk

theorem sc__law_read : FnScope ["_law_thing", "_law_found", "_law_error"] ["_law_thing"] (defScope st__law_read) := ⟨rfl, rfl, rfl, by decide +kernel, rfl, by decide +kernel, by decide +kernel⟩
theorem ok__law_read (A : At K mg "_law_read" st__law_read ["_law_thing"]) (sr : Sr P base) (d_read_fraction : Def2X P w K mg base "read_fraction" 3 ["thing"] 0 1 s_read_fraction_07a05707) (d__law_no_text : Def2E P w K mg base "_law_no_text" 1 ["_law_error"] 0 ["NoText"] s_law_no_text_0f950822) (y_StallError : ErrM K mg "StallError" ["NoText"] (fun _ => true)) (i_errs : ErrI K mg ["NoText"]) : Def2 P w K mg base "_law_read" 4 ["_law_thing"] 0 1 s_law_read_ffb987b1 := by
  obtain ⟨f, fd, F, hm, hb⟩ := A.ex
  refine ⟨f, fd, fn_ok (k := 3) (m := 0) (wb := w_law_read_ffb987b1) sr F sc__law_read rfl (fun cdv A outer sh H E hr hg => ?_) p_law_read_ffb987b1, hm, F.kp, hb⟩
  exact JSs.cost (jss_one (js_try_else 2 y_StallError tk_famN (fun _ => jss_one (js_asg 1 true (je_callX d_read_fraction tk_tr (ja_cons (je_var 0) (ja_nil))))) (fun nm_e a_e _ _ hin_e hx_e => jss_one (js_ret (je_lst (ja_cons (je_str) (ja_cons (je_callS hx_e hin_e i_errs d__law_no_text (je_var 2)) (ja_nil)))))) (jss_one (js_ret (je_lst (ja_cons (je_str) (ja_cons (je_var 1) (ja_nil)))))))) (by decide)
abbrev st__law_right : Stmt := top 44
--USES reads texts2
def s_law_right_17068283 : Spec2 := fun xs k _ => ∃ s : Str, xs = [.d (.str s)] ∧ s.length ≤ 100000 ∧ k (.d (.bool true))
theorem s_law_right_17068283_0 : ∀ xs k e, s_law_right_17068283 xs k e → s_law_right_17068283 xs k fun _ => False := fun _ _ _ h => h

def w_law_right_17068283_r1 : WS :=
  wRet (wAndV (wBin eqD (wBin ixD (wVar 2) (wC (.int 0))) (wC (.str "told"))) (wCall s_law_just_ad54055b (wCons (wBin ixD (wVar 2) (wC (.int 1))) (wCons (wVar 1) (wNil)))))
def w_law_right_17068283 : WS :=
  wSeq (wAsg 1 true (wCall s_law_fraction_of_4f0d6c37 (wCons (wVar 0) (wNil))))
  (wSeq (wAsg 2 true (wCall s_law_read_ffb987b1 (wCons (wVar 0) (wNil))))
  (wSeq (wIf (wTest (wIsN false (wVar 1))) (wRet (wBin eqD (wVar 2) (wLst (wCons (wC (.str "refused")) (wCons (wC (.bool true)) (wNil)))))) (wNext))
  (w_law_right_17068283_r1)))

theorem p_law_right_17068283 : ∀ xs k e, s_law_right_17068283 xs k e → runB w_law_right_17068283 xs k fun _ => False := by
  rintro xs k e ⟨s, rfl, hs, hk⟩
  have es := S_tl s
  have ls := len_tl s
  generalize TL.tl s = l at es ls
  subst es
  have hl : l.length ≤ 100000 := by omega
  have hb : ∀ s, PyData.str (SX.S l) = PyData.str s → s.length ≤ 100000 := fun s e => by cases e; exact hs
  rcases frcD_cases l with h | ⟨p, q, h⟩
  · have hr := rdL_no h
    (walk_at "bk T")
    rw [h, hr]
    (walk_at "bk T")
    have T : Tame 10 (.list [.str (Str.ofString "refused"), .bool true]) := ⟨by decide +kernel, by decide +kernel⟩
    refine ⟨.inr ⟨T.shaped (by decide), T.shaped (by decide)⟩, ?_⟩
    rw [eqv_refl T]
    (walk_at "bk T")
    exact hk
  · have hr := rdL_yes h
    (walk_at "bk T")
    rw [h, hr]
    (walk_at "bk T")
    refine ⟨jst_2 (.int _ p) (.int _ q), ?_⟩
    (walk_at "bk T")
    exact hk

theorem sc__law_right : FnScope ["_law_text", "_law_due", "_law_found"] ["_law_text"] (defScope st__law_right) := ⟨rfl, rfl, rfl, by decide +kernel, rfl, by decide +kernel, by decide +kernel⟩
theorem ok__law_right (A : At K mg "_law_right" st__law_right ["_law_text"]) (sr : Sr P base) (d__law_fraction_of : Def2 P w K mg base "_law_fraction_of" 2 ["_law_word"] 0 1 s_law_fraction_of_4f0d6c37) (d__law_read : Def2 P w K mg base "_law_read" 4 ["_law_thing"] 0 1 s_law_read_ffb987b1) (d__law_just : Def2 P w K mg base "_law_just" 14 ["_law_thing", "_law_due"] 0 2 s_law_just_ad54055b) : Def2 P w K mg base "_law_right" 15 ["_law_text"] 0 1 s_law_right_17068283 := by
  obtain ⟨f, fd, F, hm, hb⟩ := A.ex
  refine ⟨f, fd, fn_ok (k := 14) (m := 0) (wb := w_law_right_17068283) sr F sc__law_right rfl (fun cdv A outer sh H E hr hg => ?_) p_law_right_17068283, hm, F.kp, hb⟩
  exact JSs.cost (jss_cons (js_asg 1 true (je_callD d__law_fraction_of s_law_fraction_of_4f0d6c37_0 (ja_cons (je_var 0) (ja_nil))))
    (jss_cons (js_asg 2 true (je_callD d__law_read s_law_read_ffb987b1_0 (ja_cons (je_var 0) (ja_nil))))
    (jss_cons (js_if (jt_isN (je_var 1)) (jss_one (js_ret (je_eq (je_var 2) (je_lst (ja_cons (je_str) (ja_cons (je_bl) (ja_nil))))))) (jss_nil))
    (jss_one (js_ret (je_and (je_eq (je_ix (je_var 2) (je_int)) (je_str)) (je_one (je_callD d__law_just s_law_just_ad54055b_0 (ja_cons (je_ix (je_var 2) (je_int)) (ja_cons (je_var 1) (ja_nil))))))))))) (by decide)
abbrev st_law : Stmt := top 45
--USES reads texts2

def w_law_r1 : WS :=
  wSeq (wAsg 5 true (wBin ixD (wLst (wCons (wC .none) (wCons (wC (.bool true)) (wCons (wC (.int 0)) (wCons (wC (.int 5)) (wCons (wTup (wNil)) (wCons (wTup (wCons (wC (.int 1)) (wCons (wC (.int 2)) (wNil)))) (wCons (wLst (wCons (wC (.str "1")) (wNil))) (wCons (wDic0) (wCons (wTup (wCons (wC (.str "1")) (wNil))) (wCons (wDic1 (wC (.str "1")) (wC (.int 1))) (wNil)))))))))))) (wCall s_next (wCons (wVar 1) (wCons (wC (.int 10)) (wNil))))))
  (wIf (wOr (wTest (wBin neD (wCall s_law_read_ffb987b1 (wCons (wVar 5) (wNil))) (wLst (wCons (wC (.str "refused")) (wCons (wC (.bool true)) (wNil)))))) (wNot (wTest (wCall s_law_just_ad54055b (wCons (wCall s_show_fraction_e130b370 (wCons (wVar 3) (wNil))) (wCons (wVar 4) (wNil))))))) (wRet (wC (.bool false))) (wNext))
def w_law_r2 : WS :=
  wSeq (wIf (wNot (wTest (wCall s_law_right_17068283 (wCons (wCall s_law_bent_afc009fe (wCons (wVar 1) (wCons (wVar 4) (wNil)))) (wNil))))) (wRet (wC (.bool false))) (wNext))
  (w_law_r1)
def w_law_l1 : WS :=
  wSeq (wAsg 3 true (wCall s_law_any_fraction_8d33e5b6 (wCons (wVar 1) (wNil))))
  (wSeq (wAsg 4 true (wCall s_law_fraction_text_112bd051 (wCons (wVar 3) (wNil))))
  (wSeq (wIf (wOr (wNot (wTest (wCall s_law_just_ad54055b (wCons (wCall s_show_fraction_e130b370 (wCons (wVar 3) (wNil))) (wCons (wVar 4) (wNil)))))) (wNot (wTest (wCall s_law_right_17068283 (wCons (wVar 4) (wNil)))))) (wRet (wC (.bool false))) (wNext))
  (w_law_r2)))
def w_law_r3 : WS :=
  wRet (wC (.bool true))
def w_law : WS :=
  wSeq (wFor (wRange (wCons (wC (.int 8)) (wNil))) (gN 2) w_law_l1)
  (w_law_r3)

theorem p_law : w_law { nx := fun _ => False, rt := fun y => y = .d (.bool true) } (upE (fun _ => none) 1 (some .drw)) := by
  obtain ⟨L1, hL1⟩ : ∃ R, R = w_law_l1 := ⟨_, rfl⟩
  obtain ⟨c, hc⟩ : ∃ c : Int, c = 8 := ⟨_, rfl⟩
  unfold w_law
  rw [← hL1, ← hc]
  have c8 : c.toNat = 8 := by rw [hc]; rfl
  (walk_at "bk T")
  rw [show (span 0 c.toNat) = [0, 1, 2, 3, 4, 5, 6, 7].map PyData.int by rw [c8]; rfl]
  refine forL_do (enc := PyData.int) (E := fun _ : Unit => [(1, .drw)]) (I := fun _ _ => True) [0, 1, 2, 3, 4, 5, 6, 7] () rfl (by repeat (first | exact trivial | refine And.intro (by first | exact rfl | (simp only [erase_map, List.map_append, List.map_cons, List.map_nil, List.nil_append, List.append_nil]; rfl)) ?_)) trivial ?_ ?_
  · rintro i is _ ρ D _ ih _ _ _ _
    rw [hL1]
    unfold w_law_l1
    (walk_at "bk T")
    intro r hr
    have lf : (frS r).length ≤ 6300 := by unfold frS; rw [SX.S_len]; exact figB_len hr
    have J : ∀ n, Jst n (.str (frS r)) := fun n => .str _ _ (frS_low r)
    (walk_at "bk T")
    refine ⟨J 11, ?_⟩
    have l9 : (frS r).length ≤ 9000 := by omega
    have l10 : (frS r).length ≤ 100000 := by omega
    obtain ⟨R2, hR2⟩ : ∃ R, R = w_law_r2 := ⟨_, rfl⟩
    rw [← hR2]
    (walk_at "bk T")
    rw [hR2]
    unfold w_law_r2
    obtain ⟨R1, hR1⟩ : ∃ R, R = w_law_r1 := ⟨_, rfl⟩
    rw [← hR1]
    (walk_at "bk T")
    intro t lt
    have lt2 : t.length ≤ 100000 := by omega
    (walk_at "bk T")
    rw [hR1]
    unfold w_law_r1
    (walk_at "bk T")
    intro y y0 y1
    obtain ⟨M, hM⟩ : ∃ M, M = [PyData.none, .bool true, .int 0, .int 5, .tuple [], .tuple [.int 1, .int 2], .list [.str (Str.ofString "1")], .dict [], .tuple [.str (Str.ofString "1")], .dict [(.str (Str.ofString "1"), .int 1)]] := ⟨_, rfl⟩
    have hm : ∀ d ∈ M, ∀ s, d ≠ .str s := by
      rw [hM]
      intro d hd s e
      simp only [List.mem_cons, List.not_mem_nil, or_false] at hd
      rcases hd with rfl | rfl | rfl | rfl | rfl | rfl | rfl | rfl | rfl | rfl <;> cases e
    rw [← hM]
    obtain ⟨d, hd, ed⟩ := atI_in (l := M) y0 (by rw [hM]; exact y1)
    have hd := hm d hd
    have hr := rdL_odd hd
    have hb : ∀ s, d = PyData.str s → s.length ≤ 100000 := fun s e => (hd s e).elim
    clear hm hM
    (walk_at "bk T")
    rw [ed]
    (walk_at "bk T")
    rw [hr]
    have T : Tame 10 (.list [.str (Str.ofString "refused"), .bool true]) := ⟨by decide +kernel, by decide +kernel⟩
    refine ⟨.inr ⟨T.shaped (by decide), T.shaped (by decide)⟩, ?_⟩
    rw [eqv_refl T]
    (walk_at "bk T")
    refine ⟨J 11, ?_⟩
    (walk_at "bk T")
    exact ih () _ trivial (by repeat (first | exact trivial | refine And.intro (by first | exact rfl | (simp only [erase_map, List.map_append, List.map_cons, List.map_nil, List.nil_append, List.append_nil]; rfl)) ?_))
  · rintro _ ρ _
    (walk_at "bk T")

theorem sc_law : FnScope ["_law_script", "_law_drawn", "_law_k", "_law_one", "_law_text", "_law_odd"] ["_law_script"] (defScope st_law) := ⟨rfl, rfl, rfl, by decide +kernel, rfl, by decide +kernel, by decide +kernel⟩
theorem final_law {f : Addr} {fd : FuncData} (F : Fun K "law" "law" st_law f fd) (hm : mg "law" = some (.ref f)) (hb : ∀ (s : Shared) (v : Value), BindsTo s fd ⟨[v], []⟩ [("_law_script", v)]) (dd : DrawsAt P w K mg base) (sr : Sr P base) (d__law_any_fraction : Def2 P w K mg base "_law_any_fraction" 4 ["_law_drawn"] 12 1 s_law_any_fraction_8d33e5b6) (d__law_fraction_text : Def2 P w K mg base "_law_fraction_text" 1 ["_law_one"] 0 1 s_law_fraction_text_112bd051) (d__law_just : Def2 P w K mg base "_law_just" 14 ["_law_thing", "_law_due"] 0 2 s_law_just_ad54055b) (d_show_fraction : Def2 P w K mg base "show_fraction" 2 ["one"] 0 1 s_show_fraction_e130b370) (d__law_right : Def2 P w K mg base "_law_right" 15 ["_law_text"] 0 1 s_law_right_17068283) (d__law_bent : Def2 P w K mg base "_law_bent" 2 ["_law_drawn", "_law_text"] 3 2 s_law_bent_afc009fe) (d__law_next : Def2 P w K mg base "_law_next" 1 ["_law_drawn", "_law_many"] 1 2 s_next) (d__law_read : Def2 P w K mg base "_law_read" 4 ["_law_thing"] 0 1 s_law_read_ffb987b1) (z_range : mg "range" = none) : FnG P w K mg base CX0 16 f fd ["_law_script"] (spLaw K) := by
  obtain ⟨fD, fdD, FD, hmD, hkD, hbD⟩ := dd.ex
  refine fn_law (k := 15) (m := 73786976294838206464) (wb := w_law) sr F sc_law rfl (by decide) (fun cdv A outer sh H E hr hg => ps_set (i := 1) sc_law.nd rfl (by first | exact Or.inl rfl | exact Or.inr rfl) (pe_callG FD (hg.mono (by decide)) (hr.mono (by decide)) rfl hmD hkD hbD .nil pass0 (pa_cons (pv 0) pa_nil))) (fun cdv A outer sh H E hr hg => ?_) (by unfold LIM; decide) p_law
  exact JSs.cost (jss_cons (js_for (ji_range1 z_range (ja_cons (je_int) (ja_nil))) (jg_name 2) (jss_cons (js_asg 3 true (je_callD d__law_any_fraction s_law_any_fraction_8d33e5b6_0 (ja_cons (je_var 1) (ja_nil))))
    (jss_cons (js_asg 4 true (je_callD d__law_fraction_text s_law_fraction_text_112bd051_0 (ja_cons (je_var 3) (ja_nil))))
    (jss_cons (js_if (JW.t (jw_or (jt_not (jt_val (je_callD d__law_just s_law_just_ad54055b_0 (ja_cons (je_callD d_show_fraction s_show_fraction_e130b370_0 (ja_cons (je_var 3) (ja_nil))) (ja_cons (je_var 4) (ja_nil)))))) (jw_or1 (jt_not (jt_val (je_callD d__law_right s_law_right_17068283_0 (ja_cons (je_var 4) (ja_nil)))))))) (jss_one (js_ret (je_bl))) (jss_nil))
    (jss_cons (js_if (jt_not (jt_val (je_callD d__law_right s_law_right_17068283_0 (ja_cons (je_callD d__law_bent s_law_bent_afc009fe_0 (ja_cons (je_var 1) (ja_cons (je_var 4) (ja_nil)))) (ja_nil))))) (jss_one (js_ret (je_bl))) (jss_nil))
    (jss_cons (js_asg 5 true (je_ix (je_lst (ja_cons (je_non) (ja_cons (je_bl) (ja_cons (je_int) (ja_cons (je_int) (ja_cons (je_tup (ja_nil)) (ja_cons (je_tup (ja_cons (je_int) (ja_cons (je_int) (ja_nil)))) (ja_cons (je_lst (ja_cons (je_str) (ja_nil))) (ja_cons (je_dic0) (ja_cons (je_tup (ja_cons (je_str) (ja_nil))) (ja_cons (je_dic1 (je_str) (je_int)) (ja_nil)))))))))))) (je_callD d__law_next s_next_0 (ja_cons (je_var 1) (ja_cons (je_int) (ja_nil))))))
    (jss_one (js_if (JW.t (jw_or (jt_ne (je_callD d__law_read s_law_read_ffb987b1_0 (ja_cons (je_var 5) (ja_nil))) (je_lst (ja_cons (je_str) (ja_cons (je_bl) (ja_nil))))) (jw_or1 (jt_not (jt_val (je_callD d__law_just s_law_just_ad54055b_0 (ja_cons (je_callD d_show_fraction s_show_fraction_e130b370_0 (ja_cons (je_var 3) (ja_nil))) (ja_cons (je_var 4) (ja_nil))))))))) (jss_one (js_ret (je_bl))) (jss_nil)))))))))
    (jss_one (js_ret (je_bl)))) (by decide)
theorem final {fa : Addr} (hfa : mg "law" = some (.ref fa)) (tree : P.given.tree = none) (A_figures_of : At K mg "figures_of" st_figures_of ["number"]) (A_show_fraction : At K mg "show_fraction" st_show_fraction ["one"]) (A_count_read : At K mg "count_read" st_count_read ["word", "most"]) (A_is_shared : At K mg "is_shared" st_is_shared ["one", "other"]) (A_fraction_read : At K mg "fraction_read" st_fraction_read ["word"]) (A_read_fraction : At K mg "read_fraction" st_read_fraction ["thing"]) (A_common : At K mg "common" st_common ["one", "other"]) (A_lowest : At K mg "lowest" st_lowest ["top", "bottom"]) (A_times : At K mg "times" st_times ["one", "other"]) (A__law_draws : At K mg "_law_draws" st__law_draws ["_law_script"]) (A__law_next : At K mg "_law_next" st__law_next ["_law_drawn", "_law_many"]) (A__law_whole : At K mg "_law_whole" st__law_whole ["_law_thing"]) (A__law_lowest : At K mg "_law_lowest" st__law_lowest ["_law_top", "_law_bottom"]) (A__law_fraction : At K mg "_law_fraction" st__law_fraction ["_law_drawn"]) (A__law_just : At K mg "_law_just" st__law_just ["_law_thing", "_law_due"]) (A__law_fraction_text : At K mg "_law_fraction_text" st__law_fraction_text ["_law_one"]) (A__law_fraction_of : At K mg "_law_fraction_of" st__law_fraction_of ["_law_word"]) (A__law_no_text : At K mg "_law_no_text" st__law_no_text ["_law_error"]) (A__law_any_fraction : At K mg "_law_any_fraction" st__law_any_fraction ["_law_drawn"]) (A__law_bent : At K mg "_law_bent" st__law_bent ["_law_drawn", "_law_text"]) (A__law_read : At K mg "_law_read" st__law_read ["_law_thing"]) (A__law_right : At K mg "_law_right" st__law_right ["_law_text"]) (A_law : LawAt K mg "law" st_law "_law_script") (z_divmod : mg "divmod" = none) (z_str : mg "str" = none) (z_abs : mg "abs" = none) (z_len : mg "len" = none) (z_int : mg "int" = none) (z_isinstance : mg "isinstance" = none) (z_list : mg "list" = none) (z_bool : mg "bool" = none) (z_tuple : mg "tuple" = none) (z_zip : mg "zip" = none) (z_figures__ : PySem.W.nsIn K cStatics "sys.int_max_str_digits" = some none) (z_range : mg "range" = none) (c_PART : ∃ t, mg "PART" = some (.int 60 t)) (c_FIGURES : ∃ t, mg "FIGURES" = some (.str "0123456789" t)) (c_MOST_FIGURES : ∃ t, mg "MOST_FIGURES" = some (.int 300 t)) (x_NoText : ErrC K mg "NoText") (y_StallError : ErrM K mg "StallError" ["NoText"] (fun _ => true)) (i_errs : ErrI K mg ["NoText"]) (v_Fair : ErrV K mg "Fair" ["NoText"] (fun _ => false)) (v_NoBet : ErrV K mg "NoBet" ["NoText"] (fun _ => false)) (v_NoCover : ErrV K mg "NoCover" ["NoText"] (fun _ => false)) (v_NoDeed : ErrV K mg "NoDeed" ["NoText"] (fun _ => false)) (v_NoHolder : ErrV K mg "NoHolder" ["NoText"] (fun _ => false)) (v_NoSaying : ErrV K mg "NoSaying" ["NoText"] (fun _ => false)) (v_NoStake : ErrV K mg "NoStake" ["NoText"] (fun _ => false)) (v_NoStep : ErrV K mg "NoStep" ["NoText"] (fun _ => false)) (v_NotAlike : ErrV K mg "NotAlike" ["NoText"] (fun _ => false)) (v_NoTicket : ErrV K mg "NoTicket" ["NoText"] (fun _ => false)) (v_NoWorld : ErrV K mg "NoWorld" ["NoText"] (fun _ => false)) (v_TooLong : ErrV K mg "TooLong" ["NoText"] (fun _ => false)) (v_TooMany : ErrV K mg "TooMany" ["NoText"] (fun _ => false)) (v_Unfair : ErrV K mg "Unfair" ["NoText"] (fun _ => false)) (v_ValueError : ErrV K mg "ValueError" ["NoText"] (fun _ => true)) (v_NoText : ErrV K mg "NoText" ["NoText"] (fun _ => true)) : ∃ fd : FuncData, (∀ (s : Shared) (v : Value), BindsTo s fd ⟨[v], []⟩ [("_law_script", v)]) ∧ ∀ base : Heap, K.In base → base.Ns mainGlobals mg → base.NoSeer → FnG P w K mg base CX0 16 fa fd ["_law_script"] (spLaw K) := by
  obtain ⟨f0, fd0, F0, hm0, hb0⟩ := A_law.ex
  have e := hfa.symm.trans hm0
  cases e
  refine ⟨fd0, hb0, fun base _ _ seer => ?_⟩
  have sr : Sr P base := ⟨tree, seer⟩
  have A_law0 : LawAt K mg "law" st_law "_law_script" := ⟨fa, fd0, F0, hm0, hb0⟩
  have d_figures_of : Def2 P w K mg base "figures_of" 1 ["number"] 0 1 s_figures_of_775ace51 := ok_figures_of A_figures_of sr z_divmod z_str c_PART
  have d_show_fraction : Def2 P w K mg base "show_fraction" 2 ["one"] 0 1 s_show_fraction_e130b370 := ok_show_fraction A_show_fraction sr d_figures_of z_abs
  have d_count_read : Def2 P w K mg base "count_read" 1 ["word", "most"] 0 2 s_count_read_b47a9caa := ok_count_read A_count_read sr z_len z_int c_FIGURES
  have d_is_shared : Def2 P w K mg base "is_shared" 1 ["one", "other"] 0 2 s_is_shared_87f6b559 := ok_is_shared A_is_shared sr
  have d_fraction_read : Def2 P w K mg base "fraction_read" 2 ["word"] 0 1 s_fraction_read_ccc4afb4 := ok_fraction_read A_fraction_read sr d_count_read d_is_shared z_len c_MOST_FIGURES
  have d_read_fraction : Def2X P w K mg base "read_fraction" 3 ["thing"] 0 1 s_read_fraction_07a05707 := ok_read_fraction A_read_fraction sr d_fraction_read z_isinstance z_str x_NoText
  have d_common : Def2 P w K mg base "common" 1 ["one", "other"] 0 2 s_common_58998760 := ok_common A_common sr
  have d_lowest : Def2 P w K mg base "lowest" 2 ["top", "bottom"] 0 2 s_lowest_dfeee63e := ok_lowest A_lowest sr d_common z_abs
  have d_times : Def2 P w K mg base "times" 3 ["one", "other"] 0 2 s_times_59e72531 := ok_times A_times sr d_lowest
  have dd : DrawsAt P w K mg base := ok__law_draws A__law_draws z_len z_list z_int
  have d__law_next : Def2 P w K mg base "_law_next" 1 ["_law_drawn", "_law_many"] 1 2 s_next := ok__law_next A__law_next z_len
  have d__law_whole : Def2 P w K mg base "_law_whole" 1 ["_law_thing"] 0 1 s_law_whole_93584714 := ok__law_whole A__law_whole sr z_isinstance z_int z_bool
  have d__law_lowest : Def2 P w K mg base "_law_lowest" 1 ["_law_top", "_law_bottom"] 0 2 s_law_lowest_bd3ba674 := ok__law_lowest A__law_lowest sr z_abs
  have d__law_fraction : Def2 P w K mg base "_law_fraction" 2 ["_law_drawn"] 8 1 s_law_fraction_3f6da292 := ok__law_fraction A__law_fraction sr d__law_next d__law_lowest
  have d__law_just_0 := ok__law_just_0 (P := P) (w := w) (base := base) A__law_just
  have d__law_just_1 := ok__law_just_1 A__law_just sr d__law_just_0 d__law_whole z_isinstance z_tuple z_len z_zip z_str
  have d__law_just_2 := ok__law_just_2 A__law_just sr d__law_just_1 d__law_whole z_isinstance z_tuple z_len z_zip z_str
  have d__law_just_3 := ok__law_just_3 A__law_just sr d__law_just_2 d__law_whole z_isinstance z_tuple z_len z_zip z_str
  have d__law_just_4 := ok__law_just_4 A__law_just sr d__law_just_3 d__law_whole z_isinstance z_tuple z_len z_zip z_str
  have d__law_just_5 := ok__law_just_5 A__law_just sr d__law_just_4 d__law_whole z_isinstance z_tuple z_len z_zip z_str
  have d__law_just_6 := ok__law_just_6 A__law_just sr d__law_just_5 d__law_whole z_isinstance z_tuple z_len z_zip z_str
  have d__law_just_7 := ok__law_just_7 A__law_just sr d__law_just_6 d__law_whole z_isinstance z_tuple z_len z_zip z_str
  have d__law_just_8 := ok__law_just_8 A__law_just sr d__law_just_7 d__law_whole z_isinstance z_tuple z_len z_zip z_str
  have d__law_just_9 := ok__law_just_9 A__law_just sr d__law_just_8 d__law_whole z_isinstance z_tuple z_len z_zip z_str
  have d__law_just_10 := ok__law_just_10 A__law_just sr d__law_just_9 d__law_whole z_isinstance z_tuple z_len z_zip z_str
  have d__law_just_11 := ok__law_just_11 A__law_just sr d__law_just_10 d__law_whole z_isinstance z_tuple z_len z_zip z_str
  have d__law_just_12 := ok__law_just_12 A__law_just sr d__law_just_11 d__law_whole z_isinstance z_tuple z_len z_zip z_str
  have d__law_just : Def2 P w K mg base "_law_just" 14 ["_law_thing", "_law_due"] 0 2 s_law_just_ad54055b := d__law_just_12
  have d__law_fraction_text : Def2 P w K mg base "_law_fraction_text" 1 ["_law_one"] 0 1 s_law_fraction_text_112bd051 := ok__law_fraction_text A__law_fraction_text sr z_figures__ z_str
  have d__law_fraction_of : Def2 P w K mg base "_law_fraction_of" 2 ["_law_word"] 0 1 s_law_fraction_of_4f0d6c37 := ok__law_fraction_of A__law_fraction_of sr d__law_lowest z_int z_len
  have d__law_no_text : Def2E P w K mg base "_law_no_text" 1 ["_law_error"] 0 ["NoText"] s_law_no_text_0f950822 := ok__law_no_text A__law_no_text sr z_isinstance i_errs v_Fair v_NoBet v_NoCover v_NoDeed v_NoHolder v_NoSaying v_NoStake v_NoStep v_NotAlike v_NoTicket v_NoWorld v_TooLong v_TooMany v_Unfair v_ValueError v_NoText
  have d__law_any_fraction : Def2 P w K mg base "_law_any_fraction" 4 ["_law_drawn"] 12 1 s_law_any_fraction_8d33e5b6 := ok__law_any_fraction A__law_any_fraction sr d__law_next d__law_fraction d__law_lowest d_times z_range
  have d__law_bent : Def2 P w K mg base "_law_bent" 2 ["_law_drawn", "_law_text"] 3 2 s_law_bent_afc009fe := ok__law_bent A__law_bent sr d__law_next z_len
  have d__law_read : Def2 P w K mg base "_law_read" 4 ["_law_thing"] 0 1 s_law_read_ffb987b1 := ok__law_read A__law_read sr d_read_fraction d__law_no_text y_StallError i_errs
  have d__law_right : Def2 P w K mg base "_law_right" 15 ["_law_text"] 0 1 s_law_right_17068283 := ok__law_right A__law_right sr d__law_fraction_of d__law_read d__law_just
  exact final_law F0 hm0 hb0 dd sr d__law_any_fraction d__law_fraction_text d__law_just d_show_fraction d__law_right d__law_bent d__law_next d__law_read z_range
abbrev at_figures_of := @at_mk2 K mg "figures_of" st_figures_of ["number"] (fun _ _ _ _ _ _ us hl => match us, hl with | [_], _ => rfl)
abbrev at_show_fraction := @at_mk2 K mg "show_fraction" st_show_fraction ["one"] (fun _ _ _ _ _ _ us hl => match us, hl with | [_], _ => rfl)
abbrev at_count_read := @at_mk2 K mg "count_read" st_count_read ["word", "most"] (fun _ _ _ _ _ _ us hl => match us, hl with | [_, _], _ => rfl)
abbrev at_is_shared := @at_mk2 K mg "is_shared" st_is_shared ["one", "other"] (fun _ _ _ _ _ _ us hl => match us, hl with | [_, _], _ => rfl)
abbrev at_fraction_read := @at_mk2 K mg "fraction_read" st_fraction_read ["word"] (fun _ _ _ _ _ _ us hl => match us, hl with | [_], _ => rfl)
abbrev at_read_fraction := @at_mk2 K mg "read_fraction" st_read_fraction ["thing"] (fun _ _ _ _ _ _ us hl => match us, hl with | [_], _ => rfl)
abbrev at_common := @at_mk2 K mg "common" st_common ["one", "other"] (fun _ _ _ _ _ _ us hl => match us, hl with | [_, _], _ => rfl)
abbrev at_lowest := @at_mk2 K mg "lowest" st_lowest ["top", "bottom"] (fun _ _ _ _ _ _ us hl => match us, hl with | [_, _], _ => rfl)
abbrev at_times := @at_mk2 K mg "times" st_times ["one", "other"] (fun _ _ _ _ _ _ us hl => match us, hl with | [_, _], _ => rfl)
abbrev at__law_draws := @at_mk2 K mg "_law_draws" st__law_draws ["_law_script"] (fun _ _ _ _ _ _ us hl => match us, hl with | [_], _ => rfl)
abbrev at__law_next := @at_mk2 K mg "_law_next" st__law_next ["_law_drawn", "_law_many"] (fun _ _ _ _ _ _ us hl => match us, hl with | [_, _], _ => rfl)
abbrev at__law_whole := @at_mk2 K mg "_law_whole" st__law_whole ["_law_thing"] (fun _ _ _ _ _ _ us hl => match us, hl with | [_], _ => rfl)
abbrev at__law_lowest := @at_mk2 K mg "_law_lowest" st__law_lowest ["_law_top", "_law_bottom"] (fun _ _ _ _ _ _ us hl => match us, hl with | [_, _], _ => rfl)
abbrev at__law_fraction := @at_mk2 K mg "_law_fraction" st__law_fraction ["_law_drawn"] (fun _ _ _ _ _ _ us hl => match us, hl with | [_], _ => rfl)
abbrev at__law_just := @at_mk2 K mg "_law_just" st__law_just ["_law_thing", "_law_due"] (fun _ _ _ _ _ _ us hl => match us, hl with | [_, _], _ => rfl)
abbrev at__law_fraction_text := @at_mk2 K mg "_law_fraction_text" st__law_fraction_text ["_law_one"] (fun _ _ _ _ _ _ us hl => match us, hl with | [_], _ => rfl)
abbrev at__law_fraction_of := @at_mk2 K mg "_law_fraction_of" st__law_fraction_of ["_law_word"] (fun _ _ _ _ _ _ us hl => match us, hl with | [_], _ => rfl)
abbrev at__law_no_text := @at_mk2 K mg "_law_no_text" st__law_no_text ["_law_error"] (fun _ _ _ _ _ _ us hl => match us, hl with | [_], _ => rfl)
abbrev at__law_any_fraction := @at_mk2 K mg "_law_any_fraction" st__law_any_fraction ["_law_drawn"] (fun _ _ _ _ _ _ us hl => match us, hl with | [_], _ => rfl)
abbrev at__law_bent := @at_mk2 K mg "_law_bent" st__law_bent ["_law_drawn", "_law_text"] (fun _ _ _ _ _ _ us hl => match us, hl with | [_, _], _ => rfl)
abbrev at__law_read := @at_mk2 K mg "_law_read" st__law_read ["_law_thing"] (fun _ _ _ _ _ _ us hl => match us, hl with | [_], _ => rfl)
abbrev at__law_right := @at_mk2 K mg "_law_right" st__law_right ["_law_text"] (fun _ _ _ _ _ _ us hl => match us, hl with | [_], _ => rfl)
theorem at_law {h : Heap} {f : Addr} {od an : Option Addr} {sl : Array (Option Value)} {oc kV dc pm cd ct : Value} (X : K.In h) (G : h.Ns mainGlobals mg) (a : PySem.W.nsIn K mainGlobals "law" = some (some (.ref f))) (l : K.lookup f = some ⟨oc, od, .func (PySem.W.fnOf "law" "law" (defArgs st_law) (defBody st_law) (defScope st_law) .none kV dc pm an cd ct), sl⟩) (c : PySem.W.codeIn K cd "law" = true) (k : PySem.W.keepIn K (.ref f) = true) : LawAt K mg "law" st_law "_law_script" := law_mk X G (fun _ _ _ _ _ _ s v => .of_eq rfl) a l c k
end Kk82
open PySem PySem.W PyProof.Rows
set_option maxRecDepth 100000 in
set_option maxHeartbeats 0 in
theorem PySem.Challenge.cw_betstall_k82_fractions_written_holds : PySem.Challenge.rw_betstall_k82_fractions_written.Holds :=
  k82_head (by
  k_fill
  refine B2.walk_ofG (l := PySem.Challenge.rw_betstall_k82_fractions_written) (n := 63) (k := 16) (x := "_law_script") (CX := fun _ => L2.CX0) (sp := fun w => B2.spLaw _) rfl (by decide) rfl ⟨rfl, by decide, by decide⟩ ⟨rfl, by decide⟩ (by decide +kernel) (fun w h Y => PySem.W.kIn_of Y) ?F (fun _ _ a ns hl _ hS => ⟨a, ns, rfl, hS, hl, fun _ => rfl⟩) (fun _ _ _ _ _ h => h)
  case F =>
    intro w mg fa h KX G hmg
    refine' Kk82.final hmg rfl (Kk82.at_figures_of KX G ?a_figures_of ?l_figures_of ?c_figures_of ?k_figures_of) (Kk82.at_show_fraction KX G ?a_show_fraction ?l_show_fraction ?c_show_fraction ?k_show_fraction) (Kk82.at_count_read KX G ?a_count_read ?l_count_read ?c_count_read ?k_count_read) (Kk82.at_is_shared KX G ?a_is_shared ?l_is_shared ?c_is_shared ?k_is_shared) (Kk82.at_fraction_read KX G ?a_fraction_read ?l_fraction_read ?c_fraction_read ?k_fraction_read) (Kk82.at_read_fraction KX G ?a_read_fraction ?l_read_fraction ?c_read_fraction ?k_read_fraction) (Kk82.at_common KX G ?a_common ?l_common ?c_common ?k_common) (Kk82.at_lowest KX G ?a_lowest ?l_lowest ?c_lowest ?k_lowest) (Kk82.at_times KX G ?a_times ?l_times ?c_times ?k_times) (Kk82.at__law_draws KX G ?a__law_draws ?l__law_draws ?c__law_draws ?k__law_draws) (Kk82.at__law_next KX G ?a__law_next ?l__law_next ?c__law_next ?k__law_next) (Kk82.at__law_whole KX G ?a__law_whole ?l__law_whole ?c__law_whole ?k__law_whole) (Kk82.at__law_lowest KX G ?a__law_lowest ?l__law_lowest ?c__law_lowest ?k__law_lowest) (Kk82.at__law_fraction KX G ?a__law_fraction ?l__law_fraction ?c__law_fraction ?k__law_fraction) (Kk82.at__law_just KX G ?a__law_just ?l__law_just ?c__law_just ?k__law_just) (Kk82.at__law_fraction_text KX G ?a__law_fraction_text ?l__law_fraction_text ?c__law_fraction_text ?k__law_fraction_text) (Kk82.at__law_fraction_of KX G ?a__law_fraction_of ?l__law_fraction_of ?c__law_fraction_of ?k__law_fraction_of) (Kk82.at__law_no_text KX G ?a__law_no_text ?l__law_no_text ?c__law_no_text ?k__law_no_text) (Kk82.at__law_any_fraction KX G ?a__law_any_fraction ?l__law_any_fraction ?c__law_any_fraction ?k__law_any_fraction) (Kk82.at__law_bent KX G ?a__law_bent ?l__law_bent ?c__law_bent ?k__law_bent) (Kk82.at__law_read KX G ?a__law_read ?l__law_read ?c__law_read ?k__law_read) (Kk82.at__law_right KX G ?a__law_right ?l__law_right ?c__law_right ?k__law_right) (Kk82.at_law KX G ?a_law ?l_law ?c_law ?k_law) (PySem.W.mg_none_of KX G ?z_divmod) (PySem.W.mg_none_of KX G ?z_str) (PySem.W.mg_none_of KX G ?z_abs) (PySem.W.mg_none_of KX G ?z_len) (PySem.W.mg_none_of KX G ?z_int) (PySem.W.mg_none_of KX G ?z_isinstance) (PySem.W.mg_none_of KX G ?z_list) (PySem.W.mg_none_of KX G ?z_bool) (PySem.W.mg_none_of KX G ?z_tuple) (PySem.W.mg_none_of KX G ?z_zip) ?z_figures__ (PySem.W.mg_none_of KX G ?z_range) (B2.const_int KX G ?g_PART) (B2.const_str KX G ?g_FIGURES) (B2.const_int KX G ?g_MOST_FIGURES) (B2.errC_mk KX G ?xa_NoText ?xq_NoText ?xk_NoText ?xb_NoText ?xt_NoText) (B2.errM_mk KX G ?ya_StallError ?yb_StallError ?yi_StallError ?yt_StallError (B2.subs_cons (B2.sub1_mk KX G ?ya_StallError_NoText ?ys_StallError_NoText) B2.subs_nil)) (B2.errI_cons KX G ?i0_NoText ?i1_NoText ?i2_NoText ?i3_NoText ?i4_NoText ?i5_NoText ?i6_NoText ?i7_NoText ?i8_NoText B2.errI_nil) (B2.errV_own KX G ?vg_Fair (B2.is_cons (B2.is1_own KX G ?va_Fair_NoText ?vi_Fair_NoText ?vt_Fair_NoText ?vs_Fair_NoText ?ve_Fair_NoText) B2.is_nil)) (B2.errV_own KX G ?vg_NoBet (B2.is_cons (B2.is1_own KX G ?va_NoBet_NoText ?vi_NoBet_NoText ?vt_NoBet_NoText ?vs_NoBet_NoText ?ve_NoBet_NoText) B2.is_nil)) (B2.errV_own KX G ?vg_NoCover (B2.is_cons (B2.is1_own KX G ?va_NoCover_NoText ?vi_NoCover_NoText ?vt_NoCover_NoText ?vs_NoCover_NoText ?ve_NoCover_NoText) B2.is_nil)) (B2.errV_own KX G ?vg_NoDeed (B2.is_cons (B2.is1_own KX G ?va_NoDeed_NoText ?vi_NoDeed_NoText ?vt_NoDeed_NoText ?vs_NoDeed_NoText ?ve_NoDeed_NoText) B2.is_nil)) (B2.errV_own KX G ?vg_NoHolder (B2.is_cons (B2.is1_own KX G ?va_NoHolder_NoText ?vi_NoHolder_NoText ?vt_NoHolder_NoText ?vs_NoHolder_NoText ?ve_NoHolder_NoText) B2.is_nil)) (B2.errV_own KX G ?vg_NoSaying (B2.is_cons (B2.is1_own KX G ?va_NoSaying_NoText ?vi_NoSaying_NoText ?vt_NoSaying_NoText ?vs_NoSaying_NoText ?ve_NoSaying_NoText) B2.is_nil)) (B2.errV_own KX G ?vg_NoStake (B2.is_cons (B2.is1_own KX G ?va_NoStake_NoText ?vi_NoStake_NoText ?vt_NoStake_NoText ?vs_NoStake_NoText ?ve_NoStake_NoText) B2.is_nil)) (B2.errV_own KX G ?vg_NoStep (B2.is_cons (B2.is1_own KX G ?va_NoStep_NoText ?vi_NoStep_NoText ?vt_NoStep_NoText ?vs_NoStep_NoText ?ve_NoStep_NoText) B2.is_nil)) (B2.errV_own KX G ?vg_NotAlike (B2.is_cons (B2.is1_own KX G ?va_NotAlike_NoText ?vi_NotAlike_NoText ?vt_NotAlike_NoText ?vs_NotAlike_NoText ?ve_NotAlike_NoText) B2.is_nil)) (B2.errV_own KX G ?vg_NoTicket (B2.is_cons (B2.is1_own KX G ?va_NoTicket_NoText ?vi_NoTicket_NoText ?vt_NoTicket_NoText ?vs_NoTicket_NoText ?ve_NoTicket_NoText) B2.is_nil)) (B2.errV_own KX G ?vg_NoWorld (B2.is_cons (B2.is1_own KX G ?va_NoWorld_NoText ?vi_NoWorld_NoText ?vt_NoWorld_NoText ?vs_NoWorld_NoText ?ve_NoWorld_NoText) B2.is_nil)) (B2.errV_own KX G ?vg_TooLong (B2.is_cons (B2.is1_own KX G ?va_TooLong_NoText ?vi_TooLong_NoText ?vt_TooLong_NoText ?vs_TooLong_NoText ?ve_TooLong_NoText) B2.is_nil)) (B2.errV_own KX G ?vg_TooMany (B2.is_cons (B2.is1_own KX G ?va_TooMany_NoText ?vi_TooMany_NoText ?vt_TooMany_NoText ?vs_TooMany_NoText ?ve_TooMany_NoText) B2.is_nil)) (B2.errV_own KX G ?vg_Unfair (B2.is_cons (B2.is1_own KX G ?va_Unfair_NoText ?vi_Unfair_NoText ?vt_Unfair_NoText ?vs_Unfair_NoText ?ve_Unfair_NoText) B2.is_nil)) (B2.errV_bt KX G ?vg_ValueError ?vb_ValueError ?vn_ValueError (B2.is_cons (B2.is1_bt KX G ?va_ValueError_NoText ?vm_ValueError_NoText ?vs_ValueError_NoText) B2.is_nil)) (B2.errV_own KX G ?vg_NoText (B2.is_cons (B2.is1_same KX G ?va_NoText_NoText) B2.is_nil))
    (case a_figures_of => k_is)
    (case l_figures_of => k_is)
    (case c_figures_of => k_is)
    (case k_figures_of => k_is)
    (case a_show_fraction => k_is)
    (case l_show_fraction => k_is)
    (case c_show_fraction => k_is)
    (case k_show_fraction => k_is)
    (case a_count_read => k_is)
    (case l_count_read => k_is)
    (case c_count_read => k_is)
    (case k_count_read => k_is)
    (case a_is_shared => k_is)
    (case l_is_shared => k_is)
    (case c_is_shared => k_is)
    (case k_is_shared => k_is)
    (case a_fraction_read => k_is)
    (case l_fraction_read => k_is)
    (case c_fraction_read => k_is)
    (case k_fraction_read => k_is)
    (case a_read_fraction => k_is)
    (case l_read_fraction => k_is)
    (case c_read_fraction => k_is)
    (case k_read_fraction => k_is)
    (case a_common => k_is)
    (case l_common => k_is)
    (case c_common => k_is)
    (case k_common => k_is)
    (case a_lowest => k_is)
    (case l_lowest => k_is)
    (case c_lowest => k_is)
    (case k_lowest => k_is)
    (case a_times => k_is)
    (case l_times => k_is)
    (case c_times => k_is)
    (case k_times => k_is)
    (case a__law_draws => k_is)
    (case l__law_draws => k_is)
    (case c__law_draws => k_is)
    (case k__law_draws => k_is)
    (case a__law_next => k_is)
    (case l__law_next => k_is)
    (case c__law_next => k_is)
    (case k__law_next => k_is)
    (case a__law_whole => k_is)
    (case l__law_whole => k_is)
    (case c__law_whole => k_is)
    (case k__law_whole => k_is)
    (case a__law_lowest => k_is)
    (case l__law_lowest => k_is)
    (case c__law_lowest => k_is)
    (case k__law_lowest => k_is)
    (case a__law_fraction => k_is)
    (case l__law_fraction => k_is)
    (case c__law_fraction => k_is)
    (case k__law_fraction => k_is)
    (case a__law_just => k_is)
    (case l__law_just => k_is)
    (case c__law_just => k_is)
    (case k__law_just => k_is)
    (case a__law_fraction_text => k_is)
    (case l__law_fraction_text => k_is)
    (case c__law_fraction_text => k_is)
    (case k__law_fraction_text => k_is)
    (case a__law_fraction_of => k_is)
    (case l__law_fraction_of => k_is)
    (case c__law_fraction_of => k_is)
    (case k__law_fraction_of => k_is)
    (case a__law_no_text => k_is)
    (case l__law_no_text => k_is)
    (case c__law_no_text => k_is)
    (case k__law_no_text => k_is)
    (case a__law_any_fraction => k_is)
    (case l__law_any_fraction => k_is)
    (case c__law_any_fraction => k_is)
    (case k__law_any_fraction => k_is)
    (case a__law_bent => k_is)
    (case l__law_bent => k_is)
    (case c__law_bent => k_is)
    (case k__law_bent => k_is)
    (case a__law_read => k_is)
    (case l__law_read => k_is)
    (case c__law_read => k_is)
    (case k__law_read => k_is)
    (case a__law_right => k_is)
    (case l__law_right => k_is)
    (case c__law_right => k_is)
    (case k__law_right => k_is)
    (case a_law => k_is)
    (case l_law => k_is)
    (case c_law => k_is)
    (case k_law => k_is)
    (case z_divmod => k_is)
    (case z_str => k_is)
    (case z_abs => k_is)
    (case z_len => k_is)
    (case z_int => k_is)
    (case z_isinstance => k_is)
    (case z_list => k_is)
    (case z_bool => k_is)
    (case z_tuple => k_is)
    (case z_zip => k_is)
    (case z_figures__ => k_is)
    (case z_range => k_is)
    (case g_PART => k_is)
    (case g_FIGURES => k_is)
    (case g_MOST_FIGURES => k_is)
    (case xa_NoText => k_is)
    (case xq_NoText => k_exc)
    (case xk_NoText => k_is)
    (case xb_NoText => k_is)
    (case xt_NoText => k_is)
    (case ya_StallError => k_is)
    (case yb_StallError => k_is)
    (case yi_StallError => k_is)
    (case yt_StallError => k_is)
    (case ya_StallError_NoText => k_is)
    (case ys_StallError_NoText => k_is)
    (case i0_NoText => k_is)
    (case i1_NoText => k_is)
    (case i2_NoText => k_is)
    (case i3_NoText => k_is)
    (case i4_NoText => k_is)
    (case i5_NoText => k_is)
    (case i6_NoText => k_is)
    (case i7_NoText => k_is)
    (case i8_NoText => k_is)
    (case vg_Fair => k_is)
    (case va_Fair_NoText => k_is)
    (case vi_Fair_NoText => k_is)
    (case vt_Fair_NoText => k_is)
    (case vs_Fair_NoText => k_is)
    (case ve_Fair_NoText => rfl)
    (case vg_NoBet => k_is)
    (case va_NoBet_NoText => k_is)
    (case vi_NoBet_NoText => k_is)
    (case vt_NoBet_NoText => k_is)
    (case vs_NoBet_NoText => k_is)
    (case ve_NoBet_NoText => rfl)
    (case vg_NoCover => k_is)
    (case va_NoCover_NoText => k_is)
    (case vi_NoCover_NoText => k_is)
    (case vt_NoCover_NoText => k_is)
    (case vs_NoCover_NoText => k_is)
    (case ve_NoCover_NoText => rfl)
    (case vg_NoDeed => k_is)
    (case va_NoDeed_NoText => k_is)
    (case vi_NoDeed_NoText => k_is)
    (case vt_NoDeed_NoText => k_is)
    (case vs_NoDeed_NoText => k_is)
    (case ve_NoDeed_NoText => rfl)
    (case vg_NoHolder => k_is)
    (case va_NoHolder_NoText => k_is)
    (case vi_NoHolder_NoText => k_is)
    (case vt_NoHolder_NoText => k_is)
    (case vs_NoHolder_NoText => k_is)
    (case ve_NoHolder_NoText => rfl)
    (case vg_NoSaying => k_is)
    (case va_NoSaying_NoText => k_is)
    (case vi_NoSaying_NoText => k_is)
    (case vt_NoSaying_NoText => k_is)
    (case vs_NoSaying_NoText => k_is)
    (case ve_NoSaying_NoText => rfl)
    (case vg_NoStake => k_is)
    (case va_NoStake_NoText => k_is)
    (case vi_NoStake_NoText => k_is)
    (case vt_NoStake_NoText => k_is)
    (case vs_NoStake_NoText => k_is)
    (case ve_NoStake_NoText => rfl)
    (case vg_NoStep => k_is)
    (case va_NoStep_NoText => k_is)
    (case vi_NoStep_NoText => k_is)
    (case vt_NoStep_NoText => k_is)
    (case vs_NoStep_NoText => k_is)
    (case ve_NoStep_NoText => rfl)
    (case vg_NotAlike => k_is)
    (case va_NotAlike_NoText => k_is)
    (case vi_NotAlike_NoText => k_is)
    (case vt_NotAlike_NoText => k_is)
    (case vs_NotAlike_NoText => k_is)
    (case ve_NotAlike_NoText => rfl)
    (case vg_NoTicket => k_is)
    (case va_NoTicket_NoText => k_is)
    (case vi_NoTicket_NoText => k_is)
    (case vt_NoTicket_NoText => k_is)
    (case vs_NoTicket_NoText => k_is)
    (case ve_NoTicket_NoText => rfl)
    (case vg_NoWorld => k_is)
    (case va_NoWorld_NoText => k_is)
    (case vi_NoWorld_NoText => k_is)
    (case vt_NoWorld_NoText => k_is)
    (case vs_NoWorld_NoText => k_is)
    (case ve_NoWorld_NoText => rfl)
    (case vg_TooLong => k_is)
    (case va_TooLong_NoText => k_is)
    (case vi_TooLong_NoText => k_is)
    (case vt_TooLong_NoText => k_is)
    (case vs_TooLong_NoText => k_is)
    (case ve_TooLong_NoText => rfl)
    (case vg_TooMany => k_is)
    (case va_TooMany_NoText => k_is)
    (case vi_TooMany_NoText => k_is)
    (case vt_TooMany_NoText => k_is)
    (case vs_TooMany_NoText => k_is)
    (case ve_TooMany_NoText => rfl)
    (case vg_Unfair => k_is)
    (case va_Unfair_NoText => k_is)
    (case vi_Unfair_NoText => k_is)
    (case vt_Unfair_NoText => k_is)
    (case vs_Unfair_NoText => k_is)
    (case ve_Unfair_NoText => rfl)
    (case vg_ValueError => k_is)
    (case vb_ValueError => rfl)
    (case vn_ValueError => decide)
    (case va_ValueError_NoText => k_is)
    (case vm_ValueError_NoText => decide +kernel)
    (case vs_ValueError_NoText => k_is)
    (case vg_NoText => k_is)
    (case va_NoText_NoText => k_is))
