import PyProof.Rows.All
import Wide.All
import OpenK.AllK
import Wide.FinOn
import PySem.Challenge.RW_og0286_01
open PySem PySem.W PyProof.Rows
set_option Elab.async false
set_option maxRecDepth 100000
set_option linter.unusedVariables false
set_option linter.unusedSimpArgs false
namespace Mine
section
set_option maxHeartbeats 0
theorem x.tw10009160832155050540 : True := trivial
theorem x.tw1001532501855727302 : True := trivial
theorem x.tw10015834613479988621 : True := trivial
theorem x.tw10023139874327546841 : True := trivial
theorem x.tw10033835499480841576 : True := trivial
theorem x.tw10066789104696453630 : True := trivial
theorem x.tw1010278578411500068 : True := trivial
theorem x.tw10143683596295001876 : True := trivial
theorem x.tw1015377137424964574 : True := trivial
theorem x.tw10197060477242211412 : True := trivial
theorem x.tw10226019172108698175 : True := trivial
theorem x.tw10226116724939130778 : True := trivial
theorem x.tw10258857870411021366 : True := trivial
theorem x.tw10267089450696181043 : True := trivial
theorem x.tw10269978721791811702 : True := trivial
theorem x.tw1029178776387990457 : True := trivial
theorem x.tw10304904798139725890 : True := trivial
theorem x.tw10310400681604058792 : True := trivial
theorem x.tw10317639992353852029 : True := trivial
theorem x.tw10324827614789754765 : True := trivial
theorem x.tw10332183940477415690 : True := trivial
theorem x.tw10337713858166904036 : True := trivial
theorem x.tw10340667698608589848 : True := trivial
theorem x.tw10346329977637754999 : True := trivial
theorem x.tw10353587474284317725 : True := trivial
theorem x.tw10371146168739184225 : True := trivial
theorem x.tw10413092625324450665 : True := trivial
theorem x.tw10431802120512586459 : True := trivial
theorem x.tw10460298856954944025 : True := trivial
theorem x.tw10466111936039050714 : True := trivial
theorem x.tw10480007635166841858 : True := trivial
theorem x.tw10496362432864583640 : True := trivial
theorem x.tw10508699371634787813 : True := trivial
theorem x.tw10510552724105392224 : True := trivial
theorem x.tw10525739240252636989 : True := trivial
theorem x.tw1052773167063752245 : True := trivial
theorem x.tw10531092195878977319 : True := trivial
theorem x.tw10535028709905733415 : True := trivial
theorem x.tw10536622892851293650 : True := trivial
theorem x.tw10544501589002355260 : True := trivial
theorem x.tw10559756587101959707 : True := trivial
theorem x.tw10564701213421869435 : True := trivial
theorem x.tw10569255382827478549 : True := trivial
theorem x.tw10640688105874913177 : True := trivial
theorem x.tw10667553049735818075 : True := trivial
theorem x.tw10673936430186922526 : True := trivial
theorem x.tw10675130999574031611 : True := trivial
theorem x.tw10702386648754445941 : True := trivial
theorem x.tw10724780829119155504 : True := trivial
theorem x.tw10732050842520584277 : True := trivial
theorem x.tw10743729896306403609 : True := trivial
theorem x.tw10745145605313943024 : True := trivial
theorem x.tw10757744502361639836 : True := trivial
theorem x.tw10757968344062361776 : True := trivial
theorem x.tw1076621120908848105 : True := trivial
theorem x.tw10791274949475692085 : True := trivial
theorem x.tw10800248753980226638 : True := trivial
theorem x.tw10837828710322879310 : True := trivial
theorem x.tw10839183739299854398 : True := trivial
theorem x.tw10852289587248604036 : True := trivial
theorem x.tw10859420416805914402 : True := trivial
theorem x.tw10875150210409747867 : True := trivial
theorem x.tw10882022406747698613 : True := trivial
theorem x.tw10921241487703970548 : True := trivial
theorem x.tw10934922501261311856 : True := trivial
theorem x.tw10953674834552578204 : True := trivial
theorem x.tw1097803916355987652 : True := trivial
theorem x.tw10992156107262829661 : True := trivial
theorem x.tw10998017406588778082 : True := trivial
theorem x.tw11020156397242145705 : True := trivial
theorem x.tw11038615921957508770 : True := trivial
theorem x.tw11038676408500184233 : True := trivial
theorem x.tw11056226911114484436 : True := trivial
theorem x.tw11058360295473585622 : True := trivial
theorem x.tw11073987179921094801 : True := trivial
theorem x.tw11076620200007558643 : True := trivial
theorem x.tw11117736389230265696 : True := trivial
theorem x.tw11152097150223382674 : True := trivial
theorem x.tw11152688277256578661 : True := trivial
theorem x.tw1116281483743604386 : True := trivial
theorem x.tw11168731951259093396 : True := trivial
theorem x.tw11174138412563079361 : True := trivial
theorem x.tw1118852592622393843 : True := trivial
theorem x.tw11198062676181368647 : True := trivial
theorem x.tw11199771451364095874 : True := trivial
theorem x.tw11238088504442425704 : True := trivial
theorem x.tw11248508363824571033 : True := trivial
theorem x.tw11248831176883310573 : True := trivial
theorem x.tw11263278172391293508 : True := trivial
theorem x.tw11369745602893275364 : True := trivial
theorem x.tw11376624967989484925 : True := trivial
theorem x.tw11385762947692907880 : True := trivial
theorem x.tw11387121445181443545 : True := trivial
theorem x.tw1139522334345932651 : True := trivial
theorem x.tw11415569595351489154 : True := trivial
theorem x.tw11445603533893094434 : True := trivial
theorem x.tw1144829850153224884 : True := trivial
theorem x.tw11468771911815765459 : True := trivial
theorem x.tw11500856643956191634 : True := trivial
theorem x.tw11501079129989429816 : True := trivial
theorem x.tw11508047845633804919 : True := trivial
theorem x.tw11514130945867980463 : True := trivial
theorem x.tw11540676082647688023 : True := trivial
theorem x.tw11567505412842260901 : True := trivial
theorem x.tw11568292430766643722 : True := trivial
theorem x.tw11578351195307659554 : True := trivial
theorem x.tw11588330872536301463 : True := trivial
theorem x.tw11611806781194692976 : True := trivial
theorem x.tw11631502445704908054 : True := trivial
theorem x.tw11653083676658106259 : True := trivial
theorem x.tw11666928400452752173 : True := trivial
theorem x.tw11675175551037193828 : True := trivial
theorem x.tw11684907989203289189 : True := trivial
theorem x.tw11690331266879010249 : True := trivial
theorem x.tw11764654581784258725 : True := trivial
theorem x.tw11775502517900509241 : True := trivial
theorem x.tw11779928017717356362 : True := trivial
theorem x.tw11802279843911420041 : True := trivial
theorem x.tw11823987395372424745 : True := trivial
theorem x.tw11830229877695963470 : True := trivial
theorem x.tw11833552190071727148 : True := trivial
theorem x.tw11871751729808161112 : True := trivial
theorem x.tw11880967880999230385 : True := trivial
theorem x.tw11884053099720892034 : True := trivial
theorem x.tw11899250118809682927 : True := trivial
theorem x.tw11919879220120795280 : True := trivial
theorem x.tw1192890095127504860 : True := trivial
theorem x.tw11937456547947895172 : True := trivial
theorem x.tw11994942440297581398 : True := trivial
theorem x.tw11996299347161798078 : True := trivial
theorem x.tw12014736512107744855 : True := trivial
theorem x.tw12015829838713114192 : True := trivial
theorem x.tw12034286304829527702 : True := trivial
theorem x.tw12040675299933851378 : True := trivial
theorem x.tw12043558742422536071 : True := trivial
theorem x.tw12063771883288316417 : True := trivial
theorem x.tw12095768566378557346 : True := trivial
theorem x.tw12106543564560068109 : True := trivial
theorem x.tw12143641876533201475 : True := trivial
theorem x.tw12147932751257409608 : True := trivial
theorem x.tw12204535386164934915 : True := trivial
theorem x.tw12235728486688705004 : True := trivial
theorem x.tw1225929995692072060 : True := trivial
theorem x.tw12277191176029621818 : True := trivial
theorem x.tw12296006409892390952 : True := trivial
theorem x.tw1229711680335458679 : True := trivial
theorem x.tw12300088240222704753 : True := trivial
theorem x.tw12324311884398682942 : True := trivial
theorem x.tw12357257306730215335 : True := trivial
theorem x.tw12362537103879378342 : True := trivial
theorem x.tw12387249792668917091 : True := trivial
theorem x.tw12401680339523607464 : True := trivial
theorem x.tw12417102548623748003 : True := trivial
theorem x.tw12417803773081363574 : True := trivial
theorem x.tw12432819272207377467 : True := trivial
theorem x.tw12433876769167609558 : True := trivial
theorem x.tw12461824860774988985 : True := trivial
theorem x.tw1247626804567848078 : True := trivial
theorem x.tw12549659723121084872 : True := trivial
theorem x.tw12555855287479064542 : True := trivial
theorem x.tw12560229906789948698 : True := trivial
theorem x.tw1257233205287073285 : True := trivial
theorem x.tw12576640531118671879 : True := trivial
theorem x.tw12606826729926151742 : True := trivial
theorem x.tw12609191232514898735 : True := trivial
theorem x.tw1261695478015965603 : True := trivial
theorem x.tw12620965543213870692 : True := trivial
theorem x.tw12623713826428172572 : True := trivial
theorem x.tw12667467897150863709 : True := trivial
theorem x.tw12677298117449053296 : True := trivial
theorem x.tw12682732008687886618 : True := trivial
theorem x.tw12687207765001723464 : True := trivial
theorem x.tw12695231409039985498 : True := trivial
theorem x.tw12699107709310436916 : True := trivial
theorem x.tw12703383549491195228 : True := trivial
theorem x.tw12715434463041855949 : True := trivial
theorem x.tw12738833279926380175 : True := trivial
theorem x.tw12757561806736355991 : True := trivial
theorem x.tw12770185064361580724 : True := trivial
theorem x.tw12772063586948721766 : True := trivial
theorem x.tw12783107849947262630 : True := trivial
theorem x.tw12787705279609391932 : True := trivial
theorem x.tw12801387735986694355 : True := trivial
theorem x.tw12880229461769388268 : True := trivial
theorem x.tw12924040417176290631 : True := trivial
theorem x.tw1295649265671579530 : True := trivial
theorem x.tw12988068091606151627 : True := trivial
theorem x.tw12988179844777574384 : True := trivial
theorem x.tw1298883752637017309 : True := trivial
theorem x.tw12994143417171977454 : True := trivial
theorem x.tw1300076787649663456 : True := trivial
theorem x.tw130538918849092870 : True := trivial
theorem x.tw13072373567515480538 : True := trivial
theorem x.tw13100875268800688032 : True := trivial
theorem x.tw13139566152826953669 : True := trivial
theorem x.tw13151638145551511817 : True := trivial
theorem x.tw13154050192432250830 : True := trivial
theorem x.tw13157752934955354825 : True := trivial
theorem x.tw13159493064808514837 : True := trivial
theorem x.tw13161315636495921742 : True := trivial
theorem x.tw13177982274293156645 : True := trivial
theorem x.tw13251144036931346972 : True := trivial
theorem x.tw13260746430754609968 : True := trivial
theorem x.tw1326309660327383434 : True := trivial
theorem x.tw13266402878141357004 : True := trivial
theorem x.tw13272569447606386707 : True := trivial
theorem x.tw13286133675680583024 : True := trivial
theorem x.tw13293115930929998228 : True := trivial
theorem x.tw13305670851187372719 : True := trivial
theorem x.tw13312682460005474109 : True := trivial
theorem x.tw13313892878447484956 : True := trivial
theorem x.tw1334268059701816870 : True := trivial
theorem x.tw13348930880337077077 : True := trivial
theorem x.tw13367855428709287406 : True := trivial
theorem x.tw1337615993121678946 : True := trivial
theorem x.tw13404080080569854418 : True := trivial
theorem x.tw13407300215643200283 : True := trivial
theorem x.tw13440853691466553548 : True := trivial
theorem x.tw13447251752372838897 : True := trivial
theorem x.tw13456645568142478491 : True := trivial
theorem x.tw1345936403204691166 : True := trivial
theorem x.tw13469742870715572254 : True := trivial
theorem x.tw13509644054268046008 : True := trivial
theorem x.tw13511702388180883722 : True := trivial
theorem x.tw13522522030172035772 : True := trivial
theorem x.tw13551504561970370338 : True := trivial
theorem x.tw13553900463325113796 : True := trivial
theorem x.tw1357455936280884320 : True := trivial
theorem x.tw13584074256348394474 : True := trivial
theorem x.tw13624370894366203576 : True := trivial
theorem x.tw13625478295217002687 : True := trivial
theorem x.tw13632003978631607906 : True := trivial
theorem x.tw13636296899779753947 : True := trivial
theorem x.tw13657006849385425660 : True := trivial
theorem x.tw13659177719181242965 : True := trivial
theorem x.tw13674839794870236140 : True := trivial
theorem x.tw13681343968574968315 : True := trivial
theorem x.tw13711423582505523536 : True := trivial
theorem x.tw13735053738254430823 : True := trivial
theorem x.tw1373614267705622115 : True := trivial
theorem x.tw13739421960604655352 : True := trivial
theorem x.tw1374736784596642886 : True := trivial
theorem x.tw13757659492081354683 : True := trivial
theorem x.tw13811061989629086199 : True := trivial
theorem x.tw13821323436051582525 : True := trivial
theorem x.tw13823262042489722122 : True := trivial
theorem x.tw13824257015375245630 : True := trivial
theorem x.tw13832632893340788903 : True := trivial
theorem x.tw13840182939540048279 : True := trivial
theorem x.tw13858607164585766432 : True := trivial
theorem x.tw138818021482363064 : True := trivial
theorem x.tw13895047746455341852 : True := trivial
theorem x.tw13911296529826804998 : True := trivial
theorem x.tw13918332231222703035 : True := trivial
theorem x.tw13925600040897096018 : True := trivial
theorem x.tw13947031381092725593 : True := trivial
theorem x.tw13951148102435905966 : True := trivial
theorem x.tw13960735009925813186 : True := trivial
theorem x.tw13983588808995212183 : True := trivial
theorem x.tw13995897299514615827 : True := trivial
theorem x.tw14019320674832518962 : True := trivial
theorem x.tw14024943833869067894 : True := trivial
theorem x.tw14041107077159195503 : True := trivial
theorem x.tw1404283574385323387 : True := trivial
theorem x.tw14051697836500468376 : True := trivial
theorem x.tw14055956709092989468 : True := trivial
theorem x.tw14076521286267364487 : True := trivial
theorem x.tw14124624998836057355 : True := trivial
theorem x.tw14130357893715708048 : True := trivial
theorem x.tw14143842208165419045 : True := trivial
theorem x.tw1415931316942132513 : True := trivial
theorem x.tw14187321722309295380 : True := trivial
theorem x.tw14189246566264011863 : True := trivial
theorem x.tw14209563519764628652 : True := trivial
theorem x.tw14213247233974016716 : True := trivial
theorem x.tw14228290818730908990 : True := trivial
theorem x.tw14231542307434920384 : True := trivial
theorem x.tw14235843712577062258 : True := trivial
theorem x.tw1428705445467788750 : True := trivial
theorem x.tw14304275671176217830 : True := trivial
theorem x.tw14325202314570962906 : True := trivial
theorem x.tw14351999953601956649 : True := trivial
theorem x.tw14368359798748637774 : True := trivial
theorem x.tw14370012482020207052 : True := trivial
theorem x.tw14376287575076472005 : True := trivial
theorem x.tw143903524971119014 : True := trivial
theorem x.tw14391522486415727291 : True := trivial
theorem x.tw14411759535298899986 : True := trivial
theorem x.tw14419240016014430285 : True := trivial
theorem x.tw14433202642696265134 : True := trivial
theorem x.tw14459138281301350951 : True := trivial
theorem x.tw14460396198705684572 : True := trivial
theorem x.tw14495197485289896433 : True := trivial
theorem x.tw14527931800672545638 : True := trivial
theorem x.tw14546518366564765657 : True := trivial
theorem x.tw14552328166487684793 : True := trivial
theorem x.tw14564539787212841065 : True := trivial
theorem x.tw14610293940217180299 : True := trivial
theorem x.tw14621089452471173696 : True := trivial
theorem x.tw14639678184035177705 : True := trivial
theorem x.tw14642426259713327964 : True := trivial
theorem x.tw14650118311285502376 : True := trivial
theorem x.tw14662017234343769399 : True := trivial
theorem x.tw14673781219992178918 : True := trivial
theorem x.tw1468916251158154124 : True := trivial
theorem x.tw14731015455150100329 : True := trivial
theorem x.tw14760099998043809102 : True := trivial
theorem x.tw14766882862815897751 : True := trivial
theorem x.tw1477827691589033132 : True := trivial
theorem x.tw14816229990928203272 : True := trivial
theorem x.tw14835176278874222419 : True := trivial
theorem x.tw14846197339981663495 : True := trivial
theorem x.tw14860364026049536479 : True := trivial
theorem x.tw14885434959297060227 : True := trivial
theorem x.tw1488858200101515262 : True := trivial
theorem x.tw14892279302759909154 : True := trivial
theorem x.tw14919199542837875690 : True := trivial
theorem x.tw14939703982172950363 : True := trivial
theorem x.tw14951374556745515212 : True := trivial
theorem x.tw14968422421466759419 : True := trivial
theorem x.tw14973763326131262070 : True := trivial
theorem x.tw14999265818433713255 : True := trivial
theorem x.tw15015625979705167600 : True := trivial
theorem x.tw15017155745608512276 : True := trivial
theorem x.tw15042997727991662869 : True := trivial
theorem x.tw15045959462451963267 : True := trivial
theorem x.tw1506152792931969288 : True := trivial
theorem x.tw15079091284657969264 : True := trivial
theorem x.tw15084608744830333848 : True := trivial
theorem x.tw15097296950320027351 : True := trivial
theorem x.tw15100461006478070828 : True := trivial
theorem x.tw15110536615514007946 : True := trivial
theorem x.tw15124994039739642421 : True := trivial
theorem x.tw15150889340220902564 : True := trivial
theorem x.tw15173670186626919165 : True := trivial
theorem x.tw15184691498586164575 : True := trivial
theorem x.tw15186336224708085983 : True := trivial
theorem x.tw15189604770913195686 : True := trivial
theorem x.tw1522788409887322740 : True := trivial
theorem x.tw15239906933619265814 : True := trivial
theorem x.tw15245849869452018419 : True := trivial
theorem x.tw15291912424312321969 : True := trivial
theorem x.tw15327809350727565825 : True := trivial
theorem x.tw15352731660886133183 : True := trivial
theorem x.tw15363550234175100260 : True := trivial
theorem x.tw15364625721253283965 : True := trivial
theorem x.tw15365430251381188535 : True := trivial
theorem x.tw15381246816113792436 : True := trivial
theorem x.tw15390180340666898618 : True := trivial
theorem x.tw15395885002420884397 : True := trivial
theorem x.tw15413583522491053374 : True := trivial
theorem x.tw15424426376055524763 : True := trivial
theorem x.tw15442105258966996918 : True := trivial
theorem x.tw15460409358483588172 : True := trivial
theorem x.tw15467777442375258450 : True := trivial
theorem x.tw1547508298962110977 : True := trivial
theorem x.tw15523150184132791696 : True := trivial
theorem x.tw15533313513226432012 : True := trivial
theorem x.tw15566559617231922470 : True := trivial
theorem x.tw15573391669532525266 : True := trivial
theorem x.tw15583775511102383754 : True := trivial
theorem x.tw15606782457214070813 : True := trivial
theorem x.tw15618312535156415978 : True := trivial
theorem x.tw1564430462950590789 : True := trivial
theorem x.tw15678699275516499568 : True := trivial
theorem x.tw15694333413365712200 : True := trivial
theorem x.tw15697136923583208866 : True := trivial
theorem x.tw15715933666149094002 : True := trivial
theorem x.tw15745935162226931066 : True := trivial
theorem x.tw15748826475244354759 : True := trivial
theorem x.tw15760408904987761211 : True := trivial
theorem x.tw15770187537463389305 : True := trivial
theorem x.tw15790202034449545521 : True := trivial
theorem x.tw15838593766393169685 : True := trivial
theorem x.tw15905799082542046966 : True := trivial
theorem x.tw15924959407741666243 : True := trivial
theorem x.tw15937048449461287244 : True := trivial
theorem x.tw15960217252020907611 : True := trivial
theorem x.tw15962880341721773323 : True := trivial
theorem x.tw15967462611256258712 : True := trivial
theorem x.tw15975107149030320425 : True := trivial
theorem x.tw16014090570766219715 : True := trivial
theorem x.tw16023688934287272225 : True := trivial
theorem x.tw16034253340644606952 : True := trivial
theorem x.tw16039018268013285082 : True := trivial
theorem x.tw16040622176275991977 : True := trivial
theorem x.tw16071080503814483969 : True := trivial
theorem x.tw16117550303755211452 : True := trivial
theorem x.tw16124165753812819439 : True := trivial
theorem x.tw16133983100910156530 : True := trivial
theorem x.tw16134119792862658547 : True := trivial
theorem x.tw16162849943068682377 : True := trivial
theorem x.tw16171945164727132587 : True := trivial
theorem x.tw16193708197277403873 : True := trivial
theorem x.tw16196183541000773128 : True := trivial
theorem x.tw16203776201559779557 : True := trivial
theorem x.tw16219133078508084671 : True := trivial
theorem x.tw16223593320909980816 : True := trivial
theorem x.tw16270199588131027503 : True := trivial
theorem x.tw16274932193239452227 : True := trivial
theorem x.tw16301126859146522986 : True := trivial
theorem x.tw16312127453373237007 : True := trivial
theorem x.tw16343485113875459693 : True := trivial
theorem x.tw16344940085568571254 : True := trivial
theorem x.tw16381651940214206014 : True := trivial
theorem x.tw16407658361398169443 : True := trivial
theorem x.tw16433449930090206801 : True := trivial
theorem x.tw16442757948604090946 : True := trivial
theorem x.tw16488970652353990780 : True := trivial
theorem x.tw1650961186228935553 : True := trivial
theorem x.tw16530866331073812311 : True := trivial
theorem x.tw16535902035416175553 : True := trivial
theorem x.tw16536999227839875558 : True := trivial
theorem x.tw16556348584133028553 : True := trivial
theorem x.tw16576471290741787817 : True := trivial
theorem x.tw1657879190619348339 : True := trivial
theorem x.tw16595615652412573815 : True := trivial
theorem x.tw16603405557891905340 : True := trivial
theorem x.tw16617684350325261552 : True := trivial
theorem x.tw16620959984405672424 : True := trivial
theorem x.tw1662353425484187019 : True := trivial
theorem x.tw16624541281840933487 : True := trivial
theorem x.tw1662503980915232974 : True := trivial
theorem x.tw16634823246402461463 : True := trivial
theorem x.tw16641446679035150526 : True := trivial
theorem x.tw16649838319151761544 : True := trivial
theorem x.tw16653143505539422327 : True := trivial
theorem x.tw16663062122981194292 : True := trivial
theorem x.tw16675231445544312567 : True := trivial
theorem x.tw16677397634039180462 : True := trivial
theorem x.tw16681757536518889665 : True := trivial
theorem x.tw16682168734414259751 : True := trivial
theorem x.tw16747519436062149103 : True := trivial
theorem x.tw1675796954793303811 : True := trivial
theorem x.tw16782300529217202134 : True := trivial
theorem x.tw16784924497452670408 : True := trivial
theorem x.tw16787196963380032622 : True := trivial
theorem x.tw16838607482977884222 : True := trivial
theorem x.tw16840961854317779801 : True := trivial
theorem x.tw16868963979869652963 : True := trivial
theorem x.tw16883198435377461662 : True := trivial
theorem x.tw16902231400631128257 : True := trivial
theorem x.tw16907680863837237588 : True := trivial
theorem x.tw16933433553694432413 : True := trivial
theorem x.tw16942026497059518145 : True := trivial
theorem x.tw16947352427982325814 : True := trivial
theorem x.tw16952559125537502030 : True := trivial
theorem x.tw16977679527214113646 : True := trivial
theorem x.tw16989305204793095802 : True := trivial
theorem x.tw17006871215433006358 : True := trivial
theorem x.tw17022340367501224674 : True := trivial
theorem x.tw17032668355045577270 : True := trivial
theorem x.tw17090399368757476015 : True := trivial
theorem x.tw17128693038411932882 : True := trivial
theorem x.tw17133226110308095733 : True := trivial
theorem x.tw17158689840225841457 : True := trivial
theorem x.tw17203731521321720278 : True := trivial
theorem x.tw17212148796835136243 : True := trivial
theorem x.tw17235282440714445331 : True := trivial
theorem x.tw17242950417522690955 : True := trivial
theorem x.tw17265432042891216082 : True := trivial
theorem x.tw17275957359131114796 : True := trivial
theorem x.tw17326116484036062586 : True := trivial
theorem x.tw17331730720173597121 : True := trivial
theorem x.tw1735056877101257368 : True := trivial
theorem x.tw17380532202520998642 : True := trivial
theorem x.tw17388573862496240291 : True := trivial
theorem x.tw17394527227752172927 : True := trivial
theorem x.tw17401346062828640596 : True := trivial
theorem x.tw17403904752215370046 : True := trivial
theorem x.tw17419387651419486179 : True := trivial
theorem x.tw17475809434201488968 : True := trivial
theorem x.tw17485196219784441310 : True := trivial
theorem x.tw17493980709996516748 : True := trivial
theorem x.tw17496645218821445055 : True := trivial
theorem x.tw17508591134574701350 : True := trivial
theorem x.tw17577566077262806468 : True := trivial
theorem x.tw17582118683515635218 : True := trivial
theorem x.tw17602094378479523216 : True := trivial
theorem x.tw17654450329316414843 : True := trivial
theorem x.tw17664910825540919787 : True := trivial
theorem x.tw1767159973603763557 : True := trivial
theorem x.tw17681073886715125845 : True := trivial
theorem x.tw17688354173212926204 : True := trivial
theorem x.tw17688814690812621077 : True := trivial
theorem x.tw17691347446005402649 : True := trivial
theorem x.tw17697553771371389610 : True := trivial
theorem x.tw17727510802651550350 : True := trivial
theorem x.tw17728036029897406321 : True := trivial
theorem x.tw17736318238481371645 : True := trivial
theorem x.tw17741271170645145644 : True := trivial
theorem x.tw17741651821863825309 : True := trivial
theorem x.tw17742197175958580050 : True := trivial
theorem x.tw17751287409962625766 : True := trivial
theorem x.tw17763697576014548745 : True := trivial
theorem x.tw17860277991289140484 : True := trivial
theorem x.tw17864899129303756534 : True := trivial
theorem x.tw17874214885126900397 : True := trivial
theorem x.tw17874651221072769742 : True := trivial
theorem x.tw17875511719909735586 : True := trivial
theorem x.tw17890772479598976343 : True := trivial
theorem x.tw1789374411531546556 : True := trivial
theorem x.tw17894082397646807352 : True := trivial
theorem x.tw17918841234362704929 : True := trivial
theorem x.tw17923282062910896363 : True := trivial
theorem x.tw17957274202332108731 : True := trivial
theorem x.tw1800494725884142509 : True := trivial
theorem x.tw18008479044257914710 : True := trivial
theorem x.tw18009941181672653003 : True := trivial
theorem x.tw18014105477128201965 : True := trivial
theorem x.tw18024763962502070313 : True := trivial
theorem x.tw18070596214659393772 : True := trivial
theorem x.tw18117607445295989178 : True := trivial
theorem x.tw18147990316148390285 : True := trivial
theorem x.tw18148632499684739371 : True := trivial
theorem x.tw18168152624345011834 : True := trivial
theorem x.tw18193032549937625168 : True := trivial
theorem x.tw1821356758316432043 : True := trivial
theorem x.tw18239830001921196365 : True := trivial
theorem x.tw18240647713423042901 : True := trivial
theorem x.tw18244996135818526801 : True := trivial
theorem x.tw18256774291305713310 : True := trivial
theorem x.tw182703792846734379 : True := trivial
theorem x.tw18278118953279031888 : True := trivial
theorem x.tw18296984681141456412 : True := trivial
theorem x.tw18312027908723538292 : True := trivial
theorem x.tw18320398251394606683 : True := trivial
theorem x.tw18324084536895367179 : True := trivial
theorem x.tw18340033891489061276 : True := trivial
theorem x.tw18340639294088058121 : True := trivial
theorem x.tw18344431587121631993 : True := trivial
theorem x.tw18345324312968066414 : True := trivial
theorem x.tw18352100373457070722 : True := trivial
theorem x.tw18369882583402815846 : True := trivial
theorem x.tw18402675771661587021 : True := trivial
theorem x.tw18408758822977267605 : True := trivial
theorem x.tw1843265426918247775 : True := trivial
theorem x.tw18441254240430968841 : True := trivial
theorem x.tw1846702302530707924 : True := trivial
theorem x.tw1871380609240391798 : True := trivial
theorem x.tw1895846943964008940 : True := trivial
theorem x.tw1897911926255972164 : True := trivial
theorem x.tw1902994482729452793 : True := trivial
theorem x.tw1911525820062306529 : True := trivial
theorem x.tw1931970673300576702 : True := trivial
theorem x.tw1940332611835011450 : True := trivial
theorem x.tw1941840343715867837 : True := trivial
theorem x.tw1978416429295243028 : True := trivial
theorem x.tw2030587414725155241 : True := trivial
theorem x.tw2031537917373578216 : True := trivial
theorem x.tw2040582256555408047 : True := trivial
theorem x.tw2049460588245530071 : True := trivial
theorem x.tw2063319683089624213 : True := trivial
theorem x.tw2070596085503899165 : True := trivial
theorem x.tw2082430305949409718 : True := trivial
theorem x.tw2102660879371982782 : True := trivial
theorem x.tw211236686653161277 : True := trivial
theorem x.tw2149461152611864792 : True := trivial
theorem x.tw2158287766650901963 : True := trivial
theorem x.tw2180225598519881482 : True := trivial
theorem x.tw2181795950510259404 : True := trivial
theorem x.tw2184305600173372038 : True := trivial
theorem x.tw2220709642781410392 : True := trivial
theorem x.tw2258973745614765316 : True := trivial
theorem x.tw227627781121971186 : True := trivial
theorem x.tw2297875269983110331 : True := trivial
theorem x.tw230550421890422142 : True := trivial
theorem x.tw2308301581979924532 : True := trivial
theorem x.tw2311945787878430984 : True := trivial
theorem x.tw2344784603320869138 : True := trivial
theorem x.tw2348609113724625019 : True := trivial
theorem x.tw2368835534739104391 : True := trivial
theorem x.tw2430407081202438575 : True := trivial
theorem x.tw2457097175091800351 : True := trivial
theorem x.tw2471611124620102619 : True := trivial
theorem x.tw2488568755365922908 : True := trivial
theorem x.tw2488616738884206750 : True := trivial
theorem x.tw2501844482822224543 : True := trivial
theorem x.tw2503383851743107049 : True := trivial
theorem x.tw2507432778248182001 : True := trivial
theorem x.tw2510208313702720416 : True := trivial
theorem x.tw2511845003084617712 : True := trivial
theorem x.tw2526065683336569023 : True := trivial
theorem x.tw2549776721130494238 : True := trivial
theorem x.tw2588675918457676648 : True := trivial
theorem x.tw2618959852397679876 : True := trivial
theorem x.tw2636657482830861956 : True := trivial
theorem x.tw2662806063479153118 : True := trivial
theorem x.tw270242306515167155 : True := trivial
theorem x.tw2714216656829531595 : True := trivial
theorem x.tw2720716108018497860 : True := trivial
theorem x.tw274563715210004352 : True := trivial
theorem x.tw2760173994756918302 : True := trivial
theorem x.tw2761511731271996772 : True := trivial
theorem x.tw2767206698608310293 : True := trivial
theorem x.tw2769084492218960556 : True := trivial
theorem x.tw277378142224398894 : True := trivial
theorem x.tw2775109412662030053 : True := trivial
theorem x.tw2803328646562473498 : True := trivial
theorem x.tw2826027730710671101 : True := trivial
theorem x.tw2846415535211591788 : True := trivial
theorem x.tw2877658537131324672 : True := trivial
theorem x.tw2899202315850720040 : True := trivial
theorem x.tw2911140017676944113 : True := trivial
theorem x.tw291460488091536815 : True := trivial
theorem x.tw2914707223782875056 : True := trivial
theorem x.tw2924872020614974547 : True := trivial
theorem x.tw2941005166873331770 : True := trivial
theorem x.tw2942319914191149962 : True := trivial
theorem x.tw2968461170794751986 : True := trivial
theorem x.tw3018043995717684545 : True := trivial
theorem x.tw3027998181802080152 : True := trivial
theorem x.tw3038206179391886198 : True := trivial
theorem x.tw3040722602490607411 : True := trivial
theorem x.tw3057805363477927155 : True := trivial
theorem x.tw3065473318952284855 : True := trivial
theorem x.tw3071007361845964521 : True := trivial
theorem x.tw3074589843187163427 : True := trivial
theorem x.tw3077510870979780067 : True := trivial
theorem x.tw3086963543650188869 : True := trivial
theorem x.tw3092863028381169883 : True := trivial
theorem x.tw3101230554987857852 : True := trivial
theorem x.tw3123923820325123765 : True := trivial
theorem x.tw3149319923456874997 : True := trivial
theorem x.tw3151297232678651169 : True := trivial
theorem x.tw3173149797293010897 : True := trivial
theorem x.tw3177274295116890557 : True := trivial
theorem x.tw3190763850416584886 : True := trivial
theorem x.tw319455692255987101 : True := trivial
theorem x.tw3211764470573088002 : True := trivial
theorem x.tw3216372170579251539 : True := trivial
theorem x.tw3243053629460465035 : True := trivial
theorem x.tw3244176093233234941 : True := trivial
theorem x.tw3248191377198454598 : True := trivial
theorem x.tw3272903368617053998 : True := trivial
theorem x.tw3287712018309656675 : True := trivial
theorem x.tw3299604873197239558 : True := trivial
theorem x.tw3308905312616801974 : True := trivial
theorem x.tw3316634234911678495 : True := trivial
theorem x.tw3333135634435706750 : True := trivial
theorem x.tw3353582643588911802 : True := trivial
theorem x.tw3373436845226207081 : True := trivial
theorem x.tw3378107541518595685 : True := trivial
theorem x.tw3381116527526471741 : True := trivial
theorem x.tw3384200648588558981 : True := trivial
theorem x.tw3426142875666511927 : True := trivial
theorem x.tw3431950901272927768 : True := trivial
theorem x.tw3451411277532209348 : True := trivial
theorem x.tw3461889752873945555 : True := trivial
theorem x.tw3466878022938733119 : True := trivial
theorem x.tw3478902802156326845 : True := trivial
theorem x.tw3483121254157424549 : True := trivial
theorem x.tw3499340534524468525 : True := trivial
theorem x.tw3526402826285436235 : True := trivial
theorem x.tw3539669927792657173 : True := trivial
theorem x.tw3544861720533446463 : True := trivial
theorem x.tw3562481739686499562 : True := trivial
theorem x.tw3562602660806328482 : True := trivial
theorem x.tw3600964319371841036 : True := trivial
theorem x.tw3629681586767258163 : True := trivial
theorem x.tw365113718263555865 : True := trivial
theorem x.tw3662150768356900900 : True := trivial
theorem x.tw3666981192614921521 : True := trivial
theorem x.tw36688575622155945 : True := trivial
theorem x.tw3685065761131243330 : True := trivial
theorem x.tw3702372123164513411 : True := trivial
theorem x.tw3731599165029837065 : True := trivial
theorem x.tw3738299003506213615 : True := trivial
theorem x.tw3777421684275937548 : True := trivial
theorem x.tw3784808607185080859 : True := trivial
theorem x.tw3810043677469060461 : True := trivial
theorem x.tw3823393467520340937 : True := trivial
theorem x.tw382360890530717340 : True := trivial
theorem x.tw3828838746399393302 : True := trivial
theorem x.tw3841453196829716875 : True := trivial
theorem x.tw3881811204495988814 : True := trivial
theorem x.tw3896083693007571613 : True := trivial
theorem x.tw3930006089365354099 : True := trivial
theorem x.tw393024014352931898 : True := trivial
theorem x.tw3933397803148660768 : True := trivial
theorem x.tw3978212307908992501 : True := trivial
theorem x.tw3978335419371425541 : True := trivial
theorem x.tw4003381714396428845 : True := trivial
theorem x.tw4035409970804256858 : True := trivial
theorem x.tw4038705184777265236 : True := trivial
theorem x.tw4051216716871801497 : True := trivial
theorem x.tw409880308043201266 : True := trivial
theorem x.tw4109133943812738124 : True := trivial
theorem x.tw4125925578015193729 : True := trivial
theorem x.tw4126696890745242100 : True := trivial
theorem x.tw4142613276202127484 : True := trivial
theorem x.tw4142731763312856665 : True := trivial
theorem x.tw418252873473075935 : True := trivial
theorem x.tw4191233239810315137 : True := trivial
theorem x.tw4199319406122079330 : True := trivial
theorem x.tw4202582852131481550 : True := trivial
theorem x.tw4203466863050935155 : True := trivial
theorem x.tw425577058982374745 : True := trivial
theorem x.tw4261340436814100215 : True := trivial
theorem x.tw4268934477054875608 : True := trivial
theorem x.tw4298905093436458867 : True := trivial
theorem x.tw4299154929937433062 : True := trivial
theorem x.tw432039244419659052 : True := trivial
theorem x.tw4348193364057241800 : True := trivial
theorem x.tw4353137785368638991 : True := trivial
theorem x.tw4361007222548793063 : True := trivial
theorem x.tw4367896302222888572 : True := trivial
theorem x.tw4387518869503398209 : True := trivial
theorem x.tw440316659002846147 : True := trivial
theorem x.tw4418804259831603743 : True := trivial
theorem x.tw4423329195707834276 : True := trivial
theorem x.tw444000361798711990 : True := trivial
theorem x.tw4464288576968004593 : True := trivial
theorem x.tw4474282984423862633 : True := trivial
theorem x.tw4479530833043115076 : True := trivial
theorem x.tw4512897905519885345 : True := trivial
theorem x.tw4516934810934743915 : True := trivial
theorem x.tw4525341574402134159 : True := trivial
theorem x.tw456528623201797445 : True := trivial
theorem x.tw4617112165116573448 : True := trivial
theorem x.tw4624181876657443450 : True := trivial
theorem x.tw4641803142427275968 : True := trivial
theorem x.tw4642934215371500760 : True := trivial
theorem x.tw4648225922254111375 : True := trivial
theorem x.tw4654139819506748638 : True := trivial
theorem x.tw4660150741601667129 : True := trivial
theorem x.tw466745474754206765 : True := trivial
theorem x.tw4675603693218244530 : True := trivial
theorem x.tw4694664066096678178 : True := trivial
theorem x.tw4714989363750917325 : True := trivial
theorem x.tw4726649939641546272 : True := trivial
theorem x.tw4730024251818983634 : True := trivial
theorem x.tw4730388299294564038 : True := trivial
theorem x.tw4739464143144798170 : True := trivial
theorem x.tw4743640957487128714 : True := trivial
theorem x.tw4756976716840559235 : True := trivial
theorem x.tw4759826556922766526 : True := trivial
theorem x.tw4771511689829691791 : True := trivial
theorem x.tw4780103307424448080 : True := trivial
theorem x.tw4806961304177849951 : True := trivial
theorem x.tw4809187275179764984 : True := trivial
theorem x.tw4822198795840634864 : True := trivial
theorem x.tw4844785656324935117 : True := trivial
theorem x.tw4860970218814212974 : True := trivial
theorem x.tw4912399117860612664 : True := trivial
theorem x.tw4925167556210888386 : True := trivial
theorem x.tw4925957641110838725 : True := trivial
theorem x.tw4927466292544012243 : True := trivial
theorem x.tw4937251303242651148 : True := trivial
theorem x.tw496178006537666911 : True := trivial
theorem x.tw4978509381943206793 : True := trivial
theorem x.tw498090058691834112 : True := trivial
theorem x.tw4993708404765194188 : True := trivial
theorem x.tw5011441950965264555 : True := trivial
theorem x.tw5042082616862590894 : True := trivial
theorem x.tw50765603190942054 : True := trivial
theorem x.tw5090975748541532068 : True := trivial
theorem x.tw5112799527311628229 : True := trivial
theorem x.tw5181877257155294223 : True := trivial
theorem x.tw5184104560716531515 : True := trivial
theorem x.tw5184122820510404115 : True := trivial
theorem x.tw5188954137681692320 : True := trivial
theorem x.tw5189050842058491940 : True := trivial
theorem x.tw5234200816470371192 : True := trivial
theorem x.tw5275940119117121244 : True := trivial
theorem x.tw5291674161435922711 : True := trivial
theorem x.tw5300517400190754667 : True := trivial
theorem x.tw5313602231150567936 : True := trivial
theorem x.tw5365906893248945131 : True := trivial
theorem x.tw5377870506816100167 : True := trivial
theorem x.tw5392971455435801587 : True := trivial
theorem x.tw5410891375964392537 : True := trivial
theorem x.tw5437129122534822810 : True := trivial
theorem x.tw5437396367860926943 : True := trivial
theorem x.tw5444495295266863681 : True := trivial
theorem x.tw5462749595413536215 : True := trivial
theorem x.tw5471686300144291343 : True := trivial
theorem x.tw54804997478021788 : True := trivial
theorem x.tw5482030238576338442 : True := trivial
theorem x.tw5482356631962706735 : True := trivial
theorem x.tw552954971845551854 : True := trivial
theorem x.tw5556929860112169100 : True := trivial
theorem x.tw5576823692980842494 : True := trivial
theorem x.tw5581037827576068036 : True := trivial
theorem x.tw5602930417054111180 : True := trivial
theorem x.tw5609010456626668148 : True := trivial
theorem x.tw5624581029892550738 : True := trivial
theorem x.tw5654415358209667011 : True := trivial
theorem x.tw5656114187001241580 : True := trivial
theorem x.tw5692687718617059971 : True := trivial
theorem x.tw5733076695572197108 : True := trivial
theorem x.tw5734102074270020093 : True := trivial
theorem x.tw5736272868156047728 : True := trivial
theorem x.tw5753882423928232700 : True := trivial
theorem x.tw5772376387604637113 : True := trivial
theorem x.tw5774059982106895810 : True := trivial
theorem x.tw5790584341275008126 : True := trivial
theorem x.tw5792216426364802396 : True := trivial
theorem x.tw5804698522729214953 : True := trivial
theorem x.tw5808590020691599037 : True := trivial
theorem x.tw5879566014789606625 : True := trivial
theorem x.tw5880575938232833833 : True := trivial
theorem x.tw5893276544300161504 : True := trivial
theorem x.tw5927625692709969301 : True := trivial
theorem x.tw5943467265330272203 : True := trivial
theorem x.tw5977407392303757512 : True := trivial
theorem x.tw5980355764045139545 : True := trivial
theorem x.tw5992548413746140482 : True := trivial
theorem x.tw600503873410412233 : True := trivial
theorem x.tw6015312595506117755 : True := trivial
theorem x.tw6021944670835322579 : True := trivial
theorem x.tw6024237633146544035 : True := trivial
theorem x.tw6044441613383836518 : True := trivial
theorem x.tw605381577233133848 : True := trivial
theorem x.tw6061010052563500775 : True := trivial
theorem x.tw6071188302033730307 : True := trivial
theorem x.tw6081628855365183206 : True := trivial
theorem x.tw6123255989475841923 : True := trivial
theorem x.tw6141249230691549057 : True := trivial
theorem x.tw6164925503713636432 : True := trivial
theorem x.tw6177858976038286452 : True := trivial
theorem x.tw6181100229063968245 : True := trivial
theorem x.tw6206153861464176707 : True := trivial
theorem x.tw6216037086288334870 : True := trivial
theorem x.tw6217951716010286405 : True := trivial
theorem x.tw6226395959402734599 : True := trivial
theorem x.tw6230900161991319656 : True := trivial
theorem x.tw6236227899424071977 : True := trivial
theorem x.tw6267709692559021615 : True := trivial
theorem x.tw6285597482471829586 : True := trivial
theorem x.tw6290921284420106355 : True := trivial
theorem x.tw6291270798720393738 : True := trivial
theorem x.tw6345953086543602152 : True := trivial
theorem x.tw6349404652468058197 : True := trivial
theorem x.tw6354050110536438343 : True := trivial
theorem x.tw6363397653397583601 : True := trivial
theorem x.tw6388240242455705752 : True := trivial
theorem x.tw6402674378465468485 : True := trivial
theorem x.tw6414911629305127539 : True := trivial
theorem x.tw644647642328969693 : True := trivial
theorem x.tw646386202733373619 : True := trivial
theorem x.tw651032402726104214 : True := trivial
theorem x.tw652140677145011976 : True := trivial
theorem x.tw6526140490419829660 : True := trivial
theorem x.tw6534115796685660426 : True := trivial
theorem x.tw6539401764719334992 : True := trivial
theorem x.tw6546621369630335857 : True := trivial
theorem x.tw6566157677153951082 : True := trivial
theorem x.tw6627392688554552786 : True := trivial
theorem x.tw6636379785725748586 : True := trivial
theorem x.tw6661335393605707490 : True := trivial
theorem x.tw6661592024722365367 : True := trivial
theorem x.tw6689323484488534535 : True := trivial
theorem x.tw6692482469353546723 : True := trivial
theorem x.tw6701707720421869131 : True := trivial
theorem x.tw6715582631108203782 : True := trivial
theorem x.tw672256523487781398 : True := trivial
theorem x.tw6736559863499733144 : True := trivial
theorem x.tw6741919372446279876 : True := trivial
theorem x.tw6759392236005662302 : True := trivial
theorem x.tw6762002137794617793 : True := trivial
theorem x.tw6763938925668262062 : True := trivial
theorem x.tw6767476802192174378 : True := trivial
theorem x.tw6799859588104022867 : True := trivial
theorem x.tw6800242406732067763 : True := trivial
theorem x.tw6802943048862258988 : True := trivial
theorem x.tw6839295894439959123 : True := trivial
theorem x.tw6858793815429618512 : True := trivial
theorem x.tw686485073701017565 : True := trivial
theorem x.tw6929816814765896908 : True := trivial
theorem x.tw6946233028526211146 : True := trivial
theorem x.tw6963639386135523632 : True := trivial
theorem x.tw6989446947585797888 : True := trivial
theorem x.tw6991744096467702674 : True := trivial
theorem x.tw6995121177932976223 : True := trivial
theorem x.tw6995881870545690752 : True := trivial
theorem x.tw6999109686575529093 : True := trivial
theorem x.tw700693766434587172 : True := trivial
theorem x.tw7089773832308013656 : True := trivial
theorem x.tw7099823835032311688 : True := trivial
theorem x.tw7123253501315159090 : True := trivial
theorem x.tw7129902274911853188 : True := trivial
theorem x.tw7158884164066108494 : True := trivial
theorem x.tw7198153593115949043 : True := trivial
theorem x.tw7221472846242033544 : True := trivial
theorem x.tw7233621406569614028 : True := trivial
theorem x.tw723635094470745061 : True := trivial
theorem x.tw7284495432789486367 : True := trivial
theorem x.tw729766176106501337 : True := trivial
theorem x.tw730117447106464839 : True := trivial
theorem x.tw7303956687886619315 : True := trivial
theorem x.tw7307578555418857894 : True := trivial
theorem x.tw7330704383911361091 : True := trivial
theorem x.tw7338171149653478835 : True := trivial
theorem x.tw7352610295427127359 : True := trivial
theorem x.tw7358013361742234465 : True := trivial
theorem x.tw7367044692127031712 : True := trivial
theorem x.tw7369360428230965167 : True := trivial
theorem x.tw7369674969012111550 : True := trivial
theorem x.tw737856059868794168 : True := trivial
theorem x.tw7381862425806050828 : True := trivial
theorem x.tw7389875310830528806 : True := trivial
theorem x.tw7454299920706803588 : True := trivial
theorem x.tw748082582737996775 : True := trivial
theorem x.tw7513677060411270235 : True := trivial
theorem x.tw7518089445212344763 : True := trivial
theorem x.tw7559125970190141524 : True := trivial
theorem x.tw7570716981190493047 : True := trivial
theorem x.tw7587662771882853473 : True := trivial
theorem x.tw7620439114524771159 : True := trivial
theorem x.tw7626620491692186694 : True := trivial
theorem x.tw7647776443608310212 : True := trivial
theorem x.tw7662685916116144163 : True := trivial
theorem x.tw7675252825468871827 : True := trivial
theorem x.tw7687100253586816798 : True := trivial
theorem x.tw7697755396396250407 : True := trivial
theorem x.tw7736968067393406997 : True := trivial
theorem x.tw774568968758142895 : True := trivial
theorem x.tw7757827936117748691 : True := trivial
theorem x.tw7786383420094719546 : True := trivial
theorem x.tw7821843160341347333 : True := trivial
theorem x.tw782833338963251 : True := trivial
theorem x.tw7851465932976235069 : True := trivial
theorem x.tw7900561403994041939 : True := trivial
theorem x.tw7902012338209538401 : True := trivial
theorem x.tw7931352663654689671 : True := trivial
theorem x.tw7932533990442072677 : True := trivial
theorem x.tw7935230909281515101 : True := trivial
theorem x.tw7950437633729951555 : True := trivial
theorem x.tw8008398115293277242 : True := trivial
theorem x.tw804541984203314574 : True := trivial
theorem x.tw8055779327185426309 : True := trivial
theorem x.tw8123675110872671843 : True := trivial
theorem x.tw8129337695813753353 : True := trivial
theorem x.tw8176206828167774037 : True := trivial
theorem x.tw8273695067123487791 : True := trivial
theorem x.tw8275940422212164360 : True := trivial
theorem x.tw8295769145949407962 : True := trivial
theorem x.tw8352813448428776763 : True := trivial
theorem x.tw8354809705143952458 : True := trivial
theorem x.tw8360906728388021042 : True := trivial
theorem x.tw8443062703205946743 : True := trivial
theorem x.tw8451705686351370241 : True := trivial
theorem x.tw8465095836503448206 : True := trivial
theorem x.tw8475325069730936740 : True := trivial
theorem x.tw8483333946443995097 : True := trivial
theorem x.tw8497670450549754436 : True := trivial
theorem x.tw8504720548237666298 : True := trivial
theorem x.tw8531953543385938971 : True := trivial
theorem x.tw8540945352355467043 : True := trivial
theorem x.tw8546214764176123718 : True := trivial
theorem x.tw855200012024981694 : True := trivial
theorem x.tw8602546984128623627 : True := trivial
theorem x.tw8604549171934135040 : True := trivial
theorem x.tw8604951737876342204 : True := trivial
theorem x.tw8649147109174109368 : True := trivial
theorem x.tw8693088062975936780 : True := trivial
theorem x.tw870185465585380173 : True := trivial
theorem x.tw8708084076596553339 : True := trivial
theorem x.tw8718183158323552557 : True := trivial
theorem x.tw8719130420221826889 : True := trivial
theorem x.tw871963694191388570 : True := trivial
theorem x.tw8731219726873627875 : True := trivial
theorem x.tw8734826188242008997 : True := trivial
theorem x.tw874720793815302191 : True := trivial
theorem x.tw8766568584493570577 : True := trivial
theorem x.tw8770850211004502190 : True := trivial
theorem x.tw8784093219092706638 : True := trivial
theorem x.tw8834734013172818746 : True := trivial
theorem x.tw8862085202078358756 : True := trivial
theorem x.tw8901674274748371404 : True := trivial
theorem x.tw8915487677836490091 : True := trivial
theorem x.tw8920650396671210815 : True := trivial
theorem x.tw8936917803006994972 : True := trivial
theorem x.tw8938286246435785386 : True := trivial
theorem x.tw894071049226696195 : True := trivial
theorem x.tw8955554126749809316 : True := trivial
theorem x.tw8956922662521677391 : True := trivial
theorem x.tw8959821899895261879 : True := trivial
theorem x.tw8992772703540217566 : True := trivial
theorem x.tw8995400846783383538 : True := trivial
theorem x.tw9034895844108629504 : True := trivial
theorem x.tw9050724817417517336 : True := trivial
theorem x.tw905225766413144581 : True := trivial
theorem x.tw9066077841748542883 : True := trivial
theorem x.tw9084636662999748164 : True := trivial
theorem x.tw9087499442634988833 : True := trivial
theorem x.tw9095213236857422098 : True := trivial
theorem x.tw9095761204093048882 : True := trivial
theorem x.tw9131185167794927594 : True := trivial
theorem x.tw9138989458084366262 : True := trivial
theorem x.tw9139255790431897975 : True := trivial
theorem x.tw9185333269093378783 : True := trivial
theorem x.tw9209494980503572701 : True := trivial
theorem x.tw9211440058168996849 : True := trivial
theorem x.tw9223267820108774465 : True := trivial
theorem x.tw9223970093855936633 : True := trivial
theorem x.tw9231790131148921777 : True := trivial
theorem x.tw9253478511937957935 : True := trivial
theorem x.tw9275346360590289224 : True := trivial
theorem x.tw9279794183649285674 : True := trivial
theorem x.tw9314955600995567879 : True := trivial
theorem x.tw9335506418633193063 : True := trivial
theorem x.tw9337014910289677166 : True := trivial
theorem x.tw9356190949730750099 : True := trivial
theorem x.tw9391212608485198696 : True := trivial
theorem x.tw9395590017629532570 : True := trivial
theorem x.tw9414052845115507666 : True := trivial
theorem x.tw9423116016098024916 : True := trivial
theorem x.tw9430903384709548213 : True := trivial
theorem x.tw9447722492385198688 : True := trivial
theorem x.tw9448835805518694676 : True := trivial
theorem x.tw9451162314616978583 : True := trivial
theorem x.tw9471003062986669584 : True := trivial
theorem x.tw9474660433887755057 : True := trivial
theorem x.tw9480095717765075729 : True := trivial
theorem x.tw9480908233335186302 : True := trivial
theorem x.tw9512345847452006689 : True := trivial
theorem x.tw9523723680188670232 : True := trivial
theorem x.tw9538734771886776428 : True := trivial
theorem x.tw955311236953535185 : True := trivial
theorem x.tw9554136453516785481 : True := trivial
theorem x.tw9557492619550179002 : True := trivial
theorem x.tw9579657653914677203 : True := trivial
theorem x.tw9587714538241670347 : True := trivial
theorem x.tw959539052053523944 : True := trivial
theorem x.tw9616533626679607072 : True := trivial
theorem x.tw9627400730210963951 : True := trivial
theorem x.tw9645276540263768721 : True := trivial
theorem x.tw9652982682397368998 : True := trivial
theorem x.tw9654468477003612155 : True := trivial
theorem x.tw9658676814213485022 : True := trivial
theorem x.tw9681011096729601053 : True := trivial
theorem x.tw9715274367083955807 : True := trivial
theorem x.tw9725382588578855575 : True := trivial
theorem x.tw9736162592447395823 : True := trivial
theorem x.tw9741006953862579674 : True := trivial
theorem x.tw974576807944425255 : True := trivial
theorem x.tw9821561836590550044 : True := trivial
theorem x.tw9830154569453304969 : True := trivial
theorem x.tw9848155634628773349 : True := trivial
theorem x.tw9858674147946454049 : True := trivial
theorem x.tw9863660933247112656 : True := trivial
theorem x.tw9869490871272542277 : True := trivial
theorem x.tw9890069902645596872 : True := trivial
theorem x.tw9910429298768363764 : True := trivial
theorem x.tw9928674796114105660 : True := trivial
theorem x.tw9933000625915331174 : True := trivial
theorem x.tw996490800095125265 : True := trivial
theorem x.tw9967297903219515893 : True := trivial
theorem x.tw9989011559646604282 : True := trivial
theorem keep {T P : Prop} (_ : T → P) : True := trivial
theorem both {T P : Prop} (_ : T) (p : P) : P := p
set_option Elab.async true in
theorem x : True := by
  refine' keep (T := _) (P := PySem.Challenge.rw_og0286_01.Holds) ?k
  case k => as_aux_lemma => (intro h; w_on; o_law; refine' both ?hc ?kk; rotate_left; refine' _; rotate_left; (focus (k_head; (case hw => w_witness2))); exact h)
end
theorem top_off : True := by
  have _h : Mine.x.view_1_40 = Mine.x.view_1_40 := rfl
  w_top off
  trivial
open PySem.Calls PySem.Spec
set_option maxHeartbeats 4000000
local macro_rules | `(tactic| walk_at $s:str) => `(tactic| k_extra $s)
local macro_rules | `(tactic| ktr_room) => `(tactic| k_extra "room")
local macro_rules | `(tactic| ktr_units) => `(tactic| k_extra "units")
local macro_rules | `(tactic| k_ne) => `(tactic| k_extra "ne")
local macro_rules | `(tactic| k_all) => `(tactic| k_extra "all")
section
theorem room_k (k : Nat) {a c : Nat} (h : a + k < c) : a < c := Nat.lt_of_le_of_lt (Nat.le_add_right a k) h
theorem all_cons {α : Type} {P : α → Prop} {x : α} {l : List α} (h1 : P x) (h2 : ∀ p ∈ l, P p) : ∀ p ∈ x :: l, P p := List.forall_mem_cons.mpr ⟨h1, h2⟩
theorem all_nil {α : Type} {P : α → Prop} : ∀ p ∈ ([] : List α), P p := fun _ h => nomatch h
theorem all_app {α : Type} {P : α → Prop} {a b : List α} (h1 : ∀ p ∈ a, P p) (h2 : ∀ p ∈ b, P p) : ∀ p ∈ a ++ b, P p := fun p hp => (List.mem_append.mp hp).elim (h1 p) (h2 p)
end
section
@[reducible] noncomputable def lo : List Str := looseW Mine.x.view_1_40 [Str.ofString "TermError", Str.ofString "KEY_MODIFIERS", Str.ofString "Key", Str.ofString "key_settled",
      Str.ofString "read_commands", Str.ofString "KeyBinding", Str.ofString "KeyTables"]
structure Amb (Dn Un : Nat) (w : World) (mean : ExcName → Option Value) (mg mb : Str → Option Value) (dp un : Nat) (cs : Scope) (outer : List Env) (A₀ : Around) (base h₀ : Heap) (L : Addr) (m : Str → Option Value) (h : Heap) : Prop where
  B : Below A₀ base outer h₀
  F : Fr h₀ L h m
  X : (Mine.x.heap_1_39 w.params).In h₀
  T : Top Mine.x.view_1_40 lo mean mg mb h₀
  k : cs.kind = .function
  d : dp + Dn < recursionLimit
  u : un + Un < cLine
structure Hd where
  (x1 x2 x3 x4 : Int) (t1 t2 t3 t4 : Tok)
abbrev stObj (c : Hd) (tb T M U : Value) : Obj := dictOf [⟨c.x1, .str (Str.ofString "tables") c.t1, tb⟩, ⟨c.x2, .str (Str.ofString "table") c.t2, T⟩, ⟨c.x3, .str (Str.ofString "mode") c.t3, M⟩, ⟨c.x4, .str (Str.ofString "until") c.t4, U⟩] 4
structure H5 where
  (x1 x2 x3 x4 x5 : Int) (t1 t2 t3 t4 t5 : Tok)
abbrev tbObj (c : H5) (mk lt : Addr) (pre sec rep : Value) : Obj := dictOf [⟨c.x1, .str (Str.ofString "made") c.t1, .ref mk⟩, ⟨c.x2, .str (Str.ofString "later") c.t2, .ref lt⟩, ⟨c.x3, .str (Str.ofString "prefix") c.t3, pre⟩, ⟨c.x4, .str (Str.ofString "second") c.t4, sec⟩, ⟨c.x5, .str (Str.ofString "repeat") c.t5, rep⟩] 5
abbrev bdObj (c : Hd) (key told rep note : Value) : Obj := dictOf [⟨c.x1, .str (Str.ofString "key") c.t1, key⟩, ⟨c.x2, .str (Str.ofString "told") c.t2, told⟩, ⟨c.x3, .str (Str.ofString "is_repeat") c.t3, rep⟩, ⟨c.x4, .str (Str.ofString "note") c.t4, note⟩] 4
abbrev keyObj (c : Hd) (nm code held ev : Value) : Obj := dictOf [⟨c.x1, .str (Str.ofString "name") c.t1, nm⟩, ⟨c.x2, .str (Str.ofString "code") c.t2, code⟩, ⟨c.x3, .str (Str.ofString "held") c.t3, held⟩, ⟨c.x4, .str (Str.ofString "event") c.t4, ev⟩] 4
abbrev tupObj (vs : List Value) (n : Nat) : Obj := { cls := .type "tuple", data := .seq vs.toArray n }
abbrev rootB : Array UInt8 := #[114, 111, 111, 116]
abbrev prefB : Array UInt8 := #[112, 114, 101, 102, 105, 120]
abbrev copyB : Array UInt8 := #[99, 111, 112, 121]
abbrev ownB : Array UInt8 := #[111, 119, 110]
abbrev anyB : Array UInt8 := #[65, 110, 121]

section
variable {h₀ h : Heap} {L : Addr} {m : Str → Option Value} {x C dx : Addr} {od : Obj} {sl : Array (Option Value)}
theorem inst_base (F : Fr h₀ L h m) (h1 : h₀.get? x = some ⟨.ref C, some dx, .plain, sl⟩) (h2 : h₀.get? dx = some od) :
    InstAt h x ⟨.ref C, some dx, .plain, sl⟩ C (some od) := ⟨F.keep _ _ h1, rfl, rfl, F.keep _ _ h2⟩
theorem tup_base {a : Addr} {vs : List Value} {n : Nat} (F : Fr h₀ L h m) (h1 : h₀.get? a = some (tupObj vs n)) : IsTup h a vs.toArray := ⟨_, F.keep _ _ h1, rfl, n, rfl⟩
end
section
variable {prog : Program} {w : World} {K : Type} [DecidableEq K] {knd : KeyKind prog w K} {A : Around} {E : Value → Shared → Prop} {s : Shared} {h₀ : Heap} {L d : Addr} {m : Str → Option Value} {kvs : List (K × Value)} {k : K} {key v dflt : Value}
theorem md_at (F : Fr h₀ L s.heap m) (D : h₀.DictOf knd d kvs) : s.heap.DictOf knd d kvs := D.keep F.keep
theorem md_in {Q : Value → Shared → Prop} (hD : s.heap.DictOf knd d kvs) (lo : (d == sysModules) = false) (hkey : knd.is k key = true) {x : Option Value} (hl : valueAt kvs k = x) (h : Q (.bool x.isSome) { s with toks := s.toks + 1 }) :
    wpAny (model prog w) A (compareOp .In key (.ref d)) Q E s := wpAny_in_of hkey lo hD.mapOf (by rw [hl]; exact h)
theorem md_item {value slice : PySem.Expr} {Q : Value → Shared → Prop} (hD : s.heap.DictOf knd d kvs) (hkey : knd.is k key = true) (hl : valueAt kvs k = some v) (h : Q v { s with toks := s.toks + 1 })
    (hs : subscripted slice false (.ref d) key = operate [.ref d, key] (getItem (.ref d) key) := by with_unfolding_all rfl) (hg : ∀ r, letTemporaryGo value (.ref d) r = pure () := by intro _; with_unfolding_all rfl) :
    wpAny (model prog w) A (subscriptTail value slice (.ref d) key) Q E s :=
  subscriptTail_builtin hD.typeIs slot_dict_getitem.lookup (wpAny_getItem_of hkey hD.mapOf hl h) hs hg
theorem md_getm {pl : Sem Bool} {Q : Value × List Value → Shared → Prop} (hD : s.heap.DictOf knd d kvs) (h : Q (.builtin "dict.get", [.ref d]) s) : wpAny (model prog w) A (getMethod (.ref d) "get" pl) Q E s :=
  getMethod_builtin hD.typeIs PySem.F.plainAttrs_dict PySem.F.slot_dict_get PySem.F.type_dict_get hD.mapOf.noDict h
theorem md_get1 {Q : Value → Shared → Prop} (hD : s.heap.DictOf knd d kvs) (lo : (d == sysModules) = false) (hkey : knd.is k key = true) {x : Option Value} (hl : valueAt kvs k = x) (h : Q (x.getD .none) { s with toks := s.toks + 1 }) :
    wpAny (model prog w) A (call (.builtin "dict.get") [.ref d, key]) Q E s :=
  call_meetsIn PySem.F.slot_dict_get hD.typeIs PySem.F.entry_dict_get (PySem.F.args_dict_get_2 _ _) (meets_dict_get knd d hkey lo) ⟨_, hD.mapOf, by rw [hl]; exact h⟩
theorem md_get2 {Q : Value → Shared → Prop} (hD : s.heap.DictOf knd d kvs) (lo : (d == sysModules) = false) (hkey : knd.is k key = true) {x : Option Value} (hl : valueAt kvs k = x) (h : Q (x.getD dflt) { s with toks := s.toks + 1 }) :
    wpAny (model prog w) A (call (.builtin "dict.get") [.ref d, key, dflt]) Q E s :=
  call_meetsIn PySem.F.slot_dict_get hD.typeIs PySem.F.entry_dict_get (PySem.F.args_dict_get_3 _ _ _) (meets_dict_get_default knd d hkey lo dflt) ⟨_, hD.mapOf, by rw [hl]; exact h⟩
end
theorem bk_is (prog : Program) (w : World) (b : Array UInt8) (t : Tok) : (bytesKind prog w).is b.toList (.bytes b t) = true := by simp [bytesKind, isBytes]
theorem to_list {h₀ h : Heap} {L st sd : Addr} {i o : Obj} {news : List (Addr × Obj)} {g : Obj → List (Addr × Obj)} (N : News h₀ L h news) (hst : (st, i) ∈ news) (U : UpdF sd o news g) (hio : i.cls ≠ o.cls) :
    ∃ rest, st ≠ sd ∧ News h₀ L h ((st, i) :: (sd, o) :: rest) ∧ (∀ p ∈ rest, p.1 ≠ sd) ∧ (∀ p ∈ rest, p ∈ news) ∧ ∀ h' o' own, News h₀ L h' (own ++ (st, i) :: (sd, o') :: rest) → News h₀ L h' (own ++ g o') := by
  obtain ⟨pre, post, rfl, hg, h1, h2⟩ := U.split
  have hne : st ≠ sd := by
    intro e
    subst e
    have a := (N _ hst).1
    have b := (N (st, o) (by simp)).1
    rw [a] at b
    exact hio (congrArg Obj.cls (Option.some.inj b))
  refine ⟨pre ++ post, hne, fun p hp => ?_, fun p hp => ?_, fun p hp => ?_, fun h' o' own N' p hp => ?_⟩
  · rcases List.mem_cons.mp hp with rfl | hp
    · exact N _ hst
    · rcases List.mem_cons.mp hp with rfl | hp
      · exact N _ (by simp)
      · rcases List.mem_append.mp hp with hp | hp
        · exact N _ (by simp [hp])
        · exact N _ (by simp [hp])
  · rcases List.mem_append.mp hp with hp | hp
    · exact h1 p hp
    · exact h2 p hp
  · rcases List.mem_append.mp hp with hp | hp
    · simp [hp]
    · simp [hp]
  · rw [hg] at hp
    refine N' p ?_
    simp only [List.mem_append, List.mem_cons] at hp ⊢
    rcases hp with hp | hp | hp | hp
    · exact .inl hp
    · exact .inr (.inr (.inr (.inl hp)))
    · exact .inr (.inr (.inl hp))
    · exact .inr (.inr (.inr (.inr hp)))


theorem gives_bytes_eq_none (b : Array UInt8) (t : Tok) : Gives (Builtin.«bytes.__eq__» ⟨[.bytes b t, .none], []⟩) (.val .notImplemented) := by
  refine .of_wp fun M A E s Q hq => ?_
  have key : wpAny M A (isInstance Value.none (.type "bytes")) (fun r s' => wpAny M A (if (!r) = true then (rule "bytes.__eq__.declined" >>= fun _ => PySem.ret Value.notImplemented) else (do
      let x ← Builtin.Bytes.payload (Value.bytes b t)
      let y ← Builtin.Bytes.payload Value.none
      PySem.ret (Value.bool (Builtin.Bytes.holds "__eq__" (Builtin.Bytes.order x.toList y.toList))))) (fun fin s' => ∃ v, fin = Fin.done (Flow.ret v) ∧ Q v s') E s') E s := by
    refine wpAny_isInstance (show s.TypeIs .none "NoneType" from rfl) PySem.F.sub_NoneType_bytes ?_
    simp only [Bool.not_false, if_true]
    exact wpAny_bind (wpAny_rule (wpAny_pure ⟨_, rfl, hq⟩))
  exact wpAny_bind key
theorem gives_none_eq_bytes (b : Array UInt8) (t : Tok) : Gives (Builtin.«NoneType.__eq__» ⟨[.none, .bytes b t], []⟩) (.val (Value.notImplemented)) :=
  .of_wp fun M A E s Q h => by obtain ⟨hp, g, d, tk, os⟩ := s; wp_walk; exact ⟨_, rfl, h⟩
theorem eq_bytes_none {prog : Program} {w : World} {A : Around} {E : Value → Shared → Prop} {s : Shared} {Q : Value → Shared → Prop} {b : Array UInt8} {t : Tok} (h : Q (.bool false) s) : wpAny (model prog w) A (compareOp .Eq (.bytes b t) .none) Q E s := by
  show wpAny _ A (richCompare .Eq _ _) Q E s
  exact PySem.EqNone.wpAny_richCompare_eq_decline (k := false) (fun s' => typeIs_bytes s' b t) (fun _ => rfl) (by decide) PySem.F.sub_NoneType_bytes FB.slot_bytes_eq PySem.F.slot_NoneType_eq_refl rfl
    (call_gives FB.slot_bytes_eq (typeIs_bytes s b t) FB.entry_bytes_eq (FB.args_bytes_eq_2 _ _) (gives_bytes_eq_none b t)
      ⟨rfl, call_gives PySem.F.slot_NoneType_eq_refl rfl PySem.F.entry_NoneType_eq (PySem.F.args_NoneType_eq_2 _ _) (gives_none_eq_bytes b t) ⟨rfl, h⟩⟩)
def optV : Option Int → Tok → Value
  | none, _ => .none
  | some u, t => .int u t
def optB : Option (Array UInt8) → Tok → Value
  | none, _ => .none
  | some u, t => .bytes u t
def passT (rep : Bool) (r : Int) (T : Array UInt8) : Array UInt8 := if rep && decide (0 < r) then T else rootB
def passU (rep : Bool) (r now : Int) : Option Int := if rep && decide (0 < r) then some (now + r) else none
end
section
section
variable {prog : Program} {w : World} {A₀ A : Around} {s : Shared} {base h₀ : Heap} {outer : List Env} {L : Addr} {m : Str → Option Value} {news : List (Addr × Obj)} {K : Frag} {p : Program} {loose : List Str} {mean : ExcName → Option Value} {mg mb : Str → Option Value}
theorem code_defR {env : Env} {R : Result → Shared → Prop} {name qual : Str} {params : Arguments} {body : List Stmt} {scope : Scope} {dV kV doc pm cdv ct oc : Value} {an od : Option Addr} {osl : Array (Option Value)} {f : Addr} {args : Args} {binds : List (Str × Value)}
    (B : Below A₀ base outer h₀) (F : Fr h₀ L s.heap m) (X₀ : K.In h₀) (N : News h₀ L s.heap news) (T : Top p loose mean mg mb h₀) (hA : A.frames = some (env :: outer)) (hf : env.frame = some L) (hke : env.scope.kind = .function)
    (ho : K.lookup f = some ⟨oc, od, .func (fnOf name qual params body scope dV kV doc pm an cdv ct), osl⟩) (hcd : codeIn K cdv qual = true) (hroom : A.depth < recursionLimit)
    (hbind : BindsTo s (fnOf name qual params body scope dV kV doc pm an cdv ct) args binds) (hloc : ∀ y ∈ binds, scope.names.lookup y.1 = some .local)
    (h : ∀ g L' h₁, g = hideAll s.heap (news.map (·.1)) → Fr h₀ L g m → Fr g L' h₁ (fun y => binds.reverse.lookup y) → News g L' h₁ news → Below A base (env :: outer) g → K.In g → Top p loose mean mg mb g →
      wpAny (model prog w) (A.deeper (envOf qual scope L' f cdv)) (execs body (envOf qual scope L' f cdv))
        (fun fl s' => LeaveK h₀ L m g (fun r s' => g.StaysIn s'.heap → R r s') (match fl with | .ret v => v | _ => .none) s')
        (fun e s' => wpAny (model prog w) (A.deeper (envOf qual scope L' f cdv)) (leaving (envOf qual scope L' f cdv) e) (fun _ s'' => R (.error e) s'') (fun e' s'' => R (.error e') s'') s')
        { s with heap := h₁, toks := s.toks + binds.length })
    (hco : scope.isCoroutine = false) (hgen : scope.isGenerator = false) (hk : scope.kind = .function)
    (hcell : ∀ x ∈ scope.names, x.2 ≠ .cell) : codeAny (model prog w) A (.call (.ref f) args) R s := by
  obtain ⟨FG, BG, st, lv⟩ := groundX (R := R) B F N hA hf hke
  refine codeAny_call_def (fd := fnX name qual params body scope [] dV kV doc pm an cdv ct) (body := body) (binds := binds) hroom ((X₀.keeps F.keep) _ _ ho) rfl (T.nolimit.keeps F.keep) (codeRec_of (X₀.keeps F.keep) hcd) rfl hbind hcell hloc (fun h₁ hns hk₁ => ?_) hco hgen hk
  refine wpAny_mono (h _ s.heap.objs.size h₁ rfl FG ⟨hns, fun b o e => hk₁ b o (of_hideAll _ e), Nat.le_of_eq (hideAll_size _ _)⟩
    (fun p hp => ⟨hk₁ _ _ (N p hp).1, Nat.ne_of_lt (Heap.lt_size (N p hp).1), hideAll_none _ (List.mem_map_of_mem hp)⟩) BG (X₀.keeps st) (T.keeps st)) (fun fl s' hl => lv _ _ ?_) fun _ _ y => y
  obtain ⟨L', m', news', F', N', k⟩ := hl
  exact ⟨L', m', news', F', N', fun a b => k a b F'.keep⟩
end
theorem news_keep {h₀ h h' : Heap} {L : Addr} {news : List (Addr × Obj)} (N : News h₀ L h news) (k : ∀ p ∈ news, h.get? p.1 = some p.2 → h'.get? p.1 = some p.2) : News h₀ L h' news := fun p hp => ⟨k p hp (N p hp).1, (N p hp).2⟩
theorem news_nil {h₀ h : Heap} {L : Addr} : News h₀ L h [] := fun p hp => nomatch hp
theorem news_stay {h₀ h h' : Heap} {L : Addr} {news : List (Addr × Obj)} (N : News h₀ L h news) (k : h.StaysIn h') : News h₀ L h' news := news_keep N fun _ _ e => k _ _ e
theorem hide_nil {h : Heap} {g : Heap} {h' : Heap} (e : g = hideAll h (List.map (·.1) ([] : List (Addr × Obj)))) (k : g.StaysIn h') : h.StaysIn h' := by subst e; exact k
theorem item_push {prog : Program} {w : World} {A : Around} {E : Value → Shared → Prop} {s : Shared} {value slice : PySem.Expr} {l : Addr} {u : Tok} {v : Value} {n : Nat} {Q : Value → Shared → Prop} {g : Heap} {L : Addr} {news : List (Addr × Obj)} (N : News g L s.heap ((l, listOf (#[].push v) n) :: news)) (h : Q v s)
    (hs : subscripted slice false (.ref l) (.int 0 u) = operate [.ref l, .int 0 u] (getItem (.ref l) (.int 0 u))) : wpAny (model prog w) A (subscriptTail value slice (.ref l) (.int 0 u)) Q E s :=
  item_litK (vs := [v]) (show s.heap.IsList l (#[].push v) from News.isList N (List.Mem.head _)) (by decide) (by decide) rfl h hs
section
variable {prog : Program} {w : World} {A : Around} {E : Value → Shared → Prop} {s : Shared} {value slice : PySem.Expr} {b : Array UInt8} {t : Tok} {h₀ : Heap} {L : Addr} {m : PySem.Str → Option Value} {news : List (Addr × Obj)} {l u : Value} {lo hi : Option Int} {Q : Value → Shared → Prop}
theorem slice_e {c : Array UInt8} (hF : Fr h₀ L s.heap m) (hN : News h₀ L s.heap news) (hl : IsPart l lo) (hu : IsPart u hi) (hne : KBy.whole b lo hi = false) (e : KBy.picked b lo hi = c) (hz : c.size ≤ 16777216)
    (h : ∀ h' t' k, Fr h₀ L h' m → News h₀ L h' news → Q (.bytes c t') { s with heap := h', toks := k })
    (hs : subscripted slice false (.bytes b t) (.ref s.heap.objs.size) = operate [.ref s.heap.objs.size, .bytes b t] (getItem (.bytes b t) (.ref s.heap.objs.size)))
    (ht : ∀ r, letTemporaryGo value (.bytes b t) r = pure ()) :
    wpAny (model prog w) A (subscriptTail value slice (.bytes b t) (.ref s.heap.objs.size)) Q E { s with heap := s.heap.push { cls := .type "slice", data := .fields #[l, u, .none] } } := by
  subst e
  exact KBy.slice_N hF hN hl hu hne hz h hs ht
theorem len_b1 {x : UInt8} (h : Q (.int 1 (s.toks + 1)) { s with toks := s.toks + 1 + 1 }) : wpAny (model prog w) A (call (.builtin "len") [.bytes #[x] t]) Q E s := len_bytes (b := #[x]) (Nat.le_of_ble_eq_true rfl) h
theorem len_b3 {x y z : UInt8} (h : Q (.int 3 (s.toks + 1)) { s with toks := s.toks + 1 + 1 }) : wpAny (model prog w) A (call (.builtin "len") [.bytes #[x, y, z] t]) Q E s := len_bytes (b := #[x, y, z]) (Nat.le_of_ble_eq_true rfl) h
theorem item_b0 {y z : UInt8} {u : Tok} (h : Q (.int 67 s.toks) { s with toks := s.toks + 1 })
    (hs : subscripted slice false (.bytes #[67, y, z] t) (.int 0 u) = operate [.bytes #[67, y, z] t, .int 0 u] (getItem (.bytes #[67, y, z] t) (.int 0 u)))
    (ht : ∀ r, letTemporaryGo value (.bytes #[67, y, z] t) r = pure ()) : wpAny (model prog w) A (subscriptTail value slice (.bytes #[67, y, z] t) (.int 0 u)) Q E s :=
  KBy.item_N (x := [67, y, z]) (Nat.le_of_ble_eq_true rfl) (by decide) (show (0 : Int) < 3 by decide) h hs ht
end
theorem pick_a {x y z : UInt8} : KBy.picked #[x, y, z] none (some 1) = #[x] := rfl
theorem pick_b {x y z : UInt8} : KBy.picked #[x, y, z] (some 1) (some 2) = #[y] := rfl
theorem pick_c {x y z : UInt8} : KBy.picked #[x, y, z] (some 2) none = #[z] := by with_unfolding_all rfl
theorem whole_a {x y z : UInt8} : KBy.whole #[x, y, z] none (some 1) = false := rfl
theorem whole_b {x y z : UInt8} : KBy.whole #[x, y, z] (some 1) (some 2) = false := rfl
theorem whole_c {x y z : UInt8} : KBy.whole #[x, y, z] (some 2) none = false := rfl
theorem allLt_tr {d x : Addr} {l : List (Addr × Obj)} (h : ∀ p ∈ l, p.1 < d) (e : d < x) : AllLt x l := allLt_of fun p hp => Nat.lt_trans (h p hp) e
theorem news_rest {h₀ h h' : Heap} {L d : Addr} {W W' rest : List (Addr × Obj)} (N : News h₀ L h W) (R : News h₀ L h rest) (S : (hideAll h (W.map (·.1))).StaysIn h') (N' : News h₀ L h' W') (hk : ∀ p ∈ W, p ∈ W' ∨ p.1 = d) (hoff : ∀ p ∈ rest, p.1 ≠ d) : News h₀ L h' rest := by
  intro p hp
  refine ⟨?_, (R p hp).2⟩
  by_cases hin : p.1 ∈ W.map (·.1)
  · obtain ⟨q, hq, e⟩ := List.mem_map.mp hin
    have h1 := (N q hq).1
    have h2 := (R p hp).1
    rw [e, h2] at h1
    have e2 : q = p := Prod.ext e (Option.some.inj h1).symm
    subst e2
    rcases hk q hq with h3 | h3
    · exact (N' q h3).1
    · exact absurd h3 (hoff q hp)
  · exact S _ _ (hideAll_get _ (R p hp).1 hin)
theorem ground_in {h₀ h : Heap} {L : Addr} {m : Str → Option Value} {W : List (Addr × Obj)} (F : Fr h₀ L h m) (N : News h₀ L h W) : h₀.StaysIn (hideAll h (W.map (·.1))) := fun b o e => hideAll_get _ (F.keep b o e) fun hin => by
  obtain ⟨q, hq, e1⟩ := List.mem_map.mp hin
  rw [← e1, (N q hq).2.2] at e
  cases e
theorem news_ne {h₀ h : Heap} {L a b : Addr} {o o' : Obj} {news : List (Addr × Obj)} (N : News h₀ L h news) (ha : (a, o) ∈ news) (hb : (b, o') ∈ news) (hc : o.cls ≠ o'.cls) : a ≠ b := fun e => hc (by
  have h1 := (N _ ha).1
  have h2 := (N _ hb).1
  simp only at h1 h2
  rw [e, h2] at h1
  exact (congrArg Obj.cls (Option.some.inj h1)).symm)
end
section
local macro_rules | `(tactic| k_room) => `(tactic| ktr_room)
local macro_rules | `(tactic| k_all) => `(tactic| assumption)
local macro_rules | `(tactic| k_inst) => `(tactic| (refine' inst_base ?iF ?ih1 ?ih2; (case iF => k_asm); (case ih1 => assumption); (case ih2 => assumption)))

theorem reg_1 : True := by
  k_with_none
  (k_with "room" => ((with_reducible rename _ + _ < recursionLimit => hR9); first | exact room_k 4 hR9 | exact room_k 37 hR9 | exact room_k 9 hR9 | exact room_k 5 hR9 | exact room_k 14 hR9 | exact room_k 10 hR9 | exact room_k 19 hR9 | exact room_k 15 hR9 | exact room_k 20 hR9 | exact room_k 25 hR9 | exact room_k 35 hR9 | exact room_k 13 hR9 | exact room_k 1 hR9 | exact room_k 38 hR9 | exact room_k 23 hR9 | exact room_k 24 hR9 | exact room_k 29 hR9 | exact room_k 8 hR9 | exact room_k 40 hR9 | exact room_k 39 hR9 | exact room_k 44 hR9 | exact room_k 17 hR9 | exact room_k 21 hR9 | exact room_k 30 hR9 | exact room_k 33 hR9 | exact room_k 16 hR9 | exact room_k 2 hR9 | exact room_k 43 hR9 | exact room_k 7 hR9 | exact room_k 45 hR9 | exact room_k 0 hR9 | exact room_k 3 hR9 | exact room_k 6 hR9 | exact room_k 11 hR9 | exact room_k 12 hR9 | exact room_k 18 hR9 | exact room_k 22 hR9 | exact room_k 26 hR9 | exact room_k 27 hR9 | exact room_k 28 hR9 | exact room_k 31 hR9 | exact room_k 32 hR9 | exact room_k 34 hR9 | exact room_k 36 hR9 | exact room_k 41 hR9 | exact room_k 42 hR9))
  (k_with "units" => ((with_reducible rename _ + _ < cLine => hR9); first | exact room_k 37 hR9 | exact room_k 77 hR9 | exact room_k 117 hR9 | exact room_k 157 hR9 | exact room_k 237 hR9 | exact room_k 197 hR9 | exact room_k 151 hR9 | exact room_k 133 hR9 | exact room_k 277 hR9 | exact room_k 317 hR9 | exact room_k 357 hR9 | exact room_k 4 hR9 | exact room_k 9 hR9 | exact room_k 5 hR9 | exact room_k 14 hR9 | exact room_k 10 hR9 | exact room_k 19 hR9 | exact room_k 15 hR9 | exact room_k 20 hR9 | exact room_k 25 hR9 | exact room_k 35 hR9 | exact room_k 13 hR9 | exact room_k 1 hR9 | exact room_k 38 hR9 | exact room_k 23 hR9 | exact room_k 24 hR9 | exact room_k 29 hR9 | exact room_k 8 hR9 | exact room_k 40 hR9 | exact room_k 39 hR9 | exact room_k 44 hR9 | exact room_k 17 hR9 | exact room_k 21 hR9 | exact room_k 30 hR9 | exact room_k 33 hR9 | exact room_k 16 hR9 | exact room_k 2 hR9 | exact room_k 43 hR9 | exact room_k 7 hR9 | exact room_k 45 hR9))
  (k_with "lt" => (first | with_reducible assumption | exact (by with_reducible assumption : _ ∧ _).1 | exact (by with_reducible assumption : _ ∧ _).2 | exact (by with_reducible assumption : _ ∧ _ ∧ _).2.1 | exact (by with_reducible assumption : _ ∧ _ ∧ _).2.2 | exact (by with_reducible assumption : _ ∧ _ ∧ _ ∧ _).2.2.1 | exact (by with_reducible assumption : _ ∧ _ ∧ _ ∧ _).2.2.2 | exact (by with_reducible assumption : _ ∧ _ ∧ _ ∧ _ ∧ _).2.2.2.1 | exact (by with_reducible assumption : _ ∧ _ ∧ _ ∧ _ ∧ _).2.2.2.2 | exact (by with_reducible assumption : _ ∧ _ ∧ _ ∧ _ ∧ _ ∧ _).2.2.2.2.1 | exact (by with_reducible assumption : _ ∧ _ ∧ _ ∧ _ ∧ _ ∧ _).2.2.2.2.2 | exact (by with_reducible assumption : _ ∧ _ ∧ _ ∧ _ ∧ _ ∧ _ ∧ _).2.2.2.2.2.1 | exact (by with_reducible assumption : _ ∧ _ ∧ _ ∧ _ ∧ _ ∧ _ ∧ _).2.2.2.2.2.2 | exact (by with_reducible assumption : _ ∧ _ ∧ _ ∧ _ ∧ _ ∧ _ ∧ _ ∧ _).2.2.2.2.2.2.1 | exact (by with_reducible assumption : _ ∧ _ ∧ _ ∧ _ ∧ _ ∧ _ ∧ _ ∧ _).2.2.2.2.2.2.2 | exact (by with_reducible assumption : _ ∧ _ ∧ _ ∧ _ ∧ _ ∧ _ ∧ _ ∧ _ ∧ _).2.2.2.2.2.2.2.1 | exact (by with_reducible assumption : _ ∧ _ ∧ _ ∧ _ ∧ _ ∧ _ ∧ _ ∧ _ ∧ _).2.2.2.2.2.2.2.2 | exact (by with_reducible assumption : _ ∧ _ ∧ _ ∧ _ ∧ _ ∧ _ ∧ _ ∧ _ ∧ _ ∧ _).2.2.2.2.2.2.2.2.1 | exact (by with_reducible assumption : _ ∧ _ ∧ _ ∧ _ ∧ _ ∧ _ ∧ _ ∧ _ ∧ _ ∧ _).2.2.2.2.2.2.2.2.2 | exact (by with_reducible assumption : _ ∧ _ ∧ _ ∧ _ ∧ _ ∧ _ ∧ _ ∧ _ ∧ _ ∧ _ ∧ _).2.2.2.2.2.2.2.2.2.1 | exact (by with_reducible assumption : _ ∧ _ ∧ _ ∧ _ ∧ _ ∧ _ ∧ _ ∧ _ ∧ _ ∧ _ ∧ _).2.2.2.2.2.2.2.2.2.2 | exact (by with_reducible assumption : _ ∧ _ ∧ _ ∧ _ ∧ _ ∧ _ ∧ _ ∧ _ ∧ _ ∧ _ ∧ _ ∧ _).2.2.2.2.2.2.2.2.2.2.1 | exact (by with_reducible assumption : _ ∧ _ ∧ _ ∧ _ ∧ _ ∧ _ ∧ _ ∧ _ ∧ _ ∧ _ ∧ _ ∧ _).2.2.2.2.2.2.2.2.2.2.2 | exact (by with_reducible assumption : _ ∧ _ ∧ _ ∧ _ ∧ _ ∧ _ ∧ _ ∧ _ ∧ _ ∧ _ ∧ _ ∧ _ ∧ _).2.2.2.2.2.2.2.2.2.2.2.1 | exact (by with_reducible assumption : _ ∧ _ ∧ _ ∧ _ ∧ _ ∧ _ ∧ _ ∧ _ ∧ _ ∧ _ ∧ _ ∧ _ ∧ _).2.2.2.2.2.2.2.2.2.2.2.2))
  (k_with "ne" => ((refine neN ?_); (try dsimp only); first | (refine Nat.ne_of_lt ?_; k_extra "lt") | (refine Nat.ne_of_gt ?_; k_extra "lt") | omega))
  (k_with "all" => (first | assumption | exact all_nil | (refine' all_cons ?a9Z5 ?b9Z5; (case a9Z5 => k_extra "ne"); (case b9Z5 => k_extra "all"))))
  (k_with "ite" => (k_closed; k_dflt (first | (refine' @ite_pos _ _ _ _ ?h1Z6 ?_; (case h1Z6 => decide); k_whole) | (refine' @ite_neg _ _ _ _ ?h2Z6 ?_; (case h2Z6 => decide); k_whole))))
  (k_with "getAttr ref true" => (k_here; k_dflt (refine' get_own ?k1Z7 ?k2Z7 ?k3Z7 ?k4Z7 ?k5Z7 ?k6Z7 ?k7Z7 ?k8Z7 ?k9Z7 ?_; (case k1Z7 => k_asm); (case k2Z7 => k_asm); (case k3Z7 => k_inst); (case k4Z7 => k_is); (case k5Z7 => k_is); (case k6Z7 => k_is); (case k7Z7 => k_is); (case k8Z7 => k_get); (case k9Z7 => k_handed); k_whole)))
  (k_with "eval Name" => (k_here; name_kind "local"; k_dflt (refine' nameX_L ?FZ8 ?vZ8 ?_ ?aZ8 ?bZ8; (case FZ8 => k_asm); (case aZ8 => rfl); (case bZ8 => rfl); (case vZ8 => rfl); k_whole)))
  (k_with "eval Name" => (k_here; name_kind "globalImplicit"; k_dflt (first | (refine' nameX_K ?FZ9 ?XZ9 ?TZ9 ?eZ9 ?_ ?aZ9 ?bZ9; (case FZ9 => k_asm); (case XZ9 => k_asm); (case TZ9 => k_asm); (case aZ9 => rfl); (case bZ9 => rfl); (case eZ9 => k_is); k_whole) | (refine' nameX_B ?F9Z9 ?X9Z9 ?T9Z9 ?e9Z9 ?v9Z9 ?n9Z9 ?_ ?a9Z9 ?b9Z9; (case F9Z9 => k_asm); (case X9Z9 => k_asm); (case T9Z9 => k_asm); (case a9Z9 => rfl); (case b9Z9 => rfl); (case e9Z9 => k_is); (case v9Z9 => boot_fast); (case n9Z9 => decide); k_whole))))
  (k_with "callWith ref cons nil" => (k_here; k_dflt (first | (refine' callWith_K ?k1Z10 ?k2Z10 ?_; (case k1Z10 => k_asm); (case k2Z10 => k_is); k_whole) | (refine' callWith_K0 ?k3Z10 ?k4Z10 ?_; (case k3Z10 => first | with_reducible assumption | (refine' Frag.In.keeps ?x8Z10 (Fr.keep ?f8Z10); (case f8Z10 => with_reducible assumption); (case x8Z10 => with_reducible assumption)) | k_in); (case k4Z10 => k_is); k_whole) | (refine' callWith_M0 ?k5Z10 ?k6Z10 ?_; (case k5Z10 => k_meth); (case k6Z10 => k_is); k_whole; try dsimp only [List.nil_append, List.cons_append]))))
  (k_with "exec While Constant cons nil" => (k_here; k_dflt (refine whl_start 100 ?_)))
  (k_with "call builtin:list.append cons nil" => (k_here; (with_reducible show wpAny _ _ (call (Value.builtin _) [Value.ref _, _]) _ _ _); k_dflt (refine' append_K ?k1Z12 ?k2Z12 ?k3Z12 ?_ ?zZ12; (case k1Z12 => k_asm); (case k2Z12 => k_asm); (case k3Z12 => k_upd); (case zZ12 => first | size_fits | k_extra "size9"); k_whole); intro h' F' N'; (try k_sweep)))
  (k_with "compareOp In" => (k_here; (with_reducible show wpAny _ _ (compareOp CmpOp.In (Value.bytes _ _) (Value.ref _)) _ _ _); k_dflt (refine' md_in (md_at ?FZ13 ?DZ13) ?lZ13 (bk_is _ _ _ _) ?vZ13 ?_; (case FZ13 => k_asm); (case DZ13 => assumption); (case lZ13 => assumption); (case vZ13 => assumption); k_whole)))
  (k_with "subscriptTail" => (k_here; (with_reducible show wpAny _ _ (subscriptTail _ _ (Value.ref _) (Value.bytes _ _)) _ _ _); k_dflt (refine' md_item (md_at ?FZ14 ?DZ14) (bk_is _ _ _ _) ?vZ14 ?_; (case FZ14 => k_asm); (case DZ14 => assumption); (case vZ14 => assumption); k_whole)))
  (k_with "getMethod ref" => (k_here; (with_reducible show wpAny _ _ (getMethod (Value.ref _) (Str.ofString "get") _) _ _ _); k_dflt (refine' md_getm (knd := bytesKind _ _) (md_at ?FZ15 ?DZ15) ?_; (case FZ15 => k_asm); (case DZ15 => assumption); k_whole)))
  (k_with "call builtin:dict.get" => (k_here; k_dflt (first | ((with_reducible show wpAny _ _ (call (Value.builtin "dict.get") [Value.ref _, Value.bytes _ _]) _ _ _); refine' md_get1 (md_at ?FZ16 ?DZ16) ?lZ16 (bk_is _ _ _ _) ?vZ16 ?_; (case FZ16 => k_asm); (case DZ16 => assumption); (case lZ16 => assumption); (case vZ16 => assumption); k_whole) | ((with_reducible show wpAny _ _ (call (Value.builtin "dict.get") [Value.ref _, Value.bytes _ _, _]) _ _ _); refine' md_get2 (md_at ?FZ16 ?DZ16) ?lZ16 (bk_is _ _ _ _) ?vZ16 ?_; (case FZ16 => k_asm); (case DZ16 => assumption); (case lZ16 => assumption); (case vZ16 => assumption); k_whole)); (try dsimp only [Option.getD])))
  (k_with "compareOp Eq bytes none" => with_reducible refine eq_bytes_none ?_)
  trivial



theorem reset_l {w mean mg mb dp un gd cn cs a ccd cl outer A₀ base h₀ L m} {s : Shared} {Q E : Value → Shared → Prop} {st sd : Addr} {c : Hd} {tb T M U : Value} {rest : List (Addr × Obj)}
  (am : Amb 5 40 w mean mg mb dp un cs outer A₀ base h₀ L m s.heap) (hne : st ≠ sd) (N : News h₀ L s.heap ((st, instObj 838 sd) :: (sd, stObj c tb T M U) :: rest)) (hoff : ∀ p ∈ rest, p.1 ≠ sd)
  (hret : ∀ h' tk' t, Fr h₀ L h' m → News h₀ L h' ((st, instObj 838 sd) :: (sd, stObj c tb (.bytes rootB t) M .none) :: rest) → Q .none { s with heap := h', toks := tk' }) :
  wpAny (model PySem.Challenge.rw_og0286_01.row.prog w) (ktrTop dp un gd cn cs L a ccd cl outer) (call (.ref 779) [.ref st]) Q E s := by
  obtain ⟨B, F, X, T, hk, hd, hu⟩ := am
  revert X; k_fill; intro X
  refine wpAny_call ?_
  k_dflt cell_enter
  repeat' (first | (k_unfold; (try dsimp only)) | (k_end; wrow_close) | (walk1 <;> (try dsimp only)) | (leave1; walk_say "STEP leave1"; try dsimp only) | fail "no step")
  all_goals (first | exact hret _ _ _ (by assumption) (by assumption) | w_report)

theorem switch_l {w mean mg mb dp un gd cn cs a ccd cl outer A₀ base h₀ L m} {s : Shared} {Q E : Value → Shared → Prop} {st sd : Addr} {c : Hd} {tb T M U V : Value} {rest : List (Addr × Obj)}
  (am : Amb 5 40 w mean mg mb dp un cs outer A₀ base h₀ L m s.heap) (hne : st ≠ sd) (N : News h₀ L s.heap ((st, instObj 838 sd) :: (sd, stObj c tb T M U) :: rest)) (hoff : ∀ p ∈ rest, p.1 ≠ sd)
  (hret : ∀ h' tk', Fr h₀ L h' m → News h₀ L h' ((st, instObj 838 sd) :: (sd, stObj c tb V M .none) :: rest) → Q .none { s with heap := h', toks := tk' }) :
  wpAny (model PySem.Challenge.rw_og0286_01.row.prog w) (ktrTop dp un gd cn cs L a ccd cl outer) (call (.ref 786) [.ref st, V]) Q E s := by
  obtain ⟨B, F, X, T, hk, hd, hu⟩ := am
  revert X; k_fill; intro X
  refine wpAny_call ?_
  k_dflt cell_enter
  repeat' (first | (k_unfold; (try dsimp only)) | (k_end; wrow_close) | (walk1 <;> (try dsimp only)) | (leave1; walk_say "STEP leave1"; try dsimp only) | fail "no step")
  all_goals (first | exact hret _ _ (by assumption) (by assumption) | w_report)

theorem set_mode_l {w mean mg mb dp un gd cn cs a ccd cl outer A₀ base h₀ L m} {s : Shared} {Q E : Value → Shared → Prop} {st sd : Addr} {c : Hd} {tb T M U V : Value} {rest : List (Addr × Obj)}
  (am : Amb 5 40 w mean mg mb dp un cs outer A₀ base h₀ L m s.heap) (hne : st ≠ sd) (N : News h₀ L s.heap ((st, instObj 838 sd) :: (sd, stObj c tb T M U) :: rest)) (hoff : ∀ p ∈ rest, p.1 ≠ sd)
  (hret : ∀ h' tk', Fr h₀ L h' m → News h₀ L h' ((st, instObj 838 sd) :: (sd, stObj c tb T V U) :: rest) → Q .none { s with heap := h', toks := tk' }) :
  wpAny (model PySem.Challenge.rw_og0286_01.row.prog w) (ktrTop dp un gd cn cs L a ccd cl outer) (call (.ref 793) [.ref st, V]) Q E s := by
  obtain ⟨B, F, X, T, hk, hd, hu⟩ := am
  revert X; k_fill; intro X
  refine wpAny_call ?_
  k_dflt cell_enter
  repeat' (first | (k_unfold; (try dsimp only)) | (k_end; wrow_close) | (walk1 <;> (try dsimp only)) | (leave1; walk_say "STEP leave1"; try dsimp only) | fail "no step")
  all_goals (first | exact hret _ _ (by assumption) (by assumption) | w_report)

theorem expire_none {w mean mg mb dp un gd cn cs a ccd cl outer A₀ base h₀ L m} {s : Shared} {Q E : Value → Shared → Prop} {st sd : Addr} {c : Hd} {tb T M : Value} {now : Int} {tn : Tok} {rest : List (Addr × Obj)}
  (am : Amb 10 80 w mean mg mb dp un cs outer A₀ base h₀ L m s.heap) (hne : st ≠ sd) (N : News h₀ L s.heap ((st, instObj 838 sd) :: (sd, stObj c tb T M .none) :: rest)) (hoff : ∀ p ∈ rest, p.1 ≠ sd)
  (hret : ∀ h' tk', Fr h₀ L h' m → News h₀ L h' ((st, instObj 838 sd) :: (sd, stObj c tb T M .none) :: rest) → Q .none { s with heap := h', toks := tk' }) :
  wpAny (model PySem.Challenge.rw_og0286_01.row.prog w) (ktrTop dp un gd cn cs L a ccd cl outer) (call (.ref 807) [.ref st, .int now tn]) Q E s := by
  obtain ⟨B, F, X, T, hk, hd, hu⟩ := am
  revert X; k_fill; intro X
  refine wpAny_call ?_
  k_dflt cell_enter
  repeat' (first | (k_unfold; (try dsimp only)) | (k_end; wrow_close) | (walk1 <;> (try dsimp only)) | (leave1; walk_say "STEP leave1"; try dsimp only) | fail "no step")
  all_goals (first | exact hret _ _ (by assumption) (by assumption) | w_report)

theorem expire_live {w mean mg mb dp un gd cn cs a ccd cl outer A₀ base h₀ L m} {s : Shared} {Q E : Value → Shared → Prop} {st sd : Addr} {c : Hd} {tb T M : Value} {now u : Int} {tn tu : Tok} {rest : List (Addr × Obj)}
  (am : Amb 10 80 w mean mg mb dp un cs outer A₀ base h₀ L m s.heap) (hne : st ≠ sd) (N : News h₀ L s.heap ((st, instObj 838 sd) :: (sd, stObj c tb T M (.int u tu)) :: rest)) (hoff : ∀ p ∈ rest, p.1 ≠ sd) (hlt : now < u)
  (hret : ∀ h' tk', Fr h₀ L h' m → News h₀ L h' ((st, instObj 838 sd) :: (sd, stObj c tb T M (.int u tu)) :: rest) → Q .none { s with heap := h', toks := tk' }) :
  wpAny (model PySem.Challenge.rw_og0286_01.row.prog w) (ktrTop dp un gd cn cs L a ccd cl outer) (call (.ref 807) [.ref st, .int now tn]) Q E s := by
  obtain ⟨B, F, X, T, hk, hd, hu⟩ := am
  revert X; k_fill; intro X
  refine wpAny_call ?_
  k_dflt cell_enter
  repeat' (first | (k_unfold; (try dsimp only)) | (k_end; wrow_close) | (walk1 <;> (try dsimp only)) | (leave1; walk_say "STEP leave1"; try dsimp only) | fail "no step")
  all_goals (first | exact hret _ _ (by assumption) (by assumption) | w_report)

theorem expire_due {w mean mg mb dp un gd cn cs a ccd cl outer A₀ base h₀ L m} {s : Shared} {Q E : Value → Shared → Prop} {st sd : Addr} {c : Hd} {tb T M : Value} {now u : Int} {tn tu : Tok} {rest : List (Addr × Obj)}
  (am : Amb 10 80 w mean mg mb dp un cs outer A₀ base h₀ L m s.heap) (hne : st ≠ sd) (N : News h₀ L s.heap ((st, instObj 838 sd) :: (sd, stObj c tb T M (.int u tu)) :: rest)) (hoff : ∀ p ∈ rest, p.1 ≠ sd) (hlt : u ≤ now)
  (hret : ∀ h' tk' t, Fr h₀ L h' m → News h₀ L h' ((st, instObj 838 sd) :: (sd, stObj c tb (.bytes rootB t) M .none) :: rest) → Q .none { s with heap := h', toks := tk' }) :
  wpAny (model PySem.Challenge.rw_og0286_01.row.prog w) (ktrTop dp un gd cn cs L a ccd cl outer) (call (.ref 807) [.ref st, .int now tn]) Q E s := by
  obtain ⟨B, F, X, T, hk, hd, hu⟩ := am
  revert X; k_fill; intro X
  refine wpAny_call ?_
  k_dflt cell_enter
  repeat' (first | (k_unfold; (try dsimp only)) | (k_end; wrow_close) | (walk1 <;> (try dsimp only)) | (leave1; walk_say "STEP leave1"; try dsimp only) | fail "no step")
  all_goals (first | exact hret _ _ _ (by assumption) (by assumption) | w_report)

theorem here_root {w mean mg mb dp un gd cn cs a ccd cl outer A₀ base h₀ L m} {s : Shared} {Q E : Value → Shared → Prop} {st sd : Addr} {c : Hd} {tb U : Value} {M : Array UInt8} {tM tT : Tok} {rest : List (Addr × Obj)}
  (am : Amb 5 40 w mean mg mb dp un cs outer A₀ base h₀ L m s.heap) (hne : st ≠ sd) (N : News h₀ L s.heap ((st, instObj 838 sd) :: (sd, stObj c tb (.bytes rootB tT) (.bytes M tM) U) :: rest)) (hoff : ∀ p ∈ rest, p.1 ≠ sd)
  (hret : ∀ h' tk', Fr h₀ L h' m → News h₀ L h' ((st, instObj 838 sd) :: (sd, stObj c tb (.bytes rootB tT) (.bytes M tM) U) :: rest) → Q (.bytes M tM) { s with heap := h', toks := tk' }) :
  wpAny (model PySem.Challenge.rw_og0286_01.row.prog w) (ktrTop dp un gd cn cs L a ccd cl outer) (call (.ref 814) [.ref st]) Q E s := by
  obtain ⟨B, F, X, T, hk, hd, hu⟩ := am
  revert X; k_fill; intro X
  refine wpAny_call ?_
  k_dflt cell_enter
  repeat' (first | (k_unfold; (try dsimp only)) | (k_end; wrow_close) | (walk1 <;> (try dsimp only)) | (leave1; walk_say "STEP leave1"; try dsimp only) | fail "no step")
  all_goals (first | exact hret _ _ (by assumption) (by assumption) | w_report)

theorem here_none {w mean mg mb dp un gd cn cs a ccd cl outer A₀ base h₀ L m} {s : Shared} {Q E : Value → Shared → Prop} {st sd : Addr} {c : Hd} {tb U : Value} {tT : Tok} {rest : List (Addr × Obj)}
  (am : Amb 5 40 w mean mg mb dp un cs outer A₀ base h₀ L m s.heap) (hne : st ≠ sd) (N : News h₀ L s.heap ((st, instObj 838 sd) :: (sd, stObj c tb (.bytes rootB tT) .none U) :: rest)) (hoff : ∀ p ∈ rest, p.1 ≠ sd)
  (hret : ∀ h' tk', Fr h₀ L h' m → News h₀ L h' ((st, instObj 838 sd) :: (sd, stObj c tb (.bytes rootB tT) .none U) :: rest) → Q (.bytes rootB tT) { s with heap := h', toks := tk' }) :
  wpAny (model PySem.Challenge.rw_og0286_01.row.prog w) (ktrTop dp un gd cn cs L a ccd cl outer) (call (.ref 814) [.ref st]) Q E s := by
  obtain ⟨B, F, X, T, hk, hd, hu⟩ := am
  revert X; k_fill; intro X
  refine wpAny_call ?_
  k_dflt cell_enter
  repeat' (first | (k_unfold; (try dsimp only)) | (k_end; wrow_close) | (walk1 <;> (try dsimp only)) | (leave1; walk_say "STEP leave1"; try dsimp only) | fail "no step")
  all_goals (first | exact hret _ _ (by assumption) (by assumption) | w_report)

theorem here_else {w mean mg mb dp un gd cn cs a ccd cl outer A₀ base h₀ L m} {s : Shared} {Q E : Value → Shared → Prop} {st sd : Addr} {c : Hd} {tb M U : Value} {T : Array UInt8} {tT : Tok} {rest : List (Addr × Obj)}
  (am : Amb 5 40 w mean mg mb dp un cs outer A₀ base h₀ L m s.heap) (hne : st ≠ sd) (N : News h₀ L s.heap ((st, instObj 838 sd) :: (sd, stObj c tb (.bytes T tT) M U) :: rest)) (hoff : ∀ p ∈ rest, p.1 ≠ sd) (hT : (T.toList == rootB.toList) = false)
  (hret : ∀ h' tk', Fr h₀ L h' m → News h₀ L h' ((st, instObj 838 sd) :: (sd, stObj c tb (.bytes T tT) M U) :: rest) → Q (.bytes T tT) { s with heap := h', toks := tk' }) :
  wpAny (model PySem.Challenge.rw_og0286_01.row.prog w) (ktrTop dp un gd cn cs L a ccd cl outer) (call (.ref 814) [.ref st]) Q E s := by
  obtain ⟨B, F, X, T, hk, hd, hu⟩ := am
  revert X; k_fill; intro X
  refine wpAny_call ?_
  k_dflt cell_enter
  repeat' (first | (k_unfold; (try dsimp only)) | (k_end; wrow_close) | (walk1 <;> (try dsimp only)) | (leave1; walk_say "STEP leave1"; try dsimp only) | fail "no step")
  all_goals (first | exact hret _ _ (by assumption) (by assumption) | w_report)

theorem passed_no {w mean mg mb dp un gd cn cs a ccd cl outer A₀ base h₀ L m} {s : Shared} {Q E : Value → Shared → Prop} {st sd : Addr} {c : Hd} {T M U : Value} {tb td mk lt : Addr} {c5 : H5} {pre sec : Value} {r : Int} {tr : Tok} {b bd : Addr} {cb : Hd} {key told note : Value} {rep : Bool} {now : Int} {tn : Tok} {rest : List (Addr × Obj)}
  (am : Amb 10 80 w mean mg mb dp un cs outer A₀ base h₀ L m s.heap) (hne : st ≠ sd) (N : News h₀ L s.heap ((st, instObj 838 sd) :: (sd, stObj c (.ref tb) T M U) :: rest)) (hoff : ∀ p ∈ rest, p.1 ≠ sd)
  (hb1 : h₀.get? tb = some (instObj 754 td)) (hb2 : h₀.get? td = some (tbObj c5 mk lt pre sec (.int r tr))) (hb3 : h₀.get? b = some (instObj 655 bd)) (hb4 : h₀.get? bd = some (bdObj cb key told (.bool rep) note)) (hrep : (rep = false))
  (hret : ∀ h' tk' t1, Fr h₀ L h' m → News h₀ L h' ((st, instObj 838 sd) :: (sd, stObj c (.ref tb) (.bytes rootB t1) M .none) :: rest) → Q .none { s with heap := h', toks := tk' }) :
  wpAny (model PySem.Challenge.rw_og0286_01.row.prog w) (ktrTop dp un gd cn cs L a ccd cl outer) (call (.ref 835) [.ref st, .ref b, .int now tn]) Q E s := by
  subst hrep
  obtain ⟨B, F, X, T, hk, hd, hu⟩ := am
  revert X; k_fill; intro X
  refine wpAny_call ?_
  k_dflt cell_enter
  rename (Fr h₀ L _ m) => FG
  have hb1g := FG.keep _ _ hb1
  have hb2g := FG.keep _ _ hb2
  have hb3g := FG.keep _ _ hb3
  have hb4g := FG.keep _ _ hb4
  repeat' (first | (k_unfold; (try dsimp only)) | (k_end; wrow_close) | (walk1 <;> (try dsimp only)) | (leave1; walk_say "STEP leave1"; try dsimp only) | fail "no step")
  all_goals (first | exact hret _ _ _ (by assumption) (by assumption) | w_report)

theorem passed_yes {w mean mg mb dp un gd cn cs a ccd cl outer A₀ base h₀ L m} {s : Shared} {Q E : Value → Shared → Prop} {st sd : Addr} {c : Hd} {T M U : Value} {tb td mk lt : Addr} {c5 : H5} {pre sec : Value} {r : Int} {tr : Tok} {b bd : Addr} {cb : Hd} {key told note : Value} {rep : Bool} {now : Int} {tn : Tok} {rest : List (Addr × Obj)}
  (am : Amb 10 80 w mean mg mb dp un cs outer A₀ base h₀ L m s.heap) (hne : st ≠ sd) (N : News h₀ L s.heap ((st, instObj 838 sd) :: (sd, stObj c (.ref tb) T M U) :: rest)) (hoff : ∀ p ∈ rest, p.1 ≠ sd)
  (hb1 : h₀.get? tb = some (instObj 754 td)) (hb2 : h₀.get? td = some (tbObj c5 mk lt pre sec (.int r tr))) (hb3 : h₀.get? b = some (instObj 655 bd)) (hb4 : h₀.get? bd = some (bdObj cb key told (.bool rep) note)) (hrep : (rep = true ∧ 0 < r))
  (hret : ∀ h' tk' t1, Fr h₀ L h' m → News h₀ L h' ((st, instObj 838 sd) :: (sd, stObj c (.ref tb) T M (.int (now + r) t1)) :: rest) → Q .none { s with heap := h', toks := tk' }) :
  wpAny (model PySem.Challenge.rw_og0286_01.row.prog w) (ktrTop dp un gd cn cs L a ccd cl outer) (call (.ref 835) [.ref st, .ref b, .int now tn]) Q E s := by
  obtain ⟨hr1, hr2⟩ := hrep; subst hr1
  obtain ⟨B, F, X, T, hk, hd, hu⟩ := am
  revert X; k_fill; intro X
  refine wpAny_call ?_
  k_dflt cell_enter
  rename (Fr h₀ L _ m) => FG
  have hb1g := FG.keep _ _ hb1
  have hb2g := FG.keep _ _ hb2
  have hb3g := FG.keep _ _ hb3
  have hb4g := FG.keep _ _ hb4
  repeat' (first | (k_unfold; (try dsimp only)) | (k_end; wrow_close) | (walk1 <;> (try dsimp only)) | (leave1; walk_say "STEP leave1"; try dsimp only) | fail "no step")
  all_goals (first | exact hret _ _ _ (by assumption) (by assumption) | w_report)

theorem passed_off {w mean mg mb dp un gd cn cs a ccd cl outer A₀ base h₀ L m} {s : Shared} {Q E : Value → Shared → Prop} {st sd : Addr} {c : Hd} {T M U : Value} {tb td mk lt : Addr} {c5 : H5} {pre sec : Value} {r : Int} {tr : Tok} {b bd : Addr} {cb : Hd} {key told note : Value} {rep : Bool} {now : Int} {tn : Tok} {rest : List (Addr × Obj)}
  (am : Amb 10 80 w mean mg mb dp un cs outer A₀ base h₀ L m s.heap) (hne : st ≠ sd) (N : News h₀ L s.heap ((st, instObj 838 sd) :: (sd, stObj c (.ref tb) T M U) :: rest)) (hoff : ∀ p ∈ rest, p.1 ≠ sd)
  (hb1 : h₀.get? tb = some (instObj 754 td)) (hb2 : h₀.get? td = some (tbObj c5 mk lt pre sec (.int r tr))) (hb3 : h₀.get? b = some (instObj 655 bd)) (hb4 : h₀.get? bd = some (bdObj cb key told (.bool rep) note)) (hrep : (rep = true ∧ ¬ 0 < r))
  (hret : ∀ h' tk' t1, Fr h₀ L h' m → News h₀ L h' ((st, instObj 838 sd) :: (sd, stObj c (.ref tb) (.bytes rootB t1) M .none) :: rest) → Q .none { s with heap := h', toks := tk' }) :
  wpAny (model PySem.Challenge.rw_og0286_01.row.prog w) (ktrTop dp un gd cn cs L a ccd cl outer) (call (.ref 835) [.ref st, .ref b, .int now tn]) Q E s := by
  obtain ⟨hr1, hr2⟩ := hrep; subst hr1
  obtain ⟨B, F, X, T, hk, hd, hu⟩ := am
  revert X; k_fill; intro X
  refine wpAny_call ?_
  k_dflt cell_enter
  rename (Fr h₀ L _ m) => FG
  have hb1g := FG.keep _ _ hb1
  have hb2g := FG.keep _ _ hb2
  have hb3g := FG.keep _ _ hb3
  have hb4g := FG.keep _ _ hb4
  repeat' (first | (k_unfold; (try dsimp only)) | (k_end; wrow_close) | (walk1 <;> (try dsimp only)) | (leave1; walk_say "STEP leave1"; try dsimp only) | fail "no step")
  all_goals (first | exact hret _ _ _ (by assumption) (by assumption) | w_report)

theorem is_prefix_1 {w mean mg mb dp un gd cn cs a ccd cl outer A₀ base h₀ L m} {s : Shared} {Q E : Value → Shared → Prop} {tb td mk lt : Addr} {c5 : H5} {P W : Array UInt8} {tP tW : Tok} {sec : Value} {r : Int} {tr : Tok} {rest : List (Addr × Obj)}
  (am : Amb 5 40 w mean mg mb dp un cs outer A₀ base h₀ L m s.heap) (N : News h₀ L s.heap rest) (hb1 : h₀.get? tb = some (instObj 754 td)) (hb2 : h₀.get? td = some (tbObj c5 mk lt (.bytes P tP) sec (.int r tr))) (hW : (W.toList == P.toList) = true)
  (hret : ∀ h' tk', Fr h₀ L h' m → News h₀ L h' rest → Q (.bool true) { s with heap := h', toks := tk' }) :
  wpAny (model PySem.Challenge.rw_og0286_01.row.prog w) (ktrTop dp un gd cn cs L a ccd cl outer) (call (.ref 718) [.ref tb, .bytes W tW]) Q E s := by
  obtain ⟨B, F, X, T, hk, hd, hu⟩ := am
  revert X; k_fill; intro X
  refine wpAny_call ?_
  k_dflt cell_enter
  rename (Fr h₀ L _ m) => FG
  have hb1g := FG.keep _ _ hb1
  have hb2g := FG.keep _ _ hb2
  repeat' (first | (k_unfold; (try dsimp only)) | (k_end; wrow_close) | (walk1 <;> (try dsimp only)) | (leave1; walk_say "STEP leave1"; try dsimp only) | fail "no step")
  all_goals (first | (first | exact hret _ _ (by assumption) (by assumption) | (simp only [hW]; exact hret _ _ (by assumption) (by assumption))) | w_report)

theorem is_prefix_2 {w mean mg mb dp un gd cn cs a ccd cl outer A₀ base h₀ L m} {s : Shared} {Q E : Value → Shared → Prop} {tb td mk lt : Addr} {c5 : H5} {P W : Array UInt8} {tP tW : Tok} {r : Int} {tr : Tok} {rest : List (Addr × Obj)}
  (am : Amb 5 40 w mean mg mb dp un cs outer A₀ base h₀ L m s.heap) (N : News h₀ L s.heap rest) (hb1 : h₀.get? tb = some (instObj 754 td)) (hb2 : h₀.get? td = some (tbObj c5 mk lt (.bytes P tP) .none (.int r tr))) (hW : (W.toList == P.toList) = false)
  (hret : ∀ h' tk', Fr h₀ L h' m → News h₀ L h' rest → Q (.bool false) { s with heap := h', toks := tk' }) :
  wpAny (model PySem.Challenge.rw_og0286_01.row.prog w) (ktrTop dp un gd cn cs L a ccd cl outer) (call (.ref 718) [.ref tb, .bytes W tW]) Q E s := by
  obtain ⟨B, F, X, T, hk, hd, hu⟩ := am
  revert X; k_fill; intro X
  refine wpAny_call ?_
  k_dflt cell_enter
  rename (Fr h₀ L _ m) => FG
  have hb1g := FG.keep _ _ hb1
  have hb2g := FG.keep _ _ hb2
  repeat' (first | (k_unfold; (try dsimp only)) | (k_end; wrow_close) | (walk1 <;> (try dsimp only)) | (leave1; walk_say "STEP leave1"; try dsimp only) | fail "no step")
  all_goals (first | (first | exact hret _ _ (by assumption) (by assumption) | (simp only [hW]; exact hret _ _ (by assumption) (by assumption))) | w_report)

theorem is_prefix_3 {w mean mg mb dp un gd cn cs a ccd cl outer A₀ base h₀ L m} {s : Shared} {Q E : Value → Shared → Prop} {tb td mk lt : Addr} {c5 : H5} {P S W : Array UInt8} {tP tS tW : Tok} {z : Bool} {r : Int} {tr : Tok} {rest : List (Addr × Obj)}
  (am : Amb 5 40 w mean mg mb dp un cs outer A₀ base h₀ L m s.heap) (N : News h₀ L s.heap rest) (hb1 : h₀.get? tb = some (instObj 754 td)) (hb2 : h₀.get? td = some (tbObj c5 mk lt (.bytes P tP) (.bytes S tS) (.int r tr))) (hW : (W.toList == P.toList) = false) (hS : (W.toList == S.toList) = z)
  (hret : ∀ h' tk', Fr h₀ L h' m → News h₀ L h' rest → Q (.bool z) { s with heap := h', toks := tk' }) :
  wpAny (model PySem.Challenge.rw_og0286_01.row.prog w) (ktrTop dp un gd cn cs L a ccd cl outer) (call (.ref 718) [.ref tb, .bytes W tW]) Q E s := by
  obtain ⟨B, F, X, T, hk, hd, hu⟩ := am
  revert X; k_fill; intro X
  refine wpAny_call ?_
  k_dflt cell_enter
  rename (Fr h₀ L _ m) => FG
  have hb1g := FG.keep _ _ hb1
  have hb2g := FG.keep _ _ hb2
  repeat' (first | (k_unfold; (try dsimp only)) | (k_end; wrow_close) | (walk1 <;> (try dsimp only)) | (leave1; walk_say "STEP leave1"; try dsimp only) | fail "no step")
  all_goals (first | (first | exact hret _ _ (by assumption) (by assumption) | (subst hS; exact hret _ _ (by assumption) (by assumption))) | w_report)

theorem table_l {w mean mg mb dp un gd cn cs a ccd cl outer A₀ base h₀ L m} {s : Shared} {Q E : Value → Shared → Prop} {tb td mk lt : Addr} {c5 : H5} {pre sec : Value} {r : Int} {tr : Tok} {rd : Addr} {mkvs : List (List UInt8 × Value)} {T : Array UInt8} {tT : Tok} {rest : List (Addr × Obj)}
  (am : Amb 5 40 w mean mg mb dp un cs outer A₀ base h₀ L m s.heap) (N : News h₀ L s.heap rest) (hb1 : h₀.get? tb = some (instObj 754 td)) (hb2 : h₀.get? td = some (tbObj c5 mk lt pre sec (.int r tr))) (hl1 : h₀.DictOf (bytesKind PySem.Challenge.rw_og0286_01.row.prog w) lt []) (lo1 : (lt == sysModules) = false) (hl2 : h₀.DictOf (bytesKind PySem.Challenge.rw_og0286_01.row.prog w) mk mkvs) (lo2 : (mk == sysModules) = false) (hv1 : valueAt mkvs T.toList = some (.ref rd))
  (hret : ∀ h' tk', Fr h₀ L h' m → News h₀ L h' rest → Q (.ref rd) { s with heap := h', toks := tk' }) :
  wpAny (model PySem.Challenge.rw_og0286_01.row.prog w) (ktrTop dp un gd cn cs L a ccd cl outer) (call (.ref 681) [.ref tb, .bytes T tT]) Q E s := by
  have hv0 : valueAt ([] : List (List UInt8 × Value)) T.toList = none := rfl
  obtain ⟨B, F, X, T, hk, hd, hu⟩ := am
  revert X; k_fill; intro X
  refine wpAny_call ?_
  k_dflt cell_enter
  rename (Fr h₀ L _ m) => FG
  have hb1g := FG.keep _ _ hb1
  have hb2g := FG.keep _ _ hb2
  have hl1g := hl1.keep FG.keep
  have hl2g := hl2.keep FG.keep
  repeat' (first | (k_unfold; (try dsimp only)) | (k_end; wrow_close) | (walk1 <;> (try dsimp only)) | (leave1; walk_say "STEP leave1"; try dsimp only) | fail "no step")
  all_goals (first | exact hret _ _ (by assumption) (cb_drop (by assumption) (fun p hp => by first | exact hp | (simp only [List.mem_cons]; simp [hp]))) | w_report)


theorem reg_2 : True := by
  (k_with "call ref" => (k_here; (with_reducible show wpAny _ _ (call (Value.ref 681) _ _) _ _ _); k_dflt (refine' table_l ?amZ18 ?NZ18 ?b1Z18 ?b2Z18 ?d1Z18 ?l1Z18 ?d2Z18 ?l2Z18 ?v1Z18 ?_; (case amZ18 => (refine' Amb.mk ?aBZ18 ?aFZ18 ?aXZ18 ?aTZ18 ?akZ18 ?adZ18 ?auZ18; (case aBZ18 => k_asm); (case aFZ18 => k_asm); (case aXZ18 => k_asm); (case aTZ18 => k_asm); (case akZ18 => first | exact rfl | assumption); (case adZ18 => ktr_room); (case auZ18 => ktr_units))); (case NZ18 => k_asm); (case b1Z18 => assumption); (case b2Z18 => assumption); (case d1Z18 => assumption); (case l1Z18 => assumption); (case d2Z18 => assumption); (case l2Z18 => assumption); (case v1Z18 => assumption); k_whole; intro h9 tk9 F9 N9; (try dsimp only); (try k_fold))))
  trivial


theorem find_here {w mean mg mb dp un gd cn cs a ccd cl outer A₀ base h₀ L m} {s : Shared} {Q E : Value → Shared → Prop} {tb td mk lt : Addr} {c5 : H5} {pre sec : Value} {r : Int} {tr : Tok} {rd : Addr} {mkvs kvs : List (List UInt8 × Value)} {T W : Array UInt8} {tT tW : Tok} {v : Value} {rest : List (Addr × Obj)}
  (am : Amb 10 80 w mean mg mb dp un cs outer A₀ base h₀ L m s.heap) (N : News h₀ L s.heap rest) (hb1 : h₀.get? tb = some (instObj 754 td)) (hb2 : h₀.get? td = some (tbObj c5 mk lt pre sec (.int r tr))) (hl1 : h₀.DictOf (bytesKind PySem.Challenge.rw_og0286_01.row.prog w) lt []) (lo1 : (lt == sysModules) = false) (hl2 : h₀.DictOf (bytesKind PySem.Challenge.rw_og0286_01.row.prog w) mk mkvs) (lo2 : (mk == sysModules) = false) (hl3 : h₀.DictOf (bytesKind PySem.Challenge.rw_og0286_01.row.prog w) rd kvs) (lo3 : (rd == sysModules) = false) (hv1 : valueAt mkvs T.toList = some (.ref rd)) (hv2 : valueAt kvs W.toList = some v)
  (hret : ∀ h' tk', Fr h₀ L h' m → News h₀ L h' rest → Q v { s with heap := h', toks := tk' }) :
  wpAny (model PySem.Challenge.rw_og0286_01.row.prog w) (ktrTop dp un gd cn cs L a ccd cl outer) (call (.ref 725) [.ref tb, .bytes T tT, .bytes W tW]) Q E s := by
  obtain ⟨B, F, X, T, hk, hd, hu⟩ := am
  revert X; k_fill; intro X
  refine wpAny_call ?_
  k_dflt cell_enter
  rename (Fr h₀ L _ m) => FG
  have hb1g := FG.keep _ _ hb1
  have hb2g := FG.keep _ _ hb2
  have hl1g := hl1.keep FG.keep
  have hl2g := hl2.keep FG.keep
  have hl3g := hl3.keep FG.keep
  repeat' (first | (k_unfold; (try dsimp only)) | (k_end; wrow_close) | (walk1 <;> (try dsimp only)) | (leave1; walk_say "STEP leave1"; try dsimp only) | fail "no step")
  all_goals (first | exact hret _ _ (by assumption) (cb_drop (by assumption) (fun p hp => by first | exact hp | (simp only [List.mem_cons]; simp [hp]))) | w_report)

theorem find_any {w mean mg mb dp un gd cn cs a ccd cl outer A₀ base h₀ L m} {s : Shared} {Q E : Value → Shared → Prop} {tb td mk lt : Addr} {c5 : H5} {pre sec : Value} {r : Int} {tr : Tok} {rd : Addr} {mkvs kvs : List (List UInt8 × Value)} {T W : Array UInt8} {tT tW : Tok} {v : Value} {rest : List (Addr × Obj)}
  (am : Amb 10 80 w mean mg mb dp un cs outer A₀ base h₀ L m s.heap) (N : News h₀ L s.heap rest) (hb1 : h₀.get? tb = some (instObj 754 td)) (hb2 : h₀.get? td = some (tbObj c5 mk lt pre sec (.int r tr))) (hl1 : h₀.DictOf (bytesKind PySem.Challenge.rw_og0286_01.row.prog w) lt []) (lo1 : (lt == sysModules) = false) (hl2 : h₀.DictOf (bytesKind PySem.Challenge.rw_og0286_01.row.prog w) mk mkvs) (lo2 : (mk == sysModules) = false) (hl3 : h₀.DictOf (bytesKind PySem.Challenge.rw_og0286_01.row.prog w) rd kvs) (lo3 : (rd == sysModules) = false) (hv1 : valueAt mkvs T.toList = some (.ref rd)) (hv2 : valueAt kvs W.toList = none) (hv3 : valueAt kvs anyB.toList = some v)
  (hret : ∀ h' tk', Fr h₀ L h' m → News h₀ L h' rest → Q v { s with heap := h', toks := tk' }) :
  wpAny (model PySem.Challenge.rw_og0286_01.row.prog w) (ktrTop dp un gd cn cs L a ccd cl outer) (call (.ref 725) [.ref tb, .bytes T tT, .bytes W tW]) Q E s := by
  obtain ⟨B, F, X, T, hk, hd, hu⟩ := am
  revert X; k_fill; intro X
  refine wpAny_call ?_
  k_dflt cell_enter
  rename (Fr h₀ L _ m) => FG
  have hb1g := FG.keep _ _ hb1
  have hb2g := FG.keep _ _ hb2
  have hl1g := hl1.keep FG.keep
  have hl2g := hl2.keep FG.keep
  have hl3g := hl3.keep FG.keep
  repeat' (first | (k_unfold; (try dsimp only)) | (k_end; wrow_close) | (walk1 <;> (try dsimp only)) | (leave1; walk_say "STEP leave1"; try dsimp only) | fail "no step")
  all_goals (first | exact hret _ _ (by assumption) (cb_drop (by assumption) (fun p hp => by first | exact hp | (simp only [List.mem_cons]; simp [hp]))) | w_report)

theorem find_none {w mean mg mb dp un gd cn cs a ccd cl outer A₀ base h₀ L m} {s : Shared} {Q E : Value → Shared → Prop} {tb td mk lt : Addr} {c5 : H5} {pre sec : Value} {r : Int} {tr : Tok} {rd : Addr} {mkvs kvs : List (List UInt8 × Value)} {T W : Array UInt8} {tT tW : Tok} {v : Value} {rest : List (Addr × Obj)}
  (am : Amb 10 80 w mean mg mb dp un cs outer A₀ base h₀ L m s.heap) (N : News h₀ L s.heap rest) (hb1 : h₀.get? tb = some (instObj 754 td)) (hb2 : h₀.get? td = some (tbObj c5 mk lt pre sec (.int r tr))) (hl1 : h₀.DictOf (bytesKind PySem.Challenge.rw_og0286_01.row.prog w) lt []) (lo1 : (lt == sysModules) = false) (hl2 : h₀.DictOf (bytesKind PySem.Challenge.rw_og0286_01.row.prog w) mk mkvs) (lo2 : (mk == sysModules) = false) (hl3 : h₀.DictOf (bytesKind PySem.Challenge.rw_og0286_01.row.prog w) rd kvs) (lo3 : (rd == sysModules) = false) (hv1 : valueAt mkvs T.toList = some (.ref rd)) (hv2 : valueAt kvs W.toList = none) (hv3 : valueAt kvs anyB.toList = none)
  (hret : ∀ h' tk', Fr h₀ L h' m → News h₀ L h' rest → Q .none { s with heap := h', toks := tk' }) :
  wpAny (model PySem.Challenge.rw_og0286_01.row.prog w) (ktrTop dp un gd cn cs L a ccd cl outer) (call (.ref 725) [.ref tb, .bytes T tT, .bytes W tW]) Q E s := by
  obtain ⟨B, F, X, T, hk, hd, hu⟩ := am
  revert X; k_fill; intro X
  refine wpAny_call ?_
  k_dflt cell_enter
  rename (Fr h₀ L _ m) => FG
  have hb1g := FG.keep _ _ hb1
  have hb2g := FG.keep _ _ hb2
  have hl1g := hl1.keep FG.keep
  have hl2g := hl2.keep FG.keep
  have hl3g := hl3.keep FG.keep
  repeat' (first | (k_unfold; (try dsimp only)) | (k_end; wrow_close) | (walk1 <;> (try dsimp only)) | (leave1; walk_say "STEP leave1"; try dsimp only) | fail "no step")
  all_goals (first | exact hret _ _ (by assumption) (cb_drop (by assumption) (fun p hp => by first | exact hp | (simp only [List.mem_cons]; simp [hp]))) | w_report)
end
section
local macro_rules | `(tactic| k_room) => `(tactic| ktr_room)
local macro_rules | `(tactic| k_all) => `(tactic| assumption)
local macro_rules | `(tactic| k_inst) => `(tactic| (refine' inst_base ?iF ?ih1 ?ih2; (case iF => k_asm); (case ih1 => k_asm); (case ih2 => k_asm)))

theorem reg_3 : True := by
  k_with_none
  (k_with "room" => ((with_reducible rename _ + _ < recursionLimit => hR9); first | exact room_k 4 hR9 | exact room_k 37 hR9 | exact room_k 9 hR9 | exact room_k 5 hR9 | exact room_k 14 hR9 | exact room_k 10 hR9 | exact room_k 19 hR9 | exact room_k 15 hR9 | exact room_k 20 hR9 | exact room_k 25 hR9 | exact room_k 35 hR9 | exact room_k 13 hR9 | exact room_k 1 hR9 | exact room_k 38 hR9 | exact room_k 23 hR9 | exact room_k 24 hR9 | exact room_k 29 hR9 | exact room_k 8 hR9 | exact room_k 40 hR9 | exact room_k 39 hR9 | exact room_k 44 hR9 | exact room_k 17 hR9 | exact room_k 21 hR9 | exact room_k 30 hR9 | exact room_k 33 hR9 | exact room_k 16 hR9 | exact room_k 2 hR9 | exact room_k 43 hR9 | exact room_k 7 hR9 | exact room_k 45 hR9 | exact room_k 0 hR9 | exact room_k 3 hR9 | exact room_k 6 hR9 | exact room_k 11 hR9 | exact room_k 12 hR9 | exact room_k 18 hR9 | exact room_k 22 hR9 | exact room_k 26 hR9 | exact room_k 27 hR9 | exact room_k 28 hR9 | exact room_k 31 hR9 | exact room_k 32 hR9 | exact room_k 34 hR9 | exact room_k 36 hR9 | exact room_k 41 hR9 | exact room_k 42 hR9))
  (k_with "units" => ((with_reducible rename _ + _ < cLine => hR9); first | exact room_k 37 hR9 | exact room_k 77 hR9 | exact room_k 117 hR9 | exact room_k 157 hR9 | exact room_k 237 hR9 | exact room_k 197 hR9 | exact room_k 151 hR9 | exact room_k 133 hR9 | exact room_k 277 hR9 | exact room_k 317 hR9 | exact room_k 357 hR9 | exact room_k 4 hR9 | exact room_k 9 hR9 | exact room_k 5 hR9 | exact room_k 14 hR9 | exact room_k 10 hR9 | exact room_k 19 hR9 | exact room_k 15 hR9 | exact room_k 20 hR9 | exact room_k 25 hR9 | exact room_k 35 hR9 | exact room_k 13 hR9 | exact room_k 1 hR9 | exact room_k 38 hR9 | exact room_k 23 hR9 | exact room_k 24 hR9 | exact room_k 29 hR9 | exact room_k 8 hR9 | exact room_k 40 hR9 | exact room_k 39 hR9 | exact room_k 44 hR9 | exact room_k 17 hR9 | exact room_k 21 hR9 | exact room_k 30 hR9 | exact room_k 33 hR9 | exact room_k 16 hR9 | exact room_k 2 hR9 | exact room_k 43 hR9 | exact room_k 7 hR9 | exact room_k 45 hR9))
  (k_with "lt" => (first | with_reducible assumption | exact (by with_reducible assumption : _ ∧ _).1 | exact (by with_reducible assumption : _ ∧ _).2 | exact (by with_reducible assumption : _ ∧ _ ∧ _).2.1 | exact (by with_reducible assumption : _ ∧ _ ∧ _).2.2 | exact (by with_reducible assumption : _ ∧ _ ∧ _ ∧ _).2.2.1 | exact (by with_reducible assumption : _ ∧ _ ∧ _ ∧ _).2.2.2 | exact (by with_reducible assumption : _ ∧ _ ∧ _ ∧ _ ∧ _).2.2.2.1 | exact (by with_reducible assumption : _ ∧ _ ∧ _ ∧ _ ∧ _).2.2.2.2 | exact (by with_reducible assumption : _ ∧ _ ∧ _ ∧ _ ∧ _ ∧ _).2.2.2.2.1 | exact (by with_reducible assumption : _ ∧ _ ∧ _ ∧ _ ∧ _ ∧ _).2.2.2.2.2 | exact (by with_reducible assumption : _ ∧ _ ∧ _ ∧ _ ∧ _ ∧ _ ∧ _).2.2.2.2.2.1 | exact (by with_reducible assumption : _ ∧ _ ∧ _ ∧ _ ∧ _ ∧ _ ∧ _).2.2.2.2.2.2 | exact (by with_reducible assumption : _ ∧ _ ∧ _ ∧ _ ∧ _ ∧ _ ∧ _ ∧ _).2.2.2.2.2.2.1 | exact (by with_reducible assumption : _ ∧ _ ∧ _ ∧ _ ∧ _ ∧ _ ∧ _ ∧ _).2.2.2.2.2.2.2 | exact (by with_reducible assumption : _ ∧ _ ∧ _ ∧ _ ∧ _ ∧ _ ∧ _ ∧ _ ∧ _).2.2.2.2.2.2.2.1 | exact (by with_reducible assumption : _ ∧ _ ∧ _ ∧ _ ∧ _ ∧ _ ∧ _ ∧ _ ∧ _).2.2.2.2.2.2.2.2 | exact (by with_reducible assumption : _ ∧ _ ∧ _ ∧ _ ∧ _ ∧ _ ∧ _ ∧ _ ∧ _ ∧ _).2.2.2.2.2.2.2.2.1 | exact (by with_reducible assumption : _ ∧ _ ∧ _ ∧ _ ∧ _ ∧ _ ∧ _ ∧ _ ∧ _ ∧ _).2.2.2.2.2.2.2.2.2 | exact (by with_reducible assumption : _ ∧ _ ∧ _ ∧ _ ∧ _ ∧ _ ∧ _ ∧ _ ∧ _ ∧ _ ∧ _).2.2.2.2.2.2.2.2.2.1 | exact (by with_reducible assumption : _ ∧ _ ∧ _ ∧ _ ∧ _ ∧ _ ∧ _ ∧ _ ∧ _ ∧ _ ∧ _).2.2.2.2.2.2.2.2.2.2 | exact (by with_reducible assumption : _ ∧ _ ∧ _ ∧ _ ∧ _ ∧ _ ∧ _ ∧ _ ∧ _ ∧ _ ∧ _ ∧ _).2.2.2.2.2.2.2.2.2.2.1 | exact (by with_reducible assumption : _ ∧ _ ∧ _ ∧ _ ∧ _ ∧ _ ∧ _ ∧ _ ∧ _ ∧ _ ∧ _ ∧ _).2.2.2.2.2.2.2.2.2.2.2 | exact (by with_reducible assumption : _ ∧ _ ∧ _ ∧ _ ∧ _ ∧ _ ∧ _ ∧ _ ∧ _ ∧ _ ∧ _ ∧ _ ∧ _).2.2.2.2.2.2.2.2.2.2.2.1 | exact (by with_reducible assumption : _ ∧ _ ∧ _ ∧ _ ∧ _ ∧ _ ∧ _ ∧ _ ∧ _ ∧ _ ∧ _ ∧ _ ∧ _).2.2.2.2.2.2.2.2.2.2.2.2))
  (k_with "ne" => ((refine neN ?_); (try dsimp only); first | (refine Nat.ne_of_lt ?_; k_extra "lt") | (refine Nat.ne_of_gt ?_; k_extra "lt") | omega))
  (k_with "all" => (first | assumption | exact all_nil | (refine' all_cons ?a9Z5 ?b9Z5; (case a9Z5 => k_extra "ne"); (case b9Z5 => k_extra "all"))))
  (k_with "ite" => (k_closed; k_dflt (first | (refine' @ite_pos _ _ _ _ ?h1Z6 ?_; (case h1Z6 => decide); k_whole) | (refine' @ite_neg _ _ _ _ ?h2Z6 ?_; (case h2Z6 => decide); k_whole))))
  (k_with "getAttr ref true" => (k_here; k_dflt (refine' get_own ?k1Z7 ?k2Z7 ?k3Z7 ?k4Z7 ?k5Z7 ?k6Z7 ?k7Z7 ?k8Z7 ?k9Z7 ?_; (case k1Z7 => k_asm); (case k2Z7 => k_asm); (case k3Z7 => k_inst); (case k4Z7 => k_is); (case k5Z7 => k_is); (case k6Z7 => k_is); (case k7Z7 => k_is); (case k8Z7 => k_get); (case k9Z7 => k_handed); k_whole)))
  (k_with "eval Name" => (k_here; name_kind "local"; k_dflt (refine' nameX_L ?FZ8 ?vZ8 ?_ ?aZ8 ?bZ8; (case FZ8 => k_asm); (case aZ8 => rfl); (case bZ8 => rfl); (case vZ8 => rfl); k_whole)))
  (k_with "eval Name" => (k_here; name_kind "globalImplicit"; k_dflt (first | (refine' nameX_K ?FZ9 ?XZ9 ?TZ9 ?eZ9 ?_ ?aZ9 ?bZ9; (case FZ9 => k_asm); (case XZ9 => k_asm); (case TZ9 => k_asm); (case aZ9 => rfl); (case bZ9 => rfl); (case eZ9 => k_is); k_whole) | (refine' nameX_B ?F9Z9 ?X9Z9 ?T9Z9 ?e9Z9 ?v9Z9 ?n9Z9 ?_ ?a9Z9 ?b9Z9; (case F9Z9 => k_asm); (case X9Z9 => k_asm); (case T9Z9 => k_asm); (case a9Z9 => rfl); (case b9Z9 => rfl); (case e9Z9 => k_is); (case v9Z9 => boot_fast); (case n9Z9 => decide); k_whole))))
  (k_with "callWith ref cons nil" => (k_here; k_dflt (first | (refine' callWith_K ?k1Z10 ?k2Z10 ?_; (case k1Z10 => k_asm); (case k2Z10 => k_is); k_whole) | (refine' callWith_K0 ?k3Z10 ?k4Z10 ?_; (case k3Z10 => first | with_reducible assumption | (refine' Frag.In.keeps ?x8Z10 (Fr.keep ?f8Z10); (case f8Z10 => with_reducible assumption); (case x8Z10 => with_reducible assumption)) | k_in); (case k4Z10 => k_is); k_whole) | (refine' callWith_M0 ?k5Z10 ?k6Z10 ?_; (case k5Z10 => k_meth); (case k6Z10 => k_is); k_whole; try dsimp only [List.nil_append, List.cons_append]))))
  (k_with "exec While Constant cons nil" => (k_here; k_dflt (refine whl_start 100 ?_)))
  (k_with "call builtin:list.append cons nil" => (k_here; (with_reducible show wpAny _ _ (call (Value.builtin _) [Value.ref _, _]) _ _ _); k_dflt (refine' append_K ?k1Z12 ?k2Z12 ?k3Z12 ?_ ?zZ12; (case k1Z12 => k_asm); (case k2Z12 => k_asm); (case k3Z12 => k_upd); (case zZ12 => first | size_fits | k_extra "size9"); k_whole); intro h' F' N'; (try k_sweep)))
  (k_with "compareOp In" => (k_here; (with_reducible show wpAny _ _ (compareOp CmpOp.In (Value.bytes _ _) (Value.ref _)) _ _ _); k_dflt (refine' md_in (md_at ?FZ19 ?DZ19) ?lZ19 (bk_is _ _ _ _) ?vZ19 ?_; (case FZ19 => k_asm); (case DZ19 => k_asm); (case lZ19 => k_asm); (case vZ19 => k_asm); k_whole)))
  (k_with "subscriptTail" => (k_here; (with_reducible show wpAny _ _ (subscriptTail _ _ (Value.ref _) (Value.bytes _ _)) _ _ _); k_dflt (refine' md_item (md_at ?FZ20 ?DZ20) (bk_is _ _ _ _) ?vZ20 ?_; (case FZ20 => k_asm); (case DZ20 => k_asm); (case vZ20 => k_asm); k_whole)))
  (k_with "getMethod ref" => (k_here; (with_reducible show wpAny _ _ (getMethod (Value.ref _) (Str.ofString "get") _) _ _ _); k_dflt (refine' md_getm (knd := bytesKind _ _) (md_at ?FZ21 ?DZ21) ?_; (case FZ21 => k_asm); (case DZ21 => k_asm); k_whole)))
  (k_with "call builtin:dict.get" => (k_here; k_dflt (first | ((with_reducible show wpAny _ _ (call (Value.builtin "dict.get") [Value.ref _, Value.bytes _ _]) _ _ _); refine' md_get1 (md_at ?FZ22 ?DZ22) ?lZ22 (bk_is _ _ _ _) ?vZ22 ?_; (case FZ22 => k_asm); (case DZ22 => k_asm); (case lZ22 => k_asm); (case vZ22 => k_asm); k_whole) | ((with_reducible show wpAny _ _ (call (Value.builtin "dict.get") [Value.ref _, Value.bytes _ _, _]) _ _ _); refine' md_get2 (md_at ?FZ22 ?DZ22) ?lZ22 (bk_is _ _ _ _) ?vZ22 ?_; (case FZ22 => k_asm); (case DZ22 => k_asm); (case lZ22 => k_asm); (case vZ22 => k_asm); k_whole)); (try dsimp only [Option.getD])))
  (k_with "compareOp Eq bytes none" => with_reducible refine eq_bytes_none ?_)
  trivial



theorem sub_cons {l n : List (Addr × Obj)} {x : Addr × Obj} (h : x ∈ n) (k : ∀ p ∈ l, p ∈ n) : ∀ p ∈ x :: l, p ∈ n := List.forall_mem_cons.mpr ⟨h, k⟩
theorem sub_skip {l n : List (Addr × Obj)} {x : Addr × Obj} (k : ∀ p ∈ l, p ∈ n) : ∀ p ∈ l, p ∈ x :: n := fun p hp => List.mem_cons_of_mem _ (k p hp)
theorem news_app {h₀ h : Heap} {L : Addr} {a b : List (Addr × Obj)} (A : News h₀ L h a) (B : News h₀ L h b) : News h₀ L h (a ++ b) := fun p hp => (List.mem_append.mp hp).elim (A p) (B p)
def BindAt (h : Heap) (b : Addr) (told : Value) (rep : Bool) : Prop := ∃ bd cb key note, h.get? b = some (instObj 655 bd) ∧ h.get? bd = some (bdObj cb key told (.bool rep) note)
inductive FindO (h : Heap) : Option Value → Option (Addr × Value × Bool) → Prop
  | no : FindO h none none
  | yes {b : Addr} {told : Value} {rep : Bool} : BindAt h b told rep → FindO h (some (.ref b)) (some (b, told, rep))
theorem FindO.keep {h g : Heap} {v : Option Value} {f : Option (Addr × Value × Bool)} (x : FindO h v f) (k : ∀ b o, h.get? b = some o → g.get? b = some o) : FindO g v f := by
  cases x with
  | no => exact .no
  | yes y => obtain ⟨bd, cb, key, note, a, b⟩ := y; exact .yes ⟨bd, cb, key, note, k _ _ a, k _ _ b⟩
def fval (kvs : List (List UInt8 × Value)) (W : List UInt8) : Option Value := (valueAt kvs W).or (valueAt kvs anyB.toList)
inductive Res where
  | nil
  | run (b : Addr)
  | send
inductive ResIs (k : Value) : Res → Addr → List (Addr × Obj) → Prop
  | nil {r : Addr} {n : Nat} : ResIs k .nil r [(r, listOf #[] n)]
  | run {r t b : Addr} {n n' : Nat} {tk : Tok} : ResIs k (.run b) r [(r, listOf #[.ref t] n), (t, tupObj [.str (Str.ofString "run") tk, .ref b] n')]
  | send {r t : Addr} {n n' : Nat} {tk : Tok} : ResIs k .send r [(r, listOf #[.ref t] n), (t, tupObj [.str (Str.ofString "send") tk, k] n')]
def stepOne (P : Bool) (f1 f0 : Option (Addr × Value × Bool)) (rr : Int) (T : Array UInt8) (M : Option (Array UInt8)) (U : Option Int) (now : Int) : Array UInt8 × Option Int × Res :=
  if P && T != prefB then (prefB, none, .nil) else
  let home : Array UInt8 × Option Int × Res :=
    if (if T == rootB then M.getD T else T) == rootB && U.isNone then (T, U, .send) else
    if P then (prefB, none, .nil) else
    match f0 with
    | some (b, _, rep) => (passT rep rr rootB, passU rep rr now, .run b)
    | none => (rootB, none, if U.isSome then .send else .nil)
  match f1 with
  | some (b, _, rep) => if U.isSome && !rep then home else (passT rep rr T, passU rep rr now, .run b)
  | none => home
theorem whlpost_ret {prog : Program} {w : World} {A : Around} {E : Value → Shared → Prop} {env : Env} {test : PySem.Expr} {body orelse : List Stmt} {Q : Flow → Shared → Prop} {k : Nat} {v : Value} {s : Shared} (h : Q (.ret v) s) : WhlPost prog w A E env test body orelse Q k (.ret v) s := h
section
variable {P : Bool} {f1 f0 : Option (Addr × Value × Bool)} {r now : Int} {T : Array UInt8} {M : Option (Array UInt8)} {U : Option Int} {b : Addr} {told : Value} {rep : Bool}
def atRoot (T : Array UInt8) (M : Option (Array UInt8)) (U : Option Int) : Bool := (if T == rootB then M.getD T else T) == rootB && U.isNone
theorem so_pref (hP : P = true) (hT : (T != prefB) = true) : stepOne P f1 f0 r T M U now = (prefB, none, .nil) := by
  unfold stepOne; rw [hP, hT]; rfl
theorem so_run1 (hP : P = false ∨ (T != prefB) = false) (h1 : f1 = some (b, told, rep)) (hU : U = none ∨ rep = true) : stepOne P f1 f0 r T M U now = (passT rep r T, passU rep r now, .run b) := by
  have e : (P && T != prefB) = false := by rcases hP with h | h <;> simp [h]
  have e2 : (U.isSome && !rep) = false := by rcases hU with h | h <;> simp [h]
  unfold stepOne; rw [e, h1]; simp [e2]
theorem so_home (hP : P = false ∨ (T != prefB) = false) (h1 : f1 = none ∨ (f1 = some (b, told, rep) ∧ U.isSome = true ∧ rep = false)) :
    stepOne P f1 f0 r T M U now = (if atRoot T M U then (T, U, .send) else if P then (prefB, none, .nil) else
    match f0 with
    | some (b, _, rep) => (passT rep r rootB, passU rep r now, .run b)
    | none => (rootB, none, if U.isSome then .send else .nil)) := by
  have e : (P && T != prefB) = false := by rcases hP with h | h <;> simp [h]
  rcases h1 with h | ⟨h, hu, hr⟩
  · unfold stepOne; rw [e, h]; rfl
  · unfold stepOne; rw [e, h, hu, hr]; rfl
theorem so_send1 (hP : P = false) (h1 : f1 = none) (hr : atRoot T M U = true) : stepOne P f1 f0 r T M U now = (T, U, .send) := by
  rw [so_home (b := 0) (told := .none) (rep := false) (.inl hP) (.inl h1), hr]; rfl
theorem so_hpref (hT : (T != prefB) = false) (hP : P = true) (h1 : f1 = none ∨ (f1 = some (b, told, rep) ∧ U.isSome = true ∧ rep = false)) (hr : atRoot T M U = false) : stepOne P f1 f0 r T M U now = (prefB, none, .nil) := by
  rw [so_home (.inr hT) h1, hr, hP]; rfl
theorem so_run0 {b' : Addr} {told' : Value} {rep' : Bool} (hP : P = false) (h1 : f1 = none ∨ (f1 = some (b, told, rep) ∧ U.isSome = true ∧ rep = false)) (hr : atRoot T M U = false) (h0 : f0 = some (b', told', rep')) :
    stepOne P f1 f0 r T M U now = (passT rep' r rootB, passU rep' r now, .run b') := by
  rw [so_home (.inl hP) h1, hr, hP, h0]; rfl
theorem so_nil0 (hP : P = false) (h1 : f1 = none ∨ (f1 = some (b, told, rep) ∧ U.isSome = true ∧ rep = false)) (hr : atRoot T M U = false) (h0 : f0 = none) (hU : U.isSome = false) :
    stepOne P f1 f0 r T M U now = (rootB, none, .nil) := by
  rw [so_home (.inl hP) h1, hr, hP, h0, hU]; rfl
theorem so_send0 (hP : P = false) (h1 : f1 = none ∨ (f1 = some (b, told, rep) ∧ U.isSome = true ∧ rep = false)) (hr : atRoot T M U = false) (h0 : f0 = none) (hU : U.isSome = true) :
    stepOne P f1 f0 r T M U now = (rootB, none, .send) := by
  rw [so_home (.inl hP) h1, hr, hP, h0, hU]; rfl
end
theorem all1 {r : Addr} {o : Obj} {l : List (Addr × Obj)} (h : AllLt r l) : ∀ q ∈ [(r, o)], AllLt q.1 l := fun q hq => by rw [List.mem_singleton.mp hq]; exact h
theorem all2 {r t : Addr} {o o' : Obj} {l : List (Addr × Obj)} (h : AllLt r l) (h' : AllLt t l) : ∀ q ∈ [(r, o), (t, o')], AllLt q.1 l := fun q hq => by
  rcases List.mem_cons.mp hq with rfl | hq
  · exact h
  · rw [List.mem_singleton.mp hq]; exact h'


def ExpIs (w : World) (T0 U0 : Value) (now : Int) (tn : Tok) (c : Hd) (tbv M : Value) (st sd : Addr) (T : Tok → Value) (U : Value) : Prop :=
  ∀ {mean mg mb dp un gd cn cs a ccd cl outer A₀ base h₀ L m} {s : Shared} {Q E : Value → Shared → Prop} {rest : List (Addr × Obj)}, Amb 10 80 w mean mg mb dp un cs outer A₀ base h₀ L m s.heap → st ≠ sd →
    News h₀ L s.heap ((st, instObj 838 sd) :: (sd, stObj c tbv T0 M U0) :: rest) → (∀ p ∈ rest, p.1 ≠ sd) →
    (∀ h' tk' t, Fr h₀ L h' m → News h₀ L h' ((st, instObj 838 sd) :: (sd, stObj c tbv (T t) M U) :: rest) → Q .none { s with heap := h', toks := tk' }) →
    wpAny (model PySem.Challenge.rw_og0286_01.row.prog w) (ktrTop dp un gd cn cs L a ccd cl outer) (call (.ref 807) [.ref st, .int now tn]) Q E s
theorem exp_use {w mean mg mb dp un gd cn cs a ccd cl outer A₀ base h₀ L m} {s : Shared} {Q E : Value → Shared → Prop} {T0 U0 now tn c tbv M st sd T U} (h : ExpIs w T0 U0 now tn c tbv M st sd T U) {rest : List (Addr × Obj)} (am : Amb 10 80 w mean mg mb dp un cs outer A₀ base h₀ L m s.heap) (hne : st ≠ sd)
    (N : News h₀ L s.heap ((st, instObj 838 sd) :: (sd, stObj c tbv T0 M U0) :: rest)) (hoff : ∀ p ∈ rest, p.1 ≠ sd)
    (hret : ∀ h' tk' t, Fr h₀ L h' m → News h₀ L h' ((st, instObj 838 sd) :: (sd, stObj c tbv (T t) M U) :: rest) → Q .none { s with heap := h', toks := tk' }) :
    wpAny (model PySem.Challenge.rw_og0286_01.row.prog w) (ktrTop dp un gd cn cs L a ccd cl outer) (call (.ref 807) [.ref st, .int now tn]) Q E s := h am hne N hoff hret
theorem exp_none {w now tn c tbv M st sd T} : ExpIs w T .none now tn c tbv M st sd (fun _ => T) .none := fun am hne N hoff hret => expire_none am hne N hoff fun h' tk' F N => hret h' tk' 0 F N
theorem exp_live {w now tn c tbv M st sd T} {u : Int} {tu : Tok} (hl : now < u) : ExpIs w T (.int u tu) now tn c tbv M st sd (fun _ => T) (.int u tu) := fun am hne N hoff hret => expire_live am hne N hoff hl fun h' tk' F N => hret h' tk' 0 F N
theorem exp_due {w now tn c tbv M st sd T} {u : Int} {tu : Tok} (hl : u ≤ now) : ExpIs w T (.int u tu) now tn c tbv M st sd (fun t => .bytes rootB t) .none := fun am hne N hoff hret => expire_due am hne N hoff hl hret
def KeyWordIs (w : World) (k : Addr) (need : List (Addr × Obj)) (W : Array UInt8) : Prop :=
  ∀ {mean mg mb dp un gd cn cs a ccd cl outer A₀ base h₀ L m} {s : Shared} {Q E : Value → Shared → Prop} {rest : List (Addr × Obj)}, Amb 10 80 w mean mg mb dp un cs outer A₀ base h₀ L m s.heap →
    News h₀ L s.heap rest → (∀ p ∈ need, p ∈ rest) → (∀ h' tk' t, Fr h₀ L h' m → News h₀ L h' rest → Q (.bytes W t) { s with heap := h', toks := tk' }) →
    wpAny (model PySem.Challenge.rw_og0286_01.row.prog w) (ktrTop dp un gd cn cs L a ccd cl outer) (call (.ref 328) [.ref k]) Q E s
theorem kw_use {w mean mg mb dp un gd cn cs a ccd cl outer A₀ base h₀ L m} {s : Shared} {Q E : Value → Shared → Prop} {k need W} (h : KeyWordIs w k need W) {rest : List (Addr × Obj)} (am : Amb 10 80 w mean mg mb dp un cs outer A₀ base h₀ L m s.heap) (N : News h₀ L s.heap rest) (hn : ∀ p ∈ need, p ∈ rest)
    (hret : ∀ h' tk' t, Fr h₀ L h' m → News h₀ L h' rest → Q (.bytes W t) { s with heap := h', toks := tk' }) :
    wpAny (model PySem.Challenge.rw_og0286_01.row.prog w) (ktrTop dp un gd cn cs L a ccd cl outer) (call (.ref 328) [.ref k]) Q E s := h am N hn hret
def prefP (Pb : Array UInt8) (S : Option (Array UInt8)) (W : Array UInt8) : Bool := (W.toList == Pb.toList) || (match S with | some x => W.toList == x.toList | none => false)
theorem is_prefix_g {w mean mg mb dp un gd cn cs a ccd cl outer A₀ base h₀ L m} {s : Shared} {Q E : Value → Shared → Prop} {tb td mk lt : Addr} {c5 : H5} {Pb W : Array UInt8} {S : Option (Array UInt8)} {tP tS tW : Tok} {r : Int} {tr : Tok} {rest : List (Addr × Obj)} {P : Bool}
  (am : Amb 5 40 w mean mg mb dp un cs outer A₀ base h₀ L m s.heap) (N : News h₀ L s.heap rest) (hb1 : h₀.get? tb = some (instObj 754 td)) (hb2 : h₀.get? td = some (tbObj c5 mk lt (.bytes Pb tP) (optB S tS) (.int r tr))) (hP : prefP Pb S W = P)
  (hret : ∀ h' tk', Fr h₀ L h' m → News h₀ L h' rest → Q (.bool P) { s with heap := h', toks := tk' }) :
  wpAny (model PySem.Challenge.rw_og0286_01.row.prog w) (ktrTop dp un gd cn cs L a ccd cl outer) (call (.ref 718) [.ref tb, .bytes W tW]) Q E s := by
  subst hP
  cases h1 : (W.toList == Pb.toList) with
  | true => exact is_prefix_1 am N hb1 hb2 h1 (by simpa [prefP, h1] using hret)
  | false =>
    cases S with
    | none => exact is_prefix_2 am N hb1 hb2 h1 (by simpa [prefP, h1] using hret)
    | some x => exact is_prefix_3 am N hb1 hb2 h1 rfl (by simpa [prefP, h1] using hret)
theorem passed_g {w mean mg mb dp un gd cn cs a ccd cl outer A₀ base h₀ L m} {s : Shared} {Q E : Value → Shared → Prop} {st sd : Addr} {c : Hd} {M U : Value} {T : Array UInt8} {tT : Tok} {tb td mk lt : Addr} {c5 : H5} {pre sec : Value} {r : Int} {tr : Tok} {b bd : Addr} {cb : Hd} {key told note : Value} {rep : Bool} {now : Int} {tn : Tok} {rest : List (Addr × Obj)}
  (am : Amb 10 80 w mean mg mb dp un cs outer A₀ base h₀ L m s.heap) (hne : st ≠ sd) (N : News h₀ L s.heap ((st, instObj 838 sd) :: (sd, stObj c (.ref tb) (.bytes T tT) M U) :: rest)) (hoff : ∀ p ∈ rest, p.1 ≠ sd)
  (hb1 : h₀.get? tb = some (instObj 754 td)) (hb2 : h₀.get? td = some (tbObj c5 mk lt pre sec (.int r tr))) (hb3 : h₀.get? b = some (instObj 655 bd)) (hb4 : h₀.get? bd = some (bdObj cb key told (.bool rep) note))
  (hret : ∀ h' tk' t1 t2, Fr h₀ L h' m → News h₀ L h' ((st, instObj 838 sd) :: (sd, stObj c (.ref tb) (.bytes (passT rep r T) t1) M (optV (passU rep r now) t2)) :: rest) → Q .none { s with heap := h', toks := tk' }) :
  wpAny (model PySem.Challenge.rw_og0286_01.row.prog w) (ktrTop dp un gd cn cs L a ccd cl outer) (call (.ref 835) [.ref st, .ref b, .int now tn]) Q E s := by
  cases rep with
  | false => exact passed_no am hne N hoff hb1 hb2 hb3 hb4 rfl fun h' tk' t1 F N => hret h' tk' t1 0 F N
  | true =>
    by_cases hr : 0 < r
    · have e1 : passT true r T = T := by simp [passT, hr]
      have e2 : passU true r now = some (now + r) := by simp [passU, hr]
      rw [e1, e2] at hret
      exact passed_yes am hne N hoff hb1 hb2 hb3 hb4 ⟨rfl, hr⟩ fun h' tk' t1 F N => hret h' tk' tT t1 F N
    · have e1 : passT true r T = rootB := by simp [passT, hr]
      have e2 : passU true r now = none := by simp [passU, hr]
      rw [e1, e2] at hret
      exact passed_off am hne N hoff hb1 hb2 hb3 hb4 ⟨rfl, hr⟩ fun h' tk' t1 F N => hret h' tk' t1 0 F N
theorem find_c {w mean mg mb dp un gd cn cs a ccd cl outer A₀ base h₀ L m} {s : Shared} {Q E : Value → Shared → Prop} {tb td mk lt : Addr} {c5 : H5} {pre sec : Value} {r : Int} {tr : Tok} {rd3 : Addr} {mkvs kvs3 : List (List UInt8 × Value)} {T W : Array UInt8} {tT tW : Tok} {f : Option (Addr × Value × Bool)} {rest : List (Addr × Obj)}
  (am : Amb 10 80 w mean mg mb dp un cs outer A₀ base h₀ L m s.heap) (N : News h₀ L s.heap rest) (hb1 : h₀.get? tb = some (instObj 754 td)) (hb2 : h₀.get? td = some (tbObj c5 mk lt pre sec (.int r tr))) (hl1 : h₀.DictOf (bytesKind PySem.Challenge.rw_og0286_01.row.prog w) lt []) (lo1 : (lt == sysModules) = false) (hl2 : h₀.DictOf (bytesKind PySem.Challenge.rw_og0286_01.row.prog w) mk mkvs) (lo2 : (mk == sysModules) = false) (hl3 : h₀.DictOf (bytesKind PySem.Challenge.rw_og0286_01.row.prog w) rd3 kvs3) (lo3 : (rd3 == sysModules) = false) (hv1 : valueAt mkvs T.toList = some (.ref rd3)) (H : FindO h₀ (fval kvs3 W.toList) f)
  (h1 : f = none → ∀ h' tk', Fr h₀ L h' m → News h₀ L h' rest → Q .none { s with heap := h', toks := tk' })
  (h2 : ∀ b told rep bd cb key note, f = some (b, told, rep) → h₀.get? b = some (instObj 655 bd) → h₀.get? bd = some (bdObj cb key told (.bool rep) note) → ∀ h' tk', Fr h₀ L h' m → News h₀ L h' rest → Q (.ref b) { s with heap := h', toks := tk' }) :
  wpAny (model PySem.Challenge.rw_og0286_01.row.prog w) (ktrTop dp un gd cn cs L a ccd cl outer) (call (.ref 725) [.ref tb, .bytes T tT, .bytes W tW]) Q E s := by
  have fin : ∀ v, fval kvs3 W.toList = v → ∀ h' tk', Fr h₀ L h' m → News h₀ L h' rest → Q (v.getD .none) { s with heap := h', toks := tk' } := by
    intro v hv h' tk' F N
    rw [hv] at H
    cases H with
    | no => exact h1 rfl h' tk' F N
    | yes hb => obtain ⟨bd, cb, key, note, x, y⟩ := hb; exact h2 _ _ _ bd cb key note rfl x y h' tk' F N
  cases hw : valueAt kvs3 W.toList with
  | some v => exact find_here am N hb1 hb2 hl1 lo1 hl2 lo2 hl3 lo3 hv1 hw (fin (some v) (by simp [fval, hw]))
  | none =>
    cases ha : valueAt kvs3 anyB.toList with
    | some v => exact find_any am N hb1 hb2 hl1 lo1 hl2 lo2 hl3 lo3 hv1 hw ha (fin (some v) (by simp [fval, hw, ha]))
    | none => exact find_none (v := .none) am N hb1 hb2 hl1 lo1 hl2 lo2 hl3 lo3 hv1 hw ha (fin none (by simp [fval, hw, ha]))
end
section
local macro_rules | `(tactic| k_room) => `(tactic| ktr_room)
local macro_rules | `(tactic| k_all) => `(tactic| assumption)
local macro_rules | `(tactic| k_inst) => `(tactic| (refine' inst_base ?iF ?ih1 ?ih2; (case iF => k_asm); (case ih1 => k_asm); (case ih2 => k_asm)))

theorem reg_4 : True := by
  k_with_none
  (k_with "room" => ((with_reducible rename _ + _ < recursionLimit => hR9); first | exact room_k 4 hR9 | exact room_k 37 hR9 | exact room_k 9 hR9 | exact room_k 5 hR9 | exact room_k 14 hR9 | exact room_k 10 hR9 | exact room_k 19 hR9 | exact room_k 15 hR9 | exact room_k 20 hR9 | exact room_k 25 hR9 | exact room_k 35 hR9 | exact room_k 13 hR9 | exact room_k 1 hR9 | exact room_k 38 hR9 | exact room_k 23 hR9 | exact room_k 24 hR9 | exact room_k 29 hR9 | exact room_k 8 hR9 | exact room_k 40 hR9 | exact room_k 39 hR9 | exact room_k 44 hR9 | exact room_k 17 hR9 | exact room_k 21 hR9 | exact room_k 30 hR9 | exact room_k 33 hR9 | exact room_k 16 hR9 | exact room_k 2 hR9 | exact room_k 43 hR9 | exact room_k 7 hR9 | exact room_k 45 hR9 | exact room_k 0 hR9 | exact room_k 3 hR9 | exact room_k 6 hR9 | exact room_k 11 hR9 | exact room_k 12 hR9 | exact room_k 18 hR9 | exact room_k 22 hR9 | exact room_k 26 hR9 | exact room_k 27 hR9 | exact room_k 28 hR9 | exact room_k 31 hR9 | exact room_k 32 hR9 | exact room_k 34 hR9 | exact room_k 36 hR9 | exact room_k 41 hR9 | exact room_k 42 hR9))
  (k_with "units" => ((with_reducible rename _ + _ < cLine => hR9); first | exact room_k 37 hR9 | exact room_k 77 hR9 | exact room_k 117 hR9 | exact room_k 157 hR9 | exact room_k 237 hR9 | exact room_k 197 hR9 | exact room_k 151 hR9 | exact room_k 133 hR9 | exact room_k 277 hR9 | exact room_k 317 hR9 | exact room_k 357 hR9 | exact room_k 4 hR9 | exact room_k 9 hR9 | exact room_k 5 hR9 | exact room_k 14 hR9 | exact room_k 10 hR9 | exact room_k 19 hR9 | exact room_k 15 hR9 | exact room_k 20 hR9 | exact room_k 25 hR9 | exact room_k 35 hR9 | exact room_k 13 hR9 | exact room_k 1 hR9 | exact room_k 38 hR9 | exact room_k 23 hR9 | exact room_k 24 hR9 | exact room_k 29 hR9 | exact room_k 8 hR9 | exact room_k 40 hR9 | exact room_k 39 hR9 | exact room_k 44 hR9 | exact room_k 17 hR9 | exact room_k 21 hR9 | exact room_k 30 hR9 | exact room_k 33 hR9 | exact room_k 16 hR9 | exact room_k 2 hR9 | exact room_k 43 hR9 | exact room_k 7 hR9 | exact room_k 45 hR9))
  (k_with "lt" => (first | with_reducible assumption | exact (by with_reducible assumption : _ ∧ _).1 | exact (by with_reducible assumption : _ ∧ _).2 | exact (by with_reducible assumption : _ ∧ _ ∧ _).2.1 | exact (by with_reducible assumption : _ ∧ _ ∧ _).2.2 | exact (by with_reducible assumption : _ ∧ _ ∧ _ ∧ _).2.2.1 | exact (by with_reducible assumption : _ ∧ _ ∧ _ ∧ _).2.2.2 | exact (by with_reducible assumption : _ ∧ _ ∧ _ ∧ _ ∧ _).2.2.2.1 | exact (by with_reducible assumption : _ ∧ _ ∧ _ ∧ _ ∧ _).2.2.2.2 | exact (by with_reducible assumption : _ ∧ _ ∧ _ ∧ _ ∧ _ ∧ _).2.2.2.2.1 | exact (by with_reducible assumption : _ ∧ _ ∧ _ ∧ _ ∧ _ ∧ _).2.2.2.2.2 | exact (by with_reducible assumption : _ ∧ _ ∧ _ ∧ _ ∧ _ ∧ _ ∧ _).2.2.2.2.2.1 | exact (by with_reducible assumption : _ ∧ _ ∧ _ ∧ _ ∧ _ ∧ _ ∧ _).2.2.2.2.2.2 | exact (by with_reducible assumption : _ ∧ _ ∧ _ ∧ _ ∧ _ ∧ _ ∧ _ ∧ _).2.2.2.2.2.2.1 | exact (by with_reducible assumption : _ ∧ _ ∧ _ ∧ _ ∧ _ ∧ _ ∧ _ ∧ _).2.2.2.2.2.2.2 | exact (by with_reducible assumption : _ ∧ _ ∧ _ ∧ _ ∧ _ ∧ _ ∧ _ ∧ _ ∧ _).2.2.2.2.2.2.2.1 | exact (by with_reducible assumption : _ ∧ _ ∧ _ ∧ _ ∧ _ ∧ _ ∧ _ ∧ _ ∧ _).2.2.2.2.2.2.2.2 | exact (by with_reducible assumption : _ ∧ _ ∧ _ ∧ _ ∧ _ ∧ _ ∧ _ ∧ _ ∧ _ ∧ _).2.2.2.2.2.2.2.2.1 | exact (by with_reducible assumption : _ ∧ _ ∧ _ ∧ _ ∧ _ ∧ _ ∧ _ ∧ _ ∧ _ ∧ _).2.2.2.2.2.2.2.2.2 | exact (by with_reducible assumption : _ ∧ _ ∧ _ ∧ _ ∧ _ ∧ _ ∧ _ ∧ _ ∧ _ ∧ _ ∧ _).2.2.2.2.2.2.2.2.2.1 | exact (by with_reducible assumption : _ ∧ _ ∧ _ ∧ _ ∧ _ ∧ _ ∧ _ ∧ _ ∧ _ ∧ _ ∧ _).2.2.2.2.2.2.2.2.2.2 | exact (by with_reducible assumption : _ ∧ _ ∧ _ ∧ _ ∧ _ ∧ _ ∧ _ ∧ _ ∧ _ ∧ _ ∧ _ ∧ _).2.2.2.2.2.2.2.2.2.2.1 | exact (by with_reducible assumption : _ ∧ _ ∧ _ ∧ _ ∧ _ ∧ _ ∧ _ ∧ _ ∧ _ ∧ _ ∧ _ ∧ _).2.2.2.2.2.2.2.2.2.2.2 | exact (by with_reducible assumption : _ ∧ _ ∧ _ ∧ _ ∧ _ ∧ _ ∧ _ ∧ _ ∧ _ ∧ _ ∧ _ ∧ _ ∧ _).2.2.2.2.2.2.2.2.2.2.2.1 | exact (by with_reducible assumption : _ ∧ _ ∧ _ ∧ _ ∧ _ ∧ _ ∧ _ ∧ _ ∧ _ ∧ _ ∧ _ ∧ _ ∧ _).2.2.2.2.2.2.2.2.2.2.2.2))
  (k_with "ne" => ((refine neN ?_); (try dsimp only); first | (refine Nat.ne_of_lt ?_; k_extra "lt") | (refine Nat.ne_of_gt ?_; k_extra "lt") | omega))
  (k_with "all" => (first | assumption | exact all_nil | (refine' all_cons ?a9Z5 ?b9Z5; (case a9Z5 => k_extra "ne"); (case b9Z5 => k_extra "all"))))
  (k_with "ite" => (k_closed; k_dflt (first | (refine' @ite_pos _ _ _ _ ?h1Z6 ?_; (case h1Z6 => decide); k_whole) | (refine' @ite_neg _ _ _ _ ?h2Z6 ?_; (case h2Z6 => decide); k_whole))))
  (k_with "getAttr ref true" => (k_here; k_dflt (refine' get_own ?k1Z7 ?k2Z7 ?k3Z7 ?k4Z7 ?k5Z7 ?k6Z7 ?k7Z7 ?k8Z7 ?k9Z7 ?_; (case k1Z7 => k_asm); (case k2Z7 => k_asm); (case k3Z7 => k_inst); (case k4Z7 => k_is); (case k5Z7 => k_is); (case k6Z7 => k_is); (case k7Z7 => k_is); (case k8Z7 => k_get); (case k9Z7 => k_handed); k_whole)))
  (k_with "eval Name" => (k_here; name_kind "local"; k_dflt (refine' nameX_L ?FZ8 ?vZ8 ?_ ?aZ8 ?bZ8; (case FZ8 => k_asm); (case aZ8 => rfl); (case bZ8 => rfl); (case vZ8 => rfl); k_whole)))
  (k_with "eval Name" => (k_here; name_kind "globalImplicit"; k_dflt (first | (refine' nameX_K ?FZ9 ?XZ9 ?TZ9 ?eZ9 ?_ ?aZ9 ?bZ9; (case FZ9 => k_asm); (case XZ9 => k_asm); (case TZ9 => k_asm); (case aZ9 => rfl); (case bZ9 => rfl); (case eZ9 => k_is); k_whole) | (refine' nameX_B ?F9Z9 ?X9Z9 ?T9Z9 ?e9Z9 ?v9Z9 ?n9Z9 ?_ ?a9Z9 ?b9Z9; (case F9Z9 => k_asm); (case X9Z9 => k_asm); (case T9Z9 => k_asm); (case a9Z9 => rfl); (case b9Z9 => rfl); (case e9Z9 => k_is); (case v9Z9 => boot_fast); (case n9Z9 => decide); k_whole))))
  (k_with "callWith ref cons nil" => (k_here; k_dflt (first | (refine' callWith_K ?k1Z10 ?k2Z10 ?_; (case k1Z10 => k_asm); (case k2Z10 => k_is); k_whole) | (refine' callWith_K0 ?k3Z10 ?k4Z10 ?_; (case k3Z10 => first | with_reducible assumption | (refine' Frag.In.keeps ?x8Z10 (Fr.keep ?f8Z10); (case f8Z10 => with_reducible assumption); (case x8Z10 => with_reducible assumption)) | k_in); (case k4Z10 => k_is); k_whole) | (refine' callWith_M0 ?k5Z10 ?k6Z10 ?_; (case k5Z10 => k_meth); (case k6Z10 => k_is); k_whole; try dsimp only [List.nil_append, List.cons_append]))))
  (k_with "exec While Constant cons nil" => (k_here; k_dflt (refine whl_start 100 ?_)))
  (k_with "call builtin:list.append cons nil" => (k_here; (with_reducible show wpAny _ _ (call (Value.builtin _) [Value.ref _, _]) _ _ _); k_dflt (refine' append_K ?k1Z12 ?k2Z12 ?k3Z12 ?_ ?zZ12; (case k1Z12 => k_asm); (case k2Z12 => k_asm); (case k3Z12 => k_upd); (case zZ12 => first | size_fits | k_extra "size9"); k_whole); intro h' F' N'; (try k_sweep)))
  (k_with "compareOp In" => (k_here; (with_reducible show wpAny _ _ (compareOp CmpOp.In (Value.bytes _ _) (Value.ref _)) _ _ _); k_dflt (refine' md_in (md_at ?FZ24 ?DZ24) ?lZ24 (bk_is _ _ _ _) ?vZ24 ?_; (case FZ24 => k_asm); (case DZ24 => k_asm); (case lZ24 => k_asm); (case vZ24 => k_asm); k_whole)))
  (k_with "subscriptTail" => (k_here; (with_reducible show wpAny _ _ (subscriptTail _ _ (Value.ref _) (Value.bytes _ _)) _ _ _); k_dflt (refine' md_item (md_at ?FZ25 ?DZ25) (bk_is _ _ _ _) ?vZ25 ?_; (case FZ25 => k_asm); (case DZ25 => k_asm); (case vZ25 => k_asm); k_whole)))
  (k_with "getMethod ref" => (k_here; (with_reducible show wpAny _ _ (getMethod (Value.ref _) (Str.ofString "get") _) _ _ _); k_dflt (refine' md_getm (knd := bytesKind _ _) (md_at ?FZ26 ?DZ26) ?_; (case FZ26 => k_asm); (case DZ26 => k_asm); k_whole)))
  (k_with "call builtin:dict.get" => (k_here; k_dflt (first | ((with_reducible show wpAny _ _ (call (Value.builtin "dict.get") [Value.ref _, Value.bytes _ _]) _ _ _); refine' md_get1 (md_at ?FZ27 ?DZ27) ?lZ27 (bk_is _ _ _ _) ?vZ27 ?_; (case FZ27 => k_asm); (case DZ27 => k_asm); (case lZ27 => k_asm); (case vZ27 => k_asm); k_whole) | ((with_reducible show wpAny _ _ (call (Value.builtin "dict.get") [Value.ref _, Value.bytes _ _, _]) _ _ _); refine' md_get2 (md_at ?FZ27 ?DZ27) ?lZ27 (bk_is _ _ _ _) ?vZ27 ?_; (case FZ27 => k_asm); (case DZ27 => k_asm); (case lZ27 => k_asm); (case vZ27 => k_asm); k_whole)); (try dsimp only [Option.getD])))
  (k_with "compareOp Eq bytes none" => with_reducible refine eq_bytes_none ?_)
  trivial




abbrev runB : Array UInt8 := #[114, 117, 110]
abbrev sendB : Array UInt8 := #[115, 101, 110, 100]
abbrev wk (T U M own pf rep : Value) : List (Str × Value) := [(Str.ofString "table", T), (Str.ofString "until", U), (Str.ofString "mode", M), (Str.ofString "own", own), (Str.ofString "prefixes", pf), (Str.ofString "repeat", rep)]
def pfVals (Pb : Array UInt8) (S : Option (Array UInt8)) (t1 t2 : Tok) : List Value := .bytes Pb t1 :: (match S with | some x => [.bytes x t2] | none => [])
def isB (k : List UInt8) : Value → Bool
  | .bytes b _ => decide (b.toList = k)
  | _ => false
theorem in_prefs {prog : Program} {w : World} {A : Around} {E : Value → Shared → Prop} {s : Shared} {Q : Value → Shared → Prop} {Pb W : Array UInt8} {S : Option (Array UInt8)} {t1 t2 tW : Tok} {pf : Addr} {P : Bool}
    (hl : s.heap.IsList pf (pfVals Pb S t1 t2).toArray) (hP : prefP Pb S W = P) (h : Q (.bool P) s) : wpAny (model prog w) A (compareOp .In (.bytes W tW) (.ref pf)) Q E s := by
  refine SeqInW.in_listW (isB W.toList) (fun y hy => ?_) hl ?_
  · have hy' : y ∈ pfVals Pb S t1 t2 := by simpa using hy
    unfold pfVals at hy'
    cases S with
    | none =>
      have e : y = .bytes Pb t1 := by simpa using hy'
      subst e
      exact fun _ _ _ _ _ _ h => eqBool_bytes h
    | some x =>
      have e : y = .bytes Pb t1 ∨ y = .bytes x t2 := by simpa using hy'
      rcases e with e | e <;> subst e <;> exact fun _ _ _ _ _ _ h => eqBool_bytes h
  · have e : (pfVals Pb S t1 t2).toArray.any (isB W.toList) = P := by
      rw [← hP]
      have sy : ∀ a b : Array UInt8, decide (a = b) = (b == a) := fun a b => by
        rw [Bool.eq_iff_iff, decide_eq_true_eq, beq_iff_eq]
        exact eq_comm
      cases S with
      | none => simp [pfVals, isB, prefP, sy]
      | some x => simp [pfVals, isB, prefP, sy]
    rw [e]
    exact h
theorem list_base {h₀ h : Heap} {L : Addr} {m : Str → Option Value} {a : Addr} {vs : Array Value} (F : Fr h₀ L h m) (h1 : h₀.IsList a vs) : h.IsList a vs := let ⟨o, ho, r⟩ := h1; ⟨o, F.keep _ _ ho, r⟩
theorem list_keep {h g : Heap} (k : ∀ b o, h.get? b = some o → g.get? b = some o) {a : Addr} {vs : Array Value} (h1 : h.IsList a vs) : g.IsList a vs := let ⟨o, ho, r⟩ := h1; ⟨o, k _ _ ho, r⟩
inductive FindL (h : Heap) : Option Value → Option (Addr × Value × Bool) → Prop
  | no : FindL h none none
  | yes {tp : Addr} {cmd : Array UInt8} {tc : Tok} {rep : Bool} {n : Nat} : h.get? tp = some (tupObj [.bytes cmd tc, .bool rep] n) → FindL h (some (.ref tp)) (some (tp, .bytes cmd tc, rep))
theorem FindL.keep {h g : Heap} {v : Option Value} {f : Option (Addr × Value × Bool)} (x : FindL h v f) (k : ∀ b o, h.get? b = some o → g.get? b = some o) : FindL g v f := by
  cases x with
  | no => exact .no
  | yes y => exact .yes (k _ _ y)
inductive LResIs (f1 f0 : Option (Addr × Value × Bool)) (W : Array UInt8) : Res → Addr → List (Addr × Obj) → Prop
  | nil {r : Addr} {n : Nat} : LResIs f1 f0 W .nil r [(r, listOf #[] n)]
  | run {r t tp : Addr} {n n' : Nat} {tk tc : Tok} {cmd : Array UInt8} {rep : Bool} : (f1 = some (tp, .bytes cmd tc, rep) ∨ f0 = some (tp, .bytes cmd tc, rep)) → LResIs f1 f0 W (.run tp) r [(r, listOf #[.ref t] n), (t, tupObj [.bytes runB tk, .bytes cmd tc] n')]
  | send {r t : Addr} {n n' : Nat} {tk tc : Tok} : LResIs f1 f0 W .send r [(r, listOf #[.ref t] n), (t, tupObj [.bytes sendB tk, .bytes W tc] n')]


theorem reg_5 : True := by
  (k_with "compareOp In" => (k_here; (with_reducible show wpAny _ _ (compareOp CmpOp.In (Value.bytes _ _) (Value.ref _)) _ _ _); k_dflt (refine' in_prefs (list_base ?FZ29 ?DZ29) ?hPZ29 ?_; (case FZ29 => k_asm); (case DZ29 => assumption); (case hPZ29 => assumption); k_whole)))
  (k_with "subscriptTail" => (k_here; (with_reducible show wpAny _ _ (subscriptTail _ _ (Value.ref _) (Value.int _ _)) _ _ _); k_dflt (refine' item_tupleT (tup_base ?FZ30 ?DZ30) ?aZ30 ?bZ30 ?cZ30 ?dZ30 ?_; (case FZ30 => k_asm); (case DZ30 => assumption); (case aZ30 => decide); (case bZ30 => decide); (case cZ30 => rfl); (case dZ30 => rfl); k_whole)))
  trivial


theorem home_l {w mean mg mb dp un gd cn cs a ccd cl outer A₀ base h₀ L m} {s : Shared} {Q E : Value → Shared → Prop} {wd own pf : Addr} {wo : Obj} {r : Int} {tr : Tok} {T U M : Value} {rest : List (Addr × Obj)}
  (am : Amb 5 40 w mean mg mb dp un cs outer A₀ base h₀ L m s.heap) (N : News h₀ L s.heap ((wd, wo) :: rest)) (hoff : ∀ p ∈ rest, p.1 ≠ wd) (hw : Obj.IsDictOf (strKind PySem.Challenge.rw_og0286_01.row.prog w) wo (wk T U M (.ref own) (.ref pf) (.int r tr)))
  (hret : ∀ h' tk' wo' t, Obj.IsDictOf (strKind PySem.Challenge.rw_og0286_01.row.prog w) wo' (wk (.bytes rootB t) .none M (.ref own) (.ref pf) (.int r tr)) → Fr h₀ L h' m → News h₀ L h' ((wd, wo') :: rest) → Q .none { s with heap := h', toks := tk' }) :
  wpAny (model PySem.Challenge.rw_og0286_01.row.prog w) (ktrTop dp un gd cn cs L a ccd cl outer) (call (.ref 877) [.ref wd]) Q E s := by
  obtain ⟨B, F, X, T, hk, hd, hu⟩ := am
  revert X; k_fill; intro X
  refine wpAny_call ?_
  k_dflt cell_enter
  repeat' (first | (k_unfold; (try dsimp only)) | (k_end; wrow_close) | (walk1 <;> (try dsimp only)) | (leave1; walk_say "STEP leave1"; try dsimp only) | fail "no step")
  all_goals (first | ((try kob_lit); exact hret _ _ _ _ (by assumption) (by assumption) (cb_drop (by assumption) (by ((repeat (refine sub_cons ?_ ?_; k_mem)); (first | exact List.forall_mem_nil _ | ((repeat (first | exact fun p hp => hp | refine sub_skip ?_)))))))) | w_report)


theorem reg_6 : True := by
  (k_with "call ref" => (k_here; (with_reducible show wpAny _ _ (call (Value.ref 877) _ _) _ _ _); k_dflt (refine' home_l ?amZ31 ?NZ31 ?offZ31 ?hwZ31 ?_; (case amZ31 => (refine' Amb.mk ?aBZ31 ?aFZ31 ?aXZ31 ?aTZ31 ?akZ31 ?adZ31 ?auZ31; (case aBZ31 => k_asm); (case aFZ31 => k_asm); (case aXZ31 => k_asm); (case aTZ31 => k_asm); (case akZ31 => first | exact rfl | assumption); (case adZ31 => ktr_room); (case auZ31 => ktr_units))); (case NZ31 => k_asm); (case offZ31 => ((repeat (refine List.forall_mem_cons.mpr ⟨?_, ?_⟩; (first | with_reducible assumption | k_ne))); k_asm)); (case hwZ31 => k_asm); k_whole; intro h9 tk9 wo9 t9 hw9 F9 N9; (try dsimp only); (try k_fold))))
  trivial


theorem ran_no {w mean mg mb dp un gd cn cs a ccd cl outer A₀ base h₀ L m} {s : Shared} {Q E : Value → Shared → Prop} {wd own pf : Addr} {wo : Obj} {r : Int} {tr : Tok} {tp : Addr} {cmd : Array UInt8} {tc tn : Tok} {rep : Bool} {nt : Nat} {now : Int} {T U M : Value} {rest : List (Addr × Obj)}
  (am : Amb 10 80 w mean mg mb dp un cs outer A₀ base h₀ L m s.heap) (N : News h₀ L s.heap ((wd, wo) :: rest)) (hoff : ∀ p ∈ rest, p.1 ≠ wd) (hw : Obj.IsDictOf (strKind PySem.Challenge.rw_og0286_01.row.prog w) wo (wk T U M (.ref own) (.ref pf) (.int r tr))) (ht : h₀.get? tp = some (tupObj [.bytes cmd tc, .bool rep] nt)) (hrep : (rep = false))
  (hret : ∀ h' tk' wo' r' ow (t u : Tok), Obj.IsDictOf (strKind PySem.Challenge.rw_og0286_01.row.prog w) wo' (wk (.bytes rootB t) .none M (.ref own) (.ref pf) (.int r tr)) → LResIs (some (tp, .bytes cmd tc, rep)) (some (tp, .bytes cmd tc, rep)) #[] (.run tp) r' ow → Fr h₀ L h' m → News h₀ L h' (ow ++ (wd, wo') :: rest) → (∀ q ∈ ow, AllLt q.1 ((wd, wo) :: rest)) → Q (.ref r') { s with heap := h', toks := tk' }) :
  wpAny (model PySem.Challenge.rw_og0286_01.row.prog w) (ktrTop dp un gd cn cs L a ccd cl outer) (call (.ref 884) [.ref wd, .ref tp, .int now tn]) Q E s := by
  subst hrep
  obtain ⟨B, F, X, T, hk, hd, hu⟩ := am
  revert X; k_fill; intro X
  refine wpAny_call ?_
  k_dflt cell_enter
  rename (Fr h₀ L _ m) => FG
  have htg := FG.keep _ _ ht
  repeat' (first | (k_unfold; (try dsimp only)) | (k_end; wrow_close) | (walk1 <;> (try dsimp only)) | (leave1; walk_say "STEP leave1"; try dsimp only) | fail "no step")
  all_goals (first | ((try kob_lit); exact hret _ _ _ _ _ _ 0 (by assumption) (LResIs.run (.inl rfl)) (by assumption) (news_app (cb_drop (by assumption) (by ((repeat (refine sub_cons ?_ ?_; k_mem)); (first | exact List.forall_mem_nil _ | ((repeat (first | exact fun p hp => hp | refine sub_skip ?_))))))) (cb_drop (by assumption) (by ((repeat (refine sub_cons ?_ ?_; k_mem)); (first | exact List.forall_mem_nil _ | ((repeat (first | exact fun p hp => hp | refine sub_skip ?_)))))))) (by first | exact all1 (by (simp only [AllLt]); first | with_reducible assumption | with_reducible exact And.right (by with_reducible assumption) | with_reducible exact And.right (And.right (by with_reducible assumption))) | exact all2 (by (simp only [AllLt]); first | with_reducible assumption | with_reducible exact And.right (by with_reducible assumption) | with_reducible exact And.right (And.right (by with_reducible assumption))) (by (simp only [AllLt]); first | with_reducible assumption | with_reducible exact And.right (by with_reducible assumption) | with_reducible exact And.right (And.right (by with_reducible assumption))))) | w_report)

theorem ran_yes {w mean mg mb dp un gd cn cs a ccd cl outer A₀ base h₀ L m} {s : Shared} {Q E : Value → Shared → Prop} {wd own pf : Addr} {wo : Obj} {r : Int} {tr : Tok} {tp : Addr} {cmd : Array UInt8} {tc tn : Tok} {rep : Bool} {nt : Nat} {now : Int} {T U M : Value} {rest : List (Addr × Obj)}
  (am : Amb 10 80 w mean mg mb dp un cs outer A₀ base h₀ L m s.heap) (N : News h₀ L s.heap ((wd, wo) :: rest)) (hoff : ∀ p ∈ rest, p.1 ≠ wd) (hw : Obj.IsDictOf (strKind PySem.Challenge.rw_og0286_01.row.prog w) wo (wk T U M (.ref own) (.ref pf) (.int r tr))) (ht : h₀.get? tp = some (tupObj [.bytes cmd tc, .bool rep] nt)) (hrep : (rep = true ∧ 0 < r))
  (hret : ∀ h' tk' wo' r' ow (t u : Tok), Obj.IsDictOf (strKind PySem.Challenge.rw_og0286_01.row.prog w) wo' (wk T (.int (now + r) u) M (.ref own) (.ref pf) (.int r tr)) → LResIs (some (tp, .bytes cmd tc, rep)) (some (tp, .bytes cmd tc, rep)) #[] (.run tp) r' ow → Fr h₀ L h' m → News h₀ L h' (ow ++ (wd, wo') :: rest) → (∀ q ∈ ow, AllLt q.1 ((wd, wo) :: rest)) → Q (.ref r') { s with heap := h', toks := tk' }) :
  wpAny (model PySem.Challenge.rw_og0286_01.row.prog w) (ktrTop dp un gd cn cs L a ccd cl outer) (call (.ref 884) [.ref wd, .ref tp, .int now tn]) Q E s := by
  obtain ⟨hr1, hr2⟩ := hrep; subst hr1
  obtain ⟨B, F, X, T, hk, hd, hu⟩ := am
  revert X; k_fill; intro X
  refine wpAny_call ?_
  k_dflt cell_enter
  rename (Fr h₀ L _ m) => FG
  have htg := FG.keep _ _ ht
  repeat' (first | (k_unfold; (try dsimp only)) | (k_end; wrow_close) | (walk1 <;> (try dsimp only)) | (leave1; walk_say "STEP leave1"; try dsimp only) | fail "no step")
  all_goals (first | ((try kob_lit); exact hret _ _ _ _ _ 0 _ (by assumption) (LResIs.run (.inl rfl)) (by assumption) (news_app (cb_drop (by assumption) (by ((repeat (refine sub_cons ?_ ?_; k_mem)); (first | exact List.forall_mem_nil _ | ((repeat (first | exact fun p hp => hp | refine sub_skip ?_))))))) (cb_drop (by assumption) (by ((repeat (refine sub_cons ?_ ?_; k_mem)); (first | exact List.forall_mem_nil _ | ((repeat (first | exact fun p hp => hp | refine sub_skip ?_)))))))) (by first | exact all1 (by (simp only [AllLt]); first | with_reducible assumption | with_reducible exact And.right (by with_reducible assumption) | with_reducible exact And.right (And.right (by with_reducible assumption))) | exact all2 (by (simp only [AllLt]); first | with_reducible assumption | with_reducible exact And.right (by with_reducible assumption) | with_reducible exact And.right (And.right (by with_reducible assumption))) (by (simp only [AllLt]); first | with_reducible assumption | with_reducible exact And.right (by with_reducible assumption) | with_reducible exact And.right (And.right (by with_reducible assumption))))) | w_report)

theorem ran_off {w mean mg mb dp un gd cn cs a ccd cl outer A₀ base h₀ L m} {s : Shared} {Q E : Value → Shared → Prop} {wd own pf : Addr} {wo : Obj} {r : Int} {tr : Tok} {tp : Addr} {cmd : Array UInt8} {tc tn : Tok} {rep : Bool} {nt : Nat} {now : Int} {T U M : Value} {rest : List (Addr × Obj)}
  (am : Amb 10 80 w mean mg mb dp un cs outer A₀ base h₀ L m s.heap) (N : News h₀ L s.heap ((wd, wo) :: rest)) (hoff : ∀ p ∈ rest, p.1 ≠ wd) (hw : Obj.IsDictOf (strKind PySem.Challenge.rw_og0286_01.row.prog w) wo (wk T U M (.ref own) (.ref pf) (.int r tr))) (ht : h₀.get? tp = some (tupObj [.bytes cmd tc, .bool rep] nt)) (hrep : (rep = true ∧ ¬ 0 < r))
  (hret : ∀ h' tk' wo' r' ow (t u : Tok), Obj.IsDictOf (strKind PySem.Challenge.rw_og0286_01.row.prog w) wo' (wk (.bytes rootB t) .none M (.ref own) (.ref pf) (.int r tr)) → LResIs (some (tp, .bytes cmd tc, rep)) (some (tp, .bytes cmd tc, rep)) #[] (.run tp) r' ow → Fr h₀ L h' m → News h₀ L h' (ow ++ (wd, wo') :: rest) → (∀ q ∈ ow, AllLt q.1 ((wd, wo) :: rest)) → Q (.ref r') { s with heap := h', toks := tk' }) :
  wpAny (model PySem.Challenge.rw_og0286_01.row.prog w) (ktrTop dp un gd cn cs L a ccd cl outer) (call (.ref 884) [.ref wd, .ref tp, .int now tn]) Q E s := by
  obtain ⟨hr1, hr2⟩ := hrep; subst hr1
  obtain ⟨B, F, X, T, hk, hd, hu⟩ := am
  revert X; k_fill; intro X
  refine wpAny_call ?_
  k_dflt cell_enter
  rename (Fr h₀ L _ m) => FG
  have htg := FG.keep _ _ ht
  repeat' (first | (k_unfold; (try dsimp only)) | (k_end; wrow_close) | (walk1 <;> (try dsimp only)) | (leave1; walk_say "STEP leave1"; try dsimp only) | fail "no step")
  all_goals (first | ((try kob_lit); exact hret _ _ _ _ _ _ 0 (by assumption) (LResIs.run (.inl rfl)) (by assumption) (news_app (cb_drop (by assumption) (by ((repeat (refine sub_cons ?_ ?_; k_mem)); (first | exact List.forall_mem_nil _ | ((repeat (first | exact fun p hp => hp | refine sub_skip ?_))))))) (cb_drop (by assumption) (by ((repeat (refine sub_cons ?_ ?_; k_mem)); (first | exact List.forall_mem_nil _ | ((repeat (first | exact fun p hp => hp | refine sub_skip ?_)))))))) (by first | exact all1 (by (simp only [AllLt]); first | with_reducible assumption | with_reducible exact And.right (by with_reducible assumption) | with_reducible exact And.right (And.right (by with_reducible assumption))) | exact all2 (by (simp only [AllLt]); first | with_reducible assumption | with_reducible exact And.right (by with_reducible assumption) | with_reducible exact And.right (And.right (by with_reducible assumption))) (by (simp only [AllLt]); first | with_reducible assumption | with_reducible exact And.right (by with_reducible assumption) | with_reducible exact And.right (And.right (by with_reducible assumption))))) | w_report)

theorem ran_g {w mean mg mb dp un gd cn cs a ccd cl outer A₀ base h₀ L m} {s : Shared} {Q E : Value → Shared → Prop} {wd own pf : Addr} {wo : Obj} {r : Int} {tr : Tok} {tp : Addr} {cmd : Array UInt8} {tc tn : Tok} {rep : Bool} {nt : Nat} {now : Int} {T : Array UInt8} {tT : Tok} {U M : Value} {rest : List (Addr × Obj)}
  (am : Amb 10 80 w mean mg mb dp un cs outer A₀ base h₀ L m s.heap) (N : News h₀ L s.heap ((wd, wo) :: rest)) (hoff : ∀ p ∈ rest, p.1 ≠ wd) (hw : Obj.IsDictOf (strKind PySem.Challenge.rw_og0286_01.row.prog w) wo (wk (.bytes T tT) U M (.ref own) (.ref pf) (.int r tr))) (ht : h₀.get? tp = some (tupObj [.bytes cmd tc, .bool rep] nt))
  (hret : ∀ h' tk' wo' r' ow (t u : Tok), Obj.IsDictOf (strKind PySem.Challenge.rw_og0286_01.row.prog w) wo' (wk (.bytes (passT rep r T) t) (optV (passU rep r now) u) M (.ref own) (.ref pf) (.int r tr)) → LResIs (some (tp, .bytes cmd tc, rep)) (some (tp, .bytes cmd tc, rep)) #[] (.run tp) r' ow → Fr h₀ L h' m → News h₀ L h' (ow ++ (wd, wo') :: rest) → (∀ q ∈ ow, AllLt q.1 ((wd, wo) :: rest)) → Q (.ref r') { s with heap := h', toks := tk' }) :
  wpAny (model PySem.Challenge.rw_og0286_01.row.prog w) (ktrTop dp un gd cn cs L a ccd cl outer) (call (.ref 884) [.ref wd, .ref tp, .int now tn]) Q E s := by
  cases rep with
  | false => exact ran_no am N hoff hw ht rfl fun h' tk' wo' r' ow t u a b c d e => hret h' tk' wo' r' ow t 0 a b c d e
  | true =>
    by_cases hr : 0 < r
    · have e1 : passT true r T = T := by simp [passT, hr]
      have e2 : passU true r now = some (now + r) := by simp [passU, hr]
      rw [e1, e2] at hret
      exact ran_yes am N hoff hw ht ⟨rfl, hr⟩ fun h' tk' wo' r' ow t u a b c d e => hret h' tk' wo' r' ow tT u a b c d e
    · have e1 : passT true r T = rootB := by simp [passT, hr]
      have e2 : passU true r now = none := by simp [passU, hr]
      rw [e1, e2] at hret
      exact ran_off am N hoff hw ht ⟨rfl, hr⟩ fun h' tk' wo' r' ow t u a b c d e => hret h' tk' wo' r' ow t 0 a b c d e

theorem found_l {w mean mg mb dp un gd cn cs a ccd cl outer A₀ base h₀ L m} {s : Shared} {Q E : Value → Shared → Prop} {wd own pf : Addr} {wo : Obj} {r : Int} {tr : Tok} {okvs kvs3 : List (List UInt8 × Value)} {rd3 : Addr} {Tv Uv M : Value} {T W : Array UInt8} {tT tW : Tok} {x y : Option Value} {rest : List (Addr × Obj)}
  (am : Amb 5 40 w mean mg mb dp un cs outer A₀ base h₀ L m s.heap) (N : News h₀ L s.heap ((wd, wo) :: rest)) (hoff : ∀ p ∈ rest, p.1 ≠ wd) (hw : Obj.IsDictOf (strKind PySem.Challenge.rw_og0286_01.row.prog w) wo (wk Tv Uv M (.ref own) (.ref pf) (.int r tr))) (hl1 : h₀.DictOf (bytesKind PySem.Challenge.rw_og0286_01.row.prog w) own okvs) (hl3 : h₀.DictOf (bytesKind PySem.Challenge.rw_og0286_01.row.prog w) rd3 kvs3) (lo3 : (rd3 == sysModules) = false) (hv1 : valueAt okvs T.toList = some (.ref rd3)) (hv2 : valueAt kvs3 W.toList = x) (hv3 : valueAt kvs3 anyB.toList = y)
  (hret : ∀ h' tk', Fr h₀ L h' m → News h₀ L h' ((wd, wo) :: rest) → Q (x.getD (y.getD .none)) { s with heap := h', toks := tk' }) :
  wpAny (model PySem.Challenge.rw_og0286_01.row.prog w) (ktrTop dp un gd cn cs L a ccd cl outer) (call (.ref 870) [.ref wd, .bytes T tT, .bytes W tW]) Q E s := by
  obtain ⟨B, F, X, T, hk, hd, hu⟩ := am
  revert X; k_fill; intro X
  refine wpAny_call ?_
  k_dflt cell_enter
  rename (Fr h₀ L _ m) => FG
  have hl1g := hl1.keep FG.keep
  have hl3g := hl3.keep FG.keep
  repeat' (first | (k_unfold; (try dsimp only)) | (k_end; wrow_close) | (walk1 <;> (try dsimp only)) | (leave1; walk_say "STEP leave1"; try dsimp only) | fail "no step")
  all_goals (first | exact hret _ _ (by assumption) (cb_drop (by assumption) (by ((repeat (refine sub_cons ?_ ?_; k_mem)); (first | exact List.forall_mem_nil _ | ((repeat (first | exact fun p hp => hp | refine sub_skip ?_))))))) | w_report)

theorem found_c {w mean mg mb dp un gd cn cs a ccd cl outer A₀ base h₀ L m} {s : Shared} {Q E : Value → Shared → Prop} {wd own pf : Addr} {wo : Obj} {r : Int} {tr : Tok} {okvs kvs3 : List (List UInt8 × Value)} {rd3 : Addr} {Tv Uv M : Value} {T W : Array UInt8} {tT tW : Tok} {f : Option (Addr × Value × Bool)} {rest : List (Addr × Obj)}
  (am : Amb 5 40 w mean mg mb dp un cs outer A₀ base h₀ L m s.heap) (N : News h₀ L s.heap ((wd, wo) :: rest)) (hoff : ∀ p ∈ rest, p.1 ≠ wd) (hw : Obj.IsDictOf (strKind PySem.Challenge.rw_og0286_01.row.prog w) wo (wk Tv Uv M (.ref own) (.ref pf) (.int r tr))) (hl1 : h₀.DictOf (bytesKind PySem.Challenge.rw_og0286_01.row.prog w) own okvs) (hl3 : h₀.DictOf (bytesKind PySem.Challenge.rw_og0286_01.row.prog w) rd3 kvs3) (lo3 : (rd3 == sysModules) = false) (hv1 : valueAt okvs T.toList = some (.ref rd3)) (H : FindL h₀ (fval kvs3 W.toList) f)
  (h1 : f = none → ∀ h' tk', Fr h₀ L h' m → News h₀ L h' ((wd, wo) :: rest) → Q .none { s with heap := h', toks := tk' })
  (h2 : ∀ tp cmd tc rep nt, f = some (tp, .bytes cmd tc, rep) → h₀.get? tp = some (tupObj [.bytes cmd tc, .bool rep] nt) → ∀ h' tk', Fr h₀ L h' m → News h₀ L h' ((wd, wo) :: rest) → Q (.ref tp) { s with heap := h', toks := tk' }) :
  wpAny (model PySem.Challenge.rw_og0286_01.row.prog w) (ktrTop dp un gd cn cs L a ccd cl outer) (call (.ref 870) [.ref wd, .bytes T tT, .bytes W tW]) Q E s := by
  refine found_l am N hoff hw hl1 hl3 lo3 hv1 rfl rfl fun h' tk' F N' => ?_
  have e : (valueAt kvs3 W.toList).getD ((valueAt kvs3 anyB.toList).getD .none) = (fval kvs3 W.toList).getD .none := by
    unfold fval
    cases valueAt kvs3 W.toList <;> rfl
  rw [e]
  cases H' : fval kvs3 W.toList with
  | none =>
    rw [H'] at H
    cases H
    exact h1 rfl h' tk' F N'
  | some v =>
    rw [H'] at H
    cases H with
    | yes ht => exact h2 _ _ _ _ _ rfl ht h' tk' F N'
end
section
local macro_rules | `(tactic| k_room) => `(tactic| ktr_room)
local macro_rules | `(tactic| k_all) => `(tactic| assumption)
local macro_rules | `(tactic| k_inst) => `(tactic| (refine' inst_base ?iF ?ih1 ?ih2; (case iF => k_asm); (case ih1 => k_asm); (case ih2 => k_asm)))

theorem reg_7 : True := by
  k_with_none
  (k_with "room" => ((with_reducible rename _ + _ < recursionLimit => hR9); first | exact room_k 4 hR9 | exact room_k 37 hR9 | exact room_k 9 hR9 | exact room_k 5 hR9 | exact room_k 14 hR9 | exact room_k 10 hR9 | exact room_k 19 hR9 | exact room_k 15 hR9 | exact room_k 20 hR9 | exact room_k 25 hR9 | exact room_k 35 hR9 | exact room_k 13 hR9 | exact room_k 1 hR9 | exact room_k 38 hR9 | exact room_k 23 hR9 | exact room_k 24 hR9 | exact room_k 29 hR9 | exact room_k 8 hR9 | exact room_k 40 hR9 | exact room_k 39 hR9 | exact room_k 44 hR9 | exact room_k 17 hR9 | exact room_k 21 hR9 | exact room_k 30 hR9 | exact room_k 33 hR9 | exact room_k 16 hR9 | exact room_k 2 hR9 | exact room_k 43 hR9 | exact room_k 7 hR9 | exact room_k 45 hR9 | exact room_k 0 hR9 | exact room_k 3 hR9 | exact room_k 6 hR9 | exact room_k 11 hR9 | exact room_k 12 hR9 | exact room_k 18 hR9 | exact room_k 22 hR9 | exact room_k 26 hR9 | exact room_k 27 hR9 | exact room_k 28 hR9 | exact room_k 31 hR9 | exact room_k 32 hR9 | exact room_k 34 hR9 | exact room_k 36 hR9 | exact room_k 41 hR9 | exact room_k 42 hR9))
  (k_with "units" => ((with_reducible rename _ + _ < cLine => hR9); first | exact room_k 37 hR9 | exact room_k 77 hR9 | exact room_k 117 hR9 | exact room_k 157 hR9 | exact room_k 237 hR9 | exact room_k 197 hR9 | exact room_k 151 hR9 | exact room_k 133 hR9 | exact room_k 277 hR9 | exact room_k 317 hR9 | exact room_k 357 hR9 | exact room_k 4 hR9 | exact room_k 9 hR9 | exact room_k 5 hR9 | exact room_k 14 hR9 | exact room_k 10 hR9 | exact room_k 19 hR9 | exact room_k 15 hR9 | exact room_k 20 hR9 | exact room_k 25 hR9 | exact room_k 35 hR9 | exact room_k 13 hR9 | exact room_k 1 hR9 | exact room_k 38 hR9 | exact room_k 23 hR9 | exact room_k 24 hR9 | exact room_k 29 hR9 | exact room_k 8 hR9 | exact room_k 40 hR9 | exact room_k 39 hR9 | exact room_k 44 hR9 | exact room_k 17 hR9 | exact room_k 21 hR9 | exact room_k 30 hR9 | exact room_k 33 hR9 | exact room_k 16 hR9 | exact room_k 2 hR9 | exact room_k 43 hR9 | exact room_k 7 hR9 | exact room_k 45 hR9))
  (k_with "lt" => (first | with_reducible assumption | exact (by with_reducible assumption : _ ∧ _).1 | exact (by with_reducible assumption : _ ∧ _).2 | exact (by with_reducible assumption : _ ∧ _ ∧ _).2.1 | exact (by with_reducible assumption : _ ∧ _ ∧ _).2.2 | exact (by with_reducible assumption : _ ∧ _ ∧ _ ∧ _).2.2.1 | exact (by with_reducible assumption : _ ∧ _ ∧ _ ∧ _).2.2.2 | exact (by with_reducible assumption : _ ∧ _ ∧ _ ∧ _ ∧ _).2.2.2.1 | exact (by with_reducible assumption : _ ∧ _ ∧ _ ∧ _ ∧ _).2.2.2.2 | exact (by with_reducible assumption : _ ∧ _ ∧ _ ∧ _ ∧ _ ∧ _).2.2.2.2.1 | exact (by with_reducible assumption : _ ∧ _ ∧ _ ∧ _ ∧ _ ∧ _).2.2.2.2.2 | exact (by with_reducible assumption : _ ∧ _ ∧ _ ∧ _ ∧ _ ∧ _ ∧ _).2.2.2.2.2.1 | exact (by with_reducible assumption : _ ∧ _ ∧ _ ∧ _ ∧ _ ∧ _ ∧ _).2.2.2.2.2.2 | exact (by with_reducible assumption : _ ∧ _ ∧ _ ∧ _ ∧ _ ∧ _ ∧ _ ∧ _).2.2.2.2.2.2.1 | exact (by with_reducible assumption : _ ∧ _ ∧ _ ∧ _ ∧ _ ∧ _ ∧ _ ∧ _).2.2.2.2.2.2.2 | exact (by with_reducible assumption : _ ∧ _ ∧ _ ∧ _ ∧ _ ∧ _ ∧ _ ∧ _ ∧ _).2.2.2.2.2.2.2.1 | exact (by with_reducible assumption : _ ∧ _ ∧ _ ∧ _ ∧ _ ∧ _ ∧ _ ∧ _ ∧ _).2.2.2.2.2.2.2.2 | exact (by with_reducible assumption : _ ∧ _ ∧ _ ∧ _ ∧ _ ∧ _ ∧ _ ∧ _ ∧ _ ∧ _).2.2.2.2.2.2.2.2.1 | exact (by with_reducible assumption : _ ∧ _ ∧ _ ∧ _ ∧ _ ∧ _ ∧ _ ∧ _ ∧ _ ∧ _).2.2.2.2.2.2.2.2.2 | exact (by with_reducible assumption : _ ∧ _ ∧ _ ∧ _ ∧ _ ∧ _ ∧ _ ∧ _ ∧ _ ∧ _ ∧ _).2.2.2.2.2.2.2.2.2.1 | exact (by with_reducible assumption : _ ∧ _ ∧ _ ∧ _ ∧ _ ∧ _ ∧ _ ∧ _ ∧ _ ∧ _ ∧ _).2.2.2.2.2.2.2.2.2.2 | exact (by with_reducible assumption : _ ∧ _ ∧ _ ∧ _ ∧ _ ∧ _ ∧ _ ∧ _ ∧ _ ∧ _ ∧ _ ∧ _).2.2.2.2.2.2.2.2.2.2.1 | exact (by with_reducible assumption : _ ∧ _ ∧ _ ∧ _ ∧ _ ∧ _ ∧ _ ∧ _ ∧ _ ∧ _ ∧ _ ∧ _).2.2.2.2.2.2.2.2.2.2.2 | exact (by with_reducible assumption : _ ∧ _ ∧ _ ∧ _ ∧ _ ∧ _ ∧ _ ∧ _ ∧ _ ∧ _ ∧ _ ∧ _ ∧ _).2.2.2.2.2.2.2.2.2.2.2.1 | exact (by with_reducible assumption : _ ∧ _ ∧ _ ∧ _ ∧ _ ∧ _ ∧ _ ∧ _ ∧ _ ∧ _ ∧ _ ∧ _ ∧ _).2.2.2.2.2.2.2.2.2.2.2.2))
  (k_with "ne" => ((refine neN ?_); (try dsimp only); first | (refine Nat.ne_of_lt ?_; k_extra "lt") | (refine Nat.ne_of_gt ?_; k_extra "lt") | omega))
  (k_with "all" => (first | assumption | exact all_nil | (refine' all_cons ?a9Z5 ?b9Z5; (case a9Z5 => k_extra "ne"); (case b9Z5 => k_extra "all"))))
  (k_with "ite" => (k_closed; k_dflt (first | (refine' @ite_pos _ _ _ _ ?h1Z6 ?_; (case h1Z6 => decide); k_whole) | (refine' @ite_neg _ _ _ _ ?h2Z6 ?_; (case h2Z6 => decide); k_whole))))
  (k_with "getAttr ref true" => (k_here; k_dflt (refine' get_own ?k1Z7 ?k2Z7 ?k3Z7 ?k4Z7 ?k5Z7 ?k6Z7 ?k7Z7 ?k8Z7 ?k9Z7 ?_; (case k1Z7 => k_asm); (case k2Z7 => k_asm); (case k3Z7 => k_inst); (case k4Z7 => k_is); (case k5Z7 => k_is); (case k6Z7 => k_is); (case k7Z7 => k_is); (case k8Z7 => k_get); (case k9Z7 => k_handed); k_whole)))
  (k_with "eval Name" => (k_here; name_kind "local"; k_dflt (refine' nameX_L ?FZ8 ?vZ8 ?_ ?aZ8 ?bZ8; (case FZ8 => k_asm); (case aZ8 => rfl); (case bZ8 => rfl); (case vZ8 => rfl); k_whole)))
  (k_with "eval Name" => (k_here; name_kind "globalImplicit"; k_dflt (first | (refine' nameX_K ?FZ9 ?XZ9 ?TZ9 ?eZ9 ?_ ?aZ9 ?bZ9; (case FZ9 => k_asm); (case XZ9 => k_asm); (case TZ9 => k_asm); (case aZ9 => rfl); (case bZ9 => rfl); (case eZ9 => k_is); k_whole) | (refine' nameX_B ?F9Z9 ?X9Z9 ?T9Z9 ?e9Z9 ?v9Z9 ?n9Z9 ?_ ?a9Z9 ?b9Z9; (case F9Z9 => k_asm); (case X9Z9 => k_asm); (case T9Z9 => k_asm); (case a9Z9 => rfl); (case b9Z9 => rfl); (case e9Z9 => k_is); (case v9Z9 => boot_fast); (case n9Z9 => decide); k_whole))))
  (k_with "callWith ref cons nil" => (k_here; k_dflt (first | (refine' callWith_K ?k1Z10 ?k2Z10 ?_; (case k1Z10 => k_asm); (case k2Z10 => k_is); k_whole) | (refine' callWith_K0 ?k3Z10 ?k4Z10 ?_; (case k3Z10 => first | with_reducible assumption | (refine' Frag.In.keeps ?x8Z10 (Fr.keep ?f8Z10); (case f8Z10 => with_reducible assumption); (case x8Z10 => with_reducible assumption)) | k_in); (case k4Z10 => k_is); k_whole) | (refine' callWith_M0 ?k5Z10 ?k6Z10 ?_; (case k5Z10 => k_meth); (case k6Z10 => k_is); k_whole; try dsimp only [List.nil_append, List.cons_append]))))
  (k_with "exec While Constant cons nil" => (k_here; k_dflt (refine whl_start 100 ?_)))
  (k_with "call builtin:list.append cons nil" => (k_here; (with_reducible show wpAny _ _ (call (Value.builtin _) [Value.ref _, _]) _ _ _); k_dflt (refine' append_K ?k1Z12 ?k2Z12 ?k3Z12 ?_ ?zZ12; (case k1Z12 => k_asm); (case k2Z12 => k_asm); (case k3Z12 => k_upd); (case zZ12 => first | size_fits | k_extra "size9"); k_whole); intro h' F' N'; (try k_sweep)))
  (k_with "compareOp In" => (k_here; (with_reducible show wpAny _ _ (compareOp CmpOp.In (Value.bytes _ _) (Value.ref _)) _ _ _); k_dflt (refine' md_in (md_at ?FZ32 ?DZ32) ?lZ32 (bk_is _ _ _ _) ?vZ32 ?_; (case FZ32 => k_asm); (case DZ32 => k_asm); (case lZ32 => k_asm); (case vZ32 => k_asm); k_whole)))
  (k_with "subscriptTail" => (k_here; (with_reducible show wpAny _ _ (subscriptTail _ _ (Value.ref _) (Value.bytes _ _)) _ _ _); k_dflt (refine' md_item (md_at ?FZ33 ?DZ33) (bk_is _ _ _ _) ?vZ33 ?_; (case FZ33 => k_asm); (case DZ33 => k_asm); (case vZ33 => k_asm); k_whole)))
  (k_with "getMethod ref" => (k_here; (with_reducible show wpAny _ _ (getMethod (Value.ref _) (Str.ofString "get") _) _ _ _); k_dflt (refine' md_getm (knd := bytesKind _ _) (md_at ?FZ34 ?DZ34) ?_; (case FZ34 => k_asm); (case DZ34 => k_asm); k_whole)))
  (k_with "call builtin:dict.get" => (k_here; k_dflt (first | ((with_reducible show wpAny _ _ (call (Value.builtin "dict.get") [Value.ref _, Value.bytes _ _]) _ _ _); refine' md_get1 (md_at ?FZ35 ?DZ35) ?lZ35 (bk_is _ _ _ _) ?vZ35 ?_; (case FZ35 => k_asm); (case DZ35 => k_asm); (case lZ35 => k_asm); (case vZ35 => k_asm); k_whole) | ((with_reducible show wpAny _ _ (call (Value.builtin "dict.get") [Value.ref _, Value.bytes _ _, _]) _ _ _); refine' md_get2 (md_at ?FZ35 ?DZ35) ?lZ35 (bk_is _ _ _ _) ?vZ35 ?_; (case FZ35 => k_asm); (case DZ35 => k_asm); (case lZ35 => k_asm); (case vZ35 => k_asm); k_whole)); (try dsimp only [Option.getD])))
  (k_with "compareOp Eq bytes none" => with_reducible refine eq_bytes_none ?_)
  trivial




def rootRes (f0 : Option (Addr × Value × Bool)) (r now : Int) (z : Bool) : Array UInt8 × Option Int × Res :=
  match f0 with
  | some (b, _, rep) => (passT rep r rootB, passU rep r now, .run b)
  | none => (rootB, none, if z then .send else .nil)
section
variable {P : Bool} {f1 f0 : Option (Addr × Value × Bool)} {r now : Int} {T : Array UInt8} {M : Option (Array UInt8)} {U : Option Int} {b : Addr} {told : Value} {rep : Bool}
theorem so_rr (hP : P = false) (h1 : f1 = none ∨ (f1 = some (b, told, rep) ∧ U.isSome = true ∧ rep = false)) (hr : atRoot T M U = false) {z : Bool} (hz : U.isSome = z) : stepOne P f1 f0 r T M U now = rootRes f0 r now z := by
  rw [so_home (.inl hP) h1, hr, hP, ← hz]
  unfold rootRes
  cases f0 <;> rfl
theorem so_rr1 (hP : P = false) (h1 : f1 = none) : stepOne P f1 f1 r rootB none none now = rootRes f1 r now true := by
  rw [so_send1 hP h1 (by rfl), h1]; rfl
end
theorem LResIs.of1 {f1 f0 : Option (Addr × Value × Bool)} {x : Addr × Value × Bool} {W : Array UInt8} {res : Res} {r : Addr} {ow : List (Addr × Obj)} (h : f1 = some x) (l : LResIs (some x) (some x) W res r ow) : LResIs f1 f0 W res r ow := by
  subst h
  cases l with
  | nil => exact .nil
  | run h => exact .run (.inl (h.elim id id))
  | send => exact .send
theorem LResIs.of0 {f1 f0 : Option (Addr × Value × Bool)} {W : Array UInt8} {res : Res} {r : Addr} {ow : List (Addr × Obj)} (l : LResIs f0 f0 W res r ow) : LResIs f1 f0 W res r ow := by
  cases l with
  | nil => exact .nil
  | run h => exact .run (.inr (h.elim id id))
  | send => exact .send
theorem LResIs.ofW {f1 f0 : Option (Addr × Value × Bool)} {V W : Array UInt8} {tp : Addr} {r : Addr} {ow : List (Addr × Obj)} (l : LResIs f1 f0 V (.run tp) r ow) : LResIs f1 f0 W (.run tp) r ow := by
  cases l with
  | run h => exact .run h


theorem reg_8 : True := by
  (k_with "compareOp In" => (k_here; (with_reducible show wpAny _ _ (compareOp CmpOp.In (Value.bytes _ _) (Value.ref _)) _ _ _); k_dflt (refine' in_prefs (list_base ?FZ37 ?DZ37) ?hPZ37 ?_; (case FZ37 => k_asm); (case DZ37 => assumption); (case hPZ37 => assumption); k_whole)))
  (k_with "subscriptTail" => (k_here; (with_reducible show wpAny _ _ (subscriptTail _ _ (Value.ref _) (Value.int _ _)) _ _ _); k_dflt (refine' item_tupleT (tup_base ?FZ38 ?DZ38) ?aZ38 ?bZ38 ?cZ38 ?dZ38 ?_; (case FZ38 => k_asm); (case DZ38 => assumption); (case aZ38 => decide); (case bZ38 => decide); (case cZ38 => rfl); (case dZ38 => rfl); k_whole)))
  (k_with "call ref" => (k_here; (with_reducible show wpAny _ _ (call (Value.ref 877) _ _) _ _ _); k_dflt (refine' home_l ?amZ39 ?NZ39 ?offZ39 ?hwZ39 ?_; (case amZ39 => (refine' Amb.mk ?aBZ39 ?aFZ39 ?aXZ39 ?aTZ39 ?akZ39 ?adZ39 ?auZ39; (case aBZ39 => k_asm); (case aFZ39 => k_asm); (case aXZ39 => k_asm); (case aTZ39 => k_asm); (case akZ39 => first | exact rfl | assumption); (case adZ39 => ktr_room); (case auZ39 => ktr_units))); (case NZ39 => k_asm); (case offZ39 => ((repeat (refine List.forall_mem_cons.mpr ⟨?_, ?_⟩; (first | with_reducible assumption | k_ne))); k_asm)); (case hwZ39 => k_asm); k_whole; intro h9 tk9 wo9 t9 hw9 F9 N9; (try dsimp only); (try k_fold))))
  (k_with "call ref" => (k_here; (with_reducible show wpAny _ _ (call (Value.ref 884) _ _) _ _ _); k_dflt (refine' ran_g ?amZ40 ?NZ40 ?offZ40 ?hwZ40 ?htZ40 ?_; (case amZ40 => (refine' Amb.mk ?aBZ40 ?aFZ40 ?aXZ40 ?aTZ40 ?akZ40 ?adZ40 ?auZ40; (case aBZ40 => k_asm); (case aFZ40 => k_asm); (case aXZ40 => k_asm); (case aTZ40 => k_asm); (case akZ40 => first | exact rfl | assumption); (case adZ40 => ktr_room); (case auZ40 => ktr_units))); (case NZ40 => k_asm); (case offZ40 => ((repeat (refine List.forall_mem_cons.mpr ⟨?_, ?_⟩; (first | with_reducible assumption | k_ne))); k_asm)); (case hwZ40 => k_asm); (case htZ40 => k_asm); k_whole; intro h9 tk9 wo9 r9 ow9 t9 u9 hw9 hl9 F9 N9 hlt9; (try dsimp only); (try k_fold))))
  (k_with "call ref" => (k_here; (with_reducible show wpAny _ _ (call (Value.ref 870) _ _) _ _ _); k_dflt (refine' found_c ?amZ41 ?NZ41 ?offZ41 ?hwZ41 ?d1Z41 ?d3Z41 ?l3Z41 ?v1Z41 ?HZ41 ?_ ?_; (case amZ41 => (refine' Amb.mk ?aBZ41 ?aFZ41 ?aXZ41 ?aTZ41 ?akZ41 ?adZ41 ?auZ41; (case aBZ41 => k_asm); (case aFZ41 => k_asm); (case aXZ41 => k_asm); (case aTZ41 => k_asm); (case akZ41 => first | exact rfl | assumption); (case adZ41 => ktr_room); (case auZ41 => ktr_units))); (case NZ41 => k_asm); (case offZ41 => ((repeat (refine List.forall_mem_cons.mpr ⟨?_, ?_⟩; (first | with_reducible assumption | k_ne))); k_asm)); (case hwZ41 => k_asm); (case d1Z41 => k_asm); (case v1Z41 => k_asm); (case d3Z41 => k_asm); (case l3Z41 => k_asm); (case HZ41 => k_asm); (all_goals (first | (intro tp9 cmd9 tc9 rep9 nt9 hf9 ht9 h9 tk9 F9 N9) | (intro hf9 h9 tk9 F9 N9))); (all_goals (try dsimp only)); (all_goals (try k_fold)))))
  trivial


theorem at_root_l {w mean mg mb dp un gd cn cs a ccd cl outer A₀ base h₀ L m} {s : Shared} {Q E : Value → Shared → Prop} {wd own pf : Addr} {wo : Obj} {r : Int} {tr : Tok} {okvs kvs4 : List (List UInt8 × Value)} {rd4 : Addr} {Tv Uv Mv : Value} {W : Array UInt8} {tW tn : Tok} {now : Int} {z : Bool} {f0 : Option (Addr × Value × Bool)} {rest : List (Addr × Obj)}
  (am : Amb 15 120 w mean mg mb dp un cs outer A₀ base h₀ L m s.heap) (N : News h₀ L s.heap ((wd, wo) :: rest)) (hoff : ∀ p ∈ rest, p.1 ≠ wd) (hw : Obj.IsDictOf (strKind PySem.Challenge.rw_og0286_01.row.prog w) wo (wk Tv Uv Mv (.ref own) (.ref pf) (.int r tr))) (hl1 : h₀.DictOf (bytesKind PySem.Challenge.rw_og0286_01.row.prog w) own okvs) (hl4 : h₀.DictOf (bytesKind PySem.Challenge.rw_og0286_01.row.prog w) rd4 kvs4) (lo4 : (rd4 == sysModules) = false) (hv4 : valueAt okvs rootB.toList = some (.ref rd4)) (H4 : FindL h₀ (fval kvs4 W.toList) f0)
  (hret : ∀ h' tk' wo' r' ow T' U' (t u : Tok) res, rootRes f0 r now z = (T', U', res) → Obj.IsDictOf (strKind PySem.Challenge.rw_og0286_01.row.prog w) wo' (wk (.bytes T' t) (optV U' u) Mv (.ref own) (.ref pf) (.int r tr)) → LResIs f0 f0 W res r' ow → Fr h₀ L h' m → News h₀ L h' (ow ++ (wd, wo') :: rest) → (∀ q ∈ ow, AllLt q.1 ((wd, wo) :: rest)) → Q (.ref r') { s with heap := h', toks := tk' }) :
  wpAny (model PySem.Challenge.rw_og0286_01.row.prog w) (ktrTop dp un gd cn cs L a ccd cl outer) (call (.ref 891) [.ref wd, .bytes W tW, .int now tn, .bool z]) Q E s := by
  obtain ⟨B, F, X, T, hk, hd, hu⟩ := am
  revert X; k_fill; intro X
  refine wpAny_call ?_
  k_dflt cell_enter
  rename (Fr h₀ L _ m) => FG
  have hl1g := hl1.keep FG.keep
  have hl4g := hl4.keep FG.keep
  have H4g := H4.keep FG.keep
  clear hl1 hl4 H4
  repeat' (first | (k_unfold; (try dsimp only)) | (k_end; wrow_close) | (walk1 <;> (try dsimp only)) | (leave1; walk_say "STEP leave1"; try dsimp only) | fail "no step")
  all_goals (first | first | (exact hret _ _ _ _ _ (passT _ r rootB) (passU _ r now) _ _ (.run _) (by rw [show f0 = _ from (by with_reducible assumption)]; rfl) (by assumption) (LResIs.of1 (by with_reducible assumption) (LResIs.ofW (by assumption))) (by assumption) (by assumption) (by assumption)) | ((try kob_lit); exact hret _ _ _ _ _ rootB none _ 0 .nil (by rw [show f0 = none from (by with_reducible assumption), show z = false from (by with_reducible assumption)]; rfl) (by assumption) LResIs.nil (by assumption) (news_app (cb_drop (by assumption) (by ((repeat (refine sub_cons ?_ ?_; k_mem)); (first | exact List.forall_mem_nil _ | ((repeat (first | exact fun p hp => hp | refine sub_skip ?_))))))) (cb_drop (by assumption) (by ((repeat (refine sub_cons ?_ ?_; k_mem)); (first | exact List.forall_mem_nil _ | ((repeat (first | exact fun p hp => hp | refine sub_skip ?_)))))))) (by first | exact all1 (by (simp only [AllLt]); first | with_reducible assumption | with_reducible exact And.right (by with_reducible assumption) | with_reducible exact And.right (And.right (by with_reducible assumption))) | exact all2 (by (simp only [AllLt]); first | with_reducible assumption | with_reducible exact And.right (by with_reducible assumption) | with_reducible exact And.right (And.right (by with_reducible assumption))) (by (simp only [AllLt]); first | with_reducible assumption | with_reducible exact And.right (by with_reducible assumption) | with_reducible exact And.right (And.right (by with_reducible assumption))))) | ((try kob_lit); exact hret _ _ _ _ _ rootB none _ 0 .send (by rw [show f0 = none from (by with_reducible assumption), show z = true from (by with_reducible assumption)]; rfl) (by assumption) LResIs.send (by assumption) (news_app (cb_drop (by assumption) (by ((repeat (refine sub_cons ?_ ?_; k_mem)); (first | exact List.forall_mem_nil _ | ((repeat (first | exact fun p hp => hp | refine sub_skip ?_))))))) (cb_drop (by assumption) (by ((repeat (refine sub_cons ?_ ?_; k_mem)); (first | exact List.forall_mem_nil _ | ((repeat (first | exact fun p hp => hp | refine sub_skip ?_)))))))) (by first | exact all1 (by (simp only [AllLt]); first | with_reducible assumption | with_reducible exact And.right (by with_reducible assumption) | with_reducible exact And.right (And.right (by with_reducible assumption))) | exact all2 (by (simp only [AllLt]); first | with_reducible assumption | with_reducible exact And.right (by with_reducible assumption) | with_reducible exact And.right (And.right (by with_reducible assumption))) (by (simp only [AllLt]); first | with_reducible assumption | with_reducible exact And.right (by with_reducible assumption) | with_reducible exact And.right (And.right (by with_reducible assumption))))) | w_report)


theorem reg_9 : True := by
  (k_with "call ref" => (k_here; (with_reducible show wpAny _ _ (call (Value.ref 891) _ _) _ _ _); k_dflt (refine' at_root_l ?amZ42 ?NZ42 ?offZ42 ?hwZ42 ?d1Z42 ?d4Z42 ?l4Z42 ?v4Z42 ?H4Z42 ?_; (case amZ42 => (refine' Amb.mk ?aBZ42 ?aFZ42 ?aXZ42 ?aTZ42 ?akZ42 ?adZ42 ?auZ42; (case aBZ42 => k_asm); (case aFZ42 => k_asm); (case aXZ42 => k_asm); (case aTZ42 => k_asm); (case akZ42 => first | exact rfl | assumption); (case adZ42 => ktr_room); (case auZ42 => ktr_units))); (case NZ42 => k_asm); (case offZ42 => ((repeat (refine List.forall_mem_cons.mpr ⟨?_, ?_⟩; (first | with_reducible assumption | k_ne))); k_asm)); (case hwZ42 => k_asm); (case d1Z42 => k_asm); (case v4Z42 => k_asm); (case d4Z42 => k_asm); (case l4Z42 => k_asm); (case H4Z42 => k_asm); k_whole; intro h9 tk9 wo9 r9 ow9 T9 U9 t9 u9 res9 hrr9 hw9 hl9 F9 N9 hlt9; (try dsimp only); (try k_fold))))
  trivial


theorem key_root {w mean mg mb dp un gd cn cs a ccd cl outer A₀ base h₀ L m} {s : Shared} {Q E : Value → Shared → Prop} {wd own pf : Addr} {wo : Obj} {r : Int} {tr : Tok} {Pb W : Array UInt8} {S : Option (Array UInt8)} {t1 t2 : Tok} {okvs kvs3 kvs4 : List (List UInt8 × Value)} {rd3 rd4 : Addr} {Mv : Value} {tT tM tu tW tn : Tok} {now u0 : Int} {P : Bool} {f1 f0 : Option (Addr × Value × Bool)} {rest : List (Addr × Obj)}
  (am : Amb 20 160 w mean mg mb dp un cs outer A₀ base h₀ L m s.heap) (N : News h₀ L s.heap ((wd, wo) :: rest)) (hoff : ∀ p ∈ rest, p.1 ≠ wd) (hw : Obj.IsDictOf (strKind PySem.Challenge.rw_og0286_01.row.prog w) wo (wk (.bytes rootB tT) .none .none (.ref own) (.ref pf) (.int r tr))) (hpf : h₀.IsList pf (pfVals Pb S t1 t2).toArray) (hP : prefP Pb S W = P)
  (hl1 : h₀.DictOf (bytesKind PySem.Challenge.rw_og0286_01.row.prog w) own okvs) (hl3 : h₀.DictOf (bytesKind PySem.Challenge.rw_og0286_01.row.prog w) rd3 kvs3) (lo3 : (rd3 == sysModules) = false) (hv3 : valueAt okvs rootB.toList = some (.ref rd3)) (H3 : FindL h₀ (fval kvs3 W.toList) f1) 
  (hret : ∀ h' tk' wo' r' ow T' U' (t u : Tok) res, stepOne P f1 f1 r rootB none none now = (T', U', res) → Obj.IsDictOf (strKind PySem.Challenge.rw_og0286_01.row.prog w) wo' (wk (.bytes T' t) (optV U' u) .none (.ref own) (.ref pf) (.int r tr)) → LResIs f1 f1 W res r' ow → Fr h₀ L h' m → News h₀ L h' (ow ++ (wd, wo') :: rest) → (∀ q ∈ ow, AllLt q.1 ((wd, wo) :: rest)) → Q (.ref r') { s with heap := h', toks := tk' }) :
  wpAny (model PySem.Challenge.rw_og0286_01.row.prog w) (ktrTop dp un gd cn cs L a ccd cl outer) (call (.ref 898) [.ref wd, .bytes W tW, .int now tn]) Q E s := by
  obtain ⟨B, F, X, T, hk, hd, hu⟩ := am
  revert X; k_fill; intro X
  refine wpAny_call ?_
  k_dflt cell_enter
  rename (Fr h₀ L _ m) => FG
  have hl1g := hl1.keep FG.keep
  have hl3g := hl3.keep FG.keep
  have hpfg := list_keep FG.keep hpf
  have H3g := H3.keep FG.keep
  clear hl1 hl3 H3 hpf
  repeat' (first | (k_unfold; (try dsimp only)) | (k_end; wrow_close) | (walk1 <;> (try dsimp only)) | (leave1; walk_say "STEP leave1"; try dsimp only) | fail "no step")
  all_goals (first | first | (exact hret _ _ _ _ _ _ _ _ _ _ (by first | exact (so_rr1 (by with_reducible assumption) (by with_reducible assumption)).trans (by assumption)) (by assumption) (LResIs.of0 (by assumption)) (by assumption) (by assumption) (by assumption)) | (exact hret _ _ _ _ _ (passT _ r rootB) (passU _ r now) _ _ (.run _) (so_run1 (by first | exact Or.inl (by with_reducible assumption) | exact Or.inr (by decide)) (by with_reducible assumption) (by first | exact Or.inl rfl | exact Or.inr (by with_reducible assumption))) (by assumption) (LResIs.of1 (by with_reducible assumption) (LResIs.ofW (by assumption))) (by assumption) (by assumption) (by assumption)) | ((try kob_lit); exact hret _ _ _ _ _ prefB none _ 0 .nil (by first | exact so_pref (by with_reducible assumption) (by decide) | exact so_hpref (b := 0) (told := .none) (rep := false) (by decide) (by with_reducible assumption) (Or.inl (by with_reducible assumption)) rfl | exact so_hpref (by decide) (by with_reducible assumption) (Or.inr ⟨by with_reducible assumption, rfl, by with_reducible assumption⟩) rfl) (by assumption) LResIs.nil (by assumption) (news_app (cb_drop (by assumption) (by ((repeat (refine sub_cons ?_ ?_; k_mem)); (first | exact List.forall_mem_nil _ | ((repeat (first | exact fun p hp => hp | refine sub_skip ?_))))))) (cb_drop (by assumption) (by ((repeat (refine sub_cons ?_ ?_; k_mem)); (first | exact List.forall_mem_nil _ | ((repeat (first | exact fun p hp => hp | refine sub_skip ?_)))))))) (by first | exact all1 (by (simp only [AllLt]); first | with_reducible assumption | with_reducible exact And.right (by with_reducible assumption) | with_reducible exact And.right (And.right (by with_reducible assumption))) | exact all2 (by (simp only [AllLt]); first | with_reducible assumption | with_reducible exact And.right (by with_reducible assumption) | with_reducible exact And.right (And.right (by with_reducible assumption))) (by (simp only [AllLt]); first | with_reducible assumption | with_reducible exact And.right (by with_reducible assumption) | with_reducible exact And.right (And.right (by with_reducible assumption))))) | w_report)

theorem key_mode {w mean mg mb dp un gd cn cs a ccd cl outer A₀ base h₀ L m} {s : Shared} {Q E : Value → Shared → Prop} {wd own pf : Addr} {wo : Obj} {r : Int} {tr : Tok} {Pb W : Array UInt8} {S : Option (Array UInt8)} {t1 t2 : Tok} {okvs kvs3 kvs4 : List (List UInt8 × Value)} {rd3 rd4 : Addr} {Mv : Value} {tT tM tu tW tn : Tok} {now u0 : Int} {P : Bool} {f1 f0 : Option (Addr × Value × Bool)} {rest : List (Addr × Obj)}
  (am : Amb 20 160 w mean mg mb dp un cs outer A₀ base h₀ L m s.heap) (N : News h₀ L s.heap ((wd, wo) :: rest)) (hoff : ∀ p ∈ rest, p.1 ≠ wd) (hw : Obj.IsDictOf (strKind PySem.Challenge.rw_og0286_01.row.prog w) wo (wk (.bytes rootB tT) .none (.bytes copyB tM) (.ref own) (.ref pf) (.int r tr))) (hpf : h₀.IsList pf (pfVals Pb S t1 t2).toArray) (hP : prefP Pb S W = P)
  (hl1 : h₀.DictOf (bytesKind PySem.Challenge.rw_og0286_01.row.prog w) own okvs) (hl3 : h₀.DictOf (bytesKind PySem.Challenge.rw_og0286_01.row.prog w) rd3 kvs3) (lo3 : (rd3 == sysModules) = false) (hv3 : valueAt okvs copyB.toList = some (.ref rd3)) (H3 : FindL h₀ (fval kvs3 W.toList) f1) (hl4 : h₀.DictOf (bytesKind PySem.Challenge.rw_og0286_01.row.prog w) rd4 kvs4) (lo4 : (rd4 == sysModules) = false) (hv4 : valueAt okvs rootB.toList = some (.ref rd4)) (H4 : FindL h₀ (fval kvs4 W.toList) f0)
  (hret : ∀ h' tk' wo' r' ow T' U' (t u : Tok) res, stepOne P f1 f0 r rootB (some copyB) none now = (T', U', res) → Obj.IsDictOf (strKind PySem.Challenge.rw_og0286_01.row.prog w) wo' (wk (.bytes T' t) (optV U' u) (.bytes copyB tM) (.ref own) (.ref pf) (.int r tr)) → LResIs f1 f0 W res r' ow → Fr h₀ L h' m → News h₀ L h' (ow ++ (wd, wo') :: rest) → (∀ q ∈ ow, AllLt q.1 ((wd, wo) :: rest)) → Q (.ref r') { s with heap := h', toks := tk' }) :
  wpAny (model PySem.Challenge.rw_og0286_01.row.prog w) (ktrTop dp un gd cn cs L a ccd cl outer) (call (.ref 898) [.ref wd, .bytes W tW, .int now tn]) Q E s := by
  obtain ⟨B, F, X, T, hk, hd, hu⟩ := am
  revert X; k_fill; intro X
  refine wpAny_call ?_
  k_dflt cell_enter
  rename (Fr h₀ L _ m) => FG
  have hl1g := hl1.keep FG.keep
  have hl3g := hl3.keep FG.keep
  have hpfg := list_keep FG.keep hpf
  have H3g := H3.keep FG.keep
  have hl4g := hl4.keep FG.keep
  have H4g := H4.keep FG.keep
  clear hl1 hl3 H3 hl4 H4 hpf
  repeat' (first | (k_unfold; (try dsimp only)) | (k_end; wrow_close) | (walk1 <;> (try dsimp only)) | (leave1; walk_say "STEP leave1"; try dsimp only) | fail "no step")
  all_goals (first | first | (exact hret _ _ _ _ _ _ _ _ _ _ (by first | exact (so_rr (b := 0) (told := .none) (rep := false) (by with_reducible assumption) (Or.inl (by with_reducible assumption)) rfl rfl).trans (by assumption) | exact (so_rr (by with_reducible assumption) (Or.inr ⟨by with_reducible assumption, rfl, by with_reducible assumption⟩) rfl rfl).trans (by assumption)) (by assumption) (LResIs.of0 (by assumption)) (by assumption) (by assumption) (by assumption)) | (exact hret _ _ _ _ _ (passT _ r rootB) (passU _ r now) _ _ (.run _) (so_run1 (by first | exact Or.inl (by with_reducible assumption) | exact Or.inr (by decide)) (by with_reducible assumption) (by first | exact Or.inl rfl | exact Or.inr (by with_reducible assumption))) (by assumption) (LResIs.of1 (by with_reducible assumption) (LResIs.ofW (by assumption))) (by assumption) (by assumption) (by assumption)) | ((try kob_lit); exact hret _ _ _ _ _ prefB none _ 0 .nil (by first | exact so_pref (by with_reducible assumption) (by decide) | exact so_hpref (b := 0) (told := .none) (rep := false) (by decide) (by with_reducible assumption) (Or.inl (by with_reducible assumption)) rfl | exact so_hpref (by decide) (by with_reducible assumption) (Or.inr ⟨by with_reducible assumption, rfl, by with_reducible assumption⟩) rfl) (by assumption) LResIs.nil (by assumption) (news_app (cb_drop (by assumption) (by ((repeat (refine sub_cons ?_ ?_; k_mem)); (first | exact List.forall_mem_nil _ | ((repeat (first | exact fun p hp => hp | refine sub_skip ?_))))))) (cb_drop (by assumption) (by ((repeat (refine sub_cons ?_ ?_; k_mem)); (first | exact List.forall_mem_nil _ | ((repeat (first | exact fun p hp => hp | refine sub_skip ?_)))))))) (by first | exact all1 (by (simp only [AllLt]); first | with_reducible assumption | with_reducible exact And.right (by with_reducible assumption) | with_reducible exact And.right (And.right (by with_reducible assumption))) | exact all2 (by (simp only [AllLt]); first | with_reducible assumption | with_reducible exact And.right (by with_reducible assumption) | with_reducible exact And.right (And.right (by with_reducible assumption))) (by (simp only [AllLt]); first | with_reducible assumption | with_reducible exact And.right (by with_reducible assumption) | with_reducible exact And.right (And.right (by with_reducible assumption))))) | w_report)

theorem key_own {w mean mg mb dp un gd cn cs a ccd cl outer A₀ base h₀ L m} {s : Shared} {Q E : Value → Shared → Prop} {wd own pf : Addr} {wo : Obj} {r : Int} {tr : Tok} {Pb W : Array UInt8} {S : Option (Array UInt8)} {t1 t2 : Tok} {okvs kvs3 kvs4 : List (List UInt8 × Value)} {rd3 rd4 : Addr} {Mv : Value} {tT tM tu tW tn : Tok} {now u0 : Int} {P : Bool} {f1 f0 : Option (Addr × Value × Bool)} {rest : List (Addr × Obj)}
  (am : Amb 20 160 w mean mg mb dp un cs outer A₀ base h₀ L m s.heap) (N : News h₀ L s.heap ((wd, wo) :: rest)) (hoff : ∀ p ∈ rest, p.1 ≠ wd) (hw : Obj.IsDictOf (strKind PySem.Challenge.rw_og0286_01.row.prog w) wo (wk (.bytes ownB tT) .none Mv (.ref own) (.ref pf) (.int r tr))) (hpf : h₀.IsList pf (pfVals Pb S t1 t2).toArray) (hP : prefP Pb S W = P)
  (hl1 : h₀.DictOf (bytesKind PySem.Challenge.rw_og0286_01.row.prog w) own okvs) (hl3 : h₀.DictOf (bytesKind PySem.Challenge.rw_og0286_01.row.prog w) rd3 kvs3) (lo3 : (rd3 == sysModules) = false) (hv3 : valueAt okvs ownB.toList = some (.ref rd3)) (H3 : FindL h₀ (fval kvs3 W.toList) f1) (hl4 : h₀.DictOf (bytesKind PySem.Challenge.rw_og0286_01.row.prog w) rd4 kvs4) (lo4 : (rd4 == sysModules) = false) (hv4 : valueAt okvs rootB.toList = some (.ref rd4)) (H4 : FindL h₀ (fval kvs4 W.toList) f0)
  (hret : ∀ h' tk' wo' r' ow T' U' (t u : Tok) res, stepOne P f1 f0 r ownB none none now = (T', U', res) → Obj.IsDictOf (strKind PySem.Challenge.rw_og0286_01.row.prog w) wo' (wk (.bytes T' t) (optV U' u) Mv (.ref own) (.ref pf) (.int r tr)) → LResIs f1 f0 W res r' ow → Fr h₀ L h' m → News h₀ L h' (ow ++ (wd, wo') :: rest) → (∀ q ∈ ow, AllLt q.1 ((wd, wo) :: rest)) → Q (.ref r') { s with heap := h', toks := tk' }) :
  wpAny (model PySem.Challenge.rw_og0286_01.row.prog w) (ktrTop dp un gd cn cs L a ccd cl outer) (call (.ref 898) [.ref wd, .bytes W tW, .int now tn]) Q E s := by
  obtain ⟨B, F, X, T, hk, hd, hu⟩ := am
  revert X; k_fill; intro X
  refine wpAny_call ?_
  k_dflt cell_enter
  rename (Fr h₀ L _ m) => FG
  have hl1g := hl1.keep FG.keep
  have hl3g := hl3.keep FG.keep
  have hpfg := list_keep FG.keep hpf
  have H3g := H3.keep FG.keep
  have hl4g := hl4.keep FG.keep
  have H4g := H4.keep FG.keep
  clear hl1 hl3 H3 hl4 H4 hpf
  repeat' (first | (k_unfold; (try dsimp only)) | (k_end; wrow_close) | (walk1 <;> (try dsimp only)) | (leave1; walk_say "STEP leave1"; try dsimp only) | fail "no step")
  all_goals (first | first | (exact hret _ _ _ _ _ _ _ _ _ _ (by first | exact (so_rr (b := 0) (told := .none) (rep := false) (by with_reducible assumption) (Or.inl (by with_reducible assumption)) rfl rfl).trans (by assumption) | exact (so_rr (by with_reducible assumption) (Or.inr ⟨by with_reducible assumption, rfl, by with_reducible assumption⟩) rfl rfl).trans (by assumption)) (by assumption) (LResIs.of0 (by assumption)) (by assumption) (by assumption) (by assumption)) | (exact hret _ _ _ _ _ (passT _ r ownB) (passU _ r now) _ _ (.run _) (so_run1 (by first | exact Or.inl (by with_reducible assumption) | exact Or.inr (by decide)) (by with_reducible assumption) (by first | exact Or.inl rfl | exact Or.inr (by with_reducible assumption))) (by assumption) (LResIs.of1 (by with_reducible assumption) (LResIs.ofW (by assumption))) (by assumption) (by assumption) (by assumption)) | ((try kob_lit); exact hret _ _ _ _ _ prefB none _ 0 .nil (by first | exact so_pref (by with_reducible assumption) (by decide) | exact so_hpref (b := 0) (told := .none) (rep := false) (by decide) (by with_reducible assumption) (Or.inl (by with_reducible assumption)) rfl | exact so_hpref (by decide) (by with_reducible assumption) (Or.inr ⟨by with_reducible assumption, rfl, by with_reducible assumption⟩) rfl) (by assumption) LResIs.nil (by assumption) (news_app (cb_drop (by assumption) (by ((repeat (refine sub_cons ?_ ?_; k_mem)); (first | exact List.forall_mem_nil _ | ((repeat (first | exact fun p hp => hp | refine sub_skip ?_))))))) (cb_drop (by assumption) (by ((repeat (refine sub_cons ?_ ?_; k_mem)); (first | exact List.forall_mem_nil _ | ((repeat (first | exact fun p hp => hp | refine sub_skip ?_)))))))) (by first | exact all1 (by (simp only [AllLt]); first | with_reducible assumption | with_reducible exact And.right (by with_reducible assumption) | with_reducible exact And.right (And.right (by with_reducible assumption))) | exact all2 (by (simp only [AllLt]); first | with_reducible assumption | with_reducible exact And.right (by with_reducible assumption) | with_reducible exact And.right (And.right (by with_reducible assumption))) (by (simp only [AllLt]); first | with_reducible assumption | with_reducible exact And.right (by with_reducible assumption) | with_reducible exact And.right (And.right (by with_reducible assumption))))) | w_report)

theorem key_pref {w mean mg mb dp un gd cn cs a ccd cl outer A₀ base h₀ L m} {s : Shared} {Q E : Value → Shared → Prop} {wd own pf : Addr} {wo : Obj} {r : Int} {tr : Tok} {Pb W : Array UInt8} {S : Option (Array UInt8)} {t1 t2 : Tok} {okvs kvs3 kvs4 : List (List UInt8 × Value)} {rd3 rd4 : Addr} {Mv : Value} {tT tM tu tW tn : Tok} {now u0 : Int} {P : Bool} {f1 f0 : Option (Addr × Value × Bool)} {rest : List (Addr × Obj)}
  (am : Amb 20 160 w mean mg mb dp un cs outer A₀ base h₀ L m s.heap) (N : News h₀ L s.heap ((wd, wo) :: rest)) (hoff : ∀ p ∈ rest, p.1 ≠ wd) (hw : Obj.IsDictOf (strKind PySem.Challenge.rw_og0286_01.row.prog w) wo (wk (.bytes prefB tT) .none Mv (.ref own) (.ref pf) (.int r tr))) (hpf : h₀.IsList pf (pfVals Pb S t1 t2).toArray) (hP : prefP Pb S W = P)
  (hl1 : h₀.DictOf (bytesKind PySem.Challenge.rw_og0286_01.row.prog w) own okvs) (hl3 : h₀.DictOf (bytesKind PySem.Challenge.rw_og0286_01.row.prog w) rd3 kvs3) (lo3 : (rd3 == sysModules) = false) (hv3 : valueAt okvs prefB.toList = some (.ref rd3)) (H3 : FindL h₀ (fval kvs3 W.toList) f1) (hl4 : h₀.DictOf (bytesKind PySem.Challenge.rw_og0286_01.row.prog w) rd4 kvs4) (lo4 : (rd4 == sysModules) = false) (hv4 : valueAt okvs rootB.toList = some (.ref rd4)) (H4 : FindL h₀ (fval kvs4 W.toList) f0)
  (hret : ∀ h' tk' wo' r' ow T' U' (t u : Tok) res, stepOne P f1 f0 r prefB none none now = (T', U', res) → Obj.IsDictOf (strKind PySem.Challenge.rw_og0286_01.row.prog w) wo' (wk (.bytes T' t) (optV U' u) Mv (.ref own) (.ref pf) (.int r tr)) → LResIs f1 f0 W res r' ow → Fr h₀ L h' m → News h₀ L h' (ow ++ (wd, wo') :: rest) → (∀ q ∈ ow, AllLt q.1 ((wd, wo) :: rest)) → Q (.ref r') { s with heap := h', toks := tk' }) :
  wpAny (model PySem.Challenge.rw_og0286_01.row.prog w) (ktrTop dp un gd cn cs L a ccd cl outer) (call (.ref 898) [.ref wd, .bytes W tW, .int now tn]) Q E s := by
  obtain ⟨B, F, X, T, hk, hd, hu⟩ := am
  revert X; k_fill; intro X
  refine wpAny_call ?_
  k_dflt cell_enter
  rename (Fr h₀ L _ m) => FG
  have hl1g := hl1.keep FG.keep
  have hl3g := hl3.keep FG.keep
  have hpfg := list_keep FG.keep hpf
  have H3g := H3.keep FG.keep
  have hl4g := hl4.keep FG.keep
  have H4g := H4.keep FG.keep
  clear hl1 hl3 H3 hl4 H4 hpf
  repeat' (first | (k_unfold; (try dsimp only)) | (k_end; wrow_close) | (walk1 <;> (try dsimp only)) | (leave1; walk_say "STEP leave1"; try dsimp only) | fail "no step")
  all_goals (first | first | (exact hret _ _ _ _ _ _ _ _ _ _ (by first | exact (so_rr (b := 0) (told := .none) (rep := false) (by with_reducible assumption) (Or.inl (by with_reducible assumption)) rfl rfl).trans (by assumption) | exact (so_rr (by with_reducible assumption) (Or.inr ⟨by with_reducible assumption, rfl, by with_reducible assumption⟩) rfl rfl).trans (by assumption)) (by assumption) (LResIs.of0 (by assumption)) (by assumption) (by assumption) (by assumption)) | (exact hret _ _ _ _ _ (passT _ r prefB) (passU _ r now) _ _ (.run _) (so_run1 (by first | exact Or.inl (by with_reducible assumption) | exact Or.inr (by decide)) (by with_reducible assumption) (by first | exact Or.inl rfl | exact Or.inr (by with_reducible assumption))) (by assumption) (LResIs.of1 (by with_reducible assumption) (LResIs.ofW (by assumption))) (by assumption) (by assumption) (by assumption)) | ((try kob_lit); exact hret _ _ _ _ _ prefB none _ 0 .nil (by first | exact so_pref (by with_reducible assumption) (by decide) | exact so_hpref (b := 0) (told := .none) (rep := false) (by decide) (by with_reducible assumption) (Or.inl (by with_reducible assumption)) rfl | exact so_hpref (by decide) (by with_reducible assumption) (Or.inr ⟨by with_reducible assumption, rfl, by with_reducible assumption⟩) rfl) (by assumption) LResIs.nil (by assumption) (news_app (cb_drop (by assumption) (by ((repeat (refine sub_cons ?_ ?_; k_mem)); (first | exact List.forall_mem_nil _ | ((repeat (first | exact fun p hp => hp | refine sub_skip ?_))))))) (cb_drop (by assumption) (by ((repeat (refine sub_cons ?_ ?_; k_mem)); (first | exact List.forall_mem_nil _ | ((repeat (first | exact fun p hp => hp | refine sub_skip ?_)))))))) (by first | exact all1 (by (simp only [AllLt]); first | with_reducible assumption | with_reducible exact And.right (by with_reducible assumption) | with_reducible exact And.right (And.right (by with_reducible assumption))) | exact all2 (by (simp only [AllLt]); first | with_reducible assumption | with_reducible exact And.right (by with_reducible assumption) | with_reducible exact And.right (And.right (by with_reducible assumption))) (by (simp only [AllLt]); first | with_reducible assumption | with_reducible exact And.right (by with_reducible assumption) | with_reducible exact And.right (And.right (by with_reducible assumption))))) | w_report)

theorem key_live {w mean mg mb dp un gd cn cs a ccd cl outer A₀ base h₀ L m} {s : Shared} {Q E : Value → Shared → Prop} {wd own pf : Addr} {wo : Obj} {r : Int} {tr : Tok} {Pb W : Array UInt8} {S : Option (Array UInt8)} {t1 t2 : Tok} {okvs kvs3 kvs4 : List (List UInt8 × Value)} {rd3 rd4 : Addr} {Mv : Value} {tT tM tu tW tn : Tok} {now u0 : Int} {P : Bool} {f1 f0 : Option (Addr × Value × Bool)} {rest : List (Addr × Obj)}
  (am : Amb 20 160 w mean mg mb dp un cs outer A₀ base h₀ L m s.heap) (N : News h₀ L s.heap ((wd, wo) :: rest)) (hoff : ∀ p ∈ rest, p.1 ≠ wd) (hw : Obj.IsDictOf (strKind PySem.Challenge.rw_og0286_01.row.prog w) wo (wk (.bytes prefB tT) (.int u0 tu) Mv (.ref own) (.ref pf) (.int r tr))) (hpf : h₀.IsList pf (pfVals Pb S t1 t2).toArray) (hP : prefP Pb S W = P)
  (hl1 : h₀.DictOf (bytesKind PySem.Challenge.rw_og0286_01.row.prog w) own okvs) (hl3 : h₀.DictOf (bytesKind PySem.Challenge.rw_og0286_01.row.prog w) rd3 kvs3) (lo3 : (rd3 == sysModules) = false) (hv3 : valueAt okvs prefB.toList = some (.ref rd3)) (H3 : FindL h₀ (fval kvs3 W.toList) f1) (hl4 : h₀.DictOf (bytesKind PySem.Challenge.rw_og0286_01.row.prog w) rd4 kvs4) (lo4 : (rd4 == sysModules) = false) (hv4 : valueAt okvs rootB.toList = some (.ref rd4)) (H4 : FindL h₀ (fval kvs4 W.toList) f0)
  (hret : ∀ h' tk' wo' r' ow T' U' (t u : Tok) res, stepOne P f1 f0 r prefB none (some u0) now = (T', U', res) → Obj.IsDictOf (strKind PySem.Challenge.rw_og0286_01.row.prog w) wo' (wk (.bytes T' t) (optV U' u) Mv (.ref own) (.ref pf) (.int r tr)) → LResIs f1 f0 W res r' ow → Fr h₀ L h' m → News h₀ L h' (ow ++ (wd, wo') :: rest) → (∀ q ∈ ow, AllLt q.1 ((wd, wo) :: rest)) → Q (.ref r') { s with heap := h', toks := tk' }) :
  wpAny (model PySem.Challenge.rw_og0286_01.row.prog w) (ktrTop dp un gd cn cs L a ccd cl outer) (call (.ref 898) [.ref wd, .bytes W tW, .int now tn]) Q E s := by
  obtain ⟨B, F, X, T, hk, hd, hu⟩ := am
  revert X; k_fill; intro X
  refine wpAny_call ?_
  k_dflt cell_enter
  rename (Fr h₀ L _ m) => FG
  have hl1g := hl1.keep FG.keep
  have hl3g := hl3.keep FG.keep
  have hpfg := list_keep FG.keep hpf
  have H3g := H3.keep FG.keep
  have hl4g := hl4.keep FG.keep
  have H4g := H4.keep FG.keep
  clear hl1 hl3 H3 hl4 H4 hpf
  repeat' (first | (k_unfold; (try dsimp only)) | (k_end; wrow_close) | (walk1 <;> (try dsimp only)) | (leave1; walk_say "STEP leave1"; try dsimp only) | fail "no step")
  all_goals (first | first | (exact hret _ _ _ _ _ _ _ _ _ _ (by first | exact (so_rr (b := 0) (told := .none) (rep := false) (by with_reducible assumption) (Or.inl (by with_reducible assumption)) rfl rfl).trans (by assumption) | exact (so_rr (by with_reducible assumption) (Or.inr ⟨by with_reducible assumption, rfl, by with_reducible assumption⟩) rfl rfl).trans (by assumption)) (by assumption) (LResIs.of0 (by assumption)) (by assumption) (by assumption) (by assumption)) | (exact hret _ _ _ _ _ (passT _ r prefB) (passU _ r now) _ _ (.run _) (so_run1 (by first | exact Or.inl (by with_reducible assumption) | exact Or.inr (by decide)) (by with_reducible assumption) (by first | exact Or.inl rfl | exact Or.inr (by with_reducible assumption))) (by assumption) (LResIs.of1 (by with_reducible assumption) (LResIs.ofW (by assumption))) (by assumption) (by assumption) (by assumption)) | ((try kob_lit); exact hret _ _ _ _ _ prefB none _ 0 .nil (by first | exact so_pref (by with_reducible assumption) (by decide) | exact so_hpref (b := 0) (told := .none) (rep := false) (by decide) (by with_reducible assumption) (Or.inl (by with_reducible assumption)) rfl | exact so_hpref (by decide) (by with_reducible assumption) (Or.inr ⟨by with_reducible assumption, rfl, by with_reducible assumption⟩) rfl) (by assumption) LResIs.nil (by assumption) (news_app (cb_drop (by assumption) (by ((repeat (refine sub_cons ?_ ?_; k_mem)); (first | exact List.forall_mem_nil _ | ((repeat (first | exact fun p hp => hp | refine sub_skip ?_))))))) (cb_drop (by assumption) (by ((repeat (refine sub_cons ?_ ?_; k_mem)); (first | exact List.forall_mem_nil _ | ((repeat (first | exact fun p hp => hp | refine sub_skip ?_)))))))) (by first | exact all1 (by (simp only [AllLt]); first | with_reducible assumption | with_reducible exact And.right (by with_reducible assumption) | with_reducible exact And.right (And.right (by with_reducible assumption))) | exact all2 (by (simp only [AllLt]); first | with_reducible assumption | with_reducible exact And.right (by with_reducible assumption) | with_reducible exact And.right (And.right (by with_reducible assumption))) (by (simp only [AllLt]); first | with_reducible assumption | with_reducible exact And.right (by with_reducible assumption) | with_reducible exact And.right (And.right (by with_reducible assumption))))) | w_report)
end
section
local macro_rules | `(tactic| k_room) => `(tactic| ktr_room)
local macro_rules | `(tactic| k_all) => `(tactic| assumption)
local macro_rules | `(tactic| k_inst) => `(tactic| (refine' inst_base ?iF ?ih1 ?ih2; (case iF => k_asm); (case ih1 => k_asm); (case ih2 => k_asm)))

theorem reg_10 : True := by
  k_with_none
  (k_with "room" => ((with_reducible rename _ + _ < recursionLimit => hR9); first | exact room_k 4 hR9 | exact room_k 37 hR9 | exact room_k 9 hR9 | exact room_k 5 hR9 | exact room_k 14 hR9 | exact room_k 10 hR9 | exact room_k 19 hR9 | exact room_k 15 hR9 | exact room_k 20 hR9 | exact room_k 25 hR9 | exact room_k 35 hR9 | exact room_k 13 hR9 | exact room_k 1 hR9 | exact room_k 38 hR9 | exact room_k 23 hR9 | exact room_k 24 hR9 | exact room_k 29 hR9 | exact room_k 8 hR9 | exact room_k 40 hR9 | exact room_k 39 hR9 | exact room_k 44 hR9 | exact room_k 17 hR9 | exact room_k 21 hR9 | exact room_k 30 hR9 | exact room_k 33 hR9 | exact room_k 16 hR9 | exact room_k 2 hR9 | exact room_k 43 hR9 | exact room_k 7 hR9 | exact room_k 45 hR9 | exact room_k 0 hR9 | exact room_k 3 hR9 | exact room_k 6 hR9 | exact room_k 11 hR9 | exact room_k 12 hR9 | exact room_k 18 hR9 | exact room_k 22 hR9 | exact room_k 26 hR9 | exact room_k 27 hR9 | exact room_k 28 hR9 | exact room_k 31 hR9 | exact room_k 32 hR9 | exact room_k 34 hR9 | exact room_k 36 hR9 | exact room_k 41 hR9 | exact room_k 42 hR9))
  (k_with "units" => ((with_reducible rename _ + _ < cLine => hR9); first | exact room_k 37 hR9 | exact room_k 77 hR9 | exact room_k 117 hR9 | exact room_k 157 hR9 | exact room_k 237 hR9 | exact room_k 197 hR9 | exact room_k 151 hR9 | exact room_k 133 hR9 | exact room_k 277 hR9 | exact room_k 317 hR9 | exact room_k 357 hR9 | exact room_k 4 hR9 | exact room_k 9 hR9 | exact room_k 5 hR9 | exact room_k 14 hR9 | exact room_k 10 hR9 | exact room_k 19 hR9 | exact room_k 15 hR9 | exact room_k 20 hR9 | exact room_k 25 hR9 | exact room_k 35 hR9 | exact room_k 13 hR9 | exact room_k 1 hR9 | exact room_k 38 hR9 | exact room_k 23 hR9 | exact room_k 24 hR9 | exact room_k 29 hR9 | exact room_k 8 hR9 | exact room_k 40 hR9 | exact room_k 39 hR9 | exact room_k 44 hR9 | exact room_k 17 hR9 | exact room_k 21 hR9 | exact room_k 30 hR9 | exact room_k 33 hR9 | exact room_k 16 hR9 | exact room_k 2 hR9 | exact room_k 43 hR9 | exact room_k 7 hR9 | exact room_k 45 hR9))
  (k_with "lt" => (first | with_reducible assumption | exact (by with_reducible assumption : _ ∧ _).1 | exact (by with_reducible assumption : _ ∧ _).2 | exact (by with_reducible assumption : _ ∧ _ ∧ _).2.1 | exact (by with_reducible assumption : _ ∧ _ ∧ _).2.2 | exact (by with_reducible assumption : _ ∧ _ ∧ _ ∧ _).2.2.1 | exact (by with_reducible assumption : _ ∧ _ ∧ _ ∧ _).2.2.2 | exact (by with_reducible assumption : _ ∧ _ ∧ _ ∧ _ ∧ _).2.2.2.1 | exact (by with_reducible assumption : _ ∧ _ ∧ _ ∧ _ ∧ _).2.2.2.2 | exact (by with_reducible assumption : _ ∧ _ ∧ _ ∧ _ ∧ _ ∧ _).2.2.2.2.1 | exact (by with_reducible assumption : _ ∧ _ ∧ _ ∧ _ ∧ _ ∧ _).2.2.2.2.2 | exact (by with_reducible assumption : _ ∧ _ ∧ _ ∧ _ ∧ _ ∧ _ ∧ _).2.2.2.2.2.1 | exact (by with_reducible assumption : _ ∧ _ ∧ _ ∧ _ ∧ _ ∧ _ ∧ _).2.2.2.2.2.2 | exact (by with_reducible assumption : _ ∧ _ ∧ _ ∧ _ ∧ _ ∧ _ ∧ _ ∧ _).2.2.2.2.2.2.1 | exact (by with_reducible assumption : _ ∧ _ ∧ _ ∧ _ ∧ _ ∧ _ ∧ _ ∧ _).2.2.2.2.2.2.2 | exact (by with_reducible assumption : _ ∧ _ ∧ _ ∧ _ ∧ _ ∧ _ ∧ _ ∧ _ ∧ _).2.2.2.2.2.2.2.1 | exact (by with_reducible assumption : _ ∧ _ ∧ _ ∧ _ ∧ _ ∧ _ ∧ _ ∧ _ ∧ _).2.2.2.2.2.2.2.2 | exact (by with_reducible assumption : _ ∧ _ ∧ _ ∧ _ ∧ _ ∧ _ ∧ _ ∧ _ ∧ _ ∧ _).2.2.2.2.2.2.2.2.1 | exact (by with_reducible assumption : _ ∧ _ ∧ _ ∧ _ ∧ _ ∧ _ ∧ _ ∧ _ ∧ _ ∧ _).2.2.2.2.2.2.2.2.2 | exact (by with_reducible assumption : _ ∧ _ ∧ _ ∧ _ ∧ _ ∧ _ ∧ _ ∧ _ ∧ _ ∧ _ ∧ _).2.2.2.2.2.2.2.2.2.1 | exact (by with_reducible assumption : _ ∧ _ ∧ _ ∧ _ ∧ _ ∧ _ ∧ _ ∧ _ ∧ _ ∧ _ ∧ _).2.2.2.2.2.2.2.2.2.2 | exact (by with_reducible assumption : _ ∧ _ ∧ _ ∧ _ ∧ _ ∧ _ ∧ _ ∧ _ ∧ _ ∧ _ ∧ _ ∧ _).2.2.2.2.2.2.2.2.2.2.1 | exact (by with_reducible assumption : _ ∧ _ ∧ _ ∧ _ ∧ _ ∧ _ ∧ _ ∧ _ ∧ _ ∧ _ ∧ _ ∧ _).2.2.2.2.2.2.2.2.2.2.2 | exact (by with_reducible assumption : _ ∧ _ ∧ _ ∧ _ ∧ _ ∧ _ ∧ _ ∧ _ ∧ _ ∧ _ ∧ _ ∧ _ ∧ _).2.2.2.2.2.2.2.2.2.2.2.1 | exact (by with_reducible assumption : _ ∧ _ ∧ _ ∧ _ ∧ _ ∧ _ ∧ _ ∧ _ ∧ _ ∧ _ ∧ _ ∧ _ ∧ _).2.2.2.2.2.2.2.2.2.2.2.2))
  (k_with "ne" => ((refine neN ?_); (try dsimp only); first | (refine Nat.ne_of_lt ?_; k_extra "lt") | (refine Nat.ne_of_gt ?_; k_extra "lt") | omega))
  (k_with "all" => (first | assumption | exact all_nil | (refine' all_cons ?a9Z5 ?b9Z5; (case a9Z5 => k_extra "ne"); (case b9Z5 => k_extra "all"))))
  (k_with "ite" => (k_closed; k_dflt (first | (refine' @ite_pos _ _ _ _ ?h1Z6 ?_; (case h1Z6 => decide); k_whole) | (refine' @ite_neg _ _ _ _ ?h2Z6 ?_; (case h2Z6 => decide); k_whole))))
  (k_with "getAttr ref true" => (k_here; k_dflt (refine' get_own ?k1Z7 ?k2Z7 ?k3Z7 ?k4Z7 ?k5Z7 ?k6Z7 ?k7Z7 ?k8Z7 ?k9Z7 ?_; (case k1Z7 => k_asm); (case k2Z7 => k_asm); (case k3Z7 => k_inst); (case k4Z7 => k_is); (case k5Z7 => k_is); (case k6Z7 => k_is); (case k7Z7 => k_is); (case k8Z7 => k_get); (case k9Z7 => k_handed); k_whole)))
  (k_with "eval Name" => (k_here; name_kind "local"; k_dflt (refine' nameX_L ?FZ8 ?vZ8 ?_ ?aZ8 ?bZ8; (case FZ8 => k_asm); (case aZ8 => rfl); (case bZ8 => rfl); (case vZ8 => rfl); k_whole)))
  (k_with "eval Name" => (k_here; name_kind "globalImplicit"; k_dflt (first | (refine' nameX_K ?FZ9 ?XZ9 ?TZ9 ?eZ9 ?_ ?aZ9 ?bZ9; (case FZ9 => k_asm); (case XZ9 => k_asm); (case TZ9 => k_asm); (case aZ9 => rfl); (case bZ9 => rfl); (case eZ9 => k_is); k_whole) | (refine' nameX_B ?F9Z9 ?X9Z9 ?T9Z9 ?e9Z9 ?v9Z9 ?n9Z9 ?_ ?a9Z9 ?b9Z9; (case F9Z9 => k_asm); (case X9Z9 => k_asm); (case T9Z9 => k_asm); (case a9Z9 => rfl); (case b9Z9 => rfl); (case e9Z9 => k_is); (case v9Z9 => boot_fast); (case n9Z9 => decide); k_whole))))
  (k_with "callWith ref cons nil" => (k_here; k_dflt (first | (refine' callWith_K ?k1Z10 ?k2Z10 ?_; (case k1Z10 => k_asm); (case k2Z10 => k_is); k_whole) | (refine' callWith_K0 ?k3Z10 ?k4Z10 ?_; (case k3Z10 => first | with_reducible assumption | (refine' Frag.In.keeps ?x8Z10 (Fr.keep ?f8Z10); (case f8Z10 => with_reducible assumption); (case x8Z10 => with_reducible assumption)) | k_in); (case k4Z10 => k_is); k_whole) | (refine' callWith_M0 ?k5Z10 ?k6Z10 ?_; (case k5Z10 => k_meth); (case k6Z10 => k_is); k_whole; try dsimp only [List.nil_append, List.cons_append]))))
  (k_with "exec While Constant cons nil" => (k_here; k_dflt (refine whl_start 100 ?_)))
  (k_with "call builtin:list.append cons nil" => (k_here; (with_reducible show wpAny _ _ (call (Value.builtin _) [Value.ref _, _]) _ _ _); k_dflt (refine' append_K ?k1Z12 ?k2Z12 ?k3Z12 ?_ ?zZ12; (case k1Z12 => k_asm); (case k2Z12 => k_asm); (case k3Z12 => k_upd); (case zZ12 => first | size_fits | k_extra "size9"); k_whole); intro h' F' N'; (try k_sweep)))
  (k_with "compareOp In" => (k_here; (with_reducible show wpAny _ _ (compareOp CmpOp.In (Value.bytes _ _) (Value.ref _)) _ _ _); k_dflt (refine' md_in (md_at ?FZ43 ?DZ43) ?lZ43 (bk_is _ _ _ _) ?vZ43 ?_; (case FZ43 => k_asm); (case DZ43 => k_asm); (case lZ43 => k_asm); (case vZ43 => k_asm); k_whole)))
  (k_with "subscriptTail" => (k_here; (with_reducible show wpAny _ _ (subscriptTail _ _ (Value.ref _) (Value.bytes _ _)) _ _ _); k_dflt (refine' md_item (md_at ?FZ44 ?DZ44) (bk_is _ _ _ _) ?vZ44 ?_; (case FZ44 => k_asm); (case DZ44 => k_asm); (case vZ44 => k_asm); k_whole)))
  (k_with "getMethod ref" => (k_here; (with_reducible show wpAny _ _ (getMethod (Value.ref _) (Str.ofString "get") _) _ _ _); k_dflt (refine' md_getm (knd := bytesKind _ _) (md_at ?FZ45 ?DZ45) ?_; (case FZ45 => k_asm); (case DZ45 => k_asm); k_whole)))
  (k_with "call builtin:dict.get" => (k_here; k_dflt (first | ((with_reducible show wpAny _ _ (call (Value.builtin "dict.get") [Value.ref _, Value.bytes _ _]) _ _ _); refine' md_get1 (md_at ?FZ46 ?DZ46) ?lZ46 (bk_is _ _ _ _) ?vZ46 ?_; (case FZ46 => k_asm); (case DZ46 => k_asm); (case lZ46 => k_asm); (case vZ46 => k_asm); k_whole) | ((with_reducible show wpAny _ _ (call (Value.builtin "dict.get") [Value.ref _, Value.bytes _ _, _]) _ _ _); refine' md_get2 (md_at ?FZ46 ?DZ46) ?lZ46 (bk_is _ _ _ _) ?vZ46 ?_; (case FZ46 => k_asm); (case DZ46 => k_asm); (case lZ46 => k_asm); (case vZ46 => k_asm); k_whole)); (try dsimp only [Option.getD])))
  (k_with "compareOp Eq bytes none" => with_reducible refine eq_bytes_none ?_)
  trivial




abbrev octB : Array UInt8 := #[111, 99, 116, 101, 116, 115]
def names4 : List (Array UInt8) := [rootB, prefB, copyB, ownB]
structure OwnAt (w : World) (h : Heap) (own : Addr) (okvs : List (List UInt8 × Value)) (W : Array UInt8) (F : Array UInt8 → Option (Addr × Value × Bool)) : Prop where
  d : h.DictOf (bytesKind PySem.Challenge.rw_og0286_01.row.prog w) own okvs
  row : ∀ T ∈ names4, ∃ rd kvs, valueAt okvs T.toList = some (.ref rd) ∧ h.DictOf (bytesKind PySem.Challenge.rw_og0286_01.row.prog w) rd kvs ∧ (rd == sysModules) = false ∧ FindL h (fval kvs W.toList) (F T)
theorem OwnAt.keep {w h g own okvs W F} (x : OwnAt w h own okvs W F) (k : ∀ b o, h.get? b = some o → g.get? b = some o) : OwnAt w g own okvs W F :=
  ⟨x.d.keep k, fun T hT => let ⟨rd, kvs, a, b, c, d⟩ := x.row T hT; ⟨rd, kvs, a, b.keep k, c, d.keep k⟩⟩
structure Wf (T : Array UInt8) (U : Option Int) (M : Option (Array UInt8)) : Prop where
  t : T = rootB ∨ T = prefB ∨ T = ownB
  u : U.isSome = true → T = prefB
  m : M = none ∨ M = some copyB
def hereT (T : Array UInt8) (M : Option (Array UInt8)) : Array UInt8 := if T == rootB then M.getD T else T
def expU (U : Option Int) (now : Int) : Option Int := match U with
  | some u => if u ≤ now then none else some u
  | none => none
def expT (T : Array UInt8) (U : Option Int) (now : Int) : Array UInt8 := match U with
  | some u => if u ≤ now then rootB else T
  | none => T
theorem Wf.exp {T U M} {now : Int} (h : Wf T U M) : Wf (expT T U now) (expU U now) M := by
  cases U with
  | none => exact h
  | some u =>
    unfold expT expU
    by_cases hu : u ≤ now
    · simp only [hu, if_true]; exact ⟨.inl rfl, (fun e => nomatch e), h.m⟩
    · simp only [hu, if_false]; exact h


theorem reg_11 : True := by
  (k_with "compareOp In" => (k_here; (with_reducible show wpAny _ _ (compareOp CmpOp.In (Value.bytes _ _) (Value.ref _)) _ _ _); k_dflt (refine' in_prefs (list_base ?FZ48 ?DZ48) ?hPZ48 ?_; (case FZ48 => k_asm); (case DZ48 => assumption); (case hPZ48 => assumption); k_whole)))
  (k_with "subscriptTail" => (k_here; (with_reducible show wpAny _ _ (subscriptTail _ _ (Value.ref _) (Value.int _ _)) _ _ _); k_dflt (refine' item_tupleT (tup_base ?FZ49 ?DZ49) ?aZ49 ?bZ49 ?cZ49 ?dZ49 ?_; (case FZ49 => k_asm); (case DZ49 => assumption); (case aZ49 => decide); (case bZ49 => decide); (case cZ49 => rfl); (case dZ49 => rfl); k_whole)))
  trivial


theorem key_g {w mean mg mb dp un gd cn cs a ccd cl outer A₀ base h₀ L m} {s : Shared} {Q E : Value → Shared → Prop} {wd own pf : Addr} {wo : Obj} {r : Int} {tr : Tok} {Pb W : Array UInt8} {S : Option (Array UInt8)} {t1 t2 : Tok} {okvs : List (List UInt8 × Value)} {F : Array UInt8 → Option (Addr × Value × Bool)} {T : Array UInt8} {U : Option Int} {M : Option (Array UInt8)} {tT tU tM tW tn : Tok} {now : Int} {P : Bool} {rest : List (Addr × Obj)}
  (am : Amb 20 160 w mean mg mb dp un cs outer A₀ base h₀ L m s.heap) (N : News h₀ L s.heap ((wd, wo) :: rest)) (hoff : ∀ p ∈ rest, p.1 ≠ wd) (hw : Obj.IsDictOf (strKind PySem.Challenge.rw_og0286_01.row.prog w) wo (wk (.bytes T tT) (optV U tU) (optB M tM) (.ref own) (.ref pf) (.int r tr))) (wf : Wf T U M) (hpf : h₀.IsList pf (pfVals Pb S t1 t2).toArray) (hP : prefP Pb S W = P) (O : OwnAt w h₀ own okvs W F)
  (hret : ∀ h' tk' wo' r' ow T' U' (t u : Tok) res, stepOne P (F (hereT T M)) (F rootB) r T M U now = (T', U', res) → Obj.IsDictOf (strKind PySem.Challenge.rw_og0286_01.row.prog w) wo' (wk (.bytes T' t) (optV U' u) (optB M tM) (.ref own) (.ref pf) (.int r tr)) → LResIs (F (hereT T M)) (F rootB) W res r' ow → Fr h₀ L h' m → News h₀ L h' (ow ++ (wd, wo') :: rest) → (∀ q ∈ ow, AllLt q.1 ((wd, wo) :: rest)) → Q (.ref r') { s with heap := h', toks := tk' }) :
  wpAny (model PySem.Challenge.rw_og0286_01.row.prog w) (ktrTop dp un gd cn cs L a ccd cl outer) (call (.ref 898) [.ref wd, .bytes W tW, .int now tn]) Q E s := by
  obtain ⟨rdr, kvr, vr, dr, lr, Hr⟩ := O.row rootB (by simp [names4])
  rcases wf.t with e | e | e
  · subst e
    have hU : U = none := by
      cases hu : U with
      | none => rfl
      | some u => exact absurd (wf.u (by rw [hu]; rfl)) (by decide)
    subst hU
    rcases wf.m with e | e
    · subst e
      exact key_root (f0 := none) (Mv := .none) (tM := 0) (tu := 0) (u0 := 0) (rd4 := rdr) (kvs4 := kvr) am N hoff hw hpf hP O.d dr lr vr Hr hret
    · subst e
      obtain ⟨rd3, kv3, v3, d3, l3, H3⟩ := O.row copyB (by simp [names4])
      exact key_mode (Mv := .none) (tu := 0) (u0 := 0) am N hoff hw hpf hP O.d d3 l3 v3 H3 dr lr vr Hr hret
  · subst e
    obtain ⟨rd3, kv3, v3, d3, l3, H3⟩ := O.row prefB (by simp [names4])
    have st : ∀ M' : Option (Array UInt8), hereT prefB M' = prefB := fun _ => rfl
    have sm : ∀ f1 f0 (U : Option Int), stepOne P f1 f0 r prefB none U now = stepOne P f1 f0 r prefB M U now := fun _ _ _ => rfl
    rw [st] at hret
    simp only [← sm] at hret
    cases U with
    | none => exact key_pref (tM := 0) (tu := 0) (u0 := 0) am N hoff hw hpf hP O.d d3 l3 v3 H3 dr lr vr Hr hret
    | some u => exact key_live (tM := 0) am N hoff hw hpf hP O.d d3 l3 v3 H3 dr lr vr Hr hret
  · subst e
    have hU : U = none := by
      cases hu : U with
      | none => rfl
      | some u => exact absurd (wf.u (by rw [hu]; rfl)) (by decide)
    subst hU
    obtain ⟨rd3, kv3, v3, d3, l3, H3⟩ := O.row ownB (by simp [names4])
    have st : ∀ M' : Option (Array UInt8), hereT ownB M' = ownB := fun _ => rfl
    have sm : ∀ f1 f0, stepOne P f1 f0 r ownB none none now = stepOne P f1 f0 r ownB M none now := fun _ _ => rfl
    rw [st] at hret
    simp only [← sm] at hret
    exact key_own (tM := 0) (tu := 0) (u0 := 0) am N hoff hw hpf hP O.d d3 l3 v3 H3 dr lr vr Hr hret
end
section
theorem list_of {g h : Heap} {a : Addr} {vs : Array Value} (e : g = h) (x : h.IsList a vs) : g.IsList a vs := e ▸ x
theorem own_of {w} {g h : Heap} {own okvs W F} (e : g = h) (x : OwnAt w h own okvs W F) : OwnAt w g own okvs W F := e ▸ x
theorem stay1 {g h h' : Heap} {wd : Addr} {wo : Obj} (e : g = hideAll h (List.map (·.1) [(wd, wo)])) (x : g.StaysIn h') : (hideAll h [wd]).StaysIn h' := e ▸ x

local macro_rules | `(tactic| k_room) => `(tactic| ktr_room)
local macro_rules | `(tactic| k_all) => `(tactic| assumption)
local macro_rules | `(tactic| k_inst) => `(tactic| (refine' inst_base ?iF ?ih1 ?ih2; (case iF => k_asm); (case ih1 => k_asm); (case ih2 => k_asm)))

theorem reg_12 : True := by
  k_with_none
  (k_with "room" => ((with_reducible rename _ + _ < recursionLimit => hR9); first | exact room_k 4 hR9 | exact room_k 37 hR9 | exact room_k 9 hR9 | exact room_k 5 hR9 | exact room_k 14 hR9 | exact room_k 10 hR9 | exact room_k 19 hR9 | exact room_k 15 hR9 | exact room_k 20 hR9 | exact room_k 25 hR9 | exact room_k 35 hR9 | exact room_k 13 hR9 | exact room_k 1 hR9 | exact room_k 38 hR9 | exact room_k 23 hR9 | exact room_k 24 hR9 | exact room_k 29 hR9 | exact room_k 8 hR9 | exact room_k 40 hR9 | exact room_k 39 hR9 | exact room_k 44 hR9 | exact room_k 17 hR9 | exact room_k 21 hR9 | exact room_k 30 hR9 | exact room_k 33 hR9 | exact room_k 16 hR9 | exact room_k 2 hR9 | exact room_k 43 hR9 | exact room_k 7 hR9 | exact room_k 45 hR9 | exact room_k 0 hR9 | exact room_k 3 hR9 | exact room_k 6 hR9 | exact room_k 11 hR9 | exact room_k 12 hR9 | exact room_k 18 hR9 | exact room_k 22 hR9 | exact room_k 26 hR9 | exact room_k 27 hR9 | exact room_k 28 hR9 | exact room_k 31 hR9 | exact room_k 32 hR9 | exact room_k 34 hR9 | exact room_k 36 hR9 | exact room_k 41 hR9 | exact room_k 42 hR9))
  (k_with "units" => ((with_reducible rename _ + _ < cLine => hR9); first | exact room_k 37 hR9 | exact room_k 77 hR9 | exact room_k 117 hR9 | exact room_k 157 hR9 | exact room_k 237 hR9 | exact room_k 197 hR9 | exact room_k 151 hR9 | exact room_k 133 hR9 | exact room_k 277 hR9 | exact room_k 317 hR9 | exact room_k 357 hR9 | exact room_k 4 hR9 | exact room_k 9 hR9 | exact room_k 5 hR9 | exact room_k 14 hR9 | exact room_k 10 hR9 | exact room_k 19 hR9 | exact room_k 15 hR9 | exact room_k 20 hR9 | exact room_k 25 hR9 | exact room_k 35 hR9 | exact room_k 13 hR9 | exact room_k 1 hR9 | exact room_k 38 hR9 | exact room_k 23 hR9 | exact room_k 24 hR9 | exact room_k 29 hR9 | exact room_k 8 hR9 | exact room_k 40 hR9 | exact room_k 39 hR9 | exact room_k 44 hR9 | exact room_k 17 hR9 | exact room_k 21 hR9 | exact room_k 30 hR9 | exact room_k 33 hR9 | exact room_k 16 hR9 | exact room_k 2 hR9 | exact room_k 43 hR9 | exact room_k 7 hR9 | exact room_k 45 hR9))
  (k_with "lt" => (first | with_reducible assumption | exact (by with_reducible assumption : _ ∧ _).1 | exact (by with_reducible assumption : _ ∧ _).2 | exact (by with_reducible assumption : _ ∧ _ ∧ _).2.1 | exact (by with_reducible assumption : _ ∧ _ ∧ _).2.2 | exact (by with_reducible assumption : _ ∧ _ ∧ _ ∧ _).2.2.1 | exact (by with_reducible assumption : _ ∧ _ ∧ _ ∧ _).2.2.2 | exact (by with_reducible assumption : _ ∧ _ ∧ _ ∧ _ ∧ _).2.2.2.1 | exact (by with_reducible assumption : _ ∧ _ ∧ _ ∧ _ ∧ _).2.2.2.2 | exact (by with_reducible assumption : _ ∧ _ ∧ _ ∧ _ ∧ _ ∧ _).2.2.2.2.1 | exact (by with_reducible assumption : _ ∧ _ ∧ _ ∧ _ ∧ _ ∧ _).2.2.2.2.2 | exact (by with_reducible assumption : _ ∧ _ ∧ _ ∧ _ ∧ _ ∧ _ ∧ _).2.2.2.2.2.1 | exact (by with_reducible assumption : _ ∧ _ ∧ _ ∧ _ ∧ _ ∧ _ ∧ _).2.2.2.2.2.2 | exact (by with_reducible assumption : _ ∧ _ ∧ _ ∧ _ ∧ _ ∧ _ ∧ _ ∧ _).2.2.2.2.2.2.1 | exact (by with_reducible assumption : _ ∧ _ ∧ _ ∧ _ ∧ _ ∧ _ ∧ _ ∧ _).2.2.2.2.2.2.2 | exact (by with_reducible assumption : _ ∧ _ ∧ _ ∧ _ ∧ _ ∧ _ ∧ _ ∧ _ ∧ _).2.2.2.2.2.2.2.1 | exact (by with_reducible assumption : _ ∧ _ ∧ _ ∧ _ ∧ _ ∧ _ ∧ _ ∧ _ ∧ _).2.2.2.2.2.2.2.2 | exact (by with_reducible assumption : _ ∧ _ ∧ _ ∧ _ ∧ _ ∧ _ ∧ _ ∧ _ ∧ _ ∧ _).2.2.2.2.2.2.2.2.1 | exact (by with_reducible assumption : _ ∧ _ ∧ _ ∧ _ ∧ _ ∧ _ ∧ _ ∧ _ ∧ _ ∧ _).2.2.2.2.2.2.2.2.2 | exact (by with_reducible assumption : _ ∧ _ ∧ _ ∧ _ ∧ _ ∧ _ ∧ _ ∧ _ ∧ _ ∧ _ ∧ _).2.2.2.2.2.2.2.2.2.1 | exact (by with_reducible assumption : _ ∧ _ ∧ _ ∧ _ ∧ _ ∧ _ ∧ _ ∧ _ ∧ _ ∧ _ ∧ _).2.2.2.2.2.2.2.2.2.2 | exact (by with_reducible assumption : _ ∧ _ ∧ _ ∧ _ ∧ _ ∧ _ ∧ _ ∧ _ ∧ _ ∧ _ ∧ _ ∧ _).2.2.2.2.2.2.2.2.2.2.1 | exact (by with_reducible assumption : _ ∧ _ ∧ _ ∧ _ ∧ _ ∧ _ ∧ _ ∧ _ ∧ _ ∧ _ ∧ _ ∧ _).2.2.2.2.2.2.2.2.2.2.2 | exact (by with_reducible assumption : _ ∧ _ ∧ _ ∧ _ ∧ _ ∧ _ ∧ _ ∧ _ ∧ _ ∧ _ ∧ _ ∧ _ ∧ _).2.2.2.2.2.2.2.2.2.2.2.1 | exact (by with_reducible assumption : _ ∧ _ ∧ _ ∧ _ ∧ _ ∧ _ ∧ _ ∧ _ ∧ _ ∧ _ ∧ _ ∧ _ ∧ _).2.2.2.2.2.2.2.2.2.2.2.2))
  (k_with "ne" => ((refine neN ?_); (try dsimp only); first | (refine Nat.ne_of_lt ?_; k_extra "lt") | (refine Nat.ne_of_gt ?_; k_extra "lt") | omega))
  (k_with "all" => (first | assumption | exact all_nil | (refine' all_cons ?a9Z5 ?b9Z5; (case a9Z5 => k_extra "ne"); (case b9Z5 => k_extra "all"))))
  (k_with "ite" => (k_closed; k_dflt (first | (refine' @ite_pos _ _ _ _ ?h1Z6 ?_; (case h1Z6 => decide); k_whole) | (refine' @ite_neg _ _ _ _ ?h2Z6 ?_; (case h2Z6 => decide); k_whole))))
  (k_with "getAttr ref true" => (k_here; k_dflt (refine' get_own ?k1Z7 ?k2Z7 ?k3Z7 ?k4Z7 ?k5Z7 ?k6Z7 ?k7Z7 ?k8Z7 ?k9Z7 ?_; (case k1Z7 => k_asm); (case k2Z7 => k_asm); (case k3Z7 => k_inst); (case k4Z7 => k_is); (case k5Z7 => k_is); (case k6Z7 => k_is); (case k7Z7 => k_is); (case k8Z7 => k_get); (case k9Z7 => k_handed); k_whole)))
  (k_with "eval Name" => (k_here; name_kind "local"; k_dflt (refine' nameX_L ?FZ8 ?vZ8 ?_ ?aZ8 ?bZ8; (case FZ8 => k_asm); (case aZ8 => rfl); (case bZ8 => rfl); (case vZ8 => rfl); k_whole)))
  (k_with "eval Name" => (k_here; name_kind "globalImplicit"; k_dflt (first | (refine' nameX_K ?FZ9 ?XZ9 ?TZ9 ?eZ9 ?_ ?aZ9 ?bZ9; (case FZ9 => k_asm); (case XZ9 => k_asm); (case TZ9 => k_asm); (case aZ9 => rfl); (case bZ9 => rfl); (case eZ9 => k_is); k_whole) | (refine' nameX_B ?F9Z9 ?X9Z9 ?T9Z9 ?e9Z9 ?v9Z9 ?n9Z9 ?_ ?a9Z9 ?b9Z9; (case F9Z9 => k_asm); (case X9Z9 => k_asm); (case T9Z9 => k_asm); (case a9Z9 => rfl); (case b9Z9 => rfl); (case e9Z9 => k_is); (case v9Z9 => boot_fast); (case n9Z9 => decide); k_whole))))
  (k_with "callWith ref cons nil" => (k_here; k_dflt (first | (refine' callWith_K ?k1Z10 ?k2Z10 ?_; (case k1Z10 => k_asm); (case k2Z10 => k_is); k_whole) | (refine' callWith_K0 ?k3Z10 ?k4Z10 ?_; (case k3Z10 => first | with_reducible assumption | (refine' Frag.In.keeps ?x8Z10 (Fr.keep ?f8Z10); (case f8Z10 => with_reducible assumption); (case x8Z10 => with_reducible assumption)) | k_in); (case k4Z10 => k_is); k_whole) | (refine' callWith_M0 ?k5Z10 ?k6Z10 ?_; (case k5Z10 => k_meth); (case k6Z10 => k_is); k_whole; try dsimp only [List.nil_append, List.cons_append]))))
  (k_with "exec While Constant cons nil" => (k_here; k_dflt (refine whl_start 100 ?_)))
  (k_with "call builtin:list.append cons nil" => (k_here; (with_reducible show wpAny _ _ (call (Value.builtin _) [Value.ref _, _]) _ _ _); k_dflt (refine' append_K ?k1Z12 ?k2Z12 ?k3Z12 ?_ ?zZ12; (case k1Z12 => k_asm); (case k2Z12 => k_asm); (case k3Z12 => k_upd); (case zZ12 => first | size_fits | k_extra "size9"); k_whole); intro h' F' N'; (try k_sweep)))
  (k_with "compareOp In" => (k_here; (with_reducible show wpAny _ _ (compareOp CmpOp.In (Value.bytes _ _) (Value.ref _)) _ _ _); k_dflt (refine' md_in (md_at ?FZ50 ?DZ50) ?lZ50 (bk_is _ _ _ _) ?vZ50 ?_; (case FZ50 => k_asm); (case DZ50 => k_asm); (case lZ50 => k_asm); (case vZ50 => k_asm); k_whole)))
  (k_with "subscriptTail" => (k_here; (with_reducible show wpAny _ _ (subscriptTail _ _ (Value.ref _) (Value.bytes _ _)) _ _ _); k_dflt (refine' md_item (md_at ?FZ51 ?DZ51) (bk_is _ _ _ _) ?vZ51 ?_; (case FZ51 => k_asm); (case DZ51 => k_asm); (case vZ51 => k_asm); k_whole)))
  (k_with "getMethod ref" => (k_here; (with_reducible show wpAny _ _ (getMethod (Value.ref _) (Str.ofString "get") _) _ _ _); k_dflt (refine' md_getm (knd := bytesKind _ _) (md_at ?FZ52 ?DZ52) ?_; (case FZ52 => k_asm); (case DZ52 => k_asm); k_whole)))
  (k_with "call builtin:dict.get" => (k_here; k_dflt (first | ((with_reducible show wpAny _ _ (call (Value.builtin "dict.get") [Value.ref _, Value.bytes _ _]) _ _ _); refine' md_get1 (md_at ?FZ53 ?DZ53) ?lZ53 (bk_is _ _ _ _) ?vZ53 ?_; (case FZ53 => k_asm); (case DZ53 => k_asm); (case lZ53 => k_asm); (case vZ53 => k_asm); k_whole) | ((with_reducible show wpAny _ _ (call (Value.builtin "dict.get") [Value.ref _, Value.bytes _ _, _]) _ _ _); refine' md_get2 (md_at ?FZ53 ?DZ53) ?lZ53 (bk_is _ _ _ _) ?vZ53 ?_; (case FZ53 => k_asm); (case DZ53 => k_asm); (case lZ53 => k_asm); (case vZ53 => k_asm); k_whole)); (try dsimp only [Option.getD])))
  (k_with "compareOp Eq bytes none" => with_reducible refine eq_bytes_none ?_)
  (k_with "compareOp In" => (k_here; (with_reducible show wpAny _ _ (compareOp CmpOp.In (Value.bytes _ _) (Value.ref _)) _ _ _); k_dflt (refine' in_prefs (list_base ?FZ55 ?DZ55) ?hPZ55 ?_; (case FZ55 => k_asm); (case DZ55 => assumption); (case hPZ55 => assumption); k_whole)))
  (k_with "subscriptTail" => (k_here; (with_reducible show wpAny _ _ (subscriptTail _ _ (Value.ref _) (Value.int _ _)) _ _ _); k_dflt (refine' item_tupleT (tup_base ?FZ56 ?DZ56) ?aZ56 ?bZ56 ?cZ56 ?dZ56 ?_; (case FZ56 => k_asm); (case DZ56 => assumption); (case aZ56 => decide); (case bZ56 => decide); (case cZ56 => rfl); (case dZ56 => rfl); k_whole)))
  (k_with "call ref" => (k_here; (with_reducible show wpAny _ _ (call (Value.ref 877) _ _) _ _ _); k_dflt (refine' home_l ?amZ57 ?NZ57 ?offZ57 ?hwZ57 ?_; (case amZ57 => (refine' Amb.mk ?aBZ57 ?aFZ57 ?aXZ57 ?aTZ57 ?akZ57 ?adZ57 ?auZ57; (case aBZ57 => k_asm); (case aFZ57 => k_asm); (case aXZ57 => k_asm); (case aTZ57 => k_asm); (case akZ57 => first | exact rfl | assumption); (case adZ57 => ktr_room); (case auZ57 => ktr_units))); (case NZ57 => k_asm); (case offZ57 => ((repeat (refine List.forall_mem_cons.mpr ⟨?_, ?_⟩; (first | with_reducible assumption | k_ne))); (first | exact List.forall_mem_nil _ | k_asm))); (case hwZ57 => k_asm); k_whole; intro h9 tk9 wo9 t9 hw9 F9 N9; (try dsimp only); (try k_fold))))
  trivial


theorem due_8n {w mean mg mb dp un gd cn cs a ccd cl outer A₀ base h₀ L m} {s : Shared} {Q E : Value → Shared → Prop} {wd own pf : Addr} {wo : Obj} {r : Int} {tr : Tok} {W : Array UInt8} {tW tn tki tu0 tT0 tM0 : Tok} {now kind u0 : Int} {f1 f0 : Option (Addr × Value × Bool)}  {Tv Uv : Value}
  (am : Amb 25 200 w mean mg mb dp un cs outer A₀ base h₀ L m s.heap) (N0 : News h₀ L s.heap [(wd, wo)]) (hw : Obj.IsDictOf (strKind PySem.Challenge.rw_og0286_01.row.prog w) wo (wk Tv Uv .none (.ref own) (.ref pf) (.int r tr))) (hkd : kind = 8)
  (hret : ∀ h' tk' wo' r' ow (t u v : Tok), Obj.IsDictOf (strKind PySem.Challenge.rw_og0286_01.row.prog w) wo' (wk Tv Uv (.bytes copyB v) (.ref own) (.ref pf) (.int r tr)) → LResIs f1 f0 W .nil r' ow → Fr h₀ L h' m → News h₀ L h' (ow ++ [(wd, wo')]) → (∀ q ∈ ow, AllLt q.1 [(wd, wo)]) → (hideAll s.heap [wd]).StaysIn h' → Q (.ref r') { s with heap := h', toks := tk' }) :
  wpAny (model PySem.Challenge.rw_og0286_01.row.prog w) (ktrTop dp un gd cn cs L a ccd cl outer) (call (.ref 905) [.ref wd, .int kind tki, .bytes W tW, .int now tn]) Q E s := by
  subst hkd
  obtain ⟨B, F, X, T, hk, hd, hu⟩ := am
  revert X; k_fill; intro X
  refine wpAny_call ?_
  k_dflt (refine' code_defR ?k1 ?k2 ?k3 ?k4 ?k5 ?kA ?kF ?kK ?k6 ?k7 ?k8 ?k9 ?kB ?_ ?c2 ?c3 ?c4 ?c5; (case kA => exact rfl); (case kF => exact rfl); (case kK => assumption); (case k1 => k_asm); (case k2 => k_asm); (case k3 => k_asm); (case k4 => exact N0); (case k5 => k_asm); (case k6 => k_is); (case k7 => k_is); (case k8 => ktr_room); (case k9 => exact BindsTo.of_eq rfl); (case c5 => decide); (case kB => exact locs rfl); (case c2 => exact rfl); (case c3 => exact rfl); (case c4 => exact rfl); k_whole; intro g' L' h' hg' FG' F' N' B' X' T'; (try dsimp only); (try k_lift B'); (try k_fold))
  rename (_ = hideAll _ _) => HG
  repeat' (first | (k_unfold; (try dsimp only)) | (k_end; wrow_close) | (walk1 <;> (try dsimp only)) | (leave1; walk_say "STEP leave1"; try dsimp only) | fail "no step")
  all_goals (first | ((try kob_lit); exact hret _ _ _ _ _ 0 0 _ (by assumption) LResIs.nil (by assumption) (news_app (cb_drop (by assumption) (by ((repeat (refine sub_cons ?_ ?_; k_mem)); (first | exact List.forall_mem_nil _ | ((repeat (first | exact fun p hp => hp | refine sub_skip ?_))))))) (cb_drop (by assumption) (by ((repeat (refine sub_cons ?_ ?_; k_mem)); (first | exact List.forall_mem_nil _ | ((repeat (first | exact fun p hp => hp | refine sub_skip ?_)))))))) (by first | exact all1 (by refine allLt_of (fun p hp => ?_); rw [List.mem_singleton.mp hp]; first | with_reducible assumption | with_reducible exact And.right (by with_reducible assumption) | with_reducible exact And.right (And.right (by with_reducible assumption))) | exact all2 (by refine allLt_of (fun p hp => ?_); rw [List.mem_singleton.mp hp]; first | with_reducible assumption | with_reducible exact And.right (by with_reducible assumption) | with_reducible exact And.right (And.right (by with_reducible assumption))) (by refine allLt_of (fun p hp => ?_); rw [List.mem_singleton.mp hp]; first | with_reducible assumption | with_reducible exact And.right (by with_reducible assumption) | with_reducible exact And.right (And.right (by with_reducible assumption)))) (stay1 (by with_reducible assumption) (by with_reducible assumption))) | w_report)

theorem due_8s {w mean mg mb dp un gd cn cs a ccd cl outer A₀ base h₀ L m} {s : Shared} {Q E : Value → Shared → Prop} {wd own pf : Addr} {wo : Obj} {r : Int} {tr : Tok} {W : Array UInt8} {tW tn tki tu0 tT0 tM0 : Tok} {now kind u0 : Int} {f1 f0 : Option (Addr × Value × Bool)}  {Tv Uv : Value}
  (am : Amb 25 200 w mean mg mb dp un cs outer A₀ base h₀ L m s.heap) (N0 : News h₀ L s.heap [(wd, wo)]) (hw : Obj.IsDictOf (strKind PySem.Challenge.rw_og0286_01.row.prog w) wo (wk Tv Uv (.bytes copyB tM0) (.ref own) (.ref pf) (.int r tr))) (hkd : kind = 8)
  (hret : ∀ h' tk' wo' r' ow (t u v : Tok), Obj.IsDictOf (strKind PySem.Challenge.rw_og0286_01.row.prog w) wo' (wk Tv Uv .none (.ref own) (.ref pf) (.int r tr)) → LResIs f1 f0 W .nil r' ow → Fr h₀ L h' m → News h₀ L h' (ow ++ [(wd, wo')]) → (∀ q ∈ ow, AllLt q.1 [(wd, wo)]) → (hideAll s.heap [wd]).StaysIn h' → Q (.ref r') { s with heap := h', toks := tk' }) :
  wpAny (model PySem.Challenge.rw_og0286_01.row.prog w) (ktrTop dp un gd cn cs L a ccd cl outer) (call (.ref 905) [.ref wd, .int kind tki, .bytes W tW, .int now tn]) Q E s := by
  subst hkd
  obtain ⟨B, F, X, T, hk, hd, hu⟩ := am
  revert X; k_fill; intro X
  refine wpAny_call ?_
  k_dflt (refine' code_defR ?k1 ?k2 ?k3 ?k4 ?k5 ?kA ?kF ?kK ?k6 ?k7 ?k8 ?k9 ?kB ?_ ?c2 ?c3 ?c4 ?c5; (case kA => exact rfl); (case kF => exact rfl); (case kK => assumption); (case k1 => k_asm); (case k2 => k_asm); (case k3 => k_asm); (case k4 => exact N0); (case k5 => k_asm); (case k6 => k_is); (case k7 => k_is); (case k8 => ktr_room); (case k9 => exact BindsTo.of_eq rfl); (case c5 => decide); (case kB => exact locs rfl); (case c2 => exact rfl); (case c3 => exact rfl); (case c4 => exact rfl); k_whole; intro g' L' h' hg' FG' F' N' B' X' T'; (try dsimp only); (try k_lift B'); (try k_fold))
  rename (_ = hideAll _ _) => HG
  repeat' (first | (k_unfold; (try dsimp only)) | (k_end; wrow_close) | (walk1 <;> (try dsimp only)) | (leave1; walk_say "STEP leave1"; try dsimp only) | fail "no step")
  all_goals (first | ((try kob_lit); exact hret _ _ _ _ _ 0 0 0 (by assumption) LResIs.nil (by assumption) (news_app (cb_drop (by assumption) (by ((repeat (refine sub_cons ?_ ?_; k_mem)); (first | exact List.forall_mem_nil _ | ((repeat (first | exact fun p hp => hp | refine sub_skip ?_))))))) (cb_drop (by assumption) (by ((repeat (refine sub_cons ?_ ?_; k_mem)); (first | exact List.forall_mem_nil _ | ((repeat (first | exact fun p hp => hp | refine sub_skip ?_)))))))) (by first | exact all1 (by refine allLt_of (fun p hp => ?_); rw [List.mem_singleton.mp hp]; first | with_reducible assumption | with_reducible exact And.right (by with_reducible assumption) | with_reducible exact And.right (And.right (by with_reducible assumption))) | exact all2 (by refine allLt_of (fun p hp => ?_); rw [List.mem_singleton.mp hp]; first | with_reducible assumption | with_reducible exact And.right (by with_reducible assumption) | with_reducible exact And.right (And.right (by with_reducible assumption))) (by refine allLt_of (fun p hp => ?_); rw [List.mem_singleton.mp hp]; first | with_reducible assumption | with_reducible exact And.right (by with_reducible assumption) | with_reducible exact And.right (And.right (by with_reducible assumption)))) (stay1 (by with_reducible assumption) (by with_reducible assumption))) | w_report)

theorem due_9 {w mean mg mb dp un gd cn cs a ccd cl outer A₀ base h₀ L m} {s : Shared} {Q E : Value → Shared → Prop} {wd own pf : Addr} {wo : Obj} {r : Int} {tr : Tok} {W : Array UInt8} {tW tn tki tu0 tT0 tM0 : Tok} {now kind u0 : Int} {f1 f0 : Option (Addr × Value × Bool)}  {Tv Uv Mv : Value}
  (am : Amb 25 200 w mean mg mb dp un cs outer A₀ base h₀ L m s.heap) (N0 : News h₀ L s.heap [(wd, wo)]) (hw : Obj.IsDictOf (strKind PySem.Challenge.rw_og0286_01.row.prog w) wo (wk Tv Uv Mv (.ref own) (.ref pf) (.int r tr))) (hkd : kind = 9)
  (hret : ∀ h' tk' wo' r' ow (t u v : Tok), Obj.IsDictOf (strKind PySem.Challenge.rw_og0286_01.row.prog w) wo' (wk (.bytes ownB t) .none Mv (.ref own) (.ref pf) (.int r tr)) → LResIs f1 f0 W .nil r' ow → Fr h₀ L h' m → News h₀ L h' (ow ++ [(wd, wo')]) → (∀ q ∈ ow, AllLt q.1 [(wd, wo)]) → (hideAll s.heap [wd]).StaysIn h' → Q (.ref r') { s with heap := h', toks := tk' }) :
  wpAny (model PySem.Challenge.rw_og0286_01.row.prog w) (ktrTop dp un gd cn cs L a ccd cl outer) (call (.ref 905) [.ref wd, .int kind tki, .bytes W tW, .int now tn]) Q E s := by
  subst hkd
  obtain ⟨B, F, X, T, hk, hd, hu⟩ := am
  revert X; k_fill; intro X
  refine wpAny_call ?_
  k_dflt (refine' code_defR ?k1 ?k2 ?k3 ?k4 ?k5 ?kA ?kF ?kK ?k6 ?k7 ?k8 ?k9 ?kB ?_ ?c2 ?c3 ?c4 ?c5; (case kA => exact rfl); (case kF => exact rfl); (case kK => assumption); (case k1 => k_asm); (case k2 => k_asm); (case k3 => k_asm); (case k4 => exact N0); (case k5 => k_asm); (case k6 => k_is); (case k7 => k_is); (case k8 => ktr_room); (case k9 => exact BindsTo.of_eq rfl); (case c5 => decide); (case kB => exact locs rfl); (case c2 => exact rfl); (case c3 => exact rfl); (case c4 => exact rfl); k_whole; intro g' L' h' hg' FG' F' N' B' X' T'; (try dsimp only); (try k_lift B'); (try k_fold))
  rename (_ = hideAll _ _) => HG
  repeat' (first | (k_unfold; (try dsimp only)) | (k_end; wrow_close) | (walk1 <;> (try dsimp only)) | (leave1; walk_say "STEP leave1"; try dsimp only) | fail "no step")
  all_goals (first | ((try kob_lit); exact hret _ _ _ _ _ _ 0 0 (by assumption) LResIs.nil (by assumption) (news_app (cb_drop (by assumption) (by ((repeat (refine sub_cons ?_ ?_; k_mem)); (first | exact List.forall_mem_nil _ | ((repeat (first | exact fun p hp => hp | refine sub_skip ?_))))))) (cb_drop (by assumption) (by ((repeat (refine sub_cons ?_ ?_; k_mem)); (first | exact List.forall_mem_nil _ | ((repeat (first | exact fun p hp => hp | refine sub_skip ?_)))))))) (by first | exact all1 (by refine allLt_of (fun p hp => ?_); rw [List.mem_singleton.mp hp]; first | with_reducible assumption | with_reducible exact And.right (by with_reducible assumption) | with_reducible exact And.right (And.right (by with_reducible assumption))) | exact all2 (by refine allLt_of (fun p hp => ?_); rw [List.mem_singleton.mp hp]; first | with_reducible assumption | with_reducible exact And.right (by with_reducible assumption) | with_reducible exact And.right (And.right (by with_reducible assumption))) (by refine allLt_of (fun p hp => ?_); rw [List.mem_singleton.mp hp]; first | with_reducible assumption | with_reducible exact And.right (by with_reducible assumption) | with_reducible exact And.right (And.right (by with_reducible assumption)))) (stay1 (by with_reducible assumption) (by with_reducible assumption))) | w_report)

theorem due_7n {w mean mg mb dp un gd cn cs a ccd cl outer A₀ base h₀ L m} {s : Shared} {Q E : Value → Shared → Prop} {wd own pf : Addr} {wo : Obj} {r : Int} {tr : Tok} {W : Array UInt8} {tW tn tki tu0 tT0 tM0 : Tok} {now kind u0 : Int} {f1 f0 : Option (Addr × Value × Bool)}  {Tv Mv : Value}
  (am : Amb 25 200 w mean mg mb dp un cs outer A₀ base h₀ L m s.heap) (N0 : News h₀ L s.heap [(wd, wo)]) (hw : Obj.IsDictOf (strKind PySem.Challenge.rw_og0286_01.row.prog w) wo (wk Tv .none Mv (.ref own) (.ref pf) (.int r tr))) (hkd : kind = 7) 
  (hret : ∀ h' tk' wo' r' ow (t u v : Tok), Obj.IsDictOf (strKind PySem.Challenge.rw_og0286_01.row.prog w) wo' (wk Tv .none Mv (.ref own) (.ref pf) (.int r tr)) → LResIs f1 f0 W .nil r' ow → Fr h₀ L h' m → News h₀ L h' (ow ++ [(wd, wo')]) → (∀ q ∈ ow, AllLt q.1 [(wd, wo)]) → (hideAll s.heap [wd]).StaysIn h' → Q (.ref r') { s with heap := h', toks := tk' }) :
  wpAny (model PySem.Challenge.rw_og0286_01.row.prog w) (ktrTop dp un gd cn cs L a ccd cl outer) (call (.ref 905) [.ref wd, .int kind tki, .bytes W tW, .int now tn]) Q E s := by
  subst hkd
  obtain ⟨B, F, X, T, hk, hd, hu⟩ := am
  revert X; k_fill; intro X
  refine wpAny_call ?_
  k_dflt (refine' code_defR ?k1 ?k2 ?k3 ?k4 ?k5 ?kA ?kF ?kK ?k6 ?k7 ?k8 ?k9 ?kB ?_ ?c2 ?c3 ?c4 ?c5; (case kA => exact rfl); (case kF => exact rfl); (case kK => assumption); (case k1 => k_asm); (case k2 => k_asm); (case k3 => k_asm); (case k4 => exact N0); (case k5 => k_asm); (case k6 => k_is); (case k7 => k_is); (case k8 => ktr_room); (case k9 => exact BindsTo.of_eq rfl); (case c5 => decide); (case kB => exact locs rfl); (case c2 => exact rfl); (case c3 => exact rfl); (case c4 => exact rfl); k_whole; intro g' L' h' hg' FG' F' N' B' X' T'; (try dsimp only); (try k_lift B'); (try k_fold))
  rename (_ = hideAll _ _) => HG
  repeat' (first | (k_unfold; (try dsimp only)) | (k_end; wrow_close) | (walk1 <;> (try dsimp only)) | (leave1; walk_say "STEP leave1"; try dsimp only) | fail "no step")
  all_goals (first | ((try kob_lit); exact hret _ _ _ _ _ 0 0 0 (by assumption) LResIs.nil (by assumption) (news_app (cb_drop (by assumption) (by ((repeat (refine sub_cons ?_ ?_; k_mem)); (first | exact List.forall_mem_nil _ | ((repeat (first | exact fun p hp => hp | refine sub_skip ?_))))))) (cb_drop (by assumption) (by ((repeat (refine sub_cons ?_ ?_; k_mem)); (first | exact List.forall_mem_nil _ | ((repeat (first | exact fun p hp => hp | refine sub_skip ?_)))))))) (by first | exact all1 (by refine allLt_of (fun p hp => ?_); rw [List.mem_singleton.mp hp]; first | with_reducible assumption | with_reducible exact And.right (by with_reducible assumption) | with_reducible exact And.right (And.right (by with_reducible assumption))) | exact all2 (by refine allLt_of (fun p hp => ?_); rw [List.mem_singleton.mp hp]; first | with_reducible assumption | with_reducible exact And.right (by with_reducible assumption) | with_reducible exact And.right (And.right (by with_reducible assumption))) (by refine allLt_of (fun p hp => ?_); rw [List.mem_singleton.mp hp]; first | with_reducible assumption | with_reducible exact And.right (by with_reducible assumption) | with_reducible exact And.right (And.right (by with_reducible assumption)))) (stay1 (by with_reducible assumption) (by with_reducible assumption))) | w_report)

theorem due_6n {w mean mg mb dp un gd cn cs a ccd cl outer A₀ base h₀ L m} {s : Shared} {Q E : Value → Shared → Prop} {wd own pf : Addr} {wo : Obj} {r : Int} {tr : Tok} {W : Array UInt8} {tW tn tki tu0 tT0 tM0 : Tok} {now kind u0 : Int} {f1 f0 : Option (Addr × Value × Bool)}  {Tv Mv : Value}
  (am : Amb 25 200 w mean mg mb dp un cs outer A₀ base h₀ L m s.heap) (N0 : News h₀ L s.heap [(wd, wo)]) (hw : Obj.IsDictOf (strKind PySem.Challenge.rw_og0286_01.row.prog w) wo (wk Tv .none Mv (.ref own) (.ref pf) (.int r tr))) (hkd : kind = 6) 
  (hret : ∀ h' tk' wo' r' ow (t u v : Tok), Obj.IsDictOf (strKind PySem.Challenge.rw_og0286_01.row.prog w) wo' (wk (.bytes rootB t) .none Mv (.ref own) (.ref pf) (.int r tr)) → LResIs f1 f0 octB .send r' ow → Fr h₀ L h' m → News h₀ L h' (ow ++ [(wd, wo')]) → (∀ q ∈ ow, AllLt q.1 [(wd, wo)]) → (hideAll s.heap [wd]).StaysIn h' → Q (.ref r') { s with heap := h', toks := tk' }) :
  wpAny (model PySem.Challenge.rw_og0286_01.row.prog w) (ktrTop dp un gd cn cs L a ccd cl outer) (call (.ref 905) [.ref wd, .int kind tki, .bytes W tW, .int now tn]) Q E s := by
  subst hkd
  obtain ⟨B, F, X, T, hk, hd, hu⟩ := am
  revert X; k_fill; intro X
  refine wpAny_call ?_
  k_dflt (refine' code_defR ?k1 ?k2 ?k3 ?k4 ?k5 ?kA ?kF ?kK ?k6 ?k7 ?k8 ?k9 ?kB ?_ ?c2 ?c3 ?c4 ?c5; (case kA => exact rfl); (case kF => exact rfl); (case kK => assumption); (case k1 => k_asm); (case k2 => k_asm); (case k3 => k_asm); (case k4 => exact N0); (case k5 => k_asm); (case k6 => k_is); (case k7 => k_is); (case k8 => ktr_room); (case k9 => exact BindsTo.of_eq rfl); (case c5 => decide); (case kB => exact locs rfl); (case c2 => exact rfl); (case c3 => exact rfl); (case c4 => exact rfl); k_whole; intro g' L' h' hg' FG' F' N' B' X' T'; (try dsimp only); (try k_lift B'); (try k_fold))
  rename (_ = hideAll _ _) => HG
  repeat' (first | (k_unfold; (try dsimp only)) | (k_end; wrow_close) | (walk1 <;> (try dsimp only)) | (leave1; walk_say "STEP leave1"; try dsimp only) | fail "no step")
  all_goals (first | ((try kob_lit); exact hret _ _ _ _ _ _ 0 0 (by assumption) LResIs.send (by assumption) (news_app (cb_drop (by assumption) (by ((repeat (refine sub_cons ?_ ?_; k_mem)); (first | exact List.forall_mem_nil _ | ((repeat (first | exact fun p hp => hp | refine sub_skip ?_))))))) (cb_drop (by assumption) (by ((repeat (refine sub_cons ?_ ?_; k_mem)); (first | exact List.forall_mem_nil _ | ((repeat (first | exact fun p hp => hp | refine sub_skip ?_)))))))) (by first | exact all1 (by refine allLt_of (fun p hp => ?_); rw [List.mem_singleton.mp hp]; first | with_reducible assumption | with_reducible exact And.right (by with_reducible assumption) | with_reducible exact And.right (And.right (by with_reducible assumption))) | exact all2 (by refine allLt_of (fun p hp => ?_); rw [List.mem_singleton.mp hp]; first | with_reducible assumption | with_reducible exact And.right (by with_reducible assumption) | with_reducible exact And.right (And.right (by with_reducible assumption))) (by refine allLt_of (fun p hp => ?_); rw [List.mem_singleton.mp hp]; first | with_reducible assumption | with_reducible exact And.right (by with_reducible assumption) | with_reducible exact And.right (And.right (by with_reducible assumption)))) (stay1 (by with_reducible assumption) (by with_reducible assumption))) | w_report)

theorem due_7l {w mean mg mb dp un gd cn cs a ccd cl outer A₀ base h₀ L m} {s : Shared} {Q E : Value → Shared → Prop} {wd own pf : Addr} {wo : Obj} {r : Int} {tr : Tok} {W : Array UInt8} {tW tn tki tu0 tT0 tM0 : Tok} {now kind u0 : Int} {f1 f0 : Option (Addr × Value × Bool)}  {Tv Mv : Value}
  (am : Amb 25 200 w mean mg mb dp un cs outer A₀ base h₀ L m s.heap) (N0 : News h₀ L s.heap [(wd, wo)]) (hw : Obj.IsDictOf (strKind PySem.Challenge.rw_og0286_01.row.prog w) wo (wk Tv (.int u0 tu0) Mv (.ref own) (.ref pf) (.int r tr))) (hkd : kind = 7) (hlt : now < u0)
  (hret : ∀ h' tk' wo' r' ow (t u v : Tok), Obj.IsDictOf (strKind PySem.Challenge.rw_og0286_01.row.prog w) wo' (wk Tv (.int u0 tu0) Mv (.ref own) (.ref pf) (.int r tr)) → LResIs f1 f0 W .nil r' ow → Fr h₀ L h' m → News h₀ L h' (ow ++ [(wd, wo')]) → (∀ q ∈ ow, AllLt q.1 [(wd, wo)]) → (hideAll s.heap [wd]).StaysIn h' → Q (.ref r') { s with heap := h', toks := tk' }) :
  wpAny (model PySem.Challenge.rw_og0286_01.row.prog w) (ktrTop dp un gd cn cs L a ccd cl outer) (call (.ref 905) [.ref wd, .int kind tki, .bytes W tW, .int now tn]) Q E s := by
  subst hkd
  obtain ⟨B, F, X, T, hk, hd, hu⟩ := am
  revert X; k_fill; intro X
  refine wpAny_call ?_
  k_dflt (refine' code_defR ?k1 ?k2 ?k3 ?k4 ?k5 ?kA ?kF ?kK ?k6 ?k7 ?k8 ?k9 ?kB ?_ ?c2 ?c3 ?c4 ?c5; (case kA => exact rfl); (case kF => exact rfl); (case kK => assumption); (case k1 => k_asm); (case k2 => k_asm); (case k3 => k_asm); (case k4 => exact N0); (case k5 => k_asm); (case k6 => k_is); (case k7 => k_is); (case k8 => ktr_room); (case k9 => exact BindsTo.of_eq rfl); (case c5 => decide); (case kB => exact locs rfl); (case c2 => exact rfl); (case c3 => exact rfl); (case c4 => exact rfl); k_whole; intro g' L' h' hg' FG' F' N' B' X' T'; (try dsimp only); (try k_lift B'); (try k_fold))
  rename (_ = hideAll _ _) => HG
  repeat' (first | (k_unfold; (try dsimp only)) | (k_end; wrow_close) | (walk1 <;> (try dsimp only)) | (leave1; walk_say "STEP leave1"; try dsimp only) | fail "no step")
  all_goals (first | ((try kob_lit); exact hret _ _ _ _ _ 0 0 0 (by assumption) LResIs.nil (by assumption) (news_app (cb_drop (by assumption) (by ((repeat (refine sub_cons ?_ ?_; k_mem)); (first | exact List.forall_mem_nil _ | ((repeat (first | exact fun p hp => hp | refine sub_skip ?_))))))) (cb_drop (by assumption) (by ((repeat (refine sub_cons ?_ ?_; k_mem)); (first | exact List.forall_mem_nil _ | ((repeat (first | exact fun p hp => hp | refine sub_skip ?_)))))))) (by first | exact all1 (by refine allLt_of (fun p hp => ?_); rw [List.mem_singleton.mp hp]; first | with_reducible assumption | with_reducible exact And.right (by with_reducible assumption) | with_reducible exact And.right (And.right (by with_reducible assumption))) | exact all2 (by refine allLt_of (fun p hp => ?_); rw [List.mem_singleton.mp hp]; first | with_reducible assumption | with_reducible exact And.right (by with_reducible assumption) | with_reducible exact And.right (And.right (by with_reducible assumption))) (by refine allLt_of (fun p hp => ?_); rw [List.mem_singleton.mp hp]; first | with_reducible assumption | with_reducible exact And.right (by with_reducible assumption) | with_reducible exact And.right (And.right (by with_reducible assumption)))) (stay1 (by with_reducible assumption) (by with_reducible assumption))) | w_report)

theorem due_6l {w mean mg mb dp un gd cn cs a ccd cl outer A₀ base h₀ L m} {s : Shared} {Q E : Value → Shared → Prop} {wd own pf : Addr} {wo : Obj} {r : Int} {tr : Tok} {W : Array UInt8} {tW tn tki tu0 tT0 tM0 : Tok} {now kind u0 : Int} {f1 f0 : Option (Addr × Value × Bool)}  {Tv Mv : Value}
  (am : Amb 25 200 w mean mg mb dp un cs outer A₀ base h₀ L m s.heap) (N0 : News h₀ L s.heap [(wd, wo)]) (hw : Obj.IsDictOf (strKind PySem.Challenge.rw_og0286_01.row.prog w) wo (wk Tv (.int u0 tu0) Mv (.ref own) (.ref pf) (.int r tr))) (hkd : kind = 6) (hlt : now < u0)
  (hret : ∀ h' tk' wo' r' ow (t u v : Tok), Obj.IsDictOf (strKind PySem.Challenge.rw_og0286_01.row.prog w) wo' (wk (.bytes rootB t) .none Mv (.ref own) (.ref pf) (.int r tr)) → LResIs f1 f0 octB .send r' ow → Fr h₀ L h' m → News h₀ L h' (ow ++ [(wd, wo')]) → (∀ q ∈ ow, AllLt q.1 [(wd, wo)]) → (hideAll s.heap [wd]).StaysIn h' → Q (.ref r') { s with heap := h', toks := tk' }) :
  wpAny (model PySem.Challenge.rw_og0286_01.row.prog w) (ktrTop dp un gd cn cs L a ccd cl outer) (call (.ref 905) [.ref wd, .int kind tki, .bytes W tW, .int now tn]) Q E s := by
  subst hkd
  obtain ⟨B, F, X, T, hk, hd, hu⟩ := am
  revert X; k_fill; intro X
  refine wpAny_call ?_
  k_dflt (refine' code_defR ?k1 ?k2 ?k3 ?k4 ?k5 ?kA ?kF ?kK ?k6 ?k7 ?k8 ?k9 ?kB ?_ ?c2 ?c3 ?c4 ?c5; (case kA => exact rfl); (case kF => exact rfl); (case kK => assumption); (case k1 => k_asm); (case k2 => k_asm); (case k3 => k_asm); (case k4 => exact N0); (case k5 => k_asm); (case k6 => k_is); (case k7 => k_is); (case k8 => ktr_room); (case k9 => exact BindsTo.of_eq rfl); (case c5 => decide); (case kB => exact locs rfl); (case c2 => exact rfl); (case c3 => exact rfl); (case c4 => exact rfl); k_whole; intro g' L' h' hg' FG' F' N' B' X' T'; (try dsimp only); (try k_lift B'); (try k_fold))
  rename (_ = hideAll _ _) => HG
  repeat' (first | (k_unfold; (try dsimp only)) | (k_end; wrow_close) | (walk1 <;> (try dsimp only)) | (leave1; walk_say "STEP leave1"; try dsimp only) | fail "no step")
  all_goals (first | ((try kob_lit); exact hret _ _ _ _ _ _ 0 0 (by assumption) LResIs.send (by assumption) (news_app (cb_drop (by assumption) (by ((repeat (refine sub_cons ?_ ?_; k_mem)); (first | exact List.forall_mem_nil _ | ((repeat (first | exact fun p hp => hp | refine sub_skip ?_))))))) (cb_drop (by assumption) (by ((repeat (refine sub_cons ?_ ?_; k_mem)); (first | exact List.forall_mem_nil _ | ((repeat (first | exact fun p hp => hp | refine sub_skip ?_)))))))) (by first | exact all1 (by refine allLt_of (fun p hp => ?_); rw [List.mem_singleton.mp hp]; first | with_reducible assumption | with_reducible exact And.right (by with_reducible assumption) | with_reducible exact And.right (And.right (by with_reducible assumption))) | exact all2 (by refine allLt_of (fun p hp => ?_); rw [List.mem_singleton.mp hp]; first | with_reducible assumption | with_reducible exact And.right (by with_reducible assumption) | with_reducible exact And.right (And.right (by with_reducible assumption))) (by refine allLt_of (fun p hp => ?_); rw [List.mem_singleton.mp hp]; first | with_reducible assumption | with_reducible exact And.right (by with_reducible assumption) | with_reducible exact And.right (And.right (by with_reducible assumption)))) (stay1 (by with_reducible assumption) (by with_reducible assumption))) | w_report)

theorem due_7d {w mean mg mb dp un gd cn cs a ccd cl outer A₀ base h₀ L m} {s : Shared} {Q E : Value → Shared → Prop} {wd own pf : Addr} {wo : Obj} {r : Int} {tr : Tok} {W : Array UInt8} {tW tn tki tu0 tT0 tM0 : Tok} {now kind u0 : Int} {f1 f0 : Option (Addr × Value × Bool)}  {Tv Mv : Value}
  (am : Amb 25 200 w mean mg mb dp un cs outer A₀ base h₀ L m s.heap) (N0 : News h₀ L s.heap [(wd, wo)]) (hw : Obj.IsDictOf (strKind PySem.Challenge.rw_og0286_01.row.prog w) wo (wk Tv (.int u0 tu0) Mv (.ref own) (.ref pf) (.int r tr))) (hkd : kind = 7) (hlt : u0 ≤ now)
  (hret : ∀ h' tk' wo' r' ow (t u v : Tok), Obj.IsDictOf (strKind PySem.Challenge.rw_og0286_01.row.prog w) wo' (wk (.bytes rootB t) .none Mv (.ref own) (.ref pf) (.int r tr)) → LResIs f1 f0 W .nil r' ow → Fr h₀ L h' m → News h₀ L h' (ow ++ [(wd, wo')]) → (∀ q ∈ ow, AllLt q.1 [(wd, wo)]) → (hideAll s.heap [wd]).StaysIn h' → Q (.ref r') { s with heap := h', toks := tk' }) :
  wpAny (model PySem.Challenge.rw_og0286_01.row.prog w) (ktrTop dp un gd cn cs L a ccd cl outer) (call (.ref 905) [.ref wd, .int kind tki, .bytes W tW, .int now tn]) Q E s := by
  subst hkd
  obtain ⟨B, F, X, T, hk, hd, hu⟩ := am
  revert X; k_fill; intro X
  refine wpAny_call ?_
  k_dflt (refine' code_defR ?k1 ?k2 ?k3 ?k4 ?k5 ?kA ?kF ?kK ?k6 ?k7 ?k8 ?k9 ?kB ?_ ?c2 ?c3 ?c4 ?c5; (case kA => exact rfl); (case kF => exact rfl); (case kK => assumption); (case k1 => k_asm); (case k2 => k_asm); (case k3 => k_asm); (case k4 => exact N0); (case k5 => k_asm); (case k6 => k_is); (case k7 => k_is); (case k8 => ktr_room); (case k9 => exact BindsTo.of_eq rfl); (case c5 => decide); (case kB => exact locs rfl); (case c2 => exact rfl); (case c3 => exact rfl); (case c4 => exact rfl); k_whole; intro g' L' h' hg' FG' F' N' B' X' T'; (try dsimp only); (try k_lift B'); (try k_fold))
  rename (_ = hideAll _ _) => HG
  repeat' (first | (k_unfold; (try dsimp only)) | (k_end; wrow_close) | (walk1 <;> (try dsimp only)) | (leave1; walk_say "STEP leave1"; try dsimp only) | fail "no step")
  all_goals (first | ((try kob_lit); exact hret _ _ _ _ _ _ 0 0 (by assumption) LResIs.nil (by assumption) (news_app (cb_drop (by assumption) (by ((repeat (refine sub_cons ?_ ?_; k_mem)); (first | exact List.forall_mem_nil _ | ((repeat (first | exact fun p hp => hp | refine sub_skip ?_))))))) (cb_drop (by assumption) (by ((repeat (refine sub_cons ?_ ?_; k_mem)); (first | exact List.forall_mem_nil _ | ((repeat (first | exact fun p hp => hp | refine sub_skip ?_)))))))) (by first | exact all1 (by refine allLt_of (fun p hp => ?_); rw [List.mem_singleton.mp hp]; first | with_reducible assumption | with_reducible exact And.right (by with_reducible assumption) | with_reducible exact And.right (And.right (by with_reducible assumption))) | exact all2 (by refine allLt_of (fun p hp => ?_); rw [List.mem_singleton.mp hp]; first | with_reducible assumption | with_reducible exact And.right (by with_reducible assumption) | with_reducible exact And.right (And.right (by with_reducible assumption))) (by refine allLt_of (fun p hp => ?_); rw [List.mem_singleton.mp hp]; first | with_reducible assumption | with_reducible exact And.right (by with_reducible assumption) | with_reducible exact And.right (And.right (by with_reducible assumption)))) (stay1 (by with_reducible assumption) (by with_reducible assumption))) | w_report)

theorem due_6d {w mean mg mb dp un gd cn cs a ccd cl outer A₀ base h₀ L m} {s : Shared} {Q E : Value → Shared → Prop} {wd own pf : Addr} {wo : Obj} {r : Int} {tr : Tok} {W : Array UInt8} {tW tn tki tu0 tT0 tM0 : Tok} {now kind u0 : Int} {f1 f0 : Option (Addr × Value × Bool)}  {Tv Mv : Value}
  (am : Amb 25 200 w mean mg mb dp un cs outer A₀ base h₀ L m s.heap) (N0 : News h₀ L s.heap [(wd, wo)]) (hw : Obj.IsDictOf (strKind PySem.Challenge.rw_og0286_01.row.prog w) wo (wk Tv (.int u0 tu0) Mv (.ref own) (.ref pf) (.int r tr))) (hkd : kind = 6) (hlt : u0 ≤ now)
  (hret : ∀ h' tk' wo' r' ow (t u v : Tok), Obj.IsDictOf (strKind PySem.Challenge.rw_og0286_01.row.prog w) wo' (wk (.bytes rootB t) .none Mv (.ref own) (.ref pf) (.int r tr)) → LResIs f1 f0 octB .send r' ow → Fr h₀ L h' m → News h₀ L h' (ow ++ [(wd, wo')]) → (∀ q ∈ ow, AllLt q.1 [(wd, wo)]) → (hideAll s.heap [wd]).StaysIn h' → Q (.ref r') { s with heap := h', toks := tk' }) :
  wpAny (model PySem.Challenge.rw_og0286_01.row.prog w) (ktrTop dp un gd cn cs L a ccd cl outer) (call (.ref 905) [.ref wd, .int kind tki, .bytes W tW, .int now tn]) Q E s := by
  subst hkd
  obtain ⟨B, F, X, T, hk, hd, hu⟩ := am
  revert X; k_fill; intro X
  refine wpAny_call ?_
  k_dflt (refine' code_defR ?k1 ?k2 ?k3 ?k4 ?k5 ?kA ?kF ?kK ?k6 ?k7 ?k8 ?k9 ?kB ?_ ?c2 ?c3 ?c4 ?c5; (case kA => exact rfl); (case kF => exact rfl); (case kK => assumption); (case k1 => k_asm); (case k2 => k_asm); (case k3 => k_asm); (case k4 => exact N0); (case k5 => k_asm); (case k6 => k_is); (case k7 => k_is); (case k8 => ktr_room); (case k9 => exact BindsTo.of_eq rfl); (case c5 => decide); (case kB => exact locs rfl); (case c2 => exact rfl); (case c3 => exact rfl); (case c4 => exact rfl); k_whole; intro g' L' h' hg' FG' F' N' B' X' T'; (try dsimp only); (try k_lift B'); (try k_fold))
  rename (_ = hideAll _ _) => HG
  repeat' (first | (k_unfold; (try dsimp only)) | (k_end; wrow_close) | (walk1 <;> (try dsimp only)) | (leave1; walk_say "STEP leave1"; try dsimp only) | fail "no step")
  all_goals (first | ((try kob_lit); exact hret _ _ _ _ _ _ 0 0 (by assumption) LResIs.send (by assumption) (news_app (cb_drop (by assumption) (by ((repeat (refine sub_cons ?_ ?_; k_mem)); (first | exact List.forall_mem_nil _ | ((repeat (first | exact fun p hp => hp | refine sub_skip ?_))))))) (cb_drop (by assumption) (by ((repeat (refine sub_cons ?_ ?_; k_mem)); (first | exact List.forall_mem_nil _ | ((repeat (first | exact fun p hp => hp | refine sub_skip ?_)))))))) (by first | exact all1 (by refine allLt_of (fun p hp => ?_); rw [List.mem_singleton.mp hp]; first | with_reducible assumption | with_reducible exact And.right (by with_reducible assumption) | with_reducible exact And.right (And.right (by with_reducible assumption))) | exact all2 (by refine allLt_of (fun p hp => ?_); rw [List.mem_singleton.mp hp]; first | with_reducible assumption | with_reducible exact And.right (by with_reducible assumption) | with_reducible exact And.right (And.right (by with_reducible assumption))) (by refine allLt_of (fun p hp => ?_); rw [List.mem_singleton.mp hp]; first | with_reducible assumption | with_reducible exact And.right (by with_reducible assumption) | with_reducible exact And.right (And.right (by with_reducible assumption)))) (stay1 (by with_reducible assumption) (by with_reducible assumption))) | w_report)

section

theorem reg_13 : True := by
  (k_with "call ref" => (k_here; (with_reducible show wpAny _ _ (call (Value.ref 898) _ _) _ _ _); k_dflt (refine' key_g (U := none) (tU := 0) ?amZ58 ?NZ58 ?offZ58 ?hwZ58 ?wfZ58 ?pfZ58 ?hPZ58 ?OZ58 ?_; (case NZ58 => k_asm); (case amZ58 => (refine' Amb.mk ?aBZ58 ?aFZ58 ?aXZ58 ?aTZ58 ?akZ58 ?adZ58 ?auZ58; (case aBZ58 => k_asm); (case aFZ58 => k_asm); (case aXZ58 => k_asm); (case aTZ58 => k_asm); (case akZ58 => first | exact rfl | assumption); (case adZ58 => ktr_room); (case auZ58 => ktr_units))); (case offZ58 => ((repeat (refine List.forall_mem_cons.mpr ⟨?_, ?_⟩; (first | with_reducible assumption | k_ne))); (first | exact List.forall_mem_nil _ | k_asm))); (case hwZ58 => first | k_asm | assumption); (case wfZ58 => assumption); (case pfZ58 => assumption); (case hPZ58 => assumption); (case OZ58 => assumption); k_whole; intro h9 tk9 wo9 r9 ow9 T9 U9 t9 u9 res9 hrr9 hw9 hl9 F9 N9 hlt9; (try dsimp only); (try k_fold))))
  trivial


theorem due_kn {w mean mg mb dp un gd cn cs a ccd cl outer A₀ base h₀ L m} {s : Shared} {Q E : Value → Shared → Prop} {wd own pf : Addr} {wo : Obj} {r : Int} {tr : Tok} {Pb W : Array UInt8} {S : Option (Array UInt8)} {t1 t2 : Tok} {okvs : List (List UInt8 × Value)} {F : Array UInt8 → Option (Addr × Value × Bool)} {T : Array UInt8} {M : Option (Array UInt8)} {tT tU tM tW tn tki tu0 : Tok} {kind u0 : Int} {now : Int} {P : Bool} 
  (am : Amb 25 200 w mean mg mb dp un cs outer A₀ base h₀ L m s.heap) (N0 : News h₀ L s.heap [(wd, wo)]) (hw : Obj.IsDictOf (strKind PySem.Challenge.rw_og0286_01.row.prog w) wo (wk (.bytes T tT) .none (optB M tM) (.ref own) (.ref pf) (.int r tr))) (wf : Wf T none M) (hpf : (hideAll s.heap [wd]).IsList pf (pfVals Pb S t1 t2).toArray) (hP : prefP Pb S W = P) (O : OwnAt w (hideAll s.heap [wd]) own okvs W F) (hk8 : kind ≠ 8) (hk9 : kind ≠ 9) (hk7 : kind ≠ 7) (hk6 : kind ≠ 6) 
  (hret : ∀ h' tk' wo' r' ow T' U' (t u : Tok) res, stepOne P (F (hereT T M)) (F rootB) r T M none now = (T', U', res) → Obj.IsDictOf (strKind PySem.Challenge.rw_og0286_01.row.prog w) wo' (wk (.bytes T' t) (optV U' u) (optB M tM) (.ref own) (.ref pf) (.int r tr)) → LResIs (F (hereT T M)) (F rootB) W res r' ow → Fr h₀ L h' m → News h₀ L h' (ow ++ [(wd, wo')]) → (∀ q ∈ ow, AllLt q.1 [(wd, wo)]) → (hideAll s.heap [wd]).StaysIn h' → Q (.ref r') { s with heap := h', toks := tk' }) :
  wpAny (model PySem.Challenge.rw_og0286_01.row.prog w) (ktrTop dp un gd cn cs L a ccd cl outer) (call (.ref 905) [.ref wd, .int kind tki, .bytes W tW, .int now tn]) Q E s := by
  obtain ⟨B, F, X, T, hk, hd, hu⟩ := am
  revert X; k_fill; intro X
  refine wpAny_call ?_
  k_dflt (refine' code_defR ?k1 ?k2 ?k3 ?k4 ?k5 ?kA ?kF ?kK ?k6 ?k7 ?k8 ?k9 ?kB ?_ ?c2 ?c3 ?c4 ?c5; (case kA => exact rfl); (case kF => exact rfl); (case kK => assumption); (case k1 => k_asm); (case k2 => k_asm); (case k3 => k_asm); (case k4 => exact N0); (case k5 => k_asm); (case k6 => k_is); (case k7 => k_is); (case k8 => ktr_room); (case k9 => exact BindsTo.of_eq rfl); (case c5 => decide); (case kB => exact locs rfl); (case c2 => exact rfl); (case c3 => exact rfl); (case c4 => exact rfl); k_whole; intro g' L' h' hg' FG' F' N' B' X' T'; (try dsimp only); (try k_lift B'); (try k_fold))
  rename (_ = hideAll _ _) => HG
  have hpfg := list_of HG hpf
  have Og := own_of HG O
  clear hpf O
  repeat' (first | (k_unfold; (try dsimp only)) | (k_end; wrow_close) | (walk1 <;> (try dsimp only)) | (leave1; walk_say "STEP leave1"; try dsimp only) | fail "no step")
  all_goals (first | (exact hret _ _ _ _ _ _ _ _ _ _ (by assumption) (by assumption) (by assumption) (by assumption) (by assumption) (by assumption) (stay1 (by with_reducible assumption) (by with_reducible assumption))) | w_report)

section

theorem reg_14 : True := by
  (k_with "call ref" => (k_here; (with_reducible show wpAny _ _ (call (Value.ref 898) _ _) _ _ _); k_dflt (refine' key_g (U := some _) (tU := _) ?amZ59 ?NZ59 ?offZ59 ?hwZ59 ?wfZ59 ?pfZ59 ?hPZ59 ?OZ59 ?_; (case NZ59 => k_asm); (case amZ59 => (refine' Amb.mk ?aBZ59 ?aFZ59 ?aXZ59 ?aTZ59 ?akZ59 ?adZ59 ?auZ59; (case aBZ59 => k_asm); (case aFZ59 => k_asm); (case aXZ59 => k_asm); (case aTZ59 => k_asm); (case akZ59 => first | exact rfl | assumption); (case adZ59 => ktr_room); (case auZ59 => ktr_units))); (case offZ59 => ((repeat (refine List.forall_mem_cons.mpr ⟨?_, ?_⟩; (first | with_reducible assumption | k_ne))); (first | exact List.forall_mem_nil _ | k_asm))); (case hwZ59 => first | k_asm | assumption); (case wfZ59 => assumption); (case pfZ59 => assumption); (case hPZ59 => assumption); (case OZ59 => assumption); k_whole; intro h9 tk9 wo9 r9 ow9 T9 U9 t9 u9 res9 hrr9 hw9 hl9 F9 N9 hlt9; (try dsimp only); (try k_fold))))
  trivial


theorem due_kl {w mean mg mb dp un gd cn cs a ccd cl outer A₀ base h₀ L m} {s : Shared} {Q E : Value → Shared → Prop} {wd own pf : Addr} {wo : Obj} {r : Int} {tr : Tok} {Pb W : Array UInt8} {S : Option (Array UInt8)} {t1 t2 : Tok} {okvs : List (List UInt8 × Value)} {F : Array UInt8 → Option (Addr × Value × Bool)} {T : Array UInt8} {M : Option (Array UInt8)} {tT tU tM tW tn tki tu0 : Tok} {kind u0 : Int} {now : Int} {P : Bool} 
  (am : Amb 25 200 w mean mg mb dp un cs outer A₀ base h₀ L m s.heap) (N0 : News h₀ L s.heap [(wd, wo)]) (hw : Obj.IsDictOf (strKind PySem.Challenge.rw_og0286_01.row.prog w) wo (wk (.bytes T tT) (.int u0 tu0) (optB M tM) (.ref own) (.ref pf) (.int r tr))) (wf : Wf T (some u0) M) (hpf : (hideAll s.heap [wd]).IsList pf (pfVals Pb S t1 t2).toArray) (hP : prefP Pb S W = P) (O : OwnAt w (hideAll s.heap [wd]) own okvs W F) (hk8 : kind ≠ 8) (hk9 : kind ≠ 9) (hk7 : kind ≠ 7) (hk6 : kind ≠ 6) (hlt : now < u0)
  (hret : ∀ h' tk' wo' r' ow T' U' (t u : Tok) res, stepOne P (F (hereT T M)) (F rootB) r T M (some u0) now = (T', U', res) → Obj.IsDictOf (strKind PySem.Challenge.rw_og0286_01.row.prog w) wo' (wk (.bytes T' t) (optV U' u) (optB M tM) (.ref own) (.ref pf) (.int r tr)) → LResIs (F (hereT T M)) (F rootB) W res r' ow → Fr h₀ L h' m → News h₀ L h' (ow ++ [(wd, wo')]) → (∀ q ∈ ow, AllLt q.1 [(wd, wo)]) → (hideAll s.heap [wd]).StaysIn h' → Q (.ref r') { s with heap := h', toks := tk' }) :
  wpAny (model PySem.Challenge.rw_og0286_01.row.prog w) (ktrTop dp un gd cn cs L a ccd cl outer) (call (.ref 905) [.ref wd, .int kind tki, .bytes W tW, .int now tn]) Q E s := by
  obtain ⟨B, F, X, T, hk, hd, hu⟩ := am
  revert X; k_fill; intro X
  refine wpAny_call ?_
  k_dflt (refine' code_defR ?k1 ?k2 ?k3 ?k4 ?k5 ?kA ?kF ?kK ?k6 ?k7 ?k8 ?k9 ?kB ?_ ?c2 ?c3 ?c4 ?c5; (case kA => exact rfl); (case kF => exact rfl); (case kK => assumption); (case k1 => k_asm); (case k2 => k_asm); (case k3 => k_asm); (case k4 => exact N0); (case k5 => k_asm); (case k6 => k_is); (case k7 => k_is); (case k8 => ktr_room); (case k9 => exact BindsTo.of_eq rfl); (case c5 => decide); (case kB => exact locs rfl); (case c2 => exact rfl); (case c3 => exact rfl); (case c4 => exact rfl); k_whole; intro g' L' h' hg' FG' F' N' B' X' T'; (try dsimp only); (try k_lift B'); (try k_fold))
  rename (_ = hideAll _ _) => HG
  have hpfg := list_of HG hpf
  have Og := own_of HG O
  clear hpf O
  repeat' (first | (k_unfold; (try dsimp only)) | (k_end; wrow_close) | (walk1 <;> (try dsimp only)) | (leave1; walk_say "STEP leave1"; try dsimp only) | fail "no step")
  all_goals (first | (exact hret _ _ _ _ _ _ _ _ _ _ (by assumption) (by assumption) (by assumption) (by assumption) (by assumption) (by assumption) (stay1 (by with_reducible assumption) (by with_reducible assumption))) | w_report)

section

theorem reg_15 : True := by
  (k_with "call ref" => (k_here; (with_reducible show wpAny _ _ (call (Value.ref 898) _ _) _ _ _); k_dflt (refine' key_g (T := rootB) (U := none) (tU := 0) ?amZ60 ?NZ60 ?offZ60 ?hwZ60 ?wfZ60 ?pfZ60 ?hPZ60 ?OZ60 ?_; (case NZ60 => k_asm); (case amZ60 => (refine' Amb.mk ?aBZ60 ?aFZ60 ?aXZ60 ?aTZ60 ?akZ60 ?adZ60 ?auZ60; (case aBZ60 => k_asm); (case aFZ60 => k_asm); (case aXZ60 => k_asm); (case aTZ60 => k_asm); (case akZ60 => first | exact rfl | assumption); (case adZ60 => ktr_room); (case auZ60 => ktr_units))); (case offZ60 => ((repeat (refine List.forall_mem_cons.mpr ⟨?_, ?_⟩; (first | with_reducible assumption | k_ne))); (first | exact List.forall_mem_nil _ | k_asm))); (case hwZ60 => first | k_asm | assumption); (case wfZ60 => assumption); (case pfZ60 => assumption); (case hPZ60 => assumption); (case OZ60 => assumption); k_whole; intro h9 tk9 wo9 r9 ow9 T9 U9 t9 u9 res9 hrr9 hw9 hl9 F9 N9 hlt9; (try dsimp only); (try k_fold))))
  trivial


theorem due_kd {w mean mg mb dp un gd cn cs a ccd cl outer A₀ base h₀ L m} {s : Shared} {Q E : Value → Shared → Prop} {wd own pf : Addr} {wo : Obj} {r : Int} {tr : Tok} {Pb W : Array UInt8} {S : Option (Array UInt8)} {t1 t2 : Tok} {okvs : List (List UInt8 × Value)} {F : Array UInt8 → Option (Addr × Value × Bool)} {T : Array UInt8} {M : Option (Array UInt8)} {tT tU tM tW tn tki tu0 : Tok} {kind u0 : Int} {now : Int} {P : Bool} 
  (am : Amb 25 200 w mean mg mb dp un cs outer A₀ base h₀ L m s.heap) (N0 : News h₀ L s.heap [(wd, wo)]) (hw : Obj.IsDictOf (strKind PySem.Challenge.rw_og0286_01.row.prog w) wo (wk (.bytes T tT) (.int u0 tu0) (optB M tM) (.ref own) (.ref pf) (.int r tr))) (wf : Wf rootB none M) (hpf : (hideAll s.heap [wd]).IsList pf (pfVals Pb S t1 t2).toArray) (hP : prefP Pb S W = P) (O : OwnAt w (hideAll s.heap [wd]) own okvs W F) (hk8 : kind ≠ 8) (hk9 : kind ≠ 9) (hk7 : kind ≠ 7) (hk6 : kind ≠ 6) (hlt : u0 ≤ now)
  (hret : ∀ h' tk' wo' r' ow T' U' (t u : Tok) res, stepOne P (F (hereT rootB M)) (F rootB) r rootB M none now = (T', U', res) → Obj.IsDictOf (strKind PySem.Challenge.rw_og0286_01.row.prog w) wo' (wk (.bytes T' t) (optV U' u) (optB M tM) (.ref own) (.ref pf) (.int r tr)) → LResIs (F (hereT rootB M)) (F rootB) W res r' ow → Fr h₀ L h' m → News h₀ L h' (ow ++ [(wd, wo')]) → (∀ q ∈ ow, AllLt q.1 [(wd, wo)]) → (hideAll s.heap [wd]).StaysIn h' → Q (.ref r') { s with heap := h', toks := tk' }) :
  wpAny (model PySem.Challenge.rw_og0286_01.row.prog w) (ktrTop dp un gd cn cs L a ccd cl outer) (call (.ref 905) [.ref wd, .int kind tki, .bytes W tW, .int now tn]) Q E s := by
  obtain ⟨B, F, X, T, hk, hd, hu⟩ := am
  revert X; k_fill; intro X
  refine wpAny_call ?_
  k_dflt (refine' code_defR ?k1 ?k2 ?k3 ?k4 ?k5 ?kA ?kF ?kK ?k6 ?k7 ?k8 ?k9 ?kB ?_ ?c2 ?c3 ?c4 ?c5; (case kA => exact rfl); (case kF => exact rfl); (case kK => assumption); (case k1 => k_asm); (case k2 => k_asm); (case k3 => k_asm); (case k4 => exact N0); (case k5 => k_asm); (case k6 => k_is); (case k7 => k_is); (case k8 => ktr_room); (case k9 => exact BindsTo.of_eq rfl); (case c5 => decide); (case kB => exact locs rfl); (case c2 => exact rfl); (case c3 => exact rfl); (case c4 => exact rfl); k_whole; intro g' L' h' hg' FG' F' N' B' X' T'; (try dsimp only); (try k_lift B'); (try k_fold))
  rename (_ = hideAll _ _) => HG
  have hpfg := list_of HG hpf
  have Og := own_of HG O
  clear hpf O
  repeat' (first | (k_unfold; (try dsimp only)) | (k_end; wrow_close) | (walk1 <;> (try dsimp only)) | (leave1; walk_say "STEP leave1"; try dsimp only) | fail "no step")
  all_goals (first | (exact hret _ _ _ _ _ _ _ _ _ _ (by assumption) (by assumption) (by assumption) (by assumption) (by assumption) (by assumption) (stay1 (by with_reducible assumption) (by with_reducible assumption))) | w_report)

end
end
end
end
section
def togM : Option (Array UInt8) → Option (Array UInt8)
  | none => some copyB
  | some _ => none
def lawStep (P : Bool) (F : Array UInt8 → Option (Addr × Value × Bool)) (r : Int) (T : Array UInt8) (U : Option Int) (M : Option (Array UInt8)) (kind now : Int) : Array UInt8 × Option Int × Option (Array UInt8) × Res :=
  if kind = 8 then (T, U, togM M, .nil)
  else if kind = 9 then (ownB, none, M, .nil)
  else if kind = 7 then (expT T U now, expU U now, M, .nil)
  else if kind = 6 then (rootB, none, M, .send)
  else
    let x := stepOne P (F (hereT (expT T U now) M)) (F rootB) r (expT T U now) M (expU U now) now
    (x.1, x.2.1, M, x.2.2)
def sentW (kind : Int) (W : Array UInt8) : Array UInt8 := if kind = 6 then octB else W

theorem due_g {w mean mg mb dp un gd cn cs a ccd cl outer A₀ base h₀ L m} {s : Shared} {Q E : Value → Shared → Prop} {wd own pf : Addr} {wo : Obj} {r : Int} {tr : Tok} {Pb W : Array UInt8} {S : Option (Array UInt8)} {t1 t2 : Tok} {okvs : List (List UInt8 × Value)} {F : Array UInt8 → Option (Addr × Value × Bool)} {T : Array UInt8} {U : Option Int} {M : Option (Array UInt8)} {tT tU tM tW tn tki : Tok} {kind : Int} {now : Int} {P : Bool} 
  (am : Amb 25 200 w mean mg mb dp un cs outer A₀ base h₀ L m s.heap) (N : News h₀ L s.heap [(wd, wo)]) (hw : Obj.IsDictOf (strKind PySem.Challenge.rw_og0286_01.row.prog w) wo (wk (.bytes T tT) (optV U tU) (optB M tM) (.ref own) (.ref pf) (.int r tr))) (wf : Wf T U M) (hpf : (hideAll s.heap [wd]).IsList pf (pfVals Pb S t1 t2).toArray) (hP : prefP Pb S W = P) (O : OwnAt w (hideAll s.heap [wd]) own okvs W F)
  (hret : ∀ h' tk' wo' r' ow T' U' M' (t u v : Tok) res, lawStep P F r T U M kind now = (T', U', M', res) → Obj.IsDictOf (strKind PySem.Challenge.rw_og0286_01.row.prog w) wo' (wk (.bytes T' t) (optV U' u) (optB M' v) (.ref own) (.ref pf) (.int r tr)) → LResIs (F (hereT (expT T U now) M)) (F rootB) (sentW kind W) res r' ow → Fr h₀ L h' m → News h₀ L h' (ow ++ [(wd, wo')]) → (∀ q ∈ ow, AllLt q.1 [(wd, wo)]) → (hideAll s.heap [wd]).StaysIn h' → Q (.ref r') { s with heap := h', toks := tk' }) :
  wpAny (model PySem.Challenge.rw_og0286_01.row.prog w) (ktrTop dp un gd cn cs L a ccd cl outer) (call (.ref 905) [.ref wd, .int kind tki, .bytes W tW, .int now tn]) Q E s := by
  by_cases k8 : kind = 8
  · have sw : sentW kind W = W := by simp [sentW, k8]
    rcases wf.m with e | e
    · subst e
      exact due_8n (f1 := F (hereT (expT T U now) none)) (f0 := F rootB) (tu0 := 0) (tT0 := 0) (tM0 := 0) (u0 := 0) am N hw k8 fun h' tk' wo' r' ow t u v a b c d e f => hret h' tk' wo' r' ow T U (some copyB) tT tU v .nil (by simp [lawStep, k8, togM]) a (by rw [sw]; exact b) c d e f
    · subst e
      exact due_8s (f1 := F (hereT (expT T U now) (some copyB))) (f0 := F rootB) (tu0 := 0) (tT0 := 0) (u0 := 0) am N hw k8 fun h' tk' wo' r' ow t u v a b c d e f => hret h' tk' wo' r' ow T U none tT tU 0 .nil (by simp [lawStep, k8, togM]) a (by rw [sw]; exact b) c d e f
  by_cases k9 : kind = 9
  · have sw : sentW kind W = W := by simp [sentW, k9]
    exact due_9 (f1 := F (hereT (expT T U now) M)) (f0 := F rootB) (tu0 := 0) (tT0 := 0) (tM0 := 0) (u0 := 0) am N hw k9 fun h' tk' wo' r' ow t u v a b c d e f => hret h' tk' wo' r' ow ownB none M t 0 tM .nil (by simp [lawStep, k8, k9]) a (by rw [sw]; exact b) c d e f
  by_cases k7 : kind = 7
  · have sw : sentW kind W = W := by simp [sentW, k7]
    cases U with
    | none => exact due_7n (f1 := F (hereT (expT T none now) M)) (f0 := F rootB) (tu0 := 0) (tT0 := 0) (tM0 := 0) (u0 := 0) am N hw k7 fun h' tk' wo' r' ow t u v a b c d e f => hret h' tk' wo' r' ow T none M tT 0 tM .nil (by simp [lawStep, k7, expT, expU]) a (by rw [sw]; exact b) c d e f
    | some u0 =>
      by_cases hu : u0 ≤ now
      · exact due_7d (f1 := F (hereT (expT T (some u0) now) M)) (f0 := F rootB) (tT0 := 0) (tM0 := 0) am N hw k7 hu fun h' tk' wo' r' ow t u v a b c d e f => hret h' tk' wo' r' ow rootB none M t 0 tM .nil (by simp [lawStep, k7, expT, expU, hu]) a (by rw [sw]; exact b) c d e f
      · exact due_7l (f1 := F (hereT (expT T (some u0) now) M)) (f0 := F rootB) (tT0 := 0) (tM0 := 0) am N hw k7 (by omega) fun h' tk' wo' r' ow t u v a b c d e f => hret h' tk' wo' r' ow T (some u0) M tT tU tM .nil (by simp [lawStep, k7, expT, expU, hu]) a (by rw [sw]; exact b) c d e f
  by_cases k6 : kind = 6
  · have sw : sentW kind W = octB := by simp [sentW, k6]
    cases U with
    | none => exact due_6n (f1 := F (hereT (expT T none now) M)) (f0 := F rootB) (tu0 := 0) (tT0 := 0) (tM0 := 0) (u0 := 0) am N hw k6 fun h' tk' wo' r' ow t u v a b c d e f => hret h' tk' wo' r' ow rootB none M t 0 tM .send (by simp [lawStep, k6]) a (by rw [sw]; exact b) c d e f
    | some u0 =>
      by_cases hu : u0 ≤ now
      · exact due_6d (f1 := F (hereT (expT T (some u0) now) M)) (f0 := F rootB) (tT0 := 0) (tM0 := 0) am N hw k6 hu fun h' tk' wo' r' ow t u v a b c d e f => hret h' tk' wo' r' ow rootB none M t 0 tM .send (by simp [lawStep, k6]) a (by rw [sw]; exact b) c d e f
      · exact due_6l (f1 := F (hereT (expT T (some u0) now) M)) (f0 := F rootB) (tT0 := 0) (tM0 := 0) am N hw k6 (by omega) fun h' tk' wo' r' ow t u v a b c d e f => hret h' tk' wo' r' ow rootB none M t 0 tM .send (by simp [lawStep, k6]) a (by rw [sw]; exact b) c d e f
  have sw : sentW kind W = W := by simp [sentW, k6]
  have fin : ∀ x, stepOne P (F (hereT (expT T U now) M)) (F rootB) r (expT T U now) M (expU U now) now = x → lawStep P F r T U M kind now = (x.1, x.2.1, M, x.2.2) := by
    intro x hx
    subst hx
    simp [lawStep, k6, k7, k8, k9]
  rw [sw] at hret
  cases U with
  | none => exact due_kn (tU := 0) (tu0 := 0) (u0 := 0) am N hw wf hpf hP O k8 k9 k7 k6 fun h' tk' wo' r' ow T' U' t u res st a b c d e f => hret h' tk' wo' r' ow T' U' M t u tM res (fin (T', U', res) st) a b c d e f
  | some u0 =>
    by_cases hu : u0 ≤ now
    · have e1 : expT T (some u0) now = rootB := by simp [expT, hu]
      have e2 : expU (some u0) now = none := by simp [expU, hu]
      rw [e1, e2] at fin
      rw [e1] at hret
      exact due_kd (tU := 0) am N hw ⟨.inl rfl, (fun e => nomatch e), wf.m⟩ hpf hP O k8 k9 k7 k6 hu fun h' tk' wo' r' ow T' U' t u res st a b c d e f => hret h' tk' wo' r' ow T' U' M t u tM res (fin (T', U', res) st) a b c d e f
    · have e1 : expT T (some u0) now = T := by simp [expT, hu]
      have e2 : expU (some u0) now = some u0 := by simp [expU, hu]
      rw [e1, e2] at fin
      rw [e1] at hret
      exact due_kl (tU := 0) am N hw wf hpf hP O k8 k9 k7 k6 (by omega) fun h' tk' wo' r' ow T' U' t u res st a b c d e f => hret h' tk' wo' r' ow T' U' M t u tM res (fin (T', U', res) st) a b c d e f

theorem due_r {w mean mg mb dp un gd cn cs a ccd cl outer A₀ base h₀ L m} {s : Shared} {Q E : Value → Shared → Prop} {wd own pf : Addr} {wo : Obj} {r : Int} {tr : Tok} {Pb W : Array UInt8} {S : Option (Array UInt8)} {t1 t2 : Tok} {okvs : List (List UInt8 × Value)} {F : Array UInt8 → Option (Addr × Value × Bool)} {T : Array UInt8} {U : Option Int} {M : Option (Array UInt8)} {tT tU tM tW tn tki : Tok} {kind : Int} {now : Int} {P : Bool}  {rest : List (Addr × Obj)}
  (am : Amb 25 200 w mean mg mb dp un cs outer A₀ base h₀ L m s.heap) (N : News h₀ L s.heap ((wd, wo) :: rest)) (hoff : ∀ p ∈ rest, p.1 ≠ wd) (hw : Obj.IsDictOf (strKind PySem.Challenge.rw_og0286_01.row.prog w) wo (wk (.bytes T tT) (optV U tU) (optB M tM) (.ref own) (.ref pf) (.int r tr))) (wf : Wf T U M) (hpf : (hideAll s.heap [wd]).IsList pf (pfVals Pb S t1 t2).toArray) (hP : prefP Pb S W = P) (O : OwnAt w (hideAll s.heap [wd]) own okvs W F)
  (hret : ∀ h' tk' wo' r' ow T' U' M' (t u v : Tok) res, lawStep P F r T U M kind now = (T', U', M', res) → Obj.IsDictOf (strKind PySem.Challenge.rw_og0286_01.row.prog w) wo' (wk (.bytes T' t) (optV U' u) (optB M' v) (.ref own) (.ref pf) (.int r tr)) → LResIs (F (hereT (expT T U now) M)) (F rootB) (sentW kind W) res r' ow → Fr h₀ L h' m → News h₀ L h' (ow ++ (wd, wo') :: rest) → (∀ q ∈ ow, AllLt q.1 [(wd, wo)]) → (hideAll s.heap [wd]).StaysIn h' → Q (.ref r') { s with heap := h', toks := tk' }) :
  wpAny (model PySem.Challenge.rw_og0286_01.row.prog w) (ktrTop dp un gd cn cs L a ccd cl outer) (call (.ref 905) [.ref wd, .int kind tki, .bytes W tW, .int now tn]) Q E s := by
  have NA : News h₀ L s.heap [(wd, wo)] := fun p hp => N p (by rw [List.mem_singleton.mp hp]; exact List.Mem.head _)
  have NB : News h₀ L s.heap rest := fun p hp => N p (List.Mem.tail _ hp)
  refine due_g am NA hw wf hpf hP O fun h' tk' wo' r' ow T' U' M' t u v res st a b c d e f => hret h' tk' wo' r' ow T' U' M' t u v res st a b c ?_ e f
  have NR := news_rest NA NB f d (d := wd) (fun p hp => .inr (by rw [List.mem_singleton.mp hp])) hoff
  intro p hp
  rcases List.mem_append.mp hp with h1 | h1
  · exact d p (List.mem_append_left _ h1)
  · rcases List.mem_cons.mp h1 with rfl | h1
    · exact d _ (List.mem_append_right _ (List.Mem.head _))
    · exact NR p h1
end
section
local macro_rules | `(tactic| k_room) => `(tactic| ktr_room)
local macro_rules | `(tactic| k_all) => `(tactic| assumption)
local macro_rules | `(tactic| k_inst) => `(tactic| (refine' inst_base ?iF ?ih1 ?ih2; (case iF => k_asm); (case ih1 => k_asm); (case ih2 => k_asm)))

theorem reg_16 : True := by
  k_with_none
  (k_with "room" => ((with_reducible rename _ + _ < recursionLimit => hR9); first | exact room_k 4 hR9 | exact room_k 37 hR9 | exact room_k 9 hR9 | exact room_k 5 hR9 | exact room_k 14 hR9 | exact room_k 10 hR9 | exact room_k 19 hR9 | exact room_k 15 hR9 | exact room_k 20 hR9 | exact room_k 25 hR9 | exact room_k 35 hR9 | exact room_k 13 hR9 | exact room_k 1 hR9 | exact room_k 38 hR9 | exact room_k 23 hR9 | exact room_k 24 hR9 | exact room_k 29 hR9 | exact room_k 8 hR9 | exact room_k 40 hR9 | exact room_k 39 hR9 | exact room_k 44 hR9 | exact room_k 17 hR9 | exact room_k 21 hR9 | exact room_k 30 hR9 | exact room_k 33 hR9 | exact room_k 16 hR9 | exact room_k 2 hR9 | exact room_k 43 hR9 | exact room_k 7 hR9 | exact room_k 45 hR9 | exact room_k 0 hR9 | exact room_k 3 hR9 | exact room_k 6 hR9 | exact room_k 11 hR9 | exact room_k 12 hR9 | exact room_k 18 hR9 | exact room_k 22 hR9 | exact room_k 26 hR9 | exact room_k 27 hR9 | exact room_k 28 hR9 | exact room_k 31 hR9 | exact room_k 32 hR9 | exact room_k 34 hR9 | exact room_k 36 hR9 | exact room_k 41 hR9 | exact room_k 42 hR9))
  (k_with "units" => ((with_reducible rename _ + _ < cLine => hR9); first | exact room_k 37 hR9 | exact room_k 77 hR9 | exact room_k 117 hR9 | exact room_k 157 hR9 | exact room_k 237 hR9 | exact room_k 197 hR9 | exact room_k 151 hR9 | exact room_k 133 hR9 | exact room_k 277 hR9 | exact room_k 317 hR9 | exact room_k 357 hR9 | exact room_k 4 hR9 | exact room_k 9 hR9 | exact room_k 5 hR9 | exact room_k 14 hR9 | exact room_k 10 hR9 | exact room_k 19 hR9 | exact room_k 15 hR9 | exact room_k 20 hR9 | exact room_k 25 hR9 | exact room_k 35 hR9 | exact room_k 13 hR9 | exact room_k 1 hR9 | exact room_k 38 hR9 | exact room_k 23 hR9 | exact room_k 24 hR9 | exact room_k 29 hR9 | exact room_k 8 hR9 | exact room_k 40 hR9 | exact room_k 39 hR9 | exact room_k 44 hR9 | exact room_k 17 hR9 | exact room_k 21 hR9 | exact room_k 30 hR9 | exact room_k 33 hR9 | exact room_k 16 hR9 | exact room_k 2 hR9 | exact room_k 43 hR9 | exact room_k 7 hR9 | exact room_k 45 hR9))
  (k_with "lt" => (first | with_reducible assumption | exact (by with_reducible assumption : _ ∧ _).1 | exact (by with_reducible assumption : _ ∧ _).2 | exact (by with_reducible assumption : _ ∧ _ ∧ _).2.1 | exact (by with_reducible assumption : _ ∧ _ ∧ _).2.2 | exact (by with_reducible assumption : _ ∧ _ ∧ _ ∧ _).2.2.1 | exact (by with_reducible assumption : _ ∧ _ ∧ _ ∧ _).2.2.2 | exact (by with_reducible assumption : _ ∧ _ ∧ _ ∧ _ ∧ _).2.2.2.1 | exact (by with_reducible assumption : _ ∧ _ ∧ _ ∧ _ ∧ _).2.2.2.2 | exact (by with_reducible assumption : _ ∧ _ ∧ _ ∧ _ ∧ _ ∧ _).2.2.2.2.1 | exact (by with_reducible assumption : _ ∧ _ ∧ _ ∧ _ ∧ _ ∧ _).2.2.2.2.2 | exact (by with_reducible assumption : _ ∧ _ ∧ _ ∧ _ ∧ _ ∧ _ ∧ _).2.2.2.2.2.1 | exact (by with_reducible assumption : _ ∧ _ ∧ _ ∧ _ ∧ _ ∧ _ ∧ _).2.2.2.2.2.2 | exact (by with_reducible assumption : _ ∧ _ ∧ _ ∧ _ ∧ _ ∧ _ ∧ _ ∧ _).2.2.2.2.2.2.1 | exact (by with_reducible assumption : _ ∧ _ ∧ _ ∧ _ ∧ _ ∧ _ ∧ _ ∧ _).2.2.2.2.2.2.2 | exact (by with_reducible assumption : _ ∧ _ ∧ _ ∧ _ ∧ _ ∧ _ ∧ _ ∧ _ ∧ _).2.2.2.2.2.2.2.1 | exact (by with_reducible assumption : _ ∧ _ ∧ _ ∧ _ ∧ _ ∧ _ ∧ _ ∧ _ ∧ _).2.2.2.2.2.2.2.2 | exact (by with_reducible assumption : _ ∧ _ ∧ _ ∧ _ ∧ _ ∧ _ ∧ _ ∧ _ ∧ _ ∧ _).2.2.2.2.2.2.2.2.1 | exact (by with_reducible assumption : _ ∧ _ ∧ _ ∧ _ ∧ _ ∧ _ ∧ _ ∧ _ ∧ _ ∧ _).2.2.2.2.2.2.2.2.2 | exact (by with_reducible assumption : _ ∧ _ ∧ _ ∧ _ ∧ _ ∧ _ ∧ _ ∧ _ ∧ _ ∧ _ ∧ _).2.2.2.2.2.2.2.2.2.1 | exact (by with_reducible assumption : _ ∧ _ ∧ _ ∧ _ ∧ _ ∧ _ ∧ _ ∧ _ ∧ _ ∧ _ ∧ _).2.2.2.2.2.2.2.2.2.2 | exact (by with_reducible assumption : _ ∧ _ ∧ _ ∧ _ ∧ _ ∧ _ ∧ _ ∧ _ ∧ _ ∧ _ ∧ _ ∧ _).2.2.2.2.2.2.2.2.2.2.1 | exact (by with_reducible assumption : _ ∧ _ ∧ _ ∧ _ ∧ _ ∧ _ ∧ _ ∧ _ ∧ _ ∧ _ ∧ _ ∧ _).2.2.2.2.2.2.2.2.2.2.2 | exact (by with_reducible assumption : _ ∧ _ ∧ _ ∧ _ ∧ _ ∧ _ ∧ _ ∧ _ ∧ _ ∧ _ ∧ _ ∧ _ ∧ _).2.2.2.2.2.2.2.2.2.2.2.1 | exact (by with_reducible assumption : _ ∧ _ ∧ _ ∧ _ ∧ _ ∧ _ ∧ _ ∧ _ ∧ _ ∧ _ ∧ _ ∧ _ ∧ _).2.2.2.2.2.2.2.2.2.2.2.2))
  (k_with "ne" => ((refine neN ?_); (try dsimp only); first | (refine Nat.ne_of_lt ?_; k_extra "lt") | (refine Nat.ne_of_gt ?_; k_extra "lt") | omega))
  (k_with "all" => (first | assumption | exact all_nil | (refine' all_cons ?a9Z5 ?b9Z5; (case a9Z5 => k_extra "ne"); (case b9Z5 => k_extra "all"))))
  (k_with "ite" => (k_closed; k_dflt (first | (refine' @ite_pos _ _ _ _ ?h1Z6 ?_; (case h1Z6 => decide); k_whole) | (refine' @ite_neg _ _ _ _ ?h2Z6 ?_; (case h2Z6 => decide); k_whole))))
  (k_with "getAttr ref true" => (k_here; k_dflt (refine' get_own ?k1Z7 ?k2Z7 ?k3Z7 ?k4Z7 ?k5Z7 ?k6Z7 ?k7Z7 ?k8Z7 ?k9Z7 ?_; (case k1Z7 => k_asm); (case k2Z7 => k_asm); (case k3Z7 => k_inst); (case k4Z7 => k_is); (case k5Z7 => k_is); (case k6Z7 => k_is); (case k7Z7 => k_is); (case k8Z7 => k_get); (case k9Z7 => k_handed); k_whole)))
  (k_with "eval Name" => (k_here; name_kind "local"; k_dflt (refine' nameX_L ?FZ8 ?vZ8 ?_ ?aZ8 ?bZ8; (case FZ8 => k_asm); (case aZ8 => rfl); (case bZ8 => rfl); (case vZ8 => rfl); k_whole)))
  (k_with "eval Name" => (k_here; name_kind "globalImplicit"; k_dflt (first | (refine' nameX_K ?FZ9 ?XZ9 ?TZ9 ?eZ9 ?_ ?aZ9 ?bZ9; (case FZ9 => k_asm); (case XZ9 => k_asm); (case TZ9 => k_asm); (case aZ9 => rfl); (case bZ9 => rfl); (case eZ9 => k_is); k_whole) | (refine' nameX_B ?F9Z9 ?X9Z9 ?T9Z9 ?e9Z9 ?v9Z9 ?n9Z9 ?_ ?a9Z9 ?b9Z9; (case F9Z9 => k_asm); (case X9Z9 => k_asm); (case T9Z9 => k_asm); (case a9Z9 => rfl); (case b9Z9 => rfl); (case e9Z9 => k_is); (case v9Z9 => boot_fast); (case n9Z9 => decide); k_whole))))
  (k_with "callWith ref cons nil" => (k_here; k_dflt (first | (refine' callWith_K ?k1Z10 ?k2Z10 ?_; (case k1Z10 => k_asm); (case k2Z10 => k_is); k_whole) | (refine' callWith_K0 ?k3Z10 ?k4Z10 ?_; (case k3Z10 => first | with_reducible assumption | (refine' Frag.In.keeps ?x8Z10 (Fr.keep ?f8Z10); (case f8Z10 => with_reducible assumption); (case x8Z10 => with_reducible assumption)) | k_in); (case k4Z10 => k_is); k_whole) | (refine' callWith_M0 ?k5Z10 ?k6Z10 ?_; (case k5Z10 => k_meth); (case k6Z10 => k_is); k_whole; try dsimp only [List.nil_append, List.cons_append]))))
  (k_with "exec While Constant cons nil" => (k_here; k_dflt (refine whl_start 100 ?_)))
  (k_with "call builtin:list.append cons nil" => (k_here; (with_reducible show wpAny _ _ (call (Value.builtin _) [Value.ref _, _]) _ _ _); k_dflt (refine' append_K ?k1Z12 ?k2Z12 ?k3Z12 ?_ ?zZ12; (case k1Z12 => k_asm); (case k2Z12 => k_asm); (case k3Z12 => k_upd); (case zZ12 => first | size_fits | k_extra "size9"); k_whole); intro h' F' N'; (try k_sweep)))
  (k_with "compareOp In" => (k_here; (with_reducible show wpAny _ _ (compareOp CmpOp.In (Value.bytes _ _) (Value.ref _)) _ _ _); k_dflt (refine' md_in (md_at ?FZ61 ?DZ61) ?lZ61 (bk_is _ _ _ _) ?vZ61 ?_; (case FZ61 => k_asm); (case DZ61 => k_asm); (case lZ61 => k_asm); (case vZ61 => k_asm); k_whole)))
  (k_with "subscriptTail" => (k_here; (with_reducible show wpAny _ _ (subscriptTail _ _ (Value.ref _) (Value.bytes _ _)) _ _ _); k_dflt (refine' md_item (md_at ?FZ62 ?DZ62) (bk_is _ _ _ _) ?vZ62 ?_; (case FZ62 => k_asm); (case DZ62 => k_asm); (case vZ62 => k_asm); k_whole)))
  (k_with "getMethod ref" => (k_here; (with_reducible show wpAny _ _ (getMethod (Value.ref _) (Str.ofString "get") _) _ _ _); k_dflt (refine' md_getm (knd := bytesKind _ _) (md_at ?FZ63 ?DZ63) ?_; (case FZ63 => k_asm); (case DZ63 => k_asm); k_whole)))
  (k_with "call builtin:dict.get" => (k_here; k_dflt (first | ((with_reducible show wpAny _ _ (call (Value.builtin "dict.get") [Value.ref _, Value.bytes _ _]) _ _ _); refine' md_get1 (md_at ?FZ64 ?DZ64) ?lZ64 (bk_is _ _ _ _) ?vZ64 ?_; (case FZ64 => k_asm); (case DZ64 => k_asm); (case lZ64 => k_asm); (case vZ64 => k_asm); k_whole) | ((with_reducible show wpAny _ _ (call (Value.builtin "dict.get") [Value.ref _, Value.bytes _ _, _]) _ _ _); refine' md_get2 (md_at ?FZ64 ?DZ64) ?lZ64 (bk_is _ _ _ _) ?vZ64 ?_; (case FZ64 => k_asm); (case DZ64 => k_asm); (case lZ64 => k_asm); (case vZ64 => k_asm); k_whole)); (try dsimp only [Option.getD])))
  (k_with "compareOp Eq bytes none" => with_reducible refine eq_bytes_none ?_)
  (k_with "WhlPost" => (refine whlpost_ret ?_))
  (k_with "call ref" => (k_here; (with_reducible show wpAny _ _ (call (Value.ref 779) _ _) _ _ _); k_dflt (refine' reset_l ?amZ67 ?neZ67 ?NZ67 ?offZ67 ?_; (case amZ67 => (refine' Amb.mk ?aBZ67 ?aFZ67 ?aXZ67 ?aTZ67 ?akZ67 ?adZ67 ?auZ67; (case aBZ67 => k_asm); (case aFZ67 => k_asm); (case aXZ67 => k_asm); (case aTZ67 => k_asm); (case akZ67 => first | exact rfl | assumption); (case adZ67 => ktr_room); (case auZ67 => ktr_units))); (case NZ67 => k_asm); (case neZ67 => k_asm); (case offZ67 => ((repeat (refine List.forall_mem_cons.mpr ⟨?_, ?_⟩; (first | with_reducible assumption | k_ne))); k_asm)); k_whole; intro h9 tk9 t9 F9 N9; (try dsimp only); (try k_fold))))
  (k_with "call ref" => (k_here; (with_reducible show wpAny _ _ (call (Value.ref 786) _ _) _ _ _); k_dflt (refine' switch_l ?amZ68 ?neZ68 ?NZ68 ?offZ68 ?_; (case amZ68 => (refine' Amb.mk ?aBZ68 ?aFZ68 ?aXZ68 ?aTZ68 ?akZ68 ?adZ68 ?auZ68; (case aBZ68 => k_asm); (case aFZ68 => k_asm); (case aXZ68 => k_asm); (case aTZ68 => k_asm); (case akZ68 => first | exact rfl | assumption); (case adZ68 => ktr_room); (case auZ68 => ktr_units))); (case NZ68 => k_asm); (case neZ68 => k_asm); (case offZ68 => ((repeat (refine List.forall_mem_cons.mpr ⟨?_, ?_⟩; (first | with_reducible assumption | k_ne))); k_asm)); k_whole; intro h9 tk9 F9 N9; (try dsimp only); (try k_fold))))
  (k_with "call ref" => (k_here; (with_reducible show wpAny _ _ (call (Value.ref 814) _ _) _ _ _); k_dflt (first | (refine' here_none ?amZ69 ?neZ69 ?NZ69 ?offZ69 ?_; (case NZ69 => k_asm); (case amZ69 => (refine' Amb.mk ?aBZ69 ?aFZ69 ?aXZ69 ?aTZ69 ?akZ69 ?adZ69 ?auZ69; (case aBZ69 => k_asm); (case aFZ69 => k_asm); (case aXZ69 => k_asm); (case aTZ69 => k_asm); (case akZ69 => first | exact rfl | assumption); (case adZ69 => ktr_room); (case auZ69 => ktr_units))); (case neZ69 => k_asm); (case offZ69 => ((repeat (refine List.forall_mem_cons.mpr ⟨?_, ?_⟩; (first | with_reducible assumption | k_ne))); k_asm)); k_whole; intro h9 tk9 F9 N9; (try dsimp only); (try k_fold)) | (refine' here_root ?amZ69 ?neZ69 ?NZ69 ?offZ69 ?_; (case NZ69 => k_asm); (case amZ69 => (refine' Amb.mk ?aBZ69 ?aFZ69 ?aXZ69 ?aTZ69 ?akZ69 ?adZ69 ?auZ69; (case aBZ69 => k_asm); (case aFZ69 => k_asm); (case aXZ69 => k_asm); (case aTZ69 => k_asm); (case akZ69 => first | exact rfl | assumption); (case adZ69 => ktr_room); (case auZ69 => ktr_units))); (case neZ69 => k_asm); (case offZ69 => ((repeat (refine List.forall_mem_cons.mpr ⟨?_, ?_⟩; (first | with_reducible assumption | k_ne))); k_asm)); k_whole; intro h9 tk9 F9 N9; (try dsimp only); (try k_fold)) | (refine' here_else ?amZ69 ?neZ69 ?NZ69 ?offZ69 ?hTZ69 ?_; (case NZ69 => k_asm); (case hTZ69 => exact rfl); (case amZ69 => (refine' Amb.mk ?aBZ69 ?aFZ69 ?aXZ69 ?aTZ69 ?akZ69 ?adZ69 ?auZ69; (case aBZ69 => k_asm); (case aFZ69 => k_asm); (case aXZ69 => k_asm); (case aTZ69 => k_asm); (case akZ69 => first | exact rfl | assumption); (case adZ69 => ktr_room); (case auZ69 => ktr_units))); (case neZ69 => k_asm); (case offZ69 => ((repeat (refine List.forall_mem_cons.mpr ⟨?_, ?_⟩; (first | with_reducible assumption | k_ne))); k_asm)); k_whole; intro h9 tk9 F9 N9; (try dsimp only); (try k_fold)))))
  (k_with "call ref" => (k_here; (with_reducible show wpAny _ _ (call (Value.ref 807) _ _) _ _ _); k_dflt ((rename ExpIs _ _ _ _ _ _ _ _ _ _ _ _ => hEX9); refine' exp_use hEX9 ?amZ70 ?neZ70 ?NZ70 ?offZ70 ?_; (case amZ70 => (refine' Amb.mk ?aBZ70 ?aFZ70 ?aXZ70 ?aTZ70 ?akZ70 ?adZ70 ?auZ70; (case aBZ70 => k_asm); (case aFZ70 => k_asm); (case aXZ70 => k_asm); (case aTZ70 => k_asm); (case akZ70 => first | exact rfl | assumption); (case adZ70 => ktr_room); (case auZ70 => ktr_units))); (case NZ70 => k_asm); (case neZ70 => k_asm); (case offZ70 => ((repeat (refine List.forall_mem_cons.mpr ⟨?_, ?_⟩; (first | with_reducible assumption | k_ne))); k_asm)); k_whole; intro h9 tk9 t9 F9 N9; (try dsimp only); (try k_fold))))
  (k_with "call ref" => (k_here; (with_reducible show wpAny _ _ (call (Value.ref 328) _ _) _ _ _); k_dflt ((rename KeyWordIs _ _ _ _ => hKW9); refine' kw_use hKW9 ?amZ71 ?NZ71 ?needZ71 ?_; (case amZ71 => (refine' Amb.mk ?aBZ71 ?aFZ71 ?aXZ71 ?aTZ71 ?akZ71 ?adZ71 ?auZ71; (case aBZ71 => k_asm); (case aFZ71 => k_asm); (case aXZ71 => k_asm); (case aTZ71 => k_asm); (case akZ71 => first | exact rfl | assumption); (case adZ71 => ktr_room); (case auZ71 => ktr_units))); (case NZ71 => k_asm); (case needZ71 => ((repeat (refine sub_cons ?_ ?_; k_mem)); (first | exact List.forall_mem_nil _ | ((repeat (first | exact fun p hp => hp | refine sub_skip ?_)))))); k_whole; intro h9 tk9 t9 F9 N9; (try dsimp only); (try k_fold))))
  (k_with "call ref" => (k_here; (with_reducible show wpAny _ _ (call (Value.ref 718) _ _) _ _ _); k_dflt (refine' is_prefix_g ?amZ72 ?NZ72 ?b1Z72 ?b2Z72 ?hPZ72 ?_; (case amZ72 => (refine' Amb.mk ?aBZ72 ?aFZ72 ?aXZ72 ?aTZ72 ?akZ72 ?adZ72 ?auZ72; (case aBZ72 => k_asm); (case aFZ72 => k_asm); (case aXZ72 => k_asm); (case aTZ72 => k_asm); (case akZ72 => first | exact rfl | assumption); (case adZ72 => ktr_room); (case auZ72 => ktr_units))); (case NZ72 => k_asm); (case b1Z72 => k_asm); (case b2Z72 => k_asm); (case hPZ72 => k_asm); k_whole; intro h9 tk9 F9 N9; (try dsimp only); (try k_fold))))
  (k_with "call ref" => (k_here; (with_reducible show wpAny _ _ (call (Value.ref 835) _ _) _ _ _); k_dflt (refine' passed_g ?amZ73 ?neZ73 ?NZ73 ?offZ73 ?b1Z73 ?b2Z73 ?b3Z73 ?b4Z73 ?_; (case amZ73 => (refine' Amb.mk ?aBZ73 ?aFZ73 ?aXZ73 ?aTZ73 ?akZ73 ?adZ73 ?auZ73; (case aBZ73 => k_asm); (case aFZ73 => k_asm); (case aXZ73 => k_asm); (case aTZ73 => k_asm); (case akZ73 => first | exact rfl | assumption); (case adZ73 => ktr_room); (case auZ73 => ktr_units))); (case NZ73 => k_asm); (case neZ73 => k_asm); (case offZ73 => ((repeat (refine List.forall_mem_cons.mpr ⟨?_, ?_⟩; (first | with_reducible assumption | k_ne))); k_asm)); (case b1Z73 => k_asm); (case b2Z73 => k_asm); (case b3Z73 => k_asm); (case b4Z73 => k_asm); k_whole; intro h9 tk9 t9 u9 F9 N9; (try dsimp only); (try k_fold))))
  (k_with "call ref" => (k_here; (with_reducible show wpAny _ _ (call (Value.ref 725) _ _) _ _ _); k_dflt (refine' find_c ?amZ74 ?NZ74 ?b1Z74 ?b2Z74 ?d1Z74 ?l1Z74 ?d2Z74 ?l2Z74 ?d3Z74 ?l3Z74 ?v1Z74 ?HZ74 ?_ ?_; (case amZ74 => (refine' Amb.mk ?aBZ74 ?aFZ74 ?aXZ74 ?aTZ74 ?akZ74 ?adZ74 ?auZ74; (case aBZ74 => k_asm); (case aFZ74 => k_asm); (case aXZ74 => k_asm); (case aTZ74 => k_asm); (case akZ74 => first | exact rfl | assumption); (case adZ74 => ktr_room); (case auZ74 => ktr_units))); (case NZ74 => k_asm); (case b1Z74 => k_asm); (case b2Z74 => k_asm); (case d1Z74 => k_asm); (case l1Z74 => k_asm); (case d2Z74 => k_asm); (case l2Z74 => k_asm); (case v1Z74 => k_asm); (case d3Z74 => k_asm); (case l3Z74 => k_asm); (case HZ74 => k_asm); (all_goals (first | (intro b9 told9 rep9 bd9 cb9 key9 note9 hf9 hb9 hc9 h9 tk9 F9 N9) | (intro hf9 h9 tk9 F9 N9))); (all_goals (try dsimp only)); (all_goals (try k_fold)))))
  trivial


theorem one_root {w mean mg mb dp un gd cn cs a ccd cl outer A₀ base h₀ L m} {s : Shared} {Q E : Value → Shared → Prop} {st sd k kd : Addr} {c ck : Hd} {tb td mk lt rd3 rd4 : Addr} {c5 : H5} {Pb W : Array UInt8} {S : Option (Array UInt8)} {tP tS : Tok} {r : Int} {tr : Tok} {mkvs kvs3 kvs4 : List (List UInt8 × Value)} {T0 U0 Mv nm code held : Value} {tT tM tu te tn : Tok} {now u : Int} {P : Bool} {f1 f0 : Option (Addr × Value × Bool)} {rest : List (Addr × Obj)}
  (am : Amb 15 120 w mean mg mb dp un cs outer A₀ base h₀ L m s.heap) (hne : st ≠ sd) (hk1 : k ≠ sd) (hk2 : kd ≠ sd) (N : News h₀ L s.heap ((st, instObj 838 sd) :: (sd, stObj c (.ref tb) T0 .none U0) :: (k, instObj 257 kd) :: (kd, keyObj ck nm code held (.int 1 te)) :: rest)) (hoff : ∀ p ∈ rest, p.1 ≠ sd)
  (hEX : ExpIs w T0 U0 now tn c (.ref tb) .none st sd (fun t => .bytes rootB (tT + t)) .none) (hKW : KeyWordIs w k [(k, instObj 257 kd), (kd, keyObj ck nm code held (.int 1 te))] W)
  (hb1 : h₀.get? tb = some (instObj 754 td)) (hb2 : h₀.get? td = some (tbObj c5 mk lt (.bytes Pb tP) (optB S tS) (.int r tr))) (hP : prefP Pb S W = P)
  (hl1 : h₀.DictOf (bytesKind PySem.Challenge.rw_og0286_01.row.prog w) lt []) (lo1 : (lt == sysModules) = false) (hl2 : h₀.DictOf (bytesKind PySem.Challenge.rw_og0286_01.row.prog w) mk mkvs) (lo2 : (mk == sysModules) = false) (hl3 : h₀.DictOf (bytesKind PySem.Challenge.rw_og0286_01.row.prog w) rd3 kvs3) (lo3 : (rd3 == sysModules) = false) (hv3 : valueAt mkvs rootB.toList = some (.ref rd3)) (H3 : FindO h₀ (fval kvs3 W.toList) f1) 
  (hret : ∀ h' tk' r' own T' U' t1 t2 res, ResIs (.ref k) res r' own → Fr h₀ L h' m →
    News h₀ L h' (own ++ ((st, instObj 838 sd) :: (sd, stObj c (.ref tb) (.bytes T' t1) .none (optV U' t2)) :: (k, instObj 257 kd) :: (kd, keyObj ck nm code held (.int 1 te)) :: rest)) → (∀ q ∈ own, AllLt q.1 ((st, instObj 838 sd) :: (sd, stObj c (.ref tb) T0 .none U0) :: (k, instObj 257 kd) :: (kd, keyObj ck nm code held (.int 1 te)) :: rest)) → stepOne P f1 f1 r rootB none none now = (T', U', res) → Q (.ref r') { s with heap := h', toks := tk' }) :
  wpAny (model PySem.Challenge.rw_og0286_01.row.prog w) (ktrTop dp un gd cn cs L a ccd cl outer) (call (.ref 828) [.ref st, .ref k, .int now tn]) Q E s := by
  obtain ⟨B, F, X, T, hk, hd, hu⟩ := am
  revert X; k_fill; intro X
  refine wpAny_call ?_
  k_dflt cell_enter
  rename (Fr h₀ L _ m) => FG
  have hb1g := FG.keep _ _ hb1
  have hb2g := FG.keep _ _ hb2
  have hl1g := hl1.keep FG.keep
  have hl2g := hl2.keep FG.keep
  have hl3g := hl3.keep FG.keep
  have H3g := H3.keep FG.keep
  clear hb1 hb2 hl1 hl2 hl3 H3
  repeat' (first | (k_unfold; (try dsimp only)) | (k_end; wrow_close) | (walk1 <;> (try dsimp only)) | (leave1; walk_say "STEP leave1"; try dsimp only) | fail "no step")
  all_goals (first
   | exact hret _ _ _ _ prefB none _ 0 .nil ResIs.nil (by with_reducible assumption) (news_app (cb_drop (by with_reducible assumption) (by ((repeat (refine sub_cons ?_ ?_; k_mem)); (first | exact List.forall_mem_nil _ | ((repeat (first | exact fun p hp => hp | refine sub_skip ?_))))))) (cb_drop (by with_reducible assumption) (by ((repeat (refine sub_cons ?_ ?_; k_mem)); (first | exact List.forall_mem_nil _ | ((repeat (first | exact fun p hp => hp | refine sub_skip ?_)))))))) (by first | exact all1 (by (simp only [AllLt]); first | with_reducible assumption | with_reducible exact And.right (by with_reducible assumption) | with_reducible exact And.right (And.right (by with_reducible assumption))) | exact all2 (by (simp only [AllLt]); first | with_reducible assumption | with_reducible exact And.right (by with_reducible assumption) | with_reducible exact And.right (And.right (by with_reducible assumption))) (by (simp only [AllLt]); first | with_reducible assumption | with_reducible exact And.right (by with_reducible assumption) | with_reducible exact And.right (And.right (by with_reducible assumption)))) (by first | exact so_pref (by with_reducible assumption) (by decide) | exact so_hpref (b := 0) (told := .none) (rep := false) (by decide) (by with_reducible assumption) (Or.inl (by with_reducible assumption)) rfl | exact so_hpref (by decide) (by with_reducible assumption) (Or.inr ⟨by with_reducible assumption, rfl, by with_reducible assumption⟩) rfl)
   | exact hret _ _ _ _ rootB none _ 0 .nil ResIs.nil (by with_reducible assumption) (news_app (cb_drop (by with_reducible assumption) (by ((repeat (refine sub_cons ?_ ?_; k_mem)); (first | exact List.forall_mem_nil _ | ((repeat (first | exact fun p hp => hp | refine sub_skip ?_))))))) (cb_drop (by with_reducible assumption) (by ((repeat (refine sub_cons ?_ ?_; k_mem)); (first | exact List.forall_mem_nil _ | ((repeat (first | exact fun p hp => hp | refine sub_skip ?_)))))))) (by first | exact all1 (by (simp only [AllLt]); first | with_reducible assumption | with_reducible exact And.right (by with_reducible assumption) | with_reducible exact And.right (And.right (by with_reducible assumption))) | exact all2 (by (simp only [AllLt]); first | with_reducible assumption | with_reducible exact And.right (by with_reducible assumption) | with_reducible exact And.right (And.right (by with_reducible assumption))) (by (simp only [AllLt]); first | with_reducible assumption | with_reducible exact And.right (by with_reducible assumption) | with_reducible exact And.right (And.right (by with_reducible assumption)))) (by first | exact so_nil0 (b := 0) (told := .none) (rep := false) (by with_reducible assumption) (Or.inl (by with_reducible assumption)) (by decide) (by with_reducible assumption) rfl)
   | exact hret _ _ _ _ rootB none _ 0 .send ResIs.send (by with_reducible assumption) (news_app (cb_drop (by with_reducible assumption) (by ((repeat (refine sub_cons ?_ ?_; k_mem)); (first | exact List.forall_mem_nil _ | ((repeat (first | exact fun p hp => hp | refine sub_skip ?_))))))) (cb_drop (by with_reducible assumption) (by ((repeat (refine sub_cons ?_ ?_; k_mem)); (first | exact List.forall_mem_nil _ | ((repeat (first | exact fun p hp => hp | refine sub_skip ?_)))))))) (by first | exact all1 (by (simp only [AllLt]); first | with_reducible assumption | with_reducible exact And.right (by with_reducible assumption) | with_reducible exact And.right (And.right (by with_reducible assumption))) | exact all2 (by (simp only [AllLt]); first | with_reducible assumption | with_reducible exact And.right (by with_reducible assumption) | with_reducible exact And.right (And.right (by with_reducible assumption))) (by (simp only [AllLt]); first | with_reducible assumption | with_reducible exact And.right (by with_reducible assumption) | with_reducible exact And.right (And.right (by with_reducible assumption)))) (by first | exact so_send1 (by with_reducible assumption) (by with_reducible assumption) (by decide) | exact so_send0 (b := 0) (told := .none) (rep := false) (by with_reducible assumption) (Or.inl (by with_reducible assumption)) rfl (by with_reducible assumption) rfl | exact so_send0 (by with_reducible assumption) (Or.inr ⟨by with_reducible assumption, rfl, by with_reducible assumption⟩) rfl (by with_reducible assumption) rfl)
   | exact hret _ _ _ _ (passT _ r rootB) (passU _ r now) _ _ (.run _) ResIs.run (by with_reducible assumption) (news_app (cb_drop (by with_reducible assumption) (by ((repeat (refine sub_cons ?_ ?_; k_mem)); (first | exact List.forall_mem_nil _ | ((repeat (first | exact fun p hp => hp | refine sub_skip ?_))))))) (cb_drop (by with_reducible assumption) (by ((repeat (refine sub_cons ?_ ?_; k_mem)); (first | exact List.forall_mem_nil _ | ((repeat (first | exact fun p hp => hp | refine sub_skip ?_)))))))) (by first | exact all1 (by (simp only [AllLt]); first | with_reducible assumption | with_reducible exact And.right (by with_reducible assumption) | with_reducible exact And.right (And.right (by with_reducible assumption))) | exact all2 (by (simp only [AllLt]); first | with_reducible assumption | with_reducible exact And.right (by with_reducible assumption) | with_reducible exact And.right (And.right (by with_reducible assumption))) (by (simp only [AllLt]); first | with_reducible assumption | with_reducible exact And.right (by with_reducible assumption) | with_reducible exact And.right (And.right (by with_reducible assumption)))) (by first | exact so_run1 (by first | exact Or.inl (by with_reducible assumption) | exact Or.inr (by decide)) (by with_reducible assumption) (by first | exact Or.inl rfl | exact Or.inr (by with_reducible assumption)))
   | exact hret _ _ _ _ (passT _ r rootB) (passU _ r now) _ _ (.run _) ResIs.run (by with_reducible assumption) (news_app (cb_drop (by with_reducible assumption) (by ((repeat (refine sub_cons ?_ ?_; k_mem)); (first | exact List.forall_mem_nil _ | ((repeat (first | exact fun p hp => hp | refine sub_skip ?_))))))) (cb_drop (by with_reducible assumption) (by ((repeat (refine sub_cons ?_ ?_; k_mem)); (first | exact List.forall_mem_nil _ | ((repeat (first | exact fun p hp => hp | refine sub_skip ?_)))))))) (by first | exact all1 (by (simp only [AllLt]); first | with_reducible assumption | with_reducible exact And.right (by with_reducible assumption) | with_reducible exact And.right (And.right (by with_reducible assumption))) | exact all2 (by (simp only [AllLt]); first | with_reducible assumption | with_reducible exact And.right (by with_reducible assumption) | with_reducible exact And.right (And.right (by with_reducible assumption))) (by (simp only [AllLt]); first | with_reducible assumption | with_reducible exact And.right (by with_reducible assumption) | with_reducible exact And.right (And.right (by with_reducible assumption)))) (by first | exact so_run0 (b := 0) (told := .none) (rep := false) (by with_reducible assumption) (Or.inl (by with_reducible assumption)) rfl (by with_reducible assumption) | exact so_run0 (by with_reducible assumption) (Or.inr ⟨by with_reducible assumption, rfl, by with_reducible assumption⟩) rfl (by with_reducible assumption))
   | w_report)

theorem one_mode {w mean mg mb dp un gd cn cs a ccd cl outer A₀ base h₀ L m} {s : Shared} {Q E : Value → Shared → Prop} {st sd k kd : Addr} {c ck : Hd} {tb td mk lt rd3 rd4 : Addr} {c5 : H5} {Pb W : Array UInt8} {S : Option (Array UInt8)} {tP tS : Tok} {r : Int} {tr : Tok} {mkvs kvs3 kvs4 : List (List UInt8 × Value)} {T0 U0 Mv nm code held : Value} {tT tM tu te tn : Tok} {now u : Int} {P : Bool} {f1 f0 : Option (Addr × Value × Bool)} {rest : List (Addr × Obj)}
  (am : Amb 15 120 w mean mg mb dp un cs outer A₀ base h₀ L m s.heap) (hne : st ≠ sd) (hk1 : k ≠ sd) (hk2 : kd ≠ sd) (N : News h₀ L s.heap ((st, instObj 838 sd) :: (sd, stObj c (.ref tb) T0 (.bytes copyB tM) U0) :: (k, instObj 257 kd) :: (kd, keyObj ck nm code held (.int 1 te)) :: rest)) (hoff : ∀ p ∈ rest, p.1 ≠ sd)
  (hEX : ExpIs w T0 U0 now tn c (.ref tb) (.bytes copyB tM) st sd (fun t => .bytes rootB (tT + t)) .none) (hKW : KeyWordIs w k [(k, instObj 257 kd), (kd, keyObj ck nm code held (.int 1 te))] W)
  (hb1 : h₀.get? tb = some (instObj 754 td)) (hb2 : h₀.get? td = some (tbObj c5 mk lt (.bytes Pb tP) (optB S tS) (.int r tr))) (hP : prefP Pb S W = P)
  (hl1 : h₀.DictOf (bytesKind PySem.Challenge.rw_og0286_01.row.prog w) lt []) (lo1 : (lt == sysModules) = false) (hl2 : h₀.DictOf (bytesKind PySem.Challenge.rw_og0286_01.row.prog w) mk mkvs) (lo2 : (mk == sysModules) = false) (hl3 : h₀.DictOf (bytesKind PySem.Challenge.rw_og0286_01.row.prog w) rd3 kvs3) (lo3 : (rd3 == sysModules) = false) (hv3 : valueAt mkvs copyB.toList = some (.ref rd3)) (H3 : FindO h₀ (fval kvs3 W.toList) f1) (hl4 : h₀.DictOf (bytesKind PySem.Challenge.rw_og0286_01.row.prog w) rd4 kvs4) (lo4 : (rd4 == sysModules) = false) (hv4 : valueAt mkvs rootB.toList = some (.ref rd4)) (H4 : FindO h₀ (fval kvs4 W.toList) f0)
  (hret : ∀ h' tk' r' own T' U' t1 t2 res, ResIs (.ref k) res r' own → Fr h₀ L h' m →
    News h₀ L h' (own ++ ((st, instObj 838 sd) :: (sd, stObj c (.ref tb) (.bytes T' t1) (.bytes copyB tM) (optV U' t2)) :: (k, instObj 257 kd) :: (kd, keyObj ck nm code held (.int 1 te)) :: rest)) → (∀ q ∈ own, AllLt q.1 ((st, instObj 838 sd) :: (sd, stObj c (.ref tb) T0 (.bytes copyB tM) U0) :: (k, instObj 257 kd) :: (kd, keyObj ck nm code held (.int 1 te)) :: rest)) → stepOne P f1 f0 r rootB (some copyB) none now = (T', U', res) → Q (.ref r') { s with heap := h', toks := tk' }) :
  wpAny (model PySem.Challenge.rw_og0286_01.row.prog w) (ktrTop dp un gd cn cs L a ccd cl outer) (call (.ref 828) [.ref st, .ref k, .int now tn]) Q E s := by
  obtain ⟨B, F, X, T, hk, hd, hu⟩ := am
  revert X; k_fill; intro X
  refine wpAny_call ?_
  k_dflt cell_enter
  rename (Fr h₀ L _ m) => FG
  have hb1g := FG.keep _ _ hb1
  have hb2g := FG.keep _ _ hb2
  have hl1g := hl1.keep FG.keep
  have hl2g := hl2.keep FG.keep
  have hl3g := hl3.keep FG.keep
  have H3g := H3.keep FG.keep
  have hl4g := hl4.keep FG.keep
  have H4g := H4.keep FG.keep
  clear hb1 hb2 hl1 hl2 hl3 H3 hl4 H4
  repeat' (first | (k_unfold; (try dsimp only)) | (k_end; wrow_close) | (walk1 <;> (try dsimp only)) | (leave1; walk_say "STEP leave1"; try dsimp only) | fail "no step")
  all_goals (first
   | exact hret _ _ _ _ prefB none _ 0 .nil ResIs.nil (by with_reducible assumption) (news_app (cb_drop (by with_reducible assumption) (by ((repeat (refine sub_cons ?_ ?_; k_mem)); (first | exact List.forall_mem_nil _ | ((repeat (first | exact fun p hp => hp | refine sub_skip ?_))))))) (cb_drop (by with_reducible assumption) (by ((repeat (refine sub_cons ?_ ?_; k_mem)); (first | exact List.forall_mem_nil _ | ((repeat (first | exact fun p hp => hp | refine sub_skip ?_)))))))) (by first | exact all1 (by (simp only [AllLt]); first | with_reducible assumption | with_reducible exact And.right (by with_reducible assumption) | with_reducible exact And.right (And.right (by with_reducible assumption))) | exact all2 (by (simp only [AllLt]); first | with_reducible assumption | with_reducible exact And.right (by with_reducible assumption) | with_reducible exact And.right (And.right (by with_reducible assumption))) (by (simp only [AllLt]); first | with_reducible assumption | with_reducible exact And.right (by with_reducible assumption) | with_reducible exact And.right (And.right (by with_reducible assumption)))) (by first | exact so_pref (by with_reducible assumption) (by decide) | exact so_hpref (b := 0) (told := .none) (rep := false) (by decide) (by with_reducible assumption) (Or.inl (by with_reducible assumption)) rfl | exact so_hpref (by decide) (by with_reducible assumption) (Or.inr ⟨by with_reducible assumption, rfl, by with_reducible assumption⟩) rfl)
   | exact hret _ _ _ _ rootB none _ 0 .nil ResIs.nil (by with_reducible assumption) (news_app (cb_drop (by with_reducible assumption) (by ((repeat (refine sub_cons ?_ ?_; k_mem)); (first | exact List.forall_mem_nil _ | ((repeat (first | exact fun p hp => hp | refine sub_skip ?_))))))) (cb_drop (by with_reducible assumption) (by ((repeat (refine sub_cons ?_ ?_; k_mem)); (first | exact List.forall_mem_nil _ | ((repeat (first | exact fun p hp => hp | refine sub_skip ?_)))))))) (by first | exact all1 (by (simp only [AllLt]); first | with_reducible assumption | with_reducible exact And.right (by with_reducible assumption) | with_reducible exact And.right (And.right (by with_reducible assumption))) | exact all2 (by (simp only [AllLt]); first | with_reducible assumption | with_reducible exact And.right (by with_reducible assumption) | with_reducible exact And.right (And.right (by with_reducible assumption))) (by (simp only [AllLt]); first | with_reducible assumption | with_reducible exact And.right (by with_reducible assumption) | with_reducible exact And.right (And.right (by with_reducible assumption)))) (by first | exact so_nil0 (b := 0) (told := .none) (rep := false) (by with_reducible assumption) (Or.inl (by with_reducible assumption)) (by decide) (by with_reducible assumption) rfl)
   | exact hret _ _ _ _ rootB none _ 0 .send ResIs.send (by with_reducible assumption) (news_app (cb_drop (by with_reducible assumption) (by ((repeat (refine sub_cons ?_ ?_; k_mem)); (first | exact List.forall_mem_nil _ | ((repeat (first | exact fun p hp => hp | refine sub_skip ?_))))))) (cb_drop (by with_reducible assumption) (by ((repeat (refine sub_cons ?_ ?_; k_mem)); (first | exact List.forall_mem_nil _ | ((repeat (first | exact fun p hp => hp | refine sub_skip ?_)))))))) (by first | exact all1 (by (simp only [AllLt]); first | with_reducible assumption | with_reducible exact And.right (by with_reducible assumption) | with_reducible exact And.right (And.right (by with_reducible assumption))) | exact all2 (by (simp only [AllLt]); first | with_reducible assumption | with_reducible exact And.right (by with_reducible assumption) | with_reducible exact And.right (And.right (by with_reducible assumption))) (by (simp only [AllLt]); first | with_reducible assumption | with_reducible exact And.right (by with_reducible assumption) | with_reducible exact And.right (And.right (by with_reducible assumption)))) (by first | exact so_send1 (by with_reducible assumption) (by with_reducible assumption) (by decide) | exact so_send0 (b := 0) (told := .none) (rep := false) (by with_reducible assumption) (Or.inl (by with_reducible assumption)) rfl (by with_reducible assumption) rfl | exact so_send0 (by with_reducible assumption) (Or.inr ⟨by with_reducible assumption, rfl, by with_reducible assumption⟩) rfl (by with_reducible assumption) rfl)
   | exact hret _ _ _ _ (passT _ r rootB) (passU _ r now) _ _ (.run _) ResIs.run (by with_reducible assumption) (news_app (cb_drop (by with_reducible assumption) (by ((repeat (refine sub_cons ?_ ?_; k_mem)); (first | exact List.forall_mem_nil _ | ((repeat (first | exact fun p hp => hp | refine sub_skip ?_))))))) (cb_drop (by with_reducible assumption) (by ((repeat (refine sub_cons ?_ ?_; k_mem)); (first | exact List.forall_mem_nil _ | ((repeat (first | exact fun p hp => hp | refine sub_skip ?_)))))))) (by first | exact all1 (by (simp only [AllLt]); first | with_reducible assumption | with_reducible exact And.right (by with_reducible assumption) | with_reducible exact And.right (And.right (by with_reducible assumption))) | exact all2 (by (simp only [AllLt]); first | with_reducible assumption | with_reducible exact And.right (by with_reducible assumption) | with_reducible exact And.right (And.right (by with_reducible assumption))) (by (simp only [AllLt]); first | with_reducible assumption | with_reducible exact And.right (by with_reducible assumption) | with_reducible exact And.right (And.right (by with_reducible assumption)))) (by first | exact so_run1 (by first | exact Or.inl (by with_reducible assumption) | exact Or.inr (by decide)) (by with_reducible assumption) (by first | exact Or.inl rfl | exact Or.inr (by with_reducible assumption)))
   | exact hret _ _ _ _ (passT _ r rootB) (passU _ r now) _ _ (.run _) ResIs.run (by with_reducible assumption) (news_app (cb_drop (by with_reducible assumption) (by ((repeat (refine sub_cons ?_ ?_; k_mem)); (first | exact List.forall_mem_nil _ | ((repeat (first | exact fun p hp => hp | refine sub_skip ?_))))))) (cb_drop (by with_reducible assumption) (by ((repeat (refine sub_cons ?_ ?_; k_mem)); (first | exact List.forall_mem_nil _ | ((repeat (first | exact fun p hp => hp | refine sub_skip ?_)))))))) (by first | exact all1 (by (simp only [AllLt]); first | with_reducible assumption | with_reducible exact And.right (by with_reducible assumption) | with_reducible exact And.right (And.right (by with_reducible assumption))) | exact all2 (by (simp only [AllLt]); first | with_reducible assumption | with_reducible exact And.right (by with_reducible assumption) | with_reducible exact And.right (And.right (by with_reducible assumption))) (by (simp only [AllLt]); first | with_reducible assumption | with_reducible exact And.right (by with_reducible assumption) | with_reducible exact And.right (And.right (by with_reducible assumption)))) (by first | exact so_run0 (b := 0) (told := .none) (rep := false) (by with_reducible assumption) (Or.inl (by with_reducible assumption)) rfl (by with_reducible assumption) | exact so_run0 (by with_reducible assumption) (Or.inr ⟨by with_reducible assumption, rfl, by with_reducible assumption⟩) rfl (by with_reducible assumption))
   | w_report)

theorem one_own {w mean mg mb dp un gd cn cs a ccd cl outer A₀ base h₀ L m} {s : Shared} {Q E : Value → Shared → Prop} {st sd k kd : Addr} {c ck : Hd} {tb td mk lt rd3 rd4 : Addr} {c5 : H5} {Pb W : Array UInt8} {S : Option (Array UInt8)} {tP tS : Tok} {r : Int} {tr : Tok} {mkvs kvs3 kvs4 : List (List UInt8 × Value)} {T0 U0 Mv nm code held : Value} {tT tM tu te tn : Tok} {now u : Int} {P : Bool} {f1 f0 : Option (Addr × Value × Bool)} {rest : List (Addr × Obj)}
  (am : Amb 15 120 w mean mg mb dp un cs outer A₀ base h₀ L m s.heap) (hne : st ≠ sd) (hk1 : k ≠ sd) (hk2 : kd ≠ sd) (N : News h₀ L s.heap ((st, instObj 838 sd) :: (sd, stObj c (.ref tb) T0 Mv U0) :: (k, instObj 257 kd) :: (kd, keyObj ck nm code held (.int 1 te)) :: rest)) (hoff : ∀ p ∈ rest, p.1 ≠ sd)
  (hEX : ExpIs w T0 U0 now tn c (.ref tb) Mv st sd (fun t => .bytes ownB (tT + t)) .none) (hKW : KeyWordIs w k [(k, instObj 257 kd), (kd, keyObj ck nm code held (.int 1 te))] W)
  (hb1 : h₀.get? tb = some (instObj 754 td)) (hb2 : h₀.get? td = some (tbObj c5 mk lt (.bytes Pb tP) (optB S tS) (.int r tr))) (hP : prefP Pb S W = P)
  (hl1 : h₀.DictOf (bytesKind PySem.Challenge.rw_og0286_01.row.prog w) lt []) (lo1 : (lt == sysModules) = false) (hl2 : h₀.DictOf (bytesKind PySem.Challenge.rw_og0286_01.row.prog w) mk mkvs) (lo2 : (mk == sysModules) = false) (hl3 : h₀.DictOf (bytesKind PySem.Challenge.rw_og0286_01.row.prog w) rd3 kvs3) (lo3 : (rd3 == sysModules) = false) (hv3 : valueAt mkvs ownB.toList = some (.ref rd3)) (H3 : FindO h₀ (fval kvs3 W.toList) f1) (hl4 : h₀.DictOf (bytesKind PySem.Challenge.rw_og0286_01.row.prog w) rd4 kvs4) (lo4 : (rd4 == sysModules) = false) (hv4 : valueAt mkvs rootB.toList = some (.ref rd4)) (H4 : FindO h₀ (fval kvs4 W.toList) f0)
  (hret : ∀ h' tk' r' own T' U' t1 t2 res, ResIs (.ref k) res r' own → Fr h₀ L h' m →
    News h₀ L h' (own ++ ((st, instObj 838 sd) :: (sd, stObj c (.ref tb) (.bytes T' t1) Mv (optV U' t2)) :: (k, instObj 257 kd) :: (kd, keyObj ck nm code held (.int 1 te)) :: rest)) → (∀ q ∈ own, AllLt q.1 ((st, instObj 838 sd) :: (sd, stObj c (.ref tb) T0 Mv U0) :: (k, instObj 257 kd) :: (kd, keyObj ck nm code held (.int 1 te)) :: rest)) → stepOne P f1 f0 r ownB none none now = (T', U', res) → Q (.ref r') { s with heap := h', toks := tk' }) :
  wpAny (model PySem.Challenge.rw_og0286_01.row.prog w) (ktrTop dp un gd cn cs L a ccd cl outer) (call (.ref 828) [.ref st, .ref k, .int now tn]) Q E s := by
  obtain ⟨B, F, X, T, hk, hd, hu⟩ := am
  revert X; k_fill; intro X
  refine wpAny_call ?_
  k_dflt cell_enter
  rename (Fr h₀ L _ m) => FG
  have hb1g := FG.keep _ _ hb1
  have hb2g := FG.keep _ _ hb2
  have hl1g := hl1.keep FG.keep
  have hl2g := hl2.keep FG.keep
  have hl3g := hl3.keep FG.keep
  have H3g := H3.keep FG.keep
  have hl4g := hl4.keep FG.keep
  have H4g := H4.keep FG.keep
  clear hb1 hb2 hl1 hl2 hl3 H3 hl4 H4
  repeat' (first | (k_unfold; (try dsimp only)) | (k_end; wrow_close) | (walk1 <;> (try dsimp only)) | (leave1; walk_say "STEP leave1"; try dsimp only) | fail "no step")
  all_goals (first
   | exact hret _ _ _ _ prefB none _ 0 .nil ResIs.nil (by with_reducible assumption) (news_app (cb_drop (by with_reducible assumption) (by ((repeat (refine sub_cons ?_ ?_; k_mem)); (first | exact List.forall_mem_nil _ | ((repeat (first | exact fun p hp => hp | refine sub_skip ?_))))))) (cb_drop (by with_reducible assumption) (by ((repeat (refine sub_cons ?_ ?_; k_mem)); (first | exact List.forall_mem_nil _ | ((repeat (first | exact fun p hp => hp | refine sub_skip ?_)))))))) (by first | exact all1 (by (simp only [AllLt]); first | with_reducible assumption | with_reducible exact And.right (by with_reducible assumption) | with_reducible exact And.right (And.right (by with_reducible assumption))) | exact all2 (by (simp only [AllLt]); first | with_reducible assumption | with_reducible exact And.right (by with_reducible assumption) | with_reducible exact And.right (And.right (by with_reducible assumption))) (by (simp only [AllLt]); first | with_reducible assumption | with_reducible exact And.right (by with_reducible assumption) | with_reducible exact And.right (And.right (by with_reducible assumption)))) (by first | exact so_pref (by with_reducible assumption) (by decide) | exact so_hpref (b := 0) (told := .none) (rep := false) (by decide) (by with_reducible assumption) (Or.inl (by with_reducible assumption)) rfl | exact so_hpref (by decide) (by with_reducible assumption) (Or.inr ⟨by with_reducible assumption, rfl, by with_reducible assumption⟩) rfl)
   | exact hret _ _ _ _ rootB none _ 0 .nil ResIs.nil (by with_reducible assumption) (news_app (cb_drop (by with_reducible assumption) (by ((repeat (refine sub_cons ?_ ?_; k_mem)); (first | exact List.forall_mem_nil _ | ((repeat (first | exact fun p hp => hp | refine sub_skip ?_))))))) (cb_drop (by with_reducible assumption) (by ((repeat (refine sub_cons ?_ ?_; k_mem)); (first | exact List.forall_mem_nil _ | ((repeat (first | exact fun p hp => hp | refine sub_skip ?_)))))))) (by first | exact all1 (by (simp only [AllLt]); first | with_reducible assumption | with_reducible exact And.right (by with_reducible assumption) | with_reducible exact And.right (And.right (by with_reducible assumption))) | exact all2 (by (simp only [AllLt]); first | with_reducible assumption | with_reducible exact And.right (by with_reducible assumption) | with_reducible exact And.right (And.right (by with_reducible assumption))) (by (simp only [AllLt]); first | with_reducible assumption | with_reducible exact And.right (by with_reducible assumption) | with_reducible exact And.right (And.right (by with_reducible assumption)))) (by first | exact so_nil0 (b := 0) (told := .none) (rep := false) (by with_reducible assumption) (Or.inl (by with_reducible assumption)) (by decide) (by with_reducible assumption) rfl)
   | exact hret _ _ _ _ rootB none _ 0 .send ResIs.send (by with_reducible assumption) (news_app (cb_drop (by with_reducible assumption) (by ((repeat (refine sub_cons ?_ ?_; k_mem)); (first | exact List.forall_mem_nil _ | ((repeat (first | exact fun p hp => hp | refine sub_skip ?_))))))) (cb_drop (by with_reducible assumption) (by ((repeat (refine sub_cons ?_ ?_; k_mem)); (first | exact List.forall_mem_nil _ | ((repeat (first | exact fun p hp => hp | refine sub_skip ?_)))))))) (by first | exact all1 (by (simp only [AllLt]); first | with_reducible assumption | with_reducible exact And.right (by with_reducible assumption) | with_reducible exact And.right (And.right (by with_reducible assumption))) | exact all2 (by (simp only [AllLt]); first | with_reducible assumption | with_reducible exact And.right (by with_reducible assumption) | with_reducible exact And.right (And.right (by with_reducible assumption))) (by (simp only [AllLt]); first | with_reducible assumption | with_reducible exact And.right (by with_reducible assumption) | with_reducible exact And.right (And.right (by with_reducible assumption)))) (by first | exact so_send1 (by with_reducible assumption) (by with_reducible assumption) (by decide) | exact so_send0 (b := 0) (told := .none) (rep := false) (by with_reducible assumption) (Or.inl (by with_reducible assumption)) rfl (by with_reducible assumption) rfl | exact so_send0 (by with_reducible assumption) (Or.inr ⟨by with_reducible assumption, rfl, by with_reducible assumption⟩) rfl (by with_reducible assumption) rfl)
   | exact hret _ _ _ _ (passT _ r ownB) (passU _ r now) _ _ (.run _) ResIs.run (by with_reducible assumption) (news_app (cb_drop (by with_reducible assumption) (by ((repeat (refine sub_cons ?_ ?_; k_mem)); (first | exact List.forall_mem_nil _ | ((repeat (first | exact fun p hp => hp | refine sub_skip ?_))))))) (cb_drop (by with_reducible assumption) (by ((repeat (refine sub_cons ?_ ?_; k_mem)); (first | exact List.forall_mem_nil _ | ((repeat (first | exact fun p hp => hp | refine sub_skip ?_)))))))) (by first | exact all1 (by (simp only [AllLt]); first | with_reducible assumption | with_reducible exact And.right (by with_reducible assumption) | with_reducible exact And.right (And.right (by with_reducible assumption))) | exact all2 (by (simp only [AllLt]); first | with_reducible assumption | with_reducible exact And.right (by with_reducible assumption) | with_reducible exact And.right (And.right (by with_reducible assumption))) (by (simp only [AllLt]); first | with_reducible assumption | with_reducible exact And.right (by with_reducible assumption) | with_reducible exact And.right (And.right (by with_reducible assumption)))) (by first | exact so_run1 (by first | exact Or.inl (by with_reducible assumption) | exact Or.inr (by decide)) (by with_reducible assumption) (by first | exact Or.inl rfl | exact Or.inr (by with_reducible assumption)))
   | exact hret _ _ _ _ (passT _ r rootB) (passU _ r now) _ _ (.run _) ResIs.run (by with_reducible assumption) (news_app (cb_drop (by with_reducible assumption) (by ((repeat (refine sub_cons ?_ ?_; k_mem)); (first | exact List.forall_mem_nil _ | ((repeat (first | exact fun p hp => hp | refine sub_skip ?_))))))) (cb_drop (by with_reducible assumption) (by ((repeat (refine sub_cons ?_ ?_; k_mem)); (first | exact List.forall_mem_nil _ | ((repeat (first | exact fun p hp => hp | refine sub_skip ?_)))))))) (by first | exact all1 (by (simp only [AllLt]); first | with_reducible assumption | with_reducible exact And.right (by with_reducible assumption) | with_reducible exact And.right (And.right (by with_reducible assumption))) | exact all2 (by (simp only [AllLt]); first | with_reducible assumption | with_reducible exact And.right (by with_reducible assumption) | with_reducible exact And.right (And.right (by with_reducible assumption))) (by (simp only [AllLt]); first | with_reducible assumption | with_reducible exact And.right (by with_reducible assumption) | with_reducible exact And.right (And.right (by with_reducible assumption)))) (by first | exact so_run0 (b := 0) (told := .none) (rep := false) (by with_reducible assumption) (Or.inl (by with_reducible assumption)) rfl (by with_reducible assumption) | exact so_run0 (by with_reducible assumption) (Or.inr ⟨by with_reducible assumption, rfl, by with_reducible assumption⟩) rfl (by with_reducible assumption))
   | w_report)

theorem one_pref {w mean mg mb dp un gd cn cs a ccd cl outer A₀ base h₀ L m} {s : Shared} {Q E : Value → Shared → Prop} {st sd k kd : Addr} {c ck : Hd} {tb td mk lt rd3 rd4 : Addr} {c5 : H5} {Pb W : Array UInt8} {S : Option (Array UInt8)} {tP tS : Tok} {r : Int} {tr : Tok} {mkvs kvs3 kvs4 : List (List UInt8 × Value)} {T0 U0 Mv nm code held : Value} {tT tM tu te tn : Tok} {now u : Int} {P : Bool} {f1 f0 : Option (Addr × Value × Bool)} {rest : List (Addr × Obj)}
  (am : Amb 15 120 w mean mg mb dp un cs outer A₀ base h₀ L m s.heap) (hne : st ≠ sd) (hk1 : k ≠ sd) (hk2 : kd ≠ sd) (N : News h₀ L s.heap ((st, instObj 838 sd) :: (sd, stObj c (.ref tb) T0 Mv U0) :: (k, instObj 257 kd) :: (kd, keyObj ck nm code held (.int 1 te)) :: rest)) (hoff : ∀ p ∈ rest, p.1 ≠ sd)
  (hEX : ExpIs w T0 U0 now tn c (.ref tb) Mv st sd (fun t => .bytes prefB (tT + t)) .none) (hKW : KeyWordIs w k [(k, instObj 257 kd), (kd, keyObj ck nm code held (.int 1 te))] W)
  (hb1 : h₀.get? tb = some (instObj 754 td)) (hb2 : h₀.get? td = some (tbObj c5 mk lt (.bytes Pb tP) (optB S tS) (.int r tr))) (hP : prefP Pb S W = P)
  (hl1 : h₀.DictOf (bytesKind PySem.Challenge.rw_og0286_01.row.prog w) lt []) (lo1 : (lt == sysModules) = false) (hl2 : h₀.DictOf (bytesKind PySem.Challenge.rw_og0286_01.row.prog w) mk mkvs) (lo2 : (mk == sysModules) = false) (hl3 : h₀.DictOf (bytesKind PySem.Challenge.rw_og0286_01.row.prog w) rd3 kvs3) (lo3 : (rd3 == sysModules) = false) (hv3 : valueAt mkvs prefB.toList = some (.ref rd3)) (H3 : FindO h₀ (fval kvs3 W.toList) f1) (hl4 : h₀.DictOf (bytesKind PySem.Challenge.rw_og0286_01.row.prog w) rd4 kvs4) (lo4 : (rd4 == sysModules) = false) (hv4 : valueAt mkvs rootB.toList = some (.ref rd4)) (H4 : FindO h₀ (fval kvs4 W.toList) f0)
  (hret : ∀ h' tk' r' own T' U' t1 t2 res, ResIs (.ref k) res r' own → Fr h₀ L h' m →
    News h₀ L h' (own ++ ((st, instObj 838 sd) :: (sd, stObj c (.ref tb) (.bytes T' t1) Mv (optV U' t2)) :: (k, instObj 257 kd) :: (kd, keyObj ck nm code held (.int 1 te)) :: rest)) → (∀ q ∈ own, AllLt q.1 ((st, instObj 838 sd) :: (sd, stObj c (.ref tb) T0 Mv U0) :: (k, instObj 257 kd) :: (kd, keyObj ck nm code held (.int 1 te)) :: rest)) → stepOne P f1 f0 r prefB none none now = (T', U', res) → Q (.ref r') { s with heap := h', toks := tk' }) :
  wpAny (model PySem.Challenge.rw_og0286_01.row.prog w) (ktrTop dp un gd cn cs L a ccd cl outer) (call (.ref 828) [.ref st, .ref k, .int now tn]) Q E s := by
  obtain ⟨B, F, X, T, hk, hd, hu⟩ := am
  revert X; k_fill; intro X
  refine wpAny_call ?_
  k_dflt cell_enter
  rename (Fr h₀ L _ m) => FG
  have hb1g := FG.keep _ _ hb1
  have hb2g := FG.keep _ _ hb2
  have hl1g := hl1.keep FG.keep
  have hl2g := hl2.keep FG.keep
  have hl3g := hl3.keep FG.keep
  have H3g := H3.keep FG.keep
  have hl4g := hl4.keep FG.keep
  have H4g := H4.keep FG.keep
  clear hb1 hb2 hl1 hl2 hl3 H3 hl4 H4
  repeat' (first | (k_unfold; (try dsimp only)) | (k_end; wrow_close) | (walk1 <;> (try dsimp only)) | (leave1; walk_say "STEP leave1"; try dsimp only) | fail "no step")
  all_goals (first
   | exact hret _ _ _ _ prefB none _ 0 .nil ResIs.nil (by with_reducible assumption) (news_app (cb_drop (by with_reducible assumption) (by ((repeat (refine sub_cons ?_ ?_; k_mem)); (first | exact List.forall_mem_nil _ | ((repeat (first | exact fun p hp => hp | refine sub_skip ?_))))))) (cb_drop (by with_reducible assumption) (by ((repeat (refine sub_cons ?_ ?_; k_mem)); (first | exact List.forall_mem_nil _ | ((repeat (first | exact fun p hp => hp | refine sub_skip ?_)))))))) (by first | exact all1 (by (simp only [AllLt]); first | with_reducible assumption | with_reducible exact And.right (by with_reducible assumption) | with_reducible exact And.right (And.right (by with_reducible assumption))) | exact all2 (by (simp only [AllLt]); first | with_reducible assumption | with_reducible exact And.right (by with_reducible assumption) | with_reducible exact And.right (And.right (by with_reducible assumption))) (by (simp only [AllLt]); first | with_reducible assumption | with_reducible exact And.right (by with_reducible assumption) | with_reducible exact And.right (And.right (by with_reducible assumption)))) (by first | exact so_pref (by with_reducible assumption) (by decide) | exact so_hpref (b := 0) (told := .none) (rep := false) (by decide) (by with_reducible assumption) (Or.inl (by with_reducible assumption)) rfl | exact so_hpref (by decide) (by with_reducible assumption) (Or.inr ⟨by with_reducible assumption, rfl, by with_reducible assumption⟩) rfl)
   | exact hret _ _ _ _ rootB none _ 0 .nil ResIs.nil (by with_reducible assumption) (news_app (cb_drop (by with_reducible assumption) (by ((repeat (refine sub_cons ?_ ?_; k_mem)); (first | exact List.forall_mem_nil _ | ((repeat (first | exact fun p hp => hp | refine sub_skip ?_))))))) (cb_drop (by with_reducible assumption) (by ((repeat (refine sub_cons ?_ ?_; k_mem)); (first | exact List.forall_mem_nil _ | ((repeat (first | exact fun p hp => hp | refine sub_skip ?_)))))))) (by first | exact all1 (by (simp only [AllLt]); first | with_reducible assumption | with_reducible exact And.right (by with_reducible assumption) | with_reducible exact And.right (And.right (by with_reducible assumption))) | exact all2 (by (simp only [AllLt]); first | with_reducible assumption | with_reducible exact And.right (by with_reducible assumption) | with_reducible exact And.right (And.right (by with_reducible assumption))) (by (simp only [AllLt]); first | with_reducible assumption | with_reducible exact And.right (by with_reducible assumption) | with_reducible exact And.right (And.right (by with_reducible assumption)))) (by first | exact so_nil0 (b := 0) (told := .none) (rep := false) (by with_reducible assumption) (Or.inl (by with_reducible assumption)) (by decide) (by with_reducible assumption) rfl)
   | exact hret _ _ _ _ rootB none _ 0 .send ResIs.send (by with_reducible assumption) (news_app (cb_drop (by with_reducible assumption) (by ((repeat (refine sub_cons ?_ ?_; k_mem)); (first | exact List.forall_mem_nil _ | ((repeat (first | exact fun p hp => hp | refine sub_skip ?_))))))) (cb_drop (by with_reducible assumption) (by ((repeat (refine sub_cons ?_ ?_; k_mem)); (first | exact List.forall_mem_nil _ | ((repeat (first | exact fun p hp => hp | refine sub_skip ?_)))))))) (by first | exact all1 (by (simp only [AllLt]); first | with_reducible assumption | with_reducible exact And.right (by with_reducible assumption) | with_reducible exact And.right (And.right (by with_reducible assumption))) | exact all2 (by (simp only [AllLt]); first | with_reducible assumption | with_reducible exact And.right (by with_reducible assumption) | with_reducible exact And.right (And.right (by with_reducible assumption))) (by (simp only [AllLt]); first | with_reducible assumption | with_reducible exact And.right (by with_reducible assumption) | with_reducible exact And.right (And.right (by with_reducible assumption)))) (by first | exact so_send1 (by with_reducible assumption) (by with_reducible assumption) (by decide) | exact so_send0 (b := 0) (told := .none) (rep := false) (by with_reducible assumption) (Or.inl (by with_reducible assumption)) rfl (by with_reducible assumption) rfl | exact so_send0 (by with_reducible assumption) (Or.inr ⟨by with_reducible assumption, rfl, by with_reducible assumption⟩) rfl (by with_reducible assumption) rfl)
   | exact hret _ _ _ _ (passT _ r prefB) (passU _ r now) _ _ (.run _) ResIs.run (by with_reducible assumption) (news_app (cb_drop (by with_reducible assumption) (by ((repeat (refine sub_cons ?_ ?_; k_mem)); (first | exact List.forall_mem_nil _ | ((repeat (first | exact fun p hp => hp | refine sub_skip ?_))))))) (cb_drop (by with_reducible assumption) (by ((repeat (refine sub_cons ?_ ?_; k_mem)); (first | exact List.forall_mem_nil _ | ((repeat (first | exact fun p hp => hp | refine sub_skip ?_)))))))) (by first | exact all1 (by (simp only [AllLt]); first | with_reducible assumption | with_reducible exact And.right (by with_reducible assumption) | with_reducible exact And.right (And.right (by with_reducible assumption))) | exact all2 (by (simp only [AllLt]); first | with_reducible assumption | with_reducible exact And.right (by with_reducible assumption) | with_reducible exact And.right (And.right (by with_reducible assumption))) (by (simp only [AllLt]); first | with_reducible assumption | with_reducible exact And.right (by with_reducible assumption) | with_reducible exact And.right (And.right (by with_reducible assumption)))) (by first | exact so_run1 (by first | exact Or.inl (by with_reducible assumption) | exact Or.inr (by decide)) (by with_reducible assumption) (by first | exact Or.inl rfl | exact Or.inr (by with_reducible assumption)))
   | exact hret _ _ _ _ (passT _ r rootB) (passU _ r now) _ _ (.run _) ResIs.run (by with_reducible assumption) (news_app (cb_drop (by with_reducible assumption) (by ((repeat (refine sub_cons ?_ ?_; k_mem)); (first | exact List.forall_mem_nil _ | ((repeat (first | exact fun p hp => hp | refine sub_skip ?_))))))) (cb_drop (by with_reducible assumption) (by ((repeat (refine sub_cons ?_ ?_; k_mem)); (first | exact List.forall_mem_nil _ | ((repeat (first | exact fun p hp => hp | refine sub_skip ?_)))))))) (by first | exact all1 (by (simp only [AllLt]); first | with_reducible assumption | with_reducible exact And.right (by with_reducible assumption) | with_reducible exact And.right (And.right (by with_reducible assumption))) | exact all2 (by (simp only [AllLt]); first | with_reducible assumption | with_reducible exact And.right (by with_reducible assumption) | with_reducible exact And.right (And.right (by with_reducible assumption))) (by (simp only [AllLt]); first | with_reducible assumption | with_reducible exact And.right (by with_reducible assumption) | with_reducible exact And.right (And.right (by with_reducible assumption)))) (by first | exact so_run0 (b := 0) (told := .none) (rep := false) (by with_reducible assumption) (Or.inl (by with_reducible assumption)) rfl (by with_reducible assumption) | exact so_run0 (by with_reducible assumption) (Or.inr ⟨by with_reducible assumption, rfl, by with_reducible assumption⟩) rfl (by with_reducible assumption))
   | w_report)

theorem one_live {w mean mg mb dp un gd cn cs a ccd cl outer A₀ base h₀ L m} {s : Shared} {Q E : Value → Shared → Prop} {st sd k kd : Addr} {c ck : Hd} {tb td mk lt rd3 rd4 : Addr} {c5 : H5} {Pb W : Array UInt8} {S : Option (Array UInt8)} {tP tS : Tok} {r : Int} {tr : Tok} {mkvs kvs3 kvs4 : List (List UInt8 × Value)} {T0 U0 Mv nm code held : Value} {tT tM tu te tn : Tok} {now u : Int} {P : Bool} {f1 f0 : Option (Addr × Value × Bool)} {rest : List (Addr × Obj)}
  (am : Amb 15 120 w mean mg mb dp un cs outer A₀ base h₀ L m s.heap) (hne : st ≠ sd) (hk1 : k ≠ sd) (hk2 : kd ≠ sd) (N : News h₀ L s.heap ((st, instObj 838 sd) :: (sd, stObj c (.ref tb) T0 Mv U0) :: (k, instObj 257 kd) :: (kd, keyObj ck nm code held (.int 1 te)) :: rest)) (hoff : ∀ p ∈ rest, p.1 ≠ sd)
  (hEX : ExpIs w T0 U0 now tn c (.ref tb) Mv st sd (fun t => .bytes prefB (tT + t)) (.int u tu)) (hKW : KeyWordIs w k [(k, instObj 257 kd), (kd, keyObj ck nm code held (.int 1 te))] W)
  (hb1 : h₀.get? tb = some (instObj 754 td)) (hb2 : h₀.get? td = some (tbObj c5 mk lt (.bytes Pb tP) (optB S tS) (.int r tr))) (hP : prefP Pb S W = P)
  (hl1 : h₀.DictOf (bytesKind PySem.Challenge.rw_og0286_01.row.prog w) lt []) (lo1 : (lt == sysModules) = false) (hl2 : h₀.DictOf (bytesKind PySem.Challenge.rw_og0286_01.row.prog w) mk mkvs) (lo2 : (mk == sysModules) = false) (hl3 : h₀.DictOf (bytesKind PySem.Challenge.rw_og0286_01.row.prog w) rd3 kvs3) (lo3 : (rd3 == sysModules) = false) (hv3 : valueAt mkvs prefB.toList = some (.ref rd3)) (H3 : FindO h₀ (fval kvs3 W.toList) f1) (hl4 : h₀.DictOf (bytesKind PySem.Challenge.rw_og0286_01.row.prog w) rd4 kvs4) (lo4 : (rd4 == sysModules) = false) (hv4 : valueAt mkvs rootB.toList = some (.ref rd4)) (H4 : FindO h₀ (fval kvs4 W.toList) f0)
  (hret : ∀ h' tk' r' own T' U' t1 t2 res, ResIs (.ref k) res r' own → Fr h₀ L h' m →
    News h₀ L h' (own ++ ((st, instObj 838 sd) :: (sd, stObj c (.ref tb) (.bytes T' t1) Mv (optV U' t2)) :: (k, instObj 257 kd) :: (kd, keyObj ck nm code held (.int 1 te)) :: rest)) → (∀ q ∈ own, AllLt q.1 ((st, instObj 838 sd) :: (sd, stObj c (.ref tb) T0 Mv U0) :: (k, instObj 257 kd) :: (kd, keyObj ck nm code held (.int 1 te)) :: rest)) → stepOne P f1 f0 r prefB none (some u) now = (T', U', res) → Q (.ref r') { s with heap := h', toks := tk' }) :
  wpAny (model PySem.Challenge.rw_og0286_01.row.prog w) (ktrTop dp un gd cn cs L a ccd cl outer) (call (.ref 828) [.ref st, .ref k, .int now tn]) Q E s := by
  obtain ⟨B, F, X, T, hk, hd, hu⟩ := am
  revert X; k_fill; intro X
  refine wpAny_call ?_
  k_dflt cell_enter
  rename (Fr h₀ L _ m) => FG
  have hb1g := FG.keep _ _ hb1
  have hb2g := FG.keep _ _ hb2
  have hl1g := hl1.keep FG.keep
  have hl2g := hl2.keep FG.keep
  have hl3g := hl3.keep FG.keep
  have H3g := H3.keep FG.keep
  have hl4g := hl4.keep FG.keep
  have H4g := H4.keep FG.keep
  clear hb1 hb2 hl1 hl2 hl3 H3 hl4 H4
  repeat' (first | (k_unfold; (try dsimp only)) | (k_end; wrow_close) | (walk1 <;> (try dsimp only)) | (leave1; walk_say "STEP leave1"; try dsimp only) | fail "no step")
  all_goals (first
   | exact hret _ _ _ _ prefB none _ 0 .nil ResIs.nil (by with_reducible assumption) (news_app (cb_drop (by with_reducible assumption) (by ((repeat (refine sub_cons ?_ ?_; k_mem)); (first | exact List.forall_mem_nil _ | ((repeat (first | exact fun p hp => hp | refine sub_skip ?_))))))) (cb_drop (by with_reducible assumption) (by ((repeat (refine sub_cons ?_ ?_; k_mem)); (first | exact List.forall_mem_nil _ | ((repeat (first | exact fun p hp => hp | refine sub_skip ?_)))))))) (by first | exact all1 (by (simp only [AllLt]); first | with_reducible assumption | with_reducible exact And.right (by with_reducible assumption) | with_reducible exact And.right (And.right (by with_reducible assumption))) | exact all2 (by (simp only [AllLt]); first | with_reducible assumption | with_reducible exact And.right (by with_reducible assumption) | with_reducible exact And.right (And.right (by with_reducible assumption))) (by (simp only [AllLt]); first | with_reducible assumption | with_reducible exact And.right (by with_reducible assumption) | with_reducible exact And.right (And.right (by with_reducible assumption)))) (by first | exact so_pref (by with_reducible assumption) (by decide) | exact so_hpref (b := 0) (told := .none) (rep := false) (by decide) (by with_reducible assumption) (Or.inl (by with_reducible assumption)) rfl | exact so_hpref (by decide) (by with_reducible assumption) (Or.inr ⟨by with_reducible assumption, rfl, by with_reducible assumption⟩) rfl)
   | exact hret _ _ _ _ rootB none _ 0 .nil ResIs.nil (by with_reducible assumption) (news_app (cb_drop (by with_reducible assumption) (by ((repeat (refine sub_cons ?_ ?_; k_mem)); (first | exact List.forall_mem_nil _ | ((repeat (first | exact fun p hp => hp | refine sub_skip ?_))))))) (cb_drop (by with_reducible assumption) (by ((repeat (refine sub_cons ?_ ?_; k_mem)); (first | exact List.forall_mem_nil _ | ((repeat (first | exact fun p hp => hp | refine sub_skip ?_)))))))) (by first | exact all1 (by (simp only [AllLt]); first | with_reducible assumption | with_reducible exact And.right (by with_reducible assumption) | with_reducible exact And.right (And.right (by with_reducible assumption))) | exact all2 (by (simp only [AllLt]); first | with_reducible assumption | with_reducible exact And.right (by with_reducible assumption) | with_reducible exact And.right (And.right (by with_reducible assumption))) (by (simp only [AllLt]); first | with_reducible assumption | with_reducible exact And.right (by with_reducible assumption) | with_reducible exact And.right (And.right (by with_reducible assumption)))) (by first | exact so_nil0 (b := 0) (told := .none) (rep := false) (by with_reducible assumption) (Or.inl (by with_reducible assumption)) (by decide) (by with_reducible assumption) rfl)
   | exact hret _ _ _ _ rootB none _ 0 .send ResIs.send (by with_reducible assumption) (news_app (cb_drop (by with_reducible assumption) (by ((repeat (refine sub_cons ?_ ?_; k_mem)); (first | exact List.forall_mem_nil _ | ((repeat (first | exact fun p hp => hp | refine sub_skip ?_))))))) (cb_drop (by with_reducible assumption) (by ((repeat (refine sub_cons ?_ ?_; k_mem)); (first | exact List.forall_mem_nil _ | ((repeat (first | exact fun p hp => hp | refine sub_skip ?_)))))))) (by first | exact all1 (by (simp only [AllLt]); first | with_reducible assumption | with_reducible exact And.right (by with_reducible assumption) | with_reducible exact And.right (And.right (by with_reducible assumption))) | exact all2 (by (simp only [AllLt]); first | with_reducible assumption | with_reducible exact And.right (by with_reducible assumption) | with_reducible exact And.right (And.right (by with_reducible assumption))) (by (simp only [AllLt]); first | with_reducible assumption | with_reducible exact And.right (by with_reducible assumption) | with_reducible exact And.right (And.right (by with_reducible assumption)))) (by first | exact so_send1 (by with_reducible assumption) (by with_reducible assumption) (by decide) | exact so_send0 (b := 0) (told := .none) (rep := false) (by with_reducible assumption) (Or.inl (by with_reducible assumption)) rfl (by with_reducible assumption) rfl | exact so_send0 (by with_reducible assumption) (Or.inr ⟨by with_reducible assumption, rfl, by with_reducible assumption⟩) rfl (by with_reducible assumption) rfl)
   | exact hret _ _ _ _ (passT _ r prefB) (passU _ r now) _ _ (.run _) ResIs.run (by with_reducible assumption) (news_app (cb_drop (by with_reducible assumption) (by ((repeat (refine sub_cons ?_ ?_; k_mem)); (first | exact List.forall_mem_nil _ | ((repeat (first | exact fun p hp => hp | refine sub_skip ?_))))))) (cb_drop (by with_reducible assumption) (by ((repeat (refine sub_cons ?_ ?_; k_mem)); (first | exact List.forall_mem_nil _ | ((repeat (first | exact fun p hp => hp | refine sub_skip ?_)))))))) (by first | exact all1 (by (simp only [AllLt]); first | with_reducible assumption | with_reducible exact And.right (by with_reducible assumption) | with_reducible exact And.right (And.right (by with_reducible assumption))) | exact all2 (by (simp only [AllLt]); first | with_reducible assumption | with_reducible exact And.right (by with_reducible assumption) | with_reducible exact And.right (And.right (by with_reducible assumption))) (by (simp only [AllLt]); first | with_reducible assumption | with_reducible exact And.right (by with_reducible assumption) | with_reducible exact And.right (And.right (by with_reducible assumption)))) (by first | exact so_run1 (by first | exact Or.inl (by with_reducible assumption) | exact Or.inr (by decide)) (by with_reducible assumption) (by first | exact Or.inl rfl | exact Or.inr (by with_reducible assumption)))
   | exact hret _ _ _ _ (passT _ r rootB) (passU _ r now) _ _ (.run _) ResIs.run (by with_reducible assumption) (news_app (cb_drop (by with_reducible assumption) (by ((repeat (refine sub_cons ?_ ?_; k_mem)); (first | exact List.forall_mem_nil _ | ((repeat (first | exact fun p hp => hp | refine sub_skip ?_))))))) (cb_drop (by with_reducible assumption) (by ((repeat (refine sub_cons ?_ ?_; k_mem)); (first | exact List.forall_mem_nil _ | ((repeat (first | exact fun p hp => hp | refine sub_skip ?_)))))))) (by first | exact all1 (by (simp only [AllLt]); first | with_reducible assumption | with_reducible exact And.right (by with_reducible assumption) | with_reducible exact And.right (And.right (by with_reducible assumption))) | exact all2 (by (simp only [AllLt]); first | with_reducible assumption | with_reducible exact And.right (by with_reducible assumption) | with_reducible exact And.right (And.right (by with_reducible assumption))) (by (simp only [AllLt]); first | with_reducible assumption | with_reducible exact And.right (by with_reducible assumption) | with_reducible exact And.right (And.right (by with_reducible assumption)))) (by first | exact so_run0 (b := 0) (told := .none) (rep := false) (by with_reducible assumption) (Or.inl (by with_reducible assumption)) rfl (by with_reducible assumption) | exact so_run0 (by with_reducible assumption) (Or.inr ⟨by with_reducible assumption, rfl, by with_reducible assumption⟩) rfl (by with_reducible assumption))
   | w_report)
end
section
local macro_rules | `(tactic| k_room) => `(tactic| ktr_room)
local macro_rules | `(tactic| k_all) => `(tactic| assumption)
local macro_rules | `(tactic| k_inst) => `(tactic| (refine' inst_base ?iF ?ih1 ?ih2; (case iF => k_asm); (case ih1 => k_asm); (case ih2 => k_asm)))

theorem reg_17 : True := by
  k_with_none
  (k_with "room" => ((with_reducible rename _ + _ < recursionLimit => hR9); first | exact room_k 4 hR9 | exact room_k 37 hR9 | exact room_k 9 hR9 | exact room_k 5 hR9 | exact room_k 14 hR9 | exact room_k 10 hR9 | exact room_k 19 hR9 | exact room_k 15 hR9 | exact room_k 20 hR9 | exact room_k 25 hR9 | exact room_k 35 hR9 | exact room_k 13 hR9 | exact room_k 1 hR9 | exact room_k 38 hR9 | exact room_k 23 hR9 | exact room_k 24 hR9 | exact room_k 29 hR9 | exact room_k 8 hR9 | exact room_k 40 hR9 | exact room_k 39 hR9 | exact room_k 44 hR9 | exact room_k 17 hR9 | exact room_k 21 hR9 | exact room_k 30 hR9 | exact room_k 33 hR9 | exact room_k 16 hR9 | exact room_k 2 hR9 | exact room_k 43 hR9 | exact room_k 7 hR9 | exact room_k 45 hR9 | exact room_k 0 hR9 | exact room_k 3 hR9 | exact room_k 6 hR9 | exact room_k 11 hR9 | exact room_k 12 hR9 | exact room_k 18 hR9 | exact room_k 22 hR9 | exact room_k 26 hR9 | exact room_k 27 hR9 | exact room_k 28 hR9 | exact room_k 31 hR9 | exact room_k 32 hR9 | exact room_k 34 hR9 | exact room_k 36 hR9 | exact room_k 41 hR9 | exact room_k 42 hR9))
  (k_with "units" => ((with_reducible rename _ + _ < cLine => hR9); first | exact room_k 37 hR9 | exact room_k 77 hR9 | exact room_k 117 hR9 | exact room_k 157 hR9 | exact room_k 237 hR9 | exact room_k 197 hR9 | exact room_k 151 hR9 | exact room_k 133 hR9 | exact room_k 277 hR9 | exact room_k 317 hR9 | exact room_k 357 hR9 | exact room_k 4 hR9 | exact room_k 9 hR9 | exact room_k 5 hR9 | exact room_k 14 hR9 | exact room_k 10 hR9 | exact room_k 19 hR9 | exact room_k 15 hR9 | exact room_k 20 hR9 | exact room_k 25 hR9 | exact room_k 35 hR9 | exact room_k 13 hR9 | exact room_k 1 hR9 | exact room_k 38 hR9 | exact room_k 23 hR9 | exact room_k 24 hR9 | exact room_k 29 hR9 | exact room_k 8 hR9 | exact room_k 40 hR9 | exact room_k 39 hR9 | exact room_k 44 hR9 | exact room_k 17 hR9 | exact room_k 21 hR9 | exact room_k 30 hR9 | exact room_k 33 hR9 | exact room_k 16 hR9 | exact room_k 2 hR9 | exact room_k 43 hR9 | exact room_k 7 hR9 | exact room_k 45 hR9))
  (k_with "lt" => (first | with_reducible assumption | exact (by with_reducible assumption : _ ∧ _).1 | exact (by with_reducible assumption : _ ∧ _).2 | exact (by with_reducible assumption : _ ∧ _ ∧ _).2.1 | exact (by with_reducible assumption : _ ∧ _ ∧ _).2.2 | exact (by with_reducible assumption : _ ∧ _ ∧ _ ∧ _).2.2.1 | exact (by with_reducible assumption : _ ∧ _ ∧ _ ∧ _).2.2.2 | exact (by with_reducible assumption : _ ∧ _ ∧ _ ∧ _ ∧ _).2.2.2.1 | exact (by with_reducible assumption : _ ∧ _ ∧ _ ∧ _ ∧ _).2.2.2.2 | exact (by with_reducible assumption : _ ∧ _ ∧ _ ∧ _ ∧ _ ∧ _).2.2.2.2.1 | exact (by with_reducible assumption : _ ∧ _ ∧ _ ∧ _ ∧ _ ∧ _).2.2.2.2.2 | exact (by with_reducible assumption : _ ∧ _ ∧ _ ∧ _ ∧ _ ∧ _ ∧ _).2.2.2.2.2.1 | exact (by with_reducible assumption : _ ∧ _ ∧ _ ∧ _ ∧ _ ∧ _ ∧ _).2.2.2.2.2.2 | exact (by with_reducible assumption : _ ∧ _ ∧ _ ∧ _ ∧ _ ∧ _ ∧ _ ∧ _).2.2.2.2.2.2.1 | exact (by with_reducible assumption : _ ∧ _ ∧ _ ∧ _ ∧ _ ∧ _ ∧ _ ∧ _).2.2.2.2.2.2.2 | exact (by with_reducible assumption : _ ∧ _ ∧ _ ∧ _ ∧ _ ∧ _ ∧ _ ∧ _ ∧ _).2.2.2.2.2.2.2.1 | exact (by with_reducible assumption : _ ∧ _ ∧ _ ∧ _ ∧ _ ∧ _ ∧ _ ∧ _ ∧ _).2.2.2.2.2.2.2.2 | exact (by with_reducible assumption : _ ∧ _ ∧ _ ∧ _ ∧ _ ∧ _ ∧ _ ∧ _ ∧ _ ∧ _).2.2.2.2.2.2.2.2.1 | exact (by with_reducible assumption : _ ∧ _ ∧ _ ∧ _ ∧ _ ∧ _ ∧ _ ∧ _ ∧ _ ∧ _).2.2.2.2.2.2.2.2.2 | exact (by with_reducible assumption : _ ∧ _ ∧ _ ∧ _ ∧ _ ∧ _ ∧ _ ∧ _ ∧ _ ∧ _ ∧ _).2.2.2.2.2.2.2.2.2.1 | exact (by with_reducible assumption : _ ∧ _ ∧ _ ∧ _ ∧ _ ∧ _ ∧ _ ∧ _ ∧ _ ∧ _ ∧ _).2.2.2.2.2.2.2.2.2.2 | exact (by with_reducible assumption : _ ∧ _ ∧ _ ∧ _ ∧ _ ∧ _ ∧ _ ∧ _ ∧ _ ∧ _ ∧ _ ∧ _).2.2.2.2.2.2.2.2.2.2.1 | exact (by with_reducible assumption : _ ∧ _ ∧ _ ∧ _ ∧ _ ∧ _ ∧ _ ∧ _ ∧ _ ∧ _ ∧ _ ∧ _).2.2.2.2.2.2.2.2.2.2.2 | exact (by with_reducible assumption : _ ∧ _ ∧ _ ∧ _ ∧ _ ∧ _ ∧ _ ∧ _ ∧ _ ∧ _ ∧ _ ∧ _ ∧ _).2.2.2.2.2.2.2.2.2.2.2.1 | exact (by with_reducible assumption : _ ∧ _ ∧ _ ∧ _ ∧ _ ∧ _ ∧ _ ∧ _ ∧ _ ∧ _ ∧ _ ∧ _ ∧ _).2.2.2.2.2.2.2.2.2.2.2.2))
  (k_with "ne" => ((refine neN ?_); (try dsimp only); first | (refine Nat.ne_of_lt ?_; k_extra "lt") | (refine Nat.ne_of_gt ?_; k_extra "lt") | omega))
  (k_with "all" => (first | assumption | exact all_nil | (refine' all_cons ?a9Z5 ?b9Z5; (case a9Z5 => k_extra "ne"); (case b9Z5 => k_extra "all"))))
  (k_with "ite" => (k_closed; k_dflt (first | (refine' @ite_pos _ _ _ _ ?h1Z6 ?_; (case h1Z6 => decide); k_whole) | (refine' @ite_neg _ _ _ _ ?h2Z6 ?_; (case h2Z6 => decide); k_whole))))
  (k_with "getAttr ref true" => (k_here; k_dflt (refine' get_own ?k1Z7 ?k2Z7 ?k3Z7 ?k4Z7 ?k5Z7 ?k6Z7 ?k7Z7 ?k8Z7 ?k9Z7 ?_; (case k1Z7 => k_asm); (case k2Z7 => k_asm); (case k3Z7 => k_inst); (case k4Z7 => k_is); (case k5Z7 => k_is); (case k6Z7 => k_is); (case k7Z7 => k_is); (case k8Z7 => k_get); (case k9Z7 => k_handed); k_whole)))
  (k_with "eval Name" => (k_here; name_kind "local"; k_dflt (refine' nameX_L ?FZ8 ?vZ8 ?_ ?aZ8 ?bZ8; (case FZ8 => k_asm); (case aZ8 => rfl); (case bZ8 => rfl); (case vZ8 => rfl); k_whole)))
  (k_with "eval Name" => (k_here; name_kind "globalImplicit"; k_dflt (first | (refine' nameX_K ?FZ9 ?XZ9 ?TZ9 ?eZ9 ?_ ?aZ9 ?bZ9; (case FZ9 => k_asm); (case XZ9 => k_asm); (case TZ9 => k_asm); (case aZ9 => rfl); (case bZ9 => rfl); (case eZ9 => k_is); k_whole) | (refine' nameX_B ?F9Z9 ?X9Z9 ?T9Z9 ?e9Z9 ?v9Z9 ?n9Z9 ?_ ?a9Z9 ?b9Z9; (case F9Z9 => k_asm); (case X9Z9 => k_asm); (case T9Z9 => k_asm); (case a9Z9 => rfl); (case b9Z9 => rfl); (case e9Z9 => k_is); (case v9Z9 => boot_fast); (case n9Z9 => decide); k_whole))))
  (k_with "callWith ref cons nil" => (k_here; k_dflt (first | (refine' callWith_K ?k1Z10 ?k2Z10 ?_; (case k1Z10 => k_asm); (case k2Z10 => k_is); k_whole) | (refine' callWith_K0 ?k3Z10 ?k4Z10 ?_; (case k3Z10 => first | with_reducible assumption | (refine' Frag.In.keeps ?x8Z10 (Fr.keep ?f8Z10); (case f8Z10 => with_reducible assumption); (case x8Z10 => with_reducible assumption)) | k_in); (case k4Z10 => k_is); k_whole) | (refine' callWith_M0 ?k5Z10 ?k6Z10 ?_; (case k5Z10 => k_meth); (case k6Z10 => k_is); k_whole; try dsimp only [List.nil_append, List.cons_append]))))
  (k_with "exec While Constant cons nil" => (k_here; k_dflt (refine whl_start 100 ?_)))
  (k_with "call builtin:list.append cons nil" => (k_here; (with_reducible show wpAny _ _ (call (Value.builtin _) [Value.ref _, _]) _ _ _); k_dflt (refine' append_K ?k1Z12 ?k2Z12 ?k3Z12 ?_ ?zZ12; (case k1Z12 => k_asm); (case k2Z12 => k_asm); (case k3Z12 => k_upd); (case zZ12 => first | size_fits | k_extra "size9"); k_whole); intro h' F' N'; (try k_sweep)))
  (k_with "compareOp In" => (k_here; (with_reducible show wpAny _ _ (compareOp CmpOp.In (Value.bytes _ _) (Value.ref _)) _ _ _); k_dflt (refine' md_in (md_at ?FZ75 ?DZ75) ?lZ75 (bk_is _ _ _ _) ?vZ75 ?_; (case FZ75 => k_asm); (case DZ75 => k_asm); (case lZ75 => k_asm); (case vZ75 => k_asm); k_whole)))
  (k_with "subscriptTail" => (k_here; (with_reducible show wpAny _ _ (subscriptTail _ _ (Value.ref _) (Value.bytes _ _)) _ _ _); k_dflt (refine' md_item (md_at ?FZ76 ?DZ76) (bk_is _ _ _ _) ?vZ76 ?_; (case FZ76 => k_asm); (case DZ76 => k_asm); (case vZ76 => k_asm); k_whole)))
  (k_with "getMethod ref" => (k_here; (with_reducible show wpAny _ _ (getMethod (Value.ref _) (Str.ofString "get") _) _ _ _); k_dflt (refine' md_getm (knd := bytesKind _ _) (md_at ?FZ77 ?DZ77) ?_; (case FZ77 => k_asm); (case DZ77 => k_asm); k_whole)))
  (k_with "call builtin:dict.get" => (k_here; k_dflt (first | ((with_reducible show wpAny _ _ (call (Value.builtin "dict.get") [Value.ref _, Value.bytes _ _]) _ _ _); refine' md_get1 (md_at ?FZ78 ?DZ78) ?lZ78 (bk_is _ _ _ _) ?vZ78 ?_; (case FZ78 => k_asm); (case DZ78 => k_asm); (case lZ78 => k_asm); (case vZ78 => k_asm); k_whole) | ((with_reducible show wpAny _ _ (call (Value.builtin "dict.get") [Value.ref _, Value.bytes _ _, _]) _ _ _); refine' md_get2 (md_at ?FZ78 ?DZ78) ?lZ78 (bk_is _ _ _ _) ?vZ78 ?_; (case FZ78 => k_asm); (case DZ78 => k_asm); (case lZ78 => k_asm); (case vZ78 => k_asm); k_whole)); (try dsimp only [Option.getD])))
  (k_with "compareOp Eq bytes none" => with_reducible refine eq_bytes_none ?_)
  trivial



theorem is_small {w mean mg mb dp un gd cn cs a ccd cl outer A₀ base h₀ L m} {s : Shared} {Q E : Value → Shared → Prop} {c : Int} {tc : Tok} {rest : List (Addr × Obj)}
  (am : Amb 5 40 w mean mg mb dp un cs outer A₀ base h₀ L m s.heap) (N : News h₀ L s.heap rest) (c1 : 97 ≤ c) (c2 : c ≤ 122) (hret : ∀ h' tk', Fr h₀ L h' m → News h₀ L h' rest → Q (.bool true) { s with heap := h', toks := tk' }) :
  wpAny (model PySem.Challenge.rw_og0286_01.row.prog w) (ktrTop dp un gd cn cs L a ccd cl outer) (call (.ref 275) [.int c tc]) Q E s := by
  obtain ⟨B, F, X, T, hk, hd, hu⟩ := am
  revert X; k_fill; intro X
  refine wpAny_call ?_
  k_dflt cell_enter
  repeat' (first | (k_unfold; (try dsimp only)) | (k_end; wrow_close) | (walk1 <;> (try dsimp only)) | (leave1; walk_say "STEP leave1"; try dsimp only) | fail "no step")
  all_goals (first | (rw [decide_eq_true (p := c ≤ 122) (by omega)]; exact hret _ _ (by assumption) (by assumption)) | w_report)


theorem reg_18 : True := by
  (k_with "call ref" => (k_here; (with_reducible show wpAny _ _ (call (Value.ref 275) _ _) _ _ _); k_dflt (refine' is_small  ?amZ80 ?NZ80 ?c1Z80 ?c2Z80 ?_; (case amZ80 => (refine' Amb.mk ?aBZ80 ?aFZ80 ?aXZ80 ?aTZ80 ?akZ80 ?adZ80 ?auZ80; (case aBZ80 => k_asm); (case aFZ80 => k_asm); (case aXZ80 => k_asm); (case aTZ80 => k_asm); (case akZ80 => first | exact rfl | assumption); (case adZ80 => ktr_room); (case auZ80 => ktr_units))); (case NZ80 => k_asm); (case c1Z80 => first | assumption | omega); (case c2Z80 => first | assumption | omega); k_whole; intro h9 tk9 F9 N9; (try dsimp only); (try k_fold))))
  trivial


theorem is_capital {w mean mg mb dp un gd cn cs a ccd cl outer A₀ base h₀ L m} {s : Shared} {Q E : Value → Shared → Prop} {c : Int} {tc : Tok} {rest : List (Addr × Obj)}
  (am : Amb 5 40 w mean mg mb dp un cs outer A₀ base h₀ L m s.heap) (N : News h₀ L s.heap rest) (c1 : 97 ≤ c) (c2 : c ≤ 122) (hret : ∀ h' tk', Fr h₀ L h' m → News h₀ L h' rest → Q (.bool false) { s with heap := h', toks := tk' }) :
  wpAny (model PySem.Challenge.rw_og0286_01.row.prog w) (ktrTop dp un gd cn cs L a ccd cl outer) (call (.ref 268) [.int c tc]) Q E s := by
  obtain ⟨B, F, X, T, hk, hd, hu⟩ := am
  revert X; k_fill; intro X
  refine wpAny_call ?_
  k_dflt cell_enter
  repeat' (first | (k_unfold; (try dsimp only)) | (k_end; wrow_close) | (walk1 <;> (try dsimp only)) | (leave1; walk_say "STEP leave1"; try dsimp only) | fail "no step")
  all_goals (first | (rw [decide_eq_false (p := c ≤ 90) (by omega)]; exact hret _ _ (by assumption) (by assumption)) | w_report)


theorem reg_19 : True := by
  (k_with "call ref" => (k_here; (with_reducible show wpAny _ _ (call (Value.ref 268) _ _) _ _ _); k_dflt (refine' is_capital  ?amZ81 ?NZ81 ?c1Z81 ?c2Z81 ?_; (case amZ81 => (refine' Amb.mk ?aBZ81 ?aFZ81 ?aXZ81 ?aTZ81 ?akZ81 ?adZ81 ?auZ81; (case aBZ81 => k_asm); (case aFZ81 => k_asm); (case aXZ81 => k_asm); (case aTZ81 => k_asm); (case akZ81 => first | exact rfl | assumption); (case adZ81 => ktr_room); (case auZ81 => ktr_units))); (case NZ81 => k_asm); (case c1Z81 => first | assumption | omega); (case c2Z81 => first | assumption | omega); k_whole; intro h9 tk9 F9 N9; (try dsimp only); (try k_fold))))
  trivial


theorem is_sign {w mean mg mb dp un gd cn cs a ccd cl outer A₀ base h₀ L m} {s : Shared} {Q E : Value → Shared → Prop} {c : Int} {tc : Tok} {rest : List (Addr × Obj)}
  (am : Amb 5 40 w mean mg mb dp un cs outer A₀ base h₀ L m s.heap) (N : News h₀ L s.heap rest) (c1 : 97 ≤ c) (c2 : c ≤ 122) (hret : ∀ h' tk', Fr h₀ L h' m → News h₀ L h' rest → Q (.bool true) { s with heap := h', toks := tk' }) :
  wpAny (model PySem.Challenge.rw_og0286_01.row.prog w) (ktrTop dp un gd cn cs L a ccd cl outer) (call (.ref 151) [.int c tc]) Q E s := by
  obtain ⟨B, F, X, T, hk, hd, hu⟩ := am
  revert X; k_fill; intro X
  refine wpAny_call ?_
  k_dflt cell_enter
  repeat' (first | (k_unfold; (try dsimp only)) | (k_end; wrow_close) | (walk1 <;> (try dsimp only)) | (leave1; walk_say "STEP leave1"; try dsimp only) | fail "no step")
  all_goals (first | (rw [decide_eq_false (p := 55296 ≤ c) (by omega)]; exact hret _ _ (by assumption) (by assumption)) | w_report)


theorem reg_20 : True := by
  (k_with "call ref" => (k_here; (with_reducible show wpAny _ _ (call (Value.ref 151) _ _) _ _ _); k_dflt (refine' is_sign  ?amZ82 ?NZ82 ?c1Z82 ?c2Z82 ?_; (case amZ82 => (refine' Amb.mk ?aBZ82 ?aFZ82 ?aXZ82 ?aTZ82 ?akZ82 ?adZ82 ?auZ82; (case aBZ82 => k_asm); (case aFZ82 => k_asm); (case aXZ82 => k_asm); (case aTZ82 => k_asm); (case akZ82 => first | exact rfl | assumption); (case adZ82 => ktr_room); (case auZ82 => ktr_units))); (case NZ82 => k_asm); (case c1Z82 => first | assumption | omega); (case c2Z82 => first | assumption | omega); k_whole; intro h9 tk9 F9 N9; (try dsimp only); (try k_fold))))
  trivial


theorem utf8_l {w mean mg mb dp un gd cn cs a ccd cl outer A₀ base h₀ L m} {s : Shared} {Q E : Value → Shared → Prop} {c : Int} {b : UInt8} {tc : Tok} {rest : List (Addr × Obj)}
  (am : Amb 8 64 w mean mg mb dp un cs outer A₀ base h₀ L m s.heap) (N : News h₀ L s.heap rest) (c1 : 97 ≤ c) (c2 : c ≤ 122) (hb : (b.toNat : Int) = c) (hret : ∀ h' tk' t, Fr h₀ L h' m → News h₀ L h' (rest) → Q (.bytes #[b] t) { s with heap := h', toks := tk' }) :
  wpAny (model PySem.Challenge.rw_og0286_01.row.prog w) (ktrTop dp un gd cn cs L a ccd cl outer) (call (.ref 158) [.int c tc]) Q E s := by
  obtain ⟨B, F, X, T, hk, hd, hu⟩ := am
  revert X; k_fill; intro X
  refine wpAny_call ?_
  k_dflt cell_enter
  repeat' (first | (k_unfold; (try dsimp only)) | (k_end; wrow_close) | (walk1 <;> (try dsimp only)) | (leave1; walk_say "STEP leave1"; try dsimp only) | fail "no step")
  all_goals (first | ((have e9 : c.toNat.toUInt8 = b := UInt8.toNat_inj.mp (by omega)); rw [e9]; exact hret _ _ _ (by assumption) (cb_drop (by with_reducible assumption) (by ((repeat (refine sub_cons ?_ ?_; k_mem)); (first | exact List.forall_mem_nil _ | ((repeat (first | exact fun p hp => hp | refine sub_skip ?_)))))))) | w_report)


theorem reg_21 : True := by
  (k_with "call ref" => (k_here; (with_reducible show wpAny _ _ (call (Value.ref 158) _ _) _ _ _); k_dflt (refine' utf8_l  ?amZ83 ?NZ83 ?c1Z83 ?c2Z83 ?hbZ83 ?_; (case amZ83 => (refine' Amb.mk ?aBZ83 ?aFZ83 ?aXZ83 ?aTZ83 ?akZ83 ?adZ83 ?auZ83; (case aBZ83 => k_asm); (case aFZ83 => k_asm); (case aXZ83 => k_asm); (case aTZ83 => k_asm); (case akZ83 => first | exact rfl | assumption); (case adZ83 => ktr_room); (case auZ83 => ktr_units))); (case NZ83 => k_asm); (case hbZ83 => exact rfl); (case c1Z83 => first | assumption | omega); (case c2Z83 => first | assumption | omega); k_whole; intro h9 tk9 t9 F9 N9; (try dsimp only); (try k_fold))))
  trivial


theorem lead_l {w mean mg mb dp un gd cn cs a ccd cl outer A₀ base h₀ L m} {s : Shared} {Q E : Value → Shared → Prop} {c : Int} {tc : Tok} {rest : List (Addr × Obj)}
  (am : Amb 5 40 w mean mg mb dp un cs outer A₀ base h₀ L m s.heap) (N : News h₀ L s.heap rest) (c1 : 97 ≤ c) (c2 : c ≤ 122) (hret : ∀ h' tk', Fr h₀ L h' m → News h₀ L h' rest → Q (.none) { s with heap := h', toks := tk' }) :
  wpAny (model PySem.Challenge.rw_og0286_01.row.prog w) (ktrTop dp un gd cn cs L a ccd cl outer) (call (.ref 73) [.int c tc]) Q E s := by
  obtain ⟨B, F, X, T, hk, hd, hu⟩ := am
  revert X; k_fill; intro X
  refine wpAny_call ?_
  k_dflt cell_enter
  repeat' (first | (k_unfold; (try dsimp only)) | (k_end; wrow_close) | (walk1 <;> (try dsimp only)) | (leave1; walk_say "STEP leave1"; try dsimp only) | fail "no step")
  all_goals (first | exact hret _ _ (by assumption) (by assumption) | w_report)


theorem reg_22 : True := by
  (k_with "call ref" => (k_here; (with_reducible show wpAny _ _ (call (Value.ref 73) _ _) _ _ _); k_dflt (refine' lead_l  ?amZ84 ?NZ84 ?c1Z84 ?c2Z84 ?_; (case amZ84 => (refine' Amb.mk ?aBZ84 ?aFZ84 ?aXZ84 ?aTZ84 ?akZ84 ?adZ84 ?auZ84; (case aBZ84 => k_asm); (case aFZ84 => k_asm); (case aXZ84 => k_asm); (case aTZ84 => k_asm); (case akZ84 => first | exact rfl | assumption); (case adZ84 => ktr_room); (case auZ84 => ktr_units))); (case NZ84 => k_asm); (case c1Z84 => first | assumption | omega); (case c2Z84 => first | assumption | omega); k_whole; intro h9 tk9 F9 N9; (try dsimp only); (try k_fold))))
  (k_with "last pyIter bytes" => ((with_reducible show wpAny _ _ (pyIter (Value.bytes #[_] _)) (fun it s₂ => LoopAtV _ _ _ _ _ _ _ _ _ it s₂) _ _); k_here; (rename Fr _ _ _ _ => lF'); (rename News _ _ _ _ => lN'); (with_unfolding_all refine iter_bytesUnr (l := [((_ : UInt8).toNat : Int)]) (by rfl) lF' lN' (by rfl) ?_); clear lF' lN'; intro i' l1; (try k_lt l1)))
  (k_with "subscriptTail Name Constant ref int" => (k_here; (with_reducible show wpAny _ _ (subscriptTail _ _ (Value.ref _) (Value.int 0 _)) _ _ _); refine' item_push ?k1Z86 ?_ ?k6Z86; (case k1Z86 => k_asm); (case k6Z86 => with_unfolding_all rfl); k_whole))
  trivial


theorem one_sign0 {w mean mg mb dp un gd cn cs a ccd cl outer A₀ base h₀ L m} {s : Shared} {Q E : Value → Shared → Prop} {b : UInt8} {tb : Tok}
  (am : Amb 25 200 w mean mg mb dp un cs outer A₀ base h₀ L m s.heap) (b1 : 97 ≤ b.toNat) (b2 : b.toNat ≤ 122) (hret : ∀ h' tk' (t : Tok), Fr h₀ L h' m → s.heap.StaysIn h' → News h₀ L h' ([]) → Q (.int (b.toNat : Int) t) { s with heap := h', toks := tk' }) :
  wpAny (model PySem.Challenge.rw_og0286_01.row.prog w) (ktrTop dp un gd cn cs L a ccd cl outer) (call (.ref 307) [.bytes #[b] tb]) Q E s := by
  obtain ⟨B, F, X, T, hk, hd, hu⟩ := am
  have N0 : News h₀ L s.heap [] := news_nil
  revert X; k_fill; intro X
  refine wpAny_call ?_
  k_dflt (refine' code_defR ?k1 ?k2 ?k3 ?k4 ?k5 ?kA ?kF ?kK ?k6 ?k7 ?k8 ?k9 ?kB ?_ ?c2 ?c3 ?c4 ?c5; (case kA => exact rfl); (case kF => exact rfl); (case kK => assumption); (case k1 => k_asm); (case k2 => k_asm); (case k3 => k_asm); (case k4 => exact N0); (case k5 => k_asm); (case k6 => k_is); (case k7 => k_is); (case k8 => ktr_room); (case k9 => exact BindsTo.of_eq rfl); (case c5 => decide); (case kB => exact locs rfl); (case c2 => exact rfl); (case c3 => exact rfl); (case c4 => exact rfl); k_whole; intro g' L' h' hg' FG' F' N' B' X' T'; (try dsimp only); (try k_lift B'); (try k_fold))
  repeat' (first | (k_unfold; (try dsimp only)) | (k_end; wrow_close) | (walk1 <;> (try dsimp only)) | (leave1; walk_say "STEP leave1"; try dsimp only) | fail "no step")
  all_goals (first | first | (rename (_ != _) = true => hx9; exact absurd hx9 (by simp)) | exact hret _ _ _ (by with_reducible assumption) (hide_nil (by with_reducible assumption) (by with_reducible assumption)) (cb_drop (by with_reducible assumption) (by ((repeat (refine sub_cons ?_ ?_; k_mem)); (first | exact List.forall_mem_nil _ | ((repeat (first | exact fun p hp => hp | refine sub_skip ?_))))))) | w_report)

theorem one_sign {w mean mg mb dp un gd cn cs a ccd cl outer A₀ base h₀ L m} {s : Shared} {Q E : Value → Shared → Prop} {b : UInt8} {tb : Tok} {rest : List (Addr × Obj)}
  (am : Amb 25 200 w mean mg mb dp un cs outer A₀ base h₀ L m s.heap) (N : News h₀ L s.heap rest) (b1 : 97 ≤ b.toNat) (b2 : b.toNat ≤ 122) (hret : ∀ h' tk' (t : Tok), Fr h₀ L h' m → News h₀ L h' (rest) → Q (.int (b.toNat : Int) t) { s with heap := h', toks := tk' }) :
  wpAny (model PySem.Challenge.rw_og0286_01.row.prog w) (ktrTop dp un gd cn cs L a ccd cl outer) (call (.ref 307) [.bytes #[b] tb]) Q E s := one_sign0 am b1 b2 fun h' tk' t F S N' => hret h' tk' t F (news_app N' (news_stay N S))


theorem reg_23 : True := by
  (k_with "subscriptTail" => (k_here; (with_reducible show wpAny _ _ (subscriptTail _ (PySem.Expr.Slice _ _ none _) (Value.bytes _ _) (Value.ref _)) _ _ _); (with_reducible rename Fr _ _ _ _ => F'); (with_reducible rename News _ _ _ _ => N'); (refine slice_e (s := ⟨_, _, _, _, _⟩) F' N' (by constructor) (by constructor) (by first | exact whole_a | exact whole_b | exact whole_c) (by first | exact pick_a | exact pick_b | exact pick_c) (Nat.le_of_ble_eq_true rfl) ?_ (by with_unfolding_all rfl) (by intro _; with_unfolding_all rfl)); intro _ _ _ _ _))
  (k_with "subscriptTail" => (k_here; (with_reducible show wpAny _ _ (subscriptTail _ _ (Value.bytes _ _) (Value.int 0 _)) _ _ _); (refine item_b0 ?_ (by with_unfolding_all rfl) (by intro _; with_unfolding_all rfl))))
  (k_with "call builtin:len" => (k_here; (with_reducible show wpAny _ _ (call (Value.builtin "len") [Value.bytes _ _]) _ _ _); (first | with_reducible refine len_b1 ?_ | with_reducible refine len_b3 ?_)))
  (k_with "call ref" => (k_here; (with_reducible show wpAny _ _ (call (Value.ref 307) _ _) _ _ _); k_dflt (refine' one_sign  ?amZ90 ?NZ90 ?b1Z90 ?b2Z90 ?_; (case amZ90 => (refine' Amb.mk ?aBZ90 ?aFZ90 ?aXZ90 ?aTZ90 ?akZ90 ?adZ90 ?auZ90; (case aBZ90 => k_asm); (case aFZ90 => k_asm); (case aXZ90 => k_asm); (case aTZ90 => k_asm); (case akZ90 => first | exact rfl | assumption); (case adZ90 => ktr_room); (case auZ90 => ktr_units))); (case NZ90 => k_asm); (case b1Z90 => assumption); (case b2Z90 => assumption); k_whole; intro h9 tk9 t9 F9 N9; (try dsimp only); (try k_fold))))
  trivial


theorem split10 {w mean mg mb dp un gd cn cs a ccd cl outer A₀ base h₀ L m} {s : Shared} {Q E : Value → Shared → Prop} {b : UInt8} {tb : Tok}
  (am : Amb 20 160 w mean mg mb dp un cs outer A₀ base h₀ L m s.heap) (b1 : 97 ≤ b.toNat) (b2 : b.toNat ≤ 122) (hret : ∀ h' tk' (r : Addr) (t1 : Tok) (t2 : Tok) (n : Nat), Fr h₀ L h' m → s.heap.StaysIn h' → News h₀ L h' ([(r, tupObj [.int 0 t1, .bytes #[b] t2] n)]) → Q (.ref r) { s with heap := h', toks := tk' }) :
  wpAny (model PySem.Challenge.rw_og0286_01.row.prog w) (ktrTop dp un gd cn cs L a ccd cl outer) (call (.ref 314) [.bytes #[b] tb]) Q E s := by
  obtain ⟨B, F, X, T, hk, hd, hu⟩ := am
  have N0 : News h₀ L s.heap [] := news_nil
  revert X; k_fill; intro X
  refine wpAny_call ?_
  k_dflt (refine' code_defR ?k1 ?k2 ?k3 ?k4 ?k5 ?kA ?kF ?kK ?k6 ?k7 ?k8 ?k9 ?kB ?_ ?c2 ?c3 ?c4 ?c5; (case kA => exact rfl); (case kF => exact rfl); (case kK => assumption); (case k1 => k_asm); (case k2 => k_asm); (case k3 => k_asm); (case k4 => exact N0); (case k5 => k_asm); (case k6 => k_is); (case k7 => k_is); (case k8 => ktr_room); (case k9 => exact BindsTo.of_eq rfl); (case c5 => decide); (case kB => exact locs rfl); (case c2 => exact rfl); (case c3 => exact rfl); (case c4 => exact rfl); k_whole; intro g' L' h' hg' FG' F' N' B' X' T'; (try dsimp only); (try k_lift B'); (try k_fold))
  repeat' (first | (k_unfold; (try dsimp only)) | (k_end; wrow_close) | (walk1 <;> (try dsimp only)) | (leave1; walk_say "STEP leave1"; try dsimp only) | fail "no step")
  all_goals (first | first | (rename (_ != _) = true => hx9; exact absurd hx9 (by simp)) | exact hret _ _ _ _ _ _ (by with_reducible assumption) (hide_nil (by with_reducible assumption) (by with_reducible assumption)) (cb_drop (by with_reducible assumption) (by ((repeat (refine sub_cons ?_ ?_; k_mem)); (first | exact List.forall_mem_nil _ | ((repeat (first | exact fun p hp => hp | refine sub_skip ?_))))))) | w_report)

theorem split1 {w mean mg mb dp un gd cn cs a ccd cl outer A₀ base h₀ L m} {s : Shared} {Q E : Value → Shared → Prop} {b : UInt8} {tb : Tok} {rest : List (Addr × Obj)}
  (am : Amb 20 160 w mean mg mb dp un cs outer A₀ base h₀ L m s.heap) (N : News h₀ L s.heap rest) (b1 : 97 ≤ b.toNat) (b2 : b.toNat ≤ 122) (hret : ∀ h' tk' (r : Addr) (t1 : Tok) (t2 : Tok) (n : Nat), Fr h₀ L h' m → News h₀ L h' ((r, tupObj [.int 0 t1, .bytes #[b] t2] n) :: rest) → Q (.ref r) { s with heap := h', toks := tk' }) :
  wpAny (model PySem.Challenge.rw_og0286_01.row.prog w) (ktrTop dp un gd cn cs L a ccd cl outer) (call (.ref 314) [.bytes #[b] tb]) Q E s := split10 am b1 b2 fun h' tk' r t1 t2 n F S N' => hret h' tk' r t1 t2 n F (news_app N' (news_stay N S))

theorem split30 {w mean mg mb dp un gd cn cs a ccd cl outer A₀ base h₀ L m} {s : Shared} {Q E : Value → Shared → Prop} {b : UInt8} {tb : Tok}
  (am : Amb 20 160 w mean mg mb dp un cs outer A₀ base h₀ L m s.heap) (b1 : 97 ≤ b.toNat) (b2 : b.toNat ≤ 122) (hret : ∀ h' tk' (r : Addr) (t1 : Tok) (t2 : Tok) (n : Nat), Fr h₀ L h' m → s.heap.StaysIn h' → News h₀ L h' ([(r, tupObj [.int 4 t1, .bytes #[b] t2] n)]) → Q (.ref r) { s with heap := h', toks := tk' }) :
  wpAny (model PySem.Challenge.rw_og0286_01.row.prog w) (ktrTop dp un gd cn cs L a ccd cl outer) (call (.ref 314) [.bytes #[67, 45, b] tb]) Q E s := by
  obtain ⟨B, F, X, T, hk, hd, hu⟩ := am
  have N0 : News h₀ L s.heap [] := news_nil
  revert X; k_fill; intro X
  refine wpAny_call ?_
  k_dflt (refine' code_defR ?k1 ?k2 ?k3 ?k4 ?k5 ?kA ?kF ?kK ?k6 ?k7 ?k8 ?k9 ?kB ?_ ?c2 ?c3 ?c4 ?c5; (case kA => exact rfl); (case kF => exact rfl); (case kK => assumption); (case k1 => k_asm); (case k2 => k_asm); (case k3 => k_asm); (case k4 => exact N0); (case k5 => k_asm); (case k6 => k_is); (case k7 => k_is); (case k8 => ktr_room); (case k9 => exact BindsTo.of_eq rfl); (case c5 => decide); (case kB => exact locs rfl); (case c2 => exact rfl); (case c3 => exact rfl); (case c4 => exact rfl); k_whole; intro g' L' h' hg' FG' F' N' B' X' T'; (try dsimp only); (try k_lift B'); (try k_fold))
  repeat' (first | (k_unfold; (try dsimp only)) | (k_end; wrow_close) | (walk1 <;> (try dsimp only)) | (leave1; walk_say "STEP leave1"; try dsimp only) | fail "no step")
  all_goals (first | first | (rename (_ != _) = true => hx9; exact absurd hx9 (by simp)) | exact hret _ _ _ _ _ _ (by with_reducible assumption) (hide_nil (by with_reducible assumption) (by with_reducible assumption)) (cb_drop (by with_reducible assumption) (by ((repeat (refine sub_cons ?_ ?_; k_mem)); (first | exact List.forall_mem_nil _ | ((repeat (first | exact fun p hp => hp | refine sub_skip ?_))))))) | w_report)

theorem split3 {w mean mg mb dp un gd cn cs a ccd cl outer A₀ base h₀ L m} {s : Shared} {Q E : Value → Shared → Prop} {b : UInt8} {tb : Tok} {rest : List (Addr × Obj)}
  (am : Amb 20 160 w mean mg mb dp un cs outer A₀ base h₀ L m s.heap) (N : News h₀ L s.heap rest) (b1 : 97 ≤ b.toNat) (b2 : b.toNat ≤ 122) (hret : ∀ h' tk' (r : Addr) (t1 : Tok) (t2 : Tok) (n : Nat), Fr h₀ L h' m → News h₀ L h' ((r, tupObj [.int 4 t1, .bytes #[b] t2] n) :: rest) → Q (.ref r) { s with heap := h', toks := tk' }) :
  wpAny (model PySem.Challenge.rw_og0286_01.row.prog w) (ktrTop dp un gd cn cs L a ccd cl outer) (call (.ref 314) [.bytes #[67, 45, b] tb]) Q E s := split30 am b1 b2 fun h' tk' r t1 t2 n F S N' => hret h' tk' r t1 t2 n F (news_app N' (news_stay N S))


theorem reg_24 : True := by
  (k_with "call ref" => (k_here; (with_reducible show wpAny _ _ (call (Value.ref 314) _ _) _ _ _); k_dflt (first | (refine' split1  ?amZ91 ?NZ91 ?b1Z91 ?b2Z91 ?_; (case amZ91 => (refine' Amb.mk ?aBZ91 ?aFZ91 ?aXZ91 ?aTZ91 ?akZ91 ?adZ91 ?auZ91; (case aBZ91 => k_asm); (case aFZ91 => k_asm); (case aXZ91 => k_asm); (case aTZ91 => k_asm); (case akZ91 => first | exact rfl | assumption); (case adZ91 => ktr_room); (case auZ91 => ktr_units))); (case NZ91 => k_asm); (case b1Z91 => assumption); (case b2Z91 => assumption); k_whole; intro h9 tk9 r9 t9 u9 n9 F9 N9; (try dsimp only); (try k_fold)) | (refine' split3  ?amZ91 ?NZ91 ?b1Z91 ?b2Z91 ?_; (case amZ91 => (refine' Amb.mk ?aBZ91 ?aFZ91 ?aXZ91 ?aTZ91 ?akZ91 ?adZ91 ?auZ91; (case aBZ91 => k_asm); (case aFZ91 => k_asm); (case aXZ91 => k_asm); (case aTZ91 => k_asm); (case akZ91 => first | exact rfl | assumption); (case adZ91 => ktr_room); (case auZ91 => ktr_units))); (case NZ91 => k_asm); (case b1Z91 => assumption); (case b2Z91 => assumption); k_whole; intro h9 tk9 r9 t9 u9 n9 F9 N9; (try dsimp only); (try k_fold)))))
  trivial


theorem settled0 {w mean mg mb dp un gd cn cs a ccd cl outer A₀ base h₀ L m} {s : Shared} {Q E : Value → Shared → Prop} {c : Int} {tc tn th : Tok} {rest : List (Addr × Obj)}
  (am : Amb 15 120 w mean mg mb dp un cs outer A₀ base h₀ L m s.heap) (N : News h₀ L s.heap rest) (c1 : 97 ≤ c) (c2 : c ≤ 122) (hret : ∀ h' tk' k kd ck t1 t2 t3 t4, Fr h₀ L h' m → News h₀ L h' ((k, instObj 257 kd) :: (kd, keyObj ck (.bytes #[] t1) (.int c t2) (.int 0 t3) (.int 1 t4)) :: rest) → k ≠ kd → AllLt k rest → AllLt kd rest → Q (.ref k) { s with heap := h', toks := tk' }) :
  wpAny (model PySem.Challenge.rw_og0286_01.row.prog w) (ktrTop dp un gd cn cs L a ccd cl outer) (call (.ref 283) [.bytes #[] tn, .int c tc, .int 0 th]) Q E s := by
  obtain ⟨B, F, X, T, hk, hd, hu⟩ := am
  revert X; k_fill; intro X
  refine wpAny_call ?_
  k_dflt (refine' code_def ?k1 ?k2 ?k3 ?k4 ?k5 ?kA ?kF ?kK ?k6 ?k7 ?k8 ?k9 ?kB ?_ ?c2 ?c3 ?c4 ?c5; (case kA => exact rfl); (case kF => exact rfl); (case kK => assumption); (case k1 => k_asm); (case k2 => k_asm); (case k3 => k_asm); (case k4 => k_asm); (case k5 => k_asm); (case k6 => k_is); (case k7 => k_is); (case k8 => ktr_room); (case k9 => first | exact BindsTo.of_eq rfl | exact binds_K (by k_in) rfl (by k_is) rfl rfl rfl); (case c5 => decide); (case kB => exact locs rfl); (case c2 => exact rfl); (case c3 => exact rfl); (case c4 => exact rfl); k_whole; intro g' L' h' FG' F' N' B' X' T'; (try dsimp only); (try k_lift B'); (try k_fold))
  repeat' (first | (k_unfold; (try dsimp only)) | (k_end; wrow_close) | (walk1 <;> (try dsimp only)) | (leave1; walk_say "STEP leave1"; try dsimp only) | fail "no step")
  all_goals (first | exact hret _ _ _ _ ⟨_, _, _, _, _, _, _, _⟩ _ _ _ _ (by with_reducible assumption) (cb_drop (by with_reducible assumption) (by ((repeat (refine sub_cons ?_ ?_; k_mem)); (first | exact List.forall_mem_nil _ | ((repeat (first | exact fun p hp => hp | refine sub_skip ?_))))))) (by first | with_reducible assumption | k_ne) (allLt_tr (by with_reducible assumption) (by with_reducible assumption)) (allLt_of (by with_reducible assumption)) | w_report)

theorem settled4 {w mean mg mb dp un gd cn cs a ccd cl outer A₀ base h₀ L m} {s : Shared} {Q E : Value → Shared → Prop} {c : Int} {tc tn th : Tok} {rest : List (Addr × Obj)}
  (am : Amb 15 120 w mean mg mb dp un cs outer A₀ base h₀ L m s.heap) (N : News h₀ L s.heap rest) (c1 : 97 ≤ c) (c2 : c ≤ 122) (hret : ∀ h' tk' k kd ck t1 t2 t3 t4, Fr h₀ L h' m → News h₀ L h' ((k, instObj 257 kd) :: (kd, keyObj ck (.bytes #[] t1) (.int c t2) (.int 4 t3) (.int 1 t4)) :: rest) → k ≠ kd → AllLt k rest → AllLt kd rest → Q (.ref k) { s with heap := h', toks := tk' }) :
  wpAny (model PySem.Challenge.rw_og0286_01.row.prog w) (ktrTop dp un gd cn cs L a ccd cl outer) (call (.ref 283) [.bytes #[] tn, .int c tc, .int 4 th]) Q E s := by
  obtain ⟨B, F, X, T, hk, hd, hu⟩ := am
  revert X; k_fill; intro X
  refine wpAny_call ?_
  k_dflt (refine' code_def ?k1 ?k2 ?k3 ?k4 ?k5 ?kA ?kF ?kK ?k6 ?k7 ?k8 ?k9 ?kB ?_ ?c2 ?c3 ?c4 ?c5; (case kA => exact rfl); (case kF => exact rfl); (case kK => assumption); (case k1 => k_asm); (case k2 => k_asm); (case k3 => k_asm); (case k4 => k_asm); (case k5 => k_asm); (case k6 => k_is); (case k7 => k_is); (case k8 => ktr_room); (case k9 => first | exact BindsTo.of_eq rfl | exact binds_K (by k_in) rfl (by k_is) rfl rfl rfl); (case c5 => decide); (case kB => exact locs rfl); (case c2 => exact rfl); (case c3 => exact rfl); (case c4 => exact rfl); k_whole; intro g' L' h' FG' F' N' B' X' T'; (try dsimp only); (try k_lift B'); (try k_fold))
  repeat' (first | (k_unfold; (try dsimp only)) | (k_end; wrow_close) | (walk1 <;> (try dsimp only)) | (leave1; walk_say "STEP leave1"; try dsimp only) | fail "no step")
  all_goals (first | exact hret _ _ _ _ ⟨_, _, _, _, _, _, _, _⟩ _ _ _ _ (by with_reducible assumption) (cb_drop (by with_reducible assumption) (by ((repeat (refine sub_cons ?_ ?_; k_mem)); (first | exact List.forall_mem_nil _ | ((repeat (first | exact fun p hp => hp | refine sub_skip ?_))))))) (by first | with_reducible assumption | k_ne) (allLt_tr (by with_reducible assumption) (by with_reducible assumption)) (allLt_of (by with_reducible assumption)) | w_report)


theorem reg_25 : True := by
  (k_with "call ref" => (k_here; (with_reducible show wpAny _ _ (call (Value.ref 283) _ _) _ _ _); k_dflt (first | (refine' settled0  ?amZ92 ?NZ92 ?c1Z92 ?c2Z92 ?_; (case amZ92 => (refine' Amb.mk ?aBZ92 ?aFZ92 ?aXZ92 ?aTZ92 ?akZ92 ?adZ92 ?auZ92; (case aBZ92 => k_asm); (case aFZ92 => k_asm); (case aXZ92 => k_asm); (case aTZ92 => k_asm); (case akZ92 => first | exact rfl | assumption); (case adZ92 => ktr_room); (case auZ92 => ktr_units))); (case NZ92 => k_asm); (case c1Z92 => first | assumption | omega); (case c2Z92 => first | assumption | omega); k_whole; intro h9 tk9 k9 kd9 ck9 t9 u9 v9 w9 F9 N9 hne9 hk9 hd9; (have hk9' := hk9.2); (have hd9' := hd9.2); (try dsimp only); (try k_fold)) | (refine' settled4  ?amZ92 ?NZ92 ?c1Z92 ?c2Z92 ?_; (case amZ92 => (refine' Amb.mk ?aBZ92 ?aFZ92 ?aXZ92 ?aTZ92 ?akZ92 ?adZ92 ?auZ92; (case aBZ92 => k_asm); (case aFZ92 => k_asm); (case aXZ92 => k_asm); (case aTZ92 => k_asm); (case akZ92 => first | exact rfl | assumption); (case adZ92 => ktr_room); (case auZ92 => ktr_units))); (case NZ92 => k_asm); (case c1Z92 => first | assumption | omega); (case c2Z92 => first | assumption | omega); k_whole; intro h9 tk9 k9 kd9 ck9 t9 u9 v9 w9 F9 N9 hne9 hk9 hd9; (have hk9' := hk9.2); (have hd9' := hd9.2); (try dsimp only); (try k_fold)))))
  trivial
end
section
local macro_rules | `(tactic| k_room) => `(tactic| ktr_room)
local macro_rules | `(tactic| k_all) => `(tactic| assumption)
local macro_rules | `(tactic| k_inst) => `(tactic| (refine' inst_base ?iF ?ih1 ?ih2; (case iF => k_asm); (case ih1 => k_asm); (case ih2 => k_asm)))

theorem reg_26 : True := by
  k_with_none
  (k_with "room" => ((with_reducible rename _ + _ < recursionLimit => hR9); first | exact room_k 4 hR9 | exact room_k 37 hR9 | exact room_k 9 hR9 | exact room_k 5 hR9 | exact room_k 14 hR9 | exact room_k 10 hR9 | exact room_k 19 hR9 | exact room_k 15 hR9 | exact room_k 20 hR9 | exact room_k 25 hR9 | exact room_k 35 hR9 | exact room_k 13 hR9 | exact room_k 1 hR9 | exact room_k 38 hR9 | exact room_k 23 hR9 | exact room_k 24 hR9 | exact room_k 29 hR9 | exact room_k 8 hR9 | exact room_k 40 hR9 | exact room_k 39 hR9 | exact room_k 44 hR9 | exact room_k 17 hR9 | exact room_k 21 hR9 | exact room_k 30 hR9 | exact room_k 33 hR9 | exact room_k 16 hR9 | exact room_k 2 hR9 | exact room_k 43 hR9 | exact room_k 7 hR9 | exact room_k 45 hR9 | exact room_k 0 hR9 | exact room_k 3 hR9 | exact room_k 6 hR9 | exact room_k 11 hR9 | exact room_k 12 hR9 | exact room_k 18 hR9 | exact room_k 22 hR9 | exact room_k 26 hR9 | exact room_k 27 hR9 | exact room_k 28 hR9 | exact room_k 31 hR9 | exact room_k 32 hR9 | exact room_k 34 hR9 | exact room_k 36 hR9 | exact room_k 41 hR9 | exact room_k 42 hR9))
  (k_with "units" => ((with_reducible rename _ + _ < cLine => hR9); first | exact room_k 37 hR9 | exact room_k 77 hR9 | exact room_k 117 hR9 | exact room_k 157 hR9 | exact room_k 237 hR9 | exact room_k 197 hR9 | exact room_k 151 hR9 | exact room_k 133 hR9 | exact room_k 277 hR9 | exact room_k 317 hR9 | exact room_k 357 hR9 | exact room_k 4 hR9 | exact room_k 9 hR9 | exact room_k 5 hR9 | exact room_k 14 hR9 | exact room_k 10 hR9 | exact room_k 19 hR9 | exact room_k 15 hR9 | exact room_k 20 hR9 | exact room_k 25 hR9 | exact room_k 35 hR9 | exact room_k 13 hR9 | exact room_k 1 hR9 | exact room_k 38 hR9 | exact room_k 23 hR9 | exact room_k 24 hR9 | exact room_k 29 hR9 | exact room_k 8 hR9 | exact room_k 40 hR9 | exact room_k 39 hR9 | exact room_k 44 hR9 | exact room_k 17 hR9 | exact room_k 21 hR9 | exact room_k 30 hR9 | exact room_k 33 hR9 | exact room_k 16 hR9 | exact room_k 2 hR9 | exact room_k 43 hR9 | exact room_k 7 hR9 | exact room_k 45 hR9))
  (k_with "lt" => (first | with_reducible assumption | exact (by with_reducible assumption : _ ∧ _).1 | exact (by with_reducible assumption : _ ∧ _).2 | exact (by with_reducible assumption : _ ∧ _ ∧ _).2.1 | exact (by with_reducible assumption : _ ∧ _ ∧ _).2.2 | exact (by with_reducible assumption : _ ∧ _ ∧ _ ∧ _).2.2.1 | exact (by with_reducible assumption : _ ∧ _ ∧ _ ∧ _).2.2.2 | exact (by with_reducible assumption : _ ∧ _ ∧ _ ∧ _ ∧ _).2.2.2.1 | exact (by with_reducible assumption : _ ∧ _ ∧ _ ∧ _ ∧ _).2.2.2.2 | exact (by with_reducible assumption : _ ∧ _ ∧ _ ∧ _ ∧ _ ∧ _).2.2.2.2.1 | exact (by with_reducible assumption : _ ∧ _ ∧ _ ∧ _ ∧ _ ∧ _).2.2.2.2.2 | exact (by with_reducible assumption : _ ∧ _ ∧ _ ∧ _ ∧ _ ∧ _ ∧ _).2.2.2.2.2.1 | exact (by with_reducible assumption : _ ∧ _ ∧ _ ∧ _ ∧ _ ∧ _ ∧ _).2.2.2.2.2.2 | exact (by with_reducible assumption : _ ∧ _ ∧ _ ∧ _ ∧ _ ∧ _ ∧ _ ∧ _).2.2.2.2.2.2.1 | exact (by with_reducible assumption : _ ∧ _ ∧ _ ∧ _ ∧ _ ∧ _ ∧ _ ∧ _).2.2.2.2.2.2.2 | exact (by with_reducible assumption : _ ∧ _ ∧ _ ∧ _ ∧ _ ∧ _ ∧ _ ∧ _ ∧ _).2.2.2.2.2.2.2.1 | exact (by with_reducible assumption : _ ∧ _ ∧ _ ∧ _ ∧ _ ∧ _ ∧ _ ∧ _ ∧ _).2.2.2.2.2.2.2.2 | exact (by with_reducible assumption : _ ∧ _ ∧ _ ∧ _ ∧ _ ∧ _ ∧ _ ∧ _ ∧ _ ∧ _).2.2.2.2.2.2.2.2.1 | exact (by with_reducible assumption : _ ∧ _ ∧ _ ∧ _ ∧ _ ∧ _ ∧ _ ∧ _ ∧ _ ∧ _).2.2.2.2.2.2.2.2.2 | exact (by with_reducible assumption : _ ∧ _ ∧ _ ∧ _ ∧ _ ∧ _ ∧ _ ∧ _ ∧ _ ∧ _ ∧ _).2.2.2.2.2.2.2.2.2.1 | exact (by with_reducible assumption : _ ∧ _ ∧ _ ∧ _ ∧ _ ∧ _ ∧ _ ∧ _ ∧ _ ∧ _ ∧ _).2.2.2.2.2.2.2.2.2.2 | exact (by with_reducible assumption : _ ∧ _ ∧ _ ∧ _ ∧ _ ∧ _ ∧ _ ∧ _ ∧ _ ∧ _ ∧ _ ∧ _).2.2.2.2.2.2.2.2.2.2.1 | exact (by with_reducible assumption : _ ∧ _ ∧ _ ∧ _ ∧ _ ∧ _ ∧ _ ∧ _ ∧ _ ∧ _ ∧ _ ∧ _).2.2.2.2.2.2.2.2.2.2.2 | exact (by with_reducible assumption : _ ∧ _ ∧ _ ∧ _ ∧ _ ∧ _ ∧ _ ∧ _ ∧ _ ∧ _ ∧ _ ∧ _ ∧ _).2.2.2.2.2.2.2.2.2.2.2.1 | exact (by with_reducible assumption : _ ∧ _ ∧ _ ∧ _ ∧ _ ∧ _ ∧ _ ∧ _ ∧ _ ∧ _ ∧ _ ∧ _ ∧ _).2.2.2.2.2.2.2.2.2.2.2.2))
  (k_with "ne" => ((refine neN ?_); (try dsimp only); first | (refine Nat.ne_of_lt ?_; k_extra "lt") | (refine Nat.ne_of_gt ?_; k_extra "lt") | omega))
  (k_with "all" => (first | assumption | exact all_nil | (refine' all_cons ?a9Z5 ?b9Z5; (case a9Z5 => k_extra "ne"); (case b9Z5 => k_extra "all"))))
  (k_with "ite" => (k_closed; k_dflt (first | (refine' @ite_pos _ _ _ _ ?h1Z6 ?_; (case h1Z6 => decide); k_whole) | (refine' @ite_neg _ _ _ _ ?h2Z6 ?_; (case h2Z6 => decide); k_whole))))
  (k_with "getAttr ref true" => (k_here; k_dflt (refine' get_own ?k1Z7 ?k2Z7 ?k3Z7 ?k4Z7 ?k5Z7 ?k6Z7 ?k7Z7 ?k8Z7 ?k9Z7 ?_; (case k1Z7 => k_asm); (case k2Z7 => k_asm); (case k3Z7 => k_inst); (case k4Z7 => k_is); (case k5Z7 => k_is); (case k6Z7 => k_is); (case k7Z7 => k_is); (case k8Z7 => k_get); (case k9Z7 => k_handed); k_whole)))
  (k_with "eval Name" => (k_here; name_kind "local"; k_dflt (refine' nameX_L ?FZ8 ?vZ8 ?_ ?aZ8 ?bZ8; (case FZ8 => k_asm); (case aZ8 => rfl); (case bZ8 => rfl); (case vZ8 => rfl); k_whole)))
  (k_with "eval Name" => (k_here; name_kind "globalImplicit"; k_dflt (first | (refine' nameX_K ?FZ9 ?XZ9 ?TZ9 ?eZ9 ?_ ?aZ9 ?bZ9; (case FZ9 => k_asm); (case XZ9 => k_asm); (case TZ9 => k_asm); (case aZ9 => rfl); (case bZ9 => rfl); (case eZ9 => k_is); k_whole) | (refine' nameX_B ?F9Z9 ?X9Z9 ?T9Z9 ?e9Z9 ?v9Z9 ?n9Z9 ?_ ?a9Z9 ?b9Z9; (case F9Z9 => k_asm); (case X9Z9 => k_asm); (case T9Z9 => k_asm); (case a9Z9 => rfl); (case b9Z9 => rfl); (case e9Z9 => k_is); (case v9Z9 => boot_fast); (case n9Z9 => decide); k_whole))))
  (k_with "callWith ref cons nil" => (k_here; k_dflt (first | (refine' callWith_K ?k1Z10 ?k2Z10 ?_; (case k1Z10 => k_asm); (case k2Z10 => k_is); k_whole) | (refine' callWith_K0 ?k3Z10 ?k4Z10 ?_; (case k3Z10 => first | with_reducible assumption | (refine' Frag.In.keeps ?x8Z10 (Fr.keep ?f8Z10); (case f8Z10 => with_reducible assumption); (case x8Z10 => with_reducible assumption)) | k_in); (case k4Z10 => k_is); k_whole) | (refine' callWith_M0 ?k5Z10 ?k6Z10 ?_; (case k5Z10 => k_meth); (case k6Z10 => k_is); k_whole; try dsimp only [List.nil_append, List.cons_append]))))
  (k_with "exec While Constant cons nil" => (k_here; k_dflt (refine whl_start 100 ?_)))
  (k_with "call builtin:list.append cons nil" => (k_here; (with_reducible show wpAny _ _ (call (Value.builtin _) [Value.ref _, _]) _ _ _); k_dflt (refine' append_K ?k1Z12 ?k2Z12 ?k3Z12 ?_ ?zZ12; (case k1Z12 => k_asm); (case k2Z12 => k_asm); (case k3Z12 => k_upd); (case zZ12 => first | size_fits | k_extra "size9"); k_whole); intro h' F' N'; (try k_sweep)))
  (k_with "compareOp In" => (k_here; (with_reducible show wpAny _ _ (compareOp CmpOp.In (Value.bytes _ _) (Value.ref _)) _ _ _); k_dflt (refine' md_in (md_at ?FZ93 ?DZ93) ?lZ93 (bk_is _ _ _ _) ?vZ93 ?_; (case FZ93 => k_asm); (case DZ93 => k_asm); (case lZ93 => k_asm); (case vZ93 => k_asm); k_whole)))
  (k_with "subscriptTail" => (k_here; (with_reducible show wpAny _ _ (subscriptTail _ _ (Value.ref _) (Value.bytes _ _)) _ _ _); k_dflt (refine' md_item (md_at ?FZ94 ?DZ94) (bk_is _ _ _ _) ?vZ94 ?_; (case FZ94 => k_asm); (case DZ94 => k_asm); (case vZ94 => k_asm); k_whole)))
  (k_with "getMethod ref" => (k_here; (with_reducible show wpAny _ _ (getMethod (Value.ref _) (Str.ofString "get") _) _ _ _); k_dflt (refine' md_getm (knd := bytesKind _ _) (md_at ?FZ95 ?DZ95) ?_; (case FZ95 => k_asm); (case DZ95 => k_asm); k_whole)))
  (k_with "call builtin:dict.get" => (k_here; k_dflt (first | ((with_reducible show wpAny _ _ (call (Value.builtin "dict.get") [Value.ref _, Value.bytes _ _]) _ _ _); refine' md_get1 (md_at ?FZ96 ?DZ96) ?lZ96 (bk_is _ _ _ _) ?vZ96 ?_; (case FZ96 => k_asm); (case DZ96 => k_asm); (case lZ96 => k_asm); (case vZ96 => k_asm); k_whole) | ((with_reducible show wpAny _ _ (call (Value.builtin "dict.get") [Value.ref _, Value.bytes _ _, _]) _ _ _); refine' md_get2 (md_at ?FZ96 ?DZ96) ?lZ96 (bk_is _ _ _ _) ?vZ96 ?_; (case FZ96 => k_asm); (case DZ96 => k_asm); (case lZ96 => k_asm); (case vZ96 => k_asm); k_whole)); (try dsimp only [Option.getD])))
  (k_with "compareOp Eq bytes none" => with_reducible refine eq_bytes_none ?_)
  trivial




structure TabsAt (w : World) (h : Heap) (tb : Addr) (r : Int) (Pb : Array UInt8) (S : Option (Array UInt8)) (W : Array UInt8) (F : Array UInt8 → Option (Addr × Value × Bool)) : Prop where
  ex : ∃ td mk lt c5 tP tS tr mkvs, h.get? tb = some (instObj 754 td) ∧ h.get? td = some (tbObj c5 mk lt (.bytes Pb tP) (optB S tS) (.int r tr)) ∧
    h.DictOf (bytesKind PySem.Challenge.rw_og0286_01.row.prog w) lt [] ∧ (lt == sysModules) = false ∧ h.DictOf (bytesKind PySem.Challenge.rw_og0286_01.row.prog w) mk mkvs ∧ (mk == sysModules) = false ∧
    ∀ T ∈ names4, ∃ rd kvs, valueAt mkvs T.toList = some (.ref rd) ∧ h.DictOf (bytesKind PySem.Challenge.rw_og0286_01.row.prog w) rd kvs ∧ (rd == sysModules) = false ∧ FindO h (fval kvs W.toList) (F T)
theorem TabsAt.keep {w h g tb r Pb S W F} (x : TabsAt w h tb r Pb S W F) (k : ∀ b o, h.get? b = some o → g.get? b = some o) : TabsAt w g tb r Pb S W F := by
  obtain ⟨td, mk, lt, c5, tP, tS, tr, mkvs, a, b, c, d, e, f, row⟩ := x.ex
  exact ⟨td, mk, lt, c5, tP, tS, tr, mkvs, k _ _ a, k _ _ b, c.keep k, d, e.keep k, f, fun T hT => by
    obtain ⟨rd, kvs, a, b, c, d⟩ := row T hT
    exact ⟨rd, kvs, a, b.keep k, c, d.keep k⟩⟩
theorem exp_g {w now tn c tbv M st sd} {T : Array UInt8} {tT : Tok} {U : Option Int} {tU : Tok} : ExpIs w (.bytes T tT) (optV U tU) now tn c tbv M st sd (fun t => .bytes (expT T U now) (0 + t)) (optV (expU U now) tU) := by
  cases U with
  | none => exact fun am hne N hoff hret => expire_none am hne N hoff fun h' tk' F N => hret h' tk' tT F (by simpa [expT, expU, optV] using N)
  | some u =>
    by_cases hu : u ≤ now
    · have e1 : expT T (some u) now = rootB := by simp [expT, hu]
      have e2 : expU (some u) now = none := by simp [expU, hu]
      rw [e1, e2]
      exact fun am hne N hoff hret => expire_due am hne N hoff hu fun h' tk' t F N => hret h' tk' t F (by simpa [optV] using N)
    · have e1 : expT T (some u) now = T := by simp [expT, hu]
      have e2 : expU (some u) now = some u := by simp [expU, hu]
      rw [e1, e2]
      exact fun am hne N hoff hret => expire_live am hne N hoff (by omega) fun h' tk' F N => hret h' tk' tT F (by simpa [optV] using N)


theorem reg_27 : True := by
  (k_with "WhlPost" => (refine whlpost_ret ?_))
  (k_with "call ref" => (k_here; (with_reducible show wpAny _ _ (call (Value.ref 779) _ _) _ _ _); k_dflt (refine' reset_l ?amZ99 ?neZ99 ?NZ99 ?offZ99 ?_; (case amZ99 => (refine' Amb.mk ?aBZ99 ?aFZ99 ?aXZ99 ?aTZ99 ?akZ99 ?adZ99 ?auZ99; (case aBZ99 => k_asm); (case aFZ99 => k_asm); (case aXZ99 => k_asm); (case aTZ99 => k_asm); (case akZ99 => first | exact rfl | assumption); (case adZ99 => ktr_room); (case auZ99 => ktr_units))); (case NZ99 => k_asm); (case neZ99 => k_asm); (case offZ99 => ((repeat (refine List.forall_mem_cons.mpr ⟨?_, ?_⟩; (first | with_reducible assumption | k_ne))); k_asm)); k_whole; intro h9 tk9 t9 F9 N9; (try dsimp only); (try k_fold))))
  (k_with "call ref" => (k_here; (with_reducible show wpAny _ _ (call (Value.ref 786) _ _) _ _ _); k_dflt (refine' switch_l ?amZ100 ?neZ100 ?NZ100 ?offZ100 ?_; (case amZ100 => (refine' Amb.mk ?aBZ100 ?aFZ100 ?aXZ100 ?aTZ100 ?akZ100 ?adZ100 ?auZ100; (case aBZ100 => k_asm); (case aFZ100 => k_asm); (case aXZ100 => k_asm); (case aTZ100 => k_asm); (case akZ100 => first | exact rfl | assumption); (case adZ100 => ktr_room); (case auZ100 => ktr_units))); (case NZ100 => k_asm); (case neZ100 => k_asm); (case offZ100 => ((repeat (refine List.forall_mem_cons.mpr ⟨?_, ?_⟩; (first | with_reducible assumption | k_ne))); k_asm)); k_whole; intro h9 tk9 F9 N9; (try dsimp only); (try k_fold))))
  (k_with "call ref" => (k_here; (with_reducible show wpAny _ _ (call (Value.ref 814) _ _) _ _ _); k_dflt (first | (refine' here_none ?amZ101 ?neZ101 ?NZ101 ?offZ101 ?_; (case NZ101 => k_asm); (case amZ101 => (refine' Amb.mk ?aBZ101 ?aFZ101 ?aXZ101 ?aTZ101 ?akZ101 ?adZ101 ?auZ101; (case aBZ101 => k_asm); (case aFZ101 => k_asm); (case aXZ101 => k_asm); (case aTZ101 => k_asm); (case akZ101 => first | exact rfl | assumption); (case adZ101 => ktr_room); (case auZ101 => ktr_units))); (case neZ101 => k_asm); (case offZ101 => ((repeat (refine List.forall_mem_cons.mpr ⟨?_, ?_⟩; (first | with_reducible assumption | k_ne))); k_asm)); k_whole; intro h9 tk9 F9 N9; (try dsimp only); (try k_fold)) | (refine' here_root ?amZ101 ?neZ101 ?NZ101 ?offZ101 ?_; (case NZ101 => k_asm); (case amZ101 => (refine' Amb.mk ?aBZ101 ?aFZ101 ?aXZ101 ?aTZ101 ?akZ101 ?adZ101 ?auZ101; (case aBZ101 => k_asm); (case aFZ101 => k_asm); (case aXZ101 => k_asm); (case aTZ101 => k_asm); (case akZ101 => first | exact rfl | assumption); (case adZ101 => ktr_room); (case auZ101 => ktr_units))); (case neZ101 => k_asm); (case offZ101 => ((repeat (refine List.forall_mem_cons.mpr ⟨?_, ?_⟩; (first | with_reducible assumption | k_ne))); k_asm)); k_whole; intro h9 tk9 F9 N9; (try dsimp only); (try k_fold)) | (refine' here_else ?amZ101 ?neZ101 ?NZ101 ?offZ101 ?hTZ101 ?_; (case NZ101 => k_asm); (case hTZ101 => exact rfl); (case amZ101 => (refine' Amb.mk ?aBZ101 ?aFZ101 ?aXZ101 ?aTZ101 ?akZ101 ?adZ101 ?auZ101; (case aBZ101 => k_asm); (case aFZ101 => k_asm); (case aXZ101 => k_asm); (case aTZ101 => k_asm); (case akZ101 => first | exact rfl | assumption); (case adZ101 => ktr_room); (case auZ101 => ktr_units))); (case neZ101 => k_asm); (case offZ101 => ((repeat (refine List.forall_mem_cons.mpr ⟨?_, ?_⟩; (first | with_reducible assumption | k_ne))); k_asm)); k_whole; intro h9 tk9 F9 N9; (try dsimp only); (try k_fold)))))
  (k_with "call ref" => (k_here; (with_reducible show wpAny _ _ (call (Value.ref 807) _ _) _ _ _); k_dflt ((rename ExpIs _ _ _ _ _ _ _ _ _ _ _ _ => hEX9); refine' exp_use hEX9 ?amZ102 ?neZ102 ?NZ102 ?offZ102 ?_; (case amZ102 => (refine' Amb.mk ?aBZ102 ?aFZ102 ?aXZ102 ?aTZ102 ?akZ102 ?adZ102 ?auZ102; (case aBZ102 => k_asm); (case aFZ102 => k_asm); (case aXZ102 => k_asm); (case aTZ102 => k_asm); (case akZ102 => first | exact rfl | assumption); (case adZ102 => ktr_room); (case auZ102 => ktr_units))); (case NZ102 => k_asm); (case neZ102 => k_asm); (case offZ102 => ((repeat (refine List.forall_mem_cons.mpr ⟨?_, ?_⟩; (first | with_reducible assumption | k_ne))); k_asm)); k_whole; intro h9 tk9 t9 F9 N9; (try dsimp only); (try k_fold))))
  (k_with "call ref" => (k_here; (with_reducible show wpAny _ _ (call (Value.ref 328) _ _) _ _ _); k_dflt ((rename KeyWordIs _ _ _ _ => hKW9); refine' kw_use hKW9 ?amZ103 ?NZ103 ?needZ103 ?_; (case amZ103 => (refine' Amb.mk ?aBZ103 ?aFZ103 ?aXZ103 ?aTZ103 ?akZ103 ?adZ103 ?auZ103; (case aBZ103 => k_asm); (case aFZ103 => k_asm); (case aXZ103 => k_asm); (case aTZ103 => k_asm); (case akZ103 => first | exact rfl | assumption); (case adZ103 => ktr_room); (case auZ103 => ktr_units))); (case NZ103 => k_asm); (case needZ103 => ((repeat (refine sub_cons ?_ ?_; k_mem)); (first | exact List.forall_mem_nil _ | ((repeat (first | exact fun p hp => hp | refine sub_skip ?_)))))); k_whole; intro h9 tk9 t9 F9 N9; (try dsimp only); (try k_fold))))
  (k_with "call ref" => (k_here; (with_reducible show wpAny _ _ (call (Value.ref 718) _ _) _ _ _); k_dflt (refine' is_prefix_g ?amZ104 ?NZ104 ?b1Z104 ?b2Z104 ?hPZ104 ?_; (case amZ104 => (refine' Amb.mk ?aBZ104 ?aFZ104 ?aXZ104 ?aTZ104 ?akZ104 ?adZ104 ?auZ104; (case aBZ104 => k_asm); (case aFZ104 => k_asm); (case aXZ104 => k_asm); (case aTZ104 => k_asm); (case akZ104 => first | exact rfl | assumption); (case adZ104 => ktr_room); (case auZ104 => ktr_units))); (case NZ104 => k_asm); (case b1Z104 => k_asm); (case b2Z104 => k_asm); (case hPZ104 => k_asm); k_whole; intro h9 tk9 F9 N9; (try dsimp only); (try k_fold))))
  (k_with "call ref" => (k_here; (with_reducible show wpAny _ _ (call (Value.ref 835) _ _) _ _ _); k_dflt (refine' passed_g ?amZ105 ?neZ105 ?NZ105 ?offZ105 ?b1Z105 ?b2Z105 ?b3Z105 ?b4Z105 ?_; (case amZ105 => (refine' Amb.mk ?aBZ105 ?aFZ105 ?aXZ105 ?aTZ105 ?akZ105 ?adZ105 ?auZ105; (case aBZ105 => k_asm); (case aFZ105 => k_asm); (case aXZ105 => k_asm); (case aTZ105 => k_asm); (case akZ105 => first | exact rfl | assumption); (case adZ105 => ktr_room); (case auZ105 => ktr_units))); (case NZ105 => k_asm); (case neZ105 => k_asm); (case offZ105 => ((repeat (refine List.forall_mem_cons.mpr ⟨?_, ?_⟩; (first | with_reducible assumption | k_ne))); k_asm)); (case b1Z105 => k_asm); (case b2Z105 => k_asm); (case b3Z105 => k_asm); (case b4Z105 => k_asm); k_whole; intro h9 tk9 t9 u9 F9 N9; (try dsimp only); (try k_fold))))
  (k_with "call ref" => (k_here; (with_reducible show wpAny _ _ (call (Value.ref 725) _ _) _ _ _); k_dflt (refine' find_c ?amZ106 ?NZ106 ?b1Z106 ?b2Z106 ?d1Z106 ?l1Z106 ?d2Z106 ?l2Z106 ?d3Z106 ?l3Z106 ?v1Z106 ?HZ106 ?_ ?_; (case amZ106 => (refine' Amb.mk ?aBZ106 ?aFZ106 ?aXZ106 ?aTZ106 ?akZ106 ?adZ106 ?auZ106; (case aBZ106 => k_asm); (case aFZ106 => k_asm); (case aXZ106 => k_asm); (case aTZ106 => k_asm); (case akZ106 => first | exact rfl | assumption); (case adZ106 => ktr_room); (case auZ106 => ktr_units))); (case NZ106 => k_asm); (case b1Z106 => k_asm); (case b2Z106 => k_asm); (case d1Z106 => k_asm); (case l1Z106 => k_asm); (case d2Z106 => k_asm); (case l2Z106 => k_asm); (case v1Z106 => k_asm); (case d3Z106 => k_asm); (case l3Z106 => k_asm); (case HZ106 => k_asm); (all_goals (first | (intro b9 told9 rep9 bd9 cb9 key9 note9 hf9 hb9 hc9 h9 tk9 F9 N9) | (intro hf9 h9 tk9 F9 N9))); (all_goals (try dsimp only)); (all_goals (try k_fold)))))
  trivial


theorem one_rel {w mean mg mb dp un gd cn cs a ccd cl outer A₀ base h₀ L m} {s : Shared} {Q E : Value → Shared → Prop} {st sd k kd : Addr} {c ck : Hd} {tbv T0 U0 Mv U nm code held : Value} {T : Array UInt8} {tT te tn tW : Tok} {now : Int} {W : Array UInt8} {rest : List (Addr × Obj)}
  (am : Amb 15 120 w mean mg mb dp un cs outer A₀ base h₀ L m s.heap) (hne : st ≠ sd) (hk1 : k ≠ sd) (hk2 : kd ≠ sd) (N : News h₀ L s.heap ((st, instObj 838 sd) :: (sd, stObj c tbv T0 Mv U0) :: (k, instObj 257 kd) :: (kd, keyObj ck nm code held (.int 3 te)) :: rest)) (hoff : ∀ p ∈ rest, p.1 ≠ sd)
  (hEX : ExpIs w T0 U0 now tn c tbv Mv st sd (fun t => .bytes T (tT + t)) U)
  (hret : ∀ h' tk' r' n t, Fr h₀ L h' m → News h₀ L h' ((r', listOf #[] n) :: (st, instObj 838 sd) :: (sd, stObj c tbv (.bytes T t) Mv U) :: (k, instObj 257 kd) :: (kd, keyObj ck nm code held (.int 3 te)) :: rest) → AllLt r' ((st, instObj 838 sd) :: (sd, stObj c tbv T0 Mv U0) :: (k, instObj 257 kd) :: (kd, keyObj ck nm code held (.int 3 te)) :: rest) → Q (.ref r') { s with heap := h', toks := tk' }) :
  wpAny (model PySem.Challenge.rw_og0286_01.row.prog w) (ktrTop dp un gd cn cs L a ccd cl outer) (call (.ref 828) [.ref st, .ref k, .int now tn]) Q E s := by
  obtain ⟨B, F, X, T, hk, hd, hu⟩ := am
  revert X; k_fill; intro X
  refine wpAny_call ?_
  k_dflt cell_enter
  repeat' (first | (k_unfold; (try dsimp only)) | (k_end; wrow_close) | (walk1 <;> (try dsimp only)) | (leave1; walk_say "STEP leave1"; try dsimp only) | fail "no step")
  all_goals (first | exact hret _ _ _ _ _ (by with_reducible assumption) (news_app (a := [_]) (cb_drop (by with_reducible assumption) (by ((repeat (refine sub_cons ?_ ?_; k_mem)); (first | exact List.forall_mem_nil _ | ((repeat (first | exact fun p hp => hp | refine sub_skip ?_))))))) (cb_drop (by with_reducible assumption) (by ((repeat (refine sub_cons ?_ ?_; k_mem)); (first | exact List.forall_mem_nil _ | ((repeat (first | exact fun p hp => hp | refine sub_skip ?_)))))))) (by (simp only [AllLt]); first | with_reducible assumption | with_reducible exact And.right (by with_reducible assumption) | with_reducible exact And.right (And.right (by with_reducible assumption))) | w_report)

theorem one_oct {w mean mg mb dp un gd cn cs a ccd cl outer A₀ base h₀ L m} {s : Shared} {Q E : Value → Shared → Prop} {st sd k kd : Addr} {c ck : Hd} {tbv T0 U0 Mv U nm code held : Value} {T : Array UInt8} {tT te tn tW : Tok} {now : Int} {W : Array UInt8} {rest : List (Addr × Obj)}
  (am : Amb 15 120 w mean mg mb dp un cs outer A₀ base h₀ L m s.heap) (hne : st ≠ sd) (N : News h₀ L s.heap ((st, instObj 838 sd) :: (sd, stObj c tbv T0 Mv U0) :: rest)) (hoff : ∀ p ∈ rest, p.1 ≠ sd)
  (hEX : ExpIs w T0 U0 now tn c tbv Mv st sd (fun t => .bytes T (tT + t)) U)
  (hret : ∀ h' tk' r' own t, ResIs (.bytes W tW) .send r' own → Fr h₀ L h' m → News h₀ L h' (own ++ ((st, instObj 838 sd) :: (sd, stObj c tbv (.bytes rootB t) Mv .none) :: rest)) → (∀ q ∈ own, AllLt q.1 ((st, instObj 838 sd) :: (sd, stObj c tbv T0 Mv U0) :: rest)) → Q (.ref r') { s with heap := h', toks := tk' }) :
  wpAny (model PySem.Challenge.rw_og0286_01.row.prog w) (ktrTop dp un gd cn cs L a ccd cl outer) (call (.ref 828) [.ref st, .bytes W tW, .int now tn]) Q E s := by
  obtain ⟨B, F, X, T, hk, hd, hu⟩ := am
  revert X; k_fill; intro X
  refine wpAny_call ?_
  k_dflt cell_enter
  repeat' (first | (k_unfold; (try dsimp only)) | (k_end; wrow_close) | (walk1 <;> (try dsimp only)) | (leave1; walk_say "STEP leave1"; try dsimp only) | fail "no step")
  all_goals (first | exact hret _ _ _ _ _ ResIs.send (by with_reducible assumption) (news_app (cb_drop (by with_reducible assumption) (by ((repeat (refine sub_cons ?_ ?_; k_mem)); (first | exact List.forall_mem_nil _ | ((repeat (first | exact fun p hp => hp | refine sub_skip ?_))))))) (cb_drop (by with_reducible assumption) (by ((repeat (refine sub_cons ?_ ?_; k_mem)); (first | exact List.forall_mem_nil _ | ((repeat (first | exact fun p hp => hp | refine sub_skip ?_)))))))) (all2 (by (simp only [AllLt]); first | with_reducible assumption | with_reducible exact And.right (by with_reducible assumption) | with_reducible exact And.right (And.right (by with_reducible assumption))) (by (simp only [AllLt]); first | with_reducible assumption | with_reducible exact And.right (by with_reducible assumption) | with_reducible exact And.right (And.right (by with_reducible assumption)))) | w_report)

theorem one_g {w mean mg mb dp un gd cn cs a ccd cl outer A₀ base h₀ L m} {s : Shared} {Q E : Value → Shared → Prop} {st sd k kd tb : Addr} {c ck : Hd} {Pb W : Array UInt8} {S : Option (Array UInt8)} {r : Int} {nm code held : Value} {tT tM tU te tn : Tok} {now : Int} {P : Bool} {F : Array UInt8 → Option (Addr × Value × Bool)} {T : Array UInt8} {U : Option Int} {M : Option (Array UInt8)} {rest : List (Addr × Obj)}
  (am : Amb 15 120 w mean mg mb dp un cs outer A₀ base h₀ L m s.heap) (hne : st ≠ sd) (hk1 : k ≠ sd) (hk2 : kd ≠ sd) (N : News h₀ L s.heap ((st, instObj 838 sd) :: (sd, stObj c (.ref tb) (.bytes T tT) (optB M tM) (optV U tU)) :: (k, instObj 257 kd) :: (kd, keyObj ck nm code held (.int 1 te)) :: rest)) (hoff : ∀ p ∈ rest, p.1 ≠ sd)
  (wf : Wf T U M) (hKW : KeyWordIs w k [(k, instObj 257 kd), (kd, keyObj ck nm code held (.int 1 te))] W) (hP : prefP Pb S W = P) (O : TabsAt w h₀ tb r Pb S W F)
  (hret : ∀ h' tk' r' own T' U' t1 t2 res, stepOne P (F (hereT (expT T U now) M)) (F rootB) r (expT T U now) M (expU U now) now = (T', U', res) → ResIs (.ref k) res r' own → Fr h₀ L h' m →
    News h₀ L h' (own ++ ((st, instObj 838 sd) :: (sd, stObj c (.ref tb) (.bytes T' t1) (optB M tM) (optV U' t2)) :: (k, instObj 257 kd) :: (kd, keyObj ck nm code held (.int 1 te)) :: rest)) → (∀ q ∈ own, AllLt q.1 ((st, instObj 838 sd) :: (sd, stObj c (.ref tb) (.bytes T tT) (optB M tM) (optV U tU)) :: (k, instObj 257 kd) :: (kd, keyObj ck nm code held (.int 1 te)) :: rest)) → Q (.ref r') { s with heap := h', toks := tk' }) :
  wpAny (model PySem.Challenge.rw_og0286_01.row.prog w) (ktrTop dp un gd cn cs L a ccd cl outer) (call (.ref 828) [.ref st, .ref k, .int now tn]) Q E s := by
  obtain ⟨td, mk, lt, c5, tP, tS, tr, mkvs, b1, b2, d1, l1, d2, l2, row⟩ := O.ex
  obtain ⟨rdr, kvr, vr, dr, lr, Hr⟩ := row rootB (by simp [names4])
  have hEX : ExpIs w (.bytes T tT) (optV U tU) now tn c (.ref tb) (optB M tM) st sd (fun t => .bytes (expT T U now) (0 + t)) (optV (expU U now) tU) := exp_g
  have wf' : Wf (expT T U now) (expU U now) M := wf.exp
  generalize expT T U now = T1 at hEX wf' hret
  generalize expU U now = U1 at hEX wf' hret
  generalize (.bytes T tT : Value) = T0 at hEX N hret
  generalize optV U tU = U0 at hEX N hret
  rcases wf'.t with e | e | e
  · subst e
    have hU : U1 = none := by
      cases hu : U1 with
      | none => rfl
      | some u => exact absurd (wf'.u (by rw [hu]; rfl)) (by decide)
    subst hU
    rcases wf'.m with e | e
    · subst e
      exact one_root (Mv := .none) (tM := 0) (tu := 0) (u := 0) (f0 := none) (rd4 := rdr) (kvs4 := kvr) am hne hk1 hk2 N hoff hEX hKW b1 b2 hP d1 l1 d2 l2 dr lr vr Hr fun h' tk' r' own T' U' t1 t2 res a b c d e => hret h' tk' r' own T' U' t1 t2 res e a b c d
    · subst e
      obtain ⟨rd3, kv3, v3, d3, l3, H3⟩ := row copyB (by simp [names4])
      exact one_mode (Mv := .none) (tu := 0) (u := 0) am hne hk1 hk2 N hoff hEX hKW b1 b2 hP d1 l1 d2 l2 d3 l3 v3 H3 dr lr vr Hr fun h' tk' r' own T' U' t1 t2 res a b c d e => hret h' tk' r' own T' U' t1 t2 res e a b c d
  · subst e
    obtain ⟨rd3, kv3, v3, d3, l3, H3⟩ := row prefB (by simp [names4])
    have st' : ∀ M' : Option (Array UInt8), hereT prefB M' = prefB := fun _ => rfl
    have sm : ∀ f1 f0 (U : Option Int), stepOne P f1 f0 r prefB none U now = stepOne P f1 f0 r prefB M U now := fun _ _ _ => rfl
    rw [st'] at hret
    simp only [← sm] at hret
    cases U1 with
    | none => exact one_pref (tM := 0) (tu := 0) (u := 0) am hne hk1 hk2 N hoff hEX hKW b1 b2 hP d1 l1 d2 l2 d3 l3 v3 H3 dr lr vr Hr fun h' tk' r' own T' U' t1 t2 res a b c d e => hret h' tk' r' own T' U' t1 t2 res e a b c d
    | some u => exact one_live (tM := 0) am hne hk1 hk2 N hoff hEX hKW b1 b2 hP d1 l1 d2 l2 d3 l3 v3 H3 dr lr vr Hr fun h' tk' r' own T' U' t1 t2 res a b c d e => hret h' tk' r' own T' U' t1 t2 res e a b c d
  · subst e
    have hU : U1 = none := by
      cases hu : U1 with
      | none => rfl
      | some u => exact absurd (wf'.u (by rw [hu]; rfl)) (by decide)
    subst hU
    obtain ⟨rd3, kv3, v3, d3, l3, H3⟩ := row ownB (by simp [names4])
    have st' : ∀ M' : Option (Array UInt8), hereT ownB M' = ownB := fun _ => rfl
    have sm : ∀ f1 f0, stepOne P f1 f0 r ownB none none now = stepOne P f1 f0 r ownB M none now := fun _ _ => rfl
    rw [st'] at hret
    simp only [← sm] at hret
    exact one_own (tM := 0) (tu := 0) (u := 0) am hne hk1 hk2 N hoff hEX hKW b1 b2 hP d1 l1 d2 l2 d3 l3 v3 H3 dr lr vr Hr fun h' tk' r' own T' U' t1 t2 res a b c d e => hret h' tk' r' own T' U' t1 t2 res e a b c d
end
section
local macro_rules | `(tactic| k_room) => `(tactic| ktr_room)
local macro_rules | `(tactic| k_all) => `(tactic| assumption)
local macro_rules | `(tactic| k_inst) => `(tactic| (refine' inst_base ?iF ?ih1 ?ih2; (case iF => k_asm); (case ih1 => k_asm); (case ih2 => k_asm)))

theorem reg_28 : True := by
  k_with_none
  (k_with "room" => ((with_reducible rename _ + _ < recursionLimit => hR9); first | exact room_k 4 hR9 | exact room_k 37 hR9 | exact room_k 9 hR9 | exact room_k 5 hR9 | exact room_k 14 hR9 | exact room_k 10 hR9 | exact room_k 19 hR9 | exact room_k 15 hR9 | exact room_k 20 hR9 | exact room_k 25 hR9 | exact room_k 35 hR9 | exact room_k 13 hR9 | exact room_k 1 hR9 | exact room_k 38 hR9 | exact room_k 23 hR9 | exact room_k 24 hR9 | exact room_k 29 hR9 | exact room_k 8 hR9 | exact room_k 40 hR9 | exact room_k 39 hR9 | exact room_k 44 hR9 | exact room_k 17 hR9 | exact room_k 21 hR9 | exact room_k 30 hR9 | exact room_k 33 hR9 | exact room_k 16 hR9 | exact room_k 2 hR9 | exact room_k 43 hR9 | exact room_k 7 hR9 | exact room_k 45 hR9 | exact room_k 0 hR9 | exact room_k 3 hR9 | exact room_k 6 hR9 | exact room_k 11 hR9 | exact room_k 12 hR9 | exact room_k 18 hR9 | exact room_k 22 hR9 | exact room_k 26 hR9 | exact room_k 27 hR9 | exact room_k 28 hR9 | exact room_k 31 hR9 | exact room_k 32 hR9 | exact room_k 34 hR9 | exact room_k 36 hR9 | exact room_k 41 hR9 | exact room_k 42 hR9))
  (k_with "units" => ((with_reducible rename _ + _ < cLine => hR9); first | exact room_k 37 hR9 | exact room_k 77 hR9 | exact room_k 117 hR9 | exact room_k 157 hR9 | exact room_k 237 hR9 | exact room_k 197 hR9 | exact room_k 151 hR9 | exact room_k 133 hR9 | exact room_k 277 hR9 | exact room_k 317 hR9 | exact room_k 357 hR9 | exact room_k 4 hR9 | exact room_k 9 hR9 | exact room_k 5 hR9 | exact room_k 14 hR9 | exact room_k 10 hR9 | exact room_k 19 hR9 | exact room_k 15 hR9 | exact room_k 20 hR9 | exact room_k 25 hR9 | exact room_k 35 hR9 | exact room_k 13 hR9 | exact room_k 1 hR9 | exact room_k 38 hR9 | exact room_k 23 hR9 | exact room_k 24 hR9 | exact room_k 29 hR9 | exact room_k 8 hR9 | exact room_k 40 hR9 | exact room_k 39 hR9 | exact room_k 44 hR9 | exact room_k 17 hR9 | exact room_k 21 hR9 | exact room_k 30 hR9 | exact room_k 33 hR9 | exact room_k 16 hR9 | exact room_k 2 hR9 | exact room_k 43 hR9 | exact room_k 7 hR9 | exact room_k 45 hR9))
  (k_with "lt" => (first | with_reducible assumption | exact (by with_reducible assumption : _ ∧ _).1 | exact (by with_reducible assumption : _ ∧ _).2 | exact (by with_reducible assumption : _ ∧ _ ∧ _).2.1 | exact (by with_reducible assumption : _ ∧ _ ∧ _).2.2 | exact (by with_reducible assumption : _ ∧ _ ∧ _ ∧ _).2.2.1 | exact (by with_reducible assumption : _ ∧ _ ∧ _ ∧ _).2.2.2 | exact (by with_reducible assumption : _ ∧ _ ∧ _ ∧ _ ∧ _).2.2.2.1 | exact (by with_reducible assumption : _ ∧ _ ∧ _ ∧ _ ∧ _).2.2.2.2 | exact (by with_reducible assumption : _ ∧ _ ∧ _ ∧ _ ∧ _ ∧ _).2.2.2.2.1 | exact (by with_reducible assumption : _ ∧ _ ∧ _ ∧ _ ∧ _ ∧ _).2.2.2.2.2 | exact (by with_reducible assumption : _ ∧ _ ∧ _ ∧ _ ∧ _ ∧ _ ∧ _).2.2.2.2.2.1 | exact (by with_reducible assumption : _ ∧ _ ∧ _ ∧ _ ∧ _ ∧ _ ∧ _).2.2.2.2.2.2 | exact (by with_reducible assumption : _ ∧ _ ∧ _ ∧ _ ∧ _ ∧ _ ∧ _ ∧ _).2.2.2.2.2.2.1 | exact (by with_reducible assumption : _ ∧ _ ∧ _ ∧ _ ∧ _ ∧ _ ∧ _ ∧ _).2.2.2.2.2.2.2 | exact (by with_reducible assumption : _ ∧ _ ∧ _ ∧ _ ∧ _ ∧ _ ∧ _ ∧ _ ∧ _).2.2.2.2.2.2.2.1 | exact (by with_reducible assumption : _ ∧ _ ∧ _ ∧ _ ∧ _ ∧ _ ∧ _ ∧ _ ∧ _).2.2.2.2.2.2.2.2 | exact (by with_reducible assumption : _ ∧ _ ∧ _ ∧ _ ∧ _ ∧ _ ∧ _ ∧ _ ∧ _ ∧ _).2.2.2.2.2.2.2.2.1 | exact (by with_reducible assumption : _ ∧ _ ∧ _ ∧ _ ∧ _ ∧ _ ∧ _ ∧ _ ∧ _ ∧ _).2.2.2.2.2.2.2.2.2 | exact (by with_reducible assumption : _ ∧ _ ∧ _ ∧ _ ∧ _ ∧ _ ∧ _ ∧ _ ∧ _ ∧ _ ∧ _).2.2.2.2.2.2.2.2.2.1 | exact (by with_reducible assumption : _ ∧ _ ∧ _ ∧ _ ∧ _ ∧ _ ∧ _ ∧ _ ∧ _ ∧ _ ∧ _).2.2.2.2.2.2.2.2.2.2 | exact (by with_reducible assumption : _ ∧ _ ∧ _ ∧ _ ∧ _ ∧ _ ∧ _ ∧ _ ∧ _ ∧ _ ∧ _ ∧ _).2.2.2.2.2.2.2.2.2.2.1 | exact (by with_reducible assumption : _ ∧ _ ∧ _ ∧ _ ∧ _ ∧ _ ∧ _ ∧ _ ∧ _ ∧ _ ∧ _ ∧ _).2.2.2.2.2.2.2.2.2.2.2 | exact (by with_reducible assumption : _ ∧ _ ∧ _ ∧ _ ∧ _ ∧ _ ∧ _ ∧ _ ∧ _ ∧ _ ∧ _ ∧ _ ∧ _).2.2.2.2.2.2.2.2.2.2.2.1 | exact (by with_reducible assumption : _ ∧ _ ∧ _ ∧ _ ∧ _ ∧ _ ∧ _ ∧ _ ∧ _ ∧ _ ∧ _ ∧ _ ∧ _).2.2.2.2.2.2.2.2.2.2.2.2))
  (k_with "ne" => ((refine neN ?_); (try dsimp only); first | (refine Nat.ne_of_lt ?_; k_extra "lt") | (refine Nat.ne_of_gt ?_; k_extra "lt") | omega))
  (k_with "all" => (first | assumption | exact all_nil | (refine' all_cons ?a9Z5 ?b9Z5; (case a9Z5 => k_extra "ne"); (case b9Z5 => k_extra "all"))))
  (k_with "ite" => (k_closed; k_dflt (first | (refine' @ite_pos _ _ _ _ ?h1Z6 ?_; (case h1Z6 => decide); k_whole) | (refine' @ite_neg _ _ _ _ ?h2Z6 ?_; (case h2Z6 => decide); k_whole))))
  (k_with "getAttr ref true" => (k_here; k_dflt (refine' get_own ?k1Z7 ?k2Z7 ?k3Z7 ?k4Z7 ?k5Z7 ?k6Z7 ?k7Z7 ?k8Z7 ?k9Z7 ?_; (case k1Z7 => k_asm); (case k2Z7 => k_asm); (case k3Z7 => k_inst); (case k4Z7 => k_is); (case k5Z7 => k_is); (case k6Z7 => k_is); (case k7Z7 => k_is); (case k8Z7 => k_get); (case k9Z7 => k_handed); k_whole)))
  (k_with "eval Name" => (k_here; name_kind "local"; k_dflt (refine' nameX_L ?FZ8 ?vZ8 ?_ ?aZ8 ?bZ8; (case FZ8 => k_asm); (case aZ8 => rfl); (case bZ8 => rfl); (case vZ8 => rfl); k_whole)))
  (k_with "eval Name" => (k_here; name_kind "globalImplicit"; k_dflt (first | (refine' nameX_K ?FZ9 ?XZ9 ?TZ9 ?eZ9 ?_ ?aZ9 ?bZ9; (case FZ9 => k_asm); (case XZ9 => k_asm); (case TZ9 => k_asm); (case aZ9 => rfl); (case bZ9 => rfl); (case eZ9 => k_is); k_whole) | (refine' nameX_B ?F9Z9 ?X9Z9 ?T9Z9 ?e9Z9 ?v9Z9 ?n9Z9 ?_ ?a9Z9 ?b9Z9; (case F9Z9 => k_asm); (case X9Z9 => k_asm); (case T9Z9 => k_asm); (case a9Z9 => rfl); (case b9Z9 => rfl); (case e9Z9 => k_is); (case v9Z9 => boot_fast); (case n9Z9 => decide); k_whole))))
  (k_with "callWith ref cons nil" => (k_here; k_dflt (first | (refine' callWith_K ?k1Z10 ?k2Z10 ?_; (case k1Z10 => k_asm); (case k2Z10 => k_is); k_whole) | (refine' callWith_K0 ?k3Z10 ?k4Z10 ?_; (case k3Z10 => first | with_reducible assumption | (refine' Frag.In.keeps ?x8Z10 (Fr.keep ?f8Z10); (case f8Z10 => with_reducible assumption); (case x8Z10 => with_reducible assumption)) | k_in); (case k4Z10 => k_is); k_whole) | (refine' callWith_M0 ?k5Z10 ?k6Z10 ?_; (case k5Z10 => k_meth); (case k6Z10 => k_is); k_whole; try dsimp only [List.nil_append, List.cons_append]))))
  (k_with "exec While Constant cons nil" => (k_here; k_dflt (refine whl_start 100 ?_)))
  (k_with "call builtin:list.append cons nil" => (k_here; (with_reducible show wpAny _ _ (call (Value.builtin _) [Value.ref _, _]) _ _ _); k_dflt (refine' append_K ?k1Z12 ?k2Z12 ?k3Z12 ?_ ?zZ12; (case k1Z12 => k_asm); (case k2Z12 => k_asm); (case k3Z12 => k_upd); (case zZ12 => first | size_fits | k_extra "size9"); k_whole); intro h' F' N'; (try k_sweep)))
  (k_with "compareOp In" => (k_here; (with_reducible show wpAny _ _ (compareOp CmpOp.In (Value.bytes _ _) (Value.ref _)) _ _ _); k_dflt (refine' md_in (md_at ?FZ107 ?DZ107) ?lZ107 (bk_is _ _ _ _) ?vZ107 ?_; (case FZ107 => k_asm); (case DZ107 => k_asm); (case lZ107 => k_asm); (case vZ107 => k_asm); k_whole)))
  (k_with "subscriptTail" => (k_here; (with_reducible show wpAny _ _ (subscriptTail _ _ (Value.ref _) (Value.bytes _ _)) _ _ _); k_dflt (refine' md_item (md_at ?FZ108 ?DZ108) (bk_is _ _ _ _) ?vZ108 ?_; (case FZ108 => k_asm); (case DZ108 => k_asm); (case vZ108 => k_asm); k_whole)))
  (k_with "getMethod ref" => (k_here; (with_reducible show wpAny _ _ (getMethod (Value.ref _) (Str.ofString "get") _) _ _ _); k_dflt (refine' md_getm (knd := bytesKind _ _) (md_at ?FZ109 ?DZ109) ?_; (case FZ109 => k_asm); (case DZ109 => k_asm); k_whole)))
  (k_with "call builtin:dict.get" => (k_here; k_dflt (first | ((with_reducible show wpAny _ _ (call (Value.builtin "dict.get") [Value.ref _, Value.bytes _ _]) _ _ _); refine' md_get1 (md_at ?FZ110 ?DZ110) ?lZ110 (bk_is _ _ _ _) ?vZ110 ?_; (case FZ110 => k_asm); (case DZ110 => k_asm); (case lZ110 => k_asm); (case vZ110 => k_asm); k_whole) | ((with_reducible show wpAny _ _ (call (Value.builtin "dict.get") [Value.ref _, Value.bytes _ _, _]) _ _ _); refine' md_get2 (md_at ?FZ110 ?DZ110) ?lZ110 (bk_is _ _ _ _) ?vZ110 ?_; (case FZ110 => k_asm); (case DZ110 => k_asm); (case lZ110 => k_asm); (case vZ110 => k_asm); k_whole)); (try dsimp only [Option.getD])))
  (k_with "compareOp Eq bytes none" => with_reducible refine eq_bytes_none ?_)
  (k_with "call ref" => (k_here; (with_reducible show wpAny _ _ (call (Value.ref 158) _ _) _ _ _); k_dflt (refine' utf8_l  ?amZ112 ?NZ112 ?c1Z112 ?c2Z112 ?hbZ112 ?_; (case amZ112 => (refine' Amb.mk ?aBZ112 ?aFZ112 ?aXZ112 ?aTZ112 ?akZ112 ?adZ112 ?auZ112; (case aBZ112 => k_asm); (case aFZ112 => k_asm); (case aXZ112 => k_asm); (case aTZ112 => k_asm); (case akZ112 => first | exact rfl | assumption); (case adZ112 => ktr_room); (case auZ112 => ktr_units))); (case NZ112 => k_asm); (case hbZ112 => exact rfl); (case c1Z112 => first | assumption | omega); (case c2Z112 => first | assumption | omega); k_whole; intro h9 tk9 t9 F9 N9; (try dsimp only); (try k_fold))))
  (k_with "call ref" => (k_here; (with_reducible show wpAny _ _ (call (Value.ref 314) _ _) _ _ _); k_dflt (first | (refine' split1  ?amZ113 ?NZ113 ?b1Z113 ?b2Z113 ?_; (case amZ113 => (refine' Amb.mk ?aBZ113 ?aFZ113 ?aXZ113 ?aTZ113 ?akZ113 ?adZ113 ?auZ113; (case aBZ113 => k_asm); (case aFZ113 => k_asm); (case aXZ113 => k_asm); (case aTZ113 => k_asm); (case akZ113 => first | exact rfl | assumption); (case adZ113 => ktr_room); (case auZ113 => ktr_units))); (case NZ113 => k_asm); (case b1Z113 => assumption); (case b2Z113 => assumption); k_whole; intro h9 tk9 r9 t9 u9 n9 F9 N9; (try dsimp only); (try k_fold)) | (refine' split3  ?amZ113 ?NZ113 ?b1Z113 ?b2Z113 ?_; (case amZ113 => (refine' Amb.mk ?aBZ113 ?aFZ113 ?aXZ113 ?aTZ113 ?akZ113 ?adZ113 ?auZ113; (case aBZ113 => k_asm); (case aFZ113 => k_asm); (case aXZ113 => k_asm); (case aTZ113 => k_asm); (case akZ113 => first | exact rfl | assumption); (case adZ113 => ktr_room); (case auZ113 => ktr_units))); (case NZ113 => k_asm); (case b1Z113 => assumption); (case b2Z113 => assumption); k_whole; intro h9 tk9 r9 t9 u9 n9 F9 N9; (try dsimp only); (try k_fold)))))
  (k_with "subscriptTail" => (k_here; (with_reducible show wpAny _ _ (subscriptTail _ (PySem.Expr.Slice _ _ none _) (Value.bytes _ _) (Value.ref _)) _ _ _); (with_reducible rename Fr _ _ _ _ => F'); (with_reducible rename News _ _ _ _ => N'); (refine slice_e (s := ⟨_, _, _, _, _⟩) F' N' (by constructor) (by constructor) (by first | exact whole_a | exact whole_b | exact whole_c) (by first | exact pick_a | exact pick_b | exact pick_c) (Nat.le_of_ble_eq_true rfl) ?_ (by with_unfolding_all rfl) (by intro _; with_unfolding_all rfl)); intro _ _ _ _ _))
  (k_with "subscriptTail" => (k_here; (with_reducible show wpAny _ _ (subscriptTail _ _ (Value.bytes _ _) (Value.int 0 _)) _ _ _); (refine item_b0 ?_ (by with_unfolding_all rfl) (by intro _; with_unfolding_all rfl))))
  (k_with "call builtin:len" => (k_here; (with_reducible show wpAny _ _ (call (Value.builtin "len") [Value.bytes _ _]) _ _ _); (first | with_reducible refine len_b1 ?_ | with_reducible refine len_b3 ?_)))
  (k_with "call ref" => (k_here; (with_reducible show wpAny _ _ (call (Value.ref 307) _ _) _ _ _); k_dflt (refine' one_sign  ?amZ117 ?NZ117 ?b1Z117 ?b2Z117 ?_; (case amZ117 => (refine' Amb.mk ?aBZ117 ?aFZ117 ?aXZ117 ?aTZ117 ?akZ117 ?adZ117 ?auZ117; (case aBZ117 => k_asm); (case aFZ117 => k_asm); (case aXZ117 => k_asm); (case aTZ117 => k_asm); (case akZ117 => first | exact rfl | assumption); (case adZ117 => ktr_room); (case auZ117 => ktr_units))); (case NZ117 => k_asm); (case b1Z117 => assumption); (case b2Z117 => assumption); k_whole; intro h9 tk9 t9 F9 N9; (try dsimp only); (try k_fold))))
  (k_with "call ref" => (k_here; (with_reducible show wpAny _ _ (call (Value.ref 283) _ _) _ _ _); k_dflt (first | (refine' settled0  ?amZ118 ?NZ118 ?c1Z118 ?c2Z118 ?_; (case amZ118 => (refine' Amb.mk ?aBZ118 ?aFZ118 ?aXZ118 ?aTZ118 ?akZ118 ?adZ118 ?auZ118; (case aBZ118 => k_asm); (case aFZ118 => k_asm); (case aXZ118 => k_asm); (case aTZ118 => k_asm); (case akZ118 => first | exact rfl | assumption); (case adZ118 => ktr_room); (case auZ118 => ktr_units))); (case NZ118 => k_asm); (case c1Z118 => first | assumption | omega); (case c2Z118 => first | assumption | omega); k_whole; intro h9 tk9 k9 kd9 ck9 t9 u9 v9 w9 F9 N9 hne9 hk9 hd9; (have hk9' := hk9.2); (have hd9' := hd9.2); (try dsimp only); (try k_fold)) | (refine' settled4  ?amZ118 ?NZ118 ?c1Z118 ?c2Z118 ?_; (case amZ118 => (refine' Amb.mk ?aBZ118 ?aFZ118 ?aXZ118 ?aTZ118 ?akZ118 ?adZ118 ?auZ118; (case aBZ118 => k_asm); (case aFZ118 => k_asm); (case aXZ118 => k_asm); (case aTZ118 => k_asm); (case akZ118 => first | exact rfl | assumption); (case adZ118 => ktr_room); (case auZ118 => ktr_units))); (case NZ118 => k_asm); (case c1Z118 => first | assumption | omega); (case c2Z118 => first | assumption | omega); k_whole; intro h9 tk9 k9 kd9 ck9 t9 u9 v9 w9 F9 N9 hne9 hk9 hd9; (have hk9' := hk9.2); (have hd9' := hd9.2); (try dsimp only); (try k_fold)))))
  trivial


theorem hide_get {g h : Heap} {a : Addr} {o : Obj} (e : g = hideAll h (List.map (·.1) ([] : List (Addr × Obj)))) (x : h.get? a = some o) : g.get? a = some o := by subst e; exact x
theorem read1 {w mean mg mb dp un gd cn cs a ccd cl outer A₀ base h₀ L m} {s : Shared} {Q E : Value → Shared → Prop} {b : UInt8} {tb : Tok} {rest : List (Addr × Obj)}
  (am : Amb 30 240 w mean mg mb dp un cs outer A₀ base h₀ L m s.heap) (N : News h₀ L s.heap rest) (b1 : 97 ≤ b.toNat) (b2 : b.toNat ≤ 122) (hret : ∀ h' tk' k kd ck t1 t2 t3 t4, Fr h₀ L h' m → News h₀ L h' ((k, instObj 257 kd) :: (kd, keyObj ck (.bytes #[] t1) (.int (b.toNat : Int) t2) (.int 0 t3) (.int 1 t4)) :: rest) → k ≠ kd → AllLt k rest → AllLt kd rest → Q (.ref k) { s with heap := h', toks := tk' }) :
  wpAny (model PySem.Challenge.rw_og0286_01.row.prog w) (ktrTop dp un gd cn cs L a ccd cl outer) (call (.ref 321) [.bytes #[b] tb]) Q E s := by
  obtain ⟨B, F, X, T, hk, hd, hu⟩ := am
  revert X; k_fill; intro X
  refine wpAny_call ?_
  k_dflt cell_enter
  repeat' (first | (k_unfold; (try dsimp only)) | (k_end; wrow_close) | (walk1 <;> (try dsimp only)) | (leave1; walk_say "STEP leave1"; try dsimp only) | fail "no step")
  all_goals (first | exact hret _ _ _ _ _ _ _ _ _ (by with_reducible assumption) (cb_drop (by with_reducible assumption) (by ((repeat (refine sub_cons ?_ ?_; k_mem)); (first | exact List.forall_mem_nil _ | ((repeat (first | exact fun p hp => hp | refine sub_skip ?_))))))) (by with_reducible assumption) (by with_reducible assumption) (by with_reducible assumption) | w_report)

theorem read3 {w mean mg mb dp un gd cn cs a ccd cl outer A₀ base h₀ L m} {s : Shared} {Q E : Value → Shared → Prop} {b : UInt8} {tb : Tok} {rest : List (Addr × Obj)}
  (am : Amb 30 240 w mean mg mb dp un cs outer A₀ base h₀ L m s.heap) (N : News h₀ L s.heap rest) (b1 : 97 ≤ b.toNat) (b2 : b.toNat ≤ 122) (hret : ∀ h' tk' k kd ck t1 t2 t3 t4, Fr h₀ L h' m → News h₀ L h' ((k, instObj 257 kd) :: (kd, keyObj ck (.bytes #[] t1) (.int (b.toNat : Int) t2) (.int 4 t3) (.int 1 t4)) :: rest) → k ≠ kd → AllLt k rest → AllLt kd rest → Q (.ref k) { s with heap := h', toks := tk' }) :
  wpAny (model PySem.Challenge.rw_og0286_01.row.prog w) (ktrTop dp un gd cn cs L a ccd cl outer) (call (.ref 321) [.bytes #[67, 45, b] tb]) Q E s := by
  obtain ⟨B, F, X, T, hk, hd, hu⟩ := am
  revert X; k_fill; intro X
  refine wpAny_call ?_
  k_dflt cell_enter
  repeat' (first | (k_unfold; (try dsimp only)) | (k_end; wrow_close) | (walk1 <;> (try dsimp only)) | (leave1; walk_say "STEP leave1"; try dsimp only) | fail "no step")
  all_goals (first | exact hret _ _ _ _ _ _ _ _ _ (by with_reducible assumption) (cb_drop (by with_reducible assumption) (by ((repeat (refine sub_cons ?_ ?_; k_mem)); (first | exact List.forall_mem_nil _ | ((repeat (first | exact fun p hp => hp | refine sub_skip ?_))))))) (by with_reducible assumption) (by with_reducible assumption) (by with_reducible assumption) | w_report)

theorem word1_l0 {w mean mg mb dp un gd cn cs a ccd cl outer A₀ base h₀ L m} {s : Shared} {Q E : Value → Shared → Prop} {k kd : Addr} {ck : Hd} {b : UInt8} {t1 t2 t3 : Tok} {v4 : Value}
  (am : Amb 10 80 w mean mg mb dp un cs outer A₀ base h₀ L m s.heap) (b1 : 97 ≤ b.toNat) (b2 : b.toNat ≤ 122) (hb1 : s.heap.get? k = some (instObj 257 kd)) (hb2 : s.heap.get? kd = some (keyObj ck (.bytes #[] t1) (.int (b.toNat : Int) t2) (.int 0 t3) v4)) (hret : ∀ h' tk' (t : Tok), Fr h₀ L h' m → s.heap.StaysIn h' → News h₀ L h' ([]) → Q (.bytes #[b] t) { s with heap := h', toks := tk' }) :
  wpAny (model PySem.Challenge.rw_og0286_01.row.prog w) (ktrTop dp un gd cn cs L a ccd cl outer) (call (.ref 328) [.ref k]) Q E s := by
  obtain ⟨B, F, X, T, hk, hd, hu⟩ := am
  have N0 : News h₀ L s.heap [] := news_nil
  revert X; k_fill; intro X
  refine wpAny_call ?_
  k_dflt (refine' code_defR ?k1 ?k2 ?k3 ?k4 ?k5 ?kA ?kF ?kK ?k6 ?k7 ?k8 ?k9 ?kB ?_ ?c2 ?c3 ?c4 ?c5; (case kA => exact rfl); (case kF => exact rfl); (case kK => assumption); (case k1 => k_asm); (case k2 => k_asm); (case k3 => k_asm); (case k4 => exact N0); (case k5 => k_asm); (case k6 => k_is); (case k7 => k_is); (case k8 => ktr_room); (case k9 => exact BindsTo.of_eq rfl); (case c5 => decide); (case kB => exact locs rfl); (case c2 => exact rfl); (case c3 => exact rfl); (case c4 => exact rfl); k_whole; intro g' L' h' hg' FG' F' N' B' X' T'; (try dsimp only); (try k_lift B'); (try k_fold))
  rename (_ = hideAll _ _) => HG
  have hb1g := hide_get HG hb1
  have hb2g := hide_get HG hb2
  repeat' (first | (k_unfold; (try dsimp only)) | (k_end; wrow_close) | (walk1 <;> (try dsimp only)) | (leave1; walk_say "STEP leave1"; try dsimp only) | fail "no step")
  all_goals (first | first | (rename (_ != _) = true => hx9; exact absurd hx9 (by simp)) | exact hret _ _ _ (by with_reducible assumption) (hide_nil (by with_reducible assumption) (by with_reducible assumption)) (cb_drop (by with_reducible assumption) (by ((repeat (refine sub_cons ?_ ?_; k_mem)); (first | exact List.forall_mem_nil _ | ((repeat (first | exact fun p hp => hp | refine sub_skip ?_))))))) | w_report)

theorem word1_l {w mean mg mb dp un gd cn cs a ccd cl outer A₀ base h₀ L m} {s : Shared} {Q E : Value → Shared → Prop} {k kd : Addr} {ck : Hd} {b : UInt8} {t1 t2 t3 : Tok} {v4 : Value} {rest : List (Addr × Obj)}
  (am : Amb 10 80 w mean mg mb dp un cs outer A₀ base h₀ L m s.heap) (N : News h₀ L s.heap rest) (b1 : 97 ≤ b.toNat) (b2 : b.toNat ≤ 122) (hb1 : s.heap.get? k = some (instObj 257 kd)) (hb2 : s.heap.get? kd = some (keyObj ck (.bytes #[] t1) (.int (b.toNat : Int) t2) (.int 0 t3) v4)) (hret : ∀ h' tk' (t : Tok), Fr h₀ L h' m → News h₀ L h' (rest) → Q (.bytes #[b] t) { s with heap := h', toks := tk' }) :
  wpAny (model PySem.Challenge.rw_og0286_01.row.prog w) (ktrTop dp un gd cn cs L a ccd cl outer) (call (.ref 328) [.ref k]) Q E s := word1_l0 am b1 b2 hb1 hb2 fun h' tk' t F S N' => hret h' tk' t F (news_app N' (news_stay N S))

theorem kw1 {w : World} {k kd : Addr} {ck : Hd} {b : UInt8} {t1 t2 t3 : Tok} {v4 : Value} (b1 : 97 ≤ b.toNat) (b2 : b.toNat ≤ 122) : KeyWordIs w k [(k, instObj 257 kd), (kd, (keyObj ck (.bytes #[] t1) (.int (b.toNat : Int) t2) (.int 0 t3) v4))] #[b] :=
  fun am N hn hret => word1_l am N b1 b2 (N _ (hn _ (List.Mem.head _))).1 (N _ (hn _ (List.Mem.tail _ (List.Mem.head _)))).1 hret

theorem word3_l0 {w mean mg mb dp un gd cn cs a ccd cl outer A₀ base h₀ L m} {s : Shared} {Q E : Value → Shared → Prop} {k kd : Addr} {ck : Hd} {b : UInt8} {t1 t2 t3 : Tok} {v4 : Value}
  (am : Amb 10 80 w mean mg mb dp un cs outer A₀ base h₀ L m s.heap) (b1 : 97 ≤ b.toNat) (b2 : b.toNat ≤ 122) (hb1 : s.heap.get? k = some (instObj 257 kd)) (hb2 : s.heap.get? kd = some (keyObj ck (.bytes #[] t1) (.int (b.toNat : Int) t2) (.int 4 t3) v4)) (hret : ∀ h' tk' (t : Tok), Fr h₀ L h' m → s.heap.StaysIn h' → News h₀ L h' ([]) → Q (.bytes #[67, 45, b] t) { s with heap := h', toks := tk' }) :
  wpAny (model PySem.Challenge.rw_og0286_01.row.prog w) (ktrTop dp un gd cn cs L a ccd cl outer) (call (.ref 328) [.ref k]) Q E s := by
  obtain ⟨B, F, X, T, hk, hd, hu⟩ := am
  have N0 : News h₀ L s.heap [] := news_nil
  revert X; k_fill; intro X
  refine wpAny_call ?_
  k_dflt (refine' code_defR ?k1 ?k2 ?k3 ?k4 ?k5 ?kA ?kF ?kK ?k6 ?k7 ?k8 ?k9 ?kB ?_ ?c2 ?c3 ?c4 ?c5; (case kA => exact rfl); (case kF => exact rfl); (case kK => assumption); (case k1 => k_asm); (case k2 => k_asm); (case k3 => k_asm); (case k4 => exact N0); (case k5 => k_asm); (case k6 => k_is); (case k7 => k_is); (case k8 => ktr_room); (case k9 => exact BindsTo.of_eq rfl); (case c5 => decide); (case kB => exact locs rfl); (case c2 => exact rfl); (case c3 => exact rfl); (case c4 => exact rfl); k_whole; intro g' L' h' hg' FG' F' N' B' X' T'; (try dsimp only); (try k_lift B'); (try k_fold))
  rename (_ = hideAll _ _) => HG
  have hb1g := hide_get HG hb1
  have hb2g := hide_get HG hb2
  repeat' (first | (k_unfold; (try dsimp only)) | (k_end; wrow_close) | (walk1 <;> (try dsimp only)) | (leave1; walk_say "STEP leave1"; try dsimp only) | fail "no step")
  all_goals (first | first | (rename (_ != _) = true => hx9; exact absurd hx9 (by simp)) | exact hret _ _ _ (by with_reducible assumption) (hide_nil (by with_reducible assumption) (by with_reducible assumption)) (cb_drop (by with_reducible assumption) (by ((repeat (refine sub_cons ?_ ?_; k_mem)); (first | exact List.forall_mem_nil _ | ((repeat (first | exact fun p hp => hp | refine sub_skip ?_))))))) | w_report)

theorem word3_l {w mean mg mb dp un gd cn cs a ccd cl outer A₀ base h₀ L m} {s : Shared} {Q E : Value → Shared → Prop} {k kd : Addr} {ck : Hd} {b : UInt8} {t1 t2 t3 : Tok} {v4 : Value} {rest : List (Addr × Obj)}
  (am : Amb 10 80 w mean mg mb dp un cs outer A₀ base h₀ L m s.heap) (N : News h₀ L s.heap rest) (b1 : 97 ≤ b.toNat) (b2 : b.toNat ≤ 122) (hb1 : s.heap.get? k = some (instObj 257 kd)) (hb2 : s.heap.get? kd = some (keyObj ck (.bytes #[] t1) (.int (b.toNat : Int) t2) (.int 4 t3) v4)) (hret : ∀ h' tk' (t : Tok), Fr h₀ L h' m → News h₀ L h' (rest) → Q (.bytes #[67, 45, b] t) { s with heap := h', toks := tk' }) :
  wpAny (model PySem.Challenge.rw_og0286_01.row.prog w) (ktrTop dp un gd cn cs L a ccd cl outer) (call (.ref 328) [.ref k]) Q E s := word3_l0 am b1 b2 hb1 hb2 fun h' tk' t F S N' => hret h' tk' t F (news_app N' (news_stay N S))

theorem kw3 {w : World} {k kd : Addr} {ck : Hd} {b : UInt8} {t1 t2 t3 : Tok} {v4 : Value} (b1 : 97 ≤ b.toNat) (b2 : b.toNat ≤ 122) : KeyWordIs w k [(k, instObj 257 kd), (kd, (keyObj ck (.bytes #[] t1) (.int (b.toNat : Int) t2) (.int 4 t3) v4))] #[67, 45, b] :=
  fun am N hn hret => word3_l am N b1 b2 (N _ (hn _ (List.Mem.head _))).1 (N _ (hn _ (List.Mem.tail _ (List.Mem.head _)))).1 hret


theorem reg_29 : True := by
  (k_with "call ref" => (k_here; (with_reducible show wpAny _ _ (call (Value.ref 321) _ _) _ _ _); k_dflt (first | (refine' read1  ?amZ119 ?NZ119 ?b1Z119 ?b2Z119 ?_; (case amZ119 => (refine' Amb.mk ?aBZ119 ?aFZ119 ?aXZ119 ?aTZ119 ?akZ119 ?adZ119 ?auZ119; (case aBZ119 => k_asm); (case aFZ119 => k_asm); (case aXZ119 => k_asm); (case aTZ119 => k_asm); (case akZ119 => first | exact rfl | assumption); (case adZ119 => ktr_room); (case auZ119 => ktr_units))); (case NZ119 => k_asm); (case b1Z119 => assumption); (case b2Z119 => assumption); k_whole; intro h9 tk9 k9 kd9 ck9 t9 u9 v9 w9 F9 N9 hne9 hk9 hd9; (have hk9' := hk9); (have hd9' := hd9); (try dsimp only); (try k_fold)) | (refine' read3  ?amZ119 ?NZ119 ?b1Z119 ?b2Z119 ?_; (case amZ119 => (refine' Amb.mk ?aBZ119 ?aFZ119 ?aXZ119 ?aTZ119 ?akZ119 ?adZ119 ?auZ119; (case aBZ119 => k_asm); (case aFZ119 => k_asm); (case aXZ119 => k_asm); (case aTZ119 => k_asm); (case akZ119 => first | exact rfl | assumption); (case adZ119 => ktr_room); (case auZ119 => ktr_units))); (case NZ119 => k_asm); (case b1Z119 => assumption); (case b2Z119 => assumption); k_whole; intro h9 tk9 k9 kd9 ck9 t9 u9 v9 w9 F9 N9 hne9 hk9 hd9; (have hk9' := hk9); (have hd9' := hd9); (try dsimp only); (try k_fold)))))
  (k_with "call ref" => (k_here; (with_reducible show wpAny _ _ (call (Value.ref 328) _ _) _ _ _); k_dflt (first | (refine' kw_use (kw1 ?b1Z120 ?b2Z120) ?amZ120 ?NZ120 ?needZ120 ?_; (case amZ120 => (refine' Amb.mk ?aBZ120 ?aFZ120 ?aXZ120 ?aTZ120 ?akZ120 ?adZ120 ?auZ120; (case aBZ120 => k_asm); (case aFZ120 => k_asm); (case aXZ120 => k_asm); (case aTZ120 => k_asm); (case akZ120 => first | exact rfl | assumption); (case adZ120 => ktr_room); (case auZ120 => ktr_units))); (case NZ120 => k_asm); (case needZ120 => ((repeat (refine sub_cons ?_ ?_; k_mem)); (first | exact List.forall_mem_nil _ | ((repeat (first | exact fun p hp => hp | refine sub_skip ?_)))))); (case b1Z120 => assumption); (case b2Z120 => assumption); k_whole; intro h9 tk9 t9 F9 N9; (try dsimp only); (try k_fold)) | (refine' kw_use (kw3 ?b1Z120 ?b2Z120) ?amZ120 ?NZ120 ?needZ120 ?_; (case amZ120 => (refine' Amb.mk ?aBZ120 ?aFZ120 ?aXZ120 ?aTZ120 ?akZ120 ?adZ120 ?auZ120; (case aBZ120 => k_asm); (case aFZ120 => k_asm); (case aXZ120 => k_asm); (case aTZ120 => k_asm); (case akZ120 => first | exact rfl | assumption); (case adZ120 => ktr_room); (case auZ120 => ktr_units))); (case NZ120 => k_asm); (case needZ120 => ((repeat (refine sub_cons ?_ ?_; k_mem)); (first | exact List.forall_mem_nil _ | ((repeat (first | exact fun p hp => hp | refine sub_skip ?_)))))); (case b1Z120 => assumption); (case b2Z120 => assumption); k_whole; intro h9 tk9 t9 F9 N9; (try dsimp only); (try k_fold)))))
  trivial


theorem mux1 {w mean mg mb dp un gd cn cs a ccd cl outer A₀ base h₀ L m} {s : Shared} {Q E : Value → Shared → Prop} {b : UInt8} {tb : Tok} {rest : List (Addr × Obj)}
  (am : Amb 35 280 w mean mg mb dp un cs outer A₀ base h₀ L m s.heap) (N : News h₀ L s.heap rest) (b1 : 97 ≤ b.toNat) (b2 : b.toNat ≤ 122) (hret : ∀ h' tk' t, Fr h₀ L h' m → News h₀ L h' (rest) → Q (.bytes #[b] t) { s with heap := h', toks := tk' }) :
  wpAny (model PySem.Challenge.rw_og0286_01.row.prog w) (ktrTop dp un gd cn cs L a ccd cl outer) (call (.ref 622) [.bytes #[b] tb]) Q E s := by
  obtain ⟨B, F, X, T, hk, hd, hu⟩ := am
  revert X; k_fill; intro X
  refine wpAny_call ?_
  k_dflt cell_enter
  repeat' (first | (k_unfold; (try dsimp only)) | (k_end; wrow_close) | (walk1 <;> (try dsimp only)) | (leave1; walk_say "STEP leave1"; try dsimp only) | fail "no step")
  all_goals (first | exact hret _ _ _ (by with_reducible assumption) (cb_drop (by with_reducible assumption) (by ((repeat (refine sub_cons ?_ ?_; k_mem)); (first | exact List.forall_mem_nil _ | ((repeat (first | exact fun p hp => hp | refine sub_skip ?_))))))) | w_report)

theorem mux3 {w mean mg mb dp un gd cn cs a ccd cl outer A₀ base h₀ L m} {s : Shared} {Q E : Value → Shared → Prop} {b : UInt8} {tb : Tok} {rest : List (Addr × Obj)}
  (am : Amb 35 280 w mean mg mb dp un cs outer A₀ base h₀ L m s.heap) (N : News h₀ L s.heap rest) (b1 : 97 ≤ b.toNat) (b2 : b.toNat ≤ 122) (hret : ∀ h' tk' t, Fr h₀ L h' m → News h₀ L h' (rest) → Q (.bytes #[67, 45, b] t) { s with heap := h', toks := tk' }) :
  wpAny (model PySem.Challenge.rw_og0286_01.row.prog w) (ktrTop dp un gd cn cs L a ccd cl outer) (call (.ref 622) [.bytes #[67, 45, b] tb]) Q E s := by
  obtain ⟨B, F, X, T, hk, hd, hu⟩ := am
  revert X; k_fill; intro X
  refine wpAny_call ?_
  k_dflt cell_enter
  repeat' (first | (k_unfold; (try dsimp only)) | (k_end; wrow_close) | (walk1 <;> (try dsimp only)) | (leave1; walk_say "STEP leave1"; try dsimp only) | fail "no step")
  all_goals (first | exact hret _ _ _ (by with_reducible assumption) (cb_drop (by with_reducible assumption) (by ((repeat (refine sub_cons ?_ ?_; k_mem)); (first | exact List.forall_mem_nil _ | ((repeat (first | exact fun p hp => hp | refine sub_skip ?_))))))) | w_report)

theorem muxa {w mean mg mb dp un gd cn cs a ccd cl outer A₀ base h₀ L m} {s : Shared} {Q E : Value → Shared → Prop} {tb : Tok} {rest : List (Addr × Obj)}
  (am : Amb 35 280 w mean mg mb dp un cs outer A₀ base h₀ L m s.heap) (N : News h₀ L s.heap rest) (hret : ∀ h' tk' t, Fr h₀ L h' m → News h₀ L h' (rest) → Q (.bytes anyB t) { s with heap := h', toks := tk' }) :
  wpAny (model PySem.Challenge.rw_og0286_01.row.prog w) (ktrTop dp un gd cn cs L a ccd cl outer) (call (.ref 622) [.bytes anyB tb]) Q E s := by
  obtain ⟨B, F, X, T, hk, hd, hu⟩ := am
  revert X; k_fill; intro X
  refine wpAny_call ?_
  k_dflt cell_enter
  repeat' (first | (k_unfold; (try dsimp only)) | (k_end; wrow_close) | (walk1 <;> (try dsimp only)) | (leave1; walk_say "STEP leave1"; try dsimp only) | fail "no step")
  all_goals (first | exact hret _ _ _ (by with_reducible assumption) (cb_drop (by with_reducible assumption) (by ((repeat (refine sub_cons ?_ ?_; k_mem)); (first | exact List.forall_mem_nil _ | ((repeat (first | exact fun p hp => hp | refine sub_skip ?_))))))) | w_report)
end
section
local macro_rules | `(tactic| k_room) => `(tactic| ktr_room)
local macro_rules | `(tactic| k_all) => `(tactic| assumption)
local macro_rules | `(tactic| k_inst) => `(tactic| (refine' inst_base ?iF ?ih1 ?ih2; (case iF => k_asm); (case ih1 => k_asm); (case ih2 => k_asm)))

theorem reg_30 : True := by
  k_with_none
  (k_with "room" => ((with_reducible rename _ + _ < recursionLimit => hR9); first | exact room_k 4 hR9 | exact room_k 37 hR9 | exact room_k 9 hR9 | exact room_k 5 hR9 | exact room_k 14 hR9 | exact room_k 10 hR9 | exact room_k 19 hR9 | exact room_k 15 hR9 | exact room_k 20 hR9 | exact room_k 25 hR9 | exact room_k 35 hR9 | exact room_k 13 hR9 | exact room_k 1 hR9 | exact room_k 38 hR9 | exact room_k 23 hR9 | exact room_k 24 hR9 | exact room_k 29 hR9 | exact room_k 8 hR9 | exact room_k 40 hR9 | exact room_k 39 hR9 | exact room_k 44 hR9 | exact room_k 17 hR9 | exact room_k 21 hR9 | exact room_k 30 hR9 | exact room_k 33 hR9 | exact room_k 16 hR9 | exact room_k 2 hR9 | exact room_k 43 hR9 | exact room_k 7 hR9 | exact room_k 45 hR9 | exact room_k 0 hR9 | exact room_k 3 hR9 | exact room_k 6 hR9 | exact room_k 11 hR9 | exact room_k 12 hR9 | exact room_k 18 hR9 | exact room_k 22 hR9 | exact room_k 26 hR9 | exact room_k 27 hR9 | exact room_k 28 hR9 | exact room_k 31 hR9 | exact room_k 32 hR9 | exact room_k 34 hR9 | exact room_k 36 hR9 | exact room_k 41 hR9 | exact room_k 42 hR9))
  (k_with "units" => ((with_reducible rename _ + _ < cLine => hR9); first | exact room_k 37 hR9 | exact room_k 77 hR9 | exact room_k 117 hR9 | exact room_k 157 hR9 | exact room_k 237 hR9 | exact room_k 197 hR9 | exact room_k 151 hR9 | exact room_k 133 hR9 | exact room_k 277 hR9 | exact room_k 317 hR9 | exact room_k 357 hR9 | exact room_k 4 hR9 | exact room_k 9 hR9 | exact room_k 5 hR9 | exact room_k 14 hR9 | exact room_k 10 hR9 | exact room_k 19 hR9 | exact room_k 15 hR9 | exact room_k 20 hR9 | exact room_k 25 hR9 | exact room_k 35 hR9 | exact room_k 13 hR9 | exact room_k 1 hR9 | exact room_k 38 hR9 | exact room_k 23 hR9 | exact room_k 24 hR9 | exact room_k 29 hR9 | exact room_k 8 hR9 | exact room_k 40 hR9 | exact room_k 39 hR9 | exact room_k 44 hR9 | exact room_k 17 hR9 | exact room_k 21 hR9 | exact room_k 30 hR9 | exact room_k 33 hR9 | exact room_k 16 hR9 | exact room_k 2 hR9 | exact room_k 43 hR9 | exact room_k 7 hR9 | exact room_k 45 hR9))
  (k_with "lt" => (first | with_reducible assumption | exact (by with_reducible assumption : _ ∧ _).1 | exact (by with_reducible assumption : _ ∧ _).2 | exact (by with_reducible assumption : _ ∧ _ ∧ _).2.1 | exact (by with_reducible assumption : _ ∧ _ ∧ _).2.2 | exact (by with_reducible assumption : _ ∧ _ ∧ _ ∧ _).2.2.1 | exact (by with_reducible assumption : _ ∧ _ ∧ _ ∧ _).2.2.2 | exact (by with_reducible assumption : _ ∧ _ ∧ _ ∧ _ ∧ _).2.2.2.1 | exact (by with_reducible assumption : _ ∧ _ ∧ _ ∧ _ ∧ _).2.2.2.2 | exact (by with_reducible assumption : _ ∧ _ ∧ _ ∧ _ ∧ _ ∧ _).2.2.2.2.1 | exact (by with_reducible assumption : _ ∧ _ ∧ _ ∧ _ ∧ _ ∧ _).2.2.2.2.2 | exact (by with_reducible assumption : _ ∧ _ ∧ _ ∧ _ ∧ _ ∧ _ ∧ _).2.2.2.2.2.1 | exact (by with_reducible assumption : _ ∧ _ ∧ _ ∧ _ ∧ _ ∧ _ ∧ _).2.2.2.2.2.2 | exact (by with_reducible assumption : _ ∧ _ ∧ _ ∧ _ ∧ _ ∧ _ ∧ _ ∧ _).2.2.2.2.2.2.1 | exact (by with_reducible assumption : _ ∧ _ ∧ _ ∧ _ ∧ _ ∧ _ ∧ _ ∧ _).2.2.2.2.2.2.2 | exact (by with_reducible assumption : _ ∧ _ ∧ _ ∧ _ ∧ _ ∧ _ ∧ _ ∧ _ ∧ _).2.2.2.2.2.2.2.1 | exact (by with_reducible assumption : _ ∧ _ ∧ _ ∧ _ ∧ _ ∧ _ ∧ _ ∧ _ ∧ _).2.2.2.2.2.2.2.2 | exact (by with_reducible assumption : _ ∧ _ ∧ _ ∧ _ ∧ _ ∧ _ ∧ _ ∧ _ ∧ _ ∧ _).2.2.2.2.2.2.2.2.1 | exact (by with_reducible assumption : _ ∧ _ ∧ _ ∧ _ ∧ _ ∧ _ ∧ _ ∧ _ ∧ _ ∧ _).2.2.2.2.2.2.2.2.2 | exact (by with_reducible assumption : _ ∧ _ ∧ _ ∧ _ ∧ _ ∧ _ ∧ _ ∧ _ ∧ _ ∧ _ ∧ _).2.2.2.2.2.2.2.2.2.1 | exact (by with_reducible assumption : _ ∧ _ ∧ _ ∧ _ ∧ _ ∧ _ ∧ _ ∧ _ ∧ _ ∧ _ ∧ _).2.2.2.2.2.2.2.2.2.2 | exact (by with_reducible assumption : _ ∧ _ ∧ _ ∧ _ ∧ _ ∧ _ ∧ _ ∧ _ ∧ _ ∧ _ ∧ _ ∧ _).2.2.2.2.2.2.2.2.2.2.1 | exact (by with_reducible assumption : _ ∧ _ ∧ _ ∧ _ ∧ _ ∧ _ ∧ _ ∧ _ ∧ _ ∧ _ ∧ _ ∧ _).2.2.2.2.2.2.2.2.2.2.2 | exact (by with_reducible assumption : _ ∧ _ ∧ _ ∧ _ ∧ _ ∧ _ ∧ _ ∧ _ ∧ _ ∧ _ ∧ _ ∧ _ ∧ _).2.2.2.2.2.2.2.2.2.2.2.1 | exact (by with_reducible assumption : _ ∧ _ ∧ _ ∧ _ ∧ _ ∧ _ ∧ _ ∧ _ ∧ _ ∧ _ ∧ _ ∧ _ ∧ _).2.2.2.2.2.2.2.2.2.2.2.2))
  (k_with "ne" => ((refine neN ?_); (try dsimp only); first | (refine Nat.ne_of_lt ?_; k_extra "lt") | (refine Nat.ne_of_gt ?_; k_extra "lt") | omega))
  (k_with "all" => (first | assumption | exact all_nil | (refine' all_cons ?a9Z5 ?b9Z5; (case a9Z5 => k_extra "ne"); (case b9Z5 => k_extra "all"))))
  (k_with "ite" => (k_closed; k_dflt (first | (refine' @ite_pos _ _ _ _ ?h1Z6 ?_; (case h1Z6 => decide); k_whole) | (refine' @ite_neg _ _ _ _ ?h2Z6 ?_; (case h2Z6 => decide); k_whole))))
  (k_with "getAttr ref true" => (k_here; k_dflt (refine' get_own ?k1Z7 ?k2Z7 ?k3Z7 ?k4Z7 ?k5Z7 ?k6Z7 ?k7Z7 ?k8Z7 ?k9Z7 ?_; (case k1Z7 => k_asm); (case k2Z7 => k_asm); (case k3Z7 => k_inst); (case k4Z7 => k_is); (case k5Z7 => k_is); (case k6Z7 => k_is); (case k7Z7 => k_is); (case k8Z7 => k_get); (case k9Z7 => k_handed); k_whole)))
  (k_with "eval Name" => (k_here; name_kind "local"; k_dflt (refine' nameX_L ?FZ8 ?vZ8 ?_ ?aZ8 ?bZ8; (case FZ8 => k_asm); (case aZ8 => rfl); (case bZ8 => rfl); (case vZ8 => rfl); k_whole)))
  (k_with "eval Name" => (k_here; name_kind "globalImplicit"; k_dflt (first | (refine' nameX_K ?FZ9 ?XZ9 ?TZ9 ?eZ9 ?_ ?aZ9 ?bZ9; (case FZ9 => k_asm); (case XZ9 => k_asm); (case TZ9 => k_asm); (case aZ9 => rfl); (case bZ9 => rfl); (case eZ9 => k_is); k_whole) | (refine' nameX_B ?F9Z9 ?X9Z9 ?T9Z9 ?e9Z9 ?v9Z9 ?n9Z9 ?_ ?a9Z9 ?b9Z9; (case F9Z9 => k_asm); (case X9Z9 => k_asm); (case T9Z9 => k_asm); (case a9Z9 => rfl); (case b9Z9 => rfl); (case e9Z9 => k_is); (case v9Z9 => boot_fast); (case n9Z9 => decide); k_whole))))
  (k_with "callWith ref cons nil" => (k_here; k_dflt (first | (refine' callWith_K ?k1Z10 ?k2Z10 ?_; (case k1Z10 => k_asm); (case k2Z10 => k_is); k_whole) | (refine' callWith_K0 ?k3Z10 ?k4Z10 ?_; (case k3Z10 => first | with_reducible assumption | (refine' Frag.In.keeps ?x8Z10 (Fr.keep ?f8Z10); (case f8Z10 => with_reducible assumption); (case x8Z10 => with_reducible assumption)) | k_in); (case k4Z10 => k_is); k_whole) | (refine' callWith_M0 ?k5Z10 ?k6Z10 ?_; (case k5Z10 => k_meth); (case k6Z10 => k_is); k_whole; try dsimp only [List.nil_append, List.cons_append]))))
  (k_with "exec While Constant cons nil" => (k_here; k_dflt (refine whl_start 100 ?_)))
  (k_with "call builtin:list.append cons nil" => (k_here; (with_reducible show wpAny _ _ (call (Value.builtin _) [Value.ref _, _]) _ _ _); k_dflt (refine' append_K ?k1Z12 ?k2Z12 ?k3Z12 ?_ ?zZ12; (case k1Z12 => k_asm); (case k2Z12 => k_asm); (case k3Z12 => k_upd); (case zZ12 => first | size_fits | k_extra "size9"); k_whole); intro h' F' N'; (try k_sweep)))
  (k_with "compareOp In" => (k_here; (with_reducible show wpAny _ _ (compareOp CmpOp.In (Value.bytes _ _) (Value.ref _)) _ _ _); k_dflt (refine' md_in (md_at ?FZ121 ?DZ121) ?lZ121 (bk_is _ _ _ _) ?vZ121 ?_; (case FZ121 => k_asm); (case DZ121 => k_asm); (case lZ121 => k_asm); (case vZ121 => k_asm); k_whole)))
  (k_with "subscriptTail" => (k_here; (with_reducible show wpAny _ _ (subscriptTail _ _ (Value.ref _) (Value.bytes _ _)) _ _ _); k_dflt (refine' md_item (md_at ?FZ122 ?DZ122) (bk_is _ _ _ _) ?vZ122 ?_; (case FZ122 => k_asm); (case DZ122 => k_asm); (case vZ122 => k_asm); k_whole)))
  (k_with "getMethod ref" => (k_here; (with_reducible show wpAny _ _ (getMethod (Value.ref _) (Str.ofString "get") _) _ _ _); k_dflt (refine' md_getm (knd := bytesKind _ _) (md_at ?FZ123 ?DZ123) ?_; (case FZ123 => k_asm); (case DZ123 => k_asm); k_whole)))
  (k_with "call builtin:dict.get" => (k_here; k_dflt (first | ((with_reducible show wpAny _ _ (call (Value.builtin "dict.get") [Value.ref _, Value.bytes _ _]) _ _ _); refine' md_get1 (md_at ?FZ124 ?DZ124) ?lZ124 (bk_is _ _ _ _) ?vZ124 ?_; (case FZ124 => k_asm); (case DZ124 => k_asm); (case lZ124 => k_asm); (case vZ124 => k_asm); k_whole) | ((with_reducible show wpAny _ _ (call (Value.builtin "dict.get") [Value.ref _, Value.bytes _ _, _]) _ _ _); refine' md_get2 (md_at ?FZ124 ?DZ124) ?lZ124 (bk_is _ _ _ _) ?vZ124 ?_; (case FZ124 => k_asm); (case DZ124 => k_asm); (case lZ124 => k_asm); (case vZ124 => k_asm); k_whole)); (try dsimp only [Option.getD])))
  (k_with "compareOp Eq bytes none" => with_reducible refine eq_bytes_none ?_)
  trivial




theorem one1_of {r : Addr} {o : Obj} {l : List (Addr × Obj)} (h : ∀ q ∈ [(r, o)], AllLt q.1 l) : AllLt r l := h _ (List.Mem.head _)
theorem two_of {r t : Addr} {o o' : Obj} {l : List (Addr × Obj)} (h : ∀ q ∈ [(r, o), (t, o')], AllLt q.1 l) : AllLt r l ∧ AllLt t l := ⟨h _ (List.Mem.head _), h _ (List.Mem.tail _ (List.Mem.head _))⟩

theorem rot34 {h₀ h : Heap} {L : Addr} {x1 x2 x3 a b c d : Addr × Obj} (N : News h₀ L h [x1, x2, x3, a, b, c, d]) : News h₀ L h (a :: b :: c :: d :: [x1, x2, x3]) := fun p hp => N p (by simp only [List.mem_cons, List.not_mem_nil, or_false] at hp ⊢; rcases hp with h | h | h | h | h | h | h <;> simp [h])
theorem rot32 {h₀ h : Heap} {L : Addr} {x1 x2 x3 a b : Addr × Obj} (N : News h₀ L h [x1, x2, x3, a, b]) : News h₀ L h (a :: b :: [x1, x2, x3]) := fun p hp => N p (by simp only [List.mem_cons, List.not_mem_nil, or_false] at hp ⊢; rcases hp with h | h | h | h | h <;> simp [h])

def OneIs0 (w : World) (st sd : Addr) (c : Hd) (tbv T0 Mv U0 : Value) (kv : Value) (now : Int) (tn : Tok) (Bs : Heap → Prop) (Post : Res → Value → Value → Prop) : Prop :=
  ∀ {mean mg mb dp un gd cn cs a ccd cl outer A₀ base h₀ L m} {s : Shared} {Q E : Value → Shared → Prop} {rest : List (Addr × Obj)}, Amb 15 120 w mean mg mb dp un cs outer A₀ base h₀ L m s.heap → Bs h₀ → News h₀ L s.heap ((st, instObj 838 sd) :: (sd, stObj c tbv T0 Mv U0) :: rest) → (∀ p ∈ rest, p.1 ≠ sd) → (∀ h' tk' r' own res T1 U1, Post res T1 U1 → ResIs kv res r' own → Fr h₀ L h' m → News h₀ L h' (own ++ ((st, instObj 838 sd) :: (sd, stObj c tbv T1 Mv U1) :: rest)) → (∀ q ∈ own, AllLt q.1 ((st, instObj 838 sd) :: (sd, stObj c tbv T0 Mv U0) :: rest)) → Q (.ref r') { s with heap := h', toks := tk' }) → wpAny (model PySem.Challenge.rw_og0286_01.row.prog w) (ktrTop dp un gd cn cs L a ccd cl outer) (call (.ref 828) [.ref st, kv, .int now tn]) Q E s
theorem one_use0 {w} {st sd : Addr} {c : Hd} {tbv T0 Mv U0 : Value} {kv : Value} {now : Int} {tn : Tok} {Bs : Heap → Prop} {Post : Res → Value → Value → Prop} (h : OneIs0 w st sd c tbv T0 Mv U0 kv now tn Bs Post) {mean mg mb dp un gd cn cs a ccd cl outer A₀ base h₀ L m} {s : Shared} {Q E : Value → Shared → Prop} {rest : List (Addr × Obj)} (am : Amb 15 120 w mean mg mb dp un cs outer A₀ base h₀ L m s.heap) (hb : Bs h₀) (N : News h₀ L s.heap ((st, instObj 838 sd) :: (sd, stObj c tbv T0 Mv U0) :: rest)) (hoff : ∀ p ∈ rest, p.1 ≠ sd)
  (hret : ∀ h' tk' r' own res T1 U1, Post res T1 U1 → ResIs kv res r' own → Fr h₀ L h' m → News h₀ L h' (own ++ ((st, instObj 838 sd) :: (sd, stObj c tbv T1 Mv U1) :: rest)) → (∀ q ∈ own, AllLt q.1 ((st, instObj 838 sd) :: (sd, stObj c tbv T0 Mv U0) :: rest)) → Q (.ref r') { s with heap := h', toks := tk' }) : wpAny (model PySem.Challenge.rw_og0286_01.row.prog w) (ktrTop dp un gd cn cs L a ccd cl outer) (call (.ref 828) [.ref st, kv, .int now tn]) Q E s := h am hb N hoff hret

def OneIs2 (w : World) (st sd : Addr) (c : Hd) (tbv T0 Mv U0 : Value) (k kd : Addr) (ko : Obj) (kv : Value) (now : Int) (tn : Tok) (Bs : Heap → Prop) (Post : Res → Value → Value → Prop) : Prop :=
  ∀ {mean mg mb dp un gd cn cs a ccd cl outer A₀ base h₀ L m} {s : Shared} {Q E : Value → Shared → Prop} {rest : List (Addr × Obj)}, Amb 15 120 w mean mg mb dp un cs outer A₀ base h₀ L m s.heap → Bs h₀ → News h₀ L s.heap ((st, instObj 838 sd) :: (sd, stObj c tbv T0 Mv U0) :: (k, instObj 257 kd) :: (kd, ko) :: rest) → (∀ p ∈ rest, p.1 ≠ sd) → (∀ h' tk' r' own res T1 U1, Post res T1 U1 → ResIs kv res r' own → Fr h₀ L h' m → News h₀ L h' (own ++ ((st, instObj 838 sd) :: (sd, stObj c tbv T1 Mv U1) :: (k, instObj 257 kd) :: (kd, ko) :: rest)) → (∀ q ∈ own, AllLt q.1 ((st, instObj 838 sd) :: (sd, stObj c tbv T0 Mv U0) :: (k, instObj 257 kd) :: (kd, ko) :: rest)) → Q (.ref r') { s with heap := h', toks := tk' }) → wpAny (model PySem.Challenge.rw_og0286_01.row.prog w) (ktrTop dp un gd cn cs L a ccd cl outer) (call (.ref 828) [.ref st, kv, .int now tn]) Q E s
theorem one_use2 {w} {st sd : Addr} {c : Hd} {tbv T0 Mv U0 : Value} {k kd : Addr} {ko : Obj} {kv : Value} {now : Int} {tn : Tok} {Bs : Heap → Prop} {Post : Res → Value → Value → Prop} (h : OneIs2 w st sd c tbv T0 Mv U0 k kd ko kv now tn Bs Post) {mean mg mb dp un gd cn cs a ccd cl outer A₀ base h₀ L m} {s : Shared} {Q E : Value → Shared → Prop} {rest : List (Addr × Obj)} (am : Amb 15 120 w mean mg mb dp un cs outer A₀ base h₀ L m s.heap) (hb : Bs h₀) (N : News h₀ L s.heap ((st, instObj 838 sd) :: (sd, stObj c tbv T0 Mv U0) :: (k, instObj 257 kd) :: (kd, ko) :: rest)) (hoff : ∀ p ∈ rest, p.1 ≠ sd)
  (hret : ∀ h' tk' r' own res T1 U1, Post res T1 U1 → ResIs kv res r' own → Fr h₀ L h' m → News h₀ L h' (own ++ ((st, instObj 838 sd) :: (sd, stObj c tbv T1 Mv U1) :: (k, instObj 257 kd) :: (kd, ko) :: rest)) → (∀ q ∈ own, AllLt q.1 ((st, instObj 838 sd) :: (sd, stObj c tbv T0 Mv U0) :: (k, instObj 257 kd) :: (kd, ko) :: rest)) → Q (.ref r') { s with heap := h', toks := tk' }) : wpAny (model PySem.Challenge.rw_og0286_01.row.prog w) (ktrTop dp un gd cn cs L a ccd cl outer) (call (.ref 828) [.ref st, kv, .int now tn]) Q E s := h am hb N hoff hret

theorem hide_any {h g h' : Heap} {W : List (Addr × Obj)} (e : g = hideAll h (List.map (·.1) W)) (k : g.StaysIn h') : (hideAll h (List.map (·.1) W)).StaysIn h' := e ▸ k


theorem reg_31 : True := by
  (k_with "call ref" => (k_here; (with_reducible show wpAny _ _ (call (Value.ref 828) _ _) _ _ _); k_dflt (first | ((rename OneIs0 _ _ _ _ _ _ _ _ _ _ _ _ _  => hO9); refine' one_use0 hO9 ?amZ126 ?hbZ126 ?NZ126 ?offZ126 ?_; (case amZ126 => (refine' Amb.mk ?aBZ126 ?aFZ126 ?aXZ126 ?aTZ126 ?akZ126 ?adZ126 ?auZ126; (case aBZ126 => k_asm); (case aFZ126 => k_asm); (case aXZ126 => k_asm); (case aTZ126 => k_asm); (case akZ126 => first | exact rfl | assumption); (case adZ126 => ktr_room); (case auZ126 => ktr_units))); (case hbZ126 => assumption); (case NZ126 => ((rename News _ _ _ _ => N8); first | exact rot34 N8 | exact rot32 N8)); (case offZ126 => ((repeat (refine List.forall_mem_cons.mpr ⟨?_, ?_⟩; (first | with_reducible assumption | k_ne))); (first | exact List.forall_mem_nil _ | k_asm))); k_whole; intro h9 tk9 r9 own9 res9 T9 U9 hpost9 hres9 F9 N9 hlt9; (cases hres9); (all_goals ((first | have hlt9' := one1_of hlt9 | have hlt9' := two_of hlt9); (try simp only [AllLt, and_true] at hlt9'); (try simp only [List.cons_append, List.nil_append] at N9); (try dsimp only); (try k_fold)))) | ((rename OneIs2 _ _ _ _ _ _ _ _ _ _ _ _ _ _ _ _  => hO9); refine' one_use2 hO9 ?amZ126 ?hbZ126 ?NZ126 ?offZ126 ?_; (case amZ126 => (refine' Amb.mk ?aBZ126 ?aFZ126 ?aXZ126 ?aTZ126 ?akZ126 ?adZ126 ?auZ126; (case aBZ126 => k_asm); (case aFZ126 => k_asm); (case aXZ126 => k_asm); (case aTZ126 => k_asm); (case akZ126 => first | exact rfl | assumption); (case adZ126 => ktr_room); (case auZ126 => ktr_units))); (case hbZ126 => assumption); (case NZ126 => ((rename News _ _ _ _ => N8); first | exact rot34 N8 | exact rot32 N8)); (case offZ126 => ((repeat (refine List.forall_mem_cons.mpr ⟨?_, ?_⟩; (first | with_reducible assumption | k_ne))); (first | exact List.forall_mem_nil _ | k_asm))); k_whole; intro h9 tk9 r9 own9 res9 T9 U9 hpost9 hres9 F9 N9 hlt9; (cases hres9); (all_goals ((first | have hlt9' := one1_of hlt9 | have hlt9' := two_of hlt9); (try simp only [AllLt, and_true] at hlt9'); (try simp only [List.cons_append, List.nil_append] at N9); (try dsimp only); (try k_fold)))))))
  trivial


theorem feed0_0 {w mean mg mb dp un gd cn cs a ccd cl outer A₀ base h₀ L m} {s : Shared} {Q E : Value → Shared → Prop} {st sd ls : Addr} {c : Hd} {tbv T0 Mv U0 : Value} {kv : Value} {now : Int} {tn : Tok} {nl : Nat} {Bs : Heap → Prop} {Post : Res → Value → Value → Prop}
  (am : Amb 20 160 w mean mg mb dp un cs outer A₀ base h₀ L m s.heap) (hO : OneIs0 w st sd c tbv T0 Mv U0 kv now tn Bs Post) (hb : Bs h₀) (hB : ∀ {h g : Heap}, Bs h → (∀ b o, h.get? b = some o → g.get? b = some o) → Bs g) (N0 : News h₀ L s.heap [(ls, listOf #[kv] nl), (st, instObj 838 sd), (sd, stObj c tbv T0 Mv U0)]) (hls : ls ≠ sd) 
  (hret : ∀ h' tk' r' own res T1 U1, Post res T1 U1 → ResIs kv res r' own → Fr h₀ L h' m → News h₀ L h' (own ++ ((ls, listOf #[kv] nl) :: (st, instObj 838 sd) :: (sd, stObj c tbv T1 Mv U1) :: [])) → (hideAll s.heap ([(ls, listOf #[kv] nl), (st, instObj 838 sd), (sd, stObj c tbv T0 Mv U0)].map (·.1))).StaysIn h' → Q (.ref r') { s with heap := h', toks := tk' }) :
  wpAny (model PySem.Challenge.rw_og0286_01.row.prog w) (ktrTop dp un gd cn cs L a ccd cl outer) (call (.ref 821) [.ref st, .ref ls, .int now tn]) Q E s := by
  obtain ⟨B, F, X, T, hk, hd, hu⟩ := am
  revert X; k_fill; intro X
  refine wpAny_call ?_
  k_dflt (refine' code_defR ?k1 ?k2 ?k3 ?k4 ?k5 ?kA ?kF ?kK ?k6 ?k7 ?k8 ?k9 ?kB ?_ ?c2 ?c3 ?c4 ?c5; (case kA => exact rfl); (case kF => exact rfl); (case kK => assumption); (case k1 => k_asm); (case k2 => k_asm); (case k3 => k_asm); (case k4 => exact N0); (case k5 => k_asm); (case k6 => k_is); (case k7 => k_is); (case k8 => ktr_room); (case k9 => exact BindsTo.of_eq rfl); (case c5 => decide); (case kB => exact locs rfl); (case c2 => exact rfl); (case c3 => exact rfl); (case c4 => exact rfl); k_whole; intro g' L' h' hg' FG' F' N' B' X' T'; (try dsimp only); (try k_lift B'); (try k_fold))
  rename (Fr h₀ L _ m) => FG
  have hbg := hB hb FG.keep
  repeat' (first | (k_unfold; (try dsimp only)) | (k_end; wrow_close) | (walk1 <;> (try dsimp only)) | (leave1; walk_say "STEP leave1"; try dsimp only) | fail "no step")
  all_goals (first | exact hret _ _ _ _ _ _ _ (by assumption) ResIs.nil (by with_reducible assumption) (news_app (cb_drop (by with_reducible assumption) (by ((repeat (refine sub_cons ?_ ?_; k_mem)); (first | exact List.forall_mem_nil _ | ((repeat (first | exact fun p hp => hp | refine sub_skip ?_))))))) (cb_drop (by with_reducible assumption) (by ((repeat (refine sub_cons ?_ ?_; k_mem)); (first | exact List.forall_mem_nil _ | ((repeat (first | exact fun p hp => hp | refine sub_skip ?_)))))))) (hide_any (by with_reducible assumption) (by with_reducible assumption)) | exact hret _ _ _ _ _ _ _ (by assumption) ResIs.run (by with_reducible assumption) (news_app (cb_drop (by with_reducible assumption) (by ((repeat (refine sub_cons ?_ ?_; k_mem)); (first | exact List.forall_mem_nil _ | ((repeat (first | exact fun p hp => hp | refine sub_skip ?_))))))) (cb_drop (by with_reducible assumption) (by ((repeat (refine sub_cons ?_ ?_; k_mem)); (first | exact List.forall_mem_nil _ | ((repeat (first | exact fun p hp => hp | refine sub_skip ?_)))))))) (hide_any (by with_reducible assumption) (by with_reducible assumption)) | exact hret _ _ _ _ _ _ _ (by assumption) ResIs.send (by with_reducible assumption) (news_app (cb_drop (by with_reducible assumption) (by ((repeat (refine sub_cons ?_ ?_; k_mem)); (first | exact List.forall_mem_nil _ | ((repeat (first | exact fun p hp => hp | refine sub_skip ?_))))))) (cb_drop (by with_reducible assumption) (by ((repeat (refine sub_cons ?_ ?_; k_mem)); (first | exact List.forall_mem_nil _ | ((repeat (first | exact fun p hp => hp | refine sub_skip ?_)))))))) (hide_any (by with_reducible assumption) (by with_reducible assumption)) | w_report)
theorem feed0_g {w mean mg mb dp un gd cn cs a ccd cl outer A₀ base h₀ L m} {s : Shared} {Q E : Value → Shared → Prop} {st sd ls : Addr} {c : Hd} {tbv T0 Mv U0 : Value} {kv : Value} {now : Int} {tn : Tok} {nl : Nat} {Bs : Heap → Prop} {Post : Res → Value → Value → Prop} {rest : List (Addr × Obj)}
  (am : Amb 20 160 w mean mg mb dp un cs outer A₀ base h₀ L m s.heap) (hO : OneIs0 w st sd c tbv T0 Mv U0 kv now tn Bs Post) (hb : Bs h₀) (hB : ∀ {h g : Heap}, Bs h → (∀ b o, h.get? b = some o → g.get? b = some o) → Bs g) (N : News h₀ L s.heap ((ls, listOf #[kv] nl) :: (st, instObj 838 sd) :: (sd, stObj c tbv T0 Mv U0) :: rest)) (hls : ls ≠ sd) (hoff : ∀ p ∈ rest, p.1 ≠ sd)
  (hret : ∀ h' tk' r' own res T1 U1, Post res T1 U1 → ResIs kv res r' own → Fr h₀ L h' m → News h₀ L h' (own ++ ((ls, listOf #[kv] nl) :: (st, instObj 838 sd) :: (sd, stObj c tbv T1 Mv U1) :: rest)) → Q (.ref r') { s with heap := h', toks := tk' }) :
  wpAny (model PySem.Challenge.rw_og0286_01.row.prog w) (ktrTop dp un gd cn cs L a ccd cl outer) (call (.ref 821) [.ref st, .ref ls, .int now tn]) Q E s := by
  have NA : News h₀ L s.heap [(ls, listOf #[kv] nl), (st, instObj 838 sd), (sd, stObj c tbv T0 Mv U0)] := fun p hp => N p ((by ((repeat (refine sub_cons ?_ ?_; k_mem)); (first | exact List.forall_mem_nil _ | ((repeat (first | exact fun p hp => hp | refine sub_skip ?_))))) : ∀ p ∈ [(ls, listOf #[kv] nl), (st, instObj 838 sd), (sd, stObj c tbv T0 Mv U0)], p ∈ ((ls, listOf #[kv] nl) :: (st, instObj 838 sd) :: (sd, stObj c tbv T0 Mv U0) :: rest)) p hp)
  have NB : News h₀ L s.heap rest := fun p hp => N p (by simp [hp])
  refine feed0_0 am hO hb hB NA hls fun h' tk' r' own res T1 U1 a b f' d e => hret h' tk' r' own res T1 U1 a b f' ?_
  have NR := news_rest (d := sd) NA NB e d (by (refine List.forall_mem_cons.mpr ⟨.inl (by simp), ?_⟩); (refine List.forall_mem_cons.mpr ⟨.inl (by simp), ?_⟩); (refine List.forall_mem_cons.mpr ⟨.inr rfl, ?_⟩); (repeat (refine List.forall_mem_cons.mpr ⟨.inl (by simp), ?_⟩)); exact List.forall_mem_nil _) hoff
  have N2 := news_app d NR
  rw [List.append_assoc] at N2
  exact N2

theorem feed2_0 {w mean mg mb dp un gd cn cs a ccd cl outer A₀ base h₀ L m} {s : Shared} {Q E : Value → Shared → Prop} {st sd ls : Addr} {c : Hd} {tbv T0 Mv U0 : Value} {k kd : Addr} {ko : Obj} {kv : Value} {now : Int} {tn : Tok} {nl : Nat} {Bs : Heap → Prop} {Post : Res → Value → Value → Prop}
  (am : Amb 20 160 w mean mg mb dp un cs outer A₀ base h₀ L m s.heap) (hO : OneIs2 w st sd c tbv T0 Mv U0 k kd ko kv now tn Bs Post) (hb : Bs h₀) (hB : ∀ {h g : Heap}, Bs h → (∀ b o, h.get? b = some o → g.get? b = some o) → Bs g) (N0 : News h₀ L s.heap [(ls, listOf #[kv] nl), (st, instObj 838 sd), (sd, stObj c tbv T0 Mv U0), (k, instObj 257 kd), (kd, ko)]) (hls : ls ≠ sd) 
  (hret : ∀ h' tk' r' own res T1 U1, Post res T1 U1 → ResIs kv res r' own → Fr h₀ L h' m → News h₀ L h' (own ++ ((ls, listOf #[kv] nl) :: (st, instObj 838 sd) :: (sd, stObj c tbv T1 Mv U1) :: (k, instObj 257 kd) :: (kd, ko) :: [])) → (hideAll s.heap ([(ls, listOf #[kv] nl), (st, instObj 838 sd), (sd, stObj c tbv T0 Mv U0), (k, instObj 257 kd), (kd, ko)].map (·.1))).StaysIn h' → Q (.ref r') { s with heap := h', toks := tk' }) :
  wpAny (model PySem.Challenge.rw_og0286_01.row.prog w) (ktrTop dp un gd cn cs L a ccd cl outer) (call (.ref 821) [.ref st, .ref ls, .int now tn]) Q E s := by
  obtain ⟨B, F, X, T, hk, hd, hu⟩ := am
  revert X; k_fill; intro X
  refine wpAny_call ?_
  k_dflt (refine' code_defR ?k1 ?k2 ?k3 ?k4 ?k5 ?kA ?kF ?kK ?k6 ?k7 ?k8 ?k9 ?kB ?_ ?c2 ?c3 ?c4 ?c5; (case kA => exact rfl); (case kF => exact rfl); (case kK => assumption); (case k1 => k_asm); (case k2 => k_asm); (case k3 => k_asm); (case k4 => exact N0); (case k5 => k_asm); (case k6 => k_is); (case k7 => k_is); (case k8 => ktr_room); (case k9 => exact BindsTo.of_eq rfl); (case c5 => decide); (case kB => exact locs rfl); (case c2 => exact rfl); (case c3 => exact rfl); (case c4 => exact rfl); k_whole; intro g' L' h' hg' FG' F' N' B' X' T'; (try dsimp only); (try k_lift B'); (try k_fold))
  rename (Fr h₀ L _ m) => FG
  have hbg := hB hb FG.keep
  repeat' (first | (k_unfold; (try dsimp only)) | (k_end; wrow_close) | (walk1 <;> (try dsimp only)) | (leave1; walk_say "STEP leave1"; try dsimp only) | fail "no step")
  all_goals (first | exact hret _ _ _ _ _ _ _ (by assumption) ResIs.nil (by with_reducible assumption) (news_app (cb_drop (by with_reducible assumption) (by ((repeat (refine sub_cons ?_ ?_; k_mem)); (first | exact List.forall_mem_nil _ | ((repeat (first | exact fun p hp => hp | refine sub_skip ?_))))))) (cb_drop (by with_reducible assumption) (by ((repeat (refine sub_cons ?_ ?_; k_mem)); (first | exact List.forall_mem_nil _ | ((repeat (first | exact fun p hp => hp | refine sub_skip ?_)))))))) (hide_any (by with_reducible assumption) (by with_reducible assumption)) | exact hret _ _ _ _ _ _ _ (by assumption) ResIs.run (by with_reducible assumption) (news_app (cb_drop (by with_reducible assumption) (by ((repeat (refine sub_cons ?_ ?_; k_mem)); (first | exact List.forall_mem_nil _ | ((repeat (first | exact fun p hp => hp | refine sub_skip ?_))))))) (cb_drop (by with_reducible assumption) (by ((repeat (refine sub_cons ?_ ?_; k_mem)); (first | exact List.forall_mem_nil _ | ((repeat (first | exact fun p hp => hp | refine sub_skip ?_)))))))) (hide_any (by with_reducible assumption) (by with_reducible assumption)) | exact hret _ _ _ _ _ _ _ (by assumption) ResIs.send (by with_reducible assumption) (news_app (cb_drop (by with_reducible assumption) (by ((repeat (refine sub_cons ?_ ?_; k_mem)); (first | exact List.forall_mem_nil _ | ((repeat (first | exact fun p hp => hp | refine sub_skip ?_))))))) (cb_drop (by with_reducible assumption) (by ((repeat (refine sub_cons ?_ ?_; k_mem)); (first | exact List.forall_mem_nil _ | ((repeat (first | exact fun p hp => hp | refine sub_skip ?_)))))))) (hide_any (by with_reducible assumption) (by with_reducible assumption)) | w_report)
theorem feed2_g {w mean mg mb dp un gd cn cs a ccd cl outer A₀ base h₀ L m} {s : Shared} {Q E : Value → Shared → Prop} {st sd ls : Addr} {c : Hd} {tbv T0 Mv U0 : Value} {k kd : Addr} {ko : Obj} {kv : Value} {now : Int} {tn : Tok} {nl : Nat} {Bs : Heap → Prop} {Post : Res → Value → Value → Prop} {rest : List (Addr × Obj)}
  (am : Amb 20 160 w mean mg mb dp un cs outer A₀ base h₀ L m s.heap) (hO : OneIs2 w st sd c tbv T0 Mv U0 k kd ko kv now tn Bs Post) (hb : Bs h₀) (hB : ∀ {h g : Heap}, Bs h → (∀ b o, h.get? b = some o → g.get? b = some o) → Bs g) (N : News h₀ L s.heap ((ls, listOf #[kv] nl) :: (st, instObj 838 sd) :: (sd, stObj c tbv T0 Mv U0) :: (k, instObj 257 kd) :: (kd, ko) :: rest)) (hls : ls ≠ sd) (hoff : ∀ p ∈ rest, p.1 ≠ sd)
  (hret : ∀ h' tk' r' own res T1 U1, Post res T1 U1 → ResIs kv res r' own → Fr h₀ L h' m → News h₀ L h' (own ++ ((ls, listOf #[kv] nl) :: (st, instObj 838 sd) :: (sd, stObj c tbv T1 Mv U1) :: (k, instObj 257 kd) :: (kd, ko) :: rest)) → Q (.ref r') { s with heap := h', toks := tk' }) :
  wpAny (model PySem.Challenge.rw_og0286_01.row.prog w) (ktrTop dp un gd cn cs L a ccd cl outer) (call (.ref 821) [.ref st, .ref ls, .int now tn]) Q E s := by
  have NA : News h₀ L s.heap [(ls, listOf #[kv] nl), (st, instObj 838 sd), (sd, stObj c tbv T0 Mv U0), (k, instObj 257 kd), (kd, ko)] := fun p hp => N p ((by ((repeat (refine sub_cons ?_ ?_; k_mem)); (first | exact List.forall_mem_nil _ | ((repeat (first | exact fun p hp => hp | refine sub_skip ?_))))) : ∀ p ∈ [(ls, listOf #[kv] nl), (st, instObj 838 sd), (sd, stObj c tbv T0 Mv U0), (k, instObj 257 kd), (kd, ko)], p ∈ ((ls, listOf #[kv] nl) :: (st, instObj 838 sd) :: (sd, stObj c tbv T0 Mv U0) :: (k, instObj 257 kd) :: (kd, ko) :: rest)) p hp)
  have NB : News h₀ L s.heap rest := fun p hp => N p (by simp [hp])
  refine feed2_0 am hO hb hB NA hls fun h' tk' r' own res T1 U1 a b f' d e => hret h' tk' r' own res T1 U1 a b f' ?_
  have NR := news_rest (d := sd) NA NB e d (by (refine List.forall_mem_cons.mpr ⟨.inl (by simp), ?_⟩); (refine List.forall_mem_cons.mpr ⟨.inl (by simp), ?_⟩); (refine List.forall_mem_cons.mpr ⟨.inr rfl, ?_⟩); (repeat (refine List.forall_mem_cons.mpr ⟨.inl (by simp), ?_⟩)); exact List.forall_mem_nil _) hoff
  have N2 := news_app d NR
  rw [List.append_assoc] at N2
  exact N2
end
section
local macro_rules | `(tactic| k_room) => `(tactic| ktr_room)
local macro_rules | `(tactic| k_all) => `(tactic| assumption)
local macro_rules | `(tactic| k_inst) => `(tactic| (refine' inst_base ?iF ?ih1 ?ih2; (case iF => k_asm); (case ih1 => k_asm); (case ih2 => k_asm)))

theorem reg_32 : True := by
  k_with_none
  (k_with "room" => ((with_reducible rename _ + _ < recursionLimit => hR9); first | exact room_k 4 hR9 | exact room_k 37 hR9 | exact room_k 9 hR9 | exact room_k 5 hR9 | exact room_k 14 hR9 | exact room_k 10 hR9 | exact room_k 19 hR9 | exact room_k 15 hR9 | exact room_k 20 hR9 | exact room_k 25 hR9 | exact room_k 35 hR9 | exact room_k 13 hR9 | exact room_k 1 hR9 | exact room_k 38 hR9 | exact room_k 23 hR9 | exact room_k 24 hR9 | exact room_k 29 hR9 | exact room_k 8 hR9 | exact room_k 40 hR9 | exact room_k 39 hR9 | exact room_k 44 hR9 | exact room_k 17 hR9 | exact room_k 21 hR9 | exact room_k 30 hR9 | exact room_k 33 hR9 | exact room_k 16 hR9 | exact room_k 2 hR9 | exact room_k 43 hR9 | exact room_k 7 hR9 | exact room_k 45 hR9 | exact room_k 0 hR9 | exact room_k 3 hR9 | exact room_k 6 hR9 | exact room_k 11 hR9 | exact room_k 12 hR9 | exact room_k 18 hR9 | exact room_k 22 hR9 | exact room_k 26 hR9 | exact room_k 27 hR9 | exact room_k 28 hR9 | exact room_k 31 hR9 | exact room_k 32 hR9 | exact room_k 34 hR9 | exact room_k 36 hR9 | exact room_k 41 hR9 | exact room_k 42 hR9))
  (k_with "units" => ((with_reducible rename _ + _ < cLine => hR9); first | exact room_k 37 hR9 | exact room_k 77 hR9 | exact room_k 117 hR9 | exact room_k 157 hR9 | exact room_k 237 hR9 | exact room_k 197 hR9 | exact room_k 151 hR9 | exact room_k 133 hR9 | exact room_k 277 hR9 | exact room_k 317 hR9 | exact room_k 357 hR9 | exact room_k 4 hR9 | exact room_k 9 hR9 | exact room_k 5 hR9 | exact room_k 14 hR9 | exact room_k 10 hR9 | exact room_k 19 hR9 | exact room_k 15 hR9 | exact room_k 20 hR9 | exact room_k 25 hR9 | exact room_k 35 hR9 | exact room_k 13 hR9 | exact room_k 1 hR9 | exact room_k 38 hR9 | exact room_k 23 hR9 | exact room_k 24 hR9 | exact room_k 29 hR9 | exact room_k 8 hR9 | exact room_k 40 hR9 | exact room_k 39 hR9 | exact room_k 44 hR9 | exact room_k 17 hR9 | exact room_k 21 hR9 | exact room_k 30 hR9 | exact room_k 33 hR9 | exact room_k 16 hR9 | exact room_k 2 hR9 | exact room_k 43 hR9 | exact room_k 7 hR9 | exact room_k 45 hR9))
  (k_with "lt" => (first | with_reducible assumption | exact (by with_reducible assumption : _ ∧ _).1 | exact (by with_reducible assumption : _ ∧ _).2 | exact (by with_reducible assumption : _ ∧ _ ∧ _).2.1 | exact (by with_reducible assumption : _ ∧ _ ∧ _).2.2 | exact (by with_reducible assumption : _ ∧ _ ∧ _ ∧ _).2.2.1 | exact (by with_reducible assumption : _ ∧ _ ∧ _ ∧ _).2.2.2 | exact (by with_reducible assumption : _ ∧ _ ∧ _ ∧ _ ∧ _).2.2.2.1 | exact (by with_reducible assumption : _ ∧ _ ∧ _ ∧ _ ∧ _).2.2.2.2 | exact (by with_reducible assumption : _ ∧ _ ∧ _ ∧ _ ∧ _ ∧ _).2.2.2.2.1 | exact (by with_reducible assumption : _ ∧ _ ∧ _ ∧ _ ∧ _ ∧ _).2.2.2.2.2 | exact (by with_reducible assumption : _ ∧ _ ∧ _ ∧ _ ∧ _ ∧ _ ∧ _).2.2.2.2.2.1 | exact (by with_reducible assumption : _ ∧ _ ∧ _ ∧ _ ∧ _ ∧ _ ∧ _).2.2.2.2.2.2 | exact (by with_reducible assumption : _ ∧ _ ∧ _ ∧ _ ∧ _ ∧ _ ∧ _ ∧ _).2.2.2.2.2.2.1 | exact (by with_reducible assumption : _ ∧ _ ∧ _ ∧ _ ∧ _ ∧ _ ∧ _ ∧ _).2.2.2.2.2.2.2 | exact (by with_reducible assumption : _ ∧ _ ∧ _ ∧ _ ∧ _ ∧ _ ∧ _ ∧ _ ∧ _).2.2.2.2.2.2.2.1 | exact (by with_reducible assumption : _ ∧ _ ∧ _ ∧ _ ∧ _ ∧ _ ∧ _ ∧ _ ∧ _).2.2.2.2.2.2.2.2 | exact (by with_reducible assumption : _ ∧ _ ∧ _ ∧ _ ∧ _ ∧ _ ∧ _ ∧ _ ∧ _ ∧ _).2.2.2.2.2.2.2.2.1 | exact (by with_reducible assumption : _ ∧ _ ∧ _ ∧ _ ∧ _ ∧ _ ∧ _ ∧ _ ∧ _ ∧ _).2.2.2.2.2.2.2.2.2 | exact (by with_reducible assumption : _ ∧ _ ∧ _ ∧ _ ∧ _ ∧ _ ∧ _ ∧ _ ∧ _ ∧ _ ∧ _).2.2.2.2.2.2.2.2.2.1 | exact (by with_reducible assumption : _ ∧ _ ∧ _ ∧ _ ∧ _ ∧ _ ∧ _ ∧ _ ∧ _ ∧ _ ∧ _).2.2.2.2.2.2.2.2.2.2 | exact (by with_reducible assumption : _ ∧ _ ∧ _ ∧ _ ∧ _ ∧ _ ∧ _ ∧ _ ∧ _ ∧ _ ∧ _ ∧ _).2.2.2.2.2.2.2.2.2.2.1 | exact (by with_reducible assumption : _ ∧ _ ∧ _ ∧ _ ∧ _ ∧ _ ∧ _ ∧ _ ∧ _ ∧ _ ∧ _ ∧ _).2.2.2.2.2.2.2.2.2.2.2 | exact (by with_reducible assumption : _ ∧ _ ∧ _ ∧ _ ∧ _ ∧ _ ∧ _ ∧ _ ∧ _ ∧ _ ∧ _ ∧ _ ∧ _).2.2.2.2.2.2.2.2.2.2.2.1 | exact (by with_reducible assumption : _ ∧ _ ∧ _ ∧ _ ∧ _ ∧ _ ∧ _ ∧ _ ∧ _ ∧ _ ∧ _ ∧ _ ∧ _).2.2.2.2.2.2.2.2.2.2.2.2))
  (k_with "ne" => ((refine neN ?_); (try dsimp only); first | (refine Nat.ne_of_lt ?_; k_extra "lt") | (refine Nat.ne_of_gt ?_; k_extra "lt") | omega))
  (k_with "all" => (first | assumption | exact all_nil | (refine' all_cons ?a9Z5 ?b9Z5; (case a9Z5 => k_extra "ne"); (case b9Z5 => k_extra "all"))))
  (k_with "ite" => (k_closed; k_dflt (first | (refine' @ite_pos _ _ _ _ ?h1Z6 ?_; (case h1Z6 => decide); k_whole) | (refine' @ite_neg _ _ _ _ ?h2Z6 ?_; (case h2Z6 => decide); k_whole))))
  (k_with "getAttr ref true" => (k_here; k_dflt (refine' get_own ?k1Z7 ?k2Z7 ?k3Z7 ?k4Z7 ?k5Z7 ?k6Z7 ?k7Z7 ?k8Z7 ?k9Z7 ?_; (case k1Z7 => k_asm); (case k2Z7 => k_asm); (case k3Z7 => k_inst); (case k4Z7 => k_is); (case k5Z7 => k_is); (case k6Z7 => k_is); (case k7Z7 => k_is); (case k8Z7 => k_get); (case k9Z7 => k_handed); k_whole)))
  (k_with "eval Name" => (k_here; name_kind "local"; k_dflt (refine' nameX_L ?FZ8 ?vZ8 ?_ ?aZ8 ?bZ8; (case FZ8 => k_asm); (case aZ8 => rfl); (case bZ8 => rfl); (case vZ8 => rfl); k_whole)))
  (k_with "eval Name" => (k_here; name_kind "globalImplicit"; k_dflt (first | (refine' nameX_K ?FZ9 ?XZ9 ?TZ9 ?eZ9 ?_ ?aZ9 ?bZ9; (case FZ9 => k_asm); (case XZ9 => k_asm); (case TZ9 => k_asm); (case aZ9 => rfl); (case bZ9 => rfl); (case eZ9 => k_is); k_whole) | (refine' nameX_B ?F9Z9 ?X9Z9 ?T9Z9 ?e9Z9 ?v9Z9 ?n9Z9 ?_ ?a9Z9 ?b9Z9; (case F9Z9 => k_asm); (case X9Z9 => k_asm); (case T9Z9 => k_asm); (case a9Z9 => rfl); (case b9Z9 => rfl); (case e9Z9 => k_is); (case v9Z9 => boot_fast); (case n9Z9 => decide); k_whole))))
  (k_with "callWith ref cons nil" => (k_here; k_dflt (first | (refine' callWith_K ?k1Z10 ?k2Z10 ?_; (case k1Z10 => k_asm); (case k2Z10 => k_is); k_whole) | (refine' callWith_K0 ?k3Z10 ?k4Z10 ?_; (case k3Z10 => first | with_reducible assumption | (refine' Frag.In.keeps ?x8Z10 (Fr.keep ?f8Z10); (case f8Z10 => with_reducible assumption); (case x8Z10 => with_reducible assumption)) | k_in); (case k4Z10 => k_is); k_whole) | (refine' callWith_M0 ?k5Z10 ?k6Z10 ?_; (case k5Z10 => k_meth); (case k6Z10 => k_is); k_whole; try dsimp only [List.nil_append, List.cons_append]))))
  (k_with "exec While Constant cons nil" => (k_here; k_dflt (refine whl_start 100 ?_)))
  (k_with "call builtin:list.append cons nil" => (k_here; (with_reducible show wpAny _ _ (call (Value.builtin _) [Value.ref _, _]) _ _ _); k_dflt (refine' append_K ?k1Z12 ?k2Z12 ?k3Z12 ?_ ?zZ12; (case k1Z12 => k_asm); (case k2Z12 => k_asm); (case k3Z12 => k_upd); (case zZ12 => first | size_fits | k_extra "size9"); k_whole); intro h' F' N'; (try k_sweep)))
  (k_with "compareOp In" => (k_here; (with_reducible show wpAny _ _ (compareOp CmpOp.In (Value.bytes _ _) (Value.ref _)) _ _ _); k_dflt (refine' md_in (md_at ?FZ127 ?DZ127) ?lZ127 (bk_is _ _ _ _) ?vZ127 ?_; (case FZ127 => k_asm); (case DZ127 => k_asm); (case lZ127 => k_asm); (case vZ127 => k_asm); k_whole)))
  (k_with "subscriptTail" => (k_here; (with_reducible show wpAny _ _ (subscriptTail _ _ (Value.ref _) (Value.bytes _ _)) _ _ _); k_dflt (refine' md_item (md_at ?FZ128 ?DZ128) (bk_is _ _ _ _) ?vZ128 ?_; (case FZ128 => k_asm); (case DZ128 => k_asm); (case vZ128 => k_asm); k_whole)))
  (k_with "getMethod ref" => (k_here; (with_reducible show wpAny _ _ (getMethod (Value.ref _) (Str.ofString "get") _) _ _ _); k_dflt (refine' md_getm (knd := bytesKind _ _) (md_at ?FZ129 ?DZ129) ?_; (case FZ129 => k_asm); (case DZ129 => k_asm); k_whole)))
  (k_with "call builtin:dict.get" => (k_here; k_dflt (first | ((with_reducible show wpAny _ _ (call (Value.builtin "dict.get") [Value.ref _, Value.bytes _ _]) _ _ _); refine' md_get1 (md_at ?FZ130 ?DZ130) ?lZ130 (bk_is _ _ _ _) ?vZ130 ?_; (case FZ130 => k_asm); (case DZ130 => k_asm); (case lZ130 => k_asm); (case vZ130 => k_asm); k_whole) | ((with_reducible show wpAny _ _ (call (Value.builtin "dict.get") [Value.ref _, Value.bytes _ _, _]) _ _ _); refine' md_get2 (md_at ?FZ130 ?DZ130) ?lZ130 (bk_is _ _ _ _) ?vZ130 ?_; (case FZ130 => k_asm); (case DZ130 => k_asm); (case lZ130 => k_asm); (case vZ130 => k_asm); k_whole)); (try dsimp only [Option.getD])))
  (k_with "compareOp Eq bytes none" => with_reducible refine eq_bytes_none ?_)
  trivial




inductive DResIs (f1 f0 : Option (Addr × Value × Bool)) (W : Array UInt8) : Res → Addr → List (Addr × Obj) → Prop
  | nil {r : Addr} {n : Nat} : DResIs f1 f0 W .nil r [(r, listOf #[] n)]
  | run {r t b : Addr} {n n' : Nat} {tk tc : Tok} {cmd : Array UInt8} {rep : Bool} : (f1 = some (b, .bytes cmd tc, rep) ∨ f0 = some (b, .bytes cmd tc, rep)) → DResIs f1 f0 W (.run b) r [(r, listOf #[.ref t] n), (t, tupObj [.bytes runB tk, .bytes cmd tc] n')]
  | send {r t : Addr} {n n' : Nat} {tk tc : Tok} : DResIs f1 f0 W .send r [(r, listOf #[.ref t] n), (t, tupObj [.bytes sendB tk, .bytes W tc] n')]
theorem step_run {P : Bool} {f1 f0 : Option (Addr × Value × Bool)} {r now : Int} {T T' : Array UInt8} {M : Option (Array UInt8)} {U U' : Option Int} {b : Addr} (h : stepOne P f1 f0 r T M U now = (T', U', .run b)) : ∃ told rep, f1 = some (b, told, rep) ∨ f0 = some (b, told, rep) := by
  have wi : ∀ (G : Res → Prop) (k : Bool) (x y : Array UInt8 × Option Int × Res), G x.2.2 → G y.2.2 → G (if k then x else y).2.2 := by
    intro G k x y a b
    cases k
    · exact b
    · exact a
  have key : ∀ G : Res → Prop, G .nil → G .send → (∀ b told rep, f1 = some (b, told, rep) ∨ f0 = some (b, told, rep) → G (.run b)) → G (stepOne P f1 f0 r T M U now).2.2 := by
    intro G g0 g1 g2
    unfold stepOne
    refine wi G _ _ _ g0 ?_
    have hm : ∀ (f : Option (Addr × Value × Bool)) (x : Array UInt8 × Option Int × Res), (∀ b told rep, f = some (b, told, rep) → G (.run b)) → G x.2.2 → G (match f with
        | some (b, _, rep) => if U.isSome && !rep then x else (passT rep r T, passU rep r now, .run b)
        | none => x).2.2 := by
      intro f x hf hx
      cases f with
      | none => exact hx
      | some y => obtain ⟨b, told, rep⟩ := y; exact wi G _ _ _ hx (hf b told rep rfl)
    refine hm f1 _ (fun b told rep e => g2 b told rep (.inl e)) ?_
    refine wi G _ _ _ g1 ?_
    refine wi G _ _ _ g0 ?_
    have hz : ∀ f : Option (Addr × Value × Bool), (∀ b told rep, f = some (b, told, rep) → G (.run b)) → G (match f with
        | some (b, _, rep) => (passT rep r rootB, passU rep r now, Res.run b)
        | none => (rootB, none, if U.isSome then .send else .nil)).2.2 := by
      intro f hf
      cases f with
      | none =>
        cases U with
        | none => exact g0
        | some _ => exact g1
      | some y => obtain ⟨b, told, rep⟩ := y; exact hf b told rep rfl
    exact hz f0 fun b told rep e => g2 b told rep (.inr e)
  have := key (fun R => ∀ b, R = .run b → ∃ told rep, f1 = some (b, told, rep) ∨ f0 = some (b, told, rep)) (fun b e => nomatch e) (fun b e => nomatch e) (fun b told rep hh b' e => by cases e; exact ⟨told, rep, hh⟩)
  rw [h] at this
  exact this b rfl
theorem here_names {T U M} (wf : Wf T U M) {now : Int} : hereT (expT T U now) M ∈ names4 := by
  have wf' := wf.exp (now := now)
  rcases wf'.t with e | e | e
  · rw [e]
    rcases wf.m with e | e <;> rw [e] <;> simp [hereT, names4]
  · rw [e]; simp [hereT, names4]
  · rw [e]; simp [hereT, names4]
theorem run_bind {w h tb r Pb S W F} (O : TabsAt w h tb r Pb S W F) {T U M} (wf : Wf T U M) {now : Int} {b : Addr} {told : Value} {rep : Bool} (h1 : F (hereT (expT T U now) M) = some (b, told, rep) ∨ F rootB = some (b, told, rep)) : BindAt h b told rep := by
  obtain ⟨td, mk, lt, c5, tP, tS, tr, mkvs, _, _, _, _, _, _, row⟩ := O.ex
  have key : ∀ T ∈ names4, F T = some (b, told, rep) → BindAt h b told rep := fun T hT e => by
    obtain ⟨rd, kvs, _, _, _, H⟩ := row T hT
    rw [e] at H
    generalize fval kvs W.toList = v at H
    cases H with | yes x => exact x
  rcases h1 with h1 | h1
  · exact key _ (here_names wf) h1
  · exact key rootB (by simp [names4]) h1
def keyPost (P : Bool) (F : Array UInt8 → Option (Addr × Value × Bool)) (r : Int) (T : Array UInt8) (U : Option Int) (M : Option (Array UInt8)) (now : Int) (res : Res) (T1 U1 : Value) : Prop :=
  ∃ T' U' t1 t2, stepOne P (F (hereT (expT T U now) M)) (F rootB) r (expT T U now) M (expU U now) now = (T', U', res) ∧ T1 = .bytes T' t1 ∧ U1 = optV U' t2
theorem one_is_key {w : World} {st sd k kd tb : Addr} {c ck : Hd} {Pb W : Array UInt8} {S : Option (Array UInt8)} {r : Int} {nm code held : Value} {tT tM tU te tn : Tok} {now : Int} {P : Bool} {F : Array UInt8 → Option (Addr × Value × Bool)} {T : Array UInt8} {U : Option Int} {M : Option (Array UInt8)}
  (hk2 : kd ≠ sd) (wf : Wf T U M) (hKW : KeyWordIs w k [(k, instObj 257 kd), (kd, keyObj ck nm code held (.int 1 te))] W) (hP : prefP Pb S W = P) :
  OneIs2 w st sd c (.ref tb) (.bytes T tT) (optB M tM) (optV U tU) k kd (keyObj ck nm code held (.int 1 te)) (.ref k) now tn (fun h => TabsAt w h tb r Pb S W F) (keyPost P F r T U M now) :=
  fun am hb N hoff hret => one_g am (news_ne N (List.Mem.head _) (List.Mem.tail _ (List.Mem.head _)) (by intro e; cases e)) (news_ne N (List.Mem.tail _ (List.Mem.tail _ (List.Mem.head _))) (List.Mem.tail _ (List.Mem.head _)) (by intro e; cases e)) hk2 N hoff wf hKW hP hb
    fun h' tk' r' own T' U' t1 t2 res st' hr F N' hl => hret h' tk' r' own res _ _ ⟨T', U', t1, t2, st', rfl, rfl⟩ hr F N' hl
theorem one_is_rel {w : World} {st sd k kd : Addr} {c ck : Hd} {tbv Mv nm code held : Value} {tT tU te tn : Tok} {now : Int} {T : Array UInt8} {U : Option Int} {Bs : Heap → Prop}
  (hk2 : kd ≠ sd) :
  OneIs2 w st sd c tbv (.bytes T tT) Mv (optV U tU) k kd (keyObj ck nm code held (.int 3 te)) (.ref k) now tn Bs (fun res T1 U1 => res = .nil ∧ (∃ t, T1 = .bytes (expT T U now) t) ∧ U1 = optV (expU U now) tU) :=
  fun am hb N hoff hret => one_rel (tW := 0) (W := #[]) am (news_ne N (List.Mem.head _) (List.Mem.tail _ (List.Mem.head _)) (by intro e; cases e)) (news_ne N (List.Mem.tail _ (List.Mem.tail _ (List.Mem.head _))) (List.Mem.tail _ (List.Mem.head _)) (by intro e; cases e)) hk2 N hoff exp_g
    fun h' tk' r' n t F N' hl => hret h' tk' r' _ .nil _ _ ⟨rfl, ⟨t, rfl⟩, rfl⟩ ResIs.nil F N' (all1 hl)
theorem one_is_oct {w : World} {st sd : Addr} {c : Hd} {tbv Mv : Value} {tT tU tW tn : Tok} {now : Int} {T W : Array UInt8} {U : Option Int} {Bs : Heap → Prop} :
  OneIs0 w st sd c tbv (.bytes T tT) Mv (optV U tU) (.bytes W tW) now tn Bs (fun res T1 U1 => res = .send ∧ (∃ t, T1 = .bytes rootB t) ∧ U1 = .none) :=
  fun am hb N hoff hret => one_oct (k := 0) (kd := 0) (ck := ⟨0, 0, 0, 0, 0, 0, 0, 0⟩) (nm := .none) (code := .none) (held := .none) (te := 0) am (news_ne N (List.Mem.head _) (List.Mem.tail _ (List.Mem.head _)) (by intro e; cases e)) N hoff exp_g
    fun h' tk' r' own t hr F N' hl => hret h' tk' r' own .send _ _ ⟨rfl, ⟨t, rfl⟩, rfl⟩ hr F N' hl
theorem stayW {h g h' : Heap} {st sd wd : Addr} {a b c : Obj} (e : g = hideAll h (List.map (·.1) [(st, a), (sd, b), (wd, c)])) (k : g.StaysIn h') : (hideAll h [st, sd, wd]).StaysIn h' := e ▸ k
theorem tabs_of {w} {g h : Heap} {tb r Pb S W F} (e : g = h) (x : TabsAt w h tb r Pb S W F) : TabsAt w g tb r Pb S W F := e ▸ x


theorem news_neO {h₀ h : Heap} {L a b : Addr} {o o' : Obj} {news : List (Addr × Obj)} (N : News h₀ L h news) (ha : (a, o) ∈ news) (hb : (b, o') ∈ news) (hc : o ≠ o') : a ≠ b := fun e => hc (by
  have h1 := (N _ ha).1
  have h2 := (N _ hb).1
  simp only at h1 h2
  rw [e, h2] at h1
  exact (Option.some.inj h1).symm)
theorem list_ne {x : Value} {n m : Nat} : (W.listOf #[x] n) ≠ (W.listOf #[] m) := by intro e; simp [W.listOf] at e
theorem tup_ne {vs : List Value} {n m : Nat} : tupObj vs n ≠ (W.listOf #[] m) := by intro e; simp [W.listOf] at e
theorem fd_ne0 {h₀ h : Heap} {L r t fd : Addr} {v : Value} {vs : List Value} {n m nf : Nat} {x1 x2 x3 : Addr × Obj} {R : List (Addr × Obj)} (N : News h₀ L h ((r, listOf #[v] n) :: (t, tupObj vs m) :: x1 :: x2 :: x3 :: (fd, listOf #[] nf) :: R)) : r ≠ fd ∧ t ≠ fd :=
  ⟨news_neO N (List.Mem.head _) (List.Mem.tail _ (List.Mem.tail _ (List.Mem.tail _ (List.Mem.tail _ (List.Mem.tail _ (List.Mem.head _)))))) list_ne, news_neO N (List.Mem.tail _ (List.Mem.head _)) (List.Mem.tail _ (List.Mem.tail _ (List.Mem.tail _ (List.Mem.tail _ (List.Mem.tail _ (List.Mem.head _)))))) tup_ne⟩
theorem fd_ne2 {h₀ h : Heap} {L r t fd : Addr} {v : Value} {vs : List Value} {n m nf : Nat} {x1 x2 x3 x4 x5 : Addr × Obj} {R : List (Addr × Obj)} (N : News h₀ L h ((r, listOf #[v] n) :: (t, tupObj vs m) :: x1 :: x2 :: x3 :: x4 :: x5 :: (fd, listOf #[] nf) :: R)) : r ≠ fd ∧ t ≠ fd :=
  ⟨news_neO N (List.Mem.head _) (List.Mem.tail _ (List.Mem.tail _ (List.Mem.tail _ (List.Mem.tail _ (List.Mem.tail _ (List.Mem.tail _ (List.Mem.tail _ (List.Mem.head _)))))))) list_ne, news_neO N (List.Mem.tail _ (List.Mem.head _)) (List.Mem.tail _ (List.Mem.tail _ (List.Mem.tail _ (List.Mem.tail _ (List.Mem.tail _ (List.Mem.tail _ (List.Mem.tail _ (List.Mem.head _)))))))) tup_ne⟩
theorem rotA {h₀ h : Heap} {L : Addr} {ls fd a b c : Addr × Obj} (N : News h₀ L h [ls, fd, a, b, c]) : News h₀ L h (ls :: a :: b :: [fd, c]) := fun p hp => N p (by simp only [List.mem_cons, List.not_mem_nil, or_false] at hp ⊢; rcases hp with h | h | h | h | h <;> simp [h])
theorem rotB {h₀ h : Heap} {L : Addr} {ls fd k kd a b c : Addr × Obj} (N : News h₀ L h [ls, fd, k, kd, a, b, c]) : News h₀ L h (ls :: a :: b :: k :: kd :: [fd, c]) := fun p hp => N p (by simp only [List.mem_cons, List.not_mem_nil, or_false] at hp ⊢; rcases hp with h | h | h | h | h | h | h <;> simp [h])
theorem rotC {h₀ h : Heap} {L : Addr} {ls fd k kd k1 kd1 a b c : Addr × Obj} (N : News h₀ L h [ls, fd, k, kd, k1, kd1, a, b, c]) : News h₀ L h (ls :: a :: b :: k :: kd :: [fd, k1, kd1, c]) := fun p hp => N p (by simp only [List.mem_cons, List.not_mem_nil, or_false] at hp ⊢; rcases hp with h | h | h | h | h | h | h | h | h <;> simp [h])


theorem reg_33 : True := by
  (k_with "exec For Tuple Call cons nil" => (k_here; (with_reducible show wpAny _ _ (exec (Stmt.For _ (Expr.Call (Expr.Attribute _ _ _) _ _ _) _ [] _) _) _ _ _); (rename Fr _ _ _ _ => lF'); (with_unfolding_all refine' For_turns lF' ?_; k_whole)))
  trivial


theorem news_get {h₀ h : Heap} {L : Addr} {a : Addr} {o : Obj} {news : List (Addr × Obj)} (N : News h₀ L h news) (h1 : (a, o) ∈ news) : h.get? a = some o := (N _ h1).1
theorem key_same {w : World} {A : Around} {E : Value → Shared → Prop} {s : Shared} {Q : Value → Shared → Prop} {h₀ : Heap} {L : Addr} {m : Str → Option Value} {k kd : Addr} (hu : A.units < cLine) (F : Fr h₀ L s.heap m) (X : (Mine.x.heap_1_39 w.params).In h₀) (hk : s.heap.get? k = some (instObj 257 kd)) (hq : Q (.bool true) s) :
    wpAny (model PySem.Challenge.rw_og0286_01.row.prog w) A (compareOp .Eq (.ref k) (.ref k)) Q E s := by
  show wpAny _ A (richCompare .Eq _ _) Q E s
  obtain ⟨h, g, d, t, os⟩ := s
  have X := X.keeps F.keep
  have ok : nsOkIn (Mine.x.heap_1_39 w.params) 256 = true := by with_unfolding_all rfl
  exact richCompare_eq_same (bm := [.type "object"]) PySem.F.cmp_object (show h.CmpInst k 257 [.type "object"] from
    ⟨instObj 257 kd, _, _, 256, _, _, _, _, _, _, _, _, _, _, _, _, _, h.nsMap 256, hk, rfl, X 257 _ (by rfl), .of_isNs (isNs_of_in X ok), nsMap_none_of_in X ok (by with_unfolding_all rfl), nsMap_none_of_in X ok (by with_unfolding_all rfl)⟩) hu hq
theorem hby_of {F : Array UInt8 → Option (Addr × Value × Bool)} (hby : ∀ T b told rep, F T = some (b, told, rep) → ∃ cmd tc, told = .bytes cmd tc) {T T' : Array UInt8} {b : Addr} {told : Value} {rep : Bool} (h : F T = some (b, told, rep) ∨ F T' = some (b, told, rep)) : ∃ cmd tc, told = .bytes cmd tc := h.elim (hby _ _ _ _) (hby _ _ _ _)

theorem reg_34 : True := by
  (k_with "compareOp Eq ref ref" => (k_here; (with_reducible show wpAny _ _ (compareOp CmpOp.Eq (Value.ref _) (Value.ref _)) _ _ _); k_dflt (refine' key_same ?uZ133 ?FZ133 ?XZ133 ?kZ133 ?_; (case uZ133 => ktr_units); (case FZ133 => k_asm); (case XZ133 => k_asm); (case kZ133 => refine news_get (by k_asm) (by k_mem)); k_whole)))
  trivial


theorem ieq_no {k n : Int} {a b : Prop} (h : k ≠ n) (hb : b) : if (k == n) = true then a else b := by rw [if_neg (by simpa using h)]; exact hb
theorem ine_yes {k n : Int} {a b : Prop} (h : k ≠ n) (ha : a) : if (k != n) = true then a else b := by rw [if_pos (by simpa using h)]; exact ha

theorem reg_35 : True := by
  (k_with "ite" => first | (with_reducible refine ieq_no ?h9Z134 ?_; (case h9Z134 => with_reducible assumption)) | (with_reducible refine ine_yes ?h9Z134 ?_; (case h9Z134 => with_reducible assumption)))
  (k_with "call ref" => (k_here; (with_reducible show wpAny _ _ (call (Value.ref 793) _ _) _ _ _); k_dflt (refine' set_mode_l ?amZ135 ?neZ135 ?NZ135 ?offZ135 ?_; (case amZ135 => (refine' Amb.mk ?aBZ135 ?aFZ135 ?aXZ135 ?aTZ135 ?akZ135 ?adZ135 ?auZ135; (case aBZ135 => k_asm); (case aFZ135 => k_asm); (case aXZ135 => k_asm); (case aTZ135 => k_asm); (case akZ135 => first | exact rfl | assumption); (case adZ135 => ktr_room); (case auZ135 => ktr_units))); (case NZ135 => k_asm); (case neZ135 => k_asm); (case offZ135 => ((repeat (refine List.forall_mem_cons.mpr ⟨?_, ?_⟩; (first | with_reducible assumption | k_ne))); (first | exact List.forall_mem_nil _ | k_asm))); k_whole; intro h9 tk9 F9 N9; (try dsimp only); (try k_fold))))
  trivial


theorem done_8 {w mean mg mb dp un gd cn cs a ccd cl outer A₀ base h₀ L m} {s : Shared} {Q E : Value → Shared → Prop} {st sd tb wd own pf : Addr} {c : Hd} {wo : Obj} {r : Int} {tr tki tW tn tT tU tM tM2 : Tok} {kind now : Int} {W T : Array UInt8} {U : Option Int} {M M2 : Option (Array UInt8)} 
  (am : Amb 35 280 w mean mg mb dp un cs outer A₀ base h₀ L m s.heap) (N0 : News h₀ L s.heap [(st, instObj 838 sd), (sd, stObj c (.ref tb) (.bytes T tT) (optB M tM) (optV U tU)), (wd, wo)]) (hwd : wd ≠ sd) {Tv Uv : Value} (hw : Obj.IsDictOf (strKind PySem.Challenge.rw_og0286_01.row.prog w) wo (wk Tv Uv (optB M2 tM2) (.ref own) (.ref pf) (.int r tr))) (hkd : kind = 8) (f1 f0 : Option (Addr × Value × Bool))
  (hret : ∀ h' tk' r' ow (t : Tok), DResIs f1 f0 W .nil r' ow → Fr h₀ L h' m → News h₀ L h' (ow ++ [(st, instObj 838 sd), (sd, stObj c (.ref tb) (.bytes T tT) (optB M2 t) (optV U tU)), (wd, wo)]) → (hideAll s.heap [st, sd, wd]).StaysIn h' → Q (.ref r') { s with heap := h', toks := tk' }) :
  wpAny (model PySem.Challenge.rw_og0286_01.row.prog w) (ktrTop dp un gd cn cs L a ccd cl outer) (call (.ref 912) [.ref st, .ref wd, .int kind tki, .bytes W tW, .int now tn]) Q E s := by
  subst hkd
  have hne : st ≠ sd := news_ne N0 (List.Mem.head _) (List.Mem.tail _ (List.Mem.head _)) (by intro e; cases e)
  obtain ⟨B, F, X, T, hk, hd, hu⟩ := am
  revert X; k_fill; intro X
  refine wpAny_call ?_
  k_dflt (refine' code_defR ?k1 ?k2 ?k3 ?k4 ?k5 ?kA ?kF ?kK ?k6 ?k7 ?k8 ?k9 ?kB ?_ ?c2 ?c3 ?c4 ?c5; (case kA => exact rfl); (case kF => exact rfl); (case kK => assumption); (case k1 => k_asm); (case k2 => k_asm); (case k3 => k_asm); (case k4 => exact N0); (case k5 => k_asm); (case k6 => k_is); (case k7 => k_is); (case k8 => ktr_room); (case k9 => exact BindsTo.of_eq rfl); (case c5 => decide); (case kB => exact locs rfl); (case c2 => exact rfl); (case c3 => exact rfl); (case c4 => exact rfl); k_whole; intro g' L' h' hg' FG' F' N' B' X' T'; (try dsimp only); (try k_lift B'); (try k_fold))
  rename (_ = hideAll _ _) => HG
  repeat' (first | (k_unfold; (try dsimp only)) | (k_end; wrow_close) | (walk1 <;> (try dsimp only)) | (leave1; walk_say "STEP leave1"; try dsimp only) | fail "no step")
  all_goals (first | exact hret _ _ _ _ _ DResIs.nil (by with_reducible assumption) (news_app (cb_drop (by with_reducible assumption) (by ((repeat (refine sub_cons ?_ ?_; k_mem)); (first | exact List.forall_mem_nil _ | ((repeat (first | exact fun p hp => hp | refine sub_skip ?_))))))) (cb_drop (by with_reducible assumption) (by ((repeat (refine sub_cons ?_ ?_; k_mem)); (first | exact List.forall_mem_nil _ | ((repeat (first | exact fun p hp => hp | refine sub_skip ?_)))))))) (stayW (by with_reducible assumption) (by with_reducible assumption)) | w_report)


theorem reg_36 : True := by
  (k_with "call ref" => (k_here; (with_reducible show wpAny _ _ (call (Value.ref 786) _ _) _ _ _); k_dflt (refine' switch_l ?amZ136 ?neZ136 ?NZ136 ?offZ136 ?_; (case amZ136 => (refine' Amb.mk ?aBZ136 ?aFZ136 ?aXZ136 ?aTZ136 ?akZ136 ?adZ136 ?auZ136; (case aBZ136 => k_asm); (case aFZ136 => k_asm); (case aXZ136 => k_asm); (case aTZ136 => k_asm); (case akZ136 => first | exact rfl | assumption); (case adZ136 => ktr_room); (case auZ136 => ktr_units))); (case NZ136 => k_asm); (case neZ136 => k_asm); (case offZ136 => ((repeat (refine List.forall_mem_cons.mpr ⟨?_, ?_⟩; (first | with_reducible assumption | k_ne))); (first | exact List.forall_mem_nil _ | k_asm))); k_whole; intro h9 tk9 F9 N9; (try dsimp only); (try k_fold))))
  trivial


theorem done_9 {w mean mg mb dp un gd cn cs a ccd cl outer A₀ base h₀ L m} {s : Shared} {Q E : Value → Shared → Prop} {st sd tb wd own pf : Addr} {c : Hd} {wo : Obj} {r : Int} {tr tki tW tn tT tU tM tM2 : Tok} {kind now : Int} {W T : Array UInt8} {U : Option Int} {M M2 : Option (Array UInt8)} 
  (am : Amb 35 280 w mean mg mb dp un cs outer A₀ base h₀ L m s.heap) (N0 : News h₀ L s.heap [(st, instObj 838 sd), (sd, stObj c (.ref tb) (.bytes T tT) (optB M tM) (optV U tU)), (wd, wo)]) (hwd : wd ≠ sd) (hkd : kind = 9) (f1 f0 : Option (Addr × Value × Bool))
  (hret : ∀ h' tk' r' ow (t : Tok), DResIs f1 f0 W .nil r' ow → Fr h₀ L h' m → News h₀ L h' (ow ++ [(st, instObj 838 sd), (sd, stObj c (.ref tb) (.bytes ownB t) (optB M tM) .none), (wd, wo)]) → (hideAll s.heap [st, sd, wd]).StaysIn h' → Q (.ref r') { s with heap := h', toks := tk' }) :
  wpAny (model PySem.Challenge.rw_og0286_01.row.prog w) (ktrTop dp un gd cn cs L a ccd cl outer) (call (.ref 912) [.ref st, .ref wd, .int kind tki, .bytes W tW, .int now tn]) Q E s := by
  subst hkd
  have hne : st ≠ sd := news_ne N0 (List.Mem.head _) (List.Mem.tail _ (List.Mem.head _)) (by intro e; cases e)
  obtain ⟨B, F, X, T, hk, hd, hu⟩ := am
  revert X; k_fill; intro X
  refine wpAny_call ?_
  k_dflt (refine' code_defR ?k1 ?k2 ?k3 ?k4 ?k5 ?kA ?kF ?kK ?k6 ?k7 ?k8 ?k9 ?kB ?_ ?c2 ?c3 ?c4 ?c5; (case kA => exact rfl); (case kF => exact rfl); (case kK => assumption); (case k1 => k_asm); (case k2 => k_asm); (case k3 => k_asm); (case k4 => exact N0); (case k5 => k_asm); (case k6 => k_is); (case k7 => k_is); (case k8 => ktr_room); (case k9 => exact BindsTo.of_eq rfl); (case c5 => decide); (case kB => exact locs rfl); (case c2 => exact rfl); (case c3 => exact rfl); (case c4 => exact rfl); k_whole; intro g' L' h' hg' FG' F' N' B' X' T'; (try dsimp only); (try k_lift B'); (try k_fold))
  rename (_ = hideAll _ _) => HG
  repeat' (first | (k_unfold; (try dsimp only)) | (k_end; wrow_close) | (walk1 <;> (try dsimp only)) | (leave1; walk_say "STEP leave1"; try dsimp only) | fail "no step")
  all_goals (first | exact hret _ _ _ _ _ DResIs.nil (by with_reducible assumption) (news_app (cb_drop (by with_reducible assumption) (by ((repeat (refine sub_cons ?_ ?_; k_mem)); (first | exact List.forall_mem_nil _ | ((repeat (first | exact fun p hp => hp | refine sub_skip ?_))))))) (cb_drop (by with_reducible assumption) (by ((repeat (refine sub_cons ?_ ?_; k_mem)); (first | exact List.forall_mem_nil _ | ((repeat (first | exact fun p hp => hp | refine sub_skip ?_)))))))) (stayW (by with_reducible assumption) (by with_reducible assumption)) | w_report)


theorem reg_37 : True := by
  (k_with "call ref" => (k_here; (with_reducible show wpAny _ _ (call (Value.ref 821) _ _) _ _ _); k_dflt (refine' feed0_g ?amZ137 (one_is_oct (Bs := fun _ => True)) ?hbZ137 ?hBZ137 ?NZ137 ?lsZ137 ?offZ137 ?_; (case amZ137 => (refine' Amb.mk ?aBZ137 ?aFZ137 ?aXZ137 ?aTZ137 ?akZ137 ?adZ137 ?auZ137; (case aBZ137 => k_asm); (case aFZ137 => k_asm); (case aXZ137 => k_asm); (case aTZ137 => k_asm); (case akZ137 => first | exact rfl | assumption); (case adZ137 => ktr_room); (case auZ137 => ktr_units))); (case hbZ137 => exact True.intro); (case hBZ137 => exact fun _ _ => True.intro); (case NZ137 => ((rename News _ _ _ _ => N8); first | exact rotA N8)); (case lsZ137 => k_ne); (case offZ137 => ((repeat (refine List.forall_mem_cons.mpr ⟨?_, ?_⟩; (first | with_reducible assumption | k_ne))); (first | exact List.forall_mem_nil _ | k_asm))); k_whole; intro h9 tk9 r9 own9 res9 T9 U9 hp9 hr9 F9 N9; (obtain ⟨e1, ⟨t9, e2⟩, e3⟩ := hp9); (subst e1 e2 e3); (cases hr9); (try simp only [List.cons_append, List.nil_append] at N9); (obtain ⟨hn9, hm9⟩ := fd_ne0 N9); (try simp only [List.cons_append, List.nil_append] at N9); (try dsimp only); (try k_fold))))
  trivial


theorem done_6 {w mean mg mb dp un gd cn cs a ccd cl outer A₀ base h₀ L m} {s : Shared} {Q E : Value → Shared → Prop} {st sd tb wd own pf : Addr} {c : Hd} {wo : Obj} {r : Int} {tr tki tW tn tT tU tM tM2 : Tok} {kind now : Int} {W T : Array UInt8} {U : Option Int} {M M2 : Option (Array UInt8)} 
  (am : Amb 35 280 w mean mg mb dp un cs outer A₀ base h₀ L m s.heap) (N0 : News h₀ L s.heap [(st, instObj 838 sd), (sd, stObj c (.ref tb) (.bytes T tT) (optB M tM) (optV U tU)), (wd, wo)]) (hwd : wd ≠ sd) (hkd : kind = 6) (f1 f0 : Option (Addr × Value × Bool))
  (hret : ∀ h' tk' r' ow (t : Tok), DResIs f1 f0 octB .send r' ow → Fr h₀ L h' m → News h₀ L h' (ow ++ [(st, instObj 838 sd), (sd, stObj c (.ref tb) (.bytes rootB t) (optB M tM) .none), (wd, wo)]) → (hideAll s.heap [st, sd, wd]).StaysIn h' → Q (.ref r') { s with heap := h', toks := tk' }) :
  wpAny (model PySem.Challenge.rw_og0286_01.row.prog w) (ktrTop dp un gd cn cs L a ccd cl outer) (call (.ref 912) [.ref st, .ref wd, .int kind tki, .bytes W tW, .int now tn]) Q E s := by
  subst hkd
  have hne : st ≠ sd := news_ne N0 (List.Mem.head _) (List.Mem.tail _ (List.Mem.head _)) (by intro e; cases e)
  obtain ⟨B, F, X, T, hk, hd, hu⟩ := am
  revert X; k_fill; intro X
  refine wpAny_call ?_
  k_dflt (refine' code_defR ?k1 ?k2 ?k3 ?k4 ?k5 ?kA ?kF ?kK ?k6 ?k7 ?k8 ?k9 ?kB ?_ ?c2 ?c3 ?c4 ?c5; (case kA => exact rfl); (case kF => exact rfl); (case kK => assumption); (case k1 => k_asm); (case k2 => k_asm); (case k3 => k_asm); (case k4 => exact N0); (case k5 => k_asm); (case k6 => k_is); (case k7 => k_is); (case k8 => ktr_room); (case k9 => exact BindsTo.of_eq rfl); (case c5 => decide); (case kB => exact locs rfl); (case c2 => exact rfl); (case c3 => exact rfl); (case c4 => exact rfl); k_whole; intro g' L' h' hg' FG' F' N' B' X' T'; (try dsimp only); (try k_lift B'); (try k_fold))
  rename (_ = hideAll _ _) => HG
  repeat' (first | (k_unfold; (try dsimp only)) | (k_end; wrow_close) | (walk1 <;> (try dsimp only)) | (leave1; walk_say "STEP leave1"; try dsimp only) | fail "no step")
  all_goals (first | exact hret _ _ _ _ _ DResIs.send (by with_reducible assumption) (news_app (cb_drop (by with_reducible assumption) (by ((repeat (refine sub_cons ?_ ?_; k_mem)); (first | exact List.forall_mem_nil _ | ((repeat (first | exact fun p hp => hp | refine sub_skip ?_))))))) (cb_drop (by with_reducible assumption) (by ((repeat (refine sub_cons ?_ ?_; k_mem)); (first | exact List.forall_mem_nil _ | ((repeat (first | exact fun p hp => hp | refine sub_skip ?_)))))))) (stayW (by with_reducible assumption) (by with_reducible assumption)) | w_report)


theorem reg_38 : True := by
  (k_with "call ref" => (k_here; (with_reducible show wpAny _ _ (call (Value.ref 321) _ _) _ _ _); k_dflt (first | (refine' read1  ?amZ138 ?NZ138 ?b1Z138 ?b2Z138 ?_; (case amZ138 => (refine' Amb.mk ?aBZ138 ?aFZ138 ?aXZ138 ?aTZ138 ?akZ138 ?adZ138 ?auZ138; (case aBZ138 => k_asm); (case aFZ138 => k_asm); (case aXZ138 => k_asm); (case aTZ138 => k_asm); (case akZ138 => first | exact rfl | assumption); (case adZ138 => ktr_room); (case auZ138 => ktr_units))); (case NZ138 => k_asm); (case b1Z138 => assumption); (case b2Z138 => assumption); k_whole; intro h9 tk9 k9 kd9 ck9 t9 u9 v9 w9 F9 N9 hne9 hk9 hd9; (have hk9' := hk9); (have hd9' := hd9); (simp only [AllLt, and_true] at hk9 hd9); (try dsimp only); (try k_fold)) | (refine' read3  ?amZ138 ?NZ138 ?b1Z138 ?b2Z138 ?_; (case amZ138 => (refine' Amb.mk ?aBZ138 ?aFZ138 ?aXZ138 ?aTZ138 ?akZ138 ?adZ138 ?auZ138; (case aBZ138 => k_asm); (case aFZ138 => k_asm); (case aXZ138 => k_asm); (case aTZ138 => k_asm); (case akZ138 => first | exact rfl | assumption); (case adZ138 => ktr_room); (case auZ138 => ktr_units))); (case NZ138 => k_asm); (case b1Z138 => assumption); (case b2Z138 => assumption); k_whole; intro h9 tk9 k9 kd9 ck9 t9 u9 v9 w9 F9 N9 hne9 hk9 hd9; (have hk9' := hk9); (have hd9' := hd9); (simp only [AllLt, and_true] at hk9 hd9); (try dsimp only); (try k_fold)))))
  (k_with "call ref" => (k_here; (with_reducible show wpAny _ _ (call (Value.ref 821) _ _) _ _ _); k_dflt (refine' feed2_g (Bs := fun _ => True) ?amZ139 ?hOZ139 ?hbZ139 ?hBZ139 ?NZ139 ?lsZ139 ?offZ139 ?_; (case NZ139 => ((rename News _ _ _ _ => N8); first | exact rotC N8)); (case amZ139 => (refine' Amb.mk ?aBZ139 ?aFZ139 ?aXZ139 ?aTZ139 ?akZ139 ?adZ139 ?auZ139; (case aBZ139 => k_asm); (case aFZ139 => k_asm); (case aXZ139 => k_asm); (case aTZ139 => k_asm); (case akZ139 => first | exact rfl | assumption); (case adZ139 => ktr_room); (case auZ139 => ktr_units))); (case hOZ139 => with_reducible exact one_is_rel (Bs := fun _ => True) (ck := ⟨_, _, _, _, _, _, _, _⟩) (by k_ne)); (case hbZ139 => exact True.intro); (case hBZ139 => exact fun _ _ => True.intro); (case lsZ139 => k_ne); (case offZ139 => ((repeat (refine List.forall_mem_cons.mpr ⟨?_, ?_⟩; (first | with_reducible assumption | k_ne))); (first | exact List.forall_mem_nil _ | k_asm))); k_whole; intro h9 tk9 r9 own9 res9 T9 U9 hp9 hr9 F9 N9; (obtain ⟨e1, ⟨t9, e2⟩, e3⟩ := hp9); (subst e1 e2 e3); (cases hr9); (try simp only [List.cons_append, List.nil_append] at N9); (try dsimp only); (try k_fold))))
  trivial


theorem done_7 {w mean mg mb dp un gd cn cs a ccd cl outer A₀ base h₀ L m} {s : Shared} {Q E : Value → Shared → Prop} {st sd tb wd own pf : Addr} {c : Hd} {wo : Obj} {r : Int} {tr tki tW tn tT tU tM tM2 : Tok} {kind now : Int} {W T : Array UInt8} {U : Option Int} {M M2 : Option (Array UInt8)} {b : UInt8}
  (am : Amb 35 280 w mean mg mb dp un cs outer A₀ base h₀ L m s.heap) (N0 : News h₀ L s.heap [(st, instObj 838 sd), (sd, stObj c (.ref tb) (.bytes T tT) (optB M tM) (optV U tU)), (wd, wo)]) (hwd : wd ≠ sd) (hkd : kind = 7) (b1 : 97 ≤ b.toNat) (b2 : b.toNat ≤ 122) (f1 f0 : Option (Addr × Value × Bool))
  (hret : ∀ h' tk' r' ow (t : Tok), DResIs f1 f0 W .nil r' ow → Fr h₀ L h' m → News h₀ L h' (ow ++ [(st, instObj 838 sd), (sd, stObj c (.ref tb) (.bytes (expT T U now) t) (optB M tM) (optV (expU U now) tU)), (wd, wo)]) → (hideAll s.heap [st, sd, wd]).StaysIn h' → Q (.ref r') { s with heap := h', toks := tk' }) :
  wpAny (model PySem.Challenge.rw_og0286_01.row.prog w) (ktrTop dp un gd cn cs L a ccd cl outer) (call (.ref 912) [.ref st, .ref wd, .int kind tki, (.bytes #[b] tW), .int now tn]) Q E s := by
  subst hkd
  have hne : st ≠ sd := news_ne N0 (List.Mem.head _) (List.Mem.tail _ (List.Mem.head _)) (by intro e; cases e)
  obtain ⟨B, F, X, T, hk, hd, hu⟩ := am
  revert X; k_fill; intro X
  refine wpAny_call ?_
  k_dflt (refine' code_defR ?k1 ?k2 ?k3 ?k4 ?k5 ?kA ?kF ?kK ?k6 ?k7 ?k8 ?k9 ?kB ?_ ?c2 ?c3 ?c4 ?c5; (case kA => exact rfl); (case kF => exact rfl); (case kK => assumption); (case k1 => k_asm); (case k2 => k_asm); (case k3 => k_asm); (case k4 => exact N0); (case k5 => k_asm); (case k6 => k_is); (case k7 => k_is); (case k8 => ktr_room); (case k9 => exact BindsTo.of_eq rfl); (case c5 => decide); (case kB => exact locs rfl); (case c2 => exact rfl); (case c3 => exact rfl); (case c4 => exact rfl); k_whole; intro g' L' h' hg' FG' F' N' B' X' T'; (try dsimp only); (try k_lift B'); (try k_fold))
  rename (_ = hideAll _ _) => HG
  repeat' (first | (k_unfold; (try dsimp only)) | (k_end; wrow_close) | (walk1 <;> (try dsimp only)) | (leave1; walk_say "STEP leave1"; try dsimp only) | fail "no step")
  all_goals (first | exact hret _ _ _ _ _ DResIs.nil (by with_reducible assumption) (news_app (cb_drop (by with_reducible assumption) (by ((repeat (refine sub_cons ?_ ?_; k_mem)); (first | exact List.forall_mem_nil _ | ((repeat (first | exact fun p hp => hp | refine sub_skip ?_))))))) (cb_drop (by with_reducible assumption) (by ((repeat (refine sub_cons ?_ ?_; k_mem)); (first | exact List.forall_mem_nil _ | ((repeat (first | exact fun p hp => hp | refine sub_skip ?_)))))))) (stayW (by with_reducible assumption) (by with_reducible assumption)) | w_report)


theorem reg_39 : True := by
  (k_with "call ref" => (k_here; (with_reducible show wpAny _ _ (call (Value.ref 321) _ _) _ _ _); k_dflt (first | (refine' read1  ?amZ140 ?NZ140 ?b1Z140 ?b2Z140 ?_; (case amZ140 => (refine' Amb.mk ?aBZ140 ?aFZ140 ?aXZ140 ?aTZ140 ?akZ140 ?adZ140 ?auZ140; (case aBZ140 => k_asm); (case aFZ140 => k_asm); (case aXZ140 => k_asm); (case aTZ140 => k_asm); (case akZ140 => first | exact rfl | assumption); (case adZ140 => ktr_room); (case auZ140 => ktr_units))); (case NZ140 => k_asm); (case b1Z140 => assumption); (case b2Z140 => assumption); k_whole; intro h9 tk9 k9 kd9 ck9 t9 u9 v9 w9 F9 N9 hne9 hk9 hd9; (have hk9' := hk9); (have hd9' := hd9); (simp only [AllLt, and_true] at hk9 hd9); (try dsimp only); (try k_fold)) | (refine' read3  ?amZ140 ?NZ140 ?b1Z140 ?b2Z140 ?_; (case amZ140 => (refine' Amb.mk ?aBZ140 ?aFZ140 ?aXZ140 ?aTZ140 ?akZ140 ?adZ140 ?auZ140; (case aBZ140 => k_asm); (case aFZ140 => k_asm); (case aXZ140 => k_asm); (case aTZ140 => k_asm); (case akZ140 => first | exact rfl | assumption); (case adZ140 => ktr_room); (case auZ140 => ktr_units))); (case NZ140 => k_asm); (case b1Z140 => assumption); (case b2Z140 => assumption); k_whole; intro h9 tk9 k9 kd9 ck9 t9 u9 v9 w9 F9 N9 hne9 hk9 hd9; (have hk9' := hk9); (have hd9' := hd9); (simp only [AllLt, and_true] at hk9 hd9); (try dsimp only); (try k_fold)))))
  (k_with "call ref" => (k_here; (with_reducible show wpAny _ _ (call (Value.ref 821) _ _) _ _ _); k_dflt (first | (refine' feed2_g ?amZ141 (one_is_key ?k2Z141 ?wfZ141 (kw1 ?b1Z141 ?b2Z141) ?hPZ141) ?hbZ141 ?hBZ141 ?NZ141 ?lsZ141 ?offZ141 ?_; (case NZ141 => ((rename News _ _ _ _ => N8); first | exact rotB N8)); (case amZ141 => (refine' Amb.mk ?aBZ141 ?aFZ141 ?aXZ141 ?aTZ141 ?akZ141 ?adZ141 ?auZ141; (case aBZ141 => k_asm); (case aFZ141 => k_asm); (case aXZ141 => k_asm); (case aTZ141 => k_asm); (case akZ141 => first | exact rfl | assumption); (case adZ141 => ktr_room); (case auZ141 => ktr_units))); (case b1Z141 => assumption); (case b2Z141 => assumption); (case k2Z141 => k_ne); (case wfZ141 => assumption); (case hPZ141 => assumption); (case hbZ141 => assumption); (case hBZ141 => exact fun x k => TabsAt.keep x k); (case lsZ141 => k_ne); (case offZ141 => ((repeat (refine List.forall_mem_cons.mpr ⟨?_, ?_⟩; (first | with_reducible assumption | k_ne))); (first | exact List.forall_mem_nil _ | k_asm))); k_whole; intro h9 tk9 r9 own9 res9 T9 U9 hp9 hr9 F9 N9; (obtain ⟨T8, U8, t8, u8, st8, e1, e2⟩ := hp9); (subst e1 e2); (cases hr9); (all_goals (try simp only [List.cons_append, List.nil_append] at N9)); (all_goals (try obtain ⟨hn9, hm9⟩ := fd_ne2 N9)); (all_goals (try (obtain ⟨told9, rep9, hf9⟩ := step_run st8; obtain ⟨bd9, cb9, key9, note9, hb9, hc9⟩ := run_bind (by assumption) (by assumption) hf9; obtain ⟨cmd9, tc9, ht9⟩ := hby_of (by assumption) hf9; subst ht9))); (all_goals ((try simp only [List.cons_append, List.nil_append] at N9); (try dsimp only); (try k_fold)))) | (refine' feed2_g ?amZ141 (one_is_key ?k2Z141 ?wfZ141 (kw3 ?b1Z141 ?b2Z141) ?hPZ141) ?hbZ141 ?hBZ141 ?NZ141 ?lsZ141 ?offZ141 ?_; (case NZ141 => ((rename News _ _ _ _ => N8); first | exact rotB N8)); (case amZ141 => (refine' Amb.mk ?aBZ141 ?aFZ141 ?aXZ141 ?aTZ141 ?akZ141 ?adZ141 ?auZ141; (case aBZ141 => k_asm); (case aFZ141 => k_asm); (case aXZ141 => k_asm); (case aTZ141 => k_asm); (case akZ141 => first | exact rfl | assumption); (case adZ141 => ktr_room); (case auZ141 => ktr_units))); (case b1Z141 => assumption); (case b2Z141 => assumption); (case k2Z141 => k_ne); (case wfZ141 => assumption); (case hPZ141 => assumption); (case hbZ141 => assumption); (case hBZ141 => exact fun x k => TabsAt.keep x k); (case lsZ141 => k_ne); (case offZ141 => ((repeat (refine List.forall_mem_cons.mpr ⟨?_, ?_⟩; (first | with_reducible assumption | k_ne))); (first | exact List.forall_mem_nil _ | k_asm))); k_whole; intro h9 tk9 r9 own9 res9 T9 U9 hp9 hr9 F9 N9; (obtain ⟨T8, U8, t8, u8, st8, e1, e2⟩ := hp9); (subst e1 e2); (cases hr9); (all_goals (try simp only [List.cons_append, List.nil_append] at N9)); (all_goals (try obtain ⟨hn9, hm9⟩ := fd_ne2 N9)); (all_goals (try (obtain ⟨told9, rep9, hf9⟩ := step_run st8; obtain ⟨bd9, cb9, key9, note9, hb9, hc9⟩ := run_bind (by assumption) (by assumption) hf9; obtain ⟨cmd9, tc9, ht9⟩ := hby_of (by assumption) hf9; subst ht9))); (all_goals ((try simp only [List.cons_append, List.nil_append] at N9); (try dsimp only); (try k_fold)))))))
  trivial


theorem done_k1 {w mean mg mb dp un gd cn cs a ccd cl outer A₀ base h₀ L m} {s : Shared} {Q E : Value → Shared → Prop} {st sd tb wd own pf : Addr} {c : Hd} {wo : Obj} {r : Int} {tr tki tW tn tT tU tM tM2 : Tok} {kind now : Int} {W T : Array UInt8} {U : Option Int} {M M2 : Option (Array UInt8)} {Pb : Array UInt8} {S : Option (Array UInt8)} {P : Bool} {F : Array UInt8 → Option (Addr × Value × Bool)} {b : UInt8}
  (am : Amb 35 280 w mean mg mb dp un cs outer A₀ base h₀ L m s.heap) (N0 : News h₀ L s.heap [(st, instObj 838 sd), (sd, stObj c (.ref tb) (.bytes T tT) (optB M tM) (optV U tU)), (wd, wo)]) (hwd : wd ≠ sd) (wf : Wf T U M) (hP : prefP Pb S #[b] = P) (O : TabsAt w (hideAll s.heap [st, sd, wd]) tb r Pb S #[b] F) (hby : ∀ T b told rep, F T = some (b, told, rep) → ∃ cmd tc, told = .bytes cmd tc) (hk8 : kind ≠ 8) (hk9 : kind ≠ 9) (hk7 : kind ≠ 7) (hk6 : kind ≠ 6) (b1 : 97 ≤ b.toNat) (b2 : b.toNat ≤ 122)
  (hret : ∀ h' tk' r' ow T' U' (t1 t2 : Tok) res, stepOne P (F (hereT (expT T U now) M)) (F rootB) r (expT T U now) M (expU U now) now = (T', U', res) → DResIs (F (hereT (expT T U now) M)) (F rootB) (#[b]) res r' ow → Fr h₀ L h' m → News h₀ L h' (ow ++ [(st, instObj 838 sd), (sd, stObj c (.ref tb) (.bytes T' t1) (optB M tM) (optV U' t2)), (wd, wo)]) → (hideAll s.heap [st, sd, wd]).StaysIn h' → Q (.ref r') { s with heap := h', toks := tk' }) :
  wpAny (model PySem.Challenge.rw_og0286_01.row.prog w) (ktrTop dp un gd cn cs L a ccd cl outer) (call (.ref 912) [.ref st, .ref wd, .int kind tki, (.bytes #[b] tW), .int now tn]) Q E s := by
  have hne : st ≠ sd := news_ne N0 (List.Mem.head _) (List.Mem.tail _ (List.Mem.head _)) (by intro e; cases e)
  obtain ⟨B, F, X, T, hk, hd, hu⟩ := am
  revert X; k_fill; intro X
  refine wpAny_call ?_
  k_dflt (refine' code_defR ?k1 ?k2 ?k3 ?k4 ?k5 ?kA ?kF ?kK ?k6 ?k7 ?k8 ?k9 ?kB ?_ ?c2 ?c3 ?c4 ?c5; (case kA => exact rfl); (case kF => exact rfl); (case kK => assumption); (case k1 => k_asm); (case k2 => k_asm); (case k3 => k_asm); (case k4 => exact N0); (case k5 => k_asm); (case k6 => k_is); (case k7 => k_is); (case k8 => ktr_room); (case k9 => exact BindsTo.of_eq rfl); (case c5 => decide); (case kB => exact locs rfl); (case c2 => exact rfl); (case c3 => exact rfl); (case c4 => exact rfl); k_whole; intro g' L' h' hg' FG' F' N' B' X' T'; (try dsimp only); (try k_lift B'); (try k_fold))
  rename (_ = hideAll _ _) => HG
  have Og := tabs_of HG O
  clear O
  repeat' (first | (k_unfold; (try dsimp only)) | (k_end; wrow_close) | (walk1 <;> (try dsimp only)) | (leave1; walk_say "STEP leave1"; try dsimp only) | fail "no step")
  all_goals (first | exact hret _ _ _ _ _ _ _ _ _ (by assumption) DResIs.nil (by with_reducible assumption) (news_app (cb_drop (by with_reducible assumption) (by ((repeat (refine sub_cons ?_ ?_; k_mem)); (first | exact List.forall_mem_nil _ | ((repeat (first | exact fun p hp => hp | refine sub_skip ?_))))))) (cb_drop (by with_reducible assumption) (by ((repeat (refine sub_cons ?_ ?_; k_mem)); (first | exact List.forall_mem_nil _ | ((repeat (first | exact fun p hp => hp | refine sub_skip ?_)))))))) (stayW (by with_reducible assumption) (by with_reducible assumption)) | exact hret _ _ _ _ _ _ _ _ _ (by assumption) (DResIs.run (by assumption)) (by with_reducible assumption) (news_app (cb_drop (by with_reducible assumption) (by ((repeat (refine sub_cons ?_ ?_; k_mem)); (first | exact List.forall_mem_nil _ | ((repeat (first | exact fun p hp => hp | refine sub_skip ?_))))))) (cb_drop (by with_reducible assumption) (by ((repeat (refine sub_cons ?_ ?_; k_mem)); (first | exact List.forall_mem_nil _ | ((repeat (first | exact fun p hp => hp | refine sub_skip ?_)))))))) (stayW (by with_reducible assumption) (by with_reducible assumption)) | exact hret _ _ _ _ _ _ _ _ _ (by assumption) DResIs.send (by with_reducible assumption) (news_app (cb_drop (by with_reducible assumption) (by ((repeat (refine sub_cons ?_ ?_; k_mem)); (first | exact List.forall_mem_nil _ | ((repeat (first | exact fun p hp => hp | refine sub_skip ?_))))))) (cb_drop (by with_reducible assumption) (by ((repeat (refine sub_cons ?_ ?_; k_mem)); (first | exact List.forall_mem_nil _ | ((repeat (first | exact fun p hp => hp | refine sub_skip ?_)))))))) (stayW (by with_reducible assumption) (by with_reducible assumption)) | w_report)


theorem reg_40 : True := by
  (k_with "call ref" => (k_here; (with_reducible show wpAny _ _ (call (Value.ref 321) _ _) _ _ _); k_dflt (first | (refine' read1  ?amZ142 ?NZ142 ?b1Z142 ?b2Z142 ?_; (case amZ142 => (refine' Amb.mk ?aBZ142 ?aFZ142 ?aXZ142 ?aTZ142 ?akZ142 ?adZ142 ?auZ142; (case aBZ142 => k_asm); (case aFZ142 => k_asm); (case aXZ142 => k_asm); (case aTZ142 => k_asm); (case akZ142 => first | exact rfl | assumption); (case adZ142 => ktr_room); (case auZ142 => ktr_units))); (case NZ142 => k_asm); (case b1Z142 => assumption); (case b2Z142 => assumption); k_whole; intro h9 tk9 k9 kd9 ck9 t9 u9 v9 w9 F9 N9 hne9 hk9 hd9; (have hk9' := hk9); (have hd9' := hd9); (simp only [AllLt, and_true] at hk9 hd9); (try dsimp only); (try k_fold)) | (refine' read3  ?amZ142 ?NZ142 ?b1Z142 ?b2Z142 ?_; (case amZ142 => (refine' Amb.mk ?aBZ142 ?aFZ142 ?aXZ142 ?aTZ142 ?akZ142 ?adZ142 ?auZ142; (case aBZ142 => k_asm); (case aFZ142 => k_asm); (case aXZ142 => k_asm); (case aTZ142 => k_asm); (case akZ142 => first | exact rfl | assumption); (case adZ142 => ktr_room); (case auZ142 => ktr_units))); (case NZ142 => k_asm); (case b1Z142 => assumption); (case b2Z142 => assumption); k_whole; intro h9 tk9 k9 kd9 ck9 t9 u9 v9 w9 F9 N9 hne9 hk9 hd9; (have hk9' := hk9); (have hd9' := hd9); (simp only [AllLt, and_true] at hk9 hd9); (try dsimp only); (try k_fold)))))
  (k_with "call ref" => (k_here; (with_reducible show wpAny _ _ (call (Value.ref 821) _ _) _ _ _); k_dflt (first | (refine' feed2_g ?amZ143 (one_is_key ?k2Z143 ?wfZ143 (kw1 ?b1Z143 ?b2Z143) ?hPZ143) ?hbZ143 ?hBZ143 ?NZ143 ?lsZ143 ?offZ143 ?_; (case NZ143 => ((rename News _ _ _ _ => N8); first | exact rotB N8)); (case amZ143 => (refine' Amb.mk ?aBZ143 ?aFZ143 ?aXZ143 ?aTZ143 ?akZ143 ?adZ143 ?auZ143; (case aBZ143 => k_asm); (case aFZ143 => k_asm); (case aXZ143 => k_asm); (case aTZ143 => k_asm); (case akZ143 => first | exact rfl | assumption); (case adZ143 => ktr_room); (case auZ143 => ktr_units))); (case b1Z143 => assumption); (case b2Z143 => assumption); (case k2Z143 => k_ne); (case wfZ143 => assumption); (case hPZ143 => assumption); (case hbZ143 => assumption); (case hBZ143 => exact fun x k => TabsAt.keep x k); (case lsZ143 => k_ne); (case offZ143 => ((repeat (refine List.forall_mem_cons.mpr ⟨?_, ?_⟩; (first | with_reducible assumption | k_ne))); (first | exact List.forall_mem_nil _ | k_asm))); k_whole; intro h9 tk9 r9 own9 res9 T9 U9 hp9 hr9 F9 N9; (obtain ⟨T8, U8, t8, u8, st8, e1, e2⟩ := hp9); (subst e1 e2); (cases hr9); (all_goals (try simp only [List.cons_append, List.nil_append] at N9)); (all_goals (try obtain ⟨hn9, hm9⟩ := fd_ne2 N9)); (all_goals (try (obtain ⟨told9, rep9, hf9⟩ := step_run st8; obtain ⟨bd9, cb9, key9, note9, hb9, hc9⟩ := run_bind (by assumption) (by assumption) hf9; obtain ⟨cmd9, tc9, ht9⟩ := hby_of (by assumption) hf9; subst ht9))); (all_goals ((try simp only [List.cons_append, List.nil_append] at N9); (try dsimp only); (try k_fold)))) | (refine' feed2_g ?amZ143 (one_is_key ?k2Z143 ?wfZ143 (kw3 ?b1Z143 ?b2Z143) ?hPZ143) ?hbZ143 ?hBZ143 ?NZ143 ?lsZ143 ?offZ143 ?_; (case NZ143 => ((rename News _ _ _ _ => N8); first | exact rotB N8)); (case amZ143 => (refine' Amb.mk ?aBZ143 ?aFZ143 ?aXZ143 ?aTZ143 ?akZ143 ?adZ143 ?auZ143; (case aBZ143 => k_asm); (case aFZ143 => k_asm); (case aXZ143 => k_asm); (case aTZ143 => k_asm); (case akZ143 => first | exact rfl | assumption); (case adZ143 => ktr_room); (case auZ143 => ktr_units))); (case b1Z143 => assumption); (case b2Z143 => assumption); (case k2Z143 => k_ne); (case wfZ143 => assumption); (case hPZ143 => assumption); (case hbZ143 => assumption); (case hBZ143 => exact fun x k => TabsAt.keep x k); (case lsZ143 => k_ne); (case offZ143 => ((repeat (refine List.forall_mem_cons.mpr ⟨?_, ?_⟩; (first | with_reducible assumption | k_ne))); (first | exact List.forall_mem_nil _ | k_asm))); k_whole; intro h9 tk9 r9 own9 res9 T9 U9 hp9 hr9 F9 N9; (obtain ⟨T8, U8, t8, u8, st8, e1, e2⟩ := hp9); (subst e1 e2); (cases hr9); (all_goals (try simp only [List.cons_append, List.nil_append] at N9)); (all_goals (try obtain ⟨hn9, hm9⟩ := fd_ne2 N9)); (all_goals (try (obtain ⟨told9, rep9, hf9⟩ := step_run st8; obtain ⟨bd9, cb9, key9, note9, hb9, hc9⟩ := run_bind (by assumption) (by assumption) hf9; obtain ⟨cmd9, tc9, ht9⟩ := hby_of (by assumption) hf9; subst ht9))); (all_goals ((try simp only [List.cons_append, List.nil_append] at N9); (try dsimp only); (try k_fold)))))))
  trivial


theorem done_k3 {w mean mg mb dp un gd cn cs a ccd cl outer A₀ base h₀ L m} {s : Shared} {Q E : Value → Shared → Prop} {st sd tb wd own pf : Addr} {c : Hd} {wo : Obj} {r : Int} {tr tki tW tn tT tU tM tM2 : Tok} {kind now : Int} {W T : Array UInt8} {U : Option Int} {M M2 : Option (Array UInt8)} {Pb : Array UInt8} {S : Option (Array UInt8)} {P : Bool} {F : Array UInt8 → Option (Addr × Value × Bool)} {b : UInt8}
  (am : Amb 35 280 w mean mg mb dp un cs outer A₀ base h₀ L m s.heap) (N0 : News h₀ L s.heap [(st, instObj 838 sd), (sd, stObj c (.ref tb) (.bytes T tT) (optB M tM) (optV U tU)), (wd, wo)]) (hwd : wd ≠ sd) (wf : Wf T U M) (hP : prefP Pb S #[67, 45, b] = P) (O : TabsAt w (hideAll s.heap [st, sd, wd]) tb r Pb S #[67, 45, b] F) (hby : ∀ T b told rep, F T = some (b, told, rep) → ∃ cmd tc, told = .bytes cmd tc) (hk8 : kind ≠ 8) (hk9 : kind ≠ 9) (hk7 : kind ≠ 7) (hk6 : kind ≠ 6) (b1 : 97 ≤ b.toNat) (b2 : b.toNat ≤ 122)
  (hret : ∀ h' tk' r' ow T' U' (t1 t2 : Tok) res, stepOne P (F (hereT (expT T U now) M)) (F rootB) r (expT T U now) M (expU U now) now = (T', U', res) → DResIs (F (hereT (expT T U now) M)) (F rootB) (#[67, 45, b]) res r' ow → Fr h₀ L h' m → News h₀ L h' (ow ++ [(st, instObj 838 sd), (sd, stObj c (.ref tb) (.bytes T' t1) (optB M tM) (optV U' t2)), (wd, wo)]) → (hideAll s.heap [st, sd, wd]).StaysIn h' → Q (.ref r') { s with heap := h', toks := tk' }) :
  wpAny (model PySem.Challenge.rw_og0286_01.row.prog w) (ktrTop dp un gd cn cs L a ccd cl outer) (call (.ref 912) [.ref st, .ref wd, .int kind tki, (.bytes #[67, 45, b] tW), .int now tn]) Q E s := by
  have hne : st ≠ sd := news_ne N0 (List.Mem.head _) (List.Mem.tail _ (List.Mem.head _)) (by intro e; cases e)
  obtain ⟨B, F, X, T, hk, hd, hu⟩ := am
  revert X; k_fill; intro X
  refine wpAny_call ?_
  k_dflt (refine' code_defR ?k1 ?k2 ?k3 ?k4 ?k5 ?kA ?kF ?kK ?k6 ?k7 ?k8 ?k9 ?kB ?_ ?c2 ?c3 ?c4 ?c5; (case kA => exact rfl); (case kF => exact rfl); (case kK => assumption); (case k1 => k_asm); (case k2 => k_asm); (case k3 => k_asm); (case k4 => exact N0); (case k5 => k_asm); (case k6 => k_is); (case k7 => k_is); (case k8 => ktr_room); (case k9 => exact BindsTo.of_eq rfl); (case c5 => decide); (case kB => exact locs rfl); (case c2 => exact rfl); (case c3 => exact rfl); (case c4 => exact rfl); k_whole; intro g' L' h' hg' FG' F' N' B' X' T'; (try dsimp only); (try k_lift B'); (try k_fold))
  rename (_ = hideAll _ _) => HG
  have Og := tabs_of HG O
  clear O
  repeat' (first | (k_unfold; (try dsimp only)) | (k_end; wrow_close) | (walk1 <;> (try dsimp only)) | (leave1; walk_say "STEP leave1"; try dsimp only) | fail "no step")
  all_goals (first | exact hret _ _ _ _ _ _ _ _ _ (by assumption) DResIs.nil (by with_reducible assumption) (news_app (cb_drop (by with_reducible assumption) (by ((repeat (refine sub_cons ?_ ?_; k_mem)); (first | exact List.forall_mem_nil _ | ((repeat (first | exact fun p hp => hp | refine sub_skip ?_))))))) (cb_drop (by with_reducible assumption) (by ((repeat (refine sub_cons ?_ ?_; k_mem)); (first | exact List.forall_mem_nil _ | ((repeat (first | exact fun p hp => hp | refine sub_skip ?_)))))))) (stayW (by with_reducible assumption) (by with_reducible assumption)) | exact hret _ _ _ _ _ _ _ _ _ (by assumption) (DResIs.run (by assumption)) (by with_reducible assumption) (news_app (cb_drop (by with_reducible assumption) (by ((repeat (refine sub_cons ?_ ?_; k_mem)); (first | exact List.forall_mem_nil _ | ((repeat (first | exact fun p hp => hp | refine sub_skip ?_))))))) (cb_drop (by with_reducible assumption) (by ((repeat (refine sub_cons ?_ ?_; k_mem)); (first | exact List.forall_mem_nil _ | ((repeat (first | exact fun p hp => hp | refine sub_skip ?_)))))))) (stayW (by with_reducible assumption) (by with_reducible assumption)) | exact hret _ _ _ _ _ _ _ _ _ (by assumption) DResIs.send (by with_reducible assumption) (news_app (cb_drop (by with_reducible assumption) (by ((repeat (refine sub_cons ?_ ?_; k_mem)); (first | exact List.forall_mem_nil _ | ((repeat (first | exact fun p hp => hp | refine sub_skip ?_))))))) (cb_drop (by with_reducible assumption) (by ((repeat (refine sub_cons ?_ ?_; k_mem)); (first | exact List.forall_mem_nil _ | ((repeat (first | exact fun p hp => hp | refine sub_skip ?_)))))))) (stayW (by with_reducible assumption) (by with_reducible assumption)) | w_report)
end
section
abbrev FT := Array UInt8 → Option (Addr × Value × Bool)
inductive Rel1 : Option (Addr × Value × Bool) → Option (Addr × Value × Bool) → Prop
  | no : Rel1 none none
  | yes {tp b : Addr} {cmd : Array UInt8} {tc tc' : Tok} {rep : Bool} : Rel1 (some (tp, .bytes cmd tc, rep)) (some (b, .bytes cmd tc', rep))
inductive RR (f1 f0 g1 g0 : Option (Addr × Value × Bool)) : Res → Res → Prop
  | nil : RR f1 f0 g1 g0 .nil .nil
  | send : RR f1 f0 g1 g0 .send .send
  | run {tp b : Addr} {cmd : Array UInt8} {tc tc' : Tok} {rep : Bool} : ((f1 = some (tp, .bytes cmd tc, rep) ∧ g1 = some (b, .bytes cmd tc', rep)) ∨ (f0 = some (tp, .bytes cmd tc, rep) ∧ g0 = some (b, .bytes cmd tc', rep))) → RR f1 f0 g1 g0 (.run tp) (.run b)
theorem step_rel {P : Bool} {f1 f0 g1 g0 : Option (Addr × Value × Bool)} {r now : Int} {T : Array UInt8} {M : Option (Array UInt8)} {U : Option Int} (h1 : Rel1 f1 g1) (h0 : Rel1 f0 g0) :
    (stepOne P f1 f0 r T M U now).1 = (stepOne P g1 g0 r T M U now).1 ∧ (stepOne P f1 f0 r T M U now).2.1 = (stepOne P g1 g0 r T M U now).2.1 ∧ RR f1 f0 g1 g0 (stepOne P f1 f0 r T M U now).2.2 (stepOne P g1 g0 r T M U now).2.2 := by
  have home : ∀ k : Bool, ∀ x y : Array UInt8 × Option Int × Res, (x.1 = y.1 ∧ x.2.1 = y.2.1 ∧ RR f1 f0 g1 g0 x.2.2 y.2.2) → ∀ x' y', (x'.1 = y'.1 ∧ x'.2.1 = y'.2.1 ∧ RR f1 f0 g1 g0 x'.2.2 y'.2.2) → ((if k then x else x').1 = (if k then y else y').1 ∧ (if k then x else x').2.1 = (if k then y else y').2.1 ∧ RR f1 f0 g1 g0 (if k then x else x').2.2 (if k then y else y').2.2) := by
    intro k x y h x' y' h'
    cases k <;> simp_all
  unfold stepOne
  refine home _ _ _ ⟨rfl, rfl, .nil⟩ _ _ ?_
  have hh : ∀ (x0 : Array UInt8 × Option Int × Res) (y0 : Array UInt8 × Option Int × Res), (x0.1 = y0.1 ∧ x0.2.1 = y0.2.1 ∧ RR f1 f0 g1 g0 x0.2.2 y0.2.2) → 
      ((match f1 with | some (b, _, rep) => if U.isSome && !rep then x0 else (passT rep r T, passU rep r now, Res.run b) | none => x0).1 = (match g1 with | some (b, _, rep) => if U.isSome && !rep then y0 else (passT rep r T, passU rep r now, Res.run b) | none => y0).1 ∧
       (match f1 with | some (b, _, rep) => if U.isSome && !rep then x0 else (passT rep r T, passU rep r now, Res.run b) | none => x0).2.1 = (match g1 with | some (b, _, rep) => if U.isSome && !rep then y0 else (passT rep r T, passU rep r now, Res.run b) | none => y0).2.1 ∧
       RR f1 f0 g1 g0 (match f1 with | some (b, _, rep) => if U.isSome && !rep then x0 else (passT rep r T, passU rep r now, Res.run b) | none => x0).2.2 (match g1 with | some (b, _, rep) => if U.isSome && !rep then y0 else (passT rep r T, passU rep r now, Res.run b) | none => y0).2.2) := by
    intro x0 y0 h
    cases h1 with
    | no => exact h
    | yes => exact home _ _ _ h _ _ ⟨rfl, rfl, .run (.inl ⟨rfl, rfl⟩)⟩
  refine hh _ _ ?_
  refine home _ _ _ ⟨rfl, rfl, .send⟩ _ _ ?_
  refine home _ _ _ ⟨rfl, rfl, .nil⟩ _ _ ?_
  cases h0 with
  | no => exact ⟨rfl, rfl, by cases U <;> simp <;> first | exact .send | exact .nil⟩
  | yes => exact ⟨rfl, rfl, .run (.inr ⟨rfl, rfl⟩)⟩
theorem law_rel {P : Bool} {F G : FT} {r now kind : Int} {T : Array UInt8} {M : Option (Array UInt8)} {U : Option Int} (h : ∀ T, Rel1 (F T) (G T)) {T1 U1 M1 R1 T2 U2 M2 R2}
    (e1 : lawStep P F r T U M kind now = (T1, U1, M1, R1)) (e2 : lawStep P G r T U M kind now = (T2, U2, M2, R2)) : T1 = T2 ∧ U1 = U2 ∧ M1 = M2 ∧ RR (F (hereT (expT T U now) M)) (F rootB) (G (hereT (expT T U now) M)) (G rootB) R1 R2 := by
  unfold lawStep at e1 e2
  have s := step_rel (P := P) (r := r) (now := now) (T := expT T U now) (M := M) (U := expU U now) (h (hereT (expT T U now) M)) (h rootB)
  by_cases k8 : kind = 8
  · rw [if_pos k8] at e1 e2; simp only [Prod.mk.injEq] at e1 e2; obtain ⟨a, b, c, d⟩ := e1; obtain ⟨a', b', c', d'⟩ := e2; subst a b c d a' b' c' d'; exact ⟨rfl, rfl, rfl, .nil⟩
  rw [if_neg k8] at e1 e2
  by_cases k9 : kind = 9
  · rw [if_pos k9] at e1 e2; simp only [Prod.mk.injEq] at e1 e2; obtain ⟨a, b, c, d⟩ := e1; obtain ⟨a', b', c', d'⟩ := e2; subst a b c d a' b' c' d'; exact ⟨rfl, rfl, rfl, .nil⟩
  rw [if_neg k9] at e1 e2
  by_cases k7 : kind = 7
  · rw [if_pos k7] at e1 e2; simp only [Prod.mk.injEq] at e1 e2; obtain ⟨a, b, c, d⟩ := e1; obtain ⟨a', b', c', d'⟩ := e2; subst a b c d a' b' c' d'; exact ⟨rfl, rfl, rfl, .nil⟩
  rw [if_neg k7] at e1 e2
  by_cases k6 : kind = 6
  · rw [if_pos k6] at e1 e2; simp only [Prod.mk.injEq] at e1 e2; obtain ⟨a, b, c, d⟩ := e1; obtain ⟨a', b', c', d'⟩ := e2; subst a b c d a' b' c' d'; exact ⟨rfl, rfl, rfl, .send⟩
  rw [if_neg k6] at e1 e2
  simp only [Prod.mk.injEq] at e1 e2
  obtain ⟨a, b, c, d⟩ := e1; obtain ⟨a', b', c', d'⟩ := e2; subst a b c d a' b' c' d'
  exact ⟨s.1, s.2.1, rfl, s.2.2⟩
def RepOk (F : FT) : Prop := ∀ T b told, F T = some (b, told, true) → T = prefB
theorem step_wf {P : Bool} {F : FT} {r now : Int} {T : Array UInt8} {M : Option (Array UInt8)} {U : Option Int} (hr : RepOk F) (wf : Wf T U M) {T1 U1 R1} (e : stepOne P (F (hereT T M)) (F rootB) r T M U now = (T1, U1, R1)) : Wf T1 U1 M := by
  have pz : Wf prefB none M := ⟨.inr (.inl rfl), fun _ => rfl, wf.m⟩
  have rz : Wf rootB none M := ⟨.inl rfl, (fun h => nomatch h), wf.m⟩
  have f0 : ∀ b told rep, F rootB = some (b, told, rep) → Wf (passT rep r rootB) (passU rep r now) M := by
    intro b told rep h
    cases rep with
    | true => exact absurd (hr _ _ _ h) (by decide)
    | false => exact rz
  have f1 : ∀ b told rep, F (hereT T M) = some (b, told, rep) → Wf (passT rep r T) (passU rep r now) M := by
    intro b told rep h
    cases rep with
    | false => exact rz
    | true =>
      have hp := hr _ _ _ h
      have hT : T = prefB := by
        rcases wf.t with e | e | e
        · subst e
          rcases wf.m with e' | e'
          · subst e'; exact absurd hp (by decide)
          · subst e'; exact absurd hp (by decide)
        · exact e
        · subst e; exact absurd hp (by simp [hereT])
      subst hT
      unfold passT passU
      by_cases h0 : 0 < r
      · simp only [h0, decide_true, Bool.and_self, if_true]; exact ⟨.inr (.inl rfl), fun _ => rfl, wf.m⟩
      · simp only [h0, decide_false, Bool.and_false]; exact rz
  have wi : ∀ (k : Bool) (x y : Array UInt8 × Option Int × Res), Wf x.1 x.2.1 M → Wf y.1 y.2.1 M → Wf (if k then x else y).1 (if k then x else y).2.1 M := by
    intro k x y a b
    cases k
    · exact b
    · exact a
  have key : Wf (stepOne P (F (hereT T M)) (F rootB) r T M U now).1 (stepOne P (F (hereT T M)) (F rootB) r T M U now).2.1 M := by
    unfold stepOne
    refine wi _ _ _ pz ?_
    have hm : ∀ x : Array UInt8 × Option Int × Res, Wf x.1 x.2.1 M → Wf (match F (hereT T M) with
        | some (b, _, rep) => if U.isSome && !rep then x else (passT rep r T, passU rep r now, .run b)
        | none => x).1 (match F (hereT T M) with
        | some (b, _, rep) => if U.isSome && !rep then x else (passT rep r T, passU rep r now, .run b)
        | none => x).2.1 M := by
      intro x hx
      cases h : F (hereT T M) with
      | none => exact hx
      | some y => obtain ⟨b, told, rep⟩ := y; exact wi _ _ _ hx (f1 _ _ _ h)
    refine hm _ ?_
    refine wi _ _ _ wf ?_
    refine wi _ _ _ pz ?_
    cases h : F rootB with
    | none => exact rz
    | some y => obtain ⟨b, told, rep⟩ := y; exact f0 _ _ _ h
  rw [e] at key
  exact key
theorem law_wf {P : Bool} {F : FT} {r now kind : Int} {T : Array UInt8} {M : Option (Array UInt8)} {U : Option Int} (hr : RepOk F) (wf : Wf T U M) {T1 U1 M1 R1} (e : lawStep P F r T U M kind now = (T1, U1, M1, R1)) : Wf T1 U1 M1 := by
  unfold lawStep at e
  split at e
  · cases e
    refine ⟨wf.t, wf.u, ?_⟩
    cases M with
    | none => exact .inr rfl
    | some _ => exact .inl rfl
  split at e
  · cases e; exact ⟨.inr (.inr rfl), (fun h => nomatch h), wf.m⟩
  split at e
  · cases e; exact wf.exp
  split at e
  · cases e; exact ⟨.inl rfl, (fun h => nomatch h), wf.m⟩
  · simp only [Prod.mk.injEq] at e
    obtain ⟨a, b, c, d⟩ := e
    subst a b c d
    exact step_wf hr wf.exp rfl
end
section
def WordOk (kind : Int) (W : Array UInt8) : Prop := ∃ b : UInt8, 97 ≤ b.toNat ∧ b.toNat ≤ 122 ∧ (W = #[b] ∨ (W = #[67, 45, b] ∧ kind ≠ 7))
theorem done_g {w mean mg mb dp un gd cn cs a ccd cl outer A₀ base h₀ L m} {s : Shared} {Q E : Value → Shared → Prop} {st sd tb wd own pf : Addr} {c : Hd} {wo : Obj} {r : Int} {tr tki tW tn tT tU tM tM2 : Tok} {kind now : Int} {Pb W T : Array UInt8} {S : Option (Array UInt8)} {P : Bool} {F : FT} {U : Option Int} {M M2 : Option (Array UInt8)} {Tv Uv : Value}
  (am : Amb 35 280 w mean mg mb dp un cs outer A₀ base h₀ L m s.heap) (N0 : News h₀ L s.heap [(st, instObj 838 sd), (sd, stObj c (.ref tb) (.bytes T tT) (optB M tM) (optV U tU)), (wd, wo)]) (hwd : wd ≠ sd) (hw : Obj.IsDictOf (strKind PySem.Challenge.rw_og0286_01.row.prog w) wo (wk Tv Uv (optB M2 tM2) (.ref own) (.ref pf) (.int r tr))) (hM : kind = 8 → M2 = togM M)
  (wf : Wf T U M) (hW : WordOk kind W) (hP : prefP Pb S W = P) (O : TabsAt w (hideAll s.heap [st, sd, wd]) tb r Pb S W F) (hby : ∀ T b told rep, F T = some (b, told, rep) → ∃ cmd tc, told = .bytes cmd tc)
  (hret : ∀ h' tk' r' ow T' U' M' (t u v : Tok) res, lawStep P F r T U M kind now = (T', U', M', res) → DResIs (F (hereT (expT T U now) M)) (F rootB) (sentW kind W) res r' ow → Fr h₀ L h' m → News h₀ L h' (ow ++ [(st, instObj 838 sd), (sd, stObj c (.ref tb) (.bytes T' t) (optB M' v) (optV U' u)), (wd, wo)]) → (hideAll s.heap [st, sd, wd]).StaysIn h' → Q (.ref r') { s with heap := h', toks := tk' }) :
  wpAny (model PySem.Challenge.rw_og0286_01.row.prog w) (ktrTop dp un gd cn cs L a ccd cl outer) (call (.ref 912) [.ref st, .ref wd, .int kind tki, .bytes W tW, .int now tn]) Q E s := by
  by_cases k8 : kind = 8
  · have sw : sentW kind W = W := by simp [sentW, k8]
    rw [sw] at hret
    have e2 := hM k8
    subst e2
    exact done_8 am N0 hwd hw k8 (F (hereT (expT T U now) M)) (F rootB) fun h' tk' r' ow t a b c d => hret h' tk' r' ow T U (togM M) tT tU t .nil (by simp [lawStep, k8]) a b c d
  by_cases k9 : kind = 9
  · have sw : sentW kind W = W := by simp [sentW, k9]
    rw [sw] at hret
    exact done_9 (own := own) (pf := pf) (r := r) (tr := tr) (tM2 := tM2) (M2 := M2) am N0 hwd k9 (F (hereT (expT T U now) M)) (F rootB) fun h' tk' r' ow t a b c d => hret h' tk' r' ow ownB none M t 0 tM .nil (by simp [lawStep, k8, k9]) a b c d
  by_cases k6 : kind = 6
  · have sw : sentW kind W = octB := by simp [sentW, k6]
    rw [sw] at hret
    exact done_6 (own := own) (pf := pf) (r := r) (tr := tr) (tM2 := tM2) (M2 := M2) am N0 hwd k6 (F (hereT (expT T U now) M)) (F rootB) fun h' tk' r' ow t a b c d => hret h' tk' r' ow rootB none M t 0 tM .send (by simp [lawStep, k6]) a b c d
  have sw : sentW kind W = W := by simp [sentW, k6]
  rw [sw] at hret
  obtain ⟨b, b1, b2, hb⟩ := hW
  by_cases k7 : kind = 7
  · have e : W = #[b] := hb.elim id fun h => absurd k7 h.2
    subst e
    exact done_7 (W := #[b]) (own := own) (pf := pf) (r := r) (tr := tr) (tM2 := tM2) (M2 := M2) am N0 hwd k7 b1 b2 (F (hereT (expT T U now) M)) (F rootB) fun h' tk' r' ow t a b c d => hret h' tk' r' ow (expT T U now) (expU U now) M t tU tM .nil (by simp [lawStep, k7]) a b c d
  have fin : ∀ x, stepOne P (F (hereT (expT T U now) M)) (F rootB) r (expT T U now) M (expU U now) now = x → lawStep P F r T U M kind now = (x.1, x.2.1, M, x.2.2) := by
    intro x hx
    subst hx
    simp [lawStep, k6, k7, k8, k9]
  rcases hb with e | ⟨e, _⟩
  · subst e
    exact done_k1 (W := #[b]) (own := own) (pf := pf) (tr := tr) (tM2 := tM2) (M2 := M2) am N0 hwd wf hP O hby k8 k9 k7 k6 b1 b2 fun h' tk' r' ow T' U' t1 t2 res st a b c d => hret h' tk' r' ow T' U' M t1 t2 tM res (fin (T', U', res) st) a b c d
  · subst e
    exact done_k3 (W := #[67, 45, b]) (own := own) (pf := pf) (tr := tr) (tM2 := tM2) (M2 := M2) am N0 hwd wf hP O hby k8 k9 k7 k6 b1 b2 fun h' tk' r' ow T' U' t1 t2 res st a b c d => hret h' tk' r' ow T' U' M t1 t2 tM res (fin (T', U', res) st) a b c d
theorem done_r {w mean mg mb dp un gd cn cs a ccd cl outer A₀ base h₀ L m} {s : Shared} {Q E : Value → Shared → Prop} {st sd tb wd own pf : Addr} {c : Hd} {wo : Obj} {r : Int} {tr tki tW tn tT tU tM tM2 : Tok} {kind now : Int} {Pb W T : Array UInt8} {S : Option (Array UInt8)} {P : Bool} {F : FT} {U : Option Int} {M M2 : Option (Array UInt8)} {Tv Uv : Value} {rest : List (Addr × Obj)}
  (am : Amb 35 280 w mean mg mb dp un cs outer A₀ base h₀ L m s.heap) (N : News h₀ L s.heap ((st, instObj 838 sd) :: (sd, stObj c (.ref tb) (.bytes T tT) (optB M tM) (optV U tU)) :: (wd, wo) :: rest)) (hwd : wd ≠ sd) (hoff : ∀ p ∈ rest, p.1 ≠ sd) (hw : Obj.IsDictOf (strKind PySem.Challenge.rw_og0286_01.row.prog w) wo (wk Tv Uv (optB M2 tM2) (.ref own) (.ref pf) (.int r tr))) (hM : kind = 8 → M2 = togM M)
  (wf : Wf T U M) (hW : WordOk kind W) (hP : prefP Pb S W = P) (O : TabsAt w h₀ tb r Pb S W F) (hby : ∀ T b told rep, F T = some (b, told, rep) → ∃ cmd tc, told = .bytes cmd tc)
  (hret : ∀ h' tk' r' ow T' U' M' (t u v : Tok) res, lawStep P F r T U M kind now = (T', U', M', res) → DResIs (F (hereT (expT T U now) M)) (F rootB) (sentW kind W) res r' ow → Fr h₀ L h' m → News h₀ L h' (ow ++ ((st, instObj 838 sd) :: (sd, stObj c (.ref tb) (.bytes T' t) (optB M' v) (optV U' u)) :: (wd, wo) :: rest)) → Q (.ref r') { s with heap := h', toks := tk' }) :
  wpAny (model PySem.Challenge.rw_og0286_01.row.prog w) (ktrTop dp un gd cn cs L a ccd cl outer) (call (.ref 912) [.ref st, .ref wd, .int kind tki, .bytes W tW, .int now tn]) Q E s := by
  have NA : News h₀ L s.heap [(st, instObj 838 sd), (sd, stObj c (.ref tb) (.bytes T tT) (optB M tM) (optV U tU)), (wd, wo)] := fun p hp => N p (by simp only [List.mem_cons, List.not_mem_nil, or_false] at hp ⊢; rcases hp with h | h | h <;> simp [h])
  have NB : News h₀ L s.heap rest := fun p hp => N p (by simp [hp])
  refine done_g am NA hwd hw hM wf hW hP (O.keep (ground_in am.F NA)) hby fun h' tk' r' ow T' U' M' t u v res st' a b d e => hret h' tk' r' ow T' U' M' t u v res st' a b ?_
  have NR := news_rest (d := sd) NA NB e d (by (refine List.forall_mem_cons.mpr ⟨.inl (by simp), ?_⟩); (refine List.forall_mem_cons.mpr ⟨.inr rfl, ?_⟩); (refine List.forall_mem_cons.mpr ⟨.inl (by simp), ?_⟩); exact List.forall_mem_nil _) hoff
  have N2 := news_app d NR
  rw [List.append_assoc] at N2
  exact N2
theorem due_m {w mean mg mb dp un gd cn cs a ccd cl outer A₀ base h₀ L m} {s : Shared} {Q E : Value → Shared → Prop} {wd own pf : Addr} {wo : Obj} {r : Int} {tr : Tok} {Pb W : Array UInt8} {S : Option (Array UInt8)} {t1 t2 : Tok} {okvs : List (List UInt8 × Value)} {F : FT} {T : Array UInt8} {U : Option Int} {M : Option (Array UInt8)} {tT tU tM tW tn tki : Tok} {kind : Int} {now : Int} {P : Bool} {rest : List (Addr × Obj)}
  (am : Amb 25 200 w mean mg mb dp un cs outer A₀ base h₀ L m s.heap) (N : News h₀ L s.heap ((wd, wo) :: rest)) (hoff : ∀ p ∈ rest, p.1 ≠ wd) (hw : Obj.IsDictOf (strKind PySem.Challenge.rw_og0286_01.row.prog w) wo (wk (.bytes T tT) (optV U tU) (optB M tM) (.ref own) (.ref pf) (.int r tr))) (wf : Wf T U M) (hpf : h₀.IsList pf (pfVals Pb S t1 t2).toArray) (hP : prefP Pb S W = P) (O : OwnAt w h₀ own okvs W F)
  (hret : ∀ h' tk' wo' r' ow T' U' M' (t u v : Tok) res, lawStep P F r T U M kind now = (T', U', M', res) → Obj.IsDictOf (strKind PySem.Challenge.rw_og0286_01.row.prog w) wo' (wk (.bytes T' t) (optV U' u) (optB M' v) (.ref own) (.ref pf) (.int r tr)) → LResIs (F (hereT (expT T U now) M)) (F rootB) (sentW kind W) res r' ow → Fr h₀ L h' m → News h₀ L h' (ow ++ (wd, wo') :: rest) → (∀ q ∈ ow, AllLt q.1 [(wd, wo)]) → Q (.ref r') { s with heap := h', toks := tk' }) :
  wpAny (model PySem.Challenge.rw_og0286_01.row.prog w) (ktrTop dp un gd cn cs L a ccd cl outer) (call (.ref 905) [.ref wd, .int kind tki, .bytes W tW, .int now tn]) Q E s := by
  have NA : News h₀ L s.heap [(wd, wo)] := fun p hp => N p (by rw [List.mem_singleton.mp hp]; exact List.Mem.head _)
  have k := ground_in am.F NA
  exact due_r am N hoff hw wf (list_keep k hpf) hP (O.keep k) fun h' tk' wo' r' ow T' U' M' t u v res a b c d e f g => hret h' tk' wo' r' ow T' U' M' t u v res a b c d e f
theorem own_fun {w h own okvs W} {F : FT} (O : OwnAt w h own okvs W F) {T T' : Array UInt8} (hT : T ∈ names4) (hT' : T' ∈ names4) {tp : Addr} {v v' : Value} {rep rep' : Bool} (e : F T = some (tp, v, rep)) (e' : F T' = some (tp, v', rep')) : v = v' := by
  obtain ⟨_, kvs, _, _, _, H⟩ := O.row T hT
  obtain ⟨_, kvs', _, _, _, H'⟩ := O.row T' hT'
  rw [e] at H
  rw [e'] at H'
  generalize fval kvs W.toList = x at H
  generalize fval kvs' W.toList = x' at H'
  cases H with
  | yes g =>
    cases H' with
    | yes g' =>
      rw [g] at g'
      have := congrArg Obj.data (Option.some.inj g')
      simp only [Data.seq.injEq] at this
      have t := this.1
      simp at t
      rw [t.1.1, t.1.2]
theorem tabs_fun {w h tb r Pb S W} {F : FT} (O : TabsAt w h tb r Pb S W F) {T T' : Array UInt8} (hT : T ∈ names4) (hT' : T' ∈ names4) {b : Addr} {v v' : Value} {rep rep' : Bool} (e : F T = some (b, v, rep)) (e' : F T' = some (b, v', rep')) : v = v' := by
  obtain ⟨td, mk, lt, c5, tP, tS, tr, mkvs, _, _, _, _, _, _, row⟩ := O.ex
  obtain ⟨_, kvs, _, _, _, H⟩ := row T hT
  obtain ⟨_, kvs', _, _, _, H'⟩ := row T' hT'
  rw [e] at H
  rw [e'] at H'
  generalize fval kvs W.toList = x at H
  generalize fval kvs' W.toList = x' at H'
  cases H with
  | yes g =>
    cases H' with
    | yes g' =>
      obtain ⟨bd, cb, key, note, g1, g2⟩ := g
      obtain ⟨bd', cb', key', note', g1', g2'⟩ := g'
      rw [g1] at g1'
      have hb : bd = bd' := by
        have := congrArg Obj.dict (Option.some.inj g1')
        exact Option.some.inj this
      subst hb
      rw [g2] at g2'
      have := congrArg Obj.data (Option.some.inj g2')
      simp at this
      exact this.2.1.2.2
inductive SameRes : Addr → List (Addr × Obj) → Addr → List (Addr × Obj) → Prop
  | nil {r r' : Addr} {n n' : Nat} : SameRes r [(r, listOf #[] n)] r' [(r', listOf #[] n')]
  | one {r r' t t' : Addr} {n n' k k' : Nat} {x y : Array UInt8} {a a' b b' : Tok} : SameRes r [(r, listOf #[.ref t] n), (t, tupObj [.bytes x a, .bytes y b] k)] r' [(r', listOf #[.ref t'] n'), (t', tupObj [.bytes x a', .bytes y b'] k')]
theorem same_res {f1 f0 g1 g0 : Option (Addr × Value × Bool)} {W : Array UInt8} {R1 R2 : Res} {r r' : Addr} {ow ow' : List (Addr × Obj)} (x : LResIs f1 f0 W R1 r ow) (y : DResIs g1 g0 W R2 r' ow') (h : RR f1 f0 g1 g0 R1 R2)
  (i1 : ∀ tp v v' rep rep', (f1 = some (tp, v, rep) ∨ f0 = some (tp, v, rep)) → (f1 = some (tp, v', rep') ∨ f0 = some (tp, v', rep')) → v = v')
  (i2 : ∀ tp v v' rep rep', (g1 = some (tp, v, rep) ∨ g0 = some (tp, v, rep)) → (g1 = some (tp, v', rep') ∨ g0 = some (tp, v', rep')) → v = v') : SameRes r ow r' ow' := by
  cases h with
  | nil => cases x; cases y; exact .nil
  | send => cases x; cases y; exact .one
  | run hh =>
    cases x with
    | run hx =>
      cases y with
      | run hy =>
        have a := i1 _ _ _ _ _ hx (hh.elim (fun z => .inl z.1) (fun z => .inr z.1))
        have b := i2 _ _ _ _ _ hy (hh.elim (fun z => .inl z.2) (fun z => .inr z.2))
        simp only [Value.bytes.injEq] at a b
        obtain ⟨a, _⟩ := a
        obtain ⟨b, _⟩ := b
        subst a
        subst b
        exact .one
end
section
section
variable {prog : Program} {w : World} {A : Around} {E : Value → Shared → Prop} {s : Shared} {env : Env} {h₀ : Heap} {body : List Stmt} {Q : Flow → Shared → Prop}
def lawMap (m₀ : Str → Option Value) (vc vk vw vd : Option Value) (now : Int) (tn : Tok) : Str → Option Value := fun z =>
  if z = Str.ofString "cell" then vc else if z = Str.ofString "kind" then vk else if z = Str.ofString "word" then vw else if z = Str.ofString "due" then vd else if z = Str.ofString "now" then some (.int now tn) else m₀ z
def lawLed (st sd wd sl tb : Addr) (vs : List Value) (nn : Nat) (tl : List (Addr × Obj)) (c : Hd) (wo : Obj) (T : Array UInt8) (U : Option Int) (M : Option (Array UInt8)) (tT tU tM : Tok) : List (Addr × Obj) :=
  (st, instObj 838 sd) :: (sd, stObj c (.ref tb) (.bytes T tT) (optB M tM) (optV U tU)) :: (wd, wo) :: (sl, W.listOf vs.toArray nn) :: tl
inductive LawAt (w : World) (st sd wd sl tb own pf : Addr) (r : Int) (tr : Tok) (vs : List Value) (nn : Nat) (tl : List (Addr × Obj)) (c : Hd) (m₀ : Str → Option Value) (m : Str → Option Value) (news : List (Addr × Obj)) : Prop
  | mk (vc vk vw vd : Option Value) (now : Int) (tn : Tok) (T : Array UInt8) (U : Option Int) (M : Option (Array UInt8)) (tT tU tM : Tok) (wo : Obj) (aT aU aM : Tok) (e1 : m = lawMap m₀ vc vk vw vd now tn) (e2 : news = lawLed st sd wd sl tb vs nn tl c wo T U M tT tU tM) (wf : Wf T U M)
      (hw : Obj.IsDictOf (strKind PySem.Challenge.rw_og0286_01.row.prog w) wo (wk (.bytes T aT) (optV U aU) (optB M aM) (.ref own) (.ref pf) (.int r tr))) : LawAt w st sd wd sl tb own pf r tr vs nn tl c m₀ m news
inductive LawNext (w : World) (h₀ : Heap) (L st sd wd tb own pf : Addr) (r : Int) (tr : Tok) (c : Hd) (m₀ : Str → Option Value) (R : List (Addr × Obj)) (s₁ s₂ : Shared) : Prop
  | mk (h' : Heap) (tk : Nat) (vc vk vw vd : Option Value) (now : Int) (tn : Tok) (T : Array UInt8) (U : Option Int) (M : Option (Array UInt8)) (tT tU tM : Tok) (wo : Obj) (aT aU aM : Tok) (e : s₂ = { s₁ with heap := h', toks := tk }) (F : Fr h₀ L h' (lawMap m₀ vc vk vw vd now tn))
      (N : News h₀ L h' ((st, instObj 838 sd) :: (sd, stObj c (.ref tb) (.bytes T tT) (optB M tM) (optV U tU)) :: (wd, wo) :: R)) (wf : Wf T U M)
      (hw : Obj.IsDictOf (strKind PySem.Challenge.rw_og0286_01.row.prog w) wo (wk (.bytes T aT) (optV U aU) (optB M aM) (.ref own) (.ref pf) (.int r tr))) : LawNext w h₀ L st sd wd tb own pf r tr c m₀ R s₁ s₂
def LawTurn (w : World) (h₀ : Heap) (L : Addr) (st sd wd sl tb own pf : Addr) (r : Int) (tr : Tok) (vs : List Value) (nn : Nat) (tl : List (Addr × Obj)) (c : Hd) (m₀ : Str → Option Value) (its : List (Addr × Obj)) (s₁ : Shared) (Q : Flow → Shared → Prop) (f : Flow) (s₂ : Shared) : Prop := match f with
  | .ret v => Q (.ret v) s₂
  | .brk => Q .next s₂
  | _ => LawNext w h₀ L st sd wd tb own pf r tr c m₀ ((sl, W.listOf vs.toArray nn) :: (tl ++ its)) s₁ s₂
theorem law_iter {st sd wd sl tb own pf : Addr} {r : Int} {tr : Tok} {vs : List Value} {nn : Nat} {ns : List Int} {tl : List (Addr × Obj)} {c : Hd} {wo : Obj} {m₀ : Str → Option Value} {T : Array UInt8} {U : Option Int} {M : Option (Array UInt8)} {tT tU tM aT aU aM tn0 : Tok} {now0 : Int}
    (hh : A.handled = none) (hi : IntsAre vs ns) (F : Fr h₀ env.locals s.heap m₀) (hnow : m₀ (Str.ofString "now") = some (.int now0 tn0)) (N : News h₀ env.locals s.heap (lawLed st sd wd sl tb vs nn tl c wo T U M tT tU tM)) (wf : Wf T U M)
    (hw : Obj.IsDictOf (strKind PySem.Challenge.rw_og0286_01.row.prog w) wo (wk (.bytes T aT) (optV U aU) (optB M aM) (.ref own) (.ref pf) (.int r tr)))
    (turn : ∀ n t vk vw vd now tn T U M tT tU tM wo aT aU aM h tk its, n ∈ ns → Wf T U M → Obj.IsDictOf (strKind PySem.Challenge.rw_og0286_01.row.prog w) wo (wk (.bytes T aT) (optV U aU) (optB M aM) (.ref own) (.ref pf) (.int r tr)) →
      OwnOff its ((lawLed st sd wd sl tb vs nn tl c wo T U M tT tU tM).map (·.1)) → Fr h₀ env.locals h (lawMap m₀ (some (.int n t)) vk vw vd now tn) → News h₀ env.locals h (lawLed st sd wd sl tb vs nn tl c wo T U M tT tU tM ++ its) →
      wpAny (model prog w) A (execs body env) (LawTurn w h₀ env.locals st sd wd sl tb own pf r tr vs nn tl c m₀ its { s with heap := h, toks := tk } Q) E { s with heap := h, toks := tk })
    (done : ∀ m' h tk, Fr h₀ env.locals h m' → Q .next { s with heap := h, toks := tk }) :
    wpAny (model prog w) A (pyIter (.ref sl)) (fun it s₂ => LoopAtV prog w A h₀ env (Str.ofString "cell") body Q E it s₂) E s := by
  refine iter_invNL (nn := nn) (fun _ m n => LawAt w st sd wd sl tb own pf r tr vs nn tl c m₀ m n) hh (news := lawLed st sd wd sl tb vs nn tl c wo T U M tT tU tM) (.tail _ (.tail _ (.tail _ (.head _)))) hi F N ⟨m₀ (Str.ofString "cell"), m₀ (Str.ofString "kind"), m₀ (Str.ofString "word"), m₀ (Str.ofString "due"), now0, tn0, T, U, M, tT, tU, tM, wo, aT, aU, aM, ?_, rfl, wf, hw⟩ ?_ ?_
  · funext z
    unfold lawMap
    by_cases h1 : z = Str.ofString "cell"
    · rw [if_pos h1, h1]
    rw [if_neg h1]
    by_cases h2 : z = Str.ofString "kind"
    · rw [if_pos h2, h2]
    rw [if_neg h2]
    by_cases h3 : z = Str.ofString "word"
    · rw [if_pos h3, h3]
    rw [if_neg h3]
    by_cases h4 : z = Str.ofString "due"
    · rw [if_pos h4, h4]
    rw [if_neg h4]
    by_cases h5 : z = Str.ofString "now"
    · rw [if_pos h5, h5]; exact hnow
    rw [if_neg h5]
  · intro i n t m₁ news₁ h tk its hn hadr hoff hmem hJ F₁ N₁
    obtain ⟨vc, vk, vw, vd, now, tn, T', U', M', tT', tU', tM', wo', aT', aU', aM', rfl, rfl, wf', hw'⟩ := hJ
    have em : (fun y => if y = Str.ofString "cell" then some (Value.int n t) else lawMap m₀ vc vk vw vd now tn y) = lawMap m₀ (some (.int n t)) vk vw vd now tn := by
      funext y
      unfold lawMap
      by_cases h1 : y = Str.ofString "cell"
      · rw [if_pos h1, if_pos h1]
      · rw [if_neg h1, if_neg h1, if_neg h1]
    rw [em] at F₁
    refine wpAny_mono (turn n t vk vw vd now tn T' U' M' tT' tU' tM' wo' aT' aU' aM' h tk its (List.mem_of_getElem? hn) wf' hw' (by rw [show (lawLed st sd wd sl tb vs nn tl c wo' T' U' M' tT' tU' tM').map (·.1) = (lawLed st sd wd sl tb vs nn tl c wo T U M tT tU tM).map (·.1) from hadr]; exact hoff) F₁ N₁) (fun f s₂ p => ?_) fun _ _ e => e
    have fin : LawNext w h₀ env.locals st sd wd tb own pf r tr c m₀ ((sl, W.listOf vs.toArray nn) :: (tl ++ its)) { s with heap := h, toks := tk } s₂ →
        InvEndN h₀ env.locals (fun m' nx => (sl, W.listOf vs.toArray nn) ∈ nx ∧ LawAt w st sd wd sl tb own pf r tr vs nn tl c m₀ m' nx) its ((lawLed st sd wd sl tb vs nn tl c wo T U M tT tU tM).map (·.1)) { s with heap := h, toks := tk } s₂ := by
      rintro ⟨h', tk', vc, vk, vw, vd, now, tn, T, U, M, tT, tU, tM, wo, aT, aU, aM, e, F', N', wf'', hw''⟩
      exact ⟨h', tk', _, _, lawLed st sd wd sl tb vs nn tl c wo T U M tT tU tM, e, F', N', fun p hp => List.mem_append_left _ hp, fun p hp => .tail _ (.tail _ (.tail _ (.tail _ (List.mem_append_right _ hp)))), rfl, .tail _ (.tail _ (.tail _ (.head _))), ⟨vc, vk, vw, vd, now, tn, T, U, M, tT, tU, tM, wo, aT, aU, aM, rfl, rfl, wf'', hw''⟩⟩
    cases f with
    | ret v => exact p
    | brk => exact p
    | next => exact fin p
    | cont => exact fin p
  · intro m₁ news₁ h tk _ _ F₁ _
    exact done m₁ h tk F₁
end
theorem wp_cut {α : Type} {M : Model} {A : Around} {t : Sem α} {Q : α → Shared → Prop} {E : Value → Shared → Prop} {s : Shared} (P : α → Shared → Prop) (h : wpAny M A t P E s) (k : ∀ v s', P v s' → Q v s') : wpAny M A t Q E s := wpAny_mono h k fun _ _ e => e
def CutInt (h₀ : Heap) (L : Addr) (m : Str → Option Value) (news : List (Addr × Obj)) (s : Shared) (v : Value) (s' : Shared) : Prop := ∃ n t h' tk, v = .int n t ∧ s' = { s with heap := h', toks := tk } ∧ 0 ≤ n ∧ Fr h₀ L h' m ∧ News h₀ L h' news
theorem cut_int {M : Model} {A : Around} {t : Sem Value} {Q : Value → Shared → Prop} {E : Value → Shared → Prop} {s : Shared} {h₀ : Heap} {L : Addr} {m : Str → Option Value} {news : List (Addr × Obj)} (F : Fr h₀ L s.heap m) (N : News h₀ L s.heap news)
    (h : wpAny M A t (CutInt h₀ L m news s) E s) (k : ∀ n t h' tk, 0 ≤ n → Fr h₀ L h' m → News h₀ L h' news → Q (.int n t) { s with heap := h', toks := tk }) : wpAny M A t Q E s :=
  wp_cut _ h fun v s' ⟨n, t, h', tk, e, e', hn, F', N'⟩ => by subst e e'; exact k n t h' tk hn F' N'
def CutWord (kind : Int) (h₀ : Heap) (L : Addr) (m : Str → Option Value) (news : List (Addr × Obj)) (s : Shared) (v : Value) (s' : Shared) : Prop := ∃ W t h' tk, v = .bytes W t ∧ s' = { s with heap := h', toks := tk } ∧ WordOk kind W ∧ Fr h₀ L h' m ∧ News h₀ L h' news
theorem cut_word {M : Model} {A : Around} {t : Sem Value} {Q : Value → Shared → Prop} {E : Value → Shared → Prop} {s : Shared} {h₀ : Heap} {L : Addr} {m : Str → Option Value} {news : List (Addr × Obj)} (kind : Int) (F : Fr h₀ L s.heap m) (N : News h₀ L s.heap news)
    (h : wpAny M A t (CutWord kind h₀ L m news s) E s) (k : ∀ W t h' tk, WordOk kind W → Fr h₀ L h' m → News h₀ L h' news → Q (.bytes W t) { s with heap := h', toks := tk }) : wpAny M A t Q E s :=
  wp_cut _ h fun v s' ⟨n, t, h', tk, e, e', hn, F', N'⟩ => by subst e e'; exact k n t h' tk hn F' N'
theorem cell0 {prog : Program} {w : World} {A : Around} {E : Value → Shared → Prop} {s : Shared} {value slice : PySem.Expr} {h₀ : Heap} {L l : Addr} {ys : List Value} {ks : List Int} {u : Tok} {Q : Value → Shared → Prop} {news : List (Addr × Obj)} (N : News h₀ L s.heap news) (hm : (l, LCg.lst ys) ∈ news) (hI : IntsAre ys ks) (hne : decide (ks = []) = false) (hp : ∀ k ∈ ks, 0 ≤ k)
    (h : ∀ n t, 0 ≤ n → Q (.int n t) s) (hs : subscripted slice false (.ref l) (.int 0 u) = operate [.ref l, .int 0 u] (getItem (.ref l) (.int 0 u))) :
    wpAny (model prog w) A (subscriptTail value slice (.ref l) (.int 0 u)) Q E s := by
  have hne' : ks ≠ [] := of_decide_eq_false hne
  obtain ⟨k, kr, rfl⟩ := List.exists_cons_of_ne_nil hne'
  obtain ⟨t, hx⟩ := hI.get 0 k rfl
  exact item_litK (vs := ys) (show s.heap.IsList l ys.toArray from ⟨_, (N _ hm).1, rfl, _, rfl⟩) (by decide) (by decide) hx (h k t (hp k (by simp))) hs
theorem fmod_nonneg {l : List Int} : ∀ k ∈ List.map (fun k' => Int.fmod k' 1000000007) l, (0 : Int) ≤ k := by
  intro k hk
  obtain ⟨x, _, rfl⟩ := List.mem_map.mp hk
  exact Int.fmod_nonneg_of_pos _ (by decide)
end
section
local macro_rules | `(tactic| k_room) => `(tactic| ktr_room)
local macro_rules | `(tactic| k_all) => `(tactic| assumption)
local macro_rules | `(tactic| k_inst) => `(tactic| (refine' inst_base ?iF ?ih1 ?ih2; (case iF => k_asm); (case ih1 => k_asm); (case ih2 => k_asm)))

theorem reg_41 : True := by
  k_with_none
  (k_with "room" => ((with_reducible rename _ + _ < recursionLimit => hR9); first | exact room_k 4 hR9 | exact room_k 37 hR9 | exact room_k 9 hR9 | exact room_k 5 hR9 | exact room_k 14 hR9 | exact room_k 10 hR9 | exact room_k 19 hR9 | exact room_k 15 hR9 | exact room_k 20 hR9 | exact room_k 25 hR9 | exact room_k 35 hR9 | exact room_k 13 hR9 | exact room_k 1 hR9 | exact room_k 38 hR9 | exact room_k 23 hR9 | exact room_k 24 hR9 | exact room_k 29 hR9 | exact room_k 8 hR9 | exact room_k 40 hR9 | exact room_k 39 hR9 | exact room_k 44 hR9 | exact room_k 17 hR9 | exact room_k 21 hR9 | exact room_k 30 hR9 | exact room_k 33 hR9 | exact room_k 16 hR9 | exact room_k 2 hR9 | exact room_k 43 hR9 | exact room_k 7 hR9 | exact room_k 45 hR9 | exact room_k 0 hR9 | exact room_k 3 hR9 | exact room_k 6 hR9 | exact room_k 11 hR9 | exact room_k 12 hR9 | exact room_k 18 hR9 | exact room_k 22 hR9 | exact room_k 26 hR9 | exact room_k 27 hR9 | exact room_k 28 hR9 | exact room_k 31 hR9 | exact room_k 32 hR9 | exact room_k 34 hR9 | exact room_k 36 hR9 | exact room_k 41 hR9 | exact room_k 42 hR9))
  (k_with "units" => ((with_reducible rename _ + _ < cLine => hR9); first | exact room_k 37 hR9 | exact room_k 77 hR9 | exact room_k 117 hR9 | exact room_k 157 hR9 | exact room_k 237 hR9 | exact room_k 197 hR9 | exact room_k 151 hR9 | exact room_k 133 hR9 | exact room_k 277 hR9 | exact room_k 317 hR9 | exact room_k 357 hR9 | exact room_k 4 hR9 | exact room_k 9 hR9 | exact room_k 5 hR9 | exact room_k 14 hR9 | exact room_k 10 hR9 | exact room_k 19 hR9 | exact room_k 15 hR9 | exact room_k 20 hR9 | exact room_k 25 hR9 | exact room_k 35 hR9 | exact room_k 13 hR9 | exact room_k 1 hR9 | exact room_k 38 hR9 | exact room_k 23 hR9 | exact room_k 24 hR9 | exact room_k 29 hR9 | exact room_k 8 hR9 | exact room_k 40 hR9 | exact room_k 39 hR9 | exact room_k 44 hR9 | exact room_k 17 hR9 | exact room_k 21 hR9 | exact room_k 30 hR9 | exact room_k 33 hR9 | exact room_k 16 hR9 | exact room_k 2 hR9 | exact room_k 43 hR9 | exact room_k 7 hR9 | exact room_k 45 hR9))
  (k_with "lt" => (first | with_reducible assumption | exact (by with_reducible assumption : _ ∧ _).1 | exact (by with_reducible assumption : _ ∧ _).2 | exact (by with_reducible assumption : _ ∧ _ ∧ _).2.1 | exact (by with_reducible assumption : _ ∧ _ ∧ _).2.2 | exact (by with_reducible assumption : _ ∧ _ ∧ _ ∧ _).2.2.1 | exact (by with_reducible assumption : _ ∧ _ ∧ _ ∧ _).2.2.2 | exact (by with_reducible assumption : _ ∧ _ ∧ _ ∧ _ ∧ _).2.2.2.1 | exact (by with_reducible assumption : _ ∧ _ ∧ _ ∧ _ ∧ _).2.2.2.2 | exact (by with_reducible assumption : _ ∧ _ ∧ _ ∧ _ ∧ _ ∧ _).2.2.2.2.1 | exact (by with_reducible assumption : _ ∧ _ ∧ _ ∧ _ ∧ _ ∧ _).2.2.2.2.2 | exact (by with_reducible assumption : _ ∧ _ ∧ _ ∧ _ ∧ _ ∧ _ ∧ _).2.2.2.2.2.1 | exact (by with_reducible assumption : _ ∧ _ ∧ _ ∧ _ ∧ _ ∧ _ ∧ _).2.2.2.2.2.2 | exact (by with_reducible assumption : _ ∧ _ ∧ _ ∧ _ ∧ _ ∧ _ ∧ _ ∧ _).2.2.2.2.2.2.1 | exact (by with_reducible assumption : _ ∧ _ ∧ _ ∧ _ ∧ _ ∧ _ ∧ _ ∧ _).2.2.2.2.2.2.2 | exact (by with_reducible assumption : _ ∧ _ ∧ _ ∧ _ ∧ _ ∧ _ ∧ _ ∧ _ ∧ _).2.2.2.2.2.2.2.1 | exact (by with_reducible assumption : _ ∧ _ ∧ _ ∧ _ ∧ _ ∧ _ ∧ _ ∧ _ ∧ _).2.2.2.2.2.2.2.2 | exact (by with_reducible assumption : _ ∧ _ ∧ _ ∧ _ ∧ _ ∧ _ ∧ _ ∧ _ ∧ _ ∧ _).2.2.2.2.2.2.2.2.1 | exact (by with_reducible assumption : _ ∧ _ ∧ _ ∧ _ ∧ _ ∧ _ ∧ _ ∧ _ ∧ _ ∧ _).2.2.2.2.2.2.2.2.2 | exact (by with_reducible assumption : _ ∧ _ ∧ _ ∧ _ ∧ _ ∧ _ ∧ _ ∧ _ ∧ _ ∧ _ ∧ _).2.2.2.2.2.2.2.2.2.1 | exact (by with_reducible assumption : _ ∧ _ ∧ _ ∧ _ ∧ _ ∧ _ ∧ _ ∧ _ ∧ _ ∧ _ ∧ _).2.2.2.2.2.2.2.2.2.2 | exact (by with_reducible assumption : _ ∧ _ ∧ _ ∧ _ ∧ _ ∧ _ ∧ _ ∧ _ ∧ _ ∧ _ ∧ _ ∧ _).2.2.2.2.2.2.2.2.2.2.1 | exact (by with_reducible assumption : _ ∧ _ ∧ _ ∧ _ ∧ _ ∧ _ ∧ _ ∧ _ ∧ _ ∧ _ ∧ _ ∧ _).2.2.2.2.2.2.2.2.2.2.2 | exact (by with_reducible assumption : _ ∧ _ ∧ _ ∧ _ ∧ _ ∧ _ ∧ _ ∧ _ ∧ _ ∧ _ ∧ _ ∧ _ ∧ _).2.2.2.2.2.2.2.2.2.2.2.1 | exact (by with_reducible assumption : _ ∧ _ ∧ _ ∧ _ ∧ _ ∧ _ ∧ _ ∧ _ ∧ _ ∧ _ ∧ _ ∧ _ ∧ _).2.2.2.2.2.2.2.2.2.2.2.2))
  (k_with "ne" => ((refine neN ?_); (try dsimp only); first | (refine Nat.ne_of_lt ?_; k_extra "lt") | (refine Nat.ne_of_gt ?_; k_extra "lt") | omega))
  (k_with "all" => (first | assumption | exact all_nil | (refine' all_cons ?a9Z5 ?b9Z5; (case a9Z5 => k_extra "ne"); (case b9Z5 => k_extra "all"))))
  (k_with "ite" => (k_closed; k_dflt (first | (refine' @ite_pos _ _ _ _ ?h1Z6 ?_; (case h1Z6 => decide); k_whole) | (refine' @ite_neg _ _ _ _ ?h2Z6 ?_; (case h2Z6 => decide); k_whole))))
  (k_with "getAttr ref true" => (k_here; k_dflt (refine' get_own ?k1Z7 ?k2Z7 ?k3Z7 ?k4Z7 ?k5Z7 ?k6Z7 ?k7Z7 ?k8Z7 ?k9Z7 ?_; (case k1Z7 => k_asm); (case k2Z7 => k_asm); (case k3Z7 => k_inst); (case k4Z7 => k_is); (case k5Z7 => k_is); (case k6Z7 => k_is); (case k7Z7 => k_is); (case k8Z7 => k_get); (case k9Z7 => k_handed); k_whole)))
  (k_with "eval Name" => (k_here; name_kind "local"; k_dflt (refine' nameX_L ?FZ8 ?vZ8 ?_ ?aZ8 ?bZ8; (case FZ8 => k_asm); (case aZ8 => rfl); (case bZ8 => rfl); (case vZ8 => rfl); k_whole)))
  (k_with "eval Name" => (k_here; name_kind "globalImplicit"; k_dflt (first | (refine' nameX_K ?FZ9 ?XZ9 ?TZ9 ?eZ9 ?_ ?aZ9 ?bZ9; (case FZ9 => k_asm); (case XZ9 => k_asm); (case TZ9 => k_asm); (case aZ9 => rfl); (case bZ9 => rfl); (case eZ9 => k_is); k_whole) | (refine' nameX_B ?F9Z9 ?X9Z9 ?T9Z9 ?e9Z9 ?v9Z9 ?n9Z9 ?_ ?a9Z9 ?b9Z9; (case F9Z9 => k_asm); (case X9Z9 => k_asm); (case T9Z9 => k_asm); (case a9Z9 => rfl); (case b9Z9 => rfl); (case e9Z9 => k_is); (case v9Z9 => boot_fast); (case n9Z9 => decide); k_whole))))
  (k_with "callWith ref cons nil" => (k_here; k_dflt (first | (refine' callWith_K ?k1Z10 ?k2Z10 ?_; (case k1Z10 => k_asm); (case k2Z10 => k_is); k_whole) | (refine' callWith_K0 ?k3Z10 ?k4Z10 ?_; (case k3Z10 => first | with_reducible assumption | (refine' Frag.In.keeps ?x8Z10 (Fr.keep ?f8Z10); (case f8Z10 => with_reducible assumption); (case x8Z10 => with_reducible assumption)) | k_in); (case k4Z10 => k_is); k_whole) | (refine' callWith_M0 ?k5Z10 ?k6Z10 ?_; (case k5Z10 => k_meth); (case k6Z10 => k_is); k_whole; try dsimp only [List.nil_append, List.cons_append]))))
  (k_with "exec While Constant cons nil" => (k_here; k_dflt (refine whl_start 100 ?_)))
  (k_with "call builtin:list.append cons nil" => (k_here; (with_reducible show wpAny _ _ (call (Value.builtin _) [Value.ref _, _]) _ _ _); k_dflt (refine' append_K ?k1Z12 ?k2Z12 ?k3Z12 ?_ ?zZ12; (case k1Z12 => k_asm); (case k2Z12 => k_asm); (case k3Z12 => k_upd); (case zZ12 => first | size_fits | k_extra "size9"); k_whole); intro h' F' N'; (try k_sweep)))
  (k_with "compareOp In" => (k_here; (with_reducible show wpAny _ _ (compareOp CmpOp.In (Value.bytes _ _) (Value.ref _)) _ _ _); k_dflt (refine' md_in (md_at ?FZ144 ?DZ144) ?lZ144 (bk_is _ _ _ _) ?vZ144 ?_; (case FZ144 => k_asm); (case DZ144 => k_asm); (case lZ144 => k_asm); (case vZ144 => k_asm); k_whole)))
  (k_with "subscriptTail" => (k_here; (with_reducible show wpAny _ _ (subscriptTail _ _ (Value.ref _) (Value.bytes _ _)) _ _ _); k_dflt (refine' md_item (md_at ?FZ145 ?DZ145) (bk_is _ _ _ _) ?vZ145 ?_; (case FZ145 => k_asm); (case DZ145 => k_asm); (case vZ145 => k_asm); k_whole)))
  (k_with "getMethod ref" => (k_here; (with_reducible show wpAny _ _ (getMethod (Value.ref _) (Str.ofString "get") _) _ _ _); k_dflt (refine' md_getm (knd := bytesKind _ _) (md_at ?FZ146 ?DZ146) ?_; (case FZ146 => k_asm); (case DZ146 => k_asm); k_whole)))
  (k_with "call builtin:dict.get" => (k_here; k_dflt (first | ((with_reducible show wpAny _ _ (call (Value.builtin "dict.get") [Value.ref _, Value.bytes _ _]) _ _ _); refine' md_get1 (md_at ?FZ147 ?DZ147) ?lZ147 (bk_is _ _ _ _) ?vZ147 ?_; (case FZ147 => k_asm); (case DZ147 => k_asm); (case lZ147 => k_asm); (case vZ147 => k_asm); k_whole) | ((with_reducible show wpAny _ _ (call (Value.builtin "dict.get") [Value.ref _, Value.bytes _ _, _]) _ _ _); refine' md_get2 (md_at ?FZ147 ?DZ147) ?lZ147 (bk_is _ _ _ _) ?vZ147 ?_; (case FZ147 => k_asm); (case DZ147 => k_asm); (case lZ147 => k_asm); (case vZ147 => k_asm); k_whole)); (try dsimp only [Option.getD])))
  (k_with "compareOp Eq bytes none" => with_reducible refine eq_bytes_none ?_)
  trivial




def MuxIs (w : World) (W : Array UInt8) : Prop :=
  ∀ {mean mg mb dp un gd cn cs a ccd cl outer A₀ base h₀ L m} {s : Shared} {Q E : Value → Shared → Prop} {rest : List (Addr × Obj)} {tb : Tok}, Amb 35 280 w mean mg mb dp un cs outer A₀ base h₀ L m s.heap → News h₀ L s.heap rest → (∀ h' tk' t, Fr h₀ L h' m → News h₀ L h' rest → Q (.bytes W t) { s with heap := h', toks := tk' }) → wpAny (model PySem.Challenge.rw_og0286_01.row.prog w) (ktrTop dp un gd cn cs L a ccd cl outer) (call (.ref 622) [.bytes W tb]) Q E s
theorem mux_use {w} {W : Array UInt8} (h : MuxIs w W) {mean mg mb dp un gd cn cs a ccd cl outer A₀ base h₀ L m} {s : Shared} {Q E : Value → Shared → Prop} {rest : List (Addr × Obj)} {tb : Tok} (am : Amb 35 280 w mean mg mb dp un cs outer A₀ base h₀ L m s.heap) (N : News h₀ L s.heap rest) (hret : ∀ h' tk' t, Fr h₀ L h' m → News h₀ L h' rest → Q (.bytes W t) { s with heap := h', toks := tk' }) : wpAny (model PySem.Challenge.rw_og0286_01.row.prog w) (ktrTop dp un gd cn cs L a ccd cl outer) (call (.ref 622) [.bytes W tb]) Q E s := h am N hret
theorem mux_a {w} {b : UInt8} (b1 : 97 ≤ b.toNat) (b2 : b.toNat ≤ 122) : MuxIs w #[b] := fun am N hret => mux1 am N b1 b2 hret
theorem mux_b {w} {b : UInt8} (b1 : 97 ≤ b.toNat) (b2 : b.toNat ≤ 122) : MuxIs w #[67, 45, b] := fun am N hret => mux3 am N b1 b2 hret
theorem mux_c {w} : MuxIs w anyB := fun am N hret => muxa am N hret
theorem kget2 {prog : Program} {w : World} {A : Around} {E : Value → Shared → Prop} {s : Shared} {h₀ : Heap} {L d : Addr} {o : Obj} {news : List (Addr × Obj)} {kvs : List (List UInt8 × Value)} {k : List UInt8} {key dflt : Value} {x : Option Value} {Q : Value → Shared → Prop} (N : News h₀ L s.heap news) (hp : (d, o) ∈ news) (hd : o.IsDictOf (bytesKind prog w) kvs) (lo : (d == sysModules) = false) (hkey : (bytesKind prog w).is k key = true) (hl : valueAt kvs k = x) (h : Q (x.getD dflt) { s with toks := s.toks + 1 }) :
    wpAny (model prog w) A (call (.builtin "dict.get") [.ref d, key, dflt]) Q E s := md_get2 (kda_dict N hp hd) lo hkey hl h
theorem empty_any {prog : Program} {w : World} {K K' : Type} [DecidableEq K] [DecidableEq K'] {knd : KeyKind prog w K} {knd' : KeyKind prog w K'} {o : Obj} (h : o.IsDictOf knd []) : o.IsDictOf knd' [] := by
  obtain ⟨es, ep, a, b, c, d, e⟩ := h
  have he : es.toList = [] := by
    cases hh : es.toList with
    | nil => rfl
    | cons x r => rw [hh] at d; exact nomatch d
  have he' : es = #[] := by simpa using he
  subst he'
  exact ⟨#[], ep, a, b, fun _ h => by simp at h, by constructor, by simp⟩
theorem lt_of {x : Addr} : ∀ {l : List (Addr × Obj)}, AllLt x l → ∀ p ∈ l, p.1 < x
  | [], _, _, h => nomatch h
  | q :: r, x, p, h => by
    rcases List.mem_cons.mp h with rfl | h
    · exact x.1
    · exact lt_of x.2 p h
theorem ne_lt {x : Addr} {l : List (Addr × Obj)} (h : AllLt x l) : ∀ p ∈ l, p.1 ≠ x := fun p hp => Nat.ne_of_lt (lt_of h p hp)



theorem reg_42 : True := by
  (k_with "getMethod ref" => (k_here; (with_reducible show wpAny _ _ (getMethod (Value.ref _) (Str.ofString "get") _) _ _ _); k_dflt (refine kob_method (knd := bytesKind _ _) PySem.F.slot_dict_get PySem.F.type_dict_get (by k_asm) (by k_mem) (by assumption) ?_)))
  (k_with "call builtin:dict.get" => (k_here; (with_reducible show wpAny _ _ (call (Value.builtin "dict.get") [Value.ref _, Value.bytes _ _, _]) _ _ _); k_dflt (refine' kget2 ?NZ150 ?pZ150 ?dZ150 ?lZ150 (bk_is _ _ _ _) ?vZ150 ?_; (case NZ150 => k_asm); (case pZ150 => k_mem); (case dZ150 => assumption); (case lZ150 => assumption); (case vZ150 => assumption); k_whole); (try dsimp only [Option.getD])))
  (k_with "compareOp In" => (k_here; (with_reducible show wpAny _ _ (compareOp CmpOp.In (Value.bytes _ _) (Value.ref _)) _ _ _); k_dflt (refine' kda_in (knd := bytesKind _ _) ?NZ151 ?pZ151 ?dZ151 ?lZ151 (bk_is _ _ _ _) ?bZ151 ?hbZ151 ?_; (case NZ151 => k_asm); (case pZ151 => k_mem); (case dZ151 => assumption); (case lZ151 => assumption); (case bZ151 => exact false); (case hbZ151 => exact rfl); k_whole)))
  (k_with "setItem ref" => (k_here; (with_reducible show wpAny _ _ (setItem (Value.ref _) (Value.bytes _ _) _) _ _ _); k_dflt (refine' kda_set (knd := bytesKind _ _) ?FZ152 ?NZ152 ?UZ152 ?dZ152 (bk_is _ _ _ _) ?zZ152 ?_; (case FZ152 => k_asm); (case NZ152 => k_asm); (case UZ152 => k_updF); (case dZ152 => first | assumption | exact empty_any (knd := strKind _ _) (by assumption)); (case zZ152 => first | assumption | exact Nat.zero_le _); k_whole); intro h' o' F' N' hd'; (try dsimp only at N')))
  (k_with "call ref" => (k_here; (with_reducible show wpAny _ _ (call (Value.ref 622) _ _) _ _ _); k_dflt (((rename MuxIs _ _ => hMX9); refine' mux_use hMX9 ?amZ153 ?NZ153 ?_; (case amZ153 => (refine' Amb.mk ?aBZ153 ?aFZ153 ?aXZ153 ?aTZ153 ?akZ153 ?adZ153 ?auZ153; (case aBZ153 => k_asm); (case aFZ153 => k_asm); (case aXZ153 => k_asm); (case aTZ153 => k_asm); (case akZ153 => first | exact rfl | assumption); (case adZ153 => ktr_room); (case auZ153 => ktr_units))); (case NZ153 => k_asm); k_whole; intro h9 tk9 t9 F9 N9; (try dsimp only); (try k_fold)))))
  trivial


theorem bind_new {w mean mg mb dp un gd cn cs a ccd cl outer A₀ base h₀ L m} {s : Shared} {Q E : Value → Shared → Prop} {y1 y2 tb td mk lt rd : Addr} {yo1 yo2 : Obj} {c5 : H5} {pre sec rp : Value} {mo lb ro : Obj} {mkvs kvs : List (List UInt8 × Value)} {T W cmd : Array UInt8} {tT tW tc : Tok} {rep : Bool}
  (am : Amb 40 320 w mean mg mb dp un cs outer A₀ base h₀ L m s.heap) (N0 : News h₀ L s.heap [(y1, yo1), (y2, yo2), (tb, instObj 754 td), (td, tbObj c5 mk lt pre sec rp), (mk, mo), (lt, lb)]) (hmo : mo.IsDictOf (bytesKind PySem.Challenge.rw_og0286_01.row.prog w) mkvs) (hlb : lb.IsDictOf (bytesKind PySem.Challenge.rw_og0286_01.row.prog w) []) (hms : (mk == sysModules) = false) (hls : (lt == sysModules) = false) (hsz : mkvs.length ≤ sizeLine) (hMX : MuxIs w W) (n1 : tb ≠ mk) (n2 : td ≠ mk) (n3 : lt ≠ mk) (n4 : y1 ≠ mk) (n5 : y2 ≠ mk) (hv : valueAt mkvs T.toList = none)
  (hret : ∀ h' tk' b bd rd cb t1 nt mo' ro', (rd == sysModules) = false → mo'.IsDictOf (bytesKind PySem.Challenge.rw_og0286_01.row.prog w) (stored mkvs T.toList (.ref rd)) → ro'.IsDictOf (bytesKind PySem.Challenge.rw_og0286_01.row.prog w) (stored [] W.toList (.ref b)) → Fr h₀ L h' m → News h₀ L h' [(b, instObj 655 bd), (bd, bdObj cb (.bytes W t1) (.bytes cmd tc) (.bool rep) nt), (rd, ro'), (y1, yo1), (y2, yo2), (tb, instObj 754 td), (td, tbObj c5 mk lt pre sec rp), (mk, mo'), (lt, lb)] → (hideAll s.heap ([(y1, yo1), (y2, yo2), (tb, instObj 754 td), (td, tbObj c5 mk lt pre sec rp), (mk, mo), (lt, lb)].map (·.1))).StaysIn h' → (y1 < rd ∧ y2 < rd ∧ rd < bd ∧ bd < b) → Q .none { s with heap := h', toks := tk' }) :
  wpAny (model PySem.Challenge.rw_og0286_01.row.prog w) (ktrTop dp un gd cn cs L a ccd cl outer) (call (.ref 689) [.ref tb, .bytes T tT, .bytes W tW, .bytes cmd tc, .bool rep]) Q E s := by
  obtain ⟨B, F, X, T, hk, hd, hu⟩ := am
  revert X; k_fill; intro X
  refine wpAny_call ?_
  k_dflt (refine' code_defR ?k1 ?k2 ?k3 ?k4 ?k5 ?kA ?kF ?kK ?k6 ?k7 ?k8 ?k9 ?kB ?_ ?c2 ?c3 ?c4 ?c5; (case kA => exact rfl); (case kF => exact rfl); (case kK => assumption); (case k1 => k_asm); (case k2 => k_asm); (case k3 => k_asm); (case k4 => exact N0); (case k5 => k_asm); (case k6 => k_is); (case k7 => k_is); (case k8 => ktr_room); (case k9 => first | exact BindsTo.of_eq rfl | exact binds_K (by k_in) rfl (by k_is) rfl rfl rfl); (case c5 => decide); (case kB => exact locs rfl); (case c2 => exact rfl); (case c3 => exact rfl); (case c4 => exact rfl); k_whole; intro g' L' h' hg' FG' F' N' B' X' T'; (try dsimp only); (try k_lift B'); (try k_fold))
  rename (_ = hideAll _ _) => HG
  repeat' (first | (k_unfold; (try dsimp only)) | (k_end; wrow_close) | (walk1 <;> (try dsimp only)) | (leave1; walk_say "STEP leave1"; try dsimp only) | fail "no step")
  all_goals (first | exact hret _ _ _ _ _ ⟨_, _, _, _, _, _, _, _⟩ _ _ _ _ (by assumption) (by assumption) (by assumption) (by with_reducible assumption) (cb_drop (by with_reducible assumption) (by ((repeat (refine sub_cons ?_ ?_; k_mem)); (first | exact List.forall_mem_nil _ | ((repeat (first | exact fun p hp => hp | refine sub_skip ?_))))))) (hide_any (by with_reducible assumption) (by with_reducible assumption)) ⟨by first | with_reducible assumption | exact ltN (by omega), by first | with_reducible assumption | exact ltN (by omega), by first | with_reducible assumption | exact ltN (by omega), by first | with_reducible assumption | exact ltN (by omega)⟩ | w_report)

theorem bind_old {w mean mg mb dp un gd cn cs a ccd cl outer A₀ base h₀ L m} {s : Shared} {Q E : Value → Shared → Prop} {y1 y2 tb td mk lt rd : Addr} {yo1 yo2 : Obj} {c5 : H5} {pre sec rp : Value} {mo lb ro : Obj} {mkvs kvs : List (List UInt8 × Value)} {T W cmd : Array UInt8} {tT tW tc : Tok} {rep : Bool}
  (am : Amb 40 320 w mean mg mb dp un cs outer A₀ base h₀ L m s.heap) (N0 : News h₀ L s.heap [(rd, ro), (y1, yo1), (y2, yo2), (tb, instObj 754 td), (td, tbObj c5 mk lt pre sec rp), (mk, mo), (lt, lb)]) (hmo : mo.IsDictOf (bytesKind PySem.Challenge.rw_og0286_01.row.prog w) mkvs) (hlb : lb.IsDictOf (bytesKind PySem.Challenge.rw_og0286_01.row.prog w) []) (hms : (mk == sysModules) = false) (hls : (lt == sysModules) = false) (hsz : mkvs.length ≤ sizeLine) (hMX : MuxIs w W) (n1 : tb ≠ mk) (n2 : td ≠ mk) (n3 : lt ≠ mk) (n4 : y1 ≠ mk) (n5 : y2 ≠ mk) (hv : valueAt mkvs T.toList = some (.ref rd)) (hro : ro.IsDictOf (bytesKind PySem.Challenge.rw_og0286_01.row.prog w) kvs) (hrs : (rd == sysModules) = false) (hsr : kvs.length ≤ sizeLine) (m1 : tb ≠ rd) (m2 : td ≠ rd) (m3 : lt ≠ rd) (m4 : mk ≠ rd) (m5 : rd ≠ mk) (m6 : y1 ≠ rd) (m7 : y2 ≠ rd)
  (hret : ∀ h' tk' b bd cb t1 nt mo' ro', mo'.IsDictOf (bytesKind PySem.Challenge.rw_og0286_01.row.prog w) (stored mkvs T.toList (.ref rd)) → ro'.IsDictOf (bytesKind PySem.Challenge.rw_og0286_01.row.prog w) (stored kvs W.toList (.ref b)) → Fr h₀ L h' m → News h₀ L h' [(b, instObj 655 bd), (bd, bdObj cb (.bytes W t1) (.bytes cmd tc) (.bool rep) nt), (rd, ro'), (y1, yo1), (y2, yo2), (tb, instObj 754 td), (td, tbObj c5 mk lt pre sec rp), (mk, mo'), (lt, lb)] → (hideAll s.heap ([(rd, ro), (y1, yo1), (y2, yo2), (tb, instObj 754 td), (td, tbObj c5 mk lt pre sec rp), (mk, mo), (lt, lb)].map (·.1))).StaysIn h' → (y1 < bd ∧ y2 < bd ∧ bd < b) → Q .none { s with heap := h', toks := tk' }) :
  wpAny (model PySem.Challenge.rw_og0286_01.row.prog w) (ktrTop dp un gd cn cs L a ccd cl outer) (call (.ref 689) [.ref tb, .bytes T tT, .bytes W tW, .bytes cmd tc, .bool rep]) Q E s := by
  obtain ⟨B, F, X, T, hk, hd, hu⟩ := am
  revert X; k_fill; intro X
  refine wpAny_call ?_
  k_dflt (refine' code_defR ?k1 ?k2 ?k3 ?k4 ?k5 ?kA ?kF ?kK ?k6 ?k7 ?k8 ?k9 ?kB ?_ ?c2 ?c3 ?c4 ?c5; (case kA => exact rfl); (case kF => exact rfl); (case kK => assumption); (case k1 => k_asm); (case k2 => k_asm); (case k3 => k_asm); (case k4 => exact N0); (case k5 => k_asm); (case k6 => k_is); (case k7 => k_is); (case k8 => ktr_room); (case k9 => first | exact BindsTo.of_eq rfl | exact binds_K (by k_in) rfl (by k_is) rfl rfl rfl); (case c5 => decide); (case kB => exact locs rfl); (case c2 => exact rfl); (case c3 => exact rfl); (case c4 => exact rfl); k_whole; intro g' L' h' hg' FG' F' N' B' X' T'; (try dsimp only); (try k_lift B'); (try k_fold))
  rename (_ = hideAll _ _) => HG
  repeat' (first | (k_unfold; (try dsimp only)) | (k_end; wrow_close) | (walk1 <;> (try dsimp only)) | (leave1; walk_say "STEP leave1"; try dsimp only) | fail "no step")
  all_goals (first | exact hret _ _ _ _ ⟨_, _, _, _, _, _, _, _⟩ _ _ _ _ (by assumption) (by assumption) (by with_reducible assumption) (cb_drop (by with_reducible assumption) (by ((repeat (refine sub_cons ?_ ?_; k_mem)); (first | exact List.forall_mem_nil _ | ((repeat (first | exact fun p hp => hp | refine sub_skip ?_))))))) (hide_any (by with_reducible assumption) (by with_reducible assumption)) ⟨by first | with_reducible assumption | exact ltN (by omega), by first | with_reducible assumption | exact ltN (by omega), by first | with_reducible assumption | exact ltN (by omega)⟩ | w_report)
end
section
theorem news_rest2 {h₀ h h' : Heap} {L : Addr} {W W' rest : List (Addr × Obj)} (N : News h₀ L h W) (R : News h₀ L h rest) (S : (hideAll h (W.map (·.1))).StaysIn h') (N' : News h₀ L h' W') (hk : ∀ p ∈ W, p ∈ W' ∨ ∀ q ∈ rest, q.1 ≠ p.1) : News h₀ L h' rest := by
  intro p hp
  refine ⟨?_, (R p hp).2⟩
  by_cases hin : p.1 ∈ W.map (·.1)
  · obtain ⟨q, hq, e⟩ := List.mem_map.mp hin
    have h1 := (N q hq).1
    have h2 := (R p hp).1
    rw [e, h2] at h1
    have e2 : q = p := Prod.ext e (Option.some.inj h1).symm
    subst e2
    rcases hk q hq with h3 | h3
    · exact (N' q h3).1
    · exact absurd rfl (h3 q hp)
  · exact S _ _ (hideAll_get _ (R p hp).1 hin)
abbrev BKn (w : World) := bytesKind PySem.Challenge.rw_og0286_01.row.prog w
theorem bind_new_r {w mean mg mb dp un gd cn cs a ccd cl outer A₀ base h₀ L m} {s : Shared} {Q E : Value → Shared → Prop} {y1 y2 tb td mk lt : Addr} {yo1 yo2 : Obj} {c5 : H5} {pre sec rp : Value} {mo lb : Obj} {mkvs : List (List UInt8 × Value)} {T W cmd : Array UInt8} {tT tW tc : Tok} {rep : Bool} {rest : List (Addr × Obj)}
  (am : Amb 40 320 w mean mg mb dp un cs outer A₀ base h₀ L m s.heap) (N : News h₀ L s.heap ((y1, yo1) :: (y2, yo2) :: (tb, instObj 754 td) :: (td, tbObj c5 mk lt pre sec rp) :: (mk, mo) :: (lt, lb) :: rest)) (hoff : ∀ p ∈ rest, p.1 ≠ mk)
  (hmo : mo.IsDictOf (BKn w) mkvs) (hlb : lb.IsDictOf (BKn w) []) (hms : (mk == sysModules) = false) (hls : (lt == sysModules) = false) (hsz : mkvs.length ≤ sizeLine) (hMX : MuxIs w W) (n1 : tb ≠ mk) (n2 : td ≠ mk) (n3 : lt ≠ mk) (n4 : y1 ≠ mk) (n5 : y2 ≠ mk) (hv : valueAt mkvs T.toList = none)
  (hret : ∀ h' tk' b bd rd cb t1 nt mo' ro', (rd == sysModules) = false → mo'.IsDictOf (BKn w) (stored mkvs T.toList (.ref rd)) → ro'.IsDictOf (BKn w) (stored [] W.toList (.ref b)) → Fr h₀ L h' m → News h₀ L h' ((b, instObj 655 bd) :: (bd, bdObj cb (.bytes W t1) (.bytes cmd tc) (.bool rep) nt) :: (rd, ro') :: (y1, yo1) :: (y2, yo2) :: (tb, instObj 754 td) :: (td, tbObj c5 mk lt pre sec rp) :: (mk, mo') :: (lt, lb) :: rest) → (y1 < rd ∧ y2 < rd ∧ rd < bd ∧ bd < b) → Q .none { s with heap := h', toks := tk' }) :
  wpAny (model PySem.Challenge.rw_og0286_01.row.prog w) (ktrTop dp un gd cn cs L a ccd cl outer) (call (.ref 689) [.ref tb, .bytes T tT, .bytes W tW, .bytes cmd tc, .bool rep]) Q E s := by
  have NA : News h₀ L s.heap [(y1, yo1), (y2, yo2), (tb, instObj 754 td), (td, tbObj c5 mk lt pre sec rp), (mk, mo), (lt, lb)] := fun p hp => N p (by simp only [List.mem_cons, List.not_mem_nil, or_false] at hp ⊢; rcases hp with h | h | h | h | h | h <;> simp [h])
  have NB : News h₀ L s.heap rest := fun p hp => N p (by simp [hp])
  refine bind_new (kvs := []) (ro := mo) (rd := 0) am NA hmo hlb hms hls hsz hMX n1 n2 n3 n4 n5 hv fun h' tk' b bd rd cb t1 nt mo' ro' e1 e2 e3 F' N' S o => hret h' tk' b bd rd cb t1 nt mo' ro' e1 e2 e3 F' ?_ o
  have NR := news_rest2 NA NB S N' (by
    (refine List.forall_mem_cons.mpr ⟨.inl (by simp), ?_⟩); (refine List.forall_mem_cons.mpr ⟨.inl (by simp), ?_⟩); (refine List.forall_mem_cons.mpr ⟨.inl (by simp), ?_⟩); (refine List.forall_mem_cons.mpr ⟨.inl (by simp), ?_⟩); (refine List.forall_mem_cons.mpr ⟨.inr hoff, ?_⟩); (refine List.forall_mem_cons.mpr ⟨.inl (by simp), ?_⟩); exact List.forall_mem_nil _)
  exact news_app (a := [_, _, _, _, _, _, _, _, _]) N' NR
theorem bind_old_r {w mean mg mb dp un gd cn cs a ccd cl outer A₀ base h₀ L m} {s : Shared} {Q E : Value → Shared → Prop} {y1 y2 tb td mk lt rd : Addr} {yo1 yo2 ro : Obj} {c5 : H5} {pre sec rp : Value} {mo lb : Obj} {mkvs kvs : List (List UInt8 × Value)} {T W cmd : Array UInt8} {tT tW tc : Tok} {rep : Bool} {rest : List (Addr × Obj)}
  (am : Amb 40 320 w mean mg mb dp un cs outer A₀ base h₀ L m s.heap) (N : News h₀ L s.heap ((rd, ro) :: (y1, yo1) :: (y2, yo2) :: (tb, instObj 754 td) :: (td, tbObj c5 mk lt pre sec rp) :: (mk, mo) :: (lt, lb) :: rest)) (hoff : ∀ p ∈ rest, p.1 ≠ mk) (hoff2 : ∀ p ∈ rest, p.1 ≠ rd)
  (hmo : mo.IsDictOf (BKn w) mkvs) (hlb : lb.IsDictOf (BKn w) []) (hms : (mk == sysModules) = false) (hls : (lt == sysModules) = false) (hsz : mkvs.length ≤ sizeLine) (hMX : MuxIs w W) (n1 : tb ≠ mk) (n2 : td ≠ mk) (n3 : lt ≠ mk) (n4 : y1 ≠ mk) (n5 : y2 ≠ mk) (hv : valueAt mkvs T.toList = some (.ref rd))
  (hro : ro.IsDictOf (BKn w) kvs) (hrs : (rd == sysModules) = false) (hsr : kvs.length ≤ sizeLine) (m1 : tb ≠ rd) (m2 : td ≠ rd) (m3 : lt ≠ rd) (m4 : mk ≠ rd) (m5 : rd ≠ mk) (m6 : y1 ≠ rd) (m7 : y2 ≠ rd)
  (hret : ∀ h' tk' b bd cb t1 nt mo' ro', mo'.IsDictOf (BKn w) (stored mkvs T.toList (.ref rd)) → ro'.IsDictOf (BKn w) (stored kvs W.toList (.ref b)) → Fr h₀ L h' m → News h₀ L h' ((b, instObj 655 bd) :: (bd, bdObj cb (.bytes W t1) (.bytes cmd tc) (.bool rep) nt) :: (rd, ro') :: (y1, yo1) :: (y2, yo2) :: (tb, instObj 754 td) :: (td, tbObj c5 mk lt pre sec rp) :: (mk, mo') :: (lt, lb) :: rest) → (y1 < bd ∧ y2 < bd ∧ bd < b) → Q .none { s with heap := h', toks := tk' }) :
  wpAny (model PySem.Challenge.rw_og0286_01.row.prog w) (ktrTop dp un gd cn cs L a ccd cl outer) (call (.ref 689) [.ref tb, .bytes T tT, .bytes W tW, .bytes cmd tc, .bool rep]) Q E s := by
  have NA : News h₀ L s.heap [(rd, ro), (y1, yo1), (y2, yo2), (tb, instObj 754 td), (td, tbObj c5 mk lt pre sec rp), (mk, mo), (lt, lb)] := fun p hp => N p (by simp only [List.mem_cons, List.not_mem_nil, or_false] at hp ⊢; rcases hp with h | h | h | h | h | h | h <;> simp [h])
  have NB : News h₀ L s.heap rest := fun p hp => N p (by simp [hp])
  refine bind_old am NA hmo hlb hms hls hsz hMX n1 n2 n3 n4 n5 hv hro hrs hsr m1 m2 m3 m4 m5 m6 m7 fun h' tk' b bd cb t1 nt mo' ro' e2 e3 F' N' S o => hret h' tk' b bd cb t1 nt mo' ro' e2 e3 F' ?_ o
  have NR := news_rest2 NA NB S N' (by
    (refine List.forall_mem_cons.mpr ⟨.inr hoff2, ?_⟩); (refine List.forall_mem_cons.mpr ⟨.inl (by simp), ?_⟩); (refine List.forall_mem_cons.mpr ⟨.inl (by simp), ?_⟩); (refine List.forall_mem_cons.mpr ⟨.inl (by simp), ?_⟩); (refine List.forall_mem_cons.mpr ⟨.inl (by simp), ?_⟩); (refine List.forall_mem_cons.mpr ⟨.inr hoff, ?_⟩); (refine List.forall_mem_cons.mpr ⟨.inl (by simp), ?_⟩); exact List.forall_mem_nil _)
  exact news_app (a := [_, _, _, _, _, _, _, _, _]) N' NR
end
section
theorem value_stored (kvs : List (List UInt8 × Value)) (k k' : List UInt8) (v : Value) : valueAt (stored kvs k v) k' = if k' = k then some v else valueAt kvs k' := by
  unfold stored
  by_cases h : kvs.any (fun kv => decide (kv.1 = k)) = true
  · rw [if_pos h]
    have key : ∀ l : List (List UInt8 × Value), l.any (fun kv => decide (kv.1 = k)) = true ∨ k' ≠ k → valueAt (l.map fun kv => if kv.1 = k then (kv.1, v) else kv) k' = if k' = k then some v else valueAt l k' := by
      intro l
      induction l with
      | nil => intro hh; rcases hh with hh | hh
               · simp at hh
               · simp [valueAt, hh]
      | cons x r ih =>
        intro hh
        obtain ⟨a, b⟩ := x
        by_cases e : a = k
        · subst e
          by_cases e2 : k' = a
          · subst e2; simp [valueAt]
          · have := ih (.inr e2)
            simp only [valueAt, List.map_cons, if_true, List.find?_cons, e2, if_false] at this ⊢
            have e3 : decide (a = k') = false := by simp [Ne.symm e2]
            simp only [e3] at this ⊢
            exact this
        · by_cases e2 : a = k'
          · subst e2
            simp [valueAt, e]
          · have h1 : r.any (fun kv => decide (kv.1 = k)) = true ∨ k' ≠ k := by
              rcases hh with hh | hh
              · left; simpa [e] using hh
              · right; exact hh
            have := ih h1
            have e3 : decide (a = k') = false := by simp [e2]
            simp only [valueAt, List.map_cons, if_neg e, List.find?_cons, e3] at this ⊢
            exact this
    exact key kvs (.inl (by assumption))
  · rw [if_neg h]
    have hn : ∀ x ∈ kvs, x.1 ≠ k := by
      intro x hx e
      exact h (List.any_eq_true.mpr ⟨x, hx, by simp [e]⟩)
    by_cases e : k' = k
    · subst e
      rw [if_pos rfl]
      have : kvs.find? (fun kv => decide (kv.1 = k')) = none := List.find?_eq_none.mpr fun x hx => by simpa using hn x hx
      simp [valueAt, List.find?_append, this]
    · rw [if_neg e]
      simp only [valueAt, List.find?_append]
      have e3 : decide (k = k') = false := by simp [Ne.symm e]
      cases hf : kvs.find? (fun kv => decide (kv.1 = k')) <;> simp [hf, e3, List.find?_cons]
structure Ent where
  T : Array UInt8
  a : Nat
  o : Obj
  kvs : List (List UInt8 × Value)
def Ent.p (e : Ent) : Addr × Obj := (e.a, e.o)
def findE (l : List Ent) (T : Array UInt8) : Option Ent := l.find? fun e => decide (e.T = T)
def updE (l : List Ent) (T : Array UInt8) (o : Obj) (kvs : List (List UInt8 × Value)) : List Ent := l.map fun e => if e.T = T then ⟨e.T, e.a, o, kvs⟩ else e
def lk (l : List Ent) (T : Array UInt8) (W : List UInt8) : Option Value := (findE l T).bind fun e => valueAt e.kvs W
theorem find_some {l : List Ent} {T : Array UInt8} {e : Ent} (h : findE l T = some e) : e ∈ l ∧ e.T = T := ⟨List.mem_of_find?_eq_some h, by simpa using List.find?_some h⟩
theorem find_none' {l : List Ent} {T : Array UInt8} (h : findE l T = none) : ∀ e ∈ l, e.T ≠ T := fun e he => by simpa using List.find?_eq_none.mp h e he
theorem find_upd {l : List Ent} {T T' : Array UInt8} {o : Obj} {kvs : List (List UInt8 × Value)} : findE (updE l T o kvs) T' = if T' = T then (findE l T).map fun e => ⟨e.T, e.a, o, kvs⟩ else findE l T' := by
  induction l with
  | nil => simp [findE, updE]
  | cons x r ih =>
    unfold findE updE at ih ⊢
    rw [List.map_cons, List.find?_cons]
    by_cases e : x.T = T
    · rw [if_pos e]
      by_cases e2 : T' = T
      · subst e2
        simp [e]
      · have e3 : decide (x.T = T') = false := by rw [e]; simp [Ne.symm e2]
        simp only [e3, List.find?_cons, if_neg e2] at ih ⊢
        exact ih
    · rw [if_neg e]
      by_cases e2 : x.T = T'
      · have e4 : T' ≠ T := fun h => e (e2.trans h)
        simp [e2, e4]
      · have e3 : decide (x.T = T') = false := by simp [e2]
        have e5 : decide (x.T = T) = false := by simp [e]
        simp only [e3, List.find?_cons, e5] at ih ⊢
        exact ih
theorem find_snoc {l : List Ent} {x : Ent} {T' : Array UInt8} (h : findE l x.T = none) : findE (l ++ [x]) T' = if T' = x.T then some x else findE l T' := by
  unfold findE at h ⊢
  rw [List.find?_append]
  by_cases e : T' = x.T
  · subst e
    rw [h, if_pos rfl]; simp
  · rw [if_neg e]
    have e3 : decide (x.T = T') = false := by simp [Ne.symm e]
    simp [List.find?_cons, e3]
inductive EntRel (imm : List (Addr × Obj)) (T : Array UInt8) : Option Value → Option Value → Prop
  | no : EntRel imm T none none
  | yes {b bd tp : Addr} {cb : Hd} {key note : Value} {cmd : Array UInt8} {tc tc' : Tok} {rep : Bool} {n : Nat} : (b, instObj 655 bd) ∈ imm → (bd, bdObj cb key (.bytes cmd tc') (.bool rep) note) ∈ imm → (tp, tupObj [.bytes cmd tc, .bool rep] n) ∈ imm → (rep = true → T = prefB) → EntRel imm T (some (.ref b)) (some (.ref tp))
theorem EntRel.mono {imm imm' : List (Addr × Obj)} {T : Array UInt8} {x y : Option Value} (h : EntRel imm T x y) (k : ∀ p ∈ imm, p ∈ imm') : EntRel imm' T x y := by
  cases h with
  | no => exact .no
  | yes a b c d => exact .yes (k _ a) (k _ b) (k _ c) d
abbrev Row := Array UInt8 × Array UInt8 × Bool
structure BI (w : World) (I tb td lt ow mk : Nat) (c5 : H5) (pre sec rp : Value) (lb oo : Obj) (okvs : List (List UInt8 × Value)) (ext : List (Addr × Obj)) (done : List Row) (imm : List (Addr × Obj)) (mo : Obj) (mkvs : List (List UInt8 × Value)) (osl rl : List Ent) (y : Nat) (yo : Obj) : Prop where
  htb : (tb, instObj 754 td) ∈ imm
  htd : (td, tbObj c5 mk lt pre sec rp) ∈ imm
  hlt : (lt, lb) ∈ imm
  how : (ow, oo) ∈ imm
  hy : (y, yo) ∈ imm
  hext : ∀ p ∈ ext, p ∈ imm
  bound : ∀ (a : Nat) (o : Obj), (a, o) ∈ imm ++ (mk, mo) :: (osl.map Ent.p ++ rl.map Ent.p) → a ≤ y ∨ a < I
  hlb : lb.IsDictOf (BKn w) []
  hoo : oo.IsDictOf (BKn w) okvs
  hmo : mo.IsDictOf (BKn w) mkvs
  ok : ∀ e ∈ osl, valueAt okvs e.T.toList = some (.ref e.a)
  mkv : ∀ T : Array UInt8, valueAt mkvs T.toList = (findE rl T).map fun e => .ref e.a
  mkl : mkvs.length ≤ done.length
  hos : ∀ e ∈ osl, e.o.IsDictOf (BKn w) e.kvs ∧ e.kvs.length ≤ done.length ∧ (e.a == sysModules) = false
  hrd : ∀ e ∈ rl, e.o.IsDictOf (BKn w) e.kvs ∧ e.kvs.length ≤ done.length ∧ (e.a == sysModules) = false
  names : ∀ T, (findE osl T).isSome = true ↔ T ∈ names4
  rnames : ∀ e ∈ rl, e.T ∈ names4
  have_ : ∀ r ∈ done, (findE rl r.1).isSome = true
  s1 : ∀ (a : Nat) (o : Obj), (a, o) ∈ imm → a ≠ mk ∧ (∀ e ∈ osl, a ≠ e.a) ∧ (∀ e ∈ rl, a ≠ e.a)
  s2 : (∀ e ∈ osl, e.a ≠ mk) ∧ (∀ e ∈ rl, e.a ≠ mk)
  s3 : ∀ e ∈ osl, ∀ f ∈ rl, e.a ≠ f.a
  s4 : ∀ e ∈ osl, ∀ f ∈ osl, e.a = f.a → e.T = f.T
  s5 : ∀ e ∈ rl, ∀ f ∈ rl, e.a = f.a → e.T = f.T
  u4 : ∀ e ∈ osl, ∀ f ∈ osl, e.T = f.T → e = f
  u5 : ∀ e ∈ rl, ∀ f ∈ rl, e.T = f.T → e = f
  rel : ∀ T W, EntRel imm T (lk rl T W) (lk osl T W)
theorem mem_upd {l : List Ent} {T : Array UInt8} {o : Obj} {kvs : List (List UInt8 × Value)} {f : Ent} (h : f ∈ updE l T o kvs) : ∃ e ∈ l, f.a = e.a ∧ f.T = e.T ∧ ((e.T = T ∧ f = ⟨e.T, e.a, o, kvs⟩) ∨ (e.T ≠ T ∧ f = e)) := by
  obtain ⟨e, he, hf⟩ := List.mem_map.mp h
  by_cases x : e.T = T
  · rw [if_pos x] at hf; subst hf; exact ⟨e, he, rfl, rfl, .inl ⟨x, rfl⟩⟩
  · rw [if_neg x] at hf; subst hf; exact ⟨e, he, rfl, rfl, .inr ⟨x, rfl⟩⟩
theorem all_map {P : Addr × Obj → Prop} {l : List Ent} (h : ∀ f ∈ l, P f.p) : ∀ p ∈ l.map Ent.p, P p := fun p hp => let ⟨f, hf, e⟩ := List.mem_map.mp hp; e ▸ h f hf
section
variable {l : List Ent} {T : Array UInt8} {o : Obj} {kvs : List (List UInt8 × Value)}
theorem upd_elim {P : Ent → Prop} (h1 : ∀ f ∈ l, f.T = T → P ⟨f.T, f.a, o, kvs⟩) (h2 : ∀ f ∈ l, f.T ≠ T → P f) : ∀ f ∈ updE l T o kvs, P f := fun f hf => by
  obtain ⟨f', hf2, ea, eT, h | h⟩ := mem_upd hf
  · rw [h.2]; exact h1 f' hf2 h.1
  · rw [h.2]; exact h2 f' hf2 h.1
theorem upd_ta {P : Array UInt8 → Nat → Prop} (h : ∀ f ∈ l, P f.T f.a) : ∀ f ∈ updE l T o kvs, P f.T f.a := upd_elim (fun f hf _ => h f hf) fun f hf _ => h f hf
theorem upd_all {e : Ent} {P : Addr × Obj → Prop} (hu : ∀ f ∈ l, f.T = T → f = e) (h1 : P (e.a, o)) (h2 : ∀ f ∈ l, f.T ≠ T → P f.p) : ∀ p ∈ (updE l T o kvs).map Ent.p, P p :=
  all_map (upd_elim (P := fun f => P f.p) (fun f hf x => hu f hf x ▸ h1) h2)
theorem upd_u (u : ∀ e ∈ l, ∀ f ∈ l, e.T = f.T → e = f) : ∀ e ∈ updE l T o kvs, ∀ f ∈ updE l T o kvs, e.T = f.T → e = f :=
  upd_elim (fun f hf x => upd_elim (fun g hg _ z => u f hf g hg z ▸ rfl) fun g _ y z => absurd (z.symm.trans x) y) fun f hf x => upd_elim (fun g _ y z => absurd (z.trans y) x) fun g hg _ z => u f hf g hg z
theorem upd_hos {w : World} {n m : Nat} {e : Ent} {k : List UInt8} {v : Value} (hu : ∀ f ∈ l, f.T = T → f = e) (hm : n + 1 ≤ m) (hd : o.IsDictOf (BKn w) (stored e.kvs k v)) (h : ∀ e ∈ l, e.o.IsDictOf (BKn w) e.kvs ∧ e.kvs.length ≤ n ∧ (e.a == sysModules) = false) : ∀ e' ∈ updE l T o (stored e.kvs k v), e'.o.IsDictOf (BKn w) e'.kvs ∧ e'.kvs.length ≤ m ∧ (e'.a == sysModules) = false :=
  upd_elim (fun f hf x => ⟨hd, Nat.le_trans (stored_length_le e.kvs k v) (Nat.le_trans (Nat.succ_le_succ (hu f hf x ▸ (h f hf).2.1)) hm), (h f hf).2.2⟩) fun f hf _ => ⟨(h f hf).1, Nat.le_trans (h f hf).2.1 (Nat.le_trans (Nat.le_succ n) hm), (h f hf).2.2⟩
theorem find_isSome : (findE l T).isSome = true ↔ T ∈ l.map Ent.T := by simp [findE, List.find?_isSome, List.mem_map]
theorem upd_isSome {T' : Array UInt8} : (findE (updE l T o kvs) T').isSome = (findE l T').isSome := by
  rw [find_upd]
  by_cases x : T' = T
  · subst x; rw [if_pos rfl]; cases findE l T' <;> rfl
  · rw [if_neg x]
theorem lk_of {e : Ent} {W : List UInt8} (h : findE l T = some e) : lk l T W = valueAt e.kvs W := by unfold lk; rw [h]; rfl
theorem lk_off {W : List UInt8} (h : findE l T = none) : lk l T W = none := by unfold lk; rw [h]; rfl
theorem lk_snoc {x : Ent} {T' : Array UInt8} {W : List UInt8} (h : findE l x.T = none) : lk (l ++ [x]) T' W = if T' = x.T then valueAt x.kvs W else lk l T' W := by
  unfold lk; rw [find_snoc h]; split <;> rfl
end
theorem rel_here {imm : List (Addr × Obj)} {T : Array UInt8} {kr ko : List (List UInt8 × Value)} {W W' : List UInt8} {tp b bd : Nat} {cb : Hd} {nt key : Value} {cmd : Array UInt8} {tc tc' : Tok} {rep : Bool} {n : Nat} (h : EntRel imm T (valueAt kr W') (valueAt ko W')) (hrep : rep = true → T = prefB) : EntRel (((tp : Addr), tupObj [.bytes cmd tc, .bool rep] n) :: ((b : Addr), instObj 655 bd) :: ((bd : Addr), bdObj cb key (.bytes cmd tc') (.bool rep) nt) :: imm) T (valueAt (stored kr W (.ref b)) W') (valueAt (stored ko W (.ref tp)) W') := by
  rw [value_stored, value_stored]
  by_cases z : W' = W
  · rw [if_pos z, if_pos z]; exact .yes (.tail _ (.head _)) (.tail _ (.tail _ (.head _))) (.head _) hrep
  · rw [if_neg z, if_neg z]; exact h.mono fun p hp => .tail _ (.tail _ (.tail _ hp))
theorem mkv_stored {mkvs : List (List UInt8 × Value)} {rl rl' : List Ent} {T : Array UInt8} {a : Nat} (h : ∀ T' : Array UInt8, valueAt mkvs T'.toList = (findE rl T').map fun e => .ref e.a) (h1 : (findE rl' T).map (fun e => Value.ref e.a) = some (.ref a)) (h2 : ∀ T', T' ≠ T → findE rl' T' = findE rl T') : ∀ T' : Array UInt8, valueAt (stored mkvs T.toList (.ref a)) T'.toList = (findE rl' T').map fun e => .ref e.a := fun T' => by
  rw [value_stored]
  by_cases x : T' = T
  · subst x; rw [if_pos rfl, h1]
  · rw [if_neg fun h => x (Array.toList_inj.mp h), h2 T' x]; exact h T'
theorem lk_upd {l : List Ent} {T T' : Array UInt8} {o : Obj} {kvs : List (List UInt8 × Value)} {W : List UInt8} {e : Ent} (h : findE l T = some e) : lk (updE l T o kvs) T' W = if T' = T then valueAt kvs W else lk l T' W := by
  unfold lk
  rw [find_upd]
  by_cases x : T' = T
  · rw [if_pos x, if_pos x, h]; rfl
  · rw [if_neg x, if_neg x]
theorem BI.new {w I tb td lt ow mk c5 pre sec rp lb oo okvs ext done imm mo mkvs osl rl y yo} (B : BI w I tb td lt ow mk c5 pre sec rp lb oo okvs ext done imm mo mkvs osl rl y yo) {T W : Array UInt8} {rep : Bool} {e : Ent} (hT : T ∈ names4) (hrep : rep = true → T = prefB) (hn : findE rl T = none) (he : findE osl T = some e)
    {tp b bd rd : Nat} {cb : Hd} {nt key : Value} {cmd : Array UInt8} {tc tc' : Tok} {n : Nat} {mo' ro oso : Obj} (h1 : mo'.IsDictOf (BKn w) (stored mkvs T.toList (.ref rd))) (h2 : ro.IsDictOf (BKn w) (stored [] W.toList (.ref b))) (h3 : oso.IsDictOf (BKn w) (stored e.kvs W.toList (.ref tp))) (h4 : (rd == sysModules) = false)
    (o1 : y < rd) (o2 : I < rd) (o3 : rd < bd) (o4 : bd < b) (o5 : b < tp) :
    BI w I tb td lt ow mk c5 pre sec rp lb oo okvs ext (done ++ [(T, W, rep)]) ((tp, tupObj [.bytes cmd tc, .bool rep] n) :: (b, instObj 655 bd) :: (bd, bdObj cb key (.bytes cmd tc') (.bool rep) nt) :: imm) mo' (stored mkvs T.toList (.ref rd)) (updE osl T oso (stored e.kvs W.toList (.ref tp))) (rl ++ [⟨T, rd, ro, stored [] W.toList (.ref b)⟩]) tp (tupObj [.bytes cmd tc, .bool rep] n) := by
  have l0 : ∀ p ∈ imm ++ (mk, mo) :: (osl.map Ent.p ++ rl.map Ent.p), (p.1 : Nat) < rd := fun p hp => (B.bound p.1 p.2 hp).elim (Nat.lt_of_le_of_lt · o1) (Nat.lt_trans · o2)
  have li : ∀ p ∈ imm, (p.1 : Nat) < rd := fun p hp => l0 p (List.mem_append_left _ hp)
  have lm : mk < rd := l0 _ (List.mem_append_right _ (.head _))
  have lo : ∀ f ∈ osl, f.a < rd := fun f hf => l0 f.p (List.mem_append_right _ (.tail _ (List.mem_append_left _ (List.mem_map.mpr ⟨f, hf, rfl⟩))))
  have lr : ∀ f ∈ rl, f.a < rd := fun f hf => l0 f.p (List.mem_append_right _ (.tail _ (List.mem_append_right _ (List.mem_map.mpr ⟨f, hf, rfl⟩))))
  have o45 : bd < tp := Nat.lt_trans o4 o5
  have o345 : rd < tp := Nat.lt_trans o3 o45
  have hu : ∀ f ∈ osl, f.T = T → f = e := fun f hf x => B.u4 f hf e (find_some he).1 (x.trans (find_some he).2.symm)
  have hnr := find_none' hn
  have sl : done.length + 1 ≤ (done ++ [(T, W, rep)]).length := Nat.le_of_eq (List.length_append (as := done) (bs := [(T, W, rep)])).symm
  have nw : ∀ x : Nat, rd < x → x ≠ mk ∧ (∀ f ∈ updE osl T oso (stored e.kvs W.toList (.ref tp)), x ≠ f.a) ∧ ∀ f ∈ rl ++ [⟨T, rd, ro, stored [] W.toList (.ref b)⟩], x ≠ f.a := fun x hx =>
    ⟨Nat.ne_of_gt (Nat.lt_trans lm hx), upd_ta (P := fun _ a => x ≠ a) fun f hf => Nat.ne_of_gt (Nat.lt_trans (lo f hf) hx), all_app (fun f hf => Nat.ne_of_gt (Nat.lt_trans (lr f hf) hx)) (all_cons (Nat.ne_of_gt hx) all_nil)⟩
  have hs1 : ∀ p ∈ (tp, tupObj [.bytes cmd tc, .bool rep] n) :: (b, instObj 655 bd) :: (bd, bdObj cb key (.bytes cmd tc') (.bool rep) nt) :: imm, (p.1 : Nat) ≠ mk ∧ (∀ f ∈ updE osl T oso (stored e.kvs W.toList (.ref tp)), (p.1 : Nat) ≠ f.a) ∧ ∀ f ∈ rl ++ [⟨T, rd, ro, stored [] W.toList (.ref b)⟩], (p.1 : Nat) ≠ f.a :=
    all_cons (nw tp o345) (all_cons (nw b (Nat.lt_trans o3 o4)) (all_cons (nw bd o3) fun p hp => ⟨(B.s1 p.1 p.2 hp).1, upd_ta (P := fun _ a => (p.1 : Nat) ≠ a) (B.s1 p.1 p.2 hp).2.1, all_app (B.s1 p.1 p.2 hp).2.2 (all_cons (Nat.ne_of_lt (li p hp)) all_nil)⟩))
  have bb : ∀ p ∈ (tp, tupObj [.bytes cmd tc, .bool rep] n) :: (b, instObj 655 bd) :: (bd, bdObj cb key (.bytes cmd tc') (.bool rep) nt) :: imm ++ (mk, mo') :: ((updE osl T oso (stored e.kvs W.toList (.ref tp))).map Ent.p ++ (rl ++ [Ent.mk T rd ro (stored [] W.toList (.ref b))]).map Ent.p), (p.1 : Nat) ≤ tp :=
    all_cons (Nat.le_refl _) (all_cons (Nat.le_of_lt o5) (all_cons (Nat.le_of_lt o45) (all_app (fun p hp => Nat.le_of_lt (Nat.lt_trans (li p hp) o345)) (all_cons (Nat.le_of_lt (Nat.lt_trans lm o345)) (all_app (all_map (upd_ta (P := fun _ a => a ≤ tp) fun f hf => Nat.le_of_lt (Nat.lt_trans (lo f hf) o345))) (all_map (all_app (fun f hf => Nat.le_of_lt (Nat.lt_trans (lr f hf) o345)) (all_cons (Nat.le_of_lt o345) all_nil))))))))
  exact { htb := .tail _ (.tail _ (.tail _ B.htb)), htd := .tail _ (.tail _ (.tail _ B.htd)), hlt := .tail _ (.tail _ (.tail _ B.hlt)), how := .tail _ (.tail _ (.tail _ B.how)), hy := .head _, hext := fun p hp => .tail _ (.tail _ (.tail _ (B.hext p hp))), bound := fun a o hp => .inl (bb (a, o) hp), hlb := B.hlb, hoo := B.hoo, hmo := h1
          ok := upd_ta (P := fun T a => valueAt okvs T.toList = some (.ref a)) B.ok, mkv := mkv_stored B.mkv (by rw [find_snoc hn, if_pos rfl]; rfl) fun T' x => by rw [find_snoc hn, if_neg x]
          mkl := Nat.le_trans (stored_length_le mkvs T.toList (.ref rd)) (Nat.le_trans (Nat.succ_le_succ B.mkl) sl), hos := upd_hos hu sl h3 B.hos
          hrd := all_app (fun f hf => ⟨(B.hrd f hf).1, Nat.le_trans (B.hrd f hf).2.1 (Nat.le_trans (Nat.le_succ _) sl), (B.hrd f hf).2.2⟩) (all_cons ⟨h2, Nat.le_trans (stored_length_le [] W.toList (.ref b)) (Nat.le_trans (Nat.succ_le_succ (Nat.zero_le _)) sl), h4⟩ all_nil)
          names := fun T' => by rw [upd_isSome]; exact B.names T'
          rnames := all_app B.rnames (all_cons hT all_nil)
          have_ := all_app (fun r hr => find_isSome.mpr (by rw [List.map_append]; exact List.mem_append_left _ (find_isSome.mp (B.have_ r hr)))) (all_cons (find_isSome.mpr (by rw [List.map_append]; exact List.mem_append_right _ (.head _))) all_nil)
          s1 := fun a o hp => hs1 (a, o) hp, s2 := ⟨upd_ta (P := fun _ a => a ≠ mk) B.s2.1, all_app B.s2.2 (all_cons (Nat.ne_of_gt lm) all_nil)⟩
          s3 := upd_ta (P := fun _ a => ∀ f ∈ rl ++ [⟨T, rd, ro, stored [] W.toList (.ref b)⟩], a ≠ f.a) fun f hf => all_app (B.s3 f hf) (all_cons (Nat.ne_of_lt (lo f hf)) all_nil)
          s4 := upd_ta (P := fun T1 a => ∀ g ∈ updE osl T oso (stored e.kvs W.toList (.ref tp)), a = g.a → T1 = g.T) fun f hf => upd_ta (P := fun T1 a => f.a = a → f.T = T1) (B.s4 f hf)
          s5 := all_app (fun f hf => all_app (B.s5 f hf) (all_cons (fun x => absurd x (Nat.ne_of_lt (lr f hf))) all_nil)) (all_cons (all_app (fun f hf x => absurd x (Nat.ne_of_gt (lr f hf))) (all_cons (fun _ => rfl) all_nil)) all_nil)
          u4 := upd_u B.u4, u5 := all_app (fun f hf => all_app (B.u5 f hf) (all_cons (fun x => absurd x (hnr f hf)) all_nil)) (all_cons (all_app (fun f hf x => absurd x.symm (hnr f hf)) (all_cons (fun _ => rfl) all_nil)) all_nil)
          rel := fun T' W' => by
            rw [lk_upd he, lk_snoc hn]
            have r := B.rel T' W'
            by_cases x : T' = T
            · subst x
              rw [lk_off hn, lk_of he] at r
              rw [if_pos rfl, if_pos rfl]; exact rel_here (kr := []) (ko := e.kvs) r hrep
            · rw [if_neg x, if_neg x]; exact r.mono fun p hp => .tail _ (.tail _ (.tail _ hp)) }
end
section
theorem BI.old {w I tb td lt ow mk c5 pre sec rp lb oo okvs ext done imm mo mkvs osl rl y yo} (B : BI w I tb td lt ow mk c5 pre sec rp lb oo okvs ext done imm mo mkvs osl rl y yo) {T W : Array UInt8} {rep : Bool} {e g : Ent} (hT : T ∈ names4) (hrep : rep = true → T = prefB) (hn : findE rl T = some g) (he : findE osl T = some e)
    {tp b bd : Nat} {cb : Hd} {nt key : Value} {cmd : Array UInt8} {tc tc' : Tok} {n : Nat} {mo' ro oso : Obj} (h1 : mo'.IsDictOf (BKn w) (stored mkvs T.toList (.ref g.a))) (h2 : ro.IsDictOf (BKn w) (stored g.kvs W.toList (.ref b))) (h3 : oso.IsDictOf (BKn w) (stored e.kvs W.toList (.ref tp)))
    (o1 : y < bd) (o2 : I < bd) (o4 : bd < b) (o5 : b < tp) :
    BI w I tb td lt ow mk c5 pre sec rp lb oo okvs ext (done ++ [(T, W, rep)]) ((tp, tupObj [.bytes cmd tc, .bool rep] n) :: (b, instObj 655 bd) :: (bd, bdObj cb key (.bytes cmd tc') (.bool rep) nt) :: imm) mo' (stored mkvs T.toList (.ref g.a)) (updE osl T oso (stored e.kvs W.toList (.ref tp))) (updE rl T ro (stored g.kvs W.toList (.ref b))) tp (tupObj [.bytes cmd tc, .bool rep] n) := by
  have l0 : ∀ p ∈ imm ++ (mk, mo) :: (osl.map Ent.p ++ rl.map Ent.p), (p.1 : Nat) < bd := fun p hp => (B.bound p.1 p.2 hp).elim (Nat.lt_of_le_of_lt · o1) (Nat.lt_trans · o2)
  have lm : mk < bd := l0 _ (List.mem_append_right _ (.head _))
  have lo : ∀ f ∈ osl, f.a < bd := fun f hf => l0 f.p (List.mem_append_right _ (.tail _ (List.mem_append_left _ (List.mem_map.mpr ⟨f, hf, rfl⟩))))
  have lr : ∀ f ∈ rl, f.a < bd := fun f hf => l0 f.p (List.mem_append_right _ (.tail _ (List.mem_append_right _ (List.mem_map.mpr ⟨f, hf, rfl⟩))))
  have o45 : bd < tp := Nat.lt_trans o4 o5
  have hu : ∀ f ∈ osl, f.T = T → f = e := fun f hf x => B.u4 f hf e (find_some he).1 (x.trans (find_some he).2.symm)
  have hu' : ∀ f ∈ rl, f.T = T → f = g := fun f hf x => B.u5 f hf g (find_some hn).1 (x.trans (find_some hn).2.symm)
  have sl : done.length + 1 ≤ (done ++ [(T, W, rep)]).length := Nat.le_of_eq (List.length_append (as := done) (bs := [(T, W, rep)])).symm
  have nw : ∀ x : Nat, bd ≤ x → x ≠ mk ∧ (∀ f ∈ updE osl T oso (stored e.kvs W.toList (.ref tp)), x ≠ f.a) ∧ ∀ f ∈ updE rl T ro (stored g.kvs W.toList (.ref b)), x ≠ f.a := fun x hx =>
    ⟨Nat.ne_of_gt (Nat.lt_of_lt_of_le lm hx), upd_ta (P := fun _ a => x ≠ a) fun f hf => Nat.ne_of_gt (Nat.lt_of_lt_of_le (lo f hf) hx), upd_ta (P := fun _ a => x ≠ a) fun f hf => Nat.ne_of_gt (Nat.lt_of_lt_of_le (lr f hf) hx)⟩
  have hs1 : ∀ p ∈ (tp, tupObj [.bytes cmd tc, .bool rep] n) :: (b, instObj 655 bd) :: (bd, bdObj cb key (.bytes cmd tc') (.bool rep) nt) :: imm, (p.1 : Nat) ≠ mk ∧ (∀ f ∈ updE osl T oso (stored e.kvs W.toList (.ref tp)), (p.1 : Nat) ≠ f.a) ∧ ∀ f ∈ updE rl T ro (stored g.kvs W.toList (.ref b)), (p.1 : Nat) ≠ f.a :=
    all_cons (nw tp (Nat.le_of_lt o45)) (all_cons (nw b (Nat.le_of_lt o4)) (all_cons (nw bd (Nat.le_refl _)) fun p hp => ⟨(B.s1 p.1 p.2 hp).1, upd_ta (P := fun _ a => (p.1 : Nat) ≠ a) (B.s1 p.1 p.2 hp).2.1, upd_ta (P := fun _ a => (p.1 : Nat) ≠ a) (B.s1 p.1 p.2 hp).2.2⟩))
  have bb : ∀ p ∈ (tp, tupObj [.bytes cmd tc, .bool rep] n) :: (b, instObj 655 bd) :: (bd, bdObj cb key (.bytes cmd tc') (.bool rep) nt) :: imm ++ (mk, mo') :: ((updE osl T oso (stored e.kvs W.toList (.ref tp))).map Ent.p ++ (updE rl T ro (stored g.kvs W.toList (.ref b))).map Ent.p), (p.1 : Nat) ≤ tp :=
    all_cons (Nat.le_refl _) (all_cons (Nat.le_of_lt o5) (all_cons (Nat.le_of_lt o45) (all_app (fun p hp => Nat.le_of_lt (Nat.lt_trans (l0 p (List.mem_append_left _ hp)) o45)) (all_cons (Nat.le_of_lt (Nat.lt_trans lm o45)) (all_app (all_map (upd_ta (P := fun _ a => a ≤ tp) fun f hf => Nat.le_of_lt (Nat.lt_trans (lo f hf) o45))) (all_map (upd_ta (P := fun _ a => a ≤ tp) fun f hf => Nat.le_of_lt (Nat.lt_trans (lr f hf) o45))))))))
  exact { htb := .tail _ (.tail _ (.tail _ B.htb)), htd := .tail _ (.tail _ (.tail _ B.htd)), hlt := .tail _ (.tail _ (.tail _ B.hlt)), how := .tail _ (.tail _ (.tail _ B.how)), hy := .head _, hext := fun p hp => .tail _ (.tail _ (.tail _ (B.hext p hp))), bound := fun a o hp => .inl (bb (a, o) hp), hlb := B.hlb, hoo := B.hoo, hmo := h1
          ok := upd_ta (P := fun T a => valueAt okvs T.toList = some (.ref a)) B.ok, mkv := mkv_stored B.mkv (by rw [find_upd, if_pos rfl, hn]; rfl) fun T' x => by rw [find_upd, if_neg x]
          mkl := Nat.le_trans (stored_length_le mkvs T.toList (.ref g.a)) (Nat.le_trans (Nat.succ_le_succ B.mkl) sl), hos := upd_hos hu sl h3 B.hos, hrd := upd_hos hu' sl h2 B.hrd
          names := fun T' => by rw [upd_isSome]; exact B.names T'
          rnames := upd_ta (P := fun T _ => T ∈ names4) B.rnames
          have_ := all_app (fun r hr => by rw [upd_isSome]; exact B.have_ r hr) (all_cons (by rw [upd_isSome, hn]; rfl) all_nil)
          s1 := fun a o hp => hs1 (a, o) hp, s2 := ⟨upd_ta (P := fun _ a => a ≠ mk) B.s2.1, upd_ta (P := fun _ a => a ≠ mk) B.s2.2⟩
          s3 := upd_ta (P := fun _ a => ∀ f ∈ updE rl T ro (stored g.kvs W.toList (.ref b)), a ≠ f.a) fun f hf => upd_ta (P := fun _ a => f.a ≠ a) (B.s3 f hf)
          s4 := upd_ta (P := fun T1 a => ∀ g ∈ updE osl T oso (stored e.kvs W.toList (.ref tp)), a = g.a → T1 = g.T) fun f hf => upd_ta (P := fun T1 a => f.a = a → f.T = T1) (B.s4 f hf)
          s5 := upd_ta (P := fun T1 a => ∀ k ∈ updE rl T ro (stored g.kvs W.toList (.ref b)), a = k.a → T1 = k.T) fun f hf => upd_ta (P := fun T1 a => f.a = a → f.T = T1) (B.s5 f hf)
          u4 := upd_u B.u4, u5 := upd_u B.u5
          rel := fun T' W' => by
            rw [lk_upd he, lk_upd hn]
            have r := B.rel T' W'
            by_cases x : T' = T
            · subst x
              rw [lk_of hn, lk_of he] at r
              rw [if_pos rfl, if_pos rfl]; exact rel_here r hrep
            · rw [if_neg x, if_neg x]; exact r.mono fun p hp => .tail _ (.tail _ (.tail _ hp)) }
def TabsL (w : World) (tl : List (Addr × Obj)) (tb ow : Addr) (r : Int) (Pb : Array UInt8) (S : Option (Array UInt8)) (okvs : List (List UInt8 × Value)) : Prop :=
  ∀ W : Array UInt8, ∃ Fs Fl : FT, (∀ T, Rel1 (Fl T) (Fs T)) ∧ RepOk Fl ∧ (∀ T b told rep, Fs T = some (b, told, rep) → ∃ cmd tc, told = .bytes cmd tc) ∧
    ∀ h : Heap, (∀ p ∈ tl, h.get? p.1 = some p.2) → TabsAt w h tb r Pb S W Fs ∧ OwnAt w h ow okvs W Fl
theorem EntRel.or {imm : List (Addr × Obj)} {T : Array UInt8} {x y x' y' : Option Value} (h : EntRel imm T x y) (h' : EntRel imm T x' y') : EntRel imm T (x.or x') (y.or y') := by
  cases h with
  | no => simpa using h'
  | yes a b c d => exact .yes a b c d
theorem BI.tabs {w I tb td lt ow mk c5 pre sec rp lb oo okvs ext done imm mo mkvs osl rl y yo} (B : BI w I tb td lt ow mk c5 pre sec rp lb oo okvs ext done imm mo mkvs osl rl y yo) (hd : ∀ T ∈ names4, (findE rl T).isSome = true) {Pb : Array UInt8} {S : Option (Array UInt8)} {tP tS tr : Tok} {r : Int} {tl : List (Addr × Obj)} {c5' : H5}
    (ht1 : ((tb : Addr), instObj 754 td) ∈ tl) (ht2 : ((td : Addr), tbObj c5' mk lt (.bytes Pb tP) (optB S tS) (.int r tr)) ∈ tl) (hl : (lt == sysModules) = false) (hm : (mk == sysModules) = false)
    (hsub : ∀ p ∈ imm ++ (mk, mo) :: (osl.map Ent.p ++ rl.map Ent.p), p.1 ≠ td → p ∈ tl) (hi : ∀ p ∈ imm, p.1 = td → p.2 = tbObj c5 mk lt pre sec rp) (hn1 : td ≠ mk) (hn2 : td ≠ lt) (hn3 : td ≠ ow) : TabsL w tl tb ow r Pb S okvs := by
  intro W
  have one : ∀ T : Array UInt8, ∃ fs fl : Option (Addr × Value × Bool), Rel1 fl fs ∧ (∀ b told, fl = some (b, told, true) → T = prefB) ∧ (∀ b told rep, fs = some (b, told, rep) → ∃ cmd tc, told = .bytes cmd tc) ∧ ∀ g : Heap, (∀ p ∈ imm, p.1 ≠ td → g.get? p.1 = some p.2) → FindO g ((lk rl T W.toList).or (lk rl T anyB.toList)) fs ∧ FindL g ((lk osl T W.toList).or (lk osl T anyB.toList)) fl := by
    intro T
    have h := (B.rel T W.toList).or (B.rel T anyB.toList)
    generalize (lk rl T W.toList).or (lk rl T anyB.toList) = x at h
    generalize (lk osl T W.toList).or (lk osl T anyB.toList) = z at h
    cases h with
    | no => exact ⟨none, none, .no, (fun _ _ e => nomatch e), (fun _ _ _ e => nomatch e), (fun g _ => ⟨.no, .no⟩)⟩
    | yes a b c d =>
      rename_i b0 bd tp cb key note cmd tc tc' rep n
      have q1 : b0 ≠ td := fun e => by have := hi _ a e; simp [instObj, dictOf] at this
      have q2 : bd ≠ td := fun e => by
        have := hi _ b e
        have e1 := congrArg Obj.data this
        simp at e1
      have q3 : tp ≠ td := fun e => by have := hi _ c e; simp [dictOf] at this
      refine ⟨some (b0, .bytes cmd tc', rep), some (tp, .bytes cmd tc, rep), .yes, fun _ _ e => ?_, fun _ _ _ e => ?_, fun g hg => ⟨.yes ⟨bd, cb, key, note, hg _ a q1, hg _ b q2⟩, .yes (hg _ c q3)⟩⟩
      · simp only [Option.some.injEq, Prod.mk.injEq] at e; exact d e.2.2
      · simp only [Option.some.injEq, Prod.mk.injEq] at e; exact ⟨cmd, tc', e.2.1.symm⟩
  refine ⟨fun T => Classical.choose (one T), fun T => Classical.choose (Classical.choose_spec (one T)), fun T => (Classical.choose_spec (Classical.choose_spec (one T))).1, fun T b told e => (Classical.choose_spec (Classical.choose_spec (one T))).2.1 b told e, fun T b told rep e => (Classical.choose_spec (Classical.choose_spec (one T))).2.2.1 b told rep e, fun g hg => ?_⟩
  have himm : ∀ p ∈ imm, p.1 ≠ td → g.get? p.1 = some p.2 := fun p hp hne => hg p (hsub p (List.mem_append_left _ hp) hne)
  have fin := fun T => (Classical.choose_spec (Classical.choose_spec (one T))).2.2.2 g himm
  have gmk : g.get? mk = some mo := hg (mk, mo) (hsub _ (by simp) (fun e => hn1 e.symm))
  have gos : ∀ e ∈ osl, g.get? e.a = some e.o := fun e he => hg e.p (hsub _ (List.mem_append_right _ (List.mem_cons_of_mem _ (List.mem_append_left _ (List.mem_map.mpr ⟨e, he, rfl⟩)))) fun x => (B.s1 td _ B.htd).2.1 e he x.symm)
  have grd : ∀ e ∈ rl, g.get? e.a = some e.o := fun e he => hg e.p (hsub _ (List.mem_append_right _ (List.mem_cons_of_mem _ (List.mem_append_right _ (List.mem_map.mpr ⟨e, he, rfl⟩)))) fun x => (B.s1 td _ B.htd).2.2 e he x.symm)
  have glt : g.get? lt = some lb := himm _ B.hlt (fun e => hn2 e.symm)
  have gow : g.get? ow = some oo := himm _ B.how (fun e => hn3 e.symm)
  refine ⟨⟨td, mk, lt, c5', tP, tS, tr, mkvs, hg _ ht1, hg _ ht2, Heap.dictOf_iff.mpr ⟨lb, glt, B.hlb⟩, hl, Heap.dictOf_iff.mpr ⟨mo, gmk, B.hmo⟩, hm, fun T hT => ?_⟩, ⟨Heap.dictOf_iff.mpr ⟨oo, gow, B.hoo⟩, fun T hT => ?_⟩⟩
  · obtain ⟨e, he⟩ := Option.isSome_iff_exists.mp (hd T hT)
    obtain ⟨hm1, hm2⟩ := find_some he
    refine ⟨e.a, e.kvs, by rw [B.mkv T, he]; rfl, Heap.dictOf_iff.mpr ⟨e.o, grd e hm1, (B.hrd e hm1).1⟩, (B.hrd e hm1).2.2, ?_⟩
    have := (fin T).1
    simpa [lk, he, fval] using this
  · obtain ⟨e, he⟩ := Option.isSome_iff_exists.mp ((B.names T).mpr hT)
    obtain ⟨hm1, hm2⟩ := find_some he
    refine ⟨e.a, e.kvs, by rw [← hm2]; exact B.ok e hm1, Heap.dictOf_iff.mpr ⟨e.o, gos e hm1, (B.hos e hm1).1⟩, (B.hos e hm1).2.2, ?_⟩
    have := (fin T).2
    simpa [lk, he, fval] using this
end
section
def RowsOf (w : World) (ext : List (Addr × Obj)) : List Value → List Row → Prop
  | [], [] => True
  | v :: vs, r :: R => ((∃ tp : Nat, ∃ t t' k, v = .ref tp ∧ ((tp : Addr), tupObj [.bytes r.1 t, .bytes r.2.1 t', .bool r.2.2] k) ∈ ext) ∧ r.1 ∈ names4 ∧ (r.2.2 = true → r.1 = prefB) ∧ MuxIs w r.2.1 ∧ r.1.size + r.2.1.size ≤ 100) ∧ RowsOf w ext vs R
  | _, _ => False
def rowMap (m₀ : Str → Option Value) (vt vw vr : Option Value) : Str → Option Value := fun z =>
  if z = Str.ofString "table" then vt else if z = Str.ofString "word" then vw else if z = Str.ofString "is_repeat" then vr else m₀ z
inductive RowNext (w : World) (h₀ : Heap) (L : Addr) (I mk os rd y : Nat) (m₀ : Str → Option Value) (T W : Array UInt8) (rep : Bool) (mkvs kvs lv : List (List UInt8 × Value)) (fresh : Bool) (it : Obj) (rest : List (Addr × Obj)) (s₁ : Shared) (s₂ : Shared) : Prop
  | mk {h' : Heap} {tk' : Nat} {vt vw vr : Option Value} {tp b bd rd' : Nat} {cb : Hd} {nt key : Value} {cmd : Array UInt8} {tc tc' : Tok} {n : Nat} {mo' ro oso : Obj} (e : s₂ = { s₁ with heap := h', toks := tk' }) (F : Fr h₀ L h' (rowMap m₀ vt vw vr))
      (N : News h₀ L h' (((tp : Addr), tupObj [.bytes cmd tc, .bool rep] n) :: ((b : Addr), instObj 655 bd) :: ((bd : Addr), bdObj cb key (.bytes cmd tc') (.bool rep) nt) :: ((rd' : Addr), ro) :: ((I : Addr), it) :: ((mk : Addr), mo') :: ((os : Addr), oso) :: rest))
      (d1 : mo'.IsDictOf (BKn w) (stored mkvs T.toList (.ref rd'))) (d2 : ro.IsDictOf (BKn w) (stored kvs W.toList (.ref b))) (d3 : oso.IsDictOf (BKn w) (stored lv W.toList (.ref tp)))
      (q : if fresh then (rd' == sysModules) = false ∧ y < rd' ∧ I < rd' ∧ rd' < bd else rd' = rd ∧ y < bd ∧ I < bd) (q4 : bd < b) (q5 : b < tp) : RowNext w h₀ L I mk os rd y m₀ T W rep mkvs kvs lv fresh it rest s₁ s₂
def RowEnd (w : World) (h₀ : Heap) (L : Addr) (I mk os rd y : Nat) (m₀ : Str → Option Value) (T W : Array UInt8) (rep : Bool) (mkvs kvs lv : List (List UInt8 × Value)) (fresh : Bool) (it : Obj) (rest : List (Addr × Obj)) (s₁ : Shared) (Q : Flow → Shared → Prop) (f : Flow) (s₂ : Shared) : Prop := match f with
  | .ret v => Q (.ret v) s₂
  | .brk => Q .next s₂
  | _ => RowNext w h₀ L I mk os rd y m₀ T W rep mkvs kvs lv fresh it rest s₁ s₂
section
variable {prog : Program} {w : World} {A : Around} {E : Value → Shared → Prop} {s : Shared} {env : Env} {h₀ : Heap} {target : Expr} {body : List Stmt} {Q : Flow → Shared → Prop}
structure TurnF (w : World) (I tb td lt ow mk os y : Nat) (lb oo mo oso : Obj) (okvs mkvs lv : List (List UInt8 × Value)) (T W : Array UInt8) (tp0 : Nat) (rest : List (Addr × Obj)) : Prop where
  hmo : mo.IsDictOf (BKn w) mkvs
  hlb : lb.IsDictOf (BKn w) []
  hoo : oo.IsDictOf (BKn w) okvs
  hoso : oso.IsDictOf (BKn w) lv
  hsz : mkvs.length ≤ sizeLine
  hsl : lv.length ≤ sizeLine
  hvo : valueAt okvs T.toList = some (.ref os)
  hMX : MuxIs w W
  hsw : T.size + W.size ≤ 100
  n1 : I ≠ mk ∧ y ≠ mk ∧ tb ≠ mk ∧ td ≠ mk ∧ lt ≠ mk ∧ ow ≠ mk ∧ os ≠ mk ∧ tp0 ≠ mk ∧ ∀ p ∈ rest, p.1 ≠ mk
  n2 : I ≠ os ∧ y ≠ os ∧ tb ≠ os ∧ td ≠ os ∧ lt ≠ os ∧ ow ≠ os ∧ mk ≠ os ∧ tp0 ≠ os ∧ ∀ p ∈ rest, p.1 ≠ os
  lo : os ≤ y ∨ os < I
theorem turn_next {h' : Heap} {tk' : Nat} {s₁ s₃ : Shared} {I ls : Nat} {lo it : Obj} {m' : Str → Option Value} {tpE bE bdE rdE mkE osE : Addr × Obj} {rest imm osl' rl' : List (Addr × Obj)} {vs : List Itm}
    (e1 : s₃ = { s₁ with heap := h', toks := tk' }) (F' : Fr h₀ env.locals h' m') (N' : News h₀ env.locals h' (tpE :: bE :: bdE :: rdE :: ((I : Addr), it) :: mkE :: osE :: rest))
    (n1 : tpE.1 ≠ I) (n2 : bE.1 ≠ I) (n3 : bdE.1 ≠ I) (n4 : rdE.1 ≠ I) (n5 : mkE.1 ≠ I) (n6 : osE.1 ≠ I)
    (h1 : ∀ p ∈ imm, p ∈ rest ∧ p.1 ≠ I) (h2 : ∀ p ∈ osl', p = osE ∨ p ∈ rest ∧ p.1 ≠ I) (h3 : ∀ p ∈ rl', p = rdE ∨ p ∈ rest ∧ p.1 ≠ I) (hls : ((ls : Addr), lo) ∈ tpE :: bE :: bdE :: imm)
    (next : (∀ (a : Nat) (o : Obj), ((a : Addr), o) ∈ tpE :: bE :: bdE :: imm ++ mkE :: (osl' ++ rl') → a ≠ I) → ItemsRest prog w A E h₀ env target body Q s [((I : Addr), "list_iterator")] [((ls : Addr), lo)] vs m' (tpE :: bE :: bdE :: imm ++ mkE :: (osl' ++ rl'))) :
    UnrEndW h₀ env.locals s₁ [((I : Addr), it)] (fun m' n' => SubL [((ls : Addr), lo)] n' ∧ ItemsRest prog w A E h₀ env target body Q s [((I : Addr), "list_iterator")] [((ls : Addr), lo)] vs m' n') s₃ := by
  have hr : ∀ p ∈ rest, p ∈ tpE :: bE :: bdE :: rdE :: ((I : Addr), it) :: mkE :: osE :: rest := fun p hp => .tail _ (.tail _ (.tail _ (.tail _ (.tail _ (.tail _ (.tail _ hp))))))
  have hm : ∀ p ∈ tpE :: bE :: bdE :: imm ++ mkE :: (osl' ++ rl'), p ∈ tpE :: bE :: bdE :: rdE :: ((I : Addr), it) :: mkE :: osE :: rest ∧ p.1 ≠ I :=
    all_cons ⟨.head _, n1⟩ (all_cons ⟨.tail _ (.head _), n2⟩ (all_cons ⟨.tail _ (.tail _ (.head _)), n3⟩ (all_app (fun p hp => ⟨hr p (h1 p hp).1, (h1 p hp).2⟩) (all_cons ⟨.tail _ (.tail _ (.tail _ (.tail _ (.tail _ (.head _))))), n5⟩ (all_app
      (fun p hp => (h2 p hp).elim (fun e => by rw [e]; exact ⟨.tail _ (.tail _ (.tail _ (.tail _ (.tail _ (.tail _ (.head _)))))), n6⟩) fun h => ⟨hr p h.1, h.2⟩)
      (fun p hp => (h3 p hp).elim (fun e => by rw [e]; exact ⟨.tail _ (.tail _ (.tail _ (.head _))), n4⟩) fun h => ⟨hr p h.1, h.2⟩))))))
  exact ⟨h', tk', m', _, e1, F', all_cons (N' _ (.tail _ (.tail _ (.tail _ (.tail _ (.head _)))))) fun p hp => N' p (hm p hp).1, fun p hp q hq x => (hm p hp).2 (x.trans (congrArg Prod.fst (List.mem_singleton.mp hq))), ⟨List.mem_append_left _ hls, trivial⟩, next fun a o hp => (hm _ hp).2⟩
theorem turn_news {h : Heap} {L : Addr} {IE yE tbE tdE mkE ltE owE osE tpE : Addr × Obj} {imm ol rl rest : List (Addr × Obj)} (N : News h₀ L h (IE :: (imm ++ mkE :: (ol ++ rl)))) (i1 : yE ∈ imm) (i2 : tbE ∈ imm) (i3 : tdE ∈ imm) (i4 : ltE ∈ imm) (i5 : owE ∈ imm) (i6 : osE ∈ ol) (i7 : tpE ∈ imm) (hr : ∀ p ∈ rest, p ∈ imm ++ (ol ++ rl)) : News h₀ L h (IE :: yE :: tbE :: tdE :: mkE :: ltE :: owE :: osE :: tpE :: rest) :=
  have ni : ∀ p ∈ imm, p ∈ IE :: (imm ++ mkE :: (ol ++ rl)) := fun p hp => .tail _ (List.mem_append_left _ hp)
  have no : ∀ p ∈ ol ++ rl, p ∈ IE :: (imm ++ mkE :: (ol ++ rl)) := fun p hp => .tail _ (List.mem_append_right _ (.tail _ hp))
  all_cons (N _ (.head _)) (all_cons (N _ (ni _ i1)) (all_cons (N _ (ni _ i2)) (all_cons (N _ (ni _ i3)) (all_cons (N _ (.tail _ (List.mem_append_right _ (.head _)))) (all_cons (N _ (ni _ i4)) (all_cons (N _ (ni _ i5)) (all_cons (N _ (no _ (List.mem_append_left _ i6))) (all_cons (N _ (ni _ i7)) fun p hp => N p ((List.mem_append.mp (hr p hp)).elim (ni p) (no p))))))))))
theorem rows_rest {I tb td lt ow mk ls : Nat} {c5 : H5} {pre sec rp : Value} {lb oo lo : Obj} {okvs : List (List UInt8 × Value)} {ext : List (Addr × Obj)} {m₀ : Str → Option Value} (hls : ((ls : Addr), lo) ∈ ext)
    (turnN : ∀ T W rep, ∀ (tp0 : Nat) t t' k0 vt vw vr it, ∀ (y : Nat) yo mo mkvs, ∀ (os : Nat) oso lv rest h tk, TurnF w I tb td lt ow mk os y lb oo mo oso okvs mkvs lv T W tp0 rest → valueAt mkvs T.toList = none → Fr h₀ env.locals h (rowMap m₀ vt vw vr) →
      News h₀ env.locals h (((I : Addr), it) :: ((y : Addr), yo) :: ((tb : Addr), instObj 754 td) :: ((td : Addr), tbObj c5 mk lt pre sec rp) :: ((mk : Addr), mo) :: ((lt : Addr), lb) :: ((ow : Addr), oo) :: ((os : Addr), oso) :: ((tp0 : Addr), tupObj [.bytes T t, .bytes W t', .bool rep] k0) :: rest) →
      wpAny (model prog w) A (assign target env (.ref tp0)) (fun _ s₂ => wpAny (model prog w) A (execs body env) (RowEnd w h₀ env.locals I mk os 0 y m₀ T W rep mkvs [] lv true it rest { s with heap := h, toks := tk } Q) E s₂) E { s with heap := h, toks := tk })
    (turnO : ∀ T W rep, ∀ (tp0 : Nat) t t' k0 vt vw vr it, ∀ (y : Nat) yo mo mkvs, ∀ (os : Nat) oso lv, ∀ (rd : Nat) ro kvs rest h tk, TurnF w I tb td lt ow mk os y lb oo mo oso okvs mkvs lv T W tp0 rest → valueAt mkvs T.toList = some (.ref rd) → ro.IsDictOf (BKn w) kvs → (rd == sysModules) = false → kvs.length ≤ sizeLine →
      (I ≠ rd ∧ y ≠ rd ∧ tb ≠ rd ∧ td ≠ rd ∧ lt ≠ rd ∧ ow ≠ rd ∧ mk ≠ rd ∧ os ≠ rd ∧ tp0 ≠ rd ∧ rd ≠ mk ∧ rd ≠ os ∧ ∀ p ∈ rest, p.1 ≠ rd) → Fr h₀ env.locals h (rowMap m₀ vt vw vr) →
      News h₀ env.locals h (((rd : Addr), ro) :: ((I : Addr), it) :: ((y : Addr), yo) :: ((tb : Addr), instObj 754 td) :: ((td : Addr), tbObj c5 mk lt pre sec rp) :: ((mk : Addr), mo) :: ((lt : Addr), lb) :: ((ow : Addr), oo) :: ((os : Addr), oso) :: ((tp0 : Addr), tupObj [.bytes T t, .bytes W t', .bool rep] k0) :: rest) →
      wpAny (model prog w) A (assign target env (.ref tp0)) (fun _ s₂ => wpAny (model prog w) A (execs body env) (RowEnd w h₀ env.locals I mk os rd y m₀ T W rep mkvs kvs lv false it rest { s with heap := h, toks := tk } Q) E s₂) E { s with heap := h, toks := tk })
    {Rall : List Row} (hRl : Rall.length ≤ 100)
    (done : ∀ imm mo mkvs osl rl, ∀ (y : Nat) yo vt vw vr h tk, BI w I tb td lt ow mk c5 pre sec rp lb oo okvs ext Rall imm mo mkvs osl rl y yo → Fr h₀ env.locals h (rowMap m₀ vt vw vr) → News h₀ env.locals h (imm ++ ((mk : Addr), mo) :: (osl.map Ent.p ++ rl.map Ent.p)) → Q .next { s with heap := h, toks := tk }) :
    ∀ (R : List Row) (vs : List Value) (dn : List Row) (vt vw vr : Option Value) imm mo mkvs osl rl, ∀ (y : Nat) yo, Rall = dn ++ R → RowsOf w ext vs R → BI w I tb td lt ow mk c5 pre sec rp lb oo okvs ext dn imm mo mkvs osl rl y yo → (∀ (a : Nat) (o : Obj), ((a : Addr), o) ∈ imm ++ ((mk : Addr), mo) :: (osl.map Ent.p ++ rl.map Ent.p) → a ≠ I) →
      ItemsRest prog w A E h₀ env target body Q s [((I : Addr), "list_iterator")] [((ls : Addr), lo)] (vs.map .val) (rowMap m₀ vt vw vr) (imm ++ ((mk : Addr), mo) :: (osl.map Ent.p ++ rl.map Ent.p))
  | [], [], dn, vt, vw, vr, imm, mo, mkvs, osl, rl, y, yo, eR, hR, B, hI => by
    have e : Rall = dn := by rw [eR, List.append_nil]
    subst e
    exact ItemsRest.zero fun h tk F N => done imm mo mkvs osl rl y yo vt vw vr h tk B F N
  | [], _ :: _, dn, vt, vw, vr, imm, mo, mkvs, osl, rl, y, yo, eR, hR, B, hI => (show False from hR).elim
  | _ :: _, [], dn, vt, vw, vr, imm, mo, mkvs, osl, rl, y, yo, eR, hR, B, hI => (show False from hR).elim
  | (T, W, rep) :: R, v :: vs, dn, vt, vw, vr, imm, mo, mkvs, osl, rl, y, yo, eR, hR, B, hI => by
    obtain ⟨⟨⟨tp0, t, t', k0, rfl, htp⟩, hT, hrep, hMX, hsw⟩, hR'⟩ := hR
    obtain ⟨e, he⟩ := Option.isSome_iff_exists.mp ((B.names T).mpr hT)
    obtain ⟨heo, heT⟩ := find_some he
    have hlen : dn.length ≤ 100 := by rw [eR] at hRl; simp at hRl; omega
    have eR' : Rall = (dn ++ [(T, W, rep)]) ++ R := by rw [eR]; simp
    have hsz : ∀ n, n ≤ dn.length → n ≤ sizeLine := fun n hn => by rw [sizeLine_eq]; omega
    have tpi := B.hext _ htp
    have sI := fun a o (hp : ((a : Addr), o) ∈ imm) => hI a o (List.mem_append_left _ hp)
    have mkI : mk ≠ I := hI mk mo (by simp)
    have osI : ∀ f ∈ osl, f.a ≠ I := fun f hf => hI f.a f.o (List.mem_append_right _ (List.mem_cons_of_mem _ (List.mem_append_left _ (List.mem_map.mpr ⟨f, hf, rfl⟩))))
    have rdI : ∀ f ∈ rl, f.a ≠ I := fun f hf => hI f.a f.o (List.mem_append_right _ (List.mem_cons_of_mem _ (List.mem_append_right _ (List.mem_map.mpr ⟨f, hf, rfl⟩))))
    have hbo : e.a ≤ y ∨ e.a < I := B.bound e.a e.o (List.mem_append_right _ (List.mem_cons_of_mem _ (List.mem_append_left _ (List.mem_map.mpr ⟨e, heo, rfl⟩))))
    refine ItemsRest.val fun h tk F => AllObj.cons fun it hc => AllObj.nil fun N => ?_
    have N : News h₀ env.locals h (((I : Addr), it) :: (imm ++ ((mk : Addr), mo) :: (osl.map Ent.p ++ rl.map Ent.p))) := N
    have nr : ∀ f ∈ rl, f.p ∈ ((I : Addr), it) :: (imm ++ ((mk : Addr), mo) :: (osl.map Ent.p ++ rl.map Ent.p)) := fun f hf => List.mem_cons_of_mem _ (List.mem_append_right _ (List.mem_cons_of_mem _ (List.mem_append_right _ (List.mem_map.mpr ⟨f, hf, rfl⟩))))
    have im : ∀ a o, ((a : Addr), o) ∈ imm → (a : Nat) ≠ mk := fun a o hp => (B.s1 a o hp).1
    have io : ∀ a o, ((a : Addr), o) ∈ imm → (a : Nat) ≠ e.a := fun a o hp => (B.s1 a o hp).2.1 e heo
    cases hf : findE rl T with
    | none =>
      let rest := (imm ++ (osl.map Ent.p ++ rl.map Ent.p)).filter fun p => decide (p.1 ≠ mk ∧ p.1 ≠ e.a)
      have tf : TurnF w I tb td lt ow mk e.a y lb oo mo e.o okvs mkvs e.kvs T W tp0 rest := {
        hmo := B.hmo, hlb := B.hlb, hoo := B.hoo, hoso := (B.hos e heo).1, hsz := hsz _ B.mkl, hsl := hsz _ (B.hos e heo).2.1, hvo := by rw [← heT]; exact B.ok e heo, hMX := hMX, hsw := hsw
        n1 := ⟨fun x => mkI x.symm, im _ _ B.hy, im _ _ B.htb, im _ _ B.htd, im _ _ B.hlt, im _ _ B.how, B.s2.1 e heo, im _ _ tpi, fun p hp => (of_decide_eq_true (List.mem_filter.mp hp).2).1⟩
        n2 := ⟨fun x => osI e heo x.symm, io _ _ B.hy, io _ _ B.htb, io _ _ B.htd, io _ _ B.hlt, io _ _ B.how, fun x => B.s2.1 e heo x.symm, io _ _ tpi, fun p hp => (of_decide_eq_true (List.mem_filter.mp hp).2).2⟩
        lo := hbo }
      have hv : valueAt mkvs T.toList = none := by rw [B.mkv T, hf]; rfl
      refine wpAny_mono (turnN T W rep tp0 t t' k0 vt vw vr it y yo mo mkvs e.a e.o e.kvs rest h tk tf hv F ?_) (fun _ s₂ h₂ => wpAny_mono h₂ (fun f s₃ p => ?_) fun _ _ x => x) fun _ _ x => x
      · exact turn_news N B.hy B.htb B.htd B.hlt B.how (List.mem_map.mpr ⟨e, heo, rfl⟩) tpi fun p hp => (List.mem_filter.mp hp).1
      · have fin : RowNext w h₀ env.locals I mk e.a 0 y m₀ T W rep mkvs [] e.kvs true it rest { s with heap := h, toks := tk } s₃ → UnrEndW h₀ env.locals { s with heap := h, toks := tk } [((I : Addr), it)] (fun m' n' => SubL [((ls : Addr), lo)] n' ∧ ItemsRest prog w A E h₀ env target body Q s [((I : Addr), "list_iterator")] [((ls : Addr), lo)] (vs.map .val) m' n') s₃ := by
          rintro @⟨h', tk', vt', vw', vr', tp, b, bd, rd, cb, nt, key, cmd, tc, tc', n, mo', ro, oso, e1, F', N', d1, d2, d3, q, q4, q5⟩
          obtain ⟨q0, q1, q2, q3⟩ := q
          have B' := B.new hT hrep hf he (cb := cb) (nt := nt) (key := key) (cmd := cmd) (tc := tc) (tc' := tc') (n := n) (rep := rep) d1 d2 d3 q0 q1 q2 q3 q4 q5
          exact turn_next e1 F' N' (by show (_ : Nat) ≠ _; omega) (by show (_ : Nat) ≠ _; omega) (by show (_ : Nat) ≠ _; omega) (by show (_ : Nat) ≠ _; omega) mkI (osI e heo)
            (fun p hp => ⟨List.mem_filter.mpr ⟨List.mem_append_left _ hp, decide_eq_true ⟨im p.1 p.2 hp, io p.1 p.2 hp⟩⟩, sI p.1 p.2 hp⟩)
            (upd_all (fun f hf x => B.u4 f hf e heo (x.trans heT.symm)) (.inl rfl) fun f hf x => .inr ⟨List.mem_filter.mpr ⟨List.mem_append_right _ (List.mem_append_left _ (List.mem_map.mpr ⟨f, hf, rfl⟩)), decide_eq_true ⟨B.s2.1 f hf, fun z => x ((B.s4 f hf e heo z).trans heT)⟩⟩, osI f hf⟩)
            (by rw [List.map_append]; exact all_app (all_map fun f hf => .inr ⟨List.mem_filter.mpr ⟨List.mem_append_right _ (List.mem_append_right _ (List.mem_map.mpr ⟨f, hf, rfl⟩)), decide_eq_true ⟨B.s2.2 f hf, fun x => B.s3 e heo f hf x.symm⟩⟩, rdI f hf⟩) (all_cons (.inl rfl) all_nil))
            (B'.hext _ hls) (rows_rest hls turnN turnO hRl done R vs (dn ++ [(T, W, rep)]) _ _ _ _ _ _ _ _ _ _ eR' hR' B')
        cases f with
        | ret v => exact p
        | brk => exact p
        | next => exact fin p
        | cont => exact fin p
    | some g =>
      obtain ⟨hgo, hgT⟩ := find_some hf
      have ir : ∀ a o, ((a : Addr), o) ∈ imm → (a : Nat) ≠ g.a := fun a o hp => (B.s1 a o hp).2.2 g hgo
      let rest := (imm ++ (osl.map Ent.p ++ rl.map Ent.p)).filter fun p => decide (p.1 ≠ mk ∧ p.1 ≠ e.a ∧ p.1 ≠ g.a)
      have tf : TurnF w I tb td lt ow mk e.a y lb oo mo e.o okvs mkvs e.kvs T W tp0 rest := {
        hmo := B.hmo, hlb := B.hlb, hoo := B.hoo, hoso := (B.hos e heo).1, hsz := hsz _ B.mkl, hsl := hsz _ (B.hos e heo).2.1, hvo := by rw [← heT]; exact B.ok e heo, hMX := hMX, hsw := hsw
        n1 := ⟨fun x => mkI x.symm, im _ _ B.hy, im _ _ B.htb, im _ _ B.htd, im _ _ B.hlt, im _ _ B.how, B.s2.1 e heo, im _ _ tpi, fun p hp => (of_decide_eq_true (List.mem_filter.mp hp).2).1⟩
        n2 := ⟨fun x => osI e heo x.symm, io _ _ B.hy, io _ _ B.htb, io _ _ B.htd, io _ _ B.hlt, io _ _ B.how, fun x => B.s2.1 e heo x.symm, io _ _ tpi, fun p hp => (of_decide_eq_true (List.mem_filter.mp hp).2).2.1⟩
        lo := hbo }
      have hv : valueAt mkvs T.toList = some (.ref g.a) := by rw [B.mkv T, hf]; rfl
      refine wpAny_mono (turnO T W rep tp0 t t' k0 vt vw vr it y yo mo mkvs e.a e.o e.kvs g.a g.o g.kvs rest h tk tf hv (B.hrd g hgo).1 (B.hrd g hgo).2.2 (hsz _ (B.hrd g hgo).2.1) ⟨fun x => rdI g hgo x.symm, ir _ _ B.hy, ir _ _ B.htb, ir _ _ B.htd, ir _ _ B.hlt, ir _ _ B.how, fun x => B.s2.2 g hgo x.symm, B.s3 e heo g hgo, ir _ _ tpi, B.s2.2 g hgo, fun x => B.s3 e heo g hgo x.symm, fun p hp => (of_decide_eq_true (List.mem_filter.mp hp).2).2.2⟩ F ?_) (fun _ s₂ h₂ => wpAny_mono h₂ (fun f s₃ p => ?_) fun _ _ x => x) fun _ _ x => x
      · exact all_cons (N _ (nr g hgo)) (turn_news N B.hy B.htb B.htd B.hlt B.how (List.mem_map.mpr ⟨e, heo, rfl⟩) tpi fun p hp => (List.mem_filter.mp hp).1)
      · have fin : RowNext w h₀ env.locals I mk e.a g.a y m₀ T W rep mkvs g.kvs e.kvs false it rest { s with heap := h, toks := tk } s₃ → UnrEndW h₀ env.locals { s with heap := h, toks := tk } [((I : Addr), it)] (fun m' n' => SubL [((ls : Addr), lo)] n' ∧ ItemsRest prog w A E h₀ env target body Q s [((I : Addr), "list_iterator")] [((ls : Addr), lo)] (vs.map .val) m' n') s₃ := by
          rintro @⟨h', tk', vt', vw', vr', tp, b, bd, rd, cb, nt, key, cmd, tc, tc', n, mo', ro, oso, e1, F', N', d1, d2, d3, q, q4, q5⟩
          obtain ⟨q0, q1, q2⟩ := q
          subst q0
          have B' := B.old hT hrep hf he (cb := cb) (nt := nt) (key := key) (cmd := cmd) (tc := tc) (tc' := tc') (n := n) (rep := rep) d1 d2 d3 q1 q2 q4 q5
          exact turn_next e1 F' N' (by show (_ : Nat) ≠ _; omega) (by show (_ : Nat) ≠ _; omega) (by show (_ : Nat) ≠ _; omega) (rdI g hgo) mkI (osI e heo)
            (fun p hp => ⟨List.mem_filter.mpr ⟨List.mem_append_left _ hp, decide_eq_true ⟨im p.1 p.2 hp, io p.1 p.2 hp, ir p.1 p.2 hp⟩⟩, sI p.1 p.2 hp⟩)
            (upd_all (fun f hf x => B.u4 f hf e heo (x.trans heT.symm)) (.inl rfl) fun f hf x => .inr ⟨List.mem_filter.mpr ⟨List.mem_append_right _ (List.mem_append_left _ (List.mem_map.mpr ⟨f, hf, rfl⟩)), decide_eq_true ⟨B.s2.1 f hf, fun z => x ((B.s4 f hf e heo z).trans heT), B.s3 f hf g hgo⟩⟩, osI f hf⟩)
            (upd_all (fun f hf x => B.u5 f hf g hgo (x.trans hgT.symm)) (.inl rfl) fun f hf x => .inr ⟨List.mem_filter.mpr ⟨List.mem_append_right _ (List.mem_append_right _ (List.mem_map.mpr ⟨f, hf, rfl⟩)), decide_eq_true ⟨B.s2.2 f hf, fun z => B.s3 e heo f hf z.symm, fun z => x ((B.s5 f hf g hgo z).trans hgT)⟩⟩, rdI f hf⟩)
            (B'.hext _ hls) (rows_rest hls turnN turnO hRl done R vs (dn ++ [(T, W, rep)]) _ _ _ _ _ _ _ _ _ _ eR' hR' B')
        cases f with
        | ret v => exact p
        | brk => exact p
        | next => exact fin p
        | cont => exact fin p
end
end
section
theorem row_fr {h₀ h : Heap} {L : Addr} {m₀ : Str → Option Value} {vt vw vr vt' vw' vr' : Option Value}
    (F : Fr h₀ L h (fun y => if y = Str.ofString "is_repeat" then vr' else (fun y => if y = Str.ofString "word" then vw' else (fun y => if y = Str.ofString "table" then vt' else rowMap m₀ vt vw vr y) y) y)) : Fr h₀ L h (rowMap m₀ vt' vw' vr') := by
  have e : (fun y => if y = Str.ofString "is_repeat" then vr' else (fun y => if y = Str.ofString "word" then vw' else (fun y => if y = Str.ofString "table" then vt' else rowMap m₀ vt vw vr y) y) y) = rowMap m₀ vt' vw' vr' := by
    funext z
    unfold rowMap
    by_cases h1 : z = Str.ofString "table"
    · subst h1; rfl
    by_cases h2 : z = Str.ofString "word"
    · subst h2; rfl
    by_cases h3 : z = Str.ofString "is_repeat"
    · subst h3; rfl
    simp only [if_neg h1, if_neg h2, if_neg h3]
  rw [e] at F
  exact F
structure Base (w : World) (tb td lt ow mk a1 a2 a3 a4 : Nat) (lb oo mo o1 o2 o3 o4 : Obj) : Prop where
  hlb : lb.IsDictOf (BKn w) []
  hmo : mo.IsDictOf (BKn w) []
  hoo : oo.IsDictOf (BKn w) [(rootB.toList, .ref a1), (prefB.toList, .ref a2), (copyB.toList, .ref a3), (ownB.toList, .ref a4)]
  h1 : o1.IsDictOf (BKn w) [] ∧ (a1 == sysModules) = false
  h2 : o2.IsDictOf (BKn w) [] ∧ (a2 == sysModules) = false
  h3 : o3.IsDictOf (BKn w) [] ∧ (a3 == sysModules) = false
  h4 : o4.IsDictOf (BKn w) [] ∧ (a4 == sysModules) = false
  hm : (mk == sysModules) = false
  hl : (lt == sysModules) = false
  e1 : tb < ow ∧ td < ow ∧ lt < ow ∧ mk < ow ∧ ow < a1 ∧ a1 < a2 ∧ a2 < a3 ∧ a3 < a4
  e2 : tb ≠ mk ∧ td ≠ mk ∧ lt ≠ mk ∧ td ≠ lt
inductive RowsAt (w : World) (h₀ : Heap) (L : Addr) (m : Str → Option Value) (base : List (Addr × Obj)) (ls : Addr) (s s' : Shared) : Prop
  | mk (h' : Heap) (tk : Nat) (vs : List Value) (n : Nat) (R : List Row) (ext : List (Addr × Obj)) (e : s' = { s with heap := h', toks := tk }) (F : Fr h₀ L h' m) (N : News h₀ L h' (ext ++ base)) (hl : (ls, W.listOf vs.toArray n) ∈ ext) (hR : RowsOf w ext vs R) (hRl : R.length ≤ 100) (hn : ∀ T ∈ names4, ∃ r ∈ R, r.1 = T) (hc : ∀ p ∈ ext, p.2.cls ≠ .type "dict" ∧ ∀ c, p.2.cls ≠ .ref c) : RowsAt w h₀ L m base ls s s'
def NextP (P : Shared → Prop) (f : Flow) (s : Shared) : Prop := f = .next ∧ P s
theorem NextP.mk {P : Shared → Prop} {s : Shared} (h : P s) : NextP P .next s := ⟨rfl, h⟩
theorem nextp_cons {M : Model} {A : Around} {E : Value → Shared → Prop} {s : Shared} {env : Env} {a : Stmt} {P : Shared → Prop} (h : wpAny M A (exec a env) (NextP P) E s) : wpAny M A (execs [a] env) (NextP P) E s :=
  wpAny_execs_cons (wpAny_mono h (fun f s1 h1 => by
    obtain ⟨e, h1⟩ := h1
    subst e
    exact wpAny_pure ⟨rfl, h1⟩) fun _ _ x => x)
theorem nextp_nil {M : Model} {A : Around} {E : Value → Shared → Prop} {s : Shared} {env : Env} {P : Shared → Prop} (h : P s) : wpAny M A (execs [] env) (NextP P) E s := wpAny_pure ⟨rfl, h⟩
theorem cut2 {M : Model} {A : Around} {E : Value → Shared → Prop} {s : Shared} {env : Env} {a b : Stmt} {rest : List Stmt} {Q : Flow → Shared → Prop} (P : Shared → Prop)
    (h : wpAny M A (exec a env) (NextP fun s1 => wpAny M A (exec b env) (NextP P) E s1) E s) (k : ∀ s2, P s2 → wpAny M A (execs rest env) Q E s2) : wpAny M A (execs (a :: b :: rest) env) Q E s :=
  wpAny_execs_cons (wpAny_mono h (fun f s1 ⟨e, h1⟩ => by
    subst e
    exact wpAny_execs_cons (wpAny_mono h1 (fun f2 s2 ⟨e2, hp⟩ => by subst e2; exact k s2 hp) fun _ _ x => x)) fun _ _ x => x)
abbrev cbB : Array UInt8 := #[67, 45, 98]
abbrev rows9 : List Row := [(rootB, #[97], false), (rootB, cbB, false), (prefB, #[97], false), (prefB, #[98], true), (prefB, #[99], true), (copyB, #[120], false), (copyB, cbB, false), (ownB, #[120], false), (ownB, #[98], false)]
theorem RowsOf.nil {w : World} {ext : List (Addr × Obj)} : RowsOf w ext [] [] := True.intro
theorem RowsOf.mono {w : World} {ext ext' : List (Addr × Obj)} (k : ∀ p ∈ ext, p ∈ ext') : ∀ {vs : List Value} {R : List Row}, RowsOf w ext vs R → RowsOf w ext' vs R
  | [], [], _ => True.intro
  | [], _ :: _, h => (show False from h).elim
  | _ :: _, [], h => (show False from h).elim
  | _ :: _, _ :: _, h => by
    obtain ⟨⟨⟨tp, t, t', n, e, hp⟩, r⟩, h2⟩ := h
    exact ⟨⟨⟨tp, t, t', n, e, k _ hp⟩, r⟩, RowsOf.mono k h2⟩
theorem RowsOf.app {w : World} {ext : List (Addr × Obj)} : ∀ {vs vs' : List Value} {R R' : List Row}, RowsOf w ext vs R → RowsOf w ext vs' R' → RowsOf w ext (vs ++ vs') (R ++ R')
  | [], _, [], _, _, h => h
  | [], _, _ :: _, _, h, _ => (show False from h).elim
  | _ :: _, _, [], _, h, _ => (show False from h).elim
  | _ :: _, _, _ :: _, _, h, h' => ⟨h.1, RowsOf.app h.2 h'⟩
theorem RowsOf.len {w : World} {ext : List (Addr × Obj)} : ∀ {vs : List Value} {R : List Row}, RowsOf w ext vs R → vs.length = R.length
  | [], [], _ => rfl
  | [], _ :: _, h => (show False from h).elim
  | _ :: _, [], h => (show False from h).elim
  | _ :: _, _ :: _, h => congrArg (· + 1) (RowsOf.len h.2)
structure Rows9 (w : World) (ext9 : List (Addr × Obj)) (vs9 : List Value) : Prop where
  r : RowsOf w ext9 vs9 rows9
  c : ∀ p ∈ ext9, p.2.cls ≠ .type "dict" ∧ ∀ c, p.2.cls ≠ .ref c
theorem cut_rows {w : World} {A : Around} {E : Value → Shared → Prop} {s : Shared} {env : Env} {a b : Stmt} {rest : List Stmt} {Q : Flow → Shared → Prop} {h₀ : Heap} {L : Addr} {m : Str → Option Value} {news : List (Addr × Obj)} {tb td lt ow mk a1 a2 a3 a4 : Nat} {lb oo mo o1 o2 o3 o4 : Obj} {c5 : H5} {pre sec rp : Value} {ls : Addr} {ext9 : List (Addr × Obj)} {vs9 : List Value} {nn9 : Nat}
    (F : Fr h₀ L s.heap m) (N : News h₀ L s.heap news)
    (hl : m (Str.ofString "rows") = some (.ref ls)) (ht : m (Str.ofString "tables") = some (.ref tb)) (ho : m (Str.ofString "own") = some (.ref ow))
    (n1 : ((tb : Addr), instObj 754 td) ∈ news) (n2 : ((td : Addr), tbObj c5 mk lt pre sec rp) ∈ news) (n3 : ((lt : Addr), lb) ∈ news) (n4 : ((mk : Addr), mo) ∈ news) (n5 : ((ow : Addr), oo) ∈ news) (hoo : oo.IsDictOf (BKn w) [(rootB.toList, .ref a1), (prefB.toList, .ref a2), (copyB.toList, .ref a3), (ownB.toList, .ref a4)]) (n6 : ((a1 : Addr), o1) ∈ news) (n7 : ((a2 : Addr), o2) ∈ news) (n8 : ((a3 : Addr), o3) ∈ news) (n9 : ((a4 : Addr), o4) ∈ news) (B : Base w tb td lt ow mk a1 a2 a3 a4 lb oo mo o1 o2 o3 o4)
    (hl9 : (ls, W.listOf vs9.toArray nn9) ∈ news) (N9 : News h₀ L s.heap ((ls, W.listOf vs9.toArray nn9) :: (ext9 ++ [((a4 : Addr), o4), ((a3 : Addr), o3), ((a2 : Addr), o2), ((a1 : Addr), o1), ((ow : Addr), oo), ((lt : Addr), lb), ((mk : Addr), mo), ((tb : Addr), instObj 754 td), ((td : Addr), tbObj c5 mk lt pre sec rp)]))) (R9 : Rows9 w ext9 vs9) (o9 : ∀ p ∈ ext9, p.1 ≠ ls)
    (h : ∀ ext vs n, Rows9 w ext vs → vs.length = 9 → (∀ p ∈ ext, p.1 ≠ ls) → News h₀ L s.heap ((ls, W.listOf vs.toArray n) :: ([((a4 : Addr), o4), ((a3 : Addr), o3), ((a2 : Addr), o2), ((a1 : Addr), o1), ((ow : Addr), oo), ((lt : Addr), lb), ((mk : Addr), mo), ((tb : Addr), instObj 754 td), ((td : Addr), tbObj c5 mk lt pre sec rp)] ++ ext)) → wpAny (model PySem.Challenge.rw_og0286_01.row.prog w) A (exec a env) (NextP fun s1 => wpAny (model PySem.Challenge.rw_og0286_01.row.prog w) A (exec b env) (NextP fun s2 => RowsAt w h₀ L m [((a4 : Addr), o4), ((a3 : Addr), o3), ((a2 : Addr), o2), ((a1 : Addr), o1), ((ow : Addr), oo), ((lt : Addr), lb), ((mk : Addr), mo), ((tb : Addr), instObj 754 td), ((td : Addr), tbObj c5 mk lt pre sec rp)] ls s s2) E s1) E s)
    (k : ∀ h' tk, Base w tb td lt ow mk a1 a2 a3 a4 lb oo mo o1 o2 o3 o4 → RowsAt w h₀ L m [((a4 : Addr), o4), ((a3 : Addr), o3), ((a2 : Addr), o2), ((a1 : Addr), o1), ((ow : Addr), oo), ((lt : Addr), lb), ((mk : Addr), mo), ((tb : Addr), instObj 754 td), ((td : Addr), tbObj c5 mk lt pre sec rp)] ls s { s with heap := h', toks := tk } → Fr h₀ L h' m → wpAny (model PySem.Challenge.rw_og0286_01.row.prog w) A (execs rest env) Q E { s with heap := h', toks := tk }) :
    wpAny (model PySem.Challenge.rw_og0286_01.row.prog w) A (execs (a :: b :: rest) env) Q E s :=
  cut2 _ (h ext9 vs9 nn9 R9 R9.r.len o9 (fun p hp => N9 p (by
    rcases List.mem_cons.mp hp with h | h
    · exact h ▸ List.Mem.head _
    · exact List.mem_cons_of_mem _ ((List.mem_append.mp h).elim (List.mem_append_right _) (List.mem_append_left _))))) fun s2 hp => by
    obtain ⟨h', tk, vs, n, R, ext, e, F'⟩ := id hp
    subst e
    exact k h' tk B hp F'
theorem RowsOf.cons {w : World} {ext : List (Addr × Obj)} {tp : Nat} {T W : Array UInt8} {rep : Bool} {t t' : Tok} {k : Nat} {vs : List Value} {R : List Row} (h : ((tp : Addr), tupObj [.bytes T t, .bytes W t', .bool rep] k) ∈ ext) (hT : T ∈ names4) (hr : rep = true → T = prefB) (hm : MuxIs w W) (hs : T.size + W.size ≤ 100) (r : RowsOf w ext vs R) : RowsOf w ext (.ref tp :: vs) ((T, W, rep) :: R) := ⟨⟨⟨tp, t, t', k, rfl, h⟩, hT, hr, hm, hs⟩, r⟩
theorem RowEnd.mkN {w : World} {h₀ h' : Heap} {L : Addr} {I mk os y tp b bd rd' : Nat} {m₀ : Str → Option Value} {T W cmd : Array UInt8} {rep : Bool} {mkvs lv : List (List UInt8 × Value)} {it mo' ro oso : Obj} {rest all : List (Addr × Obj)} {s₁ : Shared} {Q : Flow → Shared → Prop} {tk' : Nat} {vt vw vr vt' vw' vr' : Option Value} {cb : Hd} {nt key : Value} {tc tc' : Tok} {n : Nat}
    (F : Fr h₀ L h' (fun y => if y = Str.ofString "is_repeat" then vr' else (fun y => if y = Str.ofString "word" then vw' else (fun y => if y = Str.ofString "table" then vt' else rowMap m₀ vt vw vr y) y) y)) (N : News h₀ L h' all) (n1 : ((tp : Addr), tupObj [.bytes cmd tc, .bool rep] n) ∈ all) (n2 : ((b : Addr), instObj 655 bd) ∈ all) (n3 : ((bd : Addr), bdObj cb key (.bytes cmd tc') (.bool rep) nt) ∈ all) (n4 : ((rd' : Addr), ro) ∈ all) (n5 : ((I : Addr), it) ∈ all) (n6 : ((mk : Addr), mo') ∈ all) (n7 : ((os : Addr), oso) ∈ all) (n8 : ∀ p ∈ rest, p ∈ all)
    (h1 : mo'.IsDictOf (BKn w) (stored mkvs T.toList (.ref rd'))) (h2 : ro.IsDictOf (BKn w) (stored [] W.toList (.ref b))) (h3 : oso.IsDictOf (BKn w) (stored lv W.toList (.ref tp))) (h4 : (rd' == sysModules) = false) (o : I < rd' ∧ y < rd' ∧ rd' < bd ∧ bd < b) (o2 : b < tp) :
    RowEnd w h₀ L I mk os 0 y m₀ T W rep mkvs [] lv true it rest s₁ Q .next { s₁ with heap := h', toks := tk' } :=
  RowNext.mk rfl (row_fr F) (all_cons (N _ n1) (all_cons (N _ n2) (all_cons (N _ n3) (all_cons (N _ n4) (all_cons (N _ n5) (all_cons (N _ n6) (all_cons (N _ n7) fun p hp => N p (n8 p hp)))))))) h1 h2 h3 ⟨h4, o.2.1, o.1, o.2.2.1⟩ o.2.2.2 o2
theorem RowEnd.mkO {w : World} {h₀ h' : Heap} {L : Addr} {I mk os y tp b bd rd : Nat} {m₀ : Str → Option Value} {T W cmd : Array UInt8} {rep : Bool} {mkvs kvs lv : List (List UInt8 × Value)} {it mo' ro oso : Obj} {rest all : List (Addr × Obj)} {s₁ : Shared} {Q : Flow → Shared → Prop} {tk' : Nat} {vt vw vr vt' vw' vr' : Option Value} {cb : Hd} {nt key : Value} {tc tc' : Tok} {n : Nat}
    (F : Fr h₀ L h' (fun y => if y = Str.ofString "is_repeat" then vr' else (fun y => if y = Str.ofString "word" then vw' else (fun y => if y = Str.ofString "table" then vt' else rowMap m₀ vt vw vr y) y) y)) (N : News h₀ L h' all) (n1 : ((tp : Addr), tupObj [.bytes cmd tc, .bool rep] n) ∈ all) (n2 : ((b : Addr), instObj 655 bd) ∈ all) (n3 : ((bd : Addr), bdObj cb key (.bytes cmd tc') (.bool rep) nt) ∈ all) (n4 : ((rd : Addr), ro) ∈ all) (n5 : ((I : Addr), it) ∈ all) (n6 : ((mk : Addr), mo') ∈ all) (n7 : ((os : Addr), oso) ∈ all) (n8 : ∀ p ∈ rest, p ∈ all)
    (h1 : mo'.IsDictOf (BKn w) (stored mkvs T.toList (.ref rd))) (h2 : ro.IsDictOf (BKn w) (stored kvs W.toList (.ref b))) (h3 : oso.IsDictOf (BKn w) (stored lv W.toList (.ref tp))) (o : I < bd ∧ y < bd ∧ bd < b) (o2 : b < tp) :
    RowEnd w h₀ L I mk os rd y m₀ T W rep mkvs kvs lv false it rest s₁ Q .next { s₁ with heap := h', toks := tk' } :=
  RowNext.mk rfl (row_fr F) (all_cons (N _ n1) (all_cons (N _ n2) (all_cons (N _ n3) (all_cons (N _ n4) (all_cons (N _ n5) (all_cons (N _ n6) (all_cons (N _ n7) fun p hp => N p (n8 p hp)))))))) h1 h2 h3 ⟨rfl, o.2.1, o.1⟩ o.2.2 o2
theorem hn9 : ∀ T ∈ names4, ∃ r ∈ rows9, r.1 = T := all_cons ⟨_, .head _, rfl⟩ (all_cons ⟨_, .tail _ (.tail _ (.head _)), rfl⟩ (all_cons ⟨_, .tail _ (.tail _ (.tail _ (.tail _ (.tail _ (.head _))))), rfl⟩ (all_cons ⟨_, .tail _ (.tail _ (.tail _ (.tail _ (.tail _ (.tail _ (.tail _ (.head _))))))), rfl⟩ all_nil)))
theorem n4r : rootB ∈ names4 := by simp [names4]
theorem n4p : prefB ∈ names4 := by simp [names4]
theorem n4c : copyB ∈ names4 := by simp [names4]
theorem n4o : ownB ∈ names4 := by simp [names4]
theorem rpf {T : Array UInt8} : false = true → T = prefB := fun h => nomatch h
theorem rpt : true = true → prefB = prefB := fun _ => rfl
theorem rows_end10 {w : World} {h₀ h' : Heap} {L : Addr} {m : Str → Option Value} {base ext9 new : List (Addr × Obj)} {ls : Addr} {s : Shared} {tk : Nat} {vs9 vsX : List Value} {vv : Array Value} {n : Nat} (X : List Row) (hX : X.length ≤ 2) (R9 : Rows9 w ext9 vs9) (F : Fr h₀ L h' m) (N : News h₀ L h' (new ++ (base ++ ext9))) (hR : RowsOf w new vsX X) (hl : (ls, W.listOf vv n) ∈ new) (hv : vv = (vs9 ++ vsX).toArray) (hc : ∀ p ∈ new, p.2.cls ≠ .type "dict" ∧ ∀ c, p.2.cls ≠ .ref c) : RowsAt w h₀ L m base ls s { s with heap := h', toks := tk } :=
  ⟨h', tk, vs9 ++ vsX, n, rows9 ++ X, new ++ ext9, rfl, F, all_app (all_app (fun p hp => N p (List.mem_append_left _ hp)) fun p hp => N p (List.mem_append_right _ (List.mem_append_right _ hp))) fun p hp => N p (List.mem_append_right _ (List.mem_append_left _ hp)), List.mem_append_left _ (hv ▸ hl), RowsOf.app (R9.r.mono fun p hp => List.mem_append_right _ hp) (hR.mono fun p hp => List.mem_append_left _ hp), by simp; omega, fun T hT => let ⟨r, h1, h2⟩ := hn9 T hT; ⟨r, List.mem_append_left _ h1, h2⟩, fun p hp => (List.mem_append.mp hp).elim (hc p) (R9.c p)⟩
theorem rows_end0 {w : World} {h₀ h' : Heap} {L : Addr} {m : Str → Option Value} {base ext9 new : List (Addr × Obj)} {ls : Addr} {s : Shared} {tk : Nat} {vs9 : List Value} {n : Nat} (R9 : Rows9 w ext9 vs9) (F : Fr h₀ L h' m) (N : News h₀ L h' (new ++ (base ++ ext9))) (hl : (ls, W.listOf vs9.toArray n) ∈ new) (hc : ∀ p ∈ new, p.2.cls ≠ .type "dict" ∧ ∀ c, p.2.cls ≠ .ref c) : RowsAt w h₀ L m base ls s { s with heap := h', toks := tk } :=
  rows_end10 (vsX := []) (n := n) [] (by decide) R9 F N RowsOf.nil hl (by rw [List.append_nil]) hc
theorem push1 {vs : List Value} {a : Value} : vs.toArray.push a = (vs ++ [a]).toArray := by simp
theorem push2 {vs : List Value} {a b : Value} : (vs.toArray.push a).push b = (vs ++ [a, b]).toArray := by simp
theorem cls_cons {a : Addr} {o : Obj} {l : List (Addr × Obj)} {k : String} (h : o.cls = .type k) (hk : k ≠ "dict") (r : ∀ p ∈ l, p.2.cls ≠ .type "dict" ∧ ∀ c, p.2.cls ≠ .ref c) : ∀ p ∈ (a, o) :: l, p.2.cls ≠ .type "dict" ∧ ∀ c, p.2.cls ≠ .ref c :=
  List.forall_mem_cons.mpr ⟨⟨by show o.cls ≠ _; rw [h]; intro e; exact hk (Value.type.inj e), by intro c; show o.cls ≠ _; rw [h]; intro e; cases e⟩, r⟩
theorem cls_consT {a : Addr} {o : Obj} {l : List (Addr × Obj)} (h : o.cls = .type "tuple") (r : ∀ p ∈ l, p.2.cls ≠ .type "dict" ∧ ∀ c, p.2.cls ≠ .ref c) : ∀ p ∈ (a, o) :: l, p.2.cls ≠ .type "dict" ∧ ∀ c, p.2.cls ≠ .ref c := cls_cons h (by decide) r
theorem cls_consL {a : Addr} {o : Obj} {l : List (Addr × Obj)} (h : o.cls = .type "list") (r : ∀ p ∈ l, p.2.cls ≠ .type "dict" ∧ ∀ c, p.2.cls ≠ .ref c) : ∀ p ∈ (a, o) :: l, p.2.cls ≠ .type "dict" ∧ ∀ c, p.2.cls ≠ .ref c := cls_cons h (by decide) r
theorem base_here {M : Model} {A : Around} {α : Type} {t9 : Sem α} {E : Value → Shared → Prop} {s : Shared} {Q : α → Shared → Prop} {w : World} {h₀ : Heap} {L : Addr} {m : Str → Option Value} {news : List (Addr × Obj)} {tb td lt ow mk a1 a2 a3 a4 : Nat} {lb oo mo o1 o2 o3 o4 : Obj} {c5 : H5} {pre sec rp : Value}
    (F : Fr h₀ L s.heap m) (N : News h₀ L s.heap news) (ht : m (Str.ofString "tables") = some (.ref tb)) (ho : m (Str.ofString "own") = some (.ref ow))
    (n1 : ((tb : Addr), instObj 754 td) ∈ news) (n2 : ((td : Addr), tbObj c5 mk lt pre sec rp) ∈ news) (n3 : ((lt : Addr), lb) ∈ news) (n4 : ((mk : Addr), mo) ∈ news) (n5 : ((ow : Addr), oo) ∈ news) (hoo : oo.IsDictOf (BKn w) [(rootB.toList, .ref a1), (prefB.toList, .ref a2), (copyB.toList, .ref a3), (ownB.toList, .ref a4)]) (n6 : ((a1 : Addr), o1) ∈ news) (n7 : ((a2 : Addr), o2) ∈ news) (n8 : ((a3 : Addr), o3) ∈ news) (n9 : ((a4 : Addr), o4) ∈ news) (B : Base w tb td lt ow mk a1 a2 a3 a4 lb oo mo o1 o2 o3 o4) (k : ∀ c5n : H5, Base w tb td lt ow mk a1 a2 a3 a4 lb oo mo o1 o2 o3 o4 → News h₀ L s.heap [((a4 : Addr), o4), ((a3 : Addr), o3), ((a2 : Addr), o2), ((a1 : Addr), o1), ((ow : Addr), oo), ((lt : Addr), lb), ((mk : Addr), mo), ((tb : Addr), instObj 754 td), ((td : Addr), tbObj c5n mk lt pre sec rp)] → wpAny M A t9 Q E s) : wpAny M A t9 Q E s := k c5 B (all_cons (N _ n9) (all_cons (N _ n8) (all_cons (N _ n7) (all_cons (N _ n6) (all_cons (N _ n5) (all_cons (N _ n3) (all_cons (N _ n4) (all_cons (N _ n1) (all_cons (N _ n2) all_nil)))))))))
theorem exact_cls {w : World} {o : Obj} {kvs : List (List UInt8 × Value)} (h : o.IsDictOf (BKn w) kvs) : o.cls = .type "dict" := by
  obtain ⟨es, ep, a, _⟩ := h
  exact a.1
theorem news_fun {h₀ h : Heap} {L a : Addr} {o o' : Obj} {l : List (Addr × Obj)} (N : News h₀ L h l) (h1 : (a, o) ∈ l) (h2 : (a, o') ∈ l) : o = o' := Option.some.inj ((N _ h1).1.symm.trans (N _ h2).1)
theorem apart_all {l : List Ent} (h : l.Pairwise fun e f => e.a ≠ f.a ∧ e.T ≠ f.T) : ∀ e ∈ l, ∀ f ∈ l, e = f ∨ e.a ≠ f.a ∧ e.T ≠ f.T := by
  induction h with
  | nil => exact fun _ h => nomatch h
  | cons h1 _ ih => exact all_cons (all_cons (.inl rfl) fun f hf => .inr (h1 f hf)) fun e he => all_cons (.inr ⟨(h1 e he).1.symm, (h1 e he).2.symm⟩) fun f hf => ih e he f hf
theorem lk_none {l : List Ent} (h : ∀ e ∈ l, e.kvs = []) (T : Array UInt8) (W : List UInt8) : lk l T W = none := by
  unfold lk
  cases hf : findE l T with
  | none => rfl
  | some e => show valueAt e.kvs W = none; rw [h e (find_some hf).1]; rfl
abbrev osl4 (a1 a2 a3 a4 : Nat) (o1 o2 o3 o4 : Obj) : List Ent := [⟨rootB, a1, o1, []⟩, ⟨prefB, a2, o2, []⟩, ⟨copyB, a3, o3, []⟩, ⟨ownB, a4, o4, []⟩]
theorem ne6 : rootB ≠ prefB ∧ rootB ≠ copyB ∧ rootB ≠ ownB ∧ prefB ≠ copyB ∧ prefB ≠ ownB ∧ copyB ≠ ownB := by decide
theorem osl4_apart {a1 a2 a3 a4 : Nat} {o1 o2 o3 o4 : Obj} (h : a1 < a2 ∧ a2 < a3 ∧ a3 < a4) : (osl4 a1 a2 a3 a4 o1 o2 o3 o4).Pairwise fun e f => e.a ≠ f.a ∧ e.T ≠ f.T :=
  .cons (all_cons ⟨Nat.ne_of_lt h.1, ne6.1⟩ (all_cons ⟨Nat.ne_of_lt (Nat.lt_trans h.1 h.2.1), ne6.2.1⟩ (all_cons ⟨Nat.ne_of_lt (Nat.lt_trans h.1 (Nat.lt_trans h.2.1 h.2.2)), ne6.2.2.1⟩ all_nil)))
    (.cons (all_cons ⟨Nat.ne_of_lt h.2.1, ne6.2.2.2.1⟩ (all_cons ⟨Nat.ne_of_lt (Nat.lt_trans h.2.1 h.2.2), ne6.2.2.2.2.1⟩ all_nil)) (.cons (all_cons ⟨Nat.ne_of_lt h.2.2, ne6.2.2.2.2.2⟩ all_nil) (.cons all_nil .nil)))
theorem osl4_ok {a1 a2 a3 a4 : Nat} {o1 o2 o3 o4 : Obj} : ∀ e ∈ osl4 a1 a2 a3 a4 o1 o2 o3 o4, valueAt [(rootB.toList, .ref a1), (prefB.toList, .ref a2), (copyB.toList, .ref a3), (ownB.toList, .ref a4)] e.T.toList = some (.ref e.a) := all_cons rfl (all_cons rfl (all_cons rfl (all_cons rfl all_nil)))
section
variable {w : World} {A : Around} {E : Value → Shared → Prop} {s s0 s1 : Shared} {env : Env} {h₀ : Heap} {target : Expr} {body : List Stmt} {Q : Flow → Shared → Prop}
theorem rows_iter {m : Str → Option Value} {tb td lt ow mk a1 a2 a3 a4 ls : Nat} {lb oo mo o1 o2 o3 o4 : Obj} {c5 : H5} {pre sec rp : Value} (hh : A.handled = none) (B : Base w tb td lt ow mk a1 a2 a3 a4 lb oo mo o1 o2 o3 o4)
    (R : RowsAt w h₀ env.locals m [((a4 : Addr), o4), ((a3 : Addr), o3), ((a2 : Addr), o2), ((a1 : Addr), o1), ((ow : Addr), oo), ((lt : Addr), lb), ((mk : Addr), mo), ((tb : Addr), instObj 754 td), ((td : Addr), tbObj c5 mk lt pre sec rp)] ls s0 s1) (hs : s.heap = s1.heap)
    (turnN : ∀ (c5n : H5), ∀ I : Nat, ∀ T W rep, ∀ (tp0 : Nat) t t' k0 vt vw vr it, ∀ (y : Nat) yo mo mkvs, ∀ (os : Nat) oso lv rest h tk, TurnF w I tb td lt ow mk os y lb oo mo oso [(rootB.toList, .ref a1), (prefB.toList, .ref a2), (copyB.toList, .ref a3), (ownB.toList, .ref a4)] mkvs lv T W tp0 rest → valueAt mkvs T.toList = none → Fr h₀ env.locals h (rowMap m vt vw vr) →
      News h₀ env.locals h (((I : Addr), it) :: ((y : Addr), yo) :: ((tb : Addr), instObj 754 td) :: ((td : Addr), tbObj c5n mk lt pre sec rp) :: ((mk : Addr), mo) :: ((lt : Addr), lb) :: ((ow : Addr), oo) :: ((os : Addr), oso) :: ((tp0 : Addr), tupObj [.bytes T t, .bytes W t', .bool rep] k0) :: rest) →
      wpAny (model PySem.Challenge.rw_og0286_01.row.prog w) A (assign target env (.ref tp0)) (fun _ s₂ => wpAny (model PySem.Challenge.rw_og0286_01.row.prog w) A (execs body env) (RowEnd w h₀ env.locals I mk os 0 y m T W rep mkvs [] lv true it rest { s with heap := h, toks := tk } Q) E s₂) E { s with heap := h, toks := tk })
    (turnO : ∀ (c5n : H5), ∀ I : Nat, ∀ T W rep, ∀ (tp0 : Nat) t t' k0 vt vw vr it, ∀ (y : Nat) yo mo mkvs, ∀ (os : Nat) oso lv, ∀ (rd : Nat) ro kvs rest h tk, TurnF w I tb td lt ow mk os y lb oo mo oso [(rootB.toList, .ref a1), (prefB.toList, .ref a2), (copyB.toList, .ref a3), (ownB.toList, .ref a4)] mkvs lv T W tp0 rest → valueAt mkvs T.toList = some (.ref rd) → ro.IsDictOf (BKn w) kvs → (rd == sysModules) = false → kvs.length ≤ sizeLine →
      (I ≠ rd ∧ y ≠ rd ∧ tb ≠ rd ∧ td ≠ rd ∧ lt ≠ rd ∧ ow ≠ rd ∧ mk ≠ rd ∧ os ≠ rd ∧ tp0 ≠ rd ∧ rd ≠ mk ∧ rd ≠ os ∧ ∀ p ∈ rest, p.1 ≠ rd) → Fr h₀ env.locals h (rowMap m vt vw vr) →
      News h₀ env.locals h (((rd : Addr), ro) :: ((I : Addr), it) :: ((y : Addr), yo) :: ((tb : Addr), instObj 754 td) :: ((td : Addr), tbObj c5n mk lt pre sec rp) :: ((mk : Addr), mo) :: ((lt : Addr), lb) :: ((ow : Addr), oo) :: ((os : Addr), oso) :: ((tp0 : Addr), tupObj [.bytes T t, .bytes W t', .bool rep] k0) :: rest) →
      wpAny (model PySem.Challenge.rw_og0286_01.row.prog w) A (assign target env (.ref tp0)) (fun _ s₂ => wpAny (model PySem.Challenge.rw_og0286_01.row.prog w) A (execs body env) (RowEnd w h₀ env.locals I mk os rd y m T W rep mkvs kvs lv false it rest { s with heap := h, toks := tk } Q) E s₂) E { s with heap := h, toks := tk })
    (done : ∀ (c5n : H5), ∀ restL vt vw vr h tk, (∀ p ∈ restL, p.1 ≠ td) → (∀ c5' Pb S tP tS tr r, TabsL w (((tb : Addr), instObj 754 td) :: ((td : Addr), tbObj c5' mk lt (.bytes Pb tP) (optB S tS) (.int r tr)) :: restL) tb ow r Pb S [(rootB.toList, .ref a1), (prefB.toList, .ref a2), (copyB.toList, .ref a3), (ownB.toList, .ref a4)]) → Fr h₀ env.locals h (rowMap m vt vw vr) →
      News h₀ env.locals h (((tb : Addr), instObj 754 td) :: ((td : Addr), tbObj c5n mk lt pre sec rp) :: restL) → Q .next { s with heap := h, toks := tk }) :
    wpAny (model PySem.Challenge.rw_og0286_01.row.prog w) A (pyIter (.ref ls)) (fun it s₂ => TurnsAt PySem.Challenge.rw_og0286_01.row.prog w A h₀ env target body Q E it s₂) E s := by
  obtain ⟨h', tk, vs, n, R, ext, e, F, N, hls, hR, hRl, hn, hc⟩ := R
  subst e
  have e1 : s.heap = h' := hs
  rw [← e1] at F N
  clear e1 hs
  let osl : List Ent := osl4 a1 a2 a3 a4 o1 o2 o3 o4
  let imm : List (Addr × Obj) := ext ++ [((ow : Addr), oo), ((lt : Addr), lb), ((tb : Addr), instObj 754 td), ((td : Addr), tbObj c5 mk lt pre sec rp)]
  have Nb : ∀ p ∈ [((a4 : Addr), o4), ((a3 : Addr), o3), ((a2 : Addr), o2), ((a1 : Addr), o1), ((ow : Addr), oo), ((lt : Addr), lb), ((mk : Addr), mo), ((tb : Addr), instObj 754 td), ((td : Addr), tbObj c5 mk lt pre sec rp)], _ := fun p hp => N p (List.mem_append_right _ hp)
  have N2 : News h₀ env.locals s.heap (imm ++ ((mk : Addr), mo) :: (osl.map Ent.p ++ ([] : List Ent).map Ent.p)) :=
    all_app (all_app (fun p hp => N p (List.mem_append_left _ hp)) (all_cons (Nb _ (.tail _ (.tail _ (.tail _ (.tail _ (.head _)))))) (all_cons (Nb _ (.tail _ (.tail _ (.tail _ (.tail _ (.tail _ (.head _))))))) (all_cons (Nb _ (.tail _ (.tail _ (.tail _ (.tail _ (.tail _ (.tail _ (.tail _ (.head _))))))))) (all_cons (Nb _ (.tail _ (.tail _ (.tail _ (.tail _ (.tail _ (.tail _ (.tail _ (.tail _ (.head _)))))))))) all_nil)))))
      (all_cons (Nb _ (.tail _ (.tail _ (.tail _ (.tail _ (.tail _ (.tail _ (.head _)))))))) (all_app (all_cons (Nb _ (.tail _ (.tail _ (.tail _ (.head _))))) (all_cons (Nb _ (.tail _ (.tail _ (.head _)))) (all_cons (Nb _ (.tail _ (.head _))) (all_cons (Nb _ (.head _)) all_nil)))) all_nil))
  have em : m = rowMap m (m (Str.ofString "table")) (m (Str.ofString "word")) (m (Str.ofString "is_repeat")) := by
    funext z
    unfold rowMap
    by_cases h1 : z = Str.ofString "table"
    · rw [if_pos h1, h1]
    rw [if_neg h1]
    by_cases h2 : z = Str.ofString "word"
    · rw [if_pos h2, h2]
    rw [if_neg h2]
    by_cases h3 : z = Str.ofString "is_repeat"
    · rw [if_pos h3, h3]
    rw [if_neg h3]
  have hls' : ((ls : Addr), W.listOf vs.toArray n) ∈ imm ++ ((mk : Addr), mo) :: (osl.map Ent.p ++ ([] : List Ent).map Ent.p) := List.mem_append_left _ (List.mem_append_left _ hls)
  refine iter_listTurns (news := imm ++ ((mk : Addr), mo) :: (osl.map Ent.p ++ ([] : List Ent).map Ent.p)) (n := n) hh F N2 hls' rfl rfl fun I hI => ?_
  have hI' : ∀ (a : Nat) (o : Obj), ((a : Addr), o) ∈ imm ++ ((mk : Addr), mo) :: (osl.map Ent.p ++ ([] : List Ent).map Ent.p) → a < I := fun a o hp => hI (a, o) hp
  obtain ⟨e11, e12, e13, e14, e15, e16, e17, e18⟩ := B.e1
  obtain ⟨e21, e22, e23, e24⟩ := B.e2
  have extd : ∀ (a : Nat) (o : Obj) (x : Nat) (xo : Obj), ((a : Addr), o) ∈ ext → ((x : Addr), xo) ∈ imm ++ ((mk : Addr), mo) :: (osl.map Ent.p ++ ([] : List Ent).map Ent.p) → xo.cls = .type "dict" → a ≠ x := by
    intro a o x xo h1 h2 h3 h4
    subst h4
    have := news_fun N2 (List.mem_append_left _ (List.mem_append_left _ h1)) h2
    exact (hc _ h1).1 (by show o.cls = _; rw [this]; exact h3)
  have mm : ∀ x, x ∈ osl.map Ent.p → x ∈ imm ++ ((mk : Addr), mo) :: (osl.map Ent.p ++ ([] : List Ent).map Ent.p) := fun x hx => List.mem_append_right _ (.tail _ (List.mem_append_left _ hx))
  have osd : ∀ f ∈ osl, f.o.IsDictOf (BKn w) [] ∧ (f.a == sysModules) = false ∧ f.kvs = [] ∧ ow < f.a := all_cons ⟨B.h1.1, B.h1.2, rfl, e15⟩ (all_cons ⟨B.h2.1, B.h2.2, rfl, Nat.lt_trans e15 e16⟩ (all_cons ⟨B.h3.1, B.h3.2, rfl, Nat.lt_trans e15 (Nat.lt_trans e16 e17)⟩ (all_cons ⟨B.h4.1, B.h4.2, rfl, Nat.lt_trans e15 (Nat.lt_trans e16 (Nat.lt_trans e17 e18))⟩ all_nil)))
  have ap := apart_all (osl4_apart (o1 := o1) (o2 := o2) (o3 := o3) (o4 := o4) ⟨e16, e17, e18⟩)
  have ne : ∀ x : Nat, x < ow ∨ x = ow → ∀ f ∈ osl, x ≠ f.a := fun x hx f hf e => Nat.lt_irrefl x (Nat.lt_of_le_of_lt (hx.elim Nat.le_of_lt Nat.le_of_eq) (e ▸ (osd f hf).2.2.2))
  have hs1 : ∀ p ∈ imm, (p.1 : Nat) ≠ mk ∧ (∀ f ∈ osl, (p.1 : Nat) ≠ f.a) ∧ (∀ f ∈ ([] : List Ent), (p.1 : Nat) ≠ f.a) :=
    all_app (fun p hp => ⟨extd p.1 p.2 mk mo hp (List.mem_append_right _ (.head _)) (exact_cls B.hmo), fun f hf => extd p.1 p.2 f.a f.o hp (mm _ (List.mem_map.mpr ⟨f, hf, rfl⟩)) (exact_cls (osd f hf).1), all_nil⟩)
      (all_cons ⟨Nat.ne_of_gt e14, ne ow (.inr rfl), all_nil⟩ (all_cons ⟨e23, ne lt (.inl e13), all_nil⟩ (all_cons ⟨e21, ne tb (.inl e11), all_nil⟩ (all_cons ⟨e22, ne td (.inl e12), all_nil⟩ all_nil))))
  have ie : ∀ p ∈ [((ow : Addr), oo), ((lt : Addr), lb), ((tb : Addr), instObj 754 td), ((td : Addr), tbObj c5 mk lt pre sec rp)], p ∈ imm := fun p hp => List.mem_append_right _ hp
  have B0 : BI w I tb td lt ow mk c5 pre sec rp lb oo [(rootB.toList, .ref a1), (prefB.toList, .ref a2), (copyB.toList, .ref a3), (ownB.toList, .ref a4)] ext [] imm mo [] osl [] tb (instObj 754 td) :=
    { htb := ie _ (.tail _ (.tail _ (.head _))), htd := ie _ (.tail _ (.tail _ (.tail _ (.head _)))), hlt := ie _ (.tail _ (.head _)), how := ie _ (.head _), hy := ie _ (.tail _ (.tail _ (.head _))), hext := fun p hp => List.mem_append_left _ hp, bound := fun a o hp => .inr (hI' a o hp), hlb := B.hlb, hoo := B.hoo, hmo := B.hmo, ok := osl4_ok, mkv := fun T => rfl, mkl := Nat.le_refl _
      hos := fun f hf => ⟨by rw [(osd f hf).2.2.1]; exact (osd f hf).1, by rw [(osd f hf).2.2.1]; exact Nat.le_refl _, (osd f hf).2.1⟩, hrd := all_nil, names := fun T => find_isSome, rnames := all_nil, have_ := all_nil, s1 := fun a o hp => hs1 (a, o) hp, s2 := ⟨fun f hf => Nat.ne_of_gt (Nat.lt_trans e14 (osd f hf).2.2.2), all_nil⟩, s3 := fun f _ => all_nil
      s4 := fun f hf g hg x => (ap f hf g hg).elim (fun e => e ▸ rfl) fun h => absurd x h.1, s5 := all_nil, u4 := fun f hf g hg x => (ap f hf g hg).elim id fun h => absurd x h.2, u5 := all_nil, rel := fun T W => by rw [lk_none (l := osl) fun f hf => (osd f hf).2.2.1]; exact .no }
  rw [em]
  refine rows_rest (m₀ := m) (Rall := R) (ext := ext) (lo := W.listOf vs.toArray n) hls (turnN c5 I) (turnO c5 I) hRl (fun imm' mo' mkvs' osl' rl' y' yo' vt vw vr h tk B' F' N' => ?_) R vs [] _ _ _ imm mo [] osl [] tb (instObj 754 td) rfl hR B0 fun a o hp x => Nat.lt_irrefl I (x ▸ hI' a o hp)
  have m1 : ((tb : Addr), instObj 754 td) ∈ imm' ++ ((mk : Addr), mo') :: (osl'.map Ent.p ++ rl'.map Ent.p) := List.mem_append_left _ B'.htb
  have m2 : ((td : Addr), tbObj c5 mk lt pre sec rp) ∈ imm' ++ ((mk : Addr), mo') :: (osl'.map Ent.p ++ rl'.map Ent.p) := List.mem_append_left _ B'.htd
  refine done c5 ((imm' ++ ((mk : Addr), mo') :: (osl'.map Ent.p ++ rl'.map Ent.p)).filter fun p => decide (p.1 ≠ td)) vt vw vr h tk (fun p hp => of_decide_eq_true (List.mem_filter.mp hp).2) (fun c5' Pb S tP tS tr r => ?_) F' ?_
  · refine B'.tabs (c5' := c5') (tP := tP) (tS := tS) (tr := tr) (fun T hT => ?_) (.head _) (.tail _ (.head _)) B.hl B.hm (fun p hp hne => ?_) (fun p hp x => ?_) e22 e24 (by omega)
    · obtain ⟨r, hr, e⟩ := hn T hT
      have := B'.have_ r hr
      rw [e] at this
      exact this
    · have : p ∈ (imm' ++ ((mk : Addr), mo') :: (osl'.map Ent.p ++ rl'.map Ent.p)).filter fun p => decide (p.1 ≠ td) := List.mem_filter.mpr ⟨hp, decide_eq_true hne⟩
      exact .tail _ (.tail _ this)
    · obtain ⟨pa, po⟩ := p
      have x' : pa = td := x
      subst x'
      exact news_fun N' (List.mem_append_left _ hp) m2
  · exact all_cons (N' _ m1) (all_cons (N' _ m2) fun p hp => N' _ (List.mem_filter.mp hp).1)
end
end
section
local macro_rules | `(tactic| k_room) => `(tactic| ktr_room)
local macro_rules | `(tactic| k_all) => `(tactic| assumption)
local macro_rules | `(tactic| k_inst) => `(tactic| (refine' inst_base ?iF ?ih1 ?ih2; (case iF => k_asm); (case ih1 => k_asm); (case ih2 => k_asm)))












local macro_rules | `(tactic| ktr_units) => `(tactic| (have hcL9 := cLine_is; ((try simp only [units_under_make, units_in1, units_deeper, Around.mark_units, units_caller] at *); (try dsimp only [ktrTop] at *); omega)))


theorem bdict_made {prog : Program} {w : World} {s : Shared} {h₀ : Heap} {L d : Addr} {m : Str → Option Value} {news : List (Addr × Obj)} {g : Obj → List (Addr × Obj)} {o : Obj} {Q : Value → Shared → Prop} {t1 t2 t3 t4 : Tok} {v1 v2 v3 v4 : Value} (F : Fr h₀ L s.heap m) (N : News h₀ L s.heap news) (U : UpdF d o news g) (hd : o.IsDictOf (bytesKind prog w) [])
    (h : ∀ h' o', Fr h₀ L h' m → News h₀ L h' (g o') → o'.IsDictOf (bytesKind prog w) [(rootB.toList, v1), (prefB.toList, v2), (copyB.toList, v3), (ownB.toList, v4)] → Q (.ref d) { s with heap := h', toks := s.toks + 4 }) : KdnMade prog w (bytesKind prog w) d Q [(.bytes rootB t1, v1), (.bytes prefB t2, v2), (.bytes copyB t3, v3), (.bytes ownB t4, v4)] s := by
  obtain ⟨pre, post, rfl, hg, a, b⟩ := U.split
  have hm := N (d, o) (List.mem_append_right _ (.head _))
  refine ⟨[(rootB.toList, v1), (prefB.toList, v2), (copyB.toList, v3), (ownB.toList, v4)], ⟨bk_is _ _ _ _, rfl, bk_is _ _ _ _, rfl, bk_is _ _ _ _, rfl, bk_is _ _ _ _, rfl, True.intro⟩, Heap.dictOf_iff.mpr ⟨o, hm.1, hd⟩, fun h' hmm hs => ?_⟩
  rw [merged_nil_of_nodup _ (by simp)] at hmm
  obtain ⟨o', ho', hd'⟩ := Heap.dictOf_iff.mp hmm
  exact h h' o' (F.change hs hm.2.1 hm.2.2) (hg o' ▸ N.setIn a b hs ho') hd'



local macro_rules | `(tactic| k_ne) => `(tactic| (refine neN ?_; (try dsimp only); assumption))
theorem lo_lt {os y I r : Nat} (h : os ≤ y ∨ os < I) (a : I < r) (b : y < r) : os < r := by omega

theorem reg_tables : True := by
  k_with_none
  (k_with "room" => ((with_reducible rename _ + _ < recursionLimit => hR9); first | exact room_k 4 hR9 | exact room_k 37 hR9 | exact room_k 9 hR9 | exact room_k 5 hR9 | exact room_k 14 hR9 | exact room_k 10 hR9 | exact room_k 19 hR9 | exact room_k 15 hR9 | exact room_k 20 hR9 | exact room_k 25 hR9 | exact room_k 35 hR9 | exact room_k 13 hR9 | exact room_k 1 hR9 | exact room_k 38 hR9 | exact room_k 23 hR9 | exact room_k 24 hR9 | exact room_k 29 hR9 | exact room_k 8 hR9 | exact room_k 40 hR9 | exact room_k 39 hR9 | exact room_k 44 hR9 | exact room_k 17 hR9 | exact room_k 21 hR9 | exact room_k 30 hR9 | exact room_k 33 hR9 | exact room_k 16 hR9 | exact room_k 2 hR9 | exact room_k 43 hR9 | exact room_k 7 hR9 | exact room_k 45 hR9 | exact room_k 0 hR9 | exact room_k 3 hR9 | exact room_k 6 hR9 | exact room_k 11 hR9 | exact room_k 12 hR9 | exact room_k 18 hR9 | exact room_k 22 hR9 | exact room_k 26 hR9 | exact room_k 27 hR9 | exact room_k 28 hR9 | exact room_k 31 hR9 | exact room_k 32 hR9 | exact room_k 34 hR9 | exact room_k 36 hR9 | exact room_k 41 hR9 | exact room_k 42 hR9))
  (k_with "units" => ((with_reducible rename _ + _ < cLine => hR9); first | exact room_k 37 hR9 | exact room_k 77 hR9 | exact room_k 117 hR9 | exact room_k 157 hR9 | exact room_k 237 hR9 | exact room_k 197 hR9 | exact room_k 151 hR9 | exact room_k 133 hR9 | exact room_k 277 hR9 | exact room_k 317 hR9 | exact room_k 357 hR9 | exact room_k 4 hR9 | exact room_k 9 hR9 | exact room_k 5 hR9 | exact room_k 14 hR9 | exact room_k 10 hR9 | exact room_k 19 hR9 | exact room_k 15 hR9 | exact room_k 20 hR9 | exact room_k 25 hR9 | exact room_k 35 hR9 | exact room_k 13 hR9 | exact room_k 1 hR9 | exact room_k 38 hR9 | exact room_k 23 hR9 | exact room_k 24 hR9 | exact room_k 29 hR9 | exact room_k 8 hR9 | exact room_k 40 hR9 | exact room_k 39 hR9 | exact room_k 44 hR9 | exact room_k 17 hR9 | exact room_k 21 hR9 | exact room_k 30 hR9 | exact room_k 33 hR9 | exact room_k 16 hR9 | exact room_k 2 hR9 | exact room_k 43 hR9 | exact room_k 7 hR9 | exact room_k 45 hR9))
  (k_with "lt" => (first | with_reducible assumption | exact (by with_reducible assumption : _ ∧ _).1 | exact (by with_reducible assumption : _ ∧ _).2 | exact (by with_reducible assumption : _ ∧ _ ∧ _).2.1 | exact (by with_reducible assumption : _ ∧ _ ∧ _).2.2 | exact (by with_reducible assumption : _ ∧ _ ∧ _ ∧ _).2.2.1 | exact (by with_reducible assumption : _ ∧ _ ∧ _ ∧ _).2.2.2 | exact (by with_reducible assumption : _ ∧ _ ∧ _ ∧ _ ∧ _).2.2.2.1 | exact (by with_reducible assumption : _ ∧ _ ∧ _ ∧ _ ∧ _).2.2.2.2 | exact (by with_reducible assumption : _ ∧ _ ∧ _ ∧ _ ∧ _ ∧ _).2.2.2.2.1 | exact (by with_reducible assumption : _ ∧ _ ∧ _ ∧ _ ∧ _ ∧ _).2.2.2.2.2 | exact (by with_reducible assumption : _ ∧ _ ∧ _ ∧ _ ∧ _ ∧ _ ∧ _).2.2.2.2.2.1 | exact (by with_reducible assumption : _ ∧ _ ∧ _ ∧ _ ∧ _ ∧ _ ∧ _).2.2.2.2.2.2 | exact (by with_reducible assumption : _ ∧ _ ∧ _ ∧ _ ∧ _ ∧ _ ∧ _ ∧ _).2.2.2.2.2.2.1 | exact (by with_reducible assumption : _ ∧ _ ∧ _ ∧ _ ∧ _ ∧ _ ∧ _ ∧ _).2.2.2.2.2.2.2 | exact (by with_reducible assumption : _ ∧ _ ∧ _ ∧ _ ∧ _ ∧ _ ∧ _ ∧ _ ∧ _).2.2.2.2.2.2.2.1 | exact (by with_reducible assumption : _ ∧ _ ∧ _ ∧ _ ∧ _ ∧ _ ∧ _ ∧ _ ∧ _).2.2.2.2.2.2.2.2 | exact (by with_reducible assumption : _ ∧ _ ∧ _ ∧ _ ∧ _ ∧ _ ∧ _ ∧ _ ∧ _ ∧ _).2.2.2.2.2.2.2.2.1 | exact (by with_reducible assumption : _ ∧ _ ∧ _ ∧ _ ∧ _ ∧ _ ∧ _ ∧ _ ∧ _ ∧ _).2.2.2.2.2.2.2.2.2 | exact (by with_reducible assumption : _ ∧ _ ∧ _ ∧ _ ∧ _ ∧ _ ∧ _ ∧ _ ∧ _ ∧ _ ∧ _).2.2.2.2.2.2.2.2.2.1 | exact (by with_reducible assumption : _ ∧ _ ∧ _ ∧ _ ∧ _ ∧ _ ∧ _ ∧ _ ∧ _ ∧ _ ∧ _).2.2.2.2.2.2.2.2.2.2 | exact (by with_reducible assumption : _ ∧ _ ∧ _ ∧ _ ∧ _ ∧ _ ∧ _ ∧ _ ∧ _ ∧ _ ∧ _ ∧ _).2.2.2.2.2.2.2.2.2.2.1 | exact (by with_reducible assumption : _ ∧ _ ∧ _ ∧ _ ∧ _ ∧ _ ∧ _ ∧ _ ∧ _ ∧ _ ∧ _ ∧ _).2.2.2.2.2.2.2.2.2.2.2 | exact (by with_reducible assumption : _ ∧ _ ∧ _ ∧ _ ∧ _ ∧ _ ∧ _ ∧ _ ∧ _ ∧ _ ∧ _ ∧ _ ∧ _).2.2.2.2.2.2.2.2.2.2.2.1 | exact (by with_reducible assumption : _ ∧ _ ∧ _ ∧ _ ∧ _ ∧ _ ∧ _ ∧ _ ∧ _ ∧ _ ∧ _ ∧ _ ∧ _).2.2.2.2.2.2.2.2.2.2.2.2))
  (k_with "ne" => ((refine neN ?_); (try dsimp only); first | (refine Nat.ne_of_lt ?_; k_extra "lt") | (refine Nat.ne_of_gt ?_; k_extra "lt") | omega))
  (k_with "all" => (first | assumption | exact all_nil | (refine' all_cons ?a9Z5 ?b9Z5; (case a9Z5 => k_extra "ne"); (case b9Z5 => k_extra "all"))))
  (k_with "ite" => (k_closed; k_dflt (first | (refine' @ite_pos _ _ _ _ ?h1Z6 ?_; (case h1Z6 => decide); k_whole) | (refine' @ite_neg _ _ _ _ ?h2Z6 ?_; (case h2Z6 => decide); k_whole))))
  (k_with "getAttr ref true" => (k_here; k_dflt (refine' get_own ?k1Z7 ?k2Z7 ?k3Z7 ?k4Z7 ?k5Z7 ?k6Z7 ?k7Z7 ?k8Z7 ?k9Z7 ?_; (case k1Z7 => k_asm); (case k2Z7 => k_asm); (case k3Z7 => k_inst); (case k4Z7 => k_is); (case k5Z7 => k_is); (case k6Z7 => k_is); (case k7Z7 => k_is); (case k8Z7 => k_get); (case k9Z7 => k_handed); k_whole)))
  (k_with "eval Name" => (k_here; name_kind "local"; k_dflt (refine' nameX_L ?FZ8 ?vZ8 ?_ ?aZ8 ?bZ8; (case FZ8 => k_asm); (case aZ8 => rfl); (case bZ8 => rfl); (case vZ8 => rfl); k_whole)))
  (k_with "eval Name" => (k_here; name_kind "globalImplicit"; k_dflt (first | (refine' nameX_K ?FZ9 ?XZ9 ?TZ9 ?eZ9 ?_ ?aZ9 ?bZ9; (case FZ9 => k_asm); (case XZ9 => k_asm); (case TZ9 => k_asm); (case aZ9 => rfl); (case bZ9 => rfl); (case eZ9 => k_is); k_whole) | (refine' nameX_B ?F9Z9 ?X9Z9 ?T9Z9 ?e9Z9 ?v9Z9 ?n9Z9 ?_ ?a9Z9 ?b9Z9; (case F9Z9 => k_asm); (case X9Z9 => k_asm); (case T9Z9 => k_asm); (case a9Z9 => rfl); (case b9Z9 => rfl); (case e9Z9 => k_is); (case v9Z9 => boot_fast); (case n9Z9 => decide); k_whole))))
  (k_with "callWith ref cons nil" => (k_here; k_dflt (first | (refine' callWith_K ?k1Z10 ?k2Z10 ?_; (case k1Z10 => k_asm); (case k2Z10 => k_is); k_whole) | (refine' callWith_K0 ?k3Z10 ?k4Z10 ?_; (case k3Z10 => first | with_reducible assumption | (refine' Frag.In.keeps ?x8Z10 (Fr.keep ?f8Z10); (case f8Z10 => with_reducible assumption); (case x8Z10 => with_reducible assumption)) | k_in); (case k4Z10 => k_is); k_whole) | (refine' callWith_M0 ?k5Z10 ?k6Z10 ?_; (case k5Z10 => k_meth); (case k6Z10 => k_is); k_whole; try dsimp only [List.nil_append, List.cons_append]))))
  (k_with "exec While Constant cons nil" => (k_here; k_dflt (refine whl_start 100 ?_)))
  (k_with "call builtin:list.append cons nil" => (k_here; (with_reducible show wpAny _ _ (call (Value.builtin _) [Value.ref _, _]) _ _ _); k_dflt (refine' append_K ?k1Z12 ?k2Z12 ?k3Z12 ?_ ?zZ12; (case k1Z12 => k_asm); (case k2Z12 => k_asm); (case k3Z12 => k_upd); (case zZ12 => first | size_fits | k_extra "size9"); k_whole); intro h' F' N'; (try k_sweep)))
  (k_with "compareOp In" => (k_here; (with_reducible show wpAny _ _ (compareOp CmpOp.In (Value.bytes _ _) (Value.ref _)) _ _ _); k_dflt (refine' md_in (md_at ?FZ9 ?DZ9) ?lZ9 (bk_is _ _ _ _) ?vZ9 ?_; (case FZ9 => k_asm); (case DZ9 => k_asm); (case lZ9 => k_asm); (case vZ9 => k_asm); k_whole)))
  (k_with "subscriptTail" => (k_here; (with_reducible show wpAny _ _ (subscriptTail _ _ (Value.ref _) (Value.bytes _ _)) _ _ _); k_dflt (refine' md_item (md_at ?FZ10 ?DZ10) (bk_is _ _ _ _) ?vZ10 ?_; (case FZ10 => k_asm); (case DZ10 => k_asm); (case vZ10 => k_asm); k_whole)))
  (k_with "getMethod ref" => (k_here; (with_reducible show wpAny _ _ (getMethod (Value.ref _) (Str.ofString "get") _) _ _ _); k_dflt (refine' md_getm (knd := bytesKind _ _) (md_at ?FZ11 ?DZ11) ?_; (case FZ11 => k_asm); (case DZ11 => k_asm); k_whole)))
  (k_with "call builtin:dict.get" => (k_here; k_dflt (first | ((with_reducible show wpAny _ _ (call (Value.builtin "dict.get") [Value.ref _, Value.bytes _ _]) _ _ _); refine' md_get1 (md_at ?FZ12 ?DZ12) ?lZ12 (bk_is _ _ _ _) ?vZ12 ?_; (case FZ12 => k_asm); (case DZ12 => k_asm); (case lZ12 => k_asm); (case vZ12 => k_asm); k_whole) | ((with_reducible show wpAny _ _ (call (Value.builtin "dict.get") [Value.ref _, Value.bytes _ _, _]) _ _ _); refine' md_get2 (md_at ?FZ12 ?DZ12) ?lZ12 (bk_is _ _ _ _) ?vZ12 ?_; (case FZ12 => k_asm); (case DZ12 => k_asm); (case lZ12 => k_asm); (case vZ12 => k_asm); k_whole)); (try dsimp only [Option.getD])))
  (k_with "compareOp Eq bytes none" => with_reducible refine eq_bytes_none ?_)
  (k_with "getMethod ref" => (k_here; (with_reducible show wpAny _ _ (getMethod (Value.ref _) (Str.ofString "get") _) _ _ _); k_dflt (refine kob_method (knd := bytesKind _ _) PySem.F.slot_dict_get PySem.F.type_dict_get (by k_asm) (by k_mem) (by assumption) ?_)))
  (k_with "call builtin:dict.get" => (k_here; (with_reducible show wpAny _ _ (call (Value.builtin "dict.get") [Value.ref _, Value.bytes _ _, _]) _ _ _); k_dflt (refine' kget2 ?NZ15 ?pZ15 ?dZ15 ?lZ15 (bk_is _ _ _ _) ?vZ15 ?_; (case NZ15 => k_asm); (case pZ15 => k_mem); (case dZ15 => assumption); (case lZ15 => assumption); (case vZ15 => assumption); k_whole); (try dsimp only [Option.getD])))
  (k_with "compareOp In" => (k_here; (with_reducible show wpAny _ _ (compareOp CmpOp.In (Value.bytes _ _) (Value.ref _)) _ _ _); k_dflt (refine' kda_in (knd := bytesKind _ _) ?NZ16 ?pZ16 ?dZ16 ?lZ16 (bk_is _ _ _ _) ?bZ16 ?hbZ16 ?_; (case NZ16 => k_asm); (case pZ16 => k_mem); (case dZ16 => assumption); (case lZ16 => assumption); (case bZ16 => exact false); (case hbZ16 => exact rfl); k_whole)))
  (k_with "setItem ref" => (k_here; (with_reducible show wpAny _ _ (setItem (Value.ref _) (Value.bytes _ _) _) _ _ _); k_dflt (refine' kda_set (knd := bytesKind _ _) ?FZ17 ?NZ17 ?UZ17 ?dZ17 (bk_is _ _ _ _) ?zZ17 ?_; (case FZ17 => k_asm); (case NZ17 => k_asm); (case UZ17 => k_updF); (case dZ17 => first | assumption | exact empty_any (knd := strKind _ _) (by assumption)); (case zZ17 => first | assumption | exact Nat.zero_le _); k_whole); intro h' o' F' N' hd'; (try dsimp only at N')))
  (k_with "call ref" => (k_here; (with_reducible show wpAny _ _ (call (Value.ref 622) _ _) _ _ _); k_dflt (first | ((refine' mux3 ?amZ18 ?NZ18 ?b1Z18 ?b2Z18 ?_; (case amZ18 => (refine' Amb.mk ?aBZ18 ?aFZ18 ?aXZ18 ?aTZ18 ?akZ18 ?adZ18 ?auZ18; (case aBZ18 => k_asm); (case aFZ18 => k_asm); (case aXZ18 => k_asm); (case aTZ18 => k_asm); (case akZ18 => first | exact rfl | assumption); (case adZ18 => ktr_room); (case auZ18 => ktr_units))); (case NZ18 => k_asm); (case b1Z18 => decide); (case b2Z18 => decide); k_whole; intro h9 tk9 t9 F9 N9; (try dsimp only); (try k_fold))))))
  (k_with "eval Dict" => (k_here; (with_reducible show wpAny _ _ (eval (PySem.Expr.Dict (some (PySem.Expr.Constant (Const.bytes _) _ _) :: _) _ _) _) _ _ _); k_dflt (refine' kdn_eval (knd := bytesKind _ _) ?FZ19 ?NZ19 ?bZ19 ?aZ19 ?lZ19 ?eZ19 ?nZ19 ?_; (case FZ19 => k_asm); (case NZ19 => k_asm); (case bZ19 => exact Top.nolimit (by k_asm)); (case aZ19 => rfl); (case lZ19 => rfl); (case eZ19 => exact List.cons_ne_nil _ _); (case nZ19 => exact Nat.le_of_ble_eq_true rfl)); intro d' h' o' F' N' l1 lo' hd'; (try k_lt l1)))
  (k_with "KdnMade" => (k_here; k_dflt (refine' bdict_made ?FZ20 ?NZ20 ?UZ20 ?dZ20 ?_; (case FZ20 => k_asm); (case NZ20 => k_asm); (case UZ20 => k_updF); (case dZ20 => k_asm); intro h' o' F' N' hd'); (try dsimp only at N')))
  (k_with "execs cons" => (k_here; (with_reducible show wpAny _ _ (execs (Stmt.Assign [PySem.Expr.Name (Str.ofString "rows") _] _ _ :: _) _) _ _ _); (fail_if_success (rename Mine.Base _ _ _ _ _ _ _ _ _ _ _ _ _ _ _ _ _ => hB9)); k_dflt (refine' base_here (c5 := ⟨_, _, _, _, _, _, _, _, _, _⟩) ?FZ21 ?NZ21 ?htZ21 ?hoZ21 ?n1Z21 ?n2Z21 ?n3Z21 ?n4Z21 ?n5Z21 ?hooZ21 ?n6Z21 ?n7Z21 ?n8Z21 ?n9Z21 ?BZ21 ?kBaseZ21; (case FZ21 => k_asm); (case NZ21 => k_asm); (case htZ21 => rfl); (case hoZ21 => rfl); (case n1Z21 => k_mem); (case n2Z21 => k_mem); (case n3Z21 => k_mem); (case n4Z21 => k_mem); (case n5Z21 => k_mem); (case hooZ21 => assumption); (case n6Z21 => k_mem); (case n7Z21 => k_mem); (case n8Z21 => k_mem); (case n9Z21 => k_mem); (case BZ21 => refine' Base.mk ?b1Z21 ?b2Z21 ?b3Z21 ?b4Z21 ?b5Z21 ?b6Z21 ?b7Z21 ?b8Z21 ?b9Z21 ⟨?c1Z21, ?c2Z21, ?c3Z21, ?c4Z21, ?c5Z21, ?c6Z21, ?c7Z21, ?c8Z21⟩ ⟨?d1Z21, ?d2Z21, ?d3Z21, ?d4Z21⟩; (case b1Z21 => (first | assumption | exact empty_any (knd := strKind _ _) (by assumption))); (case b2Z21 => (first | assumption | exact empty_any (knd := strKind _ _) (by assumption))); (case b3Z21 => assumption); (case b4Z21 => exact ⟨by (first | assumption | exact empty_any (knd := strKind _ _) (by assumption)), by assumption⟩); (case b5Z21 => exact ⟨by (first | assumption | exact empty_any (knd := strKind _ _) (by assumption)), by assumption⟩); (case b6Z21 => exact ⟨by (first | assumption | exact empty_any (knd := strKind _ _) (by assumption)), by assumption⟩); (case b7Z21 => exact ⟨by (first | assumption | exact empty_any (knd := strKind _ _) (by assumption)), by assumption⟩); (case b8Z21 => assumption); (case b9Z21 => assumption); (case c1Z21 => exact ltN (by omega)); (case c2Z21 => exact ltN (by omega)); (case c3Z21 => exact ltN (by omega)); (case c4Z21 => exact ltN (by omega)); (case c5Z21 => exact ltN (by omega)); (case c6Z21 => exact ltN (by omega)); (case c7Z21 => exact ltN (by omega)); (case c8Z21 => exact ltN (by omega)); (case d1Z21 => exact neN (by omega)); (case d2Z21 => exact neN (by omega)); (case d3Z21 => exact neN (by omega)); (case d4Z21 => exact neN (by omega))); (case' kBaseZ21 => intro c57 B8 N8))))
  (k_with "NextP" => (refine NextP.mk ?_))
  (k_with "execs cons" => ((with_reducible show wpAny _ _ (execs [_] _) (NextP _) _ _); refine nextp_cons ?_))
  (k_with "execs nil" => ((with_reducible show wpAny _ _ (execs [] _) (NextP _) _ _); refine nextp_nil ?_))
  (k_with "exec If" => ((with_reducible show wpAny _ _ (exec _ _) (NextP _) _ _); refine wpAny_If ?_))
  (k_with "execs cons" => (k_here; (with_reducible show wpAny _ _ (execs (Stmt.If _ [Stmt.Expr _ _] _ _ :: Stmt.If _ [Stmt.Expr _ _] _ _ :: _) _) _ _ _); k_dflt (refine' cut_rows (ext9 := [_, _, _, _, _, _, _, _, _, _]) (c5 := c57) ?FZ26 ?NZ26 ?hlZ26 ?htZ26 ?hoZ26 ?n1Z26 ?n2Z26 ?n3Z26 ?n4Z26 ?n5Z26 ?hooZ26 ?n6Z26 ?n7Z26 ?n8Z26 ?n9Z26 ?BZ26 ?hl9Z26 ?N9Z26 ?R9Z26 ?o9Z26 ?hCutZ26 ?kCutZ26; (case FZ26 => k_asm); (case NZ26 => k_asm); (case hlZ26 => rfl); (case htZ26 => rfl); (case hoZ26 => rfl); (case BZ26 => assumption); (case n1Z26 => k_mem); (case n2Z26 => k_mem); (case n3Z26 => k_mem); (case n4Z26 => k_mem); (case n5Z26 => k_mem); (case hooZ26 => assumption); (case n6Z26 => k_mem); (case n7Z26 => k_mem); (case n8Z26 => k_mem); (case n9Z26 => k_mem); (case hl9Z26 => k_mem); (case N9Z26 => k_asm); (case R9Z26 => exact ⟨(RowsOf.cons (by k_mem) n4r rpf (mux_a (b := 97) (by decide) (by decide)) (by decide) (RowsOf.cons (by k_mem) n4r rpf (mux_b (b := 98) (by decide) (by decide)) (by decide) (RowsOf.cons (by k_mem) n4p rpf (mux_a (b := 97) (by decide) (by decide)) (by decide) (RowsOf.cons (by k_mem) n4p rpt (mux_a (b := 98) (by decide) (by decide)) (by decide) (RowsOf.cons (by k_mem) n4p rpt (mux_a (b := 99) (by decide) (by decide)) (by decide) (RowsOf.cons (by k_mem) n4c rpf (mux_a (b := 120) (by decide) (by decide)) (by decide) (RowsOf.cons (by k_mem) n4c rpf (mux_b (b := 98) (by decide) (by decide)) (by decide) (RowsOf.cons (by k_mem) n4o rpf (mux_a (b := 120) (by decide) (by decide)) (by decide) (RowsOf.cons (by k_mem) n4o rpf (mux_a (b := 98) (by decide) (by decide)) (by decide) True.intro))))))))), by ((repeat (first | refine cls_consT rfl ?_ | refine cls_consL rfl ?_)); exact List.forall_mem_nil _)⟩); (case' kCutZ26 => intro h8 tk8 B8 R8 F8); (case o9Z26 => k_all); (case' hCutZ26 => (intro ext9 vs9 nn9 R99 hvl9 o99 N99; simp only [List.cons_append, List.nil_append] at N99)))))
  (k_with "size9" => (simp only [Array.size_push, List.size_toArray, hvl9, sizeLine_eq]; omega))
  (k_with "RowsAt" => (k_here; k_dflt (first | ((refine' rows_end0 (new := [_]) ?R9Z28 ?F9Z28 ?N9Z28 ?l9Z28 ?c9Z28); (case R9Z28 => assumption); (case F9Z28 => with_reducible assumption); (case N9Z28 => (dsimp only [List.cons_append, List.nil_append]; with_reducible assumption)); (case l9Z28 => exact List.Mem.head _); (case c9Z28 => ((repeat (first | refine cls_consT rfl ?_ | refine cls_consL rfl ?_)); exact List.forall_mem_nil _))) | ((refine' rows_end10 (new := [_, _]) [(rootB, anyB, false)] ?X9Z28 ?R9Z28 ?F9Z28 ?N9Z28 ?r9Z28 ?l9Z28 ?v9Z28 ?c9Z28); (case X9Z28 => decide); (case R9Z28 => assumption); (case F9Z28 => with_reducible assumption); (case N9Z28 => (dsimp only [List.cons_append, List.nil_append]; with_reducible assumption)); (case r9Z28 => exact (RowsOf.cons (by k_mem) n4r rpf mux_c (by decide) RowsOf.nil)); (case l9Z28 => exact List.Mem.tail _ (List.Mem.head _)); (case v9Z28 => first | exact push1 | exact push2); (case c9Z28 => ((repeat (first | refine cls_consT rfl ?_ | refine cls_consL rfl ?_)); exact List.forall_mem_nil _))) | ((refine' rows_end10 (new := [_, _]) [(prefB, anyB, false)] ?X9Z28 ?R9Z28 ?F9Z28 ?N9Z28 ?r9Z28 ?l9Z28 ?v9Z28 ?c9Z28); (case X9Z28 => decide); (case R9Z28 => assumption); (case F9Z28 => with_reducible assumption); (case N9Z28 => (dsimp only [List.cons_append, List.nil_append]; with_reducible assumption)); (case r9Z28 => exact (RowsOf.cons (by k_mem) n4p rpf mux_c (by decide) RowsOf.nil)); (case l9Z28 => exact List.Mem.tail _ (List.Mem.head _)); (case v9Z28 => first | exact push1 | exact push2); (case c9Z28 => ((repeat (first | refine cls_consT rfl ?_ | refine cls_consL rfl ?_)); exact List.forall_mem_nil _))) | ((refine' rows_end10 (new := [_, _, _]) [(rootB, anyB, false), (prefB, anyB, false)] ?X9Z28 ?R9Z28 ?F9Z28 ?N9Z28 ?r9Z28 ?l9Z28 ?v9Z28 ?c9Z28); (case X9Z28 => decide); (case R9Z28 => assumption); (case F9Z28 => with_reducible assumption); (case N9Z28 => (dsimp only [List.cons_append, List.nil_append]; with_reducible assumption)); (case r9Z28 => exact (RowsOf.cons (by k_mem) n4r rpf mux_c (by decide) (RowsOf.cons (by k_mem) n4p rpf mux_c (by decide) RowsOf.nil))); (case l9Z28 => exact List.Mem.tail _ (List.Mem.tail _ (List.Mem.head _))); (case v9Z28 => first | exact push1 | exact push2); (case c9Z28 => ((repeat (first | refine cls_consT rfl ?_ | refine cls_consL rfl ?_)); exact List.forall_mem_nil _))))))
  (k_with "pyIter ref" => (k_here; (with_reducible show wpAny _ _ (pyIter (Value.ref _)) (fun it s₂ => TurnsAt _ _ _ _ _ _ _ _ _ it s₂) _ _); k_dflt (refine' rows_iter ?hhZ29 ?BZ29 ?RZ29 ?hsZ29 ?tnZ29 ?toZ29 ?dnZ29; (case hhZ29 => with_unfolding_all rfl); (case BZ29 => assumption); (case RZ29 => assumption); (case hsZ29 => exact rfl)); (try k_whole); (case' tnZ29 => (intro c58 I8 T8 W8 rep8 tp8 t8 u8 k8 vt8 vw8 vr8 it8 y8 yo8 mo8 mkvs8 os8 oso8 lv8 rest8 h8 tk8 TF8 hv8 F8 N8; obtain ⟨hmo8, hlb8, hoo8, hoso8, hsz8, hsl8, hvo8, hMX8, hsw8, ⟨a1, a2, a3, a4, a5, a6, a7, a8, a9⟩, ⟨c1, c2, c3, c4, c5, c6, c7, c8, c9⟩, lo8⟩ := TF8; have orest8 : ∀ p ∈ ((tp8 : Addr), tupObj [.bytes T8 t8, .bytes W8 u8, .bool rep8] k8) :: rest8, p.1 ≠ os8 := List.forall_mem_cons.mpr ⟨c8, c9⟩)); (case' toZ29 => (intro c58 I8 T8 W8 rep8 tp8 t8 u8 k8 vt8 vw8 vr8 it8 y8 yo8 mo8 mkvs8 os8 oso8 lv8 rd8 ro8 kvs8 rest8 h8 tk8 TF8 hv8 hro8 hrs8 hsr8 ne8 F8 N8; obtain ⟨hmo8, hlb8, hoo8, hoso8, hsz8, hsl8, hvo8, hMX8, hsw8, ⟨a1, a2, a3, a4, a5, a6, a7, a8, a9⟩, ⟨c1, c2, c3, c4, c5, c6, c7, c8, c9⟩, lo8⟩ := TF8; have orest8 : ∀ p ∈ ((tp8 : Addr), tupObj [.bytes T8 t8, .bytes W8 u8, .bool rep8] k8) :: rest8, p.1 ≠ os8 := List.forall_mem_cons.mpr ⟨c8, c9⟩; obtain ⟨e1, e2, e3, e4, e5, e6, e7, e8, e9, e10, e11, e12⟩ := ne8)); (case' dnZ29 => ((repeat (with_reducible rename News _ _ _ _ => zz9; clear zz9)); (repeat (with_reducible rename Fr _ _ _ _ => zz9; clear zz9)); (repeat (with_reducible rename Mine.Base _ _ _ _ _ _ _ _ _ _ _ _ _ _ _ _ _  => zz9; clear zz9)); (repeat (with_reducible rename Mine.RowsAt _ _ _ _ _ _ _ _  => zz9; clear zz9)); (repeat (with_reducible rename Mine.Rows9 _ _ _ => zz9; clear zz9)); (repeat (with_reducible rename (_ ∧ _) => zz9; clear zz9)); (repeat (with_reducible rename Obj.IsDictOf _ _ _ => zz9; clear zz9)); intro c58 restL8 vt8 vw8 vr8 h8 tk8 hrl8 TL8 F8 N8))))
  (k_with "exec For Tuple Name cons nil" => (k_here; (rename Fr _ _ _ _ => lF'); (with_unfolding_all refine' For_turns lF' ?_; k_whole)))
  (k_with "call ref" => (k_here; (with_reducible show wpAny _ _ (call (Value.ref 689) _ _) _ _ _); k_dflt (refine' bind_new_r (c5 := ⟨_, _, _, _, _, _, _, _, _, _⟩) ?amZ31 ?NZ31 ?offZ31 ?hmoZ31 ?hlbZ31 ?hmsZ31 ?hlsZ31 ?hszZ31 ?hMXZ31 ?n1Z31 ?n2Z31 ?n3Z31 ?n4Z31 ?n5Z31 ?hvZ31 ?_; (case NZ31 => k_asm); (case amZ31 => (refine' Amb.mk ?aBZ31 ?aFZ31 ?aXZ31 ?aTZ31 ?akZ31 ?adZ31 ?auZ31; (case aBZ31 => k_asm); (case aFZ31 => k_asm); (case aXZ31 => k_asm); (case aTZ31 => k_asm); (case akZ31 => first | exact rfl | assumption); (case adZ31 => ktr_room); (case auZ31 => ktr_units))); (case offZ31 => exact List.forall_mem_cons.mpr ⟨by assumption, List.forall_mem_cons.mpr ⟨by assumption, List.forall_mem_cons.mpr ⟨by assumption, by assumption⟩⟩⟩); (case hmoZ31 => assumption); (case hlbZ31 => assumption); (case hmsZ31 => assumption); (case hlsZ31 => assumption); (case hszZ31 => assumption); (case hMXZ31 => assumption); (case n1Z31 => assumption); (case n2Z31 => assumption); (case n3Z31 => assumption); (case n4Z31 => assumption); (case n5Z31 => assumption); (case hvZ31 => assumption); k_whole); intro h9 tk9 b9 bd9 rd9 cb9 t19 nt9 mo9 ro9 q1 q2 q3 F9 N9 o9; have r1 : (rd9 : Nat) ≠ os8 := Nat.ne_of_gt (lo_lt lo8 o9.1 o9.2.1); have r2 : (bd9 : Nat) ≠ os8 := Nat.ne_of_gt (Nat.lt_trans (lo_lt lo8 o9.1 o9.2.1) o9.2.2.1); have r3 : (b9 : Nat) ≠ os8 := Nat.ne_of_gt (Nat.lt_trans (Nat.lt_trans (lo_lt lo8 o9.1 o9.2.1) o9.2.2.1) o9.2.2.2); (try dsimp only); (try k_fold)))
  (k_with "call ref" => (k_here; (with_reducible show wpAny _ _ (call (Value.ref 689) _ _) _ _ _); k_dflt (refine' bind_old_r (c5 := ⟨_, _, _, _, _, _, _, _, _, _⟩) ?amZ32 ?NZ32 ?offZ32 ?off2Z32 ?hmoZ32 ?hlbZ32 ?hmsZ32 ?hlsZ32 ?hszZ32 ?hMXZ32 ?n1Z32 ?n2Z32 ?n3Z32 ?n4Z32 ?n5Z32 ?hvZ32 ?hroZ32 ?hrsZ32 ?hsrZ32 ?m1Z32 ?m2Z32 ?m3Z32 ?m4Z32 ?m5Z32 ?m6Z32 ?m7Z32 ?_; (case NZ32 => k_asm); (case amZ32 => (refine' Amb.mk ?aBZ32 ?aFZ32 ?aXZ32 ?aTZ32 ?akZ32 ?adZ32 ?auZ32; (case aBZ32 => k_asm); (case aFZ32 => k_asm); (case aXZ32 => k_asm); (case aTZ32 => k_asm); (case akZ32 => first | exact rfl | assumption); (case adZ32 => ktr_room); (case auZ32 => ktr_units))); (case offZ32 => exact List.forall_mem_cons.mpr ⟨by assumption, List.forall_mem_cons.mpr ⟨by assumption, List.forall_mem_cons.mpr ⟨by assumption, by assumption⟩⟩⟩); (case off2Z32 => exact List.forall_mem_cons.mpr ⟨by assumption, List.forall_mem_cons.mpr ⟨by assumption, List.forall_mem_cons.mpr ⟨by assumption, by assumption⟩⟩⟩); (case hmoZ32 => assumption); (case hlbZ32 => assumption); (case hmsZ32 => assumption); (case hlsZ32 => assumption); (case hszZ32 => assumption); (case hMXZ32 => assumption); (case n1Z32 => assumption); (case n2Z32 => assumption); (case n3Z32 => assumption); (case n4Z32 => assumption); (case n5Z32 => assumption); (case hvZ32 => assumption); (case hroZ32 => assumption); (case hrsZ32 => assumption); (case hsrZ32 => assumption); (case m1Z32 => assumption); (case m2Z32 => assumption); (case m3Z32 => assumption); (case m4Z32 => assumption); (case m5Z32 => assumption); (case m6Z32 => assumption); (case m7Z32 => assumption); k_whole); intro h9 tk9 b9 bd9 cb9 t19 nt9 mo9 ro9 q2 q3 F9 N9 o9; have r2 : (bd9 : Nat) ≠ os8 := Nat.ne_of_gt (lo_lt lo8 o9.1 o9.2.1); have r3 : (b9 : Nat) ≠ os8 := Nat.ne_of_gt (Nat.lt_trans (lo_lt lo8 o9.1 o9.2.1) o9.2.2); have r4 := Ne.symm e11; have r5 := Ne.symm e8; (try dsimp only); (try k_fold)))
  (k_with "call ref" => (k_here; (with_reducible show wpAny _ _ (call (Value.ref 711) _ _) _ _ _); k_dflt (refine wpAny_call ?_; k_enter)))
  (k_with "binaryOp Add bytes bytes" => (k_here; (with_reducible show wpAny _ _ (binaryOp Operator.Add (Value.bytes _ _) (Value.bytes _ _)) _ _ _); (refine KBy.add_bytes (by first | (simp; omega) | decide) ?_); intro t9 k9))
  (k_with "subscriptTail" => (k_here; (with_reducible show wpAny _ _ (subscriptTail _ _ (Value.ref _) (Value.bytes _ _)) _ _ _); ((k_dflt (refine' kda_item (knd := bytesKind _ _) ?NZ35 ?pZ35 ?dZ35 (bk_is _ _ _ _) ?vZ35 ?_; (case NZ35 => k_asm); (case pZ35 => k_mem); (case dZ35 => assumption); (case vZ35 => assumption); k_whole)))))
  (k_with "setItem ref" => (k_here; (with_reducible show wpAny _ _ (setItem (Value.ref _) (Value.bytes _ _) _) _ _ _); (k_dflt ((refine' kda_set (knd := bytesKind _ _) ?FZ36 ?NZ36 ?UZ36 ?dZ36 (bk_is _ _ _ _) ?zZ36 ?_); (case FZ36 => k_asm); (case NZ36 => k_asm); (case UZ36 => k_updF); (case dZ36 => first | assumption | exact empty_any (knd := strKind _ _) (by assumption)); (case zZ36 => first | assumption | exact Nat.zero_le _); k_whole)); intro h9 o9s F9 N9 hd9; (try dsimp only at N9)))
  (k_with "RowEnd" => (k_here; k_dflt (first | ((refine' RowEnd.mkN ?FZ37 ?NZ37 ?n1Z37 ?n2Z37 ?n3Z37 ?n4Z37 ?n5Z37 ?n6Z37 ?n7Z37 ?n8Z37 ?h1Z37 ?h2Z37 ?h3Z37 ?h4Z37 ?oZ37 ?o2Z37); (case FZ37 => assumption); (case NZ37 => assumption); (case n1Z37 => k_mem); (case h2Z37 => assumption); (case h1Z37 => assumption); (case h3Z37 => assumption); (case n2Z37 => k_mem); (case n3Z37 => k_mem); (case n4Z37 => k_mem); (case n5Z37 => k_mem); (case n6Z37 => k_mem); (case n7Z37 => k_mem); (case n8Z37 => ((repeat (first | exact fun p hp => hp | refine sub_skip ?_)))); (case h4Z37 => assumption); (case oZ37 => assumption); (case o2Z37 => exact ltN (by omega))) | ((refine' RowEnd.mkO ?FZ37 ?NZ37 ?n1Z37 ?n2Z37 ?n3Z37 ?n4Z37 ?n5Z37 ?n6Z37 ?n7Z37 ?n8Z37 ?h1Z37 ?h2Z37 ?h3Z37 ?oZ37 ?o2Z37); (case FZ37 => assumption); (case NZ37 => assumption); (case n1Z37 => k_mem); (case h2Z37 => assumption); (case h1Z37 => assumption); (case h3Z37 => assumption); (case n2Z37 => k_mem); (case n3Z37 => k_mem); (case n4Z37 => k_mem); (case n5Z37 => k_mem); (case n6Z37 => k_mem); (case n7Z37 => k_mem); (case n8Z37 => ((repeat (first | exact fun p hp => hp | refine sub_skip ?_)))); (case oZ37 => assumption); (case o2Z37 => exact ltN (by omega))))))
  trivial

theorem tables_0 {w mean mg mb dp un gd cn cs a ccd cl outer A₀ base h₀ L m} {s : Shared} {Q E : Value → Shared → Prop} {n : Int} {tn : Tok}
  (am : Amb 45 360 w mean mg mb dp un cs outer A₀ base h₀ L m s.heap) (hn : 0 ≤ n)
  (hret : ∀ h' tk' (tup : Addr) k (tb td mk lt own pf : Nat) c5 S (r : Int) tr tP tS t1 t2 pfn restL okvs, Fr h₀ L h' m → s.heap.StaysIn h' → News h₀ L h' ((tup, tupObj [.ref tb, .ref own, .ref pf] k) :: ((pf : Addr), W.listOf (pfVals cbB S t1 t2).toArray pfn) :: ((tb : Addr), instObj 754 td) :: ((td : Addr), tbObj c5 mk lt (.bytes cbB tP) (optB S tS) (.int r tr)) :: restL) → TabsL w (((tb : Addr), instObj 754 td) :: ((td : Addr), tbObj c5 mk lt (.bytes cbB tP) (optB S tS) (.int r tr)) :: restL) tb own r cbB S okvs → Q (.ref tup) { s with heap := h', toks := tk' }) :
  wpAny (model PySem.Challenge.rw_og0286_01.row.prog w) (ktrTop dp un gd cn cs L a ccd cl outer) (call (.ref 863) [.int n tn]) Q E s := by
  obtain ⟨B, F, X, T, hk, hd, hu⟩ := am
  have N0 : News h₀ L s.heap [] := news_nil
  revert X; k_fill; intro X
  refine wpAny_call ?_
  k_dflt (refine' code_defR ?k1 ?k2 ?k3 ?k4 ?k5 ?kA ?kF ?kK ?k6 ?k7 ?k8 ?k9 ?kB ?_ ?c2 ?c3 ?c4 ?c5; (case kA => exact rfl); (case kF => exact rfl); (case kK => assumption); (case k1 => k_asm); (case k2 => k_asm); (case k3 => k_asm); (case k4 => exact N0); (case k5 => k_asm); (case k6 => k_is); (case k7 => k_is); (case k8 => ktr_room); (case k9 => first | exact BindsTo.of_eq rfl | exact binds_K (by k_in) rfl (by k_is) rfl rfl rfl); (case c5 => decide); (case kB => exact locs rfl); (case c2 => exact rfl); (case c3 => exact rfl); (case c4 => exact rfl); k_whole; intro g' L' h' hg' FG' F' N' B' X' T'; (try dsimp only); (try k_lift B'); (try k_fold))
  rename (_ = hideAll _ _) => HG
  repeat' (first | (k_unfold; (try dsimp only)) | (k_end; wrow_close) | (walk1 <;> (try dsimp only)) | (leave1; walk_say "STEP leave1"; try dsimp only) | fail "no step")
  all_goals first | (exact hret _ _ _ _ _ _ _ _ _ _ c58 none _ _ _ 0 _ 0 _ restL8 _ (by assumption) (hide_nil HG (by assumption)) (by assumption) (TL8 _ _ _ _ _ _ _)) | (exact hret _ _ _ _ _ _ _ _ _ _ c58 (some #[67, 45, 97]) _ _ _ _ _ _ _ restL8 _ (by assumption) (hide_nil HG (by assumption)) (by assumption) (TL8 _ _ _ _ _ _ _)) | w_report
end
section
open PySem.SeqAt
theorem eqat_bytes {A : Around} {s : Shared} (x : Array UInt8) (a b : Tok) : EqAt A s (.bytes x a) (.bytes x b) true := fun prog w E Q h => by
  refine (bytesKind prog w).eqBool (a := x.toList) (b := x.toList) (bk_is _ _ _ _) (bk_is _ _ _ _) ?_
  simpa using h
theorem eqat_optV {A : Around} {s : Shared} (U : Option Int) (a b : Tok) : EqAt A s (optV U a) (optV U b) true := by
  cases U with
  | none => exact EqAt.same _
  | some u =>
    have := EqAt.int_int (A := A) (s := s) u a u b
    rwa [beq_self_eq_true] at this
theorem eqat_optB {A : Around} {s : Shared} (U : Option (Array UInt8)) (a b : Tok) : EqAt A s (optB U a) (optB U b) true := by
  cases U with
  | none => exact EqAt.same _
  | some u => exact eqat_bytes u a b
theorem ne_tup3 {prog : Program} {w : World} {A : Around} {E : Value → Shared → Prop} {s : Shared} {Q : Value → Shared → Prop} {h₀ : Heap} {L a b : Addr} {news : List (Addr × Obj)} {T : Array UInt8} {U : Option Int} {M : Option (Array UInt8)} {t1 t2 t3 u1 u2 u3 : Tok} {k k' : Nat}
    (N : News h₀ L s.heap news) (ha : (a, tupObj [.bytes T t1, optV U t2, optB M t3] k) ∈ news) (hb : (b, tupObj [.bytes T u1, optV U u2, optB M u3] k') ∈ news) (hu : A.units < cLine) (h : Q (.bool false) s) :
    wpAny (model prog w) A (compareOp .NotEq (.ref a) (.ref b)) Q E s := by
  have key := RcNeAt.tuples (A := A) (s := s) (l := a) (b := b) (e := fun _ => true) ⟨_, (N _ ha).1, rfl, _, rfl⟩ ⟨_, (N _ hb).1, rfl, _, rfl⟩ hu (fun j h1 h2 => by
    have hj : j < 3 := h1
    rcases j with _ | _ | _ | j
    · exact eqat_bytes _ _ _
    · exact eqat_optV _ _ _
    · exact eqat_optB _ _ _
    · omega)
  exact key prog w E Q h
theorem ne_same {prog : Program} {w : World} {A : Around} {E : Value → Shared → Prop} {s : Shared} {Q : Value → Shared → Prop} {h₀ : Heap} {L r r' : Addr} {ow ow' news : List (Addr × Obj)} (S : SameRes r ow r' ow')
    (N : News h₀ L s.heap news) (ha : ∀ p ∈ ow, p ∈ news) (hb : ∀ p ∈ ow', p ∈ news) (hu : A.units + 2 < cLine) (h : Q (.bool false) s) :
    wpAny (model prog w) A (compareOp .NotEq (.ref r) (.ref r')) Q E s := by
  cases S with
  | nil =>
    rename_i n n'
    have key := RcNeAt.lists (A := A) (s := s) (l := r) (b := r') (e := fun _ => true) ⟨_, (N _ (ha _ (.head _))).1, rfl, _, rfl⟩ ⟨_, (N _ (hb _ (.head _))).1, rfl, _, rfl⟩ rfl (by omega) (fun j h1 h2 => by
      have hj : j < 0 := h1
      omega)
    exact key prog w E Q h
  | one =>
    rename_i t t' n n' k k' x y a a' b b'
    have g1 := (N _ (ha (t, _) (.tail _ (.head _)))).1
    have g2 := (N _ (hb (t', _) (.tail _ (.head _)))).1
    have key := RcNeAt.lists (A := A) (s := s) (l := r) (b := r') (e := fun _ => true) ⟨_, (N _ (ha _ (.head _))).1, rfl, _, rfl⟩ ⟨_, (N _ (hb _ (.head _))).1, rfl, _, rfl⟩ rfl (by omega) (fun j h1 h2 => by
      have hj : j < 1 := h1
      rcases j with _ | j
      · by_cases e : t = t'
        · subst e; exact EqAt.same _
        · refine EqAt.of_refs e ?_
          have rc := RcAt.tuples (A := A.in1) (s := s) (l := t) (b := t') (e := fun _ => true) ⟨_, g1, rfl, _, rfl⟩ ⟨_, g2, rfl, _, rfl⟩ (by simp only [units_in1]; omega) (fun j h1 h2 => by
            have hj : j < 2 := h1
            rcases j with _ | _ | j
            · exact eqat_bytes _ _ _
            · exact eqat_bytes _ _ _
            · omega)
          exact rc
      · omega)
    exact key prog w E Q h
end
section
theorem due_t {w mean mg mb dp un gd cn cs a ccd cl outer A₀ base h₀ L m} {s : Shared} {Q E : Value → Shared → Prop} {wd own pf : Addr} {wo : Obj} {r : Int} {tr : Tok} {Pb W : Array UInt8} {S : Option (Array UInt8)} {t1 t2 : Tok} {okvs : List (List UInt8 × Value)} {F : FT} {T : Array UInt8} {U : Option Int} {M : Option (Array UInt8)} {tT tU tM tW tn tki : Tok} {kind : Int} {now : Int} {P : Bool} {news tl : List (Addr × Obj)} {g : Obj → List (Addr × Obj)} {pfn : Nat}
  (am : Amb 25 200 w mean mg mb dp un cs outer A₀ base h₀ L m s.heap) (N : News h₀ L s.heap news) (Up : UpdF wd wo news g) (hw : Obj.IsDictOf (strKind PySem.Challenge.rw_og0286_01.row.prog w) wo (wk (.bytes T tT) (optV U tU) (optB M tM) (.ref own) (.ref pf) (.int r tr))) (wf : Wf T U M)
  (htl : ∀ p ∈ tl, p ∈ news ∧ p.1 ≠ wd) (hpf : (pf, PySem.W.listOf (pfVals Pb S t1 t2).toArray pfn) ∈ tl) (hP : prefP Pb S W = P) (O : ∀ h : Heap, (∀ p ∈ tl, h.get? p.1 = some p.2) → OwnAt w h own okvs W F)
  (hret : ∀ h' tk' wo' r' ow T' U' M' (t u v : Tok) res, lawStep P F r T U M kind now = (T', U', M', res) → Obj.IsDictOf (strKind PySem.Challenge.rw_og0286_01.row.prog w) wo' (wk (.bytes T' t) (optV U' u) (optB M' v) (.ref own) (.ref pf) (.int r tr)) → LResIs (F (hereT (expT T U now) M)) (F rootB) (sentW kind W) res r' ow → Fr h₀ L h' m → News h₀ L h' (g wo' ++ ow) → Q (.ref r') { s with heap := h', toks := tk' }) :
  wpAny (model PySem.Challenge.rw_og0286_01.row.prog w) (ktrTop dp un gd cn cs L a ccd cl outer) (call (.ref 905) [.ref wd, .int kind tki, .bytes W tW, .int now tn]) Q E s := by
  obtain ⟨pre, post, rfl, hg, h1, h2⟩ := Up.split
  have N' : News h₀ L s.heap ((wd, wo) :: (pre ++ post)) := fun p hp => N p (by
    simp only [List.mem_cons, List.mem_append] at hp ⊢
    rcases hp with h | h | h
    · exact .inr (.inl h)
    · exact .inl h
    · exact .inr (.inr h))
  have hk : ∀ p ∈ tl, (hideAll s.heap [wd]).get? p.1 = some p.2 := fun p hp => hideAll_get _ (N p (htl p hp).1).1 (by simpa using (htl p hp).2)
  refine due_r am N' (fun p hp => (List.mem_append.mp hp).elim (h1 p) (h2 p)) hw wf ⟨_, hk _ hpf, rfl, _, rfl⟩ hP (O _ hk) fun h' tk' wo' r' ow T' U' M' t u v res e1 e2 e3 F' N'' _ _ => hret h' tk' wo' r' ow T' U' M' t u v res e1 e2 e3 F' fun p hp => N'' p ?_
  rw [hg] at hp
  simp only [List.mem_cons, List.mem_append] at hp ⊢
  rcases hp with (h | h | h) | h
  · exact .inr (.inr (.inl h))
  · exact .inr (.inl h)
  · exact .inr (.inr (.inr h))
  · exact .inl h
theorem done_t {w mean mg mb dp un gd cn cs a ccd cl outer A₀ base h₀ L m} {s : Shared} {Q E : Value → Shared → Prop} {st sd tb wd own pf : Addr} {c : Hd} {wo : Obj} {r : Int} {tr tki tW tn tT tU tM tM2 : Tok} {kind now : Int} {Pb W T : Array UInt8} {S : Option (Array UInt8)} {P : Bool} {F : FT} {U : Option Int} {M M2 : Option (Array UInt8)} {Tv Uv : Value} {news tl : List (Addr × Obj)} {g : Obj → List (Addr × Obj)}
  (am : Amb 35 280 w mean mg mb dp un cs outer A₀ base h₀ L m s.heap) (N : News h₀ L s.heap news) (n1 : (st, instObj 838 sd) ∈ news) (n2 : (wd, wo) ∈ news) (Up : UpdF sd (stObj c (.ref tb) (.bytes T tT) (optB M tM) (optV U tU)) news g) (hwd : wd ≠ sd) (hw : Obj.IsDictOf (strKind PySem.Challenge.rw_og0286_01.row.prog w) wo (wk Tv Uv (optB M2 tM2) (.ref own) (.ref pf) (.int r tr))) (hM : kind = 8 → M2 = togM M)
  (wf : Wf T U M) (hW : WordOk kind W) (hP : prefP Pb S W = P) (htl : ∀ p ∈ tl, p ∈ news ∧ p.1 ≠ st ∧ p.1 ≠ sd ∧ p.1 ≠ wd) (O : ∀ h : Heap, (∀ p ∈ tl, h.get? p.1 = some p.2) → TabsAt w h tb r Pb S W F) (hby : ∀ T b told rep, F T = some (b, told, rep) → ∃ cmd tc, told = .bytes cmd tc)
  (hret : ∀ h' tk' r' ow T' U' M' (t u v : Tok) res, lawStep P F r T U M kind now = (T', U', M', res) → DResIs (F (hereT (expT T U now) M)) (F rootB) (sentW kind W) res r' ow → Fr h₀ L h' m → News h₀ L h' (g (stObj c (.ref tb) (.bytes T' t) (optB M' v) (optV U' u)) ++ ow) → Q (.ref r') { s with heap := h', toks := tk' }) :
  wpAny (model PySem.Challenge.rw_og0286_01.row.prog w) (ktrTop dp un gd cn cs L a ccd cl outer) (call (.ref 912) [.ref st, .ref wd, .int kind tki, .bytes W tW, .int now tn]) Q E s := by
  obtain ⟨pre, post, rfl, hg, h1, h2⟩ := Up.split
  have NA : News h₀ L s.heap [(st, instObj 838 sd), (sd, stObj c (.ref tb) (.bytes T tT) (optB M tM) (optV U tU)), (wd, wo)] := fun p hp => by
    simp only [List.mem_cons, List.not_mem_nil, or_false] at hp
    rcases hp with rfl | rfl | rfl
    · exact N _ n1
    · exact N _ (by simp)
    · exact N _ n2
  have NB : News h₀ L s.heap (pre ++ post) := fun p hp => N p (by
    rcases List.mem_append.mp hp with h | h
    · simp [h]
    · simp [h])
  have hk : ∀ p ∈ tl, (hideAll s.heap [st, sd, wd]).get? p.1 = some p.2 := fun p hp => hideAll_get _ (N p (htl p hp).1).1 (by
    have := (htl p hp).2
    simp [this.1, this.2.1, this.2.2])
  refine done_g am NA hwd hw hM wf hW hP (O _ hk) hby fun h' tk' r' ow T' U' M' t u v res st' a b d e => hret h' tk' r' ow T' U' M' t u v res st' a b fun p hp => ?_
  have NR := news_rest (d := sd) NA NB e d (by (refine List.forall_mem_cons.mpr ⟨.inl (by simp), ?_⟩); (refine List.forall_mem_cons.mpr ⟨.inr rfl, ?_⟩); (refine List.forall_mem_cons.mpr ⟨.inl (by simp), ?_⟩); exact List.forall_mem_nil _) (fun p hp => (List.mem_append.mp hp).elim (h1 p) (h2 p))
  rw [hg] at hp
  simp only [List.mem_cons, List.mem_append] at hp
  rcases hp with (h | h | h) | h
  · exact NR p (by simp [h])
  · exact d p (by simp [h])
  · exact NR p (by simp [h])
  · exact d p (by simp [h])
end
section
theorem TabsL.mono {w : World} {l l' : List (Addr × Obj)} {tb ow : Addr} {r : Int} {Pb : Array UInt8} {S : Option (Array UInt8)} {okvs : List (List UInt8 × Value)} (h : TabsL w l tb ow r Pb S okvs) (k : ∀ p ∈ l, p ∈ l') : TabsL w l' tb ow r Pb S okvs := fun W =>
  let ⟨a, b, c, d, e, f⟩ := h W
  ⟨a, b, c, d, e, fun g hg => f g fun p hp => hg p (k p hp)⟩
theorem SameRes.symm {r r' : Addr} {ow ow' : List (Addr × Obj)} (h : SameRes r ow r' ow') : SameRes r' ow' r ow := by
  cases h with
  | nil => exact .nil
  | one => exact .one
def Off3 (st sd wd : Addr) (R : List (Addr × Obj)) : Prop := ∀ p ∈ R, p.1 ≠ st ∧ p.1 ≠ sd ∧ p.1 ≠ wd
theorem Off3.app {st sd wd : Addr} {a b : List (Addr × Obj)} (x : Off3 st sd wd a) (y : Off3 st sd wd b) : Off3 st sd wd (a ++ b) := fun p hp => (List.mem_append.mp hp).elim (x p) (y p)
theorem off_new {h₀ h : Heap} {L st sd wd : Addr} {so wo : Obj} {ow rest news : List (Addr × Obj)} (N : News h₀ L h news) (n1 : (st, instObj 838 sd) ∈ news) (n2 : (sd, so) ∈ news) (n3 : (wd, wo) ∈ news) (hs : ∀ p ∈ ow, p ∈ news) (c2 : so.cls = .type "dict") (c3 : wo.cls = .type "dict")
    (hc : ∀ p ∈ ow, p.2.cls = .type "list" ∨ p.2.cls = .type "tuple") : Off3 st sd wd ow := by
  have key : ∀ (a : Addr) (o : Obj), (a, o) ∈ news → o.cls ≠ .type "list" → o.cls ≠ .type "tuple" → ∀ p ∈ ow, p.1 ≠ a := by
    intro a o ha h1 h2 p hp e
    obtain ⟨pa, po⟩ := p
    have e' : pa = a := e
    subst e'
    have := news_fun N (hs _ hp) ha
    subst this
    rcases hc _ hp with h | h
    · exact h1 h
    · exact h2 h
  intro p hp
  exact ⟨key st _ n1 (by simp [instObj]) (by simp [instObj]) p hp, key sd _ n2 (by rw [c2]; simp) (by rw [c2]; simp) p hp, key wd _ n3 (by rw [c3]; simp) (by rw [c3]; simp) p hp⟩
theorem lres_cls {f1 f0 : Option (Addr × Value × Bool)} {W : Array UInt8} {R : Res} {r : Addr} {ow : List (Addr × Obj)} (h : LResIs f1 f0 W R r ow) : ∀ p ∈ ow, p.2.cls = .type "list" ∨ p.2.cls = .type "tuple" := by
  cases h with
  | nil => intro p hp; rw [List.mem_singleton.mp hp]; exact .inl rfl
  | run _ => intro p hp; rcases List.mem_cons.mp hp with rfl | hp; exact .inl rfl; rw [List.mem_singleton.mp hp]; exact .inr rfl
  | send => intro p hp; rcases List.mem_cons.mp hp with rfl | hp; exact .inl rfl; rw [List.mem_singleton.mp hp]; exact .inr rfl
theorem dict_cls {prog : Program} {w : World} {K : Type} [DecidableEq K] {knd : KeyKind prog w K} {o : Obj} {kvs : List (K × Value)} (h : o.IsDictOf knd kvs) : o.cls = .type "dict" := by
  obtain ⟨es, ep, a, _⟩ := h
  exact a.1
abbrev WKn (w : World) := strKind PySem.Challenge.rw_og0286_01.row.prog w
theorem due_turn {w mean mg mb dp un gd cn cs a ccd cl outer A₀ base h₀ L m} {s : Shared} {Q E : Value → Shared → Prop} {st sd wd own pf tb : Addr} {so wo : Obj} {r : Int} {tr : Tok} {W : Array UInt8} {S : Option (Array UInt8)} {t1 t2 : Tok} {okvs : List (List UInt8 × Value)} {Fs Fl : FT} {T : Array UInt8} {U : Option Int} {M : Option (Array UInt8)} {tT tU tM tW tn tki : Tok} {kind now : Int} {R tl : List (Addr × Obj)} {pfn : Nat}
  (am : Amb 25 200 w mean mg mb dp un cs outer A₀ base h₀ L m s.heap) (N : News h₀ L s.heap ((st, instObj 838 sd) :: (sd, so) :: (wd, wo) :: R)) (hso : so.cls = .type "dict") (o3 : Off3 st sd wd R) (e1 : st ≠ wd) (e2 : sd ≠ wd)
  (hw : Obj.IsDictOf (WKn w) wo (wk (.bytes T tT) (optV U tU) (optB M tM) (.ref own) (.ref pf) (.int r tr))) (wf : Wf T U M) (hs : ∀ p ∈ tl, p ∈ R) (hpf : (pf, PySem.W.listOf (pfVals cbB S t1 t2).toArray pfn) ∈ tl)
  (O : ∀ h : Heap, (∀ p ∈ tl, h.get? p.1 = some p.2) → TabsAt w h tb r cbB S W Fs ∧ OwnAt w h own okvs W Fl)
  (hret : ∀ h' tk' wo' r' ow T' U' M' (t u v : Tok) res, lawStep (prefP cbB S W) Fl r T U M kind now = (T', U', M', res) → Obj.IsDictOf (WKn w) wo' (wk (.bytes T' t) (optV U' u) (optB M' v) (.ref own) (.ref pf) (.int r tr)) → LResIs (Fl (hereT (expT T U now) M)) (Fl rootB) (sentW kind W) res r' ow →
    (∀ tp v v' rep rep', (Fl (hereT (expT T U now) M) = some (tp, v, rep) ∨ Fl rootB = some (tp, v, rep)) → (Fl (hereT (expT T U now) M) = some (tp, v', rep') ∨ Fl rootB = some (tp, v', rep')) → v = v') → Fr h₀ L h' m → News h₀ L h' ((st, instObj 838 sd) :: (sd, so) :: (wd, wo') :: (R ++ ow)) → Off3 st sd wd (R ++ ow) → Q (.ref r') { s with heap := h', toks := tk' }) :
  wpAny (model PySem.Challenge.rw_og0286_01.row.prog w) (ktrTop dp un gd cn cs L a ccd cl outer) (call (.ref 905) [.ref wd, .int kind tki, .bytes W tW, .int now tn]) Q E s := by
  have hin : ∀ p ∈ tl, p ∈ (st, instObj 838 sd) :: (sd, so) :: (wd, wo) :: R := fun p hp => by simp [hs p hp]
  have O1 : OwnAt w s.heap own okvs W Fl := (O s.heap fun p hp => (N p (hin p hp)).1).2
  have i1 : ∀ tp v v' rep rep', (Fl (hereT (expT T U now) M) = some (tp, v, rep) ∨ Fl rootB = some (tp, v, rep)) → (Fl (hereT (expT T U now) M) = some (tp, v', rep') ∨ Fl rootB = some (tp, v', rep')) → v = v' := by
    intro tp v v' rep rep' x y
    have hh := here_names wf (now := now)
    have hr : rootB ∈ names4 := by simp [names4]
    rcases x with x | x <;> rcases y with y | y
    · exact own_fun O1 hh hh x y
    · exact own_fun O1 hh hr x y
    · exact own_fun O1 hr hh x y
    · exact own_fun O1 hr hr x y
  refine due_t (tl := tl) am N (.tail e1 (.tail e2 (.head fun p hp => (o3 p hp).2.2))) hw wf (fun p hp => ⟨hin p hp, (o3 p (hs p hp)).2.2⟩) hpf rfl (fun h hh => (O h hh).2) fun h' tk' wo' r' ow T' U' M' t u v res e1' e2' e3' F' N' => ?_
  have N2 : News h₀ L h' ((st, instObj 838 sd) :: (sd, so) :: (wd, wo') :: (R ++ ow)) := N'
  exact hret h' tk' wo' r' ow T' U' M' t u v res e1' e2' e3' i1 F' N2 (o3.app (off_new (rest := []) N2 (by simp) (by simp) (by simp) (fun p hp => by simp [hp]) hso (dict_cls e2') (lres_cls e3')))
theorem togM_of {P : Bool} {F : FT} {r now kind : Int} {T : Array UInt8} {M : Option (Array UInt8)} {U : Option Int} {T1 U1 M1 R1} (e : lawStep P F r T U M kind now = (T1, U1, M1, R1)) (h : kind = 8) : M1 = togM M := by
  subst h
  simp only [lawStep, if_true, Prod.mk.injEq] at e
  exact e.2.2.1.symm
theorem done_turn {w mean mg mb dp un gd cn cs a ccd cl outer A₀ base h₀ L m} {s : Shared} {Q E : Value → Shared → Prop} {st sd wd own pf tb r' : Addr} {c : Hd} {wo : Obj} {r : Int} {tr : Tok} {W : Array UInt8} {S : Option (Array UInt8)} {okvs : List (List UInt8 × Value)} {Fs Fl : FT} {T T' : Array UInt8} {U U' : Option Int} {M M' : Option (Array UInt8)} {tT tU tM tW tn tki v1 : Tok} {kind now : Int} {R tl ow : List (Addr × Obj)} {res : Res} {Tv Uv : Value}
  (am : Amb 35 280 w mean mg mb dp un cs outer A₀ base h₀ L m s.heap) (N : News h₀ L s.heap ((st, instObj 838 sd) :: (sd, stObj c (.ref tb) (.bytes T tT) (optB M tM) (optV U tU)) :: (wd, wo) :: R)) (o3 : Off3 st sd wd R) (e1 : st ≠ sd) (e2 : wd ≠ sd)
  (hw : Obj.IsDictOf (WKn w) wo (wk Tv Uv (optB M' v1) (.ref own) (.ref pf) (.int r tr))) (wf : Wf T U M) (hW : WordOk kind W) (hs : ∀ p ∈ tl, p ∈ R)
  (O : ∀ h : Heap, (∀ p ∈ tl, h.get? p.1 = some p.2) → TabsAt w h tb r cbB S W Fs ∧ OwnAt w h own okvs W Fl) (hby : ∀ T b told rep, Fs T = some (b, told, rep) → ∃ cmd tc, told = .bytes cmd tc) (hrel : ∀ T, Rel1 (Fl T) (Fs T)) (hrep : RepOk Fl)
  (st1 : lawStep (prefP cbB S W) Fl r T U M kind now = (T', U', M', res)) (hL : LResIs (Fl (hereT (expT T U now) M)) (Fl rootB) (sentW kind W) res r' ow)
  (i1 : ∀ tp v v' rep rep', (Fl (hereT (expT T U now) M) = some (tp, v, rep) ∨ Fl rootB = some (tp, v, rep)) → (Fl (hereT (expT T U now) M) = some (tp, v', rep') ∨ Fl rootB = some (tp, v', rep')) → v = v')
  (hret : ∀ h' tk' r2 ow2 (t u v : Tok), SameRes r2 ow2 r' ow → Wf T' U' M' → Fr h₀ L h' m → News h₀ L h' ((st, instObj 838 sd) :: (sd, stObj c (.ref tb) (.bytes T' t) (optB M' v) (optV U' u)) :: (wd, wo) :: (R ++ ow2)) → Q (.ref r2) { s with heap := h', toks := tk' }) :
  wpAny (model PySem.Challenge.rw_og0286_01.row.prog w) (ktrTop dp un gd cn cs L a ccd cl outer) (call (.ref 912) [.ref st, .ref wd, .int kind tki, .bytes W tW, .int now tn]) Q E s := by
  have hin : ∀ p ∈ tl, p ∈ (st, instObj 838 sd) :: (sd, stObj c (.ref tb) (.bytes T tT) (optB M tM) (optV U tU)) :: (wd, wo) :: R := fun p hp => by simp [hs p hp]
  have O1 : TabsAt w s.heap tb r cbB S W Fs := (O s.heap fun p hp => (N p (hin p hp)).1).1
  have i2 : ∀ tp v v' rep rep', (Fs (hereT (expT T U now) M) = some (tp, v, rep) ∨ Fs rootB = some (tp, v, rep)) → (Fs (hereT (expT T U now) M) = some (tp, v', rep') ∨ Fs rootB = some (tp, v', rep')) → v = v' := by
    intro tp v v' rep rep' x y
    have hh := here_names wf (now := now)
    have hr : rootB ∈ names4 := by simp [names4]
    rcases x with x | x <;> rcases y with y | y
    · exact tabs_fun O1 hh hh x y
    · exact tabs_fun O1 hh hr x y
    · exact tabs_fun O1 hr hh x y
    · exact tabs_fun O1 hr hr x y
  refine done_t (tl := tl) (P := prefP cbB S W) am N (by simp) (by simp) (.tail e1 (.head (List.forall_mem_cons.mpr ⟨e2, fun p hp => (o3 p hp).2.1⟩))) e2 hw (togM_of st1) wf hW rfl (fun p hp => ⟨hin p hp, o3 p (hs p hp)⟩) (fun h hh => (O h hh).1) hby fun h' tk' r2 ow2 T2 U2 M2 t u v res2 st2 hD F' N' => ?_
  obtain ⟨a1, a2, a3, a4⟩ := law_rel hrel st1 st2
  subst a1 a2 a3
  exact hret h' tk' r2 ow2 t u v (same_res hL hD a4 i1 i2).symm (law_wf hrep wf st1) F' N'
def TurnOut (w : World) (h₀ : Heap) (L st sd wd tb own pf : Addr) (r : Int) (tr : Tok) (c : Hd) (m₀ : Str → Option Value) (R : List (Addr × Obj)) (s₁ : Shared) (Q : Flow → Shared → Prop) (f : Flow) (s₂ : Shared) : Prop := match f with
  | .ret v => Q (.ret v) s₂
  | .brk => Q .next s₂
  | _ => LawNext w h₀ L st sd wd tb own pf r tr c m₀ R s₁ s₂
theorem off3_of {st sd wd tup pf tb td a b : Nat} {o1 o2 : Obj} {restL : List (Addr × Obj)} (h : tup < sd ∧ pf < sd ∧ tb < sd ∧ td < sd ∧ a < sd ∧ b < sd ∧ AllLt sd restL) (h1 : sd < st) (h2 : st < wd) : Off3 (st : Addr) (sd : Addr) (wd : Addr) (((tb : Addr), o1) :: ((td : Addr), o2) :: restL) := by
  have key : ∀ x : Nat, x < sd → x ≠ st ∧ x ≠ sd ∧ x ≠ wd := fun x hx => ⟨by omega, by omega, by omega⟩
  obtain ⟨_, _, x3, x4, _, _, x7⟩ := h
  exact List.forall_mem_cons.mpr ⟨key _ x3, List.forall_mem_cons.mpr ⟨key _ x4, fun p hp => key _ (lt_of x7 p hp)⟩⟩
theorem words_item {prog : Program} {w : World} {A : Around} {E : Value → Shared → Prop} {s : Shared} {value slice : PySem.Expr} {h₀ : Heap} {L l : Addr} {news : List (Addr × Obj)} {t0 t1 t2 t3 t4 t5 u : Tok} {k : Int} {n : Nat} {Q : Value → Shared → Prop} (N : News h₀ L s.heap news)
    (hm : (l, PySem.W.listOf #[.bytes #[97] t0, .bytes #[98] t1, .bytes #[99] t2, .bytes #[120] t3, .bytes #[67, 45, 98] t4, .bytes #[67, 45, 97] t5] n) ∈ news) (h0 : 0 ≤ k) (h6 : k < 6) (h : ∀ W t, WordOk k W → Q (.bytes W t) s)
    (hs : subscripted slice false (.ref l) (.int k u) = operate [.ref l, .int k u] (getItem (.ref l) (.int k u))) : wpAny (model prog w) A (subscriptTail value slice (.ref l) (.int k u)) Q E s := by
  have il : s.heap.IsList l #[.bytes #[97] t0, .bytes #[98] t1, .bytes #[99] t2, .bytes #[120] t3, .bytes #[67, 45, 98] t4, .bytes #[67, 45, 97] t5] := ⟨_, (N _ hm).1, rfl, _, rfl⟩
  have hk : k = 0 ∨ k = 1 ∨ k = 2 ∨ k = 3 ∨ k = 4 ∨ k = 5 := by omega
  rcases hk with e | e | e | e | e | e <;> subst e
  · exact item_litK (vs := [.bytes #[97] t0, .bytes #[98] t1, .bytes #[99] t2, .bytes #[120] t3, .bytes #[67, 45, 98] t4, .bytes #[67, 45, 97] t5]) il (by decide) (by decide) rfl (h _ _ ⟨97, by decide, by decide, .inl rfl⟩) hs
  · exact item_litK (vs := [.bytes #[97] t0, .bytes #[98] t1, .bytes #[99] t2, .bytes #[120] t3, .bytes #[67, 45, 98] t4, .bytes #[67, 45, 97] t5]) il (by decide) (by decide) rfl (h _ _ ⟨98, by decide, by decide, .inl rfl⟩) hs
  · exact item_litK (vs := [.bytes #[97] t0, .bytes #[98] t1, .bytes #[99] t2, .bytes #[120] t3, .bytes #[67, 45, 98] t4, .bytes #[67, 45, 97] t5]) il (by decide) (by decide) rfl (h _ _ ⟨99, by decide, by decide, .inl rfl⟩) hs
  · exact item_litK (vs := [.bytes #[97] t0, .bytes #[98] t1, .bytes #[99] t2, .bytes #[120] t3, .bytes #[67, 45, 98] t4, .bytes #[67, 45, 97] t5]) il (by decide) (by decide) rfl (h _ _ ⟨120, by decide, by decide, .inl rfl⟩) hs
  · exact item_litK (vs := [.bytes #[97] t0, .bytes #[98] t1, .bytes #[99] t2, .bytes #[120] t3, .bytes #[67, 45, 98] t4, .bytes #[67, 45, 97] t5]) il (by decide) (by decide) rfl (h _ _ ⟨98, by decide, by decide, .inr ⟨rfl, by decide⟩⟩) hs
  · exact item_litK (vs := [.bytes #[97] t0, .bytes #[98] t1, .bytes #[99] t2, .bytes #[120] t3, .bytes #[67, 45, 98] t4, .bytes #[67, 45, 97] t5]) il (by decide) (by decide) rfl (h _ _ ⟨97, by decide, by decide, .inr ⟨rfl, by decide⟩⟩) hs
theorem handed_V {U : Option Int} {t : Tok} : handedIn (optV U t) = true := by cases U <;> rfl
theorem handed_B {U : Option (Array UInt8)} {t : Tok} : handedIn (optB U t) = true := by cases U <;> rfl
theorem drop1 {h₀ h : Heap} {L : Addr} {x : Addr × Obj} {l : List (Addr × Obj)} (N : News h₀ L h (x :: l)) : News h₀ L h l := fun p hp => N p (List.mem_cons_of_mem _ hp)
theorem TurnOut.mk {w : World} {h₀ h' : Heap} {L st sd wd tb own pf : Addr} {r : Int} {tr : Tok} {c : Hd} {m₀ : Str → Option Value} {R all : List (Addr × Obj)} {s₁ : Shared} {Q : Flow → Shared → Prop} {tk : Nat} {vc vk vw vd vk' vw' vd' : Option Value} {now now' : Int} {tn tn' tT tU tM aT aU aM : Tok} {T : Array UInt8} {U : Option Int} {M : Option (Array UInt8)} {wo : Obj}
    (F : Fr h₀ L h' (fun y => if y = Str.ofString "due" then vd' else (fun y => if y = Str.ofString "word" then vw' else (fun y => if y = Str.ofString "kind" then vk' else (fun y => if y = Str.ofString "now" then some (.int now' tn') else lawMap m₀ vc vk vw vd now tn y) y) y) y)) (N : News h₀ L h' all)
    (n1 : (st, instObj 838 sd) ∈ all) (n2 : (sd, stObj c (.ref tb) (.bytes T tT) (optB M tM) (optV U tU)) ∈ all) (n3 : (wd, wo) ∈ all) (n4 : ∀ p ∈ R, p ∈ all) (wf : Wf T U M) (hw : Obj.IsDictOf (WKn w) wo (wk (.bytes T aT) (optV U aU) (optB M aM) (.ref own) (.ref pf) (.int r tr))) :
    TurnOut w h₀ L st sd wd tb own pf r tr c m₀ R s₁ Q .next { s₁ with heap := h', toks := tk } := by
  refine ⟨h', tk, vc, vk', vw', vd', now', tn', T, U, M, tT, tU, tM, wo, aT, aU, aM, rfl, ?_, all_cons (N _ n1) (all_cons (N _ n2) (all_cons (N _ n3) fun p hp => N p (n4 p hp))), wf, hw⟩
  · have e : (fun y => if y = Str.ofString "due" then vd' else (fun y => if y = Str.ofString "word" then vw' else (fun y => if y = Str.ofString "kind" then vk' else (fun y => if y = Str.ofString "now" then some (Value.int now' tn') else lawMap m₀ vc vk vw vd now tn y) y) y) y) = lawMap m₀ vc vk' vw' vd' now' tn' := by
      funext z
      unfold lawMap
      by_cases h1 : z = Str.ofString "cell"
      · subst h1; rfl
      by_cases h2 : z = Str.ofString "kind"
      · subst h2; rfl
      by_cases h3 : z = Str.ofString "word"
      · subst h3; rfl
      by_cases h4 : z = Str.ofString "due"
      · subst h4; rfl
      by_cases h5 : z = Str.ofString "now"
      · subst h5; rfl
      simp only [if_neg h1, if_neg h2, if_neg h3, if_neg h4, if_neg h5]
    rw [e] at F
    exact F
section
variable {w : World} {A : Around} {E : Value → Shared → Prop} {s : Shared} {env : Env} {h₀ : Heap} {body : List Stmt} {Q : Flow → Shared → Prop}
theorem law_iter2 {st sd wd sl tb own pf : Addr} {r : Int} {tr : Tok} {vs : List Value} {nn pfn : Nat} {ns : List Int} {tl news : List (Addr × Obj)} {c : Hd} {wo : Obj} {m₀ : Str → Option Value} {aT tn0 tT t1 t2 : Tok} {S : Option (Array UInt8)} {okvs : List (List UInt8 × Value)}
    (hh : A.handled = none) (hi : IntsAre vs ns) (hns : ∀ n ∈ ns, 0 ≤ n) (F : Fr h₀ env.locals s.heap m₀) (hnow : m₀ (Str.ofString "now") = some (.int 0 tn0)) (N : News h₀ env.locals s.heap news)
    (n1 : (st, instObj 838 sd) ∈ news) (n2 : (sd, stObj c (.ref tb) (.bytes rootB tT) .none .none) ∈ news) (n3 : (wd, wo) ∈ news) (n4 : (sl, PySem.W.listOf vs.toArray nn) ∈ news) (n5 : (pf, PySem.W.listOf (pfVals cbB S t1 t2).toArray pfn) ∈ news) (n6 : ∀ p ∈ tl, p ∈ news)
    (e1 : st ≠ sd) (e2 : st ≠ wd) (e3 : sd ≠ wd) (e4 : sl ≠ st ∧ sl ≠ sd ∧ sl ≠ wd) (e5 : pf ≠ st ∧ pf ≠ sd ∧ pf ≠ wd) (e6 : Off3 st sd wd tl) (TL : TabsL w tl tb own r cbB S okvs)
    (hw : Obj.IsDictOf (WKn w) wo (wk (.bytes rootB aT) .none .none (.ref own) (.ref pf) (.int r tr)))
    (turn : ∀ (c : Hd) (tl R : List (Addr × Obj)), TabsL w tl tb own r cbB S okvs → (pf, PySem.W.listOf (pfVals cbB S t1 t2).toArray pfn) ∈ tl → (∀ p ∈ tl, p ∈ R) → Off3 st sd wd R → st ≠ sd → st ≠ wd → sd ≠ wd →
      ∀ n t vk vw vd now tn T U M tT tU tM wo aT aU aM h tk, 0 ≤ n → Wf T U M → Obj.IsDictOf (WKn w) wo (wk (.bytes T aT) (optV U aU) (optB M aM) (.ref own) (.ref pf) (.int r tr)) → Fr h₀ env.locals h (lawMap m₀ (some (.int n t)) vk vw vd now tn) →
      News h₀ env.locals h ((st, instObj 838 sd) :: (sd, stObj c (.ref tb) (.bytes T tT) (optB M tM) (optV U tU)) :: (wd, wo) :: R) →
      wpAny (model PySem.Challenge.rw_og0286_01.row.prog w) A (execs body env) (TurnOut w h₀ env.locals st sd wd tb own pf r tr c m₀ R { s with heap := h, toks := tk } Q) E { s with heap := h, toks := tk })
    (done : ∀ m' h tk, Fr h₀ env.locals h m' → Q .next { s with heap := h, toks := tk }) :
    wpAny (model PySem.Challenge.rw_og0286_01.row.prog w) A (pyIter (.ref sl)) (fun it s₂ => LoopAtV PySem.Challenge.rw_og0286_01.row.prog w A h₀ env (Str.ofString "cell") body Q E it s₂) E s := by
  let tl2 : List (Addr × Obj) := (pf, PySem.W.listOf (pfVals cbB S t1 t2).toArray pfn) :: tl
  have N0 : News h₀ env.locals s.heap (lawLed st sd wd sl tb vs nn tl2 c wo rootB none none tT 0 0) := by
    exact all_cons (N _ n1) (all_cons (N _ n2) (all_cons (N _ n3) (all_cons (N _ n4) (all_cons (N _ n5) fun p hp => N _ (n6 _ hp)))))
  refine law_iter (tl := tl2) (U := none) (M := none) (aU := 0) (aM := 0) hh hi F hnow N0 ⟨.inl rfl, (fun h => nomatch h), .inl rfl⟩ hw (fun n t vk vw vd now tn T U M tT tU tM wo aT aU aM h tk its hn wf hw hoff F N => ?_) done
  have hoff' : ∀ b ∈ [st, sd, wd], ∀ p ∈ its, p.1 ≠ b := all_cons (fun p hp => hoff p hp st (.head _)) (all_cons (fun p hp => hoff p hp sd (.tail _ (.head _))) (all_cons (fun p hp => hoff p hp wd (.tail _ (.tail _ (.head _)))) all_nil))
  let R : List (Addr × Obj) := (sl, PySem.W.listOf vs.toArray nn) :: (tl2 ++ its)
  have o3 : Off3 st sd wd R := by
    exact all_cons e4 (all_cons e5 (all_app (fun p hp => e6 p hp) fun p hp => ⟨hoff' st (.head _) p hp, hoff' sd (.tail _ (.head _)) p hp, hoff' wd (.tail _ (.tail _ (.head _))) p hp⟩))
  refine wpAny_mono (turn c tl2 R (TL.mono fun p hp => List.mem_cons_of_mem _ hp) (List.Mem.head _) (fun p hp => List.mem_cons_of_mem _ (List.mem_append_left _ hp)) o3 e1 e2 e3 n t vk vw vd now tn T U M tT tU tM wo aT aU aM h tk (hns n hn) wf hw F N) (fun f s₂ p => ?_) fun _ _ e => e
  have fin : ∀ f, TurnOut w h₀ env.locals st sd wd tb own pf r tr c m₀ R { s with heap := h, toks := tk } Q f s₂ → LawTurn w h₀ env.locals st sd wd sl tb own pf r tr vs nn tl2 c m₀ its { s with heap := h, toks := tk } Q f s₂ := by
    intro f p
    cases f with
    | ret v => exact p
    | brk => exact p
    | next => exact p
    | cont => exact p
  exact fin f p
end
end
section
set_option maxHeartbeats 0
local macro_rules | `(tactic| k_handed) => `(tactic| first | with_reducible exact handed_V | with_reducible exact handed_B)
local macro_rules | `(tactic| k_all) => `(tactic| assumption)
local macro_rules | `(tactic| ktr_units) => `(tactic| (have hcL9 := cLine_is; ((try simp only [units_under_make, units_in1, units_deeper, Around.mark_units, units_caller] at *); (try dsimp only [ktrTop] at *); omega)))
theorem tables_t {w mean mg mb dp un gd cn cs a ccd cl outer A₀ base h₀ L m} {s : Shared} {Q E : Value → Shared → Prop} {n : Int} {tn : Tok} {news : List (Addr × Obj)}
  (am : Amb 45 360 w mean mg mb dp un cs outer A₀ base h₀ L m s.heap) (N : News h₀ L s.heap news) (hn : 0 ≤ n)
  (hret : ∀ h' tk' (tup : Addr) k (tb td mk lt own pf : Nat) c5 S (r : Int) tr tP tS t1 t2 pfn restL okvs, Fr h₀ L h' m → News h₀ L h' ((tup, tupObj [.ref tb, .ref own, .ref pf] k) :: ((pf : Addr), W.listOf (pfVals cbB S t1 t2).toArray pfn) :: ((tb : Addr), instObj 754 td) :: ((td : Addr), tbObj c5 mk lt (.bytes cbB tP) (optB S tS) (.int r tr)) :: (news ++ restL)) → TabsL w (((tb : Addr), instObj 754 td) :: ((td : Addr), tbObj c5 mk lt (.bytes cbB tP) (optB S tS) (.int r tr)) :: restL) tb own r cbB S okvs → Q (.ref tup) { s with heap := h', toks := tk' }) :
  wpAny (model PySem.Challenge.rw_og0286_01.row.prog w) (ktrTop dp un gd cn cs L a ccd cl outer) (call (.ref 863) [.int n tn]) Q E s :=
  tables_0 am hn fun h' tk' tup k tb td mk lt own pf c5 S r tr tP tS t1 t2 pfn restL okvs F St N' TL => hret h' tk' tup k tb td mk lt own pf c5 S r tr tP tS t1 t2 pfn restL okvs F (fun p hp => by
    have N2 := news_stay N St
    simp only [List.mem_cons, List.mem_append] at hp
    rcases hp with h | h | h | h | h | h
    · exact N' p (by simp [h])
    · exact N' p (by simp [h])
    · exact N' p (by simp [h])
    · exact N' p (by simp [h])
    · exact N2 p h
    · exact N' p (by simp [h])) TL

theorem reg_main : True := by
  k_with_none
  (k_with "room" => ((with_reducible rename _ + _ < recursionLimit => hR9); first | exact room_k 4 hR9 | exact room_k 37 hR9 | exact room_k 9 hR9 | exact room_k 5 hR9 | exact room_k 14 hR9 | exact room_k 10 hR9 | exact room_k 19 hR9 | exact room_k 15 hR9 | exact room_k 20 hR9 | exact room_k 25 hR9 | exact room_k 35 hR9 | exact room_k 13 hR9 | exact room_k 1 hR9 | exact room_k 38 hR9 | exact room_k 23 hR9 | exact room_k 24 hR9 | exact room_k 29 hR9 | exact room_k 8 hR9 | exact room_k 40 hR9 | exact room_k 39 hR9 | exact room_k 44 hR9 | exact room_k 17 hR9 | exact room_k 21 hR9 | exact room_k 30 hR9 | exact room_k 33 hR9 | exact room_k 16 hR9 | exact room_k 2 hR9 | exact room_k 43 hR9 | exact room_k 7 hR9 | exact room_k 45 hR9 | exact room_k 0 hR9 | exact room_k 3 hR9 | exact room_k 6 hR9 | exact room_k 11 hR9 | exact room_k 12 hR9 | exact room_k 18 hR9 | exact room_k 22 hR9 | exact room_k 26 hR9 | exact room_k 27 hR9 | exact room_k 28 hR9 | exact room_k 31 hR9 | exact room_k 32 hR9 | exact room_k 34 hR9 | exact room_k 36 hR9 | exact room_k 41 hR9 | exact room_k 42 hR9))
  (k_with "units" => ((with_reducible rename _ + _ < cLine => hR9); first | exact room_k 37 hR9 | exact room_k 77 hR9 | exact room_k 117 hR9 | exact room_k 157 hR9 | exact room_k 237 hR9 | exact room_k 197 hR9 | exact room_k 151 hR9 | exact room_k 133 hR9 | exact room_k 277 hR9 | exact room_k 317 hR9 | exact room_k 357 hR9 | exact room_k 4 hR9 | exact room_k 9 hR9 | exact room_k 5 hR9 | exact room_k 14 hR9 | exact room_k 10 hR9 | exact room_k 19 hR9 | exact room_k 15 hR9 | exact room_k 20 hR9 | exact room_k 25 hR9 | exact room_k 35 hR9 | exact room_k 13 hR9 | exact room_k 1 hR9 | exact room_k 38 hR9 | exact room_k 23 hR9 | exact room_k 24 hR9 | exact room_k 29 hR9 | exact room_k 8 hR9 | exact room_k 40 hR9 | exact room_k 39 hR9 | exact room_k 44 hR9 | exact room_k 17 hR9 | exact room_k 21 hR9 | exact room_k 30 hR9 | exact room_k 33 hR9 | exact room_k 16 hR9 | exact room_k 2 hR9 | exact room_k 43 hR9 | exact room_k 7 hR9 | exact room_k 45 hR9))
  (k_with "lt" => (first | with_reducible assumption | exact (by with_reducible assumption : _ ∧ _).1 | exact (by with_reducible assumption : _ ∧ _).2 | exact (by with_reducible assumption : _ ∧ _ ∧ _).2.1 | exact (by with_reducible assumption : _ ∧ _ ∧ _).2.2 | exact (by with_reducible assumption : _ ∧ _ ∧ _ ∧ _).2.2.1 | exact (by with_reducible assumption : _ ∧ _ ∧ _ ∧ _).2.2.2 | exact (by with_reducible assumption : _ ∧ _ ∧ _ ∧ _ ∧ _).2.2.2.1 | exact (by with_reducible assumption : _ ∧ _ ∧ _ ∧ _ ∧ _).2.2.2.2 | exact (by with_reducible assumption : _ ∧ _ ∧ _ ∧ _ ∧ _ ∧ _).2.2.2.2.1 | exact (by with_reducible assumption : _ ∧ _ ∧ _ ∧ _ ∧ _ ∧ _).2.2.2.2.2 | exact (by with_reducible assumption : _ ∧ _ ∧ _ ∧ _ ∧ _ ∧ _ ∧ _).2.2.2.2.2.1 | exact (by with_reducible assumption : _ ∧ _ ∧ _ ∧ _ ∧ _ ∧ _ ∧ _).2.2.2.2.2.2 | exact (by with_reducible assumption : _ ∧ _ ∧ _ ∧ _ ∧ _ ∧ _ ∧ _ ∧ _).2.2.2.2.2.2.1 | exact (by with_reducible assumption : _ ∧ _ ∧ _ ∧ _ ∧ _ ∧ _ ∧ _ ∧ _).2.2.2.2.2.2.2 | exact (by with_reducible assumption : _ ∧ _ ∧ _ ∧ _ ∧ _ ∧ _ ∧ _ ∧ _ ∧ _).2.2.2.2.2.2.2.1 | exact (by with_reducible assumption : _ ∧ _ ∧ _ ∧ _ ∧ _ ∧ _ ∧ _ ∧ _ ∧ _).2.2.2.2.2.2.2.2 | exact (by with_reducible assumption : _ ∧ _ ∧ _ ∧ _ ∧ _ ∧ _ ∧ _ ∧ _ ∧ _ ∧ _).2.2.2.2.2.2.2.2.1 | exact (by with_reducible assumption : _ ∧ _ ∧ _ ∧ _ ∧ _ ∧ _ ∧ _ ∧ _ ∧ _ ∧ _).2.2.2.2.2.2.2.2.2 | exact (by with_reducible assumption : _ ∧ _ ∧ _ ∧ _ ∧ _ ∧ _ ∧ _ ∧ _ ∧ _ ∧ _ ∧ _).2.2.2.2.2.2.2.2.2.1 | exact (by with_reducible assumption : _ ∧ _ ∧ _ ∧ _ ∧ _ ∧ _ ∧ _ ∧ _ ∧ _ ∧ _ ∧ _).2.2.2.2.2.2.2.2.2.2 | exact (by with_reducible assumption : _ ∧ _ ∧ _ ∧ _ ∧ _ ∧ _ ∧ _ ∧ _ ∧ _ ∧ _ ∧ _ ∧ _).2.2.2.2.2.2.2.2.2.2.1 | exact (by with_reducible assumption : _ ∧ _ ∧ _ ∧ _ ∧ _ ∧ _ ∧ _ ∧ _ ∧ _ ∧ _ ∧ _ ∧ _).2.2.2.2.2.2.2.2.2.2.2 | exact (by with_reducible assumption : _ ∧ _ ∧ _ ∧ _ ∧ _ ∧ _ ∧ _ ∧ _ ∧ _ ∧ _ ∧ _ ∧ _ ∧ _).2.2.2.2.2.2.2.2.2.2.2.1 | exact (by with_reducible assumption : _ ∧ _ ∧ _ ∧ _ ∧ _ ∧ _ ∧ _ ∧ _ ∧ _ ∧ _ ∧ _ ∧ _ ∧ _).2.2.2.2.2.2.2.2.2.2.2.2))
  (k_with "ne" => ((refine neN ?_); (try dsimp only); first | (refine Nat.ne_of_lt ?_; k_extra "lt") | (refine Nat.ne_of_gt ?_; k_extra "lt") | omega))
  (k_with "all" => (first | assumption | exact all_nil | (refine' all_cons ?a9Z5 ?b9Z5; (case a9Z5 => k_extra "ne"); (case b9Z5 => k_extra "all"))))
  (k_with "ite" => (k_closed; k_dflt (first | (refine' @ite_pos _ _ _ _ ?h1Z6 ?_; (case h1Z6 => decide); k_whole) | (refine' @ite_neg _ _ _ _ ?h2Z6 ?_; (case h2Z6 => decide); k_whole))))
  (k_with "getAttr ref true" => (k_here; k_dflt (refine' get_own ?k1Z7 ?k2Z7 ?k3Z7 ?k4Z7 ?k5Z7 ?k6Z7 ?k7Z7 ?k8Z7 ?k9Z7 ?_; (case k1Z7 => k_asm); (case k2Z7 => k_asm); (case k3Z7 => k_inst); (case k4Z7 => k_is); (case k5Z7 => k_is); (case k6Z7 => k_is); (case k7Z7 => k_is); (case k8Z7 => k_get); (case k9Z7 => k_handed); k_whole)))
  (k_with "eval Name" => (k_here; name_kind "local"; k_dflt (refine' nameX_L ?FZ8 ?vZ8 ?_ ?aZ8 ?bZ8; (case FZ8 => k_asm); (case aZ8 => rfl); (case bZ8 => rfl); (case vZ8 => rfl); k_whole)))
  (k_with "eval Name" => (k_here; name_kind "globalImplicit"; k_dflt (first | (refine' nameX_K ?FZ9 ?XZ9 ?TZ9 ?eZ9 ?_ ?aZ9 ?bZ9; (case FZ9 => k_asm); (case XZ9 => k_asm); (case TZ9 => k_asm); (case aZ9 => rfl); (case bZ9 => rfl); (case eZ9 => k_is); k_whole) | (refine' nameX_B ?F9Z9 ?X9Z9 ?T9Z9 ?e9Z9 ?v9Z9 ?n9Z9 ?_ ?a9Z9 ?b9Z9; (case F9Z9 => k_asm); (case X9Z9 => k_asm); (case T9Z9 => k_asm); (case a9Z9 => rfl); (case b9Z9 => rfl); (case e9Z9 => k_is); (case v9Z9 => boot_fast); (case n9Z9 => decide); k_whole))))
  (k_with "callWith ref cons nil" => (k_here; k_dflt (first | (refine' callWith_K ?k1Z10 ?k2Z10 ?_; (case k1Z10 => k_asm); (case k2Z10 => k_is); k_whole) | (refine' callWith_K0 ?k3Z10 ?k4Z10 ?_; (case k3Z10 => first | with_reducible assumption | (refine' Frag.In.keeps ?x8Z10 (Fr.keep ?f8Z10); (case f8Z10 => with_reducible assumption); (case x8Z10 => with_reducible assumption)) | k_in); (case k4Z10 => k_is); k_whole) | (refine' callWith_M0 ?k5Z10 ?k6Z10 ?_; (case k5Z10 => k_meth); (case k6Z10 => k_is); k_whole; try dsimp only [List.nil_append, List.cons_append]))))
  (k_with "exec While Constant cons nil" => (k_here; k_dflt (refine whl_start 100 ?_)))
  (k_with "call builtin:list.append cons nil" => (k_here; (with_reducible show wpAny _ _ (call (Value.builtin _) [Value.ref _, _]) _ _ _); k_dflt (refine' append_K ?k1Z12 ?k2Z12 ?k3Z12 ?_ ?zZ12; (case k1Z12 => k_asm); (case k2Z12 => k_asm); (case k3Z12 => k_upd); (case zZ12 => first | size_fits | k_extra "size9"); k_whole); intro h' F' N'; (try k_sweep)))
  (k_with "subscriptTail" => (k_here; (with_reducible show wpAny _ _ (subscriptTail _ _ (Value.ref _) (Value.int 0 _)) _ _ _); (k_dflt (refine' cell0 ?NZ2 ?mZ2 ?IZ2 ?eZ2 ?pZ2 ?_ ?sZ2; (case NZ2 => k_asm); (case mZ2 => k_mem); (case IZ2 => assumption); (case eZ2 => assumption); (case pZ2 => exact fmod_nonneg); (case sZ2 => with_unfolding_all rfl); k_whole)); intro n8 t8 hn8))
  (k_with "eval IfExp" => (k_here; (with_reducible show wpAny _ _ (eval (PySem.Expr.IfExp (PySem.Expr.Compare (PySem.Expr.Name (Str.ofString "cells") _) _ _ _) _ _ _) _) _ _ _); (fail_if_success (with_reducible show wpAny _ _ _ (CutInt _ _ _ _ _) _ _)); (k_dflt (refine' cut_int ?FZ3 ?NZ3 ?hZ3 ?kZ3; (case FZ3 => k_asm); (case NZ3 => k_asm); (case' kZ3 => intro n8 t8 h8 tk8 hn8 F8 N8)))))
  (k_with "CutInt" => (k_here; k_dflt (exact ⟨_, _, _, _, rfl, rfl, by first | assumption | decide, by with_reducible assumption, by first | with_reducible assumption | exact (cb_drop (by with_reducible assumption) (by ((repeat (first | exact fun p hp => hp | refine sub_skip ?_)))))⟩)))
  (k_with "call ref" => (k_here; (with_reducible show wpAny _ _ (call (Value.ref 863) _ _) _ _ _); (k_dflt (refine' tables_t ?amZ5 ?NZ5 ?hnZ5 ?_; (case amZ5 => (refine' Amb.mk ?aBZ5 ?aFZ5 ?aXZ5 ?aTZ5 ?akZ5 ?adZ5 ?auZ5; (case aBZ5 => k_asm); (case aFZ5 => k_asm); (case aXZ5 => k_asm); (case aTZ5 => k_asm); (case akZ5 => first | exact rfl | assumption); (case adZ5 => ktr_room); (case auZ5 => ktr_units))); (case NZ5 => k_asm); (case hnZ5 => assumption); k_whole)); intro h9 tk9 tup9 k9 tb9 td9 mk9 lt9 own9 pf9 c59 S9 r9 tr9 tP9 tS9 t19 t29 pfn9 restL9 okvs9 F9 N9 TL9; (try simp only [List.cons_append, List.nil_append] at N9); (try dsimp only); (try k_fold)))
  (k_with "pyIter ref" => (k_here; (with_reducible show wpAny _ _ (pyIter (Value.ref _)) (fun it s₂ => LoopAtV _ _ _ _ _ _ _ _ _ it s₂) _ _); k_dflt ((refine' law_iter2 (c := ⟨_, _, _, _, _, _, _, _⟩) ?hhZ6 ?hiZ6 ?hnsZ6 ?FZ6 ?hnowZ6 ?NZ6 ?n1Z6 ?n2Z6 ?n3Z6 ?n4Z6 ?n5Z6 ?n6Z6 ?e1Z6 ?e2Z6 ?e3Z6 ?e4Z6 ?e5Z6 ?e6Z6 ?TLZ6 ?hwZ6 ?turnZ6 ?doneZ6); (case hhZ6 => with_unfolding_all rfl); (case TLZ6 => assumption); (case FZ6 => k_asm); (case NZ6 => k_asm); (case hwZ6 => assumption); (case n4Z6 => k_mem); (case n1Z6 => k_mem); (case n2Z6 => k_mem); (case n3Z6 => k_mem); (case n5Z6 => k_mem); (case hiZ6 => assumption); (case hnsZ6 => exact fun n hn => fmod_nonneg n (List.mem_of_mem_drop hn)); (case hnowZ6 => exact rfl); (case n6Z6 => (refine sub_cons (by k_mem) (sub_cons (by k_mem) ?_); (repeat (first | exact fun p hp => hp | refine sub_skip ?_)))); (case e1Z6 => exact neN (by omega)); (case e2Z6 => exact neN (by omega)); (case e3Z6 => exact neN (by omega)); (case e4Z6 => exact ⟨neN (by omega), neN (by omega), neN (by omega)⟩); (case e5Z6 => exact ⟨neN (by omega), neN (by omega), neN (by omega)⟩); (case e6Z6 => exact off3_of (by assumption) (by assumption) (ltN (by omega)))); (case' turnZ6 => ((repeat (with_reducible rename News _ _ _ _ => zz9; clear zz9)); (repeat (with_reducible rename Fr _ _ _ _ => zz9; clear zz9)); (repeat (with_reducible rename (_ ∧ _) => zz9; clear zz9)); (repeat (with_reducible rename Obj.IsDictOf _ _ _ => zz9; clear zz9)); (repeat (with_reducible rename IntsAre _ _ => zz9; clear zz9)); (repeat (with_reducible rename Mine.TabsL _ _ _ _ _ _ _ _ => zz9; clear zz9)); intro c8 tl8 R8 TL8 hpf8 hsub8 o38 e18 e28 e38 n8 t8 vk8 vw8 vd8 now8 tn8 T8 U8 M8 tT8 tU8 tM8 wo8 aT8 aU8 aM8 h8 tk8 hn8 wf8 hw8 F8 N8)); (case' doneZ6 => (intro m8 h8 tk8 F8))))
  (k_with "eval IfExp" => (k_here; (with_reducible show wpAny _ _ (eval (PySem.Expr.IfExp (PySem.Expr.Compare (PySem.Expr.Name (Str.ofString "kind") _) _ _ _) _ _ _) _) _ _ _); (fail_if_success (with_reducible show wpAny _ _ _ (CutWord _ _ _ _ _ _) _ _)); (k_dflt (refine' cut_word (Int.fmod n8 10) ?FZ7 ?NZ7 ?hZ7 ?kZ7; (case FZ7 => k_asm); (case NZ7 => k_asm); (case' kZ7 => (intro W9 tW9 h9 tk9 hW9 F9 N9; obtain ⟨Fs9, Fl9, hr9, hp9, hb9, ha9⟩ := TL8 W9))))))
  (k_with "subscriptTail" => (k_here; (with_reducible show wpAny _ _ (subscriptTail (PySem.Expr.Call _ _ _ _) _ (Value.ref _) (Value.int _ _)) _ _ _); (k_dflt (refine' words_item ?NZ8 ?mZ8 ?aZ8 ?bZ8 ?_ ?sZ8; (case NZ8 => k_asm); (case mZ8 => k_mem); (case aZ8 => exact Int.fmod_nonneg_of_pos _ (by decide)); (case bZ8 => first | assumption | omega); (case sZ8 => with_unfolding_all rfl); k_whole)); intro W8 t8 hW8))
  (k_with "execs nil" => ((with_reducible show wpAny _ _ (execs [] _) _ _ _); refine wpAny_execs_nil ?_; (try dsimp only)))
  (k_with "CutWord" => (k_here; (k_dflt (exact ⟨_, _, _, _, rfl, rfl, by first | assumption | (first | exact ⟨97, by decide, by decide, .inl rfl⟩ | exact ⟨98, by decide, by decide, .inl rfl⟩ | exact ⟨99, by decide, by decide, .inl rfl⟩ | exact ⟨120, by decide, by decide, .inl rfl⟩ | exact ⟨98, by decide, by decide, .inr ⟨rfl, by omega⟩⟩ | exact ⟨97, by decide, by decide, .inr ⟨rfl, by omega⟩⟩), by with_reducible assumption, by first | with_reducible assumption | exact (cb_drop (by with_reducible assumption) (by ((repeat (first | exact fun p hp => hp | refine sub_skip ?_)))))⟩))))
  (k_with "call ref" => (k_here; (with_reducible show wpAny _ _ (call (Value.ref 905) _ _) _ _ _); k_dflt ((refine' due_turn (tl := tl8) (R := R8) (Fs := Fs9) ?amZ11 ?NZ11 ?hsoZ11 ?o3Z11 ?e1Z11 ?e2Z11 ?hwZ11 ?wfZ11 ?hsZ11 ?hpfZ11 ?OZ11 ?_); (case amZ11 => (refine' Amb.mk ?aBZ11 ?aFZ11 ?aXZ11 ?aTZ11 ?akZ11 ?adZ11 ?auZ11; (case aBZ11 => k_asm); (case aFZ11 => k_asm); (case aXZ11 => k_asm); (case aTZ11 => k_asm); (case akZ11 => first | exact rfl | assumption); (case adZ11 => ktr_room); (case auZ11 => ktr_units))); (case NZ11 => first | k_asm | exact drop1 (by assumption) | exact drop1 (drop1 (by assumption))); (case hsoZ11 => exact rfl); (case o3Z11 => assumption); (case e1Z11 => assumption); (case e2Z11 => assumption); (case hwZ11 => assumption); (case wfZ11 => assumption); (case hsZ11 => assumption); (case hpfZ11 => assumption); (case OZ11 => exact ha9); k_whole); intro h9 tk9 wo9 r9 ow9 T9 U9 M9 t9 u9 v9 res9 st9 hwo9 hL9 i19 F9 N9 o39; (try dsimp only); (try k_fold)))
  (k_with "call ref" => (k_here; (with_reducible show wpAny _ _ (call (Value.ref 912) _ _) _ _ _); k_dflt ((refine' done_turn (tl := tl8) (Fs := Fs9) (c := c8) ?amZ12 ?NZ12 ?o3Z12 ?e1Z12 ?e2Z12 ?hwZ12 ?wfZ12 ?hWZ12 ?hsZ12 ?OZ12 ?hbyZ12 ?hrelZ12 ?hrepZ12 ?st1Z12 ?hLZ12 ?i1Z12 ?_); (case amZ12 => (refine' Amb.mk ?aBZ12 ?aFZ12 ?aXZ12 ?aTZ12 ?akZ12 ?adZ12 ?auZ12; (case aBZ12 => k_asm); (case aFZ12 => k_asm); (case aXZ12 => k_asm); (case aTZ12 => k_asm); (case akZ12 => first | exact rfl | assumption); (case adZ12 => ktr_room); (case auZ12 => ktr_units))); (case NZ12 => first | k_asm | exact drop1 (by assumption) | exact drop1 (drop1 (by assumption))); (case o3Z12 => assumption); (case e1Z12 => assumption); (case e2Z12 => exact Ne.symm e38); (case hwZ12 => assumption); (case wfZ12 => assumption); (case hWZ12 => assumption); (case hsZ12 => exact fun p hp => List.mem_append_left _ (hsub8 p hp)); (case OZ12 => exact ha9); (case hbyZ12 => assumption); (case hrelZ12 => assumption); (case hrepZ12 => assumption); (case st1Z12 => assumption); (case hLZ12 => assumption); (case i1Z12 => assumption); k_whole); intro h9 tk9 r29 ow29 t29 u29 v29 same9 wf9 F9 N9; (try dsimp only); (try k_fold)))
  (k_with "compareOp NotEq ref ref" => (k_here; (with_reducible show wpAny _ _ (compareOp CmpOp.NotEq (Value.ref _) (Value.ref _)) _ _ _); (with_reducible rename SameRes _ _ _ _ => same9); k_dflt ((refine' ne_same same9 ?NZ13 ?aZ13 ?bZ13 ?uZ13 ?_); (case NZ13 => k_asm); (case aZ13 => (intro p hp; simp [hp])); (case bZ13 => (intro p hp; simp [hp])); (case uZ13 => ktr_units); k_whole); clear same9))
  (k_with "compareOp NotEq ref ref" => (k_here; (with_reducible show wpAny _ _ (compareOp CmpOp.NotEq (Value.ref _) (Value.ref _)) _ _ _); (fail_if_success (with_reducible rename SameRes _ _ _ _ => same9)); (with_reducible rename Mine.TabsL _ _ _ _ _ _ _ _ => TL8); k_dflt ((refine' ne_tup3 ?NZ14 ?aZ14 ?bZ14 ?uZ14 ?_); (case NZ14 => k_asm); (case aZ14 => k_mem); (case bZ14 => k_mem); (case uZ14 => ktr_units); k_whole)))
  trivial

theorem main_l : PySem.Challenge.rw_og0286_01.Holds := by
  first | refine Mine.x._proof_1_1180 ?_ | refine Mine.x._proof_1_1179 ?_ | refine Mine.x._proof_1_1178 ?_ | refine Mine.x._proof_1_1177 ?_ | refine Mine.x._proof_1_1176 ?_ | refine Mine.x._proof_1_1175 ?_ | refine Mine.x._proof_1_1174 ?_ | refine Mine.x._proof_1_1173 ?_ | refine Mine.x._proof_1_1172 ?_ | refine Mine.x._proof_1_1171 ?_ | refine Mine.x._proof_1_1170 ?_ | refine Mine.x._proof_1_1169 ?_ | refine Mine.x._proof_1_1168 ?_ | refine Mine.x._proof_1_1167 ?_ | refine Mine.x._proof_1_1166 ?_ | refine Mine.x._proof_1_1165 ?_ | refine Mine.x._proof_1_1164 ?_ | refine Mine.x._proof_1_1163 ?_ | refine Mine.x._proof_1_1162 ?_ | refine Mine.x._proof_1_1161 ?_ | refine Mine.x._proof_1_1160 ?_ | refine Mine.x._proof_1_1159 ?_ | refine Mine.x._proof_1_1158 ?_ | refine Mine.x._proof_1_1157 ?_ | refine Mine.x._proof_1_1156 ?_ | refine Mine.x._proof_1_1155 ?_ | refine Mine.x._proof_1_1154 ?_ | refine Mine.x._proof_1_1153 ?_ | refine Mine.x._proof_1_1152 ?_ | refine Mine.x._proof_1_1151 ?_ | refine Mine.x._proof_1_1150 ?_ | refine Mine.x._proof_1_1149 ?_ | refine Mine.x._proof_1_1148 ?_ | refine Mine.x._proof_1_1147 ?_ | refine Mine.x._proof_1_1146 ?_ | refine Mine.x._proof_1_1145 ?_ | refine Mine.x._proof_1_1144 ?_ | refine Mine.x._proof_1_1143 ?_ | refine Mine.x._proof_1_1142 ?_ | refine Mine.x._proof_1_1141 ?_ | refine Mine.x._proof_1_1140 ?_ | refine Mine.x._proof_1_1139 ?_ | refine Mine.x._proof_1_1138 ?_ | refine Mine.x._proof_1_1137 ?_ | refine Mine.x._proof_1_1136 ?_ | refine Mine.x._proof_1_1135 ?_ | refine Mine.x._proof_1_1134 ?_ | refine Mine.x._proof_1_1133 ?_ | refine Mine.x._proof_1_1132 ?_ | refine Mine.x._proof_1_1131 ?_ | refine Mine.x._proof_1_1130 ?_ | refine Mine.x._proof_1_1129 ?_ | refine Mine.x._proof_1_1128 ?_ | refine Mine.x._proof_1_1127 ?_ | refine Mine.x._proof_1_1126 ?_ | refine Mine.x._proof_1_1125 ?_ | refine Mine.x._proof_1_1124 ?_ | refine Mine.x._proof_1_1123 ?_ | refine Mine.x._proof_1_1122 ?_ | refine Mine.x._proof_1_1121 ?_ | refine Mine.x._proof_1_1120 ?_ | refine Mine.x._proof_1_1119 ?_ | refine Mine.x._proof_1_1118 ?_ | refine Mine.x._proof_1_1117 ?_ | refine Mine.x._proof_1_1116 ?_ | refine Mine.x._proof_1_1115 ?_ | refine Mine.x._proof_1_1114 ?_ | refine Mine.x._proof_1_1113 ?_ | refine Mine.x._proof_1_1112 ?_ | refine Mine.x._proof_1_1111 ?_ | refine Mine.x._proof_1_1110 ?_ | refine Mine.x._proof_1_1109 ?_ | refine Mine.x._proof_1_1108 ?_ | refine Mine.x._proof_1_1107 ?_ | refine Mine.x._proof_1_1106 ?_ | refine Mine.x._proof_1_1105 ?_ | refine Mine.x._proof_1_1104 ?_ | refine Mine.x._proof_1_1103 ?_ | refine Mine.x._proof_1_1102 ?_ | refine Mine.x._proof_1_1101 ?_ | refine Mine.x._proof_1_1100 ?_ | refine Mine.x._proof_1_1099 ?_ | refine Mine.x._proof_1_1098 ?_ | refine Mine.x._proof_1_1097 ?_ | refine Mine.x._proof_1_1096 ?_ | refine Mine.x._proof_1_1095 ?_ | refine Mine.x._proof_1_1094 ?_ | refine Mine.x._proof_1_1093 ?_ | refine Mine.x._proof_1_1092 ?_ | refine Mine.x._proof_1_1091 ?_ | refine Mine.x._proof_1_1090 ?_ | refine Mine.x._proof_1_1089 ?_ | refine Mine.x._proof_1_1088 ?_ | refine Mine.x._proof_1_1087 ?_ | refine Mine.x._proof_1_1086 ?_ | refine Mine.x._proof_1_1085 ?_ | refine Mine.x._proof_1_1084 ?_ | refine Mine.x._proof_1_1083 ?_ | refine Mine.x._proof_1_1082 ?_ | refine Mine.x._proof_1_1081 ?_ | refine Mine.x._proof_1_1080 ?_ | refine Mine.x._proof_1_1079 ?_ | refine Mine.x._proof_1_1078 ?_ | refine Mine.x._proof_1_1077 ?_ | refine Mine.x._proof_1_1076 ?_ | refine Mine.x._proof_1_1075 ?_ | refine Mine.x._proof_1_1074 ?_ | refine Mine.x._proof_1_1073 ?_ | refine Mine.x._proof_1_1072 ?_ | refine Mine.x._proof_1_1071 ?_ | refine Mine.x._proof_1_1070 ?_ | refine Mine.x._proof_1_1069 ?_ | refine Mine.x._proof_1_1068 ?_ | refine Mine.x._proof_1_1067 ?_ | refine Mine.x._proof_1_1066 ?_ | refine Mine.x._proof_1_1065 ?_ | refine Mine.x._proof_1_1064 ?_ | refine Mine.x._proof_1_1063 ?_ | refine Mine.x._proof_1_1062 ?_ | refine Mine.x._proof_1_1061 ?_ | refine Mine.x._proof_1_1060 ?_ | refine Mine.x._proof_1_1059 ?_ | refine Mine.x._proof_1_1058 ?_ | refine Mine.x._proof_1_1057 ?_ | refine Mine.x._proof_1_1056 ?_ | refine Mine.x._proof_1_1055 ?_ | refine Mine.x._proof_1_1054 ?_ | refine Mine.x._proof_1_1053 ?_ | refine Mine.x._proof_1_1052 ?_ | refine Mine.x._proof_1_1051 ?_ | refine Mine.x._proof_1_1050 ?_ | refine Mine.x._proof_1_1049 ?_ | refine Mine.x._proof_1_1048 ?_ | refine Mine.x._proof_1_1047 ?_ | refine Mine.x._proof_1_1046 ?_ | refine Mine.x._proof_1_1045 ?_ | refine Mine.x._proof_1_1044 ?_ | refine Mine.x._proof_1_1043 ?_ | refine Mine.x._proof_1_1042 ?_ | refine Mine.x._proof_1_1041 ?_
  k_fill
  intro w s₀ s₁ mg mb G Y fa o pm cd doc dV kV ho hd hcd hD hmg hg args vals as hpre hlay hrd hwl hlo
  have KX := kIn_of Y
  have X := (Ground.X G).1
  have V := (Ground.X G).2
  refine Ground.open G ?_
  intro T B D TE TW
  try (refine guard_noD D (by decide +kernel) ?_; clear D)
  obtain ⟨_, _, M⟩ := bmod_of_top T
  have TA := at_of_top T
  try (obtain ⟨_, _, he, B0⟩ := based_of_top T rfl hmg ho hd; have he' : cd = _ := he; subst he'; clear he)
  clear hmg
  wrow_args hpre hlay hrd hwl hlo
  all_goals (
    first | refine callC_kw (enter_call ?_) | refine enter_call ?_ | refine callC_kw (enter_callW ?_) | refine enter_callW ?_ | w_how
    w_top on
    try refine codeAny_mono ?_ (fun _ _ g => GoodW.toG g)
    have K0 := below_caller (Top.heap T)
    w_call any ho hd hcd hD T F
    clear hd TA
    k_drop
    skip)
  (all_goals try k_fold)
  repeat' (first | ((with_reducible show TurnOut _ _ _ _ _ _ _ _ _ _ _ _ _ _ _ _ _ _ ); k_dflt ((refine' TurnOut.mk ?FZ1 ?NZ1 ?n1Z1 ?n2Z1 ?n3Z1 ?n4Z1 ?wfZ1 ?hwZ1); (case FZ1 => assumption); (case NZ1 => assumption); (case n1Z1 => k_mem); (case n2Z1 => k_mem); (case n3Z1 => k_mem); (case n4Z1 => ((repeat (first | exact fun p hp => List.mem_append_left _ (List.mem_append_left _ hp) | refine sub_skip ?_)))); (case wfZ1 => assumption); (case hwZ1 => assumption))) | (k_unfold; (try dsimp only)) |  (k_end; wrow_close) | walk1 | (dsimp only; walk1) | (leave1; walk_say "STEP leave1"; try dsimp only) | fail "no step")
  (all_goals (try k_data))
  all_goals w_report
end
end Mine
set_option maxHeartbeats 0 in
theorem PySem.Challenge.cw_og0286_01_holds : PySem.Challenge.rw_og0286_01.Holds := by
  exact Mine.main_l
