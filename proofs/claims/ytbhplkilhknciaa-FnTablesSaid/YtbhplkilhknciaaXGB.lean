/- The plain programs as native functions (printed by a program). Conditions: none. -/
import Derived.Test.YtbhplkilhknciaaXPB
import Derived.Test.YtbhplkilhknciaaKe
namespace Go.Proofs.YtbhplkilhknciaaC
set_option linter.unusedVariables false
section
variable (R:Nat) (Ds wv mw iC fx jO iD bk b9 b8 k_ gY bT da iE iF db iG lc gn eB my iH mz iI fV cr iJ bD gF fy ci cL cw dV aY cG aH dW aD bE eQ cz gZ ld iK dB ch gG cV jP mA cH bu dx iL cM eR de fX dz fD bK bI aU bL lg df eG:ay)
variable (a0 a1 a2 a3 a4 a5 a6 a7 a8 a9 aQ aV bf bc aW bn bp bw br bA bF bG cf bV cD cO cQ dI di dX eS eH ez ek fY iM j6 g_ eW gy gp kl nq qR F_ zv AK AL AM Ga Gb Og Gc a53 a54 Ly a56 a57 a58 XX Gd Ge Lz Dt AO Oh XY Oi a68 a69 a70 a71 a72 a73 a74 a75 a76 a77 a78 a79 a80 a81 a82 a83 a84 a85 a86 a87 a88 a89 a90 a91 a92 a93 a94 a95 a96 a97 a98 a99 agJ agK agL agM agN agO agP agQ agR agS agT agU agV agW agX agY agZ ag1 ag2 ag3 ag4 ag5 ag6 ag7 ag8 ag9 ag_ aha ahb ahc ahd ahe ahf ahg ahh ahi ahj ahk ahl ahm ahn aho ahp ahq ahr ahs aht ahu ahv ahw ahx ahy ahz ahA ahB ahC ahD ahE ahF ahG ahH ahI ahJ ahK ahL ahM ahN ahO ahP ahQ ahR ahS ahT ahU ahV ahW ahX ahY ahZ ah0 ah1 ah2 ah3 ah4 ah5 ah6 ah7 ah8 ah9 ah_ ah' aia aib aic aid aie aif aih aii aij aik ail aim ain aio aip aiq air ais ait aiu aiv aiw aix aiy aiz aiA aiB aiC aiD aiE aiF aiG aiH aiI aiJ aiK aiL aiM aiN aiO aiP aiQ aiR aiS aiT aiU aiV aiW aiX aiY aiZ ai0 ai1 ai2 ai3 ai4 ai5 ai6 ai7 ai8 ai9 ai_ ai' aja ajb ajc ajd aje ajf ajg ajh aji ajj ajk ajl ajm ajn ajo ajp ajq ajr ajs ajt aju ajv ajw ajx ajy ajz ajA ajB ajC ajD ajE ajF ajG ajH ajI ajJ ajK ajL ajM ajN ajO ajP ajQ ajR ajS ajT ajU ajV ajW ajX ajY ajZ aj0 aj1 aj2 aj3 aj4 aj5 aj6 aj7 aj8 aj9 aj_ aj' aka akb akc akd ake akf akg akh aki akj akk akl akm akn ako akp akq akr aks akt aku akv akw akx aky akz akA akB akC akD akE akF akG akH akI akJ akK akL akM akN akO akP akQ akR akS akT akU akV akW akX akY akZ ak0 ak1 ak2 ak3 ak4 ak5 ak6 ak7 ak8 ak9 ak_ ak' ala alb alc ald ale alf alg alh ali alj alk alm aln alo alp alq alr als:T) (k0 k1 k2 k3 k4 k5 k6 k7 k8 k9 k10 k11 k12 k13 k14 k15 k16 k17 k18 k19:ay) (ts:List T)
def Du:Option (List T):=
 Yn a0 λa1=>
 Yg a1 (ii 1048576) λa2=>
 Yz a2 λa3=>
 some [a3]
theorem XZ:wu.den (pick []) R [] [a0]=Du a0:=(ea (by kernel_rfl)).trans (by kernel_rfl)
theorem X0:tT [a0]=Du a0:=XZ rounds a0
def Oj:Option (List T):=
 pv (.bin .mul) [a2,ii 6364136223846793005] λa3=>
 Ya a3 (ii 1442695040888963407) λa4=>
 pv (.bin .shr) [a4,.c (.int .u64 33)] λa5=>
 pv (.bin .shr) [a4,.c (.int .u64 45)] λa6=>
 pv (.bin .xor) [a5,a6] λa7=>
 pv (.bin .and) [a7,ii 255] λa8=>
 Yn a0 λa9=>
 Yl a1 a9 λaQ=>
 jn (dO λaV bf=>
 Yz bf λbc=>
 some [bc,a0,aV,a4]) λk0=>
 aB aQ (
 Y1 a0 a1 λbf=>
 pv (.wR .i64) [bf] λbc=>
 Ya a8 bc λaW=>
 pv (.bin .and) [aW,ii 255] λbn=>
 Ya a1 (ii 1) λbp=>
 k0 [bp,bn]) (
 k0 [a1,a8])
theorem X1:jA.den (pick []) R [] [a0,a1,a2]=Oj a0 a1 a2:=(ea (by kernel_rfl)).trans (by kernel_rfl)
theorem X2:Fw [a0,a1,a2]=Oj a0 a1 a2:=X1 rounds a0 a1 a2
def Ol:Option (List T):=
 Ym a3 (ii 0) λa4=>
 aB a4 (
 Yz (ii 0) λa5=>
 some [a5,a0,a1,a2]) (
 Ym a3 (ii 256) λa5=>
 aB a5 (
 gM (dW [a0,a1,a2]) λa6 a7 a8 a9=>
 pv (.bin .rem) [a6,a3] λaQ=>
 Yz aQ λaV=>
 some [aV,a7,a8,a9]) (
 gM (dW [a0,a1,a2]) λa6 a7 a8 a9=>
 gM (dW [a7,a8,a9]) λaQ aV bf bc=>
 gM (dW [aV,bf,bc]) λaW bn bp bw=>
 gM (dW [bn,bp,bw]) λbr bA bF bG=>
 pv (.bin .mul) [a6,ii 16777216] λcf=>
 pv (.bin .mul) [aQ,ii 65536] λbV=>
 Ya cf bV λcD=>
 pv (.bin .mul) [aW,ii 256] λcO=>
 Ya cD cO λcQ=>
 Ya cQ br λdI=>
 pv (.bin .rem) [dI,a3] λdi=>
 Yz di λdX=>
 some [dX,bA,bF,bG]))
theorem X3:ie.den (pick [(49,dW)]) R [] [a0,a1,a2,a3]=Ol dW a0 a1 a2 a3:=(ea (by kernel_rfl)).trans (by kernel_rfl)
theorem X4:qQ [a0,a1,a2,a3]=Ol Fw a0 a1 a2 a3:=X3 rounds Fw a0 a1 a2 a3
def X5:Option (List T):=
 Yn a3 λa4=>
 gM (aH [a0,a1,a2,a4]) λa5 a6 a7 a8=>
 Y1 a3 a5 λaQ=>
 Yz aQ λaV=>
 some [aV,a6,a7,a8]
theorem X6:gj.den (pick [(50,aH)]) R [] [a0,a1,a2,a3]=X5 aH a0 a1 a2 a3:=(ea (by kernel_rfl)).trans (by kernel_rfl)
theorem X7:Fx [a0,a1,a2,a3]=X5 qQ a0 a1 a2 a3:=X6 rounds qQ a0 a1 a2 a3
def X8:Option (List T):=
 Yl a0 a4 λa8=>
 aB a8 (
 Yz (bb true) λa9=>
 some [a9]) (
 Ye a0 a4 λa9=>
 aB a9 (
 Yl a1 a5 λaQ=>
 aB aQ (
 Yz (bb true) λaV=>
 some [aV]) (
 Ye a1 a5 λaV=>
 aB aV (
 Yl a3 a7 λbf=>
 Yz bf λbc=>
 some [bc]) (
 Yz (bb false) λbf=>
 some [bf]))) (
 Yz (bb false) λaQ=>
 some [aQ]))
theorem X9:ig.den (pick []) R [] [a0,a1,a2,a3,a4,a5,a6,a7]=X8 a0 a1 a3 a4 a5 a7:=(ea (by kernel_rfl)).trans (by kernel_rfl)
theorem X_:zj [a0,a1,a2,a3,a4,a5,a6,a7]=X8 a0 a1 a3 a4 a5 a7:=X9 rounds a0 a1 a2 a3 a4 a5 a6 a7
def AP:Option (List T):=
 (dO λbf bc=>
 Yn a0 λaW=>
 Yl bc aW λbn=>
 aB bn (
 Y4 a0 bc λbw br bA bF=>
 ca (cz [a1,a2,a3,a4,bw,br,bA,bF]) λbG=>
 jn (dA λcf=>
 Ya bc (ii 1) λbV=>
 k1 [cf,bV]) λk2=>
 aB bG (
 Y4 a0 bc λbV cD cO cQ=>
 pv (.lit 4 [true,true,true,true]) [bV,cD,cO,cQ] λdI=>
 pv (.app true 4) [bf,dI] λdi=>
 k2 [di]) (
 k2 [bf])) (
 some [bf])) ts
def AQ:Option (List T):=
 (dO λa6 a7=>
 Yn a0 λa8=>
 Yl a7 a8 λa9=>
 aB a9 (
 Y4 a0 a7 λaV bf bc aW=>
 ca (cz [aV,bf,bc,aW,a1,a2,a3,a4]) λbn=>
 jn (dA λbp=>
 Ya a7 (ii 1) λbw=>
 k0 [bp,bw]) λk1=>
 aB bn (
 Y4 a0 a7 λbw br bA bF=>
 pv (.lit 4 [true,true,true,true]) [bw,br,bA,bF] λbG=>
 pv (.app true 4) [a6,bG] λcf=>
 k1 [cf]) (
 k1 [a6])) (
 pv (.lit 4 [true,true,true,true]) [a1,a2,a3,a4] λaQ=>
 pv (.app true 4) [a6,aQ] λaV=>
 iter (AP cz a0 a1 a2 a3 a4) R [aV,ii 0])) ts
def Dv:Option (List T):=
 pv (.lit 4 []) [] λa5=>
 iter (AQ R cz a0 a1 a2 a3 a4) R [a5,ii 0]
theorem X':kE.den (pick [(106,cz)]) R [] [a0,a1,a2,a3,a4]=Dv R cz a0 a1 a2 a3 a4:=(ea (by kernel_rfl)).trans (by kernel_rfl)
theorem Yd:Fy [a0,a1,a2,a3,a4]=Dv rounds zj a0 a1 a2 a3 a4:=X' rounds zj a0 a1 a2 a3 a4
def Yf:Option (List T):=
 gM (aH [a0,a1,a2,a3]) λa4 a5 a6 a7=>
 Ye a4 (ii 0) λa8=>
 Yz a8 λa9=>
 some [a9,a5,a6,a7]
theorem Yi:jB.den (pick [(50,aH)]) R [] [a0,a1,a2,a3]=Yf aH a0 a1 a2 a3:=(ea (by kernel_rfl)).trans (by kernel_rfl)
theorem Yj:tU [a0,a1,a2,a3]=Yf qQ a0 a1 a2 a3:=Yi rounds qQ a0 a1 a2 a3
def Yk:Option (List T):=
 Yl a1 a5 λa8=>
 aB a8 (
 Yz (bb true) λa9=>
 some [a9]) (
 Ye a1 a5 λa9=>
 aB a9 (
 Yl a0 a4 λaQ=>
 Yz aQ λaV=>
 some [aV]) (
 Yz (bb false) λaQ=>
 some [aQ]))
theorem Yr:ij.den (pick []) R [] [a0,a1,a2,a3,a4,a5,a6,a7]=Yk a0 a1 a4 a5:=(ea (by kernel_rfl)).trans (by kernel_rfl)
theorem YA:zk [a0,a1,a2,a3,a4,a5,a6,a7]=Yk a0 a1 a4 a5:=Yr rounds a0 a1 a2 a3 a4 a5 a6 a7
def AR:Option (List T):=
 (dO λbf bc=>
 Yn a0 λaW=>
 Yl bc aW λbn=>
 aB bn (
 Y4 a0 bc λbw br bA bF=>
 ca (ch [a1,a2,a3,a4,bw,br,bA,bF]) λbG=>
 jn (dA λcf=>
 Ya bc (ii 1) λbV=>
 k1 [cf,bV]) λk2=>
 aB bG (
 Y4 a0 bc λbV cD cO cQ=>
 pv (.lit 4 [true,true,true,true]) [bV,cD,cO,cQ] λdI=>
 pv (.app true 4) [bf,dI] λdi=>
 k2 [di]) (
 k2 [bf])) (
 some [bf])) ts
def AS:Option (List T):=
 (dO λa6 a7=>
 Yn a0 λa8=>
 Yl a7 a8 λa9=>
 aB a9 (
 Y4 a0 a7 λaV bf bc aW=>
 ca (ch [aV,bf,bc,aW,a1,a2,a3,a4]) λbn=>
 jn (dA λbp=>
 Ya a7 (ii 1) λbw=>
 k0 [bp,bw]) λk1=>
 aB bn (
 Y4 a0 a7 λbw br bA bF=>
 pv (.lit 4 [true,true,true,true]) [bw,br,bA,bF] λbG=>
 pv (.app true 4) [a6,bG] λcf=>
 k1 [cf]) (
 k1 [a6])) (
 pv (.lit 4 [true,true,true,true]) [a1,a2,a3,a4] λaQ=>
 pv (.app true 4) [a6,aQ] λaV=>
 iter (AR ch a0 a1 a2 a3 a4) R [aV,ii 0])) ts
def YB:Option (List T):=
 pv (.lit 4 []) [] λa5=>
 iter (AS R ch a0 a1 a2 a3 a4) R [a5,ii 0]
theorem YC:fK.den (pick [(107,ch)]) R [] [a0,a1,a2,a3,a4]=YB R ch a0 a1 a2 a3 a4:=(ea (by kernel_rfl)).trans (by kernel_rfl)
theorem YD:Fz [a0,a1,a2,a3,a4]=YB rounds zk a0 a1 a2 a3 a4:=YC rounds zk a0 a1 a2 a3 a4
def rI:Option (List T):=
 (ze λbA bF bG cf bV=>
 gM (aH [bF,bG,cf,ii 3]) λcD cO cQ dI=>
 Yl bA cD λdi=>
 aB di (
 gM (aH [cO,cQ,dI,a7]) λdX eS eH ez=>
 Ya (ii 1) dX λek=>
 gM (aH [eS,eH,ez,ii 3]) λfY iM j6 g_=>
 Ya (ii 1) fY λeW=>
 gM (aH [iM,j6,g_,ii 5]) λgy gp kl nq=>
 Ya (ii 1) gy λqR=>
 gM (bE [gp,kl,nq,ii 2]) λF_ zv AK AL=>
 ca (dB [bV,ek,eW,qR,F_]) λAM=>
 Ya bA (ii 1) λGa=>
 k1 [Ga,zv,AK,AL,AM]) (
 Yz a7 λdX=>
 some [dX,bf,bV,cO,cQ,dI])) ts
def rJ:Option (List T):=
 (ze λa8 a9 aQ aV bf=>
 gM (aH [a9,aQ,aV,ii 3]) λbc aW bn bp=>
 Ya a7 bc λbw=>
 Yl a8 bw λbr=>
 aB br (
 gM (aH [aW,bn,bp,a7]) λbA bF bG cf=>
 Ya (ii 1) bA λbV=>
 gM (aH [bF,bG,cf,a7]) λcD cO cQ dI=>
 Ya (ii 1) cD λdi=>
 Ya a8 (ii 1) λdX=>
 Yl dX a7 λeS=>
 jn (dO λeH ez=>
 Ye eH ez λek=>
 jn (dA λfY=>
 Yg eH fY λiM=>
 jn (dO λj6 g_=>
 gM (aH [cO,cQ,dI,ii 4]) λeW gy gp kl=>
 Ya (ii 1) eW λnq=>
 pv (.lit 1 [true,true,true,true]) [ii 0,ii 0,ii 1,ii 2] λqR=>
 gM (eQ [gy,gp,kl,qR]) λF_ zv AK AL=>
 Yn bf λAM=>
 Yl AM (ii 12) λGa=>
 jn (dA λGb=>
 Ya a8 (ii 1) λOg=>
 k0 [Og,zv,AK,AL,Gb]) λk1=>
 aB Ga (
 ca (iK [bf,j6,g_,nq,F_]) λGb=>
 k1 [Gb]) (
 k1 [bf])) λk1=>
 aB iM (
 k1 [fY,eH]) (
 k1 [eH,fY])) λk1=>
 aB ek (
 pv (.bin .rem) [eH,a7] λfY=>
 Ya fY (ii 1) λiM=>
 k1 [iM]) (
 k1 [ez])) λk1=>
 aB eS (
 Ya a8 (ii 1) λeH=>
 Ya a8 (ii 2) λez=>
 k1 [eH,ez]) (
 k1 [bV,di])) (
 iter (rI aH bE dB a7 bf) R [ii 0,aW,bn,bp,.l []])) ts
def Dw:Option (List T):=
 gM (aH [a0,a1,a2,ii 4]) λa3 a4 a5 a6=>
 Ya (ii 2) a3 λa7=>
 iter (rJ R aH bE eQ iK dB a7) R [ii 0,a4,a5,a6,.l []]
theorem YE:kF.den (pick [(50,aH),(60,bE),(81,eQ),(87,iK),(88,dB)]) R [] [a0,a1,a2]=Dw R aH bE eQ iK dB a0 a1 a2:=(ea (by kernel_rfl)).trans (by kernel_rfl)
theorem YF:FA [a0,a1,a2]=Dw rounds qQ tU Fx Fy Fz a0 a1 a2:=YE rounds qQ tU Fx Fy Fz a0 a1 a2
def Dx:Option (List T):=
 Yh a0 a1 λa3=>
 aB a3 (
 Ym a0 a2 λa4=>
 Yz a4 λa5=>
 some [a5]) (
 Yz (bb false) λa4=>
 some [a4])
theorem YG:mh.den (pick []) R [] [a0,a1,a2]=Dx a0 a1 a2:=(ea (by kernel_rfl)).trans (by kernel_rfl)
theorem YH:np [a0,a1,a2]=Dx a0 a1 a2:=YG rounds a0 a1 a2
def Dy:Option (List T):=
 ca (aD [a0,ii 1,ii 6]) λa5=>
 aB a5 (
 ca (aD [a1,ii 1,a0]) λa6=>
 aB a6 (
 ca (aD [a2,ii 1,a0]) λa7=>
 aB a7 (
 Yl a1 a2 λa8=>
 aB a8 (
 ca (aD [a3,ii 1,ii 1000]) λa9=>
 aB a9 (
 ca (aD [a4,ii 0,ii 2]) λaQ=>
 Yz aQ λaV=>
 some [aV]) (
 Yz (bb false) λaQ=>
 some [aQ])) (
 Yz (bb false) λa9=>
 some [a9])) (
 Yz (bb false) λa8=>
 some [a8])) (
 Yz (bb false) λa7=>
 some [a7])) (
 Yz (bb false) λa6=>
 some [a6])
theorem YI:kG.den (pick [(90,aD)]) R [] [a0,a1,a2,a3,a4]=Dy aD a0 a1 a2 a3 a4:=(ea (by kernel_rfl)).trans (by kernel_rfl)
theorem YJ:FB [a0,a1,a2,a3,a4]=Dy np a0 a1 a2 a3 a4:=YI rounds np a0 a1 a2 a3 a4
def Dz:Option (List T):=
 (dO λbc aW=>
 Yn a2 λbn=>
 Yl aW bn λbp=>
 aB bp (
 Y4 a2 aW λbr bA bF bG=>
 ca (aD [br,ii 1,a0]) λcf=>
 Yt cf λbV=>
 aB bV (
 Yz (bb false) λcD=>
 some [cD]) (
 ca (aD [bA,ii 1,ii 9]) λcD=>
 Yt cD λcO=>
 aB cO (
 Yz (bb false) λcQ=>
 some [cQ]) (
 ca (aD [bF,ii 1,ii 1000]) λcQ=>
 Yt cQ λdI=>
 aB dI (
 Yz (bb false) λdi=>
 some [di]) (
 Yg aW (ii 0) λdi=>
 aB di (
 Ys aW (ii 1) λdX=>
 Y4 a2 dX λeH ez ek fY=>
 ca (ch [eH,ez,ek,fY,br,bA,bF,bG]) λiM=>
 Yt iM λj6=>
 aB j6 (
 Yz (bb false) λg_=>
 some [g_]) (
 Ya aW (ii 1) λg_=>
 k1 [bc,g_])) (
 Ya aW (ii 1) λdX=>
 k1 [bc,dX]))))) (
 Yz (bb true) λbw=>
 some [bw])) ts
def DA:Option (List T):=
 (dO λa9 aQ=>
 Yn a1 λaV=>
 Yl aQ aV λbf=>
 aB bf (
 Y4 a1 aQ λaW bn bp bw=>
 ca (iH [a0,aW,bn,bp,bw]) λbr=>
 Yt br λbA=>
 aB bA (
 Yz (bb false) λbF=>
 some [bF]) (
 Yg aQ (ii 0) λbF=>
 aB bF (
 Ys aQ (ii 1) λbG=>
 Y4 a1 bG λbV cD cO cQ=>
 Y4 a1 aQ λdi dX eS eH=>
 ca (cz [bV,cD,cO,cQ,di,dX,eS,eH]) λez=>
 Yt ez λek=>
 aB ek (
 Yz (bb false) λfY=>
 some [fY]) (
 Ya aQ (ii 1) λfY=>
 k0 [a9,fY])) (
 Ya aQ (ii 1) λbG=>
 k0 [a9,bG]))) (
 iter (Dz aD ch a0 a2) R [a9,ii 0])) ts
def DB:Option (List T):=
 ca (aD [a0,ii 1,ii 6]) λa3=>
 Yt a3 λa4=>
 aB a4 (
 Yz (bb false) λa5=>
 some [a5]) (
 Yn a1 λa5=>
 Yg a5 (ii 12) λa6=>
 aB a6 (
 Yz (bb false) λa7=>
 some [a7]) (
 Yn a2 λa7=>
 Yg a7 (ii 4) λa8=>
 aB a8 (
 Yz (bb false) λa9=>
 some [a9]) (
 iter (DA R iH aD cz ch a0 a1 a2) R [bb false,ii 0])))
theorem YK:mi.den (pick [(90,aD),(106,cz),(107,ch),(120,iH)]) R [] [a0,a1,a2]=DB R iH aD cz ch a0 a1 a2:=(ea (by kernel_rfl)).trans (by kernel_rfl)
theorem YL:FC [a0,a1,a2]=DB rounds FB np zj zk a0 a1 a2:=YK rounds FB np zj zk a0 a1 a2
def Om:Option (List T):=
 (dO λa6 a7=>
 Yn a1 λa8=>
 Yl a7 a8 λa9=>
 aB a9 (
 Y4 a1 a7 λaV bf bc aW=>
 Ye aW a5 λbn=>
 aB bn (
 Ye aV a3 λbp=>
 aB bp (
 Ye bf a4 λbw=>
 aB bw (
 Yz bc λbr=>
 some [br]) (
 Ye aV a4 λbr=>
 aB br (
 Ye bf a3 λbA=>
 aB bA (
 Yz bc λbF=>
 some [bF]) (
 Ya a7 (ii 1) λbF=>
 k0 [a6,bF])) (
 Ya a7 (ii 1) λbA=>
 k0 [a6,bA]))) (
 Ye aV a4 λbw=>
 aB bw (
 Ye bf a3 λbr=>
 aB br (
 Yz bc λbA=>
 some [bA]) (
 Ya a7 (ii 1) λbA=>
 k0 [a6,bA])) (
 Ya a7 (ii 1) λbr=>
 k0 [a6,br]))) (
 Ya a7 (ii 1) λbp=>
 k0 [a6,bp])) (
 Yz (ii 0) λaQ=>
 some [aQ])) ts
def DC:Option (List T):=
 iter (Om a1 a3 a4 a5) R [ii 0,ii 0]
theorem YM:kH.den (pick []) R [] [a0,a1,a2,a3,a4,a5]=DC R a1 a3 a4 a5:=(ea (by kernel_rfl)).trans (by kernel_rfl)
theorem YN:FD [a0,a1,a2,a3,a4,a5]=DC rounds a1 a3 a4 a5:=YM rounds a0 a1 a2 a3 a4 a5
def LA:Option (List T):=
 (dO λa6 a7=>
 Ym a7 (ii 6) λa8=>
 aB a8 (
 ca (iG [a0,a1,a2,a3,a7,a4]) λa9=>
 Yg a9 (ii 0) λaQ=>
 jn (dA λaV=>
 Ya a7 (ii 1) λbf=>
 k0 [aV,bf]) λk1=>
 aB aQ (
 Yx a7 λaV=>
 Yp a6 aV λbf=>
 k1 [bf]) (
 k1 [a6])) (
 some [a6])) ts
def DD:Option (List T):=
 pv (.lit 1 []) [] λa5=>
 iter (LA iG a0 a1 a2 a3 a4) R [a5,ii 1]
theorem YO:kJ.den (pick [(129,iG)]) R [] [a0,a1,a2,a3,a4]=DD R iG a0 a1 a2 a3 a4:=(ea (by kernel_rfl)).trans (by kernel_rfl)
theorem YP:FE [a0,a1,a2,a3,a4]=DD rounds FD a0 a1 a2 a3 a4:=YO rounds FD a0 a1 a2 a3 a4
def LB:Option (List T):=
 (dO λa5 a6=>
 Ym a6 (ii 2) λa7=>
 aB a7 (
 ca (iI [a0,a1,a2,a3,a6]) λa8=>
 Yn a8 λa9=>
 Yg a9 (ii 0) λaQ=>
 jn (dA λaV=>
 Ya a6 (ii 1) λbf=>
 k0 [aV,bf]) λk1=>
 aB aQ (
 Yx a6 λaV=>
 Yp a5 aV λbf=>
 k1 [bf]) (
 k1 [a5])) (
 some [a5])) ts
def YQ:Option (List T):=
 pv (.lit 1 []) [] λa4=>
 iter (LB iI a0 a1 a2 a3) R [a4,ii 0]
theorem YR:jC.den (pick [(115,iI)]) R [] [a0,a1,a2,a3]=YQ R iI a0 a1 a2 a3:=(ea (by kernel_rfl)).trans (by kernel_rfl)
theorem YS:uy [a0,a1,a2,a3]=YQ rounds FE a0 a1 a2 a3:=YR rounds FE a0 a1 a2 a3
def LC:Option (List T):=
 (dO λa7 a8=>
 Yn a1 λa9=>
 Yl a8 a9 λaQ=>
 aB aQ (
 Y4 a1 a8 λbf bc aW bn=>
 Y1 a3 a8 λbw=>
 aB bw (
 Ye bn a6 λbr=>
 aB br (
 Ye bf a4 λbA=>
 aB bA (
 Ye bc a5 λbF=>
 aB bF (
 Yz aW λbG=>
 some [bG]) (
 Ye bf a5 λbG=>
 aB bG (
 Ye bc a4 λcf=>
 aB cf (
 Yz aW λbV=>
 some [bV]) (
 Ya a8 (ii 1) λbV=>
 k0 [a7,bV])) (
 Ya a8 (ii 1) λcf=>
 k0 [a7,cf]))) (
 Ye bf a5 λbF=>
 aB bF (
 Ye bc a4 λbG=>
 aB bG (
 Yz aW λcf=>
 some [cf]) (
 Ya a8 (ii 1) λcf=>
 k0 [a7,cf])) (
 Ya a8 (ii 1) λbG=>
 k0 [a7,bG]))) (
 Ya a8 (ii 1) λbA=>
 k0 [a7,bA])) (
 Ya a8 (ii 1) λbr=>
 k0 [a7,br])) (
 Yz (ii 0) λaV=>
 some [aV])) ts
def YT:Option (List T):=
 iter (LC a1 a3 a4 a5 a6) R [ii 0,ii 0]
theorem YU:jD.den (pick []) R [] [a0,a1,a2,a3,a4,a5,a6]=YT R a1 a3 a4 a5 a6:=(ea (by kernel_rfl)).trans (by kernel_rfl)
theorem YV:FF [a0,a1,a2,a3,a4,a5,a6]=YT rounds a1 a3 a4 a5 a6:=YU rounds a0 a1 a2 a3 a4 a5 a6
def DE:Option (List T):=
 Yu a0 a8 λbp=>
 aB bp (
 Yl a0 a8 λbw=>
 Yz bw λbr=>
 some [br]) (
 Yu a1 a9 λbw=>
 aB bw (
 Yl a1 a9 λbr=>
 Yz br λbA=>
 some [bA]) (
 Yu a2 aQ λbr=>
 aB br (
 Yl a2 aQ λbA=>
 Yz bA λbF=>
 some [bF]) (
 Yl a3 aV λbA=>
 Yz bA λbF=>
 some [bF])))
theorem YW:kK.den (pick []) R [] [a0,a1,a2,a3,a4,a5,a6,a7,a8,a9,aQ,aV,bf,bc,aW,bn]=DE a0 a1 a2 a3 a8 a9 aQ aV:=(ea (by kernel_rfl)).trans (by kernel_rfl)
theorem YX:zl [a0,a1,a2,a3,a4,a5,a6,a7,a8,a9,aQ,aV,bf,bc,aW,bn]=DE a0 a1 a2 a3 a8 a9 aQ aV:=YW rounds a0 a1 a2 a3 a4 a5 a6 a7 a8 a9 aQ aV bf bc aW bn
def Gf:Option (List T):=
 (dO λbp bw=>
 Yn a0 λbr=>
 Yl bw br λbA=>
 aB bA (
 Y8 a0 bw λbG cf bV cD cO cQ dI di=>
 ca (da [a1,a2,a3,a4,a5,a6,a7,a8,bG,cf,bV,cD,cO,cQ,dI,di]) λdX=>
 jn (dA λeS=>
 Ya bw (ii 1) λeH=>
 k1 [eS,eH]) λk2=>
 aB dX (
 Y8 a0 bw λeH ez ek fY iM j6 g_ eW=>
 pv (.lit 8 []) [eH,ez,ek,fY,iM,j6,g_,eW] λgy=>
 Yy bp gy λgp=>
 k2 [gp]) (
 k2 [bp])) (
 some [bp])) ts
def Gg:Option (List T):=
 (dO λaQ aV=>
 Yn a0 λbf=>
 Yl aV bf λbc=>
 aB bc (
 Y8 a0 aV λbn bp bw br bA bF bG cf=>
 ca (da [bn,bp,bw,br,bA,bF,bG,cf,a1,a2,a3,a4,a5,a6,a7,a8]) λbV=>
 jn (dA λcD=>
 Ya aV (ii 1) λcO=>
 k0 [cD,cO]) λk1=>
 aB bV (
 Y8 a0 aV λcO cQ dI di dX eS eH ez=>
 pv (.lit 8 []) [cO,cQ,dI,di,dX,eS,eH,ez] λek=>
 Yy aQ ek λfY=>
 k1 [fY]) (
 k1 [aQ])) (
 pv (.lit 8 []) [a1,a2,a3,a4,a5,a6,a7,a8] λaW=>
 Yy aQ aW λbn=>
 iter (Gf da a0 a1 a2 a3 a4 a5 a6 a7 a8) R [bn,ii 0])) ts
def DF:Option (List T):=
 pv (.lit 8 []) [] λa9=>
 iter (Gg R da a0 a1 a2 a3 a4 a5 a6 a7 a8) R [a9,ii 0]
theorem YY:kL.den (pick [(117,da)]) R [] [a0,a1,a2,a3,a4,a5,a6,a7,a8]=DF R da a0 a1 a2 a3 a4 a5 a6 a7 a8:=(ea (by kernel_rfl)).trans (by kernel_rfl)
theorem YZ:zm [a0,a1,a2,a3,a4,a5,a6,a7,a8]=DF rounds zl a0 a1 a2 a3 a4 a5 a6 a7 a8:=YY rounds zl a0 a1 a2 a3 a4 a5 a6 a7 a8
def DG:Option (List T):=
 ca (bT [a0,a1,a2,a3]) λa4=>
 Yn a4 λa5=>
 Yg a5 (ii 1) λa6=>
 aB a6 (
 Yb a4 (ii 0) λa7=>
 Yc 1 0 a4 (ii 0) λa8=>
 Ye a8 (ii 0) λa9=>
 Yz a9 λaQ=>
 some [aQ]) (
 Yz (bb false) λa7=>
 some [a7])
theorem Y0:kM.den (pick [(92,bT)]) R [] [a0,a1,a2,a3]=DG bT a0 a1 a2 a3:=(ea (by kernel_rfl)).trans (by kernel_rfl)
theorem Y5:zn [a0,a1,a2,a3]=DG uy a0 a1 a2 a3:=Y0 rounds uy a0 a1 a2 a3
def On:Option (List T):=
 (dO λa8 a9=>
 Yn a5 λaQ=>
 Yl a9 aQ λaV=>
 aB aV (
 Y2 a5 a9 λbc aW=>
 ca (aD [bc,ii 1,ii 6]) λbn=>
 Yt bn λbp=>
 aB bp (
 Yz (bb false) λbw=>
 some [bw]) (
 Ye bc a2 λbw=>
 aB bw (
 Yz (bb false) λbr=>
 some [br]) (
 ca (aD [aW,ii 1,ii 1000]) λbr=>
 Yt br λbA=>
 aB bA (
 Yz (bb false) λbF=>
 some [bF]) (
 Yg a9 (ii 0) λbF=>
 aB bF (
 Ys a9 (ii 1) λbG=>
 Yb a5 bG λcf=>
 Yc 2 0 a5 bG λbV=>
 Yh bV bc λcD=>
 aB cD (
 Yz (bb false) λcO=>
 some [cO]) (
 Ya a9 (ii 1) λcO=>
 k0 [a8,cO])) (
 Ya a9 (ii 1) λbG=>
 k0 [a8,bG]))))) (
 Yz (bb true) λbf=>
 some [bf])) ts
def Y7:Option (List T):=
 iter (On aD a2 a5) R [bb false,ii 0]
theorem Y9:jE.den (pick [(90,aD)]) R [] [a0,a1,a2,a3,a4,a5,a6,a7]=Y7 R aD a2 a5:=(ea (by kernel_rfl)).trans (by kernel_rfl)
theorem Y_:FG [a0,a1,a2,a3,a4,a5,a6,a7]=Y7 rounds np a2 a5:=Y9 rounds np a0 a1 a2 a3 a4 a5 a6 a7
def Y':Option (List T):=
 ca (aD [a2,ii 1,ii 6]) λa8=>
 Yt a8 λa9=>
 aB a9 (
 Yz (bb false) λaQ=>
 some [aQ]) (
 ca (aD [a4,ii 1,ii 100000]) λaQ=>
 Yt aQ λaV=>
 aB aV (
 Yz (bb false) λbf=>
 some [bf]) (
 Ye a1 (ii 1) λbf=>
 aB bf (
 ca (aD [a0,ii 0,ii 2]) λbc=>
 aB bc (
 Ye a3 (ii 0) λaW=>
 aB aW (
 ca (jP [a0,a1,a2,a3,a4,a5,a6,a7]) λbn=>
 aB bn (
 Ye a6 (ii 0) λbp=>
 aB bp (
 Yt a7 λbw=>
 Yz bw λbr=>
 some [br]) (
 Yz (bb false) λbw=>
 some [bw])) (
 Yz (bb false) λbp=>
 some [bp])) (
 Yz (bb false) λbn=>
 some [bn])) (
 Yz (bb false) λaW=>
 some [aW])) (
 Ye a1 (ii 2) λbc=>
 aB bc (
 ca (aD [a0,ii 0,ii 2]) λaW=>
 aB aW (
 ca (aD [a3,ii 1,ii 6]) λbn=>
 aB bn (
 Yn a5 λbp=>
 Ye bp (ii 0) λbw=>
 aB bw (
 ca (aD [a6,ii 0,ii 60000]) λbr=>
 aB br (
 Yt a7 λbA=>
 Yz bA λbF=>
 some [bF]) (
 Yz (bb false) λbA=>
 some [bA])) (
 Yz (bb false) λbr=>
 some [br])) (
 Yz (bb false) λbp=>
 some [bp])) (
 Yz (bb false) λbn=>
 some [bn])) (
 Ye a1 (ii 3) λaW=>
 aB aW (
 Ye a0 (ii 9) λbn=>
 aB bn (
 ca (aD [a3,ii 1,ii 9]) λbp=>
 aB bp (
 Yn a5 λbw=>
 Ye bw (ii 0) λbr=>
 aB br (
 ca (aD [a6,ii 1,ii 1000]) λbA=>
 aB bA (
 Yz (bb true) λbF=>
 some [bF]) (
 Ye a6 (ii 60000) λbF=>
 Yz bF λbG=>
 some [bG])) (
 Yz (bb false) λbA=>
 some [bA])) (
 Yz (bb false) λbw=>
 some [bw])) (
 Yz (bb false) λbp=>
 some [bp])) (
 Yz (bb false) λbn=>
 some [bn])))))
theorem Za:il.den (pick [(90,aD),(119,jP)]) R [] [a0,a1,a2,a3,a4,a5,a6,a7]=Y' aD jP a0 a1 a2 a3 a4 a5 a6 a7:=(ea (by kernel_rfl)).trans (by kernel_rfl)
theorem Zc:FH [a0,a1,a2,a3,a4,a5,a6,a7]=Y' np FG a0 a1 a2 a3 a4 a5 a6 a7:=Za rounds np FG a0 a1 a2 a3 a4 a5 a6 a7
def Oo:Option (List T):=
 (dO λa3 a4=>
 Yn a0 λa5=>
 Yl a4 a5 λa6=>
 aB a6 (
 Y8 a0 a4 λa8 a9 aQ aV bf bc aW bn=>
 ca (fV [a8,a9,aQ,aV,bf,bc,aW,bn]) λbp=>
 Yt bp λbw=>
 aB bw (
 Yz (bb false) λbr=>
 some [br]) (
 Yg a4 (ii 0) λbr=>
 aB br (
 Ys a4 (ii 1) λbA=>
 Y8 a0 bA λbG cf bV cD cO cQ dI di=>
 Y8 a0 a4 λeS eH ez ek fY iM j6 g_=>
 ca (da [bG,cf,bV,cD,cO,cQ,dI,di,eS,eH,ez,ek,fY,iM,j6,g_]) λeW=>
 Yt eW λgy=>
 aB gy (
 Yz (bb false) λgp=>
 some [gp]) (
 Ya a4 (ii 1) λgp=>
 k0 [a3,gp])) (
 Ya a4 (ii 1) λbA=>
 k0 [a3,bA]))) (
 Yz (bb true) λa7=>
 some [a7])) ts
def Zd:Option (List T):=
 Yn a0 λa1=>
 Yg a1 (ii 150) λa2=>
 aB a2 (
 Yz (bb false) λa3=>
 some [a3]) (
 iter (Oo da fV a0) R [bb false,ii 0])
theorem Ze:jF.den (pick [(103,fV),(117,da)]) R [] [a0]=Zd R da fV a0:=(ea (by kernel_rfl)).trans (by kernel_rfl)
theorem Zf:rG [a0]=Zd rounds zl FH a0:=Ze rounds zl FH a0
def Zg:Option (List T):=
 Ye a0 a8 λbp=>
 aB bp (
 Ye a1 a9 λbw=>
 aB bw (
 Ye a2 aQ λbr=>
 aB br (
 Ye a3 aV λbA=>
 Yz bA λbF=>
 some [bF]) (
 Yz (bb false) λbA=>
 some [bA])) (
 Yz (bb false) λbr=>
 some [br])) (
 Yz (bb false) λbw=>
 some [bw])
theorem Zh:jG.den (pick []) R [] [a0,a1,a2,a3,a4,a5,a6,a7,a8,a9,aQ,aV,bf,bc,aW,bn]=Zg a0 a1 a2 a3 a8 a9 aQ aV:=(ea (by kernel_rfl)).trans (by kernel_rfl)
theorem Zi:FI [a0,a1,a2,a3,a4,a5,a6,a7,a8,a9,aQ,aV,bf,bc,aW,bn]=Zg a0 a1 a2 a3 a8 a9 aQ aV:=Zh rounds a0 a1 a2 a3 a4 a5 a6 a7 a8 a9 aQ aV bf bc aW bn
def Oq:Option (List T):=
 (dO λa9 aQ=>
 Yn a0 λaV=>
 Yl aQ aV λbf=>
 aB bf (
 Y8 a0 aQ λaW bn bp bw br bA bF bG=>
 ca (gF [aW,bn,bp,bw,br,bA,bF,bG,a1,a2,a3,a4,a5,a6,a7,a8]) λcf=>
 aB cf (
 Yz aQ λbV=>
 some [bV]) (
 Ya aQ (ii 1) λbV=>
 k0 [a9,bV])) (
 Yz (ii (-1)) λbc=>
 some [bc])) ts
def DH:Option (List T):=
 iter (Oq gF a0 a1 a2 a3 a4 a5 a6 a7 a8) R [ii 0,ii 0]
theorem Zj:mj.den (pick [(118,gF)]) R [] [a0,a1,a2,a3,a4,a5,a6,a7,a8]=DH R gF a0 a1 a2 a3 a4 a5 a6 a7 a8:=(ea (by kernel_rfl)).trans (by kernel_rfl)
theorem Zk:FJ [a0,a1,a2,a3,a4,a5,a6,a7,a8]=DH rounds FI a0 a1 a2 a3 a4 a5 a6 a7 a8:=Zj rounds FI a0 a1 a2 a3 a4 a5 a6 a7 a8
def Zl:Option (List T):=
 ca (mA [a0,a1,ii 1,a2,ii 0,ii 0,.l [],ii 0,bb false]) λa3=>
 Yl a3 (ii 0) λa4=>
 aB a4 (
 Yz (bb false) λa5=>
 Yz (bb false) λa6=>
 Yz (ii 0) λa7=>
 Yz (ii 0) λa8=>
 Yz (ii 0) λa9=>
 Yz (ii 0) λaQ=>
 Yz (ii 0) λaV=>
 Yz (ii 0) λbf=>
 some [bf,aV,aQ,a9,a8,.l [],a7,a6,a5]) (
 Y8 a0 a3 λa6 a7 a8 a9 aQ aV bf bc=>
 Yz (bb true) λaW=>
 Yz bc λbn=>
 Yz bf λbp=>
 Yz aQ λbw=>
 Yz a9 λbr=>
 Yz a8 λbA=>
 Yz a7 λbF=>
 Yz a6 λbG=>
 some [bG,bF,bA,br,bw,aV,bp,bn,aW])
theorem Zm:jH.den (pick [(116,mA)]) R [] [a0,a1,a2]=Zl mA a0 a1 a2:=(ea (by kernel_rfl)).trans (by kernel_rfl)
theorem Zn:tV [a0,a1,a2]=Zl FJ a0 a1 a2:=Zm rounds FJ a0 a1 a2
def Ot:Option (List T):=
 (dO λbc aW=>
 Yn a9 λbn=>
 Yl aW bn λbp=>
 aB bp (
 Yb a9 aW λbw=>
 Yc 2 0 a9 aW λbr=>
 Ye br a3 λbA=>
 aB bA (
 Yb a9 aW λbF=>
 Yc 2 1 a9 aW λbG=>
 Yz bG λcf=>
 some [cf]) (
 Ya aW (ii 1) λbF=>
 k0 [bc,bF])) (
 Yz (ii 0) λbw=>
 some [bw])) ts
def Zo:Option (List T):=
 Fp (cM [a0,a1,a2]) λa4 a5 a6 a7 a8 a9 aQ aV bf=>
 iter (Ot a3 a9) R [ii 0,ii 0]
theorem Zp:im.den (pick [(130,cM)]) R [] [a0,a1,a2,a3]=Zo R cM a0 a1 a2 a3:=(ea (by kernel_rfl)).trans (by kernel_rfl)
theorem Zq:FK [a0,a1,a2,a3]=Zo rounds tV a0 a1 a2 a3:=Zp rounds tV a0 a1 a2 a3
def LD:Option (List T):=
 (dO λbn bp=>
 Yn aV λbw=>
 Yl bn bw λbr=>
 aB br (
 Yb aV bn λbA=>
 Yc 2 0 aV bn λbF=>
 ca (aD [bF,ii 1,ii 6]) λbG=>
 aB bG (
 Yb aV bn λcf=>
 Yc 2 0 aV bn λbV=>
 ca (eR [a0,a1,bV,a3]) λcD=>
 Yg cD (ii 0) λcO=>
 jn (dA λcQ=>
 Ya bn (ii 1) λdI=>
 k1 [dI,cQ]) λk2=>
 aB cO (
 pv (.bin .mul) [a3,ii 7] λcQ=>
 Yb aV bn λdI=>
 Yc 2 0 aV bn λdi=>
 Ya cQ di λdX=>
 Yb aV bn λeS=>
 Yc 2 1 aV bn λeH=>
 Yb bp dX λez=>
 pv (.put true 1 0 1) [bp,dX,eH] λek=>
 k2 [ek]) (
 k2 [bp])) (
 jn (dA λcf=>
 Ya bn (ii 1) λbV=>
 k1 [bV,cf]) λk2=>
 k2 [bp])) (
 Ya a3 (ii 1) λbA=>
 k0 [bA,bp])) ts
def LF:Option (List T):=
 (dO λa3 a4=>
 Ym a3 (ii 6) λa5=>
 aB a5 (
 Fp (cM [a0,a1,a3]) λa6 a7 a8 a9 aQ aV bf bc aW=>
 iter (LD aD eR a0 a1 a3 aV k0) R [ii 0,a4]) (
 some [a4])) ts
def Zr:Option (List T):=
 pv (.mk) [ii 49,ii 49,ii 0] λa2=>
 iter (LF R aD cM eR a0 a1) R [ii 1,a2]
theorem Zs:iq.den (pick [(90,aD),(130,cM),(135,eR)]) R [] [a0,a1]=Zr R aD cM eR a0 a1:=(ea (by kernel_rfl)).trans (by kernel_rfl)
theorem Zt:FL [a0,a1]=Zr rounds np tV FK a0 a1:=Zs rounds np tV FK a0 a1
def Ou:Option (List T):=
 (dO λa2 a3=>
 Yn a0 λa4=>
 Yl a3 a4 λa5=>
 aB a5 (
 Y1 a0 a3 λa7=>
 Ye a7 a1 λa8=>
 aB a8 (
 Yz (bb true) λa9=>
 some [a9]) (
 Ya a3 (ii 1) λa9=>
 k0 [a2,a9])) (
 Yz (bb false) λa6=>
 some [a6])) ts
def DI:Option (List T):=
 iter (Ou a0 a1) R [bb false,ii 0]
theorem Zu:ml.den (pick []) R [] [a0,a1]=DI R a0 a1:=(ea (by kernel_rfl)).trans (by kernel_rfl)
theorem Zv:FM [a0,a1]=DI rounds a0 a1:=Zu rounds a0 a1
def Ov:Option (List T):=
 (dO λa3 a4=>
 Ym a4 (ii 6) λa5=>
 aB a5 (
 ca (gZ [a0,a4]) λa6=>
 aB a6 (
 jn (dA λa7=>
 Ya a4 (ii 1) λa8=>
 k0 [a7,a8]) λk1=>
 Yx a4 λa7=>
 Yp a3 a7 λa8=>
 k1 [a8]) (
 ca (gZ [a1,a4]) λa7=>
 jn (dA λa8=>
 Ya a4 (ii 1) λa9=>
 k0 [a8,a9]) λk1=>
 aB a7 (
 Yx a4 λa8=>
 Yp a3 a8 λa9=>
 k1 [a9]) (
 k1 [a3]))) (
 some [a3])) ts
def DJ:Option (List T):=
 pv (.lit 1 []) [] λa2=>
 iter (Ov gZ a0 a1) R [a2,ii 1]
theorem Zw:kN.den (pick [(134,gZ)]) R [] [a0,a1]=DJ R gZ a0 a1:=(ea (by kernel_rfl)).trans (by kernel_rfl)
theorem Zx:n5 [a0,a1]=DJ rounds FM a0 a1:=Zw rounds FM a0 a1
def mB:Option (List T):=
 (dO λez ek=>
 Ym ek (ii 6) λfY=>
 aB fY (
 Yq dX ek λj6=>
 jn (dA λg_=>
 Ya ek (ii 1) λeW=>
 k2 [g_,eW]) λk3=>
 aB j6 (
 Yq eS ek λeW=>
 pv (.lit 1 []) [] λgy=>
 Y1 di ek λkl=>
 Yp gy kl λnq=>
 pv (.lit 3 [true,true,false]) [ek,eW,nq] λqR=>
 Yo ez qR λF_=>
 k3 [F_]) (
 k3 [ez])) (
 some [ez])) ts
def mC:Option (List T):=
 (wh λeW gy gp=>
 Ym eW (ii 6) λkl=>
 aB kl (
 pv (.bin .mul) [ez,ii 7] λnq=>
 Ya nq eW λqR=>
 Y1 br qR λzv=>
 Ye zv (ii 0) λAK=>
 aB AK (
 Ya eW (ii 1) λAL=>
 k3 [AL,gy,gp]) (
 Yq g_ eW λAM=>
 aB AM (
 Ya eW (ii 1) λGa=>
 k3 [Ga,gy,gp]) (
 Y1 gy ez λGb=>
 Ye ez a2 λOg=>
 jn (dA λGc=>
 Yq gp ez λa54=>
 Ya a54 zv λLy=>
 Yq gp eW λa57=>
 Yl a57 (ii 0) λa58=>
 aB a58 (
 jn (dO λXX Gd=>
 Ya eW (ii 1) λGe=>
 k3 [Ge,XX,Gd]) λk4=>
 Yb gp eW λXX=>
 pv (.put true 1 0 1) [gp,eW,Ly] λGd=>
 pv (.lit 1 []) [] λGe=>
 ca (bu [Ge,Gc]) λLz=>
 Yb gy eW λDt=>
 pv (.put false 1 0 1) [gy,eW,Lz] λAO=>
 k4 [AO,Gd]) (
 Yq gp eW λGd=>
 Yl Ly Gd λGe=>
 jn (dO λLz Dt=>
 Ya eW (ii 1) λAO=>
 k3 [AO,Lz,Dt]) λk4=>
 aB Ge (
 Yb gp eW λLz=>
 pv (.put true 1 0 1) [gp,eW,Ly] λDt=>
 pv (.lit 1 []) [] λAO=>
 ca (bu [AO,Gc]) λOh=>
 Yb gy eW λXY=>
 pv (.put false 1 0 1) [gy,eW,Oh] λOi=>
 k4 [Oi,Dt]) (
 Yq gp eW λDt=>
 Ye Ly Dt λAO=>
 jn (dA λOh=>
 k4 [Oh,gp]) λk5=>
 aB AO (
 Y1 gy eW λXY=>
 ca (bu [XY,Gc]) λOi=>
 Yb gy eW λa68=>
 pv (.put false 1 0 1) [gy,eW,Oi] λa69=>
 k5 [a69]) (
 k5 [gy])))) λk4=>
 aB Og (
 Yx eW λGc=>
 k4 [Gc]) (
 k4 [Gb])))) (
 Ya dI (ii 1) λnq=>
 k1 [nq,gy,g_,gp])) ts
def mD:Option (List T):=
 (dO λez ek=>
 Ym ek (ii 6) λfY=>
 aB fY (
 Yq dX ek λj6=>
 Yt j6 λg_=>
 aB g_ (
 Yq eS ek λgy=>
 Yh gy (ii 0) λgp=>
 aB gp (
 Ye ez (ii 0) λkl=>
 aB kl (
 jn (dA λnq=>
 Ya ek (ii 1) λqR=>
 k2 [nq,qR]) λk3=>
 k3 [ek]) (
 Yq eS ek λqR=>
 Yq eS ez λzv=>
 Yl qR zv λAK=>
 jn (dA λAL=>
 Ya ek (ii 1) λAM=>
 k2 [AL,AM]) λk3=>
 aB AK (
 k3 [ek]) (
 k3 [ez]))) (
 jn (dA λkl=>
 Ya ek (ii 1) λnq=>
 k2 [kl,nq]) λk3=>
 k3 [ez])) (
 jn (dA λeW=>
 Ya ek (ii 1) λgy=>
 k2 [eW,gy]) λk3=>
 k3 [ez])) (
 Ye ez (ii 0) λiM=>
 aB iM (
 Ya (ii 6) (ii 1) λj6=>
 k1 [j6,di,dX,eS]) (
 Yb dX ez λj6=>
 pv (.put true 1 0 1) [dX,ez,bb true] λg_=>
 iter (mC bu a2 br dI ez g_ k1) R [ii 1,di,eS]))) ts
def lU:Option (List T):=
 (Fo λdI di dX eS=>
 Ym dI (ii 6) λeH=>
 aB eH (
 iter (mD R bu a2 br dI di dX eS k1) R [ii 0,ii 1]) (
 iter (mB di dX eS) R [a3,ii 1])) ts
def mE:Option (List T):=
 (dO λcf bV=>
 Ym cf (ii 6) λcD=>
 aB cD (
 Yb bV cf λcO=>
 pv (.put true 1 0 1) [bV,cf,ii (-1)] λcQ=>
 Ya cf (ii 1) λdI=>
 k0 [dI,cQ]) (
 Yb bV a2 λcO=>
 pv (.put true 1 0 1) [bV,a2,ii 0] λcQ=>
 iter (lU R bu a2 a3 br) R [ii 1,bF,bG,cQ])) ts
def DK:Option (List T):=
 pv (.lit 3 []) [] λa3=>
 Fp (cM [a0,a1,a2]) λa4 a5 a6 a7 a8 a9 aQ aV bf=>
 ca (ci [a0]) λbc=>
 Yt bc λaW=>
 aB aW (
 some [a3]) (
 ca (aD [a2,ii 1,ii 6]) λbn=>
 Yt bn λbp=>
 aB bp (
 some [a3]) (
 Yt bf λbw=>
 aB bw (
 some [a3]) (
 ca (iL [a0,a1]) λbr=>
 pv (.mk) [ii 7,ii 7,ii 0] λbA=>
 pv (.mk) [ii 7,ii 7,.l []] λbF=>
 pv (.mk) [ii 7,ii 7,bb false] λbG=>
 iter (mE R bu a2 a3 br bF bG) R [ii 1,bA])))
theorem Zy:kO.den (pick [(90,aD),(101,ci),(128,bu),(130,cM),(131,iL)]) R [] [a0,a1,a2]=DK R ci aD bu iL cM a0 a1 a2:=(ea (by kernel_rfl)).trans (by kernel_rfl)
theorem Zz:uz [a0,a1,a2]=DK rounds rG np n5 FL tV a0 a1 a2:=Zy rounds rG np n5 FL tV a0 a1 a2
def ZA:Option (List T):=
 pv (.lit 1 []) [] λa3=>
 Yp a3 a2 λa4=>
 Yz a1 λa5=>
 Yz a0 λa6=>
 some [a6,a5,a4]
theorem ZB:jI.den (pick []) R [] [a0,a1,a2]=ZA a0 a1 a2:=(ea (by kernel_rfl)).trans (by kernel_rfl)
theorem ZC:zo [a0,a1,a2]=ZA a0 a1 a2:=ZB rounds a0 a1 a2
def Ow:Option (List T):=
 (dO λa2 a3=>
 Yn a0 λa4=>
 Yl a3 a4 λa5=>
 aB a5 (
 Yb a0 a3 λa6=>
 Yc 3 0 a0 a3 λa7=>
 Ye a7 a1 λa8=>
 aB a8 (
 Y3 a0 a3 λaQ aV bf=>
 nl (dx [aQ,aV,bf]) λbc aW bn=>
 Yz (bb true) λbp=>
 Yz aW λbw=>
 Yz bc λbr=>
 some [br,bw,bn,bp]) (
 Ya a3 (ii 1) λa9=>
 k0 [a2,a9])) (
 Yz (bb false) λa6=>
 Yz (ii 0) λa7=>
 Yz (ii 0) λa8=>
 some [a8,a7,.l [],a6])) ts
def DL:Option (List T):=
 iter (Ow dx a0 a1) R [bb false,ii 0]
theorem ZD:mm.den (pick [(132,dx)]) R [] [a0,a1]=DL R dx a0 a1:=(ea (by kernel_rfl)).trans (by kernel_rfl)
theorem ZE:pg [a0,a1]=DL rounds zo a0 a1:=ZD rounds zo a0 a1
def DM:Option (List T):=
 Yl a1 a4 λa6=>
 Yz a6 λa7=>
 some [a7]
theorem ZF:kQ.den (pick []) R [] [a0,a1,a2,a3,a4,a5]=DM a1 a4:=(ea (by kernel_rfl)).trans (by kernel_rfl)
theorem ZG:FN [a0,a1,a2,a3,a4,a5]=DM a1 a4:=ZF rounds a0 a1 a2 a3 a4 a5
def ZH:Option (List T):=
 ca (iE [a0,a1,a2,a3,a4,a5]) λa6=>
 aB a6 (
 nl (dx [a0,a1,a2]) λa7 a8 a9=>
 Yz a8 λaQ=>
 Yz a7 λaV=>
 some [aV,aQ,a9]) (
 ca (iE [a3,a4,a5,a0,a1,a2]) λa7=>
 aB a7 (
 nl (dx [a3,a4,a5]) λa8 a9 aQ=>
 Yz a9 λaV=>
 Yz a8 λbf=>
 some [bf,aV,aQ]) (
 ca (bu [a2,a5]) λa8=>
 Yz a1 λa9=>
 Yz a0 λaQ=>
 some [aQ,a9,a8]))
theorem ZI:iu.den (pick [(128,bu),(132,dx),(133,iE)]) R [] [a0,a1,a2,a3,a4,a5]=ZH iE bu dx a0 a1 a2 a3 a4 a5:=(ea (by kernel_rfl)).trans (by kernel_rfl)
theorem ZJ:zp [a0,a1,a2,a3,a4,a5]=ZH FN n5 zo a0 a1 a2 a3 a4 a5:=ZI rounds FN n5 zo a0 a1 a2 a3 a4 a5
def uE:Option (List T):=
 (ze λbf bc aW bn bp=>
 Yn a1 λbw=>
 Yl bc bw λbr=>
 aB br (
 Y1 a5 bc λbF=>
 gM (aY [bF,aQ]) λbG cf bV cD=>
 Yt cD λcO=>
 aB cO (
 Ya bc (ii 1) λcQ=>
 k2 [bf,cQ,aW,bn,bp]) (
 jn (wh λcQ dI di=>
 Ya bc (ii 1) λdX=>
 k2 [bb true,dX,cQ,dI,di]) λk3=>
 aB bf (
 nl (cw [aW,bn,bp,bG,cf,bV]) λcQ dI di=>
 k3 [cQ,dI,di]) (
 k3 [bG,cf,bV]))) (
 jn (dA λbA=>
 Ya aQ (ii 1) λbF=>
 k1 [bA,bF]) λk3=>
 aB bf (
 pv (.lit 3 []) [aW,bn,bp] λbA=>
 Yo a9 bA λbF=>
 k3 [bF]) (
 k3 [a9]))) ts
def uF:Option (List T):=
 (dO λa9 aQ=>
 Ym aQ (ii 6) λaV=>
 aB aV (
 iter (uE cw aY a1 a5 a9 aQ k1) R [bb false,ii 0,ii 0,ii 0,.l []]) (
 some [a9])) ts
def uG:Option (List T):=
 (dO λa5 a6=>
 Yn a1 λa7=>
 Yl a6 a7 λa8=>
 aB a8 (
 Y1 a1 a6 λaQ=>
 ca (cG [a0,aQ,a2]) λaV=>
 pv (.lit 1 []) [aV] λbf=>
 pv (.app false 1) [a5,bf] λbc=>
 Ya a6 (ii 1) λaW=>
 k0 [bc,aW]) (
 iter (uF R cw aY a1 a5) R [a3,ii 1])) ts
def ZK:Option (List T):=
 pv (.lit 3 []) [] λa3=>
 pv (.lit 1 []) [] λa4=>
 iter (uG R cw aY cG a0 a1 a2 a3) R [a4,ii 0]
theorem ZL:ft.den (pick [(123,cG),(124,aY),(125,cw)]) R [] [a0,a1,a2]=ZK R cw aY cG a0 a1 a2:=(ea (by kernel_rfl)).trans (by kernel_rfl)
theorem ZM:uA [a0,a1,a2]=ZK rounds zp pg uz a0 a1 a2:=ZL rounds zp pg uz a0 a1 a2
def uH:Option (List T):=
 (ze λa9 aQ aV bf bc=>
 Yn a0 λaW=>
 Yl aQ aW λbn=>
 aB bn (
 Y8 a0 aQ λbw br bA bF bG cf bV cD=>
 Yu br (ii 2) λcO=>
 aB cO (
 Ya aQ (ii 1) λcQ=>
 k0 [a9,cQ,aV,bf,bc]) (
 Yu bw a2 λcQ=>
 aB cQ (
 Ya aQ (ii 1) λdI=>
 k0 [a9,dI,aV,bf,bc]) (
 Yu bF a4 λdI=>
 aB dI (
 Ya aQ (ii 1) λdi=>
 k0 [a9,di,aV,bf,bc]) (
 Ye bA a3 λdi=>
 aB di (
 Ya aQ (ii 1) λdX=>
 k0 [a9,dX,aV,bf,bc]) (
 Yh bV (ii 60000) λdX=>
 aB dX (
 Ya aQ (ii 1) λeS=>
 k0 [a9,eS,aV,bf,bc]) (
 gM (aY [a1,bA]) λeS eH ez ek=>
 Yt ek λfY=>
 aB fY (
 Ya aQ (ii 1) λiM=>
 k0 [a9,iM,aV,bf,bc]) (
 Ya eH bV λiM=>
 Yh iM (ii 60000) λj6=>
 aB j6 (
 Ya aQ (ii 1) λg_=>
 k0 [a9,g_,aV,bf,bc]) (
 Ya eH bV λg_=>
 jn (wh λeW gy gp=>
 Ya aQ (ii 1) λkl=>
 k0 [bb true,kl,eW,gy,gp]) λk1=>
 aB a9 (
 nl (cw [aV,bf,bc,a4,g_,ez]) λeW gy gp=>
 k1 [eW,gy,gp]) (
 k1 [a4,g_,ez]))))))))) (
 Yz a9 λbp=>
 Yz bf λbw=>
 Yz aV λbr=>
 some [br,bw,bc,bp])) ts
def ZN:Option (List T):=
 iter (uH cw aY a0 a1 a2 a3 a4) R [a8,ii 0,a5,a6,a7]
theorem ZO:gO.den (pick [(124,aY),(125,cw)]) R [] [a0,a1,a2,a3,a4,a5,a6,a7,a8]=ZN R cw aY a0 a1 a2 a3 a4 a5 a6 a7 a8:=(ea (by kernel_rfl)).trans (by kernel_rfl)
theorem ZP:FO [a0,a1,a2,a3,a4,a5,a6,a7,a8]=ZN rounds zp pg a0 a1 a2 a3 a4 a5 a6 a7 a8:=ZO rounds zp pg a0 a1 a2 a3 a4 a5 a6 a7 a8
def sB:Option (List T):=
 (ze λbF bG cf bV cD=>
 Yn a1 λcO=>
 Yl bG cO λcQ=>
 aB cQ (
 aB a2 (
 Y1 a1 bG λdi=>
 Yu di (ii 0) λdX=>
 aB dX (
 Ya bG (ii 1) λeS=>
 k2 [bF,eS,cf,bV,cD]) (
 Y1 a9 bG λeH=>
 Y1 a1 bG λek=>
 gM (de [a0,eH,ek,a3,aW,cf,bV,cD,bF]) λfY iM j6 g_=>
 Ya bG (ii 1) λeW=>
 k2 [g_,eW,fY,iM,j6])) (
 Y1 a9 bG λdi=>
 Y1 a1 bG λeS=>
 gM (de [a0,di,eS,a3,aW,cf,bV,cD,bF]) λeH ez ek fY=>
 Ya bG (ii 1) λiM=>
 k2 [fY,iM,eH,ez,ek])) (
 jn (dA λdI=>
 Ya aW (ii 1) λdi=>
 k1 [dI,di]) λk3=>
 aB bF (
 pv (.lit 3 []) [cf,bV,cD] λdI=>
 Yo bc dI λdi=>
 k3 [di]) (
 k3 [bc]))) ts
def sC:Option (List T):=
 (dO λbc aW=>
 Ym aW (ii 6) λbn=>
 aB bn (
 gM (aY [a5,aW]) λbp bw br bA=>
 aB bA (
 Ya aW (ii 1) λbF=>
 k1 [bc,bF]) (
 iter (sB de a0 a1 a2 a3 a9 bc aW k1) R [bb false,ii 0,ii 0,ii 0,.l []])) (
 some [bc])) ts
def sD:Option (List T):=
 (dO λa9 aQ=>
 Yn a1 λaV=>
 Yl aQ aV λbf=>
 aB bf (
 Y1 a1 aQ λaW=>
 ca (cG [a0,aW,a3]) λbn=>
 pv (.lit 1 []) [bn] λbp=>
 pv (.app false 1) [a9,bp] λbw=>
 Ya aQ (ii 1) λbr=>
 k0 [bw,br]) (
 iter (sC R aY de a0 a1 a2 a3 a5 a9) R [a4,ii 1])) ts
def ZQ:Option (List T):=
 pv (.lit 3 []) [] λa4=>
 ca (bD [a0,a1,a3]) λa5=>
 ca (ci [a0]) λa6=>
 Yt a6 λa7=>
 aB a7 (
 some [a4]) (
 pv (.lit 1 []) [] λa8=>
 iter (sD R aY cG de a0 a1 a2 a3 a4 a5) R [a8,ii 0])
theorem ZR:fu.den (pick [(101,ci),(112,bD),(123,cG),(124,aY),(126,de)]) R [] [a0,a1,a2,a3]=ZQ R bD ci aY cG de a0 a1 a2 a3:=(ea (by kernel_rfl)).trans (by kernel_rfl)
theorem ZS:zq [a0,a1,a2,a3]=ZQ rounds uA rG pg uz FO a0 a1 a2 a3:=ZR rounds uA rG pg uz FO a0 a1 a2 a3
def sE:Option (List T):=
 (dO λbn bp=>
 Ym bp (ii 6) λbw=>
 aB bw (
 gM (aY [bf,bp]) λbr bA bF bG=>
 aB bG (
 Ya bp (ii 1) λcf=>
 k1 [bn,cf]) (
 Ye bp a2 λcf=>
 aB cf (
 Ya bp (ii 1) λbV=>
 k1 [bn,bV]) (
 gM (aY [bc,bp]) λbV cD cO cQ=>
 Yt cQ λdI=>
 aB dI (
 Yu a3 (ii 0) λdi=>
 jn (Fo λdX eS eH ez=>
 jn (dA λek=>
 Ya bp (ii 1) λfY=>
 k1 [ek,fY]) λk2=>
 aB ez (
 pv (.lit 8 [true,true,true,true,true,false,true,true]) [a3,ii 2,a2,bp,ii 0,.l [],eS,bb false] λek=>
 Yy bn ek λfY=>
 k2 [fY]) (
 k2 [bn])) λk2=>
 aB di (
 gM (aY [aW,bp]) λdX eS eH ez=>
 k2 [dX,eS,eH,ez]) (
 k2 [bV,cD,cO,cQ])) (
 jn (Fo λdi dX eS eH=>
 jn (dA λez=>
 Ya bp (ii 1) λek=>
 k1 [ez,ek]) λk2=>
 aB eH (
 pv (.lit 8 [true,true,true,true,true,false,true,true]) [a3,ii 2,a2,bp,ii 0,.l [],dX,bb false] λez=>
 Yy bn ez λek=>
 k2 [ek]) (
 k2 [bn])) λk2=>
 k2 [bV,cD,cO,cQ])))) (
 some [bn])) ts
def sF:Option (List T):=
 (dO λa8 a9=>
 Yn a1 λaQ=>
 Yl a9 aQ λaV=>
 aB aV (
 Y1 a1 a9 λbc=>
 Yu bc a3 λaW=>
 jn (dA λbn=>
 Ya a9 (ii 1) λbp=>
 k0 [bn,bp]) λk1=>
 aB aW (
 Y1 a1 a9 λbp=>
 Yx bp λbw=>
 Yp a8 bw λbr=>
 k1 [br]) (
 k1 [a8])) (
 ca (cG [a0,a3,a2]) λbf=>
 ca (bD [a0,a8,a2]) λbc=>
 ca (cr [a0,a1,bb true,a2]) λaW=>
 iter (sE aY a2 a3 bf bc aW) R [a4,ii 1])) ts
def DN:Option (List T):=
 pv (.lit 8 []) [] λa4=>
 ca (ci [a0]) λa5=>
 Yt a5 λa6=>
 aB a6 (
 some [a4]) (
 pv (.lit 1 []) [] λa7=>
 iter (sF R cr bD aY cG a0 a1 a2 a3 a4) R [a7,ii 0])
theorem ZT:kR.den (pick [(101,ci),(112,bD),(113,cr),(123,cG),(124,aY)]) R [] [a0,a1,a2,a3]=DN R cr bD ci aY cG a0 a1 a2 a3:=(ea (by kernel_rfl)).trans (by kernel_rfl)
theorem ZU:FP [a0,a1,a2,a3]=DN rounds zq uA rG pg uz a0 a1 a2 a3:=ZT rounds zq uA rG pg uz a0 a1 a2 a3
def LG:Option (List T):=
 (dO λa2 a3=>
 Yn a1 λa4=>
 Yl a3 a4 λa5=>
 aB a5 (
 Y8 a1 a3 λa7 a8 a9 aQ aV bf bc aW=>
 Ye aV (ii 0) λbn=>
 jn (dA λbp=>
 ca (cH [a2,a7,a8,a9,aQ,bp,bf,bc,aW]) λbw=>
 Ya a3 (ii 1) λbr=>
 k0 [bw,br]) λk1=>
 aB bn (
 k1 [ii 1]) (
 k1 [aV])) (
 some [a2])) ts
def ZV:Option (List T):=
 iter (LG cH a1) R [a0,ii 0]
theorem ZW:jJ.den (pick [(110,cH)]) R [] [a0,a1]=ZV R cH a0 a1:=(ea (by kernel_rfl)).trans (by kernel_rfl)
theorem ZX:FQ [a0,a1]=ZV rounds zm a0 a1:=ZW rounds zm a0 a1
def Gi:Option (List T):=
 (dO λa9 aQ=>
 Yn a0 λaV=>
 Yl aQ aV λbf=>
 aB bf (
 Yb a0 aQ λbc=>
 Yc 8 1 a0 aQ λaW=>
 Yu aW (ii 2) λbn=>
 aB bn (
 jn (dA λbp=>
 Ya aQ (ii 1) λbw=>
 k1 [bp,bw]) λk2=>
 Y8 a0 aQ λbw br bA bF bG cf bV cD=>
 pv (.lit 8 []) [bw,br,bA,bF,bG,cf,bV,cD] λcO=>
 Yy a9 cO λcQ=>
 k2 [cQ]) (
 Yb a0 aQ λbp=>
 Yc 8 2 a0 aQ λbw=>
 Yu bw a2 λbr=>
 jn (dA λbA=>
 Ya aQ (ii 1) λbF=>
 k1 [bA,bF]) λk2=>
 aB br (
 Y8 a0 aQ λbF bG cf bV cD cO cQ dI=>
 pv (.lit 8 []) [bF,bG,cf,bV,cD,cO,cQ,dI] λdi=>
 Yy a9 di λdX=>
 k2 [dX]) (
 k2 [a9]))) (
 ca (fD [a9,a4]) λbc=>
 some [bc])) ts
def Gj:Option (List T):=
 (dO λa4 a5=>
 Yn a1 λa6=>
 Yl a5 a6 λa7=>
 aB a7 (
 Y1 a1 a5 λa9=>
 ca (iF [a0,a1,a2,a9]) λaQ=>
 Yy a4 aQ λaV=>
 Ya a5 (ii 1) λbf=>
 k0 [aV,bf]) (
 pv (.lit 8 []) [] λa8=>
 iter (Gi fD a0 a2 a4) R [a8,ii 0])) ts
def ZY:Option (List T):=
 pv (.lit 8 []) [] λa3=>
 iter (Gj R iF fD a0 a1 a2) R [a3,ii 0]
theorem ZZ:gP.den (pick [(121,iF),(122,fD)]) R [] [a0,a1,a2]=ZY R iF fD a0 a1 a2:=(ea (by kernel_rfl)).trans (by kernel_rfl)
theorem Z0:FR [a0,a1,a2]=ZY rounds FP FQ a0 a1 a2:=ZZ rounds FP FQ a0 a1 a2
def Z1:Option (List T):=
 pv (.lit 2 []) [] λa8=>
 pv (.app true 2) [a8,a5] λa9=>
 Yz a7 λaQ=>
 Yz a6 λaV=>
 Yz a4 λbf=>
 Yz a3 λbc=>
 Yz a2 λaW=>
 Yz a1 λbn=>
 Yz a0 λbp=>
 some [bp,bn,aW,bc,bf,a9,aV,aQ]
theorem Z2:jK.den (pick []) R [] [a0,a1,a2,a3,a4,a5,a6,a7]=Z1 a0 a1 a2 a3 a4 a5 a6 a7:=(ea (by kernel_rfl)).trans (by kernel_rfl)
theorem Z3:FT [a0,a1,a2,a3,a4,a5,a6,a7]=Z1 a0 a1 a2 a3 a4 a5 a6 a7:=Z2 rounds a0 a1 a2 a3 a4 a5 a6 a7
def Ox:Option (List T):=
 (dO λa2 a3=>
 Yn a0 λa4=>
 Yl a3 a4 λa5=>
 aB a5 (
 Y8 a0 a3 λa7 a8 a9 aQ aV bf bc aW=>
 N9 (gG [a7,a8,a9,aQ,aV,bf,bc,aW]) λbn bp bw br bA bF bG cf=>
 pv (.lit 8 [true,true,true,true,true,false,true,true]) [bn,bp,bw,br,bA,bF,bG,cf] λbV=>
 Yy a2 bV λcD=>
 Ya a3 (ii 1) λcO=>
 k0 [cD,cO]) (
 some [a2])) ts
def Z4:Option (List T):=
 pv (.lit 8 []) [] λa1=>
 iter (Ox gG a0) R [a1,ii 0]
theorem Z5:fM.den (pick [(96,gG)]) R [] [a0]=Z4 R gG a0:=(ea (by kernel_rfl)).trans (by kernel_rfl)
theorem Z6:FU [a0]=Z4 rounds FT a0:=Z5 rounds FT a0
def m0:Option (List T):=
 (dO λbV cD=>
 Ym cD a0 λcO=>
 aB cO (
 Ys cD (ii 1) λcQ=>
 Y1 a4 cQ λdi=>
 aB di (
 ca (db [a0,a1,a2,cD]) λdX=>
 jn (dA λeS=>
 Ya cD (ii 1) λeH=>
 k3 [eS,eH]) λk4=>
 aB dX (
 ca (bT [a0,a1,a2,cD]) λeS=>
 ca (df [bV,eS,cD]) λeH=>
 k4 [eH]) (
 k4 [bV])) (
 jn (dA λdX=>
 Ya cD (ii 1) λeS=>
 k3 [dX,eS]) λk4=>
 k4 [bV])) (
 Ya bG (ii 1) λcQ=>
 k2 [bV,cQ])) ts
def m4:Option (List T):=
 (dO λbF bG=>
 Yl bG (ii 3) λcf=>
 aB cf (
 iter (m0 bT db df a0 a1 a2 a4 bG k2) R [bF,ii 1]) (
 ca (cV [bF]) λbV=>
 Yz (bb true) λcD=>
 some [bV,cD])) ts
def m5:Option (List T):=
 (dO λbp bw=>
 Yn a2 λbr=>
 Yl bw br λbA=>
 aB bA (
 Y4 a2 bw λbG cf bV cD=>
 Ys bG (ii 1) λcO=>
 Y1 a4 cO λdI=>
 jn (dA λdi=>
 Ya bw (ii 1) λdX=>
 k1 [di,dX]) λk2=>
 aB dI (
 ca (cH [bp,ii 9,ii 3,bG,cf,ii 1,.l [],bV,cD]) λdi=>
 k2 [di]) (
 k2 [bp])) (
 iter (m4 R bT db cV df a0 a1 a2 a4) R [bp,ii 0])) ts
def m6:Option (List T):=
 (dO λcQ dI=>
 Ym cQ a0 λdi=>
 aB di (
 Y1 bp br λeS=>
 ca (eG [a0,a1,a2,a3,aW,cQ,eS]) λeH=>
 Yg eH (ii 0) λez=>
 aB ez (
 Ys cQ (ii 1) λek=>
 Y1 a4 ek λiM=>
 jn (dA λj6=>
 Ya cQ (ii 1) λg_=>
 k2 [g_,j6]) λk3=>
 aB iM (
 pv (.lit 2 [true,true]) [cQ,eH] λj6=>
 pv (.app true 2) [dI,j6] λg_=>
 k3 [g_]) (
 k3 [dI])) (
 jn (dA λek=>
 Ya cQ (ii 1) λfY=>
 k2 [fY,ek]) λk3=>
 k3 [dI])) (
 ca (cH [bw,cO,ii 1,aW,ii 0,ii 1,dI,ii 0,bb false]) λdX=>
 Ya br (ii 1) λeS=>
 k1 [dX,eS])) ts
def m7:Option (List T):=
 (dO λbw br=>
 Yn bp λbA=>
 Yl br bA λbF=>
 aB bF (
 Ys aW (ii 1) λbG=>
 Y1 a4 bG λbV=>
 aB bV (
 Y1 bp br λcO=>
 iter (m6 cH eG a0 a1 a2 a3 a4 aW bp bw br cO k1) R [ii 1,.l []]) (
 Ya aW (ii 1) λcD=>
 k0 [bw,cD])) (
 Ya aW (ii 1) λbG=>
 k0 [bw,bG])) ts
def m8:Option (List T):=
 (dO λbc aW=>
 Ym aW a0 λbn=>
 aB bn (
 ca (bT [a0,a1,a2,aW]) λbp=>
 iter (m7 R cH eG a0 a1 a2 a3 a4 aW bp k0) R [bc,ii 0]) (
 iter (m5 R bT db cV cH df a0 a1 a2 a4) R [bc,ii 0])) ts
def Oy:Option (List T):=
 pv (.lit 8 []) [] λa5=>
 ca (mz [a0,a1,a2]) λa6=>
 Yt a6 λa7=>
 aB a7 (
 Yz (bb false) λa8=>
 some [a5,a8]) (
 Yn a3 λa8=>
 Yn a1 λa9=>
 Yu a8 a9 λaQ=>
 aB aQ (
 Yz (bb false) λaV=>
 some [a5,aV]) (
 Yn a4 λaV=>
 Yu aV a0 λbf=>
 aB bf (
 Yz (bb false) λbc=>
 some [a5,bc]) (
 iter (m8 R bT db cV cH df eG a0 a1 a2 a3 a4) R [a5,ii 1])))
theorem Z7:mo.den (pick [(92,bT),(93,db),(104,cV),(108,mz),(109,eG),(110,cH),(111,df)]) R [] [a0,a1,a2,a3,a4]=Oy R bT db mz cV cH df eG a0 a1 a2 a3 a4:=(ea (by kernel_rfl)).trans (by kernel_rfl)
theorem LH:FV [a0,a1,a2,a3,a4]=Oy rounds uy zn FC FU zm FR FF a0 a1 a2 a3 a4:=Z7 rounds uy zn FC FU zm FR FF a0 a1 a2 a3 a4
def Gk:Option (List T):=
 Ye a2 a3 λa4=>
 aB a4 (
 Yz (bb true) λa5=>
 Yz (ii 0) λa6=>
 Yz a2 λa7=>
 some [a7,a6,.l [],a5]) (
 gM (aY [a0,a2]) λa5 a6 a7 a8=>
 aB a8 (
 Yz (bb true) λa9=>
 Yz a6 λaQ=>
 Yz a5 λaV=>
 some [aV,aQ,a7,a9]) (
 gM (aY [a1,a2]) λa9 aQ aV bf=>
 Yz bf λbc=>
 Yz aQ λaW=>
 Yz a9 λbn=>
 some [bn,aW,aV,bc]))
theorem Z8:iv.den (pick [(124,aY)]) R [] [a0,a1,a2,a3]=Gk aY a0 a1 a2 a3:=(ea (by kernel_rfl)).trans (by kernel_rfl)
theorem Z9:FW [a0,a1,a2,a3]=Gk pg a0 a1 a2 a3:=Z8 rounds pg a0 a1 a2 a3
def iN:Option (List T):=
 (N7 λa6 a7 a8 a9 aQ aV=>
 Yn a0 λbf=>
 Yl a7 bf λbc=>
 aB bc (
 Y8 a0 a7 λbn bp bw br bA bF bG cf=>
 Yu bp (ii 3) λbV=>
 aB bV (
 Ya a7 (ii 1) λcD=>
 k0 [a6,cD,a8,a9,aQ,aV]) (
 Yu br a3 λcD=>
 aB cD (
 Ya a7 (ii 1) λcO=>
 k0 [a6,cO,a8,a9,aQ,aV]) (
 pv (.bb .neq) [cf,a5] λcO=>
 aB cO (
 Ya a7 (ii 1) λcQ=>
 k0 [a6,cQ,a8,a9,aQ,aV]) (
 Yh bG (ii 60000) λcQ=>
 aB cQ (
 Ya a7 (ii 1) λdI=>
 k0 [a6,dI,a8,a9,aQ,aV]) (
 gM (fX [a1,a2,bw,a4]) λdI di dX eS=>
 Yt eS λeH=>
 aB eH (
 Ya a7 (ii 1) λez=>
 k0 [a6,ez,a8,a9,aQ,aV]) (
 Ya di bG λez=>
 jn (wh λek fY iM=>
 Yt a6 λj6=>
 aB j6 (
 jn (wh λg_ eW gy=>
 Ya a7 (ii 1) λgp=>
 k0 [bb true,gp,ek,g_,eW,gy]) λk1=>
 pv (.lit 1 []) [] λg_=>
 ca (bu [g_,dX]) λeW=>
 k1 [fY,iM,eW]) (
 Yl iM aQ λg_=>
 aB g_ (
 jn (wh λeW gy gp=>
 Ya a7 (ii 1) λkl=>
 k0 [bb true,kl,ek,eW,gy,gp]) λk1=>
 pv (.lit 1 []) [] λeW=>
 ca (bu [eW,dX]) λgy=>
 k1 [fY,iM,gy]) (
 Ye iM aQ λeW=>
 aB eW (
 Yl fY a9 λgy=>
 jn (wh λgp kl nq=>
 Ya a7 (ii 1) λqR=>
 k0 [bb true,qR,ek,gp,kl,nq]) λk1=>
 aB gy (
 pv (.lit 1 []) [] λgp=>
 ca (bu [gp,dX]) λkl=>
 k1 [fY,iM,kl]) (
 Ye iM aQ λgp=>
 aB gp (
 Ye fY a9 λkl=>
 jn (dA λnq=>
 k1 [a9,aQ,nq]) λk2=>
 aB kl (
 ca (bu [aV,dX]) λnq=>
 k2 [nq]) (
 k2 [aV])) (
 jn (dA λkl=>
 k1 [a9,aQ,kl]) λk2=>
 k2 [aV]))) (
 jn (wh λgy gp kl=>
 Ya a7 (ii 1) λnq=>
 k0 [bb true,nq,ek,gy,gp,kl]) λk1=>
 Ye iM aQ λgy=>
 aB gy (
 Ye fY a9 λgp=>
 jn (dA λkl=>
 k1 [a9,aQ,kl]) λk2=>
 aB gp (
 ca (bu [aV,dX]) λkl=>
 k2 [kl]) (
 k2 [aV])) (
 jn (dA λgp=>
 k1 [a9,aQ,gp]) λk2=>
 k2 [aV]))))) λk1=>
 aB a5 (
 k1 [ii 4,di,bG]) (
 k1 [a8,ez,ii 0]))))))) (
 Yz a6 λaW=>
 Yz aQ λbn=>
 Yz a9 λbp=>
 Yz a8 λbw=>
 Yz a3 λbr=>
 Yz (bb true) λbA=>
 some [bA,br,bw,bp,bn,aV,aW])) ts
def Oz:Option (List T):=
 iter (iN bu fX a0 a1 a2 a3 a4 a5) R [bb false,ii 0,ii 3,ii 0,ii 0,.l []]
theorem Z_:iw.den (pick [(127,fX),(128,bu)]) R [] [a0,a1,a2,a3,a4,a5]=Oz R bu fX a0 a1 a2 a3 a4 a5:=(ea (by kernel_rfl)).trans (by kernel_rfl)
theorem LI:Dl [a0,a1,a2,a3,a4,a5]=Oz rounds n5 FW a0 a1 a2 a3 a4 a5:=Z_ rounds n5 FW a0 a1 a2 a3 a4 a5
def ww:Option (List T):=
 (dO λbw br=>
 Ym br (ii 9) λbA=>
 aB bA (
 KI (dz [a0,a5,a6,br,a3,bb false]) λbF bG cf bV cD cO cQ=>
 Yt cQ λdI=>
 jn (N8 λdi dX eS eH ez ek fY=>
 jn (dA λiM=>
 Ya br (ii 1) λj6=>
 k2 [iM,j6]) λk3=>
 aB fY (
 pv (.lit 1 []) [] λiM=>
 Yp iM ek λj6=>
 pv (.lit 6 [true,true,true,true,true,false]) [di,dX,eS,eH,ez,j6] λg_=>
 pv (.app false 6) [bw,g_] λeW=>
 k3 [eW]) (
 k3 [bw])) λk3=>
 aB dI (
 KI (dz [a0,a5,a6,br,a3,bb true]) λdi dX eS eH ez ek fY=>
 k3 [di,dX,eS,eH,ez,ek,fY]) (
 k3 [bF,bG,cf,bV,cD,cO,cQ])) (
 some [bw])) ts
def wx:Option (List T):=
 (dO λbc aW=>
 Yn a6 λbn=>
 Yl aW bn λbp=>
 aB bp (
 Yb a6 aW λbw=>
 Yc 3 0 a6 aW λbr=>
 Yu br a3 λbA=>
 jn (dA λbF=>
 Ya aW (ii 1) λbG=>
 k1 [bF,bG]) λk2=>
 aB bA (
 Yb a6 aW λbF=>
 Yc 3 0 a6 aW λbG=>
 Yb a6 aW λcf=>
 Yc 3 1 a6 aW λbV=>
 Yb a6 aW λcD=>
 Yc 3 2 a6 aW λcO=>
 pv (.lit 6 []) [bb false,bG,ii 2,bV,ii 0,cO] λcQ=>
 pv (.app false 6) [bc,cQ] λdI=>
 k2 [dI]) (
 k2 [bc])) (
 iter (ww dz a0 a3 a5 a6) R [bc,ii 1])) ts
def wy:Option (List T):=
 (dO λa9 aQ=>
 Yn a5 λaV=>
 Yl aQ aV λbf=>
 aB bf (
 Yb a5 aQ λbc=>
 Yc 3 0 a5 aQ λaW=>
 Yu aW a3 λbn=>
 jn (dA λbp=>
 Ya aQ (ii 1) λbw=>
 k0 [bp,bw]) λk1=>
 aB bn (
 Yb a5 aQ λbp=>
 Yc 3 0 a5 aQ λbw=>
 Yb a5 aQ λbr=>
 Yc 3 1 a5 aQ λbA=>
 Yb a5 aQ λbF=>
 Yc 3 2 a5 aQ λbG=>
 pv (.lit 6 []) [bb false,bw,ii 1,bA,ii 0,bG] λcf=>
 pv (.app false 6) [a9,cf] λbV=>
 k1 [bV]) (
 k1 [a9])) (
 iter (wx R dz a0 a3 a5 a6) R [a9,ii 0])) ts
def jP_:Option (List T):=
 pv (.lit 6 []) [] λa4=>
 ca (bD [a0,a1,a3]) λa5=>
 ca (cr [a0,a1,a2,a3]) λa6=>
 ca (ci [a0]) λa7=>
 Yt a7 λa8=>
 aB a8 (
 some [a4]) (
 iter (wy R dz a0 a3 a5 a6) R [a4,ii 0])
theorem aad:iy.den (pick [(101,ci),(112,bD),(113,cr),(114,dz)]) R [] [a0,a1,a2,a3]=jP_ R cr bD ci dz a0 a1 a2 a3:=(ea (by kernel_rfl)).trans (by kernel_rfl)
theorem aae:FX [a0,a1,a2,a3]=jP_ rounds zq uA rG Dl a0 a1 a2 a3:=aad rounds zq uA rG Dl a0 a1 a2 a3
def OA:Option (List T):=
 Fm (my [a0,a1,a2,a3,a4]) λa6 a7=>
 Yt a7 λa8=>
 aB a8 (
 pv (.lit 6 []) [] λa9=>
 some [a9]) (
 ca (aD [a5,ii 1,a0]) λa9=>
 Yt a9 λaQ=>
 aB aQ (
 pv (.lit 6 []) [] λaV=>
 some [aV]) (
 Ys a5 (ii 1) λaV=>
 Y1 a4 aV λbc=>
 Yt bc λaW=>
 aB aW (
 pv (.lit 6 []) [] λbn=>
 some [bn]) (
 ca (bT [a0,a1,a2,a5]) λbn=>
 ca (db [a0,a1,a2,a5]) λbp=>
 ca (iJ [a6,bn,bp,a5]) λbw=>
 some [bw])))
theorem aaf:gk.den (pick [(89,my),(90,aD),(91,iJ),(92,bT),(93,db)]) R [] [a0,a1,a2,a3,a4,a5]=OA bT db my iJ aD a0 a1 a2 a3 a4 a5:=(ea (by kernel_rfl)).trans (by kernel_rfl)
theorem LJ:Dm [a0,a1,a2,a3,a4,a5]=OA uy zn FV FX np a0 a1 a2 a3 a4 a5:=aaf rounds uy zn FV FX np a0 a1 a2 a3 a4 a5
def tW:Option (List T):=
 (dO λbA bF=>
 Yn bF λbG=>
 Yl bA bG λcf=>
 aB cf (
 Yb bF bA λbV=>
 pv (.put true 1 0 1) [bF,bA,bb true] λcD=>
 Ya bA (ii 1) λcO=>
 k1 [cO,cD]) (
 gM (aH [bc,aW,bn,a3]) λbV cD cO cQ=>
 Ya (ii 1) bV λdI=>
 ca (dV [a3,a4,a5,bp,bF,dI]) λdi=>
 Yn di λdX=>
 Yg dX (ii 0) λeS=>
 aB eS (
 gM (bE [cD,cO,cQ,ii 6]) λeH ez ek fY=>
 jn (dA λiM=>
 some [iM,ez,ek,fY]) λk2=>
 aB eH (
 Yb di (ii 0) λiM=>
 Yc 6 0 di (ii 0) λj6=>
 Yc 6 1 di (ii 0) λg_=>
 Yc 6 2 di (ii 0) λeW=>
 Yc 6 3 di (ii 0) λgy=>
 Yc 6 4 di (ii 0) λgp=>
 Yc 6 5 di (ii 0) λkl=>
 pv (.lit 6 []) [j6,g_,eW,gy,gp,kl] λnq=>
 pv (.app false 6) [di,nq] λqR=>
 k2 [qR]) (
 k2 [di])) (
 jn (dA λeH=>
 some [eH,cD,cO,cQ]) λk2=>
 k2 [di]))) ts
def xj:Option (List T):=
 (ze λbf bc aW bn bp=>
 Yn bp λbw=>
 Yl bf bw λbr=>
 aB br (
 gM (bE [bc,aW,bn,ii 8]) λbA bF bG cf=>
 Yt bA λbV=>
 Yb bp bf λcD=>
 pv (.put true 1 0 1) [bp,bf,bV] λcO=>
 Ya bf (ii 1) λcQ=>
 k0 [cQ,bF,bG,cf,cO]) (
 iter (tW dV aH bE a3 a4 a5 bc aW bn bp) R [ii 0,aV])) ts
def qZ_:Option (List T):=
 N6 (ld [a0,a1,a2]) λa3 a4 a5 a6 a7 a8=>
 Yn a4 λa9=>
 pv (.mk) [a9,a9,bb false] λaQ=>
 pv (.mk) [a3,a3,bb false] λaV=>
 iter (xj R dV aH bE a3 a4 a5 aV) R [ii 0,a6,a7,a8,aQ]
theorem aah:gQ.den (pick [(50,aH),(60,bE),(63,ld),(64,dV)]) R [] [a0,a1,a2]=qZ_ R dV aH bE ld a0 a1 a2:=(ea (by kernel_rfl)).trans (by kernel_rfl)
theorem aai:zr [a0,a1,a2]=qZ_ rounds Dm qQ tU FA a0 a1 a2:=aah rounds Dm qQ tU FA a0 a1 a2
def Gl:Option (List T):=
 (dO λa4 a5=>
 Yn a0 λa6=>
 Yl a5 a6 λa7=>
 aB a7 (
 Yb a0 a5 λa8=>
 Yc 3 0 a0 a5 λa9=>
 pv (.bb .eql) [a9,a1] λaQ=>
 aB aQ (
 Yb a0 a5 λaV=>
 Yc 3 1 a0 a5 λbf=>
 Ye bf a2 λbc=>
 aB bc (
 Yz a5 λaW=>
 some [aW]) (
 Ya a5 (ii 1) λaW=>
 k0 [a4,aW])) (
 Ya a5 (ii 1) λaV=>
 k0 [a4,aV])) (
 Yz (ii (-1)) λa8=>
 some [a8])) ts
def DO:Option (List T):=
 iter (Gl a0 a1 a2) R [ii 0,ii 0]
theorem aaj:mq.den (pick []) R [] [a0,a1,a2,a3]=DO R a0 a1 a2:=(ea (by kernel_rfl)).trans (by kernel_rfl)
theorem aak:rH [a0,a1,a2,a3]=DO rounds a0 a1 a2:=aaj rounds a0 a1 a2 a3
def kM_:Option (List T):=
 pv (.lit 1 []) [] λa3=>
 Yp a3 a2 λa4=>
 Yz a1 λa5=>
 Yz a0 λa6=>
 some [a6,a5,a4]
theorem aam:jL.den (pick []) R [] [a0,a1,a2]=kM_ a0 a1 a2:=(ea (by kernel_rfl)).trans (by kernel_rfl)
theorem aan:uB [a0,a1,a2]=kM_ a0 a1 a2:=aam rounds a0 a1 a2
def LK:Option (List T):=
 (dO λa2 a3=>
 Yn a0 λa4=>
 Yl a3 a4 λa5=>
 aB a5 (
 Yb a0 a3 λa6=>
 Yc 6 0 a0 a3 λa7=>
 Yb a0 a3 λa8=>
 Yc 6 1 a0 a3 λa9=>
 Yb a0 a3 λaQ=>
 Yc 6 5 a0 a3 λaV=>
 ca (bI [a2,a7,a9,aV]) λbf=>
 Yl bf (ii 0) λbc=>
 jn (dA λaW=>
 Ya a3 (ii 1) λbn=>
 k0 [aW,bn]) λk1=>
 aB bc (
 nl (aU [a7,a9,aV]) λaW bn bp=>
 pv (.lit 3 [true,true,false]) [aW,bn,bp] λbw=>
 Yo a2 bw λbr=>
 k1 [br]) (
 k1 [a2])) (
 some [a2])) ts
def kH_:Option (List T):=
 pv (.lit 3 []) [] λa1=>
 iter (LK bI aU a0) R [a1,ii 0]
theorem aap:jM.den (pick [(29,bI),(33,aU)]) R [] [a0]=kH_ R bI aU a0:=(ea (by kernel_rfl)).trans (by kernel_rfl)
theorem aaq:zt [a0]=kH_ rounds rH uB a0:=aap rounds rH uB a0
def LL:Option (List T):=
 (dO λa7 a8=>
 Yn a1 λa9=>
 Yl a8 a9 λaQ=>
 aB aQ (
 Y4 a1 a8 λbf bc aW bn=>
 ca (bI [a7,bc,aW,bn]) λbp=>
 aB bf (
 Yh bp (ii 0) λbw=>
 jn (dA λbr=>
 Ya a8 (ii 1) λbA=>
 k1 [br,bA]) λk2=>
 aB bw (
 pv (.lit 3 []) [] λbr=>
 pv (.sub 3 false true) [a7,bp] λbA=>
 pv (.rZ) [a7,ii 0,bA] λbF=>
 Yo br bA λbG=>
 Ya bp (ii 1) λcf=>
 pv (.sub 3 true false) [a7,cf] λbV=>
 pv (.rZ) [bF,cf,bV] λcD=>
 Yo bG bV λcO=>
 k2 [cO]) (
 Yt bf λbr=>
 aB br (
 Yh bp (ii 0) λbA=>
 jn (dA λbF=>
 k2 [bF]) λk3=>
 aB bA (
 nl (aU [bc,aW,bn]) λbF bG cf=>
 Yb a7 bp λbV=>
 pv (.iX [true,true,false] 3 0) [a7,bp,bF,bG,cf] λcD=>
 k3 [cD]) (
 Yt bf λbF=>
 jn (dA λbG=>
 k3 [bG]) λk4=>
 aB bF (
 nl (aU [bc,aW,bn]) λbG cf bV=>
 pv (.lit 3 [true,true,false]) [bG,cf,bV] λcD=>
 Yo a7 cD λcO=>
 k4 [cO]) (
 k4 [a7]))) (
 jn (dA λbA=>
 k2 [bA]) λk3=>
 Yt bf λbA=>
 jn (dA λbF=>
 k3 [bF]) λk4=>
 aB bA (
 nl (aU [bc,aW,bn]) λbF bG cf=>
 pv (.lit 3 [true,true,false]) [bF,bG,cf] λbV=>
 Yo a7 bV λcD=>
 k4 [cD]) (
 k4 [a7])))) (
 jn (dA λbw=>
 Ya a8 (ii 1) λbr=>
 k1 [bw,br]) λk2=>
 Yt bf λbw=>
 aB bw (
 Yh bp (ii 0) λbr=>
 jn (dA λbA=>
 k2 [bA]) λk3=>
 aB br (
 nl (aU [bc,aW,bn]) λbA bF bG=>
 Yb a7 bp λcf=>
 pv (.iX [true,true,false] 3 0) [a7,bp,bA,bF,bG] λbV=>
 k3 [bV]) (
 Yt bf λbA=>
 jn (dA λbF=>
 k3 [bF]) λk4=>
 aB bA (
 nl (aU [bc,aW,bn]) λbF bG cf=>
 pv (.lit 3 [true,true,false]) [bF,bG,cf] λbV=>
 Yo a7 bV λcD=>
 k4 [cD]) (
 k4 [a7]))) (
 jn (dA λbr=>
 k2 [br]) λk3=>
 Yt bf λbr=>
 jn (dA λbA=>
 k3 [bA]) λk4=>
 aB br (
 nl (aU [bc,aW,bn]) λbA bF bG=>
 pv (.lit 3 [true,true,false]) [bA,bF,bG] λcf=>
 Yo a7 cf λbV=>
 k4 [bV]) (
 k4 [a7])))) (
 some [a7])) ts
def LM:Option (List T):=
 (dO λa3 a4=>
 Yn a0 λa5=>
 Yl a4 a5 λa6=>
 aB a6 (
 Y3 a0 a4 λa8 a9 aQ=>
 nl (aU [a8,a9,aQ]) λaV bf bc=>
 pv (.lit 3 [true,true,false]) [aV,bf,bc] λaW=>
 Yo a3 aW λbn=>
 Ya a4 (ii 1) λbp=>
 k0 [bn,bp]) (
 iter (LL bI aU a1) R [a3,ii 0])) ts
def DP:Option (List T):=
 pv (.lit 3 []) [] λa2=>
 iter (LM R bI aU a0 a1) R [a2,ii 0]
theorem aar:mr.den (pick [(29,bI),(33,aU)]) R [] [a0,a1]=DP R bI aU a0 a1:=(ea (by kernel_rfl)).trans (by kernel_rfl)
theorem aas:FY [a0,a1]=DP rounds rH uB a0 a1:=aar rounds rH uB a0 a1
def xk:Option (List T):=
 (dO λa3 a4=>
 Yn a0 λa5=>
 Yl a4 a5 λa6=>
 aB a6 (
 Yl a4 (ii 4000) λa7=>
 aB a7 (
 pv (.bin .mul) [a3,ii 131] λa8=>
 Y1 a0 a4 λaQ=>
 pv (.wR .i64) [aQ] λaV=>
 Ya a8 aV λbf=>
 Ya bf (ii 7) λbc=>
 pv (.bin .and) [bc,ii 1073741823] λaW=>
 Ya a4 (ii 1) λbn=>
 k0 [aW,bn]) (
 gM (bL [a0,ii 0,a3]) λa8 a9 aQ aV=>
 ca (cL [a8]) λbf=>
 gM (bL [a9,aQ,aV]) λbc aW bn bp=>
 ca (cL [bc]) λbw=>
 gM (bE [aW,bn,bp,ii 3]) λbr bA bF bG=>
 jn (dA λcf=>
 some [bf,cf]) λk1=>
 aB br (
 pv (.lit 4 []) [] λcf=>
 ca (gY [bf,cf]) λbV=>
 Yn bV λcD=>
 Yg cD (ii 0) λcO=>
 jn (dA λcQ=>
 k1 [cQ]) λk2=>
 aB cO (
 Yb bV (ii 0) λcQ=>
 pv (.jj 3 2) [bV,ii 0] λdI=>
 Yx (ii 6) λdi=>
 pv (.jj 3 2) [bV,ii 0] λdX=>
 Yp dX di λeS=>
 Yb bV (ii 0) λeH=>
 pv (.put false 3 2 1) [bV,ii 0,eS] λez=>
 k2 [ez]) (
 k2 [bV])) (
 k1 [bw]))) (
 gM (bL [a0,ii 0,a3]) λa7 a8 a9 aQ=>
 ca (cL [a7]) λaV=>
 gM (bL [a8,a9,aQ]) λbf bc aW bn=>
 ca (cL [bf]) λbp=>
 gM (bE [bc,aW,bn,ii 3]) λbw br bA bF=>
 jn (dA λbG=>
 some [aV,bG]) λk1=>
 aB bw (
 pv (.lit 4 []) [] λbG=>
 ca (gY [aV,bG]) λcf=>
 Yn cf λbV=>
 Yg bV (ii 0) λcD=>
 jn (dA λcO=>
 k1 [cO]) λk2=>
 aB cD (
 Yb cf (ii 0) λcO=>
 pv (.jj 3 2) [cf,ii 0] λcQ=>
 Yx (ii 6) λdI=>
 pv (.jj 3 2) [cf,ii 0] λdi=>
 Yp di dI λdX=>
 Yb cf (ii 0) λeS=>
 pv (.put false 3 2 1) [cf,ii 0,dX] λeH=>
 k2 [eH]) (
 k2 [cf])) (
 k1 [bp]))) ts
def DQ:Option (List T):=
 Yn a0 λa1=>
 Ya (ii 13901) a1 λa2=>
 iter (xk gY cL bE bL a0) R [a2,ii 0]
theorem aat:kU.den (pick [(13,cL),(31,bL),(60,bE),(61,gY)]) R [] [a0]=DQ R gY cL bE bL a0:=(ea (by kernel_rfl)).trans (by kernel_rfl)
theorem aau:FZ [a0]=DQ rounds FY zt tU zr a0:=aat rounds FY zt tU zr a0
def qp_:Option (List T):=
 Fm (lg [a0]) λa1 a2=>
 some [a1,a2]
theorem aaw:gm.den (pick [(24,lg)]) R [] [a0]=qp_ lg a0:=(ea (by kernel_rfl)).trans (by kernel_rfl)
theorem aax:F0 [a0]=qp_ FZ a0:=aaw rounds FZ a0
def Gm:Option (List T):=
 (dO λa5 a6=>
 Yl a6 a4 λa7=>
 aB a7 (
 Y3 a0 a6 λa9 aQ aV=>
 pv (.bb .eql) [a9,a1] λbf=>
 aB bf (
 Ye aQ a2 λbc=>
 aB bc (
 Yz a6 λaW=>
 some [aW]) (
 Ya a6 (ii 1) λaW=>
 k0 [a5,aW])) (
 Ya a6 (ii 1) λbc=>
 k0 [a5,bc])) (
 Yz (ii (-1)) λa8=>
 some [a8])) ts
def DR:Option (List T):=
 Yn a0 λa4=>
 iter (Gm a0 a1 a2 a4) R [ii 0,ii 0]
theorem aay:kV.den (pick []) R [] [a0,a1,a2,a3]=DR R a0 a1 a2:=(ea (by kernel_rfl)).trans (by kernel_rfl)
theorem aaz:uC [a0,a1,a2,a3]=DR rounds a0 a1 a2:=aay rounds a0 a1 a2 a3
def OB:Option (List T):=
 (dO λa6 a7=>
 Yl a7 a5 λa8=>
 aB a8 (
 Y1 a0 a7 λaQ=>
 Y1 a1 a7 λbf=>
 Yu aQ bf λbc=>
 aB bc (
 Yz (bb false) λaW=>
 some [aW]) (
 Ya a7 (ii 1) λaW=>
 k0 [a6,aW])) (
 Yz (bb true) λa9=>
 some [a9])) ts
def jI_:Option (List T):=
 Yn a0 λa2=>
 Yn a1 λa3=>
 Yu a2 a3 λa4=>
 aB a4 (
 Yz (bb false) λa5=>
 some [a5]) (
 Yn a0 λa5=>
 iter (OB a0 a1 a5) R [bb false,ii 0])
theorem aaB:iz.den (pick []) R [] [a0,a1]=jI_ R a0 a1:=(ea (by kernel_rfl)).trans (by kernel_rfl)
theorem aaC:xi [a0,a1]=jI_ rounds a0 a1:=aaB rounds a0 a1
def jY_:Option (List T):=
 Yp (.l []) a0 λa1=>
 some [a1]
theorem aaE:iA.den (pick []) R [] [a0]=jY_ a0:=(ea (by kernel_rfl)).trans (by kernel_rfl)
theorem aaF:F1 [a0]=jY_ a0:=aaE rounds a0
def jC_:Option (List T):=
 ca (iD [a2]) λa3=>
 Yz a1 λa4=>
 Yz a0 λa5=>
 some [a5,a4,a3]
theorem aaH:iB.den (pick [(62,iD)]) R [] [a0,a1,a2]=jC_ iD a0 a1 a2:=(ea (by kernel_rfl)).trans (by kernel_rfl)
theorem aaI:uD [a0,a1,a2]=jC_ F1 a0 a1 a2:=aaH rounds F1 a0 a1 a2
def zw:Option (List T):=
 (dO λa7 a8=>
 Yl a8 a6 λa9=>
 aB a9 (
 Y3 a1 a8 λaV bf bc=>
 ca (b9 [a0,aV,bf,bc]) λaW=>
 Yl aW (ii 0) λbn=>
 aB bn (
 jn (dA λbp=>
 Ya a8 (ii 1) λbw=>
 k1 [bp,bw]) λk2=>
 nl (bk [aV,bf,bc]) λbp bw br=>
 pv (.lit 4 [true,true,true,false]) [bb false,bp,bw,br] λbA=>
 pv (.app false 4) [a7,bA] λbF=>
 k2 [bF]) (
 Yb a0 aW λbp=>
 Yc 3 2 a0 aW λbw=>
 ca (b8 [bw,bc]) λbr=>
 Yt br λbA=>
 jn (dA λbF=>
 Ya a8 (ii 1) λbG=>
 k1 [bF,bG]) λk2=>
 aB bA (
 nl (bk [aV,bf,bc]) λbF bG cf=>
 pv (.lit 4 [true,true,true,false]) [bb false,bF,bG,cf] λbV=>
 pv (.app false 4) [a7,bV] λcD=>
 k2 [cD]) (
 k2 [a7]))) (
 some [a7])) ts
def zx:Option (List T):=
 (dO λa3 a4=>
 Yl a4 a2 λa5=>
 aB a5 (
 Y3 a0 a4 λa7 a8 a9=>
 ca (b9 [a1,a7,a8,a9]) λaQ=>
 Yl aQ (ii 0) λaV=>
 jn (dA λbf=>
 Ya a4 (ii 1) λbc=>
 k0 [bf,bc]) λk1=>
 aB aV (
 pv (.lit 4 [true,true,true,false]) [bb true,a7,a8,.l []] λbf=>
 pv (.app false 4) [a3,bf] λbc=>
 k1 [bc]) (
 k1 [a3])) (
 Yn a1 λa6=>
 iter (zw bk b9 b8 a0 a1 a6) R [a3,ii 0])) ts
def DS:Option (List T):=
 Yn a0 λa2=>
 iter (zx R bk b9 b8 a0 a1 a2) R [.l [],ii 0]
theorem aaJ:kW.den (pick [(25,b9),(26,b8),(27,bk)]) R [] [a0,a1]=DS R bk b9 b8 a0 a1:=(ea (by kernel_rfl)).trans (by kernel_rfl)
theorem aaK:F2 [a0,a1]=DS rounds uD uC xi a0 a1:=aaJ rounds uD uC xi a0 a1
def uI:Option (List T):=
 (dO λbw br=>
 Yl br bp λbA=>
 aB bA (
 Y3 a7 br λbG cf bV=>
 pv (.bb .neq) [bG,bf] λcD=>
 aB cD (
 jn (dA λcO=>
 Ya br (ii 1) λcQ=>
 k3 [cO,cQ]) λk4=>
 pv (.lit 3 []) [bG,cf,bV] λcO=>
 Yo bw cO λcQ=>
 k4 [cQ]) (
 Yu cf bc λcO=>
 jn (dA λcQ=>
 Ya br (ii 1) λdI=>
 k3 [cQ,dI]) λk4=>
 aB cO (
 pv (.lit 3 []) [bG,cf,bV] λcQ=>
 Yo bw cQ λdI=>
 k4 [dI]) (
 k4 [bw]))) (
 k2 [bw])) ts
def uJ:Option (List T):=
 (dO λa7 a8=>
 Yl a8 a6 λa9=>
 aB a9 (
 Y4 a1 a8 λaV bf bc aW=>
 ca (b9 [a7,bf,bc,aW]) λbn=>
 jn (dA λbp=>
 Ya a8 (ii 1) λbw=>
 k1 [bp,bw]) λk2=>
 aB aV (
 Yn a7 λbp=>
 iter (uI a7 bf bc bp k2) R [.l [],ii 0]) (
 Yh bn (ii 0) λbp=>
 jn (dA λbw=>
 k2 [bw]) λk3=>
 aB bp (
 nl (bk [bf,bc,aW]) λbw br bA=>
 Yb a7 bn λbF=>
 pv (.put false 3 0 3) [a7,bn,bw,br,bA] λbG=>
 k3 [bG]) (
 nl (bk [bf,bc,aW]) λbw br bA=>
 pv (.lit 3 [true,true,false]) [bw,br,bA] λbF=>
 Yo a7 bF λbG=>
 k3 [bG]))) (
 some [a7])) ts
def uK:Option (List T):=
 (dO λa3 a4=>
 Yl a4 a2 λa5=>
 aB a5 (
 Y3 a0 a4 λa7 a8 a9=>
 nl (bk [a7,a8,a9]) λaQ aV bf=>
 pv (.lit 3 [true,true,false]) [aQ,aV,bf] λbc=>
 Yo a3 bc λaW=>
 Ya a4 (ii 1) λbn=>
 k0 [aW,bn]) (
 Yn a1 λa6=>
 iter (uJ R bk b9 a1 a6) R [a3,ii 0])) ts
def DT:Option (List T):=
 Yn a0 λa2=>
 iter (uK R bk b9 a0 a1 a2) R [.l [],ii 0]
theorem aaL:mu.den (pick [(25,b9),(27,bk)]) R [] [a0,a1]=DT R bk b9 a0 a1:=(ea (by kernel_rfl)).trans (by kernel_rfl)
theorem aaM:F3 [a0,a1]=DT rounds uD uC a0 a1:=aaL rounds uD uC a0 a1
def qv:Option (List T):=
 (dO λbn bp=>
 Yl bp aW λbw=>
 aB bw (
 Y3 a1 bp λbA bF bG=>
 pv (.bb .eql) [a7,bA] λcf=>
 aB cf (
 Ye a8 bF λbV=>
 aB bV (
 ca (b8 [a9,bG]) λcD=>
 jn (dA λcO=>
 Ya bp (ii 1) λcQ=>
 k2 [cO,cQ]) λk3=>
 aB cD (
 Ys bn (ii 1) λcO=>
 k3 [cO]) (
 k3 [bn])) (
 jn (dA λcD=>
 Ya bp (ii 1) λcO=>
 k2 [cD,cO]) λk3=>
 k3 [bn])) (
 jn (dA λbV=>
 Ya bp (ii 1) λcD=>
 k2 [bV,cD]) λk3=>
 k3 [bn])) (
 Yu bn (ii 0) λbr=>
 aB br (
 Yz (bb false) λbA=>
 some [bA]) (
 Ya a4 (ii 1) λbA=>
 k0 [a3,bA]))) ts
def qS:Option (List T):=
 (dO λaV bf=>
 Yl bf aQ λbc=>
 aB bc (
 Y3 a0 bf λbn bp bw=>
 pv (.bb .eql) [a7,bn] λbr=>
 aB br (
 Ye a8 bp λbA=>
 aB bA (
 ca (b8 [a9,bw]) λbF=>
 jn (dA λbG=>
 Ya bf (ii 1) λcf=>
 k1 [bG,cf]) λk2=>
 aB bF (
 Ya aV (ii 1) λbG=>
 k2 [bG]) (
 k2 [aV])) (
 jn (dA λbF=>
 Ya bf (ii 1) λbG=>
 k1 [bF,bG]) λk2=>
 k2 [aV])) (
 jn (dA λbA=>
 Ya bf (ii 1) λbF=>
 k1 [bA,bF]) λk2=>
 k2 [aV])) (
 Yn a1 λaW=>
 iter (qv b8 a1 a3 a4 a7 a8 a9 aW k0) R [aV,ii 0])) ts
def qT:Option (List T):=
 (dO λa3 a4=>
 Yl a4 a2 λa5=>
 aB a5 (
 Y3 a0 a4 λa7 a8 a9=>
 Yn a0 λaQ=>
 iter (qS R b8 a0 a1 a3 a4 a7 a8 a9 aQ k0) R [ii 0,ii 0]) (
 Yz (bb true) λa6=>
 some [a6])) ts
def DU:Option (List T):=
 Yn a0 λa2=>
 iter (qT R b8 a0 a1 a2) R [bb false,ii 0]
theorem aaN:kX.den (pick [(26,b8)]) R [] [a0,a1]=DU R b8 a0 a1:=(ea (by kernel_rfl)).trans (by kernel_rfl)
theorem aaO:F4 [a0,a1]=DU rounds xi a0 a1:=aaN rounds xi a0 a1
def q5_:Option (List T):=
 Yn a0 λa2=>
 Yn a1 λa3=>
 Ye a2 a3 λa4=>
 aB a4 (
 ca (k_ [a0,a1]) λa5=>
 Yz a5 λa6=>
 some [a6]) (
 Yz (bb false) λa5=>
 some [a5])
theorem aaQ:gR.den (pick [(28,k_)]) R [] [a0,a1]=q5_ k_ a0 a1:=(ea (by kernel_rfl)).trans (by kernel_rfl)
theorem aaR:F5 [a0,a1]=q5_ F4 a0 a1:=aaQ rounds F4 a0 a1
def OC:Option (List T):=
 (dO λa5 a6=>
 Yn a0 λa7=>
 Yl a6 a7 λa8=>
 aB a8 (
 Y1 a0 a6 λaQ=>
 Y1 a1 a6 λbf=>
 Yu aQ bf λbc=>
 aB bc (
 Yz (bb false) λaW=>
 some [aW]) (
 Ya a6 (ii 1) λaW=>
 k0 [a5,aW])) (
 Yz (bb true) λa9=>
 some [a9])) ts
def qn_:Option (List T):=
 Yn a0 λa2=>
 Yn a1 λa3=>
 Yu a2 a3 λa4=>
 aB a4 (
 Yz (bb false) λa5=>
 some [a5]) (
 iter (OC a0 a1) R [bb false,ii 0])
theorem aaT:fN.den (pick []) R [] [a0,a1]=qn_ R a0 a1:=(ea (by kernel_rfl)).trans (by kernel_rfl)
theorem aaU:zu [a0,a1]=qn_ rounds a0 a1:=aaT rounds a0 a1
def OD:Option (List T):=
 (dO λa5 a6=>
 Yn a0 λa7=>
 Yl a6 a7 λa8=>
 aB a8 (
 Y3 a0 a6 λaQ aV bf=>
 ca (bI [a1,aQ,aV,bf]) λbc=>
 Y3 a1 a6 λbn bp bw=>
 ca (bI [a0,bn,bp,bw]) λbr=>
 Yl bc (ii 0) λbA=>
 aB bA (
 Yz (bb false) λbF=>
 some [bF]) (
 Yl br (ii 0) λbF=>
 aB bF (
 Yz (bb false) λbG=>
 some [bG]) (
 Yb a0 a6 λbG=>
 Yc 3 2 a0 a6 λcf=>
 Yb a1 bc λbV=>
 Yc 3 2 a1 bc λcD=>
 ca (bK [cf,cD]) λcO=>
 Yt cO λcQ=>
 aB cQ (
 Yz (bb false) λdI=>
 some [dI]) (
 Yb a0 br λdI=>
 Yc 3 2 a0 br λdi=>
 Yb a1 a6 λdX=>
 Yc 3 2 a1 a6 λeS=>
 ca (bK [di,eS]) λeH=>
 Yt eH λez=>
 aB ez (
 Yz (bb false) λek=>
 some [ek]) (
 Ya a6 (ii 1) λek=>
 k0 [a5,ek]))))) (
 Yz (bb true) λa9=>
 some [a9])) ts
def q6_:Option (List T):=
 Yn a0 λa2=>
 Yn a1 λa3=>
 Yu a2 a3 λa4=>
 aB a4 (
 Yz (bb false) λa5=>
 some [a5]) (
 iter (OD bK bI a0 a1) R [bb false,ii 0])
theorem aaW:gS.den (pick [(29,bI),(30,bK)]) R [] [a0,a1]=q6_ R bK bI a0 a1:=(ea (by kernel_rfl)).trans (by kernel_rfl)
theorem aaX:F6 [a0,a1]=q6_ rounds zu rH a0 a1:=aaW rounds zu rH a0 a1
def LN:Option (List T):=
 (dO λa3 a4=>
 Yn a0 λa5=>
 Yl a4 a5 λa6=>
 aB a6 (
 Yl a4 (ii 4000) λa7=>
 aB a7 (
 pv (.bin .mul) [a3,ii 131] λa8=>
 Y1 a0 a4 λaQ=>
 pv (.wR .i64) [aQ] λaV=>
 Ya a8 aV λbf=>
 Ya bf (ii 7) λbc=>
 pv (.bin .and) [bc,ii 1073741823] λaW=>
 Ya a4 (ii 1) λbn=>
 k0 [aW,bn]) (
 gM (bL [a0,ii 0,a3]) λa8 a9 aQ aV=>
 some [a8])) (
 gM (bL [a0,ii 0,a3]) λa7 a8 a9 aQ=>
 some [a7])) ts
def u1_:Option (List T):=
 Yn a0 λa1=>
 Ya (ii 13901) a1 λa2=>
 iter (LN bL a0) R [a2,ii 0]
theorem aaZ:fO.den (pick [(31,bL)]) R [] [a0]=u1_ R bL a0:=(ea (by kernel_rfl)).trans (by kernel_rfl)
theorem aa0:F7 [a0]=u1_ rounds zr a0:=aaZ rounds zr a0
def LO:Option (List T):=
 (dO λa2 a3=>
 Yl a3 a1 λa4=>
 aB a4 (
 Y6 a0 a3 λa6 a7 a8 a9 aQ aV=>
 ca (b9 [a2,a6,a7,aV]) λbf=>
 Yl bf (ii 0) λbc=>
 jn (dA λaW=>
 Ya a3 (ii 1) λbn=>
 k0 [aW,bn]) λk1=>
 aB bc (
 nl (bk [a6,a7,aV]) λaW bn bp=>
 pv (.lit 3 [true,true,false]) [aW,bn,bp] λbw=>
 Yo a2 bw λbr=>
 k1 [br]) (
 k1 [a2])) (
 some [a2])) ts
def kV_:Option (List T):=
 Yn a0 λa1=>
 iter (LO bk b9 a0 a1) R [.l [],ii 0]
theorem aa2:jN.den (pick [(25,b9),(27,bk)]) R [] [a0]=kV_ R bk b9 a0:=(ea (by kernel_rfl)).trans (by kernel_rfl)
theorem aa3:F8 [a0]=kV_ rounds uD uC a0:=aa2 rounds uD uC a0
def zy:Option (List T):=
 (dO λa7 a8=>
 Yn a1 λa9=>
 Yl a8 a9 λaQ=>
 aB aQ (
 Y3 a1 a8 λbf bc aW=>
 ca (bI [a0,bf,bc,aW]) λbn=>
 Yl bn (ii 0) λbp=>
 aB bp (
 jn (dA λbw=>
 Ya a8 (ii 1) λbr=>
 k1 [bw,br]) λk2=>
 Y3 a1 a8 λbr bA bF=>
 nl (aU [br,bA,bF]) λbG cf bV=>
 pv (.lit 4 [true,true,true,false]) [bb false,bG,cf,bV] λcD=>
 pv (.app false 4) [a7,cD] λcO=>
 k2 [cO]) (
 Yb a0 bn λbw=>
 Yc 3 2 a0 bn λbr=>
 Yb a1 a8 λbA=>
 Yc 3 2 a1 a8 λbF=>
 ca (bK [br,bF]) λbG=>
 Yt bG λcf=>
 jn (dA λbV=>
 Ya a8 (ii 1) λcD=>
 k1 [bV,cD]) λk2=>
 aB cf (
 Y3 a1 a8 λcD cO cQ=>
 nl (aU [cD,cO,cQ]) λdI di dX=>
 pv (.lit 4 [true,true,true,false]) [bb false,dI,di,dX] λeS=>
 pv (.app false 4) [a7,eS] λeH=>
 k2 [eH]) (
 k2 [a7]))) (
 some [a7])) ts
def zA:Option (List T):=
 (dO λa3 a4=>
 Yn a0 λa5=>
 Yl a4 a5 λa6=>
 aB a6 (
 Y3 a0 a4 λa8 a9 aQ=>
 ca (bI [a1,a8,a9,aQ]) λaV=>
 Yl aV (ii 0) λbf=>
 jn (dA λbc=>
 Ya a4 (ii 1) λaW=>
 k0 [bc,aW]) λk1=>
 aB bf (
 Yb a0 a4 λbc=>
 Yc 3 0 a0 a4 λaW=>
 Yb a0 a4 λbn=>
 Yc 3 1 a0 a4 λbp=>
 pv (.lit 4 [true,true,true,false]) [bb true,aW,bp,.l []] λbw=>
 pv (.app false 4) [a3,bw] λbr=>
 k1 [br]) (
 k1 [a3])) (
 iter (zy bK bI aU a0 a1) R [a3,ii 0])) ts
def DV:Option (List T):=
 pv (.lit 4 []) [] λa2=>
 iter (zA R bK bI aU a0 a1) R [a2,ii 0]
theorem aa4:kY.den (pick [(29,bI),(30,bK),(33,aU)]) R [] [a0,a1]=DV R bK bI aU a0 a1:=(ea (by kernel_rfl)).trans (by kernel_rfl)
theorem aa5:F9 [a0,a1]=DV rounds zu rH uB a0 a1:=aa4 rounds zu rH uB a0 a1
def DW:Option (List T):=
 ca (wv [a0]) λa1=>
 aB a1 (
 Yz (bb true) λa2=>
 some [a2]) (
 Fm (gn [a0]) λa2 a3=>
 ca (iC [a2,a3]) λa4=>
 ca (mw [a2,a4]) λa5=>
 ca (fx [a5,a3]) λa6=>
 Yt a6 λa7=>
 aB a7 (
 Yz (bb false) λa8=>
 some [a8]) (
 ca (fy [a5,a3]) λa8=>
 Yt a8 λa9=>
 aB a9 (
 Yz (bb false) λaQ=>
 some [aQ]) (
 ca (iC [a2,a2]) λaQ=>
 Yn aQ λaV=>
 Yu aV (ii 0) λbf=>
 aB bf (
 Yz (bb false) λbc=>
 some [bc]) (
 ca (fx [a2,a2]) λbc=>
 Yt bc λaW=>
 aB aW (
 Yz (bb false) λbn=>
 some [bn]) (
 ca (eB [a0]) λbn=>
 ca (jO [bn]) λbp=>
 ca (eB [a0]) λbw=>
 ca (cL [bw]) λbr=>
 Yn a4 λbA=>
 ca (lc [a2,a3]) λbF=>
 Yn bF λbG=>
 Ye bA bG λcf=>
 aB cf (
 ca (fy [bp,br]) λbV=>
 aB bV (
 Yn bp λcD=>
 Yn br λcO=>
 Ye cD cO λcQ=>
 Yz cQ λdI=>
 some [dI]) (
 Yz (bb false) λcD=>
 some [cD])) (
 Yz (bb false) λbV=>
 some [bV]))))))
theorem aa6:kZ.den (pick [(5,wv),(6,gn),(7,iC),(8,mw),(9,fx),(10,fy),(11,jO),(12,eB),(13,cL),(14,lc)]) R [] [a0]=DW wv mw iC fx jO lc gn eB fy cL a0:=(ea (by kernel_rfl)).trans (by kernel_rfl)
theorem aa7:Ob [a0]=DW tT F3 F2 F5 F8 F9 F0 F7 F6 zt a0:=aa6 rounds tT F3 F2 F5 F8 F9 F0 F7 F6 zt a0
end
end Go.Proofs.YtbhplkilhknciaaC
