/- The plain programs as native functions (printed by a program). Conditions: none. -/
import Derived.Test.YtbhplkilhknciaaXPD
import Derived.Test.YtbhplkilhknciaaKe
namespace Go.Proofs.YtbhplkilhknciaaC
set_option linter.unusedVariables false
section
variable (R:Nat) (CT xO jp cp fv dY dZ iL fe cq d_ gB kM eb eM iA kN nr jq bQ jr kO ci lZ bJ aP dC jt dm hO fa eG kQ ju cg hX ed kR cI cr eu ef gG dq eg kU gH di ae bM bg dj aL iB bE ff dr l7 bX bR gm kV bS dt fw dI cu nu fx fU jv hY kW cU cV qJ l9 kX:ai)
variable (a0 a1 a2 a3 a4 a5 a6 a7 a8 a9 aI aZ bc aU aX aV bk br bF bB bK ch cz bO bL bD bH bN bT b_ cw cR dR eN dT fy hZ iC iq jT iO jU lh jR lp mF o_ pc ul y6 y7 Im Io y8 CU CV NP RD RE RF ZQ a61 a62 a63 a64 a65 a66 a67 a68 a69 a70 RG RH RI a74 a75 a76 a77 a78 a79 a80 a81 a82 a83 a84 a85 a86 a87 a88 a89 a90 a91 a92 a93 a94 a95 a96 a97 a98 a99 ajg ajh aji ajj ajk ajl ajm ajn ajo ajp ajq ajr ajs ajt aju ajv ajw ajx ajy ajz ajA ajB ajC ajD ajE ajF ajG ajH ajI ajJ ajK ajL ajM ajN ajO ajP ajQ ajR ajS ajT ajU ajV ajW ajX ajY ajZ aj0 aj1 aj2 aj3 aj4 aj5 aj6 aj7 aj8 aj9 aj_ aj' aka akb akc akd ake akf akg akh aki akj akk akl akm akn ako akp akq akr aks akt aku akv akw akx aky akz akA akB akC akD akE akF akG akH akI akJ akK akL akM akN akO akP akQ akR akS akT akU akV akW akX akY akZ ak0 ak1 ak2 ak3 ak4 ak5 ak6 ak7 ak8 ak9 ak_ ak' ala alb alc ald ale alf alg alh ali alj alk alm aln alo alp alq alr als alt alu alv alw alx aly alz alA alB alC alD alE alF alG alH alI alJ alK alL alM alN alO alP alQ alR alS alT alU alV alW alX alY alZ al0 al1 al2 al3 al4 al5 al6 al7 al8 al9 al_ al' ama amb amc amd ame amf amg amh ami amj amk aml amm amn amo amp amq amr ams amt amu amv amw amx amy amz amA amB amC amD amE amF amG amH amI amJ amK amL amM amN amO amP amQ amR amS amT amU amV amW amX amY amZ am0 am1 am2 am3 am4 am5 am6 am7 am8 am9 am_ am' ana anb anc ane anf ang anh ani anj ank anl anm ann ano anp anq anr ans ant anu anv anw anx anz anA anB anC anD anE anF anG anH anI anJ anK anL anM anN anO anP anQ anR anS anT anU anV anW anX anY anZ an0:T) (k0 k1 k2 k3 k4 k5 k6 k7 k8 k9 k10 k11 k12 k13 k14 k15 RJ k17 k18 k19:ai) (ts:List T)
def Ft:Option (List T):=
 Yn a0 λa1=>
 Yg a1 (ii 1048576) λa2=>
 Yz a2 λa3=>
 some [a3]
theorem ZR:xL.den (pick []) R [] [a0]=Ft a0:=(dJ (by kernel_rfl)).trans (by kernel_rfl)
theorem ZS:vm [a0]=Ft a0:=ZR rounds a0
def RK:Option (List T):=
 pv (.bin .mul) [a2,ii 6364136223846793005] λa3=>
 Ya a3 (ii 1442695040888963407) λa4=>
 pv (.bin .shr) [a4,.c (.int .u64 33)] λa5=>
 pv (.bin .shr) [a4,.c (.int .u64 45)] λa6=>
 pv (.bin .xor) [a5,a6] λa7=>
 pv (.bin .and) [a7,ii 255] λa8=>
 Yn a0 λa9=>
 Yl a1 a9 λaI=>
 jn (jD λaZ bc=>
 Yz bc λaU=>
 some [aU,a0,aZ,a4]) λk0=>
 aC aI (
 Y1 a0 a1 λbc=>
 pv (.dA .i64) [bc] λaU=>
 Ya a8 aU λaX=>
 pv (.bin .and) [aX,ii 255] λaV=>
 Ya a1 (ii 1) λbk=>
 k0 [bk,aV]) (
 k0 [a1,a8])
theorem ZT:j7.den (pick []) R [] [a0,a1,a2]=RK a0 a1 a2:=(dJ (by kernel_rfl)).trans (by kernel_rfl)
theorem ZU:rY [a0,a1,a2]=RK a0 a1 a2:=ZT rounds a0 a1 a2
def RL:Option (List T):=
 Ym a3 (ii 0) λa4=>
 aC a4 (
 Yz (ii 0) λa5=>
 some [a5,a0,a1,a2]) (
 Ym a3 (ii 256) λa5=>
 aC a5 (
 cY (bM [a0,a1,a2]) λa6 a7 a8 a9=>
 pv (.bin .rem) [a6,a3] λaI=>
 Yz aI λaZ=>
 some [aZ,a7,a8,a9]) (
 cY (bM [a0,a1,a2]) λa6 a7 a8 a9=>
 cY (bM [a7,a8,a9]) λaI aZ bc aU=>
 cY (bM [aZ,bc,aU]) λaX aV bk br=>
 cY (bM [aV,bk,br]) λbF bB bK ch=>
 pv (.bin .mul) [a6,ii 16777216] λcz=>
 pv (.bin .mul) [aI,ii 65536] λbO=>
 Ya cz bO λbL=>
 pv (.bin .mul) [aX,ii 256] λbD=>
 Ya bL bD λbH=>
 Ya bH bF λbN=>
 pv (.bin .rem) [bN,a3] λbT=>
 Yz bT λb_=>
 some [b_,bB,bK,ch]))
theorem ZV:jd.den (pick [(49,bM)]) R [] [a0,a1,a2,a3]=RL bM a0 a1 a2 a3:=(dJ (by kernel_rfl)).trans (by kernel_rfl)
theorem ZW:j8 [a0,a1,a2,a3]=RL rY a0 a1 a2 a3:=ZV rounds rY a0 a1 a2 a3
def ZX:Option (List T):=
 cY (ae [a0,a1,a2,a3]) λa4 a5 a6 a7=>
 Ye a4 (ii 0) λa8=>
 Yz a8 λa9=>
 some [a9,a5,a6,a7]
theorem ZY:j9.den (pick [(50,ae)]) R [] [a0,a1,a2,a3]=ZX ae a0 a1 a2 a3:=(dJ (by kernel_rfl)).trans (by kernel_rfl)
theorem ZZ:Ba [a0,a1,a2,a3]=ZX j8 a0 a1 a2 a3:=ZY rounds j8 a0 a1 a2 a3
def Z0:Option (List T):=
 Yn a3 λa4=>
 cY (ae [a0,a1,a2,a4]) λa5 a6 a7 a8=>
 Y1 a3 a5 λaI=>
 Yz aI λaZ=>
 some [aZ,a6,a7,a8]
theorem Z1:gO.den (pick [(50,ae)]) R [] [a0,a1,a2,a3]=Z0 ae a0 a1 a2 a3:=(dJ (by kernel_rfl)).trans (by kernel_rfl)
theorem Z2:v_ [a0,a1,a2,a3]=Z0 j8 a0 a1 a2 a3:=Z1 rounds j8 a0 a1 a2 a3
def wc:Option (List T):=
 (rW λbO bL bD bH bN=>
 Ym bO (ii 6) λbT=>
 aC bT (
 Yu bO bc λb_=>
 aC b_ (
 cY (dj [bL,bD,bH,ii 3]) λcw cR dR eN=>
 jn (xK λdT fy hZ iC=>
 Ya bO (ii 1) λiq=>
 k1 [iq,dT,fy,hZ,iC]) λk2=>
 aC cw (
 cY (ae [cR,dR,eN,ii 4]) λdT fy hZ iC=>
 Ya (ii 1) dT λiq=>
 pv (.lit 2 [true,true]) [bO,iq] λjT=>
 pv (.app true 2) [bN,jT] λiO=>
 k2 [fy,hZ,iC,iO]) (
 k2 [cR,dR,eN,bN])) (
 jn (xK λcw cR dR eN=>
 Ya bO (ii 1) λdT=>
 k1 [dT,cw,cR,dR,eN]) λk2=>
 k2 [bL,bD,bH,bN])) (
 k0 [bL,bD,bH,aU,ii 0,bN,ii 0,bb false])) ts
def NQ:Option (List T):=
 cY (ae [a0,a1,a2,ii 3]) λa3 a4 a5 a6=>
 Ya (ii 1) a3 λa7=>
 cY (ae [a4,a5,a6,ii 4]) λa8 a9 aI aZ=>
 Ya (ii 1) a8 λbc=>
 cY (ae [a9,aI,aZ,ii 3]) λaU aX aV bk=>
 cY (ae [aX,aV,bk,ii 5]) λbr bF bB bK=>
 Ya (ii 1) br λch=>
 Ye a7 (ii 1) λcz=>
 jn (HI λbO bL bD bH bN bT b_ cw=>
 Yz cw λcR=>
 Yz b_ λdR=>
 Yz ch λeN=>
 Yz bN λdT=>
 Yz bc λfy=>
 Yz a7 λhZ=>
 Yz bH λiC=>
 some [iC,hZ,fy,dT,eN,bT,dR,cR,bO,bL,bD]) λk0=>
 aC cz (
 iter (wc ae dj bc aU k0) R [ii 1,bF,bB,bK,.l []]) (
 Ye a7 (ii 2) λbO=>
 jn (Fi λbL bD bH bN bT b_ cw=>
 k0 [bL,bD,bH,bN,bT,.l [],b_,cw]) λk1=>
 aC bO (
 cY (ae [bF,bB,bK,ii 5]) λbL bD bH bN=>
 Ya (ii 1) bL λbT=>
 pv (.lit 1 [true,true,true,true,true]) [ii 0,ii 1,ii 2,ii 5,ii 60000] λb_=>
 cY (aL [bD,bH,bN,b_]) λcw cR dR eN=>
 k1 [cR,dR,eN,aU,bT,cw,bb false]) (
 Ye a7 (ii 3) λbL=>
 jn (Fi λbD bH bN bT b_ cw cR=>
 k1 [bD,bH,bN,bT,b_,cw,cR]) λk2=>
 aC bL (
 cY (ae [bF,bB,bK,ii 3]) λbD bH bN bT=>
 Ya (ii 1) bD λb_=>
 pv (.lit 1 [true,true,true,true]) [ii 1,ii 2,ii 5,ii 60000] λcw=>
 cY (aL [bH,bN,bT,cw]) λcR dR eN dT=>
 cY (dj [dR,eN,dT,ii 2]) λfy hZ iC iq=>
 k2 [hZ,iC,iq,ii 9,b_,cR,fy]) (
 k2 [bF,bB,bK,aU,ii 0,ii 0,bb false])))
theorem Z3:iG.den (pick [(50,ae),(60,dj),(81,aL)]) R [] [a0,a1,a2]=NQ R ae dj aL a0 a1 a2:=(dJ (by kernel_rfl)).trans (by kernel_rfl)
theorem Z4:Bb [a0,a1,a2]=NQ rounds j8 Ba v_ a0 a1 a2:=Z3 rounds j8 Ba v_ a0 a1 a2
def Z5:Option (List T):=
 Ye a0 a8 λbk=>
 aC bk (
 Ye a1 a9 λbr=>
 aC br (
 Ye a2 aI λbF=>
 aC bF (
 Ye a3 aZ λbB=>
 Yz bB λbK=>
 some [bK]) (
 Yz (bb false) λbB=>
 some [bB])) (
 Yz (bb false) λbF=>
 some [bF])) (
 Yz (bb false) λbr=>
 some [br])
theorem Z6:j_.den (pick []) R [] [a0,a1,a2,a3,a4,a5,a6,a7,a8,a9,aI,aZ,bc,aU,aX,aV]=Z5 a0 a1 a2 a3 a8 a9 aI aZ:=(dJ (by kernel_rfl)).trans (by kernel_rfl)
theorem Z7:Bc [a0,a1,a2,a3,a4,a5,a6,a7,a8,a9,aI,aZ,bc,aU,aX,aV]=Z5 a0 a1 a2 a3 a8 a9 aI aZ:=Z6 rounds a0 a1 a2 a3 a4 a5 a6 a7 a8 a9 aI aZ bc aU aX aV
def RM:Option (List T):=
 (jD λa9 aI=>
 Yn a0 λaZ=>
 Yl aI aZ λbc=>
 aC bc (
 Y8 a0 aI λaX aV bk br bF bB bK ch=>
 cL (ef [aX,aV,bk,br,bF,bB,bK,ch,a1,a2,a3,a4,a5,a6,a7,a8]) λcz=>
 aC cz (
 Yz aI λbO=>
 some [bO]) (
 Ya aI (ii 1) λbO=>
 k0 [a9,bO])) (
 Yz (ii (-1)) λaU=>
 some [aU])) ts
def Fu:Option (List T):=
 iter (RM ef a0 a1 a2 a3 a4 a5 a6 a7 a8) R [ii 0,ii 0]
theorem Z8:nh.den (pick [(118,ef)]) R [] [a0,a1,a2,a3,a4,a5,a6,a7,a8]=Fu R ef a0 a1 a2 a3 a4 a5 a6 a7 a8:=(dJ (by kernel_rfl)).trans (by kernel_rfl)
theorem Z9:HL [a0,a1,a2,a3,a4,a5,a6,a7,a8]=Fu rounds Bc a0 a1 a2 a3 a4 a5 a6 a7 a8:=Z8 rounds Bc a0 a1 a2 a3 a4 a5 a6 a7 a8
def Fv:Option (List T):=
 Yh a0 a1 λa3=>
 aC a3 (
 Ym a0 a2 λa4=>
 Yz a4 λa5=>
 some [a5]) (
 Yz (bb false) λa4=>
 some [a4])
theorem Z_:nj.den (pick []) R [] [a0,a1,a2]=Fv a0 a1 a2:=(dJ (by kernel_rfl)).trans (by kernel_rfl)
theorem aac:tl [a0,a1,a2]=Fv a0 a1 a2:=Z_ rounds a0 a1 a2
def RN:Option (List T):=
 (jD λa8 a9=>
 Yn a5 λaI=>
 Yl a9 aI λaZ=>
 aC aZ (
 Y2 a5 a9 λaU aX=>
 cL (bg [aU,ii 1,ii 6]) λaV=>
 Yt aV λbk=>
 aC bk (
 Yz (bb false) λbr=>
 some [br]) (
 Ye aU a2 λbr=>
 aC br (
 Yz (bb false) λbF=>
 some [bF]) (
 cL (bg [aX,ii 1,ii 1000]) λbF=>
 Yt bF λbB=>
 aC bB (
 Yz (bb false) λbK=>
 some [bK]) (
 Yg a9 (ii 0) λbK=>
 aC bK (
 Ys a9 (ii 1) λch=>
 Yb a5 ch λcz=>
 Yc 2 0 a5 ch λbO=>
 Yh bO aU λbL=>
 aC bL (
 Yz (bb false) λbD=>
 some [bD]) (
 Ya a9 (ii 1) λbD=>
 k0 [a8,bD])) (
 Ya a9 (ii 1) λch=>
 k0 [a8,ch]))))) (
 Yz (bb true) λbc=>
 some [bc])) ts
def kM_:Option (List T):=
 iter (RN bg a2 a5) R [bb false,ii 0]
theorem aae:ke.den (pick [(90,bg)]) R [] [a0,a1,a2,a3,a4,a5,a6,a7]=kM_ R bg a2 a5:=(dJ (by kernel_rfl)).trans (by kernel_rfl)
theorem aaf:HM [a0,a1,a2,a3,a4,a5,a6,a7]=kM_ rounds tl a2 a5:=aae rounds tl a0 a1 a2 a3 a4 a5 a6 a7
def j8_:Option (List T):=
 cL (bg [a2,ii 1,ii 6]) λa8=>
 Yt a8 λa9=>
 aC a9 (
 Yz (bb false) λaI=>
 some [aI]) (
 cL (bg [a4,ii 1,ii 100000]) λaI=>
 Yt aI λaZ=>
 aC aZ (
 Yz (bb false) λbc=>
 some [bc]) (
 Ye a1 (ii 1) λbc=>
 aC bc (
 cL (bg [a0,ii 0,ii 2]) λaU=>
 aC aU (
 Ye a3 (ii 0) λaX=>
 aC aX (
 cL (kV [a0,a1,a2,a3,a4,a5,a6,a7]) λaV=>
 aC aV (
 Ye a6 (ii 0) λbk=>
 aC bk (
 Yt a7 λbr=>
 Yz br λbF=>
 some [bF]) (
 Yz (bb false) λbr=>
 some [br])) (
 Yz (bb false) λbk=>
 some [bk])) (
 Yz (bb false) λaV=>
 some [aV])) (
 Yz (bb false) λaX=>
 some [aX])) (
 Ye a1 (ii 2) λaU=>
 aC aU (
 cL (bg [a0,ii 0,ii 2]) λaX=>
 aC aX (
 cL (bg [a3,ii 1,ii 6]) λaV=>
 aC aV (
 Yn a5 λbk=>
 Ye bk (ii 0) λbr=>
 aC br (
 cL (bg [a6,ii 0,ii 60000]) λbF=>
 aC bF (
 Yt a7 λbB=>
 Yz bB λbK=>
 some [bK]) (
 Yz (bb false) λbB=>
 some [bB])) (
 Yz (bb false) λbF=>
 some [bF])) (
 Yz (bb false) λbk=>
 some [bk])) (
 Yz (bb false) λaV=>
 some [aV])) (
 Ye a1 (ii 3) λaX=>
 aC aX (
 Ye a0 (ii 9) λaV=>
 aC aV (
 cL (bg [a3,ii 1,ii 9]) λbk=>
 aC bk (
 Yn a5 λbr=>
 Ye br (ii 0) λbF=>
 aC bF (
 cL (bg [a6,ii 1,ii 1000]) λbB=>
 aC bB (
 Yz (bb true) λbK=>
 some [bK]) (
 Ye a6 (ii 60000) λbK=>
 Yz bK λch=>
 some [ch])) (
 Yz (bb false) λbB=>
 some [bB])) (
 Yz (bb false) λbr=>
 some [br])) (
 Yz (bb false) λbk=>
 some [bk])) (
 Yz (bb false) λaV=>
 some [aV])))))
theorem aah:je.den (pick [(90,bg),(119,kV)]) R [] [a0,a1,a2,a3,a4,a5,a6,a7]=j8_ bg kV a0 a1 a2 a3 a4 a5 a6 a7:=(dJ (by kernel_rfl)).trans (by kernel_rfl)
theorem aai:wb [a0,a1,a2,a3,a4,a5,a6,a7]=j8_ tl HM a0 a1 a2 a3 a4 a5 a6 a7:=aah rounds tl HM a0 a1 a2 a3 a4 a5 a6 a7
def Fw:Option (List T):=
 Yu a0 a8 λbk=>
 aC bk (
 Yl a0 a8 λbr=>
 Yz br λbF=>
 some [bF]) (
 Yu a1 a9 λbr=>
 aC br (
 Yl a1 a9 λbF=>
 Yz bF λbB=>
 some [bB]) (
 Yu a2 aI λbF=>
 aC bF (
 Yl a2 aI λbB=>
 Yz bB λbK=>
 some [bK]) (
 Yl a3 aZ λbB=>
 Yz bB λbK=>
 some [bK])))
theorem aaj:lL.den (pick []) R [] [a0,a1,a2,a3,a4,a5,a6,a7,a8,a9,aI,aZ,bc,aU,aX,aV]=Fw a0 a1 a2 a3 a8 a9 aI aZ:=(dJ (by kernel_rfl)).trans (by kernel_rfl)
theorem aak:Bd [a0,a1,a2,a3,a4,a5,a6,a7,a8,a9,aI,aZ,bc,aU,aX,aV]=Fw a0 a1 a2 a3 a8 a9 aI aZ:=aaj rounds a0 a1 a2 a3 a4 a5 a6 a7 a8 a9 aI aZ bc aU aX aV
def Ip:Option (List T):=
 (jD λbk br=>
 Yn a0 λbF=>
 Yl br bF λbB=>
 aC bB (
 Y8 a0 br λch cz bO bL bD bH bN bT=>
 cL (dm [a1,a2,a3,a4,a5,a6,a7,a8,ch,cz,bO,bL,bD,bH,bN,bT]) λb_=>
 jn (lK λcw=>
 Ya br (ii 1) λcR=>
 k1 [cw,cR]) λk2=>
 aC b_ (
 Y8 a0 br λcR dR eN dT fy hZ iC iq=>
 pv (.lit 8 []) [cR,dR,eN,dT,fy,hZ,iC,iq] λjT=>
 Yy bk jT λiO=>
 k2 [iO]) (
 k2 [bk])) (
 some [bk])) ts
def Iq:Option (List T):=
 (jD λaI aZ=>
 Yn a0 λbc=>
 Yl aZ bc λaU=>
 aC aU (
 Y8 a0 aZ λaV bk br bF bB bK ch cz=>
 cL (dm [aV,bk,br,bF,bB,bK,ch,cz,a1,a2,a3,a4,a5,a6,a7,a8]) λbO=>
 jn (lK λbL=>
 Ya aZ (ii 1) λbD=>
 k0 [bL,bD]) λk1=>
 aC bO (
 Y8 a0 aZ λbD bH bN bT b_ cw cR dR=>
 pv (.lit 8 []) [bD,bH,bN,bT,b_,cw,cR,dR] λeN=>
 Yy aI eN λdT=>
 k1 [dT]) (
 k1 [aI])) (
 pv (.lit 8 []) [a1,a2,a3,a4,a5,a6,a7,a8] λaX=>
 Yy aI aX λaV=>
 iter (Ip dm a0 a1 a2 a3 a4 a5 a6 a7 a8) R [aV,ii 0])) ts
def Fx:Option (List T):=
 pv (.lit 8 []) [] λa9=>
 iter (Iq R dm a0 a1 a2 a3 a4 a5 a6 a7 a8) R [a9,ii 0]
theorem aal:lM.den (pick [(117,dm)]) R [] [a0,a1,a2,a3,a4,a5,a6,a7,a8]=Fx R dm a0 a1 a2 a3 a4 a5 a6 a7 a8:=(dJ (by kernel_rfl)).trans (by kernel_rfl)
theorem aam:HN [a0,a1,a2,a3,a4,a5,a6,a7,a8]=Fx rounds Bd a0 a1 a2 a3 a4 a5 a6 a7 a8:=aal rounds Bd a0 a1 a2 a3 a4 a5 a6 a7 a8
def Fy:Option (List T):=
 cL (nu [a0,a1,a2,a3,a4,a5,a6,a7,a8]) λa9=>
 cL (cI [a1,a2,a3,a4,a5,a6,a7,a8]) λaI=>
 Yt aI λaZ=>
 aC aZ (
 Yz (bb false) λbc=>
 some [a0,bc]) (
 Yh a9 (ii 0) λbc=>
 aC bc (
 Yb a0 a9 λaU=>
 Yc 8 4 a0 a9 λaX=>
 Yh aX a5 λaV=>
 aC aV (
 Yz (bb false) λbk=>
 some [a0,bk]) (
 Yl a9 (ii 0) λbk=>
 aC bk (
 Yn a0 λbr=>
 Yh br (ii 150) λbF=>
 aC bF (
 Yz (bb false) λbB=>
 some [a0,bB]) (
 cL (fU [a0,a1,a2,a3,a4,a5,a6,a7,a8]) λbB=>
 Yz (bb true) λbK=>
 some [bB,bK])) (
 cL (fU [a0,a1,a2,a3,a4,a5,a6,a7,a8]) λbr=>
 Yz (bb true) λbF=>
 some [br,bF]))) (
 Yl a9 (ii 0) λaU=>
 aC aU (
 Yn a0 λaX=>
 Yh aX (ii 150) λaV=>
 aC aV (
 Yz (bb false) λbk=>
 some [a0,bk]) (
 cL (fU [a0,a1,a2,a3,a4,a5,a6,a7,a8]) λbk=>
 Yz (bb true) λbr=>
 some [bk,br])) (
 cL (fU [a0,a1,a2,a3,a4,a5,a6,a7,a8]) λaX=>
 Yz (bb true) λaV=>
 some [aX,aV])))
theorem aan:gP.den (pick [(103,cI),(110,fU),(116,nu)]) R [] [a0,a1,a2,a3,a4,a5,a6,a7,a8]=Fy cI nu fU a0 a1 a2 a3 a4 a5 a6 a7 a8:=(dJ (by kernel_rfl)).trans (by kernel_rfl)
theorem aao:HO [a0,a1,a2,a3,a4,a5,a6,a7,a8]=Fy wb HL HN a0 a1 a2 a3 a4 a5 a6 a7 a8:=aan rounds wb HL HN a0 a1 a2 a3 a4 a5 a6 a7 a8
def RO:Option (List T):=
 (rW λa4 a5 a6 a7 a8=>
 cY (ae [a6,a7,a8,ii 12]) λa9 aI aZ bc=>
 Yl a5 a9 λaU=>
 aC aU (
 vl (dt [aI,aZ,bc]) λaX aV bk br bF bB bK ch cz bO bL=>
 mE (fx [a4,aX,aV,bk,br,bF,bB,bK,ch]) λbD bH=>
 Ya a5 (ii 1) λbN=>
 k0 [bD,bN,cz,bO,bL]) (
 some [a4,aI,aZ,bc])) ts
def jQ_:Option (List T):=
 pv (.lit 8 []) [] λa3=>
 iter (RO ae dt fx) R [a3,ii 0,a0,a1,a2]
theorem aaq:jf.den (pick [(50,ae),(94,fx),(95,dt)]) R [] [a0,a1,a2]=jQ_ R ae dt fx a0 a1 a2:=(dJ (by kernel_rfl)).trans (by kernel_rfl)
theorem aar:HP [a0,a1,a2]=jQ_ rounds j8 Bb HO a0 a1 a2:=aaq rounds j8 Bb HO a0 a1 a2
def kP_:Option (List T):=
 pv (.lit 2 []) [] λa8=>
 pv (.app true 2) [a8,a5] λa9=>
 Yz a7 λaI=>
 Yz a6 λaZ=>
 Yz a4 λbc=>
 Yz a3 λaU=>
 Yz a2 λaX=>
 Yz a1 λaV=>
 Yz a0 λbk=>
 some [bk,aV,aX,aU,bc,a9,aZ,aI]
theorem aat:kf.den (pick []) R [] [a0,a1,a2,a3,a4,a5,a6,a7]=kP_ a0 a1 a2 a3 a4 a5 a6 a7:=(dJ (by kernel_rfl)).trans (by kernel_rfl)
theorem aau:uk [a0,a1,a2,a3,a4,a5,a6,a7]=kP_ a0 a1 a2 a3 a4 a5 a6 a7:=aat rounds a0 a1 a2 a3 a4 a5 a6 a7
def RP:Option (List T):=
 (jD λa3 a4=>
 Yn a0 λa5=>
 Yl a4 a5 λa6=>
 aC a6 (
 Yb a0 a4 λa7=>
 Yc 8 0 a0 a4 λa8=>
 Ye a8 a1 λa9=>
 aC a9 (
 jn (lK λaI=>
 Ya a4 (ii 1) λaZ=>
 k0 [aI,aZ]) λk1=>
 Y8 a0 a4 λaZ bc aU aX aV bk br bF=>
 vX (bR [aZ,bc,aU,aX,aV,bk,br,bF]) λbB bK ch cz bO bL bD bH=>
 pv (.lit 8 [true,true,true,true,true,false,true,true]) [bB,bK,ch,cz,bO,bL,bD,bH] λbN=>
 Yy a3 bN λbT=>
 k1 [bT]) (
 Yb a0 a4 λaI=>
 Yc 8 0 a0 a4 λaZ=>
 Ye aZ (ii 9) λbc=>
 jn (lK λaU=>
 Ya a4 (ii 1) λaX=>
 k0 [aU,aX]) λk1=>
 aC bc (
 Y8 a0 a4 λaX aV bk br bF bB bK ch=>
 vX (bR [aX,aV,bk,br,bF,bB,bK,ch]) λcz bO bL bD bH bN bT b_=>
 pv (.lit 8 [true,true,true,true,true,false,true,true]) [cz,bO,bL,bD,bH,bN,bT,b_] λcw=>
 Yy a3 cw λcR=>
 k1 [cR]) (
 k1 [a3]))) (
 some [a3])) ts
def Fz:Option (List T):=
 pv (.lit 8 []) [] λa2=>
 iter (RP bR a0 a1) R [a2,ii 0]
theorem aav:nk.den (pick [(96,bR)]) R [] [a0,a1]=Fz R bR a0 a1:=(dJ (by kernel_rfl)).trans (by kernel_rfl)
theorem aaw:Be [a0,a1]=Fz rounds uk a0 a1:=aav rounds uk a0 a1
def RQ:Option (List T):=
 pv (.lit 2 []) [] λa8=>
 Ye a1 (ii 3) λa9=>
 jn (lK λaI=>
 Yz (bb false) λaZ=>
 Yz aI λbc=>
 Yz a4 λaU=>
 Yz a3 λaX=>
 Yz a2 λaV=>
 Yz a1 λbk=>
 Yz a0 λbr=>
 some [br,bk,aV,aX,aU,a8,bc,aZ]) λk0=>
 aC a9 (
 k0 [ii 1]) (
 k0 [ii 0])
theorem aax:kg.den (pick []) R [] [a0,a1,a2,a3,a4,a5,a6,a7]=RQ a0 a1 a2 a3 a4:=(dJ (by kernel_rfl)).trans (by kernel_rfl)
theorem aay:xM [a0,a1,a2,a3,a4,a5,a6,a7]=RQ a0 a1 a2 a3 a4:=aax rounds a0 a1 a2 a3 a4 a5 a6 a7
def RR:Option (List T):=
 (jD λa3 a4=>
 Yn a4 λa5=>
 Yl a3 a5 λa6=>
 aC a6 (
 Y8 a4 a3 λa8 a9 aI aZ bc aU aX aV=>
 vX (cU [a8,a9,aI,aZ,bc,aU,aX,aV]) λbk br bF bB bK ch cz bO=>
 Yb a4 a3 λbL=>
 pv (.put false 8 0 8) [a4,a3,bk,br,bF,bB,bK,ch,cz,bO] λbD=>
 Ya a3 (ii 1) λbH=>
 k0 [bH,bD]) (
 some [a4])) ts
def kU_:Option (List T):=
 cL (gG [a0,a1]) λa2=>
 iter (RR cU) R [ii 0,a2]
theorem aaA:kh.den (pick [(66,gG),(97,cU)]) R [] [a0,a1]=kU_ R gG cU a0 a1:=(dJ (by kernel_rfl)).trans (by kernel_rfl)
theorem aaB:HQ [a0,a1]=kU_ rounds Be xM a0 a1:=aaA rounds Be xM a0 a1
def vq:Option (List T):=
 (rW λbK ch cz bO bL=>
 Ym bK (ii 5) λbD=>
 aC bD (
 cY (dj [ch,cz,bO,ii 2]) λbH bN bT b_=>
 jn (lK λcw=>
 Ya bK (ii 1) λcR=>
 k0 [cR,bN,bT,b_,cw]) λk1=>
 aC bH (
 Yx bK λcw=>
 Yp bL cw λcR=>
 k1 [cR]) (
 k1 [bL])) (
 Yz aU λbH=>
 Yz bF λbN=>
 Yz bc λbT=>
 Yz a7 λb_=>
 some [b_,bT,bN,bH,bL,.l [],ch,cz,bO])) ts
def CW:Option (List T):=
 cY (ae [a0,a1,a2,ii 3]) λa3 a4 a5 a6=>
 Ya (ii 1) a3 λa7=>
 cY (ae [a4,a5,a6,ii 4]) λa8 a9 aI aZ=>
 Ya (ii 1) a8 λbc=>
 cY (ae [a9,aI,aZ,ii 3]) λaU aX aV bk=>
 pv (.bin .rem) [bc,ii 5] λbr=>
 Ya br (ii 1) λbF=>
 Ye a7 (ii 1) λbB=>
 aC bB (
 iter (vq dj a7 bc aU bF) R [ii 1,aX,aV,bk,.l []]) (
 cY (jv [aX,aV,bk]) λbK ch cz bO=>
 cL (gG [bK,aU]) λbL=>
 Ye a7 (ii 2) λbD=>
 jn (lK λbH=>
 Yz aU λbN=>
 Yz bF λbT=>
 Yz bc λb_=>
 Yz a7 λcw=>
 some [cw,b_,bT,bN,.l [],bH,ch,cz,bO]) λk0=>
 aC bD (
 cL (kQ [bK,aU]) λbH=>
 k0 [bH]) (
 k0 [bL]))
theorem aaC:iH.den (pick [(50,ae),(60,dj),(65,jv),(66,gG),(67,kQ)]) R [] [a0,a1,a2]=CW R kQ gG ae dj jv a0 a1 a2:=(dJ (by kernel_rfl)).trans (by kernel_rfl)
theorem NR:yY [a0,a1,a2]=CW rounds HQ Be j8 Ba HP a0 a1 a2:=aaC rounds HQ Be j8 Ba HP a0 a1 a2
def NS:Option (List T):=
 (jD λa3 a4=>
 Yn a0 λa5=>
 Yl a4 a5 λa6=>
 aC a6 (
 Yl a4 (ii 4000) λa7=>
 aC a7 (
 pv (.bin .mul) [a3,ii 131] λa8=>
 Y1 a0 a4 λaI=>
 pv (.dA .i64) [aI] λaZ=>
 Ya a8 aZ λbc=>
 Ya bc (ii 7) λaU=>
 pv (.bin .and) [aU,ii 1073741823] λaX=>
 Ya a4 (ii 1) λaV=>
 k0 [aX,aV]) (
 yV (cV [a0,ii 0,a3]) λa8 a9 aI aZ bc aU aX aV bk=>
 Yz aZ λbr=>
 Yz aI λbF=>
 Yz a9 λbB=>
 Yz a8 λbK=>
 some [bK,bB,bF,br,bc,aU])) (
 yV (cV [a0,ii 0,a3]) λa7 a8 a9 aI aZ bc aU aX aV=>
 Yz aI λbk=>
 Yz a9 λbr=>
 Yz a8 λbF=>
 Yz a7 λbB=>
 some [bB,bF,br,bk,aZ,bc])) ts
def vw_:Option (List T):=
 Yn a0 λa1=>
 Ya (ii 13901) a1 λa2=>
 iter (NS cV a0) R [a2,ii 0]
theorem aaE:eF.den (pick [(34,cV)]) R [] [a0]=vw_ R cV a0:=(dJ (by kernel_rfl)).trans (by kernel_rfl)
theorem aaF:HR [a0]=vw_ rounds yY a0:=aaE rounds yY a0
def FA:Option (List T):=
 Yh a0 a1 λa3=>
 aC a3 (
 Ym a0 a2 λa4=>
 Yz a4 λa5=>
 some [a5]) (
 Yz (bb false) λa4=>
 some [a4])
theorem aaG:tq.den (pick []) R [] [a0,a1,a2]=FA a0 a1 a2:=(dJ (by kernel_rfl)).trans (by kernel_rfl)
theorem aaH:pw [a0,a1,a2]=FA a0 a1 a2:=aaG rounds a0 a1 a2
def RS:Option (List T):=
 (jD λa2 a3=>
 Yl a3 a1 λa4=>
 aC a4 (
 Y1 a0 a3 λa6=>
 cL (ci [a6,ii 1,ii 6]) λa7=>
 Yt a7 λa8=>
 aC a8 (
 Yz (bb false) λa9=>
 some [a9]) (
 Yg a3 (ii 0) λa9=>
 aC a9 (
 Ys a3 (ii 1) λaI=>
 Y1 a0 aI λbc=>
 Yh bc a6 λaU=>
 aC aU (
 Yz (bb false) λaX=>
 some [aX]) (
 Ya a3 (ii 1) λaX=>
 k0 [a2,aX])) (
 Ya a3 (ii 1) λaI=>
 k0 [a2,aI]))) (
 Yz (bb true) λa5=>
 some [a5])) ts
def kR_:Option (List T):=
 Yn a0 λa1=>
 iter (RS ci a0 a1) R [bb false,ii 0]
theorem aaJ:ki.den (pick [(44,ci)]) R [] [a0]=kR_ R ci a0:=(dJ (by kernel_rfl)).trans (by kernel_rfl)
theorem aaK:HS [a0]=kR_ rounds pw a0:=aaJ rounds pw a0
def RT:Option (List T):=
 (jD λa9 aI=>
 Yl aI a8 λaZ=>
 aC aZ (
 Y2 a5 aI λaU aX=>
 cL (ci [aU,ii 1,ii 6]) λaV=>
 Yt aV λbk=>
 aC bk (
 Yz (bb false) λbr=>
 some [br]) (
 Ye aU a2 λbr=>
 aC br (
 Yz (bb false) λbF=>
 some [bF]) (
 cL (ci [aX,ii 1,ii 1000]) λbF=>
 Yt bF λbB=>
 aC bB (
 Yz (bb false) λbK=>
 some [bK]) (
 Yg aI (ii 0) λbK=>
 aC bK (
 Ys aI (ii 1) λch=>
 Yb a5 ch λcz=>
 Yc 2 0 a5 ch λbO=>
 Yh bO aU λbL=>
 aC bL (
 Yz (bb false) λbD=>
 some [bD]) (
 Ya aI (ii 1) λbD=>
 k0 [a9,bD])) (
 Ya aI (ii 1) λch=>
 k0 [a9,ch]))))) (
 Yz (bb true) λbc=>
 some [bc])) ts
def FB:Option (List T):=
 Yn a5 λa8=>
 iter (RT ci a2 a5 a8) R [bb false,ii 0]
theorem aaL:lN.den (pick [(44,ci)]) R [] [a0,a1,a2,a3,a4,a5,a6,a7]=FB R ci a2 a5:=(dJ (by kernel_rfl)).trans (by kernel_rfl)
theorem aaM:HT [a0,a1,a2,a3,a4,a5,a6,a7]=FB rounds pw a2 a5:=aaL rounds pw a0 a1 a2 a3 a4 a5 a6 a7
def jJ_:Option (List T):=
 cL (ci [a2,ii 1,ii 6]) λa8=>
 Yt a8 λa9=>
 aC a9 (
 Yz (bb false) λaI=>
 some [aI]) (
 cL (ci [a4,ii 1,ii 100000]) λaI=>
 Yt aI λaZ=>
 aC aZ (
 Yz (bb false) λbc=>
 some [bc]) (
 Ye a1 (ii 1) λbc=>
 aC bc (
 cL (ci [a0,ii 0,ii 2]) λaU=>
 aC aU (
 Ye a3 (ii 0) λaX=>
 aC aX (
 cL (lZ [a0,a1,a2,a3,a4,a5,a6,a7]) λaV=>
 aC aV (
 Ye a6 (ii 0) λbk=>
 aC bk (
 Yt a7 λbr=>
 Yz br λbF=>
 some [bF]) (
 Yz (bb false) λbr=>
 some [br])) (
 Yz (bb false) λbk=>
 some [bk])) (
 Yz (bb false) λaV=>
 some [aV])) (
 Yz (bb false) λaX=>
 some [aX])) (
 Ye a1 (ii 2) λaU=>
 aC aU (
 cL (ci [a0,ii 0,ii 2]) λaX=>
 aC aX (
 cL (ci [a3,ii 1,ii 6]) λaV=>
 aC aV (
 Yn a5 λbk=>
 Ye bk (ii 0) λbr=>
 aC br (
 cL (ci [a6,ii 0,ii 60000]) λbF=>
 aC bF (
 Yt a7 λbB=>
 Yz bB λbK=>
 some [bK]) (
 Yz (bb false) λbB=>
 some [bB])) (
 Yz (bb false) λbF=>
 some [bF])) (
 Yz (bb false) λbk=>
 some [bk])) (
 Yz (bb false) λaV=>
 some [aV])) (
 Ye a1 (ii 3) λaX=>
 aC aX (
 Ye a0 (ii 9) λaV=>
 aC aV (
 cL (ci [a3,ii 1,ii 9]) λbk=>
 aC bk (
 Yn a5 λbr=>
 Ye br (ii 0) λbF=>
 aC bF (
 cL (ci [a6,ii 1,ii 1000]) λbB=>
 aC bB (
 Yz (bb true) λbK=>
 some [bK]) (
 Ye a6 (ii 60000) λbK=>
 Yz bK λch=>
 some [ch])) (
 Yz (bb false) λbB=>
 some [bB])) (
 Yz (bb false) λbr=>
 some [br])) (
 Yz (bb false) λbk=>
 some [bk])) (
 Yz (bb false) λaV=>
 some [aV])))))
theorem aaO:jg.den (pick [(44,ci),(98,lZ)]) R [] [a0,a1,a2,a3,a4,a5,a6,a7]=jJ_ ci lZ a0 a1 a2 a3 a4 a5 a6 a7:=(dJ (by kernel_rfl)).trans (by kernel_rfl)
theorem aaP:re [a0,a1,a2,a3,a4,a5,a6,a7]=jJ_ pw HT a0 a1 a2 a3 a4 a5 a6 a7:=aaO rounds pw HT a0 a1 a2 a3 a4 a5 a6 a7
def FC:Option (List T):=
 Yu a0 a8 λbk=>
 aC bk (
 Yl a0 a8 λbr=>
 Yz br λbF=>
 some [bF]) (
 Yu a1 a9 λbr=>
 aC br (
 Yl a1 a9 λbF=>
 Yz bF λbB=>
 some [bB]) (
 Yu a2 aI λbF=>
 aC bF (
 Yl a2 aI λbB=>
 Yz bB λbK=>
 some [bK]) (
 Yl a3 aZ λbB=>
 Yz bB λbK=>
 some [bK])))
theorem aaQ:lO.den (pick []) R [] [a0,a1,a2,a3,a4,a5,a6,a7,a8,a9,aI,aZ,bc,aU,aX,aV]=FC a0 a1 a2 a3 a8 a9 aI aZ:=(dJ (by kernel_rfl)).trans (by kernel_rfl)
theorem aaR:HU [a0,a1,a2,a3,a4,a5,a6,a7,a8,a9,aI,aZ,bc,aU,aX,aV]=FC a0 a1 a2 a3 a8 a9 aI aZ:=aaQ rounds a0 a1 a2 a3 a4 a5 a6 a7 a8 a9 aI aZ bc aU aX aV
def RU:Option (List T):=
 (jD λa2 a3=>
 Yl a3 a1 λa4=>
 aC a4 (
 Y8 a0 a3 λa6 a7 a8 a9 aI aZ bc aU=>
 cL (cq [a6,a7,a8,a9,aI,aZ,bc,aU]) λaX=>
 Yt aX λaV=>
 aC aV (
 Yz (bb false) λbk=>
 some [bk]) (
 Yg a3 (ii 0) λbk=>
 aC bk (
 Ys a3 (ii 1) λbr=>
 Y8 a0 br λbB bK ch cz bO bL bD bH=>
 cL (jp [bB,bK,ch,cz,bO,bL,bD,bH,a6,a7,a8,a9,aI,aZ,bc,aU]) λbN=>
 Yt bN λbT=>
 aC bT (
 Yz (bb false) λb_=>
 some [b_]) (
 Ya a3 (ii 1) λb_=>
 k0 [a2,b_])) (
 Ya a3 (ii 1) λbr=>
 k0 [a2,br]))) (
 Yn a0 λa5=>
 Ym a5 (ii 150) λa6=>
 Yz a6 λa7=>
 some [a7])) ts
def kO_:Option (List T):=
 Yn a0 λa1=>
 iter (RU jp cq a0 a1) R [bb false,ii 0]
theorem aaT:kj.den (pick [(68,cq),(72,jp)]) R [] [a0]=kO_ R jp cq a0:=(dJ (by kernel_rfl)).trans (by kernel_rfl)
theorem aaU:HV [a0]=kO_ rounds HU re a0:=aaT rounds HU re a0
def RV:Option (List T):=
 Ye a1 (ii 3) λa8=>
 jn (lK λa9=>
 Yz (bb false) λaI=>
 Yz a9 λaZ=>
 Yz a4 λbc=>
 Yz a3 λaU=>
 Yz a2 λaX=>
 Yz a1 λaV=>
 Yz a0 λbk=>
 some [bk,aV,aX,aU,bc,.l [],aZ,aI]) λk0=>
 aC a8 (
 k0 [ii 1]) (
 k0 [ii 0])
theorem aaV:lP.den (pick []) R [] [a0,a1,a2,a3,a4,a5,a6,a7]=RV a0 a1 a2 a3 a4:=(dJ (by kernel_rfl)).trans (by kernel_rfl)
theorem aaW:HW [a0,a1,a2,a3,a4,a5,a6,a7]=RV a0 a1 a2 a3 a4:=aaV rounds a0 a1 a2 a3 a4 a5 a6 a7
def kF_:Option (List T):=
 Ye a0 a8 λbk=>
 aC bk (
 Ye a1 a9 λbr=>
 aC br (
 Ye a2 aI λbF=>
 aC bF (
 Ye a3 aZ λbB=>
 Yz bB λbK=>
 some [bK]) (
 Yz (bb false) λbB=>
 some [bB])) (
 Yz (bb false) λbF=>
 some [bF])) (
 Yz (bb false) λbr=>
 some [br])
theorem aaY:kl.den (pick []) R [] [a0,a1,a2,a3,a4,a5,a6,a7,a8,a9,aI,aZ,bc,aU,aX,aV]=kF_ a0 a1 a2 a3 a8 a9 aI aZ:=(dJ (by kernel_rfl)).trans (by kernel_rfl)
theorem aaZ:HX [a0,a1,a2,a3,a4,a5,a6,a7,a8,a9,aI,aZ,bc,aU,aX,aV]=kF_ a0 a1 a2 a3 a8 a9 aI aZ:=aaY rounds a0 a1 a2 a3 a4 a5 a6 a7 a8 a9 aI aZ bc aU aX aV
def Ir:Option (List T):=
 (jD λbL bD=>
 Yl bD bO λbH=>
 aC bH (
 Y2 a5 bD λbT b_=>
 Y2 aU bD λcR dR=>
 pv (.oY [1,1]) [bT,b_,cR,dR] λeN=>
 Yt eN λdT=>
 aC dT (
 Yz (bb false) λfy=>
 some [fy]) (
 Ya bD (ii 1) λfy=>
 k0 [bL,fy])) (
 Yz (bb true) λbN=>
 some [bN])) ts
def jE_:Option (List T):=
 cL (kM [a0,a1,a2,a3,a4,a5,a6,a7,a8,a9,aI,aZ,bc,aU,aX,aV]) λbk=>
 Yt bk λbr=>
 aC br (
 Yz (bb false) λbF=>
 some [bF]) (
 Yu a6 aX λbF=>
 aC bF (
 Yz (bb false) λbB=>
 some [bB]) (
 pv (.bb .neq) [a7,aV] λbB=>
 aC bB (
 Yz (bb false) λbK=>
 some [bK]) (
 Yn a5 λbK=>
 Yn aU λch=>
 Yu bK ch λcz=>
 aC cz (
 Yz (bb false) λbO=>
 some [bO]) (
 Yn a5 λbO=>
 iter (Ir a5 aU bO) R [bb false,ii 0]))))
theorem aa1:jh.den (pick [(100,kM)]) R [] [a0,a1,a2,a3,a4,a5,a6,a7,a8,a9,aI,aZ,bc,aU,aX,aV]=jE_ R kM a0 a1 a2 a3 a4 a5 a6 a7 a8 a9 aI aZ bc aU aX aV:=(dJ (by kernel_rfl)).trans (by kernel_rfl)
theorem aa2:HY [a0,a1,a2,a3,a4,a5,a6,a7,a8,a9,aI,aZ,bc,aU,aX,aV]=jE_ rounds HX a0 a1 a2 a3 a4 a5 a6 a7 a8 a9 aI aZ bc aU aX aV:=aa1 rounds HX a0 a1 a2 a3 a4 a5 a6 a7 a8 a9 aI aZ bc aU aX aV
def RW:Option (List T):=
 (jD λa2 a3=>
 Yl a3 a1 λa4=>
 aC a4 (
 Y8 a0 a3 λa6 a7 a8 a9 aI aZ bc aU=>
 vX (jr [a6,a7,a8,a9,aI,aZ,bc,aU]) λaX aV bk br bF bB bK ch=>
 cL (gB [aX,aV,bk,br,bF,bB,bK,ch,a6,a7,a8,a9,aI,aZ,bc,aU]) λcz=>
 Yt cz λbO=>
 aC bO (
 Yz (bb false) λbL=>
 some [bL]) (
 Ya a3 (ii 1) λbL=>
 k0 [a2,bL])) (
 Yz (bb true) λa5=>
 some [a5])) ts
def FD:Option (List T):=
 Yn a0 λa1=>
 iter (RW gB jr a0 a1) R [bb false,ii 0]
theorem aa3:lQ.den (pick [(73,jr),(74,gB)]) R [] [a0]=FD R gB jr a0:=(dJ (by kernel_rfl)).trans (by kernel_rfl)
theorem aa4:HZ [a0]=FD rounds HY HW a0:=aa3 rounds HY HW a0
def um:Option (List T):=
 (jD λbr bF=>
 Yl bF bk λbB=>
 aC bB (
 Y8 a5 bF λch cz bO bL bD bH bN bT=>
 Yu ch a3 λb_=>
 aC b_ (
 Yu ch (ii 9) λcw=>
 aC cw (
 Yz (bb false) λcR=>
 some [cR]) (
 Ya bF (ii 1) λcR=>
 k0 [br,cR])) (
 Ya bF (ii 1) λcw=>
 k0 [br,cw])) (
 Yn a4 λbK=>
 Ye bK (ii 0) λch=>
 aC ch (
 cL (iA [a5]) λcz=>
 aC cz (
 Ye a0 (ii 3) λbO=>
 aC bO (
 Yz (bb true) λbL=>
 some [bL]) (
 cL (jt [a5]) λbL=>
 Yz bL λbD=>
 some [bD])) (
 Yz (bb false) λbO=>
 some [bO])) (
 Yz (bb false) λcz=>
 some [cz]))) ts
def y9:Option (List T):=
 cL (ci [a0,ii 1,ii 3]) λa6=>
 Yt a6 λa7=>
 aC a7 (
 Yz (bb false) λa8=>
 some [a8]) (
 cL (ci [a1,ii 1,ii 6]) λa8=>
 Yt a8 λa9=>
 aC a9 (
 Yz (bb false) λaI=>
 some [aI]) (
 cL (ci [a2,ii 1,ii 6]) λaI=>
 Yt aI λaZ=>
 aC aZ (
 Yz (bb false) λbc=>
 some [bc]) (
 Ye a1 a2 λbc=>
 aC bc (
 Yz (bb false) λaU=>
 some [aU]) (
 cL (ci [a3,ii 0,ii 2]) λaU=>
 Yt aU λaX=>
 aC aX (
 Yz (bb false) λaV=>
 some [aV]) (
 Ye a0 (ii 1) λaV=>
 aC aV (
 cL (kO [a4]) λbk=>
 aC bk (
 Yn a5 λbr=>
 Ye br (ii 0) λbF=>
 Yz bF λbB=>
 some [bB]) (
 Yz (bb false) λbr=>
 some [br])) (
 Yn a5 λbk=>
 iter (um iA jt a0 a3 a4 a5 bk) R [bb false,ii 0]))))))
theorem aa5:ji.den (pick [(44,ci),(45,kO),(46,iA),(47,jt)]) R [] [a0,a1,a2,a3,a4,a5]=y9 R iA kO ci jt a0 a1 a2 a3 a4 a5:=(dJ (by kernel_rfl)).trans (by kernel_rfl)
theorem aa6:ol [a0,a1,a2,a3,a4,a5]=y9 rounds HV HS pw HZ a0 a1 a2 a3 a4 a5:=aa5 rounds HV HS pw HZ a0 a1 a2 a3 a4 a5
def we:Option (List T):=
 (jD λa3 a4=>
 Yg a3 (ii 127) λa5=>
 aC a5 (
 pv (.bin .rem) [a3,ii 128] λa6=>
 Ya a6 (ii 128) λa7=>
 pv (.dA .u8) [a7] λa8=>
 Yx a8 λa9=>
 Yp a4 a9 λaI=>
 pv (.bin .quo) [a3,ii 128] λaZ=>
 k0 [aZ,aI]) (
 pv (.dA .u8) [a3] λa6=>
 Yx a6 λa7=>
 Yp a4 a7 λa8=>
 pv (.str) [a8] λa9=>
 Yz (bb true) λaI=>
 Yz a9 λaZ=>
 some [aZ,aI])) ts
def k2_:Option (List T):=
 cL (ci [a0,ii 0,ii 1000000000]) λa1=>
 Yt a1 λa2=>
 aC a2 (
 Yz (bb false) λa3=>
 Yz (.c (.string (ByteArray.mk #[]))) λa4=>
 some [a4,a3]) (
 iter (we) R [a0,.l []])
theorem aa8:km.den (pick [(44,ci)]) R [] [a0]=k2_ R ci a0:=(dJ (by kernel_rfl)).trans (by kernel_rfl)
theorem aa9:vn [a0]=k2_ rounds pw a0:=aa8 rounds pw a0
def Is:Option (List T):=
 (jD λbL bD=>
 Yl bD bO λbH=>
 aC bH (
 Y2 a5 bD λbT b_=>
 mE (bQ [b_]) λcw cR=>
 pv (.dA .u8) [bT] λdR=>
 Yx dR λeN=>
 pv (.str) [eN] λdT=>
 Ya dT cw λfy=>
 Ya bL fy λhZ=>
 Ya bD (ii 1) λiC=>
 k0 [hZ,iC]) (
 mE (bQ [a6]) λbN bT=>
 jn (lK λb_=>
 Ya bL bN λcw=>
 Ya cw b_ λcR=>
 Yz (bb true) λdR=>
 Yz cR λeN=>
 some [eN,dR]) λk1=>
 aC a7 (
 k1 [.c (.string (ByteArray.mk #[1]))]) (
 k1 [.c (.string (ByteArray.mk #[0]))]))) ts
def RX:Option (List T):=
 cL (cq [a0,a1,a2,a3,a4,a5,a6,a7]) λa8=>
 Yt a8 λa9=>
 aC a9 (
 Yz (bb false) λaI=>
 Yz (.c (.string (ByteArray.mk #[]))) λaZ=>
 some [aZ,aI]) (
 mE (bQ [a4]) λaI aZ=>
 Yn a5 λbc=>
 mE (bQ [bc]) λaU aX=>
 pv (.dA .u8) [a0] λaV=>
 pv (.dA .u8) [a1] λbk=>
 pv (.dA .u8) [a2] λbr=>
 pv (.dA .u8) [a3] λbF=>
 pv (.lit 1 [true,true,true,true]) [aV,bk,br,bF] λbB=>
 pv (.str) [bB] λbK=>
 Ya bK aI λch=>
 Ya ch aU λcz=>
 Yn a5 λbO=>
 iter (Is bQ a5 a6 a7 bO) R [cz,ii 0])
theorem aa_:gQ.den (pick [(35,bQ),(68,cq)]) R [] [a0,a1,a2,a3,a4,a5,a6,a7]=RX R cq bQ a0 a1 a2 a3 a4 a5 a6 a7:=(dJ (by kernel_rfl)).trans (by kernel_rfl)
theorem aa':H0 [a0,a1,a2,a3,a4,a5,a6,a7]=RX rounds re vn a0 a1 a2 a3 a4 a5 a6 a7:=aa_ rounds re vn a0 a1 a2 a3 a4 a5 a6 a7
def je_:Option (List T):=
 pv (.lens) [a0] λa1=>
 Yg a1 (ii 20000) λa2=>
 aC a2 (
 Yz (bb false) λa3=>
 Yz (.c (.string (ByteArray.mk #[]))) λa4=>
 some [a4,a3]) (
 pv (.lens) [a0] λa3=>
 mE (bQ [a3]) λa4 a5=>
 Ya a4 a0 λa6=>
 Yz (bb true) λa7=>
 Yz a6 λa8=>
 some [a8,a7])
theorem abd:iI.den (pick [(35,bQ)]) R [] [a0]=je_ bQ a0:=(dJ (by kernel_rfl)).trans (by kernel_rfl)
theorem abe:H2 [a0]=je_ vn a0:=abd rounds vn a0
def FE:Option (List T):=
 (jD λa9 aI=>
 Yl aI (ii 8) λaZ=>
 aC aZ (
 pv (.bin .and) [a9,.c (.int .u32 1)] λbc=>
 Ye bc (.c (.int .u32 1)) λaU=>
 pv (.bin .shr) [a9,.c (.int .u64 1)] λaX=>
 jn (lK λaV=>
 Ya aI (ii 1) λbk=>
 k1 [aV,bk]) λk2=>
 aC aU (
 pv (.bin .xor) [aX,.c (.int .u32 3558460437)] λaV=>
 k2 [aV]) (
 k2 [aX])) (
 Ya a4 (ii 1) λbc=>
 k0 [a9,bc])) ts
def FF:Option (List T):=
 (jD λa3 a4=>
 Yl a4 a2 λa5=>
 aC a5 (
 pv (.idx) [a1,a4] λa6=>
 pv (.dA .u32) [a6] λa7=>
 pv (.bin .xor) [a3,a7] λa8=>
 iter (FE a4 k0) R [a8,ii 0]) (
 Yz a3 λa6=>
 some [a6])) ts
def kX_:Option (List T):=
 pv (.lens) [a1] λa2=>
 iter (FF R a1 a2) R [a0,ii 0]
theorem abg:ko.den (pick []) R [] [a0,a1]=kX_ R a0 a1:=(dJ (by kernel_rfl)).trans (by kernel_rfl)
theorem abh:H3 [a0,a1]=kX_ rounds a0 a1:=abg rounds a0 a1
def FG:Option (List T):=
 cL (kN [.c (.int .u32 4294967295),a0]) λa1=>
 Yz a1 λa2=>
 some [a2]
theorem abi:nl.den (pick [(99,kN)]) R [] [a0]=FG kN a0:=(dJ (by kernel_rfl)).trans (by kernel_rfl)
theorem abj:H4 [a0]=FG H3 a0:=abi rounds H3 a0
def RY:Option (List T):=
 pv (.lens) [a0] λa1=>
 Yg a1 (ii 20000) λa2=>
 aC a2 (
 Yz (bb false) λa3=>
 Yz (.c (.string (ByteArray.mk #[]))) λa4=>
 some [a4,a3]) (
 cL (nr [a0]) λa3=>
 pv (.bin .shr) [a3,.c (.int .u64 24)] λa4=>
 pv (.dA .u8) [a4] λa5=>
 pv (.bin .shr) [a3,.c (.int .u64 16)] λa6=>
 pv (.dA .u8) [a6] λa7=>
 pv (.bin .shr) [a3,.c (.int .u64 8)] λa8=>
 pv (.dA .u8) [a8] λa9=>
 pv (.dA .u8) [a3] λaI=>
 pv (.lit 1 [true,true,true,true]) [a5,a7,a9,aI] λaZ=>
 pv (.str) [aZ] λbc=>
 Ya a0 bc λaU=>
 Yz (bb true) λaX=>
 Yz aU λaV=>
 some [aV,aX])
theorem abk:lR.den (pick [(69,nr)]) R [] [a0]=RY nr a0:=(dJ (by kernel_rfl)).trans (by kernel_rfl)
theorem abl:Bf [a0]=RY H4 a0:=abk rounds H4 a0
def FH:Option (List T):=
 (xK λbN bT b_ cw=>
 Yl cw bH λcR=>
 aC cR (
 Y8 a5 cw λeN dT fy hZ iC iq jT iO=>
 mE (d_ [eN,dT,fy,hZ,iC,iq,jT,iO]) λjU lh=>
 mE (eM [jU]) λjR lp=>
 Yt lp λmF=>
 aC mF (
 Yz (bb false) λo_=>
 Yz (.c (.string (ByteArray.mk #[]))) λpc=>
 some [pc,o_]) (
 Ya b_ jR λo_=>
 Ya cw (ii 1) λpc=>
 k1 [bN,bT,o_,pc])) (
 mE (eb [b_]) λdR eN=>
 Yz eN λdT=>
 Yz dR λfy=>
 some [fy,dT])) ts
def FI:Option (List T):=
 (jD λbB bK=>
 Yl bK bF λch=>
 aC ch (
 Y1 a4 bK λbO=>
 pv (.dA .u8) [bO] λbL=>
 Yx bL λbD=>
 pv (.str) [bD] λbH=>
 Ya bB bH λbN=>
 Ya bK (ii 1) λbT=>
 k0 [bN,bT]) (
 Yn a5 λcz=>
 mE (bQ [cz]) λbO bL=>
 Ya bB bO λbD=>
 Yn a5 λbH=>
 iter (FH d_ eb eM a5 bH) R [.c (.string (ByteArray.mk #[])),bb false,bD,ii 0])) ts
def RZ:Option (List T):=
 cL (cp [a0,a1,a2,a3,a4,a5]) λa6=>
 Yt a6 λa7=>
 aC a7 (
 Yz (bb false) λa8=>
 Yz (.c (.string (ByteArray.mk #[]))) λa9=>
 some [a9,a8]) (
 Yn a4 λa8=>
 mE (bQ [a8]) λa9 aI=>
 pv (.dA .u8) [a0] λaZ=>
 pv (.dA .u8) [a1] λbc=>
 pv (.dA .u8) [a2] λaU=>
 pv (.dA .u8) [a3] λaX=>
 pv (.lit 1 [true,true,true,true]) [aZ,bc,aU,aX] λaV=>
 pv (.str) [aV] λbk=>
 Ya bk a9 λbr=>
 Yn a4 λbF=>
 iter (FI R d_ eb eM bQ a4 a5 bF) R [br,ii 0])
theorem abm:gR.den (pick [(18,cp),(35,bQ),(36,d_),(37,eM),(38,eb)]) R [] [a0,a1,a2,a3,a4,a5]=RZ R cp d_ eb eM bQ a0 a1 a2 a3 a4 a5:=(dJ (by kernel_rfl)).trans (by kernel_rfl)
theorem abn:H5 [a0,a1,a2,a3,a4,a5]=RZ rounds ol H0 Bf H2 vn a0 a1 a2 a3 a4 a5:=abm rounds ol H0 Bf H2 vn a0 a1 a2 a3 a4 a5
def It:Option (List T):=
 pv (.lens) [a0] λa1=>
 Yl a1 (ii 4) λa2=>
 aC a2 (
 Yz (bb false) λa3=>
 Yz (.c (.string (ByteArray.mk #[]))) λa4=>
 some [a4,a3]) (
 pv (.lens) [a0] λa3=>
 Ys a3 (ii 4) λa4=>
 pv (.fg false true) [a0,a4] λa5=>
 mE (eb [a5]) λa6 a7=>
 Yt a7 λa8=>
 aC a8 (
 Yz (bb false) λa9=>
 Yz (.c (.string (ByteArray.mk #[]))) λaI=>
 some [aI,a9]) (
 Yu a6 a0 λa9=>
 aC a9 (
 Yz (bb false) λaI=>
 Yz (.c (.string (ByteArray.mk #[]))) λaZ=>
 some [aZ,aI]) (
 Yz (bb true) λaI=>
 Yz a5 λaZ=>
 some [aZ,aI])))
theorem abo:jj.den (pick [(38,eb)]) R [] [a0]=It eb a0:=(dJ (by kernel_rfl)).trans (by kernel_rfl)
theorem abp:Fp [a0]=It Bf a0:=abo rounds Bf a0
def NT:Option (List T):=
 aC a2 (
 Yz (ii 0) λa3=>
 some [a3,a0,a1,bb true]) (
 pv (.lens) [a0] λa3=>
 Yh a1 a3 λa4=>
 aC a4 (
 Yz (ii 0) λa5=>
 some [a5,a0,a1,bb true]) (
 Ya a1 (ii 1) λa5=>
 Ys a5 (ii 1) λa6=>
 pv (.idx) [a0,a6] λa7=>
 pv (.dA .i64) [a7] λa8=>
 Yz a8 λa9=>
 some [a9,a0,a5,a2]))
theorem abq:gS.den (pick []) R [] [a0,a1,a2]=NT a0 a1 a2:=(dJ (by kernel_rfl)).trans (by kernel_rfl)
theorem abr:pA [a0,a1,a2]=NT a0 a1 a2:=abq rounds a0 a1 a2
def tA:Option (List T):=
 (Fg λa5 a6 a7 a8 a9 aI=>
 pv (.lens) [a0] λaZ=>
 Yl aI aZ λbc=>
 aC bc (
 Ya a1 (ii 5) λaU=>
 Yl aI aU λaX=>
 aC aX (
 pv (.idx) [a0,aI] λaV=>
 pv (.dA .i64) [aV] λbk=>
 pv (.bin .rem) [bk,ii 128] λbr=>
 pv (.bin .mul) [br,a9] λbF=>
 Ya a8 bF λbB=>
 pv (.bin .mul) [a9,ii 128] λbK=>
 Yl bk (ii 128) λch=>
 aC ch (
 Ye bk (ii 0) λcz=>
 aC cz (
 Yg aI a1 λbO=>
 aC bO (
 Yz (bb false) λbL=>
 Yz (ii 0) λbD=>
 Yz (ii 0) λbH=>
 some [bH,bD,bL]) (
 Yg bB (ii 1000000000) λbL=>
 aC bL (
 Yz (bb false) λbD=>
 Yz (ii 0) λbH=>
 Yz (ii 0) λbN=>
 some [bN,bH,bD]) (
 Ya aI (ii 1) λbD=>
 Yz (bb true) λbH=>
 Yz bD λbN=>
 Yz bB λbT=>
 some [bT,bN,bH]))) (
 Yg bB (ii 1000000000) λbO=>
 aC bO (
 Yz (bb false) λbL=>
 Yz (ii 0) λbD=>
 Yz (ii 0) λbH=>
 some [bH,bD,bL]) (
 Ya aI (ii 1) λbL=>
 Yz (bb true) λbD=>
 Yz bL λbH=>
 Yz bB λbN=>
 some [bN,bH,bD]))) (
 Ya aI (ii 1) λcz=>
 k0 [a5,a6,a7,bB,bK,cz])) (
 Yz (bb false) λaV=>
 Yz (ii 0) λbk=>
 Yz (ii 0) λbr=>
 some [br,bk,aV])) (
 Yz (bb false) λaU=>
 Yz (ii 0) λaX=>
 Yz (ii 0) λaV=>
 some [aV,aX,aU])) ts
def kC_:Option (List T):=
 pv (.lens) [a0] λa2=>
 cL (ci [a1,ii 0,a2]) λa3=>
 Yt a3 λa4=>
 aC a4 (
 Yz (bb false) λa5=>
 Yz (ii 0) λa6=>
 Yz (ii 0) λa7=>
 some [a7,a6,a5]) (
 iter (tA a0 a1) R [ii 0,ii 0,bb false,ii 0,ii 1,a1])
theorem abu:kq.den (pick [(44,ci)]) R [] [a0,a1]=kC_ R ci a0 a1:=(dJ (by kernel_rfl)).trans (by kernel_rfl)
theorem abv:Bg [a0,a1]=kC_ rounds pw a0 a1:=abu rounds pw a0 a1
def Iu:Option (List T):=
 Ff (fe [a0,a1]) λa3 a4 a5=>
 aC a2 (
 Yz (ii 0) λa6=>
 some [a6,a0,a1,bb true]) (
 Yt a5 λa6=>
 aC a6 (
 Yz (ii 0) λa7=>
 some [a7,a0,a1,bb true]) (
 Yz a3 λa7=>
 some [a7,a0,a4,a2]))
theorem abw:gT.den (pick [(70,fe)]) R [] [a0,a1,a2]=Iu fe a0 a1 a2:=(dJ (by kernel_rfl)).trans (by kernel_rfl)
theorem abx:pB [a0,a1,a2]=Iu Bg a0 a1 a2:=abw rounds Bg a0 a1 a2
def Iv:Option (List T):=
 Ff (fe [a0,a1]) λa2 a3 a4=>
 Yt a4 λa5=>
 aC a5 (
 Yz (bb false) λa6=>
 Yz (ii 0) λa7=>
 Yz (.c (.string (ByteArray.mk #[]))) λa8=>
 some [a8,a7,a6]) (
 Yg a2 (ii 20000) λa6=>
 aC a6 (
 Yz (bb false) λa7=>
 Yz (ii 0) λa8=>
 Yz (.c (.string (ByteArray.mk #[]))) λa9=>
 some [a9,a8,a7]) (
 pv (.lens) [a0] λa7=>
 Ys a7 a3 λa8=>
 Yg a2 a8 λa9=>
 aC a9 (
 Yz (bb false) λaI=>
 Yz (ii 0) λaZ=>
 Yz (.c (.string (ByteArray.mk #[]))) λbc=>
 some [bc,aZ,aI]) (
 Ya a3 a2 λaI=>
 pv (.fg true true) [a0,a3,aI] λaZ=>
 Ya a3 a2 λbc=>
 Yz (bb true) λaU=>
 Yz bc λaX=>
 Yz aZ λaV=>
 some [aV,aX,aU])))
theorem aby:iJ.den (pick [(70,fe)]) R [] [a0,a1]=Iv fe a0 a1:=(dJ (by kernel_rfl)).trans (by kernel_rfl)
theorem abz:H6 [a0,a1]=Iv Bg a0 a1:=aby rounds Bg a0 a1
def Iw:Option (List T):=
 Ff (iL [a0,a1]) λa3 a4 a5=>
 aC a2 (
 Yz (.c (.string (ByteArray.mk #[]))) λa6=>
 some [a6,a0,a1,bb true]) (
 Yt a5 λa6=>
 aC a6 (
 Yz (.c (.string (ByteArray.mk #[]))) λa7=>
 some [a7,a0,a1,bb true]) (
 Yz a3 λa7=>
 some [a7,a0,a4,a2]))
theorem abA:fT.den (pick [(71,iL)]) R [] [a0,a1,a2]=Iw iL a0 a1 a2:=(dJ (by kernel_rfl)).trans (by kernel_rfl)
theorem abB:rf [a0,a1,a2]=Iw H6 a0 a1 a2:=abA rounds H6 a0 a1 a2
def oS:Option (List T):=
 (rW λbD bH bN bT b_=>
 jn (lK λcw=>
 aC cw (
 cY (aP [bH,bN,bT]) λcR dR eN dT=>
 cY (bJ [dR,eN,dT]) λfy hZ iC iq=>
 pv (.lit 2 [true,true]) [cR,fy] λjT=>
 pv (.app true 2) [b_,jT] λiO=>
 Ys bD (ii 1) λjU=>
 k0 [jU,hZ,iC,iq,iO]) (
 cY (bJ [bH,bN,bT]) λcR dR eN dT=>
 cY (aP [dR,eN,dT]) λfy hZ iC iq=>
 Ye fy (ii 1) λjT=>
 jn (lK λiO=>
 aC iO (
 Yz (bb false) λjU=>
 Yz (bb false) λlh=>
 Yz (ii 0) λjR=>
 Yz (ii 0) λlp=>
 Yz (ii 0) λmF=>
 Yz (ii 0) λo_=>
 Yz (ii 0) λpc=>
 Yz (ii 0) λul=>
 some [ul,pc,o_,mF,lp,.l [],jR,lh,jU]) (
 Yz (bb true) λjU=>
 Yz jT λlh=>
 Yz cR λjR=>
 Yz br λlp=>
 Yz aU λmF=>
 Yz a9 λo_=>
 Yz a5 λpc=>
 Yz a1 λul=>
 some [ul,pc,o_,mF,lp,b_,jR,lh,jU])) λk1=>
 aC iq (
 k1 [bb true]) (
 Yg fy (ii 1) λiO=>
 aC iO (
 k1 [bb true]) (
 pv (.lens) [a0] λjU=>
 Yu iC jU λlh=>
 aC lh (
 k1 [bb true]) (
 cL (cq [a1,a5,a9,aU,br,b_,cR,jT]) λjR=>
 Yt jR λlp=>
 k1 [lp]))))) λk1=>
 Yg bD (ii 0) λcw=>
 aC cw (
 Yt bT λcR=>
 k1 [cR]) (
 k1 [bb false])) ts
def qv_:Option (List T):=
 cY (aP [a0,ii 0,bb false]) λa1 a2 a3 a4=>
 cY (aP [a2,a3,a4]) λa5 a6 a7 a8=>
 cY (aP [a6,a7,a8]) λa9 aI aZ bc=>
 cY (aP [aI,aZ,bc]) λaU aX aV bk=>
 cY (bJ [aX,aV,bk]) λbr bF bB bK=>
 cY (bJ [bF,bB,bK]) λch cz bO bL=>
 iter (oS cq bJ aP a0 a1 a5 a9 aU br) R [ch,cz,bO,bL,.l []]
theorem abD:gU.den (pick [(40,aP),(41,bJ),(68,cq)]) R [] [a0]=qv_ R cq bJ aP a0:=(dJ (by kernel_rfl)).trans (by kernel_rfl)
theorem abE:rh [a0]=qv_ rounds re pB pA a0:=abD rounds re pB pA a0
def nP:Option (List T):=
 (rW λdT fy hZ iC iq=>
 jn (lK λjT=>
 aC jT (
 cY (dC [fy,hZ,iC]) λiO jU lh jR=>
 yV (dZ [iO]) λlp mF o_ pc ul y6 y7 Im Io=>
 aC jR (
 pv (.lit 8 [true,true,true,true,true,false,true,true]) [lp,mF,o_,pc,ul,y6,y7,Im] λy8=>
 Yy iq y8 λCU=>
 Ys dT (ii 1) λCV=>
 k1 [CV,jU,lh,bb true,CU]) (
 Yt Io λy8=>
 pv (.lit 8 [true,true,true,true,true,false,true,true]) [lp,mF,o_,pc,ul,y6,y7,Im] λCU=>
 Yy iq CU λCV=>
 Ys dT (ii 1) λNP=>
 k1 [NP,jU,lh,y8,CV])) (
 jn (lK λiO=>
 aC iO (
 Yz (bb false) λjU=>
 Yz (ii 0) λlh=>
 Yz (ii 0) λjR=>
 Yz (ii 0) λlp=>
 Yz (ii 0) λmF=>
 some [mF,lp,jR,lh,.l [],.l [],jU]) (
 Yz (bb true) λjU=>
 Yz bk λlh=>
 Yz bc λjR=>
 Yz a8 λlp=>
 Yz a4 λmF=>
 some [mF,lp,jR,lh,bT,iq,jU])) λk2=>
 aC iC (
 k2 [bb true]) (
 pv (.lens) [a1] λiO=>
 Yu hZ iO λjU=>
 aC jU (
 k2 [bb true]) (
 cL (cp [a4,a8,bc,bk,bT,iq]) λlh=>
 Yt lh λjR=>
 k2 [jR])))) λk2=>
 Yg dT (ii 0) λjT=>
 aC jT (
 Yt iC λiO=>
 k2 [iO]) (
 k2 [bb false])) ts
def nQ:Option (List T):=
 (rW λbL bD bH bN bT=>
 jn (lK λb_=>
 aC b_ (
 cY (aP [bD,bH,bN]) λcw cR dR eN=>
 Yx cw λdT=>
 Yp bT dT λfy=>
 Ys bL (ii 1) λhZ=>
 k0 [hZ,cR,dR,eN,fy]) (
 cY (bJ [bD,bH,bN]) λcw cR dR eN=>
 iter (nP cp dZ dC a1 a4 a8 bc bk bT) R [cw,cR,dR,eN,.l []])) λk1=>
 Yg bL (ii 0) λb_=>
 aC b_ (
 Yt bN λcw=>
 k1 [cw]) (
 k1 [bb false])) ts
def R0:Option (List T):=
 mE (jq [a0]) λa1 a2=>
 Yt a2 λa3=>
 aC a3 (
 Yz (bb false) λa4=>
 Yz (ii 0) λa5=>
 Yz (ii 0) λa6=>
 Yz (ii 0) λa7=>
 Yz (ii 0) λa8=>
 some [a8,a7,a6,a5,.l [],.l [],a4]) (
 cY (aP [a1,ii 0,bb false]) λa4 a5 a6 a7=>
 cY (aP [a5,a6,a7]) λa8 a9 aI aZ=>
 cY (aP [a9,aI,aZ]) λbc aU aX aV=>
 cY (aP [aU,aX,aV]) λbk br bF bB=>
 cY (bJ [br,bF,bB]) λbK ch cz bO=>
 iter (nQ R cp dZ bJ aP dC a1 a4 a8 bc bk) R [bK,ch,cz,bO,.l []])
theorem abF:gV.den (pick [(18,cp),(39,jq),(40,aP),(41,bJ),(42,dZ),(43,dC)]) R [] [a0]=R0 R cp dZ jq bJ aP dC a0:=(dJ (by kernel_rfl)).trans (by kernel_rfl)
theorem abG:yZ [a0]=R0 rounds ol rh Fp pB pA rf a0:=abF rounds ol rh Fp pB pA rf a0
def jb_:Option (List T):=
 (jD λa5 a6=>
 Yn a0 λa7=>
 Yl a6 a7 λa8=>
 aC a8 (
 Y1 a0 a6 λaI=>
 Y1 a1 a6 λbc=>
 Yu aI bc λaU=>
 aC aU (
 Yz (bb false) λaX=>
 some [aX]) (
 Ya a6 (ii 1) λaX=>
 k0 [a5,aX])) (
 Yz (bb true) λa9=>
 some [a9])) ts
def FJ:Option (List T):=
 Yn a0 λa2=>
 Yn a1 λa3=>
 Yu a2 a3 λa4=>
 aC a4 (
 Yz (bb false) λa5=>
 some [a5]) (
 iter (jb_ a0 a1) R [bb false,ii 0])
theorem abI:lS.den (pick []) R [] [a0,a1]=FJ R a0 a1:=(dJ (by kernel_rfl)).trans (by kernel_rfl)
theorem abJ:H7 [a0,a1]=FJ rounds a0 a1:=abI rounds a0 a1
def FK:Option (List T):=
 (jD λbH bN=>
 Yn a5 λbT=>
 Yl bN bT λb_=>
 aC b_ (
 Y2 a5 bN λcR dR=>
 Y2 aU bN λdT fy=>
 pv (.oY [1,1]) [cR,dR,dT,fy] λhZ=>
 Yt hZ λiC=>
 aC iC (
 Yz (bb false) λiq=>
 some [iq]) (
 Ya bN (ii 1) λiq=>
 k0 [bH,iq])) (
 Yz (bb true) λcw=>
 some [cw])) ts
def FL:Option (List T):=
 Yu a0 a8 λbk=>
 aC bk (
 Yz (bb false) λbr=>
 some [br]) (
 Yu a1 a9 λbr=>
 aC br (
 Yz (bb false) λbF=>
 some [bF]) (
 Yu a2 aI λbF=>
 aC bF (
 Yz (bb false) λbB=>
 some [bB]) (
 Yu a3 aZ λbB=>
 aC bB (
 Yz (bb false) λbK=>
 some [bK]) (
 Yu a4 bc λbK=>
 aC bK (
 Yz (bb false) λch=>
 some [ch]) (
 Yu a6 aX λch=>
 aC ch (
 Yz (bb false) λcz=>
 some [cz]) (
 pv (.bb .neq) [a7,aV] λcz=>
 aC cz (
 Yz (bb false) λbO=>
 some [bO]) (
 Yn a5 λbO=>
 Yn aU λbL=>
 Yu bO bL λbD=>
 aC bD (
 Yz (bb false) λbH=>
 some [bH]) (
 iter (FK a5 aU) R [bb false,ii 0]))))))))
theorem abK:tv.den (pick []) R [] [a0,a1,a2,a3,a4,a5,a6,a7,a8,a9,aI,aZ,bc,aU,aX,aV]=FL R a0 a1 a2 a3 a4 a5 a6 a7 a8 a9 aI aZ bc aU aX aV:=(dJ (by kernel_rfl)).trans (by kernel_rfl)
theorem abL:vo [a0,a1,a2,a3,a4,a5,a6,a7,a8,a9,aI,aZ,bc,aU,aX,aV]=FL rounds a0 a1 a2 a3 a4 a5 a6 a7 a8 a9 aI aZ bc aU aX aV:=abK rounds a0 a1 a2 a3 a4 a5 a6 a7 a8 a9 aI aZ bc aU aX aV
def qo_:Option (List T):=
 (jD λa5 a6=>
 Yn a0 λa7=>
 Yl a6 a7 λa8=>
 aC a8 (
 Y8 a0 a6 λaI aZ bc aU aX aV bk br=>
 Y8 a1 a6 λbB bK ch cz bO bL bD bH=>
 cL (qJ [aI,aZ,bc,aU,aX,aV,bk,br,bB,bK,ch,cz,bO,bL,bD,bH]) λbN=>
 Yt bN λbT=>
 aC bT (
 Yz (bb false) λb_=>
 some [b_]) (
 Ya a6 (ii 1) λb_=>
 k0 [a5,b_])) (
 Yz (bb true) λa9=>
 some [a9])) ts
def kB_:Option (List T):=
 Yn a0 λa2=>
 Yn a1 λa3=>
 Yu a2 a3 λa4=>
 aC a4 (
 Yz (bb false) λa5=>
 some [a5]) (
 iter (qo_ qJ a0 a1) R [bb false,ii 0])
theorem abO:kt.den (pick [(48,qJ)]) R [] [a0,a1]=kB_ R qJ a0 a1:=(dJ (by kernel_rfl)).trans (by kernel_rfl)
theorem abP:H8 [a0,a1]=kB_ rounds vo a0 a1:=abO rounds vo a0 a1
def y_:Option (List T):=
 (rW λbc aU aX aV bk=>
 Yl aU (ii 12) λbr=>
 aC br (
 cY (ae [aX,aV,bk,ii 10000]) λbF bB bK ch=>
 Yx bF λcz=>
 Yp bc cz λbO=>
 Ya aU (ii 1) λbL=>
 k1 [bO,bL,bB,bK,ch]) (
 some [bc])) ts
def FM:Option (List T):=
 (rW λaU aX aV bk br=>
 Yl aX (ii 12) λbF=>
 aC bF (
 cY (ae [aV,bk,br,ii 10000]) λbB bK ch cz=>
 Yx bB λbO=>
 Yp aU bO λbL=>
 Ya aX (ii 1) λbD=>
 k1 [bL,bD,bK,ch,cz]) (
 some [aU])) ts
def FN:Option (List T):=
 (jD λa3 a4=>
 Yn a0 λa5=>
 Yl a4 a5 λa6=>
 aC a6 (
 Yl a4 (ii 4000) λa7=>
 aC a7 (
 pv (.bin .mul) [a3,ii 131] λa8=>
 Y1 a0 a4 λaI=>
 pv (.dA .i64) [aI] λaZ=>
 Ya a8 aZ λbc=>
 Ya bc (ii 7) λaU=>
 pv (.bin .and) [aU,ii 1073741823] λaX=>
 Ya a4 (ii 1) λaV=>
 k0 [aX,aV]) (
 cY (bM [a0,ii 0,a3]) λa8 a9 aI aZ=>
 pv (.lit 1 []) [] λbc=>
 iter (FM ae) R [bc,ii 0,a9,aI,aZ])) (
 cY (bM [a0,ii 0,a3]) λa7 a8 a9 aI=>
 pv (.lit 1 []) [] λaZ=>
 iter (y_ ae) R [aZ,ii 0,a8,a9,aI])) ts
def qF_:Option (List T):=
 Yn a0 λa1=>
 Ya (ii 13901) a1 λa2=>
 iter (FN R ae bM a0) R [a2,ii 0]
theorem abR:gW.den (pick [(49,bM),(50,ae)]) R [] [a0]=qF_ R ae bM a0:=(dJ (by kernel_rfl)).trans (by kernel_rfl)
theorem abS:H9 [a0]=qF_ rounds j8 rY a0:=abR rounds j8 rY a0
def R1:Option (List T):=
 (jD λa2 a3=>
 Yn a0 λa4=>
 Yl a3 a4 λa5=>
 aC a5 (
 Y8 a0 a3 λa7 a8 a9 aI aZ bc aU aX=>
 vX (bR [a7,a8,a9,aI,aZ,bc,aU,aX]) λaV bk br bF bB bK ch cz=>
 pv (.lit 8 [true,true,true,true,true,false,true,true]) [aV,bk,br,bF,bB,bK,ch,cz] λbO=>
 Yy a2 bO λbL=>
 Ya a3 (ii 1) λbD=>
 k0 [bL,bD]) (
 some [a2])) ts
def qj_:Option (List T):=
 pv (.lit 8 []) [] λa1=>
 iter (R1 bR a0) R [a1,ii 0]
theorem abU:gk.den (pick [(96,bR)]) R [] [a0]=qj_ R bR a0:=(dJ (by kernel_rfl)).trans (by kernel_rfl)
theorem abV:H_ [a0]=qj_ rounds uk a0:=abU rounds uk a0
def k1_:Option (List T):=
 pv (.lit 1 []) [] λa6=>
 Yp a6 a4 λa7=>
 cL (gm [a5]) λa8=>
 Yz a3 λa9=>
 Yz a2 λaI=>
 Yz a1 λaZ=>
 Yz a0 λbc=>
 some [bc,aZ,aI,a9,a7,a8]
theorem abX:ku.den (pick [(104,gm)]) R [] [a0,a1,a2,a3,a4,a5]=k1_ gm a0 a1 a2 a3 a4 a5:=(dJ (by kernel_rfl)).trans (by kernel_rfl)
theorem abY:Ia [a0,a1,a2,a3,a4,a5]=k1_ H_ a0 a1 a2 a3 a4 a5:=abX rounds H_ a0 a1 a2 a3 a4 a5
def xP:Option (List T):=
 vl (dt [a0,a1,a2]) λa3 a4 a5 a6 a7 a8 a9 aI aZ bc aU=>
 cY (ae [aZ,bc,aU,ii 30]) λaX aV bk br=>
 Ye aX (ii 0) λbF=>
 jn (A5 λbB bK ch cz bO bL bD bH bN bT b_=>
 Yz b_ λcw=>
 Yz bT λcR=>
 Yz bH λdR=>
 Yz bD λeN=>
 Yz bL λdT=>
 Yz bO λfy=>
 Yz cz λhZ=>
 some [hZ,fy,dT,eN,dR,bN,cR,cw,bB,bK,ch]) λk0=>
 aC bF (
 pv (.lit 1 [true,true,true,true]) [ii (-1),ii 3,ii 9,ii 0] λbB=>
 cY (aL [aV,bk,br,bB]) λbK ch cz bO=>
 k0 [ch,cz,bO,bK,a4,a5,a6,a7,a8,a9,aI]) (
 Ye aX (ii 1) λbB=>
 jn (A4 λbK ch cz bO bL bD bH bN bT b_=>
 k0 [bK,ch,cz,a3,bO,bL,bD,bH,bN,bT,b_]) λk1=>
 aC bB (
 pv (.lit 1 [true,true,true,true,true]) [ii 0,ii 1,ii 2,ii 3,ii 4] λbK=>
 cY (aL [aV,bk,br,bK]) λch cz bO bL=>
 k1 [cz,bO,bL,ch,a5,a6,a7,a8,a9,aI]) (
 Ye aX (ii 2) λbK=>
 jn (Ry λch cz bO bL bD bH bN bT b_=>
 k1 [ch,cz,bO,a4,bL,bD,bH,bN,bT,b_]) λk2=>
 aC bK (
 pv (.lit 1 [true,true,true]) [ii 0,ii 6,ii 7] λch=>
 cY (aL [aV,bk,br,ch]) λcz bO bL bD=>
 k2 [bO,bL,bD,cz,a6,a7,a8,a9,aI]) (
 Ye aX (ii 3) λch=>
 jn (HI λcz bO bL bD bH bN bT b_=>
 k2 [cz,bO,bL,a5,bD,bH,bN,bT,b_]) λk3=>
 aC ch (
 pv (.lit 1 [true,true,true,true,true,true]) [ii (-1),ii 0,ii 6,ii 7,ii 9,ii 10] λcz=>
 cY (aL [aV,bk,br,cz]) λbO bL bD bH=>
 k3 [bL,bD,bH,bO,a7,a8,a9,aI]) (
 Ye aX (ii 4) λcz=>
 jn (Fi λbO bL bD bH bN bT b_=>
 k3 [bO,bL,bD,a6,bH,bN,bT,b_]) λk4=>
 aC cz (
 pv (.lit 1 [true,true,true,true]) [ii 0,ii (-1),ii 100000,ii 100001] λbO=>
 cY (aL [aV,bk,br,bO]) λbL bD bH bN=>
 k4 [bD,bH,bN,bL,a8,a9,aI]) (
 Ye aX (ii 5) λbO=>
 jn (Fg λbL bD bH bN bT b_=>
 k4 [bL,bD,bH,a7,bN,bT,b_]) λk5=>
 aC bO (
 cY (ae [aV,bk,br,ii 8]) λbL bD bH bN=>
 pv (.lit 1 [true,true,true,true]) [ii 0,ii 1,ii 1000,ii 1001] λbT=>
 cY (aL [bD,bH,bN,bT]) λb_ cw cR dR=>
 pv (.lit 2 [true,true]) [bL,b_] λeN=>
 pv (.app true 2) [a8,eN] λdT=>
 k5 [cw,cR,dR,dT,a9,aI]) (
 Ye aX (ii 6) λbL=>
 jn (rW λbD bH bN bT b_=>
 k5 [bD,bH,bN,a8,bT,b_]) λk6=>
 aC bL (
 pv (.lit 1 [true,true,true,true,true,true]) [ii (-1),ii 0,ii 1000,ii 1001,ii 60000,ii 60001] λbD=>
 cY (aL [aV,bk,br,bD]) λbH bN bT b_=>
 k6 [bN,bT,b_,bH,aI]) (
 Ye aX (ii 7) λbD=>
 jn (lK λbH=>
 k6 [aV,bk,br,a9,bH]) λk7=>
 aC bD (
 Yt aI λbH=>
 k7 [bH]) (
 k7 [aI]))))))))
theorem abZ:lT.den (pick [(50,ae),(81,aL),(95,dt)]) R [] [a0,a1,a2]=xP ae aL dt a0 a1 a2:=(dJ (by kernel_rfl)).trans (by kernel_rfl)
theorem ab0:Ib [a0,a1,a2]=xP j8 v_ Bb a0 a1 a2:=abZ rounds j8 v_ Bb a0 a1 a2
def CX:Option (List T):=
 yV (cV [a0,a1,a2]) λa3 a4 a5 a6 a7 a8 a9 aI aZ=>
 M5 (kW [a3,a4,a5,a6,a7,a8]) λbc aU aX aV bk br=>
 cY (ae [a9,aI,aZ,ii 24]) λbF bB bK ch=>
 Ye bF (ii 0) λcz=>
 jn (HI λbO bL bD bH bN bT b_ cw=>
 Yz bT λcR=>
 Yz aX λdR=>
 Yz bN λeN=>
 Yz bH λdT=>
 some [dT,eN,dR,cR,b_,cw,bO,bL,bD]) λk0=>
 aC cz (
 pv (.lit 1 [true,true,true,true,true]) [ii 0,ii 1,ii 2,ii 3,ii 4] λbO=>
 cY (aL [bB,bK,ch,bO]) λbL bD bH bN=>
 k0 [bD,bH,bN,bL,aU,aV,bk,br]) (
 Ye bF (ii 1) λbO=>
 jn (Fi λbL bD bH bN bT b_ cw=>
 k0 [bL,bD,bH,bc,bN,bT,b_,cw]) λk1=>
 aC bO (
 pv (.lit 1 [true,true,true,true]) [ii 0,ii 6,ii 7,aX] λbL=>
 cY (aL [bB,bK,ch,bL]) λbD bH bN bT=>
 k1 [bH,bN,bT,bD,aV,bk,br]) (
 Ye bF (ii 2) λbL=>
 jn (Fg λbD bH bN bT b_ cw=>
 k1 [bD,bH,bN,aU,bT,b_,cw]) λk2=>
 aC bL (
 pv (.lit 1 [true,true,true,true]) [ii (-1),ii 0,ii 2,ii 3] λbD=>
 cY (aL [bB,bK,ch,bD]) λbH bN bT b_=>
 k2 [bN,bT,b_,bH,bk,br]) (
 Ye bF (ii 3) λbD=>
 jn (rW λbH bN bT b_ cw=>
 k2 [bH,bN,bT,aV,b_,cw]) λk3=>
 aC bD (
 cY (ae [bB,bK,ch,ii 8]) λbH bN bT b_=>
 Yx bH λcw=>
 Yp bk cw λcR=>
 k3 [bN,bT,b_,cR,br]) (
 Ye bF (ii 4) λbH=>
 jn (xK λbN bT b_ cw=>
 k3 [bN,bT,b_,bk,cw]) λk4=>
 aC bH (
 vl (l7 [bB,bK,ch]) λbN bT b_ cw cR dR eN dT fy hZ iC=>
 pv (.lit 8 []) [bN,bT,b_,cw,cR,dR,eN,dT] λiq=>
 Yy br iq λjT=>
 k4 [fy,hZ,iC,jT]) (
 k4 [bB,bK,ch,br])))))
theorem ab1:lU.den (pick [(34,cV),(50,ae),(80,kW),(81,aL),(82,l7)]) R [] [a0,a1,a2]=CX ae aL l7 kW cV a0 a1 a2:=(dJ (by kernel_rfl)).trans (by kernel_rfl)
theorem ab2:Ic [a0,a1,a2]=CX j8 v_ Ib Ia yY a0 a1 a2:=ab1 rounds j8 v_ Ib Ia yY a0 a1 a2
def R2:Option (List T):=
 (jD λa3 a4=>
 Yn a0 λa5=>
 Yl a4 a5 λa6=>
 aC a6 (
 Y8 a0 a4 λa8 a9 aI aZ bc aU aX aV=>
 cL (cI [a8,a9,aI,aZ,bc,aU,aX,aV]) λbk=>
 Yt bk λbr=>
 aC br (
 Yz (bb false) λbF=>
 some [bF]) (
 Yg a4 (ii 0) λbF=>
 aC bF (
 Ys a4 (ii 1) λbB=>
 Y8 a0 bB λch cz bO bL bD bH bN bT=>
 Y8 a0 a4 λcw cR dR eN dT fy hZ iC=>
 cL (dm [ch,cz,bO,bL,bD,bH,bN,bT,cw,cR,dR,eN,dT,fy,hZ,iC]) λiq=>
 Yt iq λjT=>
 aC jT (
 Yz (bb false) λiO=>
 some [iO]) (
 Ya a4 (ii 1) λiO=>
 k0 [a3,iO])) (
 Ya a4 (ii 1) λbB=>
 k0 [a3,bB]))) (
 Yz (bb true) λa7=>
 some [a7])) ts
def kL_:Option (List T):=
 Yn a0 λa1=>
 Yg a1 (ii 150) λa2=>
 aC a2 (
 Yz (bb false) λa3=>
 some [a3]) (
 iter (R2 dm cI a0) R [bb false,ii 0])
theorem ab4:kC.den (pick [(103,cI),(117,dm)]) R [] [a0]=kL_ R dm cI a0:=(dJ (by kernel_rfl)).trans (by kernel_rfl)
theorem ab5:Ie [a0]=kL_ rounds Bd wb a0:=ab4 rounds Bd wb a0
def Ix:Option (List T):=
 (jD λbO bL=>
 Yn a5 λbD=>
 Yl bL bD λbH=>
 aC bH (
 Y2 a5 bL λbT b_=>
 Y2 aU bL λcR dR=>
 pv (.oY [1,1]) [bT,b_,cR,dR] λeN=>
 Yt eN λdT=>
 aC dT (
 Yz (bb false) λfy=>
 some [fy]) (
 Ya bL (ii 1) λfy=>
 k0 [bO,fy])) (
 Yz (bb true) λbN=>
 some [bN])) ts
def jH_:Option (List T):=
 cL (ef [a0,a1,a2,a3,a4,a5,a6,a7,a8,a9,aI,aZ,bc,aU,aX,aV]) λbk=>
 Yt bk λbr=>
 aC br (
 Yz (bb false) λbF=>
 some [bF]) (
 Yu a6 aX λbF=>
 aC bF (
 Yz (bb false) λbB=>
 some [bB]) (
 pv (.bb .neq) [a7,aV] λbB=>
 aC bB (
 Yz (bb false) λbK=>
 some [bK]) (
 Yn a5 λbK=>
 Yn aU λch=>
 Yu bK ch λcz=>
 aC cz (
 Yz (bb false) λbO=>
 some [bO]) (
 iter (Ix a5 aU) R [bb false,ii 0]))))
theorem ab7:jk.den (pick [(118,ef)]) R [] [a0,a1,a2,a3,a4,a5,a6,a7,a8,a9,aI,aZ,bc,aU,aX,aV]=jH_ R ef a0 a1 a2 a3 a4 a5 a6 a7 a8 a9 aI aZ bc aU aX aV:=(dJ (by kernel_rfl)).trans (by kernel_rfl)
theorem ab8:CS [a0,a1,a2,a3,a4,a5,a6,a7,a8,a9,aI,aZ,bc,aU,aX,aV]=jH_ rounds Bc a0 a1 a2 a3 a4 a5 a6 a7 a8 a9 aI aZ bc aU aX aV:=ab7 rounds Bc a0 a1 a2 a3 a4 a5 a6 a7 a8 a9 aI aZ bc aU aX aV
def om:Option (List T):=
 (jD λbc aU=>
 Yn a5 λaX=>
 Yl aU aX λaV=>
 aC aV (
 Y8 a5 aU λbr bF bB bK ch cz bO bL=>
 jn (lK λbD=>
 aC bD (
 Yz (bb false) λbH=>
 some [bH]) (
 Ya aU (ii 1) λbH=>
 k1 [bc,bH])) λk2=>
 Yu br a3 λbD=>
 aC bD (
 Yu br (ii 9) λbH=>
 aC bH (
 k2 [bb true]) (
 Ye a0 (ii 2) λbN=>
 aC bN (
 vX (bR [br,bF,bB,bK,ch,cz,bO,bL]) λbT b_ cw cR dR eN dT fy=>
 vX (cU [bT,b_,cw,cR,dR,eN,dT,fy]) λhZ iC iq jT iO jU lh jR=>
 cL (eu [hZ,iC,iq,jT,iO,jU,lh,jR,br,bF,bB,bK,ch,cz,bO,bL]) λlp=>
 Yt lp λmF=>
 k2 [mF]) (
 k2 [bb false]))) (
 Ye a0 (ii 2) λbH=>
 aC bH (
 vX (bR [br,bF,bB,bK,ch,cz,bO,bL]) λbN bT b_ cw cR dR eN dT=>
 vX (cU [bN,bT,b_,cw,cR,dR,eN,dT]) λfy hZ iC iq jT iO jU lh=>
 cL (eu [fy,hZ,iC,iq,jT,iO,jU,lh,br,bF,bB,bK,ch,cz,bO,bL]) λjR=>
 Yt jR λlp=>
 k2 [lp]) (
 k2 [bb false]))) (
 Yz (bb true) λbk=>
 some [bk])) ts
def pd:Option (List T):=
 (jD λa7 a8=>
 Yn a4 λa9=>
 Yl a8 a9 λaI=>
 aC aI (
 Y1 a4 a8 λbc=>
 cL (bg [bc,ii 1,ii 6]) λaU=>
 Yt aU λaX=>
 aC aX (
 Yz (bb false) λaV=>
 some [aV]) (
 Yg a8 (ii 0) λaV=>
 aC aV (
 Ys a8 (ii 1) λbk=>
 Y1 a4 bk λbF=>
 Y1 a4 a8 λbK=>
 Yh bF bK λch=>
 aC ch (
 Yz (bb false) λcz=>
 some [cz]) (
 Ya a8 (ii 1) λcz=>
 k0 [a7,cz])) (
 Ya a8 (ii 1) λbk=>
 k0 [a7,bk]))) (
 jn (lK λaZ=>
 aC aZ (
 Yz (bb false) λbc=>
 some [bc]) (
 iter (om eu bR cU a0 a3 a5) R [a7,ii 0])) λk1=>
 Ye a0 (ii 1) λaZ=>
 aC aZ (
 Yn a5 λbc=>
 Yg bc (ii 0) λaU=>
 aC aU (
 k1 [bb true]) (
 Yu a0 (ii 1) λaX=>
 aC aX (
 Yn a4 λaV=>
 Yg aV (ii 0) λbk=>
 aC bk (
 k1 [bb true]) (
 cL (eg [a5]) λbr=>
 Yt br λbF=>
 k1 [bF])) (
 cL (eg [a5]) λaV=>
 Yt aV λbk=>
 k1 [bk]))) (
 Yu a0 (ii 1) λbc=>
 aC bc (
 Yn a4 λaU=>
 Yg aU (ii 0) λaX=>
 aC aX (
 k1 [bb true]) (
 cL (eg [a5]) λaV=>
 Yt aV λbk=>
 k1 [bk])) (
 cL (eg [a5]) λaU=>
 Yt aU λaX=>
 k1 [aX])))) ts
def CY:Option (List T):=
 jn (lK λa6=>
 aC a6 (
 Yz (bb false) λa7=>
 some [a7]) (
 iter (pd R eu eg bg bR cU a0 a3 a4 a5) R [bb false,ii 0])) λk0=>
 cL (bg [a0,ii 1,ii 3]) λa6=>
 Yt a6 λa7=>
 aC a7 (
 k0 [bb true]) (
 cL (bg [a1,ii 1,ii 6]) λa8=>
 Yt a8 λa9=>
 aC a9 (
 k0 [bb true]) (
 cL (bg [a2,ii 1,ii 6]) λaI=>
 Yt aI λaZ=>
 aC aZ (
 k0 [bb true]) (
 Ye a1 a2 λbc=>
 aC bc (
 k0 [bb true]) (
 cL (bg [a3,ii 0,ii 2]) λaU=>
 Yt aU λaX=>
 k0 [aX]))))
theorem ab9:jl.den (pick [(90,bg),(96,bR),(97,cU),(101,eg),(102,eu)]) R [] [a0,a1,a2,a3,a4,a5]=CY R eu eg bg bR cU a0 a1 a2 a3 a4 a5:=(dJ (by kernel_rfl)).trans (by kernel_rfl)
theorem ab_:Ig [a0,a1,a2,a3,a4,a5]=CY rounds CS Ie tl uk xM a0 a1 a2 a3 a4 a5:=ab9 rounds CS Ie tl uk xM a0 a1 a2 a3 a4 a5
def kZ_:Option (List T):=
 pv (.dA .u8) [a0] λa1=>
 Yx a1 λa2=>
 pv (.str) [a2] λa3=>
 Yz a3 λa4=>
 some [a4]
theorem aca:kE.den (pick []) R [] [a0]=kZ_ a0:=(dJ (by kernel_rfl)).trans (by kernel_rfl)
theorem acb:Bh [a0]=kZ_ a0:=aca rounds a0
def wg:Option (List T):=
 (jD λa2 a3=>
 Yg a2 (ii 127) λa4=>
 aC a4 (
 pv (.bin .rem) [a2,ii 128] λa5=>
 Ya a5 (ii 128) λa6=>
 pv (.dA .u8) [a6] λa7=>
 Yx a7 λa8=>
 Yp a3 a8 λa9=>
 pv (.bin .quo) [a2,ii 128] λaI=>
 k0 [aI,a9]) (
 pv (.dA .u8) [a2] λa5=>
 Yx a5 λa6=>
 Yp a3 a6 λa7=>
 pv (.str) [a7] λa8=>
 Yz a8 λa9=>
 some [a9])) ts
def FO:Option (List T):=
 pv (.lit 1 []) [] λa1=>
 iter (wg) R [a0,a1]
theorem acd:lV.den (pick []) R [] [a0]=FO R a0:=(dJ (by kernel_rfl)).trans (by kernel_rfl)
theorem ace:pC [a0]=FO rounds a0:=acd rounds a0
def Iy:Option (List T):=
 (jD λcz bO=>
 Yn a5 λbL=>
 Yl bO bL λbD=>
 aC bD (
 Yb a5 bO λbH=>
 Yc 2 0 a5 bO λbN=>
 cL (bX [bN]) λbT=>
 Ya cz bT λb_=>
 Yb a5 bO λcw=>
 Yc 2 1 a5 bO λcR=>
 cL (bE [cR]) λdR=>
 Ya b_ dR λeN=>
 Ya bO (ii 1) λdT=>
 k0 [eN,dT]) (
 cL (bE [a6]) λbH=>
 Ya cz bH λbN=>
 aC a7 (
 Ya bN (.c (.string (ByteArray.mk #[1]))) λbT=>
 Yz (bb true) λb_=>
 Yz bT λcw=>
 some [cw,b_]) (
 Ya bN (.c (.string (ByteArray.mk #[0]))) λbT=>
 Yz (bb true) λb_=>
 Yz bT λcw=>
 some [cw,b_]))) ts
def R3:Option (List T):=
 cL (cI [a0,a1,a2,a3,a4,a5,a6,a7]) λa8=>
 Yt a8 λa9=>
 aC a9 (
 Yz (bb false) λaI=>
 Yz (.c (.string (ByteArray.mk #[]))) λaZ=>
 some [aZ,aI]) (
 cL (bX [a0]) λaI=>
 cL (bX [a1]) λaZ=>
 Ya aI aZ λbc=>
 cL (bX [a2]) λaU=>
 Ya bc aU λaX=>
 cL (bX [a3]) λaV=>
 Ya aX aV λbk=>
 cL (bE [a4]) λbr=>
 Ya bk br λbF=>
 Yn a5 λbB=>
 cL (bE [bB]) λbK=>
 Ya bF bK λch=>
 iter (Iy bE bX a5 a6 a7) R [ch,ii 0])
theorem acf:gX.den (pick [(76,bX),(77,bE),(103,cI)]) R [] [a0,a1,a2,a3,a4,a5,a6,a7]=R3 R cI bE bX a0 a1 a2 a3 a4 a5 a6 a7:=(dJ (by kernel_rfl)).trans (by kernel_rfl)
theorem acg:tw [a0,a1,a2,a3,a4,a5,a6,a7]=R3 rounds wb pC Bh a0 a1 a2 a3 a4 a5 a6 a7:=acf rounds wb pC Bh a0 a1 a2 a3 a4 a5 a6 a7
def j9_:Option (List T):=
 pv (.lens) [a0] λa1=>
 cL (bE [a1]) λa2=>
 Ya a2 a0 λa3=>
 Yz a3 λa4=>
 some [a4]
theorem aci:jm.den (pick [(77,bE)]) R [] [a0]=j9_ bE a0:=(dJ (by kernel_rfl)).trans (by kernel_rfl)
theorem acj:Ih [a0]=j9_ pC a0:=aci rounds pC a0
def FP:Option (List T):=
 (jD λa9 aI=>
 Yl aI (ii 8) λaZ=>
 aC aZ (
 pv (.bin .rem) [a9,.c (.int .u32 2)] λbc=>
 Ye bc (.c (.int .u32 1)) λaU=>
 pv (.bin .quo) [a9,.c (.int .u32 2)] λaX=>
 jn (lK λaV=>
 Ya aI (ii 1) λbk=>
 k1 [aV,bk]) λk2=>
 aC aU (
 pv (.bin .xor) [aX,.c (.int .u32 3558460437)] λaV=>
 k2 [aV]) (
 k2 [aX])) (
 Ya a3 (ii 1) λbc=>
 k0 [a9,bc])) ts
def FQ:Option (List T):=
 (jD λa2 a3=>
 pv (.lens) [a1] λa4=>
 Yl a3 a4 λa5=>
 aC a5 (
 pv (.idx) [a1,a3] λa6=>
 pv (.dA .u32) [a6] λa7=>
 pv (.bin .xor) [a2,a7] λa8=>
 iter (FP a3 k0) R [a8,ii 0]) (
 Yz a2 λa6=>
 some [a6])) ts
def kA_:Option (List T):=
 iter (FQ R a1) R [a0,ii 0]
theorem acm:kF.den (pick []) R [] [a0,a1]=kA_ R a0 a1:=(dJ (by kernel_rfl)).trans (by kernel_rfl)
theorem acn:Ii [a0,a1]=kA_ rounds a0 a1:=acm rounds a0 a1
def FR:Option (List T):=
 cL (kU [.c (.int .u32 4294967295),a0]) λa1=>
 Yz a1 λa2=>
 some [a2]
theorem aco:np.den (pick [(105,kU)]) R [] [a0]=FR kU a0:=(dJ (by kernel_rfl)).trans (by kernel_rfl)
theorem acp:Bi [a0]=FR Ii a0:=aco rounds Ii a0
def kD_:Option (List T):=
 pv (.bin .shr) [a0,.c (.int .u64 24)] λa1=>
 pv (.dA .u8) [a1] λa2=>
 pv (.bin .shr) [a0,.c (.int .u64 16)] λa3=>
 pv (.dA .u8) [a3] λa4=>
 pv (.bin .shr) [a0,.c (.int .u64 8)] λa5=>
 pv (.dA .u8) [a5] λa6=>
 pv (.dA .u8) [a0] λa7=>
 pv (.lit 1 [true,true,true,true]) [a2,a4,a6,a7] λa8=>
 pv (.str) [a8] λa9=>
 Yz a9 λaI=>
 some [aI]
theorem acr:kG.den (pick []) R [] [a0]=kD_ a0:=(dJ (by kernel_rfl)).trans (by kernel_rfl)
theorem acs:Bj [a0]=kD_ a0:=acr rounds a0
def R4:Option (List T):=
 pv (.lens) [a0] λa1=>
 Yg a1 (ii 20000) λa2=>
 aC a2 (
 Yz (bb false) λa3=>
 Yz (.c (.string (ByteArray.mk #[]))) λa4=>
 some [a4,a3]) (
 cL (gH [a0]) λa3=>
 cL (ff [a3]) λa4=>
 Ya a0 a4 λa5=>
 Yz (bb true) λa6=>
 Yz a5 λa7=>
 some [a7,a6])
theorem acu:lW.den (pick [(84,ff),(85,gH)]) R [] [a0]=R4 gH ff a0:=(dJ (by kernel_rfl)).trans (by kernel_rfl)
theorem acv:Bk [a0]=R4 Bi Bj a0:=acu rounds Bi Bj a0
def FT:Option (List T):=
 (jD λbN bT=>
 Yn a5 λb_=>
 Yl bT b_ λcw=>
 aC cw (
 Y8 a5 bT λdR eN dT fy hZ iC iq jT=>
 mE (cr [dR,eN,dT,fy,hZ,iC,iq,jT]) λiO jU=>
 cL (fw [iO]) λlh=>
 pv (.aR) [lh] λjR=>
 Yp bN jR λlp=>
 Ya bT (ii 1) λmF=>
 k1 [lp,mF]) (
 Yn bN λcR=>
 Ya cR (ii 4) λdR=>
 Yg dR (ii 20000) λeN=>
 aC eN (
 Yz (bb false) λdT=>
 Yz (.c (.string (ByteArray.mk #[]))) λfy=>
 some [fy,dT]) (
 pv (.str) [bN] λdT=>
 mE (dq [dT]) λfy hZ=>
 Yz hZ λiC=>
 Yz fy λiq=>
 some [iq,iC]))) ts
def FU:Option (List T):=
 (jD λbB bK=>
 Yn a4 λch=>
 Yl bK ch λcz=>
 aC cz (
 Y1 a4 bK λbL=>
 pv (.dA .u8) [bL] λbD=>
 Yx bD λbH=>
 Yp bB bH λbN=>
 Ya bK (ii 1) λbT=>
 k0 [bN,bT]) (
 Yn a5 λbO=>
 cL (bE [bO]) λbL=>
 pv (.aR) [bL] λbD=>
 Yp bB bD λbH=>
 iter (FT cr dq fw a5) R [bH,ii 0])) ts
def R5:Option (List T):=
 cL (ju [a0,a1,a2,a3,a4,a5]) λa6=>
 Yt a6 λa7=>
 aC a7 (
 Yz (bb false) λa8=>
 Yz (.c (.string (ByteArray.mk #[]))) λa9=>
 some [a9,a8]) (
 cL (bX [a0]) λa8=>
 cL (bX [a1]) λa9=>
 Ya a8 a9 λaI=>
 cL (bX [a2]) λaZ=>
 Ya aI aZ λbc=>
 cL (bX [a3]) λaU=>
 Ya bc aU λaX=>
 Yn a4 λaV=>
 cL (bE [aV]) λbk=>
 Ya aX bk λbr=>
 pv (.aR) [br] λbF=>
 iter (FU R cr dq bE fw a4 a5) R [bF,ii 0])
theorem acw:gY.den (pick [(55,dq),(75,ju),(76,bX),(77,bE),(78,cr),(79,fw)]) R [] [a0,a1,a2,a3,a4,a5]=R5 R ju cr dq bE bX fw a0 a1 a2 a3 a4 a5:=(dJ (by kernel_rfl)).trans (by kernel_rfl)
theorem acx:o9 [a0,a1,a2,a3,a4,a5]=R5 rounds Ig tw Bk pC Bh Ih a0 a1 a2 a3 a4 a5:=acw rounds Ig tw Bk pC Bh Ih a0 a1 a2 a3 a4 a5
def Bm:Option (List T):=
 (rW λa7 a8 a9 aI aZ=>
 Yl a8 a5 λbc=>
 aC bc (
 cY (bM [a9,aI,aZ]) λaU aX aV bk=>
 pv (.dA .u8) [aU] λbr=>
 Yx br λbF=>
 Yp a7 bF λbB=>
 Ya a8 (ii 1) λbK=>
 k0 [bB,bK,aX,aV,bk]) (
 pv (.str) [a7] λaU=>
 Yz aU λaX=>
 some [aX,a9,aI,aZ])) ts
def kH_:Option (List T):=
 Yg a3 (ii 5000) λa4=>
 jn (lK λa5=>
 pv (.lit 1 []) [] λa6=>
 iter (Bm bM a5) R [a6,ii 0,a0,a1,a2]) λk0=>
 aC a4 (
 k0 [ii 5000]) (
 k0 [a3])
theorem acz:kH.den (pick [(49,bM)]) R [] [a0,a1,a2,a3]=kH_ R bM a0 a1 a2 a3:=(dJ (by kernel_rfl)).trans (by kernel_rfl)
theorem acA:Fq [a0,a1,a2,a3]=kH_ rounds rY a0 a1 a2 a3:=acz rounds rY a0 a1 a2 a3
def Bn:Option (List T):=
 cY (ae [a0,a1,a2,ii 12]) λa4 a5 a6 a7=>
 Ye a4 (ii 0) λa8=>
 aC a8 (
 cY (iB [a5,a6,a7,ii 1]) λa9 aI aZ bc=>
 Ya a3 a9 λaU=>
 Yz aU λaX=>
 some [aX,aI,aZ,bc]) (
 Ye a4 (ii 1) λa9=>
 aC a9 (
 pv (.lens) [a3] λaI=>
 Ya aI (ii 1) λaZ=>
 cY (ae [a5,a6,a7,aZ]) λbc aU aX aV=>
 pv (.fg false true) [a3,bc] λbk=>
 Yz bk λbr=>
 some [br,aU,aX,aV]) (
 Ye a4 (ii 2) λaI=>
 jn (lK λaZ=>
 jn (lK λbc=>
 Yz a3 λaU=>
 some [aU,a5,a6,a7]) λk0=>
 aC aZ (
 pv (.lens) [a3] λbc=>
 Yg bc (ii 0) λaU=>
 aC aU (
 pv (.lens) [a3] λaX=>
 cY (ae [a5,a6,a7,aX]) λaV bk br bF=>
 pv (.fg false true) [a3,aV] λbB=>
 cY (iB [bk,br,bF,ii 1]) λbK ch cz bO=>
 Ya bB bK λbL=>
 Ya aV (ii 1) λbD=>
 pv (.fg true false) [a3,bD] λbH=>
 Ya bL bH λbN=>
 Yz bN λbT=>
 some [bT,ch,cz,bO]) (
 k0 [aZ])) (
 k0 [aZ])) λk0=>
 aC aI (
 k0 [aI]) (
 Ye a4 (ii 3) λaZ=>
 k0 [aZ])))
theorem acB:iK.den (pick [(50,ae),(83,iB)]) R [] [a0,a1,a2,a3]=Bn ae iB a0 a1 a2 a3:=(dJ (by kernel_rfl)).trans (by kernel_rfl)
theorem acC:Ij [a0,a1,a2,a3]=Bn j8 Fq a0 a1 a2 a3:=acB rounds j8 Fq a0 a1 a2 a3
def Iz:Option (List T):=
 pv (.lens) [a0] λa1=>
 Ys a1 (ii 4) λa2=>
 Yl a2 (ii 0) λa3=>
 aC a3 (
 Yz (bb false) λa4=>
 Yz (.c (.string (ByteArray.mk #[]))) λa5=>
 some [a5,a4]) (
 Yg a2 (ii 20000) λa4=>
 aC a4 (
 Yz (bb false) λa5=>
 Yz (.c (.string (ByteArray.mk #[]))) λa6=>
 some [a6,a5]) (
 pv (.fg true false) [a0,a2] λa5=>
 pv (.fg false true) [a0,a2] λa6=>
 cL (gH [a6]) λa7=>
 cL (ff [a7]) λa8=>
 Yu a5 a8 λa9=>
 aC a9 (
 Yz (bb false) λaI=>
 Yz (.c (.string (ByteArray.mk #[]))) λaZ=>
 some [aZ,aI]) (
 pv (.fg false true) [a0,a2] λaI=>
 Yz (bb true) λaZ=>
 Yz aI λbc=>
 some [bc,aZ])))
theorem acD:jo.den (pick [(84,ff),(85,gH)]) R [] [a0]=Iz gH ff a0:=(dJ (by kernel_rfl)).trans (by kernel_rfl)
theorem acE:xN [a0]=Iz Bi Bj a0:=acD rounds Bi Bj a0
def xQ:Option (List T):=
 (jD λa3 a4=>
 Yn a0 λa5=>
 Yl a4 a5 λa6=>
 aC a6 (
 Yl a4 (ii 4000) λa7=>
 aC a7 (
 pv (.bin .mul) [a3,ii 131] λa8=>
 Y1 a0 a4 λaI=>
 pv (.dA .i64) [aI] λaZ=>
 Ya a8 aZ λbc=>
 Ya bc (ii 7) λaU=>
 pv (.bin .and) [aU,ii 1073741823] λaX=>
 Ya a4 (ii 1) λaV=>
 k0 [aX,aV]) (
 yV (hY [a0,ii 0,a3]) λa8 a9 aI aZ bc aU aX aV bk=>
 mE (cg [a8,a9,aI,aZ,bc,aU]) λbr bF=>
 cY (ae [aX,aV,bk,ii 6]) λbB bK ch cz=>
 Ye bB (ii 0) λbO=>
 aC bO (
 cY (dr [bK,ch,cz,br]) λbL bD bH bN=>
 Yz bL λbT=>
 some [bT]) (
 Ye bB (ii 1) λbL=>
 jn (xK λbD bH bN bT=>
 Yz bT λb_=>
 some [b_]) λk1=>
 aC bL (
 mE (di [br]) λbD bH=>
 jn (xK λbN bT b_ cw=>
 k1 [bN,bT,b_,cw]) λk2=>
 aC bH (
 cY (dr [bK,ch,cz,bD]) λbN bT b_ cw=>
 mE (dq [bN]) λcR dR=>
 k2 [bT,b_,cw,cR]) (
 k2 [bK,ch,cz,br])) (
 k1 [bK,ch,cz,br])))) (
 yV (hY [a0,ii 0,a3]) λa7 a8 a9 aI aZ bc aU aX aV=>
 mE (cg [a7,a8,a9,aI,aZ,bc]) λbk br=>
 cY (ae [aU,aX,aV,ii 6]) λbF bB bK ch=>
 Ye bF (ii 0) λcz=>
 aC cz (
 cY (dr [bB,bK,ch,bk]) λbO bL bD bH=>
 Yz bO λbN=>
 some [bN]) (
 Ye bF (ii 1) λbO=>
 jn (xK λbL bD bH bN=>
 Yz bN λbT=>
 some [bT]) λk1=>
 aC bO (
 mE (di [bk]) λbL bD=>
 jn (xK λbH bN bT b_=>
 k1 [bH,bN,bT,b_]) λk2=>
 aC bD (
 cY (dr [bB,bK,ch,bL]) λbH bN bT b_=>
 mE (dq [bH]) λcw cR=>
 k2 [bN,bT,b_,cw]) (
 k2 [bB,bK,ch,bk])) (
 k1 [bB,bK,ch,bk])))) ts
def vF_:Option (List T):=
 Yn a0 λa1=>
 Ya (ii 13901) a1 λa2=>
 iter (xQ cg dq di ae dr hY a0) R [a2,ii 0]
theorem acG:e_.den (pick [(50,ae),(51,cg),(52,hY),(53,dr),(54,di),(55,dq)]) R [] [a0]=vF_ R cg dq di ae dr hY a0:=(dJ (by kernel_rfl)).trans (by kernel_rfl)
theorem acH:Ik [a0]=vF_ rounds o9 Bk xN j8 Ij Ic a0:=acG rounds o9 Bk xN j8 Ij Ic a0
def NU:Option (List T):=
 aC a2 (
 Yz (.c (.string (ByteArray.mk #[]))) λa4=>
 some [a4,a0,a1,bb true]) (
 pv (.lens) [a0] λa4=>
 Ys a4 a1 λa5=>
 Yg a3 a5 λa6=>
 aC a6 (
 Yz (.c (.string (ByteArray.mk #[]))) λa7=>
 some [a7,a0,a1,bb true]) (
 Ya a1 a3 λa7=>
 Ys a7 a3 λa8=>
 pv (.fg true true) [a0,a8,a7] λa9=>
 Yz a9 λaI=>
 some [aI,a0,a7,a2]))
theorem acI:kJ.den (pick []) R [] [a0,a1,a2,a3]=NU a0 a1 a2 a3:=(dJ (by kernel_rfl)).trans (by kernel_rfl)
theorem acJ:pD [a0,a1,a2,a3]=NU a0 a1 a2 a3:=acI rounds a0 a1 a2 a3
def NV:Option (List T):=
 cY (dI [a0,a1,a2,ii 1]) λa3 a4 a5 a6=>
 aC a6 (
 Yz (ii 0) λa7=>
 some [a7,a4,a5,a6]) (
 pv (.idx) [a3,ii 0] λa7=>
 pv (.dA .i64) [a7] λa8=>
 Yz a8 λa9=>
 some [a9,a4,a5,a6])
theorem acK:lX.den (pick [(59,dI)]) R [] [a0,a1,a2]=NV dI a0 a1 a2:=(dJ (by kernel_rfl)).trans (by kernel_rfl)
theorem acL:pE [a0,a1,a2]=NV pD a0 a1 a2:=acK rounds pD a0 a1 a2
def uo:Option (List T):=
 (Fg λa5 a6 a7 a8 a9 aI=>
 pv (.lens) [a0] λaZ=>
 Yl aI aZ λbc=>
 aC bc (
 Ya a1 (ii 5) λaU=>
 Yl aI aU λaX=>
 aC aX (
 pv (.idx) [a0,aI] λaV=>
 pv (.dA .i64) [aV] λbk=>
 pv (.bin .rem) [bk,ii 128] λbr=>
 pv (.bin .mul) [br,a9] λbF=>
 Ya a8 bF λbB=>
 pv (.bin .mul) [a9,ii 128] λbK=>
 pv (.idx) [a0,aI] λch=>
 Yl ch (.c (.int .u8 128)) λcz=>
 aC cz (
 Yg bB (ii 1000000000) λbO=>
 aC bO (
 Yz (bb false) λbL=>
 Yz (ii 0) λbD=>
 Yz (ii 0) λbH=>
 some [bH,bD,bL]) (
 cL (bE [bB]) λbL=>
 Ya aI (ii 1) λbD=>
 pv (.fg true true) [a0,a1,bD] λbH=>
 Yu bL bH λbN=>
 aC bN (
 Yz (bb false) λbT=>
 Yz (ii 0) λb_=>
 Yz (ii 0) λcw=>
 some [cw,b_,bT]) (
 Ya aI (ii 1) λbT=>
 Yz (bb true) λb_=>
 Yz bT λcw=>
 Yz bB λcR=>
 some [cR,cw,b_]))) (
 Ya aI (ii 1) λbO=>
 k0 [a5,a6,a7,bB,bK,bO])) (
 Yz (bb false) λaV=>
 Yz (ii 0) λbk=>
 Yz (ii 0) λbr=>
 some [br,bk,aV])) (
 Yz (bb false) λaU=>
 Yz (ii 0) λaX=>
 Yz (ii 0) λaV=>
 some [aV,aX,aU])) ts
def kV_:Option (List T):=
 pv (.lens) [a0] λa2=>
 cL (bg [a1,ii 0,a2]) λa3=>
 Yt a3 λa4=>
 aC a4 (
 Yz (bb false) λa5=>
 Yz (ii 0) λa6=>
 Yz (ii 0) λa7=>
 some [a7,a6,a5]) (
 iter (uo bE a0 a1) R [ii 0,ii 0,bb false,ii 0,ii 1,a1])
theorem acN:kK.den (pick [(77,bE),(90,bg)]) R [] [a0,a1]=kV_ R bg bE a0 a1:=(dJ (by kernel_rfl)).trans (by kernel_rfl)
theorem acO:Il [a0,a1]=kV_ rounds tl pC a0 a1:=acN rounds tl pC a0 a1
def IA:Option (List T):=
 Ff (kR [a0,a1]) λa3 a4 a5=>
 aC a2 (
 Yz (ii 0) λa6=>
 some [a6,a0,a1,bb true]) (
 Yt a5 λa6=>
 aC a6 (
 Yz (ii 0) λa7=>
 some [a7,a0,a1,bb true]) (
 Yz a3 λa7=>
 some [a7,a0,a4,a2]))
theorem acP:lY.den (pick [(86,kR)]) R [] [a0,a1,a2]=IA kR a0 a1 a2:=(dJ (by kernel_rfl)).trans (by kernel_rfl)
theorem acQ:nq [a0,a1,a2]=IA Il a0 a1 a2:=acP rounds Il a0 a1 a2
def qK:Option (List T):=
 (rW λbD bH bN bT b_=>
 jn (lK λcw=>
 aC cw (
 cY (bS [bH,bN,bT]) λcR dR eN dT=>
 cY (cu [dR,eN,dT]) λfy hZ iC iq=>
 pv (.lit 2 [true,true]) [cR,fy] λjT=>
 pv (.app true 2) [b_,jT] λiO=>
 Ya bD (ii 1) λjU=>
 k0 [jU,hZ,iC,iq,iO]) (
 cY (cu [bH,bN,bT]) λcR dR eN dT=>
 cY (bS [dR,eN,dT]) λfy hZ iC iq=>
 Ye fy (ii 1) λjT=>
 mE (cr [a1,a5,a9,aU,br,b_,cR,jT]) λiO jU=>
 jn (lK λlh=>
 aC lh (
 Yz (bb false) λjR=>
 Yz (bb false) λlp=>
 Yz (ii 0) λmF=>
 Yz (ii 0) λo_=>
 Yz (ii 0) λpc=>
 Yz (ii 0) λul=>
 Yz (ii 0) λy6=>
 Yz (ii 0) λy7=>
 some [y7,y6,ul,pc,o_,.l [],mF,lp,jR]) (
 Yz (bb true) λjR=>
 Yz jT λlp=>
 Yz cR λmF=>
 Yz br λo_=>
 Yz aU λpc=>
 Yz a9 λul=>
 Yz a5 λy6=>
 Yz a1 λy7=>
 some [y7,y6,ul,pc,o_,b_,mF,lp,jR])) λk1=>
 aC iq (
 k1 [bb true]) (
 Yt jU λlh=>
 aC lh (
 k1 [bb true]) (
 Yu iO a0 λjR=>
 k1 [jR])))) λk1=>
 Yl bD ch λcw=>
 aC cw (
 Yl bD (ii 50) λcR=>
 aC cR (
 Yt bT λdR=>
 k1 [dR]) (
 k1 [bb false])) (
 k1 [bb false])) ts
def qB_:Option (List T):=
 cY (bS [a0,ii 0,bb false]) λa1 a2 a3 a4=>
 cY (bS [a2,a3,a4]) λa5 a6 a7 a8=>
 cY (bS [a6,a7,a8]) λa9 aI aZ bc=>
 cY (bS [aI,aZ,bc]) λaU aX aV bk=>
 cY (cu [aX,aV,bk]) λbr bF bB bK=>
 cY (cu [bF,bB,bK]) λch cz bO bL=>
 iter (qK cr bS cu a0 a1 a5 a9 aU br ch) R [ii 0,cz,bO,bL,.l []]
theorem acS:gZ.den (pick [(56,bS),(57,cu),(78,cr)]) R [] [a0]=qB_ R cr bS cu a0:=(dJ (by kernel_rfl)).trans (by kernel_rfl)
theorem acT:qI [a0]=qB_ rounds tw pE nq a0:=acS rounds tw pE nq a0
def nR:Option (List T):=
 (rW λdT fy hZ iC iq=>
 jn (lK λjT=>
 aC jT (
 cY (cu [fy,hZ,iC]) λiO jU lh jR=>
 cY (dI [jU,lh,jR,iO]) λlp mF o_ pc=>
 yV (ed [lp]) λul y6 y7 Im Io y8 CU CV NP=>
 pv (.lit 8 [true,true,true,true,true,false,true,true]) [ul,y6,y7,Im,Io,y8,CU,CV] λRD=>
 Yy iq RD λRE=>
 Ya dT (ii 1) λRF=>
 k1 [RF,mF,o_,pc,RE]) (
 mE (cg [a4,a8,bc,bk,bT,iq]) λiO jU=>
 jn (lK λlh=>
 aC lh (
 Yz (bb false) λjR=>
 Yz (ii 0) λlp=>
 Yz (ii 0) λmF=>
 Yz (ii 0) λo_=>
 Yz (ii 0) λpc=>
 some [pc,o_,mF,lp,.l [],.l [],jR]) (
 Yz (bb true) λjR=>
 Yz bk λlp=>
 Yz bc λmF=>
 Yz a8 λo_=>
 Yz a4 λpc=>
 some [pc,o_,mF,lp,bT,iq,jR])) λk2=>
 aC iC (
 k2 [bb true]) (
 Yt jU λlh=>
 aC lh (
 k2 [bb true]) (
 Yu iO a0 λjR=>
 k2 [jR])))) λk2=>
 Yl dT cw λjT=>
 aC jT (
 Yl dT (ii 200) λiO=>
 aC iO (
 Yt iC λjU=>
 k2 [jU]) (
 k2 [bb false])) (
 k2 [bb false])) ts
def nS:Option (List T):=
 (rW λbL bD bH bN bT=>
 jn (lK λb_=>
 aC b_ (
 cY (bS [bD,bH,bN]) λcw cR dR eN=>
 Yx cw λdT=>
 Yp bT dT λfy=>
 Ya bL (ii 1) λhZ=>
 k0 [hZ,cR,dR,eN,fy]) (
 cY (cu [bD,bH,bN]) λcw cR dR eN=>
 iter (nR cg ed dI cu a0 a4 a8 bc bk bT cw) R [ii 0,cR,dR,eN,.l []])) λk1=>
 Yl bL bK λb_=>
 aC b_ (
 Yl bL (ii 50) λcw=>
 aC cw (
 Yt bN λcR=>
 k1 [cR]) (
 k1 [bb false])) (
 k1 [bb false])) ts
def R6:Option (List T):=
 mE (di [a0]) λa1 a2=>
 Yt a2 λa3=>
 cY (bS [a1,ii 0,a3]) λa4 a5 a6 a7=>
 cY (bS [a5,a6,a7]) λa8 a9 aI aZ=>
 cY (bS [a9,aI,aZ]) λbc aU aX aV=>
 cY (bS [aU,aX,aV]) λbk br bF bB=>
 cY (cu [br,bF,bB]) λbK ch cz bO=>
 iter (nS R cg ed bS dI cu a0 a4 a8 bc bk bK) R [ii 0,ch,cz,bO,.l []]
theorem acU:g_.den (pick [(51,cg),(54,di),(56,bS),(57,cu),(58,ed),(59,dI)]) R [] [a0]=R6 R cg ed di bS dI cu a0:=(dJ (by kernel_rfl)).trans (by kernel_rfl)
theorem acV:Bl [a0]=R6 rounds o9 qI xN pE pD nq a0:=acU rounds o9 qI xN pE pD nq a0
def kE_:Option (List T):=
 cL (xO [a0]) λa1=>
 aC a1 (
 Yz (bb true) λa2=>
 some [a2]) (
 M5 (eG [a0]) λa2 a3 a4 a5 a6 a7=>
 mE (fv [a2,a3,a4,a5,a6,a7]) λa8 a9=>
 Fh (dY [a8]) λaI aZ bc aU aX aV bk=>
 Yt a9 λbr=>
 aC br (
 Yz (bb false) λbF=>
 some [bF]) (
 Yt bk λbF=>
 aC bF (
 Yz (bb false) λbB=>
 some [bB]) (
 cL (cp [a2,a3,a4,a5,a6,a7]) λbB=>
 Yt bB λbK=>
 aC bK (
 Yz (bb false) λch=>
 some [ch]) (
 Yu aI a2 λch=>
 aC ch (
 Yz (bb false) λcz=>
 some [cz]) (
 Yu aZ a3 λcz=>
 aC cz (
 Yz (bb false) λbO=>
 some [bO]) (
 Yu bc a4 λbO=>
 aC bO (
 Yz (bb false) λbL=>
 some [bL]) (
 Yu aU a5 λbL=>
 aC bL (
 Yz (bb false) λbD=>
 some [bD]) (
 cL (l9 [aX,a6]) λbD=>
 Yt bD λbH=>
 aC bH (
 Yz (bb false) λbN=>
 some [bN]) (
 cL (kX [aV,a7]) λbN=>
 Yt bN λbT=>
 aC bT (
 Yz (bb false) λb_=>
 some [b_]) (
 cL (hO [a0]) λb_=>
 pv (.aR) [a8] λcw=>
 Yb b_ (ii 0) λcR=>
 pv (.de 1 0) [b_,ii 0] λdR=>
 Yn cw λeN=>
 pv (.bin .rem) [dR,eN] λdT=>
 Yq cw dT λhZ=>
 Yb b_ (ii 1) λiC=>
 pv (.de 1 0) [b_,ii 1] λiq=>
 pv (.bin .rem) [iq,ii 255] λjT=>
 Ya (ii 1) jT λiO=>
 pv (.dA .u8) [iO] λjU=>
 pv (.bin .xor) [hZ,jU] λlh=>
 Yb cw dT λjR=>
 pv (.put true 1 0 1) [cw,dT,lh] λlp=>
 pv (.str) [lp] λmF=>
 Fh (dY [mF]) λo_ pc ul y6 y7 Im Io=>
 cL (fa [a0]) λy8=>
 Fh (dY [y8]) λCU CV NP RD RE RF ZQ=>
 Fh (hX [y8]) λa61 a62 a63 a64 a65 a66 a67=>
 mE (fv [CU,CV,NP,RD,RE,RF]) λa68 a69=>
 Yt Io λa70=>
 aC a70 (
 pv (.bb .eql) [ZQ,a67] λRG=>
 aC RG (
 Yt ZQ λRH=>
 aC RH (
 Yz (bb true) λRI=>
 some [RI]) (
 Ye a68 y8 λRI=>
 Yz RI λa74=>
 some [a74])) (
 Yz (bb false) λRH=>
 some [RH])) (
 Yz (bb false) λRG=>
 some [RG])))))))))))
theorem acX:kL.den (pick [(5,xO),(15,eG),(16,fv),(17,dY),(18,cp),(19,l9),(20,kX),(21,hO),(22,fa),(23,hX)]) R [] [a0]=kE_ xO cp fv dY hO fa eG hX l9 kX a0:=(dJ (by kernel_rfl)).trans (by kernel_rfl)
theorem acY:RA [a0]=kE_ vm ol H5 yZ H9 Ik HR Bl H7 H8 a0:=acX rounds vm ol H5 yZ H9 Ik HR Bl H7 H8 a0
end
end Go.Proofs.YtbhplkilhknciaaC
