/- The plain programs as native functions (printed by a program). Conditions: none. -/
import Derived.Test.YtjimmglpkndemaaGreatXPE
import Derived.Test.YtjimmglpkndemaaGreatKe
namespace Go.Proofs.YtjimmglpkndemaaGreatC
set_option linter.unusedVariables false
section
variable (R:Nat) (WN DG cS fj jB f_ jC gg ld ij qh gh di eK jg il jD cT lg cA fC cZ qi dD gj jh bd oA cK dj ng uy ax gk lh bW bK fD be im qj mN dE li eG mO cb cn mP dF oB uz cg ji iq iu o9 cH ek lj eM dS bS gI gJ gm jq lk jr ll mQ eN gn fE dk fF fk fG eO c8 dq oC cp dG aw fm aX aW bg dr ke oD lm eX cW oE b8 aM mR ch dC cD bw cP dH eJ ln dO gK eo gp eg lp jM mS gb cE lq gq jN eZ gL jj iG et gu:aB)
variable (a0 a1 a2 a3 a4 a5 a6 a7 a8 a9 aG aJ a12 aK aL aP aQ aR aS aT a20 a21 bu aY a24 bk bc bq a28 bA bL a31 bO bX ci cu cm a37 cQ da a40 dV fa fH fO fV a46 gd fX a49 iL a51 iZ a53 lP j5 pw qk vd a59 ze ve tF lF sV zf uA yg yh uB a70 zg a72 wg vg a75 a76 EP Hg Jf a80 a81 a82 a83 a84 a85 a86 a87 a88 a89 a90 a91 a92 a93 a94 a95 a96 a97 a98 a99 auo aup auq aur aus a105 aut a107 auu a109 auv auw auy auz auA auB a116 a117 auC a119 auD auE auF auG a124 auH auI a127 auJ auK a130 a131 auL auM auN auO auP auQ a138 a139 auR a141 auS a143 auT a145 a146 auU a148 auV:T) (k0 k1 k2 k3 k4 k5 k6 k7 k8 k9 k10 k11 k12 k13 k14 k15 k16 k17 k18 k19:aB) (ts:List T)
def Mg:Option (List T):=
 Yn a0 λa1=>
 Yg a1 (ii 1048576) λa2=>
 Yz a2 λa3=>
 some [a3]
theorem ajK:Dy.den (pick []) R [] [a0]=Mg a0:=(cR (by kernel_rfl)).trans (by kernel_rfl)
theorem ajL:Av [a0]=Mg a0:=ajK rounds a0
def Hh:Option (List T):=
 pv (.bin .mul) [a2,ii 6364136223846793005] λa3=>
 Ya a3 (ii 1442695040888963407) λa4=>
 pv (.bin .shr) [a4,.c (.int .u64 33)] λa5=>
 pv (.bin .shr) [a4,.c (.int .u64 45)] λa6=>
 pv (.bin .xor) [a5,a6] λa7=>
 pv (.bin .and) [a7,ii 255] λa8=>
 Yn a0 λa9=>
 Yl a1 a9 λaG=>
 jn (dv λaJ a12=>
 Yz a12 λaK=>
 some [aK,a0,aJ,a4]) λk0=>
 az aG (
 Y1 a0 a1 λa12=>
 pv (.IH .i64) [a12] λaK=>
 Ya a8 aK λaL=>
 pv (.bin .and) [aL,ii 255] λaP=>
 Ya a1 (ii 1) λaQ=>
 k0 [aQ,aP]) (
 k0 [a1,a8])
theorem ajM:mc.den (pick []) R [] [a0,a1,a2]=Hh a0 a1 a2:=(cR (by kernel_rfl)).trans (by kernel_rfl)
theorem ajN:QA [a0,a1,a2]=Hh a0 a1 a2:=ajM rounds a0 a1 a2
def Hi:Option (List T):=
 Ym a3 (ii 0) λa4=>
 az a4 (
 Yz (ii 0) λa5=>
 some [a5,a0,a1,a2]) (
 Ym a3 (ii 256) λa5=>
 az a5 (
 eC (fm [a0,a1,a2]) λa6 a7 a8 a9=>
 pv (.bin .rem) [a6,a3] λaG=>
 Yz aG λaJ=>
 some [aJ,a7,a8,a9]) (
 eC (fm [a0,a1,a2]) λa6 a7 a8 a9=>
 eC (fm [a7,a8,a9]) λaG aJ a12 aK=>
 eC (fm [aJ,a12,aK]) λaL aP aQ aR=>
 eC (fm [aP,aQ,aR]) λaS aT a20 a21=>
 pv (.bin .mul) [a6,ii 16777216] λbu=>
 pv (.bin .mul) [aG,ii 65536] λaY=>
 Ya bu aY λa24=>
 pv (.bin .mul) [aL,ii 256] λbk=>
 Ya a24 bk λbc=>
 Ya bc aS λbq=>
 pv (.bin .rem) [bq,a3] λa28=>
 Yz a28 λbA=>
 some [bA,aT,a20,a21]))
theorem ajO:kt.den (pick [(215,fm)]) R [] [a0,a1,a2,a3]=Hi fm a0 a1 a2 a3:=(cR (by kernel_rfl)).trans (by kernel_rfl)
theorem ajP:ku [a0,a1,a2,a3]=Hi QA a0 a1 a2 a3:=ajO rounds QA a0 a1 a2 a3
def Mh:Option (List T):=
 Yn a3 λa4=>
 eC (aw [a0,a1,a2,a4]) λa5 a6 a7 a8=>
 Y1 a3 a5 λaG=>
 Yz aG λaJ=>
 some [aJ,a6,a7,a8]
theorem ajQ:jy.den (pick [(149,aw)]) R [] [a0,a1,a2,a3]=Mh aw a0 a1 a2 a3:=(cR (by kernel_rfl)).trans (by kernel_rfl)
theorem ajR:xX [a0,a1,a2,a3]=Mh ku a0 a1 a2 a3:=ajQ rounds ku a0 a1 a2 a3
def Mi:Option (List T):=
 Yl a0 a4 λa8=>
 az a8 (
 Yz (bb true) λa9=>
 some [a9]) (
 Ye a0 a4 λa9=>
 az a9 (
 Yl a1 a5 λaG=>
 az aG (
 Yz (bb true) λaJ=>
 some [aJ]) (
 Ye a1 a5 λaJ=>
 az aJ (
 Yl a3 a7 λa12=>
 Yz a12 λaK=>
 some [aK]) (
 Yz (bb false) λa12=>
 some [a12]))) (
 Yz (bb false) λaG=>
 some [aG]))
theorem ajS:kC.den (pick []) R [] [a0,a1,a2,a3,a4,a5,a6,a7]=Mi a0 a1 a3 a4 a5 a7:=(cR (by kernel_rfl)).trans (by kernel_rfl)
theorem ajT:GD [a0,a1,a2,a3,a4,a5,a6,a7]=Mi a0 a1 a3 a4 a5 a7:=ajS rounds a0 a1 a2 a3 a4 a5 a6 a7
def Jg:Option (List T):=
 (dv λa12 aK=>
 Yn a0 λaL=>
 Yl aK aL λaP=>
 az aP (
 Y4 a0 aK λaR aS aT a20=>
 bm (dr [a1,a2,a3,a4,aR,aS,aT,a20]) λa21=>
 jn (dJ λbu=>
 Ya aK (ii 1) λaY=>
 k1 [bu,aY]) λk2=>
 az a21 (
 Y4 a0 aK λaY a24 bk bc=>
 pv (.lit 4 [true,true,true,true]) [aY,a24,bk,bc] λbq=>
 pv (.app true 4) [a12,bq] λa28=>
 k2 [a28]) (
 k2 [a12])) (
 some [a12])) ts
def Jh:Option (List T):=
 (dv λa6 a7=>
 Yn a0 λa8=>
 Yl a7 a8 λa9=>
 az a9 (
 Y4 a0 a7 λaJ a12 aK aL=>
 bm (dr [aJ,a12,aK,aL,a1,a2,a3,a4]) λaP=>
 jn (dJ λaQ=>
 Ya a7 (ii 1) λaR=>
 k0 [aQ,aR]) λk1=>
 az aP (
 Y4 a0 a7 λaR aS aT a20=>
 pv (.lit 4 [true,true,true,true]) [aR,aS,aT,a20] λa21=>
 pv (.app true 4) [a6,a21] λbu=>
 k1 [bu]) (
 k1 [a6])) (
 pv (.lit 4 [true,true,true,true]) [a1,a2,a3,a4] λaG=>
 pv (.app true 4) [a6,aG] λaJ=>
 iter (Jg dr a0 a1 a2 a3 a4) R [aJ,ii 0])) ts
def Mk:Option (List T):=
 pv (.lit 4 []) [] λa5=>
 iter (Jh R dr a0 a1 a2 a3 a4) R [a5,ii 0]
theorem ajU:nN.den (pick [(204,dr)]) R [] [a0,a1,a2,a3,a4]=Mk R dr a0 a1 a2 a3 a4:=(cR (by kernel_rfl)).trans (by kernel_rfl)
theorem ajV:QB [a0,a1,a2,a3,a4]=Mk rounds GD a0 a1 a2 a3 a4:=ajU rounds GD a0 a1 a2 a3 a4
def Ml:Option (List T):=
 eC (aw [a0,a1,a2,a3]) λa4 a5 a6 a7=>
 Ye a4 (ii 0) λa8=>
 Yz a8 λa9=>
 some [a9,a5,a6,a7]
theorem ajW:me.den (pick [(149,aw)]) R [] [a0,a1,a2,a3]=Ml aw a0 a1 a2 a3:=(cR (by kernel_rfl)).trans (by kernel_rfl)
theorem ajX:r7 [a0,a1,a2,a3]=Ml ku a0 a1 a2 a3:=ajW rounds ku a0 a1 a2 a3
def Mm:Option (List T):=
 Yl a1 a5 λa8=>
 az a8 (
 Yz (bb true) λa9=>
 some [a9]) (
 Ye a1 a5 λa9=>
 az a9 (
 Yl a0 a4 λaG=>
 Yz aG λaJ=>
 some [aJ]) (
 Yz (bb false) λaG=>
 some [aG]))
theorem ajY:kE.den (pick []) R [] [a0,a1,a2,a3,a4,a5,a6,a7]=Mm a0 a1 a4 a5:=(cR (by kernel_rfl)).trans (by kernel_rfl)
theorem ajZ:GF [a0,a1,a2,a3,a4,a5,a6,a7]=Mm a0 a1 a4 a5:=ajY rounds a0 a1 a2 a3 a4 a5 a6 a7
def Ji:Option (List T):=
 (dv λa12 aK=>
 Yn a0 λaL=>
 Yl aK aL λaP=>
 az aP (
 Y4 a0 aK λaR aS aT a20=>
 bm (cW [a1,a2,a3,a4,aR,aS,aT,a20]) λa21=>
 jn (dJ λbu=>
 Ya aK (ii 1) λaY=>
 k1 [bu,aY]) λk2=>
 az a21 (
 Y4 a0 aK λaY a24 bk bc=>
 pv (.lit 4 [true,true,true,true]) [aY,a24,bk,bc] λbq=>
 pv (.app true 4) [a12,bq] λa28=>
 k2 [a28]) (
 k2 [a12])) (
 some [a12])) ts
def Jj:Option (List T):=
 (dv λa6 a7=>
 Yn a0 λa8=>
 Yl a7 a8 λa9=>
 az a9 (
 Y4 a0 a7 λaJ a12 aK aL=>
 bm (cW [aJ,a12,aK,aL,a1,a2,a3,a4]) λaP=>
 jn (dJ λaQ=>
 Ya a7 (ii 1) λaR=>
 k0 [aQ,aR]) λk1=>
 az aP (
 Y4 a0 a7 λaR aS aT a20=>
 pv (.lit 4 [true,true,true,true]) [aR,aS,aT,a20] λa21=>
 pv (.app true 4) [a6,a21] λbu=>
 k1 [bu]) (
 k1 [a6])) (
 pv (.lit 4 [true,true,true,true]) [a1,a2,a3,a4] λaG=>
 pv (.app true 4) [a6,aG] λaJ=>
 iter (Ji cW a0 a1 a2 a3 a4) R [aJ,ii 0])) ts
def Mo:Option (List T):=
 pv (.lit 4 []) [] λa5=>
 iter (Jj R cW a0 a1 a2 a3 a4) R [a5,ii 0]
theorem aj0:iR.den (pick [(205,cW)]) R [] [a0,a1,a2,a3,a4]=Mo R cW a0 a1 a2 a3 a4:=(cR (by kernel_rfl)).trans (by kernel_rfl)
theorem aj1:QC [a0,a1,a2,a3,a4]=Mo rounds GF a0 a1 a2 a3 a4:=aj0 rounds GF a0 a1 a2 a3 a4
def yi:Option (List T):=
 (ry λaT a20 a21 bu aY=>
 eC (aw [a20,a21,bu,ii 3]) λa24 bk bc bq=>
 Yl aT a24 λa28=>
 az a28 (
 eC (aw [bk,bc,bq,a7]) λbA bL a31 bO=>
 Ya (ii 1) bA λbX=>
 eC (aw [bL,a31,bO,ii 3]) λci cu cm a37=>
 Ya (ii 1) ci λcQ=>
 eC (aw [cu,cm,a37,ii 5]) λda a40 dV fa=>
 Ya (ii 1) da λfH=>
 eC (aW [a40,dV,fa,ii 2]) λfO fV a46 gd=>
 bm (eX [aY,bX,cQ,fH,fO]) λfX=>
 Ya aT (ii 1) λa49=>
 k1 [a49,fV,a46,gd,fX]) (
 Yz a7 λbA=>
 some [bA,a12,aY,bk,bc,bq])) ts
def yj:Option (List T):=
 (ry λa8 a9 aG aJ a12=>
 eC (aw [a9,aG,aJ,ii 3]) λaK aL aP aQ=>
 Ya a7 aK λaR=>
 Yl a8 aR λaS=>
 az aS (
 eC (aw [aL,aP,aQ,a7]) λaT a20 a21 bu=>
 Ya (ii 1) aT λaY=>
 eC (aw [a20,a21,bu,a7]) λa24 bk bc bq=>
 Ya (ii 1) a24 λa28=>
 Ya a8 (ii 1) λbA=>
 Yl bA a7 λbL=>
 jn (dv λa31 bO=>
 Ye a31 bO λbX=>
 jn (dJ λci=>
 Yg a31 ci λcu=>
 jn (dv λcm a37=>
 eC (aw [bk,bc,bq,ii 4]) λcQ da a40 dV=>
 Ya (ii 1) cQ λfa=>
 pv (.lit 1 [true,true,true,true]) [ii 0,ii 0,ii 1,ii 2] λfH=>
 eC (bg [da,a40,dV,fH]) λfO fV a46 gd=>
 Yn a12 λfX=>
 Yl fX (ii 12) λa49=>
 jn (dJ λiL=>
 Ya a8 (ii 1) λa51=>
 k0 [a51,fV,a46,gd,iL]) λk1=>
 az a49 (
 bm (lm [a12,cm,a37,fa,fO]) λiL=>
 k1 [iL]) (
 k1 [a12])) λk1=>
 az cu (
 k1 [ci,a31]) (
 k1 [a31,ci])) λk1=>
 az bX (
 pv (.bin .rem) [a31,a7] λci=>
 Ya ci (ii 1) λcu=>
 k1 [cu]) (
 k1 [bO])) λk1=>
 az bL (
 Ya a8 (ii 1) λa31=>
 Ya a8 (ii 2) λbO=>
 k1 [a31,bO]) (
 k1 [aY,a28])) (
 iter (yi aw aW eX a7 a12) R [ii 0,aL,aP,aQ,.l []])) ts
def Mp:Option (List T):=
 eC (aw [a0,a1,a2,ii 4]) λa3 a4 a5 a6=>
 Ya (ii 2) a3 λa7=>
 iter (yj R aw aW bg lm eX a7) R [ii 0,a4,a5,a6,.l []]
theorem aj2:nO.den (pick [(149,aw),(151,aW),(212,bg),(213,lm),(214,eX)]) R [] [a0,a1,a2]=Mp R aw aW bg lm eX a0 a1 a2:=(cR (by kernel_rfl)).trans (by kernel_rfl)
theorem aj3:QD [a0,a1,a2]=Mp rounds ku r7 xX QB QC a0 a1 a2:=aj2 rounds ku r7 xX QB QC a0 a1 a2
def kH_:Option (List T):=
 (dv λa6 a7=>
 Yn a1 λa8=>
 Yl a7 a8 λa9=>
 az a9 (
 Y4 a1 a7 λaJ a12 aK aL=>
 Ye aL a5 λaP=>
 az aP (
 Ye aJ a3 λaQ=>
 az aQ (
 Ye a12 a4 λaR=>
 az aR (
 Yz aK λaS=>
 some [aS]) (
 Ye aJ a4 λaS=>
 az aS (
 Ye a12 a3 λaT=>
 az aT (
 Yz aK λa20=>
 some [a20]) (
 Ya a7 (ii 1) λa20=>
 k0 [a6,a20])) (
 Ya a7 (ii 1) λaT=>
 k0 [a6,aT]))) (
 Ye aJ a4 λaR=>
 az aR (
 Ye a12 a3 λaS=>
 az aS (
 Yz aK λaT=>
 some [aT]) (
 Ya a7 (ii 1) λaT=>
 k0 [a6,aT])) (
 Ya a7 (ii 1) λaS=>
 k0 [a6,aS]))) (
 Ya a7 (ii 1) λaQ=>
 k0 [a6,aQ])) (
 Yz (ii 0) λaG=>
 some [aG])) ts
def Mq:Option (List T):=
 iter (kH_ a1 a3 a4 a5) R [ii 0,ii 0]
theorem aj4:nP.den (pick []) R [] [a0,a1,a2,a3,a4,a5]=Mq R a1 a3 a4 a5:=(cR (by kernel_rfl)).trans (by kernel_rfl)
theorem aj5:u0 [a0,a1,a2,a3,a4,a5]=Mq rounds a1 a3 a4 a5:=aj4 rounds a0 a1 a2 a3 a4 a5
def Mr:Option (List T):=
 Yh a0 a1 λa3=>
 az a3 (
 Ym a0 a2 λa4=>
 Yz a4 λa5=>
 some [a5]) (
 Yz (bb false) λa4=>
 some [a4])
theorem aj6:pR.den (pick []) R [] [a0,a1,a2]=Mr a0 a1 a2:=(cR (by kernel_rfl)).trans (by kernel_rfl)
theorem aj7:rA [a0,a1,a2]=Mr a0 a1 a2:=aj6 rounds a0 a1 a2
def Ms:Option (List T):=
 bm (aX [a0,ii 1,ii 6]) λa5=>
 az a5 (
 bm (aX [a1,ii 1,a0]) λa6=>
 az a6 (
 bm (aX [a2,ii 1,a0]) λa7=>
 az a7 (
 Yl a1 a2 λa8=>
 az a8 (
 bm (aX [a3,ii 1,ii 1000]) λa9=>
 az a9 (
 bm (aX [a4,ii 0,ii 2]) λaG=>
 Yz aG λaJ=>
 some [aJ]) (
 Yz (bb false) λaG=>
 some [aG])) (
 Yz (bb false) λa9=>
 some [a9])) (
 Yz (bb false) λa8=>
 some [a8])) (
 Yz (bb false) λa7=>
 some [a7])) (
 Yz (bb false) λa6=>
 some [a6])
theorem aj8:nQ.den (pick [(105,aX)]) R [] [a0,a1,a2,a3,a4]=Ms aX a0 a1 a2 a3 a4:=(cR (by kernel_rfl)).trans (by kernel_rfl)
theorem aj9:QE [a0,a1,a2,a3,a4]=Ms rA a0 a1 a2 a3 a4:=aj8 rounds rA a0 a1 a2 a3 a4
def Mu:Option (List T):=
 (dv λaK aL=>
 Yn a2 λaP=>
 Yl aL aP λaQ=>
 az aQ (
 Y4 a2 aL λaS aT a20 a21=>
 bm (aX [aS,ii 1,a0]) λbu=>
 Yt bu λaY=>
 az aY (
 Yz (bb false) λa24=>
 some [a24]) (
 bm (aX [aT,ii 1,ii 9]) λa24=>
 Yt a24 λbk=>
 az bk (
 Yz (bb false) λbc=>
 some [bc]) (
 bm (aX [a20,ii 1,ii 1000]) λbc=>
 Yt bc λbq=>
 az bq (
 Yz (bb false) λa28=>
 some [a28]) (
 Yg aL (ii 0) λa28=>
 az a28 (
 Ys aL (ii 1) λbA=>
 Y4 a2 bA λa31 bO bX ci=>
 bm (cW [a31,bO,bX,ci,aS,aT,a20,a21]) λcu=>
 Yt cu λcm=>
 az cm (
 Yz (bb false) λa37=>
 some [a37]) (
 Ya aL (ii 1) λa37=>
 k1 [aK,a37])) (
 Ya aL (ii 1) λbA=>
 k1 [aK,bA]))))) (
 Yz (bb true) λaR=>
 some [aR])) ts
def Mw:Option (List T):=
 (dv λa9 aG=>
 Yn a1 λaJ=>
 Yl aG aJ λa12=>
 az a12 (
 Y4 a1 aG λaL aP aQ aR=>
 bm (lk [a0,aL,aP,aQ,aR]) λaS=>
 Yt aS λaT=>
 az aT (
 Yz (bb false) λa20=>
 some [a20]) (
 Yg aG (ii 0) λa20=>
 az a20 (
 Ys aG (ii 1) λa21=>
 Y4 a1 a21 λaY a24 bk bc=>
 Y4 a1 aG λa28 bA bL a31=>
 bm (dr [aY,a24,bk,bc,a28,bA,bL,a31]) λbO=>
 Yt bO λbX=>
 az bX (
 Yz (bb false) λci=>
 some [ci]) (
 Ya aG (ii 1) λci=>
 k0 [a9,ci])) (
 Ya aG (ii 1) λa21=>
 k0 [a9,a21]))) (
 iter (Mu aX cW a0 a2) R [a9,ii 0])) ts
def Mx:Option (List T):=
 bm (aX [a0,ii 1,ii 6]) λa3=>
 Yt a3 λa4=>
 az a4 (
 Yz (bb false) λa5=>
 some [a5]) (
 Yn a1 λa5=>
 Yg a5 (ii 12) λa6=>
 az a6 (
 Yz (bb false) λa7=>
 some [a7]) (
 Yn a2 λa7=>
 Yg a7 (ii 4) λa8=>
 az a8 (
 Yz (bb false) λa9=>
 some [a9]) (
 iter (Mw R lk aX dr cW a0 a1 a2) R [bb false,ii 0])))
theorem aj_:pS.den (pick [(105,aX),(203,lk),(204,dr),(205,cW)]) R [] [a0,a1,a2]=Mx R lk aX dr cW a0 a1 a2:=(cR (by kernel_rfl)).trans (by kernel_rfl)
theorem aj':GH [a0,a1,a2]=Mx rounds QE rA GD GF a0 a1 a2:=aj_ rounds QE rA GD GF a0 a1 a2
def WO:Option (List T):=
 (dv λa6 a7=>
 Ym a7 (ii 6) λa8=>
 az a8 (
 bm (bS [a0,a1,a2,a3,a7,a4]) λa9=>
 Yg a9 (ii 0) λaG=>
 jn (dJ λaJ=>
 Ya a7 (ii 1) λa12=>
 k0 [aJ,a12]) λk1=>
 az aG (
 Yx a7 λaJ=>
 Yp a6 aJ λa12=>
 k1 [a12]) (
 k1 [a6])) (
 some [a6])) ts
def My:Option (List T):=
 pv (.lit 1 []) [] λa5=>
 iter (WO bS a0 a1 a2 a3 a4) R [a5,ii 1]
theorem aka:nR.den (pick [(150,bS)]) R [] [a0,a1,a2,a3,a4]=My R bS a0 a1 a2 a3 a4:=(cR (by kernel_rfl)).trans (by kernel_rfl)
theorem akb:QF [a0,a1,a2,a3,a4]=My rounds u0 a0 a1 a2 a3 a4:=aka rounds u0 a0 a1 a2 a3 a4
def WQ:Option (List T):=
 (dv λa5 a6=>
 Ym a6 (ii 2) λa7=>
 az a7 (
 bm (ll [a0,a1,a2,a3,a6]) λa8=>
 Yn a8 λa9=>
 Yg a9 (ii 0) λaG=>
 jn (dJ λaJ=>
 Ya a6 (ii 1) λa12=>
 k0 [aJ,a12]) λk1=>
 az aG (
 Yx a6 λaJ=>
 Yp a5 aJ λa12=>
 k1 [a12]) (
 k1 [a5])) (
 some [a5])) ts
def Mz:Option (List T):=
 pv (.lit 1 []) [] λa4=>
 iter (WQ ll a0 a1 a2 a3) R [a4,ii 0]
theorem akc:mf.den (pick [(78,ll)]) R [] [a0,a1,a2,a3]=Mz R ll a0 a1 a2 a3:=(cR (by kernel_rfl)).trans (by kernel_rfl)
theorem akd:BD [a0,a1,a2,a3]=Mz rounds QF a0 a1 a2 a3:=akc rounds QF a0 a1 a2 a3
def WR:Option (List T):=
 (dv λa7 a8=>
 Yn a1 λa9=>
 Yl a8 a9 λaG=>
 az aG (
 Y4 a1 a8 λa12 aK aL aP=>
 Y1 a3 a8 λaR=>
 az aR (
 Ye aP a6 λaS=>
 az aS (
 Ye a12 a4 λaT=>
 az aT (
 Ye aK a5 λa20=>
 az a20 (
 Yz aL λa21=>
 some [a21]) (
 Ye a12 a5 λa21=>
 az a21 (
 Ye aK a4 λbu=>
 az bu (
 Yz aL λaY=>
 some [aY]) (
 Ya a8 (ii 1) λaY=>
 k0 [a7,aY])) (
 Ya a8 (ii 1) λbu=>
 k0 [a7,bu]))) (
 Ye a12 a5 λa20=>
 az a20 (
 Ye aK a4 λa21=>
 az a21 (
 Yz aL λbu=>
 some [bu]) (
 Ya a8 (ii 1) λbu=>
 k0 [a7,bu])) (
 Ya a8 (ii 1) λa21=>
 k0 [a7,a21]))) (
 Ya a8 (ii 1) λaT=>
 k0 [a7,aT])) (
 Ya a8 (ii 1) λaS=>
 k0 [a7,aS])) (
 Yz (ii 0) λaJ=>
 some [aJ])) ts
def MA:Option (List T):=
 iter (WR a1 a3 a4 a5 a6) R [ii 0,ii 0]
theorem ake:mg.den (pick []) R [] [a0,a1,a2,a3,a4,a5,a6]=MA R a1 a3 a4 a5 a6:=(cR (by kernel_rfl)).trans (by kernel_rfl)
theorem akf:QG [a0,a1,a2,a3,a4,a5,a6]=MA rounds a1 a3 a4 a5 a6:=ake rounds a0 a1 a2 a3 a4 a5 a6
def MB:Option (List T):=
 Yu a0 a8 λaQ=>
 az aQ (
 Yl a0 a8 λaR=>
 Yz aR λaS=>
 some [aS]) (
 Yu a1 a9 λaR=>
 az aR (
 Yl a1 a9 λaS=>
 Yz aS λaT=>
 some [aT]) (
 Yu a2 aG λaS=>
 az aS (
 Yl a2 aG λaT=>
 Yz aT λa20=>
 some [a20]) (
 Yl a3 aJ λaT=>
 Yz aT λa20=>
 some [a20])))
theorem akg:nS.den (pick []) R [] [a0,a1,a2,a3,a4,a5,a6,a7,a8,a9,aG,aJ,a12,aK,aL,aP]=MB a0 a1 a2 a3 a8 a9 aG aJ:=(cR (by kernel_rfl)).trans (by kernel_rfl)
theorem akh:GI [a0,a1,a2,a3,a4,a5,a6,a7,a8,a9,aG,aJ,a12,aK,aL,aP]=MB a0 a1 a2 a3 a8 a9 aG aJ:=akg rounds a0 a1 a2 a3 a4 a5 a6 a7 a8 a9 aG aJ a12 aK aL aP
def Rq:Option (List T):=
 (dv λaQ aR=>
 Yn a0 λaS=>
 Yl aR aS λaT=>
 az aT (
 Y8 a0 aR λa21 bu aY a24 bk bc bq a28=>
 bm (ek [a1,a2,a3,a4,a5,a6,a7,a8,a21,bu,aY,a24,bk,bc,bq,a28]) λbA=>
 jn (dJ λbL=>
 Ya aR (ii 1) λa31=>
 k1 [bL,a31]) λk2=>
 az bA (
 Y8 a0 aR λa31 bO bX ci cu cm a37 cQ=>
 pv (.lit 8 []) [a31,bO,bX,ci,cu,cm,a37,cQ] λda=>
 Yy aQ da λa40=>
 k2 [a40]) (
 k2 [aQ])) (
 some [aQ])) ts
def Rr:Option (List T):=
 (dv λaG aJ=>
 Yn a0 λa12=>
 Yl aJ a12 λaK=>
 az aK (
 Y8 a0 aJ λaP aQ aR aS aT a20 a21 bu=>
 bm (ek [aP,aQ,aR,aS,aT,a20,a21,bu,a1,a2,a3,a4,a5,a6,a7,a8]) λaY=>
 jn (dJ λa24=>
 Ya aJ (ii 1) λbk=>
 k0 [a24,bk]) λk1=>
 az aY (
 Y8 a0 aJ λbk bc bq a28 bA bL a31 bO=>
 pv (.lit 8 []) [bk,bc,bq,a28,bA,bL,a31,bO] λbX=>
 Yy aG bX λci=>
 k1 [ci]) (
 k1 [aG])) (
 pv (.lit 8 []) [a1,a2,a3,a4,a5,a6,a7,a8] λaL=>
 Yy aG aL λaP=>
 iter (Rq ek a0 a1 a2 a3 a4 a5 a6 a7 a8) R [aP,ii 0])) ts
def MC:Option (List T):=
 pv (.lit 8 []) [] λa9=>
 iter (Rr R ek a0 a1 a2 a3 a4 a5 a6 a7 a8) R [a9,ii 0]
theorem aki:nT.den (pick [(168,ek)]) R [] [a0,a1,a2,a3,a4,a5,a6,a7,a8]=MC R ek a0 a1 a2 a3 a4 a5 a6 a7 a8:=(cR (by kernel_rfl)).trans (by kernel_rfl)
theorem akj:uu [a0,a1,a2,a3,a4,a5,a6,a7,a8]=MC rounds GI a0 a1 a2 a3 a4 a5 a6 a7 a8:=aki rounds GI a0 a1 a2 a3 a4 a5 a6 a7 a8
def ME:Option (List T):=
 bm (cH [a0,a1,a2,a3]) λa4=>
 Yn a4 λa5=>
 Yg a5 (ii 1) λa6=>
 az a6 (
 Yb a4 (ii 0) λa7=>
 Yc 1 0 a4 (ii 0) λa8=>
 Ye a8 (ii 0) λa9=>
 Yz a9 λaG=>
 some [aG]) (
 Yz (bb false) λa7=>
 some [a7])
theorem akk:nU.den (pick [(20,cH)]) R [] [a0,a1,a2,a3]=ME cH a0 a1 a2 a3:=(cR (by kernel_rfl)).trans (by kernel_rfl)
theorem akl:GJ [a0,a1,a2,a3]=ME BD a0 a1 a2 a3:=akk rounds BD a0 a1 a2 a3
def j0_:Option (List T):=
 (dv λa8 a9=>
 Yn a5 λaG=>
 Yl a9 aG λaJ=>
 az aJ (
 Y2 a5 a9 λaK aL=>
 bm (aX [aK,ii 1,ii 6]) λaP=>
 Yt aP λaQ=>
 az aQ (
 Yz (bb false) λaR=>
 some [aR]) (
 Ye aK a2 λaR=>
 az aR (
 Yz (bb false) λaS=>
 some [aS]) (
 bm (aX [aL,ii 1,ii 1000]) λaS=>
 Yt aS λaT=>
 az aT (
 Yz (bb false) λa20=>
 some [a20]) (
 Yg a9 (ii 0) λa20=>
 az a20 (
 Ys a9 (ii 1) λa21=>
 Yb a5 a21 λbu=>
 Yc 2 0 a5 a21 λaY=>
 Yh aY aK λa24=>
 az a24 (
 Yz (bb false) λbk=>
 some [bk]) (
 Ya a9 (ii 1) λbk=>
 k0 [a8,bk])) (
 Ya a9 (ii 1) λa21=>
 k0 [a8,a21]))))) (
 Yz (bb true) λa12=>
 some [a12])) ts
def MF:Option (List T):=
 iter (j0_ aX a2 a5) R [bb false,ii 0]
theorem akm:mh.den (pick [(105,aX)]) R [] [a0,a1,a2,a3,a4,a5,a6,a7]=MF R aX a2 a5:=(cR (by kernel_rfl)).trans (by kernel_rfl)
theorem akn:QH [a0,a1,a2,a3,a4,a5,a6,a7]=MF rounds rA a2 a5:=akm rounds rA a0 a1 a2 a3 a4 a5 a6 a7
def MG:Option (List T):=
 bm (aX [a2,ii 1,ii 6]) λa8=>
 Yt a8 λa9=>
 az a9 (
 Yz (bb false) λaG=>
 some [aG]) (
 bm (aX [a4,ii 1,ii 100000]) λaG=>
 Yt aG λaJ=>
 az aJ (
 Yz (bb false) λa12=>
 some [a12]) (
 Ye a1 (ii 1) λa12=>
 az a12 (
 bm (aX [a0,ii 0,ii 2]) λaK=>
 az aK (
 Ye a3 (ii 0) λaL=>
 az aL (
 bm (mR [a0,a1,a2,a3,a4,a5,a6,a7]) λaP=>
 az aP (
 Ye a6 (ii 0) λaQ=>
 az aQ (
 Yt a7 λaR=>
 Yz aR λaS=>
 some [aS]) (
 Yz (bb false) λaR=>
 some [aR])) (
 Yz (bb false) λaQ=>
 some [aQ])) (
 Yz (bb false) λaP=>
 some [aP])) (
 Yz (bb false) λaL=>
 some [aL])) (
 Ye a1 (ii 2) λaK=>
 az aK (
 bm (aX [a0,ii 0,ii 2]) λaL=>
 az aL (
 bm (aX [a3,ii 1,ii 6]) λaP=>
 az aP (
 Yn a5 λaQ=>
 Ye aQ (ii 0) λaR=>
 az aR (
 bm (aX [a6,ii 0,ii 60000]) λaS=>
 az aS (
 Yt a7 λaT=>
 Yz aT λa20=>
 some [a20]) (
 Yz (bb false) λaT=>
 some [aT])) (
 Yz (bb false) λaS=>
 some [aS])) (
 Yz (bb false) λaQ=>
 some [aQ])) (
 Yz (bb false) λaP=>
 some [aP])) (
 Ye a1 (ii 3) λaL=>
 az aL (
 Ye a0 (ii 9) λaP=>
 az aP (
 bm (aX [a3,ii 1,ii 9]) λaQ=>
 az aQ (
 Yn a5 λaR=>
 Ye aR (ii 0) λaS=>
 az aS (
 bm (aX [a6,ii 1,ii 1000]) λaT=>
 az aT (
 Yz (bb true) λa20=>
 some [a20]) (
 Ye a6 (ii 60000) λa20=>
 Yz a20 λa21=>
 some [a21])) (
 Yz (bb false) λaT=>
 some [aT])) (
 Yz (bb false) λaR=>
 some [aR])) (
 Yz (bb false) λaQ=>
 some [aQ])) (
 Yz (bb false) λaP=>
 some [aP])))))
theorem ako:kF.den (pick [(105,aX),(229,mR)]) R [] [a0,a1,a2,a3,a4,a5,a6,a7]=MG aX mR a0 a1 a2 a3 a4 a5 a6 a7:=(cR (by kernel_rfl)).trans (by kernel_rfl)
theorem akp:GK [a0,a1,a2,a3,a4,a5,a6,a7]=MG rA QH a0 a1 a2 a3 a4 a5 a6 a7:=ako rounds rA QH a0 a1 a2 a3 a4 a5 a6 a7
def kc_:Option (List T):=
 (dv λa3 a4=>
 Yn a0 λa5=>
 Yl a4 a5 λa6=>
 az a6 (
 Y8 a0 a4 λa8 a9 aG aJ a12 aK aL aP=>
 bm (eN [a8,a9,aG,aJ,a12,aK,aL,aP]) λaQ=>
 Yt aQ λaR=>
 az aR (
 Yz (bb false) λaS=>
 some [aS]) (
 Yg a4 (ii 0) λaS=>
 az aS (
 Ys a4 (ii 1) λaT=>
 Y8 a0 aT λa21 bu aY a24 bk bc bq a28=>
 Y8 a0 a4 λbL a31 bO bX ci cu cm a37=>
 bm (ek [a21,bu,aY,a24,bk,bc,bq,a28,bL,a31,bO,bX,ci,cu,cm,a37]) λcQ=>
 Yt cQ λda=>
 az da (
 Yz (bb false) λa40=>
 some [a40]) (
 Ya a4 (ii 1) λa40=>
 k0 [a3,a40])) (
 Ya a4 (ii 1) λaT=>
 k0 [a3,aT]))) (
 Yz (bb true) λa7=>
 some [a7])) ts
def MH:Option (List T):=
 Yn a0 λa1=>
 Yg a1 (ii 150) λa2=>
 az a2 (
 Yz (bb false) λa3=>
 some [a3]) (
 iter (kc_ ek eN a0) R [bb false,ii 0])
theorem akq:mi.den (pick [(168,ek),(195,eN)]) R [] [a0]=MH R ek eN a0:=(cR (by kernel_rfl)).trans (by kernel_rfl)
theorem akr:xY [a0]=MH rounds GI GK a0:=akq rounds GI GK a0
def MI:Option (List T):=
 Ye a0 a8 λaQ=>
 az aQ (
 Ye a1 a9 λaR=>
 az aR (
 Ye a2 aG λaS=>
 az aS (
 Ye a3 aJ λaT=>
 Yz aT λa20=>
 some [a20]) (
 Yz (bb false) λaT=>
 some [aT])) (
 Yz (bb false) λaS=>
 some [aS])) (
 Yz (bb false) λaR=>
 some [aR])
theorem aks:mj.den (pick []) R [] [a0,a1,a2,a3,a4,a5,a6,a7,a8,a9,aG,aJ,a12,aK,aL,aP]=MI a0 a1 a2 a3 a8 a9 aG aJ:=(cR (by kernel_rfl)).trans (by kernel_rfl)
theorem akt:GL [a0,a1,a2,a3,a4,a5,a6,a7,a8,a9,aG,aJ,a12,aK,aL,aP]=MI a0 a1 a2 a3 a8 a9 aG aJ:=aks rounds a0 a1 a2 a3 a4 a5 a6 a7 a8 a9 aG aJ a12 aK aL aP
def Hj:Option (List T):=
 (dv λa9 aG=>
 Yn a0 λaJ=>
 Yl aG aJ λa12=>
 az a12 (
 Y8 a0 aG λaL aP aQ aR aS aT a20 a21=>
 bm (fk [aL,aP,aQ,aR,aS,aT,a20,a21,a1,a2,a3,a4,a5,a6,a7,a8]) λbu=>
 az bu (
 Yz aG λaY=>
 some [aY]) (
 Ya aG (ii 1) λaY=>
 k0 [a9,aY])) (
 Yz (ii (-1)) λaK=>
 some [aK])) ts
def MJ:Option (List T):=
 iter (Hj fk a0 a1 a2 a3 a4 a5 a6 a7 a8) R [ii 0,ii 0]
theorem aku:pT.den (pick [(72,fk)]) R [] [a0,a1,a2,a3,a4,a5,a6,a7,a8]=MJ R fk a0 a1 a2 a3 a4 a5 a6 a7 a8:=(cR (by kernel_rfl)).trans (by kernel_rfl)
theorem akv:xZ [a0,a1,a2,a3,a4,a5,a6,a7,a8]=MJ rounds GL a0 a1 a2 a3 a4 a5 a6 a7 a8:=aku rounds GL a0 a1 a2 a3 a4 a5 a6 a7 a8
def MK:Option (List T):=
 bm (dC [a0,a1,ii 1,a2,ii 0,ii 0,.l [],ii 0,bb false]) λa3=>
 Yl a3 (ii 0) λa4=>
 az a4 (
 Yz (bb false) λa5=>
 Yz (bb false) λa6=>
 Yz (ii 0) λa7=>
 Yz (ii 0) λa8=>
 Yz (ii 0) λa9=>
 Yz (ii 0) λaG=>
 Yz (ii 0) λaJ=>
 Yz (ii 0) λa12=>
 some [a12,aJ,aG,a9,a8,.l [],a7,a6,a5]) (
 Y8 a0 a3 λa6 a7 a8 a9 aG aJ a12 aK=>
 Yz (bb true) λaL=>
 Yz aK λaP=>
 Yz a12 λaQ=>
 Yz aG λaR=>
 Yz a9 λaS=>
 Yz a8 λaT=>
 Yz a7 λa20=>
 Yz a6 λa21=>
 some [a21,a20,aT,aS,aR,aJ,aQ,aP,aL])
theorem akw:ml.den (pick [(63,dC)]) R [] [a0,a1,a2]=MK dC a0 a1 a2:=(cR (by kernel_rfl)).trans (by kernel_rfl)
theorem akx:Aw [a0,a1,a2]=MK xZ a0 a1 a2:=akw rounds xZ a0 a1 a2
def jx_:Option (List T):=
 (dv λaK aL=>
 Yn a9 λaP=>
 Yl aL aP λaQ=>
 az aQ (
 Yb a9 aL λaR=>
 Yc 2 0 a9 aL λaS=>
 Ye aS a3 λaT=>
 az aT (
 Yb a9 aL λa20=>
 Yc 2 1 a9 aL λa21=>
 Yz a21 λbu=>
 some [bu]) (
 Ya aL (ii 1) λa20=>
 k0 [aK,a20])) (
 Yz (ii 0) λaR=>
 some [aR])) ts
def ML:Option (List T):=
 wc (dO [a0,a1,a2]) λa4 a5 a6 a7 a8 a9 aG aJ a12=>
 iter (jx_ a3 a9) R [ii 0,ii 0]
theorem aky:kG.den (pick [(233,dO)]) R [] [a0,a1,a2,a3]=ML R dO a0 a1 a2 a3:=(cR (by kernel_rfl)).trans (by kernel_rfl)
theorem akz:QI [a0,a1,a2,a3]=ML rounds Aw a0 a1 a2 a3:=aky rounds Aw a0 a1 a2 a3
def WS:Option (List T):=
 (dv λaP aQ=>
 Yn aJ λaR=>
 Yl aP aR λaS=>
 az aS (
 Yb aJ aP λaT=>
 Yc 2 0 aJ aP λa20=>
 bm (aX [a20,ii 1,ii 6]) λa21=>
 az a21 (
 Yb aJ aP λbu=>
 Yc 2 0 aJ aP λaY=>
 bm (gK [a0,a1,aY,a3]) λa24=>
 Yg a24 (ii 0) λbk=>
 jn (dJ λbc=>
 Ya aP (ii 1) λbq=>
 k1 [bq,bc]) λk2=>
 az bk (
 pv (.bin .mul) [a3,ii 7] λbc=>
 Yb aJ aP λbq=>
 Yc 2 0 aJ aP λa28=>
 Ya bc a28 λbA=>
 Yb aJ aP λbL=>
 Yc 2 1 aJ aP λa31=>
 Yb aQ bA λbO=>
 pv (.put true 1 0 1) [aQ,bA,a31] λbX=>
 k2 [bX]) (
 k2 [aQ])) (
 jn (dJ λbu=>
 Ya aP (ii 1) λaY=>
 k1 [aY,bu]) λk2=>
 k2 [aQ])) (
 Ya a3 (ii 1) λaT=>
 k0 [aT,aQ])) ts
def WU:Option (List T):=
 (dv λa3 a4=>
 Ym a3 (ii 6) λa5=>
 az a5 (
 wc (dO [a0,a1,a3]) λa6 a7 a8 a9 aG aJ a12 aK aL=>
 iter (WS aX gK a0 a1 a3 aJ k0) R [ii 0,a4]) (
 some [a4])) ts
def MM:Option (List T):=
 pv (.mk) [ii 49,ii 49,ii 0] λa2=>
 iter (WU R aX dO gK a0 a1) R [ii 1,a2]
theorem akA:kH.den (pick [(105,aX),(233,dO),(242,gK)]) R [] [a0,a1]=MM R aX dO gK a0 a1:=(cR (by kernel_rfl)).trans (by kernel_rfl)
theorem akB:QJ [a0,a1]=MM rounds rA Aw QI a0 a1:=akA rounds rA Aw QI a0 a1
def Hk:Option (List T):=
 (dv λa2 a3=>
 Yn a0 λa4=>
 Yl a3 a4 λa5=>
 az a5 (
 Y1 a0 a3 λa7=>
 Ye a7 a1 λa8=>
 az a8 (
 Yz (bb true) λa9=>
 some [a9]) (
 Ya a3 (ii 1) λa9=>
 k0 [a2,a9])) (
 Yz (bb false) λa6=>
 some [a6])) ts
def MN:Option (List T):=
 iter (Hk a0 a1) R [bb false,ii 0]
theorem akC:pU.den (pick []) R [] [a0,a1]=MN R a0 a1:=(cR (by kernel_rfl)).trans (by kernel_rfl)
theorem akD:QK [a0,a1]=MN rounds a0 a1:=akC rounds a0 a1
def kI_:Option (List T):=
 (dv λa3 a4=>
 Ym a4 (ii 6) λa5=>
 az a5 (
 bm (ke [a0,a4]) λa6=>
 az a6 (
 jn (dJ λa7=>
 Ya a4 (ii 1) λa8=>
 k0 [a7,a8]) λk1=>
 Yx a4 λa7=>
 Yp a3 a7 λa8=>
 k1 [a8]) (
 bm (ke [a1,a4]) λa7=>
 jn (dJ λa8=>
 Ya a4 (ii 1) λa9=>
 k0 [a8,a9]) λk1=>
 az a7 (
 Yx a4 λa8=>
 Yp a3 a8 λa9=>
 k1 [a9]) (
 k1 [a3]))) (
 some [a3])) ts
def MO:Option (List T):=
 pv (.lit 1 []) [] λa2=>
 iter (kI_ ke a0 a1) R [a2,ii 1]
theorem akE:nV.den (pick [(100,ke)]) R [] [a0,a1]=MO R ke a0 a1:=(cR (by kernel_rfl)).trans (by kernel_rfl)
theorem akF:Dz [a0,a1]=MO rounds QK a0 a1:=akE rounds QK a0 a1
def ql:Option (List T):=
 (dv λbO bX=>
 Ym bX (ii 6) λci=>
 az ci (
 Yq bA bX λcm=>
 jn (dJ λa37=>
 Ya bX (ii 1) λcQ=>
 k2 [a37,cQ]) λk3=>
 az cm (
 Yq bL bX λcQ=>
 pv (.lit 1 []) [] λda=>
 Y1 a28 bX λdV=>
 Yp da dV λfa=>
 pv (.lit 3 [true,true,false]) [bX,cQ,fa] λfH=>
 Yo bO fH λfO=>
 k3 [fO]) (
 k3 [bO])) (
 some [bO])) ts
def qm:Option (List T):=
 (sU λcQ da a40=>
 Ym cQ (ii 6) λdV=>
 az dV (
 pv (.bin .mul) [bO,ii 7] λfa=>
 Ya fa cQ λfH=>
 Y1 aS fH λfV=>
 Ye fV (ii 0) λa46=>
 az a46 (
 Ya cQ (ii 1) λgd=>
 k3 [gd,da,a40]) (
 Yq a37 cQ λfX=>
 az fX (
 Ya cQ (ii 1) λa49=>
 k3 [a49,da,a40]) (
 Y1 da bO λiL=>
 Ye bO a2 λa51=>
 jn (dJ λiZ=>
 Yq a40 bO λlP=>
 Ya lP fV λj5=>
 Yq a40 cQ λqk=>
 Yl qk (ii 0) λvd=>
 az vd (
 jn (dv λa59 ze=>
 Ya cQ (ii 1) λve=>
 k3 [ve,a59,ze]) λk4=>
 Yb a40 cQ λa59=>
 pv (.put true 1 0 1) [a40,cQ,j5] λze=>
 pv (.lit 1 []) [] λve=>
 bm (dH [ve,iZ]) λtF=>
 Yb da cQ λlF=>
 pv (.put false 1 0 1) [da,cQ,tF] λsV=>
 k4 [sV,ze]) (
 Yq a40 cQ λze=>
 Yl j5 ze λve=>
 jn (dv λtF lF=>
 Ya cQ (ii 1) λsV=>
 k3 [sV,tF,lF]) λk4=>
 az ve (
 Yb a40 cQ λtF=>
 pv (.put true 1 0 1) [a40,cQ,j5] λlF=>
 pv (.lit 1 []) [] λsV=>
 bm (dH [sV,iZ]) λzf=>
 Yb da cQ λuA=>
 pv (.put false 1 0 1) [da,cQ,zf] λyg=>
 k4 [yg,lF]) (
 Yq a40 cQ λlF=>
 Ye j5 lF λsV=>
 jn (dJ λzf=>
 k4 [zf,a40]) λk5=>
 az sV (
 Y1 da cQ λuA=>
 bm (dH [uA,iZ]) λyg=>
 Yb da cQ λyh=>
 pv (.put false 1 0 1) [da,cQ,yg] λuB=>
 k5 [uB]) (
 k5 [da])))) λk4=>
 az a51 (
 Yx cQ λiZ=>
 k4 [iZ]) (
 k4 [iL])))) (
 Ya bq (ii 1) λfa=>
 k1 [fa,da,a37,a40])) ts
def qn:Option (List T):=
 (dv λbO bX=>
 Ym bX (ii 6) λci=>
 az ci (
 Yq bA bX λcm=>
 Yt cm λa37=>
 az a37 (
 Yq bL bX λda=>
 Yh da (ii 0) λa40=>
 az a40 (
 Ye bO (ii 0) λdV=>
 az dV (
 jn (dJ λfa=>
 Ya bX (ii 1) λfH=>
 k2 [fa,fH]) λk3=>
 k3 [bX]) (
 Yq bL bX λfH=>
 Yq bL bO λfV=>
 Yl fH fV λa46=>
 jn (dJ λgd=>
 Ya bX (ii 1) λfX=>
 k2 [gd,fX]) λk3=>
 az a46 (
 k3 [bX]) (
 k3 [bO]))) (
 jn (dJ λdV=>
 Ya bX (ii 1) λfa=>
 k2 [dV,fa]) λk3=>
 k3 [bO])) (
 jn (dJ λcQ=>
 Ya bX (ii 1) λda=>
 k2 [cQ,da]) λk3=>
 k3 [bO])) (
 Ye bO (ii 0) λcu=>
 az cu (
 Ya (ii 6) (ii 1) λcm=>
 k1 [cm,a28,bA,bL]) (
 Yb bA bO λcm=>
 pv (.put true 1 0 1) [bA,bO,bb true] λa37=>
 iter (qm dH a2 aS bq bO a37 k1) R [ii 1,a28,bL]))) ts
def pA:Option (List T):=
 (xU λbq a28 bA bL=>
 Ym bq (ii 6) λa31=>
 az a31 (
 iter (qn R dH a2 aS bq a28 bA bL k1) R [ii 0,ii 1]) (
 iter (ql a28 bA bL) R [a3,ii 1])) ts
def qo:Option (List T):=
 (dv λbu aY=>
 Ym bu (ii 6) λa24=>
 az a24 (
 Yb aY bu λbk=>
 pv (.put true 1 0 1) [aY,bu,ii (-1)] λbc=>
 Ya bu (ii 1) λbq=>
 k0 [bq,bc]) (
 Yb aY a2 λbk=>
 pv (.put true 1 0 1) [aY,a2,ii 0] λbc=>
 iter (pA R dH a2 a3 aS) R [ii 1,a20,a21,bc])) ts
def MP:Option (List T):=
 pv (.lit 3 []) [] λa3=>
 wc (dO [a0,a1,a2]) λa4 a5 a6 a7 a8 a9 aG aJ a12=>
 bm (c8 [a0]) λaK=>
 Yt aK λaL=>
 az aL (
 some [a3]) (
 bm (aX [a2,ii 1,ii 6]) λaP=>
 Yt aP λaQ=>
 az aQ (
 some [a3]) (
 Yt a12 λaR=>
 az aR (
 some [a3]) (
 bm (ln [a0,a1]) λaS=>
 pv (.mk) [ii 7,ii 7,ii 0] λaT=>
 pv (.mk) [ii 7,ii 7,.l []] λa20=>
 pv (.mk) [ii 7,ii 7,bb false] λa21=>
 iter (qo R dH a2 a3 aS a20 a21) R [ii 1,aT])))
theorem akG:nW.den (pick [(105,aX),(106,c8),(233,dO),(234,ln),(235,dH)]) R [] [a0,a1,a2]=MP R c8 aX dH ln dO a0 a1 a2:=(cR (by kernel_rfl)).trans (by kernel_rfl)
theorem akH:BE [a0,a1,a2]=MP rounds xY rA Dz QJ Aw a0 a1 a2:=akG rounds xY rA Dz QJ Aw a0 a1 a2
def MQ:Option (List T):=
 pv (.lit 1 []) [] λa3=>
 Yp a3 a2 λa4=>
 Yz a1 λa5=>
 Yz a0 λa6=>
 some [a6,a5,a4]
theorem akI:mm.den (pick []) R [] [a0,a1,a2]=MQ a0 a1 a2:=(cR (by kernel_rfl)).trans (by kernel_rfl)
theorem akJ:GM [a0,a1,a2]=MQ a0 a1 a2:=akI rounds a0 a1 a2
def Hl:Option (List T):=
 (dv λa2 a3=>
 Yn a0 λa4=>
 Yl a3 a4 λa5=>
 az a5 (
 Yb a0 a3 λa6=>
 Yc 3 0 a0 a3 λa7=>
 Ye a7 a1 λa8=>
 az a8 (
 Y3 a0 a3 λaG aJ a12=>
 nf (eJ [aG,aJ,a12]) λaK aL aP=>
 Yz (bb true) λaQ=>
 Yz aL λaR=>
 Yz aK λaS=>
 some [aS,aR,aP,aQ]) (
 Ya a3 (ii 1) λa9=>
 k0 [a2,a9])) (
 Yz (bb false) λa6=>
 Yz (ii 0) λa7=>
 Yz (ii 0) λa8=>
 some [a8,a7,.l [],a6])) ts
def MR:Option (List T):=
 iter (Hl eJ a0 a1) R [bb false,ii 0]
theorem akK:pV.den (pick [(238,eJ)]) R [] [a0,a1]=MR R eJ a0 a1:=(cR (by kernel_rfl)).trans (by kernel_rfl)
theorem akL:wZ [a0,a1]=MR rounds GM a0 a1:=akK rounds GM a0 a1
def MS:Option (List T):=
 Yl a1 a4 λa6=>
 Yz a6 λa7=>
 some [a7]
theorem akM:nX.den (pick []) R [] [a0,a1,a2,a3,a4,a5]=MS a1 a4:=(cR (by kernel_rfl)).trans (by kernel_rfl)
theorem akN:QL [a0,a1,a2,a3,a4,a5]=MS a1 a4:=akM rounds a0 a1 a2 a3 a4 a5
def MT:Option (List T):=
 bm (lj [a0,a1,a2,a3,a4,a5]) λa6=>
 az a6 (
 nf (eJ [a0,a1,a2]) λa7 a8 a9=>
 Yz a8 λaG=>
 Yz a7 λaJ=>
 some [aJ,aG,a9]) (
 bm (lj [a3,a4,a5,a0,a1,a2]) λa7=>
 az a7 (
 nf (eJ [a3,a4,a5]) λa8 a9 aG=>
 Yz a9 λaJ=>
 Yz a8 λa12=>
 some [a12,aJ,aG]) (
 bm (dH [a2,a5]) λa8=>
 Yz a1 λa9=>
 Yz a0 λaG=>
 some [aG,a9,a8]))
theorem akO:kJ.den (pick [(235,dH),(238,eJ),(243,lj)]) R [] [a0,a1,a2,a3,a4,a5]=MT lj dH eJ a0 a1 a2 a3 a4 a5:=(cR (by kernel_rfl)).trans (by kernel_rfl)
theorem akP:GN [a0,a1,a2,a3,a4,a5]=MT QL Dz GM a0 a1 a2 a3 a4 a5:=akO rounds QL Dz GM a0 a1 a2 a3 a4 a5
def BQ:Option (List T):=
 (ry λa12 aK aL aP aQ=>
 Yn a1 λaR=>
 Yl aK aR λaS=>
 az aS (
 Y1 a5 aK λa20=>
 eC (cp [a20,aG]) λa21 bu aY a24=>
 Yt a24 λbk=>
 az bk (
 Ya aK (ii 1) λbc=>
 k2 [a12,bc,aL,aP,aQ]) (
 jn (sU λbc bq a28=>
 Ya aK (ii 1) λbA=>
 k2 [bb true,bA,bc,bq,a28]) λk3=>
 az a12 (
 nf (dq [aL,aP,aQ,a21,bu,aY]) λbc bq a28=>
 k3 [bc,bq,a28]) (
 k3 [a21,bu,aY]))) (
 jn (dJ λaT=>
 Ya aG (ii 1) λa20=>
 k1 [aT,a20]) λk3=>
 az a12 (
 pv (.lit 3 []) [aL,aP,aQ] λaT=>
 Yo a9 aT λa20=>
 k3 [a20]) (
 k3 [a9]))) ts
def BR:Option (List T):=
 (dv λa9 aG=>
 Ym aG (ii 6) λaJ=>
 az aJ (
 iter (BQ dq cp a1 a5 a9 aG k1) R [bb false,ii 0,ii 0,ii 0,.l []]) (
 some [a9])) ts
def BS:Option (List T):=
 (dv λa5 a6=>
 Yn a1 λa7=>
 Yl a6 a7 λa8=>
 az a8 (
 Y1 a1 a6 λaG=>
 bm (dG [a0,aG,a2]) λaJ=>
 pv (.lit 1 []) [aJ] λa12=>
 pv (.app false 1) [a5,a12] λaK=>
 Ya a6 (ii 1) λaL=>
 k0 [aK,aL]) (
 iter (BR R dq cp a1 a5) R [a3,ii 1])) ts
def kU_:Option (List T):=
 pv (.lit 3 []) [] λa3=>
 pv (.lit 1 []) [] λa4=>
 iter (BS R dq cp dG a0 a1 a2 a3) R [a4,ii 0]
theorem akR:ib.den (pick [(218,dG),(221,cp),(236,dq)]) R [] [a0,a1,a2]=kU_ R dq cp dG a0 a1 a2:=(cR (by kernel_rfl)).trans (by kernel_rfl)
theorem akS:GP [a0,a1,a2]=kU_ rounds GN wZ BE a0 a1 a2:=akR rounds GN wZ BE a0 a1 a2
def BT:Option (List T):=
 (ry λa9 aG aJ a12 aK=>
 Yn a0 λaL=>
 Yl aG aL λaP=>
 az aP (
 Y8 a0 aG λaR aS aT a20 a21 bu aY a24=>
 Yu aS (ii 2) λbk=>
 az bk (
 Ya aG (ii 1) λbc=>
 k0 [a9,bc,aJ,a12,aK]) (
 Yu aR a2 λbc=>
 az bc (
 Ya aG (ii 1) λbq=>
 k0 [a9,bq,aJ,a12,aK]) (
 Yu a20 a4 λbq=>
 az bq (
 Ya aG (ii 1) λa28=>
 k0 [a9,a28,aJ,a12,aK]) (
 Ye aT a3 λa28=>
 az a28 (
 Ya aG (ii 1) λbA=>
 k0 [a9,bA,aJ,a12,aK]) (
 Yh aY (ii 60000) λbA=>
 az bA (
 Ya aG (ii 1) λbL=>
 k0 [a9,bL,aJ,a12,aK]) (
 eC (cp [a1,aT]) λbL a31 bO bX=>
 Yt bX λci=>
 az ci (
 Ya aG (ii 1) λcu=>
 k0 [a9,cu,aJ,a12,aK]) (
 Ya a31 aY λcu=>
 Yh cu (ii 60000) λcm=>
 az cm (
 Ya aG (ii 1) λa37=>
 k0 [a9,a37,aJ,a12,aK]) (
 Ya a31 aY λa37=>
 jn (sU λcQ da a40=>
 Ya aG (ii 1) λdV=>
 k0 [bb true,dV,cQ,da,a40]) λk1=>
 az a9 (
 nf (dq [aJ,a12,aK,a4,a37,bO]) λcQ da a40=>
 k1 [cQ,da,a40]) (
 k1 [a4,a37,bO]))))))))) (
 Yz a9 λaQ=>
 Yz a12 λaR=>
 Yz aJ λaS=>
 some [aS,aR,aK,aQ])) ts
def MU:Option (List T):=
 iter (BT dq cp a0 a1 a2 a3 a4) R [a8,ii 0,a5,a6,a7]
theorem akT:jU.den (pick [(221,cp),(236,dq)]) R [] [a0,a1,a2,a3,a4,a5,a6,a7,a8]=MU R dq cp a0 a1 a2 a3 a4 a5 a6 a7 a8:=(cR (by kernel_rfl)).trans (by kernel_rfl)
theorem akU:QM [a0,a1,a2,a3,a4,a5,a6,a7,a8]=MU rounds GN wZ a0 a1 a2 a3 a4 a5 a6 a7 a8:=akT rounds GN wZ a0 a1 a2 a3 a4 a5 a6 a7 a8
def zh:Option (List T):=
 (ry λa20 a21 bu aY a24=>
 Yn a1 λbk=>
 Yl a21 bk λbc=>
 az bc (
 az a2 (
 Y1 a1 a21 λa28=>
 Yu a28 (ii 0) λbA=>
 az bA (
 Ya a21 (ii 1) λbL=>
 k2 [a20,bL,bu,aY,a24]) (
 Y1 a9 a21 λa31=>
 Y1 a1 a21 λbX=>
 eC (eo [a0,a31,bX,a3,aL,bu,aY,a24,a20]) λci cu cm a37=>
 Ya a21 (ii 1) λcQ=>
 k2 [a37,cQ,ci,cu,cm])) (
 Y1 a9 a21 λa28=>
 Y1 a1 a21 λbL=>
 eC (eo [a0,a28,bL,a3,aL,bu,aY,a24,a20]) λa31 bO bX ci=>
 Ya a21 (ii 1) λcu=>
 k2 [ci,cu,a31,bO,bX])) (
 jn (dJ λbq=>
 Ya aL (ii 1) λa28=>
 k1 [bq,a28]) λk3=>
 az a20 (
 pv (.lit 3 []) [bu,aY,a24] λbq=>
 Yo aK bq λa28=>
 k3 [a28]) (
 k3 [aK]))) ts
def zi:Option (List T):=
 (dv λaK aL=>
 Ym aL (ii 6) λaP=>
 az aP (
 eC (cp [a5,aL]) λaQ aR aS aT=>
 az aT (
 Ya aL (ii 1) λa20=>
 k1 [aK,a20]) (
 iter (zh eo a0 a1 a2 a3 a9 aK aL k1) R [bb false,ii 0,ii 0,ii 0,.l []])) (
 some [aK])) ts
def zj:Option (List T):=
 (dv λa9 aG=>
 Yn a1 λaJ=>
 Yl aG aJ λa12=>
 az a12 (
 Y1 a1 aG λaL=>
 bm (dG [a0,aL,a3]) λaP=>
 pv (.lit 1 []) [aP] λaQ=>
 pv (.app false 1) [a9,aQ] λaR=>
 Ya aG (ii 1) λaS=>
 k0 [aR,aS]) (
 iter (zi R cp eo a0 a1 a2 a3 a5 a9) R [a4,ii 1])) ts
def kR_:Option (List T):=
 pv (.lit 3 []) [] λa4=>
 bm (dk [a0,a1,a3]) λa5=>
 bm (c8 [a0]) λa6=>
 Yt a6 λa7=>
 az a7 (
 some [a4]) (
 pv (.lit 1 []) [] λa8=>
 iter (zj R cp dG eo a0 a1 a2 a3 a4 a5) R [a8,ii 0])
theorem akW:ic.den (pick [(106,c8),(218,dG),(219,dk),(221,cp),(237,eo)]) R [] [a0,a1,a2,a3]=kR_ R dk c8 cp dG eo a0 a1 a2 a3:=(cR (by kernel_rfl)).trans (by kernel_rfl)
theorem akX:QN [a0,a1,a2,a3]=kR_ rounds GP xY wZ BE QM a0 a1 a2 a3:=akW rounds GP xY wZ BE QM a0 a1 a2 a3
def zk:Option (List T):=
 (dv λaP aQ=>
 Ym aQ (ii 6) λaR=>
 az aR (
 eC (cp [a12,aQ]) λaS aT a20 a21=>
 az a21 (
 Ya aQ (ii 1) λbu=>
 k1 [aP,bu]) (
 Ye aQ a2 λbu=>
 az bu (
 Ya aQ (ii 1) λaY=>
 k1 [aP,aY]) (
 eC (cp [aK,aQ]) λaY a24 bk bc=>
 Yt bc λbq=>
 az bq (
 Yu a3 (ii 0) λa28=>
 jn (xU λbA bL a31 bO=>
 jn (dJ λbX=>
 Ya aQ (ii 1) λci=>
 k1 [bX,ci]) λk2=>
 az bO (
 pv (.lit 8 [true,true,true,true,true,false,true,true]) [a3,ii 2,a2,aQ,ii 0,.l [],bL,bb false] λbX=>
 Yy aP bX λci=>
 k2 [ci]) (
 k2 [aP])) λk2=>
 az a28 (
 eC (cp [aL,aQ]) λbA bL a31 bO=>
 k2 [bA,bL,a31,bO]) (
 k2 [aY,a24,bk,bc])) (
 jn (xU λa28 bA bL a31=>
 jn (dJ λbO=>
 Ya aQ (ii 1) λbX=>
 k1 [bO,bX]) λk2=>
 az a31 (
 pv (.lit 8 [true,true,true,true,true,false,true,true]) [a3,ii 2,a2,aQ,ii 0,.l [],bA,bb false] λbO=>
 Yy aP bO λbX=>
 k2 [bX]) (
 k2 [aP])) λk2=>
 k2 [aY,a24,bk,bc])))) (
 some [aP])) ts
def zl:Option (List T):=
 (dv λa8 a9=>
 Yn a1 λaG=>
 Yl a9 aG λaJ=>
 az aJ (
 Y1 a1 a9 λaK=>
 Yu aK a3 λaL=>
 jn (dJ λaP=>
 Ya a9 (ii 1) λaQ=>
 k0 [aP,aQ]) λk1=>
 az aL (
 Y1 a1 a9 λaQ=>
 Yx aQ λaR=>
 Yp a8 aR λaS=>
 k1 [aS]) (
 k1 [a8])) (
 bm (dG [a0,a3,a2]) λa12=>
 bm (dk [a0,a8,a2]) λaK=>
 bm (fE [a0,a1,bb true,a2]) λaL=>
 iter (zk cp a2 a3 a12 aK aL) R [a4,ii 1])) ts
def MV:Option (List T):=
 pv (.lit 8 []) [] λa4=>
 bm (c8 [a0]) λa5=>
 Yt a5 λa6=>
 az a6 (
 some [a4]) (
 pv (.lit 1 []) [] λa7=>
 iter (zl R fE dk cp dG a0 a1 a2 a3 a4) R [a7,ii 0])
theorem akY:nY.den (pick [(106,c8),(218,dG),(219,dk),(220,fE),(221,cp)]) R [] [a0,a1,a2,a3]=MV R fE dk c8 cp dG a0 a1 a2 a3:=(cR (by kernel_rfl)).trans (by kernel_rfl)
theorem akZ:GQ [a0,a1,a2,a3]=MV rounds QN GP xY wZ BE a0 a1 a2 a3:=akY rounds QN GP xY wZ BE a0 a1 a2 a3
def WV:Option (List T):=
 (dv λa2 a3=>
 Yn a1 λa4=>
 Yl a3 a4 λa5=>
 az a5 (
 Y8 a1 a3 λa7 a8 a9 aG aJ a12 aK aL=>
 Ye aJ (ii 0) λaP=>
 jn (dJ λaQ=>
 bm (bw [a2,a7,a8,a9,aG,aQ,a12,aK,aL]) λaR=>
 Ya a3 (ii 1) λaS=>
 k0 [aR,aS]) λk1=>
 az aP (
 k1 [ii 1]) (
 k1 [aJ])) (
 some [a2])) ts
def MW:Option (List T):=
 iter (WV bw a1) R [a0,ii 0]
theorem ak0:mo.den (pick [(62,bw)]) R [] [a0,a1]=MW R bw a0 a1:=(cR (by kernel_rfl)).trans (by kernel_rfl)
theorem ak1:BF [a0,a1]=MW rounds uu a0 a1:=ak0 rounds uu a0 a1
def Rs:Option (List T):=
 (dv λa9 aG=>
 Yn a0 λaJ=>
 Yl aG aJ λa12=>
 az a12 (
 Yb a0 aG λaK=>
 Yc 8 1 a0 aG λaL=>
 Yu aL (ii 2) λaP=>
 az aP (
 jn (dJ λaQ=>
 Ya aG (ii 1) λaR=>
 k1 [aQ,aR]) λk2=>
 Y8 a0 aG λaR aS aT a20 a21 bu aY a24=>
 pv (.lit 8 []) [aR,aS,aT,a20,a21,bu,aY,a24] λbk=>
 Yy a9 bk λbc=>
 k2 [bc]) (
 Yb a0 aG λaQ=>
 Yc 8 2 a0 aG λaR=>
 Yu aR a2 λaS=>
 jn (dJ λaT=>
 Ya aG (ii 1) λa20=>
 k1 [aT,a20]) λk2=>
 az aS (
 Y8 a0 aG λa20 a21 bu aY a24 bk bc bq=>
 pv (.lit 8 []) [a20,a21,bu,aY,a24,bk,bc,bq] λa28=>
 Yy a9 a28 λbA=>
 k2 [bA]) (
 k2 [a9]))) (
 bm (cE [a9,a4]) λaK=>
 some [aK])) ts
def Rt:Option (List T):=
 (dv λa4 a5=>
 Yn a1 λa6=>
 Yl a5 a6 λa7=>
 az a7 (
 Y1 a1 a5 λa9=>
 bm (eM [a0,a1,a2,a9]) λaG=>
 Yy a4 aG λaJ=>
 Ya a5 (ii 1) λa12=>
 k0 [aJ,a12]) (
 pv (.lit 8 []) [] λa8=>
 iter (Rs cE a0 a2 a4) R [a8,ii 0])) ts
def MX:Option (List T):=
 pv (.lit 8 []) [] λa3=>
 iter (Rt R eM cE a0 a1 a2) R [a3,ii 0]
theorem ak2:jV.den (pick [(67,cE),(167,eM)]) R [] [a0,a1,a2]=MX R eM cE a0 a1 a2:=(cR (by kernel_rfl)).trans (by kernel_rfl)
theorem ak3:QO [a0,a1,a2]=MX rounds GQ BF a0 a1 a2:=ak2 rounds GQ BF a0 a1 a2
def MY:Option (List T):=
 pv (.lit 2 []) [] λa8=>
 pv (.app true 2) [a8,a5] λa9=>
 Yz a7 λaG=>
 Yz a6 λaJ=>
 Yz a4 λa12=>
 Yz a3 λaK=>
 Yz a2 λaL=>
 Yz a1 λaP=>
 Yz a0 λaQ=>
 some [aQ,aP,aL,aK,a12,a9,aJ,aG]
theorem ak4:mq.den (pick []) R [] [a0,a1,a2,a3,a4,a5,a6,a7]=MY a0 a1 a2 a3 a4 a5 a6 a7:=(cR (by kernel_rfl)).trans (by kernel_rfl)
theorem ak5:x_ [a0,a1,a2,a3,a4,a5,a6,a7]=MY a0 a1 a2 a3 a4 a5 a6 a7:=ak4 rounds a0 a1 a2 a3 a4 a5 a6 a7
def u0_:Option (List T):=
 (dv λa2 a3=>
 Yn a0 λa4=>
 Yl a3 a4 λa5=>
 az a5 (
 Y8 a0 a3 λa7 a8 a9 aG aJ a12 aK aL=>
 q7 (b8 [a7,a8,a9,aG,aJ,a12,aK,aL]) λaP aQ aR aS aT a20 a21 bu=>
 pv (.lit 8 [true,true,true,true,true,false,true,true]) [aP,aQ,aR,aS,aT,a20,a21,bu] λaY=>
 Yy a2 aY λa24=>
 Ya a3 (ii 1) λbk=>
 k0 [a24,bk]) (
 some [a2])) ts
def MZ:Option (List T):=
 pv (.lit 8 []) [] λa1=>
 iter (u0_ b8 a0) R [a1,ii 0]
theorem ak6:iS.den (pick [(65,b8)]) R [] [a0]=MZ R b8 a0:=(cR (by kernel_rfl)).trans (by kernel_rfl)
theorem ak7:sJ [a0]=MZ rounds x_ a0:=ak6 rounds x_ a0
def q8:Option (List T):=
 (dv λaY a24=>
 Ym a24 a0 λbk=>
 az bk (
 Ys a24 (ii 1) λbc=>
 Y1 a4 bc λa28=>
 az a28 (
 bm (dS [a0,a1,a2,a24]) λbA=>
 jn (dJ λbL=>
 Ya a24 (ii 1) λa31=>
 k3 [bL,a31]) λk4=>
 az bA (
 bm (cH [a0,a1,a2,a24]) λbL=>
 bm (et [aY,bL,a24]) λa31=>
 k4 [a31]) (
 k4 [aY])) (
 jn (dJ λbA=>
 Ya a24 (ii 1) λbL=>
 k3 [bA,bL]) λk4=>
 k4 [aY])) (
 Ya a21 (ii 1) λbc=>
 k2 [aY,bc])) ts
def q9:Option (List T):=
 (dv λa20 a21=>
 Yl a21 (ii 3) λbu=>
 az bu (
 iter (q8 cH dS et a0 a1 a2 a4 a21 k2) R [a20,ii 1]) (
 bm (aM [a20]) λaY=>
 Yz (bb true) λa24=>
 some [aY,a24])) ts
def q_:Option (List T):=
 (dv λaQ aR=>
 Yn a2 λaS=>
 Yl aR aS λaT=>
 az aT (
 Y4 a2 aR λa21 bu aY a24=>
 Ys a21 (ii 1) λbk=>
 Y1 a4 bk λbq=>
 jn (dJ λa28=>
 Ya aR (ii 1) λbA=>
 k1 [a28,bA]) λk2=>
 az bq (
 bm (bw [aQ,ii 9,ii 3,a21,bu,ii 1,.l [],aY,a24]) λa28=>
 k2 [a28]) (
 k2 [aQ])) (
 iter (q9 R cH dS aM et a0 a1 a2 a4) R [aQ,ii 0])) ts
def ra:Option (List T):=
 (dv λbc bq=>
 Ym bc a0 λa28=>
 az a28 (
 Y1 aQ aS λbL=>
 bm (gu [a0,a1,a2,a3,aL,bc,bL]) λa31=>
 Yg a31 (ii 0) λbO=>
 az bO (
 Ys bc (ii 1) λbX=>
 Y1 a4 bX λcu=>
 jn (dJ λcm=>
 Ya bc (ii 1) λa37=>
 k2 [a37,cm]) λk3=>
 az cu (
 pv (.lit 2 [true,true]) [bc,a31] λcm=>
 pv (.app true 2) [bq,cm] λa37=>
 k3 [a37]) (
 k3 [bq])) (
 jn (dJ λbX=>
 Ya bc (ii 1) λci=>
 k2 [ci,bX]) λk3=>
 k3 [bq])) (
 bm (bw [aR,bk,ii 1,aL,ii 0,ii 1,bq,ii 0,bb false]) λbA=>
 Ya aS (ii 1) λbL=>
 k1 [bA,bL])) ts
def rb:Option (List T):=
 (dv λaR aS=>
 Yn aQ λaT=>
 Yl aS aT λa20=>
 az a20 (
 Ys aL (ii 1) λa21=>
 Y1 a4 a21 λaY=>
 az aY (
 Y1 aQ aS λbk=>
 iter (ra bw gu a0 a1 a2 a3 a4 aL aQ aR aS bk k1) R [ii 1,.l []]) (
 Ya aL (ii 1) λa24=>
 k0 [aR,a24])) (
 Ya aL (ii 1) λa21=>
 k0 [aR,a21])) ts
def re:Option (List T):=
 (dv λaK aL=>
 Ym aL a0 λaP=>
 az aP (
 bm (cH [a0,a1,a2,aL]) λaQ=>
 iter (rb R bw gu a0 a1 a2 a3 a4 aL aQ k0) R [aK,ii 0]) (
 iter (q_ R cH dS aM bw et a0 a1 a2 a4) R [aK,ii 0])) ts
def Hm:Option (List T):=
 pv (.lit 8 []) [] λa5=>
 bm (jr [a0,a1,a2]) λa6=>
 Yt a6 λa7=>
 az a7 (
 Yz (bb false) λa8=>
 some [a5,a8]) (
 Yn a3 λa8=>
 Yn a1 λa9=>
 Yu a8 a9 λaG=>
 az aG (
 Yz (bb false) λaJ=>
 some [a5,aJ]) (
 Yn a4 λaJ=>
 Yu aJ a0 λa12=>
 az a12 (
 Yz (bb false) λaK=>
 some [a5,aK]) (
 iter (re R cH dS aM bw et gu a0 a1 a2 a3 a4) R [a5,ii 1])))
theorem ak8:pW.den (pick [(20,cH),(62,bw),(66,aM),(132,jr),(166,dS),(216,gu),(217,et)]) R [] [a0,a1,a2,a3,a4]=Hm R cH dS jr aM bw et gu a0 a1 a2 a3 a4:=(cR (by kernel_rfl)).trans (by kernel_rfl)
theorem WW:Jd [a0,a1,a2,a3,a4]=Hm rounds BD GJ GH sJ uu QO QG a0 a1 a2 a3 a4:=ak8 rounds BD GJ GH sJ uu QO QG a0 a1 a2 a3 a4
def BU:Option (List T):=
 (ry λaY a24 bk bc bq=>
 Ym aY (ii 6) λa28=>
 az a28 (
 Yu aY a12 λbA=>
 az bA (
 eC (aW [a24,bk,bc,ii 3]) λbL a31 bO bX=>
 jn (xU λci cu cm a37=>
 Ya aY (ii 1) λcQ=>
 k1 [cQ,ci,cu,cm,a37]) λk2=>
 az bL (
 eC (aw [a31,bO,bX,ii 4]) λci cu cm a37=>
 Ya (ii 1) ci λcQ=>
 pv (.lit 2 [true,true]) [aY,cQ] λda=>
 pv (.app true 2) [bq,da] λa40=>
 k2 [cu,cm,a37,a40]) (
 k2 [a31,bO,bX,bq])) (
 jn (xU λbL a31 bO bX=>
 Ya aY (ii 1) λci=>
 k1 [ci,bL,a31,bO,bX]) λk2=>
 k2 [a24,bk,bc,bq])) (
 k0 [a24,bk,bc,aK,ii 0,bq,ii 0,bb false])) ts
def WX:Option (List T):=
 eC (aw [a0,a1,a2,ii 3]) λa3 a4 a5 a6=>
 Ya (ii 1) a3 λa7=>
 eC (aw [a4,a5,a6,ii 4]) λa8 a9 aG aJ=>
 Ya (ii 1) a8 λa12=>
 eC (aw [a9,aG,aJ,ii 3]) λaK aL aP aQ=>
 eC (aw [aL,aP,aQ,ii 5]) λaR aS aT a20=>
 Ya (ii 1) aR λa21=>
 Ye a7 (ii 1) λbu=>
 jn (Qr λaY a24 bk bc bq a28 bA bL=>
 Yz bL λa31=>
 Yz bA λbO=>
 Yz a21 λbX=>
 Yz bq λci=>
 Yz a12 λcu=>
 Yz a7 λcm=>
 Yz bc λa37=>
 some [a37,cm,cu,ci,bX,a28,bO,a31,aY,a24,bk]) λk0=>
 az bu (
 iter (BU aw aW a12 aK k0) R [ii 1,aS,aT,a20,.l []]) (
 Ye a7 (ii 2) λaY=>
 jn (I9 λa24 bk bc bq a28 bA bL=>
 k0 [a24,bk,bc,bq,a28,.l [],bA,bL]) λk1=>
 az aY (
 eC (aw [aS,aT,a20,ii 5]) λa24 bk bc bq=>
 Ya (ii 1) a24 λa28=>
 pv (.lit 1 [true,true,true,true,true]) [ii 0,ii 1,ii 2,ii 5,ii 60000] λbA=>
 eC (bg [bk,bc,bq,bA]) λbL a31 bO bX=>
 k1 [a31,bO,bX,aK,a28,bL,bb false]) (
 Ye a7 (ii 3) λa24=>
 jn (I9 λbk bc bq a28 bA bL a31=>
 k1 [bk,bc,bq,a28,bA,bL,a31]) λk2=>
 az a24 (
 eC (aw [aS,aT,a20,ii 3]) λbk bc bq a28=>
 Ya (ii 1) bk λbA=>
 pv (.lit 1 [true,true,true,true]) [ii 1,ii 2,ii 5,ii 60000] λbL=>
 eC (bg [bc,bq,a28,bL]) λa31 bO bX ci=>
 eC (aW [bO,bX,ci,ii 2]) λcu cm a37 cQ=>
 k2 [cm,a37,cQ,ii 9,bA,a31,cu]) (
 k2 [aS,aT,a20,aK,ii 0,ii 0,bb false])))
theorem ak9:jW.den (pick [(149,aw),(151,aW),(212,bg)]) R [] [a0,a1,a2]=WX R aw aW bg a0 a1 a2:=(cR (by kernel_rfl)).trans (by kernel_rfl)
theorem ak_:ya [a0,a1,a2]=WX rounds ku r7 xX a0 a1 a2:=ak9 rounds ku r7 xX a0 a1 a2
def M0:Option (List T):=
 bm (dC [a0,a1,a2,a3,a4,a5,a6,a7,a8]) λa9=>
 bm (eN [a1,a2,a3,a4,a5,a6,a7,a8]) λaG=>
 Yt aG λaJ=>
 az aJ (
 Yz (bb false) λa12=>
 some [a0,a12]) (
 Yh a9 (ii 0) λa12=>
 az a12 (
 Yb a0 a9 λaK=>
 Yc 8 4 a0 a9 λaL=>
 Yh aL a5 λaP=>
 az aP (
 Yz (bb false) λaQ=>
 some [a0,aQ]) (
 Yl a9 (ii 0) λaQ=>
 az aQ (
 Yn a0 λaR=>
 Yh aR (ii 150) λaS=>
 az aS (
 Yz (bb false) λaT=>
 some [a0,aT]) (
 bm (bw [a0,a1,a2,a3,a4,a5,a6,a7,a8]) λaT=>
 Yz (bb true) λa20=>
 some [aT,a20])) (
 bm (bw [a0,a1,a2,a3,a4,a5,a6,a7,a8]) λaR=>
 Yz (bb true) λaS=>
 some [aR,aS]))) (
 Yl a9 (ii 0) λaK=>
 az aK (
 Yn a0 λaL=>
 Yh aL (ii 150) λaP=>
 az aP (
 Yz (bb false) λaQ=>
 some [a0,aQ]) (
 bm (bw [a0,a1,a2,a3,a4,a5,a6,a7,a8]) λaQ=>
 Yz (bb true) λaR=>
 some [aQ,aR])) (
 bm (bw [a0,a1,a2,a3,a4,a5,a6,a7,a8]) λaL=>
 Yz (bb true) λaP=>
 some [aL,aP])))
theorem ak':jz.den (pick [(62,bw),(63,dC),(195,eN)]) R [] [a0,a1,a2,a3,a4,a5,a6,a7,a8]=M0 eN dC bw a0 a1 a2 a3 a4 a5 a6 a7 a8:=(cR (by kernel_rfl)).trans (by kernel_rfl)
theorem ala:BG [a0,a1,a2,a3,a4,a5,a6,a7,a8]=M0 GK xZ uu a0 a1 a2 a3 a4 a5 a6 a7 a8:=ak' rounds GK xZ uu a0 a1 a2 a3 a4 a5 a6 a7 a8
def jr_:Option (List T):=
 (ry λa4 a5 a6 a7 a8=>
 eC (aw [a6,a7,a8,ii 12]) λa9 aG aJ a12=>
 Yl a5 a9 λaK=>
 az aK (
 uq (ch [aG,aJ,a12]) λaL aP aQ aR aS aT a20 a21 bu aY a24=>
 Qj (cD [a4,aL,aP,aQ,aR,aS,aT,a20,a21]) λbk bc=>
 Ya a5 (ii 1) λbq=>
 k0 [bk,bq,bu,aY,a24]) (
 some [a4,aG,aJ,a12])) ts
def M1:Option (List T):=
 pv (.lit 8 []) [] λa3=>
 iter (jr_ aw ch cD) R [a3,ii 0,a0,a1,a2]
theorem alb:kK.den (pick [(149,aw),(154,cD),(155,ch)]) R [] [a0,a1,a2]=M1 R aw ch cD a0 a1 a2:=(cR (by kernel_rfl)).trans (by kernel_rfl)
theorem alc:zd [a0,a1,a2]=M1 rounds ku ya BG a0 a1 a2:=alb rounds ku ya BG a0 a1 a2
def vh:Option (List T):=
 (ry λa51 iZ a53 lP j5=>
 eC (aw [a53,lP,j5,ii 3]) λpw qk vd a59=>
 Yl a51 pw λze=>
 az ze (
 uq (ch [qk,vd,a59]) λve tF lF sV zf uA yg yh uB a70 zg=>
 Qj (cD [iZ,ve,tF,lF,sV,zf,uA,yg,yh]) λa72 wg=>
 Ya a51 (ii 1) λvg=>
 k3 [vg,a72,uB,a70,zg]) (
 Yz a3 λve=>
 Yz a9 λtF=>
 Yz aR λlF=>
 some [lF,tF,ve,a4,a5,bu,iZ,qk,vd,a59])) ts
def uC:Option (List T):=
 (ry λci cu cm a37 cQ=>
 Yn cQ λda=>
 Yl ci da λa40=>
 az a40 (
 eC (aW [cu,cm,a37,ii 8]) λdV fa fH fO=>
 Yt dV λfV=>
 Yb cQ ci λa46=>
 pv (.put true 1 0 1) [cQ,ci,fV] λgd=>
 Ya ci (ii 1) λfX=>
 k2 [fX,fa,fH,fO,gd]) (
 Qj (jq [a3,a4,a5,a31,cQ]) λdV fa=>
 eC (aW [cu,cm,a37,ii 3]) λfH fO fV a46=>
 jn (xU λgd fX a49 iL=>
 iter (vh aw ch cD a3 a4 a5 a9 aR bu) R [ii 0,gd,fX,a49,iL]) λk3=>
 az fH (
 eC (cP [fO,fV,a46]) λgd fX a49 iL=>
 k3 [gd,fX,a49,iL]) (
 k3 [dV,fO,fV,a46]))) ts
def vi:Option (List T):=
 (ry λbq a28 bA bL a31=>
 Yn a31 λbO=>
 Yl bq bO λbX=>
 az bX (
 eC (aW [a28,bA,bL,ii 6]) λci cu cm a37=>
 Yt ci λcQ=>
 Yb a31 bq λda=>
 pv (.put true 1 0 1) [a31,bq,cQ] λa40=>
 Ya bq (ii 1) λdV=>
 k1 [dV,cu,cm,a37,a40]) (
 iter (uC R jq aw aW ch cD cP a3 a4 a5 a9 aR bu a31) R [ii 0,a28,bA,bL,bc])) ts
def uD:Option (List T):=
 (ry λa24 bk bc bq a28=>
 Ym a24 (ii 2) λbA=>
 az bA (
 bm (bS [a3,a4,a5,aR,aS,a24]) λbL=>
 Yg bL (ii 0) λa31=>
 az a31 (
 eC (aW [bk,bc,bq,ii 4]) λbO bX ci cu=>
 Yt bO λcm=>
 jn (dJ λa37=>
 Ya a24 (ii 1) λcQ=>
 k1 [cQ,bX,ci,cu,a37]) λk2=>
 az cm (
 pv (.lit 1 [true,true]) [aS,a24] λa37=>
 Yp a28 a37 λcQ=>
 k2 [cQ]) (
 k2 [a28])) (
 jn (dJ λbO=>
 Ya a24 (ii 1) λbX=>
 k1 [bX,bk,bc,bq,bO]) λk2=>
 k2 [a28])) (
 Ya aS (ii 1) λbL=>
 k0 [bL,bk,bc,bq,a28])) ts
def wh:Option (List T):=
 (ry λaS aT a20 a21 bu=>
 Ym aS a3 λaY=>
 az aY (
 iter (uD bS aW a3 a4 a5 aR aS k0) R [ii 0,aT,a20,a21,bu]) (
 Yn a4 λa24=>
 pv (.mk) [a24,a24,bb false] λbk=>
 pv (.mk) [a3,a3,bb false] λbc=>
 iter (vi R jq aw aW ch cD cP a3 a4 a5 a9 aR bu bc) R [ii 0,aT,a20,a21,bk])) ts
def M2:Option (List T):=
 Qk (oD [a0,a1,a2]) λa3 a4 a5 a6 a7 a8=>
 eC (aw [a6,a7,a8,ii 2]) λa9 aG aJ a12=>
 eC (aw [aG,aJ,a12,a3]) λaK aL aP aQ=>
 Ya (ii 1) aK λaR=>
 iter (wh R bS jq aw aW ch cD cP a3 a4 a5 a9 aR) R [ii 1,aL,aP,aQ,.l []]
theorem ald:mr.den (pick [(148,oD),(149,aw),(150,bS),(151,aW),(152,jq),(153,cP),(154,cD),(155,ch)]) R [] [a0,a1,a2]=M2 R bS jq aw aW oD ch cD cP a0 a1 a2:=(cR (by kernel_rfl)).trans (by kernel_rfl)
theorem ale:QP [a0,a1,a2]=M2 rounds u0 Jd ku r7 QD ya BG zd a0 a1 a2:=ald rounds u0 Jd ku r7 QD ya BG zd a0 a1 a2
def jv_:Option (List T):=
 (dv λa12 aK=>
 Yn a5 λaL=>
 Yl aK aL λaP=>
 az aP (
 Y1 a5 aK λaR=>
 Ya aK (ii 1) λaS=>
 Y1 a5 aS λa20=>
 bm (bS [a2,a3,a4,a0,aR,a20]) λa21=>
 Ye a21 (ii 0) λbu=>
 az bu (
 Yz (bb false) λaY=>
 some [aY]) (
 Yg aK (ii 0) λaY=>
 az aY (
 Ys aK (ii 2) λa24=>
 Y1 a5 a24 λbc=>
 Yg bc aR λbq=>
 az bq (
 Yz (bb false) λa28=>
 some [a28]) (
 Ys aK (ii 2) λa28=>
 Y1 a5 a28 λbL=>
 Ye bL aR λa31=>
 az a31 (
 Ys aK (ii 1) λbO=>
 Y1 a5 bO λci=>
 Yh ci a20 λcu=>
 az cu (
 Yz (bb false) λcm=>
 some [cm]) (
 Ya aK (ii 2) λcm=>
 k0 [a12,cm])) (
 Ya aK (ii 2) λbO=>
 k0 [a12,bO]))) (
 Ya aK (ii 2) λa24=>
 k0 [a12,a24]))) (
 Yz (bb true) λaQ=>
 some [aQ])) ts
def M3:Option (List T):=
 Yn a5 λa7=>
 pv (.bin .rem) [a7,ii 2] λa8=>
 Ye a8 (ii 1) λa9=>
 az a9 (
 Yz (bb false) λaG=>
 some [aG]) (
 Yn a5 λaG=>
 Yg aG (ii 60) λaJ=>
 az aJ (
 Yz (bb false) λa12=>
 some [a12]) (
 iter (jv_ bS a0 a2 a3 a4 a5) R [bb false,ii 0]))
theorem alf:kL.den (pick [(150,bS)]) R [] [a0,a1,a2,a3,a4,a5,a6]=M3 R bS a0 a2 a3 a4 a5:=(cR (by kernel_rfl)).trans (by kernel_rfl)
theorem alg:QQ [a0,a1,a2,a3,a4,a5,a6]=M3 rounds u0 a0 a2 a3 a4 a5:=alf rounds u0 a0 a1 a2 a3 a4 a5 a6
def M4:Option (List T):=
 bm (jr [a2,a3,a4]) λa7=>
 az a7 (
 bm (aX [a0,ii 1,a2]) λa8=>
 az a8 (
 bm (aX [a1,ii 0,ii 90]) λa9=>
 az a9 (
 bm (lp [a0,a1,a2,a3,a4,a5,a6]) λaG=>
 az aG (
 bm (c8 [a6]) λaJ=>
 Yz aJ λa12=>
 some [a12]) (
 Yz (bb false) λaJ=>
 some [aJ])) (
 Yz (bb false) λaG=>
 some [aG])) (
 Yz (bb false) λa9=>
 some [a9])) (
 Yz (bb false) λa8=>
 some [a8])
theorem alh:nZ.den (pick [(105,aX),(106,c8),(132,jr),(164,lp)]) R [] [a0,a1,a2,a3,a4,a5,a6]=M4 jr c8 aX lp a0 a1 a2 a3 a4 a5 a6:=(cR (by kernel_rfl)).trans (by kernel_rfl)
theorem ali:BH [a0,a1,a2,a3,a4,a5,a6]=M4 GH xY rA QQ a0 a1 a2 a3 a4 a5 a6:=alh rounds GH xY rA QQ a0 a1 a2 a3 a4 a5 a6
def M5:Option (List T):=
 pv (.lit 4 []) [] λa7=>
 pv (.app true 4) [a7,a3] λa8=>
 pv (.lit 4 []) [] λa9=>
 pv (.app true 4) [a9,a4] λaG=>
 pv (.lit 1 []) [] λaJ=>
 Yp aJ a5 λa12=>
 bm (aM [a6]) λaK=>
 Yz a2 λaL=>
 Yz a1 λaP=>
 Yz a0 λaQ=>
 some [aQ,aP,aL,a8,aG,a12,aK]
theorem alj:mu.den (pick [(66,aM)]) R [] [a0,a1,a2,a3,a4,a5,a6]=M5 aM a0 a1 a2 a3 a4 a5 a6:=(cR (by kernel_rfl)).trans (by kernel_rfl)
theorem alk:QR [a0,a1,a2,a3,a4,a5,a6]=M5 sJ a0 a1 a2 a3 a4 a5 a6:=alj rounds sJ a0 a1 a2 a3 a4 a5 a6
def WY:Option (List T):=
 (dv λa8 a9=>
 Yn a5 λaG=>
 Yl a8 aG λaJ=>
 az aJ (
 Ya a8 (ii 1) λa12=>
 Y1 a5 a12 λaL=>
 Ye aL a7 λaP=>
 jn (dJ λaQ=>
 Ya a8 (ii 2) λaR=>
 k0 [aR,aQ]) λk1=>
 az aP (
 Y1 a5 a8 λaR=>
 Y1 a5 a8 λaT=>
 bm (bS [a2,a3,a4,a0,aT,a7]) λa20=>
 pv (.lit 2 [true,true]) [aR,a20] λa21=>
 pv (.app true 2) [a9,a21] λbu=>
 k1 [bu]) (
 k1 [a9])) (
 Yz (bb false) λa12=>
 Yz (ii 0) λaK=>
 Yz (ii 0) λaL=>
 Yz (ii 0) λaP=>
 Yz a0 λaQ=>
 Yz (ii 1) λaR=>
 Yz a7 λaS=>
 some [aS,aR,aQ,aP,aL,a9,aK,a12])) ts
def M6:Option (List T):=
 iter (WY bS a0 a2 a3 a4 a5 a7) R [ii 0,.l []]
theorem alm:mw.den (pick [(150,bS)]) R [] [a0,a1,a2,a3,a4,a5,a6,a7]=M6 R bS a0 a2 a3 a4 a5 a7:=(cR (by kernel_rfl)).trans (by kernel_rfl)
theorem aln:QS [a0,a1,a2,a3,a4,a5,a6,a7]=M6 rounds u0 a0 a2 a3 a4 a5 a7:=alm rounds u0 a0 a1 a2 a3 a4 a5 a6 a7
def BV:Option (List T):=
 (dv λa20 a21=>
 Yn aG λbu=>
 Yl a21 bu λaY=>
 az aY (
 Y1 aG a21 λbk=>
 bm (eM [aT,aG,a0,bk]) λbc=>
 Yy a20 bc λbq=>
 Ya a21 (ii 1) λa28=>
 k2 [bq,a28]) (
 k1 [a20,a12,a12])) ts
def BW:Option (List T):=
 (dv λbc bq=>
 Yn bu λa28=>
 Yl bq a28 λbA=>
 az bA (
 Y8 bu bq λa31 bO bX ci cu cm a37 cQ=>
 bm (bw [bc,a31,bO,bX,ci,cu,cm,a37,cQ]) λda=>
 Ya bq (ii 1) λa40=>
 k2 [da,a40]) (
 bm (aM [bc]) λbL=>
 some [bL])) ts
def AH:Option (List T):=
 (dv λbu aY=>
 Yn a4 λa24=>
 Yl aY a24 λbk=>
 az bk (
 Y4 a4 aY λbq a28 bA bL=>
 Ye bq a0 λa31=>
 jn (dJ λbO=>
 Ya aY (ii 1) λbX=>
 k1 [bO,bX]) λk2=>
 az a31 (
 pv (.lit 8 [true,true,true,true,true,false,true,true]) [ii 9,ii 3,a0,a28,ii 0,.l [],bA,bL] λbO=>
 Yy bu bO λbX=>
 k2 [bX]) (
 k2 [bu])) (
 iter (BW aM bw bu) R [a7,ii 0])) ts
def BX:Option (List T):=
 (dv λa12 aK=>
 Yn aG λaL=>
 Yl aK aL λaP=>
 az aP (
 Y1 aG aK λaR=>
 q7 (jM [a0,a1,a2,a3,a4,a5,a6,aR]) λaS aT a20 a21 bu aY a24 bk=>
 pv (.lit 8 []) [aS,aT,a20,a21,bu,aY,a24,bk] λbc=>
 Yy a12 bc λbq=>
 Ya aK (ii 1) λa28=>
 k0 [bq,a28]) (
 pv (.lit 8 []) [] λaQ=>
 Yy aQ a12 λaR=>
 bm (dS [a2,a3,a4,a0]) λaS=>
 jn (sU λaT a20 a21=>
 iter (AH R aM bw a0 a4 a7) R [aT,ii 0]) λk1=>
 az aS (
 bm (cE [a6,a12]) λaT=>
 iter (BV eM a0 aG a12 aT k1) R [aR,ii 0]) (
 k1 [aR,a12,a12]))) ts
def M7:Option (List T):=
 pv (.lit 8 []) [] λa7=>
 bm (eO [a0,a1,a2,a3,a4,a5,a6]) λa8=>
 Yt a8 λa9=>
 az a9 (
 some [a7]) (
 bm (cH [a2,a3,a4,a0]) λaG=>
 pv (.lit 8 []) [] λaJ=>
 iter (BX R eM dS aM bw jM cE a0 a1 a2 a3 a4 a5 a6 a7 aG) R [aJ,ii 0])
theorem alo:n3.den (pick [(20,cH),(58,eO),(62,bw),(66,aM),(67,cE),(165,jM),(166,dS),(167,eM)]) R [] [a0,a1,a2,a3,a4,a5,a6]=M7 R cH eM dS eO aM bw jM cE a0 a1 a2 a3 a4 a5 a6:=(cR (by kernel_rfl)).trans (by kernel_rfl)
theorem alp:QT [a0,a1,a2,a3,a4,a5,a6]=M7 rounds BD GQ GJ BH sJ uu QS BF a0 a1 a2 a3 a4 a5 a6:=alo rounds BD GQ GJ BH sJ uu QS BF a0 a1 a2 a3 a4 a5 a6
def AJ:Option (List T):=
 bm (dC [a0,a1,a2,a3,a4,a5,a6,a7,a8]) λa9=>
 Yl a9 (ii 0) λaG=>
 az aG (
 Yz (bb false) λaJ=>
 Yz (bb false) λa12=>
 Yz (ii 0) λaK=>
 Yz (ii 0) λaL=>
 Yz (ii 0) λaP=>
 Yz (ii 0) λaQ=>
 Yz (ii 0) λaR=>
 Yz (ii 0) λaS=>
 some [aS,aR,aQ,aP,aL,.l [],aK,a12,aJ]) (
 Y8 a0 a9 λa12 aK aL aP aQ aR aS aT=>
 q7 (b8 [a12,aK,aL,aP,aQ,aR,aS,aT]) λa20 a21 bu aY a24 bk bc bq=>
 Yz (bb true) λa28=>
 Yz bq λbA=>
 Yz bc λbL=>
 Yz a24 λa31=>
 Yz aY λbO=>
 Yz bu λbX=>
 Yz a21 λci=>
 Yz a20 λcu=>
 some [cu,ci,bX,bO,a31,bk,bL,bA,a28])
theorem alq:r8.den (pick [(63,dC),(65,b8)]) R [] [a0,a1,a2,a3,a4,a5,a6,a7,a8]=AJ b8 dC a0 a1 a2 a3 a4 a5 a6 a7 a8:=(cR (by kernel_rfl)).trans (by kernel_rfl)
theorem WZ:DA [a0,a1,a2,a3,a4,a5,a6,a7,a8]=AJ x_ xZ a0 a1 a2 a3 a4 a5 a6 a7 a8:=alq rounds x_ xZ a0 a1 a2 a3 a4 a5 a6 a7 a8
def Ru:Option (List T):=
 (dv λaY a24=>
 Yn a5 λbk=>
 Yl a24 bk λbc=>
 az bc (
 Y2 a5 a24 λa28 bA=>
 Y2 aK a24 λa31 bO=>
 pv (.eqs [1,1]) [a28,bA,a31,bO] λbX=>
 Yt bX λci=>
 az ci (
 Yz (bb false) λcu=>
 some [cu]) (
 Ya a24 (ii 1) λcu=>
 k0 [aY,cu])) (
 Yz (bb true) λbq=>
 some [bq])) ts
def M8:Option (List T):=
 bm (fk [a0,a1,a2,a3,a4,a5,a6,a7,a8,a9,aG,aJ,a12,aK,aL,aP]) λaQ=>
 Yt aQ λaR=>
 az aR (
 Yz (bb false) λaS=>
 some [aS]) (
 Yu a6 aL λaS=>
 az aS (
 Yz (bb false) λaT=>
 some [aT]) (
 pv (.bb .neq) [a7,aP] λaT=>
 az aT (
 Yz (bb false) λa20=>
 some [a20]) (
 Yn a5 λa20=>
 Yn aK λa21=>
 Yu a20 a21 λbu=>
 az bu (
 Yz (bb false) λaY=>
 some [aY]) (
 iter (Ru a5 aK) R [bb false,ii 0]))))
theorem alr:kM.den (pick [(72,fk)]) R [] [a0,a1,a2,a3,a4,a5,a6,a7,a8,a9,aG,aJ,a12,aK,aL,aP]=M8 R fk a0 a1 a2 a3 a4 a5 a6 a7 a8 a9 aG aJ a12 aK aL aP:=(cR (by kernel_rfl)).trans (by kernel_rfl)
theorem als:QU [a0,a1,a2,a3,a4,a5,a6,a7,a8,a9,aG,aJ,a12,aK,aL,aP]=M8 rounds GL a0 a1 a2 a3 a4 a5 a6 a7 a8 a9 aG aJ a12 aK aL aP:=alr rounds GL a0 a1 a2 a3 a4 a5 a6 a7 a8 a9 aG aJ a12 aK aL aP
def Ho:Option (List T):=
 pv (.bin .mul) [ii 1000,a1] λa8=>
 Yl a7 a8 λa9=>
 az a9 (
 pv (.bin .mul) [ii 1000,a1] λaG=>
 Ya aG (ii 1) λaJ=>
 Yz aJ λa12=>
 some [a12]) (
 Ya a7 (ii 1) λaG=>
 Yz aG λaJ=>
 some [aJ])
theorem alt:n4.den (pick []) R [] [a0,a1,a2,a3,a4,a5,a6,a7]=Ho a1 a7:=(cR (by kernel_rfl)).trans (by kernel_rfl)
theorem alu:QV [a0,a1,a2,a3,a4,a5,a6,a7]=Ho a1 a7:=alt rounds a0 a1 a2 a3 a4 a5 a6 a7
def Hp:Option (List T):=
 Ye a1 (ii 1) λa8=>
 az a8 (
 pv (.lit 2 []) [] λa9=>
 Yz a7 λaG=>
 Yz a6 λaJ=>
 Yz a4 λa12=>
 Yz a3 λaK=>
 Yz a2 λaL=>
 Yz a1 λaP=>
 Yz a0 λaQ=>
 some [aQ,aP,aL,aK,a12,a9,aJ,aG]) (
 Yz a7 λa9=>
 Yz (ii 60000) λaG=>
 Yz a4 λaJ=>
 Yz a3 λa12=>
 Yz a2 λaK=>
 Yz a1 λaL=>
 Yz a0 λaP=>
 some [aP,aL,aK,a12,aJ,a5,aG,a9])
theorem alv:my.den (pick []) R [] [a0,a1,a2,a3,a4,a5,a6,a7]=Hp a0 a1 a2 a3 a4 a5 a6 a7:=(cR (by kernel_rfl)).trans (by kernel_rfl)
theorem alw:QW [a0,a1,a2,a3,a4,a5,a6,a7]=Hp a0 a1 a2 a3 a4 a5 a6 a7:=alv rounds a0 a1 a2 a3 a4 a5 a6 a7
def w5:Option (List T):=
 (dv λaT a20=>
 Yn aP λa21=>
 Yl a20 a21 λbu=>
 az bu (
 Yb aP a20 λaY=>
 Yc 8 4 aP a20 λa24=>
 Yg a24 (ii 100000) λbk=>
 az bk (
 EM (eg [a0,a1,a2,a3,a4,a5,a6]) λbc bq a28 bA bL a31 bO=>
 pv (.lit 8 []) [] λbX=>
 Yz a28 λci=>
 Yz bq λcu=>
 Yz bc λcm=>
 some [cm,cu,ci,bA,bL,a31,bO,bX]) (
 Ya a20 (ii 1) λbc=>
 k2 [aT,bc])) (
 EM (eg [a0,a1,a2,a3,a4,a5,a6]) λaY a24 bk bc bq a28 bA=>
 bm (cE [a6,aP]) λbL=>
 bm (aM [bL]) λa31=>
 Yn a31 λbO=>
 Yg bO (ii 150) λbX=>
 az bX (
 EM (eg [a0,a1,a2,a3,a4,a5,a6]) λci cu cm a37 cQ da a40=>
 pv (.lit 8 []) [] λdV=>
 Yz cm λfa=>
 Yz cu λfH=>
 Yz ci λfO=>
 some [fO,fH,fa,a37,cQ,da,a40,dV]) (
 bm (aM [aP]) λci=>
 Yz bk λcu=>
 Yz a24 λcm=>
 Yz aY λa37=>
 some [a37,cm,cu,bc,bq,a28,a31,ci]))) ts
def w6:Option (List T):=
 (dv λaP aQ=>
 Yn a6 λaR=>
 Yl aQ aR λaS=>
 az aS (
 Y8 a6 aQ λa20 a21 bu aY a24 bk bc bq=>
 Yu bu a0 λa28=>
 az a28 (
 Ya aQ (ii 1) λbA=>
 k1 [aP,bA]) (
 bm (dC [a9,a20,a21,bu,aY,a24,bk,bc,bq]) λbA=>
 Yh bA (ii 0) λbL=>
 az bL (
 Ya aQ (ii 1) λa31=>
 k1 [aP,a31]) (
 q7 (b8 [a20,a21,bu,aY,a24,bk,bc,bq]) λa31 bO bX ci cu cm a37 cQ=>
 q7 (gp [a31,bO,bX,ci,cu,cm,a37,cQ]) λda a40 dV fa fH fO fV a46=>
 bm (fF [da,a40,dV,fa,fH,fO,fV,a46,a20,a21,bu,aY,a24,bk,bc,bq]) λgd=>
 az gd (
 Ya aQ (ii 1) λfX=>
 k1 [aP,fX]) (
 q7 (b8 [a20,a21,bu,aY,a24,bk,bc,bq]) λfX a49 iL a51 iZ a53 lP j5=>
 q7 (gp [fX,a49,iL,a51,iZ,a53,lP,j5]) λpw qk vd a59 ze ve tF lF=>
 bm (gb [a0,a1,a2,a3,a4,a5,a6,a24]) λsV=>
 bm (bw [aP,pw,qk,vd,a59,sV,ve,tF,lF]) λzf=>
 Ya aQ (ii 1) λuA=>
 k1 [zf,uA])))) (
 iter (w5 aM eg cE a0 a1 a2 a3 a4 a5 a6 aP) R [.l [],ii 0])) ts
def w7:Option (List T):=
 (dv λaJ a12=>
 Yn a9 λaK=>
 Yl a12 aK λaL=>
 az aL (
 Y8 a9 a12 λaQ aR aS aT a20 a21 bu aY=>
 wc (gJ [a6,aQ,aR,aS,aT,a20,a21,bu,aY]) λa24 bk bc bq a28 bA bL a31 bO=>
 az bO (
 Y8 a9 a12 λci cu cm a37 cQ da a40 dV=>
 bm (fF [a24,bk,bc,bq,a28,bA,bL,a31,ci,cu,cm,a37,cQ,da,a40,dV]) λfa=>
 az fa (
 Ya a12 (ii 1) λfH=>
 k0 [aJ,fH]) (
 Y8 a9 a12 λfO fV a46 gd fX a49 iL a51=>
 bm (gb [a0,a1,a2,a3,a4,a5,a6,a28]) λiZ=>
 bm (bw [aJ,fO,fV,a46,gd,iZ,a49,iL,a51]) λa53=>
 Ya a12 (ii 1) λlP=>
 k0 [a53,lP])) (
 Y8 a9 a12 λci cu cm a37 cQ da a40 dV=>
 bm (gb [a0,a1,a2,a3,a4,a5,a6,a28]) λfa=>
 bm (bw [aJ,ci,cu,cm,a37,fa,da,a40,dV]) λfH=>
 Ya a12 (ii 1) λfO=>
 k0 [fH,fO])) (
 iter (w6 R fF b8 aM dC bw gp eg gb cE a0 a1 a2 a3 a4 a5 a6 a9) R [aJ,ii 0])) ts
def Hq:Option (List T):=
 bm (eO [a0,a1,a2,a3,a4,a5,a6]) λa7=>
 Yt a7 λa8=>
 az a8 (
 EM (eg [a0,a1,a2,a3,a4,a5,a6]) λa9 aG aJ a12 aK aL aP=>
 pv (.lit 8 []) [] λaQ=>
 Yz aJ λaR=>
 Yz aG λaS=>
 Yz a9 λaT=>
 some [aT,aS,aR,a12,aK,aL,aP,aQ]) (
 bm (oC [a0,a1,a2,a3,a4,a5,a6]) λa9=>
 pv (.lit 8 []) [] λaG=>
 iter (w7 R gJ fF b8 aM dC bw gp eg gb cE a0 a1 a2 a3 a4 a5 a6 a9) R [aG,ii 0])
theorem alx:pX.den (pick [(15,gJ),(19,fF),(58,eO),(59,eg),(60,oC),(61,gb),(62,bw),(63,dC),(64,gp),(65,b8),(66,aM),(67,cE)]) R [] [a0,a1,a2,a3,a4,a5,a6]=Hq R gJ fF eO oC b8 aM dC bw gp eg gb cE a0 a1 a2 a3 a4 a5 a6:=(cR (by kernel_rfl)).trans (by kernel_rfl)
theorem W3:GR [a0,a1,a2,a3,a4,a5,a6]=Hq rounds DA QU BH QT x_ sJ xZ uu QW QR QV BF a0 a1 a2 a3 a4 a5 a6:=alx rounds DA QU BH QT x_ sJ xZ uu QW QR QV BF a0 a1 a2 a3 a4 a5 a6
def Jk:Option (List T):=
 (dv λaG aJ=>
 Ym aG (ii 2) λa12=>
 az a12 (
 bm (bS [a0,a1,a2,a3,a7,aG]) λaK=>
 Yg aK (ii 0) λaL=>
 jn (dJ λaP=>
 Ya aG (ii 1) λaQ=>
 k1 [aQ,aP]) λk2=>
 az aL (
 pv (.lit 4 [true,true,true,true]) [a7,aG,ii 0,bb false] λaP=>
 pv (.app true 4) [aJ,aP] λaQ=>
 k2 [aQ]) (
 k2 [aJ])) (
 Ya a7 (ii 1) λaK=>
 k0 [aK,aJ])) ts
def Jl:Option (List T):=
 (dv λa7 a8=>
 Ym a7 a0 λa9=>
 az a9 (
 iter (Jk bS a0 a1 a2 a3 a7 k0) R [ii 0,a8]) (
 q7 (gn [a3,a4,a0,a1,a2,.l [],.l []]) λaG aJ a12 aK aL aP aQ aR=>
 Yz (bb true) λaS=>
 Yz a12 λaT=>
 Yz aJ λa20=>
 Yz aG λa21=>
 some [a21,a20,aT,aK,aL,aP,aQ,a8,aS])) ts
def Hr:Option (List T):=
 bm (eO [a3,a4,a0,a1,a2,.l [],.l []]) λa5=>
 Yt a5 λa6=>
 az a6 (
 Yz (bb false) λa7=>
 Yz (ii 0) λa8=>
 Yz (ii 0) λa9=>
 Yz (ii 0) λaG=>
 some [aG,a9,a8,.l [],.l [],.l [],.l [],.l [],a7]) (
 iter (Jl R bS gn a0 a1 a2 a3 a4) R [ii 1,.l []])
theorem aly:mz.den (pick [(12,gn),(58,eO),(150,bS)]) R [] [a0,a1,a2,a3,a4]=Hr R bS gn eO a0 a1 a2 a3 a4:=(cR (by kernel_rfl)).trans (by kernel_rfl)
theorem W4:QX [a0,a1,a2,a3,a4]=Hr rounds u0 GR BH a0 a1 a2 a3 a4:=aly rounds u0 GR BH a0 a1 a2 a3 a4
def jt_:Option (List T):=
 (dv λa2 a3=>
 Yn a0 λa4=>
 Yl a3 a4 λa5=>
 az a5 (
 Yb a0 a3 λa6=>
 Yc 4 3 a0 a3 λa7=>
 jn (dJ λa8=>
 Ya a3 (ii 1) λa9=>
 k0 [a8,a9]) λk1=>
 az a7 (
 Yb a0 a3 λa8=>
 Yc 4 0 a0 a3 λa9=>
 Yb a0 a3 λaG=>
 Yc 4 1 a0 a3 λaJ=>
 pv (.lit 1 [true,true]) [a9,aJ] λa12=>
 Yp a2 a12 λaK=>
 k1 [aK]) (
 k1 [a2])) (
 some [a2])) ts
def M9:Option (List T):=
 pv (.lit 1 []) [] λa1=>
 iter (jt_ a0) R [a1,ii 0]
theorem alz:kN.den (pick []) R [] [a0]=M9 R a0:=(cR (by kernel_rfl)).trans (by kernel_rfl)
theorem alA:QY [a0]=M9 rounds a0:=alz rounds a0
def Rv:Option (List T):=
 (ry λbu aY a24 bk bc=>
 Yn bc λbq=>
 Yl bu bq λa28=>
 az a28 (
 eC (aw [aY,a24,bk,ii 4]) λbA bL a31 bO=>
 Yb bc bu λbX=>
 pv (.put true 4 2 1) [bc,bu,bA] λci=>
 Yb ci bu λcu=>
 pv (.aU 4 2) [ci,bu] λcm=>
 Yg cm (ii 0) λa37=>
 az a37 (
 eC (aW [bL,a31,bO,ii 4]) λcQ da a40 dV=>
 Yt cQ λfa=>
 Yb ci bu λfH=>
 pv (.put true 4 3 1) [ci,bu,fa] λfO=>
 Ya bu (ii 1) λfV=>
 k0 [fV,da,a40,dV,fO]) (
 Yb ci bu λcQ=>
 pv (.put true 4 3 1) [ci,bu,bb false] λda=>
 Ya bu (ii 1) λa40=>
 k0 [a40,bL,a31,bO,da])) (
 bm (jj [bc]) λbA=>
 eC (aW [aY,a24,bk,ii 3]) λbL a31 bO bX=>
 Yt bL λci=>
 jn (I9 λcu cm a37 cQ da a40 dV=>
 Yz a37 λfa=>
 Yz cm λfH=>
 Yz cu λfO=>
 some [fO,fH,fa,cQ,da,a40,dV,bc,a31,bO,bX]) λk1=>
 az ci (
 q7 (gn [aK,aL,aP,aQ,aR,bA,a9]) λcu cm a37 cQ da a40 dV fa=>
 k1 [cu,cm,a37,cQ,da,a40,dV]) (
 k1 [aK,aL,aP,aQ,aR,bA,a9]))) ts
def M_:Option (List T):=
 Gw (mS [a0,a1,a2]) λa3 a4 a5 a6 a7 a8 a9 aG aJ a12=>
 wc (mQ [a5,a6,a7,a3,a4]) λaK aL aP aQ aR aS aT a20 a21=>
 iter (Rv gn aw aW jj a9 aK aL aP aQ aR) R [ii 0,aG,aJ,a12,a20]
theorem alB:kO.den (pick [(12,gn),(52,mS),(101,jj),(133,mQ),(149,aw),(151,aW)]) R [] [a0,a1,a2]=M_ R mQ gn aw aW mS jj a0 a1 a2:=(cR (by kernel_rfl)).trans (by kernel_rfl)
theorem alC:QZ [a0,a1,a2]=M_ rounds QX GR ku r7 QP QY a0 a1 a2:=alB rounds QX GR ku r7 QP QY a0 a1 a2
def Hs:Option (List T):=
 (dv λa3 a4=>
 Yn a0 λa5=>
 Yl a4 a5 λa6=>
 az a6 (
 Yb a0 a4 λa7=>
 Yc 8 0 a0 a4 λa8=>
 Ye a8 a1 λa9=>
 az a9 (
 jn (dJ λaG=>
 Ya a4 (ii 1) λaJ=>
 k0 [aG,aJ]) λk1=>
 Y8 a0 a4 λaJ a12 aK aL aP aQ aR aS=>
 q7 (b8 [aJ,a12,aK,aL,aP,aQ,aR,aS]) λaT a20 a21 bu aY a24 bk bc=>
 pv (.lit 8 [true,true,true,true,true,false,true,true]) [aT,a20,a21,bu,aY,a24,bk,bc] λbq=>
 Yy a3 bq λa28=>
 k1 [a28]) (
 Yb a0 a4 λaG=>
 Yc 8 0 a0 a4 λaJ=>
 Ye aJ (ii 9) λa12=>
 jn (dJ λaK=>
 Ya a4 (ii 1) λaL=>
 k0 [aK,aL]) λk1=>
 az a12 (
 Y8 a0 a4 λaL aP aQ aR aS aT a20 a21=>
 q7 (b8 [aL,aP,aQ,aR,aS,aT,a20,a21]) λbu aY a24 bk bc bq a28 bA=>
 pv (.lit 8 [true,true,true,true,true,false,true,true]) [bu,aY,a24,bk,bc,bq,a28,bA] λbL=>
 Yy a3 bL λa31=>
 k1 [a31]) (
 k1 [a3]))) (
 some [a3])) ts
def Na:Option (List T):=
 pv (.lit 8 []) [] λa2=>
 iter (Hs b8 a0 a1) R [a2,ii 0]
theorem alD:pY.den (pick [(65,b8)]) R [] [a0,a1]=Na R b8 a0 a1:=(cR (by kernel_rfl)).trans (by kernel_rfl)
theorem alE:BI [a0,a1]=Na rounds x_ a0 a1:=alD rounds x_ a0 a1
def Ht:Option (List T):=
 pv (.lit 2 []) [] λa8=>
 Ye a1 (ii 3) λa9=>
 jn (dJ λaG=>
 Yz (bb false) λaJ=>
 Yz aG λa12=>
 Yz a4 λaK=>
 Yz a3 λaL=>
 Yz a2 λaP=>
 Yz a1 λaQ=>
 Yz a0 λaR=>
 some [aR,aQ,aP,aL,aK,a8,a12,aJ]) λk0=>
 az a9 (
 k0 [ii 1]) (
 k0 [ii 0])
theorem alF:mA.den (pick []) R [] [a0,a1,a2,a3,a4,a5,a6,a7]=Ht a0 a1 a2 a3 a4:=(cR (by kernel_rfl)).trans (by kernel_rfl)
theorem alG:Q0 [a0,a1,a2,a3,a4,a5,a6,a7]=Ht a0 a1 a2 a3 a4:=alF rounds a0 a1 a2 a3 a4 a5 a6 a7
def j3_:Option (List T):=
 (dv λa3 a4=>
 Yn a4 λa5=>
 Yl a3 a5 λa6=>
 az a6 (
 Y8 a4 a3 λa8 a9 aG aJ a12 aK aL aP=>
 q7 (jN [a8,a9,aG,aJ,a12,aK,aL,aP]) λaQ aR aS aT a20 a21 bu aY=>
 Yb a4 a3 λa24=>
 pv (.put false 8 0 8) [a4,a3,aQ,aR,aS,aT,a20,a21,bu,aY] λbk=>
 Ya a3 (ii 1) λbc=>
 k0 [bc,bk]) (
 some [a4])) ts
def Nb:Option (List T):=
 bm (fG [a0,a1]) λa2=>
 iter (j3_ jN) R [ii 0,a2]
theorem alH:mB.den (pick [(107,jN),(184,fG)]) R [] [a0,a1]=Nb R fG jN a0 a1:=(cR (by kernel_rfl)).trans (by kernel_rfl)
theorem alI:GS [a0,a1]=Nb rounds BI Q0 a0 a1:=alH rounds BI Q0 a0 a1
def Nc:Option (List T):=
 (ry λa20 a21 bu aY a24=>
 Ym a20 (ii 5) λbk=>
 az bk (
 eC (aW [a21,bu,aY,ii 2]) λbc bq a28 bA=>
 jn (dJ λbL=>
 Ya a20 (ii 1) λa31=>
 k0 [a31,bq,a28,bA,bL]) λk1=>
 az bc (
 Yx a20 λbL=>
 Yp a24 bL λa31=>
 k1 [a31]) (
 k1 [a24])) (
 Yz aK λbc=>
 Yz aS λbq=>
 Yz a12 λa28=>
 Yz a7 λbA=>
 some [bA,a28,bq,bc,a24,.l [],a21,bu,aY])) ts
def W5:Option (List T):=
 eC (aw [a0,a1,a2,ii 3]) λa3 a4 a5 a6=>
 Ya (ii 1) a3 λa7=>
 eC (aw [a4,a5,a6,ii 4]) λa8 a9 aG aJ=>
 Ya (ii 1) a8 λa12=>
 eC (aw [a9,aG,aJ,ii 3]) λaK aL aP aQ=>
 pv (.bin .rem) [a12,ii 5] λaR=>
 Ya aR (ii 1) λaS=>
 Ye a7 (ii 1) λaT=>
 az aT (
 iter (Nc aW a7 a12 aK aS) R [ii 1,aL,aP,aQ,.l []]) (
 eC (cP [aL,aP,aQ]) λa20 a21 bu aY=>
 bm (fG [a20,aK]) λa24=>
 Ye a7 (ii 2) λbk=>
 jn (dJ λbc=>
 Yz aK λbq=>
 Yz aS λa28=>
 Yz a12 λbA=>
 Yz a7 λbL=>
 some [bL,bA,a28,bq,.l [],bc,a21,bu,aY]) λk0=>
 az bk (
 bm (gm [a20,aK]) λbc=>
 k0 [bc]) (
 k0 [a24]))
theorem alJ:jX.den (pick [(149,aw),(151,aW),(153,cP),(184,fG),(185,gm)]) R [] [a0,a1,a2]=W5 R gm fG aw aW cP a0 a1 a2:=(cR (by kernel_rfl)).trans (by kernel_rfl)
theorem alK:GU [a0,a1,a2]=W5 rounds GS BI ku r7 zd a0 a1 a2:=alJ rounds GS BI ku r7 zd a0 a1 a2
def Nd:Option (List T):=
 pv (.lit 1 []) [] λa6=>
 Yp a6 a4 λa7=>
 bm (aM [a5]) λa8=>
 Yz a3 λa9=>
 Yz a2 λaG=>
 Yz a1 λaJ=>
 Yz a0 λa12=>
 some [a12,aJ,aG,a9,a7,a8]
theorem alL:mC.den (pick [(66,aM)]) R [] [a0,a1,a2,a3,a4,a5]=Nd aM a0 a1 a2 a3 a4 a5:=(cR (by kernel_rfl)).trans (by kernel_rfl)
theorem alM:GV [a0,a1,a2,a3,a4,a5]=Nd sJ a0 a1 a2 a3 a4 a5:=alL rounds sJ a0 a1 a2 a3 a4 a5
def DH:Option (List T):=
 uq (ch [a0,a1,a2]) λa3 a4 a5 a6 a7 a8 a9 aG aJ a12 aK=>
 eC (aw [aJ,a12,aK,ii 30]) λaL aP aQ aR=>
 Ye aL (ii 0) λaS=>
 jn (Gx λaT a20 a21 bu aY a24 bk bc bq a28 bA=>
 Yz bA λbL=>
 Yz a28 λa31=>
 Yz bc λbO=>
 Yz bk λbX=>
 Yz a24 λci=>
 Yz aY λcu=>
 Yz bu λcm=>
 some [cm,cu,ci,bX,bO,bq,a31,bL,aT,a20,a21]) λk0=>
 az aS (
 pv (.lit 1 [true,true,true,true]) [ii (-1),ii 3,ii 9,ii 0] λaT=>
 eC (bg [aP,aQ,aR,aT]) λa20 a21 bu aY=>
 k0 [a21,bu,aY,a20,a4,a5,a6,a7,a8,a9,aG]) (
 Ye aL (ii 1) λaT=>
 jn (Ds λa20 a21 bu aY a24 bk bc bq a28 bA=>
 k0 [a20,a21,bu,a3,aY,a24,bk,bc,bq,a28,bA]) λk1=>
 az aT (
 pv (.lit 1 [true,true,true,true,true]) [ii 0,ii 1,ii 2,ii 3,ii 4] λa20=>
 eC (bg [aP,aQ,aR,a20]) λa21 bu aY a24=>
 k1 [bu,aY,a24,a21,a5,a6,a7,a8,a9,aG]) (
 Ye aL (ii 2) λa20=>
 jn (Vw λa21 bu aY a24 bk bc bq a28 bA=>
 k1 [a21,bu,aY,a4,a24,bk,bc,bq,a28,bA]) λk2=>
 az a20 (
 pv (.lit 1 [true,true,true]) [ii 0,ii 6,ii 7] λa21=>
 eC (bg [aP,aQ,aR,a21]) λbu aY a24 bk=>
 k2 [aY,a24,bk,bu,a6,a7,a8,a9,aG]) (
 Ye aL (ii 3) λa21=>
 jn (Qr λbu aY a24 bk bc bq a28 bA=>
 k2 [bu,aY,a24,a5,bk,bc,bq,a28,bA]) λk3=>
 az a21 (
 pv (.lit 1 [true,true,true,true,true,true]) [ii (-1),ii 0,ii 6,ii 7,ii 9,ii 10] λbu=>
 eC (bg [aP,aQ,aR,bu]) λaY a24 bk bc=>
 k3 [a24,bk,bc,aY,a7,a8,a9,aG]) (
 Ye aL (ii 4) λbu=>
 jn (I9 λaY a24 bk bc bq a28 bA=>
 k3 [aY,a24,bk,a6,bc,bq,a28,bA]) λk4=>
 az bu (
 pv (.lit 1 [true,true,true,true]) [ii 0,ii (-1),ii 100000,ii 100001] λaY=>
 eC (bg [aP,aQ,aR,aY]) λa24 bk bc bq=>
 k4 [bk,bc,bq,a24,a8,a9,aG]) (
 Ye aL (ii 5) λaY=>
 jn (Vs λa24 bk bc bq a28 bA=>
 k4 [a24,bk,bc,a7,bq,a28,bA]) λk5=>
 az aY (
 eC (aw [aP,aQ,aR,ii 8]) λa24 bk bc bq=>
 pv (.lit 1 [true,true,true,true]) [ii 0,ii 1,ii 1000,ii 1001] λa28=>
 eC (bg [bk,bc,bq,a28]) λbA bL a31 bO=>
 pv (.lit 2 [true,true]) [a24,bA] λbX=>
 pv (.app true 2) [a8,bX] λci=>
 k5 [bL,a31,bO,ci,a9,aG]) (
 Ye aL (ii 6) λa24=>
 jn (ry λbk bc bq a28 bA=>
 k5 [bk,bc,bq,a8,a28,bA]) λk6=>
 az a24 (
 pv (.lit 1 [true,true,true,true,true,true]) [ii (-1),ii 0,ii 1000,ii 1001,ii 60000,ii 60001] λbk=>
 eC (bg [aP,aQ,aR,bk]) λbc bq a28 bA=>
 k6 [bq,a28,bA,bc,aG]) (
 Ye aL (ii 7) λbk=>
 jn (dJ λbc=>
 k6 [aP,aQ,aR,a9,bc]) λk7=>
 az bk (
 Yt aG λbc=>
 k7 [bc]) (
 k7 [aG]))))))))
theorem alN:n5.den (pick [(149,aw),(155,ch),(212,bg)]) R [] [a0,a1,a2]=DH aw bg ch a0 a1 a2:=(cR (by kernel_rfl)).trans (by kernel_rfl)
theorem alO:Q5 [a0,a1,a2]=DH ku xX ya a0 a1 a2:=alN rounds ku xX ya a0 a1 a2
def Jm:Option (List T):=
 wc (eZ [a0,a1,a2]) λa3 a4 a5 a6 a7 a8 a9 aG aJ=>
 Qk (gq [a3,a4,a5,a6,a7,a8]) λa12 aK aL aP aQ aR=>
 eC (aw [a9,aG,aJ,ii 24]) λaS aT a20 a21=>
 Ye aS (ii 0) λbu=>
 jn (Qr λaY a24 bk bc bq a28 bA bL=>
 Yz a28 λa31=>
 Yz aL λbO=>
 Yz bq λbX=>
 Yz bc λci=>
 some [ci,bX,bO,a31,bA,bL,aY,a24,bk]) λk0=>
 az bu (
 pv (.lit 1 [true,true,true,true,true]) [ii 0,ii 1,ii 2,ii 3,ii 4] λaY=>
 eC (bg [aT,a20,a21,aY]) λa24 bk bc bq=>
 k0 [bk,bc,bq,a24,aK,aP,aQ,aR]) (
 Ye aS (ii 1) λaY=>
 jn (I9 λa24 bk bc bq a28 bA bL=>
 k0 [a24,bk,bc,a12,bq,a28,bA,bL]) λk1=>
 az aY (
 pv (.lit 1 [true,true,true,true]) [ii 0,ii 6,ii 7,aL] λa24=>
 eC (bg [aT,a20,a21,a24]) λbk bc bq a28=>
 k1 [bc,bq,a28,bk,aP,aQ,aR]) (
 Ye aS (ii 2) λa24=>
 jn (Vs λbk bc bq a28 bA bL=>
 k1 [bk,bc,bq,aK,a28,bA,bL]) λk2=>
 az a24 (
 pv (.lit 1 [true,true,true,true]) [ii (-1),ii 0,ii 2,ii 3] λbk=>
 eC (bg [aT,a20,a21,bk]) λbc bq a28 bA=>
 k2 [bq,a28,bA,bc,aQ,aR]) (
 Ye aS (ii 3) λbk=>
 jn (ry λbc bq a28 bA bL=>
 k2 [bc,bq,a28,aP,bA,bL]) λk3=>
 az bk (
 eC (aw [aT,a20,a21,ii 8]) λbc bq a28 bA=>
 Yx bc λbL=>
 Yp aQ bL λa31=>
 k3 [bq,a28,bA,a31,aR]) (
 Ye aS (ii 4) λbc=>
 jn (xU λbq a28 bA bL=>
 k3 [bq,a28,bA,aQ,bL]) λk4=>
 az bc (
 uq (oE [aT,a20,a21]) λbq a28 bA bL a31 bO bX ci cu cm a37=>
 pv (.lit 8 []) [bq,a28,bA,bL,a31,bO,bX,ci] λcQ=>
 Yy aR cQ λda=>
 k4 [cu,cm,a37,da]) (
 k4 [aT,a20,a21,aR])))))
theorem alP:n6.den (pick [(149,aw),(181,gq),(182,eZ),(212,bg),(226,oE)]) R [] [a0,a1,a2]=Jm aw bg oE gq eZ a0 a1 a2:=(cR (by kernel_rfl)).trans (by kernel_rfl)
theorem alQ:Q6 [a0,a1,a2]=Jm ku xX Q5 GV GU a0 a1 a2:=alP rounds ku xX Q5 GV GU a0 a1 a2
def AK:Option (List T):=
 (ry λa51 iZ a53 lP j5=>
 Yn j5 λpw=>
 Yl a51 pw λqk=>
 az qk (
 Yb j5 a51 λvd=>
 pv (.aU 8 4) [j5,a51] λa59=>
 eC (aw [iZ,a53,lP,ii 3]) λze ve tF lF=>
 Ya a59 ze λsV=>
 Yb j5 a51 λzf=>
 pv (.put true 8 4 1) [j5,a51,sV] λuA=>
 eC (aW [ve,tF,lF,ii 3]) λyg yh uB a70=>
 az yg (
 Yb uA a51 λzg=>
 pv (.aU 8 1) [uA,a51] λa72=>
 Ye a72 (ii 2) λwg=>
 jn (xU λvg a75 a76 EP=>
 Ya a51 (ii 1) λHg=>
 k1 [Hg,vg,a75,a76,EP]) λk2=>
 az wg (
 eC (aw [yh,uB,a70,ii 6]) λvg a75 a76 EP=>
 Yb uA a51 λHg=>
 pv (.put true 8 6 1) [uA,a51,vg] λJf=>
 k2 [a75,a76,EP,Jf]) (
 k2 [yh,uB,a70,uA])) (
 jn (xU λzg a72 wg vg=>
 Ya a51 (ii 1) λa75=>
 k1 [a75,zg,a72,wg,vg]) λk2=>
 k2 [yh,uB,a70,uA])) (
 k0 [iZ,a53,lP,j5])) ts
def Jn:Option (List T):=
 wc (eZ [a0,a1,a2]) λaJ a12 aK aL aP aQ aR aS aT=>
 Qk (gq [aJ,a12,aK,aL,aP,aQ]) λa20 a21 bu aY a24 bk=>
 Yn aG λbc=>
 Ye bc (ii 0) λbq=>
 az bq (
 wc (lq [aR,aS,aT]) λa28 bA bL a31 bO bX ci cu cm=>
 Yz a31 λa37=>
 Yz bL λcQ=>
 Yz bA λda=>
 Yz a28 λa40=>
 some [a40,da,cQ,a37,bO,bX,ci,cu,cm]) (
 eC (aW [aR,aS,aT,ii 12]) λa28 bA bL a31=>
 az a28 (
 wc (lq [bA,bL,a31]) λbO bX ci cu cm a37 cQ da a40=>
 Yz cu λdV=>
 Yz ci λfa=>
 Yz bX λfH=>
 Yz bO λfO=>
 some [fO,fH,fa,dV,cm,a37,cQ,da,a40]) (
 Yn aG λbO=>
 eC (aw [bA,bL,a31,bO]) λbX ci cu cm=>
 Y4 aG bX λcQ da a40 dV=>
 eC (cP [ci,cu,cm]) λfa fH fO fV=>
 eC (aW [fH,fO,fV,ii 2]) λa46 gd fX a49=>
 jn (xU λiL a51 iZ a53=>
 Ye a20 (ii 3) λlP=>
 jn (dJ λj5=>
 Yz da λpw=>
 Yz a3 λqk=>
 Yz cQ λvd=>
 Yz a20 λa59=>
 some [a59,vd,qk,pw,a24,j5,iL,a51,iZ]) λk0=>
 az lP (
 bm (fG [a53,da]) λj5=>
 k0 [j5]) (
 Ye a20 (ii 2) λj5=>
 jn (dJ λpw=>
 k0 [pw]) λk1=>
 az j5 (
 bm (gm [a53,da]) λpw=>
 k1 [pw]) (
 k1 [bk]))) λk0=>
 az a46 (
 bm (aM [a9]) λiL=>
 iter (AK aw aW k0) R [ii 0,gd,fX,a49,iL]) (
 k0 [gd,fX,a49,fa])))
theorem alR:mD.den (pick [(66,aM),(149,aw),(151,aW),(153,cP),(181,gq),(182,eZ),(183,lq),(184,fG),(185,gm)]) R [] [a0,a1,a2,a3,a4,a5,a6,a7,a8,a9,aG]=Jn R gm fG aw aW aM cP lq gq eZ a0 a1 a2 a3 a9 aG:=(cR (by kernel_rfl)).trans (by kernel_rfl)
theorem alS:Q7 [a0,a1,a2,a3,a4,a5,a6,a7,a8,a9,aG]=Jn rounds GS BI ku r7 sJ zd Q6 GV GU a0 a1 a2 a3 a9 aG:=alR rounds GS BI ku r7 sJ zd Q6 GV GU a0 a1 a2 a3 a4 a5 a6 a7 a8 a9 aG
def W6:Option (List T):=
 (dv λa3 a4=>
 Yn a0 λa5=>
 Yl a4 a5 λa6=>
 az a6 (
 Yl a4 (ii 4000) λa7=>
 az a7 (
 pv (.bin .mul) [a3,ii 131] λa8=>
 Y1 a0 a4 λaG=>
 pv (.IH .i64) [aG] λaJ=>
 Ya a8 aJ λa12=>
 Ya a12 (ii 7) λaK=>
 pv (.bin .and) [aK,ii 1073741823] λaL=>
 Ya a4 (ii 1) λaP=>
 k0 [aL,aP]) (
 uq (gL [a0,ii 0,a3]) λa8 a9 aG aJ a12 aK aL aP aQ aR aS=>
 wc (iG [aQ,aR,aS,a8,a9,aG,aJ,a12,aK,aL,aP]) λaT a20 a21 bu aY a24 bk bc bq=>
 Yz bu λa28=>
 Yz a21 λbA=>
 Yz a20 λbL=>
 Yz aT λa31=>
 Yz aG λbO=>
 Yz a9 λbX=>
 Yz a8 λci=>
 some [ci,bX,bO,aJ,a12,aK,aL,aP,a31,bL,bA,a28,aY,a24])) (
 uq (gL [a0,ii 0,a3]) λa7 a8 a9 aG aJ a12 aK aL aP aQ aR=>
 wc (iG [aP,aQ,aR,a7,a8,a9,aG,aJ,a12,aK,aL]) λaS aT a20 a21 bu aY a24 bk bc=>
 Yz a21 λbq=>
 Yz a20 λa28=>
 Yz aT λbA=>
 Yz aS λbL=>
 Yz a9 λa31=>
 Yz a8 λbO=>
 Yz a7 λbX=>
 some [bX,bO,a31,aG,aJ,a12,aK,aL,bL,bA,a28,bq,bu,aY])) ts
def kq_:Option (List T):=
 Yn a0 λa1=>
 Ya (ii 13901) a1 λa2=>
 iter (W6 gL iG a0) R [a2,ii 0]
theorem alU:gH.den (pick [(79,gL),(80,iG)]) R [] [a0]=kq_ R gL iG a0:=(cR (by kernel_rfl)).trans (by kernel_rfl)
theorem alV:Q9 [a0]=kq_ rounds QZ Q7 a0:=alU rounds QZ Q7 a0
def Hu:Option (List T):=
 pv (.app true 4) [.l [],a1] λa3=>
 pv (.app true 4) [.l [],a2] λa4=>
 Yz a0 λa5=>
 some [a5,a3,a4]
theorem alW:mE.den (pick []) R [] [a0,a1,a2]=Hu a0 a1 a2:=(cR (by kernel_rfl)).trans (by kernel_rfl)
theorem W7:EO [a0,a1,a2]=Hu a0 a1 a2:=alW rounds a0 a1 a2
def Nf:Option (List T):=
 Yp (.l []) a0 λa1=>
 some [a1]
theorem alX:kQ.den (pick []) R [] [a0]=Nf a0:=(cR (by kernel_rfl)).trans (by kernel_rfl)
theorem alY:o8 [a0]=Nf a0:=alX rounds a0
def Ng:Option (List T):=
 pv (.app true 2) [.l [],a5] λa8=>
 Yz a7 λa9=>
 Yz a6 λaG=>
 Yz a4 λaJ=>
 Yz a3 λa12=>
 Yz a2 λaK=>
 Yz a1 λaL=>
 Yz a0 λaP=>
 some [aP,aL,aK,a12,aJ,a8,aG,a9]
theorem alZ:jA.den (pick []) R [] [a0,a1,a2,a3,a4,a5,a6,a7]=Ng a0 a1 a2 a3 a4 a5 a6 a7:=(cR (by kernel_rfl)).trans (by kernel_rfl)
theorem al0:BJ [a0,a1,a2,a3,a4,a5,a6,a7]=Ng a0 a1 a2 a3 a4 a5 a6 a7:=alZ rounds a0 a1 a2 a3 a4 a5 a6 a7
def uW_:Option (List T):=
 (dv λa2 a3=>
 Yl a3 a1 λa4=>
 az a4 (
 Y8 a0 a3 λa6 a7 a8 a9 aG aJ a12 aK=>
 q7 (bW [a6,a7,a8,a9,aG,aJ,a12,aK]) λaL aP aQ aR aS aT a20 a21=>
 pv (.lit 8 [true,true,true,true,true,false,true,true]) [aL,aP,aQ,aR,aS,aT,a20,a21] λbu=>
 Yy a2 bu λaY=>
 Ya a3 (ii 1) λa24=>
 k0 [aY,a24]) (
 some [a2])) ts
def Nh:Option (List T):=
 Yn a0 λa1=>
 iter (uW_ bW a0 a1) R [.l [],ii 0]
theorem al1:iT.den (pick [(161,bW)]) R [] [a0]=Nh R bW a0:=(cR (by kernel_rfl)).trans (by kernel_rfl)
theorem al2:BK [a0]=Nh rounds BJ a0:=al1 rounds BJ a0
def Ni:Option (List T):=
 nf (gk [a2,a3,a4]) λa7 a8 a9=>
 bm (ax [a5]) λaG=>
 bm (bK [a6]) λaJ=>
 Yz a7 λa12=>
 Yz a1 λaK=>
 Yz a0 λaL=>
 some [aL,aK,a12,a8,a9,aG,aJ]
theorem al3:kR.den (pick [(56,bK),(90,gk),(156,ax)]) R [] [a0,a1,a2,a3,a4,a5,a6]=Ni ax gk bK a0 a1 a2 a3 a4 a5 a6:=(cR (by kernel_rfl)).trans (by kernel_rfl)
theorem al4:GW [a0,a1,a2,a3,a4,a5,a6]=Ni o8 EO BK a0 a1 a2 a3 a4 a5 a6:=al3 rounds o8 EO BK a0 a1 a2 a3 a4 a5 a6
def Nj:Option (List T):=
 EM (fD [a0,a1,a2,a3,a4,a5,a6]) λa8 a9 aG aJ a12 aK aL=>
 pv (.app true 4) [.l [],a7] λaP=>
 Yz aG λaQ=>
 Yz a9 λaR=>
 Yz a8 λaS=>
 some [aS,aR,aQ,aJ,a12,aK,aL,aP]
theorem al5:kU.den (pick [(54,fD)]) R [] [a0,a1,a2,a3,a4,a5,a6,a7]=Nj fD a0 a1 a2 a3 a4 a5 a6 a7:=(cR (by kernel_rfl)).trans (by kernel_rfl)
theorem al6:Q_ [a0,a1,a2,a3,a4,a5,a6,a7]=Nj GW a0 a1 a2 a3 a4 a5 a6 a7:=al5 rounds GW a0 a1 a2 a3 a4 a5 a6 a7
def Nk:Option (List T):=
 Yh a0 a1 λa3=>
 az a3 (
 Ym a0 a2 λa4=>
 Yz a4 λa5=>
 some [a5]) (
 Yz (bb false) λa4=>
 some [a4])
theorem al7:yb.den (pick []) R [] [a0,a1,a2]=Nk a0 a1 a2:=(cR (by kernel_rfl)).trans (by kernel_rfl)
theorem al8:rB [a0,a1,a2]=Nk a0 a1 a2:=al7 rounds a0 a1 a2
def Nl:Option (List T):=
 bm (cb [a0,ii 1,ii 6]) λa5=>
 az a5 (
 bm (cb [a1,ii 1,a0]) λa6=>
 az a6 (
 bm (cb [a2,ii 1,a0]) λa7=>
 az a7 (
 Yl a1 a2 λa8=>
 az a8 (
 bm (cb [a3,ii 1,ii 1000]) λa9=>
 az a9 (
 bm (cb [a4,ii 0,ii 2]) λaG=>
 Yz aG λaJ=>
 some [aJ]) (
 Yz (bb false) λaG=>
 some [aG])) (
 Yz (bb false) λa9=>
 some [a9])) (
 Yz (bb false) λa8=>
 some [a8])) (
 Yz (bb false) λa7=>
 some [a7])) (
 Yz (bb false) λa6=>
 some [a6])
theorem al9:n7.den (pick [(69,cb)]) R [] [a0,a1,a2,a3,a4]=Nl cb a0 a1 a2 a3 a4:=(cR (by kernel_rfl)).trans (by kernel_rfl)
theorem al_:Q' [a0,a1,a2,a3,a4]=Nl rB a0 a1 a2 a3 a4:=al9 rounds rB a0 a1 a2 a3 a4
def Nn:Option (List T):=
 Yu a0 a4 λa8=>
 az a8 (
 Yl a0 a4 λa9=>
 Yz a9 λaG=>
 some [aG]) (
 Yu a1 a5 λa9=>
 az a9 (
 Yl a1 a5 λaG=>
 Yz aG λaJ=>
 some [aJ]) (
 Yl a3 a7 λaG=>
 Yz aG λaJ=>
 some [aJ]))
theorem al':pZ.den (pick []) R [] [a0,a1,a2,a3,a4,a5,a6,a7]=Nn a0 a1 a3 a4 a5 a7:=(cR (by kernel_rfl)).trans (by kernel_rfl)
theorem ama:Ra [a0,a1,a2,a3,a4,a5,a6,a7]=Nn a0 a1 a3 a4 a5 a7:=al' rounds a0 a1 a2 a3 a4 a5 a6 a7
def Np:Option (List T):=
 Yl a1 a5 λa8=>
 az a8 (
 Yz (bb true) λa9=>
 some [a9]) (
 Ye a1 a5 λa9=>
 az a9 (
 Yl a0 a4 λaG=>
 Yz aG λaJ=>
 some [aJ]) (
 Yz (bb false) λaG=>
 some [aG]))
theorem amb:r9.den (pick []) R [] [a0,a1,a2,a3,a4,a5,a6,a7]=Np a0 a1 a4 a5:=(cR (by kernel_rfl)).trans (by kernel_rfl)
theorem amc:Ax [a0,a1,a2,a3,a4,a5,a6,a7]=Np a0 a1 a4 a5:=amb rounds a0 a1 a2 a3 a4 a5 a6 a7
def Nq:Option (List T):=
 (dv λaL aP=>
 Yl aP aK λaQ=>
 az aQ (
 Y4 a2 aP λaS aT a20 a21=>
 bm (cb [aT,ii 1,ii 9]) λbu=>
 Yt bu λaY=>
 az aY (
 Yz (bb false) λa24=>
 some [a24]) (
 bm (cb [aS,ii 1,a0]) λa24=>
 Yt a24 λbk=>
 az bk (
 Yz (bb false) λbc=>
 some [bc]) (
 bm (cb [a20,ii 1,ii 1000]) λbc=>
 Yt bc λbq=>
 az bq (
 Yz (bb false) λa28=>
 some [a28]) (
 Yg aP (ii 0) λa28=>
 az a28 (
 Ys aP (ii 1) λbA=>
 Y4 a2 bA λa31 bO bX ci=>
 bm (mP [a31,bO,bX,ci,aS,aT,a20,a21]) λcu=>
 Yt cu λcm=>
 az cm (
 Yz (bb false) λa37=>
 some [a37]) (
 Ya aP (ii 1) λa37=>
 k1 [aL,a37])) (
 Ya aP (ii 1) λbA=>
 k1 [aL,bA]))))) (
 Yz (bb true) λaR=>
 some [aR])) ts
def Nr:Option (List T):=
 (dv λaG aJ=>
 Yl aJ a9 λa12=>
 az a12 (
 Y4 a1 aJ λaL aP aQ aR=>
 bm (ld [a0,aL,aP,aQ,aR]) λaS=>
 Yt aS λaT=>
 az aT (
 Yz (bb false) λa20=>
 some [a20]) (
 Yg aJ (ii 0) λa20=>
 az a20 (
 Ys aJ (ii 1) λa21=>
 Y4 a1 a21 λaY a24 bk bc=>
 bm (ng [aY,a24,bk,bc,aL,aP,aQ,aR]) λbq=>
 Yt bq λa28=>
 az a28 (
 Yz (bb false) λbA=>
 some [bA]) (
 Ya aJ (ii 1) λbA=>
 k0 [aG,bA])) (
 Ya aJ (ii 1) λa21=>
 k0 [aG,a21]))) (
 Yn a2 λaK=>
 iter (Nq cb mP a0 a2 aK) R [aG,ii 0])) ts
def Ns:Option (List T):=
 bm (cb [a0,ii 1,ii 6]) λa3=>
 Yt a3 λa4=>
 az a4 (
 Yz (bb false) λa5=>
 some [a5]) (
 Yn a1 λa5=>
 Yg a5 (ii 12) λa6=>
 az a6 (
 Yz (bb false) λa7=>
 some [a7]) (
 Yn a2 λa7=>
 Yg a7 (ii 4) λa8=>
 az a8 (
 Yz (bb false) λa9=>
 some [a9]) (
 Yn a1 λa9=>
 iter (Nr R ld ng cb mP a0 a1 a2 a9) R [bb false,ii 0])))
theorem amd:p9.den (pick [(69,cb),(169,ld),(170,ng),(171,mP)]) R [] [a0,a1,a2]=Ns R ld ng cb mP a0 a1 a2:=(cR (by kernel_rfl)).trans (by kernel_rfl)
theorem ame:Rb [a0,a1,a2]=Ns rounds Q' Ra rB Ax a0 a1 a2:=amd rounds Q' Ra rB Ax a0 a1 a2
def kM_:Option (List T):=
 (dv λa7 a8=>
 Yl a8 a6 λa9=>
 az a9 (
 Y4 a1 a8 λaJ a12 aK aL=>
 Ye aL a5 λaP=>
 az aP (
 Ye aJ a3 λaQ=>
 az aQ (
 Ye a12 a4 λaR=>
 az aR (
 Yz a8 λaS=>
 some [aS]) (
 Ye aJ a4 λaS=>
 az aS (
 Ye a12 a3 λaT=>
 az aT (
 Yz a8 λa20=>
 some [a20]) (
 Ya a8 (ii 1) λa20=>
 k0 [a7,a20])) (
 Ya a8 (ii 1) λaT=>
 k0 [a7,aT]))) (
 Ye aJ a4 λaR=>
 az aR (
 Ye a12 a3 λaS=>
 az aS (
 Yz a8 λaT=>
 some [aT]) (
 Ya a8 (ii 1) λaT=>
 k0 [a7,aT])) (
 Ya a8 (ii 1) λaS=>
 k0 [a7,aS]))) (
 Ya a8 (ii 1) λaQ=>
 k0 [a7,aQ])) (
 Yz (ii (-1)) λaG=>
 some [aG])) ts
def Nt:Option (List T):=
 Yn a1 λa6=>
 iter (kM_ a1 a3 a4 a5 a6) R [ii 0,ii 0]
theorem amf:n8.den (pick []) R [] [a0,a1,a2,a3,a4,a5]=Nt R a1 a3 a4 a5:=(cR (by kernel_rfl)).trans (by kernel_rfl)
theorem amg:BL [a0,a1,a2,a3,a4,a5]=Nt rounds a1 a3 a4 a5:=amf rounds a0 a1 a2 a3 a4 a5
def j1_:Option (List T):=
 (dv λaG aJ=>
 Yn a5 λa12=>
 Yl aJ a12 λaK=>
 az aK (
 Y1 a5 aJ λaP=>
 Ya aJ (ii 1) λaQ=>
 Y1 a5 aQ λaS=>
 bm (dF [a2,a3,a4,a0,aP,aS]) λaT=>
 Yl aT (ii 0) λa20=>
 az a20 (
 Yz (bb false) λa21=>
 some [a21]) (
 Yg aJ (ii 0) λa21=>
 az a21 (
 Ys aJ (ii 2) λbu=>
 Y1 a5 bu λa24=>
 Yg a24 aP λbk=>
 az bk (
 Yz (bb false) λbc=>
 some [bc]) (
 Ys aJ (ii 2) λbc=>
 Y1 a5 bc λa28=>
 Ye a28 aP λbA=>
 az bA (
 Ys aJ (ii 1) λbL=>
 Y1 a5 bL λbO=>
 Yh bO aS λbX=>
 az bX (
 Yz (bb false) λci=>
 some [ci]) (
 Ya aJ (ii 2) λci=>
 k0 [aG,ci])) (
 Ya aJ (ii 2) λbL=>
 k0 [aG,bL]))) (
 Ya aJ (ii 2) λbu=>
 k0 [aG,bu]))) (
 Yz (bb true) λaL=>
 some [aL])) ts
def Nu:Option (List T):=
 Yn a5 λa7=>
 pv (.bin .rem) [a7,ii 2] λa8=>
 Yu a8 (ii 0) λa9=>
 az a9 (
 Yz (bb false) λaG=>
 some [aG]) (
 iter (j1_ dF a0 a2 a3 a4 a5) R [bb false,ii 0])
theorem amh:mF.den (pick [(172,dF)]) R [] [a0,a1,a2,a3,a4,a5,a6]=Nu R dF a0 a2 a3 a4 a5:=(cR (by kernel_rfl)).trans (by kernel_rfl)
theorem ami:Rc [a0,a1,a2,a3,a4,a5,a6]=Nu rounds BL a0 a2 a3 a4 a5:=amh rounds BL a0 a1 a2 a3 a4 a5 a6
def kL_:Option (List T):=
 (dv λa9 aG=>
 Yl aG a8 λaJ=>
 az aJ (
 Y2 a5 aG λaK aL=>
 bm (cb [aK,ii 1,ii 6]) λaP=>
 Yt aP λaQ=>
 az aQ (
 Yz (bb false) λaR=>
 some [aR]) (
 Ye aK a2 λaR=>
 az aR (
 Yz (bb false) λaS=>
 some [aS]) (
 bm (cb [aL,ii 1,ii 1000]) λaS=>
 Yt aS λaT=>
 az aT (
 Yz (bb false) λa20=>
 some [a20]) (
 Yg aG (ii 0) λa20=>
 az a20 (
 Ys aG (ii 1) λa21=>
 Yb a5 a21 λbu=>
 Yc 2 0 a5 a21 λaY=>
 Yh aY aK λa24=>
 az a24 (
 Yz (bb false) λbk=>
 some [bk]) (
 Ya aG (ii 1) λbk=>
 k0 [a9,bk])) (
 Ya aG (ii 1) λa21=>
 k0 [a9,a21]))))) (
 Yz (bb true) λa12=>
 some [a12])) ts
def Nv:Option (List T):=
 Yn a5 λa8=>
 iter (kL_ cb a2 a5 a8) R [bb false,ii 0]
theorem amj:n9.den (pick [(69,cb)]) R [] [a0,a1,a2,a3,a4,a5,a6,a7]=Nv R cb a2 a5:=(cR (by kernel_rfl)).trans (by kernel_rfl)
theorem amk:Rd [a0,a1,a2,a3,a4,a5,a6,a7]=Nv rounds rB a2 a5:=amj rounds rB a0 a1 a2 a3 a4 a5 a6 a7
def Nw:Option (List T):=
 bm (cb [a2,ii 1,ii 6]) λa8=>
 Yt a8 λa9=>
 az a9 (
 Yz (bb false) λaG=>
 some [aG]) (
 bm (cb [a4,ii 1,ii 100000]) λaG=>
 Yt aG λaJ=>
 az aJ (
 Yz (bb false) λa12=>
 some [a12]) (
 Ye a1 (ii 1) λa12=>
 az a12 (
 bm (cb [a0,ii 0,ii 2]) λaK=>
 az aK (
 Ye a3 (ii 0) λaL=>
 az aL (
 bm (oB [a0,a1,a2,a3,a4,a5,a6,a7]) λaP=>
 az aP (
 Ye a6 (ii 0) λaQ=>
 az aQ (
 Yt a7 λaR=>
 Yz aR λaS=>
 some [aS]) (
 Yz (bb false) λaR=>
 some [aR])) (
 Yz (bb false) λaQ=>
 some [aQ])) (
 Yz (bb false) λaP=>
 some [aP])) (
 Yz (bb false) λaL=>
 some [aL])) (
 Ye a1 (ii 2) λaK=>
 az aK (
 bm (cb [a0,ii 0,ii 2]) λaL=>
 az aL (
 bm (cb [a3,ii 1,ii 6]) λaP=>
 az aP (
 Yn a5 λaQ=>
 Ye aQ (ii 0) λaR=>
 az aR (
 bm (cb [a6,ii 0,ii 60000]) λaS=>
 az aS (
 Yt a7 λaT=>
 Yz aT λa20=>
 some [a20]) (
 Yz (bb false) λaT=>
 some [aT])) (
 Yz (bb false) λaS=>
 some [aS])) (
 Yz (bb false) λaQ=>
 some [aQ])) (
 Yz (bb false) λaP=>
 some [aP])) (
 Ye a1 (ii 3) λaL=>
 az aL (
 Ye a0 (ii 9) λaP=>
 az aP (
 bm (cb [a3,ii 1,ii 9]) λaQ=>
 az aQ (
 Yn a5 λaR=>
 Ye aR (ii 0) λaS=>
 az aS (
 bm (cb [a6,ii 1,ii 1000]) λaT=>
 az aT (
 Yz (bb true) λa20=>
 some [a20]) (
 Ye a6 (ii 60000) λa20=>
 Yz a20 λa21=>
 some [a21])) (
 Yz (bb false) λaT=>
 some [aT])) (
 Yz (bb false) λaR=>
 some [aR])) (
 Yz (bb false) λaQ=>
 some [aQ])) (
 Yz (bb false) λaP=>
 some [aP])))))
theorem aml:kV.den (pick [(69,cb),(222,oB)]) R [] [a0,a1,a2,a3,a4,a5,a6,a7]=Nw cb oB a0 a1 a2 a3 a4 a5 a6 a7:=(cR (by kernel_rfl)).trans (by kernel_rfl)
theorem amm:Re [a0,a1,a2,a3,a4,a5,a6,a7]=Nw rB Rd a0 a1 a2 a3 a4 a5 a6 a7:=aml rounds rB Rd a0 a1 a2 a3 a4 a5 a6 a7
def Nx:Option (List T):=
 Yu a0 a8 λaQ=>
 az aQ (
 Yl a0 a8 λaR=>
 Yz aR λaS=>
 some [aS]) (
 Yu a1 a9 λaR=>
 az aR (
 Yl a1 a9 λaS=>
 Yz aS λaT=>
 some [aT]) (
 Yu a2 aG λaS=>
 az aS (
 Yl a2 aG λaT=>
 Yz aT λa20=>
 some [a20]) (
 Yl a3 aJ λaT=>
 Yz aT λa20=>
 some [a20])))
theorem amn:n_.den (pick []) R [] [a0,a1,a2,a3,a4,a5,a6,a7,a8,a9,aG,aJ,a12,aK,aL,aP]=Nx a0 a1 a2 a3 a8 a9 aG aJ:=(cR (by kernel_rfl)).trans (by kernel_rfl)
theorem amo:GX [a0,a1,a2,a3,a4,a5,a6,a7,a8,a9,aG,aJ,a12,aK,aL,aP]=Nx a0 a1 a2 a3 a8 a9 aG aJ:=amn rounds a0 a1 a2 a3 a4 a5 a6 a7 a8 a9 aG aJ a12 aK aL aP
def jY_:Option (List T):=
 (dv λa2 a3=>
 Yl a3 a1 λa4=>
 az a4 (
 Y8 a0 a3 λa6 a7 a8 a9 aG aJ a12 aK=>
 bm (jg [a6,a7,a8,a9,aG,aJ,a12,aK]) λaL=>
 Yt aL λaP=>
 az aP (
 Yz (bb false) λaQ=>
 some [aQ]) (
 Yg a3 (ii 0) λaQ=>
 az aQ (
 Ys a3 (ii 1) λaR=>
 Y8 a0 aR λaT a20 a21 bu aY a24 bk bc=>
 bm (fj [aT,a20,a21,bu,aY,a24,bk,bc,a6,a7,a8,a9,aG,aJ,a12,aK]) λbq=>
 Yt bq λa28=>
 az a28 (
 Yz (bb false) λbA=>
 some [bA]) (
 Ya a3 (ii 1) λbA=>
 k0 [a2,bA])) (
 Ya a3 (ii 1) λaR=>
 k0 [a2,aR]))) (
 Yn a0 λa5=>
 Ym a5 (ii 150) λa6=>
 Yz a6 λa7=>
 some [a7])) ts
def Ny:Option (List T):=
 Yn a0 λa1=>
 iter (jY_ fj jg a0 a1) R [bb false,ii 0]
theorem amp:mG.den (pick [(162,fj),(173,jg)]) R [] [a0]=Ny R fj jg a0:=(cR (by kernel_rfl)).trans (by kernel_rfl)
theorem amq:GY [a0]=Ny rounds GX Re a0:=amp rounds GX Re a0
def Nz:Option (List T):=
 bm (qh [a2,a3,a4]) λa7=>
 az a7 (
 bm (cb [a0,ii 1,a2]) λa8=>
 az a8 (
 bm (cb [a1,ii 0,ii 90]) λa9=>
 az a9 (
 bm (mO [a0,a1,a2,a3,a4,a5,a6]) λaG=>
 az aG (
 bm (gj [a6]) λaJ=>
 Yz aJ λa12=>
 some [a12]) (
 Yz (bb false) λaJ=>
 some [aJ])) (
 Yz (bb false) λaG=>
 some [aG])) (
 Yz (bb false) λa9=>
 some [a9])) (
 Yz (bb false) λa8=>
 some [a8])
theorem amr:oa.den (pick [(68,qh),(69,cb),(70,mO),(71,gj)]) R [] [a0,a1,a2,a3,a4,a5,a6]=Nz qh gj mO cb a0 a1 a2 a3 a4 a5 a6:=(cR (by kernel_rfl)).trans (by kernel_rfl)
theorem ams:yc [a0,a1,a2,a3,a4,a5,a6]=Nz Rb GY Rc rB a0 a1 a2 a3 a4 a5 a6:=amr rounds Rb GY Rc rB a0 a1 a2 a3 a4 a5 a6
def W8:Option (List T):=
 (dv λa7 a8=>
 Ym a8 (ii 2) λa9=>
 az a9 (
 bm (dF [a0,a1,a2,a3,a5,a8]) λaG=>
 Yh aG (ii 0) λaJ=>
 jn (dJ λa12=>
 Ya a8 (ii 1) λaK=>
 k1 [a12,aK]) λk2=>
 az aJ (
 pv (.lit 4 [true,true,true,true]) [a5,a8,ii 0,bb false] λa12=>
 pv (.app true 4) [a7,a12] λaK=>
 k2 [aK]) (
 k2 [a7])) (
 Ya a5 (ii 1) λaG=>
 k0 [a7,aG])) ts
def W9:Option (List T):=
 (dv λa4 a5=>
 Ym a5 a0 λa6=>
 az a6 (
 iter (W8 dF a0 a1 a2 a3 a5 k0) R [a4,ii 0]) (
 some [a4])) ts
def NA:Option (List T):=
 iter (W9 R dF a0 a1 a2 a3) R [.l [],ii 1]
theorem amt:od.den (pick [(172,dF)]) R [] [a0,a1,a2,a3]=NA R dF a0 a1 a2 a3:=(cR (by kernel_rfl)).trans (by kernel_rfl)
theorem amu:GZ [a0,a1,a2,a3]=NA rounds BL a0 a1 a2 a3:=amt rounds BL a0 a1 a2 a3
def j7_:Option (List T):=
 (dv λa2 a3=>
 Yl a3 a1 λa4=>
 az a4 (
 Y4 a0 a3 λa6 a7 a8 a9=>
 jn (dJ λaG=>
 Ya a3 (ii 1) λaJ=>
 k0 [aG,aJ]) λk1=>
 az a9 (
 pv (.lit 1 [true,true]) [a6,a7] λaG=>
 Yp a2 aG λaJ=>
 k1 [aJ]) (
 k1 [a2])) (
 some [a2])) ts
def NB:Option (List T):=
 Yn a0 λa1=>
 iter (j7_ a0 a1) R [.l [],ii 0]
theorem amv:mH.den (pick []) R [] [a0]=NB R a0:=(cR (by kernel_rfl)).trans (by kernel_rfl)
theorem amw:G0 [a0]=NB rounds a0:=amv rounds a0
def jq_:Option (List T):=
 (dv λa6 a7=>
 Yl a7 a5 λa8=>
 az a8 (
 Y1 a0 a7 λaG=>
 Y1 a1 a7 λa12=>
 Yu aG a12 λaK=>
 az aK (
 Yz (bb false) λaL=>
 some [aL]) (
 Ya a7 (ii 1) λaL=>
 k0 [a6,aL])) (
 Yz (bb true) λa9=>
 some [a9])) ts
def NC:Option (List T):=
 Yn a0 λa2=>
 Yn a1 λa3=>
 Yu a2 a3 λa4=>
 az a4 (
 Yz (bb false) λa5=>
 some [a5]) (
 Yn a0 λa5=>
 iter (jq_ a0 a1 a5) R [bb false,ii 0])
theorem amx:kW.den (pick []) R [] [a0,a1]=NC R a0 a1:=(cR (by kernel_rfl)).trans (by kernel_rfl)
theorem amy:Rf [a0,a1]=NC rounds a0 a1:=amx rounds a0 a1
def W_:Option (List T):=
 (dv λaP aQ=>
 Yl aQ aL λaR=>
 az aR (
 Y4 a7 aQ λaT a20 a21 bu=>
 Yb aG aQ λaY=>
 pv (.aU 4 0) [aG,aQ] λa24=>
 Yu aT a24 λbk=>
 az bk (
 Yz (bb false) λbc=>
 some [bc]) (
 Yb aG aQ λbc=>
 pv (.aU 4 1) [aG,aQ] λbq=>
 Yu a20 bq λa28=>
 az a28 (
 Yz (bb false) λbA=>
 some [bA]) (
 bm (cb [a21,ii 0,ii 3]) λbA=>
 Yt bA λbL=>
 az bL (
 Yz (bb false) λa31=>
 some [a31]) (
 az bu (
 Ye a21 (ii 0) λa31=>
 az a31 (
 Yz (bb false) λbO=>
 some [bO]) (
 Ya aQ (ii 1) λbO=>
 k0 [aP,bO])) (
 Ya aQ (ii 1) λa31=>
 k0 [aP,a31]))))) (
 bm (eG [a7]) λaS=>
 bm (ji [aS,a5]) λaT=>
 Yz aT λa20=>
 some [a20])) ts
def ND:Option (List T):=
 bm (dD [a0,a1,a2,a3,a4,a5,a6]) λa8=>
 Yt a8 λa9=>
 az a9 (
 Yz (bb false) λaG=>
 some [aG]) (
 bm (im [a2,a3,a4,a0]) λaG=>
 Yn aG λaJ=>
 Yn a7 λa12=>
 Yu aJ a12 λaK=>
 az aK (
 Yz (bb false) λaL=>
 some [aL]) (
 Yn a7 λaL=>
 iter (W_ eG cb ji a5 a7 aG aL) R [bb false,ii 0]))
theorem amz:oe.den (pick [(13,dD),(69,cb),(82,eG),(87,im),(88,ji)]) R [] [a0,a1,a2,a3,a4,a5,a6,a7]=ND R dD im eG cb ji a0 a1 a2 a3 a4 a5 a6 a7:=(cR (by kernel_rfl)).trans (by kernel_rfl)
theorem amA:Ay [a0,a1,a2,a3,a4,a5,a6,a7]=ND rounds yc GZ G0 rB Rf a0 a1 a2 a3 a4 a5 a6 a7:=amz rounds yc GZ G0 rB Rf a0 a1 a2 a3 a4 a5 a6 a7
def wi:Option (List T):=
 (dJ λaP=>
 Yn a5 λaQ=>
 Yl aP aQ λaR=>
 az aR (
 Yq a5 aP λaT=>
 Yl aT a12 λa20=>
 az a20 (
 Ya aP (ii 1) λa21=>
 k2 [a21]) (
 Yn a5 λa21=>
 Yl aP a21 λbu=>
 az bu (
 Yq a5 aP λa24=>
 Ye a24 a12 λbk=>
 az bk (
 k1 [a5]) (
 Yw a5 aP λbc=>
 bm (ax [bc]) λbq=>
 Yx a12 λa28=>
 Yp bq a28 λbA=>
 Yv a5 aP λbL=>
 Yp bA bL λa31=>
 k1 [a31])) (
 Yw a5 aP λaY=>
 bm (ax [aY]) λa24=>
 Yx a12 λbk=>
 Yp a24 bk λbc=>
 Yv a5 aP λbq=>
 Yp bc bq λa28=>
 k1 [a28]))) (
 Yn a5 λaS=>
 Yl aP aS λaT=>
 az aT (
 Yq a5 aP λa21=>
 Ye a21 a12 λbu=>
 az bu (
 k1 [a5]) (
 Yw a5 aP λaY=>
 bm (ax [aY]) λa24=>
 Yx a12 λbk=>
 Yp a24 bk λbc=>
 Yv a5 aP λbq=>
 Yp bc bq λa28=>
 k1 [a28])) (
 Yw a5 aP λa20=>
 bm (ax [a20]) λa21=>
 Yx a12 λbu=>
 Yp a21 bu λaY=>
 Yv a5 aP λa24=>
 Yp aY a24 λbk=>
 k1 [bk]))) ts
def wj:Option (List T):=
 (dJ λaL=>
 Yn a5 λaP=>
 Yl aL aP λaQ=>
 az aQ (
 Yq a5 aL λaS=>
 Yl aS a12 λaT=>
 az aT (
 Ya aL (ii 1) λa20=>
 k2 [a20]) (
 Yn a5 λa20=>
 Yl aL a20 λa21=>
 az a21 (
 Yq a5 aL λaY=>
 Ye aY a12 λa24=>
 az a24 (
 k1 [a5]) (
 Yw a5 aL λbk=>
 bm (ax [bk]) λbc=>
 Yx a12 λbq=>
 Yp bc bq λa28=>
 Yv a5 aL λbA=>
 Yp a28 bA λbL=>
 k1 [bL])) (
 Yw a5 aL λbu=>
 bm (ax [bu]) λaY=>
 Yx a12 λa24=>
 Yp aY a24 λbk=>
 Yv a5 aL λbc=>
 Yp bk bc λbq=>
 k1 [bq]))) (
 Yn a5 λaR=>
 Yl aL aR λaS=>
 az aS (
 Yq a5 aL λa20=>
 Ye a20 a12 λa21=>
 az a21 (
 k1 [a5]) (
 Yw a5 aL λbu=>
 bm (ax [bu]) λaY=>
 Yx a12 λa24=>
 Yp aY a24 λbk=>
 Yv a5 aL λbc=>
 Yp bk bc λbq=>
 k1 [bq])) (
 Yw a5 aL λaT=>
 bm (ax [aT]) λa20=>
 Yx a12 λa21=>
 Yp a20 a21 λbu=>
 Yv a5 aL λaY=>
 Yp bu aY λa24=>
 k1 [a24]))) ts
def w8:Option (List T):=
 (dv λa5 a6=>
 Yl a6 a4 λa7=>
 az a7 (
 Y4 a1 a6 λa9 aG aJ a12=>
 Ye a9 a3 λaK=>
 az aK (
 jn (dJ λaL=>
 Ya a6 (ii 1) λaP=>
 k0 [aL,aP]) λk1=>
 iter (wj ax a5 a12 k1) R [ii 0]) (
 Ye aG a3 λaL=>
 jn (dJ λaP=>
 Ya a6 (ii 1) λaQ=>
 k0 [aP,aQ]) λk1=>
 az aL (
 iter (wi ax a5 a12 k1) R [ii 0]) (
 k1 [a5]))) (
 some [a5])) ts
def NE:Option (List T):=
 Yn a1 λa4=>
 iter (w8 R ax a1 a3 a4) R [.l [],ii 0]
theorem amB:mI.den (pick [(156,ax)]) R [] [a0,a1,a2,a3]=NE R ax a1 a3:=(cR (by kernel_rfl)).trans (by kernel_rfl)
theorem amC:yd [a0,a1,a2,a3]=NE rounds o8 a1 a3:=amB rounds o8 a0 a1 a2 a3
def NF:Option (List T):=
 bm (dF [a0,a1,a2,a3,a4,a5]) λa6=>
 Yh a6 (ii 0) λa7=>
 az a7 (
 Yb a1 a6 λa8=>
 Yc 4 2 a1 a6 λa9=>
 Yz a9 λaG=>
 some [aG]) (
 Yz (ii 0) λa8=>
 some [a8])
theorem amD:og.den (pick [(172,dF)]) R [] [a0,a1,a2,a3,a4,a5]=NF dF a0 a1 a2 a3 a4 a5:=(cR (by kernel_rfl)).trans (by kernel_rfl)
theorem amE:Rg [a0,a1,a2,a3,a4,a5]=NF BL a0 a1 a2 a3 a4 a5:=amD rounds BL a0 a1 a2 a3 a4 a5
def NG:Option (List T):=
 (dv λaL aP=>
 Yn a5 λaQ=>
 Yl aL aQ λaR=>
 az aR (
 Ya aL (ii 1) λaS=>
 Y1 a5 aS λa20=>
 Ye a20 aK λa21=>
 jn (dJ λbu=>
 Ya aL (ii 2) λaY=>
 k1 [aY,bu]) λk2=>
 az a21 (
 Y1 a5 aL λaY=>
 Y1 a5 aL λbk=>
 bm (jC [a2,a3,a4,a0,bk,aK]) λbc=>
 pv (.lit 2 [true,true]) [aY,bc] λbq=>
 pv (.app true 2) [aP,bq] λa28=>
 k2 [a28]) (
 k2 [aP])) (
 pv (.lit 8 [true,true,true,true,true,false,true,true]) [aK,ii 1,a0,ii 0,ii 0,aP,ii 0,bb false] λaS=>
 Yy a9 aS λaT=>
 Ya aG (ii 1) λa20=>
 k0 [aT,a20])) ts
def NH:Option (List T):=
 (dv λa9 aG=>
 Yl aG a8 λaJ=>
 az aJ (
 Yq a7 aG λaK=>
 iter (NG jC a0 a2 a3 a4 a5 a9 aG aK k0) R [ii 0,.l []]) (
 some [a9])) ts
def NI:Option (List T):=
 bm (cS [a2,a3,a4,a0]) λa7=>
 Yn a7 λa8=>
 iter (NH R jC a0 a2 a3 a4 a5 a7 a8) R [.l [],ii 0]
theorem amF:uv.den (pick [(74,cS),(174,jC)]) R [] [a0,a1,a2,a3,a4,a5,a6]=NI R cS jC a0 a2 a3 a4 a5:=(cR (by kernel_rfl)).trans (by kernel_rfl)
theorem amG:Az [a0,a1,a2,a3,a4,a5,a6]=NI rounds yd Rg a0 a2 a3 a4 a5:=amF rounds yd Rg a0 a1 a2 a3 a4 a5 a6
def NJ:Option (List T):=
 Ye a0 a8 λaQ=>
 az aQ (
 Ye a1 a9 λaR=>
 az aR (
 Ye a2 aG λaS=>
 az aS (
 Ye a3 aJ λaT=>
 Yz aT λa20=>
 some [a20]) (
 Yz (bb false) λaT=>
 some [aT])) (
 Yz (bb false) λaS=>
 some [aS])) (
 Yz (bb false) λaR=>
 some [aR])
theorem amH:mJ.den (pick []) R [] [a0,a1,a2,a3,a4,a5,a6,a7,a8,a9,aG,aJ,a12,aK,aL,aP]=NJ a0 a1 a2 a3 a8 a9 aG aJ:=(cR (by kernel_rfl)).trans (by kernel_rfl)
theorem amI:BM [a0,a1,a2,a3,a4,a5,a6,a7,a8,a9,aG,aJ,a12,aK,aL,aP]=NJ a0 a1 a2 a3 a8 a9 aG aJ:=amH rounds a0 a1 a2 a3 a4 a5 a6 a7 a8 a9 aG aJ a12 aK aL aP
def NK:Option (List T):=
 (dJ λa9=>
 Yn a0 λaG=>
 Yl a9 aG λaJ=>
 az aJ (
 Y8 a0 a9 λaK aL aP aQ aR aS aT a20=>
 bm (fj [aK,aL,aP,aQ,aR,aS,aT,a20,a1,a2,a3,a4,a5,a6,a7,a8]) λa21=>
 az a21 (
 Ya a9 (ii 1) λbu=>
 k0 [bu]) (
 pv (.sub 8 false true) [a0,a9] λbu=>
 bm (bK [bu]) λaY=>
 q7 (bW [a1,a2,a3,a4,a5,a6,a7,a8]) λa24 bk bc bq a28 bA bL a31=>
 pv (.lit 8 [true,true,true,true,true,false,true,true]) [a24,bk,bc,bq,a28,bA,bL,a31] λbO=>
 Yy aY bO λbX=>
 Yn a0 λci=>
 Yl a9 ci λcu=>
 az cu (
 Y8 a0 a9 λa37 cQ da a40 dV fa fH fO=>
 bm (cZ [a37,cQ,da,a40,dV,fa,fH,fO,a1,a2,a3,a4,a5,a6,a7,a8]) λfV=>
 jn (dJ λa46=>
 pv (.sub 8 true false) [a0,a46] λgd=>
 bm (bK [gd]) λfX=>
 Yy bX fX λa49=>
 some [a49]) λk1=>
 az fV (
 Ya a9 (ii 1) λa46=>
 k1 [a46]) (
 k1 [a9])) (
 jn (dJ λcm=>
 pv (.sub 8 true false) [a0,cm] λa37=>
 bm (bK [a37]) λcQ=>
 Yy bX cQ λda=>
 some [da]) λk1=>
 k1 [a9]))) (
 pv (.sub 8 false true) [a0,a9] λa12=>
 bm (bK [a12]) λaK=>
 q7 (bW [a1,a2,a3,a4,a5,a6,a7,a8]) λaL aP aQ aR aS aT a20 a21=>
 pv (.lit 8 [true,true,true,true,true,false,true,true]) [aL,aP,aQ,aR,aS,aT,a20,a21] λbu=>
 Yy aK bu λaY=>
 Yn a0 λa24=>
 Yl a9 a24 λbk=>
 az bk (
 Y8 a0 a9 λbq a28 bA bL a31 bO bX ci=>
 bm (cZ [bq,a28,bA,bL,a31,bO,bX,ci,a1,a2,a3,a4,a5,a6,a7,a8]) λcu=>
 jn (dJ λcm=>
 pv (.sub 8 true false) [a0,cm] λa37=>
 bm (bK [a37]) λcQ=>
 Yy aY cQ λda=>
 some [da]) λk1=>
 az cu (
 Ya a9 (ii 1) λcm=>
 k1 [cm]) (
 k1 [a9])) (
 jn (dJ λbc=>
 pv (.sub 8 true false) [a0,bc] λbq=>
 bm (bK [bq]) λa28=>
 Yy aY a28 λbA=>
 some [bA]) λk1=>
 k1 [a9]))) ts
def NL:Option (List T):=
 iter (NK fj cZ bW bK a0 a1 a2 a3 a4 a5 a6 a7 a8) R [ii 0]
theorem amJ:uw.den (pick [(56,bK),(161,bW),(162,fj),(163,cZ)]) R [] [a0,a1,a2,a3,a4,a5,a6,a7,a8]=NL R fj cZ bW bK a0 a1 a2 a3 a4 a5 a6 a7 a8:=(cR (by kernel_rfl)).trans (by kernel_rfl)
theorem amK:ux [a0,a1,a2,a3,a4,a5,a6,a7,a8]=NL rounds GX BM BJ BK a0 a1 a2 a3 a4 a5 a6 a7 a8:=amJ rounds GX BM BJ BK a0 a1 a2 a3 a4 a5 a6 a7 a8
def kG_:Option (List T):=
 (dv λa3 a4=>
 Yl a4 a2 λa5=>
 az a5 (
 Y1 a0 a4 λa7=>
 Ye a7 a1 λa8=>
 az a8 (
 Yz (bb true) λa9=>
 some [a9]) (
 Ya a4 (ii 1) λa9=>
 k0 [a3,a9])) (
 Yz (bb false) λa6=>
 some [a6])) ts
def NM:Option (List T):=
 Yn a0 λa2=>
 iter (kG_ a0 a1 a2) R [bb false,ii 0]
theorem amL:oh.den (pick []) R [] [a0,a1]=NM R a0 a1:=(cR (by kernel_rfl)).trans (by kernel_rfl)
theorem amM:BN [a0,a1]=NM rounds a0 a1:=amL rounds a0 a1
def NN:Option (List T):=
 bm (cS [a0,a1,a2,a3]) λa4=>
 bm (dE [a4,ii 0]) λa5=>
 az a5 (
 Yn a4 λa6=>
 Yg a6 (ii 1) λa7=>
 Yz a7 λa8=>
 some [a8]) (
 Yz (bb false) λa6=>
 some [a6])
theorem amN:ol.den (pick [(74,cS),(175,dE)]) R [] [a0,a1,a2,a3]=NN cS dE a0 a1 a2 a3:=(cR (by kernel_rfl)).trans (by kernel_rfl)
theorem amO:G4 [a0,a1,a2,a3]=NN yd BN a0 a1 a2 a3:=amN rounds yd BN a0 a1 a2 a3
def Rw:Option (List T):=
 (dv λa8 a9=>
 Yl a9 a7 λaG=>
 az aG (
 Y8 a2 a9 λa12 aK aL aP aQ aR aS aT=>
 bm (cg [a8,a12,aK,aL,aP,ii 1,aR,aS,aT]) λa20=>
 Ya a9 (ii 1) λa21=>
 k1 [a20,a21]) (
 some [a8])) ts
def AL:Option (List T):=
 (dv λa4 a5=>
 Yl a5 a3 λa6=>
 az a6 (
 Y8 a0 a5 λa8 a9 aG aJ a12 aK aL aP=>
 Yu a9 (ii 1) λaQ=>
 az aQ (
 jn (dJ λaR=>
 Ya a5 (ii 1) λaS=>
 k0 [aR,aS]) λk1=>
 pv (.lit 8 []) [a8,a9,aG,aJ,a12,aK,aL,aP] λaR=>
 Yy a4 aR λaS=>
 k1 [aS]) (
 Yu aG a1 λaR=>
 jn (dJ λaS=>
 Ya a5 (ii 1) λaT=>
 k0 [aS,aT]) λk1=>
 az aR (
 pv (.lit 8 []) [a8,a9,aG,aJ,a12,aK,aL,aP] λaS=>
 Yy a4 aS λaT=>
 k1 [aT]) (
 k1 [a4]))) (
 Yn a2 λa7=>
 iter (Rw cg a2 a7) R [a4,ii 0])) ts
def NO:Option (List T):=
 Yn a0 λa3=>
 iter (AL R cg a0 a1 a2 a3) R [.l [],ii 0]
theorem amP:ye.den (pick [(57,cg)]) R [] [a0,a1,a2]=NO R cg a0 a1 a2:=(cR (by kernel_rfl)).trans (by kernel_rfl)
theorem amQ:AA [a0,a1,a2]=NO rounds ux a0 a1 a2:=amP rounds ux a0 a1 a2
def Hv:Option (List T):=
 (dv λaG aJ=>
 Yl aJ a9 λa12=>
 az a12 (
 Y8 a0 aJ λaL aP aQ aR aS aT a20 a21=>
 bm (cZ [aL,aP,aQ,aR,aS,aT,a20,a21,a1,a2,a3,a4,a5,a6,a7,a8]) λbu=>
 az bu (
 Yz aJ λaY=>
 some [aY]) (
 Ya aJ (ii 1) λaY=>
 k0 [aG,aY])) (
 Yz (ii (-1)) λaK=>
 some [aK])) ts
def NP:Option (List T):=
 Yn a0 λa9=>
 iter (Hv cZ a0 a1 a2 a3 a4 a5 a6 a7 a8 a9) R [ii 0,ii 0]
theorem amR:p_.den (pick [(163,cZ)]) R [] [a0,a1,a2,a3,a4,a5,a6,a7,a8]=NP R cZ a0 a1 a2 a3 a4 a5 a6 a7 a8:=(cR (by kernel_rfl)).trans (by kernel_rfl)
theorem amS:u9 [a0,a1,a2,a3,a4,a5,a6,a7,a8]=NP rounds BM a0 a1 a2 a3 a4 a5 a6 a7 a8:=amR rounds BM a0 a1 a2 a3 a4 a5 a6 a7 a8
def Xa:Option (List T):=
 (dv λa9 aG=>
 Yl aG a8 λaJ=>
 az aJ (
 Y2 a7 aG λaK aL=>
 Ye aK a3 λaP=>
 az aP (
 Yz aL λaQ=>
 some [aQ]) (
 Ya aG (ii 1) λaQ=>
 k0 [a9,aQ])) (
 Yz (ii 0) λa12=>
 some [a12])) ts
def NQ:Option (List T):=
 bm (cn [a0,a1,ii 1,a2,ii 0,ii 0,.l [],ii 0,bb false]) λa4=>
 Yl a4 (ii 0) λa5=>
 az a5 (
 Yz (ii 0) λa6=>
 some [a6]) (
 Yb a0 a4 λa6=>
 Yc 8 5 a0 a4 λa7=>
 Yn a7 λa8=>
 iter (Xa a3 a7 a8) R [ii 0,ii 0])
theorem amT:r_.den (pick [(157,cn)]) R [] [a0,a1,a2,a3]=NQ R cn a0 a1 a2 a3:=(cR (by kernel_rfl)).trans (by kernel_rfl)
theorem amU:AB [a0,a1,a2,a3]=NQ rounds u9 a0 a1 a2 a3:=amT rounds u9 a0 a1 a2 a3
def NR:Option (List T):=
 bm (o9 [a0,a1,a3,a2]) λa4=>
 Ye a4 (ii 0) λa5=>
 az a5 (
 Yz (ii 0) λa6=>
 some [a6]) (
 bm (o9 [a0,a1,a2,a3]) λa6=>
 Yz a6 λa7=>
 some [a7])
theorem amV:om.den (pick [(244,o9)]) R [] [a0,a1,a2,a3]=NR o9 a0 a1 a2 a3:=(cR (by kernel_rfl)).trans (by kernel_rfl)
theorem amW:Rh [a0,a1,a2,a3]=NR AB a0 a1 a2 a3:=amV rounds AB a0 a1 a2 a3
def NS:Option (List T):=
 bm (ax [a2]) λa3=>
 Yz a1 λa4=>
 Yz a0 λa5=>
 some [a5,a4,a3]
theorem amX:mK.den (pick [(156,ax)]) R [] [a0,a1,a2]=NS ax a0 a1 a2:=(cR (by kernel_rfl)).trans (by kernel_rfl)
theorem amY:u_ [a0,a1,a2]=NS o8 a0 a1 a2:=amX rounds o8 a0 a1 a2
def zm:Option (List T):=
 (dJ λaS=>
 Yn aL λaT=>
 Yl aS aT λa20=>
 az a20 (
 Yq aL aS λbu=>
 Yl bu aR λaY=>
 az aY (
 Ya aS (ii 1) λa24=>
 k2 [a24]) (
 Yn aL λa24=>
 Yl aS a24 λbk=>
 az bk (
 Yq aL aS λbq=>
 Ye bq aR λa28=>
 az a28 (
 Ya aK (ii 1) λbA=>
 k1 [bA,aL]) (
 Yw aL aS λbA=>
 bm (ax [bA]) λbL=>
 Yx aR λa31=>
 Yp bL a31 λbO=>
 Yv aL aS λbX=>
 Yp bO bX λci=>
 Ya aK (ii 1) λcu=>
 k1 [cu,ci])) (
 Yw aL aS λbc=>
 bm (ax [bc]) λbq=>
 Yx aR λa28=>
 Yp bq a28 λbA=>
 Yv aL aS λbL=>
 Yp bA bL λa31=>
 Ya aK (ii 1) λbO=>
 k1 [bO,a31]))) (
 Yn aL λa21=>
 Yl aS a21 λbu=>
 az bu (
 Yq aL aS λa24=>
 Ye a24 aR λbk=>
 az bk (
 Ya aK (ii 1) λbc=>
 k1 [bc,aL]) (
 Yw aL aS λbc=>
 bm (ax [bc]) λbq=>
 Yx aR λa28=>
 Yp bq a28 λbA=>
 Yv aL aS λbL=>
 Yp bA bL λa31=>
 Ya aK (ii 1) λbO=>
 k1 [bO,a31])) (
 Yw aL aS λaY=>
 bm (ax [aY]) λa24=>
 Yx aR λbk=>
 Yp a24 bk λbc=>
 Yv aL aS λbq=>
 Yp bc bq λa28=>
 Ya aK (ii 1) λbA=>
 k1 [bA,a28]))) ts
def zn:Option (List T):=
 (dv λaK aL=>
 Yl aK a12 λaP=>
 az aP (
 Y1 a5 aK λaR=>
 iter (zm ax aK aL aR k1) R [ii 0]) (
 Yz a1 λaQ=>
 Yz a0 λaR=>
 some [aR,aQ,aL])) ts
def zo:Option (List T):=
 (dJ λaL=>
 Yn aG λaP=>
 Yl aL aP λaQ=>
 az aQ (
 Yq aG aL λaS=>
 Yl aS aK λaT=>
 az aT (
 Ya aL (ii 1) λa20=>
 k1 [a20]) (
 Yn aG λa20=>
 Yl aL a20 λa21=>
 az a21 (
 Yq aG aL λaY=>
 Ye aY aK λa24=>
 az a24 (
 Ya a9 (ii 1) λbk=>
 k0 [bk,aG]) (
 Yw aG aL λbk=>
 bm (ax [bk]) λbc=>
 Yx aK λbq=>
 Yp bc bq λa28=>
 Yv aG aL λbA=>
 Yp a28 bA λbL=>
 Ya a9 (ii 1) λa31=>
 k0 [a31,bL])) (
 Yw aG aL λbu=>
 bm (ax [bu]) λaY=>
 Yx aK λa24=>
 Yp aY a24 λbk=>
 Yv aG aL λbc=>
 Yp bk bc λbq=>
 Ya a9 (ii 1) λa28=>
 k0 [a28,bq]))) (
 Yn aG λaR=>
 Yl aL aR λaS=>
 az aS (
 Yq aG aL λa20=>
 Ye a20 aK λa21=>
 az a21 (
 Ya a9 (ii 1) λbu=>
 k0 [bu,aG]) (
 Yw aG aL λbu=>
 bm (ax [bu]) λaY=>
 Yx aK λa24=>
 Yp aY a24 λbk=>
 Yv aG aL λbc=>
 Yp bk bc λbq=>
 Ya a9 (ii 1) λa28=>
 k0 [a28,bq])) (
 Yw aG aL λaT=>
 bm (ax [aT]) λa20=>
 Yx aK λa21=>
 Yp a20 a21 λbu=>
 Yv aG aL λaY=>
 Yp bu aY λa24=>
 Ya a9 (ii 1) λbk=>
 k0 [bk,a24]))) ts
def zp:Option (List T):=
 (dv λa9 aG=>
 Yl a9 a8 λaJ=>
 az aJ (
 Y1 a2 a9 λaK=>
 iter (zo ax a9 aG aK k0) R [ii 0]) (
 Yn a5 λa12=>
 iter (zn R ax a0 a1 a5 a12) R [ii 0,aG])) ts
def NT:Option (List T):=
 Yg a4 a1 λa6=>
 az a6 (
 nf (be [a0,a1,a2]) λa7 a8 a9=>
 Yz a8 λaG=>
 Yz a7 λaJ=>
 some [aJ,aG,a9]) (
 Yg a1 a4 λa7=>
 az a7 (
 nf (be [a3,a4,a5]) λa8 a9 aG=>
 Yz a9 λaJ=>
 Yz a8 λa12=>
 some [a12,aJ,aG]) (
 Yn a2 λa8=>
 iter (zp R ax a0 a1 a2 a5 a8) R [ii 0,.l []]))
theorem amZ:kX.den (pick [(156,ax),(224,be)]) R [] [a0,a1,a2,a3,a4,a5]=NT R ax be a0 a1 a2 a3 a4 a5:=(cR (by kernel_rfl)).trans (by kernel_rfl)
theorem am0:sa [a0,a1,a2,a3,a4,a5]=NT rounds o8 u_ a0 a1 a2 a3 a4 a5:=amZ rounds o8 u_ a0 a1 a2 a3 a4 a5
def vj:Option (List T):=
 (dv λa20 a21=>
 Ym a20 (ii 6) λbu=>
 az bu (
 bm (ij [a0,a1,aL,a20]) λaY=>
 Ye aY (ii 0) λa24=>
 az a24 (
 Ya a20 (ii 1) λbk=>
 k2 [bk,a21]) (
 Ye a20 a2 λbk=>
 az bk (
 Ya a20 (ii 1) λbc=>
 k2 [bc,a21]) (
 Yb a21 aL λbc=>
 pv (.aU 3 1) [a21,aL] λbq=>
 Ya bq aY λa28=>
 Yb a21 aL λbA=>
 Yc 3 2 a21 aL λbL=>
 bm (ax [bL]) λa31=>
 Ye aL a2 λbO=>
 jn (dJ λbX=>
 Y3 a21 a20 λcu cm a37=>
 Ye cu (ii 0) λcQ=>
 az cQ (
 jn (dJ λda=>
 Ya a20 (ii 1) λa40=>
 k2 [a40,da]) λk3=>
 Yb a21 a20 λda=>
 pv (.fv [true,true,false] 3 0) [a21,a20,a20,a28,bX] λa40=>
 k3 [a40]) (
 Yl a28 cm λda=>
 jn (dJ λa40=>
 Ya a20 (ii 1) λdV=>
 k2 [dV,a40]) λk3=>
 az da (
 Yb a21 a20 λa40=>
 pv (.fv [true,true,false] 3 0) [a21,a20,a20,a28,bX] λdV=>
 k3 [dV]) (
 Ye a28 cm λa40=>
 jn (dJ λdV=>
 k3 [dV]) λk4=>
 az a40 (
 nf (bd [cu,cm,a37,a20,a28,bX]) λdV fa fH=>
 Yb a21 a20 λfO=>
 pv (.fv [true,true,false] 3 0) [a21,a20,dV,fa,fH] λfV=>
 k4 [fV]) (
 k4 [a21])))) λk3=>
 az bO (
 Yx a20 λbX=>
 k3 [bX]) (
 k3 [a31])))) (
 k0 [aT,a21])) ts
def vk:Option (List T):=
 (sU λaT a20 a21=>
 Yl a20 aS λbu=>
 az bu (
 Yb aK a20 λaY=>
 pv (.aU 3 0) [aK,a20] λa24=>
 pv (.aU 3 1) [aK,a20] λbk=>
 pv (.kh 3 2) [aK,a20] λbc=>
 pv (.yI) [a21,a20] λbq=>
 Yu a24 (ii 0) λa28=>
 jn (dJ λbA=>
 Ya a20 (ii 1) λbL=>
 k2 [bA,bL,bq]) λk3=>
 az a28 (
 pv (.lit 3 [true,true,false]) [a24,bk,bc] λbA=>
 Yo aT bA λbL=>
 k3 [bL]) (
 k3 [aT])) (
 some [aT])) ts
def vl:Option (List T):=
 (dv λaL aP=>
 Ym aP (ii 6) λaQ=>
 az aQ (
 Yb aK aP λaR=>
 pv (.aU 3 0) [aK,aP] λaS=>
 Yu aS (ii 0) λaT=>
 az aT (
 bm (dE [a12,aP]) λa20=>
 Yt a20 λa21=>
 az a21 (
 Ye aL (ii 0) λbu=>
 az bu (
 jn (dJ λaY=>
 Ya aP (ii 1) λa24=>
 k1 [aY,a24]) λk2=>
 k2 [aP]) (
 Yb aK aP λaY=>
 pv (.aU 3 1) [aK,aP] λa24=>
 Yb aK aL λbk=>
 pv (.aU 3 1) [aK,aL] λbc=>
 Yl a24 bc λbq=>
 jn (dJ λa28=>
 Ya aP (ii 1) λbA=>
 k1 [a28,bA]) λk2=>
 az bq (
 k2 [aP]) (
 k2 [aL]))) (
 jn (dJ λbu=>
 Ya aP (ii 1) λaY=>
 k1 [bu,aY]) λk2=>
 k2 [aL])) (
 jn (dJ λa20=>
 Ya aP (ii 1) λa21=>
 k1 [a20,a21]) λk2=>
 k2 [aL])) (
 Ye aL (ii 0) λaR=>
 az aR (
 Yn aK λaS=>
 iter (vk aK aS) R [.l [],ii 0,aK]) (
 Yx aL λaS=>
 Yp a12 aS λaT=>
 iter (vj ij bd ax a0 a1 a2 aL aT k0) R [ii 1,aK]))) ts
def vm:Option (List T):=
 (dv λa12 aK=>
 iter (vl R ij bd ax dE a0 a1 a2 a12 aK k0) R [ii 0,ii 1]) ts
def NU:Option (List T):=
 bm (gj [a0]) λa3=>
 Yt a3 λa4=>
 az a4 (
 some [.l []]) (
 bm (cb [a2,ii 1,ii 6]) λa5=>
 Yt a5 λa6=>
 az a6 (
 some [.l []]) (
 bm (cn [a0,a1,ii 1,a2,ii 0,ii 0,.l [],ii 0,bb false]) λa7=>
 Yl a7 (ii 0) λa8=>
 az a8 (
 some [.l []]) (
 pv (.mk) [ii 7,ii 7,ii 0,ii 0,.l []] λa9=>
 Yb a9 a2 λaG=>
 pv (.put true 3 0 1) [a9,a2,a2] λaJ=>
 iter (vm R ij bd ax dE a0 a1 a2) R [.l [],aJ])))
theorem am1:oq.den (pick [(69,cb),(71,gj),(156,ax),(157,cn),(175,dE),(227,bd),(239,ij)]) R [] [a0,a1,a2]=NU R ij gj bd ax dE cb cn a0 a1 a2:=(cR (by kernel_rfl)).trans (by kernel_rfl)
theorem am2:BO [a0,a1,a2]=NU rounds Rh GY sa o8 BN rB u9 a0 a1 a2:=am1 rounds Rh GY sa o8 BN rB u9 a0 a1 a2
def Hw:Option (List T):=
 (dv λa3 a4=>
 Yl a4 a2 λa5=>
 az a5 (
 Y3 a0 a4 λa7 a8 a9=>
 Ye a7 a1 λaG=>
 az aG (
 nf (be [a7,a8,a9]) λaJ a12 aK=>
 Yz (bb true) λaL=>
 Yz a12 λaP=>
 Yz aJ λaQ=>
 some [aQ,aP,aK,aL]) (
 Ya a4 (ii 1) λaJ=>
 k0 [a3,aJ])) (
 Yz (bb false) λa6=>
 Yz (ii 0) λa7=>
 Yz (ii 0) λa8=>
 some [a8,a7,.l [],a6])) ts
def NV:Option (List T):=
 Yn a0 λa2=>
 iter (Hw be a0 a1 a2) R [bb false,ii 0]
theorem am3:qa.den (pick [(224,be)]) R [] [a0,a1]=NV R be a0 a1:=(cR (by kernel_rfl)).trans (by kernel_rfl)
theorem am4:AC [a0,a1]=NV rounds u_ a0 a1:=am3 rounds u_ a0 a1
def DJ:Option (List T):=
 (dJ λaT=>
 Yn aJ λa20=>
 Yl aT a20 λa21=>
 az a21 (
 Yb aJ aT λbu=>
 pv (.aU 3 0) [aJ,aT] λaY=>
 Yl aY aQ λa24=>
 az a24 (
 Ya aT (ii 1) λbk=>
 k2 [bk]) (
 Yn aJ λbk=>
 Yl aT bk λbc=>
 az bc (
 Yb aJ aT λbq=>
 pv (.aU 3 0) [aJ,aT] λa28=>
 Ye a28 aQ λbA=>
 az bA (
 Y3 aJ aT λa31 bO bX=>
 nf (bd [a31,bO,bX,aQ,aR,aS]) λci cu cm=>
 Yb aJ aT λa37=>
 pv (.fv [true,true,false] 3 0) [aJ,aT,ci,cu,cm] λcQ=>
 Ya a12 (ii 1) λda=>
 k1 [cQ,da,aK]) (
 pv (.sub 3 false true) [aJ,aT] λbL=>
 pv (.gy) [aJ,ii 0,bL] λa31=>
 Yo (.l []) bL λbO=>
 nf (be [aQ,aR,aS]) λbX ci cu=>
 pv (.lit 3 [true,true,false]) [bX,ci,cu] λcm=>
 Yo bO cm λa37=>
 pv (.sub 3 true false) [aJ,aT] λcQ=>
 pv (.gy) [a31,aT,cQ] λda=>
 Yo a37 cQ λa40=>
 Ya a12 (ii 1) λdV=>
 k1 [a40,dV,aK])) (
 pv (.sub 3 false true) [aJ,aT] λbq=>
 pv (.gy) [aJ,ii 0,bq] λa28=>
 Yo (.l []) bq λbA=>
 nf (be [aQ,aR,aS]) λbL a31 bO=>
 pv (.lit 3 [true,true,false]) [bL,a31,bO] λbX=>
 Yo bA bX λci=>
 pv (.sub 3 true false) [aJ,aT] λcu=>
 pv (.gy) [a28,aT,cu] λcm=>
 Yo ci cu λa37=>
 Ya a12 (ii 1) λcQ=>
 k1 [a37,cQ,aK]))) (
 Yn aJ λbu=>
 Yl aT bu λaY=>
 az aY (
 Yb aJ aT λa24=>
 pv (.aU 3 0) [aJ,aT] λbk=>
 Ye bk aQ λbc=>
 az bc (
 Y3 aJ aT λa28 bA bL=>
 nf (bd [a28,bA,bL,aQ,aR,aS]) λa31 bO bX=>
 Yb aJ aT λci=>
 pv (.fv [true,true,false] 3 0) [aJ,aT,a31,bO,bX] λcu=>
 Ya a12 (ii 1) λcm=>
 k1 [cu,cm,aK]) (
 pv (.sub 3 false true) [aJ,aT] λbq=>
 pv (.gy) [aJ,ii 0,bq] λa28=>
 Yo (.l []) bq λbA=>
 nf (be [aQ,aR,aS]) λbL a31 bO=>
 pv (.lit 3 [true,true,false]) [bL,a31,bO] λbX=>
 Yo bA bX λci=>
 pv (.sub 3 true false) [aJ,aT] λcu=>
 pv (.gy) [a28,aT,cu] λcm=>
 Yo ci cu λa37=>
 Ya a12 (ii 1) λcQ=>
 k1 [a37,cQ,aK])) (
 pv (.sub 3 false true) [aJ,aT] λa24=>
 pv (.gy) [aJ,ii 0,a24] λbk=>
 Yo (.l []) a24 λbc=>
 nf (be [aQ,aR,aS]) λbq a28 bA=>
 pv (.lit 3 [true,true,false]) [bq,a28,bA] λbL=>
 Yo bc bL λa31=>
 pv (.sub 3 true false) [aJ,aT] λbO=>
 pv (.gy) [bk,aT,bO] λbX=>
 Yo a31 bO λci=>
 Ya a12 (ii 1) λcu=>
 k1 [ci,cu,aK]))) ts
def EQ:Option (List T):=
 (sU λaJ a12 aK=>
 Yl a12 aG λaL=>
 az aL (
 Y3 aK a12 λaQ aR aS=>
 iter (DJ bd be aJ a12 aK aQ aR aS k1) R [ii 0]) (
 Ya a5 (ii 1) λaP=>
 k0 [aJ,aP])) ts
def ER:Option (List T):=
 (dv λa4 a5=>
 Yl a5 a3 λa6=>
 az a6 (
 Y1 a1 a5 λa8=>
 bm (dj [a0,a8,a2]) λa9=>
 Yn a9 λaG=>
 iter (EQ R bd be a5 aG k0) R [a4,ii 0,a9]) (
 some [a4])) ts
def kS_:Option (List T):=
 Yn a1 λa3=>
 iter (ER R bd dj be a0 a1 a2 a3) R [.l [],ii 0]
theorem am6:ie.den (pick [(176,dj),(224,be),(227,bd)]) R [] [a0,a1,a2]=kS_ R bd dj be a0 a1 a2:=(cR (by kernel_rfl)).trans (by kernel_rfl)
theorem am7:BP [a0,a1,a2]=kS_ rounds sa BO u_ a0 a1 a2:=am6 rounds sa BO u_ a0 a1 a2
def qp:Option (List T):=
 (dJ λcm=>
 Yn a6 λa37=>
 Yl cm a37 λcQ=>
 az cQ (
 Yb a6 cm λda=>
 pv (.aU 3 0) [a6,cm] λa40=>
 Yl a40 aK λdV=>
 az dV (
 Ya cm (ii 1) λfa=>
 k1 [fa]) (
 Yn a6 λfa=>
 Yl cm fa λfH=>
 az fH (
 Yb a6 cm λfO=>
 pv (.aU 3 0) [a6,cm] λfV=>
 Ye fV aK λa46=>
 az a46 (
 Y3 a6 cm λfX a49 iL=>
 nf (bd [fX,a49,iL,aK,cu,bL]) λa51 iZ a53=>
 Yb a6 cm λlP=>
 pv (.fv [true,true,false] 3 0) [a6,cm,a51,iZ,a53] λj5=>
 Ya a7 (ii 1) λpw=>
 k0 [j5,pw]) (
 pv (.sub 3 false true) [a6,cm] λgd=>
 pv (.gy) [a6,ii 0,gd] λfX=>
 Yo (.l []) gd λa49=>
 nf (be [aK,cu,bL]) λiL a51 iZ=>
 pv (.lit 3 [true,true,false]) [iL,a51,iZ] λa53=>
 Yo a49 a53 λlP=>
 pv (.sub 3 true false) [a6,cm] λj5=>
 pv (.gy) [fX,cm,j5] λpw=>
 Yo lP j5 λqk=>
 Ya a7 (ii 1) λvd=>
 k0 [qk,vd])) (
 pv (.sub 3 false true) [a6,cm] λfO=>
 pv (.gy) [a6,ii 0,fO] λfV=>
 Yo (.l []) fO λa46=>
 nf (be [aK,cu,bL]) λgd fX a49=>
 pv (.lit 3 [true,true,false]) [gd,fX,a49] λiL=>
 Yo a46 iL λa51=>
 pv (.sub 3 true false) [a6,cm] λiZ=>
 pv (.gy) [fV,cm,iZ] λa53=>
 Yo a51 iZ λlP=>
 Ya a7 (ii 1) λj5=>
 k0 [lP,j5]))) (
 Yn a6 λda=>
 Yl cm da λa40=>
 az a40 (
 Yb a6 cm λdV=>
 pv (.aU 3 0) [a6,cm] λfa=>
 Ye fa aK λfH=>
 az fH (
 Y3 a6 cm λfV a46 gd=>
 nf (bd [fV,a46,gd,aK,cu,bL]) λfX a49 iL=>
 Yb a6 cm λa51=>
 pv (.fv [true,true,false] 3 0) [a6,cm,fX,a49,iL] λiZ=>
 Ya a7 (ii 1) λa53=>
 k0 [iZ,a53]) (
 pv (.sub 3 false true) [a6,cm] λfO=>
 pv (.gy) [a6,ii 0,fO] λfV=>
 Yo (.l []) fO λa46=>
 nf (be [aK,cu,bL]) λgd fX a49=>
 pv (.lit 3 [true,true,false]) [gd,fX,a49] λiL=>
 Yo a46 iL λa51=>
 pv (.sub 3 true false) [a6,cm] λiZ=>
 pv (.gy) [fV,cm,iZ] λa53=>
 Yo a51 iZ λlP=>
 Ya a7 (ii 1) λj5=>
 k0 [lP,j5])) (
 pv (.sub 3 false true) [a6,cm] λdV=>
 pv (.gy) [a6,ii 0,dV] λfa=>
 Yo (.l []) dV λfH=>
 nf (be [aK,cu,bL]) λfO fV a46=>
 pv (.lit 3 [true,true,false]) [fO,fV,a46] λgd=>
 Yo fH gd λfX=>
 pv (.sub 3 true false) [a6,cm] λa49=>
 pv (.gy) [fa,cm,a49] λiL=>
 Yo fX a49 λa51=>
 Ya a7 (ii 1) λiZ=>
 k0 [a51,iZ]))) ts
def qs:Option (List T):=
 (dJ λa37=>
 Yn a6 λcQ=>
 Yl a37 cQ λda=>
 az da (
 Yb a6 a37 λa40=>
 pv (.aU 3 0) [a6,a37] λdV=>
 Yl dV aK λfa=>
 az fa (
 Ya a37 (ii 1) λfH=>
 k1 [fH]) (
 Yn a6 λfH=>
 Yl a37 fH λfO=>
 az fO (
 Yb a6 a37 λfV=>
 pv (.aU 3 0) [a6,a37] λa46=>
 Ye a46 aK λgd=>
 az gd (
 Y3 a6 a37 λa49 iL a51=>
 nf (bd [a49,iL,a51,aK,cm,a31]) λiZ a53 lP=>
 Yb a6 a37 λj5=>
 pv (.fv [true,true,false] 3 0) [a6,a37,iZ,a53,lP] λpw=>
 Ya a7 (ii 1) λqk=>
 k0 [pw,qk]) (
 pv (.sub 3 false true) [a6,a37] λfX=>
 pv (.gy) [a6,ii 0,fX] λa49=>
 Yo (.l []) fX λiL=>
 nf (be [aK,cm,a31]) λa51 iZ a53=>
 pv (.lit 3 [true,true,false]) [a51,iZ,a53] λlP=>
 Yo iL lP λj5=>
 pv (.sub 3 true false) [a6,a37] λpw=>
 pv (.gy) [a49,a37,pw] λqk=>
 Yo j5 pw λvd=>
 Ya a7 (ii 1) λa59=>
 k0 [vd,a59])) (
 pv (.sub 3 false true) [a6,a37] λfV=>
 pv (.gy) [a6,ii 0,fV] λa46=>
 Yo (.l []) fV λgd=>
 nf (be [aK,cm,a31]) λfX a49 iL=>
 pv (.lit 3 [true,true,false]) [fX,a49,iL] λa51=>
 Yo gd a51 λiZ=>
 pv (.sub 3 true false) [a6,a37] λa53=>
 pv (.gy) [a46,a37,a53] λlP=>
 Yo iZ a53 λj5=>
 Ya a7 (ii 1) λpw=>
 k0 [j5,pw]))) (
 Yn a6 λa40=>
 Yl a37 a40 λdV=>
 az dV (
 Yb a6 a37 λfa=>
 pv (.aU 3 0) [a6,a37] λfH=>
 Ye fH aK λfO=>
 az fO (
 Y3 a6 a37 λa46 gd fX=>
 nf (bd [a46,gd,fX,aK,cm,a31]) λa49 iL a51=>
 Yb a6 a37 λiZ=>
 pv (.fv [true,true,false] 3 0) [a6,a37,a49,iL,a51] λa53=>
 Ya a7 (ii 1) λlP=>
 k0 [a53,lP]) (
 pv (.sub 3 false true) [a6,a37] λfV=>
 pv (.gy) [a6,ii 0,fV] λa46=>
 Yo (.l []) fV λgd=>
 nf (be [aK,cm,a31]) λfX a49 iL=>
 pv (.lit 3 [true,true,false]) [fX,a49,iL] λa51=>
 Yo gd a51 λiZ=>
 pv (.sub 3 true false) [a6,a37] λa53=>
 pv (.gy) [a46,a37,a53] λlP=>
 Yo iZ a53 λj5=>
 Ya a7 (ii 1) λpw=>
 k0 [j5,pw])) (
 pv (.sub 3 false true) [a6,a37] λfa=>
 pv (.gy) [a6,ii 0,fa] λfH=>
 Yo (.l []) fa λfO=>
 nf (be [aK,cm,a31]) λfV a46 gd=>
 pv (.lit 3 [true,true,false]) [fV,a46,gd] λfX=>
 Yo fO fX λa49=>
 pv (.sub 3 true false) [a6,a37] λiL=>
 pv (.gy) [fH,a37,iL] λa51=>
 Yo a49 iL λiZ=>
 Ya a7 (ii 1) λa53=>
 k0 [iZ,a53]))) ts
def qN:Option (List T):=
 (dv λa6 a7=>
 Yl a7 a5 λa8=>
 az a8 (
 Y8 a0 a7 λaG aJ a12 aK aL aP aQ aR=>
 Yu aJ (ii 2) λaS=>
 az aS (
 Ya a7 (ii 1) λaT=>
 k0 [a6,aT]) (
 Yh aQ (ii 60000) λaT=>
 az aT (
 Ya a7 (ii 1) λa20=>
 k0 [a6,a20]) (
 Ye a12 a3 λa20=>
 az a20 (
 Ya a7 (ii 1) λa21=>
 k0 [a6,a21]) (
 bm (dE [a1,aG]) λa21=>
 Yt a21 λbu=>
 az bu (
 Ya a7 (ii 1) λaY=>
 k0 [a6,aY]) (
 az a2 (
 Yu aG (ii 0) λaY=>
 az aY (
 Ya a7 (ii 1) λa24=>
 k0 [a6,a24]) (
 eC (cK [a4,aK]) λa24 bk bc bq=>
 bm (dj [a0,aG,a3]) λa28=>
 eC (cK [a28,a12]) λbA bL a31 bO=>
 az bq (
 Ya a7 (ii 1) λbX=>
 k0 [a6,bX]) (
 Yt bO λbX=>
 az bX (
 Ya a7 (ii 1) λci=>
 k0 [a6,ci]) (
 Ya aQ bL λci=>
 Yh ci (ii 60000) λcu=>
 az cu (
 Ya a7 (ii 1) λcm=>
 k0 [a6,cm]) (
 Ya aQ bL λcm=>
 iter (qs bd be a6 a7 aK a31 cm k0) R [ii 0]))))) (
 eC (cK [a4,aK]) λaY a24 bk bc=>
 bm (dj [a0,aG,a3]) λbq=>
 eC (cK [bq,a12]) λa28 bA bL a31=>
 az bc (
 Ya a7 (ii 1) λbO=>
 k0 [a6,bO]) (
 Yt a31 λbO=>
 az bO (
 Ya a7 (ii 1) λbX=>
 k0 [a6,bX]) (
 Ya aQ bA λbX=>
 Yh bX (ii 60000) λci=>
 az ci (
 Ya a7 (ii 1) λcu=>
 k0 [a6,cu]) (
 Ya aQ bA λcu=>
 iter (qp bd be a6 a7 aK bL cu k0) R [ii 0]))))))))) (
 some [a6])) ts
def kN_:Option (List T):=
 bm (cA [a0,a1,a3]) λa4=>
 Yn a0 λa5=>
 iter (qN R bd cK dj be dE a0 a1 a2 a3 a4 a5) R [.l [],ii 0]
theorem am9:ig.den (pick [(175,dE),(176,dj),(178,cK),(179,cA),(224,be),(227,bd)]) R [] [a0,a1,a2,a3]=kN_ R cA bd cK dj be dE a0 a1 a2 a3:=(cR (by kernel_rfl)).trans (by kernel_rfl)
theorem am_:G5 [a0,a1,a2,a3]=kN_ rounds BP sa AC BO u_ BN a0 a1 a2 a3:=am9 rounds BP sa AC BO u_ BN a0 a1 a2 a3
def w9:Option (List T):=
 (sU λaS aT a20=>
 Yl aS aR λa21=>
 az a21 (
 Y3 a20 aS λaY a24 bk=>
 eC (cK [a8,aY]) λbc bq a28 bA=>
 Yt bA λbL=>
 az bL (
 Yu aY a2 λa31=>
 az a31 (
 bm (cn [aT,a3,ii 2,a2,aY,ii 0,.l [],a24,bb false]) λbO=>
 Yl bO (ii 0) λbX=>
 jn (dJ λci=>
 Ya aS (ii 1) λcu=>
 k3 [cu,ci,a20]) λk4=>
 az bX (
 bm (cg [aT,a3,ii 2,a2,aY,ii 0,.l [],a24,bb false]) λci=>
 k4 [ci]) (
 k4 [aT])) (
 jn (dJ λbO=>
 Ya aS (ii 1) λbX=>
 k3 [bX,bO,a20]) λk4=>
 k4 [aT])) (
 jn (dJ λa31=>
 Ya aS (ii 1) λbO=>
 k3 [bO,a31,a20]) λk4=>
 k4 [aT])) (
 k2 [aT])) ts
def w_:Option (List T):=
 (sU λaJ a12 aK=>
 Yl aJ aG λaL=>
 az aL (
 Y3 aK aJ λaQ aR aS=>
 eC (cK [a8,aQ]) λaT a20 a21 bu=>
 Yt bu λaY=>
 az aY (
 Yu aQ a2 λa24=>
 az a24 (
 bm (cn [a12,a3,ii 2,a2,aQ,ii 0,.l [],aR,bb false]) λbk=>
 Yl bk (ii 0) λbc=>
 jn (dJ λbq=>
 Ya aJ (ii 1) λa28=>
 k1 [a28,bq,aK]) λk2=>
 az bc (
 bm (cg [a12,a3,ii 2,a2,aQ,ii 0,.l [],aR,bb false]) λbq=>
 k2 [bq]) (
 k2 [a12])) (
 jn (dJ λbk=>
 Ya aJ (ii 1) λbc=>
 k1 [bc,bk,aK]) λk2=>
 k2 [a12])) (
 jn (dJ λa24=>
 Ya aJ (ii 1) λbk=>
 k1 [bk,a24,aK]) λk2=>
 k2 [a12])) (
 Yu a3 (ii 0) λaP=>
 jn (dJ λaQ=>
 some [aQ]) λk2=>
 az aP (
 bm (cT [a0,a1,bb true,a2]) λaQ=>
 Yn aQ λaR=>
 iter (w9 cK cn cg a2 a3 a8 aR k2) R [ii 0,a12,aQ]) (
 k2 [a12]))) ts
def xa:Option (List T):=
 (dv λa5 a6=>
 Yl a6 a4 λa7=>
 az a7 (
 Y1 a1 a6 λa9=>
 Yu a9 a3 λaG=>
 jn (dJ λaJ=>
 Ya a6 (ii 1) λa12=>
 k0 [aJ,a12]) λk1=>
 az aG (
 Yx a9 λaJ=>
 Yp a5 aJ λa12=>
 k1 [a12]) (
 k1 [a5])) (
 bm (dj [a0,a3,a2]) λa8=>
 bm (cA [a0,a5,a2]) λa9=>
 Yn a9 λaG=>
 iter (w_ R cT cK cn cg a0 a1 a2 a3 a8 aG) R [ii 0,.l [],a9])) ts
def NW:Option (List T):=
 Yn a1 λa4=>
 iter (xa R cT cA cK dj cn cg a0 a1 a2 a3 a4) R [.l [],ii 0]
theorem am':ot.den (pick [(57,cg),(157,cn),(176,dj),(178,cK),(179,cA),(180,cT)]) R [] [a0,a1,a2,a3]=NW R cT cA cK dj cn cg a0 a1 a2 a3:=(cR (by kernel_rfl)).trans (by kernel_rfl)
theorem ana:Ri [a0,a1,a2,a3]=NW rounds G5 BP AC BO u9 ux a0 a1 a2 a3:=am' rounds G5 BP AC BO u9 ux a0 a1 a2 a3
def BZ:Option (List T):=
 (sU λbc bq a28=>
 Yl bq bk λbA=>
 az bA (
 Y8 a28 bq λa31 bO bX ci cu cm a37 cQ=>
 bm (cg [bc,a31,bO,bX,ci,cu,cm,a37,cQ]) λda=>
 Ya bq (ii 1) λa40=>
 k3 [da,a40,a28]) (
 Ya a20 (ii 1) λbL=>
 k2 [bc,bL])) ts
def B0:Option (List T):=
 (dv λaT a20=>
 Yl a20 aS λa21=>
 az a21 (
 Yq aP a20 λaY=>
 bm (jB [aR,aP,a0,aY]) λa24=>
 Yn a24 λbk=>
 iter (BZ cg a20 bk k2) R [aT,ii 0,a24]) (
 k1 [aT,aK,aK,aK])) ts
def AM:Option (List T):=
 (dv λbu aY=>
 Yl aY a21 λa24=>
 az a24 (
 Y4 a4 aY λbc bq a28 bA=>
 Ye bc a0 λbL=>
 jn (dJ λa31=>
 Ya aY (ii 1) λbO=>
 k1 [a31,bO]) λk2=>
 az bL (
 bm (cg [bu,ii 9,ii 3,a0,bq,ii 0,.l [],a28,bA]) λa31=>
 k2 [a31]) (
 k2 [bu])) (
 some [bu])) ts
def B1:Option (List T):=
 (sU λaJ a12 aK=>
 Yl a12 aG λaL=>
 az aL (
 Y8 aK a12 λaQ aR aS aT a20 a21 bu aY=>
 bm (cg [aJ,aQ,aR,aS,aT,a20,a21,bu,aY]) λa24=>
 Ya a12 (ii 1) λbk=>
 k0 [a24,bk,aK]) (
 bm (cS [a2,a3,a4,a0]) λaP=>
 bm (f_ [a2,a3,a4,a0]) λaQ=>
 jn (xU λaR aS aT a20=>
 Yn a4 λa21=>
 iter (AM cg a0 a4 a21) R [aR,ii 0]) λk1=>
 az aQ (
 bm (uy [a6,a0,aK]) λaR=>
 Yn aP λaS=>
 iter (B0 R jB cg a0 aK aP aR aS k1) R [aJ,ii 0]) (
 k1 [aJ,aK,aK,aK]))) ts
def NX:Option (List T):=
 bm (dD [a0,a1,a2,a3,a4,a5,a6]) λa7=>
 Yt a7 λa8=>
 az a8 (
 some [.l []]) (
 bm (uz [a0,a1,a2,a3,a4,a5,a6]) λa9=>
 Yn a9 λaG=>
 iter (B1 R cS jB f_ uy cg a0 a2 a3 a4 a6 aG) R [.l [],ii 0,a9])
theorem anb:ou.den (pick [(13,dD),(57,cg),(73,uz),(74,cS),(75,f_),(76,uy),(77,jB)]) R [] [a0,a1,a2,a3,a4,a5,a6]=NX R cS jB f_ dD uy uz cg a0 a1 a2 a3 a4 a5 a6:=(cR (by kernel_rfl)).trans (by kernel_rfl)
theorem anc:LU [a0,a1,a2,a3,a4,a5,a6]=NX rounds yd Ri G4 yc AA Az ux a0 a1 a2 a3 a4 a5 a6:=anb rounds yd Ri G4 yc AA Az ux a0 a1 a2 a3 a4 a5 a6
def Rx:Option (List T):=
 (dv λa24 bk=>
 Yl bk aY λbc=>
 az bc (
 Y2 a5 bk λa28 bA=>
 Y2 aK bk λa31 bO=>
 pv (.eqs [1,1]) [a28,bA,a31,bO] λbX=>
 Yt bX λci=>
 az ci (
 Yz (bb false) λcu=>
 some [cu]) (
 Ya bk (ii 1) λcu=>
 k0 [a24,cu])) (
 Yz (bb true) λbq=>
 some [bq])) ts
def NY:Option (List T):=
 bm (cZ [a0,a1,a2,a3,a4,a5,a6,a7,a8,a9,aG,aJ,a12,aK,aL,aP]) λaQ=>
 Yt aQ λaR=>
 az aR (
 Yz (bb false) λaS=>
 some [aS]) (
 Yu a6 aL λaS=>
 az aS (
 Yz (bb false) λaT=>
 some [aT]) (
 pv (.bb .neq) [a7,aP] λaT=>
 az aT (
 Yz (bb false) λa20=>
 some [a20]) (
 Yn a5 λa20=>
 Yn aK λa21=>
 Yu a20 a21 λbu=>
 az bu (
 Yz (bb false) λaY=>
 some [aY]) (
 Yn a5 λaY=>
 iter (Rx a5 aK aY) R [bb false,ii 0]))))
theorem ane:kY.den (pick [(163,cZ)]) R [] [a0,a1,a2,a3,a4,a5,a6,a7,a8,a9,aG,aJ,a12,aK,aL,aP]=NY R cZ a0 a1 a2 a3 a4 a5 a6 a7 a8 a9 aG aJ a12 aK aL aP:=(cR (by kernel_rfl)).trans (by kernel_rfl)
theorem anf:Rk [a0,a1,a2,a3,a4,a5,a6,a7,a8,a9,aG,aJ,a12,aK,aL,aP]=NY rounds BM a0 a1 a2 a3 a4 a5 a6 a7 a8 a9 aG aJ a12 aK aL aP:=ane rounds BM a0 a1 a2 a3 a4 a5 a6 a7 a8 a9 aG aJ a12 aK aL aP
def Hx:Option (List T):=
 bm (cn [a6,a7,a8,a9,aG,aJ,a12,aK,aL]) λaP=>
 Yh aP (ii 0) λaQ=>
 jn (dJ λaR=>
 Ya aR (ii 1) λaS=>
 pv (.bin .mul) [ii 1000,a1] λaT=>
 Ya aT (ii 1) λa20=>
 pv (.mx) [aS,a20] λa21=>
 Yz a21 λbu=>
 some [bu]) λk0=>
 az aQ (
 Yb a6 aP λaR=>
 Yc 8 4 a6 aP λaS=>
 k0 [aS]) (
 k0 [ii 0])
theorem ang:qb.den (pick [(157,cn)]) R [] [a0,a1,a2,a3,a4,a5,a6,a7,a8,a9,aG,aJ,a12,aK,aL]=Hx cn a1 a6 a7 a8 a9 aG aJ a12 aK aL:=(cR (by kernel_rfl)).trans (by kernel_rfl)
theorem anh:Rl [a0,a1,a2,a3,a4,a5,a6,a7,a8,a9,aG,aJ,a12,aK,aL]=Hx u9 a1 a6 a7 a8 a9 aG aJ a12 aK aL:=ang rounds u9 a0 a1 a2 a3 a4 a5 a6 a7 a8 a9 aG aJ a12 aK aL
def Hy:Option (List T):=
 Yu a1 (ii 1) λa8=>
 jn (dJ λa9=>
 Yz a7 λaG=>
 Yz a9 λaJ=>
 Yz a4 λa12=>
 Yz a3 λaK=>
 Yz a2 λaL=>
 Yz a1 λaP=>
 Yz a0 λaQ=>
 some [aQ,aP,aL,aK,a12,.l [],aJ,aG]) λk0=>
 az a8 (
 k0 [ii 60000]) (
 k0 [a6])
theorem ani:sb.den (pick []) R [] [a0,a1,a2,a3,a4,a5,a6,a7]=Hy a0 a1 a2 a3 a4 a6 a7:=(cR (by kernel_rfl)).trans (by kernel_rfl)
theorem anj:AD [a0,a1,a2,a3,a4,a5,a6,a7]=Hy a0 a1 a2 a3 a4 a6 a7:=ani rounds a0 a1 a2 a3 a4 a5 a6 a7
def DK:Option (List T):=
 (dv λaL aP=>
 Yl aP aK λaQ=>
 az aQ (
 Y8 a6 aP λaS aT a20 a21 bu aY a24 bk=>
 Yu a20 a0 λbc=>
 az bc (
 Ya aP (ii 1) λbq=>
 k1 [aL,bq]) (
 bm (cn [aJ,aS,aT,a20,a21,bu,aY,a24,bk]) λbq=>
 Yh bq (ii 0) λa28=>
 az a28 (
 Ya aP (ii 1) λbA=>
 k1 [aL,bA]) (
 q7 (mN [aS,aT,a20,a21,bu,aY,a24,bk]) λbA bL a31 bO bX ci cu cm=>
 bm (fC [bA,bL,a31,bO,bX,ci,cu,cm,aS,aT,a20,a21,bu,aY,a24,bk]) λa37=>
 Yt a37 λcQ=>
 jn (dv λda a40=>
 Ya aP (ii 1) λdV=>
 k1 [da,dV]) λk2=>
 az cQ (
 bm (iq [a0,a1,a2,a3,a4,a5,a6,aS,aT,a20,a21,bu,aY,a24,bk]) λda=>
 bm (cg [aL,bA,bL,a31,bO,da,ci,cu,cm]) λa40=>
 k2 [a40,da]) (
 k2 [aL,bX])))) (
 some [aL])) ts
def DL:Option (List T):=
 (sU λa9 aG aJ=>
 Yl aG a8 λa12=>
 az a12 (
 Y8 aJ aG λaL aP aQ aR aS aT a20 a21=>
 bm (cn [a6,aL,aP,aQ,aR,aS,aT,a20,a21]) λbu=>
 Yl bu (ii 0) λaY=>
 az aY (
 jn (dv λa24 bk=>
 Ya aG (ii 1) λbc=>
 k0 [a24,bc,aJ]) λk1=>
 bm (iq [a0,a1,a2,a3,a4,a5,a6,aL,aP,aQ,aR,aS,aT,a20,a21]) λa24=>
 bm (cg [a9,aL,aP,aQ,aR,a24,aT,a20,a21]) λbk=>
 k1 [bk,a24]) (
 Y8 a6 bu λbk bc bq a28 bA bL a31 bO=>
 bm (fC [bk,bc,bq,a28,bA,bL,a31,bO,aL,aP,aQ,aR,aS,aT,a20,a21]) λbX=>
 Yt bX λci=>
 jn (dv λcu cm=>
 Ya aG (ii 1) λa37=>
 k0 [cu,a37,aJ]) λk1=>
 az ci (
 bm (iq [a0,a1,a2,a3,a4,a5,a6,aL,aP,aQ,aR,aS,aT,a20,a21]) λcu=>
 bm (cg [a9,aL,aP,aQ,aR,cu,aT,a20,a21]) λcm=>
 k1 [cm,cu]) (
 k1 [a9,aS]))) (
 Yn a6 λaK=>
 iter (DK fC mN cn cg iq a0 a1 a2 a3 a4 a5 a6 aJ aK) R [a9,ii 0])) ts
def NZ:Option (List T):=
 bm (oA [a0,a1,a2,a3,a4,a5,a6]) λa7=>
 Yn a7 λa8=>
 iter (DL R fC mN cn cg iq a0 a1 a2 a3 a4 a5 a6 a8) R [.l [],ii 0,a7]
theorem ank:qc.den (pick [(18,oA),(57,cg),(157,cn),(158,fC),(159,iq),(160,mN)]) R [] [a0,a1,a2,a3,a4,a5,a6]=NZ R fC oA mN cn cg iq a0 a1 a2 a3 a4 a5 a6:=(cR (by kernel_rfl)).trans (by kernel_rfl)
theorem anl:AE [a0,a1,a2,a3,a4,a5,a6]=NZ rounds Rk LU AD u9 ux Rl a0 a1 a2 a3 a4 a5 a6:=ank rounds Rk LU AD u9 ux Rl a0 a1 a2 a3 a4 a5 a6
def N0:Option (List T):=
 (sU λaT a20 a21=>
 Yl a21 aS λbu=>
 az bu (
 Yb aQ a21 λaY=>
 pv (.aU 8 0) [aQ,a21] λa24=>
 pv (.aU 8 1) [aQ,a21] λbk=>
 pv (.aU 8 2) [aQ,a21] λbc=>
 pv (.aU 8 3) [aQ,a21] λbq=>
 pv (.aU 8 4) [aQ,a21] λa28=>
 pv (.kh 8 5) [aQ,a21] λbA=>
 pv (.aU 8 6) [aQ,a21] λbL=>
 pv (.aU 8 7) [aQ,a21] λa31=>
 Yg a28 (ii 100000) λbO=>
 az bO (
 Yz a9 λbX=>
 Yz a8 λci=>
 Yz a7 λcu=>
 some [cu,ci,bX,aG,aJ,a12,aK,.l []]) (
 pv (.kh 8 5) [aQ,a21] λbX=>
 bm (cg [a20,a24,bk,bc,bq,a28,bX,bL,a31]) λci=>
 Ya a21 (ii 1) λcu=>
 k0 [aT,ci,cu])) (
 Yn a20 λaY=>
 Yg aY (ii 150) λa24=>
 az a24 (
 Yz a9 λbk=>
 Yz a8 λbc=>
 Yz a7 λbq=>
 some [bq,bc,bk,aG,aJ,a12,aK,.l []]) (
 Yz a9 λbk=>
 Yz a8 λbc=>
 Yz a7 λbq=>
 some [bq,bc,bk,aG,aJ,a12,a20,aQ]))) ts
def Hz:Option (List T):=
 EM (fD [a0,a1,a2,a3,a4,a5,a6]) λa7 a8 a9 aG aJ a12 aK=>
 bm (dD [a0,a1,a2,a3,a4,a5,a6]) λaL=>
 Yt aL λaP=>
 az aP (
 Yz a9 λaQ=>
 Yz a8 λaR=>
 Yz a7 λaS=>
 some [aS,aR,aQ,aG,aJ,a12,aK,.l []]) (
 bm (qj [a0,a1,a2,a3,a4,a5,a6]) λaQ=>
 bm (bK [a6]) λaR=>
 Yn aQ λaS=>
 iter (N0 cg a7 a8 a9 aG aJ a12 aK aQ aS) R [.l [],aR,ii 0])
theorem anm:qd.den (pick [(13,dD),(54,fD),(55,qj),(56,bK),(57,cg)]) R [] [a0,a1,a2,a3,a4,a5,a6]=Hz R dD bK fD qj cg a0 a1 a2 a3 a4 a5 a6:=(cR (by kernel_rfl)).trans (by kernel_rfl)
theorem Xb:G6 [a0,a1,a2,a3,a4,a5,a6]=Hz rounds yc BK GW AE ux a0 a1 a2 a3 a4 a5 a6:=anm rounds yc BK GW AE ux a0 a1 a2 a3 a4 a5 a6
def N1:Option (List T):=
 Yz aG λaP=>
 Yz a9 λaQ=>
 Yz a0 λaR=>
 Yz a8 λaS=>
 some [aS,aR,aQ,aP,aK,aL,a0,a1,a2,a3,a4,a5,a6,a7]
theorem ann:kZ.den (pick []) R [] [a0,a1,a2,a3,a4,a5,a6,a7,a8,a9,aG,aJ,a12,aK,aL]=N1 a0 a1 a2 a3 a4 a5 a6 a7 a8 a9 aG aK aL:=(cR (by kernel_rfl)).trans (by kernel_rfl)
theorem ano:LV [a0,a1,a2,a3,a4,a5,a6,a7,a8,a9,aG,aJ,a12,aK,aL]=N1 a0 a1 a2 a3 a4 a5 a6 a7 a8 a9 aG aK aL:=ann rounds a0 a1 a2 a3 a4 a5 a6 a7 a8 a9 aG aJ a12 aK aL
def HA:Option (List T):=
 (dv λa3 a4=>
 Yl a4 a2 λa5=>
 az a5 (
 Y8 a0 a4 λa7 a8 a9 aG aJ a12 aK aL=>
 Ye a7 a1 λaP=>
 az aP (
 jn (dJ λaQ=>
 Ya a4 (ii 1) λaR=>
 k0 [aQ,aR]) λk1=>
 q7 (bW [a7,a8,a9,aG,aJ,a12,aK,aL]) λaQ aR aS aT a20 a21 bu aY=>
 pv (.lit 8 [true,true,true,true,true,false,true,true]) [aQ,aR,aS,aT,a20,a21,bu,aY] λa24=>
 Yy a3 a24 λbk=>
 k1 [bk]) (
 Ye a7 (ii 9) λaQ=>
 jn (dJ λaR=>
 Ya a4 (ii 1) λaS=>
 k0 [aR,aS]) λk1=>
 az aQ (
 q7 (bW [a7,a8,a9,aG,aJ,a12,aK,aL]) λaR aS aT a20 a21 bu aY a24=>
 pv (.lit 8 [true,true,true,true,true,false,true,true]) [aR,aS,aT,a20,a21,bu,aY,a24] λbk=>
 Yy a3 bk λbc=>
 k1 [bc]) (
 k1 [a3]))) (
 some [a3])) ts
def N2:Option (List T):=
 Yn a0 λa2=>
 iter (HA bW a0 a1 a2) R [.l [],ii 0]
theorem anp:qe.den (pick [(161,bW)]) R [] [a0,a1]=N2 R bW a0 a1:=(cR (by kernel_rfl)).trans (by kernel_rfl)
theorem anq:AF [a0,a1]=N2 rounds BJ a0 a1:=anp rounds BJ a0 a1
def HB:Option (List T):=
 Ye a1 (ii 3) λa8=>
 jn (dJ λa9=>
 Yz (bb false) λaG=>
 Yz a9 λaJ=>
 Yz a4 λa12=>
 Yz a3 λaK=>
 Yz a2 λaL=>
 Yz a1 λaP=>
 Yz a0 λaQ=>
 some [aQ,aP,aL,aK,a12,.l [],aJ,aG]) λk0=>
 az a8 (
 k0 [ii 1]) (
 k0 [ii 0])
theorem anr:ov.den (pick []) R [] [a0,a1,a2,a3,a4,a5,a6,a7]=HB a0 a1 a2 a3 a4:=(cR (by kernel_rfl)).trans (by kernel_rfl)
theorem ans:Rm [a0,a1,a2,a3,a4,a5,a6,a7]=HB a0 a1 a2 a3 a4:=anr rounds a0 a1 a2 a3 a4 a5 a6 a7
def kb_:Option (List T):=
 (sU λa4 a5 a6=>
 Yl a5 a3 λa7=>
 az a7 (
 Y8 a6 a5 λa9 aG aJ a12 aK aL aP aQ=>
 q7 (li [a9,aG,aJ,a12,aK,aL,aP,aQ]) λaR aS aT a20 a21 bu aY a24=>
 pv (.lit 8 [true,true,true,true,true,false,true,true]) [aR,aS,aT,a20,a21,bu,aY,a24] λbk=>
 Yy a4 bk λbc=>
 Ya a5 (ii 1) λbq=>
 k0 [bc,bq,a6]) (
 some [a4])) ts
def N3:Option (List T):=
 bm (qi [a0,a1]) λa2=>
 Yn a2 λa3=>
 iter (kb_ li a3) R [.l [],ii 0,a2]
theorem ant:mL.den (pick [(186,qi),(187,li)]) R [] [a0,a1]=N3 R qi li a0 a1:=(cR (by kernel_rfl)).trans (by kernel_rfl)
theorem anu:LW [a0,a1]=N3 rounds AF Rm a0 a1:=ant rounds AF Rm a0 a1
def uE:Option (List T):=
 (dJ λlF=>
 Yn a53 λsV=>
 Yl lF sV λzf=>
 az zf (
 Yq a53 lF λyg=>
 Yl yg qk λyh=>
 az yh (
 Ya lF (ii 1) λuB=>
 k4 [uB]) (
 Yn a53 λuB=>
 Yl lF uB λa70=>
 az a70 (
 Yq a53 lF λa72=>
 Ye a72 qk λwg=>
 az wg (
 k3 [a53]) (
 Yw a53 lF λvg=>
 bm (ax [vg]) λa75=>
 Yx qk λa76=>
 Yp a75 a76 λEP=>
 Yv a53 lF λHg=>
 Yp EP Hg λJf=>
 k3 [Jf])) (
 Yw a53 lF λzg=>
 bm (ax [zg]) λa72=>
 Yx qk λwg=>
 Yp a72 wg λvg=>
 Yv a53 lF λa75=>
 Yp vg a75 λa76=>
 k3 [a76]))) (
 Yn a53 λuA=>
 Yl lF uA λyg=>
 az yg (
 Yq a53 lF λuB=>
 Ye uB qk λa70=>
 az a70 (
 k3 [a53]) (
 Yw a53 lF λzg=>
 bm (ax [zg]) λa72=>
 Yx qk λwg=>
 Yp a72 wg λvg=>
 Yv a53 lF λa75=>
 Yp vg a75 λa76=>
 k3 [a76])) (
 Yw a53 lF λyh=>
 bm (ax [yh]) λuB=>
 Yx qk λa70=>
 Yp uB a70 λzg=>
 Yv a53 lF λa72=>
 Yp zg a72 λwg=>
 k3 [wg]))) ts
def vn:Option (List T):=
 (dv λa53 lP=>
 Yl lP iZ λj5=>
 az j5 (
 Y4 dV lP λqk vd a59 ze=>
 Ye vd a49 λve=>
 az ve (
 Yg a59 (ii 0) λtF=>
 jn (dJ λlF=>
 Ya lP (ii 1) λsV=>
 k2 [lF,sV]) λk3=>
 az tF (
 iter (uE ax a53 qk k3) R [ii 0]) (
 k3 [a53])) (
 jn (dJ λtF=>
 Ya lP (ii 1) λlF=>
 k2 [tF,lF]) λk3=>
 k3 [a53])) (
 Aq (eK [ci,cu,cm,a37,cQ,da,a40,dV,ii 1,fX,a49,iL,a51,a53,.l []]) λpw qk vd a59 ze ve tF lF sV zf uA yg yh uB=>
 pv (.lit 6 []) [pw,qk,vd,a59,ze,ve] λa70=>
 pv (.app false 6) [bO,a70] λzg=>
 jn (Vw λa72 wg vg a75 a76 EP Hg Jf a80=>
 Ya bX (ii 1) λa81=>
 k1 [a80,a81,a72,wg,vg,a75,a76,EP,Hg,Jf,fa,fH,fO,fV]) λk3=>
 az a51 (
 bm (gg [yh,a49]) λa72=>
 Aq (eK [tF,lF,sV,zf,uA,yg,yh,uB,ii 2,fX,a49,iL,a51,.l [],a72]) λwg vg a75 a76 EP Hg Jf a80 a81 a82 a83 a84 a85 a86=>
 pv (.lit 6 []) [wg,vg,a75,a76,EP,Hg] λa87=>
 pv (.app false 6) [zg,a87] λa88=>
 k3 [Jf,a80,a81,a82,a83,a84,a85,a86,a88]) (
 k3 [tF,lF,sV,zf,uA,yg,yh,uB,zg]))) ts
def uF:Option (List T):=
 (Du λbO bX ci cu cm a37 cQ da a40 dV fa fH fO fV=>
 Yl bX a31 λa46=>
 az a46 (
 Y4 fV bX λfX a49 iL a51=>
 Yn dV λiZ=>
 iter (vn R gg eK ax bO bX ci cu cm a37 cQ da a40 dV fa fH fO fV fX a49 iL a51 iZ k1) R [.l [],ii 0]) (
 Yz cm λgd=>
 Yz cu λfX=>
 Yz ci λa49=>
 some [a49,fX,gd,a37,cQ,da,a40,dV,bO])) ts
def vo:Option (List T):=
 (dv λaT a20=>
 Yl aT aS λa21=>
 az a21 (
 Yb a20 aT λbu=>
 pv (.aU 4 2) [a20,aT] λaY=>
 Ys aY (ii 1) λa24=>
 pv (.mx) [a24,ii 0] λbk=>
 pv (.put true 4 2 1) [a20,aT,bk] λbc=>
 pv (.aU 4 3) [bc,aT] λbq=>
 az bq (
 pv (.aU 4 2) [bc,aT] λa28=>
 Yg a28 (ii 0) λbA=>
 pv (.put true 4 3 1) [bc,aT,bA] λbL=>
 Ya aT (ii 1) λa31=>
 k0 [a31,bL]) (
 pv (.put true 4 3 1) [bc,aT,bb false] λa28=>
 Ya aT (ii 1) λbA=>
 k0 [bA,a28])) (
 bm (eG [a20]) λbu=>
 q7 (il [a8,a9,aG,aJ,a12,bu,aL]) λaY a24 bk bc bq a28 bA bL=>
 Yn a20 λa31=>
 iter (uF R gg eK ax a31) R [.l [],ii 0,aY,a24,bk,bc,bq,a28,bA,a20,a20,a20,a20,a20])) ts
def HC:Option (List T):=
 q7 (lh [a0,a1,a2,a3,a4,a5,a6,a7]) λa8 a9 aG aJ a12 aK aL aP=>
 bm (di [a0,a1,a2,a3,a4,a5,a6,a7]) λaQ=>
 Yt aQ λaR=>
 az aR (
 Yz aG λaS=>
 Yz a9 λaT=>
 Yz a8 λa20=>
 some [a20,aT,aS,aJ,a12,aK,aL,aP,.l []]) (
 Yn aP λaS=>
 iter (vo R gg eK il ax eG a8 a9 aG aJ a12 aL aS) R [ii 0,aP])
theorem anv:k_.den (pick [(11,il),(23,di),(81,lh),(82,eG),(85,eK),(86,gg),(156,ax)]) R [] [a0,a1,a2,a3,a4,a5,a6,a7]=HC R gg di eK il ax lh eG a0 a1 a2 a3 a4 a5 a6 a7:=(cR (by kernel_rfl)).trans (by kernel_rfl)
theorem anw:Je [a0,a1,a2,a3,a4,a5,a6,a7]=HC rounds LW Ay LV G6 o8 Q_ G0 a0 a1 a2 a3 a4 a5 a6 a7:=anv rounds LW Ay LV G6 o8 Q_ G0 a0 a1 a2 a3 a4 a5 a6 a7
def tG:Option (List T):=
 (Ds λa5 a6 a7 a8 a9 aG aJ a12 aK aL=>
 Yl a8 a4 λaP=>
 az aP (
 Y8 a0 a8 λaR aS aT a20 a21 bu aY a24=>
 Yu aS (ii 3) λbk=>
 az bk (
 Ya a8 (ii 1) λbc=>
 k0 [a5,a6,a7,bc,a9,aG,aJ,a12,aK,aL]) (
 Yu a20 a1 λbc=>
 az bc (
 Ya a8 (ii 1) λbq=>
 k0 [a5,a6,a7,bq,a9,aG,aJ,a12,aK,aL]) (
 Yh aY (ii 60000) λbq=>
 az bq (
 Ya a8 (ii 1) λa28=>
 k0 [a5,a6,a7,a28,a9,aG,aJ,a12,aK,aL]) (
 eC (cK [a3,aT]) λa28 bA bL a31=>
 Ye aT a2 λbO=>
 jn (xU λbX ci cu cm=>
 Yt cm λa37=>
 az a37 (
 Ya a8 (ii 1) λcQ=>
 k0 [a5,a6,a7,cQ,a9,aG,aJ,a12,aK,aL]) (
 Yt a24 λcQ=>
 az cQ (
 Ya ci aY λda=>
 jn (sU λa40 dV fa=>
 Ya a8 (ii 1) λfH=>
 k0 [bb true,a6,a7,fH,a40,dV,fa,a12,aK,aL]) λk1=>
 az a5 (
 nf (bd [a9,aG,aJ,a1,da,cu]) λa40 dV fa=>
 k1 [a40,dV,fa]) (
 k1 [a1,da,cu])) (
 az a6 (
 Ye aY a7 λda=>
 jn (sU λa40 dV fa=>
 Yt a6 λfH=>
 az fH (
 jn (ry λfO fV a46 gd fX=>
 Ya a8 (ii 1) λa49=>
 k0 [a5,gd,fX,a49,a9,aG,aJ,fO,fV,a46]) λk1=>
 k1 [a40,dV,fa,bb true,aY]) (
 Ym aY a7 λfO=>
 jn (ry λfV a46 gd fX a49=>
 Ya a8 (ii 1) λiL=>
 k0 [a5,fX,a49,iL,a9,aG,aJ,fV,a46,gd]) λk1=>
 az fO (
 k1 [a40,dV,fa,bb true,aY]) (
 k1 [a12,aK,aL,a6,a7]))) λk1=>
 az da (
 nf (bd [a12,aK,aL,a1,ci,cu]) λa40 dV fa=>
 k1 [a40,dV,fa]) (
 k1 [a1,ci,cu])) (
 jn (sU λda a40 dV=>
 Yt a6 λfa=>
 az fa (
 jn (ry λfH fO fV a46 gd=>
 Ya a8 (ii 1) λfX=>
 k0 [a5,a46,gd,fX,a9,aG,aJ,fH,fO,fV]) λk1=>
 k1 [da,a40,dV,bb true,aY]) (
 Ym aY a7 λfH=>
 jn (ry λfO fV a46 gd fX=>
 Ya a8 (ii 1) λa49=>
 k0 [a5,gd,fX,a49,a9,aG,aJ,fO,fV,a46]) λk1=>
 az fH (
 k1 [da,a40,dV,bb true,aY]) (
 k1 [a12,aK,aL,a6,a7]))) λk1=>
 k1 [a1,ci,cu])))) λk1=>
 az bO (
 k1 [ii 0,ii 0,.l [],bb true]) (
 k1 [a28,bA,bL,a31]))))) (
 az a5 (
 Yz (bb true) λaQ=>
 Yz (ii 0) λaR=>
 Yz aG λaS=>
 Yz (ii 3) λaT=>
 Yz a1 λa20=>
 Yz (bb true) λa21=>
 some [a21,a20,aT,aS,aR,aJ,aQ]) (
 Yz a6 λaQ=>
 Yz a7 λaR=>
 Yz aK λaS=>
 Yz (ii 4) λaT=>
 Yz a1 λa20=>
 Yz (bb true) λa21=>
 some [a21,a20,aT,aS,aR,aL,aQ]))) ts
def N4:Option (List T):=
 Yn a0 λa4=>
 iter (tG bd cK a0 a1 a2 a3 a4) R [bb false,bb false,ii 0,ii 0,ii 0,ii 0,.l [],ii 0,ii 0,.l []]
theorem anx:qg.den (pick [(178,cK),(227,bd)]) R [] [a0,a1,a2,a3]=N4 R bd cK a0 a1 a2 a3:=(cR (by kernel_rfl)).trans (by kernel_rfl)
theorem anz:AG [a0,a1,a2,a3]=N4 rounds sa AC a0 a1 a2 a3:=anx rounds sa AC a0 a1 a2 a3
def uG:Option (List T):=
 (dv λaY a24=>
 Yl a24 bu λbk=>
 az bk (
 Yq aR a24 λbq=>
 EM (iu [a0,bq,a3,a21]) λa28 bA bL a31 bO bX ci=>
 jn (dJ λcu=>
 Ya a24 (ii 1) λcm=>
 k3 [cu,cm]) λk4=>
 az ci (
 pv (.lit 6 [true,true,true,true,true,false]) [a28,bA,bL,a31,bO,bX] λcu=>
 pv (.app false 6) [aY,cu] λcm=>
 k4 [cm]) (
 k4 [aY])) (
 some [aY])) ts
def tH:Option (List T):=
 (dJ λa31=>
 Yn aR λbO=>
 Yl a31 bO λbX=>
 az bX (
 Yq aR a31 λcu=>
 Yl cu a24 λcm=>
 az cm (
 Ya a31 (ii 1) λa37=>
 k4 [a37]) (
 Yn aR λa37=>
 Yl a31 a37 λcQ=>
 az cQ (
 Yq aR a31 λa40=>
 Ye a40 a24 λdV=>
 az dV (
 k3 [aR]) (
 Yw aR a31 λfa=>
 bm (ax [fa]) λfH=>
 Yx a24 λfO=>
 Yp fH fO λfV=>
 Yv aR a31 λa46=>
 Yp fV a46 λgd=>
 k3 [gd])) (
 Yw aR a31 λda=>
 bm (ax [da]) λa40=>
 Yx a24 λdV=>
 Yp a40 dV λfa=>
 Yv aR a31 λfH=>
 Yp fa fH λfO=>
 k3 [fO]))) (
 Yn aR λci=>
 Yl a31 ci λcu=>
 az cu (
 Yq aR a31 λa37=>
 Ye a37 a24 λcQ=>
 az cQ (
 k3 [aR]) (
 Yw aR a31 λda=>
 bm (ax [da]) λa40=>
 Yx a24 λdV=>
 Yp a40 dV λfa=>
 Yv aR a31 λfH=>
 Yp fa fH λfO=>
 k3 [fO])) (
 Yw aR a31 λcm=>
 bm (ax [cm]) λa37=>
 Yx a24 λcQ=>
 Yp a37 cQ λda=>
 Yv aR a31 λa40=>
 Yp da a40 λdV=>
 k3 [dV]))) ts
def uH:Option (List T):=
 (dv λaR aS=>
 Yl aS aQ λaT=>
 az aT (
 Y8 a0 aS λa21 bu aY a24 bk bc bq a28=>
 Ye bu (ii 3) λbA=>
 az bA (
 Yl bq (ii 60000) λbL=>
 jn (dJ λa31=>
 Ya aS (ii 1) λbO=>
 k2 [a31,bO]) λk3=>
 az bL (
 iter (tH ax aR a24 k3) R [ii 0]) (
 k3 [aR])) (
 jn (dJ λbL=>
 Ya aS (ii 1) λa31=>
 k2 [bL,a31]) λk3=>
 k3 [aR])) (
 Yo (.l []) a9 λa20=>
 Yo a20 aL λa21=>
 Yn aR λbu=>
 iter (uG iu a0 a3 aR a21 bu) R [a12,ii 0])) ts
def uI:Option (List T):=
 (sU λa12 aK aL=>
 Yl aK aJ λaP=>
 az aP (
 Y3 aL aK λaR aS aT=>
 bm (ax [aT]) λa20=>
 pv (.lit 6 [true,true,true,true,true,false]) [bb false,aR,ii 2,aS,ii 0,a20] λa21=>
 pv (.app false 6) [a12,a21] λbu=>
 Ya aK (ii 1) λaY=>
 k1 [bu,aY,aL]) (
 Yn a0 λaQ=>
 iter (uH R ax iu a0 a3 a9 a12 aL aQ) R [.l [],ii 0])) ts
def uJ:Option (List T):=
 (sU λa7 a8 a9=>
 Yl a8 a6 λaG=>
 az aG (
 Y3 a9 a8 λa12 aK aL=>
 Yu a12 a3 λaP=>
 jn (dJ λaQ=>
 Ya a8 (ii 1) λaR=>
 k0 [aQ,aR,a9]) λk1=>
 az aP (
 bm (ax [aL]) λaQ=>
 pv (.lit 6 [true,true,true,true,true,false]) [bb false,a12,ii 1,aK,ii 0,aQ] λaR=>
 pv (.app false 6) [a7,aR] λaS=>
 k1 [aS]) (
 k1 [a7])) (
 Yn a5 λaJ=>
 iter (uI R ax iu a0 a3 a9 aJ) R [a7,ii 0,a5])) ts
def N5:Option (List T):=
 bm (cA [a0,a1,a3]) λa4=>
 bm (cT [a0,a1,a2,a3]) λa5=>
 Yn a4 λa6=>
 iter (uJ R ax iu a0 a3 a5 a6) R [.l [],ii 0,a4]
theorem anA:lc.den (pick [(156,ax),(179,cA),(180,cT),(188,iu)]) R [] [a0,a1,a2,a3]=N5 R cT cA ax iu a0 a1 a2 a3:=(cR (by kernel_rfl)).trans (by kernel_rfl)
theorem anB:Rn [a0,a1,a2,a3]=N5 rounds G5 BP o8 AG a0 a1 a2 a3:=anA rounds G5 BP o8 AG a0 a1 a2 a3
def N6:Option (List T):=
 bm (di [a0,a1,a2,a3,a4,a5,a6,a7]) λa8=>
 Yt a8 λa9=>
 az a9 (
 some [.l []]) (
 bm (cS [a2,a3,a4,a0]) λaG=>
 bm (f_ [a2,a3,a4,a0]) λaJ=>
 bm (lg [a6,aG,aJ,a0]) λa12=>
 some [a12])
theorem anC:oz.den (pick [(23,di),(74,cS),(75,f_),(89,lg)]) R [] [a0,a1,a2,a3,a4,a5,a6,a7]=N6 cS f_ di lg a0 a1 a2 a3 a4 a5 a6 a7:=(cR (by kernel_rfl)).trans (by kernel_rfl)
theorem anD:LX [a0,a1,a2,a3,a4,a5,a6,a7]=N6 yd G4 Ay Rn a0 a1 a2 a3 a4 a5 a6 a7:=anC rounds yd G4 Ay Rn a0 a1 a2 a3 a4 a5 a6 a7
def HD:Option (List T):=
 nf (gk [a0,a1,a2]) λa5 a6 a7=>
 bm (dD [a3,a4,a5,a6,a7,.l [],.l []]) λa8=>
 Yt a8 λa9=>
 az a9 (
 Yz (bb false) λaG=>
 Yz (ii 0) λaJ=>
 Yz (ii 0) λa12=>
 Yz (ii 0) λaK=>
 some [aK,a12,aJ,.l [],.l [],.l [],.l [],.l [],aG]) (
 q7 (il [a3,a4,a5,a6,a7,.l [],.l []]) λaG aJ a12 aK aL aP aQ aR=>
 bm (im [a0,a1,a2,a3]) λaS=>
 Yz (bb true) λaT=>
 Yz a12 λa20=>
 Yz aJ λa21=>
 Yz aG λbu=>
 some [bu,a21,a20,aK,aL,aP,aQ,aS,aT])
theorem anE:mM.den (pick [(11,il),(13,dD),(87,im),(90,gk)]) R [] [a0,a1,a2,a3,a4]=HD il dD gk im a0 a1 a2 a3 a4:=(cR (by kernel_rfl)).trans (by kernel_rfl)
theorem Xc:LY [a0,a1,a2,a3,a4]=HD G6 yc EO GZ a0 a1 a2 a3 a4:=anE rounds G6 yc EO GZ a0 a1 a2 a3 a4
def HE:Option (List T):=
 (dv λa40 dV=>
 Yn da λfa=>
 Yl dV fa λfH=>
 az fH (
 Yb da dV λfO=>
 pv (.aU 6 0) [da,dV] λfV=>
 Yt fV λa46=>
 az a46 (
 Yz (bb false) λgd=>
 some [gd]) (
 Ya dV (ii 1) λgd=>
 k2 [a40,gd])) (
 wc (gh [aT,a20,a21,aR,ii 1]) λfO fV a46 gd fX a49 iL a51 iZ=>
 az iZ (
 bm (di [fO,fV,a46,gd,fX,a49,iL,a51]) λa53=>
 az a53 (
 Yn a49 λlP=>
 Ye lP (ii 0) λj5=>
 Yz j5 λpw=>
 some [pw]) (
 Yz (bb false) λlP=>
 some [lP])) (
 Yz (bb false) λa53=>
 some [a53]))) ts
def HF:Option (List T):=
 (dv λcu cm=>
 Yn a24 λa37=>
 Yl cm a37 λcQ=>
 az cQ (
 Yb a24 cm λda=>
 Yc 4 1 a24 cm λa40=>
 wc (gJ [aY,a40,ii 1,aR,ii 0,ii 0,.l [],ii 0,bb false]) λdV fa fH fO fV a46 gd fX a49=>
 Yt a49 λiL=>
 az iL (
 Yz (bb false) λa51=>
 some [a51]) (
 Yn a46 λa51=>
 Yu a51 (ii 0) λiZ=>
 az iZ (
 Yz (bb false) λa53=>
 some [a53]) (
 Ya cm (ii 1) λa53=>
 k1 [cu,a53]))) (
 bm (jD [aR,aS,aT,a20,a21,bu,aY,a24]) λda=>
 iter (HE gh di aR aT a20 a21 da) R [cu,ii 0])) ts
def ES:Option (List T):=
 (Du λaQ aR aS aT a20 a21 bu aY a24 bk bc bq a28 bA=>
 Yl aQ (ii 3) λbL=>
 az bL (
 wc (jh [aR,aS,aT,a20,a21,bu,aY,a24]) λa31 bO bX ci cu cm a37 cQ da=>
 Ya aQ (ii 1) λa40=>
 k0 [a40,a31,bO,bX,ci,cu,cm,a37,cQ,bk,bc,bq,a28,bA]) (
 bm (di [aR,aS,aT,a20,a21,bu,aY,a24]) λa31=>
 Yt a31 λbO=>
 az bO (
 Yz (bb false) λbX=>
 some [bX]) (
 Yn bu λbX=>
 Yu bX (ii 0) λci=>
 az ci (
 Yz (bb false) λcu=>
 some [cu]) (
 iter (HF R gh di jD gJ aR aS aT a20 a21 bu aY a24) R [bb false,ii 0])))) ts
def HG:Option (List T):=
 bm (DG [a0]) λa1=>
 az a1 (
 Yz (bb true) λa2=>
 some [a2]) (
 Aq (gI [a0]) λa2 a3 a4 a5 a6 a7 a8 a9 aG aJ a12 aK aL aP=>
 iter (ES R gh di jD jh gJ) R [ii 0,a2,a3,a4,a5,a6,a7,a8,a9,a5,a6,a7,a8,a9])
theorem anF:sd.den (pick [(9,DG),(15,gJ),(21,gI),(22,jh),(23,di),(24,jD),(25,gh)]) R [] [a0]=HG R DG gh di jD jh gI gJ a0:=(cR (by kernel_rfl)).trans (by kernel_rfl)
theorem anG:G7 [a0]=HG rounds Av LY Ay LX Je Q9 DA a0:=anF rounds Av LY Ay LX Je Q9 DA a0
end
end Go.Proofs.YtjimmglpkndemaaGreatC
