/- The plain programs as native functions (printed by a program). Conditions: none. -/
import Derived.Test.YtjimmglpkndemaaGreatXPV
import Derived.Test.YtjimmglpkndemaaGreatKe
namespace Go.Proofs.YtjimmglpkndemaaGreatC
set_option linter.unusedVariables false
theorem fs_z {p:PL} {ks ts}:Fs p ks ts=p.den (pick ks) rounds [] ts:=rfl
section
variable (R:Nat) (vW N4 aaY XW XX XY N5 XZ N6 aaZ X0 N7 Ky GK Kz GL X1 N8 KA N9 GM KB KC GN GP N_ GQ B4 B5 EY GR dz e_ iJ jK iK jL gH iD gP il nF eo cV ff cL eG fJ bg mg dh cW EZ lr rz aE dW cI aP jM aO mh nG k_ dk lc b8 bV ld dl mi rA bT gI mP fK eb jN iL jO ch mQ jP iE jQ gQ im lu fg cX fh cr eH cM c_ mj bX dm E0 aJ iq jz gg bF bh lg et ci dq eD jR dA gh ed fL cN jS iY fG dB gR Oa aa0 KD X2 Ob aa1 Oc KF:af)
variable (a0 a1 a2 a3 a4 a5 a6 a7 a8 a9 aI aK aT aL aN aR aW bk aX aY aZ bw b_ bQ bU bZ ca cd cb cB cY cR cH cK dE dv di dL eQ fx fM iM jT lh lZ kf jq lL kK li lz l7 jF mB oh nH sd xE B6 yn vk B7 E1 xF ua yo E2 GS X3 Od a70 a71 a72 X4 a74 a75 a76 a77 a78 a79 a80 a81 a82 a83 a84 a85 a86 a87 a88 a89 a90 a91 a92 a93 a94 a95 a96 a97 a98 a99 ave avf avg avh avi avj avk avl avm avn avo avp avq avr avs avt avu avv avw avx avy avz avA avB avC avD avE avF avG avH avI avJ avK avL avM avN avO avP avQ avR avS avT avU avV avW avX avY avZ av0 av1 av2 av3 av4 av5 av6 av7 av8 av9 av_ av' awa awb awc awd awe awf awg awh awi awj awk awl awm awn awo awp awq awr aws awt awu awv aww awx awy awz awA awB awC awD awE awF awG awH awI awJ awK awL awM awN awO awP awQ awR awS awT awU awV awW awX awY awZ aw0 aw1 aw2 aw3 aw4 aw5 aw6 aw7 aw8 aw9 aw_ aw' axa axb axc axd axe axf axg axh axi axj axk axl axm axn axo axp axq axr axs axt axu axv axw axx axy axz axA axB axC axD axE axF axG axH axI axJ axK axL axM axN axO axP axQ axR axS axT axU axV axW axX axY axZ ax0 ax1 ax2 ax3 ax4 ax5 ax6 ax7 ax8 ax9 ax_ ax' aya ayb ayc ayd aye ayf ayg ayh ayi ayj ayk ayl aym ayn ayo ayp ayq ayr ays ayt ayu ayv ayw ayx ayy ayz ayA ayB ayC ayD ayE ayF ayG ayH ayI ayJ ayK ayL ayM ayN ayO ayP ayQ ayR ayS ayT ayU ayV ayW ayX ayY ayZ ay0 ay1 ay2 ay3 ay4 ay5 ay6 ay7 ay8 ay9 ay_ ay' aza azb azc azd aze azf azg azh azi azj azk azl azm azn azo azp azq azr azs azt azu azv azw azx azy azz azA azB azC azD azE azF azG azH azI azJ azK azL azM azN azO azP azQ azR azS azT azU azV:T) (k0 k1 k2 k3 k4 k5 k6 k7 k8 k9 k10 k11 k12 k13 k14 k15 k16 k17 k18 k19:af) (ts:List T)
def KG:Option (List T):=
 Yh a0 a1 λa3=>
 aA a3 (
 Ym a0 a2 λa4=>
 Yz a4 λa5=>
 some [a5]) (
 Yz (bb false) λa4=>
 some [a4])
theorem amf:(TH).den (pick []) R [] [a0,a1,a2]=KG a0 a1 a2:=(dR (by kernel_rfl)).trans (by kernel_rfl)
theorem amg:tw [a0,a1,a2]=KG a0 a1 a2:=fs_z.trans (amf rounds ..)
def KH:Option (List T):=
 bp (aJ [a0,ii 1,ii 6]) λa5=>
 aA a5 (
 bp (aJ [a1,ii 1,a0]) λa6=>
 aA a6 (
 bp (aJ [a2,ii 1,a0]) λa7=>
 aA a7 (
 Yl a1 a2 λa8=>
 aA a8 (
 bp (aJ [a3,ii 1,ii 1000]) λa9=>
 aA a9 (
 bp (aJ [a4,ii 0,ii 2]) λaI=>
 Yz aI λaK=>
 some [aK]) (
 Yz (bb false) λaI=>
 some [aI])) (
 Yz (bb false) λa9=>
 some [a9])) (
 Yz (bb false) λa8=>
 some [a8])) (
 Yz (bb false) λa7=>
 some [a7])) (
 Yz (bb false) λa6=>
 some [a6])
theorem amh:(TK).den (pick [(105,aJ)]) R [] [a0,a1,a2,a3,a4]=KH aJ a0 a1 a2 a3 a4:=(dR (by kernel_rfl)).trans (by kernel_rfl)
theorem ami:TL [a0,a1,a2,a3,a4]=KH tw a0 a1 a2 a3 a4:=fs_z.trans (amh rounds ..)
def KI:Option (List T):=
 Yl a0 a4 λa8=>
 aA a8 (
 Yz (bb true) λa9=>
 some [a9]) (
 Ye a0 a4 λa9=>
 aA a9 (
 Yl a1 a5 λaI=>
 aA aI (
 Yz (bb true) λaK=>
 some [aK]) (
 Ye a1 a5 λaK=>
 aA aK (
 Yl a3 a7 λaT=>
 Yz aT λaL=>
 some [aL]) (
 Yz (bb false) λaT=>
 some [aT]))) (
 Yz (bb false) λaI=>
 some [aI]))
theorem amj:(TN).den (pick []) R [] [a0,a1,a2,a3,a4,a5,a6,a7]=KI a0 a1 a3 a4 a5 a7:=(dR (by kernel_rfl)).trans (by kernel_rfl)
theorem amk:TO [a0,a1,a2,a3,a4,a5,a6,a7]=KI a0 a1 a3 a4 a5 a7:=fs_z.trans (amj rounds ..)
def KJ:Option (List T):=
 Yl a1 a5 λa8=>
 aA a8 (
 Yz (bb true) λa9=>
 some [a9]) (
 Ye a1 a5 λa9=>
 aA a9 (
 Yl a0 a4 λaI=>
 Yz aI λaK=>
 some [aK]) (
 Yz (bb false) λaI=>
 some [aI]))
theorem aml:(TQ).den (pick []) R [] [a0,a1,a2,a3,a4,a5,a6,a7]=KJ a0 a1 a4 a5:=(dR (by kernel_rfl)).trans (by kernel_rfl)
theorem amm:TR [a0,a1,a2,a3,a4,a5,a6,a7]=KJ a0 a1 a4 a5:=fs_z.trans (aml rounds ..)
def KK:Option (List T):=
 (ew λaL aN=>
 Yn a2 λaR=>
 Yl aN aR λaW=>
 aA aW (
 Y4 a2 aN λaX aY aZ bw=>
 bp (aJ [aX,ii 1,a0]) λb_=>
 Yt b_ λbQ=>
 aA bQ (
 Yz (bb false) λbU=>
 some [bU]) (
 bp (aJ [aY,ii 1,ii 9]) λbU=>
 Yt bU λbZ=>
 aA bZ (
 Yz (bb false) λca=>
 some [ca]) (
 bp (aJ [aZ,ii 1,ii 1000]) λca=>
 Yt ca λcd=>
 aA cd (
 Yz (bb false) λcb=>
 some [cb]) (
 Yg aN (ii 0) λcb=>
 aA cb (
 Ys aN (ii 1) λcB=>
 Y4 a2 cB λcR cH cK dE=>
 bp (gg [cR,cH,cK,dE,aX,aY,aZ,bw]) λdv=>
 Yt dv λdi=>
 aA di (
 Yz (bb false) λdL=>
 some [dL]) (
 Ya aN (ii 1) λdL=>
 k1 [aL,dL])) (
 Ya aN (ii 1) λcB=>
 k1 [aL,cB]))))) (
 Yz (bb true) λbk=>
 some [bk])) ts
def KL:Option (List T):=
 (ew λa9 aI=>
 Yn a1 λaK=>
 Yl aI aK λaT=>
 aA aT (
 Y4 a1 aI λaN aR aW bk=>
 bp (jP [a0,aN,aR,aW,bk]) λaX=>
 Yt aX λaY=>
 aA aY (
 Yz (bb false) λaZ=>
 some [aZ]) (
 Yg aI (ii 0) λaZ=>
 aA aZ (
 Ys aI (ii 1) λbw=>
 Y4 a1 bw λbQ bU bZ ca=>
 Y4 a1 aI λcb cB cY cR=>
 bp (iq [bQ,bU,bZ,ca,cb,cB,cY,cR]) λcH=>
 Yt cH λcK=>
 aA cK (
 Yz (bb false) λdE=>
 some [dE]) (
 Ya aI (ii 1) λdE=>
 k0 [a9,dE])) (
 Ya aI (ii 1) λbw=>
 k0 [a9,bw]))) (
 iter (KK aJ gg a0 a2) R [a9,ii 0])) ts
def KM:Option (List T):=
 bp (aJ [a0,ii 1,ii 6]) λa3=>
 Yt a3 λa4=>
 aA a4 (
 Yz (bb false) λa5=>
 some [a5]) (
 Yn a1 λa5=>
 Yg a5 (ii 12) λa6=>
 aA a6 (
 Yz (bb false) λa7=>
 some [a7]) (
 Yn a2 λa7=>
 Yg a7 (ii 4) λa8=>
 aA a8 (
 Yz (bb false) λa9=>
 some [a9]) (
 iter (KL R jP aJ iq gg a0 a1 a2) R [bb false,ii 0])))
theorem amn:(TT).den (pick [(105,aJ),(203,jP),(204,iq),(205,gg)]) R [] [a0,a1,a2]=KM R jP aJ iq gg a0 a1 a2:=(dR (by kernel_rfl)).trans (by kernel_rfl)
theorem amo:JO [a0,a1,a2]=KM rounds TL tw TO TR a0 a1 a2:=fs_z.trans (amn rounds ..)
def jA_:Option (List T):=
 (ew λa6 a7=>
 Yn a1 λa8=>
 Yl a7 a8 λa9=>
 aA a9 (
 Y4 a1 a7 λaK aT aL aN=>
 Ye aN a5 λaR=>
 aA aR (
 Ye aK a3 λaW=>
 aA aW (
 Ye aT a4 λbk=>
 aA bk (
 Yz aL λaX=>
 some [aX]) (
 Ye aK a4 λaX=>
 aA aX (
 Ye aT a3 λaY=>
 aA aY (
 Yz aL λaZ=>
 some [aZ]) (
 Ya a7 (ii 1) λaZ=>
 k0 [a6,aZ])) (
 Ya a7 (ii 1) λaY=>
 k0 [a6,aY]))) (
 Ye aK a4 λbk=>
 aA bk (
 Ye aT a3 λaX=>
 aA aX (
 Yz aL λaY=>
 some [aY]) (
 Ya a7 (ii 1) λaY=>
 k0 [a6,aY])) (
 Ya a7 (ii 1) λaX=>
 k0 [a6,aX]))) (
 Ya a7 (ii 1) λaW=>
 k0 [a6,aW])) (
 Yz (ii 0) λaI=>
 some [aI])) ts
def KN:Option (List T):=
 iter (jA_ a1 a3 a4 a5) R [ii 0,ii 0]
theorem amp:(TW).den (pick []) R [] [a0,a1,a2,a3,a4,a5]=KN R a1 a3 a4 a5:=(dR (by kernel_rfl)).trans (by kernel_rfl)
theorem amq:Aw [a0,a1,a2,a3,a4,a5]=KN rounds a1 a3 a4 a5:=fs_z.trans (amp rounds ..)
def u2_:Option (List T):=
 (ew λaT aL=>
 Yn a5 λaN=>
 Yl aL aN λaR=>
 aA aR (
 Y1 a5 aL λbk=>
 Ya aL (ii 1) λaX=>
 Y1 a5 aX λaZ=>
 bp (ch [a2,a3,a4,a0,bk,aZ]) λbw=>
 Ye bw (ii 0) λb_=>
 aA b_ (
 Yz (bb false) λbQ=>
 some [bQ]) (
 Yg aL (ii 0) λbQ=>
 aA bQ (
 Ys aL (ii 2) λbU=>
 Y1 a5 bU λca=>
 Yg ca bk λcd=>
 aA cd (
 Yz (bb false) λcb=>
 some [cb]) (
 Ys aL (ii 2) λcb=>
 Y1 a5 cb λcY=>
 Ye cY bk λcR=>
 aA cR (
 Ys aL (ii 1) λcH=>
 Y1 a5 cH λdE=>
 Yh dE aZ λdv=>
 aA dv (
 Yz (bb false) λdi=>
 some [di]) (
 Ya aL (ii 2) λdi=>
 k0 [aT,di])) (
 Ya aL (ii 2) λcH=>
 k0 [aT,cH]))) (
 Ya aL (ii 2) λbU=>
 k0 [aT,bU]))) (
 Yz (bb true) λaW=>
 some [aW])) ts
def KO:Option (List T):=
 Yn a5 λa7=>
 pv (.bin .rem) [a7,ii 2] λa8=>
 Ye a8 (ii 1) λa9=>
 aA a9 (
 Yz (bb false) λaI=>
 some [aI]) (
 Yn a5 λaI=>
 Yg aI (ii 60) λaK=>
 aA aK (
 Yz (bb false) λaT=>
 some [aT]) (
 iter (u2_ ch a0 a2 a3 a4 a5) R [bb false,ii 0]))
theorem amr:(TY).den (pick [(150,ch)]) R [] [a0,a1,a2,a3,a4,a5,a6]=KO R ch a0 a2 a3 a4 a5:=(dR (by kernel_rfl)).trans (by kernel_rfl)
theorem ams:TZ [a0,a1,a2,a3,a4,a5,a6]=KO rounds Aw a0 a2 a3 a4 a5:=fs_z.trans (amr rounds ..)
def qS_:Option (List T):=
 (ew λa8 a9=>
 Yn a5 λaI=>
 Yl a9 aI λaK=>
 aA aK (
 Y2 a5 a9 λaL aN=>
 bp (aJ [aL,ii 1,ii 6]) λaR=>
 Yt aR λaW=>
 aA aW (
 Yz (bb false) λbk=>
 some [bk]) (
 Ye aL a2 λbk=>
 aA bk (
 Yz (bb false) λaX=>
 some [aX]) (
 bp (aJ [aN,ii 1,ii 1000]) λaX=>
 Yt aX λaY=>
 aA aY (
 Yz (bb false) λaZ=>
 some [aZ]) (
 Yg a9 (ii 0) λaZ=>
 aA aZ (
 Ys a9 (ii 1) λbw=>
 Yb a5 bw λb_=>
 Yc 2 0 a5 bw λbQ=>
 Yh bQ aL λbU=>
 aA bU (
 Yz (bb false) λbZ=>
 some [bZ]) (
 Ya a9 (ii 1) λbZ=>
 k0 [a8,bZ])) (
 Ya a9 (ii 1) λbw=>
 k0 [a8,bw]))))) (
 Yz (bb true) λaT=>
 some [aT])) ts
def KQ:Option (List T):=
 iter (qS_ aJ a2 a5) R [bb false,ii 0]
theorem amt:(T1).den (pick [(105,aJ)]) R [] [a0,a1,a2,a3,a4,a5,a6,a7]=KQ R aJ a2 a5:=(dR (by kernel_rfl)).trans (by kernel_rfl)
theorem amu:T2 [a0,a1,a2,a3,a4,a5,a6,a7]=KQ rounds tw a2 a5:=fs_z.trans (amt rounds ..)
def KR:Option (List T):=
 bp (aJ [a2,ii 1,ii 6]) λa8=>
 Yt a8 λa9=>
 aA a9 (
 Yz (bb false) λaI=>
 some [aI]) (
 bp (aJ [a4,ii 1,ii 100000]) λaI=>
 Yt aI λaK=>
 aA aK (
 Yz (bb false) λaT=>
 some [aT]) (
 Ye a1 (ii 1) λaT=>
 aA aT (
 bp (aJ [a0,ii 0,ii 2]) λaL=>
 aA aL (
 Ye a3 (ii 0) λaN=>
 aA aN (
 bp (lg [a0,a1,a2,a3,a4,a5,a6,a7]) λaR=>
 aA aR (
 Ye a6 (ii 0) λaW=>
 aA aW (
 Yt a7 λbk=>
 Yz bk λaX=>
 some [aX]) (
 Yz (bb false) λbk=>
 some [bk])) (
 Yz (bb false) λaW=>
 some [aW])) (
 Yz (bb false) λaR=>
 some [aR])) (
 Yz (bb false) λaN=>
 some [aN])) (
 Ye a1 (ii 2) λaL=>
 aA aL (
 bp (aJ [a0,ii 0,ii 2]) λaN=>
 aA aN (
 bp (aJ [a3,ii 1,ii 6]) λaR=>
 aA aR (
 Yn a5 λaW=>
 Ye aW (ii 0) λbk=>
 aA bk (
 bp (aJ [a6,ii 0,ii 60000]) λaX=>
 aA aX (
 Yt a7 λaY=>
 Yz aY λaZ=>
 some [aZ]) (
 Yz (bb false) λaY=>
 some [aY])) (
 Yz (bb false) λaX=>
 some [aX])) (
 Yz (bb false) λaW=>
 some [aW])) (
 Yz (bb false) λaR=>
 some [aR])) (
 Ye a1 (ii 3) λaN=>
 aA aN (
 Ye a0 (ii 9) λaR=>
 aA aR (
 bp (aJ [a3,ii 1,ii 9]) λaW=>
 aA aW (
 Yn a5 λbk=>
 Ye bk (ii 0) λaX=>
 aA aX (
 bp (aJ [a6,ii 1,ii 1000]) λaY=>
 aA aY (
 Yz (bb true) λaZ=>
 some [aZ]) (
 Ye a6 (ii 60000) λaZ=>
 Yz aZ λbw=>
 some [bw])) (
 Yz (bb false) λaY=>
 some [aY])) (
 Yz (bb false) λbk=>
 some [bk])) (
 Yz (bb false) λaW=>
 some [aW])) (
 Yz (bb false) λaR=>
 some [aR])))))
theorem amv:(T4).den (pick [(105,aJ),(229,lg)]) R [] [a0,a1,a2,a3,a4,a5,a6,a7]=KR aJ lg a0 a1 a2 a3 a4 a5 a6 a7:=(dR (by kernel_rfl)).trans (by kernel_rfl)
theorem amw:T5 [a0,a1,a2,a3,a4,a5,a6,a7]=KR tw T2 a0 a1 a2 a3 a4 a5 a6 a7:=fs_z.trans (amv rounds ..)
def KS:Option (List T):=
 Yu a0 a8 λaW=>
 aA aW (
 Yl a0 a8 λbk=>
 Yz bk λaX=>
 some [aX]) (
 Yu a1 a9 λbk=>
 aA bk (
 Yl a1 a9 λaX=>
 Yz aX λaY=>
 some [aY]) (
 Yu a2 aI λaX=>
 aA aX (
 Yl a2 aI λaY=>
 Yz aY λaZ=>
 some [aZ]) (
 Yl a3 aK λaY=>
 Yz aY λaZ=>
 some [aZ])))
theorem amx:(T7).den (pick []) R [] [a0,a1,a2,a3,a4,a5,a6,a7,a8,a9,aI,aK,aT,aL,aN,aR]=KS a0 a1 a2 a3 a8 a9 aI aK:=(dR (by kernel_rfl)).trans (by kernel_rfl)
theorem amy:JP [a0,a1,a2,a3,a4,a5,a6,a7,a8,a9,aI,aK,aT,aL,aN,aR]=KS a0 a1 a2 a3 a8 a9 aI aK:=fs_z.trans (amx rounds ..)
def qL_:Option (List T):=
 (ew λa3 a4=>
 Yn a0 λa5=>
 Yl a4 a5 λa6=>
 aA a6 (
 Y8 a0 a4 λa8 a9 aI aK aT aL aN aR=>
 bp (im [a8,a9,aI,aK,aT,aL,aN,aR]) λaW=>
 Yt aW λbk=>
 aA bk (
 Yz (bb false) λaX=>
 some [aX]) (
 Yg a4 (ii 0) λaX=>
 aA aX (
 Ys a4 (ii 1) λaY=>
 Y8 a0 aY λbw b_ bQ bU bZ ca cd cb=>
 Y8 a0 a4 λcY cR cH cK dE dv di dL=>
 bp (eb [bw,b_,bQ,bU,bZ,ca,cd,cb,cY,cR,cH,cK,dE,dv,di,dL]) λeQ=>
 Yt eQ λfx=>
 aA fx (
 Yz (bb false) λfM=>
 some [fM]) (
 Ya a4 (ii 1) λfM=>
 k0 [a3,fM])) (
 Ya a4 (ii 1) λaY=>
 k0 [a3,aY]))) (
 Yz (bb true) λa7=>
 some [a7])) ts
def KT:Option (List T):=
 Yn a0 λa1=>
 Yg a1 (ii 150) λa2=>
 aA a2 (
 Yz (bb false) λa3=>
 some [a3]) (
 iter (qL_ eb im a0) R [bb false,ii 0])
theorem amz:(T_).den (pick [(168,eb),(195,im)]) R [] [a0]=KT R eb im a0:=(dR (by kernel_rfl)).trans (by kernel_rfl)
theorem amA:Ax [a0]=KT rounds JP T5 a0:=fs_z.trans (amz rounds ..)
def KU:Option (List T):=
 bp (iE [a2,a3,a4]) λa7=>
 aA a7 (
 bp (aJ [a0,ii 1,a2]) λa8=>
 aA a8 (
 bp (aJ [a1,ii 0,ii 90]) λa9=>
 aA a9 (
 bp (jS [a0,a1,a2,a3,a4,a5,a6]) λaI=>
 aA aI (
 bp (cM [a6]) λaK=>
 Yz aK λaT=>
 some [aT]) (
 Yz (bb false) λaK=>
 some [aK])) (
 Yz (bb false) λaI=>
 some [aI])) (
 Yz (bb false) λa9=>
 some [a9])) (
 Yz (bb false) λa8=>
 some [a8])
theorem amB:(Ua).den (pick [(105,aJ),(106,cM),(132,iE),(164,jS)]) R [] [a0,a1,a2,a3,a4,a5,a6]=KU iE cM aJ jS a0 a1 a2 a3 a4 a5 a6:=(dR (by kernel_rfl)).trans (by kernel_rfl)
theorem amC:Eu [a0,a1,a2,a3,a4,a5,a6]=KU JO Ax tw TZ a0 a1 a2 a3 a4 a5 a6:=fs_z.trans (amB rounds ..)
def KV:Option (List T):=
 pv (.lit 2 []) [] λa8=>
 pv (.app true 2) [a8,a5] λa9=>
 Yz a7 λaI=>
 Yz a6 λaK=>
 Yz a4 λaT=>
 Yz a3 λaL=>
 Yz a2 λaN=>
 Yz a1 λaR=>
 Yz a0 λaW=>
 some [aW,aR,aN,aL,aT,a9,aK,aI]
theorem amD:(Uc).den (pick []) R [] [a0,a1,a2,a3,a4,a5,a6,a7]=KV a0 a1 a2 a3 a4 a5 a6 a7:=(dR (by kernel_rfl)).trans (by kernel_rfl)
theorem amE:xA [a0,a1,a2,a3,a4,a5,a6,a7]=KV a0 a1 a2 a3 a4 a5 a6 a7:=fs_z.trans (amD rounds ..)
def vZ_:Option (List T):=
 (ew λa2 a3=>
 Yn a0 λa4=>
 Yl a3 a4 λa5=>
 aA a5 (
 Y8 a0 a3 λa7 a8 a9 aI aK aT aL aN=>
 sb (bF [a7,a8,a9,aI,aK,aT,aL,aN]) λaR aW bk aX aY aZ bw b_=>
 pv (.lit 8 [true,true,true,true,true,false,true,true]) [aR,aW,bk,aX,aY,aZ,bw,b_] λbQ=>
 Yy a2 bQ λbU=>
 Ya a3 (ii 1) λbZ=>
 k0 [bU,bZ]) (
 some [a2])) ts
def kL_:Option (List T):=
 pv (.lit 8 []) [] λa1=>
 iter (vZ_ bF a0) R [a1,ii 0]
theorem amG:(Ue).den (pick [(65,bF)]) R [] [a0]=kL_ R bF a0:=(dR (by kernel_rfl)).trans (by kernel_rfl)
theorem amH:BZ [a0]=kL_ rounds xA a0:=fs_z.trans (amG rounds ..)
def E3:Option (List T):=
 pv (.lit 4 []) [] λa7=>
 pv (.app true 4) [a7,a3] λa8=>
 pv (.lit 4 []) [] λa9=>
 pv (.app true 4) [a9,a4] λaI=>
 pv (.lit 1 []) [] λaK=>
 Yp aK a5 λaT=>
 bp (bh [a6]) λaL=>
 Yz a2 λaN=>
 Yz a1 λaR=>
 Yz a0 λaW=>
 some [aW,aR,aN,a8,aI,aT,aL]
theorem amI:(Ug).den (pick [(66,bh)]) R [] [a0,a1,a2,a3,a4,a5,a6]=E3 bh a0 a1 a2 a3 a4 a5 a6:=(dR (by kernel_rfl)).trans (by kernel_rfl)
theorem X5:GF [a0,a1,a2,a3,a4,a5,a6]=E3 BZ a0 a1 a2 a3 a4 a5 a6:=fs_z.trans (amI rounds ..)
def X6:Option (List T):=
 (ew λa6 a7=>
 Ym a7 (ii 6) λa8=>
 aA a8 (
 bp (ch [a0,a1,a2,a3,a7,a4]) λa9=>
 Yg a9 (ii 0) λaI=>
 jn (ft λaK=>
 Ya a7 (ii 1) λaT=>
 k0 [aK,aT]) λk1=>
 aA aI (
 Yx a7 λaK=>
 Yp a6 aK λaT=>
 k1 [aT]) (
 k1 [a6])) (
 some [a6])) ts
def KW:Option (List T):=
 pv (.lit 1 []) [] λa5=>
 iter (X6 ch a0 a1 a2 a3 a4) R [a5,ii 1]
theorem amJ:(Uj).den (pick [(150,ch)]) R [] [a0,a1,a2,a3,a4]=KW R ch a0 a1 a2 a3 a4:=(dR (by kernel_rfl)).trans (by kernel_rfl)
theorem amK:Uk [a0,a1,a2,a3,a4]=KW rounds Aw a0 a1 a2 a3 a4:=fs_z.trans (amJ rounds ..)
def X7:Option (List T):=
 (ew λa5 a6=>
 Ym a6 (ii 2) λa7=>
 aA a7 (
 bp (jQ [a0,a1,a2,a3,a6]) λa8=>
 Yn a8 λa9=>
 Yg a9 (ii 0) λaI=>
 jn (ft λaK=>
 Ya a6 (ii 1) λaT=>
 k0 [aK,aT]) λk1=>
 aA aI (
 Yx a6 λaK=>
 Yp a5 aK λaT=>
 k1 [aT]) (
 k1 [a5])) (
 some [a5])) ts
def KX:Option (List T):=
 pv (.lit 1 []) [] λa4=>
 iter (X7 jQ a0 a1 a2 a3) R [a4,ii 0]
theorem amL:(Um).den (pick [(78,jQ)]) R [] [a0,a1,a2,a3]=KX R jQ a0 a1 a2 a3:=(dR (by kernel_rfl)).trans (by kernel_rfl)
theorem amM:JR [a0,a1,a2,a3]=KX rounds Uk a0 a1 a2 a3:=fs_z.trans (amL rounds ..)
def X8:Option (List T):=
 (ew λa8 a9=>
 Yn a5 λaI=>
 Yl a8 aI λaK=>
 aA aK (
 Ya a8 (ii 1) λaT=>
 Y1 a5 aT λaN=>
 Ye aN a7 λaR=>
 jn (ft λaW=>
 Ya a8 (ii 2) λbk=>
 k0 [bk,aW]) λk1=>
 aA aR (
 Y1 a5 a8 λbk=>
 Y1 a5 a8 λaY=>
 bp (ch [a2,a3,a4,a0,aY,a7]) λaZ=>
 pv (.lit 2 [true,true]) [bk,aZ] λbw=>
 pv (.app true 2) [a9,bw] λb_=>
 k1 [b_]) (
 k1 [a9])) (
 Yz (bb false) λaT=>
 Yz (ii 0) λaL=>
 Yz (ii 0) λaN=>
 Yz (ii 0) λaR=>
 Yz a0 λaW=>
 Yz (ii 1) λbk=>
 Yz a7 λaX=>
 some [aX,bk,aW,aR,aN,a9,aL,aT])) ts
def KY:Option (List T):=
 iter (X8 ch a0 a2 a3 a4 a5 a7) R [ii 0,.l []]
theorem amN:(Up).den (pick [(150,ch)]) R [] [a0,a1,a2,a3,a4,a5,a6,a7]=KY R ch a0 a2 a3 a4 a5 a7:=(dR (by kernel_rfl)).trans (by kernel_rfl)
theorem amO:Uq [a0,a1,a2,a3,a4,a5,a6,a7]=KY rounds Aw a0 a2 a3 a4 a5 a7:=fs_z.trans (amN rounds ..)
def KZ:Option (List T):=
 bp (fK [a0,a1,a2,a3]) λa4=>
 Yn a4 λa5=>
 Yg a5 (ii 1) λa6=>
 aA a6 (
 Yb a4 (ii 0) λa7=>
 Yc 1 0 a4 (ii 0) λa8=>
 Ye a8 (ii 0) λa9=>
 Yz a9 λaI=>
 some [aI]) (
 Yz (bb false) λa7=>
 some [a7])
theorem amP:(Us).den (pick [(20,fK)]) R [] [a0,a1,a2,a3]=KZ fK a0 a1 a2 a3:=(dR (by kernel_rfl)).trans (by kernel_rfl)
theorem amQ:Ut [a0,a1,a2,a3]=KZ JR a0 a1 a2 a3:=fs_z.trans (amP rounds ..)
def Oe:Option (List T):=
 (ew λaW bk=>
 Yn a0 λaX=>
 Yl bk aX λaY=>
 aA aY (
 Y8 a0 bk λbw b_ bQ bU bZ ca cd cb=>
 bp (eb [a1,a2,a3,a4,a5,a6,a7,a8,bw,b_,bQ,bU,bZ,ca,cd,cb]) λcB=>
 jn (ft λcY=>
 Ya bk (ii 1) λcR=>
 k1 [cY,cR]) λk2=>
 aA cB (
 Y8 a0 bk λcR cH cK dE dv di dL eQ=>
 pv (.lit 8 []) [cR,cH,cK,dE,dv,di,dL,eQ] λfx=>
 Yy aW fx λfM=>
 k2 [fM]) (
 k2 [aW])) (
 some [aW])) ts
def Og:Option (List T):=
 (ew λaI aK=>
 Yn a0 λaT=>
 Yl aK aT λaL=>
 aA aL (
 Y8 a0 aK λaR aW bk aX aY aZ bw b_=>
 bp (eb [aR,aW,bk,aX,aY,aZ,bw,b_,a1,a2,a3,a4,a5,a6,a7,a8]) λbQ=>
 jn (ft λbU=>
 Ya aK (ii 1) λbZ=>
 k0 [bU,bZ]) λk1=>
 aA bQ (
 Y8 a0 aK λbZ ca cd cb cB cY cR cH=>
 pv (.lit 8 []) [bZ,ca,cd,cb,cB,cY,cR,cH] λcK=>
 Yy aI cK λdE=>
 k1 [dE]) (
 k1 [aI])) (
 pv (.lit 8 []) [a1,a2,a3,a4,a5,a6,a7,a8] λaN=>
 Yy aI aN λaR=>
 iter (Oe eb a0 a1 a2 a3 a4 a5 a6 a7 a8) R [aR,ii 0])) ts
def K1:Option (List T):=
 pv (.lit 8 []) [] λa9=>
 iter (Og R eb a0 a1 a2 a3 a4 a5 a6 a7 a8) R [a9,ii 0]
theorem amR:(Uv).den (pick [(168,eb)]) R [] [a0,a1,a2,a3,a4,a5,a6,a7,a8]=K1 R eb a0 a1 a2 a3 a4 a5 a6 a7 a8:=(dR (by kernel_rfl)).trans (by kernel_rfl)
theorem amS:B0 [a0,a1,a2,a3,a4,a5,a6,a7,a8]=K1 rounds JP a0 a1 a2 a3 a4 a5 a6 a7 a8:=fs_z.trans (amR rounds ..)
def X9:Option (List T):=
 (ew λa2 a3=>
 Yn a1 λa4=>
 Yl a3 a4 λa5=>
 aA a5 (
 Y8 a1 a3 λa7 a8 a9 aI aK aT aL aN=>
 Ye aK (ii 0) λaR=>
 jn (ft λaW=>
 bp (ci [a2,a7,a8,a9,aI,aW,aT,aL,aN]) λbk=>
 Ya a3 (ii 1) λaX=>
 k0 [bk,aX]) λk1=>
 aA aR (
 k1 [ii 1]) (
 k1 [aK])) (
 some [a2])) ts
def K3:Option (List T):=
 iter (X9 ci a1) R [a0,ii 0]
theorem amT:(Ux).den (pick [(62,ci)]) R [] [a0,a1]=K3 R ci a0 a1:=(dR (by kernel_rfl)).trans (by kernel_rfl)
theorem amU:JT [a0,a1]=K3 rounds B0 a0 a1:=fs_z.trans (amT rounds ..)
def K4:Option (List T):=
 Ye a0 a8 λaW=>
 aA aW (
 Ye a1 a9 λbk=>
 aA bk (
 Ye a2 aI λaX=>
 aA aX (
 Ye a3 aK λaY=>
 Yz aY λaZ=>
 some [aZ]) (
 Yz (bb false) λaY=>
 some [aY])) (
 Yz (bb false) λaX=>
 some [aX])) (
 Yz (bb false) λbk=>
 some [bk])
theorem amV:(UA).den (pick []) R [] [a0,a1,a2,a3,a4,a5,a6,a7,a8,a9,aI,aK,aT,aL,aN,aR]=K4 a0 a1 a2 a3 a8 a9 aI aK:=(dR (by kernel_rfl)).trans (by kernel_rfl)
theorem amW:Ay [a0,a1,a2,a3,a4,a5,a6,a7,a8,a9,aI,aK,aT,aL,aN,aR]=K4 a0 a1 a2 a3 a8 a9 aI aK:=fs_z.trans (amV rounds ..)
def kB_:Option (List T):=
 (ew λa9 aI=>
 Yn a0 λaK=>
 Yl aI aK λaT=>
 aA aT (
 Y8 a0 aI λaN aR aW bk aX aY aZ bw=>
 bp (cr [aN,aR,aW,bk,aX,aY,aZ,bw,a1,a2,a3,a4,a5,a6,a7,a8]) λb_=>
 aA b_ (
 Yz aI λbQ=>
 some [bQ]) (
 Ya aI (ii 1) λbQ=>
 k0 [a9,bQ])) (
 Yz (ii (-1)) λaL=>
 some [aL])) ts
def K5:Option (List T):=
 iter (kB_ cr a0 a1 a2 a3 a4 a5 a6 a7 a8) R [ii 0,ii 0]
theorem amX:(UC).den (pick [(72,cr)]) R [] [a0,a1,a2,a3,a4,a5,a6,a7,a8]=K5 R cr a0 a1 a2 a3 a4 a5 a6 a7 a8:=(dR (by kernel_rfl)).trans (by kernel_rfl)
theorem amY:Ew [a0,a1,a2,a3,a4,a5,a6,a7,a8]=K5 rounds Ay a0 a1 a2 a3 a4 a5 a6 a7 a8:=fs_z.trans (amX rounds ..)
def K6:Option (List T):=
 bp (et [a0,a1,ii 1,a2,ii 0,ii 0,.l [],ii 0,bb false]) λa3=>
 Yl a3 (ii 0) λa4=>
 aA a4 (
 Yz (bb false) λa5=>
 Yz (bb false) λa6=>
 Yz (ii 0) λa7=>
 Yz (ii 0) λa8=>
 Yz (ii 0) λa9=>
 Yz (ii 0) λaI=>
 Yz (ii 0) λaK=>
 Yz (ii 0) λaT=>
 some [aT,aK,aI,a9,a8,.l [],a7,a6,a5]) (
 Y8 a0 a3 λa6 a7 a8 a9 aI aK aT aL=>
 Yz (bb true) λaN=>
 Yz aL λaR=>
 Yz aT λaW=>
 Yz aI λbk=>
 Yz a9 λaX=>
 Yz a8 λaY=>
 Yz a7 λaZ=>
 Yz a6 λbw=>
 some [bw,aZ,aY,aX,bk,aK,aW,aR,aN])
theorem amZ:(UE).den (pick [(63,et)]) R [] [a0,a1,a2]=K6 et a0 a1 a2:=(dR (by kernel_rfl)).trans (by kernel_rfl)
theorem am0:B1 [a0,a1,a2]=K6 Ew a0 a1 a2:=fs_z.trans (amZ rounds ..)
def u7_:Option (List T):=
 (ew λaL aN=>
 Yn a9 λaR=>
 Yl aN aR λaW=>
 aA aW (
 Yb a9 aN λbk=>
 Yc 2 0 a9 aN λaX=>
 Ye aX a3 λaY=>
 aA aY (
 Yb a9 aN λaZ=>
 Yc 2 1 a9 aN λbw=>
 Yz bw λb_=>
 some [b_]) (
 Ya aN (ii 1) λaZ=>
 k0 [aL,aZ])) (
 Yz (ii 0) λbk=>
 some [bk])) ts
def K7:Option (List T):=
 D8 (dA [a0,a1,a2]) λa4 a5 a6 a7 a8 a9 aI aK aT=>
 iter (u7_ a3 a9) R [ii 0,ii 0]
theorem am1:(UG).den (pick [(233,dA)]) R [] [a0,a1,a2,a3]=K7 R dA a0 a1 a2 a3:=(dR (by kernel_rfl)).trans (by kernel_rfl)
theorem am2:UH [a0,a1,a2,a3]=K7 rounds B1 a0 a1 a2 a3:=fs_z.trans (am1 rounds ..)
def X_:Option (List T):=
 (ew λaR aW=>
 Yn aK λbk=>
 Yl aR bk λaX=>
 aA aX (
 Yb aK aR λaY=>
 Yc 2 0 aK aR λaZ=>
 bp (aJ [aZ,ii 1,ii 6]) λbw=>
 aA bw (
 Yb aK aR λb_=>
 Yc 2 0 aK aR λbQ=>
 bp (gh [a0,a1,bQ,a3]) λbU=>
 Yg bU (ii 0) λbZ=>
 jn (ft λca=>
 Ya aR (ii 1) λcd=>
 k1 [cd,ca]) λk2=>
 aA bZ (
 pv (.bin .mul) [a3,ii 7] λca=>
 Yb aK aR λcd=>
 Yc 2 0 aK aR λcb=>
 Ya ca cb λcB=>
 Yb aK aR λcY=>
 Yc 2 1 aK aR λcR=>
 Yb aW cB λcH=>
 pv (.put true 1 0 1) [aW,cB,cR] λcK=>
 k2 [cK]) (
 k2 [aW])) (
 jn (ft λb_=>
 Ya aR (ii 1) λbQ=>
 k1 [bQ,b_]) λk2=>
 k2 [aW])) (
 Ya a3 (ii 1) λaY=>
 k0 [aY,aW])) ts
def X':Option (List T):=
 (ew λa3 a4=>
 Ym a3 (ii 6) λa5=>
 aA a5 (
 D8 (dA [a0,a1,a3]) λa6 a7 a8 a9 aI aK aT aL aN=>
 iter (X_ aJ gh a0 a1 a3 aK k0) R [ii 0,a4]) (
 some [a4])) ts
def K8:Option (List T):=
 pv (.mk) [ii 49,ii 49,ii 0] λa2=>
 iter (X' R aJ dA gh a0 a1) R [ii 1,a2]
theorem am3:(UJ).den (pick [(105,aJ),(233,dA),(242,gh)]) R [] [a0,a1]=K8 R aJ dA gh a0 a1:=(dR (by kernel_rfl)).trans (by kernel_rfl)
theorem am4:UK [a0,a1]=K8 rounds tw B1 UH a0 a1:=fs_z.trans (am3 rounds ..)
def kw_:Option (List T):=
 (ew λa2 a3=>
 Yn a0 λa4=>
 Yl a3 a4 λa5=>
 aA a5 (
 Y1 a0 a3 λa7=>
 Ye a7 a1 λa8=>
 aA a8 (
 Yz (bb true) λa9=>
 some [a9]) (
 Ya a3 (ii 1) λa9=>
 k0 [a2,a9])) (
 Yz (bb false) λa6=>
 some [a6])) ts
def K9:Option (List T):=
 iter (kw_ a0 a1) R [bb false,ii 0]
theorem am5:(UM).den (pick []) R [] [a0,a1]=K9 R a0 a1:=(dR (by kernel_rfl)).trans (by kernel_rfl)
theorem am6:Az [a0,a1]=K9 rounds a0 a1:=fs_z.trans (am5 rounds ..)
def jD_:Option (List T):=
 (ew λa3 a4=>
 Ym a4 (ii 6) λa5=>
 aA a5 (
 bp (jz [a0,a4]) λa6=>
 aA a6 (
 jn (ft λa7=>
 Ya a4 (ii 1) λa8=>
 k0 [a7,a8]) λk1=>
 Yx a4 λa7=>
 Yp a3 a7 λa8=>
 k1 [a8]) (
 bp (jz [a1,a4]) λa7=>
 jn (ft λa8=>
 Ya a4 (ii 1) λa9=>
 k0 [a8,a9]) λk1=>
 aA a7 (
 Yx a4 λa8=>
 Yp a3 a8 λa9=>
 k1 [a9]) (
 k1 [a3]))) (
 some [a3])) ts
def K_:Option (List T):=
 pv (.lit 1 []) [] λa2=>
 iter (jD_ jz a0 a1) R [a2,ii 1]
theorem am7:(UO).den (pick [(100,jz)]) R [] [a0,a1]=K_ R jz a0 a1:=(dR (by kernel_rfl)).trans (by kernel_rfl)
theorem am8:Ey [a0,a1]=K_ rounds Az a0 a1:=fs_z.trans (am7 rounds ..)
def nI:Option (List T):=
 (ew λcH cK=>
 Ym cK (ii 6) λdE=>
 aA dE (
 Yq cB cK λdi=>
 jn (ft λdL=>
 Ya cK (ii 1) λeQ=>
 k2 [dL,eQ]) λk3=>
 aA di (
 Yq cY cK λeQ=>
 pv (.lit 1 []) [] λfx=>
 Y1 cb cK λiM=>
 Yp fx iM λjT=>
 pv (.lit 3 [true,true,false]) [cK,eQ,jT] λlh=>
 Yo cH lh λlZ=>
 k3 [lZ]) (
 k3 [cH])) (
 some [cH])) ts
def nJ:Option (List T):=
 (ve λeQ fx fM=>
 Ym eQ (ii 6) λiM=>
 aA iM (
 pv (.bin .mul) [cH,ii 7] λjT=>
 Ya jT eQ λlh=>
 Y1 aX lh λkf=>
 Ye kf (ii 0) λjq=>
 aA jq (
 Ya eQ (ii 1) λlL=>
 k3 [lL,fx,fM]) (
 Yq dL eQ λkK=>
 aA kK (
 Ya eQ (ii 1) λli=>
 k3 [li,fx,fM]) (
 Y1 fx cH λlz=>
 Ye cH a2 λl7=>
 jn (ft λjF=>
 Yq fM cH λoh=>
 Ya oh kf λnH=>
 Yq fM eQ λxE=>
 Yl xE (ii 0) λB6=>
 aA B6 (
 jn (ew λyn vk=>
 Ya eQ (ii 1) λB7=>
 k3 [B7,yn,vk]) λk4=>
 Yb fM eQ λyn=>
 pv (.put true 1 0 1) [fM,eQ,nH] λvk=>
 pv (.lit 1 []) [] λB7=>
 bp (dq [B7,jF]) λE1=>
 Yb fx eQ λxF=>
 pv (.put false 1 0 1) [fx,eQ,E1] λua=>
 k4 [ua,vk]) (
 Yq fM eQ λvk=>
 Yl nH vk λB7=>
 jn (ew λE1 xF=>
 Ya eQ (ii 1) λua=>
 k3 [ua,E1,xF]) λk4=>
 aA B7 (
 Yb fM eQ λE1=>
 pv (.put true 1 0 1) [fM,eQ,nH] λxF=>
 pv (.lit 1 []) [] λua=>
 bp (dq [ua,jF]) λyo=>
 Yb fx eQ λE2=>
 pv (.put false 1 0 1) [fx,eQ,yo] λGS=>
 k4 [GS,xF]) (
 Yq fM eQ λxF=>
 Ye nH xF λua=>
 jn (ft λyo=>
 k4 [yo,fM]) λk5=>
 aA ua (
 Y1 fx eQ λE2=>
 bp (dq [E2,jF]) λGS=>
 Yb fx eQ λX3=>
 pv (.put false 1 0 1) [fx,eQ,GS] λOd=>
 k5 [Od]) (
 k5 [fx])))) λk4=>
 aA l7 (
 Yx eQ λjF=>
 k4 [jF]) (
 k4 [lz])))) (
 Ya cd (ii 1) λjT=>
 k1 [jT,fx,dL,fM])) ts
def nK:Option (List T):=
 (ew λcH cK=>
 Ym cK (ii 6) λdE=>
 aA dE (
 Yq cB cK λdi=>
 Yt di λdL=>
 aA dL (
 Yq cY cK λfx=>
 Yh fx (ii 0) λfM=>
 aA fM (
 Ye cH (ii 0) λiM=>
 aA iM (
 jn (ft λjT=>
 Ya cK (ii 1) λlh=>
 k2 [jT,lh]) λk3=>
 k3 [cK]) (
 Yq cY cK λlh=>
 Yq cY cH λkf=>
 Yl lh kf λjq=>
 jn (ft λlL=>
 Ya cK (ii 1) λkK=>
 k2 [lL,kK]) λk3=>
 aA jq (
 k3 [cK]) (
 k3 [cH]))) (
 jn (ft λiM=>
 Ya cK (ii 1) λjT=>
 k2 [iM,jT]) λk3=>
 k3 [cH])) (
 jn (ft λeQ=>
 Ya cK (ii 1) λfx=>
 k2 [eQ,fx]) λk3=>
 k3 [cH])) (
 Ye cH (ii 0) λdv=>
 aA dv (
 Ya (ii 6) (ii 1) λdi=>
 k1 [di,cb,cB,cY]) (
 Yb cB cH λdi=>
 pv (.put true 1 0 1) [cB,cH,bb true] λdL=>
 iter (nJ dq a2 aX cd cH dL k1) R [ii 1,cb,cY]))) ts
def m9:Option (List T):=
 (Jn λcd cb cB cY=>
 Ym cd (ii 6) λcR=>
 aA cR (
 iter (nK R dq a2 aX cd cb cB cY k1) R [ii 0,ii 1]) (
 iter (nI cb cB cY) R [a3,ii 1])) ts
def nL:Option (List T):=
 (ew λb_ bQ=>
 Ym b_ (ii 6) λbU=>
 aA bU (
 Yb bQ b_ λbZ=>
 pv (.put true 1 0 1) [bQ,b_,ii (-1)] λca=>
 Ya b_ (ii 1) λcd=>
 k0 [cd,ca]) (
 Yb bQ a2 λbZ=>
 pv (.put true 1 0 1) [bQ,a2,ii 0] λca=>
 iter (m9 R dq a2 a3 aX) R [ii 1,aZ,bw,ca])) ts
def La:Option (List T):=
 pv (.lit 3 []) [] λa3=>
 D8 (dA [a0,a1,a2]) λa4 a5 a6 a7 a8 a9 aI aK aT=>
 bp (cM [a0]) λaL=>
 Yt aL λaN=>
 aA aN (
 some [a3]) (
 bp (aJ [a2,ii 1,ii 6]) λaR=>
 Yt aR λaW=>
 aA aW (
 some [a3]) (
 Yt aT λbk=>
 aA bk (
 some [a3]) (
 bp (jR [a0,a1]) λaX=>
 pv (.mk) [ii 7,ii 7,ii 0] λaY=>
 pv (.mk) [ii 7,ii 7,.l []] λaZ=>
 pv (.mk) [ii 7,ii 7,bb false] λbw=>
 iter (nL R dq a2 a3 aX aZ bw) R [ii 1,aY])))
theorem am9:(UR).den (pick [(105,aJ),(106,cM),(233,dA),(234,jR),(235,dq)]) R [] [a0,a1,a2]=La R cM aJ dq jR dA a0 a1 a2:=(dR (by kernel_rfl)).trans (by kernel_rfl)
theorem am_:Ez [a0,a1,a2]=La rounds Ax tw Ey UK B1 a0 a1 a2:=fs_z.trans (am9 rounds ..)
def Lc:Option (List T):=
 pv (.lit 1 []) [] λa3=>
 Yp a3 a2 λa4=>
 Yz a1 λa5=>
 Yz a0 λa6=>
 some [a6,a5,a4]
theorem am':(UT).den (pick []) R [] [a0,a1,a2]=Lc a0 a1 a2:=(dR (by kernel_rfl)).trans (by kernel_rfl)
theorem ana:JY [a0,a1,a2]=Lc a0 a1 a2:=fs_z.trans (am' rounds ..)
def kr_:Option (List T):=
 (ew λa2 a3=>
 Yn a0 λa4=>
 Yl a3 a4 λa5=>
 aA a5 (
 Yb a0 a3 λa6=>
 Yc 3 0 a0 a3 λa7=>
 Ye a7 a1 λa8=>
 aA a8 (
 Y3 a0 a3 λaI aK aT=>
 lK (eD [aI,aK,aT]) λaL aN aR=>
 Yz (bb true) λaW=>
 Yz aN λbk=>
 Yz aL λaX=>
 some [aX,bk,aR,aW]) (
 Ya a3 (ii 1) λa9=>
 k0 [a2,a9])) (
 Yz (bb false) λa6=>
 Yz (ii 0) λa7=>
 Yz (ii 0) λa8=>
 some [a8,a7,.l [],a6])) ts
def Ld:Option (List T):=
 iter (kr_ eD a0 a1) R [bb false,ii 0]
theorem anb:(UX).den (pick [(238,eD)]) R [] [a0,a1]=Ld R eD a0 a1:=(dR (by kernel_rfl)).trans (by kernel_rfl)
theorem anc:ym [a0,a1]=Ld rounds JY a0 a1:=fs_z.trans (anb rounds ..)
def Le:Option (List T):=
 Yl a1 a4 λa6=>
 Yz a6 λa7=>
 some [a7]
theorem ane:(UZ).den (pick []) R [] [a0,a1,a2,a3,a4,a5]=Le a1 a4:=(dR (by kernel_rfl)).trans (by kernel_rfl)
theorem anf:U0 [a0,a1,a2,a3,a4,a5]=Le a1 a4:=fs_z.trans (ane rounds ..)
def Lg:Option (List T):=
 bp (jN [a0,a1,a2,a3,a4,a5]) λa6=>
 aA a6 (
 lK (eD [a0,a1,a2]) λa7 a8 a9=>
 Yz a8 λaI=>
 Yz a7 λaK=>
 some [aK,aI,a9]) (
 bp (jN [a3,a4,a5,a0,a1,a2]) λa7=>
 aA a7 (
 lK (eD [a3,a4,a5]) λa8 a9 aI=>
 Yz a9 λaK=>
 Yz a8 λaT=>
 some [aT,aK,aI]) (
 bp (dq [a2,a5]) λa8=>
 Yz a1 λa9=>
 Yz a0 λaI=>
 some [aI,a9,a8]))
theorem ang:(U2).den (pick [(235,dq),(238,eD),(243,jN)]) R [] [a0,a1,a2,a3,a4,a5]=Lg jN dq eD a0 a1 a2 a3 a4 a5:=(dR (by kernel_rfl)).trans (by kernel_rfl)
theorem anh:JZ [a0,a1,a2,a3,a4,a5]=Lg U0 Ey JY a0 a1 a2 a3 a4 a5:=fs_z.trans (ang rounds ..)
def yp:Option (List T):=
 (Gy λaT aL aN aR aW=>
 Yn a1 λbk=>
 Yl aL bk λaX=>
 aA aX (
 Y1 a5 aL λaZ=>
 tl (bX [aZ,aI]) λbw b_ bQ bU=>
 Yt bU λbZ=>
 aA bZ (
 Ya aL (ii 1) λca=>
 k2 [aT,ca,aN,aR,aW]) (
 jn (ve λca cd cb=>
 Ya aL (ii 1) λcB=>
 k2 [bb true,cB,ca,cd,cb]) λk3=>
 aA aT (
 lK (c_ [aN,aR,aW,bw,b_,bQ]) λca cd cb=>
 k3 [ca,cd,cb]) (
 k3 [bw,b_,bQ]))) (
 jn (ft λaY=>
 Ya aI (ii 1) λaZ=>
 k1 [aY,aZ]) λk3=>
 aA aT (
 pv (.lit 3 []) [aN,aR,aW] λaY=>
 Yo a9 aY λaZ=>
 k3 [aZ]) (
 k3 [a9]))) ts
def yq:Option (List T):=
 (ew λa9 aI=>
 Ym aI (ii 6) λaK=>
 aA aK (
 iter (yp c_ bX a1 a5 a9 aI k1) R [bb false,ii 0,ii 0,ii 0,.l []]) (
 some [a9])) ts
def yr:Option (List T):=
 (ew λa5 a6=>
 Yn a1 λa7=>
 Yl a6 a7 λa8=>
 aA a8 (
 Y1 a1 a6 λaI=>
 bp (dm [a0,aI,a2]) λaK=>
 pv (.lit 1 []) [aK] λaT=>
 pv (.app false 1) [a5,aT] λaL=>
 Ya a6 (ii 1) λaN=>
 k0 [aL,aN]) (
 iter (yq R c_ bX a1 a5) R [a3,ii 1])) ts
def jN_:Option (List T):=
 pv (.lit 3 []) [] λa3=>
 pv (.lit 1 []) [] λa4=>
 iter (yr R c_ bX dm a0 a1 a2 a3) R [a4,ii 0]
theorem anj:(U5).den (pick [(218,dm),(221,bX),(236,c_)]) R [] [a0,a1,a2]=jN_ R c_ bX dm a0 a1 a2:=(dR (by kernel_rfl)).trans (by kernel_rfl)
theorem ank:J0 [a0,a1,a2]=jN_ rounds JZ ym Ez a0 a1 a2:=fs_z.trans (anj rounds ..)
def yu:Option (List T):=
 (Gy λa9 aI aK aT aL=>
 Yn a0 λaN=>
 Yl aI aN λaR=>
 aA aR (
 Y8 a0 aI λbk aX aY aZ bw b_ bQ bU=>
 Yu aX (ii 2) λbZ=>
 aA bZ (
 Ya aI (ii 1) λca=>
 k0 [a9,ca,aK,aT,aL]) (
 Yu bk a2 λca=>
 aA ca (
 Ya aI (ii 1) λcd=>
 k0 [a9,cd,aK,aT,aL]) (
 Yu aZ a4 λcd=>
 aA cd (
 Ya aI (ii 1) λcb=>
 k0 [a9,cb,aK,aT,aL]) (
 Ye aY a3 λcb=>
 aA cb (
 Ya aI (ii 1) λcB=>
 k0 [a9,cB,aK,aT,aL]) (
 Yh bQ (ii 60000) λcB=>
 aA cB (
 Ya aI (ii 1) λcY=>
 k0 [a9,cY,aK,aT,aL]) (
 tl (bX [a1,aY]) λcY cR cH cK=>
 Yt cK λdE=>
 aA dE (
 Ya aI (ii 1) λdv=>
 k0 [a9,dv,aK,aT,aL]) (
 Ya cR bQ λdv=>
 Yh dv (ii 60000) λdi=>
 aA di (
 Ya aI (ii 1) λdL=>
 k0 [a9,dL,aK,aT,aL]) (
 Ya cR bQ λdL=>
 jn (ve λeQ fx fM=>
 Ya aI (ii 1) λiM=>
 k0 [bb true,iM,eQ,fx,fM]) λk1=>
 aA a9 (
 lK (c_ [aK,aT,aL,a4,dL,cH]) λeQ fx fM=>
 k1 [eQ,fx,fM]) (
 k1 [a4,dL,cH]))))))))) (
 Yz a9 λaW=>
 Yz aT λbk=>
 Yz aK λaX=>
 some [aX,bk,aL,aW])) ts
def Lh:Option (List T):=
 iter (yu c_ bX a0 a1 a2 a3 a4) R [a8,ii 0,a5,a6,a7]
theorem anl:(U8).den (pick [(221,bX),(236,c_)]) R [] [a0,a1,a2,a3,a4,a5,a6,a7,a8]=Lh R c_ bX a0 a1 a2 a3 a4 a5 a6 a7 a8:=(dR (by kernel_rfl)).trans (by kernel_rfl)
theorem anm:U9 [a0,a1,a2,a3,a4,a5,a6,a7,a8]=Lh rounds JZ ym a0 a1 a2 a3 a4 a5 a6 a7 a8:=fs_z.trans (anl rounds ..)
def vX:Option (List T):=
 (Gy λaZ bw b_ bQ bU=>
 Yn a1 λbZ=>
 Yl bw bZ λca=>
 aA ca (
 aA a2 (
 Y1 a1 bw λcb=>
 Yu cb (ii 0) λcB=>
 aA cB (
 Ya bw (ii 1) λcY=>
 k2 [aZ,cY,b_,bQ,bU]) (
 Y1 a9 bw λcR=>
 Y1 a1 bw λcK=>
 tl (ed [a0,cR,cK,a3,aN,b_,bQ,bU,aZ]) λdE dv di dL=>
 Ya bw (ii 1) λeQ=>
 k2 [dL,eQ,dE,dv,di])) (
 Y1 a9 bw λcb=>
 Y1 a1 bw λcY=>
 tl (ed [a0,cb,cY,a3,aN,b_,bQ,bU,aZ]) λcR cH cK dE=>
 Ya bw (ii 1) λdv=>
 k2 [dE,dv,cR,cH,cK])) (
 jn (ft λcd=>
 Ya aN (ii 1) λcb=>
 k1 [cd,cb]) λk3=>
 aA aZ (
 pv (.lit 3 []) [b_,bQ,bU] λcd=>
 Yo aL cd λcb=>
 k3 [cb]) (
 k3 [aL]))) ts
def vY:Option (List T):=
 (ew λaL aN=>
 Ym aN (ii 6) λaR=>
 aA aR (
 tl (bX [a5,aN]) λaW bk aX aY=>
 aA aY (
 Ya aN (ii 1) λaZ=>
 k1 [aL,aZ]) (
 iter (vX ed a0 a1 a2 a3 a9 aL aN k1) R [bb false,ii 0,ii 0,ii 0,.l []])) (
 some [aL])) ts
def vZ:Option (List T):=
 (ew λa9 aI=>
 Yn a1 λaK=>
 Yl aI aK λaT=>
 aA aT (
 Y1 a1 aI λaN=>
 bp (dm [a0,aN,a3]) λaR=>
 pv (.lit 1 []) [aR] λaW=>
 pv (.app false 1) [a9,aW] λbk=>
 Ya aI (ii 1) λaX=>
 k0 [bk,aX]) (
 iter (vY R bX ed a0 a1 a2 a3 a5 a9) R [a4,ii 1])) ts
def jL_:Option (List T):=
 pv (.lit 3 []) [] λa4=>
 bp (cX [a0,a1,a3]) λa5=>
 bp (cM [a0]) λa6=>
 Yt a6 λa7=>
 aA a7 (
 some [a4]) (
 pv (.lit 1 []) [] λa8=>
 iter (vZ R bX dm ed a0 a1 a2 a3 a4 a5) R [a8,ii 0])
theorem ano:(U').den (pick [(106,cM),(218,dm),(219,cX),(221,bX),(237,ed)]) R [] [a0,a1,a2,a3]=jL_ R cX cM bX dm ed a0 a1 a2 a3:=(dR (by kernel_rfl)).trans (by kernel_rfl)
theorem anp:Va [a0,a1,a2,a3]=jL_ rounds J0 Ax ym Ez U9 a0 a1 a2 a3:=fs_z.trans (ano rounds ..)
def v_:Option (List T):=
 (ew λaR aW=>
 Ym aW (ii 6) λbk=>
 aA bk (
 tl (bX [aT,aW]) λaX aY aZ bw=>
 aA bw (
 Ya aW (ii 1) λb_=>
 k1 [aR,b_]) (
 Ye aW a2 λb_=>
 aA b_ (
 Ya aW (ii 1) λbQ=>
 k1 [aR,bQ]) (
 tl (bX [aL,aW]) λbQ bU bZ ca=>
 Yt ca λcd=>
 aA cd (
 Yu a3 (ii 0) λcb=>
 jn (Jn λcB cY cR cH=>
 jn (ft λcK=>
 Ya aW (ii 1) λdE=>
 k1 [cK,dE]) λk2=>
 aA cH (
 pv (.lit 8 [true,true,true,true,true,false,true,true]) [a3,ii 2,a2,aW,ii 0,.l [],cY,bb false] λcK=>
 Yy aR cK λdE=>
 k2 [dE]) (
 k2 [aR])) λk2=>
 aA cb (
 tl (bX [aN,aW]) λcB cY cR cH=>
 k2 [cB,cY,cR,cH]) (
 k2 [bQ,bU,bZ,ca])) (
 jn (Jn λcb cB cY cR=>
 jn (ft λcH=>
 Ya aW (ii 1) λcK=>
 k1 [cH,cK]) λk2=>
 aA cR (
 pv (.lit 8 [true,true,true,true,true,false,true,true]) [a3,ii 2,a2,aW,ii 0,.l [],cB,bb false] λcH=>
 Yy aR cH λcK=>
 k2 [cK]) (
 k2 [aR])) λk2=>
 k2 [bQ,bU,bZ,ca])))) (
 some [aR])) ts
def wb:Option (List T):=
 (ew λa8 a9=>
 Yn a1 λaI=>
 Yl a9 aI λaK=>
 aA aK (
 Y1 a1 a9 λaL=>
 Yu aL a3 λaN=>
 jn (ft λaR=>
 Ya a9 (ii 1) λaW=>
 k0 [aR,aW]) λk1=>
 aA aN (
 Y1 a1 a9 λaW=>
 Yx aW λbk=>
 Yp a8 bk λaX=>
 k1 [aX]) (
 k1 [a8])) (
 bp (dm [a0,a3,a2]) λaT=>
 bp (cX [a0,a8,a2]) λaL=>
 bp (fg [a0,a1,bb true,a2]) λaN=>
 iter (v_ bX a2 a3 aT aL aN) R [a4,ii 1])) ts
def Li:Option (List T):=
 pv (.lit 8 []) [] λa4=>
 bp (cM [a0]) λa5=>
 Yt a5 λa6=>
 aA a6 (
 some [a4]) (
 pv (.lit 1 []) [] λa7=>
 iter (wb R fg cX bX dm a0 a1 a2 a3 a4) R [a7,ii 0])
theorem anq:(Vc).den (pick [(106,cM),(218,dm),(219,cX),(220,fg),(221,bX)]) R [] [a0,a1,a2,a3]=Li R fg cX cM bX dm a0 a1 a2 a3:=(dR (by kernel_rfl)).trans (by kernel_rfl)
theorem anr:Vd [a0,a1,a2,a3]=Li rounds Va J0 Ax ym Ez a0 a1 a2 a3:=fs_z.trans (anq rounds ..)
def yv:Option (List T):=
 (ew λaZ bw=>
 Yn aI λb_=>
 Yl bw b_ λbQ=>
 aA bQ (
 Y1 aI bw λbZ=>
 bp (iL [aY,aI,a0,bZ]) λca=>
 Yy aZ ca λcd=>
 Ya bw (ii 1) λcb=>
 k2 [cd,cb]) (
 k1 [aZ,aT,aT])) ts
def yw:Option (List T):=
 (ew λca cd=>
 Yn b_ λcb=>
 Yl cd cb λcB=>
 aA cB (
 Y8 b_ cd λcR cH cK dE dv di dL eQ=>
 bp (ci [ca,cR,cH,cK,dE,dv,di,dL,eQ]) λfx=>
 Ya cd (ii 1) λfM=>
 k2 [fx,fM]) (
 bp (bh [ca]) λcY=>
 some [cY])) ts
def xG:Option (List T):=
 (ew λb_ bQ=>
 Yn a4 λbU=>
 Yl bQ bU λbZ=>
 aA bZ (
 Y4 a4 bQ λcd cb cB cY=>
 Ye cd a0 λcR=>
 jn (ft λcH=>
 Ya bQ (ii 1) λcK=>
 k1 [cH,cK]) λk2=>
 aA cR (
 pv (.lit 8 [true,true,true,true,true,false,true,true]) [ii 9,ii 3,a0,cb,ii 0,.l [],cB,cY] λcH=>
 Yy b_ cH λcK=>
 k2 [cK]) (
 k2 [b_])) (
 iter (yw bh ci b_) R [a7,ii 0])) ts
def yx:Option (List T):=
 (ew λaT aL=>
 Yn aI λaN=>
 Yl aL aN λaR=>
 aA aR (
 Y1 aI aL λbk=>
 sb (iY [a0,a1,a2,a3,a4,a5,a6,bk]) λaX aY aZ bw b_ bQ bU bZ=>
 pv (.lit 8 []) [aX,aY,aZ,bw,b_,bQ,bU,bZ] λca=>
 Yy aT ca λcd=>
 Ya aL (ii 1) λcb=>
 k0 [cd,cb]) (
 pv (.lit 8 []) [] λaW=>
 Yy aW aT λbk=>
 bp (jO [a2,a3,a4,a0]) λaX=>
 jn (ve λaY aZ bw=>
 iter (xG R bh ci a0 a4 a7) R [aY,ii 0]) λk1=>
 aA aX (
 bp (dB [a6,aT]) λaY=>
 iter (yv iL a0 aI aT aY k1) R [bk,ii 0]) (
 k1 [bk,aT,aT]))) ts
def Lj:Option (List T):=
 pv (.lit 8 []) [] λa7=>
 bp (eH [a0,a1,a2,a3,a4,a5,a6]) λa8=>
 Yt a8 λa9=>
 aA a9 (
 some [a7]) (
 bp (fK [a2,a3,a4,a0]) λaI=>
 pv (.lit 8 []) [] λaK=>
 iter (yx R iL jO bh ci iY dB a0 a1 a2 a3 a4 a5 a6 a7 aI) R [aK,ii 0])
theorem ans:(Vf).den (pick [(20,fK),(58,eH),(62,ci),(66,bh),(67,dB),(165,iY),(166,jO),(167,iL)]) R [] [a0,a1,a2,a3,a4,a5,a6]=Lj R fK iL jO eH bh ci iY dB a0 a1 a2 a3 a4 a5 a6:=(dR (by kernel_rfl)).trans (by kernel_rfl)
theorem ant:Vg [a0,a1,a2,a3,a4,a5,a6]=Lj rounds JR Vd Ut Eu BZ B0 Uq JT a0 a1 a2 a3 a4 a5 a6:=fs_z.trans (ans rounds ..)
def E4:Option (List T):=
 bp (et [a0,a1,a2,a3,a4,a5,a6,a7,a8]) λa9=>
 Yl a9 (ii 0) λaI=>
 aA aI (
 Yz (bb false) λaK=>
 Yz (bb false) λaT=>
 Yz (ii 0) λaL=>
 Yz (ii 0) λaN=>
 Yz (ii 0) λaR=>
 Yz (ii 0) λaW=>
 Yz (ii 0) λbk=>
 Yz (ii 0) λaX=>
 some [aX,bk,aW,aR,aN,.l [],aL,aT,aK]) (
 Y8 a0 a9 λaT aL aN aR aW bk aX aY=>
 sb (bF [aT,aL,aN,aR,aW,bk,aX,aY]) λaZ bw b_ bQ bU bZ ca cd=>
 Yz (bb true) λcb=>
 Yz cd λcB=>
 Yz ca λcY=>
 Yz bU λcR=>
 Yz bQ λcH=>
 Yz b_ λcK=>
 Yz bw λdE=>
 Yz aZ λdv=>
 some [dv,dE,cK,cH,cR,bZ,cY,cB,cb])
theorem anu:(Vi).den (pick [(63,et),(65,bF)]) R [] [a0,a1,a2,a3,a4,a5,a6,a7,a8]=E4 bF et a0 a1 a2 a3 a4 a5 a6 a7 a8:=(dR (by kernel_rfl)).trans (by kernel_rfl)
theorem anv:AA [a0,a1,a2,a3,a4,a5,a6,a7,a8]=E4 xA Ew a0 a1 a2 a3 a4 a5 a6 a7 a8:=fs_z.trans (anu rounds ..)
def Oh:Option (List T):=
 (ew λbQ bU=>
 Yn a5 λbZ=>
 Yl bU bZ λca=>
 aA ca (
 Y2 a5 bU λcb cB=>
 Y2 aL bU λcR cH=>
 pv (.su [1,1]) [cb,cB,cR,cH] λcK=>
 Yt cK λdE=>
 aA dE (
 Yz (bb false) λdv=>
 some [dv]) (
 Ya bU (ii 1) λdv=>
 k0 [bQ,dv])) (
 Yz (bb true) λcd=>
 some [cd])) ts
def Lk:Option (List T):=
 bp (cr [a0,a1,a2,a3,a4,a5,a6,a7,a8,a9,aI,aK,aT,aL,aN,aR]) λaW=>
 Yt aW λbk=>
 aA bk (
 Yz (bb false) λaX=>
 some [aX]) (
 Yu a6 aN λaX=>
 aA aX (
 Yz (bb false) λaY=>
 some [aY]) (
 pv (.bb .neq) [a7,aR] λaY=>
 aA aY (
 Yz (bb false) λaZ=>
 some [aZ]) (
 Yn a5 λaZ=>
 Yn aL λbw=>
 Yu aZ bw λb_=>
 aA b_ (
 Yz (bb false) λbQ=>
 some [bQ]) (
 iter (Oh a5 aL) R [bb false,ii 0]))))
theorem anw:(Vk).den (pick [(72,cr)]) R [] [a0,a1,a2,a3,a4,a5,a6,a7,a8,a9,aI,aK,aT,aL,aN,aR]=Lk R cr a0 a1 a2 a3 a4 a5 a6 a7 a8 a9 aI aK aT aL aN aR:=(dR (by kernel_rfl)).trans (by kernel_rfl)
theorem anx:Vl [a0,a1,a2,a3,a4,a5,a6,a7,a8,a9,aI,aK,aT,aL,aN,aR]=Lk rounds Ay a0 a1 a2 a3 a4 a5 a6 a7 a8 a9 aI aK aT aL aN aR:=fs_z.trans (anw rounds ..)
def E5:Option (List T):=
 pv (.bin .mul) [ii 1000,a1] λa8=>
 Yl a7 a8 λa9=>
 aA a9 (
 pv (.bin .mul) [ii 1000,a1] λaI=>
 Ya aI (ii 1) λaK=>
 Yz aK λaT=>
 some [aT]) (
 Ya a7 (ii 1) λaI=>
 Yz aI λaK=>
 some [aK])
theorem anz:(Vn).den (pick []) R [] [a0,a1,a2,a3,a4,a5,a6,a7]=E5 a1 a7:=(dR (by kernel_rfl)).trans (by kernel_rfl)
theorem anA:Vo [a0,a1,a2,a3,a4,a5,a6,a7]=E5 a1 a7:=fs_z.trans (anz rounds ..)
def k7_:Option (List T):=
 Ye a1 (ii 1) λa8=>
 aA a8 (
 pv (.lit 2 []) [] λa9=>
 Yz a7 λaI=>
 Yz a6 λaK=>
 Yz a4 λaT=>
 Yz a3 λaL=>
 Yz a2 λaN=>
 Yz a1 λaR=>
 Yz a0 λaW=>
 some [aW,aR,aN,aL,aT,a9,aK,aI]) (
 Yz a7 λa9=>
 Yz (ii 60000) λaI=>
 Yz a4 λaK=>
 Yz a3 λaT=>
 Yz a2 λaL=>
 Yz a1 λaN=>
 Yz a0 λaR=>
 some [aR,aN,aL,aT,aK,a5,aI,a9])
theorem anB:(Vq).den (pick []) R [] [a0,a1,a2,a3,a4,a5,a6,a7]=k7_ a0 a1 a2 a3 a4 a5 a6 a7:=(dR (by kernel_rfl)).trans (by kernel_rfl)
theorem anC:Vr [a0,a1,a2,a3,a4,a5,a6,a7]=k7_ a0 a1 a2 a3 a4 a5 a6 a7:=fs_z.trans (anB rounds ..)
def ub:Option (List T):=
 (ew λaY aZ=>
 Yn aR λbw=>
 Yl aZ bw λb_=>
 aA b_ (
 Yb aR aZ λbQ=>
 Yc 8 4 aR aZ λbU=>
 Yg bU (ii 100000) λbZ=>
 aA bZ (
 D7 (cN [a0,a1,a2,a3,a4,a5,a6]) λca cd cb cB cY cR cH=>
 pv (.lit 8 []) [] λcK=>
 Yz cb λdE=>
 Yz cd λdv=>
 Yz ca λdi=>
 some [di,dv,dE,cB,cY,cR,cH,cK]) (
 Ya aZ (ii 1) λca=>
 k2 [aY,ca])) (
 D7 (cN [a0,a1,a2,a3,a4,a5,a6]) λbQ bU bZ ca cd cb cB=>
 bp (dB [a6,aR]) λcY=>
 bp (bh [cY]) λcR=>
 Yn cR λcH=>
 Yg cH (ii 150) λcK=>
 aA cK (
 D7 (cN [a0,a1,a2,a3,a4,a5,a6]) λdE dv di dL eQ fx fM=>
 pv (.lit 8 []) [] λiM=>
 Yz di λjT=>
 Yz dv λlh=>
 Yz dE λlZ=>
 some [lZ,lh,jT,dL,eQ,fx,fM,iM]) (
 bp (bh [aR]) λdE=>
 Yz bZ λdv=>
 Yz bU λdi=>
 Yz bQ λdL=>
 some [dL,di,dv,ca,cd,cb,cR,dE]))) ts
def uc:Option (List T):=
 (ew λaR aW=>
 Yn a6 λbk=>
 Yl aW bk λaX=>
 aA aX (
 Y8 a6 aW λaZ bw b_ bQ bU bZ ca cd=>
 Yu b_ a0 λcb=>
 aA cb (
 Ya aW (ii 1) λcB=>
 k1 [aR,cB]) (
 bp (et [a9,aZ,bw,b_,bQ,bU,bZ,ca,cd]) λcB=>
 Yh cB (ii 0) λcY=>
 aA cY (
 Ya aW (ii 1) λcR=>
 k1 [aR,cR]) (
 sb (bF [aZ,bw,b_,bQ,bU,bZ,ca,cd]) λcR cH cK dE dv di dL eQ=>
 sb (fL [cR,cH,cK,dE,dv,di,dL,eQ]) λfx fM iM jT lh lZ kf jq=>
 bp (fh [fx,fM,iM,jT,lh,lZ,kf,jq,aZ,bw,b_,bQ,bU,bZ,ca,cd]) λlL=>
 aA lL (
 Ya aW (ii 1) λkK=>
 k1 [aR,kK]) (
 sb (bF [aZ,bw,b_,bQ,bU,bZ,ca,cd]) λkK li lz l7 jF mB oh nH=>
 sb (fL [kK,li,lz,l7,jF,mB,oh,nH]) λsd xE B6 yn vk B7 E1 xF=>
 bp (fG [a0,a1,a2,a3,a4,a5,a6,bU]) λua=>
 bp (ci [aR,sd,xE,B6,yn,ua,B7,E1,xF]) λyo=>
 Ya aW (ii 1) λE2=>
 k1 [yo,E2])))) (
 iter (ub bh cN dB a0 a1 a2 a3 a4 a5 a6 aR) R [.l [],ii 0])) ts
def ud:Option (List T):=
 (ew λaK aT=>
 Yn a9 λaL=>
 Yl aT aL λaN=>
 aA aN (
 Y8 a9 aT λaW bk aX aY aZ bw b_ bQ=>
 D8 (mQ [a6,aW,bk,aX,aY,aZ,bw,b_,bQ]) λbU bZ ca cd cb cB cY cR cH=>
 aA cH (
 Y8 a9 aT λdE dv di dL eQ fx fM iM=>
 bp (fh [bU,bZ,ca,cd,cb,cB,cY,cR,dE,dv,di,dL,eQ,fx,fM,iM]) λjT=>
 aA jT (
 Ya aT (ii 1) λlh=>
 k0 [aK,lh]) (
 Y8 a9 aT λlZ kf jq lL kK li lz l7=>
 bp (fG [a0,a1,a2,a3,a4,a5,a6,cb]) λjF=>
 bp (ci [aK,lZ,kf,jq,lL,jF,li,lz,l7]) λmB=>
 Ya aT (ii 1) λoh=>
 k0 [mB,oh])) (
 Y8 a9 aT λdE dv di dL eQ fx fM iM=>
 bp (fG [a0,a1,a2,a3,a4,a5,a6,cb]) λjT=>
 bp (ci [aK,dE,dv,di,dL,jT,fx,fM,iM]) λlh=>
 Ya aT (ii 1) λlZ=>
 k0 [lh,lZ])) (
 iter (uc R fh bF bh et ci fL cN fG dB a0 a1 a2 a3 a4 a5 a6 a9) R [aK,ii 0])) ts
def E6:Option (List T):=
 bp (eH [a0,a1,a2,a3,a4,a5,a6]) λa7=>
 Yt a7 λa8=>
 aA a8 (
 D7 (cN [a0,a1,a2,a3,a4,a5,a6]) λa9 aI aK aT aL aN aR=>
 pv (.lit 8 []) [] λaW=>
 Yz aK λbk=>
 Yz aI λaX=>
 Yz a9 λaY=>
 some [aY,aX,bk,aT,aL,aN,aR,aW]) (
 bp (mj [a0,a1,a2,a3,a4,a5,a6]) λa9=>
 pv (.lit 8 []) [] λaI=>
 iter (ud R mQ fh bF bh et ci fL cN fG dB a0 a1 a2 a3 a4 a5 a6 a9) R [aI,ii 0])
theorem anD:(Vt).den (pick [(15,mQ),(19,fh),(58,eH),(59,cN),(60,mj),(61,fG),(62,ci),(63,et),(64,fL),(65,bF),(66,bh),(67,dB)]) R [] [a0,a1,a2,a3,a4,a5,a6]=E6 R mQ fh eH mj bF bh et ci fL cN fG dB a0 a1 a2 a3 a4 a5 a6:=(dR (by kernel_rfl)).trans (by kernel_rfl)
theorem Yd:AB [a0,a1,a2,a3,a4,a5,a6]=E6 rounds AA Vl Eu Vg xA BZ Ew B0 Vr GF Vo JT a0 a1 a2 a3 a4 a5 a6:=fs_z.trans (anD rounds ..)
def GU:Option (List T):=
 (ew λaI aK=>
 Ym aI (ii 2) λaT=>
 aA aT (
 bp (ch [a0,a1,a2,a3,a7,aI]) λaL=>
 Yg aL (ii 0) λaN=>
 jn (ft λaR=>
 Ya aI (ii 1) λaW=>
 k1 [aW,aR]) λk2=>
 aA aN (
 pv (.lit 4 [true,true,true,true]) [a7,aI,ii 0,bb false] λaR=>
 pv (.app true 4) [aK,aR] λaW=>
 k2 [aW]) (
 k2 [aK])) (
 Ya a7 (ii 1) λaL=>
 k0 [aL,aK])) ts
def GV:Option (List T):=
 (ew λa7 a8=>
 Ym a7 a0 λa9=>
 aA a9 (
 iter (GU ch a0 a1 a2 a3 a7 k0) R [ii 0,a8]) (
 sb (lu [a3,a4,a0,a1,a2,.l [],.l []]) λaI aK aT aL aN aR aW bk=>
 Yz (bb true) λaX=>
 Yz aT λaY=>
 Yz aK λaZ=>
 Yz aI λbw=>
 some [bw,aZ,aY,aL,aN,aR,aW,a8,aX])) ts
def E7:Option (List T):=
 bp (eH [a3,a4,a0,a1,a2,.l [],.l []]) λa5=>
 Yt a5 λa6=>
 aA a6 (
 Yz (bb false) λa7=>
 Yz (ii 0) λa8=>
 Yz (ii 0) λa9=>
 Yz (ii 0) λaI=>
 some [aI,a9,a8,.l [],.l [],.l [],.l [],.l [],a7]) (
 iter (GV R ch lu a0 a1 a2 a3 a4) R [ii 1,.l []])
theorem anE:(Vv).den (pick [(12,lu),(58,eH),(150,ch)]) R [] [a0,a1,a2,a3,a4]=E7 R ch lu eH a0 a1 a2 a3 a4:=(dR (by kernel_rfl)).trans (by kernel_rfl)
theorem Yf:Vw [a0,a1,a2,a3,a4]=E7 rounds Aw AB Eu a0 a1 a2 a3 a4:=fs_z.trans (anE rounds ..)
def Ll:Option (List T):=
 D7 (cN [a0,a1,a2,a3,a4,a5,a6]) λa8 a9 aI aK aT aL aN=>
 pv (.lit 4 []) [] λaR=>
 pv (.app true 4) [aR,a7] λaW=>
 Yz aI λbk=>
 Yz a9 λaX=>
 Yz a8 λaY=>
 some [aY,aX,bk,aK,aT,aL,aN,aW]
theorem anF:(Vy).den (pick [(59,cN)]) R [] [a0,a1,a2,a3,a4,a5,a6,a7]=Ll cN a0 a1 a2 a3 a4 a5 a6 a7:=(dR (by kernel_rfl)).trans (by kernel_rfl)
theorem anG:Vz [a0,a1,a2,a3,a4,a5,a6,a7]=Ll GF a0 a1 a2 a3 a4 a5 a6 a7:=fs_z.trans (anF rounds ..)
def yz:Option (List T):=
 (ew λyn vk=>
 Yn jq λB7=>
 Yl vk B7 λE1=>
 aA E1 (
 aA yn (
 Ya vk (ii 1) λxF=>
 k3 [bb true,xF]) (
 Y8 jq vk λua yo E2 GS X3 Od a70 a71=>
 bp (cr [ua,yo,E2,GS,X3,Od,a70,a71,lz,l7,jF,mB,oh,nH,sd,xE]) λa72=>
 aA a72 (
 Yb jq vk λX4=>
 Yc 8 4 jq vk λa74=>
 Ye a74 oh λa75=>
 Ya vk (ii 1) λa76=>
 k3 [a75,a76]) (
 Ya vk (ii 1) λX4=>
 k3 [bb false,X4]))) (
 Yt yn λxF=>
 jn (ft λua=>
 Ya kf (ii 1) λyo=>
 k2 [yo,ua]) λk4=>
 aA xF (
 pv (.lit 8 []) [] λua=>
 Yy ua jq λyo=>
 sb (bF [lz,l7,jF,mB,oh,nH,sd,xE]) λE2 GS X3 Od a70 a71 a72 X4=>
 pv (.lit 8 [true,true,true,true,true,false,true,true]) [E2,GS,X3,Od,a70,a71,a72,X4] λa74=>
 Yy yo a74 λa75=>
 k4 [a75]) (
 k4 [jq]))) ts
def yA:Option (List T):=
 (ew λkf jq=>
 Yn lZ λlL=>
 Yl kf lL λkK=>
 aA kK (
 Y8 lZ kf λlz l7 jF mB oh nH sd xE=>
 Yu jF aL λB6=>
 aA B6 (
 Ya kf (ii 1) λyn=>
 k2 [yn,jq]) (
 iter (yz cr bF kf jq lz l7 jF mB oh nH sd xE k2) R [bb false,ii 0])) (
 Ya aL (ii 1) λli=>
 k1 [li,cB,cR,iM,jq])) ts
def AX:Option (List T):=
 (Gy λaL aN aR aW bk=>
 Ym aL a0 λaX=>
 aA aX (
 D8 (gQ [a0,a1,a2,aL,ii 0]) λaY aZ bw b_ bQ bU bZ ca cd=>
 Yx (bb true) λcb=>
 Yp aN cb λcB=>
 Yx (ii 0) λcY=>
 Yp aR cY λcR=>
 sb (gR [aY,aZ,bw,b_,bQ,bU,bZ,ca]) λcH cK dE dv di dL eQ fx=>
 pv (.lit 8 [true,true,true,false,false,false,false,false]) [cH,cK,dE,dv,di,dL,eQ,fx] λfM=>
 Yy aW fM λiM=>
 Ys aL (ii 1) λjT=>
 Yb iM jT λlh=>
 Yc 8 6 iM jT λlZ=>
 iter (yA R cr bF aL cB cR iM lZ k1) R [ii 0,bk]) (
 Yz (bb true) λaY=>
 Yz (ii 0) λaZ=>
 Yz a0 λbw=>
 some [bw,a6,a8,aI,aN,aR,aW,.l [],bk,aZ,aY])) ts
def AY:Option (List T):=
 (ew λa9 aI=>
 Yn a1 λaK=>
 Yl a9 aK λaT=>
 aA aT (
 Yx (bb true) λaL=>
 Yp aI aL λaN=>
 Ya a9 (ii 1) λaR=>
 k0 [aR,aN]) (
 iter (AX R gQ cr bF gR a0 a1 a2 a6 a8 aI) R [ii 1,.l [],.l [],.l [],.l []])) ts
def kM_:Option (List T):=
 bp (iE [a0,a1,a2]) λa3=>
 Yt a3 λa4=>
 aA a4 (
 Yz (bb false) λa5=>
 Yz (ii 0) λa6=>
 Yz (ii 0) λa7=>
 some [a7,.l [],.l [],.l [],.l [],.l [],.l [],.l [],.l [],a6,a5]) (
 pv (.lit 4 []) [] λa5=>
 pv (.app true 4) [a5,a1] λa6=>
 pv (.lit 4 []) [] λa7=>
 pv (.app true 4) [a7,a2] λa8=>
 iter (AY R gQ cr bF gR a0 a1 a2 a6 a8) R [ii 0,.l []])
theorem anH:(VB).den (pick [(65,bF),(72,cr),(97,gR),(132,iE),(133,gQ)]) R [] [a0,a1,a2]=kM_ R iE gQ cr bF gR a0 a1 a2:=(dR (by kernel_rfl)).trans (by kernel_rfl)
theorem anI:VC [a0,a1,a2]=kM_ rounds JO Vw Ay xA Vz a0 a1 a2:=fs_z.trans (anH rounds ..)
def Lm:Option (List T):=
 Yh a0 a1 λa3=>
 aA a3 (
 Ym a0 a2 λa4=>
 Yz a4 λa5=>
 some [a5]) (
 Yz (bb false) λa4=>
 some [a4])
theorem anJ:(VE).den (pick []) R [] [a0,a1,a2]=Lm a0 a1 a2:=(dR (by kernel_rfl)).trans (by kernel_rfl)
theorem anK:vi [a0,a1,a2]=Lm a0 a1 a2:=fs_z.trans (anJ rounds ..)
def Ln:Option (List T):=
 bp (b8 [a0,ii 1,ii 6]) λa5=>
 aA a5 (
 bp (b8 [a1,ii 1,a0]) λa6=>
 aA a6 (
 bp (b8 [a2,ii 1,a0]) λa7=>
 aA a7 (
 Yl a1 a2 λa8=>
 aA a8 (
 bp (b8 [a3,ii 1,ii 1000]) λa9=>
 aA a9 (
 bp (b8 [a4,ii 0,ii 2]) λaI=>
 Yz aI λaK=>
 some [aK]) (
 Yz (bb false) λaI=>
 some [aI])) (
 Yz (bb false) λa9=>
 some [a9])) (
 Yz (bb false) λa8=>
 some [a8])) (
 Yz (bb false) λa7=>
 some [a7])) (
 Yz (bb false) λa6=>
 some [a6])
theorem anL:(VG).den (pick [(69,b8)]) R [] [a0,a1,a2,a3,a4]=Ln b8 a0 a1 a2 a3 a4:=(dR (by kernel_rfl)).trans (by kernel_rfl)
theorem anM:VH [a0,a1,a2,a3,a4]=Ln vi a0 a1 a2 a3 a4:=fs_z.trans (anL rounds ..)
def Lp:Option (List T):=
 Yu a0 a4 λa8=>
 aA a8 (
 Yl a0 a4 λa9=>
 Yz a9 λaI=>
 some [aI]) (
 Yu a1 a5 λa9=>
 aA a9 (
 Yl a1 a5 λaI=>
 Yz aI λaK=>
 some [aK]) (
 Yl a3 a7 λaI=>
 Yz aI λaK=>
 some [aK]))
theorem anN:(VJ).den (pick []) R [] [a0,a1,a2,a3,a4,a5,a6,a7]=Lp a0 a1 a3 a4 a5 a7:=(dR (by kernel_rfl)).trans (by kernel_rfl)
theorem anO:AC [a0,a1,a2,a3,a4,a5,a6,a7]=Lp a0 a1 a3 a4 a5 a7:=fs_z.trans (anN rounds ..)
def Lq:Option (List T):=
 Yl a1 a5 λa8=>
 aA a8 (
 Yz (bb true) λa9=>
 some [a9]) (
 Ye a1 a5 λa9=>
 aA a9 (
 Yl a0 a4 λaI=>
 Yz aI λaK=>
 some [aK]) (
 Yz (bb false) λaI=>
 some [aI]))
theorem anP:(VL).den (pick []) R [] [a0,a1,a2,a3,a4,a5,a6,a7]=Lq a0 a1 a4 a5:=(dR (by kernel_rfl)).trans (by kernel_rfl)
theorem anQ:AD [a0,a1,a2,a3,a4,a5,a6,a7]=Lq a0 a1 a4 a5:=fs_z.trans (anP rounds ..)
def Lr:Option (List T):=
 (ew λaN aR=>
 Yl aR aL λaW=>
 aA aW (
 Y4 a2 aR λaX aY aZ bw=>
 bp (b8 [aY,ii 1,ii 9]) λb_=>
 Yt b_ λbQ=>
 aA bQ (
 Yz (bb false) λbU=>
 some [bU]) (
 bp (b8 [aX,ii 1,a0]) λbU=>
 Yt bU λbZ=>
 aA bZ (
 Yz (bb false) λca=>
 some [ca]) (
 bp (b8 [aZ,ii 1,ii 1000]) λca=>
 Yt ca λcd=>
 aA cd (
 Yz (bb false) λcb=>
 some [cb]) (
 Yg aR (ii 0) λcb=>
 aA cb (
 Ys aR (ii 1) λcB=>
 Y4 a2 cB λcR cH cK dE=>
 bp (ld [cR,cH,cK,dE,aX,aY,aZ,bw]) λdv=>
 Yt dv λdi=>
 aA di (
 Yz (bb false) λdL=>
 some [dL]) (
 Ya aR (ii 1) λdL=>
 k1 [aN,dL])) (
 Ya aR (ii 1) λcB=>
 k1 [aN,cB]))))) (
 Yz (bb true) λbk=>
 some [bk])) ts
def Ls:Option (List T):=
 (ew λaI aK=>
 Yl aK a9 λaT=>
 aA aT (
 Y4 a1 aK λaN aR aW bk=>
 bp (jL [a0,aN,aR,aW,bk]) λaX=>
 Yt aX λaY=>
 aA aY (
 Yz (bb false) λaZ=>
 some [aZ]) (
 Yg aK (ii 0) λaZ=>
 aA aZ (
 Ys aK (ii 1) λbw=>
 Y4 a1 bw λbQ bU bZ ca=>
 bp (lr [bQ,bU,bZ,ca,aN,aR,aW,bk]) λcd=>
 Yt cd λcb=>
 aA cb (
 Yz (bb false) λcB=>
 some [cB]) (
 Ya aK (ii 1) λcB=>
 k0 [aI,cB])) (
 Ya aK (ii 1) λbw=>
 k0 [aI,bw]))) (
 Yn a2 λaL=>
 iter (Lr b8 ld a0 a2 aL) R [aI,ii 0])) ts
def Lt:Option (List T):=
 bp (b8 [a0,ii 1,ii 6]) λa3=>
 Yt a3 λa4=>
 aA a4 (
 Yz (bb false) λa5=>
 some [a5]) (
 Yn a1 λa5=>
 Yg a5 (ii 12) λa6=>
 aA a6 (
 Yz (bb false) λa7=>
 some [a7]) (
 Yn a2 λa7=>
 Yg a7 (ii 4) λa8=>
 aA a8 (
 Yz (bb false) λa9=>
 some [a9]) (
 Yn a1 λa9=>
 iter (Ls R jL lr b8 ld a0 a1 a2 a9) R [bb false,ii 0])))
theorem anR:(VN).den (pick [(69,b8),(169,jL),(170,lr),(171,ld)]) R [] [a0,a1,a2]=Lt R jL lr b8 ld a0 a1 a2:=(dR (by kernel_rfl)).trans (by kernel_rfl)
theorem anS:J1 [a0,a1,a2]=Lt rounds VH AC vi AD a0 a1 a2:=fs_z.trans (anR rounds ..)
def Yi:Option (List T):=
 pv (.app true 4) [.l [],a1] λa3=>
 pv (.app true 4) [.l [],a2] λa4=>
 Yz a0 λa5=>
 some [a5,a3,a4]
theorem anT:(VQ).den (pick []) R [] [a0,a1,a2]=Yi a0 a1 a2:=(dR (by kernel_rfl)).trans (by kernel_rfl)
theorem Lu:AE [a0,a1,a2]=Yi a0 a1 a2:=fs_z.trans (anT rounds ..)
def jB_:Option (List T):=
 (ew λa7 a8=>
 Yl a8 a6 λa9=>
 aA a9 (
 Y4 a1 a8 λaK aT aL aN=>
 Ye aN a5 λaR=>
 aA aR (
 Ye aK a3 λaW=>
 aA aW (
 Ye aT a4 λbk=>
 aA bk (
 Yz a8 λaX=>
 some [aX]) (
 Ye aK a4 λaX=>
 aA aX (
 Ye aT a3 λaY=>
 aA aY (
 Yz a8 λaZ=>
 some [aZ]) (
 Ya a8 (ii 1) λaZ=>
 k0 [a7,aZ])) (
 Ya a8 (ii 1) λaY=>
 k0 [a7,aY]))) (
 Ye aK a4 λbk=>
 aA bk (
 Ye aT a3 λaX=>
 aA aX (
 Yz a8 λaY=>
 some [aY]) (
 Ya a8 (ii 1) λaY=>
 k0 [a7,aY])) (
 Ya a8 (ii 1) λaX=>
 k0 [a7,aX]))) (
 Ya a8 (ii 1) λaW=>
 k0 [a7,aW])) (
 Yz (ii (-1)) λaI=>
 some [aI])) ts
def Lv:Option (List T):=
 Yn a1 λa6=>
 iter (jB_ a1 a3 a4 a5 a6) R [ii 0,ii 0]
theorem anU:(VS).den (pick []) R [] [a0,a1,a2,a3,a4,a5]=Lv R a1 a3 a4 a5:=(dR (by kernel_rfl)).trans (by kernel_rfl)
theorem anV:EB [a0,a1,a2,a3,a4,a5]=Lv rounds a1 a3 a4 a5:=fs_z.trans (anU rounds ..)
def q8_:Option (List T):=
 (ew λaI aK=>
 Yn a5 λaT=>
 Yl aK aT λaL=>
 aA aL (
 Y1 a5 aK λaR=>
 Ya aK (ii 1) λaW=>
 Y1 a5 aW λaX=>
 bp (dl [a2,a3,a4,a0,aR,aX]) λaY=>
 Yl aY (ii 0) λaZ=>
 aA aZ (
 Yz (bb false) λbw=>
 some [bw]) (
 Yg aK (ii 0) λbw=>
 aA bw (
 Ys aK (ii 2) λb_=>
 Y1 a5 b_ λbU=>
 Yg bU aR λbZ=>
 aA bZ (
 Yz (bb false) λca=>
 some [ca]) (
 Ys aK (ii 2) λca=>
 Y1 a5 ca λcb=>
 Ye cb aR λcB=>
 aA cB (
 Ys aK (ii 1) λcY=>
 Y1 a5 cY λcH=>
 Yh cH aX λcK=>
 aA cK (
 Yz (bb false) λdE=>
 some [dE]) (
 Ya aK (ii 2) λdE=>
 k0 [aI,dE])) (
 Ya aK (ii 2) λcY=>
 k0 [aI,cY]))) (
 Ya aK (ii 2) λb_=>
 k0 [aI,b_]))) (
 Yz (bb true) λaN=>
 some [aN])) ts
def Lw:Option (List T):=
 Yn a5 λa7=>
 pv (.bin .rem) [a7,ii 2] λa8=>
 Yu a8 (ii 0) λa9=>
 aA a9 (
 Yz (bb false) λaI=>
 some [aI]) (
 iter (q8_ dl a0 a2 a3 a4 a5) R [bb false,ii 0])
theorem anW:(VU).den (pick [(172,dl)]) R [] [a0,a1,a2,a3,a4,a5,a6]=Lw R dl a0 a2 a3 a4 a5:=(dR (by kernel_rfl)).trans (by kernel_rfl)
theorem anX:VV [a0,a1,a2,a3,a4,a5,a6]=Lw rounds EB a0 a2 a3 a4 a5:=fs_z.trans (anW rounds ..)
def jz_:Option (List T):=
 (ew λa9 aI=>
 Yl aI a8 λaK=>
 aA aK (
 Y2 a5 aI λaL aN=>
 bp (b8 [aL,ii 1,ii 6]) λaR=>
 Yt aR λaW=>
 aA aW (
 Yz (bb false) λbk=>
 some [bk]) (
 Ye aL a2 λbk=>
 aA bk (
 Yz (bb false) λaX=>
 some [aX]) (
 bp (b8 [aN,ii 1,ii 1000]) λaX=>
 Yt aX λaY=>
 aA aY (
 Yz (bb false) λaZ=>
 some [aZ]) (
 Yg aI (ii 0) λaZ=>
 aA aZ (
 Ys aI (ii 1) λbw=>
 Yb a5 bw λb_=>
 Yc 2 0 a5 bw λbQ=>
 Yh bQ aL λbU=>
 aA bU (
 Yz (bb false) λbZ=>
 some [bZ]) (
 Ya aI (ii 1) λbZ=>
 k0 [a9,bZ])) (
 Ya aI (ii 1) λbw=>
 k0 [a9,bw]))))) (
 Yz (bb true) λaT=>
 some [aT])) ts
def Lx:Option (List T):=
 Yn a5 λa8=>
 iter (jz_ b8 a2 a5 a8) R [bb false,ii 0]
theorem anY:(VX).den (pick [(69,b8)]) R [] [a0,a1,a2,a3,a4,a5,a6,a7]=Lx R b8 a2 a5:=(dR (by kernel_rfl)).trans (by kernel_rfl)
theorem anZ:VY [a0,a1,a2,a3,a4,a5,a6,a7]=Lx rounds vi a2 a5:=fs_z.trans (anY rounds ..)
def Ly:Option (List T):=
 bp (b8 [a2,ii 1,ii 6]) λa8=>
 Yt a8 λa9=>
 aA a9 (
 Yz (bb false) λaI=>
 some [aI]) (
 bp (b8 [a4,ii 1,ii 100000]) λaI=>
 Yt aI λaK=>
 aA aK (
 Yz (bb false) λaT=>
 some [aT]) (
 Ye a1 (ii 1) λaT=>
 aA aT (
 bp (b8 [a0,ii 0,ii 2]) λaL=>
 aA aL (
 Ye a3 (ii 0) λaN=>
 aA aN (
 bp (mi [a0,a1,a2,a3,a4,a5,a6,a7]) λaR=>
 aA aR (
 Ye a6 (ii 0) λaW=>
 aA aW (
 Yt a7 λbk=>
 Yz bk λaX=>
 some [aX]) (
 Yz (bb false) λbk=>
 some [bk])) (
 Yz (bb false) λaW=>
 some [aW])) (
 Yz (bb false) λaR=>
 some [aR])) (
 Yz (bb false) λaN=>
 some [aN])) (
 Ye a1 (ii 2) λaL=>
 aA aL (
 bp (b8 [a0,ii 0,ii 2]) λaN=>
 aA aN (
 bp (b8 [a3,ii 1,ii 6]) λaR=>
 aA aR (
 Yn a5 λaW=>
 Ye aW (ii 0) λbk=>
 aA bk (
 bp (b8 [a6,ii 0,ii 60000]) λaX=>
 aA aX (
 Yt a7 λaY=>
 Yz aY λaZ=>
 some [aZ]) (
 Yz (bb false) λaY=>
 some [aY])) (
 Yz (bb false) λaX=>
 some [aX])) (
 Yz (bb false) λaW=>
 some [aW])) (
 Yz (bb false) λaR=>
 some [aR])) (
 Ye a1 (ii 3) λaN=>
 aA aN (
 Ye a0 (ii 9) λaR=>
 aA aR (
 bp (b8 [a3,ii 1,ii 9]) λaW=>
 aA aW (
 Yn a5 λbk=>
 Ye bk (ii 0) λaX=>
 aA aX (
 bp (b8 [a6,ii 1,ii 1000]) λaY=>
 aA aY (
 Yz (bb true) λaZ=>
 some [aZ]) (
 Ye a6 (ii 60000) λaZ=>
 Yz aZ λbw=>
 some [bw])) (
 Yz (bb false) λaY=>
 some [aY])) (
 Yz (bb false) λbk=>
 some [bk])) (
 Yz (bb false) λaW=>
 some [aW])) (
 Yz (bb false) λaR=>
 some [aR])))))
theorem an0:(V0).den (pick [(69,b8),(222,mi)]) R [] [a0,a1,a2,a3,a4,a5,a6,a7]=Ly b8 mi a0 a1 a2 a3 a4 a5 a6 a7:=(dR (by kernel_rfl)).trans (by kernel_rfl)
theorem an1:V1 [a0,a1,a2,a3,a4,a5,a6,a7]=Ly vi VY a0 a1 a2 a3 a4 a5 a6 a7:=fs_z.trans (an0 rounds ..)
def Lz:Option (List T):=
 Yu a0 a8 λaW=>
 aA aW (
 Yl a0 a8 λbk=>
 Yz bk λaX=>
 some [aX]) (
 Yu a1 a9 λbk=>
 aA bk (
 Yl a1 a9 λaX=>
 Yz aX λaY=>
 some [aY]) (
 Yu a2 aI λaX=>
 aA aX (
 Yl a2 aI λaY=>
 Yz aY λaZ=>
 some [aZ]) (
 Yl a3 aK λaY=>
 Yz aY λaZ=>
 some [aZ])))
theorem an2:(V3).den (pick []) R [] [a0,a1,a2,a3,a4,a5,a6,a7,a8,a9,aI,aK,aT,aL,aN,aR]=Lz a0 a1 a2 a3 a8 a9 aI aK:=(dR (by kernel_rfl)).trans (by kernel_rfl)
theorem an3:J4 [a0,a1,a2,a3,a4,a5,a6,a7,a8,a9,aI,aK,aT,aL,aN,aR]=Lz a0 a1 a2 a3 a8 a9 aI aK:=fs_z.trans (an2 rounds ..)
def qZ_:Option (List T):=
 (ew λa2 a3=>
 Yl a3 a1 λa4=>
 aA a4 (
 Y8 a0 a3 λa6 a7 a8 a9 aI aK aT aL=>
 bp (il [a6,a7,a8,a9,aI,aK,aT,aL]) λaN=>
 Yt aN λaR=>
 aA aR (
 Yz (bb false) λaW=>
 some [aW]) (
 Yg a3 (ii 0) λaW=>
 aA aW (
 Ys a3 (ii 1) λbk=>
 Y8 a0 bk λaY aZ bw b_ bQ bU bZ ca=>
 bp (e_ [aY,aZ,bw,b_,bQ,bU,bZ,ca,a6,a7,a8,a9,aI,aK,aT,aL]) λcd=>
 Yt cd λcb=>
 aA cb (
 Yz (bb false) λcB=>
 some [cB]) (
 Ya a3 (ii 1) λcB=>
 k0 [a2,cB])) (
 Ya a3 (ii 1) λbk=>
 k0 [a2,bk]))) (
 Yn a0 λa5=>
 Ym a5 (ii 150) λa6=>
 Yz a6 λa7=>
 some [a7])) ts
def LA:Option (List T):=
 Yn a0 λa1=>
 iter (qZ_ e_ il a0 a1) R [bb false,ii 0]
theorem an4:(V6).den (pick [(162,e_),(173,il)]) R [] [a0]=LA R e_ il a0:=(dR (by kernel_rfl)).trans (by kernel_rfl)
theorem an5:J5 [a0]=LA rounds J4 V1 a0:=fs_z.trans (an4 rounds ..)
def LB:Option (List T):=
 bp (iD [a2,a3,a4]) λa7=>
 aA a7 (
 bp (b8 [a0,ii 1,a2]) λa8=>
 aA a8 (
 bp (b8 [a1,ii 0,ii 90]) λa9=>
 aA a9 (
 bp (lc [a0,a1,a2,a3,a4,a5,a6]) λaI=>
 aA aI (
 bp (fJ [a6]) λaK=>
 Yz aK λaT=>
 some [aT]) (
 Yz (bb false) λaK=>
 some [aK])) (
 Yz (bb false) λaI=>
 some [aI])) (
 Yz (bb false) λa9=>
 some [a9])) (
 Yz (bb false) λa8=>
 some [a8])
theorem an6:(V9).den (pick [(68,iD),(69,b8),(70,lc),(71,fJ)]) R [] [a0,a1,a2,a3,a4,a5,a6]=LB iD fJ lc b8 a0 a1 a2 a3 a4 a5 a6:=(dR (by kernel_rfl)).trans (by kernel_rfl)
theorem an7:EC [a0,a1,a2,a3,a4,a5,a6]=LB J1 J5 VV vi a0 a1 a2 a3 a4 a5 a6:=fs_z.trans (an6 rounds ..)
def LC:Option (List T):=
 Yp (.l []) a0 λa1=>
 some [a1]
theorem an8:(V').den (pick []) R [] [a0]=LC a0:=(dR (by kernel_rfl)).trans (by kernel_rfl)
theorem an9:vj [a0]=LC a0:=fs_z.trans (an8 rounds ..)
def kQ_:Option (List T):=
 pv (.app true 2) [.l [],a5] λa8=>
 Yz a7 λa9=>
 Yz a6 λaI=>
 Yz a4 λaK=>
 Yz a3 λaT=>
 Yz a2 λaL=>
 Yz a1 λaN=>
 Yz a0 λaR=>
 some [aR,aN,aL,aT,aK,a8,aI,a9]
theorem an':(Wc).den (pick []) R [] [a0,a1,a2,a3,a4,a5,a6,a7]=kQ_ a0 a1 a2 a3 a4 a5 a6 a7:=(dR (by kernel_rfl)).trans (by kernel_rfl)
theorem aoa:J7 [a0,a1,a2,a3,a4,a5,a6,a7]=kQ_ a0 a1 a2 a3 a4 a5 a6 a7:=fs_z.trans (an' rounds ..)
def vU_:Option (List T):=
 (ew λa2 a3=>
 Yl a3 a1 λa4=>
 aA a4 (
 Y8 a0 a3 λa6 a7 a8 a9 aI aK aT aL=>
 sb (cI [a6,a7,a8,a9,aI,aK,aT,aL]) λaN aR aW bk aX aY aZ bw=>
 pv (.lit 8 [true,true,true,true,true,false,true,true]) [aN,aR,aW,bk,aX,aY,aZ,bw] λb_=>
 Yy a2 b_ λbQ=>
 Ya a3 (ii 1) λbU=>
 k0 [bQ,bU]) (
 some [a2])) ts
def kG_:Option (List T):=
 Yn a0 λa1=>
 iter (vU_ cI a0 a1) R [.l [],ii 0]
theorem aoc:(Wf).den (pick [(161,cI)]) R [] [a0]=kG_ R cI a0:=(dR (by kernel_rfl)).trans (by kernel_rfl)
theorem aod:AF [a0]=kG_ rounds J7 a0:=fs_z.trans (aoc rounds ..)
def LD:Option (List T):=
 lK (dW [a2,a3,a4]) λa7 a8 a9=>
 bp (aE [a5]) λaI=>
 bp (aP [a6]) λaK=>
 Yz a7 λaT=>
 Yz a1 λaL=>
 Yz a0 λaN=>
 some [aN,aL,aT,a8,a9,aI,aK]
theorem aoe:(Wh).den (pick [(56,aP),(90,dW),(156,aE)]) R [] [a0,a1,a2,a3,a4,a5,a6]=LD aE dW aP a0 a1 a2 a3 a4 a5 a6:=(dR (by kernel_rfl)).trans (by kernel_rfl)
theorem aof:Wi [a0,a1,a2,a3,a4,a5,a6]=LD vj AE AF a0 a1 a2 a3 a4 a5 a6:=fs_z.trans (aoe rounds ..)
def tC:Option (List T):=
 (ft λaR=>
 Yn a5 λaW=>
 Yl aR aW λbk=>
 aA bk (
 Yq a5 aR λaY=>
 Yl aY aT λaZ=>
 aA aZ (
 Ya aR (ii 1) λbw=>
 k2 [bw]) (
 Yn a5 λbw=>
 Yl aR bw λb_=>
 aA b_ (
 Yq a5 aR λbU=>
 Ye bU aT λbZ=>
 aA bZ (
 k1 [a5]) (
 Yw a5 aR λca=>
 bp (aE [ca]) λcd=>
 Yx aT λcb=>
 Yp cd cb λcB=>
 Yv a5 aR λcY=>
 Yp cB cY λcR=>
 k1 [cR])) (
 Yw a5 aR λbQ=>
 bp (aE [bQ]) λbU=>
 Yx aT λbZ=>
 Yp bU bZ λca=>
 Yv a5 aR λcd=>
 Yp ca cd λcb=>
 k1 [cb]))) (
 Yn a5 λaX=>
 Yl aR aX λaY=>
 aA aY (
 Yq a5 aR λbw=>
 Ye bw aT λb_=>
 aA b_ (
 k1 [a5]) (
 Yw a5 aR λbQ=>
 bp (aE [bQ]) λbU=>
 Yx aT λbZ=>
 Yp bU bZ λca=>
 Yv a5 aR λcd=>
 Yp ca cd λcb=>
 k1 [cb])) (
 Yw a5 aR λaZ=>
 bp (aE [aZ]) λbw=>
 Yx aT λb_=>
 Yp bw b_ λbQ=>
 Yv a5 aR λbU=>
 Yp bQ bU λbZ=>
 k1 [bZ]))) ts
def tD:Option (List T):=
 (ft λaN=>
 Yn a5 λaR=>
 Yl aN aR λaW=>
 aA aW (
 Yq a5 aN λaX=>
 Yl aX aT λaY=>
 aA aY (
 Ya aN (ii 1) λaZ=>
 k2 [aZ]) (
 Yn a5 λaZ=>
 Yl aN aZ λbw=>
 aA bw (
 Yq a5 aN λbQ=>
 Ye bQ aT λbU=>
 aA bU (
 k1 [a5]) (
 Yw a5 aN λbZ=>
 bp (aE [bZ]) λca=>
 Yx aT λcd=>
 Yp ca cd λcb=>
 Yv a5 aN λcB=>
 Yp cb cB λcY=>
 k1 [cY])) (
 Yw a5 aN λb_=>
 bp (aE [b_]) λbQ=>
 Yx aT λbU=>
 Yp bQ bU λbZ=>
 Yv a5 aN λca=>
 Yp bZ ca λcd=>
 k1 [cd]))) (
 Yn a5 λbk=>
 Yl aN bk λaX=>
 aA aX (
 Yq a5 aN λaZ=>
 Ye aZ aT λbw=>
 aA bw (
 k1 [a5]) (
 Yw a5 aN λb_=>
 bp (aE [b_]) λbQ=>
 Yx aT λbU=>
 Yp bQ bU λbZ=>
 Yv a5 aN λca=>
 Yp bZ ca λcd=>
 k1 [cd])) (
 Yw a5 aN λaY=>
 bp (aE [aY]) λaZ=>
 Yx aT λbw=>
 Yp aZ bw λb_=>
 Yv a5 aN λbQ=>
 Yp b_ bQ λbU=>
 k1 [bU]))) ts
def ue:Option (List T):=
 (ew λa5 a6=>
 Yl a6 a4 λa7=>
 aA a7 (
 Y4 a1 a6 λa9 aI aK aT=>
 Ye a9 a3 λaL=>
 aA aL (
 jn (ft λaN=>
 Ya a6 (ii 1) λaR=>
 k0 [aN,aR]) λk1=>
 iter (tD aE a5 aT k1) R [ii 0]) (
 Ye aI a3 λaN=>
 jn (ft λaR=>
 Ya a6 (ii 1) λaW=>
 k0 [aR,aW]) λk1=>
 aA aN (
 iter (tC aE a5 aT k1) R [ii 0]) (
 k1 [a5]))) (
 some [a5])) ts
def LF:Option (List T):=
 Yn a1 λa4=>
 iter (ue R aE a1 a3 a4) R [.l [],ii 0]
theorem aog:(Wl).den (pick [(156,aE)]) R [] [a0,a1,a2,a3]=LF R aE a1 a3:=(dR (by kernel_rfl)).trans (by kernel_rfl)
theorem aoh:ED [a0,a1,a2,a3]=LF rounds vj a1 a3:=fs_z.trans (aog rounds ..)
def LG:Option (List T):=
 bp (dl [a0,a1,a2,a3,a4,a5]) λa6=>
 Yh a6 (ii 0) λa7=>
 aA a7 (
 Yb a1 a6 λa8=>
 Yc 4 2 a1 a6 λa9=>
 Yz a9 λaI=>
 some [aI]) (
 Yz (ii 0) λa8=>
 some [a8])
theorem aoi:(Wn).den (pick [(172,dl)]) R [] [a0,a1,a2,a3,a4,a5]=LG dl a0 a1 a2 a3 a4 a5:=(dR (by kernel_rfl)).trans (by kernel_rfl)
theorem aoj:Wo [a0,a1,a2,a3,a4,a5]=LG EB a0 a1 a2 a3 a4 a5:=fs_z.trans (aoi rounds ..)
def LH:Option (List T):=
 (ew λaN aR=>
 Yn a5 λaW=>
 Yl aN aW λbk=>
 aA bk (
 Ya aN (ii 1) λaX=>
 Y1 a5 aX λaZ=>
 Ye aZ aL λbw=>
 jn (ft λb_=>
 Ya aN (ii 2) λbQ=>
 k1 [bQ,b_]) λk2=>
 aA bw (
 Y1 a5 aN λbQ=>
 Y1 a5 aN λbZ=>
 bp (iK [a2,a3,a4,a0,bZ,aL]) λca=>
 pv (.lit 2 [true,true]) [bQ,ca] λcd=>
 pv (.app true 2) [aR,cd] λcb=>
 k2 [cb]) (
 k2 [aR])) (
 pv (.lit 8 [true,true,true,true,true,false,true,true]) [aL,ii 1,a0,ii 0,ii 0,aR,ii 0,bb false] λaX=>
 Yy a9 aX λaY=>
 Ya aI (ii 1) λaZ=>
 k0 [aY,aZ])) ts
def LI:Option (List T):=
 (ew λa9 aI=>
 Yl aI a8 λaK=>
 aA aK (
 Yq a7 aI λaL=>
 iter (LH iK a0 a2 a3 a4 a5 a9 aI aL k0) R [ii 0,.l []]) (
 some [a9])) ts
def LJ:Option (List T):=
 bp (dz [a2,a3,a4,a0]) λa7=>
 Yn a7 λa8=>
 iter (LI R iK a0 a2 a3 a4 a5 a7 a8) R [.l [],ii 0]
theorem aok:(Wq).den (pick [(74,dz),(174,iK)]) R [] [a0,a1,a2,a3,a4,a5,a6]=LJ R dz iK a0 a2 a3 a4 a5:=(dR (by kernel_rfl)).trans (by kernel_rfl)
theorem aol:AG [a0,a1,a2,a3,a4,a5,a6]=LJ rounds ED Wo a0 a2 a3 a4 a5:=fs_z.trans (aok rounds ..)
def LK:Option (List T):=
 Ye a0 a8 λaW=>
 aA aW (
 Ye a1 a9 λbk=>
 aA bk (
 Ye a2 aI λaX=>
 aA aX (
 Ye a3 aK λaY=>
 Yz aY λaZ=>
 some [aZ]) (
 Yz (bb false) λaY=>
 some [aY])) (
 Yz (bb false) λaX=>
 some [aX])) (
 Yz (bb false) λbk=>
 some [bk])
theorem aom:(Ws).den (pick []) R [] [a0,a1,a2,a3,a4,a5,a6,a7,a8,a9,aI,aK,aT,aL,aN,aR]=LK a0 a1 a2 a3 a8 a9 aI aK:=(dR (by kernel_rfl)).trans (by kernel_rfl)
theorem aon:EE [a0,a1,a2,a3,a4,a5,a6,a7,a8,a9,aI,aK,aT,aL,aN,aR]=LK a0 a1 a2 a3 a8 a9 aI aK:=fs_z.trans (aom rounds ..)
def LL:Option (List T):=
 (ft λa9=>
 Yn a0 λaI=>
 Yl a9 aI λaK=>
 aA aK (
 Y8 a0 a9 λaL aN aR aW bk aX aY aZ=>
 bp (e_ [aL,aN,aR,aW,bk,aX,aY,aZ,a1,a2,a3,a4,a5,a6,a7,a8]) λbw=>
 aA bw (
 Ya a9 (ii 1) λb_=>
 k0 [b_]) (
 pv (.sub 8 false true) [a0,a9] λb_=>
 bp (aP [b_]) λbQ=>
 sb (cI [a1,a2,a3,a4,a5,a6,a7,a8]) λbU bZ ca cd cb cB cY cR=>
 pv (.lit 8 [true,true,true,true,true,false,true,true]) [bU,bZ,ca,cd,cb,cB,cY,cR] λcH=>
 Yy bQ cH λcK=>
 Yn a0 λdE=>
 Yl a9 dE λdv=>
 aA dv (
 Y8 a0 a9 λdL eQ fx fM iM jT lh lZ=>
 bp (cL [dL,eQ,fx,fM,iM,jT,lh,lZ,a1,a2,a3,a4,a5,a6,a7,a8]) λkf=>
 jn (ft λjq=>
 pv (.sub 8 true false) [a0,jq] λlL=>
 bp (aP [lL]) λkK=>
 Yy cK kK λli=>
 some [li]) λk1=>
 aA kf (
 Ya a9 (ii 1) λjq=>
 k1 [jq]) (
 k1 [a9])) (
 jn (ft λdi=>
 pv (.sub 8 true false) [a0,di] λdL=>
 bp (aP [dL]) λeQ=>
 Yy cK eQ λfx=>
 some [fx]) λk1=>
 k1 [a9]))) (
 pv (.sub 8 false true) [a0,a9] λaT=>
 bp (aP [aT]) λaL=>
 sb (cI [a1,a2,a3,a4,a5,a6,a7,a8]) λaN aR aW bk aX aY aZ bw=>
 pv (.lit 8 [true,true,true,true,true,false,true,true]) [aN,aR,aW,bk,aX,aY,aZ,bw] λb_=>
 Yy aL b_ λbQ=>
 Yn a0 λbU=>
 Yl a9 bU λbZ=>
 aA bZ (
 Y8 a0 a9 λcd cb cB cY cR cH cK dE=>
 bp (cL [cd,cb,cB,cY,cR,cH,cK,dE,a1,a2,a3,a4,a5,a6,a7,a8]) λdv=>
 jn (ft λdi=>
 pv (.sub 8 true false) [a0,di] λdL=>
 bp (aP [dL]) λeQ=>
 Yy bQ eQ λfx=>
 some [fx]) λk1=>
 aA dv (
 Ya a9 (ii 1) λdi=>
 k1 [di]) (
 k1 [a9])) (
 jn (ft λca=>
 pv (.sub 8 true false) [a0,ca] λcd=>
 bp (aP [cd]) λcb=>
 Yy bQ cb λcB=>
 some [cB]) λk1=>
 k1 [a9]))) ts
def LM:Option (List T):=
 iter (LL e_ cL cI aP a0 a1 a2 a3 a4 a5 a6 a7 a8) R [ii 0]
theorem aoo:(Wu).den (pick [(56,aP),(161,cI),(162,e_),(163,cL)]) R [] [a0,a1,a2,a3,a4,a5,a6,a7,a8]=LM R e_ cL cI aP a0 a1 a2 a3 a4 a5 a6 a7 a8:=(dR (by kernel_rfl)).trans (by kernel_rfl)
theorem aop:vU [a0,a1,a2,a3,a4,a5,a6,a7,a8]=LM rounds J4 EE J7 AF a0 a1 a2 a3 a4 a5 a6 a7 a8:=fs_z.trans (aoo rounds ..)
def jw_:Option (List T):=
 (ew λa3 a4=>
 Yl a4 a2 λa5=>
 aA a5 (
 Y1 a0 a4 λa7=>
 Ye a7 a1 λa8=>
 aA a8 (
 Yz (bb true) λa9=>
 some [a9]) (
 Ya a4 (ii 1) λa9=>
 k0 [a3,a9])) (
 Yz (bb false) λa6=>
 some [a6])) ts
def LN:Option (List T):=
 Yn a0 λa2=>
 iter (jw_ a0 a1 a2) R [bb false,ii 0]
theorem aoq:(Ww).den (pick []) R [] [a0,a1]=LN R a0 a1:=(dR (by kernel_rfl)).trans (by kernel_rfl)
theorem aor:EF [a0,a1]=LN rounds a0 a1:=fs_z.trans (aoq rounds ..)
def LO:Option (List T):=
 bp (dz [a0,a1,a2,a3]) λa4=>
 bp (dk [a4,ii 0]) λa5=>
 aA a5 (
 Yn a4 λa6=>
 Yg a6 (ii 1) λa7=>
 Yz a7 λa8=>
 some [a8]) (
 Yz (bb false) λa6=>
 some [a6])
theorem aos:(Wy).den (pick [(74,dz),(175,dk)]) R [] [a0,a1,a2,a3]=LO dz dk a0 a1 a2 a3:=(dR (by kernel_rfl)).trans (by kernel_rfl)
theorem aot:Wz [a0,a1,a2,a3]=LO ED EF a0 a1 a2 a3:=fs_z.trans (aos rounds ..)
def Oi:Option (List T):=
 (ew λa8 a9=>
 Yl a9 a7 λaI=>
 aA aI (
 Y8 a2 a9 λaT aL aN aR aW bk aX aY=>
 bp (bT [a8,aT,aL,aN,aR,ii 1,bk,aX,aY]) λaZ=>
 Ya a9 (ii 1) λbw=>
 k1 [aZ,bw]) (
 some [a8])) ts
def Oj:Option (List T):=
 (ew λa4 a5=>
 Yl a5 a3 λa6=>
 aA a6 (
 Y8 a0 a5 λa8 a9 aI aK aT aL aN aR=>
 Yu a9 (ii 1) λaW=>
 aA aW (
 jn (ft λbk=>
 Ya a5 (ii 1) λaX=>
 k0 [bk,aX]) λk1=>
 pv (.lit 8 []) [a8,a9,aI,aK,aT,aL,aN,aR] λbk=>
 Yy a4 bk λaX=>
 k1 [aX]) (
 Yu aI a1 λbk=>
 jn (ft λaX=>
 Ya a5 (ii 1) λaY=>
 k0 [aX,aY]) λk1=>
 aA bk (
 pv (.lit 8 []) [a8,a9,aI,aK,aT,aL,aN,aR] λaX=>
 Yy a4 aX λaY=>
 k1 [aY]) (
 k1 [a4]))) (
 Yn a2 λa7=>
 iter (Oi bT a2 a7) R [a4,ii 0])) ts
def LP:Option (List T):=
 Yn a0 λa3=>
 iter (Oj R bT a0 a1 a2 a3) R [.l [],ii 0]
theorem aou:(WD).den (pick [(57,bT)]) R [] [a0,a1,a2]=LP R bT a0 a1 a2:=(dR (by kernel_rfl)).trans (by kernel_rfl)
theorem aov:AJ [a0,a1,a2]=LP rounds vU a0 a1 a2:=fs_z.trans (aou rounds ..)
def kq_:Option (List T):=
 (ew λaI aK=>
 Yl aK a9 λaT=>
 aA aT (
 Y8 a0 aK λaN aR aW bk aX aY aZ bw=>
 bp (cL [aN,aR,aW,bk,aX,aY,aZ,bw,a1,a2,a3,a4,a5,a6,a7,a8]) λb_=>
 aA b_ (
 Yz aK λbQ=>
 some [bQ]) (
 Ya aK (ii 1) λbQ=>
 k0 [aI,bQ])) (
 Yz (ii (-1)) λaL=>
 some [aL])) ts
def LQ:Option (List T):=
 Yn a0 λa9=>
 iter (kq_ cL a0 a1 a2 a3 a4 a5 a6 a7 a8 a9) R [ii 0,ii 0]
theorem aow:(WG).den (pick [(163,cL)]) R [] [a0,a1,a2,a3,a4,a5,a6,a7,a8]=LQ R cL a0 a1 a2 a3 a4 a5 a6 a7 a8:=(dR (by kernel_rfl)).trans (by kernel_rfl)
theorem aox:xC [a0,a1,a2,a3,a4,a5,a6,a7,a8]=LQ rounds EE a0 a1 a2 a3 a4 a5 a6 a7 a8:=fs_z.trans (aow rounds ..)
def Yj:Option (List T):=
 (ew λa9 aI=>
 Yl aI a8 λaK=>
 aA aK (
 Y2 a7 aI λaL aN=>
 Ye aL a3 λaR=>
 aA aR (
 Yz aN λaW=>
 some [aW]) (
 Ya aI (ii 1) λaW=>
 k0 [a9,aW])) (
 Yz (ii 0) λaT=>
 some [aT])) ts
def LR:Option (List T):=
 bp (bV [a0,a1,ii 1,a2,ii 0,ii 0,.l [],ii 0,bb false]) λa4=>
 Yl a4 (ii 0) λa5=>
 aA a5 (
 Yz (ii 0) λa6=>
 some [a6]) (
 Yb a0 a4 λa6=>
 Yc 8 5 a0 a4 λa7=>
 Yn a7 λa8=>
 iter (Yj a3 a7 a8) R [ii 0,ii 0])
theorem aoy:(WI).den (pick [(157,bV)]) R [] [a0,a1,a2,a3]=LR R bV a0 a1 a2 a3:=(dR (by kernel_rfl)).trans (by kernel_rfl)
theorem aoz:AL [a0,a1,a2,a3]=LR rounds xC a0 a1 a2 a3:=fs_z.trans (aoy rounds ..)
def LS:Option (List T):=
 bp (mP [a0,a1,a3,a2]) λa4=>
 Ye a4 (ii 0) λa5=>
 aA a5 (
 Yz (ii 0) λa6=>
 some [a6]) (
 bp (mP [a0,a1,a2,a3]) λa6=>
 Yz a6 λa7=>
 some [a7])
theorem aoA:(WK).den (pick [(244,mP)]) R [] [a0,a1,a2,a3]=LS mP a0 a1 a2 a3:=(dR (by kernel_rfl)).trans (by kernel_rfl)
theorem aoB:WL [a0,a1,a2,a3]=LS AL a0 a1 a2 a3:=fs_z.trans (aoA rounds ..)
def LU:Option (List T):=
 bp (aE [a2]) λa3=>
 Yz a1 λa4=>
 Yz a0 λa5=>
 some [a5,a4,a3]
theorem aoC:(WN).den (pick [(156,aE)]) R [] [a0,a1,a2]=LU aE a0 a1 a2:=(dR (by kernel_rfl)).trans (by kernel_rfl)
theorem aoD:vV [a0,a1,a2]=LU vj a0 a1 a2:=fs_z.trans (aoC rounds ..)
def wc:Option (List T):=
 (ft λaX=>
 Yn aN λaY=>
 Yl aX aY λaZ=>
 aA aZ (
 Yq aN aX λb_=>
 Yl b_ bk λbQ=>
 aA bQ (
 Ya aX (ii 1) λbU=>
 k2 [bU]) (
 Yn aN λbU=>
 Yl aX bU λbZ=>
 aA bZ (
 Yq aN aX λcd=>
 Ye cd bk λcb=>
 aA cb (
 Ya aL (ii 1) λcB=>
 k1 [cB,aN]) (
 Yw aN aX λcB=>
 bp (aE [cB]) λcY=>
 Yx bk λcR=>
 Yp cY cR λcH=>
 Yv aN aX λcK=>
 Yp cH cK λdE=>
 Ya aL (ii 1) λdv=>
 k1 [dv,dE])) (
 Yw aN aX λca=>
 bp (aE [ca]) λcd=>
 Yx bk λcb=>
 Yp cd cb λcB=>
 Yv aN aX λcY=>
 Yp cB cY λcR=>
 Ya aL (ii 1) λcH=>
 k1 [cH,cR]))) (
 Yn aN λbw=>
 Yl aX bw λb_=>
 aA b_ (
 Yq aN aX λbU=>
 Ye bU bk λbZ=>
 aA bZ (
 Ya aL (ii 1) λca=>
 k1 [ca,aN]) (
 Yw aN aX λca=>
 bp (aE [ca]) λcd=>
 Yx bk λcb=>
 Yp cd cb λcB=>
 Yv aN aX λcY=>
 Yp cB cY λcR=>
 Ya aL (ii 1) λcH=>
 k1 [cH,cR])) (
 Yw aN aX λbQ=>
 bp (aE [bQ]) λbU=>
 Yx bk λbZ=>
 Yp bU bZ λca=>
 Yv aN aX λcd=>
 Yp ca cd λcb=>
 Ya aL (ii 1) λcB=>
 k1 [cB,cb]))) ts
def we:Option (List T):=
 (ew λaL aN=>
 Yl aL aT λaR=>
 aA aR (
 Y1 a5 aL λbk=>
 iter (wc aE aL aN bk k1) R [ii 0]) (
 Yz a1 λaW=>
 Yz a0 λbk=>
 some [bk,aW,aN])) ts
def wg:Option (List T):=
 (ft λaN=>
 Yn aI λaR=>
 Yl aN aR λaW=>
 aA aW (
 Yq aI aN λaX=>
 Yl aX aL λaY=>
 aA aY (
 Ya aN (ii 1) λaZ=>
 k1 [aZ]) (
 Yn aI λaZ=>
 Yl aN aZ λbw=>
 aA bw (
 Yq aI aN λbQ=>
 Ye bQ aL λbU=>
 aA bU (
 Ya a9 (ii 1) λbZ=>
 k0 [bZ,aI]) (
 Yw aI aN λbZ=>
 bp (aE [bZ]) λca=>
 Yx aL λcd=>
 Yp ca cd λcb=>
 Yv aI aN λcB=>
 Yp cb cB λcY=>
 Ya a9 (ii 1) λcR=>
 k0 [cR,cY])) (
 Yw aI aN λb_=>
 bp (aE [b_]) λbQ=>
 Yx aL λbU=>
 Yp bQ bU λbZ=>
 Yv aI aN λca=>
 Yp bZ ca λcd=>
 Ya a9 (ii 1) λcb=>
 k0 [cb,cd]))) (
 Yn aI λbk=>
 Yl aN bk λaX=>
 aA aX (
 Yq aI aN λaZ=>
 Ye aZ aL λbw=>
 aA bw (
 Ya a9 (ii 1) λb_=>
 k0 [b_,aI]) (
 Yw aI aN λb_=>
 bp (aE [b_]) λbQ=>
 Yx aL λbU=>
 Yp bQ bU λbZ=>
 Yv aI aN λca=>
 Yp bZ ca λcd=>
 Ya a9 (ii 1) λcb=>
 k0 [cb,cd])) (
 Yw aI aN λaY=>
 bp (aE [aY]) λaZ=>
 Yx aL λbw=>
 Yp aZ bw λb_=>
 Yv aI aN λbQ=>
 Yp b_ bQ λbU=>
 Ya a9 (ii 1) λbZ=>
 k0 [bZ,bU]))) ts
def wh:Option (List T):=
 (ew λa9 aI=>
 Yl a9 a8 λaK=>
 aA aK (
 Y1 a2 a9 λaL=>
 iter (wg aE a9 aI aL k0) R [ii 0]) (
 Yn a5 λaT=>
 iter (we R aE a0 a1 a5 aT) R [ii 0,aI])) ts
def LV:Option (List T):=
 Yg a4 a1 λa6=>
 aA a6 (
 lK (aO [a0,a1,a2]) λa7 a8 a9=>
 Yz a8 λaI=>
 Yz a7 λaK=>
 some [aK,aI,a9]) (
 Yg a1 a4 λa7=>
 aA a7 (
 lK (aO [a3,a4,a5]) λa8 a9 aI=>
 Yz a9 λaK=>
 Yz a8 λaT=>
 some [aT,aK,aI]) (
 Yn a2 λa8=>
 iter (wh R aE a0 a1 a2 a5 a8) R [ii 0,.l []]))
theorem aoE:(WQ).den (pick [(156,aE),(224,aO)]) R [] [a0,a1,a2,a3,a4,a5]=LV R aE aO a0 a1 a2 a3 a4 a5:=(dR (by kernel_rfl)).trans (by kernel_rfl)
theorem aoF:xD [a0,a1,a2,a3,a4,a5]=LV rounds vj vV a0 a1 a2 a3 a4 a5:=fs_z.trans (aoE rounds ..)
def se:Option (List T):=
 (ew λaZ bw=>
 Ym aZ (ii 6) λb_=>
 aA b_ (
 bp (gH [a0,a1,aN,aZ]) λbQ=>
 Ye bQ (ii 0) λbU=>
 aA bU (
 Ya aZ (ii 1) λbZ=>
 k2 [bZ,bw]) (
 Ye aZ a2 λbZ=>
 aA bZ (
 Ya aZ (ii 1) λca=>
 k2 [ca,bw]) (
 Yb bw aN λca=>
 pv (.bn 3 1) [bw,aN] λcd=>
 Ya cd bQ λcb=>
 Yb bw aN λcB=>
 Yc 3 2 bw aN λcY=>
 bp (aE [cY]) λcR=>
 Ye aN a2 λcH=>
 jn (ft λcK=>
 Y3 bw aZ λdv di dL=>
 Ye dv (ii 0) λeQ=>
 aA eQ (
 jn (ft λfx=>
 Ya aZ (ii 1) λfM=>
 k2 [fM,fx]) λk3=>
 Yb bw aZ λfx=>
 pv (.gU [true,true,false] 3 0) [bw,aZ,aZ,cb,cK] λfM=>
 k3 [fM]) (
 Yl cb di λfx=>
 jn (ft λfM=>
 Ya aZ (ii 1) λiM=>
 k2 [iM,fM]) λk3=>
 aA fx (
 Yb bw aZ λfM=>
 pv (.gU [true,true,false] 3 0) [bw,aZ,aZ,cb,cK] λiM=>
 k3 [iM]) (
 Ye cb di λfM=>
 jn (ft λiM=>
 k3 [iM]) λk4=>
 aA fM (
 lK (bg [dv,di,dL,aZ,cb,cK]) λiM jT lh=>
 Yb bw aZ λlZ=>
 pv (.gU [true,true,false] 3 0) [bw,aZ,iM,jT,lh] λkf=>
 k4 [kf]) (
 k4 [bw])))) λk3=>
 aA cH (
 Yx aZ λcK=>
 k3 [cK]) (
 k3 [cR])))) (
 k0 [aY,bw])) ts
def sf:Option (List T):=
 (ve λaY aZ bw=>
 Yl aZ aX λb_=>
 aA b_ (
 Yb aL aZ λbQ=>
 pv (.bn 3 0) [aL,aZ] λbU=>
 pv (.bn 3 1) [aL,aZ] λbZ=>
 pv (.bD 3 2) [aL,aZ] λca=>
 pv (.wx) [bw,aZ] λcd=>
 Yu bU (ii 0) λcb=>
 jn (ft λcB=>
 Ya aZ (ii 1) λcY=>
 k2 [cB,cY,cd]) λk3=>
 aA cb (
 pv (.lit 3 [true,true,false]) [bU,bZ,ca] λcB=>
 Yo aY cB λcY=>
 k3 [cY]) (
 k3 [aY])) (
 some [aY])) ts
def sj:Option (List T):=
 (ew λaN aR=>
 Ym aR (ii 6) λaW=>
 aA aW (
 Yb aL aR λbk=>
 pv (.bn 3 0) [aL,aR] λaX=>
 Yu aX (ii 0) λaY=>
 aA aY (
 bp (dk [aT,aR]) λaZ=>
 Yt aZ λbw=>
 aA bw (
 Ye aN (ii 0) λb_=>
 aA b_ (
 jn (ft λbQ=>
 Ya aR (ii 1) λbU=>
 k1 [bQ,bU]) λk2=>
 k2 [aR]) (
 Yb aL aR λbQ=>
 pv (.bn 3 1) [aL,aR] λbU=>
 Yb aL aN λbZ=>
 pv (.bn 3 1) [aL,aN] λca=>
 Yl bU ca λcd=>
 jn (ft λcb=>
 Ya aR (ii 1) λcB=>
 k1 [cb,cB]) λk2=>
 aA cd (
 k2 [aR]) (
 k2 [aN]))) (
 jn (ft λb_=>
 Ya aR (ii 1) λbQ=>
 k1 [b_,bQ]) λk2=>
 k2 [aN])) (
 jn (ft λaZ=>
 Ya aR (ii 1) λbw=>
 k1 [aZ,bw]) λk2=>
 k2 [aN])) (
 Ye aN (ii 0) λbk=>
 aA bk (
 Yn aL λaX=>
 iter (sf aL aX) R [.l [],ii 0,aL]) (
 Yx aN λaX=>
 Yp aT aX λaY=>
 iter (se gH bg aE a0 a1 a2 aN aY k0) R [ii 1,aL]))) ts
def sk:Option (List T):=
 (ew λaT aL=>
 iter (sj R gH bg aE dk a0 a1 a2 aT aL k0) R [ii 0,ii 1]) ts
def LW:Option (List T):=
 bp (fJ [a0]) λa3=>
 Yt a3 λa4=>
 aA a4 (
 some [.l []]) (
 bp (b8 [a2,ii 1,ii 6]) λa5=>
 Yt a5 λa6=>
 aA a6 (
 some [.l []]) (
 bp (bV [a0,a1,ii 1,a2,ii 0,ii 0,.l [],ii 0,bb false]) λa7=>
 Yl a7 (ii 0) λa8=>
 aA a8 (
 some [.l []]) (
 pv (.mk) [ii 7,ii 7,ii 0,ii 0,.l []] λa9=>
 Yb a9 a2 λaI=>
 pv (.put true 3 0 1) [a9,a2,a2] λaK=>
 iter (sk R gH bg aE dk a0 a1 a2) R [.l [],aK])))
theorem aoG:(WS).den (pick [(69,b8),(71,fJ),(156,aE),(157,bV),(175,dk),(227,bg),(239,gH)]) R [] [a0,a1,a2]=LW R gH fJ bg aE dk b8 bV a0 a1 a2:=(dR (by kernel_rfl)).trans (by kernel_rfl)
theorem aoH:EH [a0,a1,a2]=LW rounds WL J5 xD vj EF vi xC a0 a1 a2:=fs_z.trans (aoG rounds ..)
def kn_:Option (List T):=
 (ew λa3 a4=>
 Yl a4 a2 λa5=>
 aA a5 (
 Y3 a0 a4 λa7 a8 a9=>
 Ye a7 a1 λaI=>
 aA aI (
 lK (aO [a7,a8,a9]) λaK aT aL=>
 Yz (bb true) λaN=>
 Yz aT λaR=>
 Yz aK λaW=>
 some [aW,aR,aL,aN]) (
 Ya a4 (ii 1) λaK=>
 k0 [a3,aK])) (
 Yz (bb false) λa6=>
 Yz (ii 0) λa7=>
 Yz (ii 0) λa8=>
 some [a8,a7,.l [],a6])) ts
def LX:Option (List T):=
 Yn a0 λa2=>
 iter (kn_ aO a0 a1 a2) R [bb false,ii 0]
theorem aoI:(WV).den (pick [(224,aO)]) R [] [a0,a1]=LX R aO a0 a1:=(dR (by kernel_rfl)).trans (by kernel_rfl)
theorem aoJ:Kb [a0,a1]=LX rounds vV a0 a1:=fs_z.trans (aoI rounds ..)
def AZ:Option (List T):=
 (ft λaY=>
 Yn aK λaZ=>
 Yl aY aZ λbw=>
 aA bw (
 Yb aK aY λb_=>
 pv (.bn 3 0) [aK,aY] λbQ=>
 Yl bQ aW λbU=>
 aA bU (
 Ya aY (ii 1) λbZ=>
 k2 [bZ]) (
 Yn aK λbZ=>
 Yl aY bZ λca=>
 aA ca (
 Yb aK aY λcd=>
 pv (.bn 3 0) [aK,aY] λcb=>
 Ye cb aW λcB=>
 aA cB (
 Y3 aK aY λcR cH cK=>
 lK (bg [cR,cH,cK,aW,bk,aX]) λdE dv di=>
 Yb aK aY λdL=>
 pv (.gU [true,true,false] 3 0) [aK,aY,dE,dv,di] λeQ=>
 Ya aT (ii 1) λfx=>
 k1 [eQ,fx,aL]) (
 pv (.sub 3 false true) [aK,aY] λcY=>
 pv (.kh) [aK,ii 0,cY] λcR=>
 Yo (.l []) cY λcH=>
 lK (aO [aW,bk,aX]) λcK dE dv=>
 pv (.lit 3 [true,true,false]) [cK,dE,dv] λdi=>
 Yo cH di λdL=>
 pv (.sub 3 true false) [aK,aY] λeQ=>
 pv (.kh) [cR,aY,eQ] λfx=>
 Yo dL eQ λfM=>
 Ya aT (ii 1) λiM=>
 k1 [fM,iM,aL])) (
 pv (.sub 3 false true) [aK,aY] λcd=>
 pv (.kh) [aK,ii 0,cd] λcb=>
 Yo (.l []) cd λcB=>
 lK (aO [aW,bk,aX]) λcY cR cH=>
 pv (.lit 3 [true,true,false]) [cY,cR,cH] λcK=>
 Yo cB cK λdE=>
 pv (.sub 3 true false) [aK,aY] λdv=>
 pv (.kh) [cb,aY,dv] λdi=>
 Yo dE dv λdL=>
 Ya aT (ii 1) λeQ=>
 k1 [dL,eQ,aL]))) (
 Yn aK λb_=>
 Yl aY b_ λbQ=>
 aA bQ (
 Yb aK aY λbU=>
 pv (.bn 3 0) [aK,aY] λbZ=>
 Ye bZ aW λca=>
 aA ca (
 Y3 aK aY λcb cB cY=>
 lK (bg [cb,cB,cY,aW,bk,aX]) λcR cH cK=>
 Yb aK aY λdE=>
 pv (.gU [true,true,false] 3 0) [aK,aY,cR,cH,cK] λdv=>
 Ya aT (ii 1) λdi=>
 k1 [dv,di,aL]) (
 pv (.sub 3 false true) [aK,aY] λcd=>
 pv (.kh) [aK,ii 0,cd] λcb=>
 Yo (.l []) cd λcB=>
 lK (aO [aW,bk,aX]) λcY cR cH=>
 pv (.lit 3 [true,true,false]) [cY,cR,cH] λcK=>
 Yo cB cK λdE=>
 pv (.sub 3 true false) [aK,aY] λdv=>
 pv (.kh) [cb,aY,dv] λdi=>
 Yo dE dv λdL=>
 Ya aT (ii 1) λeQ=>
 k1 [dL,eQ,aL])) (
 pv (.sub 3 false true) [aK,aY] λbU=>
 pv (.kh) [aK,ii 0,bU] λbZ=>
 Yo (.l []) bU λca=>
 lK (aO [aW,bk,aX]) λcd cb cB=>
 pv (.lit 3 [true,true,false]) [cd,cb,cB] λcY=>
 Yo ca cY λcR=>
 pv (.sub 3 true false) [aK,aY] λcH=>
 pv (.kh) [bZ,aY,cH] λcK=>
 Yo cR cH λdE=>
 Ya aT (ii 1) λdv=>
 k1 [dE,dv,aL]))) ts
def B8:Option (List T):=
 (ve λaK aT aL=>
 Yl aT aI λaN=>
 aA aN (
 Y3 aL aT λaW bk aX=>
 iter (AZ bg aO aK aT aL aW bk aX k1) R [ii 0]) (
 Ya a5 (ii 1) λaR=>
 k0 [aK,aR])) ts
def B9:Option (List T):=
 (ew λa4 a5=>
 Yl a5 a3 λa6=>
 aA a6 (
 Y1 a1 a5 λa8=>
 bp (cW [a0,a8,a2]) λa9=>
 Yn a9 λaI=>
 iter (B8 R bg aO a5 aI k0) R [a4,ii 0,a9]) (
 some [a4])) ts
def jK_:Option (List T):=
 Yn a1 λa3=>
 iter (B9 R bg cW aO a0 a1 a2 a3) R [.l [],ii 0]
theorem aoL:(WY).den (pick [(176,cW),(224,aO),(227,bg)]) R [] [a0,a1,a2]=jK_ R bg cW aO a0 a1 a2:=(dR (by kernel_rfl)).trans (by kernel_rfl)
theorem aoM:Kc [a0,a1,a2]=jK_ rounds xD EH vV a0 a1 a2:=fs_z.trans (aoL rounds ..)
def nM:Option (List T):=
 (ft λdi=>
 Yn a6 λdL=>
 Yl di dL λeQ=>
 aA eQ (
 Yb a6 di λfx=>
 pv (.bn 3 0) [a6,di] λfM=>
 Yl fM aL λiM=>
 aA iM (
 Ya di (ii 1) λjT=>
 k1 [jT]) (
 Yn a6 λjT=>
 Yl di jT λlh=>
 aA lh (
 Yb a6 di λlZ=>
 pv (.bn 3 0) [a6,di] λkf=>
 Ye kf aL λjq=>
 aA jq (
 Y3 a6 di λkK li lz=>
 lK (bg [kK,li,lz,aL,dv,cY]) λl7 jF mB=>
 Yb a6 di λoh=>
 pv (.gU [true,true,false] 3 0) [a6,di,l7,jF,mB] λnH=>
 Ya a7 (ii 1) λsd=>
 k0 [nH,sd]) (
 pv (.sub 3 false true) [a6,di] λlL=>
 pv (.kh) [a6,ii 0,lL] λkK=>
 Yo (.l []) lL λli=>
 lK (aO [aL,dv,cY]) λlz l7 jF=>
 pv (.lit 3 [true,true,false]) [lz,l7,jF] λmB=>
 Yo li mB λoh=>
 pv (.sub 3 true false) [a6,di] λnH=>
 pv (.kh) [kK,di,nH] λsd=>
 Yo oh nH λxE=>
 Ya a7 (ii 1) λB6=>
 k0 [xE,B6])) (
 pv (.sub 3 false true) [a6,di] λlZ=>
 pv (.kh) [a6,ii 0,lZ] λkf=>
 Yo (.l []) lZ λjq=>
 lK (aO [aL,dv,cY]) λlL kK li=>
 pv (.lit 3 [true,true,false]) [lL,kK,li] λlz=>
 Yo jq lz λl7=>
 pv (.sub 3 true false) [a6,di] λjF=>
 pv (.kh) [kf,di,jF] λmB=>
 Yo l7 jF λoh=>
 Ya a7 (ii 1) λnH=>
 k0 [oh,nH]))) (
 Yn a6 λfx=>
 Yl di fx λfM=>
 aA fM (
 Yb a6 di λiM=>
 pv (.bn 3 0) [a6,di] λjT=>
 Ye jT aL λlh=>
 aA lh (
 Y3 a6 di λkf jq lL=>
 lK (bg [kf,jq,lL,aL,dv,cY]) λkK li lz=>
 Yb a6 di λl7=>
 pv (.gU [true,true,false] 3 0) [a6,di,kK,li,lz] λjF=>
 Ya a7 (ii 1) λmB=>
 k0 [jF,mB]) (
 pv (.sub 3 false true) [a6,di] λlZ=>
 pv (.kh) [a6,ii 0,lZ] λkf=>
 Yo (.l []) lZ λjq=>
 lK (aO [aL,dv,cY]) λlL kK li=>
 pv (.lit 3 [true,true,false]) [lL,kK,li] λlz=>
 Yo jq lz λl7=>
 pv (.sub 3 true false) [a6,di] λjF=>
 pv (.kh) [kf,di,jF] λmB=>
 Yo l7 jF λoh=>
 Ya a7 (ii 1) λnH=>
 k0 [oh,nH])) (
 pv (.sub 3 false true) [a6,di] λiM=>
 pv (.kh) [a6,ii 0,iM] λjT=>
 Yo (.l []) iM λlh=>
 lK (aO [aL,dv,cY]) λlZ kf jq=>
 pv (.lit 3 [true,true,false]) [lZ,kf,jq] λlL=>
 Yo lh lL λkK=>
 pv (.sub 3 true false) [a6,di] λli=>
 pv (.kh) [jT,di,li] λlz=>
 Yo kK li λl7=>
 Ya a7 (ii 1) λjF=>
 k0 [l7,jF]))) ts
def nN:Option (List T):=
 (ft λdL=>
 Yn a6 λeQ=>
 Yl dL eQ λfx=>
 aA fx (
 Yb a6 dL λfM=>
 pv (.bn 3 0) [a6,dL] λiM=>
 Yl iM aL λjT=>
 aA jT (
 Ya dL (ii 1) λlh=>
 k1 [lh]) (
 Yn a6 λlh=>
 Yl dL lh λlZ=>
 aA lZ (
 Yb a6 dL λkf=>
 pv (.bn 3 0) [a6,dL] λjq=>
 Ye jq aL λlL=>
 aA lL (
 Y3 a6 dL λli lz l7=>
 lK (bg [li,lz,l7,aL,di,cR]) λjF mB oh=>
 Yb a6 dL λnH=>
 pv (.gU [true,true,false] 3 0) [a6,dL,jF,mB,oh] λsd=>
 Ya a7 (ii 1) λxE=>
 k0 [sd,xE]) (
 pv (.sub 3 false true) [a6,dL] λkK=>
 pv (.kh) [a6,ii 0,kK] λli=>
 Yo (.l []) kK λlz=>
 lK (aO [aL,di,cR]) λl7 jF mB=>
 pv (.lit 3 [true,true,false]) [l7,jF,mB] λoh=>
 Yo lz oh λnH=>
 pv (.sub 3 true false) [a6,dL] λsd=>
 pv (.kh) [li,dL,sd] λxE=>
 Yo nH sd λB6=>
 Ya a7 (ii 1) λyn=>
 k0 [B6,yn])) (
 pv (.sub 3 false true) [a6,dL] λkf=>
 pv (.kh) [a6,ii 0,kf] λjq=>
 Yo (.l []) kf λlL=>
 lK (aO [aL,di,cR]) λkK li lz=>
 pv (.lit 3 [true,true,false]) [kK,li,lz] λl7=>
 Yo lL l7 λjF=>
 pv (.sub 3 true false) [a6,dL] λmB=>
 pv (.kh) [jq,dL,mB] λoh=>
 Yo jF mB λnH=>
 Ya a7 (ii 1) λsd=>
 k0 [nH,sd]))) (
 Yn a6 λfM=>
 Yl dL fM λiM=>
 aA iM (
 Yb a6 dL λjT=>
 pv (.bn 3 0) [a6,dL] λlh=>
 Ye lh aL λlZ=>
 aA lZ (
 Y3 a6 dL λjq lL kK=>
 lK (bg [jq,lL,kK,aL,di,cR]) λli lz l7=>
 Yb a6 dL λjF=>
 pv (.gU [true,true,false] 3 0) [a6,dL,li,lz,l7] λmB=>
 Ya a7 (ii 1) λoh=>
 k0 [mB,oh]) (
 pv (.sub 3 false true) [a6,dL] λkf=>
 pv (.kh) [a6,ii 0,kf] λjq=>
 Yo (.l []) kf λlL=>
 lK (aO [aL,di,cR]) λkK li lz=>
 pv (.lit 3 [true,true,false]) [kK,li,lz] λl7=>
 Yo lL l7 λjF=>
 pv (.sub 3 true false) [a6,dL] λmB=>
 pv (.kh) [jq,dL,mB] λoh=>
 Yo jF mB λnH=>
 Ya a7 (ii 1) λsd=>
 k0 [nH,sd])) (
 pv (.sub 3 false true) [a6,dL] λjT=>
 pv (.kh) [a6,ii 0,jT] λlh=>
 Yo (.l []) jT λlZ=>
 lK (aO [aL,di,cR]) λkf jq lL=>
 pv (.lit 3 [true,true,false]) [kf,jq,lL] λkK=>
 Yo lZ kK λli=>
 pv (.sub 3 true false) [a6,dL] λlz=>
 pv (.kh) [lh,dL,lz] λl7=>
 Yo li lz λjF=>
 Ya a7 (ii 1) λmB=>
 k0 [jF,mB]))) ts
def ol:Option (List T):=
 (ew λa6 a7=>
 Yl a7 a5 λa8=>
 aA a8 (
 Y8 a0 a7 λaI aK aT aL aN aR aW bk=>
 Yu aK (ii 2) λaX=>
 aA aX (
 Ya a7 (ii 1) λaY=>
 k0 [a6,aY]) (
 Yh aW (ii 60000) λaY=>
 aA aY (
 Ya a7 (ii 1) λaZ=>
 k0 [a6,aZ]) (
 Ye aT a3 λaZ=>
 aA aZ (
 Ya a7 (ii 1) λbw=>
 k0 [a6,bw]) (
 bp (dk [a1,aI]) λbw=>
 Yt bw λb_=>
 aA b_ (
 Ya a7 (ii 1) λbQ=>
 k0 [a6,bQ]) (
 aA a2 (
 Yu aI (ii 0) λbQ=>
 aA bQ (
 Ya a7 (ii 1) λbU=>
 k0 [a6,bU]) (
 tl (dh [a4,aL]) λbU bZ ca cd=>
 bp (cW [a0,aI,a3]) λcb=>
 tl (dh [cb,aT]) λcB cY cR cH=>
 aA cd (
 Ya a7 (ii 1) λcK=>
 k0 [a6,cK]) (
 Yt cH λcK=>
 aA cK (
 Ya a7 (ii 1) λdE=>
 k0 [a6,dE]) (
 Ya aW cY λdE=>
 Yh dE (ii 60000) λdv=>
 aA dv (
 Ya a7 (ii 1) λdi=>
 k0 [a6,di]) (
 Ya aW cY λdi=>
 iter (nN bg aO a6 a7 aL cR di k0) R [ii 0]))))) (
 tl (dh [a4,aL]) λbQ bU bZ ca=>
 bp (cW [a0,aI,a3]) λcd=>
 tl (dh [cd,aT]) λcb cB cY cR=>
 aA ca (
 Ya a7 (ii 1) λcH=>
 k0 [a6,cH]) (
 Yt cR λcH=>
 aA cH (
 Ya a7 (ii 1) λcK=>
 k0 [a6,cK]) (
 Ya aW cB λcK=>
 Yh cK (ii 60000) λdE=>
 aA dE (
 Ya a7 (ii 1) λdv=>
 k0 [a6,dv]) (
 Ya aW cB λdv=>
 iter (nM bg aO a6 a7 aL cY dv k0) R [ii 0]))))))))) (
 some [a6])) ts
def jI_:Option (List T):=
 bp (cV [a0,a1,a3]) λa4=>
 Yn a0 λa5=>
 iter (ol R bg dh cW aO dk a0 a1 a2 a3 a4 a5) R [.l [],ii 0]
theorem aoO:(W4).den (pick [(175,dk),(176,cW),(178,dh),(179,cV),(224,aO),(227,bg)]) R [] [a0,a1,a2,a3]=jI_ R cV bg dh cW aO dk a0 a1 a2 a3:=(dR (by kernel_rfl)).trans (by kernel_rfl)
theorem aoP:W5 [a0,a1,a2,a3]=jI_ rounds Kc xD Kb EH vV EF a0 a1 a2 a3:=fs_z.trans (aoO rounds ..)
def uf:Option (List T):=
 (ve λaX aY aZ=>
 Yl aX bk λbw=>
 aA bw (
 Y3 aZ aX λbQ bU bZ=>
 tl (dh [a8,bQ]) λca cd cb cB=>
 Yt cB λcY=>
 aA cY (
 Yu bQ a2 λcR=>
 aA cR (
 bp (bV [aY,a3,ii 2,a2,bQ,ii 0,.l [],bU,bb false]) λcH=>
 Yl cH (ii 0) λcK=>
 jn (ft λdE=>
 Ya aX (ii 1) λdv=>
 k3 [dv,dE,aZ]) λk4=>
 aA cK (
 bp (bT [aY,a3,ii 2,a2,bQ,ii 0,.l [],bU,bb false]) λdE=>
 k4 [dE]) (
 k4 [aY])) (
 jn (ft λcH=>
 Ya aX (ii 1) λcK=>
 k3 [cK,cH,aZ]) λk4=>
 k4 [aY])) (
 jn (ft λcR=>
 Ya aX (ii 1) λcH=>
 k3 [cH,cR,aZ]) λk4=>
 k4 [aY])) (
 k2 [aY])) ts
def ug:Option (List T):=
 (ve λaK aT aL=>
 Yl aK aI λaN=>
 aA aN (
 Y3 aL aK λaW bk aX=>
 tl (dh [a8,aW]) λaY aZ bw b_=>
 Yt b_ λbQ=>
 aA bQ (
 Yu aW a2 λbU=>
 aA bU (
 bp (bV [aT,a3,ii 2,a2,aW,ii 0,.l [],bk,bb false]) λbZ=>
 Yl bZ (ii 0) λca=>
 jn (ft λcd=>
 Ya aK (ii 1) λcb=>
 k1 [cb,cd,aL]) λk2=>
 aA ca (
 bp (bT [aT,a3,ii 2,a2,aW,ii 0,.l [],bk,bb false]) λcd=>
 k2 [cd]) (
 k2 [aT])) (
 jn (ft λbZ=>
 Ya aK (ii 1) λca=>
 k1 [ca,bZ,aL]) λk2=>
 k2 [aT])) (
 jn (ft λbU=>
 Ya aK (ii 1) λbZ=>
 k1 [bZ,bU,aL]) λk2=>
 k2 [aT])) (
 Yu a3 (ii 0) λaR=>
 jn (ft λaW=>
 some [aW]) λk2=>
 aA aR (
 bp (eo [a0,a1,bb true,a2]) λaW=>
 Yn aW λbk=>
 iter (uf dh bV bT a2 a3 a8 bk k2) R [ii 0,aT,aW]) (
 k2 [aT]))) ts
def uh:Option (List T):=
 (ew λa5 a6=>
 Yl a6 a4 λa7=>
 aA a7 (
 Y1 a1 a6 λa9=>
 Yu a9 a3 λaI=>
 jn (ft λaK=>
 Ya a6 (ii 1) λaT=>
 k0 [aK,aT]) λk1=>
 aA aI (
 Yx a9 λaK=>
 Yp a5 aK λaT=>
 k1 [aT]) (
 k1 [a5])) (
 bp (cW [a0,a3,a2]) λa8=>
 bp (cV [a0,a5,a2]) λa9=>
 Yn a9 λaI=>
 iter (ug R eo dh bV bT a0 a1 a2 a3 a8 aI) R [ii 0,.l [],a9])) ts
def LY:Option (List T):=
 Yn a1 λa4=>
 iter (uh R eo cV dh cW bV bT a0 a1 a2 a3 a4) R [.l [],ii 0]
theorem aoQ:(W7).den (pick [(57,bT),(157,bV),(176,cW),(178,dh),(179,cV),(180,eo)]) R [] [a0,a1,a2,a3]=LY R eo cV dh cW bV bT a0 a1 a2 a3:=(dR (by kernel_rfl)).trans (by kernel_rfl)
theorem aoR:W8 [a0,a1,a2,a3]=LY rounds W5 Kc Kb EH xC vU a0 a1 a2 a3:=fs_z.trans (aoQ rounds ..)
def yB:Option (List T):=
 (ve λca cd cb=>
 Yl cd bZ λcB=>
 aA cB (
 Y8 cb cd λcR cH cK dE dv di dL eQ=>
 bp (bT [ca,cR,cH,cK,dE,dv,di,dL,eQ]) λfx=>
 Ya cd (ii 1) λfM=>
 k3 [fx,fM,cb]) (
 Ya aZ (ii 1) λcY=>
 k2 [ca,cY])) ts
def yC:Option (List T):=
 (ew λaY aZ=>
 Yl aZ aX λbw=>
 aA bw (
 Yq aR aZ λbQ=>
 bp (iJ [bk,aR,a0,bQ]) λbU=>
 Yn bU λbZ=>
 iter (yB bT aZ bZ k2) R [aY,ii 0,bU]) (
 k1 [aY,aL,aL,aL])) ts
def xH:Option (List T):=
 (ew λb_ bQ=>
 Yl bQ bw λbU=>
 aA bU (
 Y4 a4 bQ λca cd cb cB=>
 Ye ca a0 λcY=>
 jn (ft λcR=>
 Ya bQ (ii 1) λcH=>
 k1 [cR,cH]) λk2=>
 aA cY (
 bp (bT [b_,ii 9,ii 3,a0,cd,ii 0,.l [],cb,cB]) λcR=>
 k2 [cR]) (
 k2 [b_])) (
 some [b_])) ts
def yD:Option (List T):=
 (ve λaK aT aL=>
 Yl aT aI λaN=>
 aA aN (
 Y8 aL aT λaW bk aX aY aZ bw b_ bQ=>
 bp (bT [aK,aW,bk,aX,aY,aZ,bw,b_,bQ]) λbU=>
 Ya aT (ii 1) λbZ=>
 k0 [bU,bZ,aL]) (
 bp (dz [a2,a3,a4,a0]) λaR=>
 bp (jK [a2,a3,a4,a0]) λaW=>
 jn (Jn λbk aX aY aZ=>
 Yn a4 λbw=>
 iter (xH bT a0 a4 bw) R [bk,ii 0]) λk1=>
 aA aW (
 bp (rz [a6,a0,aL]) λbk=>
 Yn aR λaX=>
 iter (yC R iJ bT a0 aL aR bk aX k1) R [aK,ii 0]) (
 k1 [aK,aL,aL,aL]))) ts
def LZ:Option (List T):=
 bp (eG [a0,a1,a2,a3,a4,a5,a6]) λa7=>
 Yt a7 λa8=>
 aA a8 (
 some [.l []]) (
 bp (rA [a0,a1,a2,a3,a4,a5,a6]) λa9=>
 Yn a9 λaI=>
 iter (yD R dz iJ jK rz bT a0 a2 a3 a4 a6 aI) R [.l [],ii 0,a9])
theorem aoS:(W_).den (pick [(13,eG),(57,bT),(73,rA),(74,dz),(75,jK),(76,rz),(77,iJ)]) R [] [a0,a1,a2,a3,a4,a5,a6]=LZ R dz iJ jK eG rz rA bT a0 a1 a2 a3 a4 a5 a6:=(dR (by kernel_rfl)).trans (by kernel_rfl)
theorem aoT:NZ [a0,a1,a2,a3,a4,a5,a6]=LZ rounds ED W8 Wz EC AJ AG vU a0 a1 a2 a3 a4 a5 a6:=fs_z.trans (aoS rounds ..)
def Ol:Option (List T):=
 (ew λbU bZ=>
 Yl bZ bQ λca=>
 aA ca (
 Y2 a5 bZ λcb cB=>
 Y2 aL bZ λcR cH=>
 pv (.su [1,1]) [cb,cB,cR,cH] λcK=>
 Yt cK λdE=>
 aA dE (
 Yz (bb false) λdv=>
 some [dv]) (
 Ya bZ (ii 1) λdv=>
 k0 [bU,dv])) (
 Yz (bb true) λcd=>
 some [cd])) ts
def L0:Option (List T):=
 bp (cL [a0,a1,a2,a3,a4,a5,a6,a7,a8,a9,aI,aK,aT,aL,aN,aR]) λaW=>
 Yt aW λbk=>
 aA bk (
 Yz (bb false) λaX=>
 some [aX]) (
 Yu a6 aN λaX=>
 aA aX (
 Yz (bb false) λaY=>
 some [aY]) (
 pv (.bb .neq) [a7,aR] λaY=>
 aA aY (
 Yz (bb false) λaZ=>
 some [aZ]) (
 Yn a5 λaZ=>
 Yn aL λbw=>
 Yu aZ bw λb_=>
 aA b_ (
 Yz (bb false) λbQ=>
 some [bQ]) (
 Yn a5 λbQ=>
 iter (Ol a5 aL bQ) R [bb false,ii 0]))))
theorem aoU:(Xb).den (pick [(163,cL)]) R [] [a0,a1,a2,a3,a4,a5,a6,a7,a8,a9,aI,aK,aT,aL,aN,aR]=L0 R cL a0 a1 a2 a3 a4 a5 a6 a7 a8 a9 aI aK aT aL aN aR:=(dR (by kernel_rfl)).trans (by kernel_rfl)
theorem aoV:Xc [a0,a1,a2,a3,a4,a5,a6,a7,a8,a9,aI,aK,aT,aL,aN,aR]=L0 rounds EE a0 a1 a2 a3 a4 a5 a6 a7 a8 a9 aI aK aT aL aN aR:=fs_z.trans (aoU rounds ..)
def E8:Option (List T):=
 bp (bV [a6,a7,a8,a9,aI,aK,aT,aL,aN]) λaR=>
 Yh aR (ii 0) λaW=>
 jn (ft λbk=>
 Ya bk (ii 1) λaX=>
 pv (.bin .mul) [ii 1000,a1] λaY=>
 Ya aY (ii 1) λaZ=>
 pv (.mx) [aX,aZ] λbw=>
 Yz bw λb_=>
 some [b_]) λk0=>
 aA aW (
 Yb a6 aR λbk=>
 Yc 8 4 a6 aR λaX=>
 k0 [aX]) (
 k0 [ii 0])
theorem aoW:(Xe).den (pick [(157,bV)]) R [] [a0,a1,a2,a3,a4,a5,a6,a7,a8,a9,aI,aK,aT,aL,aN]=E8 bV a1 a6 a7 a8 a9 aI aK aT aL aN:=(dR (by kernel_rfl)).trans (by kernel_rfl)
theorem aoX:AM [a0,a1,a2,a3,a4,a5,a6,a7,a8,a9,aI,aK,aT,aL,aN]=E8 xC a1 a6 a7 a8 a9 aI aK aT aL aN:=fs_z.trans (aoW rounds ..)
def E9:Option (List T):=
 Yu a1 (ii 1) λa8=>
 jn (ft λa9=>
 Yz a7 λaI=>
 Yz a9 λaK=>
 Yz a4 λaT=>
 Yz a3 λaL=>
 Yz a2 λaN=>
 Yz a1 λaR=>
 Yz a0 λaW=>
 some [aW,aR,aN,aL,aT,.l [],aK,aI]) λk0=>
 aA a8 (
 k0 [ii 60000]) (
 k0 [a6])
theorem aoY:(Xg).den (pick []) R [] [a0,a1,a2,a3,a4,a5,a6,a7]=E9 a0 a1 a2 a3 a4 a6 a7:=(dR (by kernel_rfl)).trans (by kernel_rfl)
theorem aoZ:AO [a0,a1,a2,a3,a4,a5,a6,a7]=E9 a0 a1 a2 a3 a4 a6 a7:=fs_z.trans (aoY rounds ..)
def A0:Option (List T):=
 (ew λaN aR=>
 Yl aR aL λaW=>
 aA aW (
 Y8 a6 aR λaX aY aZ bw b_ bQ bU bZ=>
 Yu aZ a0 λca=>
 aA ca (
 Ya aR (ii 1) λcd=>
 k1 [aN,cd]) (
 bp (bV [aK,aX,aY,aZ,bw,b_,bQ,bU,bZ]) λcd=>
 Yh cd (ii 0) λcb=>
 aA cb (
 Ya aR (ii 1) λcB=>
 k1 [aN,cB]) (
 sb (k_ [aX,aY,aZ,bw,b_,bQ,bU,bZ]) λcB cY cR cH cK dE dv di=>
 bp (ff [cB,cY,cR,cH,cK,dE,dv,di,aX,aY,aZ,bw,b_,bQ,bU,bZ]) λdL=>
 Yt dL λeQ=>
 jn (ew λfx fM=>
 Ya aR (ii 1) λiM=>
 k1 [fx,iM]) λk2=>
 aA eQ (
 bp (gI [a0,a1,a2,a3,a4,a5,a6,aX,aY,aZ,bw,b_,bQ,bU,bZ]) λfx=>
 bp (bT [aN,cB,cY,cR,cH,fx,dE,dv,di]) λfM=>
 k2 [fM,fx]) (
 k2 [aN,cK])))) (
 some [aN])) ts
def A1:Option (List T):=
 (ve λa9 aI aK=>
 Yl aI a8 λaT=>
 aA aT (
 Y8 aK aI λaN aR aW bk aX aY aZ bw=>
 bp (bV [a6,aN,aR,aW,bk,aX,aY,aZ,bw]) λb_=>
 Yl b_ (ii 0) λbQ=>
 aA bQ (
 jn (ew λbU bZ=>
 Ya aI (ii 1) λca=>
 k0 [bU,ca,aK]) λk1=>
 bp (gI [a0,a1,a2,a3,a4,a5,a6,aN,aR,aW,bk,aX,aY,aZ,bw]) λbU=>
 bp (bT [a9,aN,aR,aW,bk,bU,aY,aZ,bw]) λbZ=>
 k1 [bZ,bU]) (
 Y8 a6 b_ λbZ ca cd cb cB cY cR cH=>
 bp (ff [bZ,ca,cd,cb,cB,cY,cR,cH,aN,aR,aW,bk,aX,aY,aZ,bw]) λcK=>
 Yt cK λdE=>
 jn (ew λdv di=>
 Ya aI (ii 1) λdL=>
 k0 [dv,dL,aK]) λk1=>
 aA dE (
 bp (gI [a0,a1,a2,a3,a4,a5,a6,aN,aR,aW,bk,aX,aY,aZ,bw]) λdv=>
 bp (bT [a9,aN,aR,aW,bk,dv,aY,aZ,bw]) λdi=>
 k1 [di,dv]) (
 k1 [a9,aX]))) (
 Yn a6 λaL=>
 iter (A0 ff k_ bV bT gI a0 a1 a2 a3 a4 a5 a6 aK aL) R [a9,ii 0])) ts
def L1:Option (List T):=
 bp (mg [a0,a1,a2,a3,a4,a5,a6]) λa7=>
 Yn a7 λa8=>
 iter (A1 R ff k_ bV bT gI a0 a1 a2 a3 a4 a5 a6 a8) R [.l [],ii 0,a7]
theorem ao0:(Xi).den (pick [(18,mg),(57,bT),(157,bV),(158,ff),(159,gI),(160,k_)]) R [] [a0,a1,a2,a3,a4,a5,a6]=L1 R ff mg k_ bV bT gI a0 a1 a2 a3 a4 a5 a6:=(dR (by kernel_rfl)).trans (by kernel_rfl)
theorem ao1:AP [a0,a1,a2,a3,a4,a5,a6]=L1 rounds Xc NZ AO xC vU AM a0 a1 a2 a3 a4 a5 a6:=fs_z.trans (ao0 rounds ..)
def L2:Option (List T):=
 (ve λaY aZ bw=>
 Yl bw aX λb_=>
 aA b_ (
 Yb aW bw λbQ=>
 pv (.bn 8 0) [aW,bw] λbU=>
 pv (.bn 8 1) [aW,bw] λbZ=>
 pv (.bn 8 2) [aW,bw] λca=>
 pv (.bn 8 3) [aW,bw] λcd=>
 pv (.bn 8 4) [aW,bw] λcb=>
 pv (.bD 8 5) [aW,bw] λcB=>
 pv (.bn 8 6) [aW,bw] λcY=>
 pv (.bn 8 7) [aW,bw] λcR=>
 Yg cb (ii 100000) λcH=>
 aA cH (
 Yz a9 λcK=>
 Yz a8 λdE=>
 Yz a7 λdv=>
 some [dv,dE,cK,aI,aK,aT,aL,.l []]) (
 pv (.bD 8 5) [aW,bw] λcK=>
 bp (bT [aZ,bU,bZ,ca,cd,cb,cK,cY,cR]) λdE=>
 Ya bw (ii 1) λdv=>
 k0 [aY,dE,dv])) (
 Yn aZ λbQ=>
 Yg bQ (ii 150) λbU=>
 aA bU (
 Yz a9 λbZ=>
 Yz a8 λca=>
 Yz a7 λcd=>
 some [cd,ca,bZ,aI,aK,aT,aL,.l []]) (
 Yz a9 λbZ=>
 Yz a8 λca=>
 Yz a7 λcd=>
 some [cd,ca,bZ,aI,aK,aT,aZ,aW]))) ts
def E_:Option (List T):=
 D7 (jM [a0,a1,a2,a3,a4,a5,a6]) λa7 a8 a9 aI aK aT aL=>
 bp (eG [a0,a1,a2,a3,a4,a5,a6]) λaN=>
 Yt aN λaR=>
 aA aR (
 Yz a9 λaW=>
 Yz a8 λbk=>
 Yz a7 λaX=>
 some [aX,bk,aW,aI,aK,aT,aL,.l []]) (
 bp (nG [a0,a1,a2,a3,a4,a5,a6]) λaW=>
 bp (aP [a6]) λbk=>
 Yn aW λaX=>
 iter (L2 bT a7 a8 a9 aI aK aT aL aW aX) R [.l [],bk,ii 0])
theorem ao2:(Xk).den (pick [(13,eG),(54,jM),(55,nG),(56,aP),(57,bT)]) R [] [a0,a1,a2,a3,a4,a5,a6]=E_ R eG aP jM nG bT a0 a1 a2 a3 a4 a5 a6:=(dR (by kernel_rfl)).trans (by kernel_rfl)
theorem Yk:AQ [a0,a1,a2,a3,a4,a5,a6]=E_ rounds EC AF Wi AP vU a0 a1 a2 a3 a4 a5 a6:=fs_z.trans (ao2 rounds ..)
def Yr:Option (List T):=
 (ew λa7 a8=>
 Ym a8 (ii 2) λa9=>
 aA a9 (
 bp (dl [a0,a1,a2,a3,a5,a8]) λaI=>
 Yh aI (ii 0) λaK=>
 jn (ft λaT=>
 Ya a8 (ii 1) λaL=>
 k1 [aT,aL]) λk2=>
 aA aK (
 pv (.lit 4 [true,true,true,true]) [a5,a8,ii 0,bb false] λaT=>
 pv (.app true 4) [a7,aT] λaL=>
 k2 [aL]) (
 k2 [a7])) (
 Ya a5 (ii 1) λaI=>
 k0 [a7,aI])) ts
def YA:Option (List T):=
 (ew λa4 a5=>
 Ym a5 a0 λa6=>
 aA a6 (
 iter (Yr dl a0 a1 a2 a3 a5 k0) R [a4,ii 0]) (
 some [a4])) ts
def L3:Option (List T):=
 iter (YA R dl a0 a1 a2 a3) R [.l [],ii 1]
theorem ao3:(Xm).den (pick [(172,dl)]) R [] [a0,a1,a2,a3]=L3 R dl a0 a1 a2 a3:=(dR (by kernel_rfl)).trans (by kernel_rfl)
theorem ao4:Xn [a0,a1,a2,a3]=L3 rounds EB a0 a1 a2 a3:=fs_z.trans (ao3 rounds ..)
def E':Option (List T):=
 lK (dW [a0,a1,a2]) λa5 a6 a7=>
 bp (eG [a3,a4,a5,a6,a7,.l [],.l []]) λa8=>
 Yt a8 λa9=>
 aA a9 (
 Yz (bb false) λaI=>
 Yz (ii 0) λaK=>
 Yz (ii 0) λaT=>
 Yz (ii 0) λaL=>
 some [aL,aT,aK,.l [],.l [],.l [],.l [],.l [],aI]) (
 sb (nF [a3,a4,a5,a6,a7,.l [],.l []]) λaI aK aT aL aN aR aW bk=>
 bp (mh [a0,a1,a2,a3]) λaX=>
 Yz (bb true) λaY=>
 Yz aT λaZ=>
 Yz aK λbw=>
 Yz aI λb_=>
 some [b_,bw,aZ,aL,aN,aR,aW,aX,aY])
theorem ao5:(Xp).den (pick [(11,nF),(13,eG),(87,mh),(90,dW)]) R [] [a0,a1,a2,a3,a4]=E' nF eG dW mh a0 a1 a2 a3 a4:=(dR (by kernel_rfl)).trans (by kernel_rfl)
theorem YB:Xq [a0,a1,a2,a3,a4]=E' AQ EC AE Xn a0 a1 a2 a3 a4:=fs_z.trans (ao5 rounds ..)
def L4:Option (List T):=
 (Gy λaT aL aN aR aW=>
 Ym aT a0 λbk=>
 aA bk (
 D8 (gP [a0,a1,a2,aT,ii 0]) λaX aY aZ bw b_ bQ bU bZ ca=>
 Yx (bb true) λcd=>
 Yp aL cd λcb=>
 Yx (ii 0) λcB=>
 Yp aN cB λcY=>
 pv (.lit 8 [true,true,true,false,false,false,false,false]) [aX,aY,aZ,bw,b_,bQ,bU,bZ] λcR=>
 Yy aR cR λcH=>
 bp (aP [bU]) λcK=>
 Yy aW cK λdE=>
 Ya aT (ii 1) λdv=>
 k1 [dv,cb,cY,cH,dE]) (
 Yz (bb true) λaX=>
 Yz (ii 0) λaY=>
 Yz a5 λaZ=>
 some [aZ,a6,a7,aI,aL,aN,aR,.l [],aW,aY,aX])) ts
def L5:Option (List T):=
 (ew λa9 aI=>
 Yl a9 a8 λaK=>
 aA aK (
 Yx (bb true) λaT=>
 Yp aI aT λaL=>
 Ya a9 (ii 1) λaN=>
 k0 [aN,aL]) (
 iter (L4 gP aP a0 a1 a2 a5 a6 a7 aI) R [ii 1,.l [],.l [],.l [],.l []])) ts
def kH_:Option (List T):=
 bp (iD [a0,a1,a2]) λa3=>
 Yt a3 λa4=>
 aA a4 (
 Yz (bb false) λa5=>
 Yz (ii 0) λa6=>
 Yz (ii 0) λa7=>
 some [a7,.l [],.l [],.l [],.l [],.l [],.l [],.l [],.l [],a6,a5]) (
 lK (dW [a0,a1,a2]) λa5 a6 a7=>
 Yn a1 λa8=>
 iter (L5 R gP aP a0 a1 a2 a5 a6 a7 a8) R [ii 0,.l []])
theorem ao6:(Xs).den (pick [(25,gP),(56,aP),(68,iD),(90,dW)]) R [] [a0,a1,a2]=kH_ R iD gP dW aP a0 a1 a2:=(dR (by kernel_rfl)).trans (by kernel_rfl)
theorem ao7:Xt [a0,a1,a2]=kH_ rounds J1 Xq AE AF a0 a1 a2:=fs_z.trans (ao6 rounds ..)
end
end Go.Proofs.YtjimmglpkndemaaGreatC
