/- The plain programs as native functions (printed by a program). Conditions: none. -/
import Derived.Test.YtjimmglpkndemaaGreatXPX
import Derived.Test.YtjimmglpkndemaaGreatKe
namespace Go.Proofs.YtjimmglpkndemaaGreatC
set_option linter.unusedVariables false
theorem fs_z {p:PL} {ks ts}:Fs p ks ts=p.den (pick ks) rounds [] ts:=rfl
section
variable (R:Nat) (wZ w7 ac7 Z4 Z5 Z6 Py Z7 Pz ac8 Z8 LM H5 LN H6 Z9 PA LO LP LQ H7 H8 PB LR C8 C9 LS F_ dG e_ iS jR iT fU Ga H9 PC jS gP nY PD mz Gb iC lL eC cY fm cM nZ eK fV Gc bh mA dm cZ lM sd ai lr jT bR bB fo aU PE mB n6 lu dt jU eG lz H_ b8 cd Ia lA du mC LU se ca iD gQ LV nk fW ej jV iU jW cq nl lB Gd PF jX n7 PG jY mD Ge iE lN fq c8 ft fa n8 eL cN Gf db mE cf dv aJ iF jL gv bV bu lC eD BV cr dx eH jZ dH gx ek fX cO j6 jr fR dI jt lD LW BW eb gy Ib fO iV Z_ aac PH PI ac9 aad LX LY Ic aae LZ ac_ aaf aag aah PJ aai PK ac' aaj L0 L1 Ie aak PM L3:af)
variable (a0 a1 a2 a3 a4 a5 a6 a7 a8 a9 aH aK aP aM aL aO aR bd aV aT aQ bw bY bD bH bK bL cb bZ cn cI cH cB cF dy dg cQ df eO fA fL fM iW kl lX iL jE j7 j8 kJ kQ iq jM mS pf np qL sN uS vX sf sO vY ul sP C_ Gg Ig a68 a69 a70 a71 a72 a73 a74 a75 a76 a77 a78 a79 a80 a81 a82 a83 a84 a85 a86 a87 a88 a89 a90 a91 a92 a93 a94 a95 a96 a97 a98 a99 ayE ayF ayG ayH ayI ayJ ayK ayL ayM ayN ayO ayP ayQ ayR ayS ayT ayU ayV ayW ayX ayY ayZ ay0 ay1 ay2 ay3 ay4 ay5 ay6 ay7 ay8 ay9 ay_ ay' aza azb azc azd aze azf azg azh azi azj azk azl azm azn azo azp azq azr azs azt azu azv azw azx azy azz azA azB azC azD azE azF azG azH azI azJ azK azL azM azN azO azP azQ azR azS azT azU azV azW azX azY azZ az0 az1 az2 az3 az4 az5 az6 az7 az8 az9 az_ az' aAa aAb aAc aAd aAe aAf aAg aAh aAi aAj aAk aAl aAm aAn aAo aAp aAq aAr aAs aAt aAu aAv aAw aAx aAy aAz aAA aAB aAC aAD aAE aAF aAG aAH aAI aAJ aAK aAL aAM aAN aAO aAP aAQ aAR aAS aAT aAU aAV aAW aAX aAY aAZ aA0 aA1 aA2 aA3 aA4 aA5 aA6 aA7 aA8 aA9 aA_ aA' aBa aBb aBd aBe aBf aBg aBh aBi aBj aBk aBl aBm aBn aBo aBp aBq aBr aBs aBt aBu aBv aBw aBx aBy aBz aBA aBB aBC aBD aBE aBF aBG aBH aBI aBJ aBK aBL aBM aBN aBO aBP aBQ aBR aBS aBT aBU aBV aBW aBX aBY aBZ aB0 aB1 aB2 aB3 aB4 aB5 aB6 aB7 aB8 aB9 aB_ aB' aCa aCb aCc aCd aCe aCf aCg aCh aCi aCj aCk aCl aCm aCn aCo aCp aCq aCr aCs aCt aCu aCv aCw aCx aCy aCz aCA aCB aCC aCD aCE aCF aCG aCH aCI aCJ aCK aCL aCM aCN aCO aCP aCQ aCR aCS aCT aCU aCV aCW aCX aCY aCZ aC0 aC1 aC2 aC3 aC4 aC5 aC6 aC7 aC8 aC9 aC_ aC' aDa aDb aDc aDd aDe aDf aDg aDh aDi aDj aDk:T) (k0 k1 k2 k3 k4 k5 k6 k7 k8 k9 k10 k11 k12 k13 k14 k15 k16 k17 k18 k19:af) (ts:List T)
def L4:Option (List T):=
 pv (.lit 2 []) [] λa8=>
 pv (.app true 2) [a8,a5] λa9=>
 Yz a7 λaH=>
 Yz a6 λaK=>
 Yz a4 λaP=>
 Yz a3 λaM=>
 Yz a2 λaL=>
 Yz a1 λaO=>
 Yz a0 λaR=>
 some [aR,aO,aL,aM,aP,a9,aK,aH]
theorem aoy:(UT).den (pick []) R [] [a0,a1,a2,a3,a4,a5,a6,a7]=L4 a0 a1 a2 a3 a4 a5 a6 a7:=(dq (by kernel_rfl)).trans (by kernel_rfl)
theorem aoz:Bv [a0,a1,a2,a3,a4,a5,a6,a7]=L4 a0 a1 a2 a3 a4 a5 a6 a7:=fs_z.trans (aoy rounds ..)
def v8_:Option (List T):=
 (ed λa2 a3=>
 Yn a0 λa4=>
 Yl a3 a4 λa5=>
 aA a5 (
 Y8 a0 a3 λa7 a8 a9 aH aK aP aM aL=>
 po (bV [a7,a8,a9,aH,aK,aP,aM,aL]) λaO aR bd aV aT aQ bw bY=>
 pv (.lit 8 [true,true,true,true,true,false,true,true]) [aO,aR,bd,aV,aT,aQ,bw,bY] λbD=>
 Yy a2 bD λbH=>
 Ya a3 (ii 1) λbK=>
 k0 [bH,bK]) (
 some [a2])) ts
def k7_:Option (List T):=
 pv (.lit 8 []) [] λa1=>
 iter (v8_ bV a0) R [a1,ii 0]
theorem aoB:(UW).den (pick [(65,bV)]) R [] [a0]=k7_ R bV a0:=(dq (by kernel_rfl)).trans (by kernel_rfl)
theorem aoC:C5 [a0]=k7_ rounds Bv a0:=fs_z.trans (aoB rounds ..)
def Gi:Option (List T):=
 pv (.lit 4 []) [] λa7=>
 pv (.app true 4) [a7,a3] λa8=>
 pv (.lit 4 []) [] λa9=>
 pv (.app true 4) [a9,a4] λaH=>
 pv (.lit 1 []) [] λaK=>
 Yp aK a5 λaP=>
 bp (bu [a6]) λaM=>
 Yz a2 λaL=>
 Yz a1 λaO=>
 Yz a0 λaR=>
 some [aR,aO,aL,a8,aH,aP,aM]
theorem aoD:(UY).den (pick [(66,bu)]) R [] [a0,a1,a2,a3,a4,a5,a6]=Gi bu a0 a1 a2 a3 a4 a5 a6:=(dq (by kernel_rfl)).trans (by kernel_rfl)
theorem aal:H3 [a0,a1,a2,a3,a4,a5,a6]=Gi C5 a0 a1 a2 a3 a4 a5 a6:=fs_z.trans (aoD rounds ..)
def L5:Option (List T):=
 C3 (cO [a0,a1,a2,a3,a4,a5,a6]) λa8 a9 aH aK aP aM aL=>
 pv (.lit 4 []) [] λaO=>
 pv (.app true 4) [aO,a7] λaR=>
 Yz aH λbd=>
 Yz a9 λaV=>
 Yz a8 λaT=>
 some [aT,aV,bd,aK,aP,aM,aL,aR]
theorem aoE:(U1).den (pick [(59,cO)]) R [] [a0,a1,a2,a3,a4,a5,a6,a7]=L5 cO a0 a1 a2 a3 a4 a5 a6 a7:=(dq (by kernel_rfl)).trans (by kernel_rfl)
theorem aoF:U2 [a0,a1,a2,a3,a4,a5,a6,a7]=L5 H3 a0 a1 a2 a3 a4 a5 a6 a7:=fs_z.trans (aoE rounds ..)
def L6:Option (List T):=
 Yh a0 a1 λa3=>
 aA a3 (
 Ym a0 a2 λa4=>
 Yz a4 λa5=>
 some [a5]) (
 Yz (bb false) λa4=>
 some [a4])
theorem aoG:(U4).den (pick []) R [] [a0,a1,a2]=L6 a0 a1 a2:=(dq (by kernel_rfl)).trans (by kernel_rfl)
theorem aoH:r9 [a0,a1,a2]=L6 a0 a1 a2:=fs_z.trans (aoG rounds ..)
def L7:Option (List T):=
 bp (aJ [a0,ii 1,ii 6]) λa5=>
 aA a5 (
 bp (aJ [a1,ii 1,a0]) λa6=>
 aA a6 (
 bp (aJ [a2,ii 1,a0]) λa7=>
 aA a7 (
 Yl a1 a2 λa8=>
 aA a8 (
 bp (aJ [a3,ii 1,ii 1000]) λa9=>
 aA a9 (
 bp (aJ [a4,ii 0,ii 2]) λaH=>
 Yz aH λaK=>
 some [aK]) (
 Yz (bb false) λaH=>
 some [aH])) (
 Yz (bb false) λa9=>
 some [a9])) (
 Yz (bb false) λa8=>
 some [a8])) (
 Yz (bb false) λa7=>
 some [a7])) (
 Yz (bb false) λa6=>
 some [a6])
theorem aoI:(U6).den (pick [(105,aJ)]) R [] [a0,a1,a2,a3,a4]=L7 aJ a0 a1 a2 a3 a4:=(dq (by kernel_rfl)).trans (by kernel_rfl)
theorem aoJ:U7 [a0,a1,a2,a3,a4]=L7 r9 a0 a1 a2 a3 a4:=fs_z.trans (aoI rounds ..)
def L8:Option (List T):=
 Yl a0 a4 λa8=>
 aA a8 (
 Yz (bb true) λa9=>
 some [a9]) (
 Ye a0 a4 λa9=>
 aA a9 (
 Yl a1 a5 λaH=>
 aA aH (
 Yz (bb true) λaK=>
 some [aK]) (
 Ye a1 a5 λaK=>
 aA aK (
 Yl a3 a7 λaP=>
 Yz aP λaM=>
 some [aM]) (
 Yz (bb false) λaP=>
 some [aP]))) (
 Yz (bb false) λaH=>
 some [aH]))
theorem aoK:(U9).den (pick []) R [] [a0,a1,a2,a3,a4,a5,a6,a7]=L8 a0 a1 a3 a4 a5 a7:=(dq (by kernel_rfl)).trans (by kernel_rfl)
theorem aoL:U_ [a0,a1,a2,a3,a4,a5,a6,a7]=L8 a0 a1 a3 a4 a5 a7:=fs_z.trans (aoK rounds ..)
def L9:Option (List T):=
 Yl a1 a5 λa8=>
 aA a8 (
 Yz (bb true) λa9=>
 some [a9]) (
 Ye a1 a5 λa9=>
 aA a9 (
 Yl a0 a4 λaH=>
 Yz aH λaK=>
 some [aK]) (
 Yz (bb false) λaH=>
 some [aH]))
theorem aoM:(Va).den (pick []) R [] [a0,a1,a2,a3,a4,a5,a6,a7]=L9 a0 a1 a4 a5:=(dq (by kernel_rfl)).trans (by kernel_rfl)
theorem aoN:Vb [a0,a1,a2,a3,a4,a5,a6,a7]=L9 a0 a1 a4 a5:=fs_z.trans (aoM rounds ..)
def L_:Option (List T):=
 (ed λaM aL=>
 Yn a2 λaO=>
 Yl aL aO λaR=>
 aA aR (
 Y4 a2 aL λaV aT aQ bw=>
 bp (aJ [aV,ii 1,a0]) λbY=>
 Yt bY λbD=>
 aA bD (
 Yz (bb false) λbH=>
 some [bH]) (
 bp (aJ [aT,ii 1,ii 9]) λbH=>
 Yt bH λbK=>
 aA bK (
 Yz (bb false) λbL=>
 some [bL]) (
 bp (aJ [aQ,ii 1,ii 1000]) λbL=>
 Yt bL λcb=>
 aA cb (
 Yz (bb false) λbZ=>
 some [bZ]) (
 Yg aL (ii 0) λbZ=>
 aA bZ (
 Ys aL (ii 1) λcn=>
 Y4 a2 cn λcH cB cF dy=>
 bp (gv [cH,cB,cF,dy,aV,aT,aQ,bw]) λdg=>
 Yt dg λcQ=>
 aA cQ (
 Yz (bb false) λdf=>
 some [df]) (
 Ya aL (ii 1) λdf=>
 k1 [aM,df])) (
 Ya aL (ii 1) λcn=>
 k1 [aM,cn]))))) (
 Yz (bb true) λbd=>
 some [bd])) ts
def L':Option (List T):=
 (ed λa9 aH=>
 Yn a1 λaK=>
 Yl aH aK λaP=>
 aA aP (
 Y4 a1 aH λaL aO aR bd=>
 bp (jX [a0,aL,aO,aR,bd]) λaV=>
 Yt aV λaT=>
 aA aT (
 Yz (bb false) λaQ=>
 some [aQ]) (
 Yg aH (ii 0) λaQ=>
 aA aQ (
 Ys aH (ii 1) λbw=>
 Y4 a1 bw λbD bH bK bL=>
 Y4 a1 aH λbZ cn cI cH=>
 bp (iF [bD,bH,bK,bL,bZ,cn,cI,cH]) λcB=>
 Yt cB λcF=>
 aA cF (
 Yz (bb false) λdy=>
 some [dy]) (
 Ya aH (ii 1) λdy=>
 k0 [a9,dy])) (
 Ya aH (ii 1) λbw=>
 k0 [a9,bw]))) (
 iter (L_ aJ gv a0 a2) R [a9,ii 0])) ts
def Ma:Option (List T):=
 bp (aJ [a0,ii 1,ii 6]) λa3=>
 Yt a3 λa4=>
 aA a4 (
 Yz (bb false) λa5=>
 some [a5]) (
 Yn a1 λa5=>
 Yg a5 (ii 12) λa6=>
 aA a6 (
 Yz (bb false) λa7=>
 some [a7]) (
 Yn a2 λa7=>
 Yg a7 (ii 4) λa8=>
 aA a8 (
 Yz (bb false) λa9=>
 some [a9]) (
 iter (L' R jX aJ iF gv a0 a1 a2) R [bb false,ii 0])))
theorem aoO:(Vd).den (pick [(105,aJ),(203,jX),(204,iF),(205,gv)]) R [] [a0,a1,a2]=Ma R jX aJ iF gv a0 a1 a2:=(dq (by kernel_rfl)).trans (by kernel_rfl)
theorem aoP:Bw [a0,a1,a2]=Ma rounds U7 r9 U_ Vb a0 a1 a2:=fs_z.trans (aoO rounds ..)
def jR_:Option (List T):=
 (ed λa6 a7=>
 Yn a1 λa8=>
 Yl a7 a8 λa9=>
 aA a9 (
 Y4 a1 a7 λaK aP aM aL=>
 Ye aL a5 λaO=>
 aA aO (
 Ye aK a3 λaR=>
 aA aR (
 Ye aP a4 λbd=>
 aA bd (
 Yz aM λaV=>
 some [aV]) (
 Ye aK a4 λaV=>
 aA aV (
 Ye aP a3 λaT=>
 aA aT (
 Yz aM λaQ=>
 some [aQ]) (
 Ya a7 (ii 1) λaQ=>
 k0 [a6,aQ])) (
 Ya a7 (ii 1) λaT=>
 k0 [a6,aT]))) (
 Ye aK a4 λbd=>
 aA bd (
 Ye aP a3 λaV=>
 aA aV (
 Yz aM λaT=>
 some [aT]) (
 Ya a7 (ii 1) λaT=>
 k0 [a6,aT])) (
 Ya a7 (ii 1) λaV=>
 k0 [a6,aV]))) (
 Ya a7 (ii 1) λaR=>
 k0 [a6,aR])) (
 Yz (ii 0) λaH=>
 some [aH])) ts
def Mb:Option (List T):=
 iter (jR_ a1 a3 a4 a5) R [ii 0,ii 0]
theorem aoQ:(Vf).den (pick []) R [] [a0,a1,a2,a3,a4,a5]=Mb R a1 a3 a4 a5:=(dq (by kernel_rfl)).trans (by kernel_rfl)
theorem aoR:Bx [a0,a1,a2,a3,a4,a5]=Mb rounds a1 a3 a4 a5:=fs_z.trans (aoQ rounds ..)
def qk_:Option (List T):=
 (ed λaP aM=>
 Yn a5 λaL=>
 Yl aM aL λaO=>
 aA aO (
 Y1 a5 aM λbd=>
 Ya aM (ii 1) λaV=>
 Y1 a5 aV λaQ=>
 bp (cq [a2,a3,a4,a0,bd,aQ]) λbw=>
 Ye bw (ii 0) λbY=>
 aA bY (
 Yz (bb false) λbD=>
 some [bD]) (
 Yg aM (ii 0) λbD=>
 aA bD (
 Ys aM (ii 2) λbH=>
 Y1 a5 bH λbL=>
 Yg bL bd λcb=>
 aA cb (
 Yz (bb false) λbZ=>
 some [bZ]) (
 Ys aM (ii 2) λbZ=>
 Y1 a5 bZ λcI=>
 Ye cI bd λcH=>
 aA cH (
 Ys aM (ii 1) λcB=>
 Y1 a5 cB λdy=>
 Yh dy aQ λdg=>
 aA dg (
 Yz (bb false) λcQ=>
 some [cQ]) (
 Ya aM (ii 2) λcQ=>
 k0 [aP,cQ])) (
 Ya aM (ii 2) λcB=>
 k0 [aP,cB]))) (
 Ya aM (ii 2) λbH=>
 k0 [aP,bH]))) (
 Yz (bb true) λaR=>
 some [aR])) ts
def Mc:Option (List T):=
 Yn a5 λa7=>
 pv (.bin .rem) [a7,ii 2] λa8=>
 Ye a8 (ii 1) λa9=>
 aA a9 (
 Yz (bb false) λaH=>
 some [aH]) (
 Yn a5 λaH=>
 Yg aH (ii 60) λaK=>
 aA aK (
 Yz (bb false) λaP=>
 some [aP]) (
 iter (qk_ cq a0 a2 a3 a4 a5) R [bb false,ii 0]))
theorem aoS:(Vh).den (pick [(150,cq)]) R [] [a0,a1,a2,a3,a4,a5,a6]=Mc R cq a0 a2 a3 a4 a5:=(dq (by kernel_rfl)).trans (by kernel_rfl)
theorem aoT:Vi [a0,a1,a2,a3,a4,a5,a6]=Mc rounds Bx a0 a2 a3 a4 a5:=fs_z.trans (aoS rounds ..)
def ja_:Option (List T):=
 (ed λa8 a9=>
 Yn a5 λaH=>
 Yl a9 aH λaK=>
 aA aK (
 Y2 a5 a9 λaM aL=>
 bp (aJ [aM,ii 1,ii 6]) λaO=>
 Yt aO λaR=>
 aA aR (
 Yz (bb false) λbd=>
 some [bd]) (
 Ye aM a2 λbd=>
 aA bd (
 Yz (bb false) λaV=>
 some [aV]) (
 bp (aJ [aL,ii 1,ii 1000]) λaV=>
 Yt aV λaT=>
 aA aT (
 Yz (bb false) λaQ=>
 some [aQ]) (
 Yg a9 (ii 0) λaQ=>
 aA aQ (
 Ys a9 (ii 1) λbw=>
 Yb a5 bw λbY=>
 Yc 2 0 a5 bw λbD=>
 Yh bD aM λbH=>
 aA bH (
 Yz (bb false) λbK=>
 some [bK]) (
 Ya a9 (ii 1) λbK=>
 k0 [a8,bK])) (
 Ya a9 (ii 1) λbw=>
 k0 [a8,bw]))))) (
 Yz (bb true) λaP=>
 some [aP])) ts
def Md:Option (List T):=
 iter (ja_ aJ a2 a5) R [bb false,ii 0]
theorem aoU:(Vk).den (pick [(105,aJ)]) R [] [a0,a1,a2,a3,a4,a5,a6,a7]=Md R aJ a2 a5:=(dq (by kernel_rfl)).trans (by kernel_rfl)
theorem aoV:Vl [a0,a1,a2,a3,a4,a5,a6,a7]=Md rounds r9 a2 a5:=fs_z.trans (aoU rounds ..)
def Me:Option (List T):=
 bp (aJ [a2,ii 1,ii 6]) λa8=>
 Yt a8 λa9=>
 aA a9 (
 Yz (bb false) λaH=>
 some [aH]) (
 bp (aJ [a4,ii 1,ii 100000]) λaH=>
 Yt aH λaK=>
 aA aK (
 Yz (bb false) λaP=>
 some [aP]) (
 Ye a1 (ii 1) λaP=>
 aA aP (
 bp (aJ [a0,ii 0,ii 2]) λaM=>
 aA aM (
 Ye a3 (ii 0) λaL=>
 aA aL (
 bp (lC [a0,a1,a2,a3,a4,a5,a6,a7]) λaO=>
 aA aO (
 Ye a6 (ii 0) λaR=>
 aA aR (
 Yt a7 λbd=>
 Yz bd λaV=>
 some [aV]) (
 Yz (bb false) λbd=>
 some [bd])) (
 Yz (bb false) λaR=>
 some [aR])) (
 Yz (bb false) λaO=>
 some [aO])) (
 Yz (bb false) λaL=>
 some [aL])) (
 Ye a1 (ii 2) λaM=>
 aA aM (
 bp (aJ [a0,ii 0,ii 2]) λaL=>
 aA aL (
 bp (aJ [a3,ii 1,ii 6]) λaO=>
 aA aO (
 Yn a5 λaR=>
 Ye aR (ii 0) λbd=>
 aA bd (
 bp (aJ [a6,ii 0,ii 60000]) λaV=>
 aA aV (
 Yt a7 λaT=>
 Yz aT λaQ=>
 some [aQ]) (
 Yz (bb false) λaT=>
 some [aT])) (
 Yz (bb false) λaV=>
 some [aV])) (
 Yz (bb false) λaR=>
 some [aR])) (
 Yz (bb false) λaO=>
 some [aO])) (
 Ye a1 (ii 3) λaL=>
 aA aL (
 Ye a0 (ii 9) λaO=>
 aA aO (
 bp (aJ [a3,ii 1,ii 9]) λaR=>
 aA aR (
 Yn a5 λbd=>
 Ye bd (ii 0) λaV=>
 aA aV (
 bp (aJ [a6,ii 1,ii 1000]) λaT=>
 aA aT (
 Yz (bb true) λaQ=>
 some [aQ]) (
 Ye a6 (ii 60000) λaQ=>
 Yz aQ λbw=>
 some [bw])) (
 Yz (bb false) λaT=>
 some [aT])) (
 Yz (bb false) λbd=>
 some [bd])) (
 Yz (bb false) λaR=>
 some [aR])) (
 Yz (bb false) λaO=>
 some [aO])))))
theorem aoW:(Vn).den (pick [(105,aJ),(229,lC)]) R [] [a0,a1,a2,a3,a4,a5,a6,a7]=Me aJ lC a0 a1 a2 a3 a4 a5 a6 a7:=(dq (by kernel_rfl)).trans (by kernel_rfl)
theorem aoX:Vo [a0,a1,a2,a3,a4,a5,a6,a7]=Me r9 Vl a0 a1 a2 a3 a4 a5 a6 a7:=fs_z.trans (aoW rounds ..)
def Mf:Option (List T):=
 Yu a0 a8 λaR=>
 aA aR (
 Yl a0 a8 λbd=>
 Yz bd λaV=>
 some [aV]) (
 Yu a1 a9 λbd=>
 aA bd (
 Yl a1 a9 λaV=>
 Yz aV λaT=>
 some [aT]) (
 Yu a2 aH λaV=>
 aA aV (
 Yl a2 aH λaT=>
 Yz aT λaQ=>
 some [aQ]) (
 Yl a3 aK λaT=>
 Yz aT λaQ=>
 some [aQ])))
theorem aoY:(Vq).den (pick []) R [] [a0,a1,a2,a3,a4,a5,a6,a7,a8,a9,aH,aK,aP,aM,aL,aO]=Mf a0 a1 a2 a3 a8 a9 aH aK:=(dq (by kernel_rfl)).trans (by kernel_rfl)
theorem aoZ:K6 [a0,a1,a2,a3,a4,a5,a6,a7,a8,a9,aH,aK,aP,aM,aL,aO]=Mf a0 a1 a2 a3 a8 a9 aH aK:=fs_z.trans (aoY rounds ..)
def qZ_:Option (List T):=
 (ed λa3 a4=>
 Yn a0 λa5=>
 Yl a4 a5 λa6=>
 aA a6 (
 Y8 a0 a4 λa8 a9 aH aK aP aM aL aO=>
 bp (iE [a8,a9,aH,aK,aP,aM,aL,aO]) λaR=>
 Yt aR λbd=>
 aA bd (
 Yz (bb false) λaV=>
 some [aV]) (
 Yg a4 (ii 0) λaV=>
 aA aV (
 Ys a4 (ii 1) λaT=>
 Y8 a0 aT λbw bY bD bH bK bL cb bZ=>
 Y8 a0 a4 λcI cH cB cF dy dg cQ df=>
 bp (ej [bw,bY,bD,bH,bK,bL,cb,bZ,cI,cH,cB,cF,dy,dg,cQ,df]) λeO=>
 Yt eO λfA=>
 aA fA (
 Yz (bb false) λfL=>
 some [fL]) (
 Ya a4 (ii 1) λfL=>
 k0 [a3,fL])) (
 Ya a4 (ii 1) λaT=>
 k0 [a3,aT]))) (
 Yz (bb true) λa7=>
 some [a7])) ts
def Mg:Option (List T):=
 Yn a0 λa1=>
 Yg a1 (ii 150) λa2=>
 aA a2 (
 Yz (bb false) λa3=>
 some [a3]) (
 iter (qZ_ ej iE a0) R [bb false,ii 0])
theorem ao0:(Vt).den (pick [(168,ej),(195,iE)]) R [] [a0]=Mg R ej iE a0:=(dq (by kernel_rfl)).trans (by kernel_rfl)
theorem ao1:Bz [a0]=Mg rounds K6 Vo a0:=fs_z.trans (ao0 rounds ..)
def Mh:Option (List T):=
 bp (n7 [a2,a3,a4]) λa7=>
 aA a7 (
 bp (aJ [a0,ii 1,a2]) λa8=>
 aA a8 (
 bp (aJ [a1,ii 0,ii 90]) λa9=>
 aA a9 (
 bp (j6 [a0,a1,a2,a3,a4,a5,a6]) λaH=>
 aA aH (
 bp (cN [a6]) λaK=>
 Yz aK λaP=>
 some [aP]) (
 Yz (bb false) λaK=>
 some [aK])) (
 Yz (bb false) λaH=>
 some [aH])) (
 Yz (bb false) λa9=>
 some [a9])) (
 Yz (bb false) λa8=>
 some [a8])
theorem ao2:(Vv).den (pick [(105,aJ),(106,cN),(132,n7),(164,j6)]) R [] [a0,a1,a2,a3,a4,a5,a6]=Mh n7 cN aJ j6 a0 a1 a2 a3 a4 a5 a6:=(dq (by kernel_rfl)).trans (by kernel_rfl)
theorem ao3:FD [a0,a1,a2,a3,a4,a5,a6]=Mh Bw Bz r9 Vi a0 a1 a2 a3 a4 a5 a6:=fs_z.trans (ao2 rounds ..)
def qs_:Option (List T):=
 (ed λa2 a3=>
 Yn a0 λa4=>
 Yl a3 a4 λa5=>
 aA a5 (
 Yb a0 a3 λa6=>
 Yc 4 3 a0 a3 λa7=>
 jn (eE λa8=>
 Ya a3 (ii 1) λa9=>
 k0 [a8,a9]) λk1=>
 aA a7 (
 Yb a0 a3 λa8=>
 Yc 4 0 a0 a3 λa9=>
 Yb a0 a3 λaH=>
 Yc 4 1 a0 a3 λaK=>
 pv (.lit 1 [true,true]) [a9,aK] λaP=>
 Yp a2 aP λaM=>
 k1 [aM]) (
 k1 [a2])) (
 some [a2])) ts
def Mi:Option (List T):=
 pv (.lit 1 []) [] λa1=>
 iter (qs_ a0) R [a1,ii 0]
theorem ao4:(Vx).den (pick []) R [] [a0]=Mi R a0:=(dq (by kernel_rfl)).trans (by kernel_rfl)
theorem ao5:K8 [a0]=Mi rounds a0:=fs_z.trans (ao4 rounds ..)
def v0_:Option (List T):=
 (ed λa5 a6=>
 Yn a0 λa7=>
 Yl a6 a7 λa8=>
 aA a8 (
 Y1 a0 a6 λaH=>
 Y1 a1 a6 λaP=>
 Yu aH aP λaM=>
 aA aM (
 Yz (bb false) λaL=>
 some [aL]) (
 Ya a6 (ii 1) λaL=>
 k0 [a5,aL])) (
 Yz (bb true) λa9=>
 some [a9])) ts
def Mk:Option (List T):=
 Yn a0 λa2=>
 Yn a1 λa3=>
 Yu a2 a3 λa4=>
 aA a4 (
 Yz (bb false) λa5=>
 some [a5]) (
 iter (v0_ a0 a1) R [bb false,ii 0])
theorem ao6:(VA).den (pick []) R [] [a0,a1]=Mk R a0 a1:=(dq (by kernel_rfl)).trans (by kernel_rfl)
theorem ao7:VB [a0,a1]=Mk rounds a0 a1:=fs_z.trans (ao6 rounds ..)
def PN:Option (List T):=
 (sM λaL aO aR=>
 Ym aR (ii 2) λbd=>
 aA bd (
 bp (cq [a2,a3,a4,a0,aP,aR]) λaV=>
 Ye aV (ii 0) λaT=>
 aA aT (
 Ya aR (ii 1) λaQ=>
 k1 [aL,aO,aQ]) (
 Yn a7 λaQ=>
 Yh aO aQ λbw=>
 aA bw (
 Yz (bb false) λbY=>
 some [bY]) (
 Yb a7 aO λbY=>
 Yc 4 0 a7 aO λbD=>
 Yu bD aP λbH=>
 aA bH (
 Yz (bb false) λbK=>
 some [bK]) (
 Yb a7 aO λbK=>
 Yc 4 1 a7 aO λbL=>
 Yu bL aR λcb=>
 aA cb (
 Yz (bb false) λbZ=>
 some [bZ]) (
 Yb a7 aO λbZ=>
 Yc 4 2 a7 aO λcn=>
 bp (aJ [cn,ii 0,ii 3]) λcI=>
 Yt cI λcH=>
 aA cH (
 Yz (bb false) λcB=>
 some [cB]) (
 Yb a7 aO λcB=>
 Yc 4 3 a7 aO λcF=>
 aA cF (
 Yb a7 aO λdy=>
 Yc 4 2 a7 aO λdg=>
 Ye dg (ii 0) λcQ=>
 aA cQ (
 Yz (bb false) λdf=>
 some [df]) (
 Ya aO (ii 1) λdf=>
 Ya aR (ii 1) λeO=>
 k1 [aL,df,eO])) (
 Ya aO (ii 1) λdy=>
 Ya aR (ii 1) λdg=>
 k1 [aL,dy,dg]))))))) (
 Ya aP (ii 1) λaV=>
 k0 [aL,aO,aV])) ts
def PO:Option (List T):=
 (sM λaH aK aP=>
 Ym aP a2 λaM=>
 aA aM (
 iter (PN cq aJ a0 a2 a3 a4 a7 aP k0) R [aH,aK,ii 0]) (
 Yn a7 λaL=>
 Ye aK aL λaO=>
 aA aO (
 bp (eb [a7]) λaR=>
 bp (fO [a5,aR]) λbd=>
 Yz bd λaV=>
 some [aV]) (
 Yz (bb false) λaR=>
 some [aR]))) ts
def Ml:Option (List T):=
 bp (eL [a0,a1,a2,a3,a4,a5,a6]) λa8=>
 Yt a8 λa9=>
 aA a9 (
 Yz (bb false) λaH=>
 some [aH]) (
 iter (PO R cq aJ eb fO a0 a2 a3 a4 a5 a7) R [bb false,ii 0,ii 1])
theorem ao8:(VD).den (pick [(58,eL),(101,eb),(105,aJ),(150,cq),(194,fO)]) R [] [a0,a1,a2,a3,a4,a5,a6,a7]=Ml R cq eL aJ eb fO a0 a1 a2 a3 a4 a5 a6 a7:=(dq (by kernel_rfl)).trans (by kernel_rfl)
theorem ao9:VE [a0,a1,a2,a3,a4,a5,a6,a7]=Ml rounds Bx FD r9 K8 VB a0 a1 a2 a3 a4 a5 a6 a7:=fs_z.trans (ao8 rounds ..)
def u8_:Option (List T):=
 (ed λa6 a7=>
 Ym a7 (ii 6) λa8=>
 aA a8 (
 bp (cq [a0,a1,a2,a3,a7,a4]) λa9=>
 Yg a9 (ii 0) λaH=>
 jn (eE λaK=>
 Ya a7 (ii 1) λaP=>
 k0 [aK,aP]) λk1=>
 aA aH (
 Yx a7 λaK=>
 Yp a6 aK λaP=>
 k1 [aP]) (
 k1 [a6])) (
 some [a6])) ts
def Mm:Option (List T):=
 pv (.lit 1 []) [] λa5=>
 iter (u8_ cq a0 a1 a2 a3 a4) R [a5,ii 1]
theorem ao_:(VG).den (pick [(150,cq)]) R [] [a0,a1,a2,a3,a4]=Mm R cq a0 a1 a2 a3 a4:=(dq (by kernel_rfl)).trans (by kernel_rfl)
theorem ao':VH [a0,a1,a2,a3,a4]=Mm rounds Bx a0 a1 a2 a3 a4:=fs_z.trans (ao_ rounds ..)
def uE_:Option (List T):=
 (ed λa5 a6=>
 Ym a6 (ii 2) λa7=>
 aA a7 (
 bp (jY [a0,a1,a2,a3,a6]) λa8=>
 Yn a8 λa9=>
 Yg a9 (ii 0) λaH=>
 jn (eE λaK=>
 Ya a6 (ii 1) λaP=>
 k0 [aK,aP]) λk1=>
 aA aH (
 Yx a6 λaK=>
 Yp a5 aK λaP=>
 k1 [aP]) (
 k1 [a5])) (
 some [a5])) ts
def Mo:Option (List T):=
 pv (.lit 1 []) [] λa4=>
 iter (uE_ jY a0 a1 a2 a3) R [a4,ii 0]
theorem apa:(VJ).den (pick [(78,jY)]) R [] [a0,a1,a2,a3]=Mo R jY a0 a1 a2 a3:=(dq (by kernel_rfl)).trans (by kernel_rfl)
theorem apb:K9 [a0,a1,a2,a3]=Mo rounds VH a0 a1 a2 a3:=fs_z.trans (apa rounds ..)
def ur_:Option (List T):=
 (ed λa8 a9=>
 Yn a5 λaH=>
 Yl a8 aH λaK=>
 aA aK (
 Ya a8 (ii 1) λaP=>
 Y1 a5 aP λaL=>
 Ye aL a7 λaO=>
 jn (eE λaR=>
 Ya a8 (ii 2) λbd=>
 k0 [bd,aR]) λk1=>
 aA aO (
 Y1 a5 a8 λbd=>
 Y1 a5 a8 λaT=>
 bp (cq [a2,a3,a4,a0,aT,a7]) λaQ=>
 pv (.lit 2 [true,true]) [bd,aQ] λbw=>
 pv (.app true 2) [a9,bw] λbY=>
 k1 [bY]) (
 k1 [a9])) (
 Yz (bb false) λaP=>
 Yz (ii 0) λaM=>
 Yz (ii 0) λaL=>
 Yz (ii 0) λaO=>
 Yz a0 λaR=>
 Yz (ii 1) λbd=>
 Yz a7 λaV=>
 some [aV,bd,aR,aO,aL,a9,aM,aP])) ts
def Mp:Option (List T):=
 iter (ur_ cq a0 a2 a3 a4 a5 a7) R [ii 0,.l []]
theorem apc:(VM).den (pick [(150,cq)]) R [] [a0,a1,a2,a3,a4,a5,a6,a7]=Mp R cq a0 a2 a3 a4 a5 a7:=(dq (by kernel_rfl)).trans (by kernel_rfl)
theorem apd:VN [a0,a1,a2,a3,a4,a5,a6,a7]=Mp rounds Bx a0 a2 a3 a4 a5 a7:=fs_z.trans (apc rounds ..)
def Mq:Option (List T):=
 bp (fW [a0,a1,a2,a3]) λa4=>
 Yn a4 λa5=>
 Yg a5 (ii 1) λa6=>
 aA a6 (
 Yb a4 (ii 0) λa7=>
 Yc 1 0 a4 (ii 0) λa8=>
 Ye a8 (ii 0) λa9=>
 Yz a9 λaH=>
 some [aH]) (
 Yz (bb false) λa7=>
 some [a7])
theorem ape:(VP).den (pick [(20,fW)]) R [] [a0,a1,a2,a3]=Mq fW a0 a1 a2 a3:=(dq (by kernel_rfl)).trans (by kernel_rfl)
theorem apf:VQ [a0,a1,a2,a3]=Mq K9 a0 a1 a2 a3:=fs_z.trans (ape rounds ..)
def PP:Option (List T):=
 (ed λaR bd=>
 Yn a0 λaV=>
 Yl bd aV λaT=>
 aA aT (
 Y8 a0 bd λbw bY bD bH bK bL cb bZ=>
 bp (ej [a1,a2,a3,a4,a5,a6,a7,a8,bw,bY,bD,bH,bK,bL,cb,bZ]) λcn=>
 jn (eE λcI=>
 Ya bd (ii 1) λcH=>
 k1 [cI,cH]) λk2=>
 aA cn (
 Y8 a0 bd λcH cB cF dy dg cQ df eO=>
 pv (.lit 8 []) [cH,cB,cF,dy,dg,cQ,df,eO] λfA=>
 Yy aR fA λfL=>
 k2 [fL]) (
 k2 [aR])) (
 some [aR])) ts
def PQ:Option (List T):=
 (ed λaH aK=>
 Yn a0 λaP=>
 Yl aK aP λaM=>
 aA aM (
 Y8 a0 aK λaO aR bd aV aT aQ bw bY=>
 bp (ej [aO,aR,bd,aV,aT,aQ,bw,bY,a1,a2,a3,a4,a5,a6,a7,a8]) λbD=>
 jn (eE λbH=>
 Ya aK (ii 1) λbK=>
 k0 [bH,bK]) λk1=>
 aA bD (
 Y8 a0 aK λbK bL cb bZ cn cI cH cB=>
 pv (.lit 8 []) [bK,bL,cb,bZ,cn,cI,cH,cB] λcF=>
 Yy aH cF λdy=>
 k1 [dy]) (
 k1 [aH])) (
 pv (.lit 8 []) [a1,a2,a3,a4,a5,a6,a7,a8] λaL=>
 Yy aH aL λaO=>
 iter (PP ej a0 a1 a2 a3 a4 a5 a6 a7 a8) R [aO,ii 0])) ts
def Mr:Option (List T):=
 pv (.lit 8 []) [] λa9=>
 iter (PQ R ej a0 a1 a2 a3 a4 a5 a6 a7 a8) R [a9,ii 0]
theorem apg:(VS).den (pick [(168,ej)]) R [] [a0,a1,a2,a3,a4,a5,a6,a7,a8]=Mr R ej a0 a1 a2 a3 a4 a5 a6 a7 a8:=(dq (by kernel_rfl)).trans (by kernel_rfl)
theorem aph:C6 [a0,a1,a2,a3,a4,a5,a6,a7,a8]=Mr rounds K6 a0 a1 a2 a3 a4 a5 a6 a7 a8:=fs_z.trans (apg rounds ..)
def uq_:Option (List T):=
 (ed λa2 a3=>
 Yn a1 λa4=>
 Yl a3 a4 λa5=>
 aA a5 (
 Y8 a1 a3 λa7 a8 a9 aH aK aP aM aL=>
 Ye aK (ii 0) λaO=>
 jn (eE λaR=>
 bp (cr [a2,a7,a8,a9,aH,aR,aP,aM,aL]) λbd=>
 Ya a3 (ii 1) λaV=>
 k0 [bd,aV]) λk1=>
 aA aO (
 k1 [ii 1]) (
 k1 [aK])) (
 some [a2])) ts
def Ms:Option (List T):=
 iter (uq_ cr a1) R [a0,ii 0]
theorem api:(VU).den (pick [(62,cr)]) R [] [a0,a1]=Ms R cr a0 a1:=(dq (by kernel_rfl)).trans (by kernel_rfl)
theorem apj:La [a0,a1]=Ms rounds C6 a0 a1:=fs_z.trans (api rounds ..)
def Mu:Option (List T):=
 Ye a0 a8 λaR=>
 aA aR (
 Ye a1 a9 λbd=>
 aA bd (
 Ye a2 aH λaV=>
 aA aV (
 Ye a3 aK λaT=>
 Yz aT λaQ=>
 some [aQ]) (
 Yz (bb false) λaT=>
 some [aT])) (
 Yz (bb false) λaV=>
 some [aV])) (
 Yz (bb false) λbd=>
 some [bd])
theorem apk:(VX).den (pick []) R [] [a0,a1,a2,a3,a4,a5,a6,a7,a8,a9,aH,aK,aP,aM,aL,aO]=Mu a0 a1 a2 a3 a8 a9 aH aK:=(dq (by kernel_rfl)).trans (by kernel_rfl)
theorem apl:Lc [a0,a1,a2,a3,a4,a5,a6,a7,a8,a9,aH,aK,aP,aM,aL,aO]=Mu a0 a1 a2 a3 a8 a9 aH aK:=fs_z.trans (apk rounds ..)
def kX_:Option (List T):=
 (ed λa9 aH=>
 Yn a0 λaK=>
 Yl aH aK λaP=>
 aA aP (
 Y8 a0 aH λaL aO aR bd aV aT aQ bw=>
 bp (fa [aL,aO,aR,bd,aV,aT,aQ,bw,a1,a2,a3,a4,a5,a6,a7,a8]) λbY=>
 aA bY (
 Yz aH λbD=>
 some [bD]) (
 Ya aH (ii 1) λbD=>
 k0 [a9,bD])) (
 Yz (ii (-1)) λaM=>
 some [aM])) ts
def Mw:Option (List T):=
 iter (kX_ fa a0 a1 a2 a3 a4 a5 a6 a7 a8) R [ii 0,ii 0]
theorem apm:(V0).den (pick [(72,fa)]) R [] [a0,a1,a2,a3,a4,a5,a6,a7,a8]=Mw R fa a0 a1 a2 a3 a4 a5 a6 a7 a8:=(dq (by kernel_rfl)).trans (by kernel_rfl)
theorem apn:FE [a0,a1,a2,a3,a4,a5,a6,a7,a8]=Mw rounds Lc a0 a1 a2 a3 a4 a5 a6 a7 a8:=fs_z.trans (apm rounds ..)
def Mx:Option (List T):=
 bp (eD [a0,a1,ii 1,a2,ii 0,ii 0,.l [],ii 0,bb false]) λa3=>
 Yl a3 (ii 0) λa4=>
 aA a4 (
 Yz (bb false) λa5=>
 Yz (bb false) λa6=>
 Yz (ii 0) λa7=>
 Yz (ii 0) λa8=>
 Yz (ii 0) λa9=>
 Yz (ii 0) λaH=>
 Yz (ii 0) λaK=>
 Yz (ii 0) λaP=>
 some [aP,aK,aH,a9,a8,.l [],a7,a6,a5]) (
 Y8 a0 a3 λa6 a7 a8 a9 aH aK aP aM=>
 Yz (bb true) λaL=>
 Yz aM λaO=>
 Yz aP λaR=>
 Yz aH λbd=>
 Yz a9 λaV=>
 Yz a8 λaT=>
 Yz a7 λaQ=>
 Yz a6 λbw=>
 some [bw,aQ,aT,aV,bd,aK,aR,aO,aL])
theorem apo:(V2).den (pick [(63,eD)]) R [] [a0,a1,a2]=Mx eD a0 a1 a2:=(dq (by kernel_rfl)).trans (by kernel_rfl)
theorem apq:C7 [a0,a1,a2]=Mx FE a0 a1 a2:=fs_z.trans (apo rounds ..)
def qq_:Option (List T):=
 (ed λaM aL=>
 Yn a9 λaO=>
 Yl aL aO λaR=>
 aA aR (
 Yb a9 aL λbd=>
 Yc 2 0 a9 aL λaV=>
 Ye aV a3 λaT=>
 aA aT (
 Yb a9 aL λaQ=>
 Yc 2 1 a9 aL λbw=>
 Yz bw λbY=>
 some [bY]) (
 Ya aL (ii 1) λaQ=>
 k0 [aM,aQ])) (
 Yz (ii 0) λbd=>
 some [bd])) ts
def My:Option (List T):=
 KF (dH [a0,a1,a2]) λa4 a5 a6 a7 a8 a9 aH aK aP=>
 iter (qq_ a3 a9) R [ii 0,ii 0]
theorem apr:(V4).den (pick [(233,dH)]) R [] [a0,a1,a2,a3]=My R dH a0 a1 a2 a3:=(dq (by kernel_rfl)).trans (by kernel_rfl)
theorem aps:V5 [a0,a1,a2,a3]=My rounds C7 a0 a1 a2 a3:=fs_z.trans (apr rounds ..)
def vP_:Option (List T):=
 (ed λaO aR=>
 Yn aK λbd=>
 Yl aO bd λaV=>
 aA aV (
 Yb aK aO λaT=>
 Yc 2 0 aK aO λaQ=>
 bp (aJ [aQ,ii 1,ii 6]) λbw=>
 aA bw (
 Yb aK aO λbY=>
 Yc 2 0 aK aO λbD=>
 bp (gx [a0,a1,bD,a3]) λbH=>
 Yg bH (ii 0) λbK=>
 jn (eE λbL=>
 Ya aO (ii 1) λcb=>
 k1 [cb,bL]) λk2=>
 aA bK (
 pv (.bin .mul) [a3,ii 7] λbL=>
 Yb aK aO λcb=>
 Yc 2 0 aK aO λbZ=>
 Ya bL bZ λcn=>
 Yb aK aO λcI=>
 Yc 2 1 aK aO λcH=>
 Yb aR cn λcB=>
 pv (.put true 1 0 1) [aR,cn,cH] λcF=>
 k2 [cF]) (
 k2 [aR])) (
 jn (eE λbY=>
 Ya aO (ii 1) λbD=>
 k1 [bD,bY]) λk2=>
 k2 [aR])) (
 Ya a3 (ii 1) λaT=>
 k0 [aT,aR])) ts
def vX_:Option (List T):=
 (ed λa3 a4=>
 Ym a3 (ii 6) λa5=>
 aA a5 (
 KF (dH [a0,a1,a3]) λa6 a7 a8 a9 aH aK aP aM aL=>
 iter (vP_ aJ gx a0 a1 a3 aK k0) R [ii 0,a4]) (
 some [a4])) ts
def Mz:Option (List T):=
 pv (.mk) [ii 49,ii 49,ii 0] λa2=>
 iter (vX_ R aJ dH gx a0 a1) R [ii 1,a2]
theorem apt:(V7).den (pick [(105,aJ),(233,dH),(242,gx)]) R [] [a0,a1]=Mz R aJ dH gx a0 a1:=(dq (by kernel_rfl)).trans (by kernel_rfl)
theorem apu:V8 [a0,a1]=Mz rounds r9 C7 V5 a0 a1:=fs_z.trans (apt rounds ..)
def kP_:Option (List T):=
 (ed λa2 a3=>
 Yn a0 λa4=>
 Yl a3 a4 λa5=>
 aA a5 (
 Y1 a0 a3 λa7=>
 Ye a7 a1 λa8=>
 aA a8 (
 Yz (bb true) λa9=>
 some [a9]) (
 Ya a3 (ii 1) λa9=>
 k0 [a2,a9])) (
 Yz (bb false) λa6=>
 some [a6])) ts
def MA:Option (List T):=
 iter (kP_ a0 a1) R [bb false,ii 0]
theorem apv:(V_).den (pick []) R [] [a0,a1]=MA R a0 a1:=(dq (by kernel_rfl)).trans (by kernel_rfl)
theorem apw:BA [a0,a1]=MA rounds a0 a1:=fs_z.trans (apv rounds ..)
def jT_:Option (List T):=
 (ed λa3 a4=>
 Ym a4 (ii 6) λa5=>
 aA a5 (
 bp (jL [a0,a4]) λa6=>
 aA a6 (
 jn (eE λa7=>
 Ya a4 (ii 1) λa8=>
 k0 [a7,a8]) λk1=>
 Yx a4 λa7=>
 Yp a3 a7 λa8=>
 k1 [a8]) (
 bp (jL [a1,a4]) λa7=>
 jn (eE λa8=>
 Ya a4 (ii 1) λa9=>
 k0 [a8,a9]) λk1=>
 aA a7 (
 Yx a4 λa8=>
 Yp a3 a8 λa9=>
 k1 [a9]) (
 k1 [a3]))) (
 some [a3])) ts
def MB:Option (List T):=
 pv (.lit 1 []) [] λa2=>
 iter (jT_ jL a0 a1) R [a2,ii 1]
theorem apx:(Wa).den (pick [(100,jL)]) R [] [a0,a1]=MB R jL a0 a1:=(dq (by kernel_rfl)).trans (by kernel_rfl)
theorem apy:FF [a0,a1]=MB rounds BA a0 a1:=fs_z.trans (apx rounds ..)
def n9:Option (List T):=
 (ed λcB cF=>
 Ym cF (ii 6) λdy=>
 aA dy (
 Yq cn cF λcQ=>
 jn (eE λdf=>
 Ya cF (ii 1) λeO=>
 k2 [df,eO]) λk3=>
 aA cQ (
 Yq cI cF λeO=>
 pv (.lit 1 []) [] λfA=>
 Y1 bZ cF λfM=>
 Yp fA fM λiW=>
 pv (.lit 3 [true,true,false]) [cF,eO,iW] λkl=>
 Yo cB kl λlX=>
 k3 [lX]) (
 k3 [cB])) (
 some [cB])) ts
def n_:Option (List T):=
 (sM λeO fA fL=>
 Ym eO (ii 6) λfM=>
 aA fM (
 pv (.bin .mul) [cB,ii 7] λiW=>
 Ya iW eO λkl=>
 Y1 aV kl λiL=>
 Ye iL (ii 0) λjE=>
 aA jE (
 Ya eO (ii 1) λj7=>
 k3 [j7,fA,fL]) (
 Yq df eO λj8=>
 aA j8 (
 Ya eO (ii 1) λkJ=>
 k3 [kJ,fA,fL]) (
 Y1 fA cB λkQ=>
 Ye cB a2 λiq=>
 jn (eE λjM=>
 Yq fL cB λpf=>
 Ya pf iL λnp=>
 Yq fL eO λsN=>
 Yl sN (ii 0) λuS=>
 aA uS (
 jn (ed λvX sf=>
 Ya eO (ii 1) λsO=>
 k3 [sO,vX,sf]) λk4=>
 Yb fL eO λvX=>
 pv (.put true 1 0 1) [fL,eO,np] λsf=>
 pv (.lit 1 []) [] λsO=>
 bp (dx [sO,jM]) λvY=>
 Yb fA eO λul=>
 pv (.put false 1 0 1) [fA,eO,vY] λsP=>
 k4 [sP,sf]) (
 Yq fL eO λsf=>
 Yl np sf λsO=>
 jn (ed λvY ul=>
 Ya eO (ii 1) λsP=>
 k3 [sP,vY,ul]) λk4=>
 aA sO (
 Yb fL eO λvY=>
 pv (.put true 1 0 1) [fL,eO,np] λul=>
 pv (.lit 1 []) [] λsP=>
 bp (dx [sP,jM]) λC_=>
 Yb fA eO λGg=>
 pv (.put false 1 0 1) [fA,eO,C_] λIg=>
 k4 [Ig,ul]) (
 Yq fL eO λul=>
 Ye np ul λsP=>
 jn (eE λC_=>
 k4 [C_,fL]) λk5=>
 aA sP (
 Y1 fA eO λGg=>
 bp (dx [Gg,jM]) λIg=>
 Yb fA eO λa68=>
 pv (.put false 1 0 1) [fA,eO,Ig] λa69=>
 k5 [a69]) (
 k5 [fA])))) λk4=>
 aA iq (
 Yx eO λjM=>
 k4 [jM]) (
 k4 [kQ])))) (
 Ya cb (ii 1) λiW=>
 k1 [iW,fA,df,fL])) ts
def oa:Option (List T):=
 (ed λcB cF=>
 Ym cF (ii 6) λdy=>
 aA dy (
 Yq cn cF λcQ=>
 Yt cQ λdf=>
 aA df (
 Yq cI cF λfA=>
 Yh fA (ii 0) λfL=>
 aA fL (
 Ye cB (ii 0) λfM=>
 aA fM (
 jn (eE λiW=>
 Ya cF (ii 1) λkl=>
 k2 [iW,kl]) λk3=>
 k3 [cF]) (
 Yq cI cF λkl=>
 Yq cI cB λiL=>
 Yl kl iL λjE=>
 jn (eE λj7=>
 Ya cF (ii 1) λj8=>
 k2 [j7,j8]) λk3=>
 aA jE (
 k3 [cF]) (
 k3 [cB]))) (
 jn (eE λfM=>
 Ya cF (ii 1) λiW=>
 k2 [fM,iW]) λk3=>
 k3 [cB])) (
 jn (eE λeO=>
 Ya cF (ii 1) λfA=>
 k2 [eO,fA]) λk3=>
 k3 [cB])) (
 Ye cB (ii 0) λdg=>
 aA dg (
 Ya (ii 6) (ii 1) λcQ=>
 k1 [cQ,bZ,cn,cI]) (
 Yb cn cB λcQ=>
 pv (.put true 1 0 1) [cn,cB,bb true] λdf=>
 iter (n_ dx a2 aV cb cB df k1) R [ii 1,bZ,cI]))) ts
def nF:Option (List T):=
 (KD λcb bZ cn cI=>
 Ym cb (ii 6) λcH=>
 aA cH (
 iter (oa R dx a2 aV cb bZ cn cI k1) R [ii 0,ii 1]) (
 iter (n9 bZ cn cI) R [a3,ii 1])) ts
def od:Option (List T):=
 (ed λbY bD=>
 Ym bY (ii 6) λbH=>
 aA bH (
 Yb bD bY λbK=>
 pv (.put true 1 0 1) [bD,bY,ii (-1)] λbL=>
 Ya bY (ii 1) λcb=>
 k0 [cb,bL]) (
 Yb bD a2 λbK=>
 pv (.put true 1 0 1) [bD,a2,ii 0] λbL=>
 iter (nF R dx a2 a3 aV) R [ii 1,aQ,bw,bL])) ts
def MC:Option (List T):=
 pv (.lit 3 []) [] λa3=>
 KF (dH [a0,a1,a2]) λa4 a5 a6 a7 a8 a9 aH aK aP=>
 bp (cN [a0]) λaM=>
 Yt aM λaL=>
 aA aL (
 some [a3]) (
 bp (aJ [a2,ii 1,ii 6]) λaO=>
 Yt aO λaR=>
 aA aR (
 some [a3]) (
 Yt aP λbd=>
 aA bd (
 some [a3]) (
 bp (jZ [a0,a1]) λaV=>
 pv (.mk) [ii 7,ii 7,ii 0] λaT=>
 pv (.mk) [ii 7,ii 7,.l []] λaQ=>
 pv (.mk) [ii 7,ii 7,bb false] λbw=>
 iter (od R dx a2 a3 aV aQ bw) R [ii 1,aT])))
theorem apz:(Wd).den (pick [(105,aJ),(106,cN),(233,dH),(234,jZ),(235,dx)]) R [] [a0,a1,a2]=MC R cN aJ dx jZ dH a0 a1 a2:=(dq (by kernel_rfl)).trans (by kernel_rfl)
theorem apA:FG [a0,a1,a2]=MC rounds Bz r9 FF V8 C7 a0 a1 a2:=fs_z.trans (apz rounds ..)
def ME:Option (List T):=
 pv (.lit 1 []) [] λa3=>
 Yp a3 a2 λa4=>
 Yz a1 λa5=>
 Yz a0 λa6=>
 some [a6,a5,a4]
theorem apB:(Wf).den (pick []) R [] [a0,a1,a2]=ME a0 a1 a2:=(dq (by kernel_rfl)).trans (by kernel_rfl)
theorem apC:Lh [a0,a1,a2]=ME a0 a1 a2:=fs_z.trans (apB rounds ..)
def kK_:Option (List T):=
 (ed λa2 a3=>
 Yn a0 λa4=>
 Yl a3 a4 λa5=>
 aA a5 (
 Yb a0 a3 λa6=>
 Yc 3 0 a0 a3 λa7=>
 Ye a7 a1 λa8=>
 aA a8 (
 Y3 a0 a3 λaH aK aP=>
 mo (eH [aH,aK,aP]) λaM aL aO=>
 Yz (bb true) λaR=>
 Yz aL λbd=>
 Yz aM λaV=>
 some [aV,bd,aO,aR]) (
 Ya a3 (ii 1) λa9=>
 k0 [a2,a9])) (
 Yz (bb false) λa6=>
 Yz (ii 0) λa7=>
 Yz (ii 0) λa8=>
 some [a8,a7,.l [],a6])) ts
def MF:Option (List T):=
 iter (kK_ eH a0 a1) R [bb false,ii 0]
theorem apD:(Wi).den (pick [(238,eH)]) R [] [a0,a1]=MF R eH a0 a1:=(dq (by kernel_rfl)).trans (by kernel_rfl)
theorem apE:zy [a0,a1]=MF rounds Lh a0 a1:=fs_z.trans (apD rounds ..)
def MG:Option (List T):=
 Yl a1 a4 λa6=>
 Yz a6 λa7=>
 some [a7]
theorem apF:(Wl).den (pick []) R [] [a0,a1,a2,a3,a4,a5]=MG a1 a4:=(dq (by kernel_rfl)).trans (by kernel_rfl)
theorem apG:Wm [a0,a1,a2,a3,a4,a5]=MG a1 a4:=fs_z.trans (apF rounds ..)
def MH:Option (List T):=
 bp (jV [a0,a1,a2,a3,a4,a5]) λa6=>
 aA a6 (
 mo (eH [a0,a1,a2]) λa7 a8 a9=>
 Yz a8 λaH=>
 Yz a7 λaK=>
 some [aK,aH,a9]) (
 bp (jV [a3,a4,a5,a0,a1,a2]) λa7=>
 aA a7 (
 mo (eH [a3,a4,a5]) λa8 a9 aH=>
 Yz a9 λaK=>
 Yz a8 λaP=>
 some [aP,aK,aH]) (
 bp (dx [a2,a5]) λa8=>
 Yz a1 λa9=>
 Yz a0 λaH=>
 some [aH,a9,a8]))
theorem apH:(Wo).den (pick [(235,dx),(238,eH),(243,jV)]) R [] [a0,a1,a2,a3,a4,a5]=MH jV dx eH a0 a1 a2 a3 a4 a5:=(dq (by kernel_rfl)).trans (by kernel_rfl)
theorem apI:Li [a0,a1,a2,a3,a4,a5]=MH Wm FF Lh a0 a1 a2 a3 a4 a5:=fs_z.trans (apH rounds ..)
def zA:Option (List T):=
 (Pn λaP aM aL aO aR=>
 Yn a1 λbd=>
 Yl aM bd λaV=>
 aA aV (
 Y1 a5 aM λaQ=>
 tX (cf [aQ,aH]) λbw bY bD bH=>
 Yt bH λbK=>
 aA bK (
 Ya aM (ii 1) λbL=>
 k2 [aP,bL,aL,aO,aR]) (
 jn (sM λbL cb bZ=>
 Ya aM (ii 1) λcn=>
 k2 [bb true,cn,bL,cb,bZ]) λk3=>
 aA aP (
 mo (db [aL,aO,aR,bw,bY,bD]) λbL cb bZ=>
 k3 [bL,cb,bZ]) (
 k3 [bw,bY,bD]))) (
 jn (eE λaT=>
 Ya aH (ii 1) λaQ=>
 k1 [aT,aQ]) λk3=>
 aA aP (
 pv (.lit 3 []) [aL,aO,aR] λaT=>
 Yo a9 aT λaQ=>
 k3 [aQ]) (
 k3 [a9]))) ts
def zB:Option (List T):=
 (ed λa9 aH=>
 Ym aH (ii 6) λaK=>
 aA aK (
 iter (zA db cf a1 a5 a9 aH k1) R [bb false,ii 0,ii 0,ii 0,.l []]) (
 some [a9])) ts
def zC:Option (List T):=
 (ed λa5 a6=>
 Yn a1 λa7=>
 Yl a6 a7 λa8=>
 aA a8 (
 Y1 a1 a6 λaH=>
 bp (dv [a0,aH,a2]) λaK=>
 pv (.lit 1 []) [aK] λaP=>
 pv (.app false 1) [a5,aP] λaM=>
 Ya a6 (ii 1) λaL=>
 k0 [aM,aL]) (
 iter (zB R db cf a1 a5) R [a3,ii 1])) ts
def j3_:Option (List T):=
 pv (.lit 3 []) [] λa3=>
 pv (.lit 1 []) [] λa4=>
 iter (zC R db cf dv a0 a1 a2 a3) R [a4,ii 0]
theorem apK:(Wr).den (pick [(218,dv),(221,cf),(236,db)]) R [] [a0,a1,a2]=j3_ R db cf dv a0 a1 a2:=(dq (by kernel_rfl)).trans (by kernel_rfl)
theorem apL:Lj [a0,a1,a2]=j3_ rounds Li zy FG a0 a1 a2:=fs_z.trans (apK rounds ..)
def zD:Option (List T):=
 (Pn λa9 aH aK aP aM=>
 Yn a0 λaL=>
 Yl aH aL λaO=>
 aA aO (
 Y8 a0 aH λbd aV aT aQ bw bY bD bH=>
 Yu aV (ii 2) λbK=>
 aA bK (
 Ya aH (ii 1) λbL=>
 k0 [a9,bL,aK,aP,aM]) (
 Yu bd a2 λbL=>
 aA bL (
 Ya aH (ii 1) λcb=>
 k0 [a9,cb,aK,aP,aM]) (
 Yu aQ a4 λcb=>
 aA cb (
 Ya aH (ii 1) λbZ=>
 k0 [a9,bZ,aK,aP,aM]) (
 Ye aT a3 λbZ=>
 aA bZ (
 Ya aH (ii 1) λcn=>
 k0 [a9,cn,aK,aP,aM]) (
 Yh bD (ii 60000) λcn=>
 aA cn (
 Ya aH (ii 1) λcI=>
 k0 [a9,cI,aK,aP,aM]) (
 tX (cf [a1,aT]) λcI cH cB cF=>
 Yt cF λdy=>
 aA dy (
 Ya aH (ii 1) λdg=>
 k0 [a9,dg,aK,aP,aM]) (
 Ya cH bD λdg=>
 Yh dg (ii 60000) λcQ=>
 aA cQ (
 Ya aH (ii 1) λdf=>
 k0 [a9,df,aK,aP,aM]) (
 Ya cH bD λdf=>
 jn (sM λeO fA fL=>
 Ya aH (ii 1) λfM=>
 k0 [bb true,fM,eO,fA,fL]) λk1=>
 aA a9 (
 mo (db [aK,aP,aM,a4,df,cB]) λeO fA fL=>
 k1 [eO,fA,fL]) (
 k1 [a4,df,cB]))))))))) (
 Yz a9 λaR=>
 Yz aP λbd=>
 Yz aK λaV=>
 some [aV,bd,aM,aR])) ts
def MI:Option (List T):=
 iter (zD db cf a0 a1 a2 a3 a4) R [a8,ii 0,a5,a6,a7]
theorem apM:(Wu).den (pick [(221,cf),(236,db)]) R [] [a0,a1,a2,a3,a4,a5,a6,a7,a8]=MI R db cf a0 a1 a2 a3 a4 a5 a6 a7 a8:=(dq (by kernel_rfl)).trans (by kernel_rfl)
theorem apN:Wv [a0,a1,a2,a3,a4,a5,a6,a7,a8]=MI rounds Li zy a0 a1 a2 a3 a4 a5 a6 a7 a8:=fs_z.trans (apM rounds ..)
def w8:Option (List T):=
 (Pn λaQ bw bY bD bH=>
 Yn a1 λbK=>
 Yl bw bK λbL=>
 aA bL (
 aA a2 (
 Y1 a1 bw λbZ=>
 Yu bZ (ii 0) λcn=>
 aA cn (
 Ya bw (ii 1) λcI=>
 k2 [aQ,cI,bY,bD,bH]) (
 Y1 a9 bw λcH=>
 Y1 a1 bw λcF=>
 tX (ek [a0,cH,cF,a3,aL,bY,bD,bH,aQ]) λdy dg cQ df=>
 Ya bw (ii 1) λeO=>
 k2 [df,eO,dy,dg,cQ])) (
 Y1 a9 bw λbZ=>
 Y1 a1 bw λcI=>
 tX (ek [a0,bZ,cI,a3,aL,bY,bD,bH,aQ]) λcH cB cF dy=>
 Ya bw (ii 1) λdg=>
 k2 [dy,dg,cH,cB,cF])) (
 jn (eE λcb=>
 Ya aL (ii 1) λbZ=>
 k1 [cb,bZ]) λk3=>
 aA aQ (
 pv (.lit 3 []) [bY,bD,bH] λcb=>
 Yo aM cb λbZ=>
 k3 [bZ]) (
 k3 [aM]))) ts
def w9:Option (List T):=
 (ed λaM aL=>
 Ym aL (ii 6) λaO=>
 aA aO (
 tX (cf [a5,aL]) λaR bd aV aT=>
 aA aT (
 Ya aL (ii 1) λaQ=>
 k1 [aM,aQ]) (
 iter (w8 ek a0 a1 a2 a3 a9 aM aL k1) R [bb false,ii 0,ii 0,ii 0,.l []])) (
 some [aM])) ts
def w_:Option (List T):=
 (ed λa9 aH=>
 Yn a1 λaK=>
 Yl aH aK λaP=>
 aA aP (
 Y1 a1 aH λaL=>
 bp (dv [a0,aL,a3]) λaO=>
 pv (.lit 1 []) [aO] λaR=>
 pv (.app false 1) [a9,aR] λbd=>
 Ya aH (ii 1) λaV=>
 k0 [bd,aV]) (
 iter (w9 R cf ek a0 a1 a2 a3 a5 a9) R [a4,ii 1])) ts
def jZ_:Option (List T):=
 pv (.lit 3 []) [] λa4=>
 bp (c8 [a0,a1,a3]) λa5=>
 bp (cN [a0]) λa6=>
 Yt a6 λa7=>
 aA a7 (
 some [a4]) (
 pv (.lit 1 []) [] λa8=>
 iter (w_ R cf dv ek a0 a1 a2 a3 a4 a5) R [a8,ii 0])
theorem apP:(Wx).den (pick [(106,cN),(218,dv),(219,c8),(221,cf),(237,ek)]) R [] [a0,a1,a2,a3]=jZ_ R c8 cN cf dv ek a0 a1 a2 a3:=(dq (by kernel_rfl)).trans (by kernel_rfl)
theorem apQ:Wy [a0,a1,a2,a3]=jZ_ rounds Lj Bz zy FG Wv a0 a1 a2 a3:=fs_z.trans (apP rounds ..)
def xa:Option (List T):=
 (ed λaO aR=>
 Ym aR (ii 6) λbd=>
 aA bd (
 tX (cf [aP,aR]) λaV aT aQ bw=>
 aA bw (
 Ya aR (ii 1) λbY=>
 k1 [aO,bY]) (
 Ye aR a2 λbY=>
 aA bY (
 Ya aR (ii 1) λbD=>
 k1 [aO,bD]) (
 tX (cf [aM,aR]) λbD bH bK bL=>
 Yt bL λcb=>
 aA cb (
 Yu a3 (ii 0) λbZ=>
 jn (KD λcn cI cH cB=>
 jn (eE λcF=>
 Ya aR (ii 1) λdy=>
 k1 [cF,dy]) λk2=>
 aA cB (
 pv (.lit 8 [true,true,true,true,true,false,true,true]) [a3,ii 2,a2,aR,ii 0,.l [],cI,bb false] λcF=>
 Yy aO cF λdy=>
 k2 [dy]) (
 k2 [aO])) λk2=>
 aA bZ (
 tX (cf [aL,aR]) λcn cI cH cB=>
 k2 [cn,cI,cH,cB]) (
 k2 [bD,bH,bK,bL])) (
 jn (KD λbZ cn cI cH=>
 jn (eE λcB=>
 Ya aR (ii 1) λcF=>
 k1 [cB,cF]) λk2=>
 aA cH (
 pv (.lit 8 [true,true,true,true,true,false,true,true]) [a3,ii 2,a2,aR,ii 0,.l [],cn,bb false] λcB=>
 Yy aO cB λcF=>
 k2 [cF]) (
 k2 [aO])) λk2=>
 k2 [bD,bH,bK,bL])))) (
 some [aO])) ts
def xb:Option (List T):=
 (ed λa8 a9=>
 Yn a1 λaH=>
 Yl a9 aH λaK=>
 aA aK (
 Y1 a1 a9 λaM=>
 Yu aM a3 λaL=>
 jn (eE λaO=>
 Ya a9 (ii 1) λaR=>
 k0 [aO,aR]) λk1=>
 aA aL (
 Y1 a1 a9 λaR=>
 Yx aR λbd=>
 Yp a8 bd λaV=>
 k1 [aV]) (
 k1 [a8])) (
 bp (dv [a0,a3,a2]) λaP=>
 bp (c8 [a0,a8,a2]) λaM=>
 bp (fq [a0,a1,bb true,a2]) λaL=>
 iter (xa cf a2 a3 aP aM aL) R [a4,ii 1])) ts
def MJ:Option (List T):=
 pv (.lit 8 []) [] λa4=>
 bp (cN [a0]) λa5=>
 Yt a5 λa6=>
 aA a6 (
 some [a4]) (
 pv (.lit 1 []) [] λa7=>
 iter (xb R fq c8 cf dv a0 a1 a2 a3 a4) R [a7,ii 0])
theorem apR:(WC).den (pick [(106,cN),(218,dv),(219,c8),(220,fq),(221,cf)]) R [] [a0,a1,a2,a3]=MJ R fq c8 cN cf dv a0 a1 a2 a3:=(dq (by kernel_rfl)).trans (by kernel_rfl)
theorem apS:WD [a0,a1,a2,a3]=MJ rounds Wy Lj Bz zy FG a0 a1 a2 a3:=fs_z.trans (apR rounds ..)
def zE:Option (List T):=
 (ed λaQ bw=>
 Yn aH λbY=>
 Yl bw bY λbD=>
 aA bD (
 Y1 aH bw λbK=>
 bp (iU [aT,aH,a0,bK]) λbL=>
 Yy aQ bL λcb=>
 Ya bw (ii 1) λbZ=>
 k2 [cb,bZ]) (
 k1 [aQ,aP,aP])) ts
def zF:Option (List T):=
 (ed λbL cb=>
 Yn bY λbZ=>
 Yl cb bZ λcn=>
 aA cn (
 Y8 bY cb λcH cB cF dy dg cQ df eO=>
 bp (cr [bL,cH,cB,cF,dy,dg,cQ,df,eO]) λfA=>
 Ya cb (ii 1) λfL=>
 k2 [fA,fL]) (
 bp (bu [bL]) λcI=>
 some [cI])) ts
def yQ:Option (List T):=
 (ed λbY bD=>
 Yn a4 λbH=>
 Yl bD bH λbK=>
 aA bK (
 Y4 a4 bD λcb bZ cn cI=>
 Ye cb a0 λcH=>
 jn (eE λcB=>
 Ya bD (ii 1) λcF=>
 k1 [cB,cF]) λk2=>
 aA cH (
 pv (.lit 8 [true,true,true,true,true,false,true,true]) [ii 9,ii 3,a0,bZ,ii 0,.l [],cn,cI] λcB=>
 Yy bY cB λcF=>
 k2 [cF]) (
 k2 [bY])) (
 iter (zF bu cr bY) R [a7,ii 0])) ts
def zG:Option (List T):=
 (ed λaP aM=>
 Yn aH λaL=>
 Yl aM aL λaO=>
 aA aO (
 Y1 aH aM λbd=>
 po (jr [a0,a1,a2,a3,a4,a5,a6,bd]) λaV aT aQ bw bY bD bH bK=>
 pv (.lit 8 []) [aV,aT,aQ,bw,bY,bD,bH,bK] λbL=>
 Yy aP bL λcb=>
 Ya aM (ii 1) λbZ=>
 k0 [cb,bZ]) (
 pv (.lit 8 []) [] λaR=>
 Yy aR aP λbd=>
 bp (jW [a2,a3,a4,a0]) λaV=>
 jn (sM λaT aQ bw=>
 iter (yQ R bu cr a0 a4 a7) R [aT,ii 0]) λk1=>
 aA aV (
 bp (dI [a6,aP]) λaT=>
 iter (zE iU a0 aH aP aT k1) R [bd,ii 0]) (
 k1 [bd,aP,aP]))) ts
def MK:Option (List T):=
 pv (.lit 8 []) [] λa7=>
 bp (eL [a0,a1,a2,a3,a4,a5,a6]) λa8=>
 Yt a8 λa9=>
 aA a9 (
 some [a7]) (
 bp (fW [a2,a3,a4,a0]) λaH=>
 pv (.lit 8 []) [] λaK=>
 iter (zG R iU jW bu cr jr dI a0 a1 a2 a3 a4 a5 a6 a7 aH) R [aK,ii 0])
theorem apT:(WG).den (pick [(20,fW),(58,eL),(62,cr),(66,bu),(67,dI),(165,jr),(166,jW),(167,iU)]) R [] [a0,a1,a2,a3,a4,a5,a6]=MK R fW iU jW eL bu cr jr dI a0 a1 a2 a3 a4 a5 a6:=(dq (by kernel_rfl)).trans (by kernel_rfl)
theorem apU:WH [a0,a1,a2,a3,a4,a5,a6]=MK rounds K9 WD VQ FD C5 C6 VN La a0 a1 a2 a3 a4 a5 a6:=fs_z.trans (apT rounds ..)
def Gj:Option (List T):=
 bp (eD [a0,a1,a2,a3,a4,a5,a6,a7,a8]) λa9=>
 Yl a9 (ii 0) λaH=>
 aA aH (
 Yz (bb false) λaK=>
 Yz (bb false) λaP=>
 Yz (ii 0) λaM=>
 Yz (ii 0) λaL=>
 Yz (ii 0) λaO=>
 Yz (ii 0) λaR=>
 Yz (ii 0) λbd=>
 Yz (ii 0) λaV=>
 some [aV,bd,aR,aO,aL,.l [],aM,aP,aK]) (
 Y8 a0 a9 λaP aM aL aO aR bd aV aT=>
 po (bV [aP,aM,aL,aO,aR,bd,aV,aT]) λaQ bw bY bD bH bK bL cb=>
 Yz (bb true) λbZ=>
 Yz cb λcn=>
 Yz bL λcI=>
 Yz bH λcH=>
 Yz bD λcB=>
 Yz bY λcF=>
 Yz bw λdy=>
 Yz aQ λdg=>
 some [dg,dy,cF,cB,cH,bK,cI,cn,bZ])
theorem apV:(WJ).den (pick [(63,eD),(65,bV)]) R [] [a0,a1,a2,a3,a4,a5,a6,a7,a8]=Gj bV eD a0 a1 a2 a3 a4 a5 a6 a7 a8:=(dq (by kernel_rfl)).trans (by kernel_rfl)
theorem apW:BB [a0,a1,a2,a3,a4,a5,a6,a7,a8]=Gj Bv FE a0 a1 a2 a3 a4 a5 a6 a7 a8:=fs_z.trans (apV rounds ..)
def PR:Option (List T):=
 (ed λbD bH=>
 Yn a5 λbK=>
 Yl bH bK λbL=>
 aA bL (
 Y2 a5 bH λbZ cn=>
 Y2 aM bH λcH cB=>
 pv (.s5 [1,1]) [bZ,cn,cH,cB] λcF=>
 Yt cF λdy=>
 aA dy (
 Yz (bb false) λdg=>
 some [dg]) (
 Ya bH (ii 1) λdg=>
 k0 [bD,dg])) (
 Yz (bb true) λcb=>
 some [cb])) ts
def ML:Option (List T):=
 bp (fa [a0,a1,a2,a3,a4,a5,a6,a7,a8,a9,aH,aK,aP,aM,aL,aO]) λaR=>
 Yt aR λbd=>
 aA bd (
 Yz (bb false) λaV=>
 some [aV]) (
 Yu a6 aL λaV=>
 aA aV (
 Yz (bb false) λaT=>
 some [aT]) (
 pv (.bb .neq) [a7,aO] λaT=>
 aA aT (
 Yz (bb false) λaQ=>
 some [aQ]) (
 Yn a5 λaQ=>
 Yn aM λbw=>
 Yu aQ bw λbY=>
 aA bY (
 Yz (bb false) λbD=>
 some [bD]) (
 iter (PR a5 aM) R [bb false,ii 0]))))
theorem apX:(WL).den (pick [(72,fa)]) R [] [a0,a1,a2,a3,a4,a5,a6,a7,a8,a9,aH,aK,aP,aM,aL,aO]=ML R fa a0 a1 a2 a3 a4 a5 a6 a7 a8 a9 aH aK aP aM aL aO:=(dq (by kernel_rfl)).trans (by kernel_rfl)
theorem apY:WM [a0,a1,a2,a3,a4,a5,a6,a7,a8,a9,aH,aK,aP,aM,aL,aO]=ML rounds Lc a0 a1 a2 a3 a4 a5 a6 a7 a8 a9 aH aK aP aM aL aO:=fs_z.trans (apX rounds ..)
def Gk:Option (List T):=
 pv (.bin .mul) [ii 1000,a1] λa8=>
 Yl a7 a8 λa9=>
 aA a9 (
 pv (.bin .mul) [ii 1000,a1] λaH=>
 Ya aH (ii 1) λaK=>
 Yz aK λaP=>
 some [aP]) (
 Ya a7 (ii 1) λaH=>
 Yz aH λaK=>
 some [aK])
theorem apZ:(WO).den (pick []) R [] [a0,a1,a2,a3,a4,a5,a6,a7]=Gk a1 a7:=(dq (by kernel_rfl)).trans (by kernel_rfl)
theorem ap0:WQ [a0,a1,a2,a3,a4,a5,a6,a7]=Gk a1 a7:=fs_z.trans (apZ rounds ..)
def Gl:Option (List T):=
 Ye a1 (ii 1) λa8=>
 aA a8 (
 pv (.lit 2 []) [] λa9=>
 Yz a7 λaH=>
 Yz a6 λaK=>
 Yz a4 λaP=>
 Yz a3 λaM=>
 Yz a2 λaL=>
 Yz a1 λaO=>
 Yz a0 λaR=>
 some [aR,aO,aL,aM,aP,a9,aK,aH]) (
 Yz a7 λa9=>
 Yz (ii 60000) λaH=>
 Yz a4 λaK=>
 Yz a3 λaP=>
 Yz a2 λaM=>
 Yz a1 λaL=>
 Yz a0 λaO=>
 some [aO,aL,aM,aP,aK,a5,aH,a9])
theorem ap1:(WS).den (pick []) R [] [a0,a1,a2,a3,a4,a5,a6,a7]=Gl a0 a1 a2 a3 a4 a5 a6 a7:=(dq (by kernel_rfl)).trans (by kernel_rfl)
theorem ap2:WU [a0,a1,a2,a3,a4,a5,a6,a7]=Gl a0 a1 a2 a3 a4 a5 a6 a7:=fs_z.trans (ap1 rounds ..)
def uT:Option (List T):=
 (ed λaT aQ=>
 Yn aO λbw=>
 Yl aQ bw λbY=>
 aA bY (
 Yb aO aQ λbD=>
 Yc 8 4 aO aQ λbH=>
 Yg bH (ii 100000) λbK=>
 aA bK (
 C3 (cO [a0,a1,a2,a3,a4,a5,a6]) λbL cb bZ cn cI cH cB=>
 pv (.lit 8 []) [] λcF=>
 Yz bZ λdy=>
 Yz cb λdg=>
 Yz bL λcQ=>
 some [cQ,dg,dy,cn,cI,cH,cB,cF]) (
 Ya aQ (ii 1) λbL=>
 k2 [aT,bL])) (
 C3 (cO [a0,a1,a2,a3,a4,a5,a6]) λbD bH bK bL cb bZ cn=>
 bp (dI [a6,aO]) λcI=>
 bp (bu [cI]) λcH=>
 Yn cH λcB=>
 Yg cB (ii 150) λcF=>
 aA cF (
 C3 (cO [a0,a1,a2,a3,a4,a5,a6]) λdy dg cQ df eO fA fL=>
 pv (.lit 8 []) [] λfM=>
 Yz cQ λiW=>
 Yz dg λkl=>
 Yz dy λlX=>
 some [lX,kl,iW,df,eO,fA,fL,fM]) (
 bp (bu [aO]) λdy=>
 Yz bK λdg=>
 Yz bH λcQ=>
 Yz bD λdf=>
 some [df,cQ,dg,bL,cb,bZ,cH,dy]))) ts
def uU:Option (List T):=
 (ed λaO aR=>
 Yn a6 λbd=>
 Yl aR bd λaV=>
 aA aV (
 Y8 a6 aR λaQ bw bY bD bH bK bL cb=>
 Yu bY a0 λbZ=>
 aA bZ (
 Ya aR (ii 1) λcn=>
 k1 [aO,cn]) (
 bp (eD [a9,aQ,bw,bY,bD,bH,bK,bL,cb]) λcn=>
 Yh cn (ii 0) λcI=>
 aA cI (
 Ya aR (ii 1) λcH=>
 k1 [aO,cH]) (
 po (bV [aQ,bw,bY,bD,bH,bK,bL,cb]) λcH cB cF dy dg cQ df eO=>
 po (fX [cH,cB,cF,dy,dg,cQ,df,eO]) λfA fL fM iW kl lX iL jE=>
 bp (ft [fA,fL,fM,iW,kl,lX,iL,jE,aQ,bw,bY,bD,bH,bK,bL,cb]) λj7=>
 aA j7 (
 Ya aR (ii 1) λj8=>
 k1 [aO,j8]) (
 po (bV [aQ,bw,bY,bD,bH,bK,bL,cb]) λj8 kJ kQ iq jM mS pf np=>
 po (fX [j8,kJ,kQ,iq,jM,mS,pf,np]) λqL sN uS vX sf sO vY ul=>
 bp (fR [a0,a1,a2,a3,a4,a5,a6,bH]) λsP=>
 bp (cr [aO,qL,sN,uS,vX,sP,sO,vY,ul]) λC_=>
 Ya aR (ii 1) λGg=>
 k1 [C_,Gg])))) (
 iter (uT bu cO dI a0 a1 a2 a3 a4 a5 a6 aO) R [.l [],ii 0])) ts
def uV:Option (List T):=
 (ed λaK aP=>
 Yn a9 λaM=>
 Yl aP aM λaL=>
 aA aL (
 Y8 a9 aP λaR bd aV aT aQ bw bY bD=>
 KF (nl [a6,aR,bd,aV,aT,aQ,bw,bY,bD]) λbH bK bL cb bZ cn cI cH cB=>
 aA cB (
 Y8 a9 aP λdy dg cQ df eO fA fL fM=>
 bp (ft [bH,bK,bL,cb,bZ,cn,cI,cH,dy,dg,cQ,df,eO,fA,fL,fM]) λiW=>
 aA iW (
 Ya aP (ii 1) λkl=>
 k0 [aK,kl]) (
 Y8 a9 aP λlX iL jE j7 j8 kJ kQ iq=>
 bp (fR [a0,a1,a2,a3,a4,a5,a6,bZ]) λjM=>
 bp (cr [aK,lX,iL,jE,j7,jM,kJ,kQ,iq]) λmS=>
 Ya aP (ii 1) λpf=>
 k0 [mS,pf])) (
 Y8 a9 aP λdy dg cQ df eO fA fL fM=>
 bp (fR [a0,a1,a2,a3,a4,a5,a6,bZ]) λiW=>
 bp (cr [aK,dy,dg,cQ,df,iW,fA,fL,fM]) λkl=>
 Ya aP (ii 1) λlX=>
 k0 [kl,lX])) (
 iter (uU R ft bV bu eD cr fX cO fR dI a0 a1 a2 a3 a4 a5 a6 a9) R [aK,ii 0])) ts
def Gm:Option (List T):=
 bp (eL [a0,a1,a2,a3,a4,a5,a6]) λa7=>
 Yt a7 λa8=>
 aA a8 (
 C3 (cO [a0,a1,a2,a3,a4,a5,a6]) λa9 aH aK aP aM aL aO=>
 pv (.lit 8 []) [] λaR=>
 Yz aK λbd=>
 Yz aH λaV=>
 Yz a9 λaT=>
 some [aT,aV,bd,aP,aM,aL,aO,aR]) (
 bp (mE [a0,a1,a2,a3,a4,a5,a6]) λa9=>
 pv (.lit 8 []) [] λaH=>
 iter (uV R nl ft bV bu eD cr fX cO fR dI a0 a1 a2 a3 a4 a5 a6 a9) R [aH,ii 0])
theorem ap3:(WW).den (pick [(15,nl),(19,ft),(58,eL),(59,cO),(60,mE),(61,fR),(62,cr),(63,eD),(64,fX),(65,bV),(66,bu),(67,dI)]) R [] [a0,a1,a2,a3,a4,a5,a6]=Gm R nl ft eL mE bV bu eD cr fX cO fR dI a0 a1 a2 a3 a4 a5 a6:=(dq (by kernel_rfl)).trans (by kernel_rfl)
theorem aas:BC [a0,a1,a2,a3,a4,a5,a6]=Gm rounds BB WM FD WH Bv C5 FE C6 WU H3 WQ La a0 a1 a2 a3 a4 a5 a6:=fs_z.trans (ap3 rounds ..)
def vS_:Option (List T):=
 (ed λaP aM=>
 Yn a7 λaL=>
 Yl aP aL λaO=>
 aA aO (
 Yb a7 aP λaR=>
 Yc 4 1 a7 aP λbd=>
 Ye bd a9 λaV=>
 aA aV (
 Yb a7 aP λaT=>
 Yc 4 2 a7 aP λaQ=>
 Yg aQ (ii 0) λbw=>
 jn (eE λbY=>
 Ya aP (ii 1) λbD=>
 k0 [bD,bY]) λk1=>
 aA bw (
 Yb a7 aP λbY=>
 Yc 4 0 a7 aP λbD=>
 Yx bD λbH=>
 Yp aM bH λbK=>
 k1 [bK]) (
 k1 [aM])) (
 jn (eE λaT=>
 Ya aP (ii 1) λaQ=>
 k0 [aQ,aT]) λk1=>
 k1 [aM])) (
 Yz a9 λaR=>
 Yz a8 λbd=>
 Yz a0 λaV=>
 Yz (ii 1) λaT=>
 some [aT,aV,bd,aR,aM,.l []])) ts
def MM:Option (List T):=
 iter (vS_ a0 a7 a8 a9) R [ii 0,.l []]
theorem ap4:(WY).den (pick []) R [] [a0,a1,a2,a3,a4,a5,a6,a7,a8,a9,aH,aK]=MM R a0 a7 a8 a9:=(dq (by kernel_rfl)).trans (by kernel_rfl)
theorem ap5:Pp [a0,a1,a2,a3,a4,a5,a6,a7,a8,a9,aH,aK]=MM rounds a0 a7 a8 a9:=fs_z.trans (ap4 rounds ..)
def kC_:Option (List T):=
 (ed λa3 a4=>
 Yn a0 λa5=>
 Yl a4 a5 λa6=>
 aA a6 (
 Yb a0 a4 λa7=>
 Yc 8 0 a0 a4 λa8=>
 Ye a8 a1 λa9=>
 aA a9 (
 jn (eE λaH=>
 Ya a4 (ii 1) λaK=>
 k0 [aH,aK]) λk1=>
 Y8 a0 a4 λaK aP aM aL aO aR bd aV=>
 po (bV [aK,aP,aM,aL,aO,aR,bd,aV]) λaT aQ bw bY bD bH bK bL=>
 pv (.lit 8 [true,true,true,true,true,false,true,true]) [aT,aQ,bw,bY,bD,bH,bK,bL] λcb=>
 Yy a3 cb λbZ=>
 k1 [bZ]) (
 Yb a0 a4 λaH=>
 Yc 8 0 a0 a4 λaK=>
 Ye aK (ii 9) λaP=>
 jn (eE λaM=>
 Ya a4 (ii 1) λaL=>
 k0 [aM,aL]) λk1=>
 aA aP (
 Y8 a0 a4 λaL aO aR bd aV aT aQ bw=>
 po (bV [aL,aO,aR,bd,aV,aT,aQ,bw]) λbY bD bH bK bL cb bZ cn=>
 pv (.lit 8 [true,true,true,true,true,false,true,true]) [bY,bD,bH,bK,bL,cb,bZ,cn] λcI=>
 Yy a3 cI λcH=>
 k1 [cH]) (
 k1 [a3]))) (
 some [a3])) ts
def MN:Option (List T):=
 pv (.lit 8 []) [] λa2=>
 iter (kC_ bV a0 a1) R [a2,ii 0]
theorem ap6:(W3).den (pick [(65,bV)]) R [] [a0,a1]=MN R bV a0 a1:=(dq (by kernel_rfl)).trans (by kernel_rfl)
theorem ap7:BD [a0,a1]=MN rounds Bv a0 a1:=fs_z.trans (ap6 rounds ..)
def Gn:Option (List T):=
 pv (.lit 2 []) [] λa8=>
 Ye a1 (ii 3) λa9=>
 jn (eE λaH=>
 Yz (bb false) λaK=>
 Yz aH λaP=>
 Yz a4 λaM=>
 Yz a3 λaL=>
 Yz a2 λaO=>
 Yz a1 λaR=>
 Yz a0 λbd=>
 some [bd,aR,aO,aL,aM,a8,aP,aK]) λk0=>
 aA a9 (
 k0 [ii 1]) (
 k0 [ii 0])
theorem ap8:(W5).den (pick []) R [] [a0,a1,a2,a3,a4,a5,a6,a7]=Gn a0 a1 a2 a3 a4:=(dq (by kernel_rfl)).trans (by kernel_rfl)
theorem ap9:W6 [a0,a1,a2,a3,a4,a5,a6,a7]=Gn a0 a1 a2 a3 a4:=fs_z.trans (ap8 rounds ..)
def qY_:Option (List T):=
 (ed λa3 a4=>
 Yn a4 λa5=>
 Yl a3 a5 λa6=>
 aA a6 (
 Y8 a4 a3 λa8 a9 aH aK aP aM aL aO=>
 po (jt [a8,a9,aH,aK,aP,aM,aL,aO]) λaR bd aV aT aQ bw bY bD=>
 Yb a4 a3 λbH=>
 pv (.put false 8 0 8) [a4,a3,aR,bd,aV,aT,aQ,bw,bY,bD] λbK=>
 Ya a3 (ii 1) λbL=>
 k0 [bL,bK]) (
 some [a4])) ts
def MO:Option (List T):=
 bp (n8 [a0,a1]) λa2=>
 iter (qY_ jt) R [ii 0,a2]
theorem ap_:(W8).den (pick [(107,jt),(184,n8)]) R [] [a0,a1]=MO R n8 jt a0 a1:=(dq (by kernel_rfl)).trans (by kernel_rfl)
theorem ap':W9 [a0,a1]=MO rounds BD W6 a0 a1:=fs_z.trans (ap_ rounds ..)
def MP:Option (List T):=
 bp (lB [a6,a9]) λaP=>
 Yz a9 λaM=>
 Yz a8 λaL=>
 Yz a0 λaO=>
 Yz (ii 2) λaR=>
 some [aR,aO,aL,aM,.l [],aP]
theorem aqa:(Xa).den (pick [(185,lB)]) R [] [a0,a1,a2,a3,a4,a5,a6,a7,a8,a9,aH,aK]=MP lB a0 a6 a8 a9:=(dq (by kernel_rfl)).trans (by kernel_rfl)
theorem aqb:Pq [a0,a1,a2,a3,a4,a5,a6,a7,a8,a9,aH,aK]=MP W9 a0 a6 a8 a9:=fs_z.trans (aqa rounds ..)
def BX:Option (List T):=
 (E2 λcB cF dy dg cQ df eO fA fL fM=>
 Yn aQ λiW=>
 Yl cF iW λkl=>
 aA kl (
 Y4 aQ cF λiL jE j7 j8=>
 TY (gy [bH,bK,bL,dy,dg,cQ,df,aQ,iL,jE,j7,j8]) λkJ kQ iq jM mS pf=>
 pv (.lit 6 []) [kJ,kQ,iq,jM,mS,pf] λnp=>
 pv (.app false 6) [cB,np] λqL=>
 Yb aQ cF λsN=>
 Yc 4 3 aQ cF λuS=>
 jn (eE λvX=>
 Ya cF (ii 1) λsf=>
 k1 [vX,sf,dy,dg,cQ,df,eO,fA,fL,fM]) λk2=>
 aA uS (
 Y4 aQ cF λsf sO vY ul=>
 TY (iV [bH,bK,bL,dy,dg,cQ,df,aQ,sf,sO,vY,ul]) λsP C_ Gg Ig a68 a69=>
 pv (.lit 6 []) [sP,C_,Gg,Ig,a68,a69] λa70=>
 pv (.app false 6) [qL,a70] λa71=>
 k2 [a71]) (
 k2 [qL])) (
 Yz bL λlX=>
 Yz bK λiL=>
 Yz bH λjE=>
 some [jE,iL,lX,dy,dg,cQ,df,aQ,cB])) ts
def C':Option (List T):=
 (ed λaT aQ=>
 Yn aQ λbw=>
 Yl aT bw λbY=>
 aA bY (
 Yb aQ aT λbD=>
 pv (.a_ 4 2) [aQ,aT] λbH=>
 Yg bH (ii 0) λbK=>
 jn (eE λbL=>
 Yb bL aT λcb=>
 pv (.a_ 4 2) [bL,aT] λbZ=>
 Ye bZ (ii 0) λcn=>
 jn (eE λcI=>
 Ya aT (ii 1) λcH=>
 k0 [cH,cI]) λk1=>
 aA cn (
 Yb bL aT λcI=>
 pv (.put true 4 3 1) [bL,aT,bb false] λcH=>
 k1 [cH]) (
 k1 [bL])) λk1=>
 aA bK (
 Yb aQ aT λbL=>
 pv (.a_ 4 2) [aQ,aT] λcb=>
 Ys cb (ii 1) λbZ=>
 Yb aQ aT λcn=>
 pv (.put true 4 2 1) [aQ,aT,bZ] λcI=>
 k1 [cI]) (
 k1 [aQ])) (
 bp (eb [aQ]) λbD=>
 po (lN [a8,a9,aH,aK,aP,bD,aL]) λbH bK bL cb bZ cn cI cH=>
 iter (BX gy iV aQ bH bK bL) R [aR,ii 0,cb,bZ,cn,cI,cb,bZ,cn,cI])) ts
def kz_:Option (List T):=
 po (lD [a0,a1,a2,a3,a4,a5,a6,a7]) λa8 a9 aH aK aP aM aL aO=>
 pv (.lit 6 []) [] λaR=>
 bp (mD [a0,a1,a2,a3,a4,a5,a6,a7]) λbd=>
 Yt bd λaV=>
 aA aV (
 Yz aH λaT=>
 Yz a9 λaQ=>
 Yz a8 λbw=>
 some [bw,aQ,aT,aK,aP,aM,aL,aO,aR]) (
 iter (C' R lN eb gy iV a8 a9 aH aK aP aL aR) R [ii 0,aO])
theorem aqc:(Xc).den (pick [(12,lN),(97,lD),(99,mD),(101,eb),(110,gy),(111,iV)]) R [] [a0,a1,a2,a3,a4,a5,a6,a7]=kz_ R mD lN lD eb gy iV a0 a1 a2 a3 a4 a5 a6 a7:=(dq (by kernel_rfl)).trans (by kernel_rfl)
theorem aqd:Xd [a0,a1,a2,a3,a4,a5,a6,a7]=kz_ rounds VE BC U2 K8 Pp Pq a0 a1 a2 a3 a4 a5 a6 a7:=fs_z.trans (aqc rounds ..)
def MQ:Option (List T):=
 pv (.app true 4) [.l [],a1] λa3=>
 pv (.app true 4) [.l [],a2] λa4=>
 Yz a0 λa5=>
 some [a5,a3,a4]
theorem aqe:(Xf).den (pick []) R [] [a0,a1,a2]=MQ a0 a1 a2:=(dq (by kernel_rfl)).trans (by kernel_rfl)
theorem aqf:Xg [a0,a1,a2]=MQ a0 a1 a2:=fs_z.trans (aqe rounds ..)
def MR:Option (List T):=
 Yp (.l []) a0 λa1=>
 some [a1]
theorem aqg:(Xi).den (pick []) R [] [a0]=MR a0:=(dq (by kernel_rfl)).trans (by kernel_rfl)
theorem aqh:r_ [a0]=MR a0:=fs_z.trans (aqg rounds ..)
def MS:Option (List T):=
 pv (.app true 2) [.l [],a5] λa8=>
 Yz a7 λa9=>
 Yz a6 λaH=>
 Yz a4 λaK=>
 Yz a3 λaP=>
 Yz a2 λaM=>
 Yz a1 λaL=>
 Yz a0 λaO=>
 some [aO,aL,aM,aP,aK,a8,aH,a9]
theorem aqi:(Xk).den (pick []) R [] [a0,a1,a2,a3,a4,a5,a6,a7]=MS a0 a1 a2 a3 a4 a5 a6 a7:=(dq (by kernel_rfl)).trans (by kernel_rfl)
theorem aqj:FI [a0,a1,a2,a3,a4,a5,a6,a7]=MS a0 a1 a2 a3 a4 a5 a6 a7:=fs_z.trans (aqi rounds ..)
def vY_:Option (List T):=
 (ed λa2 a3=>
 Yl a3 a1 λa4=>
 aA a4 (
 Y8 a0 a3 λa6 a7 a8 a9 aH aK aP aM=>
 po (bR [a6,a7,a8,a9,aH,aK,aP,aM]) λaL aO aR bd aV aT aQ bw=>
 pv (.lit 8 [true,true,true,true,true,false,true,true]) [aL,aO,aR,bd,aV,aT,aQ,bw] λbY=>
 Yy a2 bY λbD=>
 Ya a3 (ii 1) λbH=>
 k0 [bD,bH]) (
 some [a2])) ts
def k2_:Option (List T):=
 Yn a0 λa1=>
 iter (vY_ bR a0 a1) R [.l [],ii 0]
theorem aql:(Xm).den (pick [(161,bR)]) R [] [a0]=k2_ R bR a0:=(dq (by kernel_rfl)).trans (by kernel_rfl)
theorem aqm:FJ [a0]=k2_ rounds FI a0:=fs_z.trans (aql rounds ..)
def MT:Option (List T):=
 mo (lr [a2,a3,a4]) λa7 a8 a9=>
 bp (ai [a5]) λaH=>
 bp (bB [a6]) λaK=>
 Yz a7 λaP=>
 Yz a1 λaM=>
 Yz a0 λaL=>
 some [aL,aM,aP,a8,a9,aH,aK]
theorem aqn:(Xo).den (pick [(56,bB),(90,lr),(156,ai)]) R [] [a0,a1,a2,a3,a4,a5,a6]=MT ai lr bB a0 a1 a2 a3 a4 a5 a6:=(dq (by kernel_rfl)).trans (by kernel_rfl)
theorem aqo:Ll [a0,a1,a2,a3,a4,a5,a6]=MT r_ Xg FJ a0 a1 a2 a3 a4 a5 a6:=fs_z.trans (aqn rounds ..)
def MU:Option (List T):=
 C3 (fo [a0,a1,a2,a3,a4,a5,a6]) λa8 a9 aH aK aP aM aL=>
 pv (.app true 4) [.l [],a7] λaO=>
 Yz aH λaR=>
 Yz a9 λbd=>
 Yz a8 λaV=>
 some [aV,bd,aR,aK,aP,aM,aL,aO]
theorem aqp:(Xr).den (pick [(54,fo)]) R [] [a0,a1,a2,a3,a4,a5,a6,a7]=MU fo a0 a1 a2 a3 a4 a5 a6 a7:=(dq (by kernel_rfl)).trans (by kernel_rfl)
theorem aqq:Xs [a0,a1,a2,a3,a4,a5,a6,a7]=MU Ll a0 a1 a2 a3 a4 a5 a6 a7:=fs_z.trans (aqp rounds ..)
def MV:Option (List T):=
 Yh a0 a1 λa3=>
 aA a3 (
 Ym a0 a2 λa4=>
 Yz a4 λa5=>
 some [a5]) (
 Yz (bb false) λa4=>
 some [a4])
theorem aqr:(Xu).den (pick []) R [] [a0,a1,a2]=MV a0 a1 a2:=(dq (by kernel_rfl)).trans (by kernel_rfl)
theorem aqs:ui [a0,a1,a2]=MV a0 a1 a2:=fs_z.trans (aqr rounds ..)
def MW:Option (List T):=
 bp (b8 [a0,ii 1,ii 6]) λa5=>
 aA a5 (
 bp (b8 [a1,ii 1,a0]) λa6=>
 aA a6 (
 bp (b8 [a2,ii 1,a0]) λa7=>
 aA a7 (
 Yl a1 a2 λa8=>
 aA a8 (
 bp (b8 [a3,ii 1,ii 1000]) λa9=>
 aA a9 (
 bp (b8 [a4,ii 0,ii 2]) λaH=>
 Yz aH λaK=>
 some [aK]) (
 Yz (bb false) λaH=>
 some [aH])) (
 Yz (bb false) λa9=>
 some [a9])) (
 Yz (bb false) λa8=>
 some [a8])) (
 Yz (bb false) λa7=>
 some [a7])) (
 Yz (bb false) λa6=>
 some [a6])
theorem aqt:(Xw).den (pick [(69,b8)]) R [] [a0,a1,a2,a3,a4]=MW b8 a0 a1 a2 a3 a4:=(dq (by kernel_rfl)).trans (by kernel_rfl)
theorem aqu:Xx [a0,a1,a2,a3,a4]=MW ui a0 a1 a2 a3 a4:=fs_z.trans (aqt rounds ..)
def MX:Option (List T):=
 Yu a0 a4 λa8=>
 aA a8 (
 Yl a0 a4 λa9=>
 Yz a9 λaH=>
 some [aH]) (
 Yu a1 a5 λa9=>
 aA a9 (
 Yl a1 a5 λaH=>
 Yz aH λaK=>
 some [aK]) (
 Yl a3 a7 λaH=>
 Yz aH λaK=>
 some [aK]))
theorem aqv:(Xz).den (pick []) R [] [a0,a1,a2,a3,a4,a5,a6,a7]=MX a0 a1 a3 a4 a5 a7:=(dq (by kernel_rfl)).trans (by kernel_rfl)
theorem aqw:BE [a0,a1,a2,a3,a4,a5,a6,a7]=MX a0 a1 a3 a4 a5 a7:=fs_z.trans (aqv rounds ..)
def MY:Option (List T):=
 Yl a1 a5 λa8=>
 aA a8 (
 Yz (bb true) λa9=>
 some [a9]) (
 Ye a1 a5 λa9=>
 aA a9 (
 Yl a0 a4 λaH=>
 Yz aH λaK=>
 some [aK]) (
 Yz (bb false) λaH=>
 some [aH]))
theorem aqx:(XB).den (pick []) R [] [a0,a1,a2,a3,a4,a5,a6,a7]=MY a0 a1 a4 a5:=(dq (by kernel_rfl)).trans (by kernel_rfl)
theorem aqy:BF [a0,a1,a2,a3,a4,a5,a6,a7]=MY a0 a1 a4 a5:=fs_z.trans (aqx rounds ..)
def MZ:Option (List T):=
 (ed λaL aO=>
 Yl aO aM λaR=>
 aA aR (
 Y4 a2 aO λaV aT aQ bw=>
 bp (b8 [aT,ii 1,ii 9]) λbY=>
 Yt bY λbD=>
 aA bD (
 Yz (bb false) λbH=>
 some [bH]) (
 bp (b8 [aV,ii 1,a0]) λbH=>
 Yt bH λbK=>
 aA bK (
 Yz (bb false) λbL=>
 some [bL]) (
 bp (b8 [aQ,ii 1,ii 1000]) λbL=>
 Yt bL λcb=>
 aA cb (
 Yz (bb false) λbZ=>
 some [bZ]) (
 Yg aO (ii 0) λbZ=>
 aA bZ (
 Ys aO (ii 1) λcn=>
 Y4 a2 cn λcH cB cF dy=>
 bp (lA [cH,cB,cF,dy,aV,aT,aQ,bw]) λdg=>
 Yt dg λcQ=>
 aA cQ (
 Yz (bb false) λdf=>
 some [df]) (
 Ya aO (ii 1) λdf=>
 k1 [aL,df])) (
 Ya aO (ii 1) λcn=>
 k1 [aL,cn]))))) (
 Yz (bb true) λbd=>
 some [bd])) ts
def M0:Option (List T):=
 (ed λaH aK=>
 Yl aK a9 λaP=>
 aA aP (
 Y4 a1 aK λaL aO aR bd=>
 bp (jS [a0,aL,aO,aR,bd]) λaV=>
 Yt aV λaT=>
 aA aT (
 Yz (bb false) λaQ=>
 some [aQ]) (
 Yg aK (ii 0) λaQ=>
 aA aQ (
 Ys aK (ii 1) λbw=>
 Y4 a1 bw λbD bH bK bL=>
 bp (lM [bD,bH,bK,bL,aL,aO,aR,bd]) λcb=>
 Yt cb λbZ=>
 aA bZ (
 Yz (bb false) λcn=>
 some [cn]) (
 Ya aK (ii 1) λcn=>
 k0 [aH,cn])) (
 Ya aK (ii 1) λbw=>
 k0 [aH,bw]))) (
 Yn a2 λaM=>
 iter (MZ b8 lA a0 a2 aM) R [aH,ii 0])) ts
def M1:Option (List T):=
 bp (b8 [a0,ii 1,ii 6]) λa3=>
 Yt a3 λa4=>
 aA a4 (
 Yz (bb false) λa5=>
 some [a5]) (
 Yn a1 λa5=>
 Yg a5 (ii 12) λa6=>
 aA a6 (
 Yz (bb false) λa7=>
 some [a7]) (
 Yn a2 λa7=>
 Yg a7 (ii 4) λa8=>
 aA a8 (
 Yz (bb false) λa9=>
 some [a9]) (
 Yn a1 λa9=>
 iter (M0 R jS lM b8 lA a0 a1 a2 a9) R [bb false,ii 0])))
theorem aqz:(XD).den (pick [(69,b8),(169,jS),(170,lM),(171,lA)]) R [] [a0,a1,a2]=M1 R jS lM b8 lA a0 a1 a2:=(dq (by kernel_rfl)).trans (by kernel_rfl)
theorem aqA:BG [a0,a1,a2]=M1 rounds Xx BE ui BF a0 a1 a2:=fs_z.trans (aqz rounds ..)
def jS_:Option (List T):=
 (ed λa7 a8=>
 Yl a8 a6 λa9=>
 aA a9 (
 Y4 a1 a8 λaK aP aM aL=>
 Ye aL a5 λaO=>
 aA aO (
 Ye aK a3 λaR=>
 aA aR (
 Ye aP a4 λbd=>
 aA bd (
 Yz a8 λaV=>
 some [aV]) (
 Ye aK a4 λaV=>
 aA aV (
 Ye aP a3 λaT=>
 aA aT (
 Yz a8 λaQ=>
 some [aQ]) (
 Ya a8 (ii 1) λaQ=>
 k0 [a7,aQ])) (
 Ya a8 (ii 1) λaT=>
 k0 [a7,aT]))) (
 Ye aK a4 λbd=>
 aA bd (
 Ye aP a3 λaV=>
 aA aV (
 Yz a8 λaT=>
 some [aT]) (
 Ya a8 (ii 1) λaT=>
 k0 [a7,aT])) (
 Ya a8 (ii 1) λaV=>
 k0 [a7,aV]))) (
 Ya a8 (ii 1) λaR=>
 k0 [a7,aR])) (
 Yz (ii (-1)) λaH=>
 some [aH])) ts
def M2:Option (List T):=
 Yn a1 λa6=>
 iter (jS_ a1 a3 a4 a5 a6) R [ii 0,ii 0]
theorem aqB:(XF).den (pick []) R [] [a0,a1,a2,a3,a4,a5]=M2 R a1 a3 a4 a5:=(dq (by kernel_rfl)).trans (by kernel_rfl)
theorem aqC:FK [a0,a1,a2,a3,a4,a5]=M2 rounds a1 a3 a4 a5:=fs_z.trans (aqB rounds ..)
def jo_:Option (List T):=
 (ed λaH aK=>
 Yn a5 λaP=>
 Yl aK aP λaM=>
 aA aM (
 Y1 a5 aK λaO=>
 Ya aK (ii 1) λaR=>
 Y1 a5 aR λaV=>
 bp (du [a2,a3,a4,a0,aO,aV]) λaT=>
 Yl aT (ii 0) λaQ=>
 aA aQ (
 Yz (bb false) λbw=>
 some [bw]) (
 Yg aK (ii 0) λbw=>
 aA bw (
 Ys aK (ii 2) λbY=>
 Y1 a5 bY λbH=>
 Yg bH aO λbK=>
 aA bK (
 Yz (bb false) λbL=>
 some [bL]) (
 Ys aK (ii 2) λbL=>
 Y1 a5 bL λbZ=>
 Ye bZ aO λcn=>
 aA cn (
 Ys aK (ii 1) λcI=>
 Y1 a5 cI λcB=>
 Yh cB aV λcF=>
 aA cF (
 Yz (bb false) λdy=>
 some [dy]) (
 Ya aK (ii 2) λdy=>
 k0 [aH,dy])) (
 Ya aK (ii 2) λcI=>
 k0 [aH,cI]))) (
 Ya aK (ii 2) λbY=>
 k0 [aH,bY]))) (
 Yz (bb true) λaL=>
 some [aL])) ts
def M3:Option (List T):=
 Yn a5 λa7=>
 pv (.bin .rem) [a7,ii 2] λa8=>
 Yu a8 (ii 0) λa9=>
 aA a9 (
 Yz (bb false) λaH=>
 some [aH]) (
 iter (jo_ du a0 a2 a3 a4 a5) R [bb false,ii 0])
theorem aqD:(XH).den (pick [(172,du)]) R [] [a0,a1,a2,a3,a4,a5,a6]=M3 R du a0 a2 a3 a4 a5:=(dq (by kernel_rfl)).trans (by kernel_rfl)
theorem aqE:XI [a0,a1,a2,a3,a4,a5,a6]=M3 rounds FK a0 a2 a3 a4 a5:=fs_z.trans (aqD rounds ..)
def jQ_:Option (List T):=
 (ed λa9 aH=>
 Yl aH a8 λaK=>
 aA aK (
 Y2 a5 aH λaM aL=>
 bp (b8 [aM,ii 1,ii 6]) λaO=>
 Yt aO λaR=>
 aA aR (
 Yz (bb false) λbd=>
 some [bd]) (
 Ye aM a2 λbd=>
 aA bd (
 Yz (bb false) λaV=>
 some [aV]) (
 bp (b8 [aL,ii 1,ii 1000]) λaV=>
 Yt aV λaT=>
 aA aT (
 Yz (bb false) λaQ=>
 some [aQ]) (
 Yg aH (ii 0) λaQ=>
 aA aQ (
 Ys aH (ii 1) λbw=>
 Yb a5 bw λbY=>
 Yc 2 0 a5 bw λbD=>
 Yh bD aM λbH=>
 aA bH (
 Yz (bb false) λbK=>
 some [bK]) (
 Ya aH (ii 1) λbK=>
 k0 [a9,bK])) (
 Ya aH (ii 1) λbw=>
 k0 [a9,bw]))))) (
 Yz (bb true) λaP=>
 some [aP])) ts
def M4:Option (List T):=
 Yn a5 λa8=>
 iter (jQ_ b8 a2 a5 a8) R [bb false,ii 0]
theorem aqF:(XK).den (pick [(69,b8)]) R [] [a0,a1,a2,a3,a4,a5,a6,a7]=M4 R b8 a2 a5:=(dq (by kernel_rfl)).trans (by kernel_rfl)
theorem aqG:XL [a0,a1,a2,a3,a4,a5,a6,a7]=M4 rounds ui a2 a5:=fs_z.trans (aqF rounds ..)
def M5:Option (List T):=
 bp (b8 [a2,ii 1,ii 6]) λa8=>
 Yt a8 λa9=>
 aA a9 (
 Yz (bb false) λaH=>
 some [aH]) (
 bp (b8 [a4,ii 1,ii 100000]) λaH=>
 Yt aH λaK=>
 aA aK (
 Yz (bb false) λaP=>
 some [aP]) (
 Ye a1 (ii 1) λaP=>
 aA aP (
 bp (b8 [a0,ii 0,ii 2]) λaM=>
 aA aM (
 Ye a3 (ii 0) λaL=>
 aA aL (
 bp (mC [a0,a1,a2,a3,a4,a5,a6,a7]) λaO=>
 aA aO (
 Ye a6 (ii 0) λaR=>
 aA aR (
 Yt a7 λbd=>
 Yz bd λaV=>
 some [aV]) (
 Yz (bb false) λbd=>
 some [bd])) (
 Yz (bb false) λaR=>
 some [aR])) (
 Yz (bb false) λaO=>
 some [aO])) (
 Yz (bb false) λaL=>
 some [aL])) (
 Ye a1 (ii 2) λaM=>
 aA aM (
 bp (b8 [a0,ii 0,ii 2]) λaL=>
 aA aL (
 bp (b8 [a3,ii 1,ii 6]) λaO=>
 aA aO (
 Yn a5 λaR=>
 Ye aR (ii 0) λbd=>
 aA bd (
 bp (b8 [a6,ii 0,ii 60000]) λaV=>
 aA aV (
 Yt a7 λaT=>
 Yz aT λaQ=>
 some [aQ]) (
 Yz (bb false) λaT=>
 some [aT])) (
 Yz (bb false) λaV=>
 some [aV])) (
 Yz (bb false) λaR=>
 some [aR])) (
 Yz (bb false) λaO=>
 some [aO])) (
 Ye a1 (ii 3) λaL=>
 aA aL (
 Ye a0 (ii 9) λaO=>
 aA aO (
 bp (b8 [a3,ii 1,ii 9]) λaR=>
 aA aR (
 Yn a5 λbd=>
 Ye bd (ii 0) λaV=>
 aA aV (
 bp (b8 [a6,ii 1,ii 1000]) λaT=>
 aA aT (
 Yz (bb true) λaQ=>
 some [aQ]) (
 Ye a6 (ii 60000) λaQ=>
 Yz aQ λbw=>
 some [bw])) (
 Yz (bb false) λaT=>
 some [aT])) (
 Yz (bb false) λbd=>
 some [bd])) (
 Yz (bb false) λaR=>
 some [aR])) (
 Yz (bb false) λaO=>
 some [aO])))))
theorem aqH:(XN).den (pick [(69,b8),(222,mC)]) R [] [a0,a1,a2,a3,a4,a5,a6,a7]=M5 b8 mC a0 a1 a2 a3 a4 a5 a6 a7:=(dq (by kernel_rfl)).trans (by kernel_rfl)
theorem aqI:XO [a0,a1,a2,a3,a4,a5,a6,a7]=M5 ui XL a0 a1 a2 a3 a4 a5 a6 a7:=fs_z.trans (aqH rounds ..)
def M6:Option (List T):=
 Yu a0 a8 λaR=>
 aA aR (
 Yl a0 a8 λbd=>
 Yz bd λaV=>
 some [aV]) (
 Yu a1 a9 λbd=>
 aA bd (
 Yl a1 a9 λaV=>
 Yz aV λaT=>
 some [aT]) (
 Yu a2 aH λaV=>
 aA aV (
 Yl a2 aH λaT=>
 Yz aT λaQ=>
 some [aQ]) (
 Yl a3 aK λaT=>
 Yz aT λaQ=>
 some [aQ])))
theorem aqJ:(XQ).den (pick []) R [] [a0,a1,a2,a3,a4,a5,a6,a7,a8,a9,aH,aK,aP,aM,aL,aO]=M6 a0 a1 a2 a3 a8 a9 aH aK:=(dq (by kernel_rfl)).trans (by kernel_rfl)
theorem aqK:Ln [a0,a1,a2,a3,a4,a5,a6,a7,a8,a9,aH,aK,aP,aM,aL,aO]=M6 a0 a1 a2 a3 a8 a9 aH aK:=fs_z.trans (aqJ rounds ..)
def jh_:Option (List T):=
 (ed λa2 a3=>
 Yl a3 a1 λa4=>
 aA a4 (
 Y8 a0 a3 λa6 a7 a8 a9 aH aK aP aM=>
 bp (iC [a6,a7,a8,a9,aH,aK,aP,aM]) λaL=>
 Yt aL λaO=>
 aA aO (
 Yz (bb false) λaR=>
 some [aR]) (
 Yg a3 (ii 0) λaR=>
 aA aR (
 Ys a3 (ii 1) λbd=>
 Y8 a0 bd λaT aQ bw bY bD bH bK bL=>
 bp (e_ [aT,aQ,bw,bY,bD,bH,bK,bL,a6,a7,a8,a9,aH,aK,aP,aM]) λcb=>
 Yt cb λbZ=>
 aA bZ (
 Yz (bb false) λcn=>
 some [cn]) (
 Ya a3 (ii 1) λcn=>
 k0 [a2,cn])) (
 Ya a3 (ii 1) λbd=>
 k0 [a2,bd]))) (
 Yn a0 λa5=>
 Ym a5 (ii 150) λa6=>
 Yz a6 λa7=>
 some [a7])) ts
def M7:Option (List T):=
 Yn a0 λa1=>
 iter (jh_ e_ iC a0 a1) R [bb false,ii 0]
theorem aqL:(XU).den (pick [(162,e_),(173,iC)]) R [] [a0]=M7 R e_ iC a0:=(dq (by kernel_rfl)).trans (by kernel_rfl)
theorem aqM:Lp [a0]=M7 rounds Ln XO a0:=fs_z.trans (aqL rounds ..)
def M8:Option (List T):=
 bp (nY [a2,a3,a4]) λa7=>
 aA a7 (
 bp (b8 [a0,ii 1,a2]) λa8=>
 aA a8 (
 bp (b8 [a1,ii 0,ii 90]) λa9=>
 aA a9 (
 bp (lz [a0,a1,a2,a3,a4,a5,a6]) λaH=>
 aA aH (
 bp (fV [a6]) λaK=>
 Yz aK λaP=>
 some [aP]) (
 Yz (bb false) λaK=>
 some [aK])) (
 Yz (bb false) λaH=>
 some [aH])) (
 Yz (bb false) λa9=>
 some [a9])) (
 Yz (bb false) λa8=>
 some [a8])
theorem aqN:(XX).den (pick [(68,nY),(69,b8),(70,lz),(71,fV)]) R [] [a0,a1,a2,a3,a4,a5,a6]=M8 nY fV lz b8 a0 a1 a2 a3 a4 a5 a6:=(dq (by kernel_rfl)).trans (by kernel_rfl)
theorem aqO:FL [a0,a1,a2,a3,a4,a5,a6]=M8 BG Lp XI ui a0 a1 a2 a3 a4 a5 a6:=fs_z.trans (aqN rounds ..)
def u4_:Option (List T):=
 (ed λa7 a8=>
 Ym a8 (ii 2) λa9=>
 aA a9 (
 bp (du [a0,a1,a2,a3,a5,a8]) λaH=>
 Yh aH (ii 0) λaK=>
 jn (eE λaP=>
 Ya a8 (ii 1) λaM=>
 k1 [aP,aM]) λk2=>
 aA aK (
 pv (.lit 4 [true,true,true,true]) [a5,a8,ii 0,bb false] λaP=>
 pv (.app true 4) [a7,aP] λaM=>
 k2 [aM]) (
 k2 [a7])) (
 Ya a5 (ii 1) λaH=>
 k0 [a7,aH])) ts
def u9_:Option (List T):=
 (ed λa4 a5=>
 Ym a5 a0 λa6=>
 aA a6 (
 iter (u4_ du a0 a1 a2 a3 a5 k0) R [a4,ii 0]) (
 some [a4])) ts
def M9:Option (List T):=
 iter (u9_ R du a0 a1 a2 a3) R [.l [],ii 1]
theorem aqP:(XZ).den (pick [(172,du)]) R [] [a0,a1,a2,a3]=M9 R du a0 a1 a2 a3:=(dq (by kernel_rfl)).trans (by kernel_rfl)
theorem aqQ:X0 [a0,a1,a2,a3]=M9 rounds FK a0 a1 a2 a3:=fs_z.trans (aqP rounds ..)
def q8_:Option (List T):=
 (ed λa2 a3=>
 Yl a3 a1 λa4=>
 aA a4 (
 Y4 a0 a3 λa6 a7 a8 a9=>
 jn (eE λaH=>
 Ya a3 (ii 1) λaK=>
 k0 [aH,aK]) λk1=>
 aA a9 (
 pv (.lit 1 [true,true]) [a6,a7] λaH=>
 Yp a2 aH λaK=>
 k1 [aK]) (
 k1 [a2])) (
 some [a2])) ts
def M_:Option (List T):=
 Yn a0 λa1=>
 iter (q8_ a0 a1) R [.l [],ii 0]
theorem aqR:(X2).den (pick []) R [] [a0]=M_ R a0:=(dq (by kernel_rfl)).trans (by kernel_rfl)
theorem aqS:Lr [a0]=M_ rounds a0:=fs_z.trans (aqR rounds ..)
def qm_:Option (List T):=
 (ed λa6 a7=>
 Yl a7 a5 λa8=>
 aA a8 (
 Y1 a0 a7 λaH=>
 Y1 a1 a7 λaP=>
 Yu aH aP λaM=>
 aA aM (
 Yz (bb false) λaL=>
 some [aL]) (
 Ya a7 (ii 1) λaL=>
 k0 [a6,aL])) (
 Yz (bb true) λa9=>
 some [a9])) ts
def Na:Option (List T):=
 Yn a0 λa2=>
 Yn a1 λa3=>
 Yu a2 a3 λa4=>
 aA a4 (
 Yz (bb false) λa5=>
 some [a5]) (
 Yn a0 λa5=>
 iter (qm_ a0 a1 a5) R [bb false,ii 0])
theorem aqT:(X5).den (pick []) R [] [a0,a1]=Na R a0 a1:=(dq (by kernel_rfl)).trans (by kernel_rfl)
theorem aqU:X6 [a0,a1]=Na rounds a0 a1:=fs_z.trans (aqT rounds ..)
def u5_:Option (List T):=
 (ed λaO aR=>
 Yl aR aL λbd=>
 aA bd (
 Y4 a7 aR λaT aQ bw bY=>
 Yb aH aR λbD=>
 pv (.a_ 4 0) [aH,aR] λbH=>
 Yu aT bH λbK=>
 aA bK (
 Yz (bb false) λbL=>
 some [bL]) (
 Yb aH aR λbL=>
 pv (.a_ 4 1) [aH,aR] λcb=>
 Yu aQ cb λbZ=>
 aA bZ (
 Yz (bb false) λcn=>
 some [cn]) (
 bp (b8 [bw,ii 0,ii 3]) λcn=>
 Yt cn λcI=>
 aA cI (
 Yz (bb false) λcH=>
 some [cH]) (
 aA bY (
 Ye bw (ii 0) λcH=>
 aA cH (
 Yz (bb false) λcB=>
 some [cB]) (
 Ya aR (ii 1) λcB=>
 k0 [aO,cB])) (
 Ya aR (ii 1) λcH=>
 k0 [aO,cH]))))) (
 bp (eG [a7]) λaV=>
 bp (iD [aV,a5]) λaT=>
 Yz aT λaQ=>
 some [aQ])) ts
def Nb:Option (List T):=
 bp (eK [a0,a1,a2,a3,a4,a5,a6]) λa8=>
 Yt a8 λa9=>
 aA a9 (
 Yz (bb false) λaH=>
 some [aH]) (
 bp (mB [a2,a3,a4,a0]) λaH=>
 Yn aH λaK=>
 Yn a7 λaP=>
 Yu aK aP λaM=>
 aA aM (
 Yz (bb false) λaL=>
 some [aL]) (
 Yn a7 λaL=>
 iter (u5_ eG b8 iD a5 a7 aH aL) R [bb false,ii 0]))
theorem aqV:(X8).den (pick [(13,eK),(69,b8),(82,eG),(87,mB),(88,iD)]) R [] [a0,a1,a2,a3,a4,a5,a6,a7]=Nb R eK mB eG b8 iD a0 a1 a2 a3 a4 a5 a6 a7:=(dq (by kernel_rfl)).trans (by kernel_rfl)
theorem aqW:X9 [a0,a1,a2,a3,a4,a5,a6,a7]=Nb rounds FL X0 Lr ui X6 a0 a1 a2 a3 a4 a5 a6 a7:=fs_z.trans (aqV rounds ..)
def um:Option (List T):=
 (eE λaO=>
 Yn a5 λaR=>
 Yl aO aR λbd=>
 aA bd (
 Yq a5 aO λaT=>
 Yl aT aP λaQ=>
 aA aQ (
 Ya aO (ii 1) λbw=>
 k2 [bw]) (
 Yn a5 λbw=>
 Yl aO bw λbY=>
 aA bY (
 Yq a5 aO λbH=>
 Ye bH aP λbK=>
 aA bK (
 k1 [a5]) (
 Yw a5 aO λbL=>
 bp (ai [bL]) λcb=>
 Yx aP λbZ=>
 Yp cb bZ λcn=>
 Yv a5 aO λcI=>
 Yp cn cI λcH=>
 k1 [cH])) (
 Yw a5 aO λbD=>
 bp (ai [bD]) λbH=>
 Yx aP λbK=>
 Yp bH bK λbL=>
 Yv a5 aO λcb=>
 Yp bL cb λbZ=>
 k1 [bZ]))) (
 Yn a5 λaV=>
 Yl aO aV λaT=>
 aA aT (
 Yq a5 aO λbw=>
 Ye bw aP λbY=>
 aA bY (
 k1 [a5]) (
 Yw a5 aO λbD=>
 bp (ai [bD]) λbH=>
 Yx aP λbK=>
 Yp bH bK λbL=>
 Yv a5 aO λcb=>
 Yp bL cb λbZ=>
 k1 [bZ])) (
 Yw a5 aO λaQ=>
 bp (ai [aQ]) λbw=>
 Yx aP λbY=>
 Yp bw bY λbD=>
 Yv a5 aO λbH=>
 Yp bD bH λbK=>
 k1 [bK]))) ts
def uo:Option (List T):=
 (eE λaL=>
 Yn a5 λaO=>
 Yl aL aO λaR=>
 aA aR (
 Yq a5 aL λaV=>
 Yl aV aP λaT=>
 aA aT (
 Ya aL (ii 1) λaQ=>
 k2 [aQ]) (
 Yn a5 λaQ=>
 Yl aL aQ λbw=>
 aA bw (
 Yq a5 aL λbD=>
 Ye bD aP λbH=>
 aA bH (
 k1 [a5]) (
 Yw a5 aL λbK=>
 bp (ai [bK]) λbL=>
 Yx aP λcb=>
 Yp bL cb λbZ=>
 Yv a5 aL λcn=>
 Yp bZ cn λcI=>
 k1 [cI])) (
 Yw a5 aL λbY=>
 bp (ai [bY]) λbD=>
 Yx aP λbH=>
 Yp bD bH λbK=>
 Yv a5 aL λbL=>
 Yp bK bL λcb=>
 k1 [cb]))) (
 Yn a5 λbd=>
 Yl aL bd λaV=>
 aA aV (
 Yq a5 aL λaQ=>
 Ye aQ aP λbw=>
 aA bw (
 k1 [a5]) (
 Yw a5 aL λbY=>
 bp (ai [bY]) λbD=>
 Yx aP λbH=>
 Yp bD bH λbK=>
 Yv a5 aL λbL=>
 Yp bK bL λcb=>
 k1 [cb])) (
 Yw a5 aL λaT=>
 bp (ai [aT]) λaQ=>
 Yx aP λbw=>
 Yp aQ bw λbY=>
 Yv a5 aL λbD=>
 Yp bY bD λbH=>
 k1 [bH]))) ts
def uW:Option (List T):=
 (ed λa5 a6=>
 Yl a6 a4 λa7=>
 aA a7 (
 Y4 a1 a6 λa9 aH aK aP=>
 Ye a9 a3 λaM=>
 aA aM (
 jn (eE λaL=>
 Ya a6 (ii 1) λaO=>
 k0 [aL,aO]) λk1=>
 iter (uo ai a5 aP k1) R [ii 0]) (
 Ye aH a3 λaL=>
 jn (eE λaO=>
 Ya a6 (ii 1) λaR=>
 k0 [aO,aR]) λk1=>
 aA aL (
 iter (um ai a5 aP k1) R [ii 0]) (
 k1 [a5]))) (
 some [a5])) ts
def Nc:Option (List T):=
 Yn a1 λa4=>
 iter (uW R ai a1 a3 a4) R [.l [],ii 0]
theorem aqX:(X').den (pick [(156,ai)]) R [] [a0,a1,a2,a3]=Nc R ai a1 a3:=(dq (by kernel_rfl)).trans (by kernel_rfl)
theorem aqY:FM [a0,a1,a2,a3]=Nc rounds r_ a1 a3:=fs_z.trans (aqX rounds ..)
def Nd:Option (List T):=
 bp (du [a0,a1,a2,a3,a4,a5]) λa6=>
 Yh a6 (ii 0) λa7=>
 aA a7 (
 Yb a1 a6 λa8=>
 Yc 4 2 a1 a6 λa9=>
 Yz a9 λaH=>
 some [aH]) (
 Yz (ii 0) λa8=>
 some [a8])
theorem aqZ:(Yf).den (pick [(172,du)]) R [] [a0,a1,a2,a3,a4,a5]=Nd du a0 a1 a2 a3 a4 a5:=(dq (by kernel_rfl)).trans (by kernel_rfl)
theorem aq0:Yi [a0,a1,a2,a3,a4,a5]=Nd FK a0 a1 a2 a3 a4 a5:=fs_z.trans (aqZ rounds ..)
def Nf:Option (List T):=
 (ed λaL aO=>
 Yn a5 λaR=>
 Yl aL aR λbd=>
 aA bd (
 Ya aL (ii 1) λaV=>
 Y1 a5 aV λaQ=>
 Ye aQ aM λbw=>
 jn (eE λbY=>
 Ya aL (ii 2) λbD=>
 k1 [bD,bY]) λk2=>
 aA bw (
 Y1 a5 aL λbD=>
 Y1 a5 aL λbK=>
 bp (iT [a2,a3,a4,a0,bK,aM]) λbL=>
 pv (.lit 2 [true,true]) [bD,bL] λcb=>
 pv (.app true 2) [aO,cb] λbZ=>
 k2 [bZ]) (
 k2 [aO])) (
 pv (.lit 8 [true,true,true,true,true,false,true,true]) [aM,ii 1,a0,ii 0,ii 0,aO,ii 0,bb false] λaV=>
 Yy a9 aV λaT=>
 Ya aH (ii 1) λaQ=>
 k0 [aT,aQ])) ts
def Ng:Option (List T):=
 (ed λa9 aH=>
 Yl aH a8 λaK=>
 aA aK (
 Yq a7 aH λaM=>
 iter (Nf iT a0 a2 a3 a4 a5 a9 aH aM k0) R [ii 0,.l []]) (
 some [a9])) ts
def Nh:Option (List T):=
 bp (dG [a2,a3,a4,a0]) λa7=>
 Yn a7 λa8=>
 iter (Ng R iT a0 a2 a3 a4 a5 a7 a8) R [.l [],ii 0]
theorem aq1:(Yk).den (pick [(74,dG),(174,iT)]) R [] [a0,a1,a2,a3,a4,a5,a6]=Nh R dG iT a0 a2 a3 a4 a5:=(dq (by kernel_rfl)).trans (by kernel_rfl)
theorem aq2:BH [a0,a1,a2,a3,a4,a5,a6]=Nh rounds FM Yi a0 a2 a3 a4 a5:=fs_z.trans (aq1 rounds ..)
def Ni:Option (List T):=
 Ye a0 a8 λaR=>
 aA aR (
 Ye a1 a9 λbd=>
 aA bd (
 Ye a2 aH λaV=>
 aA aV (
 Ye a3 aK λaT=>
 Yz aT λaQ=>
 some [aQ]) (
 Yz (bb false) λaT=>
 some [aT])) (
 Yz (bb false) λaV=>
 some [aV])) (
 Yz (bb false) λbd=>
 some [bd])
theorem aq3:(YA).den (pick []) R [] [a0,a1,a2,a3,a4,a5,a6,a7,a8,a9,aH,aK,aP,aM,aL,aO]=Ni a0 a1 a2 a3 a8 a9 aH aK:=(dq (by kernel_rfl)).trans (by kernel_rfl)
theorem aq4:FN [a0,a1,a2,a3,a4,a5,a6,a7,a8,a9,aH,aK,aP,aM,aL,aO]=Ni a0 a1 a2 a3 a8 a9 aH aK:=fs_z.trans (aq3 rounds ..)
def Nj:Option (List T):=
 (eE λa9=>
 Yn a0 λaH=>
 Yl a9 aH λaK=>
 aA aK (
 Y8 a0 a9 λaM aL aO aR bd aV aT aQ=>
 bp (e_ [aM,aL,aO,aR,bd,aV,aT,aQ,a1,a2,a3,a4,a5,a6,a7,a8]) λbw=>
 aA bw (
 Ya a9 (ii 1) λbY=>
 k0 [bY]) (
 pv (.sub 8 false true) [a0,a9] λbY=>
 bp (bB [bY]) λbD=>
 po (bR [a1,a2,a3,a4,a5,a6,a7,a8]) λbH bK bL cb bZ cn cI cH=>
 pv (.lit 8 [true,true,true,true,true,false,true,true]) [bH,bK,bL,cb,bZ,cn,cI,cH] λcB=>
 Yy bD cB λcF=>
 Yn a0 λdy=>
 Yl a9 dy λdg=>
 aA dg (
 Y8 a0 a9 λdf eO fA fL fM iW kl lX=>
 bp (cM [df,eO,fA,fL,fM,iW,kl,lX,a1,a2,a3,a4,a5,a6,a7,a8]) λiL=>
 jn (eE λjE=>
 pv (.sub 8 true false) [a0,jE] λj7=>
 bp (bB [j7]) λj8=>
 Yy cF j8 λkJ=>
 some [kJ]) λk1=>
 aA iL (
 Ya a9 (ii 1) λjE=>
 k1 [jE]) (
 k1 [a9])) (
 jn (eE λcQ=>
 pv (.sub 8 true false) [a0,cQ] λdf=>
 bp (bB [df]) λeO=>
 Yy cF eO λfA=>
 some [fA]) λk1=>
 k1 [a9]))) (
 pv (.sub 8 false true) [a0,a9] λaP=>
 bp (bB [aP]) λaM=>
 po (bR [a1,a2,a3,a4,a5,a6,a7,a8]) λaL aO aR bd aV aT aQ bw=>
 pv (.lit 8 [true,true,true,true,true,false,true,true]) [aL,aO,aR,bd,aV,aT,aQ,bw] λbY=>
 Yy aM bY λbD=>
 Yn a0 λbH=>
 Yl a9 bH λbK=>
 aA bK (
 Y8 a0 a9 λcb bZ cn cI cH cB cF dy=>
 bp (cM [cb,bZ,cn,cI,cH,cB,cF,dy,a1,a2,a3,a4,a5,a6,a7,a8]) λdg=>
 jn (eE λcQ=>
 pv (.sub 8 true false) [a0,cQ] λdf=>
 bp (bB [df]) λeO=>
 Yy bD eO λfA=>
 some [fA]) λk1=>
 aA dg (
 Ya a9 (ii 1) λcQ=>
 k1 [cQ]) (
 k1 [a9])) (
 jn (eE λbL=>
 pv (.sub 8 true false) [a0,bL] λcb=>
 bp (bB [cb]) λbZ=>
 Yy bD bZ λcn=>
 some [cn]) λk1=>
 k1 [a9]))) ts
def Nk:Option (List T):=
 iter (Nj e_ cM bR bB a0 a1 a2 a3 a4 a5 a6 a7 a8) R [ii 0]
theorem aq5:(YC).den (pick [(56,bB),(161,bR),(162,e_),(163,cM)]) R [] [a0,a1,a2,a3,a4,a5,a6,a7,a8]=Nk R e_ cM bR bB a0 a1 a2 a3 a4 a5 a6 a7 a8:=(dq (by kernel_rfl)).trans (by kernel_rfl)
theorem aq6:wX [a0,a1,a2,a3,a4,a5,a6,a7,a8]=Nk rounds Ln FN FI FJ a0 a1 a2 a3 a4 a5 a6 a7 a8:=fs_z.trans (aq5 rounds ..)
def jN_:Option (List T):=
 (ed λa3 a4=>
 Yl a4 a2 λa5=>
 aA a5 (
 Y1 a0 a4 λa7=>
 Ye a7 a1 λa8=>
 aA a8 (
 Yz (bb true) λa9=>
 some [a9]) (
 Ya a4 (ii 1) λa9=>
 k0 [a3,a9])) (
 Yz (bb false) λa6=>
 some [a6])) ts
def Nl:Option (List T):=
 Yn a0 λa2=>
 iter (jN_ a0 a1 a2) R [bb false,ii 0]
theorem aq7:(YE).den (pick []) R [] [a0,a1]=Nl R a0 a1:=(dq (by kernel_rfl)).trans (by kernel_rfl)
theorem aq8:FO [a0,a1]=Nl rounds a0 a1:=fs_z.trans (aq7 rounds ..)
def Nm:Option (List T):=
 bp (dG [a0,a1,a2,a3]) λa4=>
 bp (dt [a4,ii 0]) λa5=>
 aA a5 (
 Yn a4 λa6=>
 Yg a6 (ii 1) λa7=>
 Yz a7 λa8=>
 some [a8]) (
 Yz (bb false) λa6=>
 some [a6])
theorem aq9:(YG).den (pick [(74,dG),(175,dt)]) R [] [a0,a1,a2,a3]=Nm dG dt a0 a1 a2 a3:=(dq (by kernel_rfl)).trans (by kernel_rfl)
theorem aq_:YH [a0,a1,a2,a3]=Nm FM FO a0 a1 a2 a3:=fs_z.trans (aq9 rounds ..)
def PT:Option (List T):=
 (ed λa8 a9=>
 Yl a9 a7 λaH=>
 aA aH (
 Y8 a2 a9 λaP aM aL aO aR bd aV aT=>
 bp (ca [a8,aP,aM,aL,aO,ii 1,bd,aV,aT]) λaQ=>
 Ya a9 (ii 1) λbw=>
 k1 [aQ,bw]) (
 some [a8])) ts
def PU:Option (List T):=
 (ed λa4 a5=>
 Yl a5 a3 λa6=>
 aA a6 (
 Y8 a0 a5 λa8 a9 aH aK aP aM aL aO=>
 Yu a9 (ii 1) λaR=>
 aA aR (
 jn (eE λbd=>
 Ya a5 (ii 1) λaV=>
 k0 [bd,aV]) λk1=>
 pv (.lit 8 []) [a8,a9,aH,aK,aP,aM,aL,aO] λbd=>
 Yy a4 bd λaV=>
 k1 [aV]) (
 Yu aH a1 λbd=>
 jn (eE λaV=>
 Ya a5 (ii 1) λaT=>
 k0 [aV,aT]) λk1=>
 aA bd (
 pv (.lit 8 []) [a8,a9,aH,aK,aP,aM,aL,aO] λaV=>
 Yy a4 aV λaT=>
 k1 [aT]) (
 k1 [a4]))) (
 Yn a2 λa7=>
 iter (PT ca a2 a7) R [a4,ii 0])) ts
def Nn:Option (List T):=
 Yn a0 λa3=>
 iter (PU R ca a0 a1 a2 a3) R [.l [],ii 0]
theorem aq':(YJ).den (pick [(57,ca)]) R [] [a0,a1,a2]=Nn R ca a0 a1 a2:=(dq (by kernel_rfl)).trans (by kernel_rfl)
theorem ara:BJ [a0,a1,a2]=Nn rounds wX a0 a1 a2:=fs_z.trans (aq' rounds ..)
def kI_:Option (List T):=
 (ed λaH aK=>
 Yl aK a9 λaP=>
 aA aP (
 Y8 a0 aK λaL aO aR bd aV aT aQ bw=>
 bp (cM [aL,aO,aR,bd,aV,aT,aQ,bw,a1,a2,a3,a4,a5,a6,a7,a8]) λbY=>
 aA bY (
 Yz aK λbD=>
 some [bD]) (
 Ya aK (ii 1) λbD=>
 k0 [aH,bD])) (
 Yz (ii (-1)) λaM=>
 some [aM])) ts
def Np:Option (List T):=
 Yn a0 λa9=>
 iter (kI_ cM a0 a1 a2 a3 a4 a5 a6 a7 a8 a9) R [ii 0,ii 0]
theorem arb:(YL).den (pick [(163,cM)]) R [] [a0,a1,a2,a3,a4,a5,a6,a7,a8]=Np R cM a0 a1 a2 a3 a4 a5 a6 a7 a8:=(dq (by kernel_rfl)).trans (by kernel_rfl)
theorem arc:yN [a0,a1,a2,a3,a4,a5,a6,a7,a8]=Np rounds FN a0 a1 a2 a3 a4 a5 a6 a7 a8:=fs_z.trans (arb rounds ..)
def jA_:Option (List T):=
 (ed λa9 aH=>
 Yl aH a8 λaK=>
 aA aK (
 Y2 a7 aH λaM aL=>
 Ye aM a3 λaO=>
 aA aO (
 Yz aL λaR=>
 some [aR]) (
 Ya aH (ii 1) λaR=>
 k0 [a9,aR])) (
 Yz (ii 0) λaP=>
 some [aP])) ts
def Nq:Option (List T):=
 bp (cd [a0,a1,ii 1,a2,ii 0,ii 0,.l [],ii 0,bb false]) λa4=>
 Yl a4 (ii 0) λa5=>
 aA a5 (
 Yz (ii 0) λa6=>
 some [a6]) (
 Yb a0 a4 λa6=>
 Yc 8 5 a0 a4 λa7=>
 Yn a7 λa8=>
 iter (jA_ a3 a7 a8) R [ii 0,ii 0])
theorem ard:(YN).den (pick [(157,cd)]) R [] [a0,a1,a2,a3]=Nq R cd a0 a1 a2 a3:=(dq (by kernel_rfl)).trans (by kernel_rfl)
theorem arf:BL [a0,a1,a2,a3]=Nq rounds yN a0 a1 a2 a3:=fs_z.trans (ard rounds ..)
def Nr:Option (List T):=
 bp (nk [a0,a1,a3,a2]) λa4=>
 Ye a4 (ii 0) λa5=>
 aA a5 (
 Yz (ii 0) λa6=>
 some [a6]) (
 bp (nk [a0,a1,a2,a3]) λa6=>
 Yz a6 λa7=>
 some [a7])
theorem arh:(YP).den (pick [(244,nk)]) R [] [a0,a1,a2,a3]=Nr nk a0 a1 a2 a3:=(dq (by kernel_rfl)).trans (by kernel_rfl)
theorem ari:YQ [a0,a1,a2,a3]=Nr BL a0 a1 a2 a3:=fs_z.trans (arh rounds ..)
def Ns:Option (List T):=
 bp (ai [a2]) λa3=>
 Yz a1 λa4=>
 Yz a0 λa5=>
 some [a5,a4,a3]
theorem arj:(YS).den (pick [(156,ai)]) R [] [a0,a1,a2]=Ns ai a0 a1 a2:=(dq (by kernel_rfl)).trans (by kernel_rfl)
theorem ark:wY [a0,a1,a2]=Ns r_ a0 a1 a2:=fs_z.trans (arj rounds ..)
def xd:Option (List T):=
 (eE λaV=>
 Yn aL λaT=>
 Yl aV aT λaQ=>
 aA aQ (
 Yq aL aV λbY=>
 Yl bY bd λbD=>
 aA bD (
 Ya aV (ii 1) λbH=>
 k2 [bH]) (
 Yn aL λbH=>
 Yl aV bH λbK=>
 aA bK (
 Yq aL aV λcb=>
 Ye cb bd λbZ=>
 aA bZ (
 Ya aM (ii 1) λcn=>
 k1 [cn,aL]) (
 Yw aL aV λcn=>
 bp (ai [cn]) λcI=>
 Yx bd λcH=>
 Yp cI cH λcB=>
 Yv aL aV λcF=>
 Yp cB cF λdy=>
 Ya aM (ii 1) λdg=>
 k1 [dg,dy])) (
 Yw aL aV λbL=>
 bp (ai [bL]) λcb=>
 Yx bd λbZ=>
 Yp cb bZ λcn=>
 Yv aL aV λcI=>
 Yp cn cI λcH=>
 Ya aM (ii 1) λcB=>
 k1 [cB,cH]))) (
 Yn aL λbw=>
 Yl aV bw λbY=>
 aA bY (
 Yq aL aV λbH=>
 Ye bH bd λbK=>
 aA bK (
 Ya aM (ii 1) λbL=>
 k1 [bL,aL]) (
 Yw aL aV λbL=>
 bp (ai [bL]) λcb=>
 Yx bd λbZ=>
 Yp cb bZ λcn=>
 Yv aL aV λcI=>
 Yp cn cI λcH=>
 Ya aM (ii 1) λcB=>
 k1 [cB,cH])) (
 Yw aL aV λbD=>
 bp (ai [bD]) λbH=>
 Yx bd λbK=>
 Yp bH bK λbL=>
 Yv aL aV λcb=>
 Yp bL cb λbZ=>
 Ya aM (ii 1) λcn=>
 k1 [cn,bZ]))) ts
def xe:Option (List T):=
 (ed λaM aL=>
 Yl aM aP λaO=>
 aA aO (
 Y1 a5 aM λbd=>
 iter (xd ai aM aL bd k1) R [ii 0]) (
 Yz a1 λaR=>
 Yz a0 λbd=>
 some [bd,aR,aL])) ts
def xf:Option (List T):=
 (eE λaL=>
 Yn aH λaO=>
 Yl aL aO λaR=>
 aA aR (
 Yq aH aL λaV=>
 Yl aV aM λaT=>
 aA aT (
 Ya aL (ii 1) λaQ=>
 k1 [aQ]) (
 Yn aH λaQ=>
 Yl aL aQ λbw=>
 aA bw (
 Yq aH aL λbD=>
 Ye bD aM λbH=>
 aA bH (
 Ya a9 (ii 1) λbK=>
 k0 [bK,aH]) (
 Yw aH aL λbK=>
 bp (ai [bK]) λbL=>
 Yx aM λcb=>
 Yp bL cb λbZ=>
 Yv aH aL λcn=>
 Yp bZ cn λcI=>
 Ya a9 (ii 1) λcH=>
 k0 [cH,cI])) (
 Yw aH aL λbY=>
 bp (ai [bY]) λbD=>
 Yx aM λbH=>
 Yp bD bH λbK=>
 Yv aH aL λbL=>
 Yp bK bL λcb=>
 Ya a9 (ii 1) λbZ=>
 k0 [bZ,cb]))) (
 Yn aH λbd=>
 Yl aL bd λaV=>
 aA aV (
 Yq aH aL λaQ=>
 Ye aQ aM λbw=>
 aA bw (
 Ya a9 (ii 1) λbY=>
 k0 [bY,aH]) (
 Yw aH aL λbY=>
 bp (ai [bY]) λbD=>
 Yx aM λbH=>
 Yp bD bH λbK=>
 Yv aH aL λbL=>
 Yp bK bL λcb=>
 Ya a9 (ii 1) λbZ=>
 k0 [bZ,cb])) (
 Yw aH aL λaT=>
 bp (ai [aT]) λaQ=>
 Yx aM λbw=>
 Yp aQ bw λbY=>
 Yv aH aL λbD=>
 Yp bY bD λbH=>
 Ya a9 (ii 1) λbK=>
 k0 [bK,bH]))) ts
def xg:Option (List T):=
 (ed λa9 aH=>
 Yl a9 a8 λaK=>
 aA aK (
 Y1 a2 a9 λaM=>
 iter (xf ai a9 aH aM k0) R [ii 0]) (
 Yn a5 λaP=>
 iter (xe R ai a0 a1 a5 aP) R [ii 0,aH])) ts
def Nt:Option (List T):=
 Yg a4 a1 λa6=>
 aA a6 (
 mo (aU [a0,a1,a2]) λa7 a8 a9=>
 Yz a8 λaH=>
 Yz a7 λaK=>
 some [aK,aH,a9]) (
 Yg a1 a4 λa7=>
 aA a7 (
 mo (aU [a3,a4,a5]) λa8 a9 aH=>
 Yz a9 λaK=>
 Yz a8 λaP=>
 some [aP,aK,aH]) (
 Yn a2 λa8=>
 iter (xg R ai a0 a1 a2 a5 a8) R [ii 0,.l []]))
theorem arl:(YU).den (pick [(156,ai),(224,aU)]) R [] [a0,a1,a2,a3,a4,a5]=Nt R ai aU a0 a1 a2 a3 a4 a5:=(dq (by kernel_rfl)).trans (by kernel_rfl)
theorem arm:yO [a0,a1,a2,a3,a4,a5]=Nt rounds r_ wY a0 a1 a2 a3 a4 a5:=fs_z.trans (arl rounds ..)
def sQ:Option (List T):=
 (ed λaQ bw=>
 Ym aQ (ii 6) λbY=>
 aA bY (
 bp (gP [a0,a1,aL,aQ]) λbD=>
 Ye bD (ii 0) λbH=>
 aA bH (
 Ya aQ (ii 1) λbK=>
 k2 [bK,bw]) (
 Ye aQ a2 λbK=>
 aA bK (
 Ya aQ (ii 1) λbL=>
 k2 [bL,bw]) (
 Yb bw aL λbL=>
 pv (.a_ 3 1) [bw,aL] λcb=>
 Ya cb bD λbZ=>
 Yb bw aL λcn=>
 Yc 3 2 bw aL λcI=>
 bp (ai [cI]) λcH=>
 Ye aL a2 λcB=>
 jn (eE λcF=>
 Y3 bw aQ λdg cQ df=>
 Ye dg (ii 0) λeO=>
 aA eO (
 jn (eE λfA=>
 Ya aQ (ii 1) λfL=>
 k2 [fL,fA]) λk3=>
 Yb bw aQ λfA=>
 pv (.gj [true,true,false] 3 0) [bw,aQ,aQ,bZ,cF] λfL=>
 k3 [fL]) (
 Yl bZ cQ λfA=>
 jn (eE λfL=>
 Ya aQ (ii 1) λfM=>
 k2 [fM,fL]) λk3=>
 aA fA (
 Yb bw aQ λfL=>
 pv (.gj [true,true,false] 3 0) [bw,aQ,aQ,bZ,cF] λfM=>
 k3 [fM]) (
 Ye bZ cQ λfL=>
 jn (eE λfM=>
 k3 [fM]) λk4=>
 aA fL (
 mo (bh [dg,cQ,df,aQ,bZ,cF]) λfM iW kl=>
 Yb bw aQ λlX=>
 pv (.gj [true,true,false] 3 0) [bw,aQ,fM,iW,kl] λiL=>
 k4 [iL]) (
 k4 [bw])))) λk3=>
 aA cB (
 Yx aQ λcF=>
 k3 [cF]) (
 k3 [cH])))) (
 k0 [aT,bw])) ts
def sR:Option (List T):=
 (sM λaT aQ bw=>
 Yl aQ aV λbY=>
 aA bY (
 Yb aM aQ λbD=>
 pv (.a_ 3 0) [aM,aQ] λbH=>
 pv (.a_ 3 1) [aM,aQ] λbK=>
 pv (.dJ 3 2) [aM,aQ] λbL=>
 pv (.xw) [bw,aQ] λcb=>
 Yu bH (ii 0) λbZ=>
 jn (eE λcn=>
 Ya aQ (ii 1) λcI=>
 k2 [cn,cI,cb]) λk3=>
 aA bZ (
 pv (.lit 3 [true,true,false]) [bH,bK,bL] λcn=>
 Yo aT cn λcI=>
 k3 [cI]) (
 k3 [aT])) (
 some [aT])) ts
def sS:Option (List T):=
 (ed λaL aO=>
 Ym aO (ii 6) λaR=>
 aA aR (
 Yb aM aO λbd=>
 pv (.a_ 3 0) [aM,aO] λaV=>
 Yu aV (ii 0) λaT=>
 aA aT (
 bp (dt [aP,aO]) λaQ=>
 Yt aQ λbw=>
 aA bw (
 Ye aL (ii 0) λbY=>
 aA bY (
 jn (eE λbD=>
 Ya aO (ii 1) λbH=>
 k1 [bD,bH]) λk2=>
 k2 [aO]) (
 Yb aM aO λbD=>
 pv (.a_ 3 1) [aM,aO] λbH=>
 Yb aM aL λbK=>
 pv (.a_ 3 1) [aM,aL] λbL=>
 Yl bH bL λcb=>
 jn (eE λbZ=>
 Ya aO (ii 1) λcn=>
 k1 [bZ,cn]) λk2=>
 aA cb (
 k2 [aO]) (
 k2 [aL]))) (
 jn (eE λbY=>
 Ya aO (ii 1) λbD=>
 k1 [bY,bD]) λk2=>
 k2 [aL])) (
 jn (eE λaQ=>
 Ya aO (ii 1) λbw=>
 k1 [aQ,bw]) λk2=>
 k2 [aL])) (
 Ye aL (ii 0) λbd=>
 aA bd (
 Yn aM λaV=>
 iter (sR aM aV) R [.l [],ii 0,aM]) (
 Yx aL λaV=>
 Yp aP aV λaT=>
 iter (sQ gP bh ai a0 a1 a2 aL aT k0) R [ii 1,aM]))) ts
def sT:Option (List T):=
 (ed λaP aM=>
 iter (sS R gP bh ai dt a0 a1 a2 aP aM k0) R [ii 0,ii 1]) ts
def Nu:Option (List T):=
 bp (fV [a0]) λa3=>
 Yt a3 λa4=>
 aA a4 (
 some [.l []]) (
 bp (b8 [a2,ii 1,ii 6]) λa5=>
 Yt a5 λa6=>
 aA a6 (
 some [.l []]) (
 bp (cd [a0,a1,ii 1,a2,ii 0,ii 0,.l [],ii 0,bb false]) λa7=>
 Yl a7 (ii 0) λa8=>
 aA a8 (
 some [.l []]) (
 pv (.mk) [ii 7,ii 7,ii 0,ii 0,.l []] λa9=>
 Yb a9 a2 λaH=>
 pv (.put true 3 0 1) [a9,a2,a2] λaK=>
 iter (sT R gP bh ai dt a0 a1 a2) R [.l [],aK])))
theorem arn:(YW).den (pick [(69,b8),(71,fV),(156,ai),(157,cd),(175,dt),(227,bh),(239,gP)]) R [] [a0,a1,a2]=Nu R gP fV bh ai dt b8 cd a0 a1 a2:=(dq (by kernel_rfl)).trans (by kernel_rfl)
theorem aro:FQ [a0,a1,a2]=Nu rounds YQ Lp yO r_ FO ui yN a0 a1 a2:=fs_z.trans (arn rounds ..)
def kD_:Option (List T):=
 (ed λa3 a4=>
 Yl a4 a2 λa5=>
 aA a5 (
 Y3 a0 a4 λa7 a8 a9=>
 Ye a7 a1 λaH=>
 aA aH (
 mo (aU [a7,a8,a9]) λaK aP aM=>
 Yz (bb true) λaL=>
 Yz aP λaO=>
 Yz aK λaR=>
 some [aR,aO,aM,aL]) (
 Ya a4 (ii 1) λaK=>
 k0 [a3,aK])) (
 Yz (bb false) λa6=>
 Yz (ii 0) λa7=>
 Yz (ii 0) λa8=>
 some [a8,a7,.l [],a6])) ts
def Nv:Option (List T):=
 Yn a0 λa2=>
 iter (kD_ aU a0 a1 a2) R [bb false,ii 0]
theorem arp:(YY).den (pick [(224,aU)]) R [] [a0,a1]=Nv R aU a0 a1:=(dq (by kernel_rfl)).trans (by kernel_rfl)
theorem arq:Lx [a0,a1]=Nv rounds wY a0 a1:=fs_z.trans (arp rounds ..)
def BZ:Option (List T):=
 (eE λaT=>
 Yn aK λaQ=>
 Yl aT aQ λbw=>
 aA bw (
 Yb aK aT λbY=>
 pv (.a_ 3 0) [aK,aT] λbD=>
 Yl bD aR λbH=>
 aA bH (
 Ya aT (ii 1) λbK=>
 k2 [bK]) (
 Yn aK λbK=>
 Yl aT bK λbL=>
 aA bL (
 Yb aK aT λcb=>
 pv (.a_ 3 0) [aK,aT] λbZ=>
 Ye bZ aR λcn=>
 aA cn (
 Y3 aK aT λcH cB cF=>
 mo (bh [cH,cB,cF,aR,bd,aV]) λdy dg cQ=>
 Yb aK aT λdf=>
 pv (.gj [true,true,false] 3 0) [aK,aT,dy,dg,cQ] λeO=>
 Ya aP (ii 1) λfA=>
 k1 [eO,fA,aM]) (
 pv (.sub 3 false true) [aK,aT] λcI=>
 pv (.ko) [aK,ii 0,cI] λcH=>
 Yo (.l []) cI λcB=>
 mo (aU [aR,bd,aV]) λcF dy dg=>
 pv (.lit 3 [true,true,false]) [cF,dy,dg] λcQ=>
 Yo cB cQ λdf=>
 pv (.sub 3 true false) [aK,aT] λeO=>
 pv (.ko) [cH,aT,eO] λfA=>
 Yo df eO λfL=>
 Ya aP (ii 1) λfM=>
 k1 [fL,fM,aM])) (
 pv (.sub 3 false true) [aK,aT] λcb=>
 pv (.ko) [aK,ii 0,cb] λbZ=>
 Yo (.l []) cb λcn=>
 mo (aU [aR,bd,aV]) λcI cH cB=>
 pv (.lit 3 [true,true,false]) [cI,cH,cB] λcF=>
 Yo cn cF λdy=>
 pv (.sub 3 true false) [aK,aT] λdg=>
 pv (.ko) [bZ,aT,dg] λcQ=>
 Yo dy dg λdf=>
 Ya aP (ii 1) λeO=>
 k1 [df,eO,aM]))) (
 Yn aK λbY=>
 Yl aT bY λbD=>
 aA bD (
 Yb aK aT λbH=>
 pv (.a_ 3 0) [aK,aT] λbK=>
 Ye bK aR λbL=>
 aA bL (
 Y3 aK aT λbZ cn cI=>
 mo (bh [bZ,cn,cI,aR,bd,aV]) λcH cB cF=>
 Yb aK aT λdy=>
 pv (.gj [true,true,false] 3 0) [aK,aT,cH,cB,cF] λdg=>
 Ya aP (ii 1) λcQ=>
 k1 [dg,cQ,aM]) (
 pv (.sub 3 false true) [aK,aT] λcb=>
 pv (.ko) [aK,ii 0,cb] λbZ=>
 Yo (.l []) cb λcn=>
 mo (aU [aR,bd,aV]) λcI cH cB=>
 pv (.lit 3 [true,true,false]) [cI,cH,cB] λcF=>
 Yo cn cF λdy=>
 pv (.sub 3 true false) [aK,aT] λdg=>
 pv (.ko) [bZ,aT,dg] λcQ=>
 Yo dy dg λdf=>
 Ya aP (ii 1) λeO=>
 k1 [df,eO,aM])) (
 pv (.sub 3 false true) [aK,aT] λbH=>
 pv (.ko) [aK,ii 0,bH] λbK=>
 Yo (.l []) bH λbL=>
 mo (aU [aR,bd,aV]) λcb bZ cn=>
 pv (.lit 3 [true,true,false]) [cb,bZ,cn] λcI=>
 Yo bL cI λcH=>
 pv (.sub 3 true false) [aK,aT] λcB=>
 pv (.ko) [bK,aT,cB] λcF=>
 Yo cH cB λdy=>
 Ya aP (ii 1) λdg=>
 k1 [dy,dg,aM]))) ts
def Da:Option (List T):=
 (sM λaK aP aM=>
 Yl aP aH λaL=>
 aA aL (
 Y3 aM aP λaR bd aV=>
 iter (BZ bh aU aK aP aM aR bd aV k1) R [ii 0]) (
 Ya a5 (ii 1) λaO=>
 k0 [aK,aO])) ts
def Db:Option (List T):=
 (ed λa4 a5=>
 Yl a5 a3 λa6=>
 aA a6 (
 Y1 a1 a5 λa8=>
 bp (cZ [a0,a8,a2]) λa9=>
 Yn a9 λaH=>
 iter (Da R bh aU a5 aH k0) R [a4,ii 0,a9]) (
 some [a4])) ts
def jY_:Option (List T):=
 Yn a1 λa3=>
 iter (Db R bh cZ aU a0 a1 a2 a3) R [.l [],ii 0]
theorem art:(Y5).den (pick [(176,cZ),(224,aU),(227,bh)]) R [] [a0,a1,a2]=jY_ R bh cZ aU a0 a1 a2:=(dq (by kernel_rfl)).trans (by kernel_rfl)
theorem aru:Ly [a0,a1,a2]=jY_ rounds yO FQ wY a0 a1 a2:=fs_z.trans (art rounds ..)
def oe:Option (List T):=
 (eE λcQ=>
 Yn a6 λdf=>
 Yl cQ df λeO=>
 aA eO (
 Yb a6 cQ λfA=>
 pv (.a_ 3 0) [a6,cQ] λfL=>
 Yl fL aM λfM=>
 aA fM (
 Ya cQ (ii 1) λiW=>
 k1 [iW]) (
 Yn a6 λiW=>
 Yl cQ iW λkl=>
 aA kl (
 Yb a6 cQ λlX=>
 pv (.a_ 3 0) [a6,cQ] λiL=>
 Ye iL aM λjE=>
 aA jE (
 Y3 a6 cQ λj8 kJ kQ=>
 mo (bh [j8,kJ,kQ,aM,dg,cI]) λiq jM mS=>
 Yb a6 cQ λpf=>
 pv (.gj [true,true,false] 3 0) [a6,cQ,iq,jM,mS] λnp=>
 Ya a7 (ii 1) λqL=>
 k0 [np,qL]) (
 pv (.sub 3 false true) [a6,cQ] λj7=>
 pv (.ko) [a6,ii 0,j7] λj8=>
 Yo (.l []) j7 λkJ=>
 mo (aU [aM,dg,cI]) λkQ iq jM=>
 pv (.lit 3 [true,true,false]) [kQ,iq,jM] λmS=>
 Yo kJ mS λpf=>
 pv (.sub 3 true false) [a6,cQ] λnp=>
 pv (.ko) [j8,cQ,np] λqL=>
 Yo pf np λsN=>
 Ya a7 (ii 1) λuS=>
 k0 [sN,uS])) (
 pv (.sub 3 false true) [a6,cQ] λlX=>
 pv (.ko) [a6,ii 0,lX] λiL=>
 Yo (.l []) lX λjE=>
 mo (aU [aM,dg,cI]) λj7 j8 kJ=>
 pv (.lit 3 [true,true,false]) [j7,j8,kJ] λkQ=>
 Yo jE kQ λiq=>
 pv (.sub 3 true false) [a6,cQ] λjM=>
 pv (.ko) [iL,cQ,jM] λmS=>
 Yo iq jM λpf=>
 Ya a7 (ii 1) λnp=>
 k0 [pf,np]))) (
 Yn a6 λfA=>
 Yl cQ fA λfL=>
 aA fL (
 Yb a6 cQ λfM=>
 pv (.a_ 3 0) [a6,cQ] λiW=>
 Ye iW aM λkl=>
 aA kl (
 Y3 a6 cQ λiL jE j7=>
 mo (bh [iL,jE,j7,aM,dg,cI]) λj8 kJ kQ=>
 Yb a6 cQ λiq=>
 pv (.gj [true,true,false] 3 0) [a6,cQ,j8,kJ,kQ] λjM=>
 Ya a7 (ii 1) λmS=>
 k0 [jM,mS]) (
 pv (.sub 3 false true) [a6,cQ] λlX=>
 pv (.ko) [a6,ii 0,lX] λiL=>
 Yo (.l []) lX λjE=>
 mo (aU [aM,dg,cI]) λj7 j8 kJ=>
 pv (.lit 3 [true,true,false]) [j7,j8,kJ] λkQ=>
 Yo jE kQ λiq=>
 pv (.sub 3 true false) [a6,cQ] λjM=>
 pv (.ko) [iL,cQ,jM] λmS=>
 Yo iq jM λpf=>
 Ya a7 (ii 1) λnp=>
 k0 [pf,np])) (
 pv (.sub 3 false true) [a6,cQ] λfM=>
 pv (.ko) [a6,ii 0,fM] λiW=>
 Yo (.l []) fM λkl=>
 mo (aU [aM,dg,cI]) λlX iL jE=>
 pv (.lit 3 [true,true,false]) [lX,iL,jE] λj7=>
 Yo kl j7 λj8=>
 pv (.sub 3 true false) [a6,cQ] λkJ=>
 pv (.ko) [iW,cQ,kJ] λkQ=>
 Yo j8 kJ λiq=>
 Ya a7 (ii 1) λjM=>
 k0 [iq,jM]))) ts
def og:Option (List T):=
 (eE λdf=>
 Yn a6 λeO=>
 Yl df eO λfA=>
 aA fA (
 Yb a6 df λfL=>
 pv (.a_ 3 0) [a6,df] λfM=>
 Yl fM aM λiW=>
 aA iW (
 Ya df (ii 1) λkl=>
 k1 [kl]) (
 Yn a6 λkl=>
 Yl df kl λlX=>
 aA lX (
 Yb a6 df λiL=>
 pv (.a_ 3 0) [a6,df] λjE=>
 Ye jE aM λj7=>
 aA j7 (
 Y3 a6 df λkJ kQ iq=>
 mo (bh [kJ,kQ,iq,aM,cQ,cH]) λjM mS pf=>
 Yb a6 df λnp=>
 pv (.gj [true,true,false] 3 0) [a6,df,jM,mS,pf] λqL=>
 Ya a7 (ii 1) λsN=>
 k0 [qL,sN]) (
 pv (.sub 3 false true) [a6,df] λj8=>
 pv (.ko) [a6,ii 0,j8] λkJ=>
 Yo (.l []) j8 λkQ=>
 mo (aU [aM,cQ,cH]) λiq jM mS=>
 pv (.lit 3 [true,true,false]) [iq,jM,mS] λpf=>
 Yo kQ pf λnp=>
 pv (.sub 3 true false) [a6,df] λqL=>
 pv (.ko) [kJ,df,qL] λsN=>
 Yo np qL λuS=>
 Ya a7 (ii 1) λvX=>
 k0 [uS,vX])) (
 pv (.sub 3 false true) [a6,df] λiL=>
 pv (.ko) [a6,ii 0,iL] λjE=>
 Yo (.l []) iL λj7=>
 mo (aU [aM,cQ,cH]) λj8 kJ kQ=>
 pv (.lit 3 [true,true,false]) [j8,kJ,kQ] λiq=>
 Yo j7 iq λjM=>
 pv (.sub 3 true false) [a6,df] λmS=>
 pv (.ko) [jE,df,mS] λpf=>
 Yo jM mS λnp=>
 Ya a7 (ii 1) λqL=>
 k0 [np,qL]))) (
 Yn a6 λfL=>
 Yl df fL λfM=>
 aA fM (
 Yb a6 df λiW=>
 pv (.a_ 3 0) [a6,df] λkl=>
 Ye kl aM λlX=>
 aA lX (
 Y3 a6 df λjE j7 j8=>
 mo (bh [jE,j7,j8,aM,cQ,cH]) λkJ kQ iq=>
 Yb a6 df λjM=>
 pv (.gj [true,true,false] 3 0) [a6,df,kJ,kQ,iq] λmS=>
 Ya a7 (ii 1) λpf=>
 k0 [mS,pf]) (
 pv (.sub 3 false true) [a6,df] λiL=>
 pv (.ko) [a6,ii 0,iL] λjE=>
 Yo (.l []) iL λj7=>
 mo (aU [aM,cQ,cH]) λj8 kJ kQ=>
 pv (.lit 3 [true,true,false]) [j8,kJ,kQ] λiq=>
 Yo j7 iq λjM=>
 pv (.sub 3 true false) [a6,df] λmS=>
 pv (.ko) [jE,df,mS] λpf=>
 Yo jM mS λnp=>
 Ya a7 (ii 1) λqL=>
 k0 [np,qL])) (
 pv (.sub 3 false true) [a6,df] λiW=>
 pv (.ko) [a6,ii 0,iW] λkl=>
 Yo (.l []) iW λlX=>
 mo (aU [aM,cQ,cH]) λiL jE j7=>
 pv (.lit 3 [true,true,false]) [iL,jE,j7] λj8=>
 Yo lX j8 λkJ=>
 pv (.sub 3 true false) [a6,df] λkQ=>
 pv (.ko) [kl,df,kQ] λiq=>
 Yo kJ kQ λjM=>
 Ya a7 (ii 1) λmS=>
 k0 [jM,mS]))) ts
def oV:Option (List T):=
 (ed λa6 a7=>
 Yl a7 a5 λa8=>
 aA a8 (
 Y8 a0 a7 λaH aK aP aM aL aO aR bd=>
 Yu aK (ii 2) λaV=>
 aA aV (
 Ya a7 (ii 1) λaT=>
 k0 [a6,aT]) (
 Yh aR (ii 60000) λaT=>
 aA aT (
 Ya a7 (ii 1) λaQ=>
 k0 [a6,aQ]) (
 Ye aP a3 λaQ=>
 aA aQ (
 Ya a7 (ii 1) λbw=>
 k0 [a6,bw]) (
 bp (dt [a1,aH]) λbw=>
 Yt bw λbY=>
 aA bY (
 Ya a7 (ii 1) λbD=>
 k0 [a6,bD]) (
 aA a2 (
 Yu aH (ii 0) λbD=>
 aA bD (
 Ya a7 (ii 1) λbH=>
 k0 [a6,bH]) (
 tX (dm [a4,aM]) λbH bK bL cb=>
 bp (cZ [a0,aH,a3]) λbZ=>
 tX (dm [bZ,aP]) λcn cI cH cB=>
 aA cb (
 Ya a7 (ii 1) λcF=>
 k0 [a6,cF]) (
 Yt cB λcF=>
 aA cF (
 Ya a7 (ii 1) λdy=>
 k0 [a6,dy]) (
 Ya aR cI λdy=>
 Yh dy (ii 60000) λdg=>
 aA dg (
 Ya a7 (ii 1) λcQ=>
 k0 [a6,cQ]) (
 Ya aR cI λcQ=>
 iter (og bh aU a6 a7 aM cH cQ k0) R [ii 0]))))) (
 tX (dm [a4,aM]) λbD bH bK bL=>
 bp (cZ [a0,aH,a3]) λcb=>
 tX (dm [cb,aP]) λbZ cn cI cH=>
 aA bL (
 Ya a7 (ii 1) λcB=>
 k0 [a6,cB]) (
 Yt cH λcB=>
 aA cB (
 Ya a7 (ii 1) λcF=>
 k0 [a6,cF]) (
 Ya aR cn λcF=>
 Yh cF (ii 60000) λdy=>
 aA dy (
 Ya a7 (ii 1) λdg=>
 k0 [a6,dg]) (
 Ya aR cn λdg=>
 iter (oe bh aU a6 a7 aM cI dg k0) R [ii 0]))))))))) (
 some [a6])) ts
def jX_:Option (List T):=
 bp (cY [a0,a1,a3]) λa4=>
 Yn a0 λa5=>
 iter (oV R bh dm cZ aU dt a0 a1 a2 a3 a4 a5) R [.l [],ii 0]
theorem arw:(Y_).den (pick [(175,dt),(176,cZ),(178,dm),(179,cY),(224,aU),(227,bh)]) R [] [a0,a1,a2,a3]=jX_ R cY bh dm cZ aU dt a0 a1 a2 a3:=(dq (by kernel_rfl)).trans (by kernel_rfl)
theorem arx:Y' [a0,a1,a2,a3]=jX_ rounds Ly yO Lx FQ wY FO a0 a1 a2 a3:=fs_z.trans (arw rounds ..)
def uX:Option (List T):=
 (sM λaV aT aQ=>
 Yl aV bd λbw=>
 aA bw (
 Y3 aQ aV λbD bH bK=>
 tX (dm [a8,bD]) λbL cb bZ cn=>
 Yt cn λcI=>
 aA cI (
 Yu bD a2 λcH=>
 aA cH (
 bp (cd [aT,a3,ii 2,a2,bD,ii 0,.l [],bH,bb false]) λcB=>
 Yl cB (ii 0) λcF=>
 jn (eE λdy=>
 Ya aV (ii 1) λdg=>
 k3 [dg,dy,aQ]) λk4=>
 aA cF (
 bp (ca [aT,a3,ii 2,a2,bD,ii 0,.l [],bH,bb false]) λdy=>
 k4 [dy]) (
 k4 [aT])) (
 jn (eE λcB=>
 Ya aV (ii 1) λcF=>
 k3 [cF,cB,aQ]) λk4=>
 k4 [aT])) (
 jn (eE λcH=>
 Ya aV (ii 1) λcB=>
 k3 [cB,cH,aQ]) λk4=>
 k4 [aT])) (
 k2 [aT])) ts
def uY:Option (List T):=
 (sM λaK aP aM=>
 Yl aK aH λaL=>
 aA aL (
 Y3 aM aK λaR bd aV=>
 tX (dm [a8,aR]) λaT aQ bw bY=>
 Yt bY λbD=>
 aA bD (
 Yu aR a2 λbH=>
 aA bH (
 bp (cd [aP,a3,ii 2,a2,aR,ii 0,.l [],bd,bb false]) λbK=>
 Yl bK (ii 0) λbL=>
 jn (eE λcb=>
 Ya aK (ii 1) λbZ=>
 k1 [bZ,cb,aM]) λk2=>
 aA bL (
 bp (ca [aP,a3,ii 2,a2,aR,ii 0,.l [],bd,bb false]) λcb=>
 k2 [cb]) (
 k2 [aP])) (
 jn (eE λbK=>
 Ya aK (ii 1) λbL=>
 k1 [bL,bK,aM]) λk2=>
 k2 [aP])) (
 jn (eE λbH=>
 Ya aK (ii 1) λbK=>
 k1 [bK,bH,aM]) λk2=>
 k2 [aP])) (
 Yu a3 (ii 0) λaO=>
 jn (eE λaR=>
 some [aR]) λk2=>
 aA aO (
 bp (eC [a0,a1,bb true,a2]) λaR=>
 Yn aR λbd=>
 iter (uX dm cd ca a2 a3 a8 bd k2) R [ii 0,aP,aR]) (
 k2 [aP]))) ts
def uZ:Option (List T):=
 (ed λa5 a6=>
 Yl a6 a4 λa7=>
 aA a7 (
 Y1 a1 a6 λa9=>
 Yu a9 a3 λaH=>
 jn (eE λaK=>
 Ya a6 (ii 1) λaP=>
 k0 [aK,aP]) λk1=>
 aA aH (
 Yx a9 λaK=>
 Yp a5 aK λaP=>
 k1 [aP]) (
 k1 [a5])) (
 bp (cZ [a0,a3,a2]) λa8=>
 bp (cY [a0,a5,a2]) λa9=>
 Yn a9 λaH=>
 iter (uY R eC dm cd ca a0 a1 a2 a3 a8 aH) R [ii 0,.l [],a9])) ts
def Nw:Option (List T):=
 Yn a1 λa4=>
 iter (uZ R eC cY dm cZ cd ca a0 a1 a2 a3 a4) R [.l [],ii 0]
theorem ary:(Zc).den (pick [(57,ca),(157,cd),(176,cZ),(178,dm),(179,cY),(180,eC)]) R [] [a0,a1,a2,a3]=Nw R eC cY dm cZ cd ca a0 a1 a2 a3:=(dq (by kernel_rfl)).trans (by kernel_rfl)
theorem arz:Zd [a0,a1,a2,a3]=Nw rounds Y' Ly Lx FQ yN wX a0 a1 a2 a3:=fs_z.trans (ary rounds ..)
def zH:Option (List T):=
 (sM λbL cb bZ=>
 Yl cb bK λcn=>
 aA cn (
 Y8 bZ cb λcH cB cF dy dg cQ df eO=>
 bp (ca [bL,cH,cB,cF,dy,dg,cQ,df,eO]) λfA=>
 Ya cb (ii 1) λfL=>
 k3 [fA,fL,bZ]) (
 Ya aQ (ii 1) λcI=>
 k2 [bL,cI])) ts
def zI:Option (List T):=
 (ed λaT aQ=>
 Yl aQ aV λbw=>
 aA bw (
 Yq aO aQ λbD=>
 bp (iS [bd,aO,a0,bD]) λbH=>
 Yn bH λbK=>
 iter (zH ca aQ bK k2) R [aT,ii 0,bH]) (
 k1 [aT,aM,aM,aM])) ts
def yR:Option (List T):=
 (ed λbY bD=>
 Yl bD bw λbH=>
 aA bH (
 Y4 a4 bD λbL cb bZ cn=>
 Ye bL a0 λcI=>
 jn (eE λcH=>
 Ya bD (ii 1) λcB=>
 k1 [cH,cB]) λk2=>
 aA cI (
 bp (ca [bY,ii 9,ii 3,a0,cb,ii 0,.l [],bZ,cn]) λcH=>
 k2 [cH]) (
 k2 [bY])) (
 some [bY])) ts
def zJ:Option (List T):=
 (sM λaK aP aM=>
 Yl aP aH λaL=>
 aA aL (
 Y8 aM aP λaR bd aV aT aQ bw bY bD=>
 bp (ca [aK,aR,bd,aV,aT,aQ,bw,bY,bD]) λbH=>
 Ya aP (ii 1) λbK=>
 k0 [bH,bK,aM]) (
 bp (dG [a2,a3,a4,a0]) λaO=>
 bp (jR [a2,a3,a4,a0]) λaR=>
 jn (KD λbd aV aT aQ=>
 Yn a4 λbw=>
 iter (yR ca a0 a4 bw) R [bd,ii 0]) λk1=>
 aA aR (
 bp (sd [a6,a0,aM]) λbd=>
 Yn aO λaV=>
 iter (zI R iS ca a0 aM aO bd aV k1) R [aK,ii 0]) (
 k1 [aK,aM,aM,aM]))) ts
def Nx:Option (List T):=
 bp (eK [a0,a1,a2,a3,a4,a5,a6]) λa7=>
 Yt a7 λa8=>
 aA a8 (
 some [.l []]) (
 bp (se [a0,a1,a2,a3,a4,a5,a6]) λa9=>
 Yn a9 λaH=>
 iter (zJ R dG iS jR sd ca a0 a2 a3 a4 a6 aH) R [.l [],ii 0,a9])
theorem arA:(Zf).den (pick [(13,eK),(57,ca),(73,se),(74,dG),(75,jR),(76,sd),(77,iS)]) R [] [a0,a1,a2,a3,a4,a5,a6]=Nx R dG iS jR eK sd se ca a0 a1 a2 a3 a4 a5 a6:=(dq (by kernel_rfl)).trans (by kernel_rfl)
theorem arB:Ps [a0,a1,a2,a3,a4,a5,a6]=Nx rounds FM Zd YH FL BJ BH wX a0 a1 a2 a3 a4 a5 a6:=fs_z.trans (arA rounds ..)
def PV:Option (List T):=
 (ed λbH bK=>
 Yl bK bD λbL=>
 aA bL (
 Y2 a5 bK λbZ cn=>
 Y2 aM bK λcH cB=>
 pv (.s5 [1,1]) [bZ,cn,cH,cB] λcF=>
 Yt cF λdy=>
 aA dy (
 Yz (bb false) λdg=>
 some [dg]) (
 Ya bK (ii 1) λdg=>
 k0 [bH,dg])) (
 Yz (bb true) λcb=>
 some [cb])) ts
def Ny:Option (List T):=
 bp (cM [a0,a1,a2,a3,a4,a5,a6,a7,a8,a9,aH,aK,aP,aM,aL,aO]) λaR=>
 Yt aR λbd=>
 aA bd (
 Yz (bb false) λaV=>
 some [aV]) (
 Yu a6 aL λaV=>
 aA aV (
 Yz (bb false) λaT=>
 some [aT]) (
 pv (.bb .neq) [a7,aO] λaT=>
 aA aT (
 Yz (bb false) λaQ=>
 some [aQ]) (
 Yn a5 λaQ=>
 Yn aM λbw=>
 Yu aQ bw λbY=>
 aA bY (
 Yz (bb false) λbD=>
 some [bD]) (
 Yn a5 λbD=>
 iter (PV a5 aM bD) R [bb false,ii 0]))))
theorem arC:(Zh).den (pick [(163,cM)]) R [] [a0,a1,a2,a3,a4,a5,a6,a7,a8,a9,aH,aK,aP,aM,aL,aO]=Ny R cM a0 a1 a2 a3 a4 a5 a6 a7 a8 a9 aH aK aP aM aL aO:=(dq (by kernel_rfl)).trans (by kernel_rfl)
theorem arD:Zi [a0,a1,a2,a3,a4,a5,a6,a7,a8,a9,aH,aK,aP,aM,aL,aO]=Ny rounds FN a0 a1 a2 a3 a4 a5 a6 a7 a8 a9 aH aK aP aM aL aO:=fs_z.trans (arC rounds ..)
def Gp:Option (List T):=
 bp (cd [a6,a7,a8,a9,aH,aK,aP,aM,aL]) λaO=>
 Yh aO (ii 0) λaR=>
 jn (eE λbd=>
 Ya bd (ii 1) λaV=>
 pv (.bin .mul) [ii 1000,a1] λaT=>
 Ya aT (ii 1) λaQ=>
 pv (.mx) [aV,aQ] λbw=>
 Yz bw λbY=>
 some [bY]) λk0=>
 aA aR (
 Yb a6 aO λbd=>
 Yc 8 4 a6 aO λaV=>
 k0 [aV]) (
 k0 [ii 0])
theorem arE:(Zk).den (pick [(157,cd)]) R [] [a0,a1,a2,a3,a4,a5,a6,a7,a8,a9,aH,aK,aP,aM,aL]=Gp cd a1 a6 a7 a8 a9 aH aK aP aM aL:=(dq (by kernel_rfl)).trans (by kernel_rfl)
theorem arF:BM [a0,a1,a2,a3,a4,a5,a6,a7,a8,a9,aH,aK,aP,aM,aL]=Gp yN a1 a6 a7 a8 a9 aH aK aP aM aL:=fs_z.trans (arE rounds ..)
def Gq:Option (List T):=
 Yu a1 (ii 1) λa8=>
 jn (eE λa9=>
 Yz a7 λaH=>
 Yz a9 λaK=>
 Yz a4 λaP=>
 Yz a3 λaM=>
 Yz a2 λaL=>
 Yz a1 λaO=>
 Yz a0 λaR=>
 some [aR,aO,aL,aM,aP,.l [],aK,aH]) λk0=>
 aA a8 (
 k0 [ii 60000]) (
 k0 [a6])
theorem arG:(Zm).den (pick []) R [] [a0,a1,a2,a3,a4,a5,a6,a7]=Gq a0 a1 a2 a3 a4 a6 a7:=(dq (by kernel_rfl)).trans (by kernel_rfl)
theorem arH:BN [a0,a1,a2,a3,a4,a5,a6,a7]=Gq a0 a1 a2 a3 a4 a6 a7:=fs_z.trans (arG rounds ..)
def B0:Option (List T):=
 (ed λaL aO=>
 Yl aO aM λaR=>
 aA aR (
 Y8 a6 aO λaV aT aQ bw bY bD bH bK=>
 Yu aQ a0 λbL=>
 aA bL (
 Ya aO (ii 1) λcb=>
 k1 [aL,cb]) (
 bp (cd [aK,aV,aT,aQ,bw,bY,bD,bH,bK]) λcb=>
 Yh cb (ii 0) λbZ=>
 aA bZ (
 Ya aO (ii 1) λcn=>
 k1 [aL,cn]) (
 po (lu [aV,aT,aQ,bw,bY,bD,bH,bK]) λcn cI cH cB cF dy dg cQ=>
 bp (fm [cn,cI,cH,cB,cF,dy,dg,cQ,aV,aT,aQ,bw,bY,bD,bH,bK]) λdf=>
 Yt df λeO=>
 jn (ed λfA fL=>
 Ya aO (ii 1) λfM=>
 k1 [fA,fM]) λk2=>
 aA eO (
 bp (gQ [a0,a1,a2,a3,a4,a5,a6,aV,aT,aQ,bw,bY,bD,bH,bK]) λfA=>
 bp (ca [aL,cn,cI,cH,cB,fA,dy,dg,cQ]) λfL=>
 k2 [fL,fA]) (
 k2 [aL,cF])))) (
 some [aL])) ts
def B1:Option (List T):=
 (sM λa9 aH aK=>
 Yl aH a8 λaP=>
 aA aP (
 Y8 aK aH λaL aO aR bd aV aT aQ bw=>
 bp (cd [a6,aL,aO,aR,bd,aV,aT,aQ,bw]) λbY=>
 Yl bY (ii 0) λbD=>
 aA bD (
 jn (ed λbH bK=>
 Ya aH (ii 1) λbL=>
 k0 [bH,bL,aK]) λk1=>
 bp (gQ [a0,a1,a2,a3,a4,a5,a6,aL,aO,aR,bd,aV,aT,aQ,bw]) λbH=>
 bp (ca [a9,aL,aO,aR,bd,bH,aT,aQ,bw]) λbK=>
 k1 [bK,bH]) (
 Y8 a6 bY λbK bL cb bZ cn cI cH cB=>
 bp (fm [bK,bL,cb,bZ,cn,cI,cH,cB,aL,aO,aR,bd,aV,aT,aQ,bw]) λcF=>
 Yt cF λdy=>
 jn (ed λdg cQ=>
 Ya aH (ii 1) λdf=>
 k0 [dg,df,aK]) λk1=>
 aA dy (
 bp (gQ [a0,a1,a2,a3,a4,a5,a6,aL,aO,aR,bd,aV,aT,aQ,bw]) λdg=>
 bp (ca [a9,aL,aO,aR,bd,dg,aT,aQ,bw]) λcQ=>
 k1 [cQ,dg]) (
 k1 [a9,aV]))) (
 Yn a6 λaM=>
 iter (B0 fm lu cd ca gQ a0 a1 a2 a3 a4 a5 a6 aK aM) R [a9,ii 0])) ts
def Nz:Option (List T):=
 bp (mA [a0,a1,a2,a3,a4,a5,a6]) λa7=>
 Yn a7 λa8=>
 iter (B1 R fm lu cd ca gQ a0 a1 a2 a3 a4 a5 a6 a8) R [.l [],ii 0,a7]
theorem arI:(Zo).den (pick [(18,mA),(57,ca),(157,cd),(158,fm),(159,gQ),(160,lu)]) R [] [a0,a1,a2,a3,a4,a5,a6]=Nz R fm mA lu cd ca gQ a0 a1 a2 a3 a4 a5 a6:=(dq (by kernel_rfl)).trans (by kernel_rfl)
theorem arJ:BO [a0,a1,a2,a3,a4,a5,a6]=Nz rounds Zi Ps BN yN wX BM a0 a1 a2 a3 a4 a5 a6:=fs_z.trans (arI rounds ..)
def NA:Option (List T):=
 (sM λaT aQ bw=>
 Yl bw aV λbY=>
 aA bY (
 Yb aR bw λbD=>
 pv (.a_ 8 0) [aR,bw] λbH=>
 pv (.a_ 8 1) [aR,bw] λbK=>
 pv (.a_ 8 2) [aR,bw] λbL=>
 pv (.a_ 8 3) [aR,bw] λcb=>
 pv (.a_ 8 4) [aR,bw] λbZ=>
 pv (.dJ 8 5) [aR,bw] λcn=>
 pv (.a_ 8 6) [aR,bw] λcI=>
 pv (.a_ 8 7) [aR,bw] λcH=>
 Yg bZ (ii 100000) λcB=>
 aA cB (
 Yz a9 λcF=>
 Yz a8 λdy=>
 Yz a7 λdg=>
 some [dg,dy,cF,aH,aK,aP,aM,.l []]) (
 pv (.dJ 8 5) [aR,bw] λcF=>
 bp (ca [aQ,bH,bK,bL,cb,bZ,cF,cI,cH]) λdy=>
 Ya bw (ii 1) λdg=>
 k0 [aT,dy,dg])) (
 Yn aQ λbD=>
 Yg bD (ii 150) λbH=>
 aA bH (
 Yz a9 λbK=>
 Yz a8 λbL=>
 Yz a7 λcb=>
 some [cb,bL,bK,aH,aK,aP,aM,.l []]) (
 Yz a9 λbK=>
 Yz a8 λbL=>
 Yz a7 λcb=>
 some [cb,bL,bK,aH,aK,aP,aQ,aR]))) ts
def Gr:Option (List T):=
 C3 (fo [a0,a1,a2,a3,a4,a5,a6]) λa7 a8 a9 aH aK aP aM=>
 bp (eK [a0,a1,a2,a3,a4,a5,a6]) λaL=>
 Yt aL λaO=>
 aA aO (
 Yz a9 λaR=>
 Yz a8 λbd=>
 Yz a7 λaV=>
 some [aV,bd,aR,aH,aK,aP,aM,.l []]) (
 bp (n6 [a0,a1,a2,a3,a4,a5,a6]) λaR=>
 bp (bB [a6]) λbd=>
 Yn aR λaV=>
 iter (NA ca a7 a8 a9 aH aK aP aM aR aV) R [.l [],bd,ii 0])
theorem arK:(Zq).den (pick [(13,eK),(54,fo),(55,n6),(56,bB),(57,ca)]) R [] [a0,a1,a2,a3,a4,a5,a6]=Gr R eK bB fo n6 ca a0 a1 a2 a3 a4 a5 a6:=(dq (by kernel_rfl)).trans (by kernel_rfl)
theorem aay:BP [a0,a1,a2,a3,a4,a5,a6]=Gr rounds FL FJ Ll BO wX a0 a1 a2 a3 a4 a5 a6:=fs_z.trans (arK rounds ..)
def ks_:Option (List T):=
 (ed λa3 a4=>
 Yl a4 a2 λa5=>
 aA a5 (
 Y8 a0 a4 λa7 a8 a9 aH aK aP aM aL=>
 Ye a7 a1 λaO=>
 aA aO (
 jn (eE λaR=>
 Ya a4 (ii 1) λbd=>
 k0 [aR,bd]) λk1=>
 po (bR [a7,a8,a9,aH,aK,aP,aM,aL]) λaR bd aV aT aQ bw bY bD=>
 pv (.lit 8 [true,true,true,true,true,false,true,true]) [aR,bd,aV,aT,aQ,bw,bY,bD] λbH=>
 Yy a3 bH λbK=>
 k1 [bK]) (
 Ye a7 (ii 9) λaR=>
 jn (eE λbd=>
 Ya a4 (ii 1) λaV=>
 k0 [bd,aV]) λk1=>
 aA aR (
 po (bR [a7,a8,a9,aH,aK,aP,aM,aL]) λbd aV aT aQ bw bY bD bH=>
 pv (.lit 8 [true,true,true,true,true,false,true,true]) [bd,aV,aT,aQ,bw,bY,bD,bH] λbK=>
 Yy a3 bK λbL=>
 k1 [bL]) (
 k1 [a3]))) (
 some [a3])) ts
def NB:Option (List T):=
 Yn a0 λa2=>
 iter (ks_ bR a0 a1 a2) R [.l [],ii 0]
theorem arL:(Zs).den (pick [(161,bR)]) R [] [a0,a1]=NB R bR a0 a1:=(dq (by kernel_rfl)).trans (by kernel_rfl)
theorem arM:BQ [a0,a1]=NB rounds FI a0 a1:=fs_z.trans (arL rounds ..)
def Gs:Option (List T):=
 Ye a1 (ii 3) λa8=>
 jn (eE λa9=>
 Yz (bb false) λaH=>
 Yz a9 λaK=>
 Yz a4 λaP=>
 Yz a3 λaM=>
 Yz a2 λaL=>
 Yz a1 λaO=>
 Yz a0 λaR=>
 some [aR,aO,aL,aM,aP,.l [],aK,aH]) λk0=>
 aA a8 (
 k0 [ii 1]) (
 k0 [ii 0])
theorem arN:(Zu).den (pick []) R [] [a0,a1,a2,a3,a4,a5,a6,a7]=Gs a0 a1 a2 a3 a4:=(dq (by kernel_rfl)).trans (by kernel_rfl)
theorem arO:Zv [a0,a1,a2,a3,a4,a5,a6,a7]=Gs a0 a1 a2 a3 a4:=fs_z.trans (arN rounds ..)
def q9_:Option (List T):=
 (sM λa4 a5 a6=>
 Yl a5 a3 λa7=>
 aA a7 (
 Y8 a6 a5 λa9 aH aK aP aM aL aO aR=>
 po (jU [a9,aH,aK,aP,aM,aL,aO,aR]) λbd aV aT aQ bw bY bD bH=>
 pv (.lit 8 [true,true,true,true,true,false,true,true]) [bd,aV,aT,aQ,bw,bY,bD,bH] λbK=>
 Yy a4 bK λbL=>
 Ya a5 (ii 1) λcb=>
 k0 [bL,cb,a6]) (
 some [a4])) ts
def NC:Option (List T):=
 bp (nZ [a0,a1]) λa2=>
 Yn a2 λa3=>
 iter (q9_ jU a3) R [.l [],ii 0,a2]
theorem arP:(Zx).den (pick [(186,nZ),(187,jU)]) R [] [a0,a1]=NC R nZ jU a0 a1:=(dq (by kernel_rfl)).trans (by kernel_rfl)
theorem arQ:Pu [a0,a1]=NC rounds BQ Zv a0 a1:=fs_z.trans (arP rounds ..)
def sU:Option (List T):=
 (eE λiq=>
 Yn fM λjM=>
 Yl iq jM λmS=>
 aA mS (
 Yq fM iq λnp=>
 Yl np iL λqL=>
 aA qL (
 Ya iq (ii 1) λsN=>
 k4 [sN]) (
 Yn fM λsN=>
 Yl iq sN λuS=>
 aA uS (
 Yq fM iq λsf=>
 Ye sf iL λsO=>
 aA sO (
 k3 [fM]) (
 Yw fM iq λvY=>
 bp (ai [vY]) λul=>
 Yx iL λsP=>
 Yp ul sP λC_=>
 Yv fM iq λGg=>
 Yp C_ Gg λIg=>
 k3 [Ig])) (
 Yw fM iq λvX=>
 bp (ai [vX]) λsf=>
 Yx iL λsO=>
 Yp sf sO λvY=>
 Yv fM iq λul=>
 Yp vY ul λsP=>
 k3 [sP]))) (
 Yn fM λpf=>
 Yl iq pf λnp=>
 aA np (
 Yq fM iq λsN=>
 Ye sN iL λuS=>
 aA uS (
 k3 [fM]) (
 Yw fM iq λvX=>
 bp (ai [vX]) λsf=>
 Yx iL λsO=>
 Yp sf sO λvY=>
 Yv fM iq λul=>
 Yp vY ul λsP=>
 k3 [sP])) (
 Yw fM iq λqL=>
 bp (ai [qL]) λsN=>
 Yx iL λuS=>
 Yp sN uS λvX=>
 Yv fM iq λsf=>
 Yp vX sf λsO=>
 k3 [sO]))) ts
def uq:Option (List T):=
 (ed λfM iW=>
 Yl iW fL λkl=>
 aA kl (
 Yb aQ iW λlX=>
 pv (.a_ 4 0) [aQ,iW] λiL=>
 pv (.a_ 4 1) [aQ,iW] λjE=>
 pv (.a_ 4 2) [aQ,iW] λj7=>
 pv (.a_ 4 3) [aQ,iW] λj8=>
 Ye jE df λkJ=>
 aA kJ (
 Yg j7 (ii 0) λkQ=>
 jn (eE λiq=>
 Ya iW (ii 1) λjM=>
 k2 [iq,jM]) λk3=>
 aA kQ (
 iter (sU ai fM iL k3) R [ii 0]) (
 k3 [fM])) (
 jn (eE λkQ=>
 Ya iW (ii 1) λiq=>
 k2 [kQ,iq]) λk3=>
 k3 [fM])) (
 pv (.lit 6 [true,true,true,true,false,false]) [ii 1,bD,cQ,df,fM,.l []] λlX=>
 pv (.app false 6) [cB,lX] λiL=>
 jn (eE λjE=>
 Ya cF (ii 1) λj7=>
 k1 [jE,j7]) λk3=>
 aA fA (
 bp (fU [cn,df]) λjE=>
 pv (.lit 6 [true,true,true,true,false,false]) [ii 2,bD,cQ,df,.l [],jE] λj7=>
 pv (.app false 6) [iL,j7] λj8=>
 k3 [j8]) (
 k3 [iL]))) ts
def sV:Option (List T):=
 (ed λcB cF=>
 Yl cF cH λdy=>
 aA dy (
 Yb aQ cF λdg=>
 pv (.a_ 4 0) [aQ,cF] λcQ=>
 pv (.a_ 4 1) [aQ,cF] λdf=>
 pv (.a_ 4 2) [aQ,cF] λeO=>
 pv (.a_ 4 3) [aQ,cF] λfA=>
 Yn aQ λfL=>
 iter (uq R fU ai aQ bD cn cB cF cQ df fA fL k1) R [.l [],ii 0]) (
 Yz bK λdg=>
 Yz bH λcQ=>
 Yz bD λdf=>
 some [df,cQ,dg,bL,cb,bZ,cn,aQ,cB])) ts
def ur:Option (List T):=
 (ed λaT aQ=>
 Yl aT aV λbw=>
 aA bw (
 Yb aQ aT λbY=>
 pv (.a_ 4 2) [aQ,aT] λbD=>
 Ys bD (ii 1) λbH=>
 pv (.mx) [bH,ii 0] λbK=>
 pv (.put true 4 2 1) [aQ,aT,bK] λbL=>
 pv (.a_ 4 3) [bL,aT] λcb=>
 aA cb (
 pv (.a_ 4 2) [bL,aT] λbZ=>
 Yg bZ (ii 0) λcn=>
 pv (.put true 4 3 1) [bL,aT,cn] λcI=>
 Ya aT (ii 1) λcH=>
 k0 [cH,cI]) (
 pv (.put true 4 3 1) [bL,aT,bb false] λbZ=>
 Ya aT (ii 1) λcn=>
 k0 [cn,bZ])) (
 bp (eG [aQ]) λbY=>
 po (lL [a8,a9,aH,aK,aP,bY,aL]) λbD bH bK bL cb bZ cn cI=>
 Yn aQ λcH=>
 iter (sV R fU ai aQ bD bH bK bL cb bZ cn cH) R [.l [],ii 0])) ts
def kU_:Option (List T):=
 po (jT [a0,a1,a2,a3,a4,a5,a6,a7]) λa8 a9 aH aK aP aM aL aO=>
 bp (mz [a0,a1,a2,a3,a4,a5,a6,a7]) λaR=>
 Yt aR λbd=>
 aA bd (
 Yz aH λaV=>
 Yz a9 λaT=>
 Yz a8 λaQ=>
 some [aQ,aT,aV,aK,aP,aM,aL,aO,.l []]) (
 Yn aO λaV=>
 iter (ur R fU lL ai eG a8 a9 aH aK aP aL aV) R [ii 0,aO])
theorem arR:(Zz).den (pick [(11,lL),(23,mz),(81,jT),(82,eG),(86,fU),(156,ai)]) R [] [a0,a1,a2,a3,a4,a5,a6,a7]=kU_ R fU mz lL ai jT eG a0 a1 a2 a3 a4 a5 a6 a7:=(dq (by kernel_rfl)).trans (by kernel_rfl)
theorem arS:ZA [a0,a1,a2,a3,a4,a5,a6,a7]=kU_ rounds Pu X9 BP r_ Xs Lr a0 a1 a2 a3 a4 a5 a6 a7:=fs_z.trans (arR rounds ..)
end
end Go.Proofs.YtjimmglpkndemaaGreatC
