/- The plain programs as native functions (printed by a program). Conditions: none. -/
import Derived.Test.YtjimmglpkndemaaGreatXPH
import Derived.Test.YtjimmglpkndemaaGreatKe
namespace Go.Proofs.YtjimmglpkndemaaGreatC
set_option linter.unusedVariables false
theorem fs_z {p:PL} {ks ts}:Fs p ks ts=p.den (pick ks) rounds [] ts:=rfl
section
variable (R:Nat) (QB CZ d_ fJ jz kC jA eK kE jO ou kF iw ov mg et cz kG fi gE ff dA dF dr eC dO da kH bJ mR dN dB mh sN aC lR fY bp bD dX bq oz mS oA lS cY fK dK lT lU bU bE lV lW dP mT iy sO bK jk iz kJ nJ cP eV kK fj eu bO gW nK eM kL ju oB kM jv gF kN lX mU eN fk eD fZ dC cW fL db cZ cg dG mV cu dQ az fM aT a_ br dH gG mW kO fv dk mX bk aM lY cr cQ bY bf cX dR fh kQ eb gX eW gH cG kR jP lZ gB cH kU gI ed fx l7 gY mY jB dl jQ iJ gv mZ eX gJ:aA)
variable (a0 a1 a2 a3 a4 a5 a6 a7 a8 a9 aD aK a12 aI aJ aL aN aS aO aR a20 a21 bg aZ a24 bh bc bm a28 bz bM a31 bS bV b9 ch ca a37 cJ dm a40 eO fy fw fN fR a46 gb fA a49 gj a51 gp a53 iV h_ kf kh mo a59 ki mH jY iW m_ mq j4 mr nc lC a70 nL a72 mu l8 a75 a76 o7 qN qO a80 xD xE Gq IX a85 QC a87 a88 a89 a90 a91 a92 a93 a94 a95 a96 a97 a98 a99 azb azc azd aze azf a105 azg a107 azh a109 azi azj azk azl azm azn a116 a117 azo a119 azp azq azr azs a124 azt azu a127 azv azw a130 a131 azx azy azz azA azB azC a138 a139 azD a141 azE a143 azF a145 a146 azG a148 azH:T) (k0 k1 k2 k3 k4 k5 k6 k7 k8 k9 k10 k11 k12 k13 k14 k15 k16 k17 k18 k19:aA) (ts:List T)
def Mo:Option (List T):=
 Yn a0 λa1=>
 Yg a1 (ii 1048576) λa2=>
 Yz a2 λa3=>
 some [a3]
theorem anY:(B_).den (pick []) R [] [a0]=Mo a0:=(cF (by kernel_rfl)).trans (by kernel_rfl)
theorem anZ:Ca [a0]=Mo a0:=anY ..
def Gr:Option (List T):=
 pv (.bin .mul) [a2,ii 6364136223846793005] λa3=>
 Ya a3 (ii 1442695040888963407) λa4=>
 pv (.bin .shr) [a4,.c (.int .u64 33)] λa5=>
 pv (.bin .shr) [a4,.c (.int .u64 45)] λa6=>
 pv (.bin .xor) [a5,a6] λa7=>
 pv (.bin .and) [a7,ii 255] λa8=>
 Yn a0 λa9=>
 Yl a1 a9 λaD=>
 jn (di λaK a12=>
 Yz a12 λaI=>
 some [aI,a0,aK,a4]) λk0=>
 ax aD (
 Y1 a0 a1 λa12=>
 pv (.Qc .i64) [a12] λaI=>
 Ya a8 aI λaJ=>
 pv (.bin .and) [aJ,ii 255] λaL=>
 Ya a1 (ii 1) λaN=>
 k0 [aN,aL]) (
 k0 [a1,a8])
theorem an0:(VE).den (pick []) R [] [a0,a1,a2]=Gr a0 a1 a2:=(cF (by kernel_rfl)).trans (by kernel_rfl)
theorem an1:VF [a0,a1,a2]=Gr a0 a1 a2:=fs_z.trans (an0 rounds ..)
def Gs:Option (List T):=
 Ym a3 (ii 0) λa4=>
 ax a4 (
 Yz (ii 0) λa5=>
 some [a5,a0,a1,a2]) (
 Ym a3 (ii 256) λa5=>
 ax a5 (
 fe (fM [a0,a1,a2]) λa6 a7 a8 a9=>
 pv (.bin .rem) [a6,a3] λaD=>
 Yz aD λaK=>
 some [aK,a7,a8,a9]) (
 fe (fM [a0,a1,a2]) λa6 a7 a8 a9=>
 fe (fM [a7,a8,a9]) λaD aK a12 aI=>
 fe (fM [aK,a12,aI]) λaJ aL aN aS=>
 fe (fM [aL,aN,aS]) λaO aR a20 a21=>
 pv (.bin .mul) [a6,ii 16777216] λbg=>
 pv (.bin .mul) [aD,ii 65536] λaZ=>
 Ya bg aZ λa24=>
 pv (.bin .mul) [aJ,ii 256] λbh=>
 Ya a24 bh λbc=>
 Ya bc aO λbm=>
 pv (.bin .rem) [bm,a3] λa28=>
 Yz a28 λbz=>
 some [bz,aR,a20,a21]))
theorem an2:(VH).den (pick [(215,fM)]) R [] [a0,a1,a2,a3]=Gs fM a0 a1 a2 a3:=(cF (by kernel_rfl)).trans (by kernel_rfl)
theorem an3:n4 [a0,a1,a2,a3]=Gs VF a0 a1 a2 a3:=fs_z.trans (an2 rounds ..)
def Mp:Option (List T):=
 Yn a3 λa4=>
 fe (az [a0,a1,a2,a4]) λa5 a6 a7 a8=>
 Y1 a3 a5 λaD=>
 Yz aD λaK=>
 some [aK,a6,a7,a8]
theorem an4:(VJ).den (pick [(149,az)]) R [] [a0,a1,a2,a3]=Mp az a0 a1 a2 a3:=(cF (by kernel_rfl)).trans (by kernel_rfl)
theorem an5:Cc [a0,a1,a2,a3]=Mp n4 a0 a1 a2 a3:=fs_z.trans (an4 rounds ..)
def Mq:Option (List T):=
 Yl a0 a4 λa8=>
 ax a8 (
 Yz (bb true) λa9=>
 some [a9]) (
 Ye a0 a4 λa9=>
 ax a9 (
 Yl a1 a5 λaD=>
 ax aD (
 Yz (bb true) λaK=>
 some [aK]) (
 Ye a1 a5 λaK=>
 ax aK (
 Yl a3 a7 λa12=>
 Yz a12 λaI=>
 some [aI]) (
 Yz (bb false) λa12=>
 some [a12]))) (
 Yz (bb false) λaD=>
 some [aD]))
theorem an6:(VL).den (pick []) R [] [a0,a1,a2,a3,a4,a5,a6,a7]=Mq a0 a1 a3 a4 a5 a7:=(cF (by kernel_rfl)).trans (by kernel_rfl)
theorem an7:LB [a0,a1,a2,a3,a4,a5,a6,a7]=Mq a0 a1 a3 a4 a5 a7:=fs_z.trans (an6 rounds ..)
def IY:Option (List T):=
 (di λa12 aI=>
 Yn a0 λaJ=>
 Yl aI aJ λaL=>
 ax aL (
 Y4 a0 aI λaS aO aR a20=>
 aY (dH [a1,a2,a3,a4,aS,aO,aR,a20]) λa21=>
 jn (dz λbg=>
 Ya aI (ii 1) λaZ=>
 k1 [bg,aZ]) λk2=>
 ax a21 (
 Y4 a0 aI λaZ a24 bh bc=>
 pv (.lit 4 [true,true,true,true]) [aZ,a24,bh,bc] λbm=>
 pv (.app true 4) [a12,bm] λa28=>
 k2 [a28]) (
 k2 [a12])) (
 some [a12])) ts
def IZ:Option (List T):=
 (di λa6 a7=>
 Yn a0 λa8=>
 Yl a7 a8 λa9=>
 ax a9 (
 Y4 a0 a7 λaK a12 aI aJ=>
 aY (dH [aK,a12,aI,aJ,a1,a2,a3,a4]) λaL=>
 jn (dz λaN=>
 Ya a7 (ii 1) λaS=>
 k0 [aN,aS]) λk1=>
 ax aL (
 Y4 a0 a7 λaS aO aR a20=>
 pv (.lit 4 [true,true,true,true]) [aS,aO,aR,a20] λa21=>
 pv (.app true 4) [a6,a21] λbg=>
 k1 [bg]) (
 k1 [a6])) (
 pv (.lit 4 [true,true,true,true]) [a1,a2,a3,a4] λaD=>
 pv (.app true 4) [a6,aD] λaK=>
 iter (IY dH a0 a1 a2 a3 a4) R [aK,ii 0])) ts
def Mr:Option (List T):=
 pv (.lit 4 []) [] λa5=>
 iter (IZ R dH a0 a1 a2 a3 a4) R [a5,ii 0]
theorem an8:(VO).den (pick [(204,dH)]) R [] [a0,a1,a2,a3,a4]=Mr R dH a0 a1 a2 a3 a4:=(cF (by kernel_rfl)).trans (by kernel_rfl)
theorem an9:Cd [a0,a1,a2,a3,a4]=Mr rounds LB a0 a1 a2 a3 a4:=fs_z.trans (an8 rounds ..)
def Ms:Option (List T):=
 fe (az [a0,a1,a2,a3]) λa4 a5 a6 a7=>
 Ye a4 (ii 0) λa8=>
 Yz a8 λa9=>
 some [a9,a5,a6,a7]
theorem an_:(VQ).den (pick [(149,az)]) R [] [a0,a1,a2,a3]=Ms az a0 a1 a2 a3:=(cF (by kernel_rfl)).trans (by kernel_rfl)
theorem an':uD [a0,a1,a2,a3]=Ms n4 a0 a1 a2 a3:=fs_z.trans (an_ rounds ..)
def Mu:Option (List T):=
 Yl a1 a5 λa8=>
 ax a8 (
 Yz (bb true) λa9=>
 some [a9]) (
 Ye a1 a5 λa9=>
 ax a9 (
 Yl a0 a4 λaD=>
 Yz aD λaK=>
 some [aK]) (
 Yz (bb false) λaD=>
 some [aD]))
theorem aoa:(VS).den (pick []) R [] [a0,a1,a2,a3,a4,a5,a6,a7]=Mu a0 a1 a4 a5:=(cF (by kernel_rfl)).trans (by kernel_rfl)
theorem aob:LC [a0,a1,a2,a3,a4,a5,a6,a7]=Mu a0 a1 a4 a5:=fs_z.trans (aoa rounds ..)
def I0:Option (List T):=
 (di λa12 aI=>
 Yn a0 λaJ=>
 Yl aI aJ λaL=>
 ax aL (
 Y4 a0 aI λaS aO aR a20=>
 aY (dk [a1,a2,a3,a4,aS,aO,aR,a20]) λa21=>
 jn (dz λbg=>
 Ya aI (ii 1) λaZ=>
 k1 [bg,aZ]) λk2=>
 ax a21 (
 Y4 a0 aI λaZ a24 bh bc=>
 pv (.lit 4 [true,true,true,true]) [aZ,a24,bh,bc] λbm=>
 pv (.app true 4) [a12,bm] λa28=>
 k2 [a28]) (
 k2 [a12])) (
 some [a12])) ts
def I1:Option (List T):=
 (di λa6 a7=>
 Yn a0 λa8=>
 Yl a7 a8 λa9=>
 ax a9 (
 Y4 a0 a7 λaK a12 aI aJ=>
 aY (dk [aK,a12,aI,aJ,a1,a2,a3,a4]) λaL=>
 jn (dz λaN=>
 Ya a7 (ii 1) λaS=>
 k0 [aN,aS]) λk1=>
 ax aL (
 Y4 a0 a7 λaS aO aR a20=>
 pv (.lit 4 [true,true,true,true]) [aS,aO,aR,a20] λa21=>
 pv (.app true 4) [a6,a21] λbg=>
 k1 [bg]) (
 k1 [a6])) (
 pv (.lit 4 [true,true,true,true]) [a1,a2,a3,a4] λaD=>
 pv (.app true 4) [a6,aD] λaK=>
 iter (I0 dk a0 a1 a2 a3 a4) R [aK,ii 0])) ts
def Mw:Option (List T):=
 pv (.lit 4 []) [] λa5=>
 iter (I1 R dk a0 a1 a2 a3 a4) R [a5,ii 0]
theorem aoc:(VV).den (pick [(205,dk)]) R [] [a0,a1,a2,a3,a4]=Mw R dk a0 a1 a2 a3 a4:=(cF (by kernel_rfl)).trans (by kernel_rfl)
theorem aod:VW [a0,a1,a2,a3,a4]=Mw rounds LC a0 a1 a2 a3 a4:=fs_z.trans (aoc rounds ..)
def wK:Option (List T):=
 (rF λaR a20 a21 bg aZ=>
 fe (az [a20,a21,bg,ii 3]) λa24 bh bc bm=>
 Yl aR a24 λa28=>
 ax a28 (
 fe (az [bh,bc,bm,a7]) λbz bM a31 bS=>
 Ya (ii 1) bz λbV=>
 fe (az [bM,a31,bS,ii 3]) λb9 ch ca a37=>
 Ya (ii 1) b9 λcJ=>
 fe (az [ch,ca,a37,ii 5]) λdm a40 eO fy=>
 Ya (ii 1) dm λfw=>
 fe (a_ [a40,eO,fy,ii 2]) λfN fR a46 gb=>
 aY (fv [aZ,bV,cJ,fw,fN]) λfA=>
 Ya aR (ii 1) λa49=>
 k1 [a49,fR,a46,gb,fA]) (
 Yz a7 λbz=>
 some [bz,a12,aZ,bh,bc,bm])) ts
def wL:Option (List T):=
 (rF λa8 a9 aD aK a12=>
 fe (az [a9,aD,aK,ii 3]) λaI aJ aL aN=>
 Ya a7 aI λaS=>
 Yl a8 aS λaO=>
 ax aO (
 fe (az [aJ,aL,aN,a7]) λaR a20 a21 bg=>
 Ya (ii 1) aR λaZ=>
 fe (az [a20,a21,bg,a7]) λa24 bh bc bm=>
 Ya (ii 1) a24 λa28=>
 Ya a8 (ii 1) λbz=>
 Yl bz a7 λbM=>
 jn (di λa31 bS=>
 Ye a31 bS λbV=>
 jn (dz λb9=>
 Yg a31 b9 λch=>
 jn (di λca a37=>
 fe (az [bh,bc,bm,ii 4]) λcJ dm a40 eO=>
 Ya (ii 1) cJ λfy=>
 pv (.lit 1 [true,true,true,true]) [ii 0,ii 0,ii 1,ii 2] λfw=>
 fe (br [dm,a40,eO,fw]) λfN fR a46 gb=>
 Yn a12 λfA=>
 Yl fA (ii 12) λa49=>
 jn (dz λgj=>
 Ya a8 (ii 1) λa51=>
 k0 [a51,fR,a46,gb,gj]) λk1=>
 ax a49 (
 aY (kO [a12,ca,a37,fy,fN]) λgj=>
 k1 [gj]) (
 k1 [a12])) λk1=>
 ax ch (
 k1 [b9,a31]) (
 k1 [a31,b9])) λk1=>
 ax bV (
 pv (.bin .rem) [a31,a7] λb9=>
 Ya b9 (ii 1) λch=>
 k1 [ch]) (
 k1 [bS])) λk1=>
 ax bM (
 Ya a8 (ii 1) λa31=>
 Ya a8 (ii 2) λbS=>
 k1 [a31,bS]) (
 k1 [aZ,a28])) (
 iter (wK az a_ fv a7 a12) R [ii 0,aJ,aL,aN,.l []])) ts
def Mx:Option (List T):=
 fe (az [a0,a1,a2,ii 4]) λa3 a4 a5 a6=>
 Ya (ii 2) a3 λa7=>
 iter (wL R az a_ br kO fv a7) R [ii 0,a4,a5,a6,.l []]
theorem aoe:(VY).den (pick [(149,az),(151,a_),(212,br),(213,kO),(214,fv)]) R [] [a0,a1,a2]=Mx R az a_ br kO fv a0 a1 a2:=(cF (by kernel_rfl)).trans (by kernel_rfl)
theorem aof:Cf [a0,a1,a2]=Mx rounds n4 uD Cc Cd VW a0 a1 a2:=fs_z.trans (aoe rounds ..)
def Gu:Option (List T):=
 (di λa6 a7=>
 Yn a1 λa8=>
 Yl a7 a8 λa9=>
 ax a9 (
 Y4 a1 a7 λaK a12 aI aJ=>
 Ye aJ a5 λaL=>
 ax aL (
 Ye aK a3 λaN=>
 ax aN (
 Ye a12 a4 λaS=>
 ax aS (
 Yz aI λaO=>
 some [aO]) (
 Ye aK a4 λaO=>
 ax aO (
 Ye a12 a3 λaR=>
 ax aR (
 Yz aI λa20=>
 some [a20]) (
 Ya a7 (ii 1) λa20=>
 k0 [a6,a20])) (
 Ya a7 (ii 1) λaR=>
 k0 [a6,aR]))) (
 Ye aK a4 λaS=>
 ax aS (
 Ye a12 a3 λaO=>
 ax aO (
 Yz aI λaR=>
 some [aR]) (
 Ya a7 (ii 1) λaR=>
 k0 [a6,aR])) (
 Ya a7 (ii 1) λaO=>
 k0 [a6,aO]))) (
 Ya a7 (ii 1) λaN=>
 k0 [a6,aN])) (
 Yz (ii 0) λaD=>
 some [aD])) ts
def My:Option (List T):=
 iter (Gu a1 a3 a4 a5) R [ii 0,ii 0]
theorem aog:(V0).den (pick []) R [] [a0,a1,a2,a3,a4,a5]=My R a1 a3 a4 a5:=(cF (by kernel_rfl)).trans (by kernel_rfl)
theorem aoh:wH [a0,a1,a2,a3,a4,a5]=My rounds a1 a3 a4 a5:=fs_z.trans (aog rounds ..)
def Mz:Option (List T):=
 Yh a0 a1 λa3=>
 ax a3 (
 Ym a0 a2 λa4=>
 Yz a4 λa5=>
 some [a5]) (
 Yz (bb false) λa4=>
 some [a4])
theorem aoi:(V2).den (pick []) R [] [a0,a1,a2]=Mz a0 a1 a2:=(cF (by kernel_rfl)).trans (by kernel_rfl)
theorem aoj:ra [a0,a1,a2]=Mz a0 a1 a2:=fs_z.trans (aoi rounds ..)
def MA:Option (List T):=
 aY (aT [a0,ii 1,ii 6]) λa5=>
 ax a5 (
 aY (aT [a1,ii 1,a0]) λa6=>
 ax a6 (
 aY (aT [a2,ii 1,a0]) λa7=>
 ax a7 (
 Yl a1 a2 λa8=>
 ax a8 (
 aY (aT [a3,ii 1,ii 1000]) λa9=>
 ax a9 (
 aY (aT [a4,ii 0,ii 2]) λaD=>
 Yz aD λaK=>
 some [aK]) (
 Yz (bb false) λaD=>
 some [aD])) (
 Yz (bb false) λa9=>
 some [a9])) (
 Yz (bb false) λa8=>
 some [a8])) (
 Yz (bb false) λa7=>
 some [a7])) (
 Yz (bb false) λa6=>
 some [a6])
theorem aok:(V4).den (pick [(105,aT)]) R [] [a0,a1,a2,a3,a4]=MA aT a0 a1 a2 a3 a4:=(cF (by kernel_rfl)).trans (by kernel_rfl)
theorem aol:Cg [a0,a1,a2,a3,a4]=MA ra a0 a1 a2 a3 a4:=fs_z.trans (aok rounds ..)
def MB:Option (List T):=
 (di λaI aJ=>
 Yn a2 λaL=>
 Yl aJ aL λaN=>
 ax aN (
 Y4 a2 aJ λaO aR a20 a21=>
 aY (aT [aO,ii 1,a0]) λbg=>
 Yt bg λaZ=>
 ax aZ (
 Yz (bb false) λa24=>
 some [a24]) (
 aY (aT [aR,ii 1,ii 9]) λa24=>
 Yt a24 λbh=>
 ax bh (
 Yz (bb false) λbc=>
 some [bc]) (
 aY (aT [a20,ii 1,ii 1000]) λbc=>
 Yt bc λbm=>
 ax bm (
 Yz (bb false) λa28=>
 some [a28]) (
 Yg aJ (ii 0) λa28=>
 ax a28 (
 Ys aJ (ii 1) λbz=>
 Y4 a2 bz λa31 bS bV b9=>
 aY (dk [a31,bS,bV,b9,aO,aR,a20,a21]) λch=>
 Yt ch λca=>
 ax ca (
 Yz (bb false) λa37=>
 some [a37]) (
 Ya aJ (ii 1) λa37=>
 k1 [aI,a37])) (
 Ya aJ (ii 1) λbz=>
 k1 [aI,bz]))))) (
 Yz (bb true) λaS=>
 some [aS])) ts
def MC:Option (List T):=
 (di λa9 aD=>
 Yn a1 λaK=>
 Yl aD aK λa12=>
 ax a12 (
 Y4 a1 aD λaJ aL aN aS=>
 aY (kM [a0,aJ,aL,aN,aS]) λaO=>
 Yt aO λaR=>
 ax aR (
 Yz (bb false) λa20=>
 some [a20]) (
 Yg aD (ii 0) λa20=>
 ax a20 (
 Ys aD (ii 1) λa21=>
 Y4 a1 a21 λaZ a24 bh bc=>
 Y4 a1 aD λa28 bz bM a31=>
 aY (dH [aZ,a24,bh,bc,a28,bz,bM,a31]) λbS=>
 Yt bS λbV=>
 ax bV (
 Yz (bb false) λb9=>
 some [b9]) (
 Ya aD (ii 1) λb9=>
 k0 [a9,b9])) (
 Ya aD (ii 1) λa21=>
 k0 [a9,a21]))) (
 iter (MB aT dk a0 a2) R [a9,ii 0])) ts
def ME:Option (List T):=
 aY (aT [a0,ii 1,ii 6]) λa3=>
 Yt a3 λa4=>
 ax a4 (
 Yz (bb false) λa5=>
 some [a5]) (
 Yn a1 λa5=>
 Yg a5 (ii 12) λa6=>
 ax a6 (
 Yz (bb false) λa7=>
 some [a7]) (
 Yn a2 λa7=>
 Yg a7 (ii 4) λa8=>
 ax a8 (
 Yz (bb false) λa9=>
 some [a9]) (
 iter (MC R kM aT dH dk a0 a1 a2) R [bb false,ii 0])))
theorem aom:(V6).den (pick [(105,aT),(203,kM),(204,dH),(205,dk)]) R [] [a0,a1,a2]=ME R kM aT dH dk a0 a1 a2:=(cF (by kernel_rfl)).trans (by kernel_rfl)
theorem aon:LD [a0,a1,a2]=ME rounds Cg ra LB LC a0 a1 a2:=fs_z.trans (aom rounds ..)
def jj_:Option (List T):=
 (di λa6 a7=>
 Ym a7 (ii 6) λa8=>
 ax a8 (
 aY (bO [a0,a1,a2,a3,a7,a4]) λa9=>
 Yg a9 (ii 0) λaD=>
 jn (dz λaK=>
 Ya a7 (ii 1) λa12=>
 k0 [aK,a12]) λk1=>
 ax aD (
 Yx a7 λaK=>
 Yp a6 aK λa12=>
 k1 [a12]) (
 k1 [a6])) (
 some [a6])) ts
def MF:Option (List T):=
 pv (.lit 1 []) [] λa5=>
 iter (jj_ bO a0 a1 a2 a3 a4) R [a5,ii 1]
theorem aoo:(V9).den (pick [(150,bO)]) R [] [a0,a1,a2,a3,a4]=MF R bO a0 a1 a2 a3 a4:=(cF (by kernel_rfl)).trans (by kernel_rfl)
theorem aop:Ch [a0,a1,a2,a3,a4]=MF rounds wH a0 a1 a2 a3 a4:=fs_z.trans (aoo rounds ..)
def qL_:Option (List T):=
 (di λa5 a6=>
 Ym a6 (ii 2) λa7=>
 ax a7 (
 aY (kN [a0,a1,a2,a3,a6]) λa8=>
 Yn a8 λa9=>
 Yg a9 (ii 0) λaD=>
 jn (dz λaK=>
 Ya a6 (ii 1) λa12=>
 k0 [aK,a12]) λk1=>
 ax aD (
 Yx a6 λaK=>
 Yp a5 aK λa12=>
 k1 [a12]) (
 k1 [a5])) (
 some [a5])) ts
def MG:Option (List T):=
 pv (.lit 1 []) [] λa4=>
 iter (qL_ kN a0 a1 a2 a3) R [a4,ii 0]
theorem aoq:(V').den (pick [(78,kN)]) R [] [a0,a1,a2,a3]=MG R kN a0 a1 a2 a3:=(cF (by kernel_rfl)).trans (by kernel_rfl)
theorem aor:F4 [a0,a1,a2,a3]=MG rounds Ch a0 a1 a2 a3:=fs_z.trans (aoq rounds ..)
def qH_:Option (List T):=
 (di λa7 a8=>
 Yn a1 λa9=>
 Yl a8 a9 λaD=>
 ax aD (
 Y4 a1 a8 λa12 aI aJ aL=>
 Y1 a3 a8 λaS=>
 ax aS (
 Ye aL a6 λaO=>
 ax aO (
 Ye a12 a4 λaR=>
 ax aR (
 Ye aI a5 λa20=>
 ax a20 (
 Yz aJ λa21=>
 some [a21]) (
 Ye a12 a5 λa21=>
 ax a21 (
 Ye aI a4 λbg=>
 ax bg (
 Yz aJ λaZ=>
 some [aZ]) (
 Ya a8 (ii 1) λaZ=>
 k0 [a7,aZ])) (
 Ya a8 (ii 1) λbg=>
 k0 [a7,bg]))) (
 Ye a12 a5 λa20=>
 ax a20 (
 Ye aI a4 λa21=>
 ax a21 (
 Yz aJ λbg=>
 some [bg]) (
 Ya a8 (ii 1) λbg=>
 k0 [a7,bg])) (
 Ya a8 (ii 1) λa21=>
 k0 [a7,a21]))) (
 Ya a8 (ii 1) λaR=>
 k0 [a7,aR])) (
 Ya a8 (ii 1) λaO=>
 k0 [a7,aO])) (
 Yz (ii 0) λaK=>
 some [aK])) ts
def MH:Option (List T):=
 iter (qH_ a1 a3 a4 a5 a6) R [ii 0,ii 0]
theorem aos:(Wb).den (pick []) R [] [a0,a1,a2,a3,a4,a5,a6]=MH R a1 a3 a4 a5 a6:=(cF (by kernel_rfl)).trans (by kernel_rfl)
theorem aot:Wc [a0,a1,a2,a3,a4,a5,a6]=MH rounds a1 a3 a4 a5 a6:=fs_z.trans (aos rounds ..)
def MI:Option (List T):=
 Yu a0 a8 λaN=>
 ax aN (
 Yl a0 a8 λaS=>
 Yz aS λaO=>
 some [aO]) (
 Yu a1 a9 λaS=>
 ax aS (
 Yl a1 a9 λaO=>
 Yz aO λaR=>
 some [aR]) (
 Yu a2 aD λaO=>
 ax aO (
 Yl a2 aD λaR=>
 Yz aR λa20=>
 some [a20]) (
 Yl a3 aK λaR=>
 Yz aR λa20=>
 some [a20])))
theorem aou:(We).den (pick []) R [] [a0,a1,a2,a3,a4,a5,a6,a7,a8,a9,aD,aK,a12,aI,aJ,aL]=MI a0 a1 a2 a3 a8 a9 aD aK:=(cF (by kernel_rfl)).trans (by kernel_rfl)
theorem aov:LG [a0,a1,a2,a3,a4,a5,a6,a7,a8,a9,aD,aK,a12,aI,aJ,aL]=MI a0 a1 a2 a3 a8 a9 aD aK:=fs_z.trans (aou rounds ..)
def QD:Option (List T):=
 (di λaN aS=>
 Yn a0 λaO=>
 Yl aS aO λaR=>
 ax aR (
 Y8 a0 aS λa21 bg aZ a24 bh bc bm a28=>
 aY (eV [a1,a2,a3,a4,a5,a6,a7,a8,a21,bg,aZ,a24,bh,bc,bm,a28]) λbz=>
 jn (dz λbM=>
 Ya aS (ii 1) λa31=>
 k1 [bM,a31]) λk2=>
 ax bz (
 Y8 a0 aS λa31 bS bV b9 ch ca a37 cJ=>
 pv (.lit 8 []) [a31,bS,bV,b9,ch,ca,a37,cJ] λdm=>
 Yy aN dm λa40=>
 k2 [a40]) (
 k2 [aN])) (
 some [aN])) ts
def QE:Option (List T):=
 (di λaD aK=>
 Yn a0 λa12=>
 Yl aK a12 λaI=>
 ax aI (
 Y8 a0 aK λaL aN aS aO aR a20 a21 bg=>
 aY (eV [aL,aN,aS,aO,aR,a20,a21,bg,a1,a2,a3,a4,a5,a6,a7,a8]) λaZ=>
 jn (dz λa24=>
 Ya aK (ii 1) λbh=>
 k0 [a24,bh]) λk1=>
 ax aZ (
 Y8 a0 aK λbh bc bm a28 bz bM a31 bS=>
 pv (.lit 8 []) [bh,bc,bm,a28,bz,bM,a31,bS] λbV=>
 Yy aD bV λb9=>
 k1 [b9]) (
 k1 [aD])) (
 pv (.lit 8 []) [a1,a2,a3,a4,a5,a6,a7,a8] λaJ=>
 Yy aD aJ λaL=>
 iter (QD eV a0 a1 a2 a3 a4 a5 a6 a7 a8) R [aL,ii 0])) ts
def MJ:Option (List T):=
 pv (.lit 8 []) [] λa9=>
 iter (QE R eV a0 a1 a2 a3 a4 a5 a6 a7 a8) R [a9,ii 0]
theorem aow:(Wh).den (pick [(168,eV)]) R [] [a0,a1,a2,a3,a4,a5,a6,a7,a8]=MJ R eV a0 a1 a2 a3 a4 a5 a6 a7 a8:=(cF (by kernel_rfl)).trans (by kernel_rfl)
theorem aox:rH [a0,a1,a2,a3,a4,a5,a6,a7,a8]=MJ rounds LG a0 a1 a2 a3 a4 a5 a6 a7 a8:=fs_z.trans (aow rounds ..)
def MK:Option (List T):=
 aY (cP [a0,a1,a2,a3]) λa4=>
 Yn a4 λa5=>
 Yg a5 (ii 1) λa6=>
 ax a6 (
 Yb a4 (ii 0) λa7=>
 Yc 1 0 a4 (ii 0) λa8=>
 Ye a8 (ii 0) λa9=>
 Yz a9 λaD=>
 some [aD]) (
 Yz (bb false) λa7=>
 some [a7])
theorem aoy:(Wj).den (pick [(20,cP)]) R [] [a0,a1,a2,a3]=MK cP a0 a1 a2 a3:=(cF (by kernel_rfl)).trans (by kernel_rfl)
theorem aoz:LH [a0,a1,a2,a3]=MK F4 a0 a1 a2 a3:=fs_z.trans (aoy rounds ..)
def ki_:Option (List T):=
 (di λa8 a9=>
 Yn a5 λaD=>
 Yl a9 aD λaK=>
 ax aK (
 Y2 a5 a9 λaI aJ=>
 aY (aT [aI,ii 1,ii 6]) λaL=>
 Yt aL λaN=>
 ax aN (
 Yz (bb false) λaS=>
 some [aS]) (
 Ye aI a2 λaS=>
 ax aS (
 Yz (bb false) λaO=>
 some [aO]) (
 aY (aT [aJ,ii 1,ii 1000]) λaO=>
 Yt aO λaR=>
 ax aR (
 Yz (bb false) λa20=>
 some [a20]) (
 Yg a9 (ii 0) λa20=>
 ax a20 (
 Ys a9 (ii 1) λa21=>
 Yb a5 a21 λbg=>
 Yc 2 0 a5 a21 λaZ=>
 Yh aZ aI λa24=>
 ax a24 (
 Yz (bb false) λbh=>
 some [bh]) (
 Ya a9 (ii 1) λbh=>
 k0 [a8,bh])) (
 Ya a9 (ii 1) λa21=>
 k0 [a8,a21]))))) (
 Yz (bb true) λa12=>
 some [a12])) ts
def ML:Option (List T):=
 iter (ki_ aT a2 a5) R [bb false,ii 0]
theorem aoA:(Wn).den (pick [(105,aT)]) R [] [a0,a1,a2,a3,a4,a5,a6,a7]=ML R aT a2 a5:=(cF (by kernel_rfl)).trans (by kernel_rfl)
theorem aoB:Wo [a0,a1,a2,a3,a4,a5,a6,a7]=ML rounds ra a2 a5:=fs_z.trans (aoA rounds ..)
def MM:Option (List T):=
 aY (aT [a2,ii 1,ii 6]) λa8=>
 Yt a8 λa9=>
 ax a9 (
 Yz (bb false) λaD=>
 some [aD]) (
 aY (aT [a4,ii 1,ii 100000]) λaD=>
 Yt aD λaK=>
 ax aK (
 Yz (bb false) λa12=>
 some [a12]) (
 Ye a1 (ii 1) λa12=>
 ax a12 (
 aY (aT [a0,ii 0,ii 2]) λaI=>
 ax aI (
 Ye a3 (ii 0) λaJ=>
 ax aJ (
 aY (lY [a0,a1,a2,a3,a4,a5,a6,a7]) λaL=>
 ax aL (
 Ye a6 (ii 0) λaN=>
 ax aN (
 Yt a7 λaS=>
 Yz aS λaO=>
 some [aO]) (
 Yz (bb false) λaS=>
 some [aS])) (
 Yz (bb false) λaN=>
 some [aN])) (
 Yz (bb false) λaL=>
 some [aL])) (
 Yz (bb false) λaJ=>
 some [aJ])) (
 Ye a1 (ii 2) λaI=>
 ax aI (
 aY (aT [a0,ii 0,ii 2]) λaJ=>
 ax aJ (
 aY (aT [a3,ii 1,ii 6]) λaL=>
 ax aL (
 Yn a5 λaN=>
 Ye aN (ii 0) λaS=>
 ax aS (
 aY (aT [a6,ii 0,ii 60000]) λaO=>
 ax aO (
 Yt a7 λaR=>
 Yz aR λa20=>
 some [a20]) (
 Yz (bb false) λaR=>
 some [aR])) (
 Yz (bb false) λaO=>
 some [aO])) (
 Yz (bb false) λaN=>
 some [aN])) (
 Yz (bb false) λaL=>
 some [aL])) (
 Ye a1 (ii 3) λaJ=>
 ax aJ (
 Ye a0 (ii 9) λaL=>
 ax aL (
 aY (aT [a3,ii 1,ii 9]) λaN=>
 ax aN (
 Yn a5 λaS=>
 Ye aS (ii 0) λaO=>
 ax aO (
 aY (aT [a6,ii 1,ii 1000]) λaR=>
 ax aR (
 Yz (bb true) λa20=>
 some [a20]) (
 Ye a6 (ii 60000) λa20=>
 Yz a20 λa21=>
 some [a21])) (
 Yz (bb false) λaR=>
 some [aR])) (
 Yz (bb false) λaS=>
 some [aS])) (
 Yz (bb false) λaN=>
 some [aN])) (
 Yz (bb false) λaL=>
 some [aL])))))
theorem aoC:(Wq).den (pick [(105,aT),(229,lY)]) R [] [a0,a1,a2,a3,a4,a5,a6,a7]=MM aT lY a0 a1 a2 a3 a4 a5 a6 a7:=(cF (by kernel_rfl)).trans (by kernel_rfl)
theorem aoD:LI [a0,a1,a2,a3,a4,a5,a6,a7]=MM ra Wo a0 a1 a2 a3 a4 a5 a6 a7:=fs_z.trans (aoC rounds ..)
def kF_:Option (List T):=
 (di λa3 a4=>
 Yn a0 λa5=>
 Yl a4 a5 λa6=>
 ax a6 (
 Y8 a0 a4 λa8 a9 aD aK a12 aI aJ aL=>
 aY (fk [a8,a9,aD,aK,a12,aI,aJ,aL]) λaN=>
 Yt aN λaS=>
 ax aS (
 Yz (bb false) λaO=>
 some [aO]) (
 Yg a4 (ii 0) λaO=>
 ax aO (
 Ys a4 (ii 1) λaR=>
 Y8 a0 aR λa21 bg aZ a24 bh bc bm a28=>
 Y8 a0 a4 λbM a31 bS bV b9 ch ca a37=>
 aY (eV [a21,bg,aZ,a24,bh,bc,bm,a28,bM,a31,bS,bV,b9,ch,ca,a37]) λcJ=>
 Yt cJ λdm=>
 ax dm (
 Yz (bb false) λa40=>
 some [a40]) (
 Ya a4 (ii 1) λa40=>
 k0 [a3,a40])) (
 Ya a4 (ii 1) λaR=>
 k0 [a3,aR]))) (
 Yz (bb true) λa7=>
 some [a7])) ts
def MN:Option (List T):=
 Yn a0 λa1=>
 Yg a1 (ii 150) λa2=>
 ax a2 (
 Yz (bb false) λa3=>
 some [a3]) (
 iter (kF_ eV fk a0) R [bb false,ii 0])
theorem aoE:(Wt).den (pick [(168,eV),(195,fk)]) R [] [a0]=MN R eV fk a0:=(cF (by kernel_rfl)).trans (by kernel_rfl)
theorem aoF:y_ [a0]=MN rounds LG LI a0:=fs_z.trans (aoE rounds ..)
def MO:Option (List T):=
 Ye a0 a8 λaN=>
 ax aN (
 Ye a1 a9 λaS=>
 ax aS (
 Ye a2 aD λaO=>
 ax aO (
 Ye a3 aK λaR=>
 Yz aR λa20=>
 some [a20]) (
 Yz (bb false) λaR=>
 some [aR])) (
 Yz (bb false) λaO=>
 some [aO])) (
 Yz (bb false) λaS=>
 some [aS])
theorem aoG:(Ww).den (pick []) R [] [a0,a1,a2,a3,a4,a5,a6,a7,a8,a9,aD,aK,a12,aI,aJ,aL]=MO a0 a1 a2 a3 a8 a9 aD aK:=(cF (by kernel_rfl)).trans (by kernel_rfl)
theorem aoH:LJ [a0,a1,a2,a3,a4,a5,a6,a7,a8,a9,aD,aK,a12,aI,aJ,aL]=MO a0 a1 a2 a3 a8 a9 aD aK:=fs_z.trans (aoG rounds ..)
def Gv:Option (List T):=
 (di λa9 aD=>
 Yn a0 λaK=>
 Yl aD aK λa12=>
 ax a12 (
 Y8 a0 aD λaJ aL aN aS aO aR a20 a21=>
 aY (fL [aJ,aL,aN,aS,aO,aR,a20,a21,a1,a2,a3,a4,a5,a6,a7,a8]) λbg=>
 ax bg (
 Yz aD λaZ=>
 some [aZ]) (
 Ya aD (ii 1) λaZ=>
 k0 [a9,aZ])) (
 Yz (ii (-1)) λaI=>
 some [aI])) ts
def MP:Option (List T):=
 iter (Gv fL a0 a1 a2 a3 a4 a5 a6 a7 a8) R [ii 0,ii 0]
theorem aoI:(Wz).den (pick [(72,fL)]) R [] [a0,a1,a2,a3,a4,a5,a6,a7,a8]=MP R fL a0 a1 a2 a3 a4 a5 a6 a7 a8:=(cF (by kernel_rfl)).trans (by kernel_rfl)
theorem aoJ:xB [a0,a1,a2,a3,a4,a5,a6,a7,a8]=MP rounds LJ a0 a1 a2 a3 a4 a5 a6 a7 a8:=fs_z.trans (aoI rounds ..)
def MQ:Option (List T):=
 aY (cQ [a0,a1,ii 1,a2,ii 0,ii 0,.l [],ii 0,bb false]) λa3=>
 Yl a3 (ii 0) λa4=>
 ax a4 (
 Yz (bb false) λa5=>
 Yz (bb false) λa6=>
 Yz (ii 0) λa7=>
 Yz (ii 0) λa8=>
 Yz (ii 0) λa9=>
 Yz (ii 0) λaD=>
 Yz (ii 0) λaK=>
 Yz (ii 0) λa12=>
 some [a12,aK,aD,a9,a8,.l [],a7,a6,a5]) (
 Y8 a0 a3 λa6 a7 a8 a9 aD aK a12 aI=>
 Yz (bb true) λaJ=>
 Yz aI λaL=>
 Yz a12 λaN=>
 Yz aD λaS=>
 Yz a9 λaO=>
 Yz a8 λaR=>
 Yz a7 λa20=>
 Yz a6 λa21=>
 some [a21,a20,aR,aO,aS,aK,aN,aL,aJ])
theorem aoK:(WD).den (pick [(63,cQ)]) R [] [a0,a1,a2]=MQ cQ a0 a1 a2:=(cF (by kernel_rfl)).trans (by kernel_rfl)
theorem aoL:D_ [a0,a1,a2]=MQ xB a0 a1 a2:=fs_z.trans (aoK rounds ..)
def jG_:Option (List T):=
 (di λaI aJ=>
 Yn a9 λaL=>
 Yl aJ aL λaN=>
 ax aN (
 Yb a9 aJ λaS=>
 Yc 2 0 a9 aJ λaO=>
 Ye aO a3 λaR=>
 ax aR (
 Yb a9 aJ λa20=>
 Yc 2 1 a9 aJ λa21=>
 Yz a21 λbg=>
 some [bg]) (
 Ya aJ (ii 1) λa20=>
 k0 [aI,a20])) (
 Yz (ii 0) λaS=>
 some [aS])) ts
def MR:Option (List T):=
 uA (eb [a0,a1,a2]) λa4 a5 a6 a7 a8 a9 aD aK a12=>
 iter (jG_ a3 a9) R [ii 0,ii 0]
theorem aoM:(WG).den (pick [(233,eb)]) R [] [a0,a1,a2,a3]=MR R eb a0 a1 a2 a3:=(cF (by kernel_rfl)).trans (by kernel_rfl)
theorem aoN:WH [a0,a1,a2,a3]=MR rounds D_ a0 a1 a2 a3:=fs_z.trans (aoM rounds ..)
def ql_:Option (List T):=
 (di λaL aN=>
 Yn aK λaS=>
 Yl aL aS λaO=>
 ax aO (
 Yb aK aL λaR=>
 Yc 2 0 aK aL λa20=>
 aY (aT [a20,ii 1,ii 6]) λa21=>
 ax a21 (
 Yb aK aL λbg=>
 Yc 2 0 aK aL λaZ=>
 aY (gX [a0,a1,aZ,a3]) λa24=>
 Yg a24 (ii 0) λbh=>
 jn (dz λbc=>
 Ya aL (ii 1) λbm=>
 k1 [bm,bc]) λk2=>
 ax bh (
 pv (.bin .mul) [a3,ii 7] λbc=>
 Yb aK aL λbm=>
 Yc 2 0 aK aL λa28=>
 Ya bc a28 λbz=>
 Yb aK aL λbM=>
 Yc 2 1 aK aL λa31=>
 Yb aN bz λbS=>
 pv (.put true 1 0 1) [aN,bz,a31] λbV=>
 k2 [bV]) (
 k2 [aN])) (
 jn (dz λbg=>
 Ya aL (ii 1) λaZ=>
 k1 [aZ,bg]) λk2=>
 k2 [aN])) (
 Ya a3 (ii 1) λaR=>
 k0 [aR,aN])) ts
def uZ_:Option (List T):=
 (di λa3 a4=>
 Ym a3 (ii 6) λa5=>
 ax a5 (
 uA (eb [a0,a1,a3]) λa6 a7 a8 a9 aD aK a12 aI aJ=>
 iter (ql_ aT gX a0 a1 a3 aK k0) R [ii 0,a4]) (
 some [a4])) ts
def MS:Option (List T):=
 pv (.mk) [ii 49,ii 49,ii 0] λa2=>
 iter (uZ_ R aT eb gX a0 a1) R [ii 1,a2]
theorem aoO:(WJ).den (pick [(105,aT),(233,eb),(242,gX)]) R [] [a0,a1]=MS R aT eb gX a0 a1:=(cF (by kernel_rfl)).trans (by kernel_rfl)
theorem aoP:WK [a0,a1]=MS rounds ra D_ WH a0 a1:=fs_z.trans (aoO rounds ..)
def Gw:Option (List T):=
 (di λa2 a3=>
 Yn a0 λa4=>
 Yl a3 a4 λa5=>
 ax a5 (
 Y1 a0 a3 λa7=>
 Ye a7 a1 λa8=>
 ax a8 (
 Yz (bb true) λa9=>
 some [a9]) (
 Ya a3 (ii 1) λa9=>
 k0 [a2,a9])) (
 Yz (bb false) λa6=>
 some [a6])) ts
def MT:Option (List T):=
 iter (Gw a0 a1) R [bb false,ii 0]
theorem aoQ:(WM).den (pick []) R [] [a0,a1]=MT R a0 a1:=(cF (by kernel_rfl)).trans (by kernel_rfl)
theorem aoR:LL [a0,a1]=MT rounds a0 a1:=fs_z.trans (aoQ rounds ..)
def k9_:Option (List T):=
 (di λa3 a4=>
 Ym a4 (ii 6) λa5=>
 ax a5 (
 aY (gG [a0,a4]) λa6=>
 ax a6 (
 jn (dz λa7=>
 Ya a4 (ii 1) λa8=>
 k0 [a7,a8]) λk1=>
 Yx a4 λa7=>
 Yp a3 a7 λa8=>
 k1 [a8]) (
 aY (gG [a1,a4]) λa7=>
 jn (dz λa8=>
 Ya a4 (ii 1) λa9=>
 k0 [a8,a9]) λk1=>
 ax a7 (
 Yx a4 λa8=>
 Yp a3 a8 λa9=>
 k1 [a9]) (
 k1 [a3]))) (
 some [a3])) ts
def MU:Option (List T):=
 pv (.lit 1 []) [] λa2=>
 iter (k9_ gG a0 a1) R [a2,ii 1]
theorem aoS:(WQ).den (pick [(100,gG)]) R [] [a0,a1]=MU R gG a0 a1:=(cF (by kernel_rfl)).trans (by kernel_rfl)
theorem aoT:F5 [a0,a1]=MU rounds LL a0 a1:=fs_z.trans (aoS rounds ..)
def oC:Option (List T):=
 (di λbS bV=>
 Ym bV (ii 6) λb9=>
 ax b9 (
 Yq bz bV λca=>
 jn (dz λa37=>
 Ya bV (ii 1) λcJ=>
 k2 [a37,cJ]) λk3=>
 ax ca (
 Yq bM bV λcJ=>
 pv (.lit 1 []) [] λdm=>
 Y1 a28 bV λeO=>
 Yp dm eO λfy=>
 pv (.lit 3 [true,true,false]) [bV,cJ,fy] λfw=>
 Yo bS fw λfN=>
 k3 [fN]) (
 k3 [bS])) (
 some [bS])) ts
def oD:Option (List T):=
 (sD λcJ dm a40=>
 Ym cJ (ii 6) λeO=>
 ax eO (
 pv (.bin .mul) [bS,ii 7] λfy=>
 Ya fy cJ λfw=>
 Y1 aO fw λfR=>
 Ye fR (ii 0) λa46=>
 ax a46 (
 Ya cJ (ii 1) λgb=>
 k3 [gb,dm,a40]) (
 Yq a37 cJ λfA=>
 ax fA (
 Ya cJ (ii 1) λa49=>
 k3 [a49,dm,a40]) (
 Y1 dm bS λgj=>
 Ye bS a2 λa51=>
 jn (dz λgp=>
 Yq a40 bS λiV=>
 Ya iV fR λh_=>
 Yq a40 cJ λkh=>
 Yl kh (ii 0) λmo=>
 ax mo (
 jn (di λa59 ki=>
 Ya cJ (ii 1) λmH=>
 k3 [mH,a59,ki]) λk4=>
 Yb a40 cJ λa59=>
 pv (.put true 1 0 1) [a40,cJ,h_] λki=>
 pv (.lit 1 []) [] λmH=>
 aY (dR [mH,gp]) λjY=>
 Yb dm cJ λiW=>
 pv (.put false 1 0 1) [dm,cJ,jY] λm_=>
 k4 [m_,ki]) (
 Yq a40 cJ λki=>
 Yl h_ ki λmH=>
 jn (di λjY iW=>
 Ya cJ (ii 1) λm_=>
 k3 [m_,jY,iW]) λk4=>
 ax mH (
 Yb a40 cJ λjY=>
 pv (.put true 1 0 1) [a40,cJ,h_] λiW=>
 pv (.lit 1 []) [] λm_=>
 aY (dR [m_,gp]) λmq=>
 Yb dm cJ λj4=>
 pv (.put false 1 0 1) [dm,cJ,mq] λmr=>
 k4 [mr,iW]) (
 Yq a40 cJ λiW=>
 Ye h_ iW λm_=>
 jn (dz λmq=>
 k4 [mq,a40]) λk5=>
 ax m_ (
 Y1 dm cJ λj4=>
 aY (dR [j4,gp]) λmr=>
 Yb dm cJ λnc=>
 pv (.put false 1 0 1) [dm,cJ,mr] λlC=>
 k5 [lC]) (
 k5 [dm])))) λk4=>
 ax a51 (
 Yx cJ λgp=>
 k4 [gp]) (
 k4 [gj])))) (
 Ya bm (ii 1) λfy=>
 k1 [fy,dm,a37,a40])) ts
def oE:Option (List T):=
 (di λbS bV=>
 Ym bV (ii 6) λb9=>
 ax b9 (
 Yq bz bV λca=>
 Yt ca λa37=>
 ax a37 (
 Yq bM bV λdm=>
 Yh dm (ii 0) λa40=>
 ax a40 (
 Ye bS (ii 0) λeO=>
 ax eO (
 jn (dz λfy=>
 Ya bV (ii 1) λfw=>
 k2 [fy,fw]) λk3=>
 k3 [bV]) (
 Yq bM bV λfw=>
 Yq bM bS λfR=>
 Yl fw fR λa46=>
 jn (dz λgb=>
 Ya bV (ii 1) λfA=>
 k2 [gb,fA]) λk3=>
 ax a46 (
 k3 [bV]) (
 k3 [bS]))) (
 jn (dz λeO=>
 Ya bV (ii 1) λfy=>
 k2 [eO,fy]) λk3=>
 k3 [bS])) (
 jn (dz λcJ=>
 Ya bV (ii 1) λdm=>
 k2 [cJ,dm]) λk3=>
 k3 [bS])) (
 Ye bS (ii 0) λch=>
 ax ch (
 Ya (ii 6) (ii 1) λca=>
 k1 [ca,a28,bz,bM]) (
 Yb bz bS λca=>
 pv (.put true 1 0 1) [bz,bS,bb true] λa37=>
 iter (oD dR a2 aO bm bS a37 k1) R [ii 1,a28,bM]))) ts
def n5:Option (List T):=
 (wG λbm a28 bz bM=>
 Ym bm (ii 6) λa31=>
 ax a31 (
 iter (oE R dR a2 aO bm a28 bz bM k1) R [ii 0,ii 1]) (
 iter (oC a28 bz bM) R [a3,ii 1])) ts
def oF:Option (List T):=
 (di λbg aZ=>
 Ym bg (ii 6) λa24=>
 ax a24 (
 Yb aZ bg λbh=>
 pv (.put true 1 0 1) [aZ,bg,ii (-1)] λbc=>
 Ya bg (ii 1) λbm=>
 k0 [bm,bc]) (
 Yb aZ a2 λbh=>
 pv (.put true 1 0 1) [aZ,a2,ii 0] λbc=>
 iter (n5 R dR a2 a3 aO) R [ii 1,a20,a21,bc])) ts
def MV:Option (List T):=
 pv (.lit 3 []) [] λa3=>
 uA (eb [a0,a1,a2]) λa4 a5 a6 a7 a8 a9 aD aK a12=>
 aY (cg [a0]) λaI=>
 Yt aI λaJ=>
 ax aJ (
 some [a3]) (
 aY (aT [a2,ii 1,ii 6]) λaL=>
 Yt aL λaN=>
 ax aN (
 some [a3]) (
 Yt a12 λaS=>
 ax aS (
 some [a3]) (
 aY (kQ [a0,a1]) λaO=>
 pv (.mk) [ii 7,ii 7,ii 0] λaR=>
 pv (.mk) [ii 7,ii 7,.l []] λa20=>
 pv (.mk) [ii 7,ii 7,bb false] λa21=>
 iter (oF R dR a2 a3 aO a20 a21) R [ii 1,aR])))
theorem aoU:(WU).den (pick [(105,aT),(106,cg),(233,eb),(234,kQ),(235,dR)]) R [] [a0,a1,a2]=MV R cg aT dR kQ eb a0 a1 a2:=(cF (by kernel_rfl)).trans (by kernel_rfl)
theorem aoV:F6 [a0,a1,a2]=MV rounds y_ ra F5 WK D_ a0 a1 a2:=fs_z.trans (aoU rounds ..)
def MW:Option (List T):=
 pv (.lit 1 []) [] λa3=>
 Yp a3 a2 λa4=>
 Yz a1 λa5=>
 Yz a0 λa6=>
 some [a6,a5,a4]
theorem aoW:(WW).den (pick []) R [] [a0,a1,a2]=MW a0 a1 a2:=(cF (by kernel_rfl)).trans (by kernel_rfl)
theorem aoX:LN [a0,a1,a2]=MW a0 a1 a2:=fs_z.trans (aoW rounds ..)
def Gx:Option (List T):=
 (di λa2 a3=>
 Yn a0 λa4=>
 Yl a3 a4 λa5=>
 ax a5 (
 Yb a0 a3 λa6=>
 Yc 3 0 a0 a3 λa7=>
 Ye a7 a1 λa8=>
 ax a8 (
 Y3 a0 a3 λaD aK a12=>
 mQ (fh [aD,aK,a12]) λaI aJ aL=>
 Yz (bb true) λaN=>
 Yz aJ λaS=>
 Yz aI λaO=>
 some [aO,aS,aL,aN]) (
 Ya a3 (ii 1) λa9=>
 k0 [a2,a9])) (
 Yz (bb false) λa6=>
 Yz (ii 0) λa7=>
 Yz (ii 0) λa8=>
 some [a8,a7,.l [],a6])) ts
def MX:Option (List T):=
 iter (Gx fh a0 a1) R [bb false,ii 0]
theorem aoY:(WZ).den (pick [(238,fh)]) R [] [a0,a1]=MX R fh a0 a1:=(cF (by kernel_rfl)).trans (by kernel_rfl)
theorem aoZ:Al [a0,a1]=MX rounds LN a0 a1:=fs_z.trans (aoY rounds ..)
def MY:Option (List T):=
 Yl a1 a4 λa6=>
 Yz a6 λa7=>
 some [a7]
theorem ao0:(W4).den (pick []) R [] [a0,a1,a2,a3,a4,a5]=MY a1 a4:=(cF (by kernel_rfl)).trans (by kernel_rfl)
theorem ao1:Cl [a0,a1,a2,a3,a4,a5]=MY a1 a4:=fs_z.trans (ao0 rounds ..)
def MZ:Option (List T):=
 aY (kK [a0,a1,a2,a3,a4,a5]) λa6=>
 ax a6 (
 mQ (fh [a0,a1,a2]) λa7 a8 a9=>
 Yz a8 λaD=>
 Yz a7 λaK=>
 some [aK,aD,a9]) (
 aY (kK [a3,a4,a5,a0,a1,a2]) λa7=>
 ax a7 (
 mQ (fh [a3,a4,a5]) λa8 a9 aD=>
 Yz a9 λaK=>
 Yz a8 λa12=>
 some [a12,aK,aD]) (
 aY (dR [a2,a5]) λa8=>
 Yz a1 λa9=>
 Yz a0 λaD=>
 some [aD,a9,a8]))
theorem ao2:(W6).den (pick [(235,dR),(238,fh),(243,kK)]) R [] [a0,a1,a2,a3,a4,a5]=MZ kK dR fh a0 a1 a2 a3 a4 a5:=(cF (by kernel_rfl)).trans (by kernel_rfl)
theorem ao3:LO [a0,a1,a2,a3,a4,a5]=MZ Cl F5 LN a0 a1 a2 a3 a4 a5:=fs_z.trans (ao2 rounds ..)
def Ao:Option (List T):=
 (rF λa12 aI aJ aL aN=>
 Yn a1 λaS=>
 Yl aI aS λaO=>
 ax aO (
 Y1 a5 aI λa20=>
 fe (cu [a20,aD]) λa21 bg aZ a24=>
 Yt a24 λbh=>
 ax bh (
 Ya aI (ii 1) λbc=>
 k2 [a12,bc,aJ,aL,aN]) (
 jn (sD λbc bm a28=>
 Ya aI (ii 1) λbz=>
 k2 [bb true,bz,bc,bm,a28]) λk3=>
 ax a12 (
 mQ (dG [aJ,aL,aN,a21,bg,aZ]) λbc bm a28=>
 k3 [bc,bm,a28]) (
 k3 [a21,bg,aZ]))) (
 jn (dz λaR=>
 Ya aD (ii 1) λa20=>
 k1 [aR,a20]) λk3=>
 ax a12 (
 pv (.lit 3 []) [aJ,aL,aN] λaR=>
 Yo a9 aR λa20=>
 k3 [a20]) (
 k3 [a9]))) ts
def Ap:Option (List T):=
 (di λa9 aD=>
 Ym aD (ii 6) λaK=>
 ax aK (
 iter (Ao dG cu a1 a5 a9 aD k1) R [bb false,ii 0,ii 0,ii 0,.l []]) (
 some [a9])) ts
def Aq:Option (List T):=
 (di λa5 a6=>
 Yn a1 λa7=>
 Yl a6 a7 λa8=>
 ax a8 (
 Y1 a1 a6 λaD=>
 aY (dQ [a0,aD,a2]) λaK=>
 pv (.lit 1 []) [aK] λa12=>
 pv (.app false 1) [a5,a12] λaI=>
 Ya a6 (ii 1) λaJ=>
 k0 [aI,aJ]) (
 iter (Ap R dG cu a1 a5) R [a3,ii 1])) ts
def M0:Option (List T):=
 pv (.lit 3 []) [] λa3=>
 pv (.lit 1 []) [] λa4=>
 iter (Aq R dG cu dQ a0 a1 a2 a3) R [a4,ii 0]
theorem ao4:(W9).den (pick [(218,dQ),(221,cu),(236,dG)]) R [] [a0,a1,a2]=M0 R dG cu dQ a0 a1 a2:=(cF (by kernel_rfl)).trans (by kernel_rfl)
theorem ao5:LP [a0,a1,a2]=M0 rounds LO Al F6 a0 a1 a2:=fs_z.trans (ao4 rounds ..)
def Ar:Option (List T):=
 (rF λa9 aD aK a12 aI=>
 Yn a0 λaJ=>
 Yl aD aJ λaL=>
 ax aL (
 Y8 a0 aD λaS aO aR a20 a21 bg aZ a24=>
 Yu aO (ii 2) λbh=>
 ax bh (
 Ya aD (ii 1) λbc=>
 k0 [a9,bc,aK,a12,aI]) (
 Yu aS a2 λbc=>
 ax bc (
 Ya aD (ii 1) λbm=>
 k0 [a9,bm,aK,a12,aI]) (
 Yu a20 a4 λbm=>
 ax bm (
 Ya aD (ii 1) λa28=>
 k0 [a9,a28,aK,a12,aI]) (
 Ye aR a3 λa28=>
 ax a28 (
 Ya aD (ii 1) λbz=>
 k0 [a9,bz,aK,a12,aI]) (
 Yh aZ (ii 60000) λbz=>
 ax bz (
 Ya aD (ii 1) λbM=>
 k0 [a9,bM,aK,a12,aI]) (
 fe (cu [a1,aR]) λbM a31 bS bV=>
 Yt bV λb9=>
 ax b9 (
 Ya aD (ii 1) λch=>
 k0 [a9,ch,aK,a12,aI]) (
 Ya a31 aZ λch=>
 Yh ch (ii 60000) λca=>
 ax ca (
 Ya aD (ii 1) λa37=>
 k0 [a9,a37,aK,a12,aI]) (
 Ya a31 aZ λa37=>
 jn (sD λcJ dm a40=>
 Ya aD (ii 1) λeO=>
 k0 [bb true,eO,cJ,dm,a40]) λk1=>
 ax a9 (
 mQ (dG [aK,a12,aI,a4,a37,bS]) λcJ dm a40=>
 k1 [cJ,dm,a40]) (
 k1 [a4,a37,bS]))))))))) (
 Yz a9 λaN=>
 Yz a12 λaS=>
 Yz aK λaO=>
 some [aO,aS,aI,aN])) ts
def M1:Option (List T):=
 iter (Ar dG cu a0 a1 a2 a3 a4) R [a8,ii 0,a5,a6,a7]
theorem ao6:(Xb).den (pick [(221,cu),(236,dG)]) R [] [a0,a1,a2,a3,a4,a5,a6,a7,a8]=M1 R dG cu a0 a1 a2 a3 a4 a5 a6 a7 a8:=(cF (by kernel_rfl)).trans (by kernel_rfl)
theorem ao7:Xc [a0,a1,a2,a3,a4,a5,a6,a7,a8]=M1 rounds LO Al a0 a1 a2 a3 a4 a5 a6 a7 a8:=fs_z.trans (ao6 rounds ..)
def xF:Option (List T):=
 (rF λa20 a21 bg aZ a24=>
 Yn a1 λbh=>
 Yl a21 bh λbc=>
 ax bc (
 ax a2 (
 Y1 a1 a21 λa28=>
 Yu a28 (ii 0) λbz=>
 ax bz (
 Ya a21 (ii 1) λbM=>
 k2 [a20,bM,bg,aZ,a24]) (
 Y1 a9 a21 λa31=>
 Y1 a1 a21 λbV=>
 fe (eW [a0,a31,bV,a3,aJ,bg,aZ,a24,a20]) λb9 ch ca a37=>
 Ya a21 (ii 1) λcJ=>
 k2 [a37,cJ,b9,ch,ca])) (
 Y1 a9 a21 λa28=>
 Y1 a1 a21 λbM=>
 fe (eW [a0,a28,bM,a3,aJ,bg,aZ,a24,a20]) λa31 bS bV b9=>
 Ya a21 (ii 1) λch=>
 k2 [b9,ch,a31,bS,bV])) (
 jn (dz λbm=>
 Ya aJ (ii 1) λa28=>
 k1 [bm,a28]) λk3=>
 ax a20 (
 pv (.lit 3 []) [bg,aZ,a24] λbm=>
 Yo aI bm λa28=>
 k3 [a28]) (
 k3 [aI]))) ts
def xG:Option (List T):=
 (di λaI aJ=>
 Ym aJ (ii 6) λaL=>
 ax aL (
 fe (cu [a5,aJ]) λaN aS aO aR=>
 ax aR (
 Ya aJ (ii 1) λa20=>
 k1 [aI,a20]) (
 iter (xF eW a0 a1 a2 a3 a9 aI aJ k1) R [bb false,ii 0,ii 0,ii 0,.l []])) (
 some [aI])) ts
def xH:Option (List T):=
 (di λa9 aD=>
 Yn a1 λaK=>
 Yl aD aK λa12=>
 ax a12 (
 Y1 a1 aD λaJ=>
 aY (dQ [a0,aJ,a3]) λaL=>
 pv (.lit 1 []) [aL] λaN=>
 pv (.app false 1) [a9,aN] λaS=>
 Ya aD (ii 1) λaO=>
 k0 [aS,aO]) (
 iter (xG R cu eW a0 a1 a2 a3 a5 a9) R [a4,ii 1])) ts
def M2:Option (List T):=
 pv (.lit 3 []) [] λa4=>
 aY (dC [a0,a1,a3]) λa5=>
 aY (cg [a0]) λa6=>
 Yt a6 λa7=>
 ax a7 (
 some [a4]) (
 pv (.lit 1 []) [] λa8=>
 iter (xH R cu dQ eW a0 a1 a2 a3 a4 a5) R [a8,ii 0])
theorem ao8:(Xe).den (pick [(106,cg),(218,dQ),(219,dC),(221,cu),(237,eW)]) R [] [a0,a1,a2,a3]=M2 R dC cg cu dQ eW a0 a1 a2 a3:=(cF (by kernel_rfl)).trans (by kernel_rfl)
theorem ao9:Xf [a0,a1,a2,a3]=M2 rounds LP y_ Al F6 Xc a0 a1 a2 a3:=fs_z.trans (ao8 rounds ..)
def xI:Option (List T):=
 (di λaL aN=>
 Ym aN (ii 6) λaS=>
 ax aS (
 fe (cu [a12,aN]) λaO aR a20 a21=>
 ax a21 (
 Ya aN (ii 1) λbg=>
 k1 [aL,bg]) (
 Ye aN a2 λbg=>
 ax bg (
 Ya aN (ii 1) λaZ=>
 k1 [aL,aZ]) (
 fe (cu [aI,aN]) λaZ a24 bh bc=>
 Yt bc λbm=>
 ax bm (
 Yu a3 (ii 0) λa28=>
 jn (wG λbz bM a31 bS=>
 jn (dz λbV=>
 Ya aN (ii 1) λb9=>
 k1 [bV,b9]) λk2=>
 ax bS (
 pv (.lit 8 [true,true,true,true,true,false,true,true]) [a3,ii 2,a2,aN,ii 0,.l [],bM,bb false] λbV=>
 Yy aL bV λb9=>
 k2 [b9]) (
 k2 [aL])) λk2=>
 ax a28 (
 fe (cu [aJ,aN]) λbz bM a31 bS=>
 k2 [bz,bM,a31,bS]) (
 k2 [aZ,a24,bh,bc])) (
 jn (wG λa28 bz bM a31=>
 jn (dz λbS=>
 Ya aN (ii 1) λbV=>
 k1 [bS,bV]) λk2=>
 ax a31 (
 pv (.lit 8 [true,true,true,true,true,false,true,true]) [a3,ii 2,a2,aN,ii 0,.l [],bz,bb false] λbS=>
 Yy aL bS λbV=>
 k2 [bV]) (
 k2 [aL])) λk2=>
 k2 [aZ,a24,bh,bc])))) (
 some [aL])) ts
def xJ:Option (List T):=
 (di λa8 a9=>
 Yn a1 λaD=>
 Yl a9 aD λaK=>
 ax aK (
 Y1 a1 a9 λaI=>
 Yu aI a3 λaJ=>
 jn (dz λaL=>
 Ya a9 (ii 1) λaN=>
 k0 [aL,aN]) λk1=>
 ax aJ (
 Y1 a1 a9 λaN=>
 Yx aN λaS=>
 Yp a8 aS λaO=>
 k1 [aO]) (
 k1 [a8])) (
 aY (dQ [a0,a3,a2]) λa12=>
 aY (dC [a0,a8,a2]) λaI=>
 aY (fZ [a0,a1,bb true,a2]) λaJ=>
 iter (xI cu a2 a3 a12 aI aJ) R [a4,ii 1])) ts
def M3:Option (List T):=
 pv (.lit 8 []) [] λa4=>
 aY (cg [a0]) λa5=>
 Yt a5 λa6=>
 ax a6 (
 some [a4]) (
 pv (.lit 1 []) [] λa7=>
 iter (xJ R fZ dC cu dQ a0 a1 a2 a3 a4) R [a7,ii 0])
theorem ao_:(Xh).den (pick [(106,cg),(218,dQ),(219,dC),(220,fZ),(221,cu)]) R [] [a0,a1,a2,a3]=M3 R fZ dC cg cu dQ a0 a1 a2 a3:=(cF (by kernel_rfl)).trans (by kernel_rfl)
theorem ao':LQ [a0,a1,a2,a3]=M3 rounds Xf LP y_ Al F6 a0 a1 a2 a3:=fs_z.trans (ao_ rounds ..)
def qN_:Option (List T):=
 (di λa2 a3=>
 Yn a1 λa4=>
 Yl a3 a4 λa5=>
 ax a5 (
 Y8 a1 a3 λa7 a8 a9 aD aK a12 aI aJ=>
 Ye aK (ii 0) λaL=>
 jn (dz λaN=>
 aY (bf [a2,a7,a8,a9,aD,aN,a12,aI,aJ]) λaS=>
 Ya a3 (ii 1) λaO=>
 k0 [aS,aO]) λk1=>
 ax aL (
 k1 [ii 1]) (
 k1 [aK])) (
 some [a2])) ts
def M4:Option (List T):=
 iter (qN_ bf a1) R [a0,ii 0]
theorem apa:(Xk).den (pick [(62,bf)]) R [] [a0,a1]=M4 R bf a0 a1:=(cF (by kernel_rfl)).trans (by kernel_rfl)
theorem apb:F8 [a0,a1]=M4 rounds rH a0 a1:=fs_z.trans (apa rounds ..)
def QF:Option (List T):=
 (di λa9 aD=>
 Yn a0 λaK=>
 Yl aD aK λa12=>
 ax a12 (
 Yb a0 aD λaI=>
 Yc 8 1 a0 aD λaJ=>
 Yu aJ (ii 2) λaL=>
 ax aL (
 jn (dz λaN=>
 Ya aD (ii 1) λaS=>
 k1 [aN,aS]) λk2=>
 Y8 a0 aD λaS aO aR a20 a21 bg aZ a24=>
 pv (.lit 8 []) [aS,aO,aR,a20,a21,bg,aZ,a24] λbh=>
 Yy a9 bh λbc=>
 k2 [bc]) (
 Yb a0 aD λaN=>
 Yc 8 2 a0 aD λaS=>
 Yu aS a2 λaO=>
 jn (dz λaR=>
 Ya aD (ii 1) λa20=>
 k1 [aR,a20]) λk2=>
 ax aO (
 Y8 a0 aD λa20 a21 bg aZ a24 bh bc bm=>
 pv (.lit 8 []) [a20,a21,bg,aZ,a24,bh,bc,bm] λa28=>
 Yy a9 a28 λbz=>
 k2 [bz]) (
 k2 [a9]))) (
 aY (cH [a9,a4]) λaI=>
 some [aI])) ts
def QG:Option (List T):=
 (di λa4 a5=>
 Yn a1 λa6=>
 Yl a5 a6 λa7=>
 ax a7 (
 Y1 a1 a5 λa9=>
 aY (fj [a0,a1,a2,a9]) λaD=>
 Yy a4 aD λaK=>
 Ya a5 (ii 1) λa12=>
 k0 [aK,a12]) (
 pv (.lit 8 []) [] λa8=>
 iter (QF cH a0 a2 a4) R [a8,ii 0])) ts
def M5:Option (List T):=
 pv (.lit 8 []) [] λa3=>
 iter (QG R fj cH a0 a1 a2) R [a3,ii 0]
theorem apc:(Xm).den (pick [(67,cH),(167,fj)]) R [] [a0,a1,a2]=M5 R fj cH a0 a1 a2:=(cF (by kernel_rfl)).trans (by kernel_rfl)
theorem apd:Xn [a0,a1,a2]=M5 rounds LQ F8 a0 a1 a2:=fs_z.trans (apc rounds ..)
def M6:Option (List T):=
 pv (.lit 2 []) [] λa8=>
 pv (.app true 2) [a8,a5] λa9=>
 Yz a7 λaD=>
 Yz a6 λaK=>
 Yz a4 λa12=>
 Yz a3 λaI=>
 Yz a2 λaJ=>
 Yz a1 λaL=>
 Yz a0 λaN=>
 some [aN,aL,aJ,aI,a12,a9,aK,aD]
theorem ape:(Xp).den (pick []) R [] [a0,a1,a2,a3,a4,a5,a6,a7]=M6 a0 a1 a2 a3 a4 a5 a6 a7:=(cF (by kernel_rfl)).trans (by kernel_rfl)
theorem apf:sJ [a0,a1,a2,a3,a4,a5,a6,a7]=M6 a0 a1 a2 a3 a4 a5 a6 a7:=fs_z.trans (ape rounds ..)
def u1_:Option (List T):=
 (di λa2 a3=>
 Yn a0 λa4=>
 Yl a3 a4 λa5=>
 ax a5 (
 Y8 a0 a3 λa7 a8 a9 aD aK a12 aI aJ=>
 jX (bk [a7,a8,a9,aD,aK,a12,aI,aJ]) λaL aN aS aO aR a20 a21 bg=>
 pv (.lit 8 [true,true,true,true,true,false,true,true]) [aL,aN,aS,aO,aR,a20,a21,bg] λaZ=>
 Yy a2 aZ λa24=>
 Ya a3 (ii 1) λbh=>
 k0 [a24,bh]) (
 some [a2])) ts
def M7:Option (List T):=
 pv (.lit 8 []) [] λa1=>
 iter (u1_ bk a0) R [a1,ii 0]
theorem apg:(Xr).den (pick [(65,bk)]) R [] [a0]=M7 R bk a0:=(cF (by kernel_rfl)).trans (by kernel_rfl)
theorem aph:tv [a0]=M7 rounds sJ a0:=fs_z.trans (apg rounds ..)
def pA:Option (List T):=
 (di λaZ a24=>
 Ym a24 a0 λbh=>
 ax bh (
 Ys a24 (ii 1) λbc=>
 Y1 a4 bc λa28=>
 ax a28 (
 aY (eu [a0,a1,a2,a24]) λbz=>
 jn (dz λbM=>
 Ya a24 (ii 1) λa31=>
 k3 [bM,a31]) λk4=>
 ax bz (
 aY (cP [a0,a1,a2,a24]) λbM=>
 aY (eX [aZ,bM,a24]) λa31=>
 k4 [a31]) (
 k4 [aZ])) (
 jn (dz λbz=>
 Ya a24 (ii 1) λbM=>
 k3 [bz,bM]) λk4=>
 k4 [aZ])) (
 Ya a21 (ii 1) λbc=>
 k2 [aZ,bc])) ts
def pB:Option (List T):=
 (di λa20 a21=>
 Yl a21 (ii 3) λbg=>
 ax bg (
 iter (pA cP eu eX a0 a1 a2 a4 a21 k2) R [a20,ii 1]) (
 aY (aM [a20]) λaZ=>
 Yz (bb true) λa24=>
 some [aZ,a24])) ts
def pC:Option (List T):=
 (di λaN aS=>
 Yn a2 λaO=>
 Yl aS aO λaR=>
 ax aR (
 Y4 a2 aS λa21 bg aZ a24=>
 Ys a21 (ii 1) λbh=>
 Y1 a4 bh λbm=>
 jn (dz λa28=>
 Ya aS (ii 1) λbz=>
 k1 [a28,bz]) λk2=>
 ax bm (
 aY (bf [aN,ii 9,ii 3,a21,bg,ii 1,.l [],aZ,a24]) λa28=>
 k2 [a28]) (
 k2 [aN])) (
 iter (pB R cP eu aM eX a0 a1 a2 a4) R [aN,ii 0])) ts
def pD:Option (List T):=
 (di λbc bm=>
 Ym bc a0 λa28=>
 ax a28 (
 Y1 aN aO λbM=>
 aY (gJ [a0,a1,a2,a3,aJ,bc,bM]) λa31=>
 Yg a31 (ii 0) λbS=>
 ax bS (
 Ys bc (ii 1) λbV=>
 Y1 a4 bV λch=>
 jn (dz λca=>
 Ya bc (ii 1) λa37=>
 k2 [a37,ca]) λk3=>
 ax ch (
 pv (.lit 2 [true,true]) [bc,a31] λca=>
 pv (.app true 2) [bm,ca] λa37=>
 k3 [a37]) (
 k3 [bm])) (
 jn (dz λbV=>
 Ya bc (ii 1) λb9=>
 k2 [b9,bV]) λk3=>
 k3 [bm])) (
 aY (bf [aS,bh,ii 1,aJ,ii 0,ii 1,bm,ii 0,bb false]) λbz=>
 Ya aO (ii 1) λbM=>
 k1 [bz,bM])) ts
def pE:Option (List T):=
 (di λaS aO=>
 Yn aN λaR=>
 Yl aO aR λa20=>
 ax a20 (
 Ys aJ (ii 1) λa21=>
 Y1 a4 a21 λaZ=>
 ax aZ (
 Y1 aN aO λbh=>
 iter (pD bf gJ a0 a1 a2 a3 a4 aJ aN aS aO bh k1) R [ii 1,.l []]) (
 Ya aJ (ii 1) λa24=>
 k0 [aS,a24])) (
 Ya aJ (ii 1) λa21=>
 k0 [aS,a21])) ts
def pF:Option (List T):=
 (di λaI aJ=>
 Ym aJ a0 λaL=>
 ax aL (
 aY (cP [a0,a1,a2,aJ]) λaN=>
 iter (pE R bf gJ a0 a1 a2 a3 a4 aJ aN k0) R [aI,ii 0]) (
 iter (pC R cP eu aM bf eX a0 a1 a2 a4) R [aI,ii 0])) ts
def Gy:Option (List T):=
 pv (.lit 8 []) [] λa5=>
 aY (jv [a0,a1,a2]) λa6=>
 Yt a6 λa7=>
 ax a7 (
 Yz (bb false) λa8=>
 some [a5,a8]) (
 Yn a3 λa8=>
 Yn a1 λa9=>
 Yu a8 a9 λaD=>
 ax aD (
 Yz (bb false) λaK=>
 some [a5,aK]) (
 Yn a4 λaK=>
 Yu aK a0 λa12=>
 ax a12 (
 Yz (bb false) λaI=>
 some [a5,aI]) (
 iter (pF R cP eu aM bf eX gJ a0 a1 a2 a3 a4) R [a5,ii 1])))
theorem api:(Xt).den (pick [(20,cP),(62,bf),(66,aM),(132,jv),(166,eu),(216,gJ),(217,eX)]) R [] [a0,a1,a2,a3,a4]=Gy R cP eu jv aM bf eX gJ a0 a1 a2 a3 a4:=(cF (by kernel_rfl)).trans (by kernel_rfl)
theorem abO:LV [a0,a1,a2,a3,a4]=Gy rounds F4 LH LD tv rH Xn Wc a0 a1 a2 a3 a4:=fs_z.trans (api rounds ..)
def As:Option (List T):=
 (rF λaZ a24 bh bc bm=>
 Ym aZ (ii 6) λa28=>
 ax a28 (
 Yu aZ a12 λbz=>
 ax bz (
 fe (a_ [a24,bh,bc,ii 3]) λbM a31 bS bV=>
 jn (wG λb9 ch ca a37=>
 Ya aZ (ii 1) λcJ=>
 k1 [cJ,b9,ch,ca,a37]) λk2=>
 ax bM (
 fe (az [a31,bS,bV,ii 4]) λb9 ch ca a37=>
 Ya (ii 1) b9 λcJ=>
 pv (.lit 2 [true,true]) [aZ,cJ] λdm=>
 pv (.app true 2) [bm,dm] λa40=>
 k2 [ch,ca,a37,a40]) (
 k2 [a31,bS,bV,bm])) (
 jn (wG λbM a31 bS bV=>
 Ya aZ (ii 1) λb9=>
 k1 [b9,bM,a31,bS,bV]) λk2=>
 k2 [a24,bh,bc,bm])) (
 k0 [a24,bh,bc,aI,ii 0,bm,ii 0,bb false])) ts
def jo_:Option (List T):=
 fe (az [a0,a1,a2,ii 3]) λa3 a4 a5 a6=>
 Ya (ii 1) a3 λa7=>
 fe (az [a4,a5,a6,ii 4]) λa8 a9 aD aK=>
 Ya (ii 1) a8 λa12=>
 fe (az [a9,aD,aK,ii 3]) λaI aJ aL aN=>
 fe (az [aJ,aL,aN,ii 5]) λaS aO aR a20=>
 Ya (ii 1) aS λa21=>
 Ye a7 (ii 1) λbg=>
 jn (Qt λaZ a24 bh bc bm a28 bz bM=>
 Yz bM λa31=>
 Yz bz λbS=>
 Yz a21 λbV=>
 Yz bm λb9=>
 Yz a12 λch=>
 Yz a7 λca=>
 Yz bc λa37=>
 some [a37,ca,ch,b9,bV,a28,bS,a31,aZ,a24,bh]) λk0=>
 ax bg (
 iter (As az a_ a12 aI k0) R [ii 1,aO,aR,a20,.l []]) (
 Ye a7 (ii 2) λaZ=>
 jn (IM λa24 bh bc bm a28 bz bM=>
 k0 [a24,bh,bc,bm,a28,.l [],bz,bM]) λk1=>
 ax aZ (
 fe (az [aO,aR,a20,ii 5]) λa24 bh bc bm=>
 Ya (ii 1) a24 λa28=>
 pv (.lit 1 [true,true,true,true,true]) [ii 0,ii 1,ii 2,ii 5,ii 60000] λbz=>
 fe (br [bh,bc,bm,bz]) λbM a31 bS bV=>
 k1 [a31,bS,bV,aI,a28,bM,bb false]) (
 Ye a7 (ii 3) λa24=>
 jn (IM λbh bc bm a28 bz bM a31=>
 k1 [bh,bc,bm,a28,bz,bM,a31]) λk2=>
 ax a24 (
 fe (az [aO,aR,a20,ii 3]) λbh bc bm a28=>
 Ya (ii 1) bh λbz=>
 pv (.lit 1 [true,true,true,true]) [ii 1,ii 2,ii 5,ii 60000] λbM=>
 fe (br [bc,bm,a28,bM]) λa31 bS bV b9=>
 fe (a_ [bS,bV,b9,ii 2]) λch ca a37 cJ=>
 k2 [ca,a37,cJ,ii 9,bz,a31,ch]) (
 k2 [aO,aR,a20,aI,ii 0,ii 0,bb false])))
theorem apj:(Xv).den (pick [(149,az),(151,a_),(212,br)]) R [] [a0,a1,a2]=jo_ R az a_ br a0 a1 a2:=(cF (by kernel_rfl)).trans (by kernel_rfl)
theorem apk:Am [a0,a1,a2]=jo_ rounds n4 uD Cc a0 a1 a2:=fs_z.trans (apj rounds ..)
def M8:Option (List T):=
 aY (cQ [a0,a1,a2,a3,a4,a5,a6,a7,a8]) λa9=>
 aY (fk [a1,a2,a3,a4,a5,a6,a7,a8]) λaD=>
 Yt aD λaK=>
 ax aK (
 Yz (bb false) λa12=>
 some [a0,a12]) (
 Yh a9 (ii 0) λa12=>
 ax a12 (
 Yb a0 a9 λaI=>
 Yc 8 4 a0 a9 λaJ=>
 Yh aJ a5 λaL=>
 ax aL (
 Yz (bb false) λaN=>
 some [a0,aN]) (
 Yl a9 (ii 0) λaN=>
 ax aN (
 Yn a0 λaS=>
 Yh aS (ii 150) λaO=>
 ax aO (
 Yz (bb false) λaR=>
 some [a0,aR]) (
 aY (bf [a0,a1,a2,a3,a4,a5,a6,a7,a8]) λaR=>
 Yz (bb true) λa20=>
 some [aR,a20])) (
 aY (bf [a0,a1,a2,a3,a4,a5,a6,a7,a8]) λaS=>
 Yz (bb true) λaO=>
 some [aS,aO]))) (
 Yl a9 (ii 0) λaI=>
 ax aI (
 Yn a0 λaJ=>
 Yh aJ (ii 150) λaL=>
 ax aL (
 Yz (bb false) λaN=>
 some [a0,aN]) (
 aY (bf [a0,a1,a2,a3,a4,a5,a6,a7,a8]) λaN=>
 Yz (bb true) λaS=>
 some [aN,aS])) (
 aY (bf [a0,a1,a2,a3,a4,a5,a6,a7,a8]) λaJ=>
 Yz (bb true) λaL=>
 some [aJ,aL])))
theorem apl:(Xx).den (pick [(62,bf),(63,cQ),(195,fk)]) R [] [a0,a1,a2,a3,a4,a5,a6,a7,a8]=M8 fk cQ bf a0 a1 a2 a3 a4 a5 a6 a7 a8:=(cF (by kernel_rfl)).trans (by kernel_rfl)
theorem apm:An [a0,a1,a2,a3,a4,a5,a6,a7,a8]=M8 LI xB rH a0 a1 a2 a3 a4 a5 a6 a7 a8:=fs_z.trans (apl rounds ..)
def jD_:Option (List T):=
 (rF λa4 a5 a6 a7 a8=>
 fe (az [a6,a7,a8,ii 12]) λa9 aD aK a12=>
 Yl a5 a9 λaI=>
 ax aI (
 sE (cr [aD,aK,a12]) λaJ aL aN aS aO aR a20 a21 bg aZ a24=>
 FW (bY [a4,aJ,aL,aN,aS,aO,aR,a20,a21]) λbh bc=>
 Ya a5 (ii 1) λbm=>
 k0 [bh,bm,bg,aZ,a24]) (
 some [a4,aD,aK,a12])) ts
def M9:Option (List T):=
 pv (.lit 8 []) [] λa3=>
 iter (jD_ az cr bY) R [a3,ii 0,a0,a1,a2]
theorem apn:(Xz).den (pick [(149,az),(154,bY),(155,cr)]) R [] [a0,a1,a2]=M9 R az cr bY a0 a1 a2:=(cF (by kernel_rfl)).trans (by kernel_rfl)
theorem apo:Cm [a0,a1,a2]=M9 rounds n4 Am An a0 a1 a2:=fs_z.trans (apn rounds ..)
def tw:Option (List T):=
 (rF λa51 gp a53 iV h_=>
 fe (az [a53,iV,h_,ii 3]) λkf kh mo a59=>
 Yl a51 kf λki=>
 ax ki (
 sE (cr [kh,mo,a59]) λmH jY iW m_ mq j4 mr nc lC a70 nL=>
 FW (bY [gp,mH,jY,iW,m_,mq,j4,mr,nc]) λa72 mu=>
 Ya a51 (ii 1) λl8=>
 k3 [l8,a72,lC,a70,nL]) (
 Yz a3 λmH=>
 Yz a9 λjY=>
 Yz aS λiW=>
 some [iW,jY,mH,a4,a5,bg,gp,kh,mo,a59])) ts
def sP:Option (List T):=
 (rF λb9 ch ca a37 cJ=>
 Yn cJ λdm=>
 Yl b9 dm λa40=>
 ax a40 (
 fe (a_ [ch,ca,a37,ii 8]) λeO fy fw fN=>
 Yt eO λfR=>
 Yb cJ b9 λa46=>
 pv (.put true 1 0 1) [cJ,b9,fR] λgb=>
 Ya b9 (ii 1) λfA=>
 k2 [fA,fy,fw,fN,gb]) (
 FW (ju [a3,a4,a5,a31,cJ]) λeO fy=>
 fe (a_ [ch,ca,a37,ii 3]) λfw fN fR a46=>
 jn (wG λgb fA a49 gj=>
 iter (tw az cr bY a3 a4 a5 a9 aS bg) R [ii 0,gb,fA,a49,gj]) λk3=>
 ax fw (
 fe (cX [fN,fR,a46]) λgb fA a49 gj=>
 k3 [gb,fA,a49,gj]) (
 k3 [eO,fN,fR,a46]))) ts
def tA:Option (List T):=
 (rF λbm a28 bz bM a31=>
 Yn a31 λbS=>
 Yl bm bS λbV=>
 ax bV (
 fe (a_ [a28,bz,bM,ii 6]) λb9 ch ca a37=>
 Yt b9 λcJ=>
 Yb a31 bm λdm=>
 pv (.put true 1 0 1) [a31,bm,cJ] λa40=>
 Ya bm (ii 1) λeO=>
 k1 [eO,ch,ca,a37,a40]) (
 iter (sP R ju az a_ cr bY cX a3 a4 a5 a9 aS bg a31) R [ii 0,a28,bz,bM,bc])) ts
def sQ:Option (List T):=
 (rF λa24 bh bc bm a28=>
 Ym a24 (ii 2) λbz=>
 ax bz (
 aY (bO [a3,a4,a5,aS,aO,a24]) λbM=>
 Yg bM (ii 0) λa31=>
 ax a31 (
 fe (a_ [bh,bc,bm,ii 4]) λbS bV b9 ch=>
 Yt bS λca=>
 jn (dz λa37=>
 Ya a24 (ii 1) λcJ=>
 k1 [cJ,bV,b9,ch,a37]) λk2=>
 ax ca (
 pv (.lit 1 [true,true]) [aO,a24] λa37=>
 Yp a28 a37 λcJ=>
 k2 [cJ]) (
 k2 [a28])) (
 jn (dz λbS=>
 Ya a24 (ii 1) λbV=>
 k1 [bV,bh,bc,bm,bS]) λk2=>
 k2 [a28])) (
 Ya aO (ii 1) λbM=>
 k0 [bM,bh,bc,bm,a28])) ts
def uE:Option (List T):=
 (rF λaO aR a20 a21 bg=>
 Ym aO a3 λaZ=>
 ax aZ (
 iter (sQ bO a_ a3 a4 a5 aS aO k0) R [ii 0,aR,a20,a21,bg]) (
 Yn a4 λa24=>
 pv (.mk) [a24,a24,bb false] λbh=>
 pv (.mk) [a3,a3,bb false] λbc=>
 iter (tA R ju az a_ cr bY cX a3 a4 a5 a9 aS bg bc) R [ii 0,aR,a20,a21,bh])) ts
def M_:Option (List T):=
 Lq (mW [a0,a1,a2]) λa3 a4 a5 a6 a7 a8=>
 fe (az [a6,a7,a8,ii 2]) λa9 aD aK a12=>
 fe (az [aD,aK,a12,a3]) λaI aJ aL aN=>
 Ya (ii 1) aI λaS=>
 iter (uE R bO ju az a_ cr bY cX a3 a4 a5 a9 aS) R [ii 1,aJ,aL,aN,.l []]
theorem apq:(XB).den (pick [(148,mW),(149,az),(150,bO),(151,a_),(152,ju),(153,cX),(154,bY),(155,cr)]) R [] [a0,a1,a2]=M_ R bO ju az a_ mW cr bY cX a0 a1 a2:=(cF (by kernel_rfl)).trans (by kernel_rfl)
theorem apr:XC [a0,a1,a2]=M_ rounds wH LV n4 uD Cf Am An Cm a0 a1 a2:=fs_z.trans (apq rounds ..)
def jK_:Option (List T):=
 (di λa12 aI=>
 Yn a5 λaJ=>
 Yl aI aJ λaL=>
 ax aL (
 Y1 a5 aI λaS=>
 Ya aI (ii 1) λaO=>
 Y1 a5 aO λa20=>
 aY (bO [a2,a3,a4,a0,aS,a20]) λa21=>
 Ye a21 (ii 0) λbg=>
 ax bg (
 Yz (bb false) λaZ=>
 some [aZ]) (
 Yg aI (ii 0) λaZ=>
 ax aZ (
 Ys aI (ii 2) λa24=>
 Y1 a5 a24 λbc=>
 Yg bc aS λbm=>
 ax bm (
 Yz (bb false) λa28=>
 some [a28]) (
 Ys aI (ii 2) λa28=>
 Y1 a5 a28 λbM=>
 Ye bM aS λa31=>
 ax a31 (
 Ys aI (ii 1) λbS=>
 Y1 a5 bS λb9=>
 Yh b9 a20 λch=>
 ax ch (
 Yz (bb false) λca=>
 some [ca]) (
 Ya aI (ii 2) λca=>
 k0 [a12,ca])) (
 Ya aI (ii 2) λbS=>
 k0 [a12,bS]))) (
 Ya aI (ii 2) λa24=>
 k0 [a12,a24]))) (
 Yz (bb true) λaN=>
 some [aN])) ts
def Na:Option (List T):=
 Yn a5 λa7=>
 pv (.bin .rem) [a7,ii 2] λa8=>
 Ye a8 (ii 1) λa9=>
 ax a9 (
 Yz (bb false) λaD=>
 some [aD]) (
 Yn a5 λaD=>
 Yg aD (ii 60) λaK=>
 ax aK (
 Yz (bb false) λa12=>
 some [a12]) (
 iter (jK_ bO a0 a2 a3 a4 a5) R [bb false,ii 0]))
theorem aps:(XE).den (pick [(150,bO)]) R [] [a0,a1,a2,a3,a4,a5,a6]=Na R bO a0 a2 a3 a4 a5:=(cF (by kernel_rfl)).trans (by kernel_rfl)
theorem apt:XF [a0,a1,a2,a3,a4,a5,a6]=Na rounds wH a0 a2 a3 a4 a5:=fs_z.trans (aps rounds ..)
def Nb:Option (List T):=
 aY (jv [a2,a3,a4]) λa7=>
 ax a7 (
 aY (aT [a0,ii 1,a2]) λa8=>
 ax a8 (
 aY (aT [a1,ii 0,ii 90]) λa9=>
 ax a9 (
 aY (kR [a0,a1,a2,a3,a4,a5,a6]) λaD=>
 ax aD (
 aY (cg [a6]) λaK=>
 Yz aK λa12=>
 some [a12]) (
 Yz (bb false) λaK=>
 some [aK])) (
 Yz (bb false) λaD=>
 some [aD])) (
 Yz (bb false) λa9=>
 some [a9])) (
 Yz (bb false) λa8=>
 some [a8])
theorem apu:(XH).den (pick [(105,aT),(106,cg),(132,jv),(164,kR)]) R [] [a0,a1,a2,a3,a4,a5,a6]=Nb jv cg aT kR a0 a1 a2 a3 a4 a5 a6:=(cF (by kernel_rfl)).trans (by kernel_rfl)
theorem apv:za [a0,a1,a2,a3,a4,a5,a6]=Nb LD y_ ra XF a0 a1 a2 a3 a4 a5 a6:=fs_z.trans (apu rounds ..)
def Gz:Option (List T):=
 pv (.lit 4 []) [] λa7=>
 pv (.app true 4) [a7,a3] λa8=>
 pv (.lit 4 []) [] λa9=>
 pv (.app true 4) [a9,a4] λaD=>
 pv (.lit 1 []) [] λaK=>
 Yp aK a5 λa12=>
 aY (aM [a6]) λaI=>
 Yz a2 λaJ=>
 Yz a1 λaL=>
 Yz a0 λaN=>
 some [aN,aL,aJ,a8,aD,a12,aI]
theorem apw:(XJ).den (pick [(66,aM)]) R [] [a0,a1,a2,a3,a4,a5,a6]=Gz aM a0 a1 a2 a3 a4 a5 a6:=(cF (by kernel_rfl)).trans (by kernel_rfl)
theorem abQ:Ea [a0,a1,a2,a3,a4,a5,a6]=Gz tv a0 a1 a2 a3 a4 a5 a6:=fs_z.trans (apw rounds ..)
def qG_:Option (List T):=
 (di λa8 a9=>
 Yn a5 λaD=>
 Yl a8 aD λaK=>
 ax aK (
 Ya a8 (ii 1) λa12=>
 Y1 a5 a12 λaJ=>
 Ye aJ a7 λaL=>
 jn (dz λaN=>
 Ya a8 (ii 2) λaS=>
 k0 [aS,aN]) λk1=>
 ax aL (
 Y1 a5 a8 λaS=>
 Y1 a5 a8 λaR=>
 aY (bO [a2,a3,a4,a0,aR,a7]) λa20=>
 pv (.lit 2 [true,true]) [aS,a20] λa21=>
 pv (.app true 2) [a9,a21] λbg=>
 k1 [bg]) (
 k1 [a9])) (
 Yz (bb false) λa12=>
 Yz (ii 0) λaI=>
 Yz (ii 0) λaJ=>
 Yz (ii 0) λaL=>
 Yz a0 λaN=>
 Yz (ii 1) λaS=>
 Yz a7 λaO=>
 some [aO,aS,aN,aL,aJ,a9,aI,a12])) ts
def Nc:Option (List T):=
 iter (qG_ bO a0 a2 a3 a4 a5 a7) R [ii 0,.l []]
theorem apx:(XL).den (pick [(150,bO)]) R [] [a0,a1,a2,a3,a4,a5,a6,a7]=Nc R bO a0 a2 a3 a4 a5 a7:=(cF (by kernel_rfl)).trans (by kernel_rfl)
theorem apy:XM [a0,a1,a2,a3,a4,a5,a6,a7]=Nc rounds wH a0 a2 a3 a4 a5 a7:=fs_z.trans (apx rounds ..)
def Au:Option (List T):=
 (di λa20 a21=>
 Yn aD λbg=>
 Yl a21 bg λaZ=>
 ax aZ (
 Y1 aD a21 λbh=>
 aY (fj [aR,aD,a0,bh]) λbc=>
 Yy a20 bc λbm=>
 Ya a21 (ii 1) λa28=>
 k2 [bm,a28]) (
 k1 [a20,a12,a12])) ts
def Av:Option (List T):=
 (di λbc bm=>
 Yn bg λa28=>
 Yl bm a28 λbz=>
 ax bz (
 Y8 bg bm λa31 bS bV b9 ch ca a37 cJ=>
 aY (bf [bc,a31,bS,bV,b9,ch,ca,a37,cJ]) λdm=>
 Ya bm (ii 1) λa40=>
 k2 [dm,a40]) (
 aY (aM [bc]) λbM=>
 some [bM])) ts
def ze:Option (List T):=
 (di λbg aZ=>
 Yn a4 λa24=>
 Yl aZ a24 λbh=>
 ax bh (
 Y4 a4 aZ λbm a28 bz bM=>
 Ye bm a0 λa31=>
 jn (dz λbS=>
 Ya aZ (ii 1) λbV=>
 k1 [bS,bV]) λk2=>
 ax a31 (
 pv (.lit 8 [true,true,true,true,true,false,true,true]) [ii 9,ii 3,a0,a28,ii 0,.l [],bz,bM] λbS=>
 Yy bg bS λbV=>
 k2 [bV]) (
 k2 [bg])) (
 iter (Av aM bf bg) R [a7,ii 0])) ts
def Aw:Option (List T):=
 (di λa12 aI=>
 Yn aD λaJ=>
 Yl aI aJ λaL=>
 ax aL (
 Y1 aD aI λaS=>
 jX (jP [a0,a1,a2,a3,a4,a5,a6,aS]) λaO aR a20 a21 bg aZ a24 bh=>
 pv (.lit 8 []) [aO,aR,a20,a21,bg,aZ,a24,bh] λbc=>
 Yy a12 bc λbm=>
 Ya aI (ii 1) λa28=>
 k0 [bm,a28]) (
 pv (.lit 8 []) [] λaN=>
 Yy aN a12 λaS=>
 aY (eu [a2,a3,a4,a0]) λaO=>
 jn (sD λaR a20 a21=>
 iter (ze R aM bf a0 a4 a7) R [aR,ii 0]) λk1=>
 ax aO (
 aY (cH [a6,a12]) λaR=>
 iter (Au fj a0 aD a12 aR k1) R [aS,ii 0]) (
 k1 [aS,a12,a12]))) ts
def Nd:Option (List T):=
 pv (.lit 8 []) [] λa7=>
 aY (cZ [a0,a1,a2,a3,a4,a5,a6]) λa8=>
 Yt a8 λa9=>
 ax a9 (
 some [a7]) (
 aY (cP [a2,a3,a4,a0]) λaD=>
 pv (.lit 8 []) [] λaK=>
 iter (Aw R fj eu aM bf jP cH a0 a1 a2 a3 a4 a5 a6 a7 aD) R [aK,ii 0])
theorem apz:(XO).den (pick [(20,cP),(58,cZ),(62,bf),(66,aM),(67,cH),(165,jP),(166,eu),(167,fj)]) R [] [a0,a1,a2,a3,a4,a5,a6]=Nd R cP fj eu cZ aM bf jP cH a0 a1 a2 a3 a4 a5 a6:=(cF (by kernel_rfl)).trans (by kernel_rfl)
theorem apA:Co [a0,a1,a2,a3,a4,a5,a6]=Nd rounds F4 LQ LH za tv rH XM F8 a0 a1 a2 a3 a4 a5 a6:=fs_z.trans (apz rounds ..)
def GA:Option (List T):=
 aY (cQ [a0,a1,a2,a3,a4,a5,a6,a7,a8]) λa9=>
 Yl a9 (ii 0) λaD=>
 ax aD (
 Yz (bb false) λaK=>
 Yz (bb false) λa12=>
 Yz (ii 0) λaI=>
 Yz (ii 0) λaJ=>
 Yz (ii 0) λaL=>
 Yz (ii 0) λaN=>
 Yz (ii 0) λaS=>
 Yz (ii 0) λaO=>
 some [aO,aS,aN,aL,aJ,.l [],aI,a12,aK]) (
 Y8 a0 a9 λa12 aI aJ aL aN aS aO aR=>
 jX (bk [a12,aI,aJ,aL,aN,aS,aO,aR]) λa20 a21 bg aZ a24 bh bc bm=>
 Yz (bb true) λa28=>
 Yz bm λbz=>
 Yz bc λbM=>
 Yz a24 λa31=>
 Yz aZ λbS=>
 Yz bg λbV=>
 Yz a21 λb9=>
 Yz a20 λch=>
 some [ch,b9,bV,bS,a31,bh,bM,bz,a28])
theorem apB:(XQ).den (pick [(63,cQ),(65,bk)]) R [] [a0,a1,a2,a3,a4,a5,a6,a7,a8]=GA bk cQ a0 a1 a2 a3 a4 a5 a6 a7 a8:=(cF (by kernel_rfl)).trans (by kernel_rfl)
theorem apC:Cp [a0,a1,a2,a3,a4,a5,a6,a7,a8]=GA sJ xB a0 a1 a2 a3 a4 a5 a6 a7 a8:=fs_z.trans (apB rounds ..)
def QH:Option (List T):=
 (di λaZ a24=>
 Yn a5 λbh=>
 Yl a24 bh λbc=>
 ax bc (
 Y2 a5 a24 λa28 bz=>
 Y2 aI a24 λa31 bS=>
 pv (.eqs [1,1]) [a28,bz,a31,bS] λbV=>
 Yt bV λb9=>
 ax b9 (
 Yz (bb false) λch=>
 some [ch]) (
 Ya a24 (ii 1) λch=>
 k0 [aZ,ch])) (
 Yz (bb true) λbm=>
 some [bm])) ts
def Nf:Option (List T):=
 aY (fL [a0,a1,a2,a3,a4,a5,a6,a7,a8,a9,aD,aK,a12,aI,aJ,aL]) λaN=>
 Yt aN λaS=>
 ax aS (
 Yz (bb false) λaO=>
 some [aO]) (
 Yu a6 aJ λaO=>
 ax aO (
 Yz (bb false) λaR=>
 some [aR]) (
 pv (.bb .neq) [a7,aL] λaR=>
 ax aR (
 Yz (bb false) λa20=>
 some [a20]) (
 Yn a5 λa20=>
 Yn aI λa21=>
 Yu a20 a21 λbg=>
 ax bg (
 Yz (bb false) λaZ=>
 some [aZ]) (
 iter (QH a5 aI) R [bb false,ii 0]))))
theorem apD:(XS).den (pick [(72,fL)]) R [] [a0,a1,a2,a3,a4,a5,a6,a7,a8,a9,aD,aK,a12,aI,aJ,aL]=Nf R fL a0 a1 a2 a3 a4 a5 a6 a7 a8 a9 aD aK a12 aI aJ aL:=(cF (by kernel_rfl)).trans (by kernel_rfl)
theorem apE:F9 [a0,a1,a2,a3,a4,a5,a6,a7,a8,a9,aD,aK,a12,aI,aJ,aL]=Nf rounds LJ a0 a1 a2 a3 a4 a5 a6 a7 a8 a9 aD aK a12 aI aJ aL:=fs_z.trans (apD rounds ..)
def GC:Option (List T):=
 pv (.bin .mul) [ii 1000,a1] λa8=>
 Yl a7 a8 λa9=>
 ax a9 (
 pv (.bin .mul) [ii 1000,a1] λaD=>
 Ya aD (ii 1) λaK=>
 Yz aK λa12=>
 some [a12]) (
 Ya a7 (ii 1) λaD=>
 Yz aD λaK=>
 some [aK])
theorem apF:(XW).den (pick []) R [] [a0,a1,a2,a3,a4,a5,a6,a7]=GC a1 a7:=(cF (by kernel_rfl)).trans (by kernel_rfl)
theorem apG:Cq [a0,a1,a2,a3,a4,a5,a6,a7]=GC a1 a7:=fs_z.trans (apF rounds ..)
def GD:Option (List T):=
 Ye a1 (ii 1) λa8=>
 ax a8 (
 pv (.lit 2 []) [] λa9=>
 Yz a7 λaD=>
 Yz a6 λaK=>
 Yz a4 λa12=>
 Yz a3 λaI=>
 Yz a2 λaJ=>
 Yz a1 λaL=>
 Yz a0 λaN=>
 some [aN,aL,aJ,aI,a12,a9,aK,aD]) (
 Yz a7 λa9=>
 Yz (ii 60000) λaD=>
 Yz a4 λaK=>
 Yz a3 λa12=>
 Yz a2 λaI=>
 Yz a1 λaJ=>
 Yz a0 λaL=>
 some [aL,aJ,aI,a12,aK,a5,aD,a9])
theorem apH:(XY).den (pick []) R [] [a0,a1,a2,a3,a4,a5,a6,a7]=GD a0 a1 a2 a3 a4 a5 a6 a7:=(cF (by kernel_rfl)).trans (by kernel_rfl)
theorem apI:XZ [a0,a1,a2,a3,a4,a5,a6,a7]=GD a0 a1 a2 a3 a4 a5 a6 a7:=fs_z.trans (apH rounds ..)
def vo:Option (List T):=
 (di λaR a20=>
 Yn aL λa21=>
 Yl a20 a21 λbg=>
 ax bg (
 Yb aL a20 λaZ=>
 Yc 8 4 aL a20 λa24=>
 Yg a24 (ii 100000) λbh=>
 ax bh (
 Ak (cG [a0,a1,a2,a3,a4,a5,a6]) λbc bm a28 bz bM a31 bS=>
 pv (.lit 8 []) [] λbV=>
 Yz a28 λb9=>
 Yz bm λch=>
 Yz bc λca=>
 some [ca,ch,b9,bz,bM,a31,bS,bV]) (
 Ya a20 (ii 1) λbc=>
 k2 [aR,bc])) (
 Ak (cG [a0,a1,a2,a3,a4,a5,a6]) λaZ a24 bh bc bm a28 bz=>
 aY (cH [a6,aL]) λbM=>
 aY (aM [bM]) λa31=>
 Yn a31 λbS=>
 Yg bS (ii 150) λbV=>
 ax bV (
 Ak (cG [a0,a1,a2,a3,a4,a5,a6]) λb9 ch ca a37 cJ dm a40=>
 pv (.lit 8 []) [] λeO=>
 Yz ca λfy=>
 Yz ch λfw=>
 Yz b9 λfN=>
 some [fN,fw,fy,a37,cJ,dm,a40,eO]) (
 aY (aM [aL]) λb9=>
 Yz bh λch=>
 Yz a24 λca=>
 Yz aZ λa37=>
 some [a37,ca,ch,bc,bm,a28,a31,b9]))) ts
def vp:Option (List T):=
 (di λaL aN=>
 Yn a6 λaS=>
 Yl aN aS λaO=>
 ax aO (
 Y8 a6 aN λa20 a21 bg aZ a24 bh bc bm=>
 Yu bg a0 λa28=>
 ax a28 (
 Ya aN (ii 1) λbz=>
 k1 [aL,bz]) (
 aY (cQ [a9,a20,a21,bg,aZ,a24,bh,bc,bm]) λbz=>
 Yh bz (ii 0) λbM=>
 ax bM (
 Ya aN (ii 1) λa31=>
 k1 [aL,a31]) (
 jX (bk [a20,a21,bg,aZ,a24,bh,bc,bm]) λa31 bS bV b9 ch ca a37 cJ=>
 jX (gH [a31,bS,bV,b9,ch,ca,a37,cJ]) λdm a40 eO fy fw fN fR a46=>
 aY (cW [dm,a40,eO,fy,fw,fN,fR,a46,a20,a21,bg,aZ,a24,bh,bc,bm]) λgb=>
 ax gb (
 Ya aN (ii 1) λfA=>
 k1 [aL,fA]) (
 jX (bk [a20,a21,bg,aZ,a24,bh,bc,bm]) λfA a49 gj a51 gp a53 iV h_=>
 jX (gH [fA,a49,gj,a51,gp,a53,iV,h_]) λkf kh mo a59 ki mH jY iW=>
 aY (gB [a0,a1,a2,a3,a4,a5,a6,a24]) λm_=>
 aY (bf [aL,kf,kh,mo,a59,m_,mH,jY,iW]) λmq=>
 Ya aN (ii 1) λj4=>
 k1 [mq,j4])))) (
 iter (vo aM cG cH a0 a1 a2 a3 a4 a5 a6 aL) R [.l [],ii 0])) ts
def vq:Option (List T):=
 (di λaK a12=>
 Yn a9 λaI=>
 Yl a12 aI λaJ=>
 ax aJ (
 Y8 a9 a12 λaN aS aO aR a20 a21 bg aZ=>
 uA (nK [a6,aN,aS,aO,aR,a20,a21,bg,aZ]) λa24 bh bc bm a28 bz bM a31 bS=>
 ax bS (
 Y8 a9 a12 λb9 ch ca a37 cJ dm a40 eO=>
 aY (cW [a24,bh,bc,bm,a28,bz,bM,a31,b9,ch,ca,a37,cJ,dm,a40,eO]) λfy=>
 ax fy (
 Ya a12 (ii 1) λfw=>
 k0 [aK,fw]) (
 Y8 a9 a12 λfN fR a46 gb fA a49 gj a51=>
 aY (gB [a0,a1,a2,a3,a4,a5,a6,a28]) λgp=>
 aY (bf [aK,fN,fR,a46,gb,gp,a49,gj,a51]) λa53=>
 Ya a12 (ii 1) λiV=>
 k0 [a53,iV])) (
 Y8 a9 a12 λb9 ch ca a37 cJ dm a40 eO=>
 aY (gB [a0,a1,a2,a3,a4,a5,a6,a28]) λfy=>
 aY (bf [aK,b9,ch,ca,a37,fy,dm,a40,eO]) λfw=>
 Ya a12 (ii 1) λfN=>
 k0 [fw,fN])) (
 iter (vp R cW bk aM cQ bf gH cG gB cH a0 a1 a2 a3 a4 a5 a6 a9) R [aK,ii 0])) ts
def GF:Option (List T):=
 aY (cZ [a0,a1,a2,a3,a4,a5,a6]) λa7=>
 Yt a7 λa8=>
 ax a8 (
 Ak (cG [a0,a1,a2,a3,a4,a5,a6]) λa9 aD aK a12 aI aJ aL=>
 pv (.lit 8 []) [] λaN=>
 Yz aK λaS=>
 Yz aD λaO=>
 Yz a9 λaR=>
 some [aR,aO,aS,a12,aI,aJ,aL,aN]) (
 aY (mV [a0,a1,a2,a3,a4,a5,a6]) λa9=>
 pv (.lit 8 []) [] λaD=>
 iter (vq R nK cW bk aM cQ bf gH cG gB cH a0 a1 a2 a3 a4 a5 a6 a9) R [aD,ii 0])
theorem apJ:(X1).den (pick [(15,nK),(19,cW),(58,cZ),(59,cG),(60,mV),(61,gB),(62,bf),(63,cQ),(64,gH),(65,bk),(66,aM),(67,cH)]) R [] [a0,a1,a2,a3,a4,a5,a6]=GF R nK cW cZ mV bk aM cQ bf gH cG gB cH a0 a1 a2 a3 a4 a5 a6:=(cF (by kernel_rfl)).trans (by kernel_rfl)
theorem abS:F_ [a0,a1,a2,a3,a4,a5,a6]=GF rounds Cp F9 za Co sJ tv xB rH XZ Ea Cq F8 a0 a1 a2 a3 a4 a5 a6:=fs_z.trans (apJ rounds ..)
def I2:Option (List T):=
 (di λaD aK=>
 Ym aD (ii 2) λa12=>
 ax a12 (
 aY (bO [a0,a1,a2,a3,a7,aD]) λaI=>
 Yg aI (ii 0) λaJ=>
 jn (dz λaL=>
 Ya aD (ii 1) λaN=>
 k1 [aN,aL]) λk2=>
 ax aJ (
 pv (.lit 4 [true,true,true,true]) [a7,aD,ii 0,bb false] λaL=>
 pv (.app true 4) [aK,aL] λaN=>
 k2 [aN]) (
 k2 [aK])) (
 Ya a7 (ii 1) λaI=>
 k0 [aI,aK])) ts
def I3:Option (List T):=
 (di λa7 a8=>
 Ym a7 a0 λa9=>
 ax a9 (
 iter (I2 bO a0 a1 a2 a3 a7 k0) R [ii 0,a8]) (
 jX (eD [a3,a4,a0,a1,a2,.l [],.l []]) λaD aK a12 aI aJ aL aN aS=>
 Yz (bb true) λaO=>
 Yz a12 λaR=>
 Yz aK λa20=>
 Yz aD λa21=>
 some [a21,a20,aR,aI,aJ,aL,aN,a8,aO])) ts
def GH:Option (List T):=
 aY (cZ [a3,a4,a0,a1,a2,.l [],.l []]) λa5=>
 Yt a5 λa6=>
 ax a6 (
 Yz (bb false) λa7=>
 Yz (ii 0) λa8=>
 Yz (ii 0) λa9=>
 Yz (ii 0) λaD=>
 some [aD,a9,a8,.l [],.l [],.l [],.l [],.l [],a7]) (
 iter (I3 R bO eD a0 a1 a2 a3 a4) R [ii 1,.l []])
theorem apK:(X3).den (pick [(12,eD),(58,cZ),(150,bO)]) R [] [a0,a1,a2,a3,a4]=GH R bO eD cZ a0 a1 a2 a3 a4:=(cF (by kernel_rfl)).trans (by kernel_rfl)
theorem abT:X4 [a0,a1,a2,a3,a4]=GH rounds wH F_ za a0 a1 a2 a3 a4:=fs_z.trans (apK rounds ..)
def jI_:Option (List T):=
 (di λa2 a3=>
 Yn a0 λa4=>
 Yl a3 a4 λa5=>
 ax a5 (
 Yb a0 a3 λa6=>
 Yc 4 3 a0 a3 λa7=>
 jn (dz λa8=>
 Ya a3 (ii 1) λa9=>
 k0 [a8,a9]) λk1=>
 ax a7 (
 Yb a0 a3 λa8=>
 Yc 4 0 a0 a3 λa9=>
 Yb a0 a3 λaD=>
 Yc 4 1 a0 a3 λaK=>
 pv (.lit 1 [true,true]) [a9,aK] λa12=>
 Yp a2 a12 λaI=>
 k1 [aI]) (
 k1 [a2])) (
 some [a2])) ts
def Ng:Option (List T):=
 pv (.lit 1 []) [] λa1=>
 iter (jI_ a0) R [a1,ii 0]
theorem apL:(X6).den (pick []) R [] [a0]=Ng R a0:=(cF (by kernel_rfl)).trans (by kernel_rfl)
theorem apM:Ga [a0]=Ng rounds a0:=fs_z.trans (apL rounds ..)
def QI:Option (List T):=
 (rF λbg aZ a24 bh bc=>
 Yn bc λbm=>
 Yl bg bm λa28=>
 ax a28 (
 fe (az [aZ,a24,bh,ii 4]) λbz bM a31 bS=>
 Yb bc bg λbV=>
 pv (.put true 4 2 1) [bc,bg,bz] λb9=>
 Yb b9 bg λch=>
 pv (.bF 4 2) [b9,bg] λca=>
 Yg ca (ii 0) λa37=>
 ax a37 (
 fe (a_ [bM,a31,bS,ii 4]) λcJ dm a40 eO=>
 Yt cJ λfy=>
 Yb b9 bg λfw=>
 pv (.put true 4 3 1) [b9,bg,fy] λfN=>
 Ya bg (ii 1) λfR=>
 k0 [fR,dm,a40,eO,fN]) (
 Yb b9 bg λcJ=>
 pv (.put true 4 3 1) [b9,bg,bb false] λdm=>
 Ya bg (ii 1) λa40=>
 k0 [a40,bM,a31,bS,dm])) (
 aY (dl [bc]) λbz=>
 fe (a_ [aZ,a24,bh,ii 3]) λbM a31 bS bV=>
 Yt bM λb9=>
 jn (IM λch ca a37 cJ dm a40 eO=>
 Yz a37 λfy=>
 Yz ca λfw=>
 Yz ch λfN=>
 some [fN,fw,fy,cJ,dm,a40,eO,bc,a31,bS,bV]) λk1=>
 ax b9 (
 jX (eD [aI,aJ,aL,aN,aS,bz,a9]) λch ca a37 cJ dm a40 eO fy=>
 k1 [ch,ca,a37,cJ,dm,a40,eO]) (
 k1 [aI,aJ,aL,aN,aS,bz,a9]))) ts
def Nh:Option (List T):=
 FX (lZ [a0,a1,a2]) λa3 a4 a5 a6 a7 a8 a9 aD aK a12=>
 uA (lX [a5,a6,a7,a3,a4]) λaI aJ aL aN aS aO aR a20 a21=>
 iter (QI eD az a_ dl a9 aI aJ aL aN aS) R [ii 0,aD,aK,a12,a20]
theorem apN:(X8).den (pick [(12,eD),(52,lZ),(101,dl),(133,lX),(149,az),(151,a_)]) R [] [a0,a1,a2]=Nh R lX eD az a_ lZ dl a0 a1 a2:=(cF (by kernel_rfl)).trans (by kernel_rfl)
theorem apO:X9 [a0,a1,a2]=Nh rounds X4 F_ n4 uD XC Ga a0 a1 a2:=fs_z.trans (apN rounds ..)
def GI:Option (List T):=
 (di λa3 a4=>
 Yn a0 λa5=>
 Yl a4 a5 λa6=>
 ax a6 (
 Yb a0 a4 λa7=>
 Yc 8 0 a0 a4 λa8=>
 Ye a8 a1 λa9=>
 ax a9 (
 jn (dz λaD=>
 Ya a4 (ii 1) λaK=>
 k0 [aD,aK]) λk1=>
 Y8 a0 a4 λaK a12 aI aJ aL aN aS aO=>
 jX (bk [aK,a12,aI,aJ,aL,aN,aS,aO]) λaR a20 a21 bg aZ a24 bh bc=>
 pv (.lit 8 [true,true,true,true,true,false,true,true]) [aR,a20,a21,bg,aZ,a24,bh,bc] λbm=>
 Yy a3 bm λa28=>
 k1 [a28]) (
 Yb a0 a4 λaD=>
 Yc 8 0 a0 a4 λaK=>
 Ye aK (ii 9) λa12=>
 jn (dz λaI=>
 Ya a4 (ii 1) λaJ=>
 k0 [aI,aJ]) λk1=>
 ax a12 (
 Y8 a0 a4 λaJ aL aN aS aO aR a20 a21=>
 jX (bk [aJ,aL,aN,aS,aO,aR,a20,a21]) λbg aZ a24 bh bc bm a28 bz=>
 pv (.lit 8 [true,true,true,true,true,false,true,true]) [bg,aZ,a24,bh,bc,bm,a28,bz] λbM=>
 Yy a3 bM λa31=>
 k1 [a31]) (
 k1 [a3]))) (
 some [a3])) ts
def Ni:Option (List T):=
 pv (.lit 8 []) [] λa2=>
 iter (GI bk a0 a1) R [a2,ii 0]
theorem apP:(X').den (pick [(65,bk)]) R [] [a0,a1]=Ni R bk a0 a1:=(cF (by kernel_rfl)).trans (by kernel_rfl)
theorem apQ:wI [a0,a1]=Ni rounds sJ a0 a1:=fs_z.trans (apP rounds ..)
def GJ:Option (List T):=
 pv (.lit 2 []) [] λa8=>
 Ye a1 (ii 3) λa9=>
 jn (dz λaD=>
 Yz (bb false) λaK=>
 Yz aD λa12=>
 Yz a4 λaI=>
 Yz a3 λaJ=>
 Yz a2 λaL=>
 Yz a1 λaN=>
 Yz a0 λaS=>
 some [aS,aN,aL,aJ,aI,a8,a12,aK]) λk0=>
 ax a9 (
 k0 [ii 1]) (
 k0 [ii 0])
theorem apR:(Yf).den (pick []) R [] [a0,a1,a2,a3,a4,a5,a6,a7]=GJ a0 a1 a2 a3 a4:=(cF (by kernel_rfl)).trans (by kernel_rfl)
theorem apS:Gb [a0,a1,a2,a3,a4,a5,a6,a7]=GJ a0 a1 a2 a3 a4:=fs_z.trans (apR rounds ..)
def kG_:Option (List T):=
 (di λa3 a4=>
 Yn a4 λa5=>
 Yl a3 a5 λa6=>
 ax a6 (
 Y8 a4 a3 λa8 a9 aD aK a12 aI aJ aL=>
 jX (ed [a8,a9,aD,aK,a12,aI,aJ,aL]) λaN aS aO aR a20 a21 bg aZ=>
 Yb a4 a3 λa24=>
 pv (.put false 8 0 8) [a4,a3,aN,aS,aO,aR,a20,a21,bg,aZ] λbh=>
 Ya a3 (ii 1) λbc=>
 k0 [bc,bh]) (
 some [a4])) ts
def Nj:Option (List T):=
 aY (db [a0,a1]) λa2=>
 iter (kG_ ed) R [ii 0,a2]
theorem apT:(Yk).den (pick [(107,ed),(184,db)]) R [] [a0,a1]=Nj R db ed a0 a1:=(cF (by kernel_rfl)).trans (by kernel_rfl)
theorem apU:Gc [a0,a1]=Nj rounds wI Gb a0 a1:=fs_z.trans (apT rounds ..)
def Nk:Option (List T):=
 (rF λa20 a21 bg aZ a24=>
 Ym a20 (ii 5) λbh=>
 ax bh (
 fe (a_ [a21,bg,aZ,ii 2]) λbc bm a28 bz=>
 jn (dz λbM=>
 Ya a20 (ii 1) λa31=>
 k0 [a31,bm,a28,bz,bM]) λk1=>
 ax bc (
 Yx a20 λbM=>
 Yp a24 bM λa31=>
 k1 [a31]) (
 k1 [a24])) (
 Yz aI λbc=>
 Yz aO λbm=>
 Yz a12 λa28=>
 Yz a7 λbz=>
 some [bz,a28,bm,bc,a24,.l [],a21,bg,aZ])) ts
def ju_:Option (List T):=
 fe (az [a0,a1,a2,ii 3]) λa3 a4 a5 a6=>
 Ya (ii 1) a3 λa7=>
 fe (az [a4,a5,a6,ii 4]) λa8 a9 aD aK=>
 Ya (ii 1) a8 λa12=>
 fe (az [a9,aD,aK,ii 3]) λaI aJ aL aN=>
 pv (.bin .rem) [a12,ii 5] λaS=>
 Ya aS (ii 1) λaO=>
 Ye a7 (ii 1) λaR=>
 ax aR (
 iter (Nk a_ a7 a12 aI aO) R [ii 1,aJ,aL,aN,.l []]) (
 fe (cX [aJ,aL,aN]) λa20 a21 bg aZ=>
 aY (db [a20,aI]) λa24=>
 Ye a7 (ii 2) λbh=>
 jn (dz λbc=>
 Yz aI λbm=>
 Yz aO λa28=>
 Yz a12 λbz=>
 Yz a7 λbM=>
 some [bM,bz,a28,bm,.l [],bc,a21,bg,aZ]) λk0=>
 ax bh (
 aY (eM [a20,aI]) λbc=>
 k0 [bc]) (
 k0 [a24]))
theorem apV:(YA).den (pick [(149,az),(151,a_),(153,cX),(184,db),(185,eM)]) R [] [a0,a1,a2]=ju_ R eM db az a_ cX a0 a1 a2:=(cF (by kernel_rfl)).trans (by kernel_rfl)
theorem apW:L4 [a0,a1,a2]=ju_ rounds Gc wI n4 uD Cm a0 a1 a2:=fs_z.trans (apV rounds ..)
def Nl:Option (List T):=
 pv (.lit 1 []) [] λa6=>
 Yp a6 a4 λa7=>
 aY (aM [a5]) λa8=>
 Yz a3 λa9=>
 Yz a2 λaD=>
 Yz a1 λaK=>
 Yz a0 λa12=>
 some [a12,aK,aD,a9,a7,a8]
theorem apX:(YD).den (pick [(66,aM)]) R [] [a0,a1,a2,a3,a4,a5]=Nl aM a0 a1 a2 a3 a4 a5:=(cF (by kernel_rfl)).trans (by kernel_rfl)
theorem apY:L5 [a0,a1,a2,a3,a4,a5]=Nl tv a0 a1 a2 a3 a4 a5:=fs_z.trans (apX rounds ..)
def C0:Option (List T):=
 sE (cr [a0,a1,a2]) λa3 a4 a5 a6 a7 a8 a9 aD aK a12 aI=>
 fe (az [aK,a12,aI,ii 30]) λaJ aL aN aS=>
 Ye aJ (ii 0) λaO=>
 jn (q8 λaR a20 a21 bg aZ a24 bh bc bm a28 bz=>
 Yz bz λbM=>
 Yz a28 λa31=>
 Yz bc λbS=>
 Yz bh λbV=>
 Yz a24 λb9=>
 Yz aZ λch=>
 Yz bg λca=>
 some [ca,ch,b9,bV,bS,bm,a31,bM,aR,a20,a21]) λk0=>
 ax aO (
 pv (.lit 1 [true,true,true,true]) [ii (-1),ii 3,ii 9,ii 0] λaR=>
 fe (br [aL,aN,aS,aR]) λa20 a21 bg aZ=>
 k0 [a21,bg,aZ,a20,a4,a5,a6,a7,a8,a9,aD]) (
 Ye aJ (ii 1) λaR=>
 jn (FY λa20 a21 bg aZ a24 bh bc bm a28 bz=>
 k0 [a20,a21,bg,a3,aZ,a24,bh,bc,bm,a28,bz]) λk1=>
 ax aR (
 pv (.lit 1 [true,true,true,true,true]) [ii 0,ii 1,ii 2,ii 3,ii 4] λa20=>
 fe (br [aL,aN,aS,a20]) λa21 bg aZ a24=>
 k1 [bg,aZ,a24,a21,a5,a6,a7,a8,a9,aD]) (
 Ye aJ (ii 2) λa20=>
 jn (Qu λa21 bg aZ a24 bh bc bm a28 bz=>
 k1 [a21,bg,aZ,a4,a24,bh,bc,bm,a28,bz]) λk2=>
 ax a20 (
 pv (.lit 1 [true,true,true]) [ii 0,ii 6,ii 7] λa21=>
 fe (br [aL,aN,aS,a21]) λbg aZ a24 bh=>
 k2 [aZ,a24,bh,bg,a6,a7,a8,a9,aD]) (
 Ye aJ (ii 3) λa21=>
 jn (Qt λbg aZ a24 bh bc bm a28 bz=>
 k2 [bg,aZ,a24,a5,bh,bc,bm,a28,bz]) λk3=>
 ax a21 (
 pv (.lit 1 [true,true,true,true,true,true]) [ii (-1),ii 0,ii 6,ii 7,ii 9,ii 10] λbg=>
 fe (br [aL,aN,aS,bg]) λaZ a24 bh bc=>
 k3 [a24,bh,bc,aZ,a7,a8,a9,aD]) (
 Ye aJ (ii 4) λbg=>
 jn (IM λaZ a24 bh bc bm a28 bz=>
 k3 [aZ,a24,bh,a6,bc,bm,a28,bz]) λk4=>
 ax bg (
 pv (.lit 1 [true,true,true,true]) [ii 0,ii (-1),ii 100000,ii 100001] λaZ=>
 fe (br [aL,aN,aS,aZ]) λa24 bh bc bm=>
 k4 [bh,bc,bm,a24,a8,a9,aD]) (
 Ye aJ (ii 5) λaZ=>
 jn (UL λa24 bh bc bm a28 bz=>
 k4 [a24,bh,bc,a7,bm,a28,bz]) λk5=>
 ax aZ (
 fe (az [aL,aN,aS,ii 8]) λa24 bh bc bm=>
 pv (.lit 1 [true,true,true,true]) [ii 0,ii 1,ii 1000,ii 1001] λa28=>
 fe (br [bh,bc,bm,a28]) λbz bM a31 bS=>
 pv (.lit 2 [true,true]) [a24,bz] λbV=>
 pv (.app true 2) [a8,bV] λb9=>
 k5 [bM,a31,bS,b9,a9,aD]) (
 Ye aJ (ii 6) λa24=>
 jn (rF λbh bc bm a28 bz=>
 k5 [bh,bc,bm,a8,a28,bz]) λk6=>
 ax a24 (
 pv (.lit 1 [true,true,true,true,true,true]) [ii (-1),ii 0,ii 1000,ii 1001,ii 60000,ii 60001] λbh=>
 fe (br [aL,aN,aS,bh]) λbc bm a28 bz=>
 k6 [bm,a28,bz,bc,aD]) (
 Ye aJ (ii 7) λbh=>
 jn (dz λbc=>
 k6 [aL,aN,aS,a9,bc]) λk7=>
 ax bh (
 Yt aD λbc=>
 k7 [bc]) (
 k7 [aD]))))))))
theorem apZ:(YG).den (pick [(149,az),(155,cr),(212,br)]) R [] [a0,a1,a2]=C0 az br cr a0 a1 a2:=(cF (by kernel_rfl)).trans (by kernel_rfl)
theorem ap0:Cs [a0,a1,a2]=C0 n4 Cc Am a0 a1 a2:=fs_z.trans (apZ rounds ..)
def I4:Option (List T):=
 uA (fx [a0,a1,a2]) λa3 a4 a5 a6 a7 a8 a9 aD aK=>
 Lq (gI [a3,a4,a5,a6,a7,a8]) λa12 aI aJ aL aN aS=>
 fe (az [a9,aD,aK,ii 24]) λaO aR a20 a21=>
 Ye aO (ii 0) λbg=>
 jn (Qt λaZ a24 bh bc bm a28 bz bM=>
 Yz a28 λa31=>
 Yz aJ λbS=>
 Yz bm λbV=>
 Yz bc λb9=>
 some [b9,bV,bS,a31,bz,bM,aZ,a24,bh]) λk0=>
 ax bg (
 pv (.lit 1 [true,true,true,true,true]) [ii 0,ii 1,ii 2,ii 3,ii 4] λaZ=>
 fe (br [aR,a20,a21,aZ]) λa24 bh bc bm=>
 k0 [bh,bc,bm,a24,aI,aL,aN,aS]) (
 Ye aO (ii 1) λaZ=>
 jn (IM λa24 bh bc bm a28 bz bM=>
 k0 [a24,bh,bc,a12,bm,a28,bz,bM]) λk1=>
 ax aZ (
 pv (.lit 1 [true,true,true,true]) [ii 0,ii 6,ii 7,aJ] λa24=>
 fe (br [aR,a20,a21,a24]) λbh bc bm a28=>
 k1 [bc,bm,a28,bh,aL,aN,aS]) (
 Ye aO (ii 2) λa24=>
 jn (UL λbh bc bm a28 bz bM=>
 k1 [bh,bc,bm,aI,a28,bz,bM]) λk2=>
 ax a24 (
 pv (.lit 1 [true,true,true,true]) [ii (-1),ii 0,ii 2,ii 3] λbh=>
 fe (br [aR,a20,a21,bh]) λbc bm a28 bz=>
 k2 [bm,a28,bz,bc,aN,aS]) (
 Ye aO (ii 3) λbh=>
 jn (rF λbc bm a28 bz bM=>
 k2 [bc,bm,a28,aL,bz,bM]) λk3=>
 ax bh (
 fe (az [aR,a20,a21,ii 8]) λbc bm a28 bz=>
 Yx bc λbM=>
 Yp aN bM λa31=>
 k3 [bm,a28,bz,a31,aS]) (
 Ye aO (ii 4) λbc=>
 jn (wG λbm a28 bz bM=>
 k3 [bm,a28,bz,aN,bM]) λk4=>
 ax bc (
 sE (mX [aR,a20,a21]) λbm a28 bz bM a31 bS bV b9 ch ca a37=>
 pv (.lit 8 []) [bm,a28,bz,bM,a31,bS,bV,b9] λcJ=>
 Yy aS cJ λdm=>
 k4 [ch,ca,a37,dm]) (
 k4 [aR,a20,a21,aS])))))
theorem ap1:(YI).den (pick [(149,az),(181,gI),(182,fx),(212,br),(226,mX)]) R [] [a0,a1,a2]=I4 az br mX gI fx a0 a1 a2:=(cF (by kernel_rfl)).trans (by kernel_rfl)
theorem ap2:Cu [a0,a1,a2]=I4 n4 Cc Cs L5 L4 a0 a1 a2:=fs_z.trans (ap1 rounds ..)
def zf:Option (List T):=
 (rF λa51 gp a53 iV h_=>
 Yn h_ λkf=>
 Yl a51 kf λkh=>
 ax kh (
 Yb h_ a51 λmo=>
 pv (.bF 8 4) [h_,a51] λa59=>
 fe (az [gp,a53,iV,ii 3]) λki mH jY iW=>
 Ya a59 ki λm_=>
 Yb h_ a51 λmq=>
 pv (.put true 8 4 1) [h_,a51,m_] λj4=>
 fe (a_ [mH,jY,iW,ii 3]) λmr nc lC a70=>
 ax mr (
 Yb j4 a51 λnL=>
 pv (.bF 8 1) [j4,a51] λa72=>
 Ye a72 (ii 2) λmu=>
 jn (wG λl8 a75 a76 o7=>
 Ya a51 (ii 1) λqN=>
 k1 [qN,l8,a75,a76,o7]) λk2=>
 ax mu (
 fe (az [nc,lC,a70,ii 6]) λl8 a75 a76 o7=>
 Yb j4 a51 λqN=>
 pv (.put true 8 6 1) [j4,a51,l8] λqO=>
 k2 [a75,a76,o7,qO]) (
 k2 [nc,lC,a70,j4])) (
 jn (wG λnL a72 mu l8=>
 Ya a51 (ii 1) λa75=>
 k1 [a75,nL,a72,mu,l8]) λk2=>
 k2 [nc,lC,a70,j4])) (
 k0 [gp,a53,iV,h_])) ts
def I5:Option (List T):=
 uA (fx [a0,a1,a2]) λaK a12 aI aJ aL aN aS aO aR=>
 Lq (gI [aK,a12,aI,aJ,aL,aN]) λa20 a21 bg aZ a24 bh=>
 Yn aD λbc=>
 Ye bc (ii 0) λbm=>
 ax bm (
 uA (kU [aS,aO,aR]) λa28 bz bM a31 bS bV b9 ch ca=>
 Yz a31 λa37=>
 Yz bM λcJ=>
 Yz bz λdm=>
 Yz a28 λa40=>
 some [a40,dm,cJ,a37,bS,bV,b9,ch,ca]) (
 fe (a_ [aS,aO,aR,ii 12]) λa28 bz bM a31=>
 ax a28 (
 uA (kU [bz,bM,a31]) λbS bV b9 ch ca a37 cJ dm a40=>
 Yz ch λeO=>
 Yz b9 λfy=>
 Yz bV λfw=>
 Yz bS λfN=>
 some [fN,fw,fy,eO,ca,a37,cJ,dm,a40]) (
 Yn aD λbS=>
 fe (az [bz,bM,a31,bS]) λbV b9 ch ca=>
 Y4 aD bV λcJ dm a40 eO=>
 fe (cX [b9,ch,ca]) λfy fw fN fR=>
 fe (a_ [fw,fN,fR,ii 2]) λa46 gb fA a49=>
 jn (wG λgj a51 gp a53=>
 Ye a20 (ii 3) λiV=>
 jn (dz λh_=>
 Yz dm λkf=>
 Yz a3 λkh=>
 Yz cJ λmo=>
 Yz a20 λa59=>
 some [a59,mo,kh,kf,a24,h_,gj,a51,gp]) λk0=>
 ax iV (
 aY (db [a53,dm]) λh_=>
 k0 [h_]) (
 Ye a20 (ii 2) λh_=>
 jn (dz λkf=>
 k0 [kf]) λk1=>
 ax h_ (
 aY (eM [a53,dm]) λkf=>
 k1 [kf]) (
 k1 [bh]))) λk0=>
 ax a46 (
 aY (aM [a9]) λgj=>
 iter (zf az a_ k0) R [ii 0,gb,fA,a49,gj]) (
 k0 [gb,fA,a49,fy])))
theorem ap3:(YK).den (pick [(66,aM),(149,az),(151,a_),(153,cX),(181,gI),(182,fx),(183,kU),(184,db),(185,eM)]) R [] [a0,a1,a2,a3,a4,a5,a6,a7,a8,a9,aD]=I5 R eM db az a_ aM cX kU gI fx a0 a1 a2 a3 a9 aD:=(cF (by kernel_rfl)).trans (by kernel_rfl)
theorem ap4:YL [a0,a1,a2,a3,a4,a5,a6,a7,a8,a9,aD]=I5 rounds Gc wI n4 uD tv Cm Cu L5 L4 a0 a1 a2 a3 a9 aD:=fs_z.trans (ap3 rounds ..)
def vo_:Option (List T):=
 (di λa3 a4=>
 Yn a0 λa5=>
 Yl a4 a5 λa6=>
 ax a6 (
 Yl a4 (ii 4000) λa7=>
 ax a7 (
 pv (.bin .mul) [a3,ii 131] λa8=>
 Y1 a0 a4 λaD=>
 pv (.Qc .i64) [aD] λaK=>
 Ya a8 aK λa12=>
 Ya a12 (ii 7) λaI=>
 pv (.bin .and) [aI,ii 1073741823] λaJ=>
 Ya a4 (ii 1) λaL=>
 k0 [aJ,aL]) (
 sE (gY [a0,ii 0,a3]) λa8 a9 aD aK a12 aI aJ aL aN aS aO=>
 uA (iJ [aN,aS,aO,a8,a9,aD,aK,a12,aI,aJ,aL]) λaR a20 a21 bg aZ a24 bh bc bm=>
 Yz bg λa28=>
 Yz a21 λbz=>
 Yz a20 λbM=>
 Yz aR λa31=>
 Yz aD λbS=>
 Yz a9 λbV=>
 Yz a8 λb9=>
 some [b9,bV,bS,aK,a12,aI,aJ,aL,a31,bM,bz,a28,aZ,a24])) (
 sE (gY [a0,ii 0,a3]) λa7 a8 a9 aD aK a12 aI aJ aL aN aS=>
 uA (iJ [aL,aN,aS,a7,a8,a9,aD,aK,a12,aI,aJ]) λaO aR a20 a21 bg aZ a24 bh bc=>
 Yz a21 λbm=>
 Yz a20 λa28=>
 Yz aR λbz=>
 Yz aO λbM=>
 Yz a9 λa31=>
 Yz a8 λbS=>
 Yz a7 λbV=>
 some [bV,bS,a31,aD,aK,a12,aI,aJ,bM,bz,a28,bm,bg,aZ])) ts
def kH_:Option (List T):=
 Yn a0 λa1=>
 Ya (ii 13901) a1 λa2=>
 iter (vo_ gY iJ a0) R [a2,ii 0]
theorem ap6:(YN).den (pick [(79,gY),(80,iJ)]) R [] [a0]=kH_ R gY iJ a0:=(cF (by kernel_rfl)).trans (by kernel_rfl)
theorem ap7:YO [a0]=kH_ rounds X9 YL a0:=fs_z.trans (ap6 rounds ..)
def Nn:Option (List T):=
 Yh a0 a1 λa3=>
 ax a3 (
 Ym a0 a2 λa4=>
 Yz a4 λa5=>
 some [a5]) (
 Yz (bb false) λa4=>
 some [a4])
theorem ap8:(YQ).den (pick []) R [] [a0,a1,a2]=Nn a0 a1 a2:=(cF (by kernel_rfl)).trans (by kernel_rfl)
theorem ap9:rb [a0,a1,a2]=Nn a0 a1 a2:=fs_z.trans (ap8 rounds ..)
def Np:Option (List T):=
 aY (bU [a0,ii 1,ii 6]) λa5=>
 ax a5 (
 aY (bU [a1,ii 1,a0]) λa6=>
 ax a6 (
 aY (bU [a2,ii 1,a0]) λa7=>
 ax a7 (
 Yl a1 a2 λa8=>
 ax a8 (
 aY (bU [a3,ii 1,ii 1000]) λa9=>
 ax a9 (
 aY (bU [a4,ii 0,ii 2]) λaD=>
 Yz aD λaK=>
 some [aK]) (
 Yz (bb false) λaD=>
 some [aD])) (
 Yz (bb false) λa9=>
 some [a9])) (
 Yz (bb false) λa8=>
 some [a8])) (
 Yz (bb false) λa7=>
 some [a7])) (
 Yz (bb false) λa6=>
 some [a6])
theorem ap_:(YS).den (pick [(69,bU)]) R [] [a0,a1,a2,a3,a4]=Np bU a0 a1 a2 a3 a4:=(cF (by kernel_rfl)).trans (by kernel_rfl)
theorem ap':Cv [a0,a1,a2,a3,a4]=Np rb a0 a1 a2 a3 a4:=fs_z.trans (ap_ rounds ..)
def Nq:Option (List T):=
 Yu a0 a4 λa8=>
 ax a8 (
 Yl a0 a4 λa9=>
 Yz a9 λaD=>
 some [aD]) (
 Yu a1 a5 λa9=>
 ax a9 (
 Yl a1 a5 λaD=>
 Yz aD λaK=>
 some [aK]) (
 Yl a3 a7 λaD=>
 Yz aD λaK=>
 some [aK]))
theorem aqa:(YU).den (pick []) R [] [a0,a1,a2,a3,a4,a5,a6,a7]=Nq a0 a1 a3 a4 a5 a7:=(cF (by kernel_rfl)).trans (by kernel_rfl)
theorem aqb:Cw [a0,a1,a2,a3,a4,a5,a6,a7]=Nq a0 a1 a3 a4 a5 a7:=fs_z.trans (aqa rounds ..)
def Nr:Option (List T):=
 Yl a1 a5 λa8=>
 ax a8 (
 Yz (bb true) λa9=>
 some [a9]) (
 Ye a1 a5 λa9=>
 ax a9 (
 Yl a0 a4 λaD=>
 Yz aD λaK=>
 some [aK]) (
 Yz (bb false) λaD=>
 some [aD]))
theorem aqc:(YW).den (pick []) R [] [a0,a1,a2,a3,a4,a5,a6,a7]=Nr a0 a1 a4 a5:=(cF (by kernel_rfl)).trans (by kernel_rfl)
theorem aqd:Cy [a0,a1,a2,a3,a4,a5,a6,a7]=Nr a0 a1 a4 a5:=fs_z.trans (aqc rounds ..)
def Ns:Option (List T):=
 (di λaJ aL=>
 Yl aL aI λaN=>
 ax aN (
 Y4 a2 aL λaO aR a20 a21=>
 aY (bU [aR,ii 1,ii 9]) λbg=>
 Yt bg λaZ=>
 ax aZ (
 Yz (bb false) λa24=>
 some [a24]) (
 aY (bU [aO,ii 1,a0]) λa24=>
 Yt a24 λbh=>
 ax bh (
 Yz (bb false) λbc=>
 some [bc]) (
 aY (bU [a20,ii 1,ii 1000]) λbc=>
 Yt bc λbm=>
 ax bm (
 Yz (bb false) λa28=>
 some [a28]) (
 Yg aL (ii 0) λa28=>
 ax a28 (
 Ys aL (ii 1) λbz=>
 Y4 a2 bz λa31 bS bV b9=>
 aY (lW [a31,bS,bV,b9,aO,aR,a20,a21]) λch=>
 Yt ch λca=>
 ax ca (
 Yz (bb false) λa37=>
 some [a37]) (
 Ya aL (ii 1) λa37=>
 k1 [aJ,a37])) (
 Ya aL (ii 1) λbz=>
 k1 [aJ,bz]))))) (
 Yz (bb true) λaS=>
 some [aS])) ts
def Nt:Option (List T):=
 (di λaD aK=>
 Yl aK a9 λa12=>
 ax a12 (
 Y4 a1 aK λaJ aL aN aS=>
 aY (kF [a0,aJ,aL,aN,aS]) λaO=>
 Yt aO λaR=>
 ax aR (
 Yz (bb false) λa20=>
 some [a20]) (
 Yg aK (ii 0) λa20=>
 ax a20 (
 Ys aK (ii 1) λa21=>
 Y4 a1 a21 λaZ a24 bh bc=>
 aY (mh [aZ,a24,bh,bc,aJ,aL,aN,aS]) λbm=>
 Yt bm λa28=>
 ax a28 (
 Yz (bb false) λbz=>
 some [bz]) (
 Ya aK (ii 1) λbz=>
 k0 [aD,bz])) (
 Ya aK (ii 1) λa21=>
 k0 [aD,a21]))) (
 Yn a2 λaI=>
 iter (Ns bU lW a0 a2 aI) R [aD,ii 0])) ts
def Nu:Option (List T):=
 aY (bU [a0,ii 1,ii 6]) λa3=>
 Yt a3 λa4=>
 ax a4 (
 Yz (bb false) λa5=>
 some [a5]) (
 Yn a1 λa5=>
 Yg a5 (ii 12) λa6=>
 ax a6 (
 Yz (bb false) λa7=>
 some [a7]) (
 Yn a2 λa7=>
 Yg a7 (ii 4) λa8=>
 ax a8 (
 Yz (bb false) λa9=>
 some [a9]) (
 Yn a1 λa9=>
 iter (Nt R kF mh bU lW a0 a1 a2 a9) R [bb false,ii 0])))
theorem aqe:(YY).den (pick [(69,bU),(169,kF),(170,mh),(171,lW)]) R [] [a0,a1,a2]=Nu R kF mh bU lW a0 a1 a2:=(cF (by kernel_rfl)).trans (by kernel_rfl)
theorem aqf:Cz [a0,a1,a2]=Nu rounds Cv Cw rb Cy a0 a1 a2:=fs_z.trans (aqe rounds ..)
def GK:Option (List T):=
 (di λa7 a8=>
 Yl a8 a6 λa9=>
 ax a9 (
 Y4 a1 a8 λaK a12 aI aJ=>
 Ye aJ a5 λaL=>
 ax aL (
 Ye aK a3 λaN=>
 ax aN (
 Ye a12 a4 λaS=>
 ax aS (
 Yz a8 λaO=>
 some [aO]) (
 Ye aK a4 λaO=>
 ax aO (
 Ye a12 a3 λaR=>
 ax aR (
 Yz a8 λa20=>
 some [a20]) (
 Ya a8 (ii 1) λa20=>
 k0 [a7,a20])) (
 Ya a8 (ii 1) λaR=>
 k0 [a7,aR]))) (
 Ye aK a4 λaS=>
 ax aS (
 Ye a12 a3 λaO=>
 ax aO (
 Yz a8 λaR=>
 some [aR]) (
 Ya a8 (ii 1) λaR=>
 k0 [a7,aR])) (
 Ya a8 (ii 1) λaO=>
 k0 [a7,aO]))) (
 Ya a8 (ii 1) λaN=>
 k0 [a7,aN])) (
 Yz (ii (-1)) λaD=>
 some [aD])) ts
def Nv:Option (List T):=
 Yn a1 λa6=>
 iter (GK a1 a3 a4 a5 a6) R [ii 0,ii 0]
theorem aqg:(Y0).den (pick []) R [] [a0,a1,a2,a3,a4,a5]=Nv R a1 a3 a4 a5:=(cF (by kernel_rfl)).trans (by kernel_rfl)
theorem aqh:Gd [a0,a1,a2,a3,a4,a5]=Nv rounds a1 a3 a4 a5:=fs_z.trans (aqg rounds ..)
def kk_:Option (List T):=
 (di λaD aK=>
 Yn a5 λa12=>
 Yl aK a12 λaI=>
 ax aI (
 Y1 a5 aK λaL=>
 Ya aK (ii 1) λaN=>
 Y1 a5 aN λaO=>
 aY (dP [a2,a3,a4,a0,aL,aO]) λaR=>
 Yl aR (ii 0) λa20=>
 ax a20 (
 Yz (bb false) λa21=>
 some [a21]) (
 Yg aK (ii 0) λa21=>
 ax a21 (
 Ys aK (ii 2) λbg=>
 Y1 a5 bg λa24=>
 Yg a24 aL λbh=>
 ax bh (
 Yz (bb false) λbc=>
 some [bc]) (
 Ys aK (ii 2) λbc=>
 Y1 a5 bc λa28=>
 Ye a28 aL λbz=>
 ax bz (
 Ys aK (ii 1) λbM=>
 Y1 a5 bM λbS=>
 Yh bS aO λbV=>
 ax bV (
 Yz (bb false) λb9=>
 some [b9]) (
 Ya aK (ii 2) λb9=>
 k0 [aD,b9])) (
 Ya aK (ii 2) λbM=>
 k0 [aD,bM]))) (
 Ya aK (ii 2) λbg=>
 k0 [aD,bg]))) (
 Yz (bb true) λaJ=>
 some [aJ])) ts
def Nw:Option (List T):=
 Yn a5 λa7=>
 pv (.bin .rem) [a7,ii 2] λa8=>
 Yu a8 (ii 0) λa9=>
 ax a9 (
 Yz (bb false) λaD=>
 some [aD]) (
 iter (kk_ dP a0 a2 a3 a4 a5) R [bb false,ii 0])
theorem aqi:(Y7).den (pick [(172,dP)]) R [] [a0,a1,a2,a3,a4,a5,a6]=Nw R dP a0 a2 a3 a4 a5:=(cF (by kernel_rfl)).trans (by kernel_rfl)
theorem aqj:Y9 [a0,a1,a2,a3,a4,a5,a6]=Nw rounds Gd a0 a2 a3 a4 a5:=fs_z.trans (aqi rounds ..)
def GL:Option (List T):=
 (di λa9 aD=>
 Yl aD a8 λaK=>
 ax aK (
 Y2 a5 aD λaI aJ=>
 aY (bU [aI,ii 1,ii 6]) λaL=>
 Yt aL λaN=>
 ax aN (
 Yz (bb false) λaS=>
 some [aS]) (
 Ye aI a2 λaS=>
 ax aS (
 Yz (bb false) λaO=>
 some [aO]) (
 aY (bU [aJ,ii 1,ii 1000]) λaO=>
 Yt aO λaR=>
 ax aR (
 Yz (bb false) λa20=>
 some [a20]) (
 Yg aD (ii 0) λa20=>
 ax a20 (
 Ys aD (ii 1) λa21=>
 Yb a5 a21 λbg=>
 Yc 2 0 a5 a21 λaZ=>
 Yh aZ aI λa24=>
 ax a24 (
 Yz (bb false) λbh=>
 some [bh]) (
 Ya aD (ii 1) λbh=>
 k0 [a9,bh])) (
 Ya aD (ii 1) λa21=>
 k0 [a9,a21]))))) (
 Yz (bb true) λa12=>
 some [a12])) ts
def Nx:Option (List T):=
 Yn a5 λa8=>
 iter (GL bU a2 a5 a8) R [bb false,ii 0]
theorem aqk:(Y').den (pick [(69,bU)]) R [] [a0,a1,a2,a3,a4,a5,a6,a7]=Nx R bU a2 a5:=(cF (by kernel_rfl)).trans (by kernel_rfl)
theorem aql:CA [a0,a1,a2,a3,a4,a5,a6,a7]=Nx rounds rb a2 a5:=fs_z.trans (aqk rounds ..)
def Ny:Option (List T):=
 aY (bU [a2,ii 1,ii 6]) λa8=>
 Yt a8 λa9=>
 ax a9 (
 Yz (bb false) λaD=>
 some [aD]) (
 aY (bU [a4,ii 1,ii 100000]) λaD=>
 Yt aD λaK=>
 ax aK (
 Yz (bb false) λa12=>
 some [a12]) (
 Ye a1 (ii 1) λa12=>
 ax a12 (
 aY (bU [a0,ii 0,ii 2]) λaI=>
 ax aI (
 Ye a3 (ii 0) λaJ=>
 ax aJ (
 aY (mT [a0,a1,a2,a3,a4,a5,a6,a7]) λaL=>
 ax aL (
 Ye a6 (ii 0) λaN=>
 ax aN (
 Yt a7 λaS=>
 Yz aS λaO=>
 some [aO]) (
 Yz (bb false) λaS=>
 some [aS])) (
 Yz (bb false) λaN=>
 some [aN])) (
 Yz (bb false) λaL=>
 some [aL])) (
 Yz (bb false) λaJ=>
 some [aJ])) (
 Ye a1 (ii 2) λaI=>
 ax aI (
 aY (bU [a0,ii 0,ii 2]) λaJ=>
 ax aJ (
 aY (bU [a3,ii 1,ii 6]) λaL=>
 ax aL (
 Yn a5 λaN=>
 Ye aN (ii 0) λaS=>
 ax aS (
 aY (bU [a6,ii 0,ii 60000]) λaO=>
 ax aO (
 Yt a7 λaR=>
 Yz aR λa20=>
 some [a20]) (
 Yz (bb false) λaR=>
 some [aR])) (
 Yz (bb false) λaO=>
 some [aO])) (
 Yz (bb false) λaN=>
 some [aN])) (
 Yz (bb false) λaL=>
 some [aL])) (
 Ye a1 (ii 3) λaJ=>
 ax aJ (
 Ye a0 (ii 9) λaL=>
 ax aL (
 aY (bU [a3,ii 1,ii 9]) λaN=>
 ax aN (
 Yn a5 λaS=>
 Ye aS (ii 0) λaO=>
 ax aO (
 aY (bU [a6,ii 1,ii 1000]) λaR=>
 ax aR (
 Yz (bb true) λa20=>
 some [a20]) (
 Ye a6 (ii 60000) λa20=>
 Yz a20 λa21=>
 some [a21])) (
 Yz (bb false) λaR=>
 some [aR])) (
 Yz (bb false) λaS=>
 some [aS])) (
 Yz (bb false) λaN=>
 some [aN])) (
 Yz (bb false) λaL=>
 some [aL])))))
theorem aqm:(Zc).den (pick [(69,bU),(222,mT)]) R [] [a0,a1,a2,a3,a4,a5,a6,a7]=Ny bU mT a0 a1 a2 a3 a4 a5 a6 a7:=(cF (by kernel_rfl)).trans (by kernel_rfl)
theorem aqn:L7 [a0,a1,a2,a3,a4,a5,a6,a7]=Ny rb CA a0 a1 a2 a3 a4 a5 a6 a7:=fs_z.trans (aqm rounds ..)
def Nz:Option (List T):=
 Yu a0 a8 λaN=>
 ax aN (
 Yl a0 a8 λaS=>
 Yz aS λaO=>
 some [aO]) (
 Yu a1 a9 λaS=>
 ax aS (
 Yl a1 a9 λaO=>
 Yz aO λaR=>
 some [aR]) (
 Yu a2 aD λaO=>
 ax aO (
 Yl a2 aD λaR=>
 Yz aR λa20=>
 some [a20]) (
 Yl a3 aK λaR=>
 Yz aR λa20=>
 some [a20])))
theorem aqo:(Zf).den (pick []) R [] [a0,a1,a2,a3,a4,a5,a6,a7,a8,a9,aD,aK,a12,aI,aJ,aL]=Nz a0 a1 a2 a3 a8 a9 aD aK:=(cF (by kernel_rfl)).trans (by kernel_rfl)
theorem aqp:L8 [a0,a1,a2,a3,a4,a5,a6,a7,a8,a9,aD,aK,a12,aI,aJ,aL]=Nz a0 a1 a2 a3 a8 a9 aD aK:=fs_z.trans (aqo rounds ..)
def kn_:Option (List T):=
 (di λa2 a3=>
 Yl a3 a1 λa4=>
 ax a4 (
 Y8 a0 a3 λa6 a7 a8 a9 aD aK a12 aI=>
 aY (fi [a6,a7,a8,a9,aD,aK,a12,aI]) λaJ=>
 Yt aJ λaL=>
 ax aL (
 Yz (bb false) λaN=>
 some [aN]) (
 Yg a3 (ii 0) λaN=>
 ax aN (
 Ys a3 (ii 1) λaS=>
 Y8 a0 aS λaR a20 a21 bg aZ a24 bh bc=>
 aY (fJ [aR,a20,a21,bg,aZ,a24,bh,bc,a6,a7,a8,a9,aD,aK,a12,aI]) λbm=>
 Yt bm λa28=>
 ax a28 (
 Yz (bb false) λbz=>
 some [bz]) (
 Ya a3 (ii 1) λbz=>
 k0 [a2,bz])) (
 Ya a3 (ii 1) λaS=>
 k0 [a2,aS]))) (
 Yn a0 λa5=>
 Ym a5 (ii 150) λa6=>
 Yz a6 λa7=>
 some [a7])) ts
def NA:Option (List T):=
 Yn a0 λa1=>
 iter (kn_ fJ fi a0 a1) R [bb false,ii 0]
theorem aqq:(Zi).den (pick [(162,fJ),(173,fi)]) R [] [a0]=NA R fJ fi a0:=(cF (by kernel_rfl)).trans (by kernel_rfl)
theorem aqr:CB [a0]=NA rounds L8 L7 a0:=fs_z.trans (aqq rounds ..)
def NB:Option (List T):=
 aY (ov [a2,a3,a4]) λa7=>
 ax a7 (
 aY (bU [a0,ii 1,a2]) λa8=>
 ax a8 (
 aY (bU [a1,ii 0,ii 90]) λa9=>
 ax a9 (
 aY (lT [a0,a1,a2,a3,a4,a5,a6]) λaD=>
 ax aD (
 aY (da [a6]) λaK=>
 Yz aK λa12=>
 some [a12]) (
 Yz (bb false) λaK=>
 some [aK])) (
 Yz (bb false) λaD=>
 some [aD])) (
 Yz (bb false) λa9=>
 some [a9])) (
 Yz (bb false) λa8=>
 some [a8])
theorem aqs:(Zk).den (pick [(68,ov),(69,bU),(70,lT),(71,da)]) R [] [a0,a1,a2,a3,a4,a5,a6]=NB ov da lT bU a0 a1 a2 a3 a4 a5 a6:=(cF (by kernel_rfl)).trans (by kernel_rfl)
theorem aqt:CC [a0,a1,a2,a3,a4,a5,a6]=NB Cz CB Y9 rb a0 a1 a2 a3 a4 a5 a6:=fs_z.trans (aqs rounds ..)
def jp_:Option (List T):=
 (di λa7 a8=>
 Ym a8 (ii 2) λa9=>
 ax a9 (
 aY (dP [a0,a1,a2,a3,a5,a8]) λaD=>
 Yh aD (ii 0) λaK=>
 jn (dz λa12=>
 Ya a8 (ii 1) λaI=>
 k1 [a12,aI]) λk2=>
 ax aK (
 pv (.lit 4 [true,true,true,true]) [a5,a8,ii 0,bb false] λa12=>
 pv (.app true 4) [a7,a12] λaI=>
 k2 [aI]) (
 k2 [a7])) (
 Ya a5 (ii 1) λaD=>
 k0 [a7,aD])) ts
def js_:Option (List T):=
 (di λa4 a5=>
 Ym a5 a0 λa6=>
 ax a6 (
 iter (jp_ dP a0 a1 a2 a3 a5 k0) R [a4,ii 0]) (
 some [a4])) ts
def NC:Option (List T):=
 iter (js_ R dP a0 a1 a2 a3) R [.l [],ii 1]
theorem aqu:(Zm).den (pick [(172,dP)]) R [] [a0,a1,a2,a3]=NC R dP a0 a1 a2 a3:=(cF (by kernel_rfl)).trans (by kernel_rfl)
theorem aqv:CD [a0,a1,a2,a3]=NC rounds Gd a0 a1 a2 a3:=fs_z.trans (aqu rounds ..)
def kE_:Option (List T):=
 (di λa2 a3=>
 Yl a3 a1 λa4=>
 ax a4 (
 Y4 a0 a3 λa6 a7 a8 a9=>
 jn (dz λaD=>
 Ya a3 (ii 1) λaK=>
 k0 [aD,aK]) λk1=>
 ax a9 (
 pv (.lit 1 [true,true]) [a6,a7] λaD=>
 Yp a2 aD λaK=>
 k1 [aK]) (
 k1 [a2])) (
 some [a2])) ts
def ND:Option (List T):=
 Yn a0 λa1=>
 iter (kE_ a0 a1) R [.l [],ii 0]
theorem aqw:(Zo).den (pick []) R [] [a0]=ND R a0:=(cF (by kernel_rfl)).trans (by kernel_rfl)
theorem aqx:Gg [a0]=ND rounds a0:=fs_z.trans (aqw rounds ..)
def jL_:Option (List T):=
 (di λa6 a7=>
 Yl a7 a5 λa8=>
 ax a8 (
 Y1 a0 a7 λaD=>
 Y1 a1 a7 λa12=>
 Yu aD a12 λaI=>
 ax aI (
 Yz (bb false) λaJ=>
 some [aJ]) (
 Ya a7 (ii 1) λaJ=>
 k0 [a6,aJ])) (
 Yz (bb true) λa9=>
 some [a9])) ts
def NE:Option (List T):=
 Yn a0 λa2=>
 Yn a1 λa3=>
 Yu a2 a3 λa4=>
 ax a4 (
 Yz (bb false) λa5=>
 some [a5]) (
 Yn a0 λa5=>
 iter (jL_ a0 a1 a5) R [bb false,ii 0])
theorem aqy:(Zq).den (pick []) R [] [a0,a1]=NE R a0 a1:=(cF (by kernel_rfl)).trans (by kernel_rfl)
theorem aqz:Zr [a0,a1]=NE rounds a0 a1:=fs_z.trans (aqy rounds ..)
def jn_:Option (List T):=
 (di λaL aN=>
 Yl aN aJ λaS=>
 ax aS (
 Y4 a7 aN λaR a20 a21 bg=>
 Yb aD aN λaZ=>
 pv (.bF 4 0) [aD,aN] λa24=>
 Yu aR a24 λbh=>
 ax bh (
 Yz (bb false) λbc=>
 some [bc]) (
 Yb aD aN λbc=>
 pv (.bF 4 1) [aD,aN] λbm=>
 Yu a20 bm λa28=>
 ax a28 (
 Yz (bb false) λbz=>
 some [bz]) (
 aY (bU [a21,ii 0,ii 3]) λbz=>
 Yt bz λbM=>
 ax bM (
 Yz (bb false) λa31=>
 some [a31]) (
 ax bg (
 Ye a21 (ii 0) λa31=>
 ax a31 (
 Yz (bb false) λbS=>
 some [bS]) (
 Ya aN (ii 1) λbS=>
 k0 [aL,bS])) (
 Ya aN (ii 1) λa31=>
 k0 [aL,a31]))))) (
 aY (dK [a7]) λaO=>
 aY (jk [aO,a5]) λaR=>
 Yz aR λa20=>
 some [a20])) ts
def NF:Option (List T):=
 aY (dO [a0,a1,a2,a3,a4,a5,a6]) λa8=>
 Yt a8 λa9=>
 ax a9 (
 Yz (bb false) λaD=>
 some [aD]) (
 aY (mS [a2,a3,a4,a0]) λaD=>
 Yn aD λaK=>
 Yn a7 λa12=>
 Yu aK a12 λaI=>
 ax aI (
 Yz (bb false) λaJ=>
 some [aJ]) (
 Yn a7 λaJ=>
 iter (jn_ dK bU jk a5 a7 aD aJ) R [bb false,ii 0]))
theorem aqA:(Zt).den (pick [(13,dO),(69,bU),(82,dK),(87,mS),(88,jk)]) R [] [a0,a1,a2,a3,a4,a5,a6,a7]=NF R dO mS dK bU jk a0 a1 a2 a3 a4 a5 a6 a7:=(cF (by kernel_rfl)).trans (by kernel_rfl)
theorem aqB:Eb [a0,a1,a2,a3,a4,a5,a6,a7]=NF rounds CC CD Gg rb Zr a0 a1 a2 a3 a4 a5 a6 a7:=fs_z.trans (aqA rounds ..)
def GM:Option (List T):=
 pv (.app true 4) [.l [],a1] λa3=>
 pv (.app true 4) [.l [],a2] λa4=>
 Yz a0 λa5=>
 some [a5,a3,a4]
theorem aqC:(Zv).den (pick []) R [] [a0,a1,a2]=GM a0 a1 a2:=(cF (by kernel_rfl)).trans (by kernel_rfl)
theorem abZ:Qy [a0,a1,a2]=GM a0 a1 a2:=fs_z.trans (aqC rounds ..)
def NG:Option (List T):=
 Yp (.l []) a0 λa1=>
 some [a1]
theorem aqD:(Zx).den (pick []) R [] [a0]=NG a0:=(cF (by kernel_rfl)).trans (by kernel_rfl)
theorem aqE:sL [a0]=NG a0:=fs_z.trans (aqD rounds ..)
def NH:Option (List T):=
 pv (.app true 2) [.l [],a5] λa8=>
 Yz a7 λa9=>
 Yz a6 λaD=>
 Yz a4 λaK=>
 Yz a3 λa12=>
 Yz a2 λaI=>
 Yz a1 λaJ=>
 Yz a0 λaL=>
 some [aL,aJ,aI,a12,aK,a8,aD,a9]
theorem aqF:(Zz).den (pick []) R [] [a0,a1,a2,a3,a4,a5,a6,a7]=NH a0 a1 a2 a3 a4 a5 a6 a7:=(cF (by kernel_rfl)).trans (by kernel_rfl)
theorem aqG:zb [a0,a1,a2,a3,a4,a5,a6,a7]=NH a0 a1 a2 a3 a4 a5 a6 a7:=fs_z.trans (aqF rounds ..)
def qe_:Option (List T):=
 (di λa2 a3=>
 Yl a3 a1 λa4=>
 ax a4 (
 Y8 a0 a3 λa6 a7 a8 a9 aD aK a12 aI=>
 jX (bp [a6,a7,a8,a9,aD,aK,a12,aI]) λaJ aL aN aS aO aR a20 a21=>
 pv (.lit 8 [true,true,true,true,true,false,true,true]) [aJ,aL,aN,aS,aO,aR,a20,a21] λbg=>
 Yy a2 bg λaZ=>
 Ya a3 (ii 1) λa24=>
 k0 [aZ,a24]) (
 some [a2])) ts
def NI:Option (List T):=
 Yn a0 λa1=>
 iter (qe_ bp a0 a1) R [.l [],ii 0]
theorem aqH:(ZC).den (pick [(161,bp)]) R [] [a0]=NI R bp a0:=(cF (by kernel_rfl)).trans (by kernel_rfl)
theorem aqI:CE [a0]=NI rounds zb a0:=fs_z.trans (aqH rounds ..)
def GN:Option (List T):=
 mQ (lR [a2,a3,a4]) λa7 a8 a9=>
 aY (aC [a5]) λaD=>
 aY (bD [a6]) λaK=>
 Yz a7 λa12=>
 Yz a1 λaI=>
 Yz a0 λaJ=>
 some [aJ,aI,a12,a8,a9,aD,aK]
theorem aqJ:(ZE).den (pick [(56,bD),(90,lR),(156,aC)]) R [] [a0,a1,a2,a3,a4,a5,a6]=GN aC lR bD a0 a1 a2 a3 a4 a5 a6:=(cF (by kernel_rfl)).trans (by kernel_rfl)
theorem ab0:Ec [a0,a1,a2,a3,a4,a5,a6]=GN sL Qy CE a0 a1 a2 a3 a4 a5 a6:=fs_z.trans (aqJ rounds ..)
def NJ:Option (List T):=
 Ak (dX [a0,a1,a2,a3,a4,a5,a6]) λa8 a9 aD aK a12 aI aJ=>
 pv (.app true 4) [.l [],a7] λaL=>
 Yz aD λaN=>
 Yz a9 λaS=>
 Yz a8 λaO=>
 some [aO,aS,aN,aK,a12,aI,aJ,aL]
theorem aqK:(ZG).den (pick [(54,dX)]) R [] [a0,a1,a2,a3,a4,a5,a6,a7]=NJ dX a0 a1 a2 a3 a4 a5 a6 a7:=(cF (by kernel_rfl)).trans (by kernel_rfl)
theorem aqL:Ma [a0,a1,a2,a3,a4,a5,a6,a7]=NJ Ec a0 a1 a2 a3 a4 a5 a6 a7:=fs_z.trans (aqK rounds ..)
def GP:Option (List T):=
 (di λaK a12=>
 Yl a12 aD λaI=>
 ax aI (
 Y4 a7 a12 λaL aN aS aO=>
 Ye aL a8 λaR=>
 ax aR (
 Ye aN a9 λa20=>
 ax a20 (
 Yz a12 λa21=>
 some [a21]) (
 Ya a12 (ii 1) λa21=>
 k0 [aK,a21])) (
 Ya a12 (ii 1) λa20=>
 k0 [aK,a20])) (
 Yz (ii (-1)) λaJ=>
 some [aJ])) ts
def NK:Option (List T):=
 Yn a7 λaD=>
 iter (GP a7 a8 a9 aD) R [ii 0,ii 0]
theorem aqM:(ZJ).den (pick []) R [] [a0,a1,a2,a3,a4,a5,a6,a7,a8,a9]=NK R a7 a8 a9:=(cF (by kernel_rfl)).trans (by kernel_rfl)
theorem aqN:CF [a0,a1,a2,a3,a4,a5,a6,a7,a8,a9]=NK rounds a7 a8 a9:=fs_z.trans (aqM rounds ..)
def kr_:Option (List T):=
 (di λa2 a3=>
 Yl a3 a1 λa4=>
 ax a4 (
 Y1 a0 a3 λa6=>
 aY (bU [a6,ii 1,ii 6]) λa7=>
 Yt a7 λa8=>
 ax a8 (
 Yz (bb false) λa9=>
 some [a9]) (
 Yg a3 (ii 0) λa9=>
 ax a9 (
 Ys a3 (ii 1) λaD=>
 Y1 a0 aD λa12=>
 Yh a12 a6 λaI=>
 ax aI (
 Yz (bb false) λaJ=>
 some [aJ]) (
 Ya a3 (ii 1) λaJ=>
 k0 [a2,aJ])) (
 Ya a3 (ii 1) λaD=>
 k0 [a2,aD]))) (
 Yz (bb true) λa5=>
 some [a5])) ts
def NL:Option (List T):=
 Yn a0 λa1=>
 iter (kr_ bU a0 a1) R [bb false,ii 0]
theorem aqO:(ZL).den (pick [(69,bU)]) R [] [a0]=NL R bU a0:=(cF (by kernel_rfl)).trans (by kernel_rfl)
theorem aqP:ZM [a0]=NL rounds rb a0:=fs_z.trans (aqO rounds ..)
def GQ:Option (List T):=
 Ye a1 (ii 3) λa8=>
 jn (dz λa9=>
 Yz (bb false) λaD=>
 Yz a9 λaK=>
 Yz a4 λa12=>
 Yz a3 λaI=>
 Yz a2 λaJ=>
 Yz a1 λaL=>
 Yz a0 λaN=>
 some [aN,aL,aJ,aI,a12,.l [],aK,aD]) λk0=>
 ax a8 (
 k0 [ii 1]) (
 k0 [ii 0])
theorem aqQ:(ZO).den (pick []) R [] [a0,a1,a2,a3,a4,a5,a6,a7]=GQ a0 a1 a2 a3 a4:=(cF (by kernel_rfl)).trans (by kernel_rfl)
theorem aqR:Mb [a0,a1,a2,a3,a4,a5,a6,a7]=GQ a0 a1 a2 a3 a4:=fs_z.trans (aqQ rounds ..)
def NM:Option (List T):=
 Ye a0 a8 λaN=>
 ax aN (
 Ye a1 a9 λaS=>
 ax aS (
 Ye a2 aD λaO=>
 ax aO (
 Ye a3 aK λaR=>
 Yz aR λa20=>
 some [a20]) (
 Yz (bb false) λaR=>
 some [aR])) (
 Yz (bb false) λaO=>
 some [aO])) (
 Yz (bb false) λaS=>
 some [aS])
theorem aqS:(ZR).den (pick []) R [] [a0,a1,a2,a3,a4,a5,a6,a7,a8,a9,aD,aK,a12,aI,aJ,aL]=NM a0 a1 a2 a3 a8 a9 aD aK:=(cF (by kernel_rfl)).trans (by kernel_rfl)
theorem aqT:Gi [a0,a1,a2,a3,a4,a5,a6,a7,a8,a9,aD,aK,a12,aI,aJ,aL]=NM a0 a1 a2 a3 a8 a9 aD aK:=fs_z.trans (aqS rounds ..)
def QJ:Option (List T):=
 (di λa24 bh=>
 Yl bh aZ λbc=>
 ax bc (
 Y2 a5 bh λa28 bz=>
 Y2 aI bh λa31 bS=>
 pv (.eqs [1,1]) [a28,bz,a31,bS] λbV=>
 Yt bV λb9=>
 ax b9 (
 Yz (bb false) λch=>
 some [ch]) (
 Ya bh (ii 1) λch=>
 k0 [a24,ch])) (
 Yz (bb true) λbm=>
 some [bm])) ts
def NN:Option (List T):=
 aY (dr [a0,a1,a2,a3,a4,a5,a6,a7,a8,a9,aD,aK,a12,aI,aJ,aL]) λaN=>
 Yt aN λaS=>
 ax aS (
 Yz (bb false) λaO=>
 some [aO]) (
 Yu a6 aJ λaO=>
 ax aO (
 Yz (bb false) λaR=>
 some [aR]) (
 pv (.bb .neq) [a7,aL] λaR=>
 ax aR (
 Yz (bb false) λa20=>
 some [a20]) (
 Yn a5 λa20=>
 Yn aI λa21=>
 Yu a20 a21 λbg=>
 ax bg (
 Yz (bb false) λaZ=>
 some [aZ]) (
 Yn a5 λaZ=>
 iter (QJ a5 aI aZ) R [bb false,ii 0]))))
theorem aqU:(ZT).den (pick [(163,dr)]) R [] [a0,a1,a2,a3,a4,a5,a6,a7,a8,a9,aD,aK,a12,aI,aJ,aL]=NN R dr a0 a1 a2 a3 a4 a5 a6 a7 a8 a9 aD aK a12 aI aJ aL:=(cF (by kernel_rfl)).trans (by kernel_rfl)
theorem aqV:Md [a0,a1,a2,a3,a4,a5,a6,a7,a8,a9,aD,aK,a12,aI,aJ,aL]=NN rounds Gi a0 a1 a2 a3 a4 a5 a6 a7 a8 a9 aD aK a12 aI aJ aL:=fs_z.trans (aqU rounds ..)
def GR:Option (List T):=
 (di λa2 a3=>
 Yl a3 a1 λa4=>
 ax a4 (
 Y8 a0 a3 λa6 a7 a8 a9 aD aK a12 aI=>
 jX (fK [a6,a7,a8,a9,aD,aK,a12,aI]) λaJ aL aN aS aO aR a20 a21=>
 aY (dF [aJ,aL,aN,aS,aO,aR,a20,a21,a6,a7,a8,a9,aD,aK,a12,aI]) λbg=>
 Yt bg λaZ=>
 ax aZ (
 Yz (bb false) λa24=>
 some [a24]) (
 Ya a3 (ii 1) λa24=>
 k0 [a2,a24])) (
 Yz (bb true) λa5=>
 some [a5])) ts
def NO:Option (List T):=
 Yn a0 λa1=>
 iter (GR dF fK a0 a1) R [bb false,ii 0]
theorem aqW:(ZW).den (pick [(158,dF),(187,fK)]) R [] [a0]=NO R dF fK a0:=(cF (by kernel_rfl)).trans (by kernel_rfl)
theorem aqX:CG [a0]=NO rounds Md Mb a0:=fs_z.trans (aqW rounds ..)
def xK:Option (List T):=
 (di λaS aO=>
 Yl aO aN λaR=>
 ax aR (
 Y8 a5 aO λa21 bg aZ a24 bh bc bm a28=>
 Yu a21 a3 λbz=>
 ax bz (
 Yu a21 (ii 9) λbM=>
 ax bM (
 Yz (bb false) λa31=>
 some [a31]) (
 Ya aO (ii 1) λa31=>
 k0 [aS,a31])) (
 Ya aO (ii 1) λbM=>
 k0 [aS,bM])) (
 Yn a4 λa20=>
 Ye a20 (ii 0) λa21=>
 ax a21 (
 aY (da [a5]) λbg=>
 ax bg (
 Ye a0 (ii 3) λaZ=>
 ax aZ (
 Yz (bb true) λa24=>
 some [a24]) (
 aY (kJ [a5]) λa24=>
 Yz a24 λbh=>
 some [bh])) (
 Yz (bb false) λaZ=>
 some [aZ])) (
 Yz (bb false) λbg=>
 some [bg]))) ts
def Ee:Option (List T):=
 aY (bU [a0,ii 1,ii 3]) λa6=>
 Yt a6 λa7=>
 ax a7 (
 Yz (bb false) λa8=>
 some [a8]) (
 aY (bU [a1,ii 1,ii 6]) λa8=>
 Yt a8 λa9=>
 ax a9 (
 Yz (bb false) λaD=>
 some [aD]) (
 aY (bU [a2,ii 1,ii 6]) λaD=>
 Yt aD λaK=>
 ax aK (
 Yz (bb false) λa12=>
 some [a12]) (
 Ye a1 a2 λa12=>
 ax a12 (
 Yz (bb false) λaI=>
 some [aI]) (
 aY (bU [a3,ii 0,ii 2]) λaI=>
 Yt aI λaJ=>
 ax aJ (
 Yz (bb false) λaL=>
 some [aL]) (
 Ye a0 (ii 1) λaL=>
 ax aL (
 aY (lU [a4]) λaN=>
 ax aN (
 Yn a5 λaS=>
 Ye aS (ii 0) λaO=>
 Yz aO λaR=>
 some [aR]) (
 Yz (bb false) λaS=>
 some [aS])) (
 Yn a5 λaN=>
 iter (xK da kJ a0 a3 a4 a5 aN) R [bb false,ii 0]))))))
theorem aqY:(ZY).den (pick [(69,bU),(71,da),(189,lU),(190,kJ)]) R [] [a0,a1,a2,a3,a4,a5]=Ee R da lU bU kJ a0 a1 a2 a3 a4 a5:=(cF (by kernel_rfl)).trans (by kernel_rfl)
theorem aqZ:ZZ [a0,a1,a2,a3,a4,a5]=Ee rounds CB ZM rb CG a0 a1 a2 a3 a4 a5:=fs_z.trans (aqY rounds ..)
def GS:Option (List T):=
 (di λa3 a4=>
 Yl a4 a2 λa5=>
 ax a5 (
 Y1 a0 a4 λa7=>
 Ye a7 a1 λa8=>
 ax a8 (
 Yz (bb true) λa9=>
 some [a9]) (
 Ya a4 (ii 1) λa9=>
 k0 [a3,a9])) (
 Yz (bb false) λa6=>
 some [a6])) ts
def NP:Option (List T):=
 Yn a0 λa2=>
 iter (GS a0 a1 a2) R [bb false,ii 0]
theorem aq0:(Z1).den (pick []) R [] [a0,a1]=NP R a0 a1:=(cF (by kernel_rfl)).trans (by kernel_rfl)
theorem aq1:CH [a0,a1]=NP rounds a0 a1:=fs_z.trans (aq0 rounds ..)
def uF:Option (List T):=
 (dz λaL=>
 Yn a5 λaN=>
 Yl aL aN λaS=>
 ax aS (
 Yq a5 aL λaR=>
 Yl aR a12 λa20=>
 ax a20 (
 Ya aL (ii 1) λa21=>
 k2 [a21]) (
 Yn a5 λa21=>
 Yl aL a21 λbg=>
 ax bg (
 Yq a5 aL λa24=>
 Ye a24 a12 λbh=>
 ax bh (
 k1 [a5]) (
 Yw a5 aL λbc=>
 aY (aC [bc]) λbm=>
 Yx a12 λa28=>
 Yp bm a28 λbz=>
 Yv a5 aL λbM=>
 Yp bz bM λa31=>
 k1 [a31])) (
 Yw a5 aL λaZ=>
 aY (aC [aZ]) λa24=>
 Yx a12 λbh=>
 Yp a24 bh λbc=>
 Yv a5 aL λbm=>
 Yp bc bm λa28=>
 k1 [a28]))) (
 Yn a5 λaO=>
 Yl aL aO λaR=>
 ax aR (
 Yq a5 aL λa21=>
 Ye a21 a12 λbg=>
 ax bg (
 k1 [a5]) (
 Yw a5 aL λaZ=>
 aY (aC [aZ]) λa24=>
 Yx a12 λbh=>
 Yp a24 bh λbc=>
 Yv a5 aL λbm=>
 Yp bc bm λa28=>
 k1 [a28])) (
 Yw a5 aL λa20=>
 aY (aC [a20]) λa21=>
 Yx a12 λbg=>
 Yp a21 bg λaZ=>
 Yv a5 aL λa24=>
 Yp aZ a24 λbh=>
 k1 [bh]))) ts
def uG:Option (List T):=
 (dz λaJ=>
 Yn a5 λaL=>
 Yl aJ aL λaN=>
 ax aN (
 Yq a5 aJ λaO=>
 Yl aO a12 λaR=>
 ax aR (
 Ya aJ (ii 1) λa20=>
 k2 [a20]) (
 Yn a5 λa20=>
 Yl aJ a20 λa21=>
 ax a21 (
 Yq a5 aJ λaZ=>
 Ye aZ a12 λa24=>
 ax a24 (
 k1 [a5]) (
 Yw a5 aJ λbh=>
 aY (aC [bh]) λbc=>
 Yx a12 λbm=>
 Yp bc bm λa28=>
 Yv a5 aJ λbz=>
 Yp a28 bz λbM=>
 k1 [bM])) (
 Yw a5 aJ λbg=>
 aY (aC [bg]) λaZ=>
 Yx a12 λa24=>
 Yp aZ a24 λbh=>
 Yv a5 aJ λbc=>
 Yp bh bc λbm=>
 k1 [bm]))) (
 Yn a5 λaS=>
 Yl aJ aS λaO=>
 ax aO (
 Yq a5 aJ λa20=>
 Ye a20 a12 λa21=>
 ax a21 (
 k1 [a5]) (
 Yw a5 aJ λbg=>
 aY (aC [bg]) λaZ=>
 Yx a12 λa24=>
 Yp aZ a24 λbh=>
 Yv a5 aJ λbc=>
 Yp bh bc λbm=>
 k1 [bm])) (
 Yw a5 aJ λaR=>
 aY (aC [aR]) λa20=>
 Yx a12 λa21=>
 Yp a20 a21 λbg=>
 Yv a5 aJ λaZ=>
 Yp bg aZ λa24=>
 k1 [a24]))) ts
def vr:Option (List T):=
 (di λa5 a6=>
 Yl a6 a4 λa7=>
 ax a7 (
 Y4 a1 a6 λa9 aD aK a12=>
 Ye a9 a3 λaI=>
 ax aI (
 jn (dz λaJ=>
 Ya a6 (ii 1) λaL=>
 k0 [aJ,aL]) λk1=>
 iter (uG aC a5 a12 k1) R [ii 0]) (
 Ye aD a3 λaJ=>
 jn (dz λaL=>
 Ya a6 (ii 1) λaN=>
 k0 [aL,aN]) λk1=>
 ax aJ (
 iter (uF aC a5 a12 k1) R [ii 0]) (
 k1 [a5]))) (
 some [a5])) ts
def NQ:Option (List T):=
 Yn a1 λa4=>
 iter (vr R aC a1 a3 a4) R [.l [],ii 0]
theorem aq2:(Z3).den (pick [(156,aC)]) R [] [a0,a1,a2,a3]=NQ R aC a1 a3:=(cF (by kernel_rfl)).trans (by kernel_rfl)
theorem aq3:Gk [a0,a1,a2,a3]=NQ rounds sL a1 a3:=fs_z.trans (aq2 rounds ..)
def NR:Option (List T):=
 aY (dP [a0,a1,a2,a3,a4,a5]) λa6=>
 Yh a6 (ii 0) λa7=>
 ax a7 (
 Yb a1 a6 λa8=>
 Yc 4 2 a1 a6 λa9=>
 Yz a9 λaD=>
 some [aD]) (
 Yz (ii 0) λa8=>
 some [a8])
theorem aq4:(Z5).den (pick [(172,dP)]) R [] [a0,a1,a2,a3,a4,a5]=NR dP a0 a1 a2 a3 a4 a5:=(cF (by kernel_rfl)).trans (by kernel_rfl)
theorem aq5:CI [a0,a1,a2,a3,a4,a5]=NR Gd a0 a1 a2 a3 a4 a5:=fs_z.trans (aq4 rounds ..)
def NS:Option (List T):=
 (di λaJ aL=>
 Yn a5 λaN=>
 Yl aJ aN λaS=>
 ax aS (
 Ya aJ (ii 1) λaO=>
 Y1 a5 aO λa20=>
 Ye a20 aI λa21=>
 jn (dz λbg=>
 Ya aJ (ii 2) λaZ=>
 k1 [aZ,bg]) λk2=>
 ax a21 (
 Y1 a5 aJ λaZ=>
 Y1 a5 aJ λbh=>
 aY (jA [a2,a3,a4,a0,bh,aI]) λbc=>
 pv (.lit 2 [true,true]) [aZ,bc] λbm=>
 pv (.app true 2) [aL,bm] λa28=>
 k2 [a28]) (
 k2 [aL])) (
 pv (.lit 8 [true,true,true,true,true,false,true,true]) [aI,ii 1,a0,ii 0,ii 0,aL,ii 0,bb false] λaO=>
 Yy a9 aO λaR=>
 Ya aD (ii 1) λa20=>
 k0 [aR,a20])) ts
def NT:Option (List T):=
 (di λa9 aD=>
 Yl aD a8 λaK=>
 ax aK (
 Yq a7 aD λaI=>
 iter (NS jA a0 a2 a3 a4 a5 a9 aD aI k0) R [ii 0,.l []]) (
 some [a9])) ts
def NU:Option (List T):=
 aY (d_ [a2,a3,a4,a0]) λa7=>
 Yn a7 λa8=>
 iter (NT R jA a0 a2 a3 a4 a5 a7 a8) R [.l [],ii 0]
theorem aq6:(Z7).den (pick [(74,d_),(174,jA)]) R [] [a0,a1,a2,a3,a4,a5,a6]=NU R d_ jA a0 a2 a3 a4 a5:=(cF (by kernel_rfl)).trans (by kernel_rfl)
theorem aq7:CJ [a0,a1,a2,a3,a4,a5,a6]=NU rounds Gk CI a0 a2 a3 a4 a5:=fs_z.trans (aq6 rounds ..)
def NV:Option (List T):=
 (dz λa9=>
 Yn a0 λaD=>
 Yl a9 aD λaK=>
 ax aK (
 Y8 a0 a9 λaI aJ aL aN aS aO aR a20=>
 aY (fJ [aI,aJ,aL,aN,aS,aO,aR,a20,a1,a2,a3,a4,a5,a6,a7,a8]) λa21=>
 ax a21 (
 Ya a9 (ii 1) λbg=>
 k0 [bg]) (
 pv (.sub 8 false true) [a0,a9] λbg=>
 aY (bD [bg]) λaZ=>
 jX (bp [a1,a2,a3,a4,a5,a6,a7,a8]) λa24 bh bc bm a28 bz bM a31=>
 pv (.lit 8 [true,true,true,true,true,false,true,true]) [a24,bh,bc,bm,a28,bz,bM,a31] λbS=>
 Yy aZ bS λbV=>
 Yn a0 λb9=>
 Yl a9 b9 λch=>
 ax ch (
 Y8 a0 a9 λa37 cJ dm a40 eO fy fw fN=>
 aY (dr [a37,cJ,dm,a40,eO,fy,fw,fN,a1,a2,a3,a4,a5,a6,a7,a8]) λfR=>
 jn (dz λa46=>
 pv (.sub 8 true false) [a0,a46] λgb=>
 aY (bD [gb]) λfA=>
 Yy bV fA λa49=>
 some [a49]) λk1=>
 ax fR (
 Ya a9 (ii 1) λa46=>
 k1 [a46]) (
 k1 [a9])) (
 jn (dz λca=>
 pv (.sub 8 true false) [a0,ca] λa37=>
 aY (bD [a37]) λcJ=>
 Yy bV cJ λdm=>
 some [dm]) λk1=>
 k1 [a9]))) (
 pv (.sub 8 false true) [a0,a9] λa12=>
 aY (bD [a12]) λaI=>
 jX (bp [a1,a2,a3,a4,a5,a6,a7,a8]) λaJ aL aN aS aO aR a20 a21=>
 pv (.lit 8 [true,true,true,true,true,false,true,true]) [aJ,aL,aN,aS,aO,aR,a20,a21] λbg=>
 Yy aI bg λaZ=>
 Yn a0 λa24=>
 Yl a9 a24 λbh=>
 ax bh (
 Y8 a0 a9 λbm a28 bz bM a31 bS bV b9=>
 aY (dr [bm,a28,bz,bM,a31,bS,bV,b9,a1,a2,a3,a4,a5,a6,a7,a8]) λch=>
 jn (dz λca=>
 pv (.sub 8 true false) [a0,ca] λa37=>
 aY (bD [a37]) λcJ=>
 Yy aZ cJ λdm=>
 some [dm]) λk1=>
 ax ch (
 Ya a9 (ii 1) λca=>
 k1 [ca]) (
 k1 [a9])) (
 jn (dz λbc=>
 pv (.sub 8 true false) [a0,bc] λbm=>
 aY (bD [bm]) λa28=>
 Yy aZ a28 λbz=>
 some [bz]) λk1=>
 k1 [a9]))) ts
def NW:Option (List T):=
 iter (NV fJ dr bp bD a0 a1 a2 a3 a4 a5 a6 a7 a8) R [ii 0]
theorem aq8:(Z9).den (pick [(56,bD),(161,bp),(162,fJ),(163,dr)]) R [] [a0,a1,a2,a3,a4,a5,a6,a7,a8]=NW R fJ dr bp bD a0 a1 a2 a3 a4 a5 a6 a7 a8:=(cF (by kernel_rfl)).trans (by kernel_rfl)
theorem aq9:sM [a0,a1,a2,a3,a4,a5,a6,a7,a8]=NW rounds L8 Gi zb CE a0 a1 a2 a3 a4 a5 a6 a7 a8:=fs_z.trans (aq8 rounds ..)
def NX:Option (List T):=
 aY (d_ [a0,a1,a2,a3]) λa4=>
 aY (cY [a4,ii 0]) λa5=>
 ax a5 (
 Yn a4 λa6=>
 Yg a6 (ii 1) λa7=>
 Yz a7 λa8=>
 some [a8]) (
 Yz (bb false) λa6=>
 some [a6])
theorem aq_:(aac).den (pick [(74,d_),(175,cY)]) R [] [a0,a1,a2,a3]=NX d_ cY a0 a1 a2 a3:=(cF (by kernel_rfl)).trans (by kernel_rfl)
theorem aq':CK [a0,a1,a2,a3]=NX Gk CH a0 a1 a2 a3:=fs_z.trans (aq_ rounds ..)
def zg:Option (List T):=
 (di λa8 a9=>
 Yl a9 a7 λaD=>
 ax aD (
 Y8 a2 a9 λa12 aI aJ aL aN aS aO aR=>
 aY (bK [a8,a12,aI,aJ,aL,ii 1,aS,aO,aR]) λa20=>
 Ya a9 (ii 1) λa21=>
 k1 [a20,a21]) (
 some [a8])) ts
def zh:Option (List T):=
 (di λa4 a5=>
 Yl a5 a3 λa6=>
 ax a6 (
 Y8 a0 a5 λa8 a9 aD aK a12 aI aJ aL=>
 Yu a9 (ii 1) λaN=>
 ax aN (
 jn (dz λaS=>
 Ya a5 (ii 1) λaO=>
 k0 [aS,aO]) λk1=>
 pv (.lit 8 []) [a8,a9,aD,aK,a12,aI,aJ,aL] λaS=>
 Yy a4 aS λaO=>
 k1 [aO]) (
 Yu aD a1 λaS=>
 jn (dz λaO=>
 Ya a5 (ii 1) λaR=>
 k0 [aO,aR]) λk1=>
 ax aS (
 pv (.lit 8 []) [a8,a9,aD,aK,a12,aI,aJ,aL] λaO=>
 Yy a4 aO λaR=>
 k1 [aR]) (
 k1 [a4]))) (
 Yn a2 λa7=>
 iter (zg bK a2 a7) R [a4,ii 0])) ts
def NY:Option (List T):=
 Yn a0 λa3=>
 iter (zh R bK a0 a1 a2 a3) R [.l [],ii 0]
theorem ara:(aae).den (pick [(57,bK)]) R [] [a0,a1,a2]=NY R bK a0 a1 a2:=(cF (by kernel_rfl)).trans (by kernel_rfl)
theorem arb:CL [a0,a1,a2]=NY rounds sM a0 a1 a2:=fs_z.trans (ara rounds ..)
def GU:Option (List T):=
 (di λaD aK=>
 Yl aK a9 λa12=>
 ax a12 (
 Y8 a0 aK λaJ aL aN aS aO aR a20 a21=>
 aY (dr [aJ,aL,aN,aS,aO,aR,a20,a21,a1,a2,a3,a4,a5,a6,a7,a8]) λbg=>
 ax bg (
 Yz aK λaZ=>
 some [aZ]) (
 Ya aK (ii 1) λaZ=>
 k0 [aD,aZ])) (
 Yz (ii (-1)) λaI=>
 some [aI])) ts
def NZ:Option (List T):=
 Yn a0 λa9=>
 iter (GU dr a0 a1 a2 a3 a4 a5 a6 a7 a8 a9) R [ii 0,ii 0]
theorem arc:(aag).den (pick [(163,dr)]) R [] [a0,a1,a2,a3,a4,a5,a6,a7,a8]=NZ R dr a0 a1 a2 a3 a4 a5 a6 a7 a8:=(cF (by kernel_rfl)).trans (by kernel_rfl)
theorem ard:rI [a0,a1,a2,a3,a4,a5,a6,a7,a8]=NZ rounds Gi a0 a1 a2 a3 a4 a5 a6 a7 a8:=fs_z.trans (arc rounds ..)
def kT_:Option (List T):=
 (di λa9 aD=>
 Yl aD a8 λaK=>
 ax aK (
 Y2 a7 aD λaI aJ=>
 Ye aI a3 λaL=>
 ax aL (
 Yz aJ λaN=>
 some [aN]) (
 Ya aD (ii 1) λaN=>
 k0 [a9,aN])) (
 Yz (ii 0) λa12=>
 some [a12])) ts
def N0:Option (List T):=
 aY (bE [a0,a1,ii 1,a2,ii 0,ii 0,.l [],ii 0,bb false]) λa4=>
 Yl a4 (ii 0) λa5=>
 ax a5 (
 Yz (ii 0) λa6=>
 some [a6]) (
 Yb a0 a4 λa6=>
 Yc 8 5 a0 a4 λa7=>
 Yn a7 λa8=>
 iter (kT_ a3 a7 a8) R [ii 0,ii 0])
theorem arf:(aai).den (pick [(157,bE)]) R [] [a0,a1,a2,a3]=N0 R bE a0 a1 a2 a3:=(cF (by kernel_rfl)).trans (by kernel_rfl)
theorem arh:CM [a0,a1,a2,a3]=N0 rounds rI a0 a1 a2 a3:=fs_z.trans (arf rounds ..)
def N1:Option (List T):=
 aY (nJ [a0,a1,a3,a2]) λa4=>
 Ye a4 (ii 0) λa5=>
 ax a5 (
 Yz (ii 0) λa6=>
 some [a6]) (
 aY (nJ [a0,a1,a2,a3]) λa6=>
 Yz a6 λa7=>
 some [a7])
theorem ari:(aak).den (pick [(244,nJ)]) R [] [a0,a1,a2,a3]=N1 nJ a0 a1 a2 a3:=(cF (by kernel_rfl)).trans (by kernel_rfl)
theorem arj:CN [a0,a1,a2,a3]=N1 CM a0 a1 a2 a3:=fs_z.trans (ari rounds ..)
def N2:Option (List T):=
 aY (aC [a2]) λa3=>
 Yz a1 λa4=>
 Yz a0 λa5=>
 some [a5,a4,a3]
theorem ark:(aam).den (pick [(156,aC)]) R [] [a0,a1,a2]=N2 aC a0 a1 a2:=(cF (by kernel_rfl)).trans (by kernel_rfl)
theorem arl:xC [a0,a1,a2]=N2 sL a0 a1 a2:=fs_z.trans (ark rounds ..)
def xL:Option (List T):=
 (dz λaO=>
 Yn aJ λaR=>
 Yl aO aR λa20=>
 ax a20 (
 Yq aJ aO λbg=>
 Yl bg aS λaZ=>
 ax aZ (
 Ya aO (ii 1) λa24=>
 k2 [a24]) (
 Yn aJ λa24=>
 Yl aO a24 λbh=>
 ax bh (
 Yq aJ aO λbm=>
 Ye bm aS λa28=>
 ax a28 (
 Ya aI (ii 1) λbz=>
 k1 [bz,aJ]) (
 Yw aJ aO λbz=>
 aY (aC [bz]) λbM=>
 Yx aS λa31=>
 Yp bM a31 λbS=>
 Yv aJ aO λbV=>
 Yp bS bV λb9=>
 Ya aI (ii 1) λch=>
 k1 [ch,b9])) (
 Yw aJ aO λbc=>
 aY (aC [bc]) λbm=>
 Yx aS λa28=>
 Yp bm a28 λbz=>
 Yv aJ aO λbM=>
 Yp bz bM λa31=>
 Ya aI (ii 1) λbS=>
 k1 [bS,a31]))) (
 Yn aJ λa21=>
 Yl aO a21 λbg=>
 ax bg (
 Yq aJ aO λa24=>
 Ye a24 aS λbh=>
 ax bh (
 Ya aI (ii 1) λbc=>
 k1 [bc,aJ]) (
 Yw aJ aO λbc=>
 aY (aC [bc]) λbm=>
 Yx aS λa28=>
 Yp bm a28 λbz=>
 Yv aJ aO λbM=>
 Yp bz bM λa31=>
 Ya aI (ii 1) λbS=>
 k1 [bS,a31])) (
 Yw aJ aO λaZ=>
 aY (aC [aZ]) λa24=>
 Yx aS λbh=>
 Yp a24 bh λbc=>
 Yv aJ aO λbm=>
 Yp bc bm λa28=>
 Ya aI (ii 1) λbz=>
 k1 [bz,a28]))) ts
def xM:Option (List T):=
 (di λaI aJ=>
 Yl aI a12 λaL=>
 ax aL (
 Y1 a5 aI λaS=>
 iter (xL aC aI aJ aS k1) R [ii 0]) (
 Yz a1 λaN=>
 Yz a0 λaS=>
 some [aS,aN,aJ])) ts
def xN:Option (List T):=
 (dz λaJ=>
 Yn aD λaL=>
 Yl aJ aL λaN=>
 ax aN (
 Yq aD aJ λaO=>
 Yl aO aI λaR=>
 ax aR (
 Ya aJ (ii 1) λa20=>
 k1 [a20]) (
 Yn aD λa20=>
 Yl aJ a20 λa21=>
 ax a21 (
 Yq aD aJ λaZ=>
 Ye aZ aI λa24=>
 ax a24 (
 Ya a9 (ii 1) λbh=>
 k0 [bh,aD]) (
 Yw aD aJ λbh=>
 aY (aC [bh]) λbc=>
 Yx aI λbm=>
 Yp bc bm λa28=>
 Yv aD aJ λbz=>
 Yp a28 bz λbM=>
 Ya a9 (ii 1) λa31=>
 k0 [a31,bM])) (
 Yw aD aJ λbg=>
 aY (aC [bg]) λaZ=>
 Yx aI λa24=>
 Yp aZ a24 λbh=>
 Yv aD aJ λbc=>
 Yp bh bc λbm=>
 Ya a9 (ii 1) λa28=>
 k0 [a28,bm]))) (
 Yn aD λaS=>
 Yl aJ aS λaO=>
 ax aO (
 Yq aD aJ λa20=>
 Ye a20 aI λa21=>
 ax a21 (
 Ya a9 (ii 1) λbg=>
 k0 [bg,aD]) (
 Yw aD aJ λbg=>
 aY (aC [bg]) λaZ=>
 Yx aI λa24=>
 Yp aZ a24 λbh=>
 Yv aD aJ λbc=>
 Yp bh bc λbm=>
 Ya a9 (ii 1) λa28=>
 k0 [a28,bm])) (
 Yw aD aJ λaR=>
 aY (aC [aR]) λa20=>
 Yx aI λa21=>
 Yp a20 a21 λbg=>
 Yv aD aJ λaZ=>
 Yp bg aZ λa24=>
 Ya a9 (ii 1) λbh=>
 k0 [bh,a24]))) ts
def xO:Option (List T):=
 (di λa9 aD=>
 Yl a9 a8 λaK=>
 ax aK (
 Y1 a2 a9 λaI=>
 iter (xN aC a9 aD aI k0) R [ii 0]) (
 Yn a5 λa12=>
 iter (xM R aC a0 a1 a5 a12) R [ii 0,aD])) ts
def N3:Option (List T):=
 Yg a4 a1 λa6=>
 ax a6 (
 mQ (bq [a0,a1,a2]) λa7 a8 a9=>
 Yz a8 λaD=>
 Yz a7 λaK=>
 some [aK,aD,a9]) (
 Yg a1 a4 λa7=>
 ax a7 (
 mQ (bq [a3,a4,a5]) λa8 a9 aD=>
 Yz a9 λaK=>
 Yz a8 λa12=>
 some [a12,aK,aD]) (
 Yn a2 λa8=>
 iter (xO R aC a0 a1 a2 a5 a8) R [ii 0,.l []]))
theorem arm:(aao).den (pick [(156,aC),(224,bq)]) R [] [a0,a1,a2,a3,a4,a5]=N3 R aC bq a0 a1 a2 a3 a4 a5:=(cF (by kernel_rfl)).trans (by kernel_rfl)
theorem arn:zd [a0,a1,a2,a3,a4,a5]=N3 rounds sL xC a0 a1 a2 a3 a4 a5:=fs_z.trans (arm rounds ..)
def tB:Option (List T):=
 (di λa20 a21=>
 Ym a20 (ii 6) λbg=>
 ax bg (
 aY (iw [a0,a1,aJ,a20]) λaZ=>
 Ye aZ (ii 0) λa24=>
 ax a24 (
 Ya a20 (ii 1) λbh=>
 k2 [bh,a21]) (
 Ye a20 a2 λbh=>
 ax bh (
 Ya a20 (ii 1) λbc=>
 k2 [bc,a21]) (
 Yb a21 aJ λbc=>
 pv (.bF 3 1) [a21,aJ] λbm=>
 Ya bm aZ λa28=>
 Yb a21 aJ λbz=>
 Yc 3 2 a21 aJ λbM=>
 aY (aC [bM]) λa31=>
 Ye aJ a2 λbS=>
 jn (dz λbV=>
 Y3 a21 a20 λch ca a37=>
 Ye ch (ii 0) λcJ=>
 ax cJ (
 jn (dz λdm=>
 Ya a20 (ii 1) λa40=>
 k2 [a40,dm]) λk3=>
 Yb a21 a20 λdm=>
 pv (.iN [true,true,false] 3 0) [a21,a20,a20,a28,bV] λa40=>
 k3 [a40]) (
 Yl a28 ca λdm=>
 jn (dz λa40=>
 Ya a20 (ii 1) λeO=>
 k2 [eO,a40]) λk3=>
 ax dm (
 Yb a21 a20 λa40=>
 pv (.iN [true,true,false] 3 0) [a21,a20,a20,a28,bV] λeO=>
 k3 [eO]) (
 Ye a28 ca λa40=>
 jn (dz λeO=>
 k3 [eO]) λk4=>
 ax a40 (
 mQ (bJ [ch,ca,a37,a20,a28,bV]) λeO fy fw=>
 Yb a21 a20 λfN=>
 pv (.iN [true,true,false] 3 0) [a21,a20,eO,fy,fw] λfR=>
 k4 [fR]) (
 k4 [a21])))) λk3=>
 ax bS (
 Yx a20 λbV=>
 k3 [bV]) (
 k3 [a31])))) (
 k0 [aR,a21])) ts
def tC:Option (List T):=
 (sD λaR a20 a21=>
 Yl a20 aO λbg=>
 ax bg (
 Yb aI a20 λaZ=>
 pv (.bF 3 0) [aI,a20] λa24=>
 pv (.bF 3 1) [aI,a20] λbh=>
 pv (.lF 3 2) [aI,a20] λbc=>
 pv (.yb) [a21,a20] λbm=>
 Yu a24 (ii 0) λa28=>
 jn (dz λbz=>
 Ya a20 (ii 1) λbM=>
 k2 [bz,bM,bm]) λk3=>
 ax a28 (
 pv (.lit 3 [true,true,false]) [a24,bh,bc] λbz=>
 Yo aR bz λbM=>
 k3 [bM]) (
 k3 [aR])) (
 some [aR])) ts
def tD:Option (List T):=
 (di λaJ aL=>
 Ym aL (ii 6) λaN=>
 ax aN (
 Yb aI aL λaS=>
 pv (.bF 3 0) [aI,aL] λaO=>
 Yu aO (ii 0) λaR=>
 ax aR (
 aY (cY [a12,aL]) λa20=>
 Yt a20 λa21=>
 ax a21 (
 Ye aJ (ii 0) λbg=>
 ax bg (
 jn (dz λaZ=>
 Ya aL (ii 1) λa24=>
 k1 [aZ,a24]) λk2=>
 k2 [aL]) (
 Yb aI aL λaZ=>
 pv (.bF 3 1) [aI,aL] λa24=>
 Yb aI aJ λbh=>
 pv (.bF 3 1) [aI,aJ] λbc=>
 Yl a24 bc λbm=>
 jn (dz λa28=>
 Ya aL (ii 1) λbz=>
 k1 [a28,bz]) λk2=>
 ax bm (
 k2 [aL]) (
 k2 [aJ]))) (
 jn (dz λbg=>
 Ya aL (ii 1) λaZ=>
 k1 [bg,aZ]) λk2=>
 k2 [aJ])) (
 jn (dz λa20=>
 Ya aL (ii 1) λa21=>
 k1 [a20,a21]) λk2=>
 k2 [aJ])) (
 Ye aJ (ii 0) λaS=>
 ax aS (
 Yn aI λaO=>
 iter (tC aI aO) R [.l [],ii 0,aI]) (
 Yx aJ λaO=>
 Yp a12 aO λaR=>
 iter (tB iw bJ aC a0 a1 a2 aJ aR k0) R [ii 1,aI]))) ts
def tE:Option (List T):=
 (di λa12 aI=>
 iter (tD R iw bJ aC cY a0 a1 a2 a12 aI k0) R [ii 0,ii 1]) ts
def N4:Option (List T):=
 aY (da [a0]) λa3=>
 Yt a3 λa4=>
 ax a4 (
 some [.l []]) (
 aY (bU [a2,ii 1,ii 6]) λa5=>
 Yt a5 λa6=>
 ax a6 (
 some [.l []]) (
 aY (bE [a0,a1,ii 1,a2,ii 0,ii 0,.l [],ii 0,bb false]) λa7=>
 Yl a7 (ii 0) λa8=>
 ax a8 (
 some [.l []]) (
 pv (.mk) [ii 7,ii 7,ii 0,ii 0,.l []] λa9=>
 Yb a9 a2 λaD=>
 pv (.put true 3 0 1) [a9,a2,a2] λaK=>
 iter (tE R iw bJ aC cY a0 a1 a2) R [.l [],aK])))
theorem aro:(aaq).den (pick [(69,bU),(71,da),(156,aC),(157,bE),(175,cY),(227,bJ),(239,iw)]) R [] [a0,a1,a2]=N4 R iw da bJ aC cY bU bE a0 a1 a2:=(cF (by kernel_rfl)).trans (by kernel_rfl)
theorem arp:Gm [a0,a1,a2]=N4 rounds CN CB zd sL CH rb rI a0 a1 a2:=fs_z.trans (aro rounds ..)
def GV:Option (List T):=
 (di λa3 a4=>
 Yl a4 a2 λa5=>
 ax a5 (
 Y3 a0 a4 λa7 a8 a9=>
 Ye a7 a1 λaD=>
 ax aD (
 mQ (bq [a7,a8,a9]) λaK a12 aI=>
 Yz (bb true) λaJ=>
 Yz a12 λaL=>
 Yz aK λaN=>
 some [aN,aL,aI,aJ]) (
 Ya a4 (ii 1) λaK=>
 k0 [a3,aK])) (
 Yz (bb false) λa6=>
 Yz (ii 0) λa7=>
 Yz (ii 0) λa8=>
 some [a8,a7,.l [],a6])) ts
def N5:Option (List T):=
 Yn a0 λa2=>
 iter (GV bq a0 a1 a2) R [bb false,ii 0]
theorem arq:(aas).den (pick [(224,bq)]) R [] [a0,a1]=N5 R bq a0 a1:=(cF (by kernel_rfl)).trans (by kernel_rfl)
theorem ars:Mh [a0,a1]=N5 rounds xC a0 a1:=fs_z.trans (arq rounds ..)
def C1:Option (List T):=
 (dz λaR=>
 Yn aK λa20=>
 Yl aR a20 λa21=>
 ax a21 (
 Yb aK aR λbg=>
 pv (.bF 3 0) [aK,aR] λaZ=>
 Yl aZ aN λa24=>
 ax a24 (
 Ya aR (ii 1) λbh=>
 k2 [bh]) (
 Yn aK λbh=>
 Yl aR bh λbc=>
 ax bc (
 Yb aK aR λbm=>
 pv (.bF 3 0) [aK,aR] λa28=>
 Ye a28 aN λbz=>
 ax bz (
 Y3 aK aR λa31 bS bV=>
 mQ (bJ [a31,bS,bV,aN,aS,aO]) λb9 ch ca=>
 Yb aK aR λa37=>
 pv (.iN [true,true,false] 3 0) [aK,aR,b9,ch,ca] λcJ=>
 Ya a12 (ii 1) λdm=>
 k1 [cJ,dm,aI]) (
 pv (.sub 3 false true) [aK,aR] λbM=>
 pv (.ll) [aK,ii 0,bM] λa31=>
 Yo (.l []) bM λbS=>
 mQ (bq [aN,aS,aO]) λbV b9 ch=>
 pv (.lit 3 [true,true,false]) [bV,b9,ch] λca=>
 Yo bS ca λa37=>
 pv (.sub 3 true false) [aK,aR] λcJ=>
 pv (.ll) [a31,aR,cJ] λdm=>
 Yo a37 cJ λa40=>
 Ya a12 (ii 1) λeO=>
 k1 [a40,eO,aI])) (
 pv (.sub 3 false true) [aK,aR] λbm=>
 pv (.ll) [aK,ii 0,bm] λa28=>
 Yo (.l []) bm λbz=>
 mQ (bq [aN,aS,aO]) λbM a31 bS=>
 pv (.lit 3 [true,true,false]) [bM,a31,bS] λbV=>
 Yo bz bV λb9=>
 pv (.sub 3 true false) [aK,aR] λch=>
 pv (.ll) [a28,aR,ch] λca=>
 Yo b9 ch λa37=>
 Ya a12 (ii 1) λcJ=>
 k1 [a37,cJ,aI]))) (
 Yn aK λbg=>
 Yl aR bg λaZ=>
 ax aZ (
 Yb aK aR λa24=>
 pv (.bF 3 0) [aK,aR] λbh=>
 Ye bh aN λbc=>
 ax bc (
 Y3 aK aR λa28 bz bM=>
 mQ (bJ [a28,bz,bM,aN,aS,aO]) λa31 bS bV=>
 Yb aK aR λb9=>
 pv (.iN [true,true,false] 3 0) [aK,aR,a31,bS,bV] λch=>
 Ya a12 (ii 1) λca=>
 k1 [ch,ca,aI]) (
 pv (.sub 3 false true) [aK,aR] λbm=>
 pv (.ll) [aK,ii 0,bm] λa28=>
 Yo (.l []) bm λbz=>
 mQ (bq [aN,aS,aO]) λbM a31 bS=>
 pv (.lit 3 [true,true,false]) [bM,a31,bS] λbV=>
 Yo bz bV λb9=>
 pv (.sub 3 true false) [aK,aR] λch=>
 pv (.ll) [a28,aR,ch] λca=>
 Yo b9 ch λa37=>
 Ya a12 (ii 1) λcJ=>
 k1 [a37,cJ,aI])) (
 pv (.sub 3 false true) [aK,aR] λa24=>
 pv (.ll) [aK,ii 0,a24] λbh=>
 Yo (.l []) a24 λbc=>
 mQ (bq [aN,aS,aO]) λbm a28 bz=>
 pv (.lit 3 [true,true,false]) [bm,a28,bz] λbM=>
 Yo bc bM λa31=>
 pv (.sub 3 true false) [aK,aR] λbS=>
 pv (.ll) [bh,aR,bS] λbV=>
 Yo a31 bS λb9=>
 Ya a12 (ii 1) λch=>
 k1 [b9,ch,aI]))) ts
def Ef:Option (List T):=
 (sD λaK a12 aI=>
 Yl a12 aD λaJ=>
 ax aJ (
 Y3 aI a12 λaN aS aO=>
 iter (C1 bJ bq aK a12 aI aN aS aO k1) R [ii 0]) (
 Ya a5 (ii 1) λaL=>
 k0 [aK,aL])) ts
def Eg:Option (List T):=
 (di λa4 a5=>
 Yl a5 a3 λa6=>
 ax a6 (
 Y1 a1 a5 λa8=>
 aY (dB [a0,a8,a2]) λa9=>
 Yn a9 λaD=>
 iter (Ef R bJ bq a5 aD k0) R [a4,ii 0,a9]) (
 some [a4])) ts
def N6:Option (List T):=
 Yn a1 λa3=>
 iter (Eg R bJ dB bq a0 a1 a2 a3) R [.l [],ii 0]
theorem art:(aav).den (pick [(176,dB),(224,bq),(227,bJ)]) R [] [a0,a1,a2]=N6 R bJ dB bq a0 a1 a2:=(cF (by kernel_rfl)).trans (by kernel_rfl)
theorem aru:Mi [a0,a1,a2]=N6 rounds zd Gm xC a0 a1 a2:=fs_z.trans (art rounds ..)
def oG:Option (List T):=
 (dz λca=>
 Yn a6 λa37=>
 Yl ca a37 λcJ=>
 ax cJ (
 Yb a6 ca λdm=>
 pv (.bF 3 0) [a6,ca] λa40=>
 Yl a40 aI λeO=>
 ax eO (
 Ya ca (ii 1) λfy=>
 k1 [fy]) (
 Yn a6 λfy=>
 Yl ca fy λfw=>
 ax fw (
 Yb a6 ca λfN=>
 pv (.bF 3 0) [a6,ca] λfR=>
 Ye fR aI λa46=>
 ax a46 (
 Y3 a6 ca λfA a49 gj=>
 mQ (bJ [fA,a49,gj,aI,ch,bM]) λa51 gp a53=>
 Yb a6 ca λiV=>
 pv (.iN [true,true,false] 3 0) [a6,ca,a51,gp,a53] λh_=>
 Ya a7 (ii 1) λkf=>
 k0 [h_,kf]) (
 pv (.sub 3 false true) [a6,ca] λgb=>
 pv (.ll) [a6,ii 0,gb] λfA=>
 Yo (.l []) gb λa49=>
 mQ (bq [aI,ch,bM]) λgj a51 gp=>
 pv (.lit 3 [true,true,false]) [gj,a51,gp] λa53=>
 Yo a49 a53 λiV=>
 pv (.sub 3 true false) [a6,ca] λh_=>
 pv (.ll) [fA,ca,h_] λkf=>
 Yo iV h_ λkh=>
 Ya a7 (ii 1) λmo=>
 k0 [kh,mo])) (
 pv (.sub 3 false true) [a6,ca] λfN=>
 pv (.ll) [a6,ii 0,fN] λfR=>
 Yo (.l []) fN λa46=>
 mQ (bq [aI,ch,bM]) λgb fA a49=>
 pv (.lit 3 [true,true,false]) [gb,fA,a49] λgj=>
 Yo a46 gj λa51=>
 pv (.sub 3 true false) [a6,ca] λgp=>
 pv (.ll) [fR,ca,gp] λa53=>
 Yo a51 gp λiV=>
 Ya a7 (ii 1) λh_=>
 k0 [iV,h_]))) (
 Yn a6 λdm=>
 Yl ca dm λa40=>
 ax a40 (
 Yb a6 ca λeO=>
 pv (.bF 3 0) [a6,ca] λfy=>
 Ye fy aI λfw=>
 ax fw (
 Y3 a6 ca λfR a46 gb=>
 mQ (bJ [fR,a46,gb,aI,ch,bM]) λfA a49 gj=>
 Yb a6 ca λa51=>
 pv (.iN [true,true,false] 3 0) [a6,ca,fA,a49,gj] λgp=>
 Ya a7 (ii 1) λa53=>
 k0 [gp,a53]) (
 pv (.sub 3 false true) [a6,ca] λfN=>
 pv (.ll) [a6,ii 0,fN] λfR=>
 Yo (.l []) fN λa46=>
 mQ (bq [aI,ch,bM]) λgb fA a49=>
 pv (.lit 3 [true,true,false]) [gb,fA,a49] λgj=>
 Yo a46 gj λa51=>
 pv (.sub 3 true false) [a6,ca] λgp=>
 pv (.ll) [fR,ca,gp] λa53=>
 Yo a51 gp λiV=>
 Ya a7 (ii 1) λh_=>
 k0 [iV,h_])) (
 pv (.sub 3 false true) [a6,ca] λeO=>
 pv (.ll) [a6,ii 0,eO] λfy=>
 Yo (.l []) eO λfw=>
 mQ (bq [aI,ch,bM]) λfN fR a46=>
 pv (.lit 3 [true,true,false]) [fN,fR,a46] λgb=>
 Yo fw gb λfA=>
 pv (.sub 3 true false) [a6,ca] λa49=>
 pv (.ll) [fy,ca,a49] λgj=>
 Yo fA a49 λa51=>
 Ya a7 (ii 1) λgp=>
 k0 [a51,gp]))) ts
def oH:Option (List T):=
 (dz λa37=>
 Yn a6 λcJ=>
 Yl a37 cJ λdm=>
 ax dm (
 Yb a6 a37 λa40=>
 pv (.bF 3 0) [a6,a37] λeO=>
 Yl eO aI λfy=>
 ax fy (
 Ya a37 (ii 1) λfw=>
 k1 [fw]) (
 Yn a6 λfw=>
 Yl a37 fw λfN=>
 ax fN (
 Yb a6 a37 λfR=>
 pv (.bF 3 0) [a6,a37] λa46=>
 Ye a46 aI λgb=>
 ax gb (
 Y3 a6 a37 λa49 gj a51=>
 mQ (bJ [a49,gj,a51,aI,ca,a31]) λgp a53 iV=>
 Yb a6 a37 λh_=>
 pv (.iN [true,true,false] 3 0) [a6,a37,gp,a53,iV] λkf=>
 Ya a7 (ii 1) λkh=>
 k0 [kf,kh]) (
 pv (.sub 3 false true) [a6,a37] λfA=>
 pv (.ll) [a6,ii 0,fA] λa49=>
 Yo (.l []) fA λgj=>
 mQ (bq [aI,ca,a31]) λa51 gp a53=>
 pv (.lit 3 [true,true,false]) [a51,gp,a53] λiV=>
 Yo gj iV λh_=>
 pv (.sub 3 true false) [a6,a37] λkf=>
 pv (.ll) [a49,a37,kf] λkh=>
 Yo h_ kf λmo=>
 Ya a7 (ii 1) λa59=>
 k0 [mo,a59])) (
 pv (.sub 3 false true) [a6,a37] λfR=>
 pv (.ll) [a6,ii 0,fR] λa46=>
 Yo (.l []) fR λgb=>
 mQ (bq [aI,ca,a31]) λfA a49 gj=>
 pv (.lit 3 [true,true,false]) [fA,a49,gj] λa51=>
 Yo gb a51 λgp=>
 pv (.sub 3 true false) [a6,a37] λa53=>
 pv (.ll) [a46,a37,a53] λiV=>
 Yo gp a53 λh_=>
 Ya a7 (ii 1) λkf=>
 k0 [h_,kf]))) (
 Yn a6 λa40=>
 Yl a37 a40 λeO=>
 ax eO (
 Yb a6 a37 λfy=>
 pv (.bF 3 0) [a6,a37] λfw=>
 Ye fw aI λfN=>
 ax fN (
 Y3 a6 a37 λa46 gb fA=>
 mQ (bJ [a46,gb,fA,aI,ca,a31]) λa49 gj a51=>
 Yb a6 a37 λgp=>
 pv (.iN [true,true,false] 3 0) [a6,a37,a49,gj,a51] λa53=>
 Ya a7 (ii 1) λiV=>
 k0 [a53,iV]) (
 pv (.sub 3 false true) [a6,a37] λfR=>
 pv (.ll) [a6,ii 0,fR] λa46=>
 Yo (.l []) fR λgb=>
 mQ (bq [aI,ca,a31]) λfA a49 gj=>
 pv (.lit 3 [true,true,false]) [fA,a49,gj] λa51=>
 Yo gb a51 λgp=>
 pv (.sub 3 true false) [a6,a37] λa53=>
 pv (.ll) [a46,a37,a53] λiV=>
 Yo gp a53 λh_=>
 Ya a7 (ii 1) λkf=>
 k0 [h_,kf])) (
 pv (.sub 3 false true) [a6,a37] λfy=>
 pv (.ll) [a6,ii 0,fy] λfw=>
 Yo (.l []) fy λfN=>
 mQ (bq [aI,ca,a31]) λfR a46 gb=>
 pv (.lit 3 [true,true,false]) [fR,a46,gb] λfA=>
 Yo fN fA λa49=>
 pv (.sub 3 true false) [a6,a37] λgj=>
 pv (.ll) [fw,a37,gj] λa51=>
 Yo a49 gj λgp=>
 Ya a7 (ii 1) λa53=>
 k0 [gp,a53]))) ts
def o8:Option (List T):=
 (di λa6 a7=>
 Yl a7 a5 λa8=>
 ax a8 (
 Y8 a0 a7 λaD aK a12 aI aJ aL aN aS=>
 Yu aK (ii 2) λaO=>
 ax aO (
 Ya a7 (ii 1) λaR=>
 k0 [a6,aR]) (
 Yh aN (ii 60000) λaR=>
 ax aR (
 Ya a7 (ii 1) λa20=>
 k0 [a6,a20]) (
 Ye a12 a3 λa20=>
 ax a20 (
 Ya a7 (ii 1) λa21=>
 k0 [a6,a21]) (
 aY (cY [a1,aD]) λa21=>
 Yt a21 λbg=>
 ax bg (
 Ya a7 (ii 1) λaZ=>
 k0 [a6,aZ]) (
 ax a2 (
 Yu aD (ii 0) λaZ=>
 ax aZ (
 Ya a7 (ii 1) λa24=>
 k0 [a6,a24]) (
 fe (dN [a4,aI]) λa24 bh bc bm=>
 aY (dB [a0,aD,a3]) λa28=>
 fe (dN [a28,a12]) λbz bM a31 bS=>
 ax bm (
 Ya a7 (ii 1) λbV=>
 k0 [a6,bV]) (
 Yt bS λbV=>
 ax bV (
 Ya a7 (ii 1) λb9=>
 k0 [a6,b9]) (
 Ya aN bM λb9=>
 Yh b9 (ii 60000) λch=>
 ax ch (
 Ya a7 (ii 1) λca=>
 k0 [a6,ca]) (
 Ya aN bM λca=>
 iter (oH bJ bq a6 a7 aI a31 ca k0) R [ii 0]))))) (
 fe (dN [a4,aI]) λaZ a24 bh bc=>
 aY (dB [a0,aD,a3]) λbm=>
 fe (dN [bm,a12]) λa28 bz bM a31=>
 ax bc (
 Ya a7 (ii 1) λbS=>
 k0 [a6,bS]) (
 Yt a31 λbS=>
 ax bS (
 Ya a7 (ii 1) λbV=>
 k0 [a6,bV]) (
 Ya aN bz λbV=>
 Yh bV (ii 60000) λb9=>
 ax b9 (
 Ya a7 (ii 1) λch=>
 k0 [a6,ch]) (
 Ya aN bz λch=>
 iter (oG bJ bq a6 a7 aI bM ch k0) R [ii 0]))))))))) (
 some [a6])) ts
def N7:Option (List T):=
 aY (dA [a0,a1,a3]) λa4=>
 Yn a0 λa5=>
 iter (o8 R bJ dN dB bq cY a0 a1 a2 a3 a4 a5) R [.l [],ii 0]
theorem arv:(aay).den (pick [(175,cY),(176,dB),(178,dN),(179,dA),(224,bq),(227,bJ)]) R [] [a0,a1,a2,a3]=N7 R dA bJ dN dB bq cY a0 a1 a2 a3:=(cF (by kernel_rfl)).trans (by kernel_rfl)
theorem arw:uC_ [a0,a1,a2,a3]=N7 rounds Mi zd Mh Gm xC CH a0 a1 a2 a3:=fs_z.trans (arv rounds ..)
def vt:Option (List T):=
 (sD λaO aR a20=>
 Yl aO aS λa21=>
 ax a21 (
 Y3 a20 aO λaZ a24 bh=>
 fe (dN [a8,aZ]) λbc bm a28 bz=>
 Yt bz λbM=>
 ax bM (
 Yu aZ a2 λa31=>
 ax a31 (
 aY (bE [aR,a3,ii 2,a2,aZ,ii 0,.l [],a24,bb false]) λbS=>
 Yl bS (ii 0) λbV=>
 jn (dz λb9=>
 Ya aO (ii 1) λch=>
 k3 [ch,b9,a20]) λk4=>
 ax bV (
 aY (bK [aR,a3,ii 2,a2,aZ,ii 0,.l [],a24,bb false]) λb9=>
 k4 [b9]) (
 k4 [aR])) (
 jn (dz λbS=>
 Ya aO (ii 1) λbV=>
 k3 [bV,bS,a20]) λk4=>
 k4 [aR])) (
 jn (dz λa31=>
 Ya aO (ii 1) λbS=>
 k3 [bS,a31,a20]) λk4=>
 k4 [aR])) (
 k2 [aR])) ts
def vu:Option (List T):=
 (sD λaK a12 aI=>
 Yl aK aD λaJ=>
 ax aJ (
 Y3 aI aK λaN aS aO=>
 fe (dN [a8,aN]) λaR a20 a21 bg=>
 Yt bg λaZ=>
 ax aZ (
 Yu aN a2 λa24=>
 ax a24 (
 aY (bE [a12,a3,ii 2,a2,aN,ii 0,.l [],aS,bb false]) λbh=>
 Yl bh (ii 0) λbc=>
 jn (dz λbm=>
 Ya aK (ii 1) λa28=>
 k1 [a28,bm,aI]) λk2=>
 ax bc (
 aY (bK [a12,a3,ii 2,a2,aN,ii 0,.l [],aS,bb false]) λbm=>
 k2 [bm]) (
 k2 [a12])) (
 jn (dz λbh=>
 Ya aK (ii 1) λbc=>
 k1 [bc,bh,aI]) λk2=>
 k2 [a12])) (
 jn (dz λa24=>
 Ya aK (ii 1) λbh=>
 k1 [bh,a24,aI]) λk2=>
 k2 [a12])) (
 Yu a3 (ii 0) λaL=>
 jn (dz λaN=>
 some [aN]) λk2=>
 ax aL (
 aY (ff [a0,a1,bb true,a2]) λaN=>
 Yn aN λaS=>
 iter (vt dN bE bK a2 a3 a8 aS k2) R [ii 0,a12,aN]) (
 k2 [a12]))) ts
def vw:Option (List T):=
 (di λa5 a6=>
 Yl a6 a4 λa7=>
 ax a7 (
 Y1 a1 a6 λa9=>
 Yu a9 a3 λaD=>
 jn (dz λaK=>
 Ya a6 (ii 1) λa12=>
 k0 [aK,a12]) λk1=>
 ax aD (
 Yx a9 λaK=>
 Yp a5 aK λa12=>
 k1 [a12]) (
 k1 [a5])) (
 aY (dB [a0,a3,a2]) λa8=>
 aY (dA [a0,a5,a2]) λa9=>
 Yn a9 λaD=>
 iter (vu R ff dN bE bK a0 a1 a2 a3 a8 aD) R [ii 0,.l [],a9])) ts
def N8:Option (List T):=
 Yn a1 λa4=>
 iter (vw R ff dA dN dB bE bK a0 a1 a2 a3 a4) R [.l [],ii 0]
theorem arx:(aaB).den (pick [(57,bK),(157,bE),(176,dB),(178,dN),(179,dA),(180,ff)]) R [] [a0,a1,a2,a3]=N8 R ff dA dN dB bE bK a0 a1 a2 a3:=(cF (by kernel_rfl)).trans (by kernel_rfl)
theorem ary:CO [a0,a1,a2,a3]=N8 rounds uC_ Mi Mh Gm rI sM a0 a1 a2 a3:=fs_z.trans (arx rounds ..)
def Ax:Option (List T):=
 (sD λbc bm a28=>
 Yl bm bh λbz=>
 ax bz (
 Y8 a28 bm λa31 bS bV b9 ch ca a37 cJ=>
 aY (bK [bc,a31,bS,bV,b9,ch,ca,a37,cJ]) λdm=>
 Ya bm (ii 1) λa40=>
 k3 [dm,a40,a28]) (
 Ya a20 (ii 1) λbM=>
 k2 [bc,bM])) ts
def Ay:Option (List T):=
 (di λaR a20=>
 Yl a20 aO λa21=>
 ax a21 (
 Yq aL a20 λaZ=>
 aY (jz [aS,aL,a0,aZ]) λa24=>
 Yn a24 λbh=>
 iter (Ax bK a20 bh k2) R [aR,ii 0,a24]) (
 k1 [aR,aI,aI,aI])) ts
def zi:Option (List T):=
 (di λbg aZ=>
 Yl aZ a21 λa24=>
 ax a24 (
 Y4 a4 aZ λbc bm a28 bz=>
 Ye bc a0 λbM=>
 jn (dz λa31=>
 Ya aZ (ii 1) λbS=>
 k1 [a31,bS]) λk2=>
 ax bM (
 aY (bK [bg,ii 9,ii 3,a0,bm,ii 0,.l [],a28,bz]) λa31=>
 k2 [a31]) (
 k2 [bg])) (
 some [bg])) ts
def Az:Option (List T):=
 (sD λaK a12 aI=>
 Yl a12 aD λaJ=>
 ax aJ (
 Y8 aI a12 λaN aS aO aR a20 a21 bg aZ=>
 aY (bK [aK,aN,aS,aO,aR,a20,a21,bg,aZ]) λa24=>
 Ya a12 (ii 1) λbh=>
 k0 [a24,bh,aI]) (
 aY (d_ [a2,a3,a4,a0]) λaL=>
 aY (kC [a2,a3,a4,a0]) λaN=>
 jn (wG λaS aO aR a20=>
 Yn a4 λa21=>
 iter (zi bK a0 a4 a21) R [aS,ii 0]) λk1=>
 ax aN (
 aY (sN [a6,a0,aI]) λaS=>
 Yn aL λaO=>
 iter (Ay R jz bK a0 aI aL aS aO k1) R [aK,ii 0]) (
 k1 [aK,aI,aI,aI]))) ts
def N9:Option (List T):=
 aY (dO [a0,a1,a2,a3,a4,a5,a6]) λa7=>
 Yt a7 λa8=>
 ax a8 (
 some [.l []]) (
 aY (sO [a0,a1,a2,a3,a4,a5,a6]) λa9=>
 Yn a9 λaD=>
 iter (Az R d_ jz kC sN bK a0 a2 a3 a4 a6 aD) R [.l [],ii 0,a9])
theorem arz:(aaD).den (pick [(13,dO),(57,bK),(73,sO),(74,d_),(75,kC),(76,sN),(77,jz)]) R [] [a0,a1,a2,a3,a4,a5,a6]=N9 R d_ jz kC dO sN sO bK a0 a1 a2 a3 a4 a5 a6:=(cF (by kernel_rfl)).trans (by kernel_rfl)
theorem arA:QA [a0,a1,a2,a3,a4,a5,a6]=N9 rounds Gk CO CK CC CL CJ sM a0 a1 a2 a3 a4 a5 a6:=fs_z.trans (arz rounds ..)
def GW:Option (List T):=
 aY (bE [a6,a7,a8,a9,aD,aK,a12,aI,aJ]) λaL=>
 Yh aL (ii 0) λaN=>
 jn (dz λaS=>
 Ya aS (ii 1) λaO=>
 pv (.bin .mul) [ii 1000,a1] λaR=>
 Ya aR (ii 1) λa20=>
 pv (.mx) [aO,a20] λa21=>
 Yz a21 λbg=>
 some [bg]) λk0=>
 ax aN (
 Yb a6 aL λaS=>
 Yc 8 4 a6 aL λaO=>
 k0 [aO]) (
 k0 [ii 0])
theorem arB:(aaF).den (pick [(157,bE)]) R [] [a0,a1,a2,a3,a4,a5,a6,a7,a8,a9,aD,aK,a12,aI,aJ]=GW bE a1 a6 a7 a8 a9 aD aK a12 aI aJ:=(cF (by kernel_rfl)).trans (by kernel_rfl)
theorem arC:CP [a0,a1,a2,a3,a4,a5,a6,a7,a8,a9,aD,aK,a12,aI,aJ]=GW rI a1 a6 a7 a8 a9 aD aK a12 aI aJ:=fs_z.trans (arB rounds ..)
def GX:Option (List T):=
 Yu a1 (ii 1) λa8=>
 jn (dz λa9=>
 Yz a7 λaD=>
 Yz a9 λaK=>
 Yz a4 λa12=>
 Yz a3 λaI=>
 Yz a2 λaJ=>
 Yz a1 λaL=>
 Yz a0 λaN=>
 some [aN,aL,aJ,aI,a12,.l [],aK,aD]) λk0=>
 ax a8 (
 k0 [ii 60000]) (
 k0 [a6])
theorem arD:(aaH).den (pick []) R [] [a0,a1,a2,a3,a4,a5,a6,a7]=GX a0 a1 a2 a3 a4 a6 a7:=(cF (by kernel_rfl)).trans (by kernel_rfl)
theorem arE:CQ [a0,a1,a2,a3,a4,a5,a6,a7]=GX a0 a1 a2 a3 a4 a6 a7:=fs_z.trans (arD rounds ..)
def C2:Option (List T):=
 (di λaJ aL=>
 Yl aL aI λaN=>
 ax aN (
 Y8 a6 aL λaO aR a20 a21 bg aZ a24 bh=>
 Yu a20 a0 λbc=>
 ax bc (
 Ya aL (ii 1) λbm=>
 k1 [aJ,bm]) (
 aY (bE [aK,aO,aR,a20,a21,bg,aZ,a24,bh]) λbm=>
 Yh bm (ii 0) λa28=>
 ax a28 (
 Ya aL (ii 1) λbz=>
 k1 [aJ,bz]) (
 jX (lS [aO,aR,a20,a21,bg,aZ,a24,bh]) λbz bM a31 bS bV b9 ch ca=>
 aY (dF [bz,bM,a31,bS,bV,b9,ch,ca,aO,aR,a20,a21,bg,aZ,a24,bh]) λa37=>
 Yt a37 λcJ=>
 jn (di λdm a40=>
 Ya aL (ii 1) λeO=>
 k1 [dm,eO]) λk2=>
 ax cJ (
 aY (iz [a0,a1,a2,a3,a4,a5,a6,aO,aR,a20,a21,bg,aZ,a24,bh]) λdm=>
 aY (bK [aJ,bz,bM,a31,bS,dm,b9,ch,ca]) λa40=>
 k2 [a40,dm]) (
 k2 [aJ,bV])))) (
 some [aJ])) ts
def C3:Option (List T):=
 (sD λa9 aD aK=>
 Yl aD a8 λa12=>
 ax a12 (
 Y8 aK aD λaJ aL aN aS aO aR a20 a21=>
 aY (bE [a6,aJ,aL,aN,aS,aO,aR,a20,a21]) λbg=>
 Yl bg (ii 0) λaZ=>
 ax aZ (
 jn (di λa24 bh=>
 Ya aD (ii 1) λbc=>
 k0 [a24,bc,aK]) λk1=>
 aY (iz [a0,a1,a2,a3,a4,a5,a6,aJ,aL,aN,aS,aO,aR,a20,a21]) λa24=>
 aY (bK [a9,aJ,aL,aN,aS,a24,aR,a20,a21]) λbh=>
 k1 [bh,a24]) (
 Y8 a6 bg λbh bc bm a28 bz bM a31 bS=>
 aY (dF [bh,bc,bm,a28,bz,bM,a31,bS,aJ,aL,aN,aS,aO,aR,a20,a21]) λbV=>
 Yt bV λb9=>
 jn (di λch ca=>
 Ya aD (ii 1) λa37=>
 k0 [ch,a37,aK]) λk1=>
 ax b9 (
 aY (iz [a0,a1,a2,a3,a4,a5,a6,aJ,aL,aN,aS,aO,aR,a20,a21]) λch=>
 aY (bK [a9,aJ,aL,aN,aS,ch,aR,a20,a21]) λca=>
 k1 [ca,ch]) (
 k1 [a9,aO]))) (
 Yn a6 λaI=>
 iter (C2 dF lS bE bK iz a0 a1 a2 a3 a4 a5 a6 aK aI) R [a9,ii 0])) ts
def N_:Option (List T):=
 aY (mR [a0,a1,a2,a3,a4,a5,a6]) λa7=>
 Yn a7 λa8=>
 iter (C3 R dF lS bE bK iz a0 a1 a2 a3 a4 a5 a6 a8) R [.l [],ii 0,a7]
theorem arF:(aaJ).den (pick [(18,mR),(57,bK),(157,bE),(158,dF),(159,iz),(160,lS)]) R [] [a0,a1,a2,a3,a4,a5,a6]=N_ R dF mR lS bE bK iz a0 a1 a2 a3 a4 a5 a6:=(cF (by kernel_rfl)).trans (by kernel_rfl)
theorem arG:CR [a0,a1,a2,a3,a4,a5,a6]=N_ rounds Md QA CQ rI sM CP a0 a1 a2 a3 a4 a5 a6:=fs_z.trans (arF rounds ..)
def Oa:Option (List T):=
 (sD λaR a20 a21=>
 Yl a21 aO λbg=>
 ax bg (
 Yb aN a21 λaZ=>
 pv (.bF 8 0) [aN,a21] λa24=>
 pv (.bF 8 1) [aN,a21] λbh=>
 pv (.bF 8 2) [aN,a21] λbc=>
 pv (.bF 8 3) [aN,a21] λbm=>
 pv (.bF 8 4) [aN,a21] λa28=>
 pv (.lF 8 5) [aN,a21] λbz=>
 pv (.bF 8 6) [aN,a21] λbM=>
 pv (.bF 8 7) [aN,a21] λa31=>
 Yg a28 (ii 100000) λbS=>
 ax bS (
 Yz a9 λbV=>
 Yz a8 λb9=>
 Yz a7 λch=>
 some [ch,b9,bV,aD,aK,a12,aI,.l []]) (
 pv (.lF 8 5) [aN,a21] λbV=>
 aY (bK [a20,a24,bh,bc,bm,a28,bV,bM,a31]) λb9=>
 Ya a21 (ii 1) λch=>
 k0 [aR,b9,ch])) (
 Yn a20 λaZ=>
 Yg aZ (ii 150) λa24=>
 ax a24 (
 Yz a9 λbh=>
 Yz a8 λbc=>
 Yz a7 λbm=>
 some [bm,bc,bh,aD,aK,a12,aI,.l []]) (
 Yz a9 λbh=>
 Yz a8 λbc=>
 Yz a7 λbm=>
 some [bm,bc,bh,aD,aK,a12,a20,aN]))) ts
def GY:Option (List T):=
 Ak (dX [a0,a1,a2,a3,a4,a5,a6]) λa7 a8 a9 aD aK a12 aI=>
 aY (dO [a0,a1,a2,a3,a4,a5,a6]) λaJ=>
 Yt aJ λaL=>
 ax aL (
 Yz a9 λaN=>
 Yz a8 λaS=>
 Yz a7 λaO=>
 some [aO,aS,aN,aD,aK,a12,aI,.l []]) (
 aY (oA [a0,a1,a2,a3,a4,a5,a6]) λaN=>
 aY (bD [a6]) λaS=>
 Yn aN λaO=>
 iter (Oa bK a7 a8 a9 aD aK a12 aI aN aO) R [.l [],aS,ii 0])
theorem arH:(aaL).den (pick [(13,dO),(54,dX),(55,oA),(56,bD),(57,bK)]) R [] [a0,a1,a2,a3,a4,a5,a6]=GY R dO bD dX oA bK a0 a1 a2 a3 a4 a5 a6:=(cF (by kernel_rfl)).trans (by kernel_rfl)
theorem ab2:Mk [a0,a1,a2,a3,a4,a5,a6]=GY rounds CC CE Ec CR sM a0 a1 a2 a3 a4 a5 a6:=fs_z.trans (arH rounds ..)
def I6:Option (List T):=
 (di λa7 a8=>
 Yl a8 a6 λa9=>
 ax a9 (
 Y8 a1 a8 λaK a12 aI aJ aL aN aS aO=>
 aY (bE [a7,aK,a12,aI,aJ,aL,aN,aS,aO]) λaR=>
 Yl aR (ii 0) λa20=>
 ax a20 (
 jn (dz λa21=>
 Ya a8 (ii 1) λbg=>
 k1 [a21,bg]) λk2=>
 aY (bK [a7,aK,a12,aI,aJ,aL,aN,aS,aO]) λa21=>
 k2 [a21]) (
 Yb a7 aR λa21=>
 pv (.bF 8 4) [a7,aR] λbg=>
 Yl bg aL λaZ=>
 jn (dz λa24=>
 Ya a8 (ii 1) λbh=>
 k1 [a24,bh]) λk2=>
 ax aZ (
 aY (bK [a7,aK,a12,aI,aJ,aL,aN,aS,aO]) λa24=>
 k2 [a24]) (
 k2 [a7]))) (
 some [a7])) ts
def I7:Option (List T):=
 (di λa3 a4=>
 Yl a4 a2 λa5=>
 ax a5 (
 Y8 a0 a4 λa7 a8 a9 aD aK a12 aI aJ=>
 aY (bK [a3,a7,a8,a9,aD,aK,a12,aI,aJ]) λaL=>
 Ya a4 (ii 1) λaN=>
 k0 [aL,aN]) (
 Yn a1 λa6=>
 iter (I6 bE bK a1 a6) R [a3,ii 0])) ts
def Ob:Option (List T):=
 Yn a0 λa2=>
 iter (I7 R bE bK a0 a1 a2) R [.l [],ii 0]
theorem arI:(aaO).den (pick [(57,bK),(157,bE)]) R [] [a0,a1]=Ob R bE bK a0 a1:=(cF (by kernel_rfl)).trans (by kernel_rfl)
theorem arJ:CS [a0,a1]=Ob rounds rI sM a0 a1:=fs_z.trans (arI rounds ..)
def GZ:Option (List T):=
 (di λa3 a4=>
 Yl a4 a2 λa5=>
 ax a5 (
 Y8 a0 a4 λa7 a8 a9 aD aK a12 aI aJ=>
 Ye a7 a1 λaL=>
 ax aL (
 jn (dz λaN=>
 Ya a4 (ii 1) λaS=>
 k0 [aN,aS]) λk1=>
 jX (bp [a7,a8,a9,aD,aK,a12,aI,aJ]) λaN aS aO aR a20 a21 bg aZ=>
 pv (.lit 8 [true,true,true,true,true,false,true,true]) [aN,aS,aO,aR,a20,a21,bg,aZ] λa24=>
 Yy a3 a24 λbh=>
 k1 [bh]) (
 Ye a7 (ii 9) λaN=>
 jn (dz λaS=>
 Ya a4 (ii 1) λaO=>
 k0 [aS,aO]) λk1=>
 ax aN (
 jX (bp [a7,a8,a9,aD,aK,a12,aI,aJ]) λaS aO aR a20 a21 bg aZ a24=>
 pv (.lit 8 [true,true,true,true,true,false,true,true]) [aS,aO,aR,a20,a21,bg,aZ,a24] λbh=>
 Yy a3 bh λbc=>
 k1 [bc]) (
 k1 [a3]))) (
 some [a3])) ts
def Oc:Option (List T):=
 Yn a0 λa2=>
 iter (GZ bp a0 a1 a2) R [.l [],ii 0]
theorem arK:(aaQ).den (pick [(161,bp)]) R [] [a0,a1]=Oc R bp a0 a1:=(cF (by kernel_rfl)).trans (by kernel_rfl)
theorem arL:Gn [a0,a1]=Oc rounds zb a0 a1:=fs_z.trans (arK rounds ..)
def Eh:Option (List T):=
 Yz aD λaL=>
 Yz a9 λaN=>
 Yz a0 λaS=>
 Yz a8 λaO=>
 some [aO,aS,aN,aL,aI,aJ,a0,a1,a2,a3,a4,a5,a6,a7]
theorem arM:(aaT).den (pick []) R [] [a0,a1,a2,a3,a4,a5,a6,a7,a8,a9,aD,aK,a12,aI,aJ]=Eh a0 a1 a2 a3 a4 a5 a6 a7 a8 a9 aD aI aJ:=(cF (by kernel_rfl)).trans (by kernel_rfl)
theorem I8:Ed [a0,a1,a2,a3,a4,a5,a6,a7,a8,a9,aD,aK,a12,aI,aJ]=Eh a0 a1 a2 a3 a4 a5 a6 a7 a8 a9 aD aI aJ:=fs_z.trans (arM rounds ..)
def QK:Option (List T):=
 (di λa3 a4=>
 Yl a4 a2 λa5=>
 ax a5 (
 Y8 a0 a4 λa7 a8 a9 aD aK a12 aI aJ=>
 aY (bE [a1,a7,a8,a9,aD,aK,a12,aI,aJ]) λaL=>
 Yl aL (ii 0) λaN=>
 ax aN (
 jn (dz λaS=>
 Ya a4 (ii 1) λaO=>
 k0 [aS,aO]) λk1=>
 jX (bp [a7,a8,a9,aD,aK,a12,aI,aJ]) λaS aO aR a20 a21 bg aZ a24=>
 pv (.lit 8 [true,true,true,true,true,false,true,true]) [aS,aO,aR,a20,a21,bg,aZ,a24] λbh=>
 Yy a3 bh λbc=>
 k1 [bc]) (
 Yb a1 aL λaS=>
 Yc 8 4 a1 aL λaO=>
 Yl aO aK λaR=>
 jn (dz λa20=>
 Ya a4 (ii 1) λa21=>
 k0 [a20,a21]) λk1=>
 ax aR (
 jX (bp [a7,a8,a9,aD,aK,a12,aI,aJ]) λa20 a21 bg aZ a24 bh bc bm=>
 pv (.lit 8 [true,true,true,true,true,false,true,true]) [a20,a21,bg,aZ,a24,bh,bc,bm] λa28=>
 Yy a3 a28 λbz=>
 k1 [bz]) (
 k1 [a3]))) (
 some [a3])) ts
def Od:Option (List T):=
 Yn a0 λa2=>
 iter (QK bp bE a0 a1 a2) R [.l [],ii 0]
theorem arN:(aaW).den (pick [(157,bE),(161,bp)]) R [] [a0,a1]=Od R bp bE a0 a1:=(cF (by kernel_rfl)).trans (by kernel_rfl)
theorem arO:CT [a0,a1]=Od rounds zb rI a0 a1:=fs_z.trans (arN rounds ..)
def km_:Option (List T):=
 (sD λa4 a5 a6=>
 Yl a5 a3 λa7=>
 ax a7 (
 Y8 a6 a5 λa9 aD aK a12 aI aJ aL aN=>
 jX (fK [a9,aD,aK,a12,aI,aJ,aL,aN]) λaS aO aR a20 a21 bg aZ a24=>
 pv (.lit 8 [true,true,true,true,true,false,true,true]) [aS,aO,aR,a20,a21,bg,aZ,a24] λbh=>
 Yy a4 bh λbc=>
 Ya a5 (ii 1) λbm=>
 k0 [bc,bm,a6]) (
 some [a4])) ts
def Oe:Option (List T):=
 aY (eC [a0,a1]) λa2=>
 Yn a2 λa3=>
 iter (km_ fK a3) R [.l [],ii 0,a2]
theorem arP:(aaY).den (pick [(186,eC),(187,fK)]) R [] [a0,a1]=Oe R eC fK a0 a1:=(cF (by kernel_rfl)).trans (by kernel_rfl)
theorem arQ:IW [a0,a1]=Oe rounds Gn Mb a0 a1:=fs_z.trans (arP rounds ..)
def Og:Option (List T):=
 aY (da [a0]) λa9=>
 Yt a9 λaD=>
 ax aD (
 Yz (bb false) λaK=>
 some [.l [],aK]) (
 aY (fi [a1,a2,a3,a4,a5,a6,a7,a8]) λaK=>
 Yt aK λa12=>
 ax a12 (
 Yz (bb false) λaI=>
 some [.l [],aI]) (
 aY (bE [a0,a1,a2,a3,a4,a5,a6,a7,a8]) λaI=>
 Yh aI (ii 0) λaJ=>
 ax aJ (
 Yb a0 aI λaL=>
 Yc 8 4 a0 aI λaN=>
 Yh aN a5 λaS=>
 ax aS (
 Yz (bb false) λaO=>
 some [.l [],aO]) (
 Yl aI (ii 0) λaO=>
 ax aO (
 Yn a0 λaR=>
 Yh aR (ii 150) λa20=>
 ax a20 (
 Yz (bb false) λa21=>
 some [.l [],a21]) (
 aY (bK [a0,a1,a2,a3,a4,a5,a6,a7,a8]) λa21=>
 Yz (bb true) λbg=>
 some [a21,bg])) (
 aY (bK [a0,a1,a2,a3,a4,a5,a6,a7,a8]) λaR=>
 Yz (bb true) λa20=>
 some [aR,a20]))) (
 Yl aI (ii 0) λaL=>
 ax aL (
 Yn a0 λaN=>
 Yh aN (ii 150) λaS=>
 ax aS (
 Yz (bb false) λaO=>
 some [.l [],aO]) (
 aY (bK [a0,a1,a2,a3,a4,a5,a6,a7,a8]) λaO=>
 Yz (bb true) λaR=>
 some [aO,aR])) (
 aY (bK [a0,a1,a2,a3,a4,a5,a6,a7,a8]) λaN=>
 Yz (bb true) λaS=>
 some [aN,aS]))))
theorem arR:(aa1).den (pick [(57,bK),(71,da),(157,bE),(173,fi)]) R [] [a0,a1,a2,a3,a4,a5,a6,a7,a8]=Og fi da bE bK a0 a1 a2 a3 a4 a5 a6 a7 a8:=(cF (by kernel_rfl)).trans (by kernel_rfl)
theorem arS:k5_ [a0,a1,a2,a3,a4,a5,a6,a7,a8]=Og L7 CB rI sM a0 a1 a2 a3 a4 a5 a6 a7 a8:=fs_z.trans (arR rounds ..)
def qO_:Option (List T):=
 (sD λa4 a5 a6=>
 Yl a6 a3 λa7=>
 ax a7 (
 Y8 a1 a6 λa9 aD aK a12 aI aJ aL aN=>
 FW (jO [a4,a9,aD,aK,a12,aI,aJ,aL,aN]) λaS aO=>
 jn (di λaR a20=>
 Ya a6 (ii 1) λa21=>
 k0 [aR,a20,a21]) λk1=>
 ax aO (
 jX (bp [a9,aD,aK,a12,aI,aJ,aL,aN]) λaR a20 a21 bg aZ a24 bh bc=>
 pv (.lit 8 [true,true,true,true,true,false,true,true]) [aR,a20,a21,bg,aZ,a24,bh,bc] λbm=>
 Yy a5 bm λa28=>
 k1 [aS,a28]) (
 k1 [a4,a5])) (
 some [a4,a5])) ts
def Oh:Option (List T):=
 aY (bD [a0]) λa2=>
 Yn a1 λa3=>
 iter (qO_ jO bp a1 a3) R [a2,.l [],ii 0]
theorem arT:(aa4).den (pick [(56,bD),(161,bp),(228,jO)]) R [] [a0,a1]=Oh R jO bp bD a0 a1:=(cF (by kernel_rfl)).trans (by kernel_rfl)
theorem arU:kL_ [a0,a1]=Oh rounds k5_ zb CE a0 a1:=fs_z.trans (arT rounds ..)
def G0:Option (List T):=
 Ak (dX [a0,a1,a2,a3,a4,a5,a6]) λa8 a9 aD aK a12 aI aJ=>
 aY (dO [a0,a1,a2,a3,a4,a5,a6]) λaL=>
 Yt aL λaN=>
 ax aN (
 Yz aD λaS=>
 Yz a9 λaO=>
 Yz a8 λaR=>
 some [aR,aO,aS,aK,a12,aI,aJ,.l []]) (
 FW (lV [a6,a7]) λaS aO=>
 Yz aD λaR=>
 Yz a9 λa20=>
 Yz a8 λa21=>
 some [a21,a20,aR,aK,a12,aI,aS,aO])
theorem arV:(aa7).den (pick [(13,dO),(54,dX),(192,lV)]) R [] [a0,a1,a2,a3,a4,a5,a6,a7]=G0 dO dX lV a0 a1 a2 a3 a4 a5 a6 a7:=(cF (by kernel_rfl)).trans (by kernel_rfl)
theorem arW:CU [a0,a1,a2,a3,a4,a5,a6,a7]=G0 CC Ec kL_ a0 a1 a2 a3 a4 a5 a6 a7:=fs_z.trans (arV rounds ..)
def pR:Option (List T):=
 (q8 λa53 iV h_ kf kh mo a59 ki mH jY iW=>
 Yl iV gp λm_=>
 ax m_ (
 Y4 iW iV λj4 mr nc lC=>
 aY (eC [gj,mr]) λa70=>
 Ye iV bg λnL=>
 jn (dz λa72=>
 ax lC (
 Yn a72 λmu=>
 Yg mu (ii 0) λl8=>
 jn (q8 λa75 a76 o7 qN qO a80 xD xE Gq IX a85=>
 Ya iV (ii 1) λQC=>
 k0 [Gq,QC,a75,a76,o7,qN,qO,a80,xD,xE,IX]) λk1=>
 ax l8 (
 q9 (cz [h_,kf,kh,mo,a59,ki,mH,jY,ii 3,j4,mr,nc,lC,.l [],a72]) λa75 a76 o7 qN qO a80 xD xE Gq IX a85 QC a87 a88=>
 pv (.lit 6 []) [a75,a76,o7,qN,qO,a80] λa89=>
 pv (.app false 6) [a53,a89] λa90=>
 k1 [xD,xE,Gq,IX,a85,QC,a87,a88,a90,iW,a72]) (
 k1 [h_,kf,kh,mo,a59,ki,mH,jY,a53,iW,a72])) (
 jn (q8 λmu l8 a75 a76 o7 qN qO a80 xD xE Gq=>
 Ya iV (ii 1) λIX=>
 k0 [xD,IX,mu,l8,a75,a76,o7,qN,qO,a80,xE]) λk1=>
 k1 [h_,kf,kh,mo,a59,ki,mH,jY,a53,iW,a72])) λk1=>
 ax nL (
 aY (eC [a51,mr]) λa72=>
 k1 [a72]) (
 k1 [a70])) (
 Yz kh λmq=>
 Yz kf λj4=>
 Yz h_ λmr=>
 some [mr,j4,mq,mo,a59,ki,mH,jY,a53])) ts
def pS:Option (List T):=
 (q8 λa46 gb fA a49 gj a51 gp a53 iV h_ kf=>
 Yl gb fR λkh=>
 ax kh (
 Y4 kf gb λa59 ki mH jY=>
 aY (eC [fw,ki]) λiW=>
 Ye gb (ii (-1)) λm_=>
 jn (dz λmq=>
 ax jY (
 Yn mq λj4=>
 Yg j4 (ii 0) λmr=>
 jn (q8 λnc lC a70 nL a72 mu l8 a75 a76 o7 qN=>
 Ya gb (ii 1) λqO=>
 k0 [a76,qO,nc,lC,a70,nL,a72,mu,l8,a75,o7]) λk1=>
 ax mr (
 q9 (cz [fA,a49,gj,a51,gp,a53,iV,h_,ii 3,a59,ki,mH,jY,.l [],mq]) λnc lC a70 nL a72 mu l8 a75 a76 o7 qN qO a80 xD=>
 pv (.lit 6 []) [nc,lC,a70,nL,a72,mu] λxE=>
 pv (.app false 6) [a46,xE] λGq=>
 k1 [l8,a75,a76,o7,qN,qO,a80,xD,Gq,kf,mq]) (
 k1 [fA,a49,gj,a51,gp,a53,iV,h_,a46,kf,mq])) (
 jn (q8 λj4 mr nc lC a70 nL a72 mu l8 a75 a76=>
 Ya gb (ii 1) λo7=>
 k0 [l8,o7,j4,mr,nc,lC,a70,nL,a72,mu,a75]) λk1=>
 k1 [fA,a49,gj,a51,gp,a53,iV,h_,a46,kf,mq])) λk1=>
 ax m_ (
 aY (eC [fN,ki]) λmq=>
 k1 [mq]) (
 k1 [iW])) (
 Yz gj λmo=>
 Yz a49 λa59=>
 Yz fA λki=>
 some [ki,a59,mo,a51,gp,a53,iV,h_,a46])) ts
def zj:Option (List T):=
 jX (fY [a0,a1,a2,a3,a4,a5,a6,a7]) λaJ aL aN aS aO aR a20 a21=>
 aY (oz [a0,a1,a2,a3,a4,a5,a6,a7,a9,aK]) λbg=>
 aY (et [a0,a1,a2,a3,a4,a5,a6,a7]) λaZ=>
 Yt aZ λa24=>
 ax a24 (
 Yz aN λbh=>
 Yz aL λbc=>
 Yz aJ λbm=>
 some [bm,bc,bh,aS,aO,aR,a20,a21,.l []]) (
 aY (kG [a8,a9,aD,aK,a12,aI]) λbh=>
 Yt bh λbc=>
 ax bc (
 Yz aN λbm=>
 Yz aL λa28=>
 Yz aJ λbz=>
 some [bz,a28,bm,aS,aO,aR,a20,a21,.l []]) (
 Yu aD a0 λbm=>
 ax bm (
 Yz aN λa28=>
 Yz aL λbz=>
 Yz aJ λbM=>
 some [bM,bz,a28,aS,aO,aR,a20,a21,.l []]) (
 Yl bg (ii 0) λa28=>
 ax a28 (
 Yz aN λbz=>
 Yz aL λbM=>
 Yz aJ λa31=>
 some [a31,bM,bz,aS,aO,aR,a20,a21,.l []]) (
 Ye a8 (ii 1) λbz=>
 ax bz (
 Yb a21 bg λbM=>
 aY (cY [a12,aJ]) λa31=>
 pv (.put true 4 2 1) [a21,bg,ii 3] λbS=>
 pv (.put true 4 3 1) [bS,bg,a31] λbV=>
 aY (dK [bV]) λb9=>
 jX (gE [aJ,aL,aN,aS,aO,b9,a20]) λch ca a37 cJ dm a40 eO fy=>
 aY (iy [.l [],fy]) λfw=>
 aY (iy [.l [],fy]) λfN=>
 Yn bV λfR=>
 iter (pS cz eC fw fN fR) R [.l [],ii 0,ch,ca,a37,cJ,dm,a40,eO,bV,bV]) (
 Yb a7 bg λbM=>
 Yc 4 3 a7 bg λa31=>
 Yt a31 λbS=>
 ax bS (
 Yz aN λbV=>
 Yz aL λb9=>
 Yz aJ λch=>
 some [ch,b9,bV,aS,aO,aR,a20,a21,.l []]) (
 Ye a8 (ii 2) λbV=>
 ax bV (
 Yb a21 bg λb9=>
 pv (.bF 4 0) [a21,bg] λch=>
 pv (.bF 4 1) [a21,bg] λca=>
 pv (.bF 4 2) [a21,bg] λa37=>
 pv (.bF 4 3) [a21,bg] λcJ=>
 aY (eC [a20,ca]) λdm=>
 aY (mg [dm,aI]) λa40=>
 Yn a40 λeO=>
 Yg eO (ii 0) λfy=>
 jn (B0 λfw fN fR a46 gb fA a49 gj a51 gp a53 iV h_ kf=>
 aY (mg [aI,dm]) λkh=>
 Yn kh λmo=>
 Yg mo (ii 0) λa59=>
 jn (Qu λki mH jY iW m_ mq j4 mr nc=>
 Yz jY λlC=>
 Yz mH λa70=>
 Yz ki λnL=>
 some [nL,a70,lC,iW,m_,mq,j4,mr,nc]) λk0=>
 ax a59 (
 aY (eK [a49,ca]) λki=>
 q9 (cz [fw,fN,fR,a46,gb,fA,a49,gj,ii 2,ch,ca,a37,cJ,.l [],ki]) λmH jY iW m_ mq j4 mr nc lC a70 nL a72 mu l8=>
 pv (.lit 6 []) [mH,jY,iW,m_,mq,j4] λa75=>
 pv (.app false 6) [a51,a75] λa76=>
 k0 [mr,nc,lC,a70,nL,a72,mu,l8,a76]) (
 k0 [fw,fN,fR,a46,gb,fA,a49,gj,a51])) λk0=>
 ax fy (
 q9 (cz [aJ,aL,aN,aS,aO,aR,a20,a21,ii 3,ch,ca,a37,cJ,.l [],a40]) λfw fN fR a46 gb fA a49 gj a51 gp a53 iV h_ kf=>
 pv (.lit 6 []) [fw,fN,fR,a46,gb,fA] λkh=>
 pv (.app false 6) [.l [],kh] λmo=>
 k0 [a49,gj,a51,gp,a53,iV,h_,kf,mo,a21,a20,a40,a40,a40]) (
 k0 [aJ,aL,aN,aS,aO,aR,a20,a21,.l [],a21,a20,a40,a40,a40])) (
 jX (ou [aJ,aL,aN,aS,aO,aR,a20,aI]) λb9 ch ca a37 cJ dm a40 eO=>
 jX (gE [b9,ch,ca,a37,cJ,dm,a40]) λfy fw fN fR a46 gb fA a49=>
 aY (iy [eO,a49]) λgj=>
 aY (iy [.l [],a49]) λa51=>
 Yn a21 λgp=>
 iter (pR cz eC bg gj a51 gp) R [.l [],ii 0,fy,fw,fN,fR,a46,gb,fA,a21,a21])))))))
theorem arX:(aa9).den (pick [(11,gE),(23,et),(81,fY),(82,dK),(85,cz),(86,eK),(91,oz),(92,kG),(95,ou),(175,cY),(186,eC),(191,mg),(193,iy)]) R [] [a0,a1,a2,a3,a4,a5,a6,a7,a8,a9,aD,aK,a12,aI]=zj R eK ou mg et cz kG gE eC fY oz cY dK iy a0 a1 a2 a3 a4 a5 a6 a7 a8 a9 aD aK a12 aI:=(cF (by kernel_rfl)).trans (by kernel_rfl)
theorem arY:jZ_ [a0,a1,a2,a3,a4,a5,a6,a7,a8,a9,aD,aK,a12,aI]=zj rounds IW CU CT Eb Ed ZZ Mk Gn Ma CF CH Gg CS a0 a1 a2 a3 a4 a5 a6 a7 a8 a9 aD aK a12 aI:=fs_z.trans (arX rounds ..)
def sR:Option (List T):=
 (dz λiW=>
 Yn a53 λm_=>
 Yl iW m_ λmq=>
 ax mq (
 Yq a53 iW λmr=>
 Yl mr kh λnc=>
 ax nc (
 Ya iW (ii 1) λlC=>
 k4 [lC]) (
 Yn a53 λlC=>
 Yl iW lC λa70=>
 ax a70 (
 Yq a53 iW λa72=>
 Ye a72 kh λmu=>
 ax mu (
 k3 [a53]) (
 Yw a53 iW λl8=>
 aY (aC [l8]) λa75=>
 Yx kh λa76=>
 Yp a75 a76 λo7=>
 Yv a53 iW λqN=>
 Yp o7 qN λqO=>
 k3 [qO])) (
 Yw a53 iW λnL=>
 aY (aC [nL]) λa72=>
 Yx kh λmu=>
 Yp a72 mu λl8=>
 Yv a53 iW λa75=>
 Yp l8 a75 λa76=>
 k3 [a76]))) (
 Yn a53 λj4=>
 Yl iW j4 λmr=>
 ax mr (
 Yq a53 iW λlC=>
 Ye lC kh λa70=>
 ax a70 (
 k3 [a53]) (
 Yw a53 iW λnL=>
 aY (aC [nL]) λa72=>
 Yx kh λmu=>
 Yp a72 mu λl8=>
 Yv a53 iW λa75=>
 Yp l8 a75 λa76=>
 k3 [a76])) (
 Yw a53 iW λnc=>
 aY (aC [nc]) λlC=>
 Yx kh λa70=>
 Yp lC a70 λnL=>
 Yv a53 iW λa72=>
 Yp nL a72 λmu=>
 k3 [mu]))) ts
def tF:Option (List T):=
 (di λa53 iV=>
 Yl iV gp λh_=>
 ax h_ (
 Y4 eO iV λkh mo a59 ki=>
 Ye mo a49 λmH=>
 ax mH (
 Yg a59 (ii 0) λjY=>
 jn (dz λiW=>
 Ya iV (ii 1) λm_=>
 k2 [iW,m_]) λk3=>
 ax jY (
 iter (sR aC a53 kh k3) R [ii 0]) (
 k3 [a53])) (
 jn (dz λjY=>
 Ya iV (ii 1) λiW=>
 k2 [jY,iW]) λk3=>
 k3 [a53])) (
 q9 (cz [b9,ch,ca,a37,cJ,dm,a40,eO,ii 1,fA,a49,gj,a51,a53,.l []]) λkf kh mo a59 ki mH jY iW m_ mq j4 mr nc lC=>
 pv (.lit 6 []) [kf,kh,mo,a59,ki,mH] λa70=>
 pv (.app false 6) [bS,a70] λnL=>
 jn (Qu λa72 mu l8 a75 a76 o7 qN qO a80=>
 Ya bV (ii 1) λxD=>
 k1 [a80,xD,a72,mu,l8,a75,a76,o7,qN,qO,fy,fw,fN,fR]) λk3=>
 ax a51 (
 aY (eK [nc,a49]) λa72=>
 q9 (cz [jY,iW,m_,mq,j4,mr,nc,lC,ii 2,fA,a49,gj,a51,.l [],a72]) λmu l8 a75 a76 o7 qN qO a80 xD xE Gq IX a85 QC=>
 pv (.lit 6 []) [mu,l8,a75,a76,o7,qN] λa87=>
 pv (.app false 6) [nL,a87] λa88=>
 k3 [qO,a80,xD,xE,Gq,IX,a85,QC,a88]) (
 k3 [jY,iW,m_,mq,j4,mr,nc,lC,nL]))) ts
def sS:Option (List T):=
 (B0 λbS bV b9 ch ca a37 cJ dm a40 eO fy fw fN fR=>
 Yl bV a31 λa46=>
 ax a46 (
 Y4 fR bV λfA a49 gj a51=>
 Yn eO λgp=>
 iter (tF R eK cz aC bS bV b9 ch ca a37 cJ dm a40 eO fy fw fN fR fA a49 gj a51 gp k1) R [.l [],ii 0]) (
 Yz ca λgb=>
 Yz ch λfA=>
 Yz b9 λa49=>
 some [a49,fA,gb,a37,cJ,dm,a40,eO,bS])) ts
def tG:Option (List T):=
 (di λaR a20=>
 Yl aR aO λa21=>
 ax a21 (
 Yb a20 aR λbg=>
 pv (.bF 4 2) [a20,aR] λaZ=>
 Ys aZ (ii 1) λa24=>
 pv (.mx) [a24,ii 0] λbh=>
 pv (.put true 4 2 1) [a20,aR,bh] λbc=>
 pv (.bF 4 3) [bc,aR] λbm=>
 ax bm (
 pv (.bF 4 2) [bc,aR] λa28=>
 Yg a28 (ii 0) λbz=>
 pv (.put true 4 3 1) [bc,aR,bz] λbM=>
 Ya aR (ii 1) λa31=>
 k0 [a31,bM]) (
 pv (.put true 4 3 1) [bc,aR,bb false] λa28=>
 Ya aR (ii 1) λbz=>
 k0 [bz,a28])) (
 aY (dK [a20]) λbg=>
 jX (gE [a8,a9,aD,aK,a12,bg,aJ]) λaZ a24 bh bc bm a28 bz bM=>
 Yn a20 λa31=>
 iter (sS R eK cz aC a31) R [.l [],ii 0,aZ,a24,bh,bc,bm,a28,bz,a20,a20,a20,a20,a20])) ts
def G4:Option (List T):=
 jX (fY [a0,a1,a2,a3,a4,a5,a6,a7]) λa8 a9 aD aK a12 aI aJ aL=>
 aY (et [a0,a1,a2,a3,a4,a5,a6,a7]) λaN=>
 Yt aN λaS=>
 ax aS (
 Yz aD λaO=>
 Yz a9 λaR=>
 Yz a8 λa20=>
 some [a20,aR,aO,aK,a12,aI,aJ,aL,.l []]) (
 Yn aL λaO=>
 iter (tG R eK cz gE aC dK a8 a9 aD aK a12 aJ aO) R [ii 0,aL])
theorem arZ:(abb).den (pick [(11,gE),(23,et),(81,fY),(82,dK),(85,cz),(86,eK),(156,aC)]) R [] [a0,a1,a2,a3,a4,a5,a6,a7]=G4 R eK et cz gE aC fY dK a0 a1 a2 a3 a4 a5 a6 a7:=(cF (by kernel_rfl)).trans (by kernel_rfl)
theorem ar0:jR_ [a0,a1,a2,a3,a4,a5,a6,a7]=G4 rounds IW Eb Ed Mk sL Ma Gg a0 a1 a2 a3 a4 a5 a6 a7:=fs_z.trans (arZ rounds ..)
def Oi:Option (List T):=
 Ak (cG [a0,a1,a2,a3,a4,a5,a6]) λa8 a9 aD aK a12 aI aJ=>
 pv (.lit 4 []) [] λaL=>
 pv (.app true 4) [aL,a7] λaN=>
 Yz aD λaS=>
 Yz a9 λaO=>
 Yz a8 λaR=>
 some [aR,aO,aS,aK,a12,aI,aJ,aN]
theorem ar_:(abf).den (pick [(59,cG)]) R [] [a0,a1,a2,a3,a4,a5,a6,a7]=Oi cG a0 a1 a2 a3 a4 a5 a6 a7:=(cF (by kernel_rfl)).trans (by kernel_rfl)
theorem ar':kK_ [a0,a1,a2,a3,a4,a5,a6,a7]=Oi Ea a0 a1 a2 a3 a4 a5 a6 a7:=fs_z.trans (ar_ rounds ..)
def G5:Option (List T):=
 (di λaD aK=>
 Yn a7 λa12=>
 Yl aK a12 λaI=>
 ax aI (
 Yb a7 aK λaJ=>
 Yc 4 0 a7 aK λaL=>
 Ye aL a8 λaN=>
 ax aN (
 Yb a7 aK λaS=>
 Yc 4 1 a7 aK λaO=>
 Ye aO a9 λaR=>
 ax aR (
 Yz aK λa20=>
 some [a20]) (
 Ya aK (ii 1) λa20=>
 k0 [aD,a20])) (
 Ya aK (ii 1) λaS=>
 k0 [aD,aS])) (
 Yz (ii (-1)) λaJ=>
 some [aJ])) ts
def Oj:Option (List T):=
 iter (G5 a7 a8 a9) R [ii 0,ii 0]
theorem asa:(abi).den (pick []) R [] [a0,a1,a2,a3,a4,a5,a6,a7,a8,a9]=Oj R a7 a8 a9:=(cF (by kernel_rfl)).trans (by kernel_rfl)
theorem asb:CV [a0,a1,a2,a3,a4,a5,a6,a7,a8,a9]=Oj rounds a7 a8 a9:=fs_z.trans (asa rounds ..)
def u8_:Option (List T):=
 (di λa5 a6=>
 Yn a0 λa7=>
 Yl a6 a7 λa8=>
 ax a8 (
 Y1 a0 a6 λaD=>
 Y1 a1 a6 λa12=>
 Yu aD a12 λaI=>
 ax aI (
 Yz (bb false) λaJ=>
 some [aJ]) (
 Ya a6 (ii 1) λaJ=>
 k0 [a5,aJ])) (
 Yz (bb true) λa9=>
 some [a9])) ts
def Ol:Option (List T):=
 Yn a0 λa2=>
 Yn a1 λa3=>
 Yu a2 a3 λa4=>
 ax a4 (
 Yz (bb false) λa5=>
 some [a5]) (
 iter (u8_ a0 a1) R [bb false,ii 0])
theorem asc:(abk).den (pick []) R [] [a0,a1]=Ol R a0 a1:=(cF (by kernel_rfl)).trans (by kernel_rfl)
theorem asd:u4_ [a0,a1]=Ol rounds a0 a1:=fs_z.trans (asc rounds ..)
def QL:Option (List T):=
 (sD λaJ aL aN=>
 Ym aN (ii 2) λaS=>
 ax aS (
 aY (bO [a2,a3,a4,a0,a12,aN]) λaO=>
 Ye aO (ii 0) λaR=>
 ax aR (
 Ya aN (ii 1) λa20=>
 k1 [aJ,aL,a20]) (
 Yn a7 λa20=>
 Yh aL a20 λa21=>
 ax a21 (
 Yz (bb false) λbg=>
 some [bg]) (
 Yb a7 aL λbg=>
 Yc 4 0 a7 aL λaZ=>
 Yu aZ a12 λa24=>
 ax a24 (
 Yz (bb false) λbh=>
 some [bh]) (
 Yb a7 aL λbh=>
 Yc 4 1 a7 aL λbc=>
 Yu bc aN λbm=>
 ax bm (
 Yz (bb false) λa28=>
 some [a28]) (
 Yb a7 aL λa28=>
 Yc 4 2 a7 aL λbz=>
 aY (aT [bz,ii 0,ii 3]) λbM=>
 Yt bM λa31=>
 ax a31 (
 Yz (bb false) λbS=>
 some [bS]) (
 Yb a7 aL λbS=>
 Yc 4 3 a7 aL λbV=>
 ax bV (
 Yb a7 aL λb9=>
 Yc 4 2 a7 aL λch=>
 Ye ch (ii 0) λca=>
 ax ca (
 Yz (bb false) λa37=>
 some [a37]) (
 Ya aL (ii 1) λa37=>
 Ya aN (ii 1) λcJ=>
 k1 [aJ,a37,cJ])) (
 Ya aL (ii 1) λb9=>
 Ya aN (ii 1) λch=>
 k1 [aJ,b9,ch]))))))) (
 Ya a12 (ii 1) λaO=>
 k0 [aJ,aL,aO])) ts
def QM:Option (List T):=
 (sD λaD aK a12=>
 Ym a12 a2 λaI=>
 ax aI (
 iter (QL bO aT a0 a2 a3 a4 a7 a12 k0) R [aD,aK,ii 0]) (
 Yn a7 λaJ=>
 Ye aK aJ λaL=>
 ax aL (
 aY (dl [a7]) λaN=>
 aY (gv [a5,aN]) λaS=>
 Yz aS λaO=>
 some [aO]) (
 Yz (bb false) λaN=>
 some [aN]))) ts
def Om:Option (List T):=
 aY (cZ [a0,a1,a2,a3,a4,a5,a6]) λa8=>
 Yt a8 λa9=>
 ax a9 (
 Yz (bb false) λaD=>
 some [aD]) (
 iter (QM R bO aT dl gv a0 a2 a3 a4 a5 a7) R [bb false,ii 0,ii 1])
theorem ase:(abn).den (pick [(58,cZ),(101,dl),(105,aT),(150,bO),(194,gv)]) R [] [a0,a1,a2,a3,a4,a5,a6,a7]=Om R bO cZ aT dl gv a0 a1 a2 a3 a4 a5 a6 a7:=(cF (by kernel_rfl)).trans (by kernel_rfl)
theorem asf:CW [a0,a1,a2,a3,a4,a5,a6,a7]=Om rounds wH za ra Ga u4_ a0 a1 a2 a3 a4 a5 a6 a7:=fs_z.trans (ase rounds ..)
def pT:Option (List T):=
 (di λa12 aI=>
 Yn a5 λaJ=>
 Yl aI aJ λaL=>
 ax aL (
 Y8 a5 aI λaS aO aR a20 a21 bg aZ a24=>
 jn (dz λbh=>
 ax bh (
 Yz (bb false) λbc=>
 some [bc]) (
 Ya aI (ii 1) λbc=>
 k1 [a12,bc])) λk2=>
 Yu aS a3 λbh=>
 ax bh (
 Yu aS (ii 9) λbc=>
 ax bc (
 k2 [bb true]) (
 Ye a0 (ii 2) λbm=>
 ax bm (
 jX (bk [aS,aO,aR,a20,a21,bg,aZ,a24]) λa28 bz bM a31 bS bV b9 ch=>
 jX (ed [a28,bz,bM,a31,bS,bV,b9,ch]) λca a37 cJ dm a40 eO fy fw=>
 aY (cW [ca,a37,cJ,dm,a40,eO,fy,fw,aS,aO,aR,a20,a21,bg,aZ,a24]) λfN=>
 Yt fN λfR=>
 k2 [fR]) (
 k2 [bb false]))) (
 Ye a0 (ii 2) λbc=>
 ax bc (
 jX (bk [aS,aO,aR,a20,a21,bg,aZ,a24]) λbm a28 bz bM a31 bS bV b9=>
 jX (ed [bm,a28,bz,bM,a31,bS,bV,b9]) λch ca a37 cJ dm a40 eO fy=>
 aY (cW [ch,ca,a37,cJ,dm,a40,eO,fy,aS,aO,aR,a20,a21,bg,aZ,a24]) λfw=>
 Yt fw λfN=>
 k2 [fN]) (
 k2 [bb false]))) (
 Yz (bb true) λaN=>
 some [aN])) ts
def qP:Option (List T):=
 (di λa7 a8=>
 Yn a4 λa9=>
 Yl a8 a9 λaD=>
 ax aD (
 Y1 a4 a8 λa12=>
 aY (aT [a12,ii 1,ii 6]) λaI=>
 Yt aI λaJ=>
 ax aJ (
 Yz (bb false) λaL=>
 some [aL]) (
 Yg a8 (ii 0) λaL=>
 ax aL (
 Ys a8 (ii 1) λaN=>
 Y1 a4 aN λaO=>
 Y1 a4 a8 λa20=>
 Yh aO a20 λa21=>
 ax a21 (
 Yz (bb false) λbg=>
 some [bg]) (
 Ya a8 (ii 1) λbg=>
 k0 [a7,bg])) (
 Ya a8 (ii 1) λaN=>
 k0 [a7,aN]))) (
 jn (dz λaK=>
 ax aK (
 Yz (bb false) λa12=>
 some [a12]) (
 iter (pT cW bk ed a0 a3 a5) R [a7,ii 0])) λk1=>
 Ye a0 (ii 1) λaK=>
 ax aK (
 Yn a5 λa12=>
 Yg a12 (ii 0) λaI=>
 ax aI (
 k1 [bb true]) (
 Yu a0 (ii 1) λaJ=>
 ax aJ (
 Yn a4 λaL=>
 Yg aL (ii 0) λaN=>
 ax aN (
 k1 [bb true]) (
 aY (cg [a5]) λaS=>
 Yt aS λaO=>
 k1 [aO])) (
 aY (cg [a5]) λaL=>
 Yt aL λaN=>
 k1 [aN]))) (
 Yu a0 (ii 1) λa12=>
 ax a12 (
 Yn a4 λaI=>
 Yg aI (ii 0) λaJ=>
 ax aJ (
 k1 [bb true]) (
 aY (cg [a5]) λaL=>
 Yt aL λaN=>
 k1 [aN])) (
 aY (cg [a5]) λaI=>
 Yt aI λaJ=>
 k1 [aJ])))) ts
def I9:Option (List T):=
 jn (dz λa6=>
 ax a6 (
 Yz (bb false) λa7=>
 some [a7]) (
 iter (qP R cW cg aT bk ed a0 a3 a4 a5) R [bb false,ii 0])) λk0=>
 aY (aT [a0,ii 1,ii 3]) λa6=>
 Yt a6 λa7=>
 ax a7 (
 k0 [bb true]) (
 aY (aT [a1,ii 1,ii 6]) λa8=>
 Yt a8 λa9=>
 ax a9 (
 k0 [bb true]) (
 aY (aT [a2,ii 1,ii 6]) λaD=>
 Yt aD λaK=>
 ax aK (
 k0 [bb true]) (
 Ye a1 a2 λa12=>
 ax a12 (
 k0 [bb true]) (
 aY (aT [a3,ii 0,ii 2]) λaI=>
 Yt aI λaJ=>
 k0 [aJ]))))
theorem asg:(abp).den (pick [(19,cW),(65,bk),(105,aT),(106,cg),(107,ed)]) R [] [a0,a1,a2,a3,a4,a5]=I9 R cW cg aT bk ed a0 a1 a2 a3 a4 a5:=(cF (by kernel_rfl)).trans (by kernel_rfl)
theorem ash:Ml [a0,a1,a2,a3,a4,a5]=I9 rounds F9 y_ ra sJ Gb a0 a1 a2 a3 a4 a5:=fs_z.trans (asg rounds ..)
def AA:Option (List T):=
 (di λa24 bh=>
 Yn a8 λbc=>
 Yl bh bc λbm=>
 ax bm (
 Y8 a8 bh λbz bM a31 bS bV b9 ch ca=>
 aY (bf [a24,bz,bM,a31,bS,bV,b9,ch,ca]) λa37=>
 Ya bh (ii 1) λcJ=>
 k2 [a37,cJ]) (
 k1 [a24])) ts
def zk:Option (List T):=
 (di λbh bc=>
 Yn aD λbm=>
 Yl bc bm λa28=>
 ax a28 (
 Y8 aD bc λbM a31 bS bV b9 ch ca a37=>
 aY (bf [bh,bM,a31,bS,bV,b9,ch,ca,a37]) λcJ=>
 Ya bc (ii 1) λdm=>
 k1 [cJ,dm]) (
 aY (db [bh,aO]) λbz=>
 Yn bz λbM=>
 Yg bM (ii 0) λa31=>
 jn (dz λbS=>
 Ya aI (ii 1) λbV=>
 k0 [bS,bV]) λk2=>
 ax a31 (
 pv (.lit 6 [true,true,true,true,false,false]) [ii 3,a0,aS,aO,.l [],bz] λbS=>
 pv (.app false 6) [a12,bS] λbV=>
 k2 [bV]) (
 k2 [a12]))) ts
def C4:Option (List T):=
 (di λa12 aI=>
 Yn a7 λaJ=>
 Yl aI aJ λaL=>
 ax aL (
 Y4 a7 aI λaS aO aR a20=>
 Yt a20 λa21=>
 ax a21 (
 Ya aI (ii 1) λbg=>
 k0 [a12,bg]) (
 pv (.lit 8 []) [] λbg=>
 Yu aI a9 λaZ=>
 jn (dz λa24=>
 iter (zk db bf a0 aD a12 aI aS aO k0) R [a24,ii 0]) λk1=>
 ax aZ (
 iter (AA bf a8 k1) R [bg,ii 0]) (
 k1 [bg]))) (
 some [a12])) ts
def On:Option (List T):=
 pv (.lit 6 []) [] λaK=>
 iter (C4 R db bf a0 a7 a8 a9 aD) R [aK,ii 0]
theorem asi:(abt).den (pick [(62,bf),(184,db)]) R [] [a0,a1,a2,a3,a4,a5,a6,a7,a8,a9,aD]=On R db bf a0 a7 a8 a9 aD:=(cF (by kernel_rfl)).trans (by kernel_rfl)
theorem asj:kN_ [a0,a1,a2,a3,a4,a5,a6,a7,a8,a9,aD]=On rounds wI rH a0 a7 a8 a9 aD:=fs_z.trans (asi rounds ..)
def QN:Option (List T):=
 (di λa3 a4=>
 Yn a0 λa5=>
 Yl a4 a5 λa6=>
 ax a6 (
 Y8 a0 a4 λa8 a9 aD aK a12 aI aJ aL=>
 aY (cQ [a1,a8,a9,aD,aK,a12,aI,aJ,aL]) λaN=>
 Yl aN (ii 0) λaS=>
 ax aS (
 jn (dz λaO=>
 Ya a4 (ii 1) λaR=>
 k0 [aO,aR]) λk1=>
 Y8 a0 a4 λaR a20 a21 bg aZ a24 bh bc=>
 jX (bk [aR,a20,a21,bg,aZ,a24,bh,bc]) λbm a28 bz bM a31 bS bV b9=>
 pv (.lit 8 [true,true,true,true,true,false,true,true]) [bm,a28,bz,bM,a31,bS,bV,b9] λch=>
 Yy a3 ch λca=>
 k1 [ca]) (
 Yb a1 aN λaO=>
 Yc 8 4 a1 aN λaR=>
 Yb a0 a4 λa20=>
 Yc 8 4 a0 a4 λa21=>
 Yl aR a21 λbg=>
 jn (dz λaZ=>
 Ya a4 (ii 1) λa24=>
 k0 [aZ,a24]) λk1=>
 ax bg (
 Y8 a0 a4 λa24 bh bc bm a28 bz bM a31=>
 jX (bk [a24,bh,bc,bm,a28,bz,bM,a31]) λbS bV b9 ch ca a37 cJ dm=>
 pv (.lit 8 [true,true,true,true,true,false,true,true]) [bS,bV,b9,ch,ca,a37,cJ,dm] λa40=>
 Yy a3 a40 λeO=>
 k1 [eO]) (
 k1 [a3]))) (
 some [a3])) ts
def Oo:Option (List T):=
 pv (.lit 8 []) [] λa2=>
 iter (QN bk cQ a0 a1) R [a2,ii 0]
theorem asl:(abw).den (pick [(63,cQ),(65,bk)]) R [] [a0,a1]=Oo R bk cQ a0 a1:=(cF (by kernel_rfl)).trans (by kernel_rfl)
theorem asm:Mm [a0,a1]=Oo rounds sJ xB a0 a1:=fs_z.trans (asl rounds ..)
def Oq:Option (List T):=
 aY (eM [a6,a9]) λa12=>
 Yz a9 λaI=>
 Yz a8 λaJ=>
 Yz a0 λaL=>
 Yz (ii 2) λaN=>
 some [aN,aL,aJ,aI,.l [],a12]
theorem asn:(abz).den (pick [(185,eM)]) R [] [a0,a1,a2,a3,a4,a5,a6,a7,a8,a9,aD,aK]=Oq eM a0 a6 a8 a9:=(cF (by kernel_rfl)).trans (by kernel_rfl)
theorem aso:CX [a0,a1,a2,a3,a4,a5,a6,a7,a8,a9,aD,aK]=Oq Gc a0 a6 a8 a9:=fs_z.trans (asn rounds ..)
def QO:Option (List T):=
 pv (.lit 6 []) [] λaO=>
 aY (db [a6,aL]) λaR=>
 aY (gF [aR,aS]) λa20=>
 Yn a20 λa21=>
 Yg a21 (ii 0) λbg=>
 jn (dz λaZ=>
 aY (gF [aS,aR]) λa24=>
 Yn a24 λbh=>
 Yg bh (ii 0) λbc=>
 jn (dz λbm=>
 some [bm]) λk0=>
 ax bc (
 Lq (mZ [a0,a1,a2,a3,a4,a5,a6,a7,a8,a9,aD,aK]) λbm a28 bz bM a31 bS=>
 pv (.lit 6 []) [bm,a28,bz,bM,a31,bS] λbV=>
 pv (.app false 6) [aZ,bV] λb9=>
 k0 [b9]) (
 k0 [aZ])) λk0=>
 ax bg (
 pv (.lit 6 []) [ii 3,a0,a8,a9,.l [],a20] λaZ=>
 pv (.app false 6) [aO,aZ] λa24=>
 k0 [a24]) (
 k0 [aO])
theorem asp:(abB).den (pick [(28,gF),(111,mZ),(184,db)]) R [] [a0,a1,a2,a3,a4,a5,a6,a7,a8,a9,aD,aK,a12,aI,aJ,aL,aN,aS]=QO gF db mZ a0 a1 a2 a3 a4 a5 a6 a7 a8 a9 aD aK aL aS:=(cF (by kernel_rfl)).trans (by kernel_rfl)
theorem asq:qT_ [a0,a1,a2,a3,a4,a5,a6,a7,a8,a9,aD,aK,a12,aI,aJ,aL,aN,aS]=QO Mm wI CX a0 a1 a2 a3 a4 a5 a6 a7 a8 a9 aD aK aL aS:=fs_z.trans (asp rounds ..)
def QP:Option (List T):=
 (wG λaO aR a20 a21=>
 Yn a7 λbg=>
 Yl aR bg λaZ=>
 ax aZ (
 Y8 a7 aR λbh bc bm a28 bz bM a31 bS=>
 FW (bY [a20,bh,bc,bm,a28,bz,bM,a31,bS]) λbV b9=>
 jn (di λch ca=>
 Ya aR (ii 1) λa37=>
 k0 [ca,a37,ch,a21]) λk1=>
 ax b9 (
 Y8 a7 aR λca a37 cJ dm a40 eO fy fw=>
 jX (bk [ca,a37,cJ,dm,a40,eO,fy,fw]) λfN fR a46 gb fA a49 gj a51=>
 pv (.lit 8 [true,true,true,true,true,false,true,true]) [fN,fR,a46,gb,fA,a49,gj,a51] λgp=>
 Yy aO gp λa53=>
 k1 [bV,a53]) (
 k1 [a20,aO])) (
 aY (aM [a20]) λa24=>
 Yz aD λbh=>
 Yz a9 λbc=>
 Yz a8 λbm=>
 some [bm,bc,bh,aK,a12,aI,a24,aO])) ts
def G6:Option (List T):=
 Ak (cG [a0,a1,a2,a3,a4,a5,a6]) λa8 a9 aD aK a12 aI aJ=>
 pv (.lit 8 []) [] λaL=>
 aY (cZ [a0,a1,a2,a3,a4,a5,a6]) λaN=>
 Yt aN λaS=>
 ax aS (
 Yz aD λaO=>
 Yz a9 λaR=>
 Yz a8 λa20=>
 some [a20,aR,aO,aK,a12,aI,aJ,aL]) (
 iter (QP bk aM bY a7 a8 a9 aD aK a12 aI) R [aL,ii 0,aJ,aJ])
theorem asr:(abE).den (pick [(58,cZ),(59,cG),(65,bk),(66,aM),(154,bY)]) R [] [a0,a1,a2,a3,a4,a5,a6,a7]=G6 R cZ bk aM bY cG a0 a1 a2 a3 a4 a5 a6 a7:=(cF (by kernel_rfl)).trans (by kernel_rfl)
theorem ass:CY [a0,a1,a2,a3,a4,a5,a6,a7]=G6 rounds za sJ tv An Ea a0 a1 a2 a3 a4 a5 a6 a7:=fs_z.trans (asr rounds ..)
def Ei:Option (List T):=
 jX (l7 [a0,a1,a2,a3,a4,a5,a6,a7]) λaJ aL aN aS aO aR a20 a21=>
 pv (.lit 6 []) [] λbg=>
 aY (mY [a0,a1,a2,a3,a4,a5,a6,a7,a9,aK]) λaZ=>
 aY (mU [a0,a1,a2,a3,a4,a5,a6,a7]) λa24=>
 Yt a24 λbh=>
 ax bh (
 Yz aN λbc=>
 Yz aL λbm=>
 Yz aJ λa28=>
 some [a28,bm,bc,aS,aO,aR,a20,a21,bg]) (
 aY (eN [a8,a9,aD,aK,a12,aI]) λbc=>
 Yt bc λbm=>
 ax bm (
 Yz aN λa28=>
 Yz aL λbz=>
 Yz aJ λbM=>
 some [bM,bz,a28,aS,aO,aR,a20,a21,bg]) (
 Yu aD a0 λa28=>
 ax a28 (
 Yz aN λbz=>
 Yz aL λbM=>
 Yz aJ λa31=>
 some [a31,bM,bz,aS,aO,aR,a20,a21,bg]) (
 Yl aZ (ii 0) λbz=>
 ax bz (
 Yz aN λbM=>
 Yz aL λa31=>
 Yz aJ λbS=>
 some [bS,a31,bM,aS,aO,aR,a20,a21,bg]) (
 Ye a8 (ii 1) λbM=>
 ax bM (
 Yb a21 aZ λa31=>
 pv (.put true 4 2 1) [a21,aZ,ii 3] λbS=>
 aY (gG [a12,a0]) λbV=>
 Yb bS aZ λb9=>
 pv (.put true 4 3 1) [bS,aZ,bV] λch=>
 aY (dl [ch]) λca=>
 jX (eD [aJ,aL,aN,aS,aO,ca,a20]) λa37 cJ dm a40 eO fy fw fN=>
 pv (.lit 8 []) [] λfR=>
 aY (jQ [a37,cJ,dm,a40,eO,fy,fw,ch,fR,ii (-1),fN]) λa46=>
 Yz dm λgb=>
 Yz cJ λfA=>
 Yz a37 λa49=>
 some [a49,fA,gb,a40,eO,fy,fw,ch,a46]) (
 Yb a7 aZ λa31=>
 Yc 4 3 a7 aZ λbS=>
 Yt bS λbV=>
 ax bV (
 Yz aN λb9=>
 Yz aL λch=>
 Yz aJ λca=>
 some [ca,ch,b9,aS,aO,aR,a20,a21,bg]) (
 Ye a8 (ii 2) λb9=>
 ax b9 (
 Y4 a21 aZ λca a37 cJ dm=>
 aY (jB [aJ,aL,aN,aS,aO,aR,a20,a21,ca,a37,cJ,dm,a8,a9,aD,aK,a12,aI]) λa40=>
 Yz aN λeO=>
 Yz aL λfy=>
 Yz aJ λfw=>
 some [fw,fy,eO,aS,aO,aR,a20,a21,a40]) (
 jX (oB [aJ,aL,aN,aS,aO,aR,a20,aI]) λch ca a37 cJ dm a40 eO fy=>
 jX (eD [ch,ca,a37,cJ,dm,a40,eO]) λfw fN fR a46 gb fA a49 gj=>
 aY (jQ [fw,fN,fR,a46,gb,fA,a49,a21,fy,aZ,gj]) λa51=>
 Yz fR λgp=>
 Yz fN λa53=>
 Yz fw λiV=>
 some [iV,a53,gp,a46,gb,fA,a49,a21,a51])))))))
theorem ast:(abG).den (pick [(12,eD),(29,eN),(97,l7),(98,mY),(99,mU),(100,gG),(101,dl),(102,jQ),(103,jB),(104,oB)]) R [] [a0,a1,a2,a3,a4,a5,a6,a7,a8,a9,aD,aK,a12,aI]=Ei oB mU eN eD gG l7 mY jB dl jQ a0 a1 a2 a3 a4 a5 a6 a7 a8 a9 aD aK a12 aI:=(cF (by kernel_rfl)).trans (by kernel_rfl)
theorem asu:j2_ [a0,a1,a2,a3,a4,a5,a6,a7,a8,a9,aD,aK,a12,aI]=Ei CY CW Ml F_ LL kK_ CV qT_ Ga kN_ a0 a1 a2 a3 a4 a5 a6 a7 a8 a9 aD aK a12 aI:=fs_z.trans (ast rounds ..)
def C5:Option (List T):=
 (di λmq j4=>
 Yn a9 λmr=>
 Yl j4 mr λnc=>
 ax nc (
 ax mq (
 Ya j4 (ii 1) λlC=>
 k1 [bb true,lC]) (
 Yb a9 j4 λlC=>
 Yc 4 0 a9 j4 λa70=>
 Yb ki jY λnL=>
 Yc 6 2 ki jY λa72=>
 Ye a70 a72 λmu=>
 ax mu (
 Yb a9 j4 λl8=>
 Yc 4 1 a9 j4 λa75=>
 Yb ki jY λa76=>
 Yc 6 3 ki jY λo7=>
 Ye a75 o7 λqN=>
 Ya j4 (ii 1) λqO=>
 k1 [qN,qO]) (
 Ya j4 (ii 1) λl8=>
 k1 [bb false,l8]))) (
 Yt mq λlC=>
 ax lC (
 Yz (bb false) λa70=>
 some [a70]) (
 Yb ki jY λa70=>
 Yc 6 1 ki jY λnL=>
 Yu nL a2 λa72=>
 ax a72 (
 Yz (bb false) λmu=>
 some [mu]) (
 Y6 ki jY λl8 a75 a76 o7 qN qO=>
 aY (eN [l8,a75,a76,o7,qN,qO]) λa80=>
 Yt a80 λxD=>
 ax xD (
 Yz (bb false) λxE=>
 some [xE]) (
 Ya jY (ii 1) λxE=>
 k0 [mH,xE]))))) ts
def C6:Option (List T):=
 (di λmH jY=>
 Yn ki λiW=>
 Yl jY iW λm_=>
 ax m_ (
 iter (C5 eN a2 a9 ki mH jY k0) R [bb false,ii 0]) (
 Yn ch λmq=>
 Yn a9 λj4=>
 Yh mq j4 λmr=>
 Yz mr λnc=>
 some [nc])) ts
def G7:Option (List T):=
 aY (CZ [a0]) λa1=>
 ax a1 (
 Yz (bb true) λa2=>
 some [a2]) (
 q9 (gW [a0]) λa2 a3 a4 a5 a6 a7 a8 a9 aD aK a12 aI aJ aL=>
 aY (et [a2,a3,a4,a5,a6,a7,a8,a9]) λaN=>
 Yt aN λaS=>
 ax aS (
 Yz (bb false) λaO=>
 some [aO]) (
 uA (kE [a2,a3,a4,a5,a6,a7,a8,a9,aD,aK,a12,aI,aJ,aL]) λaO aR a20 a21 bg aZ a24 bh bc=>
 uA (kH [a2,a3,a4,a5,a6,a7,a8,a9]) λbm a28 bz bM a31 bS bV b9 ch=>
 uA (kL [a2,a3,a4,a5,a6,a7,a8,a9,aD,aK,a12,aI,aJ,aL]) λca a37 cJ dm a40 eO fy fw fN=>
 Yn bc λfR=>
 Yn fN λa46=>
 Yu fR a46 λgb=>
 ax gb (
 Yz (bb false) λfA=>
 some [fA]) (
 aY (et [aO,aR,a20,a21,bg,aZ,a24,bh]) λfA=>
 Yt fA λa49=>
 ax a49 (
 Yz (bb false) λgj=>
 some [gj]) (
 aY (et [bm,a28,bz,bM,a31,bS,bV,b9]) λgj=>
 Yt gj λa51=>
 ax a51 (
 Yz (bb false) λgp=>
 some [gp]) (
 aY (gF [a8,a24]) λgp=>
 Yn gp λa53=>
 Yu a53 (ii 0) λiV=>
 ax iV (
 Yz (bb false) λh_=>
 some [h_]) (
 aY (gF [a8,bV]) λh_=>
 Yn h_ λkf=>
 Yu kf (ii 0) λkh=>
 ax kh (
 Yz (bb false) λmo=>
 some [mo]) (
 pv (.lit 6 []) [] λmo=>
 pv (.app false 6) [mo,bc] λa59=>
 pv (.app false 6) [a59,ch] λki=>
 iter (C6 R eN a2 a9 ch ki) R [bb false,ii 0])))))))
theorem asv:(ot).den (pick [(9,CZ),(21,gW),(22,kH),(23,et),(26,kE),(27,kL),(28,gF),(29,eN)]) R [] [a0]=G7 R CZ kE et kH gW kL gF eN a0:=(cF (by kernel_rfl)).trans (by kernel_rfl)
theorem asw:Gp [a0]=G7 rounds Ca jZ_ Eb jR_ YO j2_ Mm Ml a0:=asv ..
end
end Go.Proofs.YtjimmglpkndemaaGreatC
