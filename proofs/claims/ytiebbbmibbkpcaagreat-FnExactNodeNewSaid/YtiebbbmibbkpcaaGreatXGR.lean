/- The plain programs as native functions (printed by a program). Conditions: none. -/
import Derived.Test.YtiebbbmibbkpcaaGreatXPR
import Derived.Test.YtiebbbmibbkpcaaGreatKe
namespace Go.Proofs.YtiebbbmibbkpcaaGreatC
set_option linter.unusedVariables false
section
variable (R:Nat) (f_FnExactNodeNew f_FnExactRenew f_FnExactRoutes f_FnExactSettled f_FnExactTrueRoutes f_eqBoolS f_eqEar f_eqEarS f_eqIntS f_eqLink f_eqLinkS f_eqNear f_eqNearS f_eqNet f_eqNode f_eqNodeS f_eqPacket f_eqPacketS f_eqRecord f_eqRecordS f_eqRoute f_eqRouteS f_eqSelf f_eqThing f_eqThingS f_eqWorld f_heldEarS f_heldIntS f_heldLinkS f_heldNearS f_heldNet f_heldNode f_heldRecordS f_heldRouteS f_heldSelf f_heldThingS f_i_AreasOf f_i_Before f_i_Beyond f_i_Border f_i_CostTo f_i_Ideal f_i_LinkOk f_i_Linked f_i_NetOk f_i_NextTo f_i_NodeNew f_i_NodeOk f_i_RecordOk f_i_Renew f_i_Routes f_i_RoutesBeyond f_i_RoutesOf f_i_RoutesWithin f_i_SameBody f_i_SameKey f_i_SelfOk f_i_Settled f_i_StoreOk f_i_Together f_i_TrueRoutes f_i_Wanted f_i_WayTo f_i_WaysIn f_i_World_up f_i_ahead f_i_by f_i_copyInts f_i_copyNet f_i_copyRecord f_i_copyRecords f_i_copySelf f_i_copyWay f_i_earsOf f_i_fresh f_i_gone f_i_hasInt f_i_heardBy f_i_heardOk f_i_in f_i_instead f_i_keyAt f_i_less f_i_linkAt f_i_nearOk f_i_nearUp f_i_own f_i_put f_i_sameInts f_i_sameRoutes f_i_seqOf f_i_thing f_i_told f_s_AreasOf f_s_Before f_s_Better f_s_Beyond f_s_Border f_s_CostTo f_s_Find f_s_Ideal f_s_LinkOk f_s_NetOk f_s_NextTo f_s_NodeNew f_s_NodeOk f_s_RecordOk f_s_Renew f_s_Routes f_s_RoutesBeyond f_s_RoutesOf f_s_RoutesWithin f_s_SameBody f_s_SameKey f_s_SelfOk f_s_Settled f_s_StoreOk f_s_Together f_s_TrueRoutes f_s_Wanted f_s_WayTo f_s_WaysIn f_s_l01In f_s_l03Ahead f_s_l03In f_s_l03Thing f_s_l04Copy f_s_l04CopyList f_s_l04Near f_s_l05At f_s_l05Put f_s_l06Add f_s_l06Copy f_s_l06Links f_s_l06Node f_s_l06Tells f_s_l07Beyond f_s_l07Owner f_s_l07Thing f_s_l08Bare f_s_l08Copy f_s_l08Heard f_s_l08Node f_s_l08Seq f_s_l08With f_s_l10Heard f_s_l10SameInts f_s_l13Beyond f_s_l13Open f_s_l13SameRoutes f_szBoolS f_szEarS f_szIntS f_szLinkS f_szNearS f_szNet f_szNode f_szNodeS f_szPacket f_szPacketS f_szRecord f_szRecordS f_szSelf f_szThingS f_szWorld f_toBoolS f_toEar f_toEarS f_toIntS f_toLink f_toLinkS f_toNear f_toNearS f_toNet f_toNode f_toNodeS f_toPacket f_toPacketS f_toRecord f_toRecordS f_toSelf f_toThing f_toThingS f_toWorld:Sem1)
variable (a0 a1 a2 a3 a4 a5 a6 a7 a8 a9 a10 a11 a12 a13 a14 a15 a16 a17 a18 a19 a20 a21 a22 a23 a24 a25 a26 a27 a28 a29 a30 a31 a32 a33 a34 a35 a36 a37 a38 a39 a40 a41 a42 a43 a44 a45 a46 a47 a48 a49 a50 a51 a52 a53 a54 a55 a56 a57 a58 a59 a60 a61 a62 a63 a64 a65 a66 a67 a68 a69 a70 a71 a72 a73 a74 a75 a76 a77 a78 a79 a80 a81 a82 a83 a84 a85 a86 a87 a88 a89 a90 a91 a92 a93 a94 a95 a96 a97 a98 a99 a100 a101 a102 a103 a104 a105 a106 a107 a108 a109 a110 a111 a112 a113 a114 a115 a116 a117 a118 a119 a120 a121 a122 a123 a124 a125 a126 a127 a128 a129 a130 a131 a132 a133 a134 a135 a136 a137 a138 a139 a140 a141 a142 a143 a144 a145 a146 a147 a148 a149:T) (k0 k1 k2 k3 k4 k5 k6 k7 k8 k9 k10 k11 k12 k13 k14 k15 k16 k17 k18 k19:Sem1) (ts:List T)
def aj2_:Option (List T) :=
 Yh a0 a1 fun a3 =>
 ifT a3 (
 Ym a0 a2 fun a4 =>
 Yz a4 fun a5 =>
 some [a5]) (
 Yz (bb false) fun a4 =>
 some [a4])
theorem aGl_:p_s_l01In.den (pick []) R [] [a0,a1,a2]=aj2_ a0 a1 a2:=(zc_ (by kernel_rfl)).trans (by kernel_rfl)
theorem aJd_:z6_ [a0,a1,a2]=aj2_ a0 a1 a2:=aGl_ rounds a0 a1 a2
def ahv_:Option (List T) :=
 cl1 (f_s_l01In [a0,ii 1,ii 6]) fun a5 =>
 ifT a5 (
 cl1 (f_s_l01In [a1,ii 1,a0]) fun a6 =>
 ifT a6 (
 cl1 (f_s_l01In [a2,ii 1,a0]) fun a7 =>
 ifT a7 (
 Yl a1 a2 fun a8 =>
 ifT a8 (
 cl1 (f_s_l01In [a3,ii 1,ii 1000]) fun a9 =>
 ifT a9 (
 cl1 (f_s_l01In [a4,ii 0,ii 2]) fun a10 =>
 Yz a10 fun a11 =>
 some [a11]) (
 Yz (bb false) fun a10 =>
 some [a10])) (
 Yz (bb false) fun a9 =>
 some [a9])) (
 Yz (bb false) fun a8 =>
 some [a8])) (
 Yz (bb false) fun a7 =>
 some [a7])) (
 Yz (bb false) fun a6 =>
 some [a6])
theorem az7_:p_s_LinkOk.den (pick [(75,f_s_l01In)]) R [] [a0,a1,a2,a3,a4]=ahv_ f_s_l01In a0 a1 a2 a3 a4:=(zc_ (by kernel_rfl)).trans (by kernel_rfl)
theorem aFn_:qV_ [a0,a1,a2,a3,a4]=ahv_ z6_ a0 a1 a2 a3 a4:=az7_ rounds z6_ a0 a1 a2 a3 a4
def acr_:Option (List T) :=
 Yl a0 a4 fun a8 =>
 ifT a8 (
 Yz (bb true) fun a9 =>
 some [a9]) (
 Ye a0 a4 fun a9 =>
 ifT a9 (
 Yl a1 a5 fun a10 =>
 ifT a10 (
 Yz (bb true) fun a11 =>
 some [a11]) (
 Ye a1 a5 fun a11 =>
 ifT a11 (
 Yl a3 a7 fun a12 =>
 Yz a12 fun a13 =>
 some [a13]) (
 Yz (bb false) fun a12 =>
 some [a12]))) (
 Yz (bb false) fun a10 =>
 some [a10]))
theorem ats_:p_s_l03Ahead.den (pick []) R [] [a0,a1,a2,a3,a4,a5,a6,a7]=acr_ a0 a1 a3 a4 a5 a7:=(zc_ (by kernel_rfl)).trans (by kernel_rfl)
theorem avw_:ue_ [a0,a1,a2,a3,a4,a5,a6,a7]=acr_ a0 a1 a3 a4 a5 a7:=ats_ rounds a0 a1 a2 a3 a4 a5 a6 a7
def acg_:Option (List T) :=
 Yl a1 a5 fun a8 =>
 ifT a8 (
 Yz (bb true) fun a9 =>
 some [a9]) (
 Ye a1 a5 fun a9 =>
 ifT a9 (
 Yl a0 a4 fun a10 =>
 Yz a10 fun a11 =>
 some [a11]) (
 Yz (bb false) fun a10 =>
 some [a10]))
theorem at1_:p_s_l03Thing.den (pick []) R [] [a0,a1,a2,a3,a4,a5,a6,a7]=acg_ a0 a1 a4 a5:=(zc_ (by kernel_rfl)).trans (by kernel_rfl)
theorem awy_:ut_ [a0,a1,a2,a3,a4,a5,a6,a7]=acg_ a0 a1 a4 a5:=at1_ rounds a0 a1 a2 a3 a4 a5 a6 a7
def vq_:Option (List T) :=
 (ar2 fun a13 a14 =>
 Yn a2 fun a15 =>
 Yl a14 a15 fun a16 =>
 ifT a16 (
 Y4 a2 a14 fun a18 a19 a20 a21 =>
 cl1 (f_s_l01In [a18,ii 1,a0]) fun a22 =>
 Yt a22 fun a23 =>
 ifT a23 (
 Yz (bb false) fun a24 =>
 some [a24]) (
 cl1 (f_s_l01In [a19,ii 1,ii 9]) fun a24 =>
 Yt a24 fun a25 =>
 ifT a25 (
 Yz (bb false) fun a26 =>
 some [a26]) (
 cl1 (f_s_l01In [a20,ii 1,ii 1000]) fun a26 =>
 Yt a26 fun a27 =>
 ifT a27 (
 Yz (bb false) fun a28 =>
 some [a28]) (
 Yg a14 (ii 0) fun a28 =>
 ifT a28 (
 Ys a14 (ii 1) fun a29 =>
 Y4 a2 a29 fun a31 a32 a33 a34 =>
 cl1 (f_s_l03Thing [a31,a32,a33,a34,a18,a19,a20,a21]) fun a35 =>
 Yt a35 fun a36 =>
 ifT a36 (
 Yz (bb false) fun a37 =>
 some [a37]) (
 Ya a14 (ii 1) fun a37 =>
 k1 [a13,a37])) (
 Ya a14 (ii 1) fun a29 =>
 k1 [a13,a29]))))) (
 Yz (bb true) fun a17 =>
 some [a17])) ts
def vp_:Option (List T) :=
 (ar2 fun a9 a10 =>
 Yn a1 fun a11 =>
 Yl a10 a11 fun a12 =>
 ifT a12 (
 Y4 a1 a10 fun a14 a15 a16 a17 =>
 cl1 (f_s_LinkOk [a0,a14,a15,a16,a17]) fun a18 =>
 Yt a18 fun a19 =>
 ifT a19 (
 Yz (bb false) fun a20 =>
 some [a20]) (
 Yg a10 (ii 0) fun a20 =>
 ifT a20 (
 Ys a10 (ii 1) fun a21 =>
 Y4 a1 a21 fun a23 a24 a25 a26 =>
 Y4 a1 a10 fun a28 a29 a30 a31 =>
 cl1 (f_s_l03Ahead [a23,a24,a25,a26,a28,a29,a30,a31]) fun a32 =>
 Yt a32 fun a33 =>
 ifT a33 (
 Yz (bb false) fun a34 =>
 some [a34]) (
 Ya a10 (ii 1) fun a34 =>
 k0 [a9,a34])) (
 Ya a10 (ii 1) fun a21 =>
 k0 [a9,a21]))) (
 iter (vq_ f_s_l01In f_s_l03Thing a0 a2) R [a9,ii 0])) ts
def aju_:Option (List T) :=
 cl1 (f_s_l01In [a0,ii 1,ii 6]) fun a3 =>
 Yt a3 fun a4 =>
 ifT a4 (
 Yz (bb false) fun a5 =>
 some [a5]) (
 Yn a1 fun a5 =>
 Yg a5 (ii 12) fun a6 =>
 ifT a6 (
 Yz (bb false) fun a7 =>
 some [a7]) (
 Yn a2 fun a7 =>
 Yg a7 (ii 4) fun a8 =>
 ifT a8 (
 Yz (bb false) fun a9 =>
 some [a9]) (
 iter (vp_ R f_s_LinkOk f_s_l01In f_s_l03Ahead f_s_l03Thing a0 a1 a2) R [bb false,ii 0])))
theorem aE4_:p_s_NetOk.den (pick [(75,f_s_l01In),(215,f_s_LinkOk),(216,f_s_l03Ahead),(217,f_s_l03Thing)]) R [] [a0,a1,a2]=aju_ R f_s_LinkOk f_s_l01In f_s_l03Ahead f_s_l03Thing a0 a1 a2:=(zc_ (by kernel_rfl)).trans (by kernel_rfl)
theorem aK9_:jT_ [a0,a1,a2]=aju_ rounds qV_ z6_ ue_ ut_ a0 a1 a2:=aE4_ rounds qV_ z6_ ue_ ut_ a0 a1 a2
def jx_:Option (List T) :=
 (ar2 fun a6 a7 =>
 Yn a1 fun a8 =>
 Yl a7 a8 fun a9 =>
 ifT a9 (
 Y4 a1 a7 fun a11 a12 a13 a14 =>
 Ye a14 a5 fun a15 =>
 ifT a15 (
 Ye a11 a3 fun a16 =>
 ifT a16 (
 Ye a12 a4 fun a17 =>
 ifT a17 (
 Yz a13 fun a18 =>
 some [a18]) (
 Ye a11 a4 fun a18 =>
 ifT a18 (
 Ye a12 a3 fun a19 =>
 ifT a19 (
 Yz a13 fun a20 =>
 some [a20]) (
 Ya a7 (ii 1) fun a20 =>
 k0 [a6,a20])) (
 Ya a7 (ii 1) fun a19 =>
 k0 [a6,a19]))) (
 Ye a11 a4 fun a17 =>
 ifT a17 (
 Ye a12 a3 fun a18 =>
 ifT a18 (
 Yz a13 fun a19 =>
 some [a19]) (
 Ya a7 (ii 1) fun a19 =>
 k0 [a6,a19])) (
 Ya a7 (ii 1) fun a18 =>
 k0 [a6,a18]))) (
 Ya a7 (ii 1) fun a16 =>
 k0 [a6,a16])) (
 Yz (ii 0) fun a10 =>
 some [a10])) ts
def ail_:Option (List T) :=
 iter (jx_ a1 a3 a4 a5) R [ii 0,ii 0]
theorem aAa_:p_s_CostTo.den (pick []) R [] [a0,a1,a2,a3,a4,a5]=ail_ R a1 a3 a4 a5:=(zc_ (by kernel_rfl)).trans (by kernel_rfl)
theorem aG1_:yZ_ [a0,a1,a2,a3,a4,a5]=ail_ rounds a1 a3 a4 a5:=aAa_ rounds a0 a1 a2 a3 a4 a5
def qb_:Option (List T) :=
 (ar2 fun a12 a13 =>
 Yn a5 fun a14 =>
 Yl a13 a14 fun a15 =>
 ifT a15 (
 Y1 a5 a13 fun a17 =>
 Ya a13 (ii 1) fun a18 =>
 Y1 a5 a18 fun a20 =>
 cl1 (f_s_CostTo [a2,a3,a4,a0,a17,a20]) fun a21 =>
 Ye a21 (ii 0) fun a22 =>
 ifT a22 (
 Yz (bb false) fun a23 =>
 some [a23]) (
 Yg a13 (ii 0) fun a23 =>
 ifT a23 (
 Ys a13 (ii 2) fun a24 =>
 Y1 a5 a24 fun a26 =>
 Yg a26 a17 fun a27 =>
 ifT a27 (
 Yz (bb false) fun a28 =>
 some [a28]) (
 Ys a13 (ii 2) fun a28 =>
 Y1 a5 a28 fun a30 =>
 Ye a30 a17 fun a31 =>
 ifT a31 (
 Ys a13 (ii 1) fun a32 =>
 Y1 a5 a32 fun a34 =>
 Yh a34 a20 fun a35 =>
 ifT a35 (
 Yz (bb false) fun a36 =>
 some [a36]) (
 Ya a13 (ii 2) fun a36 =>
 k0 [a12,a36])) (
 Ya a13 (ii 2) fun a32 =>
 k0 [a12,a32]))) (
 Ya a13 (ii 2) fun a24 =>
 k0 [a12,a24]))) (
 Yz (bb true) fun a16 =>
 some [a16])) ts
def ab0_:Option (List T) :=
 Yn a5 fun a7 =>
 pv (.bin .rem) [a7,ii 2] fun a8 =>
 Ye a8 (ii 1) fun a9 =>
 ifT a9 (
 Yz (bb false) fun a10 =>
 some [a10]) (
 Yn a5 fun a10 =>
 Yg a10 (ii 60) fun a11 =>
 ifT a11 (
 Yz (bb false) fun a12 =>
 some [a12]) (
 iter (qb_ f_s_CostTo a0 a2 a3 a4 a5) R [bb false,ii 0]))
theorem atg_:p_s_l08Heard.den (pick [(122,f_s_CostTo)]) R [] [a0,a1,a2,a3,a4,a5,a6]=ab0_ R f_s_CostTo a0 a2 a3 a4 a5:=(zc_ (by kernel_rfl)).trans (by kernel_rfl)
theorem au8_:un_ [a0,a1,a2,a3,a4,a5,a6]=ab0_ rounds yZ_ a0 a2 a3 a4 a5:=atg_ rounds yZ_ a0 a1 a2 a3 a4 a5 a6
def ja_:Option (List T) :=
 (ar2 fun a8 a9 =>
 Yn a5 fun a10 =>
 Yl a9 a10 fun a11 =>
 ifT a11 (
 Y2 a5 a9 fun a13 a14 =>
 cl1 (f_s_l01In [a13,ii 1,ii 6]) fun a15 =>
 Yt a15 fun a16 =>
 ifT a16 (
 Yz (bb false) fun a17 =>
 some [a17]) (
 Ye a13 a2 fun a17 =>
 ifT a17 (
 Yz (bb false) fun a18 =>
 some [a18]) (
 cl1 (f_s_l01In [a14,ii 1,ii 1000]) fun a18 =>
 Yt a18 fun a19 =>
 ifT a19 (
 Yz (bb false) fun a20 =>
 some [a20]) (
 Yg a9 (ii 0) fun a20 =>
 ifT a20 (
 Ys a9 (ii 1) fun a21 =>
 Yb a5 a21 fun a22 =>
 Yc 2 0 a5 a21 fun a23 =>
 Yh a23 a13 fun a24 =>
 ifT a24 (
 Yz (bb false) fun a25 =>
 some [a25]) (
 Ya a9 (ii 1) fun a25 =>
 k0 [a8,a25])) (
 Ya a9 (ii 1) fun a21 =>
 k0 [a8,a21]))))) (
 Yz (bb true) fun a12 =>
 some [a12])) ts
def aek_:Option (List T) :=
 iter (ja_ f_s_l01In a2 a5) R [bb false,ii 0]
theorem au4_:p_s_l04Near.den (pick [(75,f_s_l01In)]) R [] [a0,a1,a2,a3,a4,a5,a6,a7]=aek_ R f_s_l01In a2 a5:=(zc_ (by kernel_rfl)).trans (by kernel_rfl)
theorem azt_:u1_ [a0,a1,a2,a3,a4,a5,a6,a7]=aek_ rounds z6_ a2 a5:=au4_ rounds z6_ a0 a1 a2 a3 a4 a5 a6 a7
def ace_:Option (List T) :=
 cl1 (f_s_l01In [a2,ii 1,ii 6]) fun a8 =>
 Yt a8 fun a9 =>
 ifT a9 (
 Yz (bb false) fun a10 =>
 some [a10]) (
 cl1 (f_s_l01In [a4,ii 1,ii 100000]) fun a10 =>
 Yt a10 fun a11 =>
 ifT a11 (
 Yz (bb false) fun a12 =>
 some [a12]) (
 Ye a1 (ii 1) fun a12 =>
 ifT a12 (
 cl1 (f_s_l01In [a0,ii 0,ii 2]) fun a13 =>
 ifT a13 (
 Ye a3 (ii 0) fun a14 =>
 ifT a14 (
 cl1 (f_s_l04Near [a0,a1,a2,a3,a4,a5,a6,a7]) fun a15 =>
 ifT a15 (
 Ye a6 (ii 0) fun a16 =>
 ifT a16 (
 Yt a7 fun a17 =>
 Yz a17 fun a18 =>
 some [a18]) (
 Yz (bb false) fun a17 =>
 some [a17])) (
 Yz (bb false) fun a16 =>
 some [a16])) (
 Yz (bb false) fun a15 =>
 some [a15])) (
 Yz (bb false) fun a14 =>
 some [a14])) (
 Ye a1 (ii 2) fun a13 =>
 ifT a13 (
 cl1 (f_s_l01In [a0,ii 0,ii 2]) fun a14 =>
 ifT a14 (
 cl1 (f_s_l01In [a3,ii 1,ii 6]) fun a15 =>
 ifT a15 (
 Yn a5 fun a16 =>
 Ye a16 (ii 0) fun a17 =>
 ifT a17 (
 cl1 (f_s_l01In [a6,ii 0,ii 60000]) fun a18 =>
 ifT a18 (
 Yt a7 fun a19 =>
 Yz a19 fun a20 =>
 some [a20]) (
 Yz (bb false) fun a19 =>
 some [a19])) (
 Yz (bb false) fun a18 =>
 some [a18])) (
 Yz (bb false) fun a16 =>
 some [a16])) (
 Yz (bb false) fun a15 =>
 some [a15])) (
 Ye a1 (ii 3) fun a14 =>
 ifT a14 (
 Ye a0 (ii 9) fun a15 =>
 ifT a15 (
 cl1 (f_s_l01In [a3,ii 1,ii 9]) fun a16 =>
 ifT a16 (
 Yn a5 fun a17 =>
 Ye a17 (ii 0) fun a18 =>
 ifT a18 (
 cl1 (f_s_l01In [a6,ii 1,ii 1000]) fun a19 =>
 ifT a19 (
 Yz (bb true) fun a20 =>
 some [a20]) (
 Ye a6 (ii 60000) fun a20 =>
 Yz a20 fun a21 =>
 some [a21])) (
 Yz (bb false) fun a19 =>
 some [a19])) (
 Yz (bb false) fun a17 =>
 some [a17])) (
 Yz (bb false) fun a16 =>
 some [a16])) (
 Yz (bb false) fun a15 =>
 some [a15])))))
theorem as3_:p_s_RecordOk.den (pick [(75,f_s_l01In),(286,f_s_l04Near)]) R [] [a0,a1,a2,a3,a4,a5,a6,a7]=ace_ f_s_l01In f_s_l04Near a0 a1 a2 a3 a4 a5 a6 a7:=(zc_ (by kernel_rfl)).trans (by kernel_rfl)
theorem av3_:uq_ [a0,a1,a2,a3,a4,a5,a6,a7]=ace_ z6_ u1_ a0 a1 a2 a3 a4 a5 a6 a7:=as3_ rounds z6_ u1_ a0 a1 a2 a3 a4 a5 a6 a7
def aih_:Option (List T) :=
 Yu a0 a8 fun a16 =>
 ifT a16 (
 Yl a0 a8 fun a17 =>
 Yz a17 fun a18 =>
 some [a18]) (
 Yu a1 a9 fun a17 =>
 ifT a17 (
 Yl a1 a9 fun a18 =>
 Yz a18 fun a19 =>
 some [a19]) (
 Yu a2 a10 fun a18 =>
 ifT a18 (
 Yl a2 a10 fun a19 =>
 Yz a19 fun a20 =>
 some [a20]) (
 Yl a3 a11 fun a19 =>
 Yz a19 fun a20 =>
 some [a20])))
theorem aCr_:p_s_Before.den (pick []) R [] [a0,a1,a2,a3,a4,a5,a6,a7,a8,a9,a10,a11,a12,a13,a14,a15]=aih_ a0 a1 a2 a3 a8 a9 a10 a11:=(zc_ (by kernel_rfl)).trans (by kernel_rfl)
theorem aGb_:ve_ [a0,a1,a2,a3,a4,a5,a6,a7,a8,a9,a10,a11,a12,a13,a14,a15]=aih_ a0 a1 a2 a3 a8 a9 a10 a11:=aCr_ rounds a0 a1 a2 a3 a4 a5 a6 a7 a8 a9 a10 a11 a12 a13 a14 a15
def qD_:Option (List T) :=
 (ar2 fun a3 a4 =>
 Yn a0 fun a5 =>
 Yl a4 a5 fun a6 =>
 ifT a6 (
 Y8 a0 a4 fun a8 a9 a10 a11 a12 a13 a14 a15 =>
 cl1 (f_s_RecordOk [a8,a9,a10,a11,a12,a13,a14,a15]) fun a16 =>
 Yt a16 fun a17 =>
 ifT a17 (
 Yz (bb false) fun a18 =>
 some [a18]) (
 Yg a4 (ii 0) fun a18 =>
 ifT a18 (
 Ys a4 (ii 1) fun a19 =>
 Y8 a0 a19 fun a21 a22 a23 a24 a25 a26 a27 a28 =>
 Y8 a0 a4 fun a30 a31 a32 a33 a34 a35 a36 a37 =>
 cl1 (f_s_Before [a21,a22,a23,a24,a25,a26,a27,a28,a30,a31,a32,a33,a34,a35,a36,a37]) fun a38 =>
 Yt a38 fun a39 =>
 ifT a39 (
 Yz (bb false) fun a40 =>
 some [a40]) (
 Ya a4 (ii 1) fun a40 =>
 k0 [a3,a40])) (
 Ya a4 (ii 1) fun a19 =>
 k0 [a3,a19]))) (
 Yz (bb true) fun a7 =>
 some [a7])) ts
def aet_:Option (List T) :=
 Yn a0 fun a1 =>
 Yg a1 (ii 150) fun a2 =>
 ifT a2 (
 Yz (bb false) fun a3 =>
 some [a3]) (
 iter (qD_ f_s_Before f_s_RecordOk a0) R [bb false,ii 0])
theorem axq_:p_s_StoreOk.den (pick [(199,f_s_Before),(249,f_s_RecordOk)]) R [] [a0]=aet_ R f_s_Before f_s_RecordOk a0:=(zc_ (by kernel_rfl)).trans (by kernel_rfl)
theorem aA4_:yE_ [a0]=aet_ rounds ve_ uq_ a0:=axq_ rounds ve_ uq_ a0
def ah8_:Option (List T) :=
 cl1 (f_s_NetOk [a2,a3,a4]) fun a7 =>
 ifT a7 (
 cl1 (f_s_l01In [a0,ii 1,a2]) fun a8 =>
 ifT a8 (
 cl1 (f_s_l01In [a1,ii 0,ii 90]) fun a9 =>
 ifT a9 (
 cl1 (f_s_l08Heard [a0,a1,a2,a3,a4,a5,a6]) fun a10 =>
 ifT a10 (
 cl1 (f_s_StoreOk [a6]) fun a11 =>
 Yz a11 fun a12 =>
 some [a12]) (
 Yz (bb false) fun a11 =>
 some [a11])) (
 Yz (bb false) fun a10 =>
 some [a10])) (
 Yz (bb false) fun a9 =>
 some [a9])) (
 Yz (bb false) fun a8 =>
 some [a8])
theorem aA1_:p_s_SelfOk.den (pick [(75,f_s_l01In),(135,f_s_NetOk),(176,f_s_StoreOk),(195,f_s_l08Heard)]) R [] [a0,a1,a2,a3,a4,a5,a6]=ah8_ f_s_NetOk f_s_StoreOk f_s_l01In f_s_l08Heard a0 a1 a2 a3 a4 a5 a6:=(zc_ (by kernel_rfl)).trans (by kernel_rfl)
theorem aD8_:xu_ [a0,a1,a2,a3,a4,a5,a6]=ah8_ jT_ yE_ z6_ un_ a0 a1 a2 a3 a4 a5 a6:=aA1_ rounds jT_ yE_ z6_ un_ a0 a1 a2 a3 a4 a5 a6
def u9_:Option (List T) :=
 (ar2 fun a2 a3 =>
 Yn a0 fun a4 =>
 Yl a3 a4 fun a5 =>
 ifT a5 (
 Yb a0 a3 fun a6 =>
 Yc 4 3 a0 a3 fun a7 =>
 jn (ar1 fun a8 =>
 Ya a3 (ii 1) fun a9 =>
 k0 [a8,a9]) fun k1 =>
 ifT a7 (
 Yb a0 a3 fun a8 =>
 Yc 4 0 a0 a3 fun a9 =>
 Yb a0 a3 fun a10 =>
 Yc 4 1 a0 a3 fun a11 =>
 pv (.lit 1 [true,true]) [a9,a11] fun a12 =>
 Yp a2 a12 fun a13 =>
 k1 [a13]) (
 k1 [a2])) (
 some [a2])) ts
def adf_:Option (List T) :=
 pv (.lit 1 []) [] fun a1 =>
 iter (u9_ a0) R [a1,ii 0]
theorem atm_:p_s_l10Heard.den (pick []) R [] [a0]=adf_ R a0:=(zc_ (by kernel_rfl)).trans (by kernel_rfl)
theorem avj_:qk_ [a0]=adf_ rounds a0:=atm_ rounds a0
def vS_:Option (List T) :=
 (ar2 fun a5 a6 =>
 Yn a0 fun a7 =>
 Yl a6 a7 fun a8 =>
 ifT a8 (
 Y1 a0 a6 fun a10 =>
 Y1 a1 a6 fun a12 =>
 Yu a10 a12 fun a13 =>
 ifT a13 (
 Yz (bb false) fun a14 =>
 some [a14]) (
 Ya a6 (ii 1) fun a14 =>
 k0 [a5,a14])) (
 Yz (bb true) fun a9 =>
 some [a9])) ts
def kl_:Option (List T) :=
 Yn a0 fun a2 =>
 Yn a1 fun a3 =>
 Yu a2 a3 fun a4 =>
 ifT a4 (
 Yz (bb false) fun a5 =>
 some [a5]) (
 iter (vS_ a0 a1) R [bb false,ii 0])
theorem am9_:p_s_l10SameInts.den (pick []) R [] [a0,a1]=kl_ R a0 a1:=(zc_ (by kernel_rfl)).trans (by kernel_rfl)
theorem ao6_:vU_ [a0,a1]=kl_ rounds a0 a1:=am9_ rounds a0 a1
def vG_:Option (List T) :=
 (ar3 fun a14 a15 a16 =>
 Ym a16 (ii 2) fun a17 =>
 ifT a17 (
 cl1 (f_s_CostTo [a2,a3,a4,a0,a12,a16]) fun a18 =>
 Ye a18 (ii 0) fun a19 =>
 ifT a19 (
 Ya a16 (ii 1) fun a20 =>
 k1 [a14,a15,a20]) (
 Yn a7 fun a20 =>
 Yh a15 a20 fun a21 =>
 ifT a21 (
 Yz (bb false) fun a22 =>
 some [a22]) (
 Yb a7 a15 fun a22 =>
 Yc 4 0 a7 a15 fun a23 =>
 Yu a23 a12 fun a24 =>
 ifT a24 (
 Yz (bb false) fun a25 =>
 some [a25]) (
 Yb a7 a15 fun a25 =>
 Yc 4 1 a7 a15 fun a26 =>
 Yu a26 a16 fun a27 =>
 ifT a27 (
 Yz (bb false) fun a28 =>
 some [a28]) (
 Yb a7 a15 fun a28 =>
 Yc 4 2 a7 a15 fun a29 =>
 cl1 (f_s_l01In [a29,ii 0,ii 3]) fun a30 =>
 Yt a30 fun a31 =>
 ifT a31 (
 Yz (bb false) fun a32 =>
 some [a32]) (
 Yb a7 a15 fun a32 =>
 Yc 4 3 a7 a15 fun a33 =>
 ifT a33 (
 Yb a7 a15 fun a34 =>
 Yc 4 2 a7 a15 fun a35 =>
 Ye a35 (ii 0) fun a36 =>
 ifT a36 (
 Yz (bb false) fun a37 =>
 some [a37]) (
 Ya a15 (ii 1) fun a37 =>
 Ya a16 (ii 1) fun a38 =>
 k1 [a14,a37,a38])) (
 Ya a15 (ii 1) fun a34 =>
 Ya a16 (ii 1) fun a35 =>
 k1 [a14,a34,a35]))))))) (
 Ya a12 (ii 1) fun a18 =>
 k0 [a14,a15,a18])) ts
def vz_:Option (List T) :=
 (ar3 fun a10 a11 a12 =>
 Ym a12 a2 fun a13 =>
 ifT a13 (
 iter (vG_ f_s_CostTo f_s_l01In a0 a2 a3 a4 a7 a12 k0) R [a10,a11,ii 0]) (
 Yn a7 fun a14 =>
 Ye a11 a14 fun a15 =>
 ifT a15 (
 cl1 (f_s_l10Heard [a7]) fun a16 =>
 cl1 (f_s_l10SameInts [a5,a16]) fun a17 =>
 Yz a17 fun a18 =>
 some [a18]) (
 Yz (bb false) fun a16 =>
 some [a16]))) ts
def aho_:Option (List T) :=
 cl1 (f_s_SelfOk [a0,a1,a2,a3,a4,a5,a6]) fun a8 =>
 Yt a8 fun a9 =>
 ifT a9 (
 Yz (bb false) fun a10 =>
 some [a10]) (
 iter (vz_ R f_s_CostTo f_s_l01In f_s_l10Heard f_s_l10SameInts a0 a2 a3 a4 a5 a7) R [bb false,ii 0,ii 1])
theorem aBu_:p_s_NodeOk.den (pick [(75,f_s_l01In),(99,f_s_SelfOk),(122,f_s_CostTo),(142,f_s_l10Heard),(190,f_s_l10SameInts)]) R [] [a0,a1,a2,a3,a4,a5,a6,a7]=aho_ R f_s_CostTo f_s_SelfOk f_s_l01In f_s_l10Heard f_s_l10SameInts a0 a1 a2 a3 a4 a5 a6 a7:=(zc_ (by kernel_rfl)).trans (by kernel_rfl)
theorem aDz_:ko_ [a0,a1,a2,a3,a4,a5,a6,a7]=aho_ rounds yZ_ xu_ z6_ qk_ vU_ a0 a1 a2 a3 a4 a5 a6 a7:=aBu_ rounds yZ_ xu_ z6_ qk_ vU_ a0 a1 a2 a3 a4 a5 a6 a7
def uR_:Option (List T) :=
 (ar2 fun a6 a7 =>
 Ym a7 (ii 6) fun a8 =>
 ifT a8 (
 cl1 (f_s_CostTo [a0,a1,a2,a3,a7,a4]) fun a9 =>
 Yg a9 (ii 0) fun a10 =>
 jn (ar1 fun a11 =>
 Ya a7 (ii 1) fun a12 =>
 k0 [a11,a12]) fun k1 =>
 ifT a10 (
 Yx a7 fun a11 =>
 Yp a6 a11 fun a12 =>
 k1 [a12]) (
 k1 [a6])) (
 some [a6])) ts
def agl_:Option (List T) :=
 pv (.lit 1 []) [] fun a5 =>
 iter (uR_ f_s_CostTo a0 a1 a2 a3 a4) R [a5,ii 1]
theorem aBd_:p_s_NextTo.den (pick [(122,f_s_CostTo)]) R [] [a0,a1,a2,a3,a4]=agl_ R f_s_CostTo a0 a1 a2 a3 a4:=(zc_ (by kernel_rfl)).trans (by kernel_rfl)
theorem aFt_:qK_ [a0,a1,a2,a3,a4]=agl_ rounds yZ_ a0 a1 a2 a3 a4:=aBd_ rounds yZ_ a0 a1 a2 a3 a4
def up_:Option (List T) :=
 (ar2 fun a5 a6 =>
 Ym a6 (ii 2) fun a7 =>
 ifT a7 (
 cl1 (f_s_NextTo [a0,a1,a2,a3,a6]) fun a8 =>
 Yn a8 fun a9 =>
 Yg a9 (ii 0) fun a10 =>
 jn (ar1 fun a11 =>
 Ya a6 (ii 1) fun a12 =>
 k0 [a11,a12]) fun k1 =>
 ifT a10 (
 Yx a6 fun a11 =>
 Yp a5 a11 fun a12 =>
 k1 [a12]) (
 k1 [a5])) (
 some [a5])) ts
def afa_:Option (List T) :=
 pv (.lit 1 []) [] fun a4 =>
 iter (up_ f_s_NextTo a0 a1 a2 a3) R [a4,ii 0]
theorem awr_:p_s_AreasOf.den (pick [(178,f_s_NextTo)]) R [] [a0,a1,a2,a3]=afa_ R f_s_NextTo a0 a1 a2 a3:=(zc_ (by kernel_rfl)).trans (by kernel_rfl)
theorem aAi_:xV_ [a0,a1,a2,a3]=afa_ rounds qK_ a0 a1 a2 a3:=awr_ rounds qK_ a0 a1 a2 a3
def agw_:Option (List T) :=
 cl1 (f_s_AreasOf [a0,a1,a2,a3]) fun a4 =>
 Yn a4 fun a5 =>
 Yg a5 (ii 1) fun a6 =>
 ifT a6 (
 Yb a4 (ii 0) fun a7 =>
 Yc 1 0 a4 (ii 0) fun a8 =>
 Ye a8 (ii 0) fun a9 =>
 Yz a9 fun a10 =>
 some [a10]) (
 Yz (bb false) fun a7 =>
 some [a7])
theorem aCu_:p_s_Border.den (pick [(77,f_s_AreasOf)]) R [] [a0,a1,a2,a3]=agw_ f_s_AreasOf a0 a1 a2 a3:=(zc_ (by kernel_rfl)).trans (by kernel_rfl)
theorem aF4_:vf_ [a0,a1,a2,a3]=agw_ xV_ a0 a1 a2 a3:=aCu_ rounds xV_ a0 a1 a2 a3
def aeh_:Option (List T) :=
 Ye a0 a8 fun a16 =>
 ifT a16 (
 Ye a1 a9 fun a17 =>
 ifT a17 (
 Ye a2 a10 fun a18 =>
 ifT a18 (
 Ye a3 a11 fun a19 =>
 Yz a19 fun a20 =>
 some [a20]) (
 Yz (bb false) fun a19 =>
 some [a19])) (
 Yz (bb false) fun a18 =>
 some [a18])) (
 Yz (bb false) fun a17 =>
 some [a17])
theorem ax2_:p_s_SameKey.den (pick []) R [] [a0,a1,a2,a3,a4,a5,a6,a7,a8,a9,a10,a11,a12,a13,a14,a15]=aeh_ a0 a1 a2 a3 a8 a9 a10 a11:=(zc_ (by kernel_rfl)).trans (by kernel_rfl)
theorem az9_:wL_ [a0,a1,a2,a3,a4,a5,a6,a7,a8,a9,a10,a11,a12,a13,a14,a15]=aeh_ a0 a1 a2 a3 a8 a9 a10 a11:=ax2_ rounds a0 a1 a2 a3 a4 a5 a6 a7 a8 a9 a10 a11 a12 a13 a14 a15
def kt_:Option (List T) :=
 (ar2 fun a9 a10 =>
 Yn a0 fun a11 =>
 Yl a10 a11 fun a12 =>
 ifT a12 (
 Y8 a0 a10 fun a14 a15 a16 a17 a18 a19 a20 a21 =>
 cl1 (f_s_SameKey [a14,a15,a16,a17,a18,a19,a20,a21,a1,a2,a3,a4,a5,a6,a7,a8]) fun a22 =>
 ifT a22 (
 Yz a10 fun a23 =>
 some [a23]) (
 Ya a10 (ii 1) fun a23 =>
 k0 [a9,a23])) (
 Yz (ii (-1)) fun a13 =>
 some [a13])) ts
def ak2_:Option (List T) :=
 iter (kt_ f_s_SameKey a0 a1 a2 a3 a4 a5 a6 a7 a8) R [ii 0,ii 0]
theorem aHc_:p_s_l05At.den (pick [(198,f_s_SameKey)]) R [] [a0,a1,a2,a3,a4,a5,a6,a7,a8]=ak2_ R f_s_SameKey a0 a1 a2 a3 a4 a5 a6 a7 a8:=(zc_ (by kernel_rfl)).trans (by kernel_rfl)
theorem aK6_:wF_ [a0,a1,a2,a3,a4,a5,a6,a7,a8]=ak2_ rounds wL_ a0 a1 a2 a3 a4 a5 a6 a7 a8:=aHc_ rounds wL_ a0 a1 a2 a3 a4 a5 a6 a7 a8
def aeu_:Option (List T) :=
 cl1 (f_s_l05At [a0,a1,ii 1,a2,ii 0,ii 0,.l [],ii 0,bb false]) fun a3 =>
 Yl a3 (ii 0) fun a4 =>
 ifT a4 (
 Yz (bb false) fun a5 =>
 Yz (bb false) fun a6 =>
 Yz (ii 0) fun a7 =>
 Yz (ii 0) fun a8 =>
 Yz (ii 0) fun a9 =>
 Yz (ii 0) fun a10 =>
 Yz (ii 0) fun a11 =>
 Yz (ii 0) fun a12 =>
 some [a12,a11,a10,a9,a8,.l [],a7,a6,a5]) (
 Y8 a0 a3 fun a6 a7 a8 a9 a10 a11 a12 a13 =>
 Yz (bb true) fun a14 =>
 Yz a13 fun a15 =>
 Yz a12 fun a16 =>
 Yz a10 fun a17 =>
 Yz a9 fun a18 =>
 Yz a8 fun a19 =>
 Yz a7 fun a20 =>
 Yz a6 fun a21 =>
 some [a21,a20,a19,a18,a17,a11,a16,a15,a14])
theorem av9_:p_s_l06Node.den (pick [(106,f_s_l05At)]) R [] [a0,a1,a2]=aeu_ f_s_l05At a0 a1 a2:=(zc_ (by kernel_rfl)).trans (by kernel_rfl)
theorem azv_:xE_ [a0,a1,a2]=aeu_ wF_ a0 a1 a2:=av9_ rounds wF_ a0 a1 a2
def qa_:Option (List T) :=
 (ar2 fun a13 a14 =>
 Yn a9 fun a15 =>
 Yl a14 a15 fun a16 =>
 ifT a16 (
 Yb a9 a14 fun a17 =>
 Yc 2 0 a9 a14 fun a18 =>
 Ye a18 a3 fun a19 =>
 ifT a19 (
 Yb a9 a14 fun a20 =>
 Yc 2 1 a9 a14 fun a21 =>
 Yz a21 fun a22 =>
 some [a22]) (
 Ya a14 (ii 1) fun a20 =>
 k0 [a13,a20])) (
 Yz (ii 0) fun a17 =>
 some [a17])) ts
def acc_:Option (List T) :=
 cl9 (f_s_l06Node [a0,a1,a2]) fun a4 a5 a6 a7 a8 a9 a10 a11 a12 =>
 iter (qa_ a3 a9) R [ii 0,ii 0]
theorem ate_:p_s_l06Tells.den (pick [(282,f_s_l06Node)]) R [] [a0,a1,a2,a3]=acc_ R f_s_l06Node a0 a1 a2 a3:=(zc_ (by kernel_rfl)).trans (by kernel_rfl)
theorem ayt_:ul_ [a0,a1,a2,a3]=acc_ rounds xE_ a0 a1 a2 a3:=ate_ rounds xE_ a0 a1 a2 a3
def vZ_:Option (List T) :=
 (ar2 fun a15 a16 =>
 Yn a11 fun a17 =>
 Yl a15 a17 fun a18 =>
 ifT a18 (
 Yb a11 a15 fun a19 =>
 Yc 2 0 a11 a15 fun a20 =>
 cl1 (f_s_l01In [a20,ii 1,ii 6]) fun a21 =>
 ifT a21 (
 Yb a11 a15 fun a22 =>
 Yc 2 0 a11 a15 fun a23 =>
 cl1 (f_s_l06Tells [a0,a1,a23,a3]) fun a24 =>
 Yg a24 (ii 0) fun a25 =>
 jn (ar1 fun a26 =>
 Ya a15 (ii 1) fun a27 =>
 k1 [a27,a26]) fun k2 =>
 ifT a25 (
 pv (.bin .mul) [a3,ii 7] fun a26 =>
 Yb a11 a15 fun a27 =>
 Yc 2 0 a11 a15 fun a28 =>
 Ya a26 a28 fun a29 =>
 Yb a11 a15 fun a30 =>
 Yc 2 1 a11 a15 fun a31 =>
 Yb a16 a29 fun a32 =>
 pv (.put true 1 0 1) [a16,a29,a31] fun a33 =>
 k2 [a33]) (
 k2 [a16])) (
 jn (ar1 fun a22 =>
 Ya a15 (ii 1) fun a23 =>
 k1 [a23,a22]) fun k2 =>
 k2 [a16])) (
 Ya a3 (ii 1) fun a19 =>
 k0 [a19,a16])) ts
def vQ_:Option (List T) :=
 (ar2 fun a3 a4 =>
 Ym a3 (ii 6) fun a5 =>
 ifT a5 (
 cl9 (f_s_l06Node [a0,a1,a3]) fun a6 a7 a8 a9 a10 a11 a12 a13 a14 =>
 iter (vZ_ f_s_l01In f_s_l06Tells a0 a1 a3 a11 k0) R [ii 0,a4]) (
 some [a4])) ts
def ade_:Option (List T) :=
 pv (.mk) [ii 49,ii 49,ii 0] fun a2 =>
 iter (vQ_ R f_s_l01In f_s_l06Node f_s_l06Tells a0 a1) R [ii 1,a2]
theorem atk_:p_s_l06Links.den (pick [(75,f_s_l01In),(282,f_s_l06Node),(307,f_s_l06Tells)]) R [] [a0,a1]=ade_ R f_s_l01In f_s_l06Node f_s_l06Tells a0 a1:=(zc_ (by kernel_rfl)).trans (by kernel_rfl)
theorem ax4_:ug_ [a0,a1]=ade_ rounds z6_ xE_ ul_ a0 a1:=atk_ rounds z6_ xE_ ul_ a0 a1
def kv_:Option (List T) :=
 (ar2 fun a2 a3 =>
 Yn a0 fun a4 =>
 Yl a3 a4 fun a5 =>
 ifT a5 (
 Y1 a0 a3 fun a7 =>
 Ye a7 a1 fun a8 =>
 ifT a8 (
 Yz (bb true) fun a9 =>
 some [a9]) (
 Ya a3 (ii 1) fun a9 =>
 k0 [a2,a9])) (
 Yz (bb false) fun a6 =>
 some [a6])) ts
def aj5_:Option (List T) :=
 iter (kv_ a0 a1) R [bb false,ii 0]
theorem aHh_:p_s_l03In.den (pick []) R [] [a0,a1]=aj5_ R a0 a1:=(zc_ (by kernel_rfl)).trans (by kernel_rfl)
theorem aLv_:jO_ [a0,a1]=aj5_ rounds a0 a1:=aHh_ rounds a0 a1
def jw_:Option (List T) :=
 (ar2 fun a3 a4 =>
 Ym a4 (ii 6) fun a5 =>
 ifT a5 (
 cl1 (f_s_l03In [a0,a4]) fun a6 =>
 ifT a6 (
 jn (ar1 fun a7 =>
 Ya a4 (ii 1) fun a8 =>
 k0 [a7,a8]) fun k1 =>
 Yx a4 fun a7 =>
 Yp a3 a7 fun a8 =>
 k1 [a8]) (
 cl1 (f_s_l03In [a1,a4]) fun a7 =>
 jn (ar1 fun a8 =>
 Ya a4 (ii 1) fun a9 =>
 k0 [a8,a9]) fun k1 =>
 ifT a7 (
 Yx a4 fun a8 =>
 Yp a3 a8 fun a9 =>
 k1 [a9]) (
 k1 [a3]))) (
 some [a3])) ts
def ahi_:Option (List T) :=
 pv (.lit 1 []) [] fun a2 =>
 iter (jw_ f_s_l03In a0 a1) R [a2,ii 1]
theorem aCh_:p_s_l06Add.den (pick [(153,f_s_l03In)]) R [] [a0,a1]=ahi_ R f_s_l03In a0 a1:=(zc_ (by kernel_rfl)).trans (by kernel_rfl)
theorem aD4_:yn_ [a0,a1]=ahi_ rounds jO_ a0 a1:=aCh_ rounds jO_ a0 a1
def zB_:Option (List T) :=
 (ar2 fun a32 a33 =>
 Ym a33 (ii 6) fun a34 =>
 ifT a34 (
 Yq a29 a33 fun a36 =>
 jn (ar1 fun a37 =>
 Ya a33 (ii 1) fun a38 =>
 k2 [a37,a38]) fun k3 =>
 ifT a36 (
 Yq a30 a33 fun a38 =>
 pv (.lit 1 []) [] fun a39 =>
 Y1 a28 a33 fun a41 =>
 Yp a39 a41 fun a42 =>
 pv (.lit 3 [true,true,false]) [a33,a38,a42] fun a43 =>
 Yo a32 a43 fun a44 =>
 k3 [a44]) (
 k3 [a32])) (
 some [a32])) ts
def zA_:Option (List T) :=
 (ar3 fun a38 a39 a40 =>
 Ym a38 (ii 6) fun a41 =>
 ifT a41 (
 pv (.bin .mul) [a32,ii 7] fun a42 =>
 Ya a42 a38 fun a43 =>
 Y1 a18 a43 fun a45 =>
 Ye a45 (ii 0) fun a46 =>
 ifT a46 (
 Ya a38 (ii 1) fun a47 =>
 k3 [a47,a39,a40]) (
 Yq a37 a38 fun a48 =>
 ifT a48 (
 Ya a38 (ii 1) fun a49 =>
 k3 [a49,a39,a40]) (
 Y1 a39 a32 fun a50 =>
 Ye a32 a2 fun a51 =>
 jn (ar1 fun a52 =>
 Yq a40 a32 fun a54 =>
 Ya a54 a45 fun a55 =>
 Yq a40 a38 fun a57 =>
 Yl a57 (ii 0) fun a58 =>
 ifT a58 (
 jn (ar2 fun a59 a60 =>
 Ya a38 (ii 1) fun a61 =>
 k3 [a61,a59,a60]) fun k4 =>
 Yb a40 a38 fun a59 =>
 pv (.put true 1 0 1) [a40,a38,a55] fun a60 =>
 pv (.lit 1 []) [] fun a61 =>
 cl1 (f_s_l06Add [a61,a52]) fun a62 =>
 Yb a39 a38 fun a63 =>
 pv (.put false 1 0 1) [a39,a38,a62] fun a64 =>
 k4 [a64,a60]) (
 Yq a40 a38 fun a60 =>
 Yl a55 a60 fun a61 =>
 jn (ar2 fun a62 a63 =>
 Ya a38 (ii 1) fun a64 =>
 k3 [a64,a62,a63]) fun k4 =>
 ifT a61 (
 Yb a40 a38 fun a62 =>
 pv (.put true 1 0 1) [a40,a38,a55] fun a63 =>
 pv (.lit 1 []) [] fun a64 =>
 cl1 (f_s_l06Add [a64,a52]) fun a65 =>
 Yb a39 a38 fun a66 =>
 pv (.put false 1 0 1) [a39,a38,a65] fun a67 =>
 k4 [a67,a63]) (
 Yq a40 a38 fun a63 =>
 Ye a55 a63 fun a64 =>
 jn (ar1 fun a65 =>
 k4 [a65,a40]) fun k5 =>
 ifT a64 (
 Y1 a39 a38 fun a66 =>
 cl1 (f_s_l06Add [a66,a52]) fun a67 =>
 Yb a39 a38 fun a68 =>
 pv (.put false 1 0 1) [a39,a38,a67] fun a69 =>
 k5 [a69]) (
 k5 [a39])))) fun k4 =>
 ifT a51 (
 Yx a38 fun a52 =>
 k4 [a52]) (
 k4 [a50])))) (
 Ya a27 (ii 1) fun a42 =>
 k1 [a42,a39,a37,a40])) ts
def zy_:Option (List T) :=
 (ar2 fun a32 a33 =>
 Ym a33 (ii 6) fun a34 =>
 ifT a34 (
 Yq a29 a33 fun a36 =>
 Yt a36 fun a37 =>
 ifT a37 (
 Yq a30 a33 fun a39 =>
 Yh a39 (ii 0) fun a40 =>
 ifT a40 (
 Ye a32 (ii 0) fun a41 =>
 ifT a41 (
 jn (ar1 fun a42 =>
 Ya a33 (ii 1) fun a43 =>
 k2 [a42,a43]) fun k3 =>
 k3 [a33]) (
 Yq a30 a33 fun a43 =>
 Yq a30 a32 fun a45 =>
 Yl a43 a45 fun a46 =>
 jn (ar1 fun a47 =>
 Ya a33 (ii 1) fun a48 =>
 k2 [a47,a48]) fun k3 =>
 ifT a46 (
 k3 [a33]) (
 k3 [a32]))) (
 jn (ar1 fun a41 =>
 Ya a33 (ii 1) fun a42 =>
 k2 [a41,a42]) fun k3 =>
 k3 [a32])) (
 jn (ar1 fun a38 =>
 Ya a33 (ii 1) fun a39 =>
 k2 [a38,a39]) fun k3 =>
 k3 [a32])) (
 Ye a32 (ii 0) fun a35 =>
 ifT a35 (
 Ya (ii 6) (ii 1) fun a36 =>
 k1 [a36,a28,a29,a30]) (
 Yb a29 a32 fun a36 =>
 pv (.put true 1 0 1) [a29,a32,bb true] fun a37 =>
 iter (zA_ f_s_l06Add a2 a18 a27 a32 a37 k1) R [ii 1,a28,a30]))) ts
def zw_:Option (List T) :=
 (ar4 fun a27 a28 a29 a30 =>
 Ym a27 (ii 6) fun a31 =>
 ifT a31 (
 iter (zy_ R f_s_l06Add a2 a18 a27 a28 a29 a30 k1) R [ii 0,ii 1]) (
 iter (zB_ a28 a29 a30) R [a3,ii 1])) ts
def zz_:Option (List T) :=
 (ar2 fun a22 a23 =>
 Ym a22 (ii 6) fun a24 =>
 ifT a24 (
 Yb a23 a22 fun a25 =>
 pv (.put true 1 0 1) [a23,a22,ii (-1)] fun a26 =>
 Ya a22 (ii 1) fun a27 =>
 k0 [a27,a26]) (
 Yb a23 a2 fun a25 =>
 pv (.put true 1 0 1) [a23,a2,ii 0] fun a26 =>
 iter (zw_ R f_s_l06Add a2 a3 a18) R [ii 1,a20,a21,a26])) ts
def ahh_:Option (List T) :=
 pv (.lit 3 []) [] fun a3 =>
 cl9 (f_s_l06Node [a0,a1,a2]) fun a4 a5 a6 a7 a8 a9 a10 a11 a12 =>
 cl1 (f_s_StoreOk [a0]) fun a13 =>
 Yt a13 fun a14 =>
 ifT a14 (
 some [a3]) (
 cl1 (f_s_l01In [a2,ii 1,ii 6]) fun a15 =>
 Yt a15 fun a16 =>
 ifT a16 (
 some [a3]) (
 Yt a12 fun a17 =>
 ifT a17 (
 some [a3]) (
 cl1 (f_s_l06Links [a0,a1]) fun a18 =>
 pv (.mk) [ii 7,ii 7,ii 0] fun a19 =>
 pv (.mk) [ii 7,ii 7,.l []] fun a20 =>
 pv (.mk) [ii 7,ii 7,bb false] fun a21 =>
 iter (zz_ R f_s_l06Add a2 a3 a18 a20 a21) R [ii 1,a19])))
theorem aA8_:p_s_WaysIn.den (pick [(75,f_s_l01In),(176,f_s_StoreOk),(251,f_s_l06Add),(282,f_s_l06Node),(283,f_s_l06Links)]) R [] [a0,a1,a2]=ahh_ R f_s_StoreOk f_s_l01In f_s_l06Add f_s_l06Links f_s_l06Node a0 a1 a2:=(zc_ (by kernel_rfl)).trans (by kernel_rfl)
theorem aGo_:wf_ [a0,a1,a2]=ahh_ rounds yE_ z6_ yn_ ug_ xE_ a0 a1 a2:=aA8_ rounds yE_ z6_ yn_ ug_ xE_ a0 a1 a2
def aeg_:Option (List T) :=
 pv (.lit 1 []) [] fun a3 =>
 Yp a3 a2 fun a4 =>
 Yz a1 fun a5 =>
 Yz a0 fun a6 =>
 some [a6,a5,a4]
theorem avc_:p_s_l06Copy.den (pick []) R [] [a0,a1,a2]=aeg_ a0 a1 a2:=(zc_ (by kernel_rfl)).trans (by kernel_rfl)
theorem aAs_:wQ_ [a0,a1,a2]=aeg_ a0 a1 a2:=avc_ rounds a0 a1 a2
def kh_:Option (List T) :=
 (ar2 fun a2 a3 =>
 Yn a0 fun a4 =>
 Yl a3 a4 fun a5 =>
 ifT a5 (
 Yb a0 a3 fun a6 =>
 Yc 3 0 a0 a3 fun a7 =>
 Ye a7 a1 fun a8 =>
 ifT a8 (
 Y3 a0 a3 fun a10 a11 a12 =>
 cl3 (f_s_l06Copy [a10,a11,a12]) fun a13 a14 a15 =>
 Yz (bb true) fun a16 =>
 Yz a14 fun a17 =>
 Yz a13 fun a18 =>
 some [a18,a17,a15,a16]) (
 Ya a3 (ii 1) fun a9 =>
 k0 [a2,a9])) (
 Yz (bb false) fun a6 =>
 Yz (ii 0) fun a7 =>
 Yz (ii 0) fun a8 =>
 some [a8,a7,.l [],a6])) ts
def ak6_:Option (List T) :=
 iter (kh_ f_s_l06Copy a0 a1) R [bb false,ii 0]
theorem aEl_:p_s_WayTo.den (pick [(284,f_s_l06Copy)]) R [] [a0,a1]=ak6_ R f_s_l06Copy a0 a1:=(zc_ (by kernel_rfl)).trans (by kernel_rfl)
theorem aLk_:y7_ [a0,a1]=ak6_ rounds wQ_ a0 a1:=aEl_ rounds wQ_ a0 a1
def aif_:Option (List T) :=
 Yl a1 a4 fun a6 =>
 Yz a6 fun a7 =>
 some [a7]
theorem aA0_:p_s_Better.den (pick []) R [] [a0,a1,a2,a3,a4,a5]=aif_ a1 a4:=(zc_ (by kernel_rfl)).trans (by kernel_rfl)
theorem aGh_:q8_ [a0,a1,a2,a3,a4,a5]=aif_ a1 a4:=aA0_ rounds a0 a1 a2 a3 a4 a5
def aca_:Option (List T) :=
 cl1 (f_s_Better [a0,a1,a2,a3,a4,a5]) fun a6 =>
 ifT a6 (
 cl3 (f_s_l06Copy [a0,a1,a2]) fun a7 a8 a9 =>
 Yz a8 fun a10 =>
 Yz a7 fun a11 =>
 some [a11,a10,a9]) (
 cl1 (f_s_Better [a3,a4,a5,a0,a1,a2]) fun a7 =>
 ifT a7 (
 cl3 (f_s_l06Copy [a3,a4,a5]) fun a8 a9 a10 =>
 Yz a9 fun a11 =>
 Yz a8 fun a12 =>
 some [a12,a11,a10]) (
 cl1 (f_s_l06Add [a2,a5]) fun a8 =>
 Yz a1 fun a9 =>
 Yz a0 fun a10 =>
 some [a10,a9,a8]))
theorem atw_:p_s_Together.den (pick [(251,f_s_l06Add),(284,f_s_l06Copy),(285,f_s_Better)]) R [] [a0,a1,a2,a3,a4,a5]=aca_ f_s_Better f_s_l06Add f_s_l06Copy a0 a1 a2 a3 a4 a5:=(zc_ (by kernel_rfl)).trans (by kernel_rfl)
theorem axy_:wB_ [a0,a1,a2,a3,a4,a5]=aca_ q8_ yn_ wQ_ a0 a1 a2 a3 a4 a5:=atw_ rounds q8_ yn_ wQ_ a0 a1 a2 a3 a4 a5
def yd_:Option (List T) :=
 (ar5 fun a12 a13 a14 a15 a16 =>
 Yn a1 fun a17 =>
 Yl a13 a17 fun a18 =>
 ifT a18 (
 Y1 a5 a13 fun a20 =>
 cl4 (f_s_WayTo [a20,a10]) fun a21 a22 a23 a24 =>
 Yt a24 fun a25 =>
 ifT a25 (
 Ya a13 (ii 1) fun a26 =>
 k2 [a12,a26,a14,a15,a16]) (
 jn (ar3 fun a26 a27 a28 =>
 Ya a13 (ii 1) fun a29 =>
 k2 [bb true,a29,a26,a27,a28]) fun k3 =>
 ifT a12 (
 cl3 (f_s_Together [a14,a15,a16,a21,a22,a23]) fun a26 a27 a28 =>
 k3 [a26,a27,a28]) (
 k3 [a21,a22,a23]))) (
 jn (ar1 fun a19 =>
 Ya a10 (ii 1) fun a20 =>
 k1 [a19,a20]) fun k3 =>
 ifT a12 (
 pv (.lit 3 []) [a14,a15,a16] fun a19 =>
 Yo a9 a19 fun a20 =>
 k3 [a20]) (
 k3 [a9]))) ts
def yb_:Option (List T) :=
 (ar2 fun a9 a10 =>
 Ym a10 (ii 6) fun a11 =>
 ifT a11 (
 iter (yd_ f_s_Together f_s_WayTo a1 a5 a9 a10 k1) R [bb false,ii 0,ii 0,ii 0,.l []]) (
 some [a9])) ts
def yf_:Option (List T) :=
 (ar2 fun a5 a6 =>
 Yn a1 fun a7 =>
 Yl a6 a7 fun a8 =>
 ifT a8 (
 Y1 a1 a6 fun a10 =>
 cl1 (f_s_WaysIn [a0,a10,a2]) fun a11 =>
 pv (.lit 1 []) [a11] fun a12 =>
 pv (.app false 1) [a5,a12] fun a13 =>
 Ya a6 (ii 1) fun a14 =>
 k0 [a13,a14]) (
 iter (yb_ R f_s_Together f_s_WayTo a1 a5) R [a3,ii 1])) ts
def jC_:Option (List T) :=
 pv (.lit 3 []) [] fun a3 =>
 pv (.lit 1 []) [] fun a4 =>
 iter (yf_ R f_s_Together f_s_WayTo f_s_WaysIn a0 a1 a2 a3) R [a4,ii 0]
theorem al8_:p_s_RoutesWithin.den (pick [(245,f_s_WaysIn),(246,f_s_WayTo),(247,f_s_Together)]) R [] [a0,a1,a2]=jC_ R f_s_Together f_s_WayTo f_s_WaysIn a0 a1 a2:=(zc_ (by kernel_rfl)).trans (by kernel_rfl)
theorem ane_:yK_ [a0,a1,a2]=jC_ rounds wB_ y7_ wf_ a0 a1 a2:=al8_ rounds wB_ y7_ wf_ a0 a1 a2
def yJ_:Option (List T) :=
 (ar5 fun a9 a10 a11 a12 a13 =>
 Yn a0 fun a14 =>
 Yl a10 a14 fun a15 =>
 ifT a15 (
 Y8 a0 a10 fun a17 a18 a19 a20 a21 a22 a23 a24 =>
 Yu a18 (ii 2) fun a25 =>
 ifT a25 (
 Ya a10 (ii 1) fun a26 =>
 k0 [a9,a26,a11,a12,a13]) (
 Yu a17 a2 fun a26 =>
 ifT a26 (
 Ya a10 (ii 1) fun a27 =>
 k0 [a9,a27,a11,a12,a13]) (
 Yu a20 a4 fun a27 =>
 ifT a27 (
 Ya a10 (ii 1) fun a28 =>
 k0 [a9,a28,a11,a12,a13]) (
 Ye a19 a3 fun a28 =>
 ifT a28 (
 Ya a10 (ii 1) fun a29 =>
 k0 [a9,a29,a11,a12,a13]) (
 Yh a23 (ii 60000) fun a29 =>
 ifT a29 (
 Ya a10 (ii 1) fun a30 =>
 k0 [a9,a30,a11,a12,a13]) (
 cl4 (f_s_WayTo [a1,a19]) fun a30 a31 a32 a33 =>
 Yt a33 fun a34 =>
 ifT a34 (
 Ya a10 (ii 1) fun a35 =>
 k0 [a9,a35,a11,a12,a13]) (
 Ya a31 a23 fun a35 =>
 Yh a35 (ii 60000) fun a36 =>
 ifT a36 (
 Ya a10 (ii 1) fun a37 =>
 k0 [a9,a37,a11,a12,a13]) (
 Ya a31 a23 fun a37 =>
 jn (ar3 fun a38 a39 a40 =>
 Ya a10 (ii 1) fun a41 =>
 k0 [bb true,a41,a38,a39,a40]) fun k1 =>
 ifT a9 (
 cl3 (f_s_Together [a11,a12,a13,a4,a37,a32]) fun a38 a39 a40 =>
 k1 [a38,a39,a40]) (
 k1 [a4,a37,a32]))))))))) (
 Yz a9 fun a16 =>
 Yz a12 fun a17 =>
 Yz a11 fun a18 =>
 some [a18,a17,a13,a16])) ts
def aax_:Option (List T) :=
 iter (yJ_ f_s_Together f_s_WayTo a0 a1 a2 a3 a4) R [a8,ii 0,a5,a6,a7]
theorem are_:p_s_l07Beyond.den (pick [(246,f_s_WayTo),(247,f_s_Together)]) R [] [a0,a1,a2,a3,a4,a5,a6,a7,a8]=aax_ R f_s_Together f_s_WayTo a0 a1 a2 a3 a4 a5 a6 a7 a8:=(zc_ (by kernel_rfl)).trans (by kernel_rfl)
theorem at4_:vD_ [a0,a1,a2,a3,a4,a5,a6,a7,a8]=aax_ rounds wB_ y7_ a0 a1 a2 a3 a4 a5 a6 a7 a8:=are_ rounds wB_ y7_ a0 a1 a2 a3 a4 a5 a6 a7 a8
def zW_:Option (List T) :=
 (ar5 fun a20 a21 a22 a23 a24 =>
 Yn a1 fun a25 =>
 Yl a21 a25 fun a26 =>
 ifT a26 (
 ifT a2 (
 Y1 a1 a21 fun a28 =>
 Yu a28 (ii 0) fun a29 =>
 ifT a29 (
 Ya a21 (ii 1) fun a30 =>
 k2 [a20,a30,a22,a23,a24]) (
 Y1 a9 a21 fun a31 =>
 Y1 a1 a21 fun a33 =>
 cl4 (f_s_l07Beyond [a0,a31,a33,a3,a14,a22,a23,a24,a20]) fun a34 a35 a36 a37 =>
 Ya a21 (ii 1) fun a38 =>
 k2 [a37,a38,a34,a35,a36])) (
 Y1 a9 a21 fun a28 =>
 Y1 a1 a21 fun a30 =>
 cl4 (f_s_l07Beyond [a0,a28,a30,a3,a14,a22,a23,a24,a20]) fun a31 a32 a33 a34 =>
 Ya a21 (ii 1) fun a35 =>
 k2 [a34,a35,a31,a32,a33])) (
 jn (ar1 fun a27 =>
 Ya a14 (ii 1) fun a28 =>
 k1 [a27,a28]) fun k3 =>
 ifT a20 (
 pv (.lit 3 []) [a22,a23,a24] fun a27 =>
 Yo a13 a27 fun a28 =>
 k3 [a28]) (
 k3 [a13]))) ts
def zV_:Option (List T) :=
 (ar2 fun a13 a14 =>
 Ym a14 (ii 6) fun a15 =>
 ifT a15 (
 cl4 (f_s_WayTo [a5,a14]) fun a16 a17 a18 a19 =>
 ifT a19 (
 Ya a14 (ii 1) fun a20 =>
 k1 [a13,a20]) (
 iter (zW_ f_s_l07Beyond a0 a1 a2 a3 a9 a13 a14 k1) R [bb false,ii 0,ii 0,ii 0,.l []])) (
 some [a13])) ts
def zU_:Option (List T) :=
 (ar2 fun a9 a10 =>
 Yn a1 fun a11 =>
 Yl a10 a11 fun a12 =>
 ifT a12 (
 Y1 a1 a10 fun a14 =>
 cl1 (f_s_WaysIn [a0,a14,a3]) fun a15 =>
 pv (.lit 1 []) [a15] fun a16 =>
 pv (.app false 1) [a9,a16] fun a17 =>
 Ya a10 (ii 1) fun a18 =>
 k0 [a17,a18]) (
 iter (zV_ R f_s_WayTo f_s_l07Beyond a0 a1 a2 a3 a5 a9) R [a4,ii 1])) ts
def jF_:Option (List T) :=
 pv (.lit 3 []) [] fun a4 =>
 cl1 (f_s_RoutesWithin [a0,a1,a3]) fun a5 =>
 cl1 (f_s_StoreOk [a0]) fun a6 =>
 Yt a6 fun a7 =>
 ifT a7 (
 some [a4]) (
 pv (.lit 1 []) [] fun a8 =>
 iter (zU_ R f_s_WayTo f_s_WaysIn f_s_l07Beyond a0 a1 a2 a3 a4 a5) R [a8,ii 0])
theorem al7_:p_s_RoutesBeyond.den (pick [(174,f_s_RoutesWithin),(176,f_s_StoreOk),(245,f_s_WaysIn),(246,f_s_WayTo),(248,f_s_l07Beyond)]) R [] [a0,a1,a2,a3]=jF_ R f_s_RoutesWithin f_s_StoreOk f_s_WayTo f_s_WaysIn f_s_l07Beyond a0 a1 a2 a3:=(zc_ (by kernel_rfl)).trans (by kernel_rfl)
theorem an3_:xw_ [a0,a1,a2,a3]=jF_ rounds yK_ yE_ y7_ wf_ vD_ a0 a1 a2 a3:=al7_ rounds yK_ yE_ y7_ wf_ vD_ a0 a1 a2 a3
def um_:Option (List T) :=
 Ye a2 a3 fun a4 =>
 ifT a4 (
 Yz (bb true) fun a5 =>
 Yz (ii 0) fun a6 =>
 Yz a2 fun a7 =>
 some [a7,a6,.l [],a5]) (
 cl4 (f_s_WayTo [a0,a2]) fun a5 a6 a7 a8 =>
 ifT a8 (
 Yz (bb true) fun a9 =>
 Yz a6 fun a10 =>
 Yz a5 fun a11 =>
 some [a11,a10,a7,a9]) (
 cl4 (f_s_WayTo [a1,a2]) fun a9 a10 a11 a12 =>
 Yz a12 fun a13 =>
 Yz a10 fun a14 =>
 Yz a9 fun a15 =>
 some [a15,a14,a11,a13]))
theorem atu_:p_s_l07Owner.den (pick [(246,f_s_WayTo)]) R [] [a0,a1,a2,a3]=um_ f_s_WayTo a0 a1 a2 a3:=(zc_ (by kernel_rfl)).trans (by kernel_rfl)
theorem auu_:qn_ [a0,a1,a2,a3]=um_ y7_ a0 a1 a2 a3:=atu_ rounds y7_ a0 a1 a2 a3
def zf_:Option (List T) :=
 (ar6 fun a6 a7 a8 a9 a10 a11 =>
 Yn a0 fun a12 =>
 Yl a7 a12 fun a13 =>
 ifT a13 (
 Y8 a0 a7 fun a15 a16 a17 a18 a19 a20 a21 a22 =>
 Yu a16 (ii 3) fun a23 =>
 ifT a23 (
 Ya a7 (ii 1) fun a24 =>
 k0 [a6,a24,a8,a9,a10,a11]) (
 Yu a18 a3 fun a24 =>
 ifT a24 (
 Ya a7 (ii 1) fun a25 =>
 k0 [a6,a25,a8,a9,a10,a11]) (
 pv (.bb .neq) [a22,a5] fun a25 =>
 ifT a25 (
 Ya a7 (ii 1) fun a26 =>
 k0 [a6,a26,a8,a9,a10,a11]) (
 Yh a21 (ii 60000) fun a26 =>
 ifT a26 (
 Ya a7 (ii 1) fun a27 =>
 k0 [a6,a27,a8,a9,a10,a11]) (
 cl4 (f_s_l07Owner [a1,a2,a17,a4]) fun a27 a28 a29 a30 =>
 Yt a30 fun a31 =>
 ifT a31 (
 Ya a7 (ii 1) fun a32 =>
 k0 [a6,a32,a8,a9,a10,a11]) (
 Ya a28 a21 fun a32 =>
 jn (ar3 fun a33 a34 a35 =>
 Yt a6 fun a36 =>
 ifT a36 (
 jn (ar3 fun a37 a38 a39 =>
 Ya a7 (ii 1) fun a40 =>
 k0 [bb true,a40,a33,a37,a38,a39]) fun k1 =>
 pv (.lit 1 []) [] fun a37 =>
 cl1 (f_s_l06Add [a37,a29]) fun a38 =>
 k1 [a34,a35,a38]) (
 Yl a35 a10 fun a37 =>
 ifT a37 (
 jn (ar3 fun a38 a39 a40 =>
 Ya a7 (ii 1) fun a41 =>
 k0 [bb true,a41,a33,a38,a39,a40]) fun k1 =>
 pv (.lit 1 []) [] fun a38 =>
 cl1 (f_s_l06Add [a38,a29]) fun a39 =>
 k1 [a34,a35,a39]) (
 Ye a35 a10 fun a38 =>
 ifT a38 (
 Yl a34 a9 fun a39 =>
 jn (ar3 fun a40 a41 a42 =>
 Ya a7 (ii 1) fun a43 =>
 k0 [bb true,a43,a33,a40,a41,a42]) fun k1 =>
 ifT a39 (
 pv (.lit 1 []) [] fun a40 =>
 cl1 (f_s_l06Add [a40,a29]) fun a41 =>
 k1 [a34,a35,a41]) (
 Ye a35 a10 fun a40 =>
 ifT a40 (
 Ye a34 a9 fun a41 =>
 jn (ar1 fun a42 =>
 k1 [a9,a10,a42]) fun k2 =>
 ifT a41 (
 cl1 (f_s_l06Add [a11,a29]) fun a42 =>
 k2 [a42]) (
 k2 [a11])) (
 jn (ar1 fun a41 =>
 k1 [a9,a10,a41]) fun k2 =>
 k2 [a11]))) (
 jn (ar3 fun a39 a40 a41 =>
 Ya a7 (ii 1) fun a42 =>
 k0 [bb true,a42,a33,a39,a40,a41]) fun k1 =>
 Ye a35 a10 fun a39 =>
 ifT a39 (
 Ye a34 a9 fun a40 =>
 jn (ar1 fun a41 =>
 k1 [a9,a10,a41]) fun k2 =>
 ifT a40 (
 cl1 (f_s_l06Add [a11,a29]) fun a41 =>
 k2 [a41]) (
 k2 [a11])) (
 jn (ar1 fun a40 =>
 k1 [a9,a10,a40]) fun k2 =>
 k2 [a11]))))) fun k1 =>
 ifT a5 (
 k1 [ii 4,a28,a21]) (
 k1 [a8,a32,ii 0]))))))) (
 Yz a6 fun a14 =>
 Yz a10 fun a15 =>
 Yz a9 fun a16 =>
 Yz a8 fun a17 =>
 Yz a3 fun a18 =>
 Yz (bb true) fun a19 =>
 some [a19,a18,a17,a16,a15,a11,a14])) ts
def kz_:Option (List T) :=
 iter (zf_ f_s_l06Add f_s_l07Owner a0 a1 a2 a3 a4 a5) R [bb false,ii 0,ii 3,ii 0,ii 0,.l []]
theorem atd_:p_s_l07Thing.den (pick [(250,f_s_l07Owner),(251,f_s_l06Add)]) R [] [a0,a1,a2,a3,a4,a5]=kz_ R f_s_l06Add f_s_l07Owner a0 a1 a2 a3 a4 a5:=(zc_ (by kernel_rfl)).trans (by kernel_rfl)
theorem aj4_:v9_ [a0,a1,a2,a3,a4,a5]=kz_ rounds yn_ qn_ a0 a1 a2 a3 a4 a5:=atd_ rounds yn_ qn_ a0 a1 a2 a3 a4 a5
def y5_:Option (List T) :=
 (ar2 fun a17 a18 =>
 Ym a18 (ii 9) fun a19 =>
 ifT a19 (
 cl7 (f_s_l07Thing [a0,a5,a6,a18,a3,bb false]) fun a20 a21 a22 a23 a24 a25 a26 =>
 Yt a26 fun a27 =>
 jn (ar7 fun a28 a29 a30 a31 a32 a33 a34 =>
 jn (ar1 fun a35 =>
 Ya a18 (ii 1) fun a36 =>
 k2 [a35,a36]) fun k3 =>
 ifT a34 (
 pv (.lit 1 []) [] fun a35 =>
 Yp a35 a33 fun a36 =>
 pv (.lit 6 [true,true,true,true,true,false]) [a28,a29,a30,a31,a32,a36] fun a37 =>
 pv (.app false 6) [a17,a37] fun a38 =>
 k3 [a38]) (
 k3 [a17])) fun k3 =>
 ifT a27 (
 cl7 (f_s_l07Thing [a0,a5,a6,a18,a3,bb true]) fun a28 a29 a30 a31 a32 a33 a34 =>
 k3 [a28,a29,a30,a31,a32,a33,a34]) (
 k3 [a20,a21,a22,a23,a24,a25,a26])) (
 some [a17])) ts
def y8_:Option (List T) :=
 (ar2 fun a13 a14 =>
 Yn a6 fun a15 =>
 Yl a14 a15 fun a16 =>
 ifT a16 (
 Yb a6 a14 fun a17 =>
 Yc 3 0 a6 a14 fun a18 =>
 Yu a18 a3 fun a19 =>
 jn (ar1 fun a20 =>
 Ya a14 (ii 1) fun a21 =>
 k1 [a20,a21]) fun k2 =>
 ifT a19 (
 Yb a6 a14 fun a20 =>
 Yc 3 0 a6 a14 fun a21 =>
 Yb a6 a14 fun a22 =>
 Yc 3 1 a6 a14 fun a23 =>
 Yb a6 a14 fun a24 =>
 Yc 3 2 a6 a14 fun a25 =>
 pv (.lit 6 []) [bb false,a21,ii 2,a23,ii 0,a25] fun a26 =>
 pv (.app false 6) [a13,a26] fun a27 =>
 k2 [a27]) (
 k2 [a13])) (
 iter (y5_ f_s_l07Thing a0 a3 a5 a6) R [a13,ii 1])) ts
def y6_:Option (List T) :=
 (ar2 fun a9 a10 =>
 Yn a5 fun a11 =>
 Yl a10 a11 fun a12 =>
 ifT a12 (
 Yb a5 a10 fun a13 =>
 Yc 3 0 a5 a10 fun a14 =>
 Yu a14 a3 fun a15 =>
 jn (ar1 fun a16 =>
 Ya a10 (ii 1) fun a17 =>
 k0 [a16,a17]) fun k1 =>
 ifT a15 (
 Yb a5 a10 fun a16 =>
 Yc 3 0 a5 a10 fun a17 =>
 Yb a5 a10 fun a18 =>
 Yc 3 1 a5 a10 fun a19 =>
 Yb a5 a10 fun a20 =>
 Yc 3 2 a5 a10 fun a21 =>
 pv (.lit 6 []) [bb false,a17,ii 1,a19,ii 0,a21] fun a22 =>
 pv (.app false 6) [a9,a22] fun a23 =>
 k1 [a23]) (
 k1 [a9])) (
 iter (y8_ R f_s_l07Thing a0 a3 a5 a6) R [a9,ii 0])) ts
def acm_:Option (List T) :=
 pv (.lit 6 []) [] fun a4 =>
 cl1 (f_s_RoutesWithin [a0,a1,a3]) fun a5 =>
 cl1 (f_s_RoutesBeyond [a0,a1,a2,a3]) fun a6 =>
 cl1 (f_s_StoreOk [a0]) fun a7 =>
 Yt a7 fun a8 =>
 ifT a8 (
 some [a4]) (
 iter (y6_ R f_s_l07Thing a0 a3 a5 a6) R [a4,ii 0])
theorem at3_:p_s_RoutesOf.den (pick [(174,f_s_RoutesWithin),(175,f_s_RoutesBeyond),(176,f_s_StoreOk),(177,f_s_l07Thing)]) R [] [a0,a1,a2,a3]=acm_ R f_s_RoutesBeyond f_s_RoutesWithin f_s_StoreOk f_s_l07Thing a0 a1 a2 a3:=(zc_ (by kernel_rfl)).trans (by kernel_rfl)
theorem ax0_:ql_ [a0,a1,a2,a3]=acm_ rounds xw_ yK_ yE_ v9_ a0 a1 a2 a3:=at3_ rounds xw_ yK_ yE_ v9_ a0 a1 a2 a3
def ahd_:Option (List T) :=
 cl1 (f_s_NodeOk [a0,a1,a2,a3,a4,a5,a6,a7]) fun a8 =>
 Yt a8 fun a9 =>
 ifT a9 (
 pv (.lit 6 []) [] fun a10 =>
 some [a10]) (
 cl1 (f_s_AreasOf [a2,a3,a4,a0]) fun a10 =>
 cl1 (f_s_Border [a2,a3,a4,a0]) fun a11 =>
 cl1 (f_s_RoutesOf [a6,a10,a11,a0]) fun a12 =>
 some [a12])
theorem azu_:p_s_Routes.den (pick [(76,f_s_RoutesOf),(77,f_s_AreasOf),(78,f_s_Border),(92,f_s_NodeOk)]) R [] [a0,a1,a2,a3,a4,a5,a6,a7]=ahd_ f_s_AreasOf f_s_Border f_s_NodeOk f_s_RoutesOf a0 a1 a2 a3 a4 a5 a6 a7:=(zc_ (by kernel_rfl)).trans (by kernel_rfl)
theorem aFh_:agu_ [a0,a1,a2,a3,a4,a5,a6,a7]=ahd_ xV_ vf_ ko_ ql_ a0 a1 a2 a3 a4 a5 a6 a7:=azu_ rounds xV_ vf_ ko_ ql_ a0 a1 a2 a3 a4 a5 a6 a7
def aw4_:Option (List T) :=
 Yh a0 a1 fun a3 =>
 ifT a3 (
 Ym a0 a2 fun a4 =>
 Yz a4 fun a5 =>
 some [a5]) (
 Yz (bb false) fun a4 =>
 some [a4])
theorem aPh_:p_i_in.den (pick []) R [] [a0,a1,a2]=aw4_ a0 a1 a2:=(zc_ (by kernel_rfl)).trans (by kernel_rfl)
theorem aR5_:xK_ [a0,a1,a2]=aw4_ a0 a1 a2:=aPh_ rounds a0 a1 a2
def ahz_:Option (List T) :=
 cl1 (f_i_in [a0,ii 1,ii 6]) fun a5 =>
 ifT a5 (
 cl1 (f_i_in [a1,ii 1,a0]) fun a6 =>
 ifT a6 (
 cl1 (f_i_in [a2,ii 1,a0]) fun a7 =>
 ifT a7 (
 Yl a1 a2 fun a8 =>
 ifT a8 (
 cl1 (f_i_in [a3,ii 1,ii 1000]) fun a9 =>
 ifT a9 (
 cl1 (f_i_in [a4,ii 0,ii 2]) fun a10 =>
 Yz a10 fun a11 =>
 some [a11]) (
 Yz (bb false) fun a10 =>
 some [a10])) (
 Yz (bb false) fun a9 =>
 some [a9])) (
 Yz (bb false) fun a8 =>
 some [a8])) (
 Yz (bb false) fun a7 =>
 some [a7])) (
 Yz (bb false) fun a6 =>
 some [a6])
theorem aB7_:p_i_LinkOk.den (pick [(82,f_i_in)]) R [] [a0,a1,a2,a3,a4]=ahz_ f_i_in a0 a1 a2 a3 a4:=(zc_ (by kernel_rfl)).trans (by kernel_rfl)
theorem aFb_:q4_ [a0,a1,a2,a3,a4]=ahz_ xK_ a0 a1 a2 a3 a4:=aB7_ rounds xK_ a0 a1 a2 a3 a4
def akt_:Option (List T) :=
 Yu a0 a4 fun a8 =>
 ifT a8 (
 Yl a0 a4 fun a9 =>
 Yz a9 fun a10 =>
 some [a10]) (
 Yu a1 a5 fun a9 =>
 ifT a9 (
 Yl a1 a5 fun a10 =>
 Yz a10 fun a11 =>
 some [a11]) (
 Yl a3 a7 fun a10 =>
 Yz a10 fun a11 =>
 some [a11]))
theorem aEv_:p_i_ahead.den (pick []) R [] [a0,a1,a2,a3,a4,a5,a6,a7]=akt_ a0 a1 a3 a4 a5 a7:=(zc_ (by kernel_rfl)).trans (by kernel_rfl)
theorem aLs_:j2_ [a0,a1,a2,a3,a4,a5,a6,a7]=akt_ a0 a1 a3 a4 a5 a7:=aEv_ rounds a0 a1 a2 a3 a4 a5 a6 a7
def an9_:Option (List T) :=
 Yl a1 a5 fun a8 =>
 ifT a8 (
 Yz (bb true) fun a9 =>
 some [a9]) (
 Ye a1 a5 fun a9 =>
 ifT a9 (
 Yl a0 a4 fun a10 =>
 Yz a10 fun a11 =>
 some [a11]) (
 Yz (bb false) fun a10 =>
 some [a10]))
theorem aKk_:p_i_less.den (pick []) R [] [a0,a1,a2,a3,a4,a5,a6,a7]=an9_ a0 a1 a4 a5:=(zc_ (by kernel_rfl)).trans (by kernel_rfl)
theorem aL6_:kK_ [a0,a1,a2,a3,a4,a5,a6,a7]=an9_ a0 a1 a4 a5:=aKk_ rounds a0 a1 a2 a3 a4 a5 a6 a7
def vv_:Option (List T) :=
 (ar2 fun a14 a15 =>
 Yl a15 a13 fun a16 =>
 ifT a16 (
 Y4 a2 a15 fun a18 a19 a20 a21 =>
 cl1 (f_i_in [a19,ii 1,ii 9]) fun a22 =>
 Yt a22 fun a23 =>
 ifT a23 (
 Yz (bb false) fun a24 =>
 some [a24]) (
 cl1 (f_i_in [a18,ii 1,a0]) fun a24 =>
 Yt a24 fun a25 =>
 ifT a25 (
 Yz (bb false) fun a26 =>
 some [a26]) (
 cl1 (f_i_in [a20,ii 1,ii 1000]) fun a26 =>
 Yt a26 fun a27 =>
 ifT a27 (
 Yz (bb false) fun a28 =>
 some [a28]) (
 Yg a15 (ii 0) fun a28 =>
 ifT a28 (
 Ys a15 (ii 1) fun a29 =>
 Y4 a2 a29 fun a31 a32 a33 a34 =>
 cl1 (f_i_less [a31,a32,a33,a34,a18,a19,a20,a21]) fun a35 =>
 Yt a35 fun a36 =>
 ifT a36 (
 Yz (bb false) fun a37 =>
 some [a37]) (
 Ya a15 (ii 1) fun a37 =>
 k1 [a14,a37])) (
 Ya a15 (ii 1) fun a29 =>
 k1 [a14,a29]))))) (
 Yz (bb true) fun a17 =>
 some [a17])) ts
def vr_:Option (List T) :=
 (ar2 fun a10 a11 =>
 Yl a11 a9 fun a12 =>
 ifT a12 (
 Y4 a1 a11 fun a14 a15 a16 a17 =>
 cl1 (f_i_LinkOk [a0,a14,a15,a16,a17]) fun a18 =>
 Yt a18 fun a19 =>
 ifT a19 (
 Yz (bb false) fun a20 =>
 some [a20]) (
 Yg a11 (ii 0) fun a20 =>
 ifT a20 (
 Ys a11 (ii 1) fun a21 =>
 Y4 a1 a21 fun a23 a24 a25 a26 =>
 cl1 (f_i_ahead [a23,a24,a25,a26,a14,a15,a16,a17]) fun a27 =>
 Yt a27 fun a28 =>
 ifT a28 (
 Yz (bb false) fun a29 =>
 some [a29]) (
 Ya a11 (ii 1) fun a29 =>
 k0 [a10,a29])) (
 Ya a11 (ii 1) fun a21 =>
 k0 [a10,a21]))) (
 Yn a2 fun a13 =>
 iter (vv_ f_i_in f_i_less a0 a2 a13) R [a10,ii 0])) ts
def aki_:Option (List T) :=
 cl1 (f_i_in [a0,ii 1,ii 6]) fun a3 =>
 Yt a3 fun a4 =>
 ifT a4 (
 Yz (bb false) fun a5 =>
 some [a5]) (
 Yn a1 fun a5 =>
 Yg a5 (ii 12) fun a6 =>
 ifT a6 (
 Yz (bb false) fun a7 =>
 some [a7]) (
 Yn a2 fun a7 =>
 Yg a7 (ii 4) fun a8 =>
 ifT a8 (
 Yz (bb false) fun a9 =>
 some [a9]) (
 Yn a1 fun a9 =>
 iter (vr_ R f_i_LinkOk f_i_ahead f_i_in f_i_less a0 a1 a2 a9) R [bb false,ii 0])))
theorem aGa_:p_i_NetOk.den (pick [(82,f_i_in),(218,f_i_LinkOk),(219,f_i_ahead),(220,f_i_less)]) R [] [a0,a1,a2]=aki_ R f_i_LinkOk f_i_ahead f_i_in f_i_less a0 a1 a2:=(zc_ (by kernel_rfl)).trans (by kernel_rfl)
theorem aJu_:j9_ [a0,a1,a2]=aki_ rounds q4_ j2_ xK_ kK_ a0 a1 a2:=aGa_ rounds q4_ j2_ xK_ kK_ a0 a1 a2
def jy_:Option (List T) :=
 (ar2 fun a7 a8 =>
 Yl a8 a6 fun a9 =>
 ifT a9 (
 Y4 a1 a8 fun a11 a12 a13 a14 =>
 Ye a14 a5 fun a15 =>
 ifT a15 (
 Ye a11 a3 fun a16 =>
 ifT a16 (
 Ye a12 a4 fun a17 =>
 ifT a17 (
 Yz a8 fun a18 =>
 some [a18]) (
 Ye a11 a4 fun a18 =>
 ifT a18 (
 Ye a12 a3 fun a19 =>
 ifT a19 (
 Yz a8 fun a20 =>
 some [a20]) (
 Ya a8 (ii 1) fun a20 =>
 k0 [a7,a20])) (
 Ya a8 (ii 1) fun a19 =>
 k0 [a7,a19]))) (
 Ye a11 a4 fun a17 =>
 ifT a17 (
 Ye a12 a3 fun a18 =>
 ifT a18 (
 Yz a8 fun a19 =>
 some [a19]) (
 Ya a8 (ii 1) fun a19 =>
 k0 [a7,a19])) (
 Ya a8 (ii 1) fun a18 =>
 k0 [a7,a18]))) (
 Ya a8 (ii 1) fun a16 =>
 k0 [a7,a16])) (
 Yz (ii (-1)) fun a10 =>
 some [a10])) ts
def ag7_:Option (List T) :=
 Yn a1 fun a6 =>
 iter (jy_ a1 a3 a4 a5 a6) R [ii 0,ii 0]
theorem aBf_:p_i_linkAt.den (pick []) R [] [a0,a1,a2,a3,a4,a5]=ag7_ R a1 a3 a4 a5:=(zc_ (by kernel_rfl)).trans (by kernel_rfl)
theorem aD2_:wd_ [a0,a1,a2,a3,a4,a5]=ag7_ rounds a1 a3 a4 a5:=aBf_ rounds a0 a1 a2 a3 a4 a5
def qB_:Option (List T) :=
 (ar2 fun a10 a11 =>
 Yn a5 fun a12 =>
 Yl a11 a12 fun a13 =>
 ifT a13 (
 Y1 a5 a11 fun a15 =>
 Ya a11 (ii 1) fun a16 =>
 Y1 a5 a16 fun a18 =>
 cl1 (f_i_linkAt [a2,a3,a4,a0,a15,a18]) fun a19 =>
 Yl a19 (ii 0) fun a20 =>
 ifT a20 (
 Yz (bb false) fun a21 =>
 some [a21]) (
 Yg a11 (ii 0) fun a21 =>
 ifT a21 (
 Ys a11 (ii 2) fun a22 =>
 Y1 a5 a22 fun a24 =>
 Yg a24 a15 fun a25 =>
 ifT a25 (
 Yz (bb false) fun a26 =>
 some [a26]) (
 Ys a11 (ii 2) fun a26 =>
 Y1 a5 a26 fun a28 =>
 Ye a28 a15 fun a29 =>
 ifT a29 (
 Ys a11 (ii 1) fun a30 =>
 Y1 a5 a30 fun a32 =>
 Yh a32 a18 fun a33 =>
 ifT a33 (
 Yz (bb false) fun a34 =>
 some [a34]) (
 Ya a11 (ii 2) fun a34 =>
 k0 [a10,a34])) (
 Ya a11 (ii 2) fun a30 =>
 k0 [a10,a30]))) (
 Ya a11 (ii 2) fun a22 =>
 k0 [a10,a22]))) (
 Yz (bb true) fun a14 =>
 some [a14])) ts
def aex_:Option (List T) :=
 Yn a5 fun a7 =>
 pv (.bin .rem) [a7,ii 2] fun a8 =>
 Yu a8 (ii 0) fun a9 =>
 ifT a9 (
 Yz (bb false) fun a10 =>
 some [a10]) (
 iter (qB_ f_i_linkAt a0 a2 a3 a4 a5) R [bb false,ii 0])
theorem axf_:p_i_heardOk.den (pick [(214,f_i_linkAt)]) R [] [a0,a1,a2,a3,a4,a5,a6]=aex_ R f_i_linkAt a0 a2 a3 a4 a5:=(zc_ (by kernel_rfl)).trans (by kernel_rfl)
theorem aBp_:uX_ [a0,a1,a2,a3,a4,a5,a6]=aex_ rounds wd_ a0 a2 a3 a4 a5:=axf_ rounds wd_ a0 a1 a2 a3 a4 a5 a6
def jt_:Option (List T) :=
 (ar2 fun a9 a10 =>
 Yl a10 a8 fun a11 =>
 ifT a11 (
 Y2 a5 a10 fun a13 a14 =>
 cl1 (f_i_in [a13,ii 1,ii 6]) fun a15 =>
 Yt a15 fun a16 =>
 ifT a16 (
 Yz (bb false) fun a17 =>
 some [a17]) (
 Ye a13 a2 fun a17 =>
 ifT a17 (
 Yz (bb false) fun a18 =>
 some [a18]) (
 cl1 (f_i_in [a14,ii 1,ii 1000]) fun a18 =>
 Yt a18 fun a19 =>
 ifT a19 (
 Yz (bb false) fun a20 =>
 some [a20]) (
 Yg a10 (ii 0) fun a20 =>
 ifT a20 (
 Ys a10 (ii 1) fun a21 =>
 Yb a5 a21 fun a22 =>
 Yc 2 0 a5 a21 fun a23 =>
 Yh a23 a13 fun a24 =>
 ifT a24 (
 Yz (bb false) fun a25 =>
 some [a25]) (
 Ya a10 (ii 1) fun a25 =>
 k0 [a9,a25])) (
 Ya a10 (ii 1) fun a21 =>
 k0 [a9,a21]))))) (
 Yz (bb true) fun a12 =>
 some [a12])) ts
def ag2_:Option (List T) :=
 Yn a5 fun a8 =>
 iter (jt_ f_i_in a2 a5 a8) R [bb false,ii 0]
theorem aB0_:p_i_nearOk.den (pick [(82,f_i_in)]) R [] [a0,a1,a2,a3,a4,a5,a6,a7]=ag2_ R f_i_in a2 a5:=(zc_ (by kernel_rfl)).trans (by kernel_rfl)
theorem aGs_:q5_ [a0,a1,a2,a3,a4,a5,a6,a7]=ag2_ rounds xK_ a2 a5:=aB0_ rounds xK_ a0 a1 a2 a3 a4 a5 a6 a7
def acl_:Option (List T) :=
 cl1 (f_i_in [a2,ii 1,ii 6]) fun a8 =>
 Yt a8 fun a9 =>
 ifT a9 (
 Yz (bb false) fun a10 =>
 some [a10]) (
 cl1 (f_i_in [a4,ii 1,ii 100000]) fun a10 =>
 Yt a10 fun a11 =>
 ifT a11 (
 Yz (bb false) fun a12 =>
 some [a12]) (
 Ye a1 (ii 1) fun a12 =>
 ifT a12 (
 cl1 (f_i_in [a0,ii 0,ii 2]) fun a13 =>
 ifT a13 (
 Ye a3 (ii 0) fun a14 =>
 ifT a14 (
 cl1 (f_i_nearOk [a0,a1,a2,a3,a4,a5,a6,a7]) fun a15 =>
 ifT a15 (
 Ye a6 (ii 0) fun a16 =>
 ifT a16 (
 Yt a7 fun a17 =>
 Yz a17 fun a18 =>
 some [a18]) (
 Yz (bb false) fun a17 =>
 some [a17])) (
 Yz (bb false) fun a16 =>
 some [a16])) (
 Yz (bb false) fun a15 =>
 some [a15])) (
 Yz (bb false) fun a14 =>
 some [a14])) (
 Ye a1 (ii 2) fun a13 =>
 ifT a13 (
 cl1 (f_i_in [a0,ii 0,ii 2]) fun a14 =>
 ifT a14 (
 cl1 (f_i_in [a3,ii 1,ii 6]) fun a15 =>
 ifT a15 (
 Yn a5 fun a16 =>
 Ye a16 (ii 0) fun a17 =>
 ifT a17 (
 cl1 (f_i_in [a6,ii 0,ii 60000]) fun a18 =>
 ifT a18 (
 Yt a7 fun a19 =>
 Yz a19 fun a20 =>
 some [a20]) (
 Yz (bb false) fun a19 =>
 some [a19])) (
 Yz (bb false) fun a18 =>
 some [a18])) (
 Yz (bb false) fun a16 =>
 some [a16])) (
 Yz (bb false) fun a15 =>
 some [a15])) (
 Ye a1 (ii 3) fun a14 =>
 ifT a14 (
 Ye a0 (ii 9) fun a15 =>
 ifT a15 (
 cl1 (f_i_in [a3,ii 1,ii 9]) fun a16 =>
 ifT a16 (
 Yn a5 fun a17 =>
 Ye a17 (ii 0) fun a18 =>
 ifT a18 (
 cl1 (f_i_in [a6,ii 1,ii 1000]) fun a19 =>
 ifT a19 (
 Yz (bb true) fun a20 =>
 some [a20]) (
 Ye a6 (ii 60000) fun a20 =>
 Yz a20 fun a21 =>
 some [a21])) (
 Yz (bb false) fun a19 =>
 some [a19])) (
 Yz (bb false) fun a17 =>
 some [a17])) (
 Yz (bb false) fun a16 =>
 some [a16])) (
 Yz (bb false) fun a15 =>
 some [a15])))))
theorem atb_:p_i_RecordOk.den (pick [(82,f_i_in),(291,f_i_nearOk)]) R [] [a0,a1,a2,a3,a4,a5,a6,a7]=acl_ f_i_in f_i_nearOk a0 a1 a2 a3 a4 a5 a6 a7:=(zc_ (by kernel_rfl)).trans (by kernel_rfl)
theorem ayo_:uc_ [a0,a1,a2,a3,a4,a5,a6,a7]=acl_ xK_ q5_ a0 a1 a2 a3 a4 a5 a6 a7:=atb_ rounds xK_ q5_ a0 a1 a2 a3 a4 a5 a6 a7
def ahq_:Option (List T) :=
 Yu a0 a8 fun a16 =>
 ifT a16 (
 Yl a0 a8 fun a17 =>
 Yz a17 fun a18 =>
 some [a18]) (
 Yu a1 a9 fun a17 =>
 ifT a17 (
 Yl a1 a9 fun a18 =>
 Yz a18 fun a19 =>
 some [a19]) (
 Yu a2 a10 fun a18 =>
 ifT a18 (
 Yl a2 a10 fun a19 =>
 Yz a19 fun a20 =>
 some [a20]) (
 Yl a3 a11 fun a19 =>
 Yz a19 fun a20 =>
 some [a20])))
theorem aBt_:p_i_Before.den (pick []) R [] [a0,a1,a2,a3,a4,a5,a6,a7,a8,a9,a10,a11,a12,a13,a14,a15]=ahq_ a0 a1 a2 a3 a8 a9 a10 a11:=(zc_ (by kernel_rfl)).trans (by kernel_rfl)
theorem aHu_:vd_ [a0,a1,a2,a3,a4,a5,a6,a7,a8,a9,a10,a11,a12,a13,a14,a15]=ahq_ a0 a1 a2 a3 a8 a9 a10 a11:=aBt_ rounds a0 a1 a2 a3 a4 a5 a6 a7 a8 a9 a10 a11 a12 a13 a14 a15
def qZ_:Option (List T) :=
 (ar2 fun a2 a3 =>
 Yl a3 a1 fun a4 =>
 ifT a4 (
 Y8 a0 a3 fun a6 a7 a8 a9 a10 a11 a12 a13 =>
 cl1 (f_i_RecordOk [a6,a7,a8,a9,a10,a11,a12,a13]) fun a14 =>
 Yt a14 fun a15 =>
 ifT a15 (
 Yz (bb false) fun a16 =>
 some [a16]) (
 Yg a3 (ii 0) fun a16 =>
 ifT a16 (
 Ys a3 (ii 1) fun a17 =>
 Y8 a0 a17 fun a19 a20 a21 a22 a23 a24 a25 a26 =>
 cl1 (f_i_Before [a19,a20,a21,a22,a23,a24,a25,a26,a6,a7,a8,a9,a10,a11,a12,a13]) fun a27 =>
 Yt a27 fun a28 =>
 ifT a28 (
 Yz (bb false) fun a29 =>
 some [a29]) (
 Ya a3 (ii 1) fun a29 =>
 k0 [a2,a29])) (
 Ya a3 (ii 1) fun a17 =>
 k0 [a2,a17]))) (
 Yn a0 fun a5 =>
 Ym a5 (ii 150) fun a6 =>
 Yz a6 fun a7 =>
 some [a7])) ts
def aej_:Option (List T) :=
 Yn a0 fun a1 =>
 iter (qZ_ f_i_Before f_i_RecordOk a0 a1) R [bb false,ii 0]
theorem awb_:p_i_StoreOk.den (pick [(209,f_i_Before),(260,f_i_RecordOk)]) R [] [a0]=aej_ R f_i_Before f_i_RecordOk a0:=(zc_ (by kernel_rfl)).trans (by kernel_rfl)
theorem aCy_:wO_ [a0]=aej_ rounds vd_ uc_ a0:=awb_ rounds vd_ uc_ a0
def ait_:Option (List T) :=
 cl1 (f_i_NetOk [a2,a3,a4]) fun a7 =>
 ifT a7 (
 cl1 (f_i_in [a0,ii 1,a2]) fun a8 =>
 ifT a8 (
 cl1 (f_i_in [a1,ii 0,ii 90]) fun a9 =>
 ifT a9 (
 cl1 (f_i_heardOk [a0,a1,a2,a3,a4,a5,a6]) fun a10 =>
 ifT a10 (
 cl1 (f_i_StoreOk [a6]) fun a11 =>
 Yz a11 fun a12 =>
 some [a12]) (
 Yz (bb false) fun a11 =>
 some [a11])) (
 Yz (bb false) fun a10 =>
 some [a10])) (
 Yz (bb false) fun a9 =>
 some [a9])) (
 Yz (bb false) fun a8 =>
 some [a8])
theorem aAz_:p_i_SelfOk.den (pick [(82,f_i_in),(138,f_i_NetOk),(201,f_i_heardOk),(202,f_i_StoreOk)]) R [] [a0,a1,a2,a3,a4,a5,a6]=ait_ f_i_NetOk f_i_StoreOk f_i_heardOk f_i_in a0 a1 a2 a3 a4 a5 a6:=(zc_ (by kernel_rfl)).trans (by kernel_rfl)
theorem aFj_:xt_ [a0,a1,a2,a3,a4,a5,a6]=ait_ j9_ wO_ uX_ xK_ a0 a1 a2 a3 a4 a5 a6:=aAz_ rounds j9_ wO_ uX_ xK_ a0 a1 a2 a3 a4 a5 a6
def uV_:Option (List T) :=
 (ar2 fun a7 a8 =>
 Ym a8 (ii 2) fun a9 =>
 ifT a9 (
 cl1 (f_i_linkAt [a0,a1,a2,a3,a5,a8]) fun a10 =>
 Yh a10 (ii 0) fun a11 =>
 jn (ar1 fun a12 =>
 Ya a8 (ii 1) fun a13 =>
 k1 [a12,a13]) fun k2 =>
 ifT a11 (
 pv (.lit 4 [true,true,true,true]) [a5,a8,ii 0,bb false] fun a12 =>
 pv (.app true 4) [a7,a12] fun a13 =>
 k2 [a13]) (
 k2 [a7])) (
 Ya a5 (ii 1) fun a10 =>
 k0 [a7,a10])) ts
def uW_:Option (List T) :=
 (ar2 fun a4 a5 =>
 Ym a5 a0 fun a6 =>
 ifT a6 (
 iter (uV_ f_i_linkAt a0 a1 a2 a3 a5 k0) R [a4,ii 0]) (
 some [a4])) ts
def ai4_:Option (List T) :=
 iter (uW_ R f_i_linkAt a0 a1 a2 a3) R [.l [],ii 1]
theorem aBq_:p_i_earsOf.den (pick [(214,f_i_linkAt)]) R [] [a0,a1,a2,a3]=ai4_ R f_i_linkAt a0 a1 a2 a3:=(zc_ (by kernel_rfl)).trans (by kernel_rfl)
theorem aHi_:vc_ [a0,a1,a2,a3]=ai4_ rounds wd_ a0 a1 a2 a3:=aBq_ rounds wd_ a0 a1 a2 a3
def qR_:Option (List T) :=
 (ar2 fun a2 a3 =>
 Yl a3 a1 fun a4 =>
 ifT a4 (
 Y4 a0 a3 fun a6 a7 a8 a9 =>
 jn (ar1 fun a10 =>
 Ya a3 (ii 1) fun a11 =>
 k0 [a10,a11]) fun k1 =>
 ifT a9 (
 pv (.lit 1 [true,true]) [a6,a7] fun a10 =>
 Yp a2 a10 fun a11 =>
 k1 [a11]) (
 k1 [a2])) (
 some [a2])) ts
def aew_:Option (List T) :=
 Yn a0 fun a1 =>
 iter (qR_ a0 a1) R [.l [],ii 0]
theorem av2_:p_i_heardBy.den (pick []) R [] [a0]=aew_ R a0:=(zc_ (by kernel_rfl)).trans (by kernel_rfl)
theorem az1_:jm_ [a0]=aew_ rounds a0:=av2_ rounds a0
def qf_:Option (List T) :=
 (ar2 fun a6 a7 =>
 Yl a7 a5 fun a8 =>
 ifT a8 (
 Y1 a0 a7 fun a10 =>
 Y1 a1 a7 fun a12 =>
 Yu a10 a12 fun a13 =>
 ifT a13 (
 Yz (bb false) fun a14 =>
 some [a14]) (
 Ya a7 (ii 1) fun a14 =>
 k0 [a6,a14])) (
 Yz (bb true) fun a9 =>
 some [a9])) ts
def adb_:Option (List T) :=
 Yn a0 fun a2 =>
 Yn a1 fun a3 =>
 Yu a2 a3 fun a4 =>
 ifT a4 (
 Yz (bb false) fun a5 =>
 some [a5]) (
 Yn a0 fun a5 =>
 iter (qf_ a0 a1 a5) R [bb false,ii 0])
theorem at2_:p_i_sameInts.den (pick []) R [] [a0,a1]=adb_ R a0 a1:=(zc_ (by kernel_rfl)).trans (by kernel_rfl)
theorem aux_:qg_ [a0,a1]=adb_ rounds a0 a1:=at2_ rounds a0 a1
def uP_:Option (List T) :=
 (ar2 fun a15 a16 =>
 Yl a16 a14 fun a17 =>
 ifT a17 (
 Y4 a7 a16 fun a19 a20 a21 a22 =>
 Yb a10 a16 fun a23 =>
 pv (.scell 4 0) [a10,a16] fun a24 =>
 Yu a19 a24 fun a25 =>
 ifT a25 (
 Yz (bb false) fun a26 =>
 some [a26]) (
 Yb a10 a16 fun a26 =>
 pv (.scell 4 1) [a10,a16] fun a27 =>
 Yu a20 a27 fun a28 =>
 ifT a28 (
 Yz (bb false) fun a29 =>
 some [a29]) (
 cl1 (f_i_in [a21,ii 0,ii 3]) fun a29 =>
 Yt a29 fun a30 =>
 ifT a30 (
 Yz (bb false) fun a31 =>
 some [a31]) (
 ifT a22 (
 Ye a21 (ii 0) fun a31 =>
 ifT a31 (
 Yz (bb false) fun a32 =>
 some [a32]) (
 Ya a16 (ii 1) fun a32 =>
 k0 [a15,a32])) (
 Ya a16 (ii 1) fun a31 =>
 k0 [a15,a31]))))) (
 cl1 (f_i_heardBy [a7]) fun a18 =>
 cl1 (f_i_sameInts [a18,a5]) fun a19 =>
 Yz a19 fun a20 =>
 some [a20])) ts
def ag3_:Option (List T) :=
 cl1 (f_i_SelfOk [a0,a1,a2,a3,a4,a5,a6]) fun a8 =>
 Yt a8 fun a9 =>
 ifT a9 (
 Yz (bb false) fun a10 =>
 some [a10]) (
 cl1 (f_i_earsOf [a2,a3,a4,a0]) fun a10 =>
 Yn a10 fun a11 =>
 Yn a7 fun a12 =>
 Yu a11 a12 fun a13 =>
 ifT a13 (
 Yz (bb false) fun a14 =>
 some [a14]) (
 Yn a7 fun a14 =>
 iter (uP_ f_i_heardBy f_i_in f_i_sameInts a5 a7 a10 a14) R [bb false,ii 0]))
theorem aAf_:p_i_NodeOk.den (pick [(82,f_i_in),(114,f_i_SelfOk),(124,f_i_earsOf),(146,f_i_heardBy),(192,f_i_sameInts)]) R [] [a0,a1,a2,a3,a4,a5,a6,a7]=ag3_ R f_i_SelfOk f_i_earsOf f_i_heardBy f_i_in f_i_sameInts a0 a1 a2 a3 a4 a5 a6 a7:=(zc_ (by kernel_rfl)).trans (by kernel_rfl)
theorem aFg_:kk_ [a0,a1,a2,a3,a4,a5,a6,a7]=ag3_ rounds xt_ vc_ jm_ xK_ qg_ a0 a1 a2 a3 a4 a5 a6 a7:=aAf_ rounds xt_ vc_ jm_ xK_ qg_ a0 a1 a2 a3 a4 a5 a6 a7
def adg_:Option (List T) :=
 Yp (.l []) a0 fun a1 =>
 some [a1]
theorem atf_:p_i_copyInts.den (pick []) R [] [a0]=adg_ a0:=(zc_ (by kernel_rfl)).trans (by kernel_rfl)
theorem aw0_:zM_ [a0]=adg_ a0:=atf_ rounds a0
def z5_:Option (List T) :=
 (ar1 fun a15 =>
 Yn a5 fun a16 =>
 Yl a15 a16 fun a17 =>
 ifT a17 (
 Yq a5 a15 fun a19 =>
 Yl a19 a12 fun a20 =>
 ifT a20 (
 Ya a15 (ii 1) fun a21 =>
 k2 [a21]) (
 Yn a5 fun a21 =>
 Yl a15 a21 fun a22 =>
 ifT a22 (
 Yq a5 a15 fun a24 =>
 Ye a24 a12 fun a25 =>
 ifT a25 (
 k1 [a5]) (
 Yw a5 a15 fun a26 =>
 cl1 (f_i_copyInts [a26]) fun a27 =>
 Yx a12 fun a28 =>
 Yp a27 a28 fun a29 =>
 Yv a5 a15 fun a30 =>
 Yp a29 a30 fun a31 =>
 k1 [a31])) (
 Yw a5 a15 fun a23 =>
 cl1 (f_i_copyInts [a23]) fun a24 =>
 Yx a12 fun a25 =>
 Yp a24 a25 fun a26 =>
 Yv a5 a15 fun a27 =>
 Yp a26 a27 fun a28 =>
 k1 [a28]))) (
 Yn a5 fun a18 =>
 Yl a15 a18 fun a19 =>
 ifT a19 (
 Yq a5 a15 fun a21 =>
 Ye a21 a12 fun a22 =>
 ifT a22 (
 k1 [a5]) (
 Yw a5 a15 fun a23 =>
 cl1 (f_i_copyInts [a23]) fun a24 =>
 Yx a12 fun a25 =>
 Yp a24 a25 fun a26 =>
 Yv a5 a15 fun a27 =>
 Yp a26 a27 fun a28 =>
 k1 [a28])) (
 Yw a5 a15 fun a20 =>
 cl1 (f_i_copyInts [a20]) fun a21 =>
 Yx a12 fun a22 =>
 Yp a21 a22 fun a23 =>
 Yv a5 a15 fun a24 =>
 Yp a23 a24 fun a25 =>
 k1 [a25]))) ts
def z7_:Option (List T) :=
 (ar1 fun a14 =>
 Yn a5 fun a15 =>
 Yl a14 a15 fun a16 =>
 ifT a16 (
 Yq a5 a14 fun a18 =>
 Yl a18 a12 fun a19 =>
 ifT a19 (
 Ya a14 (ii 1) fun a20 =>
 k2 [a20]) (
 Yn a5 fun a20 =>
 Yl a14 a20 fun a21 =>
 ifT a21 (
 Yq a5 a14 fun a23 =>
 Ye a23 a12 fun a24 =>
 ifT a24 (
 k1 [a5]) (
 Yw a5 a14 fun a25 =>
 cl1 (f_i_copyInts [a25]) fun a26 =>
 Yx a12 fun a27 =>
 Yp a26 a27 fun a28 =>
 Yv a5 a14 fun a29 =>
 Yp a28 a29 fun a30 =>
 k1 [a30])) (
 Yw a5 a14 fun a22 =>
 cl1 (f_i_copyInts [a22]) fun a23 =>
 Yx a12 fun a24 =>
 Yp a23 a24 fun a25 =>
 Yv a5 a14 fun a26 =>
 Yp a25 a26 fun a27 =>
 k1 [a27]))) (
 Yn a5 fun a17 =>
 Yl a14 a17 fun a18 =>
 ifT a18 (
 Yq a5 a14 fun a20 =>
 Ye a20 a12 fun a21 =>
 ifT a21 (
 k1 [a5]) (
 Yw a5 a14 fun a22 =>
 cl1 (f_i_copyInts [a22]) fun a23 =>
 Yx a12 fun a24 =>
 Yp a23 a24 fun a25 =>
 Yv a5 a14 fun a26 =>
 Yp a25 a26 fun a27 =>
 k1 [a27])) (
 Yw a5 a14 fun a19 =>
 cl1 (f_i_copyInts [a19]) fun a20 =>
 Yx a12 fun a21 =>
 Yp a20 a21 fun a22 =>
 Yv a5 a14 fun a23 =>
 Yp a22 a23 fun a24 =>
 k1 [a24]))) ts
def yl_:Option (List T) :=
 (ar2 fun a5 a6 =>
 Yl a6 a4 fun a7 =>
 ifT a7 (
 Y4 a1 a6 fun a9 a10 a11 a12 =>
 Ye a9 a3 fun a13 =>
 ifT a13 (
 jn (ar1 fun a14 =>
 Ya a6 (ii 1) fun a15 =>
 k0 [a14,a15]) fun k1 =>
 iter (z7_ f_i_copyInts a5 a12 k1) R [ii 0]) (
 Ye a10 a3 fun a14 =>
 jn (ar1 fun a15 =>
 Ya a6 (ii 1) fun a16 =>
 k0 [a15,a16]) fun k1 =>
 ifT a14 (
 iter (z5_ f_i_copyInts a5 a12 k1) R [ii 0]) (
 k1 [a5]))) (
 some [a5])) ts
def ae7_:Option (List T) :=
 Yn a1 fun a4 =>
 iter (yl_ R f_i_copyInts a1 a3 a4) R [.l [],ii 0]
theorem auy_:p_i_AreasOf.den (pick [(185,f_i_copyInts)]) R [] [a0,a1,a2,a3]=ae7_ R f_i_copyInts a1 a3:=(zc_ (by kernel_rfl)).trans (by kernel_rfl)
theorem aCp_:y9_ [a0,a1,a2,a3]=ae7_ rounds zM_ a1 a3:=auy_ rounds zM_ a0 a1 a2 a3
def jv_:Option (List T) :=
 (ar2 fun a3 a4 =>
 Yl a4 a2 fun a5 =>
 ifT a5 (
 Y1 a0 a4 fun a7 =>
 Ye a7 a1 fun a8 =>
 ifT a8 (
 Yz (bb true) fun a9 =>
 some [a9]) (
 Ya a4 (ii 1) fun a9 =>
 k0 [a3,a9])) (
 Yz (bb false) fun a6 =>
 some [a6])) ts
def aht_:Option (List T) :=
 Yn a0 fun a2 =>
 iter (jv_ a0 a1 a2) R [bb false,ii 0]
theorem azd_:p_i_hasInt.den (pick []) R [] [a0,a1]=aht_ R a0 a1:=(zc_ (by kernel_rfl)).trans (by kernel_rfl)
theorem aEs_:we_ [a0,a1]=aht_ rounds a0 a1:=azd_ rounds a0 a1
def ag4_:Option (List T) :=
 cl1 (f_i_AreasOf [a0,a1,a2,a3]) fun a4 =>
 cl1 (f_i_hasInt [a4,ii 0]) fun a5 =>
 ifT a5 (
 Yn a4 fun a6 =>
 Yg a6 (ii 1) fun a7 =>
 Yz a7 fun a8 =>
 some [a8]) (
 Yz (bb false) fun a6 =>
 some [a6])
theorem azs_:p_i_Border.den (pick [(84,f_i_AreasOf),(187,f_i_hasInt)]) R [] [a0,a1,a2,a3]=ag4_ f_i_AreasOf f_i_hasInt a0 a1 a2 a3:=(zc_ (by kernel_rfl)).trans (by kernel_rfl)
theorem aFm_:va_ [a0,a1,a2,a3]=ag4_ y9_ we_ a0 a1 a2 a3:=azs_ rounds y9_ we_ a0 a1 a2 a3
def aeo_:Option (List T) :=
 Ye a0 a8 fun a16 =>
 ifT a16 (
 Ye a1 a9 fun a17 =>
 ifT a17 (
 Ye a2 a10 fun a18 =>
 ifT a18 (
 Ye a3 a11 fun a19 =>
 Yz a19 fun a20 =>
 some [a20]) (
 Yz (bb false) fun a19 =>
 some [a19])) (
 Yz (bb false) fun a18 =>
 some [a18])) (
 Yz (bb false) fun a17 =>
 some [a17])
theorem ay1_:p_i_SameKey.den (pick []) R [] [a0,a1,a2,a3,a4,a5,a6,a7,a8,a9,a10,a11,a12,a13,a14,a15]=aeo_ a0 a1 a2 a3 a8 a9 a10 a11:=(zc_ (by kernel_rfl)).trans (by kernel_rfl)
theorem aCo_:xY_ [a0,a1,a2,a3,a4,a5,a6,a7,a8,a9,a10,a11,a12,a13,a14,a15]=aeo_ a0 a1 a2 a3 a8 a9 a10 a11:=ay1_ rounds a0 a1 a2 a3 a4 a5 a6 a7 a8 a9 a10 a11 a12 a13 a14 a15
def ks_:Option (List T) :=
 (ar2 fun a10 a11 =>
 Yl a11 a9 fun a12 =>
 ifT a12 (
 Y8 a0 a11 fun a14 a15 a16 a17 a18 a19 a20 a21 =>
 cl1 (f_i_SameKey [a14,a15,a16,a17,a18,a19,a20,a21,a1,a2,a3,a4,a5,a6,a7,a8]) fun a22 =>
 ifT a22 (
 Yz a11 fun a23 =>
 some [a23]) (
 Ya a11 (ii 1) fun a23 =>
 k0 [a10,a23])) (
 Yz (ii (-1)) fun a13 =>
 some [a13])) ts
def akq_:Option (List T) :=
 Yn a0 fun a9 =>
 iter (ks_ f_i_SameKey a0 a1 a2 a3 a4 a5 a6 a7 a8 a9) R [ii 0,ii 0]
theorem aHe_:p_i_keyAt.den (pick [(210,f_i_SameKey)]) R [] [a0,a1,a2,a3,a4,a5,a6,a7,a8]=akq_ R f_i_SameKey a0 a1 a2 a3 a4 a5 a6 a7 a8:=(zc_ (by kernel_rfl)).trans (by kernel_rfl)
theorem aK0_:xe_ [a0,a1,a2,a3,a4,a5,a6,a7,a8]=akq_ rounds xY_ a0 a1 a2 a3 a4 a5 a6 a7 a8:=aHe_ rounds xY_ a0 a1 a2 a3 a4 a5 a6 a7 a8
def jq_:Option (List T) :=
 (ar2 fun a9 a10 =>
 Yl a10 a8 fun a11 =>
 ifT a11 (
 Y2 a7 a10 fun a13 a14 =>
 Ye a13 a3 fun a15 =>
 ifT a15 (
 Yz a14 fun a16 =>
 some [a16]) (
 Ya a10 (ii 1) fun a16 =>
 k0 [a9,a16])) (
 Yz (ii 0) fun a12 =>
 some [a12])) ts
def aob_:Option (List T) :=
 cl1 (f_i_keyAt [a0,a1,ii 1,a2,ii 0,ii 0,.l [],ii 0,bb false]) fun a4 =>
 Yl a4 (ii 0) fun a5 =>
 ifT a5 (
 Yz (ii 0) fun a6 =>
 some [a6]) (
 Yb a0 a4 fun a6 =>
 Yc 8 5 a0 a4 fun a7 =>
 Yn a7 fun a8 =>
 iter (jq_ a3 a7 a8) R [ii 0,ii 0])
theorem aJo_:p_i_told.den (pick [(204,f_i_keyAt)]) R [] [a0,a1,a2,a3]=aob_ R f_i_keyAt a0 a1 a2 a3:=(zc_ (by kernel_rfl)).trans (by kernel_rfl)
theorem aL9_:kV_ [a0,a1,a2,a3]=aob_ rounds xe_ a0 a1 a2 a3:=aJo_ rounds xe_ a0 a1 a2 a3
def ah4_:Option (List T) :=
 cl1 (f_i_told [a0,a1,a3,a2]) fun a4 =>
 Ye a4 (ii 0) fun a5 =>
 ifT a5 (
 Yz (ii 0) fun a6 =>
 some [a6]) (
 cl1 (f_i_told [a0,a1,a2,a3]) fun a6 =>
 Yz a6 fun a7 =>
 some [a7])
theorem aAh_:p_i_Linked.den (pick [(313,f_i_told)]) R [] [a0,a1,a2,a3]=ah4_ f_i_told a0 a1 a2 a3:=(zc_ (by kernel_rfl)).trans (by kernel_rfl)
theorem aF6_:q9_ [a0,a1,a2,a3]=ah4_ kV_ a0 a1 a2 a3:=aAh_ rounds kV_ a0 a1 a2 a3
def ae3_:Option (List T) :=
 cl1 (f_i_copyInts [a2]) fun a3 =>
 Yz a1 fun a4 =>
 Yz a0 fun a5 =>
 some [a5,a4,a3]
theorem ay0_:p_i_copyWay.den (pick [(185,f_i_copyInts)]) R [] [a0,a1,a2]=ae3_ f_i_copyInts a0 a1 a2:=(zc_ (by kernel_rfl)).trans (by kernel_rfl)
theorem aBb_:yC_ [a0,a1,a2]=ae3_ zM_ a0 a1 a2:=ay0_ rounds zM_ a0 a1 a2
def yp_:Option (List T) :=
 (ar1 fun a18 =>
 Yn a14 fun a19 =>
 Yl a18 a19 fun a20 =>
 ifT a20 (
 Yq a14 a18 fun a22 =>
 Yl a22 a17 fun a23 =>
 ifT a23 (
 Ya a18 (ii 1) fun a24 =>
 k2 [a24]) (
 Yn a14 fun a24 =>
 Yl a18 a24 fun a25 =>
 ifT a25 (
 Yq a14 a18 fun a27 =>
 Ye a27 a17 fun a28 =>
 ifT a28 (
 Ya a13 (ii 1) fun a29 =>
 k1 [a29,a14]) (
 Yw a14 a18 fun a29 =>
 cl1 (f_i_copyInts [a29]) fun a30 =>
 Yx a17 fun a31 =>
 Yp a30 a31 fun a32 =>
 Yv a14 a18 fun a33 =>
 Yp a32 a33 fun a34 =>
 Ya a13 (ii 1) fun a35 =>
 k1 [a35,a34])) (
 Yw a14 a18 fun a26 =>
 cl1 (f_i_copyInts [a26]) fun a27 =>
 Yx a17 fun a28 =>
 Yp a27 a28 fun a29 =>
 Yv a14 a18 fun a30 =>
 Yp a29 a30 fun a31 =>
 Ya a13 (ii 1) fun a32 =>
 k1 [a32,a31]))) (
 Yn a14 fun a21 =>
 Yl a18 a21 fun a22 =>
 ifT a22 (
 Yq a14 a18 fun a24 =>
 Ye a24 a17 fun a25 =>
 ifT a25 (
 Ya a13 (ii 1) fun a26 =>
 k1 [a26,a14]) (
 Yw a14 a18 fun a26 =>
 cl1 (f_i_copyInts [a26]) fun a27 =>
 Yx a17 fun a28 =>
 Yp a27 a28 fun a29 =>
 Yv a14 a18 fun a30 =>
 Yp a29 a30 fun a31 =>
 Ya a13 (ii 1) fun a32 =>
 k1 [a32,a31])) (
 Yw a14 a18 fun a23 =>
 cl1 (f_i_copyInts [a23]) fun a24 =>
 Yx a17 fun a25 =>
 Yp a24 a25 fun a26 =>
 Yv a14 a18 fun a27 =>
 Yp a26 a27 fun a28 =>
 Ya a13 (ii 1) fun a29 =>
 k1 [a29,a28]))) ts
def ys_:Option (List T) :=
 (ar2 fun a13 a14 =>
 Yl a13 a12 fun a15 =>
 ifT a15 (
 Y1 a5 a13 fun a17 =>
 iter (yp_ f_i_copyInts a13 a14 a17 k1) R [ii 0]) (
 Yz a1 fun a16 =>
 Yz a0 fun a17 =>
 some [a17,a16,a14])) ts
def yr_:Option (List T) :=
 (ar1 fun a14 =>
 Yn a10 fun a15 =>
 Yl a14 a15 fun a16 =>
 ifT a16 (
 Yq a10 a14 fun a18 =>
 Yl a18 a13 fun a19 =>
 ifT a19 (
 Ya a14 (ii 1) fun a20 =>
 k1 [a20]) (
 Yn a10 fun a20 =>
 Yl a14 a20 fun a21 =>
 ifT a21 (
 Yq a10 a14 fun a23 =>
 Ye a23 a13 fun a24 =>
 ifT a24 (
 Ya a9 (ii 1) fun a25 =>
 k0 [a25,a10]) (
 Yw a10 a14 fun a25 =>
 cl1 (f_i_copyInts [a25]) fun a26 =>
 Yx a13 fun a27 =>
 Yp a26 a27 fun a28 =>
 Yv a10 a14 fun a29 =>
 Yp a28 a29 fun a30 =>
 Ya a9 (ii 1) fun a31 =>
 k0 [a31,a30])) (
 Yw a10 a14 fun a22 =>
 cl1 (f_i_copyInts [a22]) fun a23 =>
 Yx a13 fun a24 =>
 Yp a23 a24 fun a25 =>
 Yv a10 a14 fun a26 =>
 Yp a25 a26 fun a27 =>
 Ya a9 (ii 1) fun a28 =>
 k0 [a28,a27]))) (
 Yn a10 fun a17 =>
 Yl a14 a17 fun a18 =>
 ifT a18 (
 Yq a10 a14 fun a20 =>
 Ye a20 a13 fun a21 =>
 ifT a21 (
 Ya a9 (ii 1) fun a22 =>
 k0 [a22,a10]) (
 Yw a10 a14 fun a22 =>
 cl1 (f_i_copyInts [a22]) fun a23 =>
 Yx a13 fun a24 =>
 Yp a23 a24 fun a25 =>
 Yv a10 a14 fun a26 =>
 Yp a25 a26 fun a27 =>
 Ya a9 (ii 1) fun a28 =>
 k0 [a28,a27])) (
 Yw a10 a14 fun a19 =>
 cl1 (f_i_copyInts [a19]) fun a20 =>
 Yx a13 fun a21 =>
 Yp a20 a21 fun a22 =>
 Yv a10 a14 fun a23 =>
 Yp a22 a23 fun a24 =>
 Ya a9 (ii 1) fun a25 =>
 k0 [a25,a24]))) ts
def yq_:Option (List T) :=
 (ar2 fun a9 a10 =>
 Yl a9 a8 fun a11 =>
 ifT a11 (
 Y1 a2 a9 fun a13 =>
 iter (yr_ f_i_copyInts a9 a10 a13 k0) R [ii 0]) (
 Yn a5 fun a12 =>
 iter (ys_ R f_i_copyInts a0 a1 a5 a12) R [ii 0,a10])) ts
def ac5_:Option (List T) :=
 Yg a4 a1 fun a6 =>
 ifT a6 (
 cl3 (f_i_copyWay [a0,a1,a2]) fun a7 a8 a9 =>
 Yz a8 fun a10 =>
 Yz a7 fun a11 =>
 some [a11,a10,a9]) (
 Yg a1 a4 fun a7 =>
 ifT a7 (
 cl3 (f_i_copyWay [a3,a4,a5]) fun a8 a9 a10 =>
 Yz a9 fun a11 =>
 Yz a8 fun a12 =>
 some [a12,a11,a10]) (
 Yn a2 fun a8 =>
 iter (yq_ R f_i_copyInts a0 a1 a2 a5 a8) R [ii 0,.l []]))
theorem atz_:p_i_Together.den (pick [(185,f_i_copyInts),(289,f_i_copyWay)]) R [] [a0,a1,a2,a3,a4,a5]=ac5_ R f_i_copyInts f_i_copyWay a0 a1 a2 a3 a4 a5:=(zc_ (by kernel_rfl)).trans (by kernel_rfl)
theorem ayh_:z0_ [a0,a1,a2,a3,a4,a5]=ac5_ rounds zM_ yC_ a0 a1 a2 a3 a4 a5:=atz_ rounds zM_ yC_ a0 a1 a2 a3 a4 a5
def yg_:Option (List T) :=
 (ar2 fun a20 a21 =>
 Ym a20 (ii 6) fun a22 =>
 ifT a22 (
 cl1 (f_i_Linked [a0,a1,a14,a20]) fun a23 =>
 Ye a23 (ii 0) fun a24 =>
 ifT a24 (
 Ya a20 (ii 1) fun a25 =>
 k2 [a25,a21]) (
 Ye a20 a2 fun a25 =>
 ifT a25 (
 Ya a20 (ii 1) fun a26 =>
 k2 [a26,a21]) (
 Yb a21 a14 fun a26 =>
 Yc 3 1 a21 a14 fun a27 =>
 Ya a27 a23 fun a28 =>
 Yb a21 a14 fun a29 =>
 Yc 3 2 a21 a14 fun a30 =>
 cl1 (f_i_copyInts [a30]) fun a31 =>
 Ye a14 a2 fun a32 =>
 jn (ar1 fun a33 =>
 Y3 a21 a20 fun a35 a36 a37 =>
 Ye a35 (ii 0) fun a38 =>
 ifT a38 (
 jn (ar1 fun a39 =>
 Ya a20 (ii 1) fun a40 =>
 k2 [a40,a39]) fun k3 =>
 Yb a21 a20 fun a39 =>
 pv (.put false 3 0 3) [a21,a20,a20,a28,a33] fun a40 =>
 k3 [a40]) (
 Yl a28 a36 fun a39 =>
 jn (ar1 fun a40 =>
 Ya a20 (ii 1) fun a41 =>
 k2 [a41,a40]) fun k3 =>
 ifT a39 (
 Yb a21 a20 fun a40 =>
 pv (.put false 3 0 3) [a21,a20,a20,a28,a33] fun a41 =>
 k3 [a41]) (
 Ye a28 a36 fun a40 =>
 jn (ar1 fun a41 =>
 k3 [a41]) fun k4 =>
 ifT a40 (
 cl3 (f_i_Together [a35,a36,a37,a20,a28,a33]) fun a41 a42 a43 =>
 Yb a21 a20 fun a44 =>
 pv (.put false 3 0 3) [a21,a20,a41,a42,a43] fun a45 =>
 k4 [a45]) (
 k4 [a21])))) fun k3 =>
 ifT a32 (
 Yx a20 fun a33 =>
 k3 [a33]) (
 k3 [a31])))) (
 k0 [a19,a21])) ts
def ye_:Option (List T) :=
 (ar3 fun a19 a20 a21 =>
 Yl a20 a18 fun a22 =>
 ifT a22 (
 Y3 a21 a20 fun a24 a25 a26 =>
 Yu a24 (ii 0) fun a27 =>
 jn (ar1 fun a28 =>
 Ya a20 (ii 1) fun a29 =>
 k2 [a28,a29,a21]) fun k3 =>
 ifT a27 (
 pv (.lit 3 []) [a24,a25,a26] fun a28 =>
 Yo a19 a28 fun a29 =>
 k3 [a29]) (
 k3 [a19])) (
 some [a19])) ts
def yh_:Option (List T) :=
 (ar2 fun a14 a15 =>
 Ym a15 (ii 6) fun a16 =>
 ifT a16 (
 Yb a13 a15 fun a17 =>
 Yc 3 0 a13 a15 fun a18 =>
 Yu a18 (ii 0) fun a19 =>
 ifT a19 (
 cl1 (f_i_hasInt [a12,a15]) fun a20 =>
 Yt a20 fun a21 =>
 ifT a21 (
 Ye a14 (ii 0) fun a22 =>
 ifT a22 (
 jn (ar1 fun a23 =>
 Ya a15 (ii 1) fun a24 =>
 k1 [a23,a24]) fun k2 =>
 k2 [a15]) (
 Yb a13 a15 fun a23 =>
 Yc 3 1 a13 a15 fun a24 =>
 Yb a13 a14 fun a25 =>
 Yc 3 1 a13 a14 fun a26 =>
 Yl a24 a26 fun a27 =>
 jn (ar1 fun a28 =>
 Ya a15 (ii 1) fun a29 =>
 k1 [a28,a29]) fun k2 =>
 ifT a27 (
 k2 [a15]) (
 k2 [a14]))) (
 jn (ar1 fun a22 =>
 Ya a15 (ii 1) fun a23 =>
 k1 [a22,a23]) fun k2 =>
 k2 [a14])) (
 jn (ar1 fun a20 =>
 Ya a15 (ii 1) fun a21 =>
 k1 [a20,a21]) fun k2 =>
 k2 [a14])) (
 Ye a14 (ii 0) fun a17 =>
 ifT a17 (
 Yn a13 fun a18 =>
 iter (ye_ a18) R [.l [],ii 0,a13]) (
 Yx a14 fun a18 =>
 Yp a12 a18 fun a19 =>
 iter (yg_ f_i_Linked f_i_Together f_i_copyInts a0 a1 a2 a14 a19 k0) R [ii 1,a13]))) ts
def yc_:Option (List T) :=
 (ar2 fun a12 a13 =>
 iter (yh_ R f_i_Linked f_i_Together f_i_copyInts f_i_hasInt a0 a1 a2 a12 a13 k0) R [ii 0,ii 1]) ts
def aik_:Option (List T) :=
 cl1 (f_i_StoreOk [a0]) fun a3 =>
 Yt a3 fun a4 =>
 ifT a4 (
 some [.l []]) (
 cl1 (f_i_in [a2,ii 1,ii 6]) fun a5 =>
 Yt a5 fun a6 =>
 ifT a6 (
 some [.l []]) (
 cl1 (f_i_keyAt [a0,a1,ii 1,a2,ii 0,ii 0,.l [],ii 0,bb false]) fun a7 =>
 Yl a7 (ii 0) fun a8 =>
 ifT a8 (
 some [.l []]) (
 pv (.mk) [ii 7,ii 7,ii 0,ii 0,.l []] fun a9 =>
 Yb a9 a2 fun a10 =>
 pv (.put true 3 0 1) [a9,a2,a2] fun a11 =>
 iter (yc_ R f_i_Linked f_i_Together f_i_copyInts f_i_hasInt a0 a1 a2) R [.l [],a11])))
theorem aAg_:p_i_WaysIn.den (pick [(82,f_i_in),(185,f_i_copyInts),(187,f_i_hasInt),(202,f_i_StoreOk),(204,f_i_keyAt),(257,f_i_Together),(308,f_i_Linked)]) R [] [a0,a1,a2]=aik_ R f_i_Linked f_i_StoreOk f_i_Together f_i_copyInts f_i_hasInt f_i_in f_i_keyAt a0 a1 a2:=(zc_ (by kernel_rfl)).trans (by kernel_rfl)
theorem aEx_:wg_ [a0,a1,a2]=aik_ rounds q9_ wO_ z0_ zM_ we_ xK_ xe_ a0 a1 a2:=aAg_ rounds q9_ wO_ z0_ zM_ we_ xK_ xe_ a0 a1 a2
def yo_:Option (List T) :=
 (ar1 fun a18 =>
 Yn a11 fun a19 =>
 Yl a18 a19 fun a20 =>
 ifT a20 (
 Yb a11 a18 fun a21 =>
 Yc 3 0 a11 a18 fun a22 =>
 Yl a22 a15 fun a23 =>
 ifT a23 (
 Ya a18 (ii 1) fun a24 =>
 k2 [a24]) (
 Yn a11 fun a24 =>
 Yl a18 a24 fun a25 =>
 ifT a25 (
 Yb a11 a18 fun a26 =>
 Yc 3 0 a11 a18 fun a27 =>
 Ye a27 a15 fun a28 =>
 ifT a28 (
 Y3 a11 a18 fun a30 a31 a32 =>
 cl3 (f_i_Together [a30,a31,a32,a15,a16,a17]) fun a33 a34 a35 =>
 Yb a11 a18 fun a36 =>
 pv (.put false 3 0 3) [a11,a18,a33,a34,a35] fun a37 =>
 Ya a12 (ii 1) fun a38 =>
 k1 [a37,a38]) (
 pv (.sub 3 false true) [a11,a18] fun a29 =>
 Yo (.l []) a29 fun a30 =>
 cl3 (f_i_copyWay [a15,a16,a17]) fun a31 a32 a33 =>
 pv (.lit 3 [true,true,false]) [a31,a32,a33] fun a34 =>
 Yo a30 a34 fun a35 =>
 pv (.sub 3 true false) [a11,a18] fun a36 =>
 Yo a35 a36 fun a37 =>
 Ya a12 (ii 1) fun a38 =>
 k1 [a37,a38])) (
 pv (.sub 3 false true) [a11,a18] fun a26 =>
 Yo (.l []) a26 fun a27 =>
 cl3 (f_i_copyWay [a15,a16,a17]) fun a28 a29 a30 =>
 pv (.lit 3 [true,true,false]) [a28,a29,a30] fun a31 =>
 Yo a27 a31 fun a32 =>
 pv (.sub 3 true false) [a11,a18] fun a33 =>
 Yo a32 a33 fun a34 =>
 Ya a12 (ii 1) fun a35 =>
 k1 [a34,a35]))) (
 Yn a11 fun a21 =>
 Yl a18 a21 fun a22 =>
 ifT a22 (
 Yb a11 a18 fun a23 =>
 Yc 3 0 a11 a18 fun a24 =>
 Ye a24 a15 fun a25 =>
 ifT a25 (
 Y3 a11 a18 fun a27 a28 a29 =>
 cl3 (f_i_Together [a27,a28,a29,a15,a16,a17]) fun a30 a31 a32 =>
 Yb a11 a18 fun a33 =>
 pv (.put false 3 0 3) [a11,a18,a30,a31,a32] fun a34 =>
 Ya a12 (ii 1) fun a35 =>
 k1 [a34,a35]) (
 pv (.sub 3 false true) [a11,a18] fun a26 =>
 Yo (.l []) a26 fun a27 =>
 cl3 (f_i_copyWay [a15,a16,a17]) fun a28 a29 a30 =>
 pv (.lit 3 [true,true,false]) [a28,a29,a30] fun a31 =>
 Yo a27 a31 fun a32 =>
 pv (.sub 3 true false) [a11,a18] fun a33 =>
 Yo a32 a33 fun a34 =>
 Ya a12 (ii 1) fun a35 =>
 k1 [a34,a35])) (
 pv (.sub 3 false true) [a11,a18] fun a23 =>
 Yo (.l []) a23 fun a24 =>
 cl3 (f_i_copyWay [a15,a16,a17]) fun a25 a26 a27 =>
 pv (.lit 3 [true,true,false]) [a25,a26,a27] fun a28 =>
 Yo a24 a28 fun a29 =>
 pv (.sub 3 true false) [a11,a18] fun a30 =>
 Yo a29 a30 fun a31 =>
 Ya a12 (ii 1) fun a32 =>
 k1 [a31,a32]))) ts
def yD_:Option (List T) :=
 (ar2 fun a11 a12 =>
 Yl a12 a10 fun a13 =>
 ifT a13 (
 Y3 a9 a12 fun a15 a16 a17 =>
 iter (yo_ f_i_Together f_i_copyWay a11 a12 a15 a16 a17 k1) R [ii 0]) (
 Ya a5 (ii 1) fun a14 =>
 k0 [a11,a14])) ts
def yG_:Option (List T) :=
 (ar2 fun a4 a5 =>
 Yl a5 a3 fun a6 =>
 ifT a6 (
 Y1 a1 a5 fun a8 =>
 cl1 (f_i_WaysIn [a0,a8,a2]) fun a9 =>
 Yn a9 fun a10 =>
 iter (yD_ R f_i_Together f_i_copyWay a5 a9 a10 k0) R [a4,ii 0]) (
 some [a4])) ts
def jK_:Option (List T) :=
 Yn a1 fun a3 =>
 iter (yG_ R f_i_Together f_i_WaysIn f_i_copyWay a0 a1 a2 a3) R [.l [],ii 0]
theorem al3_:p_i_RoutesWithin.den (pick [(254,f_i_WaysIn),(257,f_i_Together),(289,f_i_copyWay)]) R [] [a0,a1,a2]=jK_ R f_i_Together f_i_WaysIn f_i_copyWay a0 a1 a2:=(zc_ (by kernel_rfl)).trans (by kernel_rfl)
theorem an6_:yH_ [a0,a1,a2]=jK_ rounds z0_ wg_ yC_ a0 a1 a2:=al3_ rounds z0_ wg_ yC_ a0 a1 a2
def kB_:Option (List T) :=
 (ar2 fun a3 a4 =>
 Yl a4 a2 fun a5 =>
 ifT a5 (
 Y3 a0 a4 fun a7 a8 a9 =>
 Ye a7 a1 fun a10 =>
 ifT a10 (
 cl3 (f_i_copyWay [a7,a8,a9]) fun a11 a12 a13 =>
 Yz (bb true) fun a14 =>
 Yz a12 fun a15 =>
 Yz a11 fun a16 =>
 some [a16,a15,a13,a14]) (
 Ya a4 (ii 1) fun a11 =>
 k0 [a3,a11])) (
 Yz (bb false) fun a6 =>
 Yz (ii 0) fun a7 =>
 Yz (ii 0) fun a8 =>
 some [a8,a7,.l [],a6])) ts
def aj9_:Option (List T) :=
 Yn a0 fun a2 =>
 iter (kB_ f_i_copyWay a0 a1 a2) R [bb false,ii 0]
theorem aHw_:p_i_WayTo.den (pick [(289,f_i_copyWay)]) R [] [a0,a1]=aj9_ R f_i_copyWay a0 a1:=(zc_ (by kernel_rfl)).trans (by kernel_rfl)
theorem aLp_:wp_ [a0,a1]=aj9_ rounds yC_ a0 a1:=aHw_ rounds yC_ a0 a1
def zh_:Option (List T) :=
 (ar1 fun a36 =>
 Yn a6 fun a37 =>
 Yl a36 a37 fun a38 =>
 ifT a38 (
 Yb a6 a36 fun a39 =>
 Yc 3 0 a6 a36 fun a40 =>
 Yl a40 a13 fun a41 =>
 ifT a41 (
 Ya a36 (ii 1) fun a42 =>
 k1 [a42]) (
 Yn a6 fun a42 =>
 Yl a36 a42 fun a43 =>
 ifT a43 (
 Yb a6 a36 fun a44 =>
 Yc 3 0 a6 a36 fun a45 =>
 Ye a45 a13 fun a46 =>
 ifT a46 (
 Y3 a6 a36 fun a48 a49 a50 =>
 cl3 (f_i_Together [a48,a49,a50,a13,a35,a30]) fun a51 a52 a53 =>
 Yb a6 a36 fun a54 =>
 pv (.put false 3 0 3) [a6,a36,a51,a52,a53] fun a55 =>
 Ya a7 (ii 1) fun a56 =>
 k0 [a55,a56]) (
 pv (.sub 3 false true) [a6,a36] fun a47 =>
 Yo (.l []) a47 fun a48 =>
 cl3 (f_i_copyWay [a13,a35,a30]) fun a49 a50 a51 =>
 pv (.lit 3 [true,true,false]) [a49,a50,a51] fun a52 =>
 Yo a48 a52 fun a53 =>
 pv (.sub 3 true false) [a6,a36] fun a54 =>
 Yo a53 a54 fun a55 =>
 Ya a7 (ii 1) fun a56 =>
 k0 [a55,a56])) (
 pv (.sub 3 false true) [a6,a36] fun a44 =>
 Yo (.l []) a44 fun a45 =>
 cl3 (f_i_copyWay [a13,a35,a30]) fun a46 a47 a48 =>
 pv (.lit 3 [true,true,false]) [a46,a47,a48] fun a49 =>
 Yo a45 a49 fun a50 =>
 pv (.sub 3 true false) [a6,a36] fun a51 =>
 Yo a50 a51 fun a52 =>
 Ya a7 (ii 1) fun a53 =>
 k0 [a52,a53]))) (
 Yn a6 fun a39 =>
 Yl a36 a39 fun a40 =>
 ifT a40 (
 Yb a6 a36 fun a41 =>
 Yc 3 0 a6 a36 fun a42 =>
 Ye a42 a13 fun a43 =>
 ifT a43 (
 Y3 a6 a36 fun a45 a46 a47 =>
 cl3 (f_i_Together [a45,a46,a47,a13,a35,a30]) fun a48 a49 a50 =>
 Yb a6 a36 fun a51 =>
 pv (.put false 3 0 3) [a6,a36,a48,a49,a50] fun a52 =>
 Ya a7 (ii 1) fun a53 =>
 k0 [a52,a53]) (
 pv (.sub 3 false true) [a6,a36] fun a44 =>
 Yo (.l []) a44 fun a45 =>
 cl3 (f_i_copyWay [a13,a35,a30]) fun a46 a47 a48 =>
 pv (.lit 3 [true,true,false]) [a46,a47,a48] fun a49 =>
 Yo a45 a49 fun a50 =>
 pv (.sub 3 true false) [a6,a36] fun a51 =>
 Yo a50 a51 fun a52 =>
 Ya a7 (ii 1) fun a53 =>
 k0 [a52,a53])) (
 pv (.sub 3 false true) [a6,a36] fun a41 =>
 Yo (.l []) a41 fun a42 =>
 cl3 (f_i_copyWay [a13,a35,a30]) fun a43 a44 a45 =>
 pv (.lit 3 [true,true,false]) [a43,a44,a45] fun a46 =>
 Yo a42 a46 fun a47 =>
 pv (.sub 3 true false) [a6,a36] fun a48 =>
 Yo a47 a48 fun a49 =>
 Ya a7 (ii 1) fun a50 =>
 k0 [a49,a50]))) ts
def zi_:Option (List T) :=
 (ar1 fun a37 =>
 Yn a6 fun a38 =>
 Yl a37 a38 fun a39 =>
 ifT a39 (
 Yb a6 a37 fun a40 =>
 Yc 3 0 a6 a37 fun a41 =>
 Yl a41 a13 fun a42 =>
 ifT a42 (
 Ya a37 (ii 1) fun a43 =>
 k1 [a43]) (
 Yn a6 fun a43 =>
 Yl a37 a43 fun a44 =>
 ifT a44 (
 Yb a6 a37 fun a45 =>
 Yc 3 0 a6 a37 fun a46 =>
 Ye a46 a13 fun a47 =>
 ifT a47 (
 Y3 a6 a37 fun a49 a50 a51 =>
 cl3 (f_i_Together [a49,a50,a51,a13,a36,a31]) fun a52 a53 a54 =>
 Yb a6 a37 fun a55 =>
 pv (.put false 3 0 3) [a6,a37,a52,a53,a54] fun a56 =>
 Ya a7 (ii 1) fun a57 =>
 k0 [a56,a57]) (
 pv (.sub 3 false true) [a6,a37] fun a48 =>
 Yo (.l []) a48 fun a49 =>
 cl3 (f_i_copyWay [a13,a36,a31]) fun a50 a51 a52 =>
 pv (.lit 3 [true,true,false]) [a50,a51,a52] fun a53 =>
 Yo a49 a53 fun a54 =>
 pv (.sub 3 true false) [a6,a37] fun a55 =>
 Yo a54 a55 fun a56 =>
 Ya a7 (ii 1) fun a57 =>
 k0 [a56,a57])) (
 pv (.sub 3 false true) [a6,a37] fun a45 =>
 Yo (.l []) a45 fun a46 =>
 cl3 (f_i_copyWay [a13,a36,a31]) fun a47 a48 a49 =>
 pv (.lit 3 [true,true,false]) [a47,a48,a49] fun a50 =>
 Yo a46 a50 fun a51 =>
 pv (.sub 3 true false) [a6,a37] fun a52 =>
 Yo a51 a52 fun a53 =>
 Ya a7 (ii 1) fun a54 =>
 k0 [a53,a54]))) (
 Yn a6 fun a40 =>
 Yl a37 a40 fun a41 =>
 ifT a41 (
 Yb a6 a37 fun a42 =>
 Yc 3 0 a6 a37 fun a43 =>
 Ye a43 a13 fun a44 =>
 ifT a44 (
 Y3 a6 a37 fun a46 a47 a48 =>
 cl3 (f_i_Together [a46,a47,a48,a13,a36,a31]) fun a49 a50 a51 =>
 Yb a6 a37 fun a52 =>
 pv (.put false 3 0 3) [a6,a37,a49,a50,a51] fun a53 =>
 Ya a7 (ii 1) fun a54 =>
 k0 [a53,a54]) (
 pv (.sub 3 false true) [a6,a37] fun a45 =>
 Yo (.l []) a45 fun a46 =>
 cl3 (f_i_copyWay [a13,a36,a31]) fun a47 a48 a49 =>
 pv (.lit 3 [true,true,false]) [a47,a48,a49] fun a50 =>
 Yo a46 a50 fun a51 =>
 pv (.sub 3 true false) [a6,a37] fun a52 =>
 Yo a51 a52 fun a53 =>
 Ya a7 (ii 1) fun a54 =>
 k0 [a53,a54])) (
 pv (.sub 3 false true) [a6,a37] fun a42 =>
 Yo (.l []) a42 fun a43 =>
 cl3 (f_i_copyWay [a13,a36,a31]) fun a44 a45 a46 =>
 pv (.lit 3 [true,true,false]) [a44,a45,a46] fun a47 =>
 Yo a43 a47 fun a48 =>
 pv (.sub 3 true false) [a6,a37] fun a49 =>
 Yo a48 a49 fun a50 =>
 Ya a7 (ii 1) fun a51 =>
 k0 [a50,a51]))) ts
def zj_:Option (List T) :=
 (ar2 fun a6 a7 =>
 Yl a7 a5 fun a8 =>
 ifT a8 (
 Y8 a0 a7 fun a10 a11 a12 a13 a14 a15 a16 a17 =>
 Yu a11 (ii 2) fun a18 =>
 ifT a18 (
 Ya a7 (ii 1) fun a19 =>
 k0 [a6,a19]) (
 Yh a16 (ii 60000) fun a19 =>
 ifT a19 (
 Ya a7 (ii 1) fun a20 =>
 k0 [a6,a20]) (
 Ye a12 a3 fun a20 =>
 ifT a20 (
 Ya a7 (ii 1) fun a21 =>
 k0 [a6,a21]) (
 cl1 (f_i_hasInt [a1,a10]) fun a21 =>
 Yt a21 fun a22 =>
 ifT a22 (
 Ya a7 (ii 1) fun a23 =>
 k0 [a6,a23]) (
 ifT a2 (
 Yu a10 (ii 0) fun a23 =>
 ifT a23 (
 Ya a7 (ii 1) fun a24 =>
 k0 [a6,a24]) (
 cl4 (f_i_WayTo [a4,a13]) fun a24 a25 a26 a27 =>
 cl1 (f_i_WaysIn [a0,a10,a3]) fun a28 =>
 cl4 (f_i_WayTo [a28,a12]) fun a29 a30 a31 a32 =>
 ifT a27 (
 Ya a7 (ii 1) fun a33 =>
 k0 [a6,a33]) (
 Yt a32 fun a33 =>
 ifT a33 (
 Ya a7 (ii 1) fun a34 =>
 k0 [a6,a34]) (
 Ya a16 a30 fun a34 =>
 Yh a34 (ii 60000) fun a35 =>
 ifT a35 (
 Ya a7 (ii 1) fun a36 =>
 k0 [a6,a36]) (
 Ya a16 a30 fun a36 =>
 iter (zi_ f_i_Together f_i_copyWay a6 a7 a13 a31 a36 k0) R [ii 0]))))) (
 cl4 (f_i_WayTo [a4,a13]) fun a23 a24 a25 a26 =>
 cl1 (f_i_WaysIn [a0,a10,a3]) fun a27 =>
 cl4 (f_i_WayTo [a27,a12]) fun a28 a29 a30 a31 =>
 ifT a26 (
 Ya a7 (ii 1) fun a32 =>
 k0 [a6,a32]) (
 Yt a31 fun a32 =>
 ifT a32 (
 Ya a7 (ii 1) fun a33 =>
 k0 [a6,a33]) (
 Ya a16 a29 fun a33 =>
 Yh a33 (ii 60000) fun a34 =>
 ifT a34 (
 Ya a7 (ii 1) fun a35 =>
 k0 [a6,a35]) (
 Ya a16 a29 fun a35 =>
 iter (zh_ f_i_Together f_i_copyWay a6 a7 a13 a30 a35 k0) R [ii 0]))))))))) (
 some [a6])) ts
def jE_:Option (List T) :=
 cl1 (f_i_RoutesWithin [a0,a1,a3]) fun a4 =>
 Yn a0 fun a5 =>
 iter (zj_ R f_i_Together f_i_WayTo f_i_WaysIn f_i_copyWay f_i_hasInt a0 a1 a2 a3 a4 a5) R [.l [],ii 0]
theorem al4_:p_i_RoutesBeyond.den (pick [(183,f_i_RoutesWithin),(187,f_i_hasInt),(254,f_i_WaysIn),(256,f_i_WayTo),(257,f_i_Together),(289,f_i_copyWay)]) R [] [a0,a1,a2,a3]=jE_ R f_i_RoutesWithin f_i_Together f_i_WayTo f_i_WaysIn f_i_copyWay f_i_hasInt a0 a1 a2 a3:=(zc_ (by kernel_rfl)).trans (by kernel_rfl)
theorem ant_:xx_ [a0,a1,a2,a3]=jE_ rounds yH_ z0_ wp_ wg_ yC_ we_ a0 a1 a2 a3:=al4_ rounds yH_ z0_ wp_ wg_ yC_ we_ a0 a1 a2 a3
def z4_:Option (List T) :=
 (ar10 fun a5 a6 a7 a8 a9 a10 a11 a12 a13 a14 =>
 Yl a8 a4 fun a15 =>
 ifT a15 (
 Y8 a0 a8 fun a17 a18 a19 a20 a21 a22 a23 a24 =>
 Yu a18 (ii 3) fun a25 =>
 ifT a25 (
 Ya a8 (ii 1) fun a26 =>
 k0 [a5,a6,a7,a26,a9,a10,a11,a12,a13,a14]) (
 Yu a20 a1 fun a26 =>
 ifT a26 (
 Ya a8 (ii 1) fun a27 =>
 k0 [a5,a6,a7,a27,a9,a10,a11,a12,a13,a14]) (
 Yh a23 (ii 60000) fun a27 =>
 ifT a27 (
 Ya a8 (ii 1) fun a28 =>
 k0 [a5,a6,a7,a28,a9,a10,a11,a12,a13,a14]) (
 cl4 (f_i_WayTo [a3,a19]) fun a28 a29 a30 a31 =>
 Ye a19 a2 fun a32 =>
 jn (ar4 fun a33 a34 a35 a36 =>
 Yt a36 fun a37 =>
 ifT a37 (
 Ya a8 (ii 1) fun a38 =>
 k0 [a5,a6,a7,a38,a9,a10,a11,a12,a13,a14]) (
 Yt a24 fun a38 =>
 ifT a38 (
 Ya a34 a23 fun a39 =>
 jn (ar3 fun a40 a41 a42 =>
 Ya a8 (ii 1) fun a43 =>
 k0 [bb true,a6,a7,a43,a40,a41,a42,a12,a13,a14]) fun k1 =>
 ifT a5 (
 cl3 (f_i_Together [a9,a10,a11,a1,a39,a35]) fun a40 a41 a42 =>
 k1 [a40,a41,a42]) (
 k1 [a1,a39,a35])) (
 ifT a6 (
 Ye a23 a7 fun a39 =>
 jn (ar3 fun a40 a41 a42 =>
 Yt a6 fun a43 =>
 ifT a43 (
 jn (ar5 fun a44 a45 a46 a47 a48 =>
 Ya a8 (ii 1) fun a49 =>
 k0 [a5,a47,a48,a49,a9,a10,a11,a44,a45,a46]) fun k1 =>
 k1 [a40,a41,a42,bb true,a23]) (
 Ym a23 a7 fun a44 =>
 jn (ar5 fun a45 a46 a47 a48 a49 =>
 Ya a8 (ii 1) fun a50 =>
 k0 [a5,a48,a49,a50,a9,a10,a11,a45,a46,a47]) fun k1 =>
 ifT a44 (
 k1 [a40,a41,a42,bb true,a23]) (
 k1 [a12,a13,a14,a6,a7]))) fun k1 =>
 ifT a39 (
 cl3 (f_i_Together [a12,a13,a14,a1,a34,a35]) fun a40 a41 a42 =>
 k1 [a40,a41,a42]) (
 k1 [a1,a34,a35])) (
 jn (ar3 fun a39 a40 a41 =>
 Yt a6 fun a42 =>
 ifT a42 (
 jn (ar5 fun a43 a44 a45 a46 a47 =>
 Ya a8 (ii 1) fun a48 =>
 k0 [a5,a46,a47,a48,a9,a10,a11,a43,a44,a45]) fun k1 =>
 k1 [a39,a40,a41,bb true,a23]) (
 Ym a23 a7 fun a43 =>
 jn (ar5 fun a44 a45 a46 a47 a48 =>
 Ya a8 (ii 1) fun a49 =>
 k0 [a5,a47,a48,a49,a9,a10,a11,a44,a45,a46]) fun k1 =>
 ifT a43 (
 k1 [a39,a40,a41,bb true,a23]) (
 k1 [a12,a13,a14,a6,a7]))) fun k1 =>
 k1 [a1,a34,a35])))) fun k1 =>
 ifT a32 (
 k1 [ii 0,ii 0,.l [],bb true]) (
 k1 [a28,a29,a30,a31]))))) (
 ifT a5 (
 Yz (bb true) fun a16 =>
 Yz (ii 0) fun a17 =>
 Yz a10 fun a18 =>
 Yz (ii 3) fun a19 =>
 Yz a1 fun a20 =>
 Yz (bb true) fun a21 =>
 some [a21,a20,a19,a18,a17,a11,a16]) (
 Yz a6 fun a16 =>
 Yz a7 fun a17 =>
 Yz a13 fun a18 =>
 Yz (ii 4) fun a19 =>
 Yz a1 fun a20 =>
 Yz (bb true) fun a21 =>
 some [a21,a20,a19,a18,a17,a14,a16]))) ts
def aj0_:Option (List T) :=
 Yn a0 fun a4 =>
 iter (z4_ f_i_Together f_i_WayTo a0 a1 a2 a3 a4) R [bb false,bb false,ii 0,ii 0,ii 0,ii 0,.l [],ii 0,ii 0,.l []]
theorem aDy_:p_i_thing.den (pick [(256,f_i_WayTo),(257,f_i_Together)]) R [] [a0,a1,a2,a3]=aj0_ R f_i_Together f_i_WayTo a0 a1 a2 a3:=(zc_ (by kernel_rfl)).trans (by kernel_rfl)
theorem aK2_:aao_ [a0,a1,a2,a3]=aj0_ rounds z0_ wp_ a0 a1 a2 a3:=aDy_ rounds z0_ wp_ a0 a1 a2 a3
def zQ_:Option (List T) :=
 (ar2 fun a23 a24 =>
 Yl a24 a22 fun a25 =>
 ifT a25 (
 Yq a17 a24 fun a27 =>
 cl7 (f_i_thing [a0,a27,a3,a21]) fun a28 a29 a30 a31 a32 a33 a34 =>
 jn (ar1 fun a35 =>
 Ya a24 (ii 1) fun a36 =>
 k3 [a35,a36]) fun k4 =>
 ifT a34 (
 pv (.lit 6 [true,true,true,true,true,false]) [a28,a29,a30,a31,a32,a33] fun a35 =>
 pv (.app false 6) [a23,a35] fun a36 =>
 k4 [a36]) (
 k4 [a23])) (
 some [a23])) ts
def zK_:Option (List T) :=
 (ar1 fun a31 =>
 Yn a17 fun a32 =>
 Yl a31 a32 fun a33 =>
 ifT a33 (
 Yq a17 a31 fun a35 =>
 Yl a35 a24 fun a36 =>
 ifT a36 (
 Ya a31 (ii 1) fun a37 =>
 k4 [a37]) (
 Yn a17 fun a37 =>
 Yl a31 a37 fun a38 =>
 ifT a38 (
 Yq a17 a31 fun a40 =>
 Ye a40 a24 fun a41 =>
 ifT a41 (
 k3 [a17]) (
 Yw a17 a31 fun a42 =>
 cl1 (f_i_copyInts [a42]) fun a43 =>
 Yx a24 fun a44 =>
 Yp a43 a44 fun a45 =>
 Yv a17 a31 fun a46 =>
 Yp a45 a46 fun a47 =>
 k3 [a47])) (
 Yw a17 a31 fun a39 =>
 cl1 (f_i_copyInts [a39]) fun a40 =>
 Yx a24 fun a41 =>
 Yp a40 a41 fun a42 =>
 Yv a17 a31 fun a43 =>
 Yp a42 a43 fun a44 =>
 k3 [a44]))) (
 Yn a17 fun a34 =>
 Yl a31 a34 fun a35 =>
 ifT a35 (
 Yq a17 a31 fun a37 =>
 Ye a37 a24 fun a38 =>
 ifT a38 (
 k3 [a17]) (
 Yw a17 a31 fun a39 =>
 cl1 (f_i_copyInts [a39]) fun a40 =>
 Yx a24 fun a41 =>
 Yp a40 a41 fun a42 =>
 Yv a17 a31 fun a43 =>
 Yp a42 a43 fun a44 =>
 k3 [a44])) (
 Yw a17 a31 fun a36 =>
 cl1 (f_i_copyInts [a36]) fun a37 =>
 Yx a24 fun a38 =>
 Yp a37 a38 fun a39 =>
 Yv a17 a31 fun a40 =>
 Yp a39 a40 fun a41 =>
 k3 [a41]))) ts
def zO_:Option (List T) :=
 (ar2 fun a17 a18 =>
 Yl a18 a16 fun a19 =>
 ifT a19 (
 Y8 a0 a18 fun a21 a22 a23 a24 a25 a26 a27 a28 =>
 Ye a22 (ii 3) fun a29 =>
 ifT a29 (
 Yl a27 (ii 60000) fun a30 =>
 jn (ar1 fun a31 =>
 Ya a18 (ii 1) fun a32 =>
 k2 [a31,a32]) fun k3 =>
 ifT a30 (
 iter (zK_ f_i_copyInts a17 a24 k3) R [ii 0]) (
 k3 [a17])) (
 jn (ar1 fun a30 =>
 Ya a18 (ii 1) fun a31 =>
 k2 [a30,a31]) fun k3 =>
 k3 [a17])) (
 Yo (.l []) a9 fun a20 =>
 Yo a20 a14 fun a21 =>
 Yn a17 fun a22 =>
 iter (zQ_ f_i_thing a0 a3 a17 a21 a22) R [a12,ii 0])) ts
def zP_:Option (List T) :=
 (ar3 fun a12 a13 a14 =>
 Yl a13 a11 fun a15 =>
 ifT a15 (
 Y3 a14 a13 fun a17 a18 a19 =>
 cl1 (f_i_copyInts [a19]) fun a20 =>
 pv (.lit 6 [true,true,true,true,true,false]) [bb false,a17,ii 2,a18,ii 0,a20] fun a21 =>
 pv (.app false 6) [a12,a21] fun a22 =>
 Ya a13 (ii 1) fun a23 =>
 k1 [a22,a23,a14]) (
 Yn a0 fun a16 =>
 iter (zO_ R f_i_copyInts f_i_thing a0 a3 a9 a12 a14 a16) R [.l [],ii 0])) ts
def zN_:Option (List T) :=
 (ar3 fun a7 a8 a9 =>
 Yl a8 a6 fun a10 =>
 ifT a10 (
 Y3 a9 a8 fun a12 a13 a14 =>
 Yu a12 a3 fun a15 =>
 jn (ar1 fun a16 =>
 Ya a8 (ii 1) fun a17 =>
 k0 [a16,a17,a9]) fun k1 =>
 ifT a15 (
 cl1 (f_i_copyInts [a14]) fun a16 =>
 pv (.lit 6 [true,true,true,true,true,false]) [bb false,a12,ii 1,a13,ii 0,a16] fun a17 =>
 pv (.app false 6) [a7,a17] fun a18 =>
 k1 [a18]) (
 k1 [a7])) (
 Yn a5 fun a11 =>
 iter (zP_ R f_i_copyInts f_i_thing a0 a3 a9 a11) R [a7,ii 0,a5])) ts
def ab6_:Option (List T) :=
 cl1 (f_i_RoutesWithin [a0,a1,a3]) fun a4 =>
 cl1 (f_i_RoutesBeyond [a0,a1,a2,a3]) fun a5 =>
 Yn a4 fun a6 =>
 iter (zN_ R f_i_copyInts f_i_thing a0 a3 a5 a6) R [.l [],ii 0,a4]
theorem ati_:p_i_RoutesOf.den (pick [(183,f_i_RoutesWithin),(184,f_i_RoutesBeyond),(185,f_i_copyInts),(186,f_i_thing)]) R [] [a0,a1,a2,a3]=ab6_ R f_i_RoutesBeyond f_i_RoutesWithin f_i_copyInts f_i_thing a0 a1 a2 a3:=(zc_ (by kernel_rfl)).trans (by kernel_rfl)
theorem aui_:qo_ [a0,a1,a2,a3]=ab6_ rounds xx_ yH_ zM_ aao_ a0 a1 a2 a3:=ati_ rounds xx_ yH_ zM_ aao_ a0 a1 a2 a3
def aiv_:Option (List T) :=
 cl1 (f_i_NodeOk [a0,a1,a2,a3,a4,a5,a6,a7]) fun a8 =>
 Yt a8 fun a9 =>
 ifT a9 (
 some [.l []]) (
 cl1 (f_i_AreasOf [a2,a3,a4,a0]) fun a10 =>
 cl1 (f_i_Border [a2,a3,a4,a0]) fun a11 =>
 cl1 (f_i_RoutesOf [a6,a10,a11,a0]) fun a12 =>
 some [a12])
theorem aAv_:p_i_Routes.den (pick [(83,f_i_RoutesOf),(84,f_i_AreasOf),(85,f_i_Border),(94,f_i_NodeOk)]) R [] [a0,a1,a2,a3,a4,a5,a6,a7]=aiv_ f_i_AreasOf f_i_Border f_i_NodeOk f_i_RoutesOf a0 a1 a2 a3 a4 a5 a6 a7:=(zc_ (by kernel_rfl)).trans (by kernel_rfl)
theorem aFq_:ain_ [a0,a1,a2,a3,a4,a5,a6,a7]=aiv_ y9_ va_ kk_ qo_ a0 a1 a2 a3 a4 a5 a6 a7:=aAv_ rounds y9_ va_ kk_ qo_ a0 a1 a2 a3 a4 a5 a6 a7
def vC_:Option (List T) :=
 (ar2 fun a16 a17 =>
 Yn a0 fun a18 =>
 Yl a17 a18 fun a19 =>
 ifT a19 (
 Y8 a0 a17 fun a21 a22 a23 a24 a25 a26 a27 a28 =>
 cl1 (f_s_Before [a1,a2,a3,a4,a5,a6,a7,a8,a21,a22,a23,a24,a25,a26,a27,a28]) fun a29 =>
 jn (ar1 fun a30 =>
 Ya a17 (ii 1) fun a31 =>
 k1 [a30,a31]) fun k2 =>
 ifT a29 (
 Y8 a0 a17 fun a31 a32 a33 a34 a35 a36 a37 a38 =>
 pv (.lit 8 []) [a31,a32,a33,a34,a35,a36,a37,a38] fun a39 =>
 Yy a16 a39 fun a40 =>
 k2 [a40]) (
 k2 [a16])) (
 some [a16])) ts
def vF_:Option (List T) :=
 (ar2 fun a10 a11 =>
 Yn a0 fun a12 =>
 Yl a11 a12 fun a13 =>
 ifT a13 (
 Y8 a0 a11 fun a15 a16 a17 a18 a19 a20 a21 a22 =>
 cl1 (f_s_Before [a15,a16,a17,a18,a19,a20,a21,a22,a1,a2,a3,a4,a5,a6,a7,a8]) fun a23 =>
 jn (ar1 fun a24 =>
 Ya a11 (ii 1) fun a25 =>
 k0 [a24,a25]) fun k1 =>
 ifT a23 (
 Y8 a0 a11 fun a25 a26 a27 a28 a29 a30 a31 a32 =>
 pv (.lit 8 []) [a25,a26,a27,a28,a29,a30,a31,a32] fun a33 =>
 Yy a10 a33 fun a34 =>
 k1 [a34]) (
 k1 [a10])) (
 pv (.lit 8 []) [a1,a2,a3,a4,a5,a6,a7,a8] fun a14 =>
 Yy a10 a14 fun a15 =>
 iter (vC_ f_s_Before a0 a1 a2 a3 a4 a5 a6 a7 a8) R [a15,ii 0])) ts
def ah2_:Option (List T) :=
 pv (.lit 8 []) [] fun a9 =>
 iter (vF_ R f_s_Before a0 a1 a2 a3 a4 a5 a6 a7 a8) R [a9,ii 0]
theorem aCg_:p_s_l05Put.den (pick [(199,f_s_Before)]) R [] [a0,a1,a2,a3,a4,a5,a6,a7,a8]=ah2_ R f_s_Before a0 a1 a2 a3 a4 a5 a6 a7 a8:=(zc_ (by kernel_rfl)).trans (by kernel_rfl)
theorem aEq_:x6_ [a0,a1,a2,a3,a4,a5,a6,a7,a8]=ah2_ rounds ve_ a0 a1 a2 a3 a4 a5 a6 a7 a8:=aCg_ rounds ve_ a0 a1 a2 a3 a4 a5 a6 a7 a8
def yX_:Option (List T) :=
 (ar2 fun a15 a16 =>
 Ym a16 (ii 6) fun a17 =>
 ifT a17 (
 cl4 (f_s_WayTo [a12,a16]) fun a18 a19 a20 a21 =>
 ifT a21 (
 Ya a16 (ii 1) fun a22 =>
 k1 [a15,a22]) (
 Ye a16 a2 fun a22 =>
 ifT a22 (
 Ya a16 (ii 1) fun a23 =>
 k1 [a15,a23]) (
 cl4 (f_s_WayTo [a13,a16]) fun a23 a24 a25 a26 =>
 Yt a26 fun a27 =>
 ifT a27 (
 Yu a3 (ii 0) fun a28 =>
 jn (ar4 fun a29 a30 a31 a32 =>
 jn (ar1 fun a33 =>
 Ya a16 (ii 1) fun a34 =>
 k1 [a33,a34]) fun k2 =>
 ifT a32 (
 pv (.lit 8 [true,true,true,true,true,false,true,true]) [a3,ii 2,a2,a16,ii 0,.l [],a30,bb false] fun a33 =>
 Yy a15 a33 fun a34 =>
 k2 [a34]) (
 k2 [a15])) fun k2 =>
 ifT a28 (
 cl4 (f_s_WayTo [a14,a16]) fun a29 a30 a31 a32 =>
 k2 [a29,a30,a31,a32]) (
 k2 [a23,a24,a25,a26])) (
 jn (ar4 fun a28 a29 a30 a31 =>
 jn (ar1 fun a32 =>
 Ya a16 (ii 1) fun a33 =>
 k1 [a32,a33]) fun k2 =>
 ifT a31 (
 pv (.lit 8 [true,true,true,true,true,false,true,true]) [a3,ii 2,a2,a16,ii 0,.l [],a29,bb false] fun a32 =>
 Yy a15 a32 fun a33 =>
 k2 [a33]) (
 k2 [a15])) fun k2 =>
 k2 [a23,a24,a25,a26])))) (
 some [a15])) ts
def yV_:Option (List T) :=
 (ar2 fun a8 a9 =>
 Yn a1 fun a10 =>
 Yl a9 a10 fun a11 =>
 ifT a11 (
 Y1 a1 a9 fun a13 =>
 Yu a13 a3 fun a14 =>
 jn (ar1 fun a15 =>
 Ya a9 (ii 1) fun a16 =>
 k0 [a15,a16]) fun k1 =>
 ifT a14 (
 Y1 a1 a9 fun a16 =>
 Yx a16 fun a17 =>
 Yp a8 a17 fun a18 =>
 k1 [a18]) (
 k1 [a8])) (
 cl1 (f_s_WaysIn [a0,a3,a2]) fun a12 =>
 cl1 (f_s_RoutesWithin [a0,a8,a2]) fun a13 =>
 cl1 (f_s_RoutesBeyond [a0,a1,bb true,a2]) fun a14 =>
 iter (yX_ f_s_WayTo a2 a3 a12 a13 a14) R [a4,ii 1])) ts
def aib_:Option (List T) :=
 pv (.lit 8 []) [] fun a4 =>
 cl1 (f_s_StoreOk [a0]) fun a5 =>
 Yt a5 fun a6 =>
 ifT a6 (
 some [a4]) (
 pv (.lit 1 []) [] fun a7 =>
 iter (yV_ R f_s_RoutesBeyond f_s_RoutesWithin f_s_WayTo f_s_WaysIn a0 a1 a2 a3 a4) R [a7,ii 0])
theorem aCa_:p_s_Beyond.den (pick [(174,f_s_RoutesWithin),(175,f_s_RoutesBeyond),(176,f_s_StoreOk),(245,f_s_WaysIn),(246,f_s_WayTo)]) R [] [a0,a1,a2,a3]=aib_ R f_s_RoutesBeyond f_s_RoutesWithin f_s_StoreOk f_s_WayTo f_s_WaysIn a0 a1 a2 a3:=(zc_ (by kernel_rfl)).trans (by kernel_rfl)
theorem aEy_:qU_ [a0,a1,a2,a3]=aib_ rounds xw_ yK_ yE_ y7_ wf_ a0 a1 a2 a3:=aCa_ rounds xw_ yK_ yE_ y7_ wf_ a0 a1 a2 a3
def ur_:Option (List T) :=
 (ar2 fun a2 a3 =>
 Yn a1 fun a4 =>
 Yl a3 a4 fun a5 =>
 ifT a5 (
 Y8 a1 a3 fun a7 a8 a9 a10 a11 a12 a13 a14 =>
 Ye a11 (ii 0) fun a15 =>
 jn (ar1 fun a16 =>
 cl1 (f_s_l05Put [a2,a7,a8,a9,a10,a16,a12,a13,a14]) fun a17 =>
 Ya a3 (ii 1) fun a18 =>
 k0 [a17,a18]) fun k1 =>
 ifT a15 (
 k1 [ii 1]) (
 k1 [a11])) (
 some [a2])) ts
def aep_:Option (List T) :=
 iter (ur_ f_s_l05Put a1) R [a0,ii 0]
theorem awa_:p_s_l08With.den (pick [(105,f_s_l05Put)]) R [] [a0,a1]=aep_ R f_s_l05Put a0 a1:=(zc_ (by kernel_rfl)).trans (by kernel_rfl)
theorem azr_:wK_ [a0,a1]=aep_ rounds x6_ a0 a1:=awa_ rounds x6_ a0 a1
def aei_:Option (List T) :=
 pv (.lit 2 []) [] fun a8 =>
 pv (.app true 2) [a8,a5] fun a9 =>
 Yz a7 fun a10 =>
 Yz a6 fun a11 =>
 Yz a4 fun a12 =>
 Yz a3 fun a13 =>
 Yz a2 fun a14 =>
 Yz a1 fun a15 =>
 Yz a0 fun a16 =>
 some [a16,a15,a14,a13,a12,a9,a11,a10]
theorem aw5_:p_s_l04Copy.den (pick []) R [] [a0,a1,a2,a3,a4,a5,a6,a7]=aei_ a0 a1 a2 a3 a4 a5 a6 a7:=(zc_ (by kernel_rfl)).trans (by kernel_rfl)
theorem az4_:xX_ [a0,a1,a2,a3,a4,a5,a6,a7]=aei_ a0 a1 a2 a3 a4 a5 a6 a7:=aw5_ rounds a0 a1 a2 a3 a4 a5 a6 a7
def vM_:Option (List T) :=
 (ar2 fun a2 a3 =>
 Yn a0 fun a4 =>
 Yl a3 a4 fun a5 =>
 ifT a5 (
 Y8 a0 a3 fun a7 a8 a9 a10 a11 a12 a13 a14 =>
 cl8 (f_s_l04Copy [a7,a8,a9,a10,a11,a12,a13,a14]) fun a15 a16 a17 a18 a19 a20 a21 a22 =>
 pv (.lit 8 [true,true,true,true,true,false,true,true]) [a15,a16,a17,a18,a19,a20,a21,a22] fun a23 =>
 Yy a2 a23 fun a24 =>
 Ya a3 (ii 1) fun a25 =>
 k0 [a24,a25]) (
 some [a2])) ts
def ki_:Option (List T) :=
 pv (.lit 8 []) [] fun a1 =>
 iter (vM_ f_s_l04Copy a0) R [a1,ii 0]
theorem am8_:p_s_l04CopyList.den (pick [(108,f_s_l04Copy)]) R [] [a0]=ki_ R f_s_l04Copy a0:=(zc_ (by kernel_rfl)).trans (by kernel_rfl)
theorem aqg_:yA_ [a0]=ki_ rounds xX_ a0:=am8_ rounds xX_ a0
def kO_:Option (List T) :=
 pv (.app true 2) [.l [],a5] fun a8 =>
 Yz a7 fun a9 =>
 Yz a6 fun a10 =>
 Yz a4 fun a11 =>
 Yz a3 fun a12 =>
 Yz a2 fun a13 =>
 Yz a1 fun a14 =>
 Yz a0 fun a15 =>
 some [a15,a14,a13,a12,a11,a8,a10,a9]
theorem aql_:p_i_copyRecord.den (pick []) R [] [a0,a1,a2,a3,a4,a5,a6,a7]=kO_ a0 a1 a2 a3 a4 a5 a6 a7:=(zc_ (by kernel_rfl)).trans (by kernel_rfl)
theorem arh_:xZ_ [a0,a1,a2,a3,a4,a5,a6,a7]=kO_ a0 a1 a2 a3 a4 a5 a6 a7:=aql_ rounds a0 a1 a2 a3 a4 a5 a6 a7
def vW_:Option (List T) :=
 (ar2 fun a2 a3 =>
 Yl a3 a1 fun a4 =>
 ifT a4 (
 Y8 a0 a3 fun a6 a7 a8 a9 a10 a11 a12 a13 =>
 cl8 (f_i_copyRecord [a6,a7,a8,a9,a10,a11,a12,a13]) fun a14 a15 a16 a17 a18 a19 a20 a21 =>
 pv (.lit 8 [true,true,true,true,true,false,true,true]) [a14,a15,a16,a17,a18,a19,a20,a21] fun a22 =>
 Yy a2 a22 fun a23 =>
 Ya a3 (ii 1) fun a24 =>
 k0 [a23,a24]) (
 some [a2])) ts
def kd_:Option (List T) :=
 Yn a0 fun a1 =>
 iter (vW_ f_i_copyRecord a0 a1) R [.l [],ii 0]
theorem ani_:p_i_copyRecords.den (pick [(208,f_i_copyRecord)]) R [] [a0]=kd_ R f_i_copyRecord a0:=(zc_ (by kernel_rfl)).trans (by kernel_rfl)
theorem ao8_:yU_ [a0]=kd_ rounds xZ_ a0:=ani_ rounds xZ_ a0
def uB_:Option (List T) :=
 (ar1 fun a9 =>
 Yn a0 fun a10 =>
 Yl a9 a10 fun a11 =>
 ifT a11 (
 Y8 a0 a9 fun a13 a14 a15 a16 a17 a18 a19 a20 =>
 cl1 (f_i_Before [a13,a14,a15,a16,a17,a18,a19,a20,a1,a2,a3,a4,a5,a6,a7,a8]) fun a21 =>
 ifT a21 (
 Ya a9 (ii 1) fun a22 =>
 k0 [a22]) (
 pv (.sub 8 false true) [a0,a9] fun a22 =>
 cl1 (f_i_copyRecords [a22]) fun a23 =>
 cl8 (f_i_copyRecord [a1,a2,a3,a4,a5,a6,a7,a8]) fun a24 a25 a26 a27 a28 a29 a30 a31 =>
 pv (.lit 8 [true,true,true,true,true,false,true,true]) [a24,a25,a26,a27,a28,a29,a30,a31] fun a32 =>
 Yy a23 a32 fun a33 =>
 Yn a0 fun a34 =>
 Yl a9 a34 fun a35 =>
 ifT a35 (
 Y8 a0 a9 fun a37 a38 a39 a40 a41 a42 a43 a44 =>
 cl1 (f_i_SameKey [a37,a38,a39,a40,a41,a42,a43,a44,a1,a2,a3,a4,a5,a6,a7,a8]) fun a45 =>
 jn (ar1 fun a46 =>
 pv (.sub 8 true false) [a0,a46] fun a47 =>
 cl1 (f_i_copyRecords [a47]) fun a48 =>
 Yy a33 a48 fun a49 =>
 some [a49]) fun k1 =>
 ifT a45 (
 Ya a9 (ii 1) fun a46 =>
 k1 [a46]) (
 k1 [a9])) (
 jn (ar1 fun a36 =>
 pv (.sub 8 true false) [a0,a36] fun a37 =>
 cl1 (f_i_copyRecords [a37]) fun a38 =>
 Yy a33 a38 fun a39 =>
 some [a39]) fun k1 =>
 k1 [a9]))) (
 pv (.sub 8 false true) [a0,a9] fun a12 =>
 cl1 (f_i_copyRecords [a12]) fun a13 =>
 cl8 (f_i_copyRecord [a1,a2,a3,a4,a5,a6,a7,a8]) fun a14 a15 a16 a17 a18 a19 a20 a21 =>
 pv (.lit 8 [true,true,true,true,true,false,true,true]) [a14,a15,a16,a17,a18,a19,a20,a21] fun a22 =>
 Yy a13 a22 fun a23 =>
 Yn a0 fun a24 =>
 Yl a9 a24 fun a25 =>
 ifT a25 (
 Y8 a0 a9 fun a27 a28 a29 a30 a31 a32 a33 a34 =>
 cl1 (f_i_SameKey [a27,a28,a29,a30,a31,a32,a33,a34,a1,a2,a3,a4,a5,a6,a7,a8]) fun a35 =>
 jn (ar1 fun a36 =>
 pv (.sub 8 true false) [a0,a36] fun a37 =>
 cl1 (f_i_copyRecords [a37]) fun a38 =>
 Yy a23 a38 fun a39 =>
 some [a39]) fun k1 =>
 ifT a35 (
 Ya a9 (ii 1) fun a36 =>
 k1 [a36]) (
 k1 [a9])) (
 jn (ar1 fun a26 =>
 pv (.sub 8 true false) [a0,a26] fun a27 =>
 cl1 (f_i_copyRecords [a27]) fun a28 =>
 Yy a23 a28 fun a29 =>
 some [a29]) fun k1 =>
 k1 [a9]))) ts
def arc_:Option (List T) :=
 iter (uB_ f_i_Before f_i_SameKey f_i_copyRecord f_i_copyRecords a0 a1 a2 a3 a4 a5 a6 a7 a8) R [ii 0]
theorem aOt_:p_i_put.den (pick [(116,f_i_copyRecords),(208,f_i_copyRecord),(209,f_i_Before),(210,f_i_SameKey)]) R [] [a0,a1,a2,a3,a4,a5,a6,a7,a8]=arc_ R f_i_Before f_i_SameKey f_i_copyRecord f_i_copyRecords a0 a1 a2 a3 a4 a5 a6 a7 a8:=(zc_ (by kernel_rfl)).trans (by kernel_rfl)
theorem aPv_:x3_ [a0,a1,a2,a3,a4,a5,a6,a7,a8]=arc_ rounds vd_ xY_ xZ_ yU_ a0 a1 a2 a3 a4 a5 a6 a7 a8:=aOt_ rounds vd_ xY_ xZ_ yU_ a0 a1 a2 a3 a4 a5 a6 a7 a8
def yu_:Option (List T) :=
 (ar2 fun a17 a18 =>
 Yl a17 a16 fun a19 =>
 ifT a19 (
 Y3 a15 a17 fun a21 a22 a23 =>
 cl4 (f_i_WayTo [a8,a21]) fun a24 a25 a26 a27 =>
 Yt a27 fun a28 =>
 ifT a28 (
 Yu a21 a2 fun a29 =>
 ifT a29 (
 cl1 (f_i_keyAt [a18,a3,ii 2,a2,a21,ii 0,.l [],a22,bb false]) fun a30 =>
 Yl a30 (ii 0) fun a31 =>
 jn (ar1 fun a32 =>
 Ya a17 (ii 1) fun a33 =>
 k3 [a33,a32]) fun k4 =>
 ifT a31 (
 cl1 (f_i_put [a18,a3,ii 2,a2,a21,ii 0,.l [],a22,bb false]) fun a32 =>
 k4 [a32]) (
 k4 [a18])) (
 jn (ar1 fun a30 =>
 Ya a17 (ii 1) fun a31 =>
 k3 [a31,a30]) fun k4 =>
 k4 [a18])) (
 jn (ar1 fun a29 =>
 Ya a17 (ii 1) fun a30 =>
 k3 [a30,a29]) fun k4 =>
 k4 [a18])) (
 k2 [a18])) ts
def yt_:Option (List T) :=
 (ar2 fun a11 a12 =>
 Yl a11 a10 fun a13 =>
 ifT a13 (
 Y3 a9 a11 fun a15 a16 a17 =>
 cl4 (f_i_WayTo [a8,a15]) fun a18 a19 a20 a21 =>
 Yt a21 fun a22 =>
 ifT a22 (
 Yu a15 a2 fun a23 =>
 ifT a23 (
 cl1 (f_i_keyAt [a12,a3,ii 2,a2,a15,ii 0,.l [],a16,bb false]) fun a24 =>
 Yl a24 (ii 0) fun a25 =>
 jn (ar1 fun a26 =>
 Ya a11 (ii 1) fun a27 =>
 k1 [a27,a26]) fun k2 =>
 ifT a25 (
 cl1 (f_i_put [a12,a3,ii 2,a2,a15,ii 0,.l [],a16,bb false]) fun a26 =>
 k2 [a26]) (
 k2 [a12])) (
 jn (ar1 fun a24 =>
 Ya a11 (ii 1) fun a25 =>
 k1 [a25,a24]) fun k2 =>
 k2 [a12])) (
 jn (ar1 fun a23 =>
 Ya a11 (ii 1) fun a24 =>
 k1 [a24,a23]) fun k2 =>
 k2 [a12])) (
 Yu a3 (ii 0) fun a14 =>
 jn (ar1 fun a15 =>
 some [a15]) fun k2 =>
 ifT a14 (
 cl1 (f_i_RoutesBeyond [a0,a1,bb true,a2]) fun a15 =>
 Yn a15 fun a16 =>
 iter (yu_ f_i_WayTo f_i_keyAt f_i_put a2 a3 a8 a15 a16 k2) R [ii 0,a12]) (
 k2 [a12]))) ts
def yv_:Option (List T) :=
 (ar2 fun a5 a6 =>
 Yl a6 a4 fun a7 =>
 ifT a7 (
 Y1 a1 a6 fun a9 =>
 Yu a9 a3 fun a10 =>
 jn (ar1 fun a11 =>
 Ya a6 (ii 1) fun a12 =>
 k0 [a11,a12]) fun k1 =>
 ifT a10 (
 Yx a9 fun a11 =>
 Yp a5 a11 fun a12 =>
 k1 [a12]) (
 k1 [a5])) (
 cl1 (f_i_WaysIn [a0,a3,a2]) fun a8 =>
 cl1 (f_i_RoutesWithin [a0,a5,a2]) fun a9 =>
 Yn a9 fun a10 =>
 iter (yt_ R f_i_RoutesBeyond f_i_WayTo f_i_keyAt f_i_put a0 a1 a2 a3 a8 a9 a10) R [ii 0,.l []])) ts
def ahg_:Option (List T) :=
 Yn a1 fun a4 =>
 iter (yv_ R f_i_RoutesBeyond f_i_RoutesWithin f_i_WayTo f_i_WaysIn f_i_keyAt f_i_put a0 a1 a2 a3 a4) R [.l [],ii 0]
theorem aAb_:p_i_Beyond.den (pick [(117,f_i_put),(183,f_i_RoutesWithin),(184,f_i_RoutesBeyond),(204,f_i_keyAt),(254,f_i_WaysIn),(256,f_i_WayTo)]) R [] [a0,a1,a2,a3]=ahg_ R f_i_RoutesBeyond f_i_RoutesWithin f_i_WayTo f_i_WaysIn f_i_keyAt f_i_put a0 a1 a2 a3:=(zc_ (by kernel_rfl)).trans (by kernel_rfl)
theorem aEr_:q2_ [a0,a1,a2,a3]=ahg_ rounds xx_ yH_ wp_ wg_ xe_ x3_ a0 a1 a2 a3:=aAb_ rounds xx_ yH_ wp_ wg_ xe_ x3_ a0 a1 a2 a3
def ael_:Option (List T) :=
 pv (.lit 4 []) [] fun a7 =>
 pv (.app true 4) [a7,a3] fun a8 =>
 pv (.lit 4 []) [] fun a9 =>
 pv (.app true 4) [a9,a4] fun a10 =>
 pv (.lit 1 []) [] fun a11 =>
 Yp a11 a5 fun a12 =>
 cl1 (f_s_l04CopyList [a6]) fun a13 =>
 Yz a2 fun a14 =>
 Yz a1 fun a15 =>
 Yz a0 fun a16 =>
 some [a16,a15,a14,a8,a10,a12,a13]
theorem aur_:p_s_l08Copy.den (pick [(109,f_s_l04CopyList)]) R [] [a0,a1,a2,a3,a4,a5,a6]=ael_ f_s_l04CopyList a0 a1 a2 a3 a4 a5 a6:=(zc_ (by kernel_rfl)).trans (by kernel_rfl)
theorem azi_:u0_ [a0,a1,a2,a3,a4,a5,a6]=ael_ yA_ a0 a1 a2 a3 a4 a5 a6:=aur_ rounds yA_ a0 a1 a2 a3 a4 a5 a6
def uu_:Option (List T) :=
 (ar2 fun a8 a9 =>
 Yn a5 fun a10 =>
 Yl a8 a10 fun a11 =>
 ifT a11 (
 Ya a8 (ii 1) fun a12 =>
 Y1 a5 a12 fun a14 =>
 Ye a14 a7 fun a15 =>
 jn (ar1 fun a16 =>
 Ya a8 (ii 2) fun a17 =>
 k0 [a17,a16]) fun k1 =>
 ifT a15 (
 Y1 a5 a8 fun a17 =>
 Y1 a5 a8 fun a19 =>
 cl1 (f_s_CostTo [a2,a3,a4,a0,a19,a7]) fun a20 =>
 pv (.lit 2 [true,true]) [a17,a20] fun a21 =>
 pv (.app true 2) [a9,a21] fun a22 =>
 k1 [a22]) (
 k1 [a9])) (
 Yz (bb false) fun a12 =>
 Yz (ii 0) fun a13 =>
 Yz (ii 0) fun a14 =>
 Yz (ii 0) fun a15 =>
 Yz a0 fun a16 =>
 Yz (ii 1) fun a17 =>
 Yz a7 fun a18 =>
 some [a18,a17,a16,a15,a14,a9,a13,a12])) ts
def ae6_:Option (List T) :=
 iter (uu_ f_s_CostTo a0 a2 a3 a4 a5 a7) R [ii 0,.l []]
theorem av5_:p_s_l08Node.den (pick [(122,f_s_CostTo)]) R [] [a0,a1,a2,a3,a4,a5,a6,a7]=ae6_ R f_s_CostTo a0 a2 a3 a4 a5 a7:=(zc_ (by kernel_rfl)).trans (by kernel_rfl)
theorem azq_:u3_ [a0,a1,a2,a3,a4,a5,a6,a7]=ae6_ rounds yZ_ a0 a2 a3 a4 a5 a7:=av5_ rounds yZ_ a0 a1 a2 a3 a4 a5 a6 a7
def xl_:Option (List T) :=
 (ar2 fun a20 a21 =>
 Yn a10 fun a22 =>
 Yl a21 a22 fun a23 =>
 ifT a23 (
 Y1 a10 a21 fun a25 =>
 cl1 (f_s_Beyond [a19,a10,a0,a25]) fun a26 =>
 Yy a20 a26 fun a27 =>
 Ya a21 (ii 1) fun a28 =>
 k2 [a27,a28]) (
 k1 [a20,a12,a12])) ts
def xh_:Option (List T) :=
 (ar2 fun a26 a27 =>
 Yn a22 fun a28 =>
 Yl a27 a28 fun a29 =>
 ifT a29 (
 Y8 a22 a27 fun a31 a32 a33 a34 a35 a36 a37 a38 =>
 cl1 (f_s_l05Put [a26,a31,a32,a33,a34,a35,a36,a37,a38]) fun a39 =>
 Ya a27 (ii 1) fun a40 =>
 k2 [a39,a40]) (
 cl1 (f_s_l04CopyList [a26]) fun a30 =>
 some [a30])) ts
def y2_:Option (List T) :=
 (ar2 fun a22 a23 =>
 Yn a4 fun a24 =>
 Yl a23 a24 fun a25 =>
 ifT a25 (
 Y4 a4 a23 fun a27 a28 a29 a30 =>
 Ye a27 a0 fun a31 =>
 jn (ar1 fun a32 =>
 Ya a23 (ii 1) fun a33 =>
 k1 [a32,a33]) fun k2 =>
 ifT a31 (
 pv (.lit 8 [true,true,true,true,true,false,true,true]) [ii 9,ii 3,a0,a28,ii 0,.l [],a29,a30] fun a32 =>
 Yy a22 a32 fun a33 =>
 k2 [a33]) (
 k2 [a22])) (
 iter (xh_ f_s_l04CopyList f_s_l05Put a22) R [a7,ii 0])) ts
def xm_:Option (List T) :=
 (ar2 fun a12 a13 =>
 Yn a10 fun a14 =>
 Yl a13 a14 fun a15 =>
 ifT a15 (
 Y1 a10 a13 fun a17 =>
 cl8 (f_s_l08Node [a0,a1,a2,a3,a4,a5,a6,a17]) fun a18 a19 a20 a21 a22 a23 a24 a25 =>
 pv (.lit 8 []) [a18,a19,a20,a21,a22,a23,a24,a25] fun a26 =>
 Yy a12 a26 fun a27 =>
 Ya a13 (ii 1) fun a28 =>
 k0 [a27,a28]) (
 pv (.lit 8 []) [] fun a16 =>
 Yy a16 a12 fun a17 =>
 cl1 (f_s_Border [a2,a3,a4,a0]) fun a18 =>
 jn (ar3 fun a19 a20 a21 =>
 iter (y2_ R f_s_l04CopyList f_s_l05Put a0 a4 a7) R [a19,ii 0]) fun k1 =>
 ifT a18 (
 cl1 (f_s_l08With [a6,a12]) fun a19 =>
 iter (xl_ f_s_Beyond a0 a10 a12 a19 k1) R [a17,ii 0]) (
 k1 [a17,a12,a12]))) ts
def ah3_:Option (List T) :=
 pv (.lit 8 []) [] fun a7 =>
 cl1 (f_s_SelfOk [a0,a1,a2,a3,a4,a5,a6]) fun a8 =>
 Yt a8 fun a9 =>
 ifT a9 (
 some [a7]) (
 cl1 (f_s_AreasOf [a2,a3,a4,a0]) fun a10 =>
 pv (.lit 8 []) [] fun a11 =>
 iter (xm_ R f_s_Beyond f_s_Border f_s_l04CopyList f_s_l05Put f_s_l08Node f_s_l08With a0 a1 a2 a3 a4 a5 a6 a7 a10) R [a11,ii 0])
theorem aB2_:p_s_Wanted.den (pick [(77,f_s_AreasOf),(78,f_s_Border),(99,f_s_SelfOk),(105,f_s_l05Put),(109,f_s_l04CopyList),(110,f_s_l08With),(196,f_s_l08Node),(197,f_s_Beyond)]) R [] [a0,a1,a2,a3,a4,a5,a6]=ah3_ R f_s_AreasOf f_s_Beyond f_s_Border f_s_SelfOk f_s_l04CopyList f_s_l05Put f_s_l08Node f_s_l08With a0 a1 a2 a3 a4 a5 a6:=(zc_ (by kernel_rfl)).trans (by kernel_rfl)
theorem aHx_:qP_ [a0,a1,a2,a3,a4,a5,a6]=ah3_ rounds xV_ qU_ vf_ xu_ yA_ x6_ u3_ wK_ a0 a1 a2 a3 a4 a5 a6:=aB2_ rounds xV_ qU_ vf_ xu_ yA_ x6_ u3_ wK_ a0 a1 a2 a3 a4 a5 a6
def ah9_:Option (List T) :=
 cl1 (f_s_l05At [a0,a1,a2,a3,a4,a5,a6,a7,a8]) fun a9 =>
 Yl a9 (ii 0) fun a10 =>
 ifT a10 (
 Yz (bb false) fun a11 =>
 Yz (bb false) fun a12 =>
 Yz (ii 0) fun a13 =>
 Yz (ii 0) fun a14 =>
 Yz (ii 0) fun a15 =>
 Yz (ii 0) fun a16 =>
 Yz (ii 0) fun a17 =>
 Yz (ii 0) fun a18 =>
 some [a18,a17,a16,a15,a14,.l [],a13,a12,a11]) (
 Y8 a0 a9 fun a12 a13 a14 a15 a16 a17 a18 a19 =>
 cl8 (f_s_l04Copy [a12,a13,a14,a15,a16,a17,a18,a19]) fun a20 a21 a22 a23 a24 a25 a26 a27 =>
 Yz (bb true) fun a28 =>
 Yz a27 fun a29 =>
 Yz a26 fun a30 =>
 Yz a24 fun a31 =>
 Yz a23 fun a32 =>
 Yz a22 fun a33 =>
 Yz a21 fun a34 =>
 Yz a20 fun a35 =>
 some [a35,a34,a33,a32,a31,a25,a30,a29,a28])
theorem aIb_:p_s_Find.den (pick [(106,f_s_l05At),(108,f_s_l04Copy)]) R [] [a0,a1,a2,a3,a4,a5,a6,a7,a8]=ah9_ f_s_l04Copy f_s_l05At a0 a1 a2 a3 a4 a5 a6 a7 a8:=(zc_ (by kernel_rfl)).trans (by kernel_rfl)
theorem aOf_:kJ_ [a0,a1,a2,a3,a4,a5,a6,a7,a8]=ah9_ xX_ wF_ a0 a1 a2 a3 a4 a5 a6 a7 a8:=aIb_ rounds xX_ wF_ a0 a1 a2 a3 a4 a5 a6 a7 a8
def wU_:Option (List T) :=
 (ar2 fun a23 a24 =>
 Yn a5 fun a25 =>
 Yl a24 a25 fun a26 =>
 ifT a26 (
 Y2 a5 a24 fun a28 a29 =>
 Y2 a13 a24 fun a31 a32 =>
 pv (.eqs [1,1]) [a28,a29,a31,a32] fun a33 =>
 Yt a33 fun a34 =>
 ifT a34 (
 Yz (bb false) fun a35 =>
 some [a35]) (
 Ya a24 (ii 1) fun a35 =>
 k0 [a23,a35])) (
 Yz (bb true) fun a27 =>
 some [a27])) ts
def acb_:Option (List T) :=
 cl1 (f_s_SameKey [a0,a1,a2,a3,a4,a5,a6,a7,a8,a9,a10,a11,a12,a13,a14,a15]) fun a16 =>
 Yt a16 fun a17 =>
 ifT a17 (
 Yz (bb false) fun a18 =>
 some [a18]) (
 Yu a6 a14 fun a18 =>
 ifT a18 (
 Yz (bb false) fun a19 =>
 some [a19]) (
 pv (.bb .neq) [a7,a15] fun a19 =>
 ifT a19 (
 Yz (bb false) fun a20 =>
 some [a20]) (
 Yn a5 fun a20 =>
 Yn a13 fun a21 =>
 Yu a20 a21 fun a22 =>
 ifT a22 (
 Yz (bb false) fun a23 =>
 some [a23]) (
 iter (wU_ a5 a13) R [bb false,ii 0]))))
theorem as1_:p_s_SameBody.den (pick [(198,f_s_SameKey)]) R [] [a0,a1,a2,a3,a4,a5,a6,a7,a8,a9,a10,a11,a12,a13,a14,a15]=acb_ R f_s_SameKey a0 a1 a2 a3 a4 a5 a6 a7 a8 a9 a10 a11 a12 a13 a14 a15:=(zc_ (by kernel_rfl)).trans (by kernel_rfl)
theorem aw8_:uk_ [a0,a1,a2,a3,a4,a5,a6,a7,a8,a9,a10,a11,a12,a13,a14,a15]=acb_ rounds wL_ a0 a1 a2 a3 a4 a5 a6 a7 a8 a9 a10 a11 a12 a13 a14 a15:=as1_ rounds wL_ a0 a1 a2 a3 a4 a5 a6 a7 a8 a9 a10 a11 a12 a13 a14 a15
def aa2_:Option (List T) :=
 pv (.bin .mul) [ii 1000,a1] fun a8 =>
 Yl a7 a8 fun a9 =>
 ifT a9 (
 pv (.bin .mul) [ii 1000,a1] fun a10 =>
 Ya a10 (ii 1) fun a11 =>
 Yz a11 fun a12 =>
 some [a12]) (
 Ya a7 (ii 1) fun a10 =>
 Yz a10 fun a11 =>
 some [a11])
theorem az3_:p_s_l08Seq.den (pick []) R [] [a0,a1,a2,a3,a4,a5,a6,a7]=aa2_ a1 a7:=(zc_ (by kernel_rfl)).trans (by kernel_rfl)
theorem aD5_:q1_ [a0,a1,a2,a3,a4,a5,a6,a7]=aa2_ a1 a7:=az3_ rounds a0 a1 a2 a3 a4 a5 a6 a7
def k0_:Option (List T) :=
 Ye a1 (ii 1) fun a8 =>
 ifT a8 (
 pv (.lit 2 []) [] fun a9 =>
 Yz a7 fun a10 =>
 Yz a6 fun a11 =>
 Yz a4 fun a12 =>
 Yz a3 fun a13 =>
 Yz a2 fun a14 =>
 Yz a1 fun a15 =>
 Yz a0 fun a16 =>
 some [a16,a15,a14,a13,a12,a9,a11,a10]) (
 Yz a7 fun a9 =>
 Yz (ii 60000) fun a10 =>
 Yz a4 fun a11 =>
 Yz a3 fun a12 =>
 Yz a2 fun a13 =>
 Yz a1 fun a14 =>
 Yz a0 fun a15 =>
 some [a15,a14,a13,a12,a11,a5,a10,a9])
theorem avb_:p_s_l08Bare.den (pick []) R [] [a0,a1,a2,a3,a4,a5,a6,a7]=k0_ a0 a1 a2 a3 a4 a5 a6 a7:=(zc_ (by kernel_rfl)).trans (by kernel_rfl)
theorem aCm_:u7_ [a0,a1,a2,a3,a4,a5,a6,a7]=k0_ a0 a1 a2 a3 a4 a5 a6 a7:=avb_ rounds a0 a1 a2 a3 a4 a5 a6 a7
def yO_:Option (List T) :=
 (ar2 fun a19 a20 =>
 Yn a15 fun a21 =>
 Yl a20 a21 fun a22 =>
 ifT a22 (
 Yb a15 a20 fun a23 =>
 Yc 8 4 a15 a20 fun a24 =>
 Yg a24 (ii 100000) fun a25 =>
 ifT a25 (
 cl7 (f_s_l08Copy [a0,a1,a2,a3,a4,a5,a6]) fun a26 a27 a28 a29 a30 a31 a32 =>
 pv (.lit 8 []) [] fun a33 =>
 Yz a28 fun a34 =>
 Yz a27 fun a35 =>
 Yz a26 fun a36 =>
 some [a36,a35,a34,a29,a30,a31,a32,a33]) (
 Ya a20 (ii 1) fun a26 =>
 k2 [a19,a26])) (
 cl7 (f_s_l08Copy [a0,a1,a2,a3,a4,a5,a6]) fun a23 a24 a25 a26 a27 a28 a29 =>
 cl1 (f_s_l08With [a6,a15]) fun a30 =>
 cl1 (f_s_l04CopyList [a30]) fun a31 =>
 Yn a31 fun a32 =>
 Yg a32 (ii 150) fun a33 =>
 ifT a33 (
 cl7 (f_s_l08Copy [a0,a1,a2,a3,a4,a5,a6]) fun a34 a35 a36 a37 a38 a39 a40 =>
 pv (.lit 8 []) [] fun a41 =>
 Yz a36 fun a42 =>
 Yz a35 fun a43 =>
 Yz a34 fun a44 =>
 some [a44,a43,a42,a37,a38,a39,a40,a41]) (
 cl1 (f_s_l04CopyList [a15]) fun a34 =>
 Yz a25 fun a35 =>
 Yz a24 fun a36 =>
 Yz a23 fun a37 =>
 some [a37,a36,a35,a26,a27,a28,a31,a34]))) ts
def yN_:Option (List T) :=
 (ar2 fun a15 a16 =>
 Yn a6 fun a17 =>
 Yl a16 a17 fun a18 =>
 ifT a18 (
 Y8 a6 a16 fun a20 a21 a22 a23 a24 a25 a26 a27 =>
 Yu a22 a0 fun a28 =>
 ifT a28 (
 Ya a16 (ii 1) fun a29 =>
 k1 [a15,a29]) (
 cl1 (f_s_l05At [a9,a20,a21,a22,a23,a24,a25,a26,a27]) fun a29 =>
 Yh a29 (ii 0) fun a30 =>
 ifT a30 (
 Ya a16 (ii 1) fun a31 =>
 k1 [a15,a31]) (
 cl8 (f_s_l04Copy [a20,a21,a22,a23,a24,a25,a26,a27]) fun a31 a32 a33 a34 a35 a36 a37 a38 =>
 cl8 (f_s_l08Bare [a31,a32,a33,a34,a35,a36,a37,a38]) fun a39 a40 a41 a42 a43 a44 a45 a46 =>
 cl1 (f_s_SameBody [a39,a40,a41,a42,a43,a44,a45,a46,a20,a21,a22,a23,a24,a25,a26,a27]) fun a47 =>
 ifT a47 (
 Ya a16 (ii 1) fun a48 =>
 k1 [a15,a48]) (
 cl8 (f_s_l04Copy [a20,a21,a22,a23,a24,a25,a26,a27]) fun a48 a49 a50 a51 a52 a53 a54 a55 =>
 cl8 (f_s_l08Bare [a48,a49,a50,a51,a52,a53,a54,a55]) fun a56 a57 a58 a59 a60 a61 a62 a63 =>
 cl1 (f_s_l08Seq [a0,a1,a2,a3,a4,a5,a6,a24]) fun a64 =>
 cl1 (f_s_l05Put [a15,a56,a57,a58,a59,a64,a61,a62,a63]) fun a65 =>
 Ya a16 (ii 1) fun a66 =>
 k1 [a65,a66])))) (
 iter (yO_ f_s_l04CopyList f_s_l08Copy f_s_l08With a0 a1 a2 a3 a4 a5 a6 a15) R [.l [],ii 0])) ts
def yL_:Option (List T) :=
 (ar2 fun a11 a12 =>
 Yn a9 fun a13 =>
 Yl a12 a13 fun a14 =>
 ifT a14 (
 Y8 a9 a12 fun a16 a17 a18 a19 a20 a21 a22 a23 =>
 cl9 (f_s_Find [a6,a16,a17,a18,a19,a20,a21,a22,a23]) fun a24 a25 a26 a27 a28 a29 a30 a31 a32 =>
 ifT a32 (
 Y8 a9 a12 fun a34 a35 a36 a37 a38 a39 a40 a41 =>
 cl1 (f_s_SameBody [a24,a25,a26,a27,a28,a29,a30,a31,a34,a35,a36,a37,a38,a39,a40,a41]) fun a42 =>
 ifT a42 (
 Ya a12 (ii 1) fun a43 =>
 k0 [a11,a43]) (
 Y8 a9 a12 fun a44 a45 a46 a47 a48 a49 a50 a51 =>
 cl1 (f_s_l08Seq [a0,a1,a2,a3,a4,a5,a6,a28]) fun a52 =>
 cl1 (f_s_l05Put [a11,a44,a45,a46,a47,a52,a49,a50,a51]) fun a53 =>
 Ya a12 (ii 1) fun a54 =>
 k0 [a53,a54])) (
 Y8 a9 a12 fun a34 a35 a36 a37 a38 a39 a40 a41 =>
 cl1 (f_s_l08Seq [a0,a1,a2,a3,a4,a5,a6,a28]) fun a42 =>
 cl1 (f_s_l05Put [a11,a34,a35,a36,a37,a42,a39,a40,a41]) fun a43 =>
 Ya a12 (ii 1) fun a44 =>
 k0 [a43,a44])) (
 iter (yN_ R f_s_SameBody f_s_l04Copy f_s_l04CopyList f_s_l05At f_s_l05Put f_s_l08Bare f_s_l08Copy f_s_l08Seq f_s_l08With a0 a1 a2 a3 a4 a5 a6 a9) R [a11,ii 0])) ts
def ad7_:Option (List T) :=
 cl1 (f_s_SelfOk [a0,a1,a2,a3,a4,a5,a6]) fun a7 =>
 Yt a7 fun a8 =>
 ifT a8 (
 cl7 (f_s_l08Copy [a0,a1,a2,a3,a4,a5,a6]) fun a9 a10 a11 a12 a13 a14 a15 =>
 pv (.lit 8 []) [] fun a16 =>
 Yz a11 fun a17 =>
 Yz a10 fun a18 =>
 Yz a9 fun a19 =>
 some [a19,a18,a17,a12,a13,a14,a15,a16]) (
 cl1 (f_s_Wanted [a0,a1,a2,a3,a4,a5,a6]) fun a9 =>
 pv (.lit 8 []) [] fun a10 =>
 iter (yL_ R f_s_Find f_s_SameBody f_s_l04Copy f_s_l04CopyList f_s_l05At f_s_l05Put f_s_l08Bare f_s_l08Copy f_s_l08Seq f_s_l08With a0 a1 a2 a3 a4 a5 a6 a9) R [a10,ii 0])
theorem aG8_:p_s_Renew.den (pick [(99,f_s_SelfOk),(100,f_s_l08Copy),(101,f_s_Wanted),(102,f_s_Find),(103,f_s_SameBody),(104,f_s_l08Seq),(105,f_s_l05Put),(106,f_s_l05At),(107,f_s_l08Bare),(108,f_s_l04Copy),(109,f_s_l04CopyList),(110,f_s_l08With)]) R [] [a0,a1,a2,a3,a4,a5,a6]=ad7_ R f_s_Find f_s_SameBody f_s_SelfOk f_s_Wanted f_s_l04Copy f_s_l04CopyList f_s_l05At f_s_l05Put f_s_l08Bare f_s_l08Copy f_s_l08Seq f_s_l08With a0 a1 a2 a3 a4 a5 a6:=(zc_ (by kernel_rfl)).trans (by kernel_rfl)
theorem asb_:j3_ [a0,a1,a2,a3,a4,a5,a6]=ad7_ rounds kJ_ uk_ xu_ qP_ xX_ yA_ wF_ x6_ u7_ u0_ q1_ wK_ a0 a1 a2 a3 a4 a5 a6:=aG8_ rounds kJ_ uk_ xu_ qP_ xX_ yA_ wF_ x6_ u7_ u0_ q1_ wK_ a0 a1 a2 a3 a4 a5 a6
def k6_:Option (List T) :=
 pv (.app true 4) [.l [],a1] fun a3 =>
 pv (.app true 4) [.l [],a2] fun a4 =>
 Yz a0 fun a5 =>
 some [a5,a3,a4]
theorem awx_:p_i_copyNet.den (pick []) R [] [a0,a1,a2]=k6_ a0 a1 a2:=(zc_ (by kernel_rfl)).trans (by kernel_rfl)
theorem amn_:wu_ [a0,a1,a2]=k6_ a0 a1 a2:=awx_ rounds a0 a1 a2
def acy_:Option (List T) :=
 cl3 (f_i_copyNet [a2,a3,a4]) fun a7 a8 a9 =>
 cl1 (f_i_copyInts [a5]) fun a10 =>
 cl1 (f_i_copyRecords [a6]) fun a11 =>
 Yz a7 fun a12 =>
 Yz a1 fun a13 =>
 Yz a0 fun a14 =>
 some [a14,a13,a12,a8,a9,a10,a11]
theorem atl_:p_i_copySelf.den (pick [(116,f_i_copyRecords),(123,f_i_copyNet),(185,f_i_copyInts)]) R [] [a0,a1,a2,a3,a4,a5,a6]=acy_ f_i_copyInts f_i_copyNet f_i_copyRecords a0 a1 a2 a3 a4 a5 a6:=(zc_ (by kernel_rfl)).trans (by kernel_rfl)
theorem awc_:ui_ [a0,a1,a2,a3,a4,a5,a6]=acy_ zM_ wu_ yU_ a0 a1 a2 a3 a4 a5 a6:=atl_ rounds zM_ wu_ yU_ a0 a1 a2 a3 a4 a5 a6
def agn_:Option (List T) :=
 cl1 (f_i_linkAt [a0,a1,a2,a3,a4,a5]) fun a6 =>
 Yh a6 (ii 0) fun a7 =>
 ifT a7 (
 Yb a1 a6 fun a8 =>
 Yc 4 2 a1 a6 fun a9 =>
 Yz a9 fun a10 =>
 some [a10]) (
 Yz (ii 0) fun a8 =>
 some [a8])
theorem azb_:p_i_CostTo.den (pick [(214,f_i_linkAt)]) R [] [a0,a1,a2,a3,a4,a5]=agn_ f_i_linkAt a0 a1 a2 a3 a4 a5:=(zc_ (by kernel_rfl)).trans (by kernel_rfl)
theorem aF2_:qH_ [a0,a1,a2,a3,a4,a5]=agn_ wd_ a0 a1 a2 a3 a4 a5:=azb_ rounds wd_ a0 a1 a2 a3 a4 a5
def uE_:Option (List T) :=
 (ar2 fun a14 a15 =>
 Yn a5 fun a16 =>
 Yl a14 a16 fun a17 =>
 ifT a17 (
 Ya a14 (ii 1) fun a18 =>
 Y1 a5 a18 fun a20 =>
 Ye a20 a13 fun a21 =>
 jn (ar1 fun a22 =>
 Ya a14 (ii 2) fun a23 =>
 k1 [a23,a22]) fun k2 =>
 ifT a21 (
 Y1 a5 a14 fun a23 =>
 Y1 a5 a14 fun a25 =>
 cl1 (f_i_CostTo [a2,a3,a4,a0,a25,a13]) fun a26 =>
 pv (.lit 2 [true,true]) [a23,a26] fun a27 =>
 pv (.app true 2) [a15,a27] fun a28 =>
 k2 [a28]) (
 k2 [a15])) (
 pv (.lit 8 [true,true,true,true,true,false,true,true]) [a13,ii 1,a0,ii 0,ii 0,a15,ii 0,bb false] fun a18 =>
 Yy a9 a18 fun a19 =>
 Ya a10 (ii 1) fun a20 =>
 k0 [a19,a20])) ts
def uC_:Option (List T) :=
 (ar2 fun a9 a10 =>
 Yl a10 a8 fun a11 =>
 ifT a11 (
 Yq a7 a10 fun a13 =>
 iter (uE_ f_i_CostTo a0 a2 a3 a4 a5 a9 a10 a13 k0) R [ii 0,.l []]) (
 some [a9])) ts
def aro_:Option (List T) :=
 cl1 (f_i_AreasOf [a2,a3,a4,a0]) fun a7 =>
 Yn a7 fun a8 =>
 iter (uC_ R f_i_CostTo a0 a2 a3 a4 a5 a7 a8) R [.l [],ii 0]
theorem aN6_:p_i_own.den (pick [(84,f_i_AreasOf),(292,f_i_CostTo)]) R [] [a0,a1,a2,a3,a4,a5,a6]=aro_ R f_i_AreasOf f_i_CostTo a0 a2 a3 a4 a5:=(zc_ (by kernel_rfl)).trans (by kernel_rfl)
theorem aQn_:abt_ [a0,a1,a2,a3,a4,a5,a6]=aro_ rounds y9_ qH_ a0 a2 a3 a4 a5:=aN6_ rounds y9_ qH_ a0 a1 a2 a3 a4 a5 a6
def jS_:Option (List T) :=
 (ar2 fun a8 a9 =>
 Yl a9 a7 fun a10 =>
 ifT a10 (
 Y8 a2 a9 fun a12 a13 a14 a15 a16 a17 a18 a19 =>
 cl1 (f_i_put [a8,a12,a13,a14,a15,ii 1,a17,a18,a19]) fun a20 =>
 Ya a9 (ii 1) fun a21 =>
 k1 [a20,a21]) (
 some [a8])) ts
def jN_:Option (List T) :=
 (ar2 fun a4 a5 =>
 Yl a5 a3 fun a6 =>
 ifT a6 (
 Y8 a0 a5 fun a8 a9 a10 a11 a12 a13 a14 a15 =>
 Yu a9 (ii 1) fun a16 =>
 ifT a16 (
 jn (ar1 fun a17 =>
 Ya a5 (ii 1) fun a18 =>
 k0 [a17,a18]) fun k1 =>
 pv (.lit 8 []) [a8,a9,a10,a11,a12,a13,a14,a15] fun a17 =>
 Yy a4 a17 fun a18 =>
 k1 [a18]) (
 Yu a10 a1 fun a17 =>
 jn (ar1 fun a18 =>
 Ya a5 (ii 1) fun a19 =>
 k0 [a18,a19]) fun k1 =>
 ifT a17 (
 pv (.lit 8 []) [a8,a9,a10,a11,a12,a13,a14,a15] fun a18 =>
 Yy a4 a18 fun a19 =>
 k1 [a19]) (
 k1 [a4]))) (
 Yn a2 fun a7 =>
 iter (jS_ f_i_put a2 a7) R [a4,ii 0])) ts
def ayf_:Option (List T) :=
 Yn a0 fun a3 =>
 iter (jN_ R f_i_put a0 a1 a2 a3) R [.l [],ii 0]
theorem aPd_:p_i_by.den (pick [(117,f_i_put)]) R [] [a0,a1,a2]=ayf_ R f_i_put a0 a1 a2:=(zc_ (by kernel_rfl)).trans (by kernel_rfl)
theorem aRx_:afc_ [a0,a1,a2]=ayf_ rounds x3_ a0 a1 a2:=aPd_ rounds x3_ a0 a1 a2
def xi_:Option (List T) :=
 (ar3 fun a26 a27 a28 =>
 Yl a27 a25 fun a29 =>
 ifT a29 (
 Y8 a28 a27 fun a31 a32 a33 a34 a35 a36 a37 a38 =>
 cl1 (f_i_put [a26,a31,a32,a33,a34,a35,a36,a37,a38]) fun a39 =>
 Ya a27 (ii 1) fun a40 =>
 k3 [a39,a40,a28]) (
 Ya a20 (ii 1) fun a30 =>
 k2 [a26,a30])) ts
def xk_:Option (List T) :=
 (ar2 fun a19 a20 =>
 Yl a20 a18 fun a21 =>
 ifT a21 (
 Yq a15 a20 fun a23 =>
 cl1 (f_i_Beyond [a17,a15,a0,a23]) fun a24 =>
 Yn a24 fun a25 =>
 iter (xi_ f_i_put a20 a25 k2) R [a19,ii 0,a24]) (
 k1 [a19,a13,a13,a13])) ts
def y4_:Option (List T) :=
 (ar2 fun a22 a23 =>
 Yl a23 a21 fun a24 =>
 ifT a24 (
 Y4 a4 a23 fun a26 a27 a28 a29 =>
 Ye a26 a0 fun a30 =>
 jn (ar1 fun a31 =>
 Ya a23 (ii 1) fun a32 =>
 k1 [a31,a32]) fun k2 =>
 ifT a30 (
 cl1 (f_i_put [a22,ii 9,ii 3,a0,a27,ii 0,.l [],a28,a29]) fun a31 =>
 k2 [a31]) (
 k2 [a22])) (
 some [a22])) ts
def xj_:Option (List T) :=
 (ar3 fun a11 a12 a13 =>
 Yl a12 a10 fun a14 =>
 ifT a14 (
 Y8 a13 a12 fun a16 a17 a18 a19 a20 a21 a22 a23 =>
 cl1 (f_i_put [a11,a16,a17,a18,a19,a20,a21,a22,a23]) fun a24 =>
 Ya a12 (ii 1) fun a25 =>
 k0 [a24,a25,a13]) (
 cl1 (f_i_AreasOf [a2,a3,a4,a0]) fun a15 =>
 cl1 (f_i_Border [a2,a3,a4,a0]) fun a16 =>
 jn (ar4 fun a17 a18 a19 a20 =>
 Yn a4 fun a21 =>
 iter (y4_ f_i_put a0 a4 a21) R [a17,ii 0]) fun k1 =>
 ifT a16 (
 cl1 (f_i_by [a6,a0,a13]) fun a17 =>
 Yn a15 fun a18 =>
 iter (xk_ R f_i_Beyond f_i_put a0 a13 a15 a17 a18 k1) R [a11,ii 0]) (
 k1 [a11,a13,a13,a13]))) ts
def ag9_:Option (List T) :=
 cl1 (f_i_SelfOk [a0,a1,a2,a3,a4,a5,a6]) fun a7 =>
 Yt a7 fun a8 =>
 ifT a8 (
 some [.l []]) (
 cl1 (f_i_own [a0,a1,a2,a3,a4,a5,a6]) fun a9 =>
 Yn a9 fun a10 =>
 iter (xj_ R f_i_AreasOf f_i_Beyond f_i_Border f_i_by f_i_put a0 a2 a3 a4 a6 a10) R [.l [],ii 0,a9])
theorem aCb_:p_i_Wanted.den (pick [(84,f_i_AreasOf),(85,f_i_Border),(114,f_i_SelfOk),(117,f_i_put),(253,f_i_Beyond),(261,f_i_own),(262,f_i_by)]) R [] [a0,a1,a2,a3,a4,a5,a6]=ag9_ R f_i_AreasOf f_i_Beyond f_i_Border f_i_SelfOk f_i_by f_i_own f_i_put a0 a1 a2 a3 a4 a5 a6:=(zc_ (by kernel_rfl)).trans (by kernel_rfl)
theorem aFv_:uz_ [a0,a1,a2,a3,a4,a5,a6]=ag9_ rounds y9_ q2_ va_ xt_ afc_ abt_ x3_ a0 a1 a2 a3 a4 a5 a6:=aCb_ rounds y9_ q2_ va_ xt_ afc_ abt_ x3_ a0 a1 a2 a3 a4 a5 a6
def wX_:Option (List T) :=
 (ar2 fun a24 a25 =>
 Yl a25 a23 fun a26 =>
 ifT a26 (
 Y2 a5 a25 fun a28 a29 =>
 Y2 a13 a25 fun a31 a32 =>
 pv (.eqs [1,1]) [a28,a29,a31,a32] fun a33 =>
 Yt a33 fun a34 =>
 ifT a34 (
 Yz (bb false) fun a35 =>
 some [a35]) (
 Ya a25 (ii 1) fun a35 =>
 k0 [a24,a35])) (
 Yz (bb true) fun a27 =>
 some [a27])) ts
def ach_:Option (List T) :=
 cl1 (f_i_SameKey [a0,a1,a2,a3,a4,a5,a6,a7,a8,a9,a10,a11,a12,a13,a14,a15]) fun a16 =>
 Yt a16 fun a17 =>
 ifT a17 (
 Yz (bb false) fun a18 =>
 some [a18]) (
 Yu a6 a14 fun a18 =>
 ifT a18 (
 Yz (bb false) fun a19 =>
 some [a19]) (
 pv (.bb .neq) [a7,a15] fun a19 =>
 ifT a19 (
 Yz (bb false) fun a20 =>
 some [a20]) (
 Yn a5 fun a20 =>
 Yn a13 fun a21 =>
 Yu a20 a21 fun a22 =>
 ifT a22 (
 Yz (bb false) fun a23 =>
 some [a23]) (
 Yn a5 fun a23 =>
 iter (wX_ a5 a13 a23) R [bb false,ii 0]))))
theorem atp_:p_i_SameBody.den (pick [(210,f_i_SameKey)]) R [] [a0,a1,a2,a3,a4,a5,a6,a7,a8,a9,a10,a11,a12,a13,a14,a15]=ach_ R f_i_SameKey a0 a1 a2 a3 a4 a5 a6 a7 a8 a9 a10 a11 a12 a13 a14 a15:=(zc_ (by kernel_rfl)).trans (by kernel_rfl)
theorem au5_:us_ [a0,a1,a2,a3,a4,a5,a6,a7,a8,a9,a10,a11,a12,a13,a14,a15]=ach_ rounds xY_ a0 a1 a2 a3 a4 a5 a6 a7 a8 a9 a10 a11 a12 a13 a14 a15:=atp_ rounds xY_ a0 a1 a2 a3 a4 a5 a6 a7 a8 a9 a10 a11 a12 a13 a14 a15
def aec_:Option (List T) :=
 cl1 (f_i_keyAt [a6,a7,a8,a9,a10,a11,a12,a13,a14]) fun a15 =>
 Yh a15 (ii 0) fun a16 =>
 jn (ar1 fun a17 =>
 Ya a17 (ii 1) fun a18 =>
 pv (.bin .mul) [ii 1000,a1] fun a19 =>
 Ya a19 (ii 1) fun a20 =>
 pv (.mx) [a18,a20] fun a21 =>
 Yz a21 fun a22 =>
 some [a22]) fun k0 =>
 ifT a16 (
 Yb a6 a15 fun a17 =>
 Yc 8 4 a6 a15 fun a18 =>
 k0 [a18]) (
 k0 [ii 0])
theorem aFo_:p_i_seqOf.den (pick [(204,f_i_keyAt)]) R [] [a0,a1,a2,a3,a4,a5,a6,a7,a8,a9,a10,a11,a12,a13,a14]=aec_ f_i_keyAt a1 a6 a7 a8 a9 a10 a11 a12 a13 a14:=(zc_ (by kernel_rfl)).trans (by kernel_rfl)
theorem aH7_:j6_ [a0,a1,a2,a3,a4,a5,a6,a7,a8,a9,a10,a11,a12,a13,a14]=aec_ xe_ a1 a6 a7 a8 a9 a10 a11 a12 a13 a14:=aFo_ rounds xe_ a0 a1 a2 a3 a4 a5 a6 a7 a8 a9 a10 a11 a12 a13 a14
def ahr_:Option (List T) :=
 Yu a1 (ii 1) fun a8 =>
 jn (ar1 fun a9 =>
 Yz a7 fun a10 =>
 Yz a9 fun a11 =>
 Yz a4 fun a12 =>
 Yz a3 fun a13 =>
 Yz a2 fun a14 =>
 Yz a1 fun a15 =>
 Yz a0 fun a16 =>
 some [a16,a15,a14,a13,a12,.l [],a11,a10]) fun k0 =>
 ifT a8 (
 k0 [ii 60000]) (
 k0 [a6])
theorem aIh_:p_i_gone.den (pick []) R [] [a0,a1,a2,a3,a4,a5,a6,a7]=ahr_ a0 a1 a2 a3 a4 a6 a7:=(zc_ (by kernel_rfl)).trans (by kernel_rfl)
theorem aMq_:kT_ [a0,a1,a2,a3,a4,a5,a6,a7]=ahr_ a0 a1 a2 a3 a4 a6 a7:=aIh_ rounds a0 a1 a2 a3 a4 a5 a6 a7
def xQ_:Option (List T) :=
 (ar2 fun a14 a15 =>
 Yl a15 a13 fun a16 =>
 ifT a16 (
 Y8 a6 a15 fun a18 a19 a20 a21 a22 a23 a24 a25 =>
 Yu a20 a0 fun a26 =>
 ifT a26 (
 Ya a15 (ii 1) fun a27 =>
 k1 [a14,a27]) (
 cl1 (f_i_keyAt [a11,a18,a19,a20,a21,a22,a23,a24,a25]) fun a27 =>
 Yh a27 (ii 0) fun a28 =>
 ifT a28 (
 Ya a15 (ii 1) fun a29 =>
 k1 [a14,a29]) (
 cl8 (f_i_gone [a18,a19,a20,a21,a22,a23,a24,a25]) fun a29 a30 a31 a32 a33 a34 a35 a36 =>
 cl1 (f_i_SameBody [a29,a30,a31,a32,a33,a34,a35,a36,a18,a19,a20,a21,a22,a23,a24,a25]) fun a37 =>
 Yt a37 fun a38 =>
 jn (ar2 fun a39 a40 =>
 Ya a15 (ii 1) fun a41 =>
 k1 [a39,a41]) fun k2 =>
 ifT a38 (
 cl1 (f_i_seqOf [a0,a1,a2,a3,a4,a5,a6,a18,a19,a20,a21,a22,a23,a24,a25]) fun a39 =>
 cl1 (f_i_put [a14,a29,a30,a31,a32,a39,a34,a35,a36]) fun a40 =>
 k2 [a40,a39]) (
 k2 [a14,a33])))) (
 some [a14])) ts
def xT_:Option (List T) :=
 (ar3 fun a9 a10 a11 =>
 Yl a10 a8 fun a12 =>
 ifT a12 (
 Y8 a11 a10 fun a14 a15 a16 a17 a18 a19 a20 a21 =>
 cl1 (f_i_keyAt [a6,a14,a15,a16,a17,a18,a19,a20,a21]) fun a22 =>
 Yl a22 (ii 0) fun a23 =>
 ifT a23 (
 jn (ar2 fun a24 a25 =>
 Ya a10 (ii 1) fun a26 =>
 k0 [a24,a26,a11]) fun k1 =>
 cl1 (f_i_seqOf [a0,a1,a2,a3,a4,a5,a6,a14,a15,a16,a17,a18,a19,a20,a21]) fun a24 =>
 cl1 (f_i_put [a9,a14,a15,a16,a17,a24,a19,a20,a21]) fun a25 =>
 k1 [a25,a24]) (
 Y8 a6 a22 fun a25 a26 a27 a28 a29 a30 a31 a32 =>
 cl1 (f_i_SameBody [a25,a26,a27,a28,a29,a30,a31,a32,a14,a15,a16,a17,a18,a19,a20,a21]) fun a33 =>
 Yt a33 fun a34 =>
 jn (ar2 fun a35 a36 =>
 Ya a10 (ii 1) fun a37 =>
 k0 [a35,a37,a11]) fun k1 =>
 ifT a34 (
 cl1 (f_i_seqOf [a0,a1,a2,a3,a4,a5,a6,a14,a15,a16,a17,a18,a19,a20,a21]) fun a35 =>
 cl1 (f_i_put [a9,a14,a15,a16,a17,a35,a19,a20,a21]) fun a36 =>
 k1 [a36,a35]) (
 k1 [a9,a18]))) (
 Yn a6 fun a13 =>
 iter (xQ_ f_i_SameBody f_i_gone f_i_keyAt f_i_put f_i_seqOf a0 a1 a2 a3 a4 a5 a6 a11 a13) R [a9,ii 0])) ts
def akp_:Option (List T) :=
 cl1 (f_i_Wanted [a0,a1,a2,a3,a4,a5,a6]) fun a7 =>
 Yn a7 fun a8 =>
 iter (xT_ R f_i_SameBody f_i_gone f_i_keyAt f_i_put f_i_seqOf a0 a1 a2 a3 a4 a5 a6 a8) R [.l [],ii 0,a7]
theorem aD9_:p_i_fresh.den (pick [(117,f_i_put),(203,f_i_Wanted),(204,f_i_keyAt),(205,f_i_SameBody),(206,f_i_seqOf),(207,f_i_gone)]) R [] [a0,a1,a2,a3,a4,a5,a6]=akp_ R f_i_SameBody f_i_Wanted f_i_gone f_i_keyAt f_i_put f_i_seqOf a0 a1 a2 a3 a4 a5 a6:=(zc_ (by kernel_rfl)).trans (by kernel_rfl)
theorem aKv_:jY_ [a0,a1,a2,a3,a4,a5,a6]=akp_ rounds us_ uz_ kT_ xe_ x3_ j6_ a0 a1 a2 a3 a4 a5 a6:=aD9_ rounds us_ uz_ kT_ xe_ x3_ j6_ a0 a1 a2 a3 a4 a5 a6
def vx_:Option (List T) :=
 (ar3 fun a19 a20 a21 =>
 Yl a21 a18 fun a22 =>
 ifT a22 (
 Yb a16 a21 fun a23 =>
 pv (.scell 8 0) [a16,a21] fun a24 =>
 pv (.scell 8 1) [a16,a21] fun a25 =>
 pv (.scell 8 2) [a16,a21] fun a26 =>
 pv (.scell 8 3) [a16,a21] fun a27 =>
 pv (.scell 8 4) [a16,a21] fun a28 =>
 pv (.dig 8 5) [a16,a21] fun a29 =>
 pv (.scell 8 6) [a16,a21] fun a30 =>
 pv (.scell 8 7) [a16,a21] fun a31 =>
 Yg a28 (ii 100000) fun a32 =>
 ifT a32 (
 Yz a9 fun a33 =>
 Yz a8 fun a34 =>
 Yz a7 fun a35 =>
 some [a35,a34,a33,a10,a11,a12,a13,.l []]) (
 pv (.dig 8 5) [a16,a21] fun a33 =>
 cl1 (f_i_put [a20,a24,a25,a26,a27,a28,a33,a30,a31]) fun a34 =>
 Ya a21 (ii 1) fun a35 =>
 k0 [a19,a34,a35])) (
 Yn a20 fun a23 =>
 Yg a23 (ii 150) fun a24 =>
 ifT a24 (
 Yz a9 fun a25 =>
 Yz a8 fun a26 =>
 Yz a7 fun a27 =>
 some [a27,a26,a25,a10,a11,a12,a13,.l []]) (
 Yz a9 fun a25 =>
 Yz a8 fun a26 =>
 Yz a7 fun a27 =>
 some [a27,a26,a25,a10,a11,a12,a20,a16]))) ts
def adr_:Option (List T) :=
 cl7 (f_i_copySelf [a0,a1,a2,a3,a4,a5,a6]) fun a7 a8 a9 a10 a11 a12 a13 =>
 cl1 (f_i_SelfOk [a0,a1,a2,a3,a4,a5,a6]) fun a14 =>
 Yt a14 fun a15 =>
 ifT a15 (
 Yz a9 fun a16 =>
 Yz a8 fun a17 =>
 Yz a7 fun a18 =>
 some [a18,a17,a16,a10,a11,a12,a13,.l []]) (
 cl1 (f_i_fresh [a0,a1,a2,a3,a4,a5,a6]) fun a16 =>
 cl1 (f_i_copyRecords [a6]) fun a17 =>
 Yn a16 fun a18 =>
 iter (vx_ f_i_put a7 a8 a9 a10 a11 a12 a13 a16 a18) R [.l [],a17,ii 0])
theorem aG0_:p_i_Renew.den (pick [(113,f_i_copySelf),(114,f_i_SelfOk),(115,f_i_fresh),(116,f_i_copyRecords),(117,f_i_put)]) R [] [a0,a1,a2,a3,a4,a5,a6]=adr_ R f_i_SelfOk f_i_copyRecords f_i_copySelf f_i_fresh f_i_put a0 a1 a2 a3 a4 a5 a6:=(zc_ (by kernel_rfl)).trans (by kernel_rfl)
theorem asq_:jV_ [a0,a1,a2,a3,a4,a5,a6]=adr_ rounds xt_ yU_ ui_ jY_ x3_ a0 a1 a2 a3 a4 a5 a6:=aG0_ rounds xt_ yU_ ui_ jY_ x3_ a0 a1 a2 a3 a4 a5 a6
def wm_:Option (List T) :=
 (ar2 fun a10 a11 =>
 Ym a10 (ii 2) fun a12 =>
 ifT a12 (
 cl1 (f_s_CostTo [a0,a1,a2,a3,a7,a10]) fun a13 =>
 Yg a13 (ii 0) fun a14 =>
 jn (ar1 fun a15 =>
 Ya a10 (ii 1) fun a16 =>
 k1 [a16,a15]) fun k2 =>
 ifT a14 (
 pv (.lit 4 [true,true,true,true]) [a7,a10,ii 0,bb false] fun a15 =>
 pv (.app true 4) [a11,a15] fun a16 =>
 k2 [a16]) (
 k2 [a11])) (
 Ya a7 (ii 1) fun a13 =>
 k0 [a13,a11])) ts
def wj_:Option (List T) :=
 (ar2 fun a7 a8 =>
 Ym a7 a0 fun a9 =>
 ifT a9 (
 iter (wm_ f_s_CostTo a0 a1 a2 a3 a7 k0) R [ii 0,a8]) (
 cl8 (f_s_Renew [a3,a4,a0,a1,a2,.l [],.l []]) fun a10 a11 a12 a13 a14 a15 a16 a17 =>
 Yz (bb true) fun a18 =>
 Yz a12 fun a19 =>
 Yz a11 fun a20 =>
 Yz a10 fun a21 =>
 some [a21,a20,a19,a13,a14,a15,a16,a8,a18])) ts
def k8_:Option (List T) :=
 cl1 (f_s_SelfOk [a3,a4,a0,a1,a2,.l [],.l []]) fun a5 =>
 Yt a5 fun a6 =>
 ifT a6 (
 Yz (bb false) fun a7 =>
 Yz (ii 0) fun a8 =>
 Yz (ii 0) fun a9 =>
 Yz (ii 0) fun a10 =>
 some [a10,a9,a8,.l [],.l [],.l [],.l [],.l [],a7]) (
 iter (wj_ R f_s_CostTo f_s_Renew a0 a1 a2 a3 a4) R [ii 1,.l []])
theorem ay5_:p_s_NodeNew.den (pick [(31,f_s_Renew),(99,f_s_SelfOk),(122,f_s_CostTo)]) R [] [a0,a1,a2,a3,a4]=k8_ R f_s_CostTo f_s_Renew f_s_SelfOk a0 a1 a2 a3 a4:=(zc_ (by kernel_rfl)).trans (by kernel_rfl)
theorem amo_:jr_ [a0,a1,a2,a3,a4]=k8_ rounds yZ_ j3_ xu_ a0 a1 a2 a3 a4:=ay5_ rounds yZ_ j3_ xu_ a0 a1 a2 a3 a4
def k1_:Option (List T) :=
 cl3 (f_i_copyNet [a0,a1,a2]) fun a5 a6 a7 =>
 cl1 (f_i_SelfOk [a3,a4,a5,a6,a7,.l [],.l []]) fun a8 =>
 Yt a8 fun a9 =>
 ifT a9 (
 Yz (bb false) fun a10 =>
 Yz (ii 0) fun a11 =>
 Yz (ii 0) fun a12 =>
 Yz (ii 0) fun a13 =>
 some [a13,a12,a11,.l [],.l [],.l [],.l [],.l [],a10]) (
 cl8 (f_i_Renew [a3,a4,a5,a6,a7,.l [],.l []]) fun a10 a11 a12 a13 a14 a15 a16 a17 =>
 cl1 (f_i_earsOf [a0,a1,a2,a3]) fun a18 =>
 Yz (bb true) fun a19 =>
 Yz a12 fun a20 =>
 Yz a11 fun a21 =>
 Yz a10 fun a22 =>
 some [a22,a21,a20,a13,a14,a15,a16,a18,a19])
theorem avf_:p_i_NodeNew.den (pick [(33,f_i_Renew),(114,f_i_SelfOk),(123,f_i_copyNet),(124,f_i_earsOf)]) R [] [a0,a1,a2,a3,a4]=k1_ f_i_Renew f_i_SelfOk f_i_copyNet f_i_earsOf a0 a1 a2 a3 a4:=(zc_ (by kernel_rfl)).trans (by kernel_rfl)
theorem amp_:jh_ [a0,a1,a2,a3,a4]=k1_ jV_ xt_ wu_ vc_ a0 a1 a2 a3 a4:=avf_ rounds jV_ xt_ wu_ vc_ a0 a1 a2 a3 a4
end
end Go.Proofs.YtiebbbmibbkpcaaGreatC
