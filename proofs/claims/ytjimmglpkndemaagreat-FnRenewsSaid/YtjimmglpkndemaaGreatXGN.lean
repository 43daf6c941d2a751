/- The plain programs as native functions (printed by a program). Conditions: none. -/
import Derived.Test.YtjimmglpkndemaaGreatXPN
import Derived.Test.YtjimmglpkndemaaGreatKe
namespace Go.Proofs.YtjimmglpkndemaaGreatC
set_option linter.unusedVariables false
section
variable (R:Nat) (f_FnRenews f_big f_i_AreasOf f_i_Before f_i_Beyond f_i_Border f_i_CostTo f_i_LinkOk f_i_Linked f_i_NetOk f_i_RecordOk f_i_Renew f_i_RoutesBeyond f_i_RoutesWithin f_i_SameBody f_i_SameKey f_i_SelfOk f_i_StoreOk f_i_Together f_i_Wanted f_i_WayTo f_i_WaysIn f_i_ahead f_i_by f_i_copyInts f_i_copyNet f_i_copyRecord f_i_copyRecords f_i_copySelf f_i_copyWay f_i_fresh f_i_gone f_i_hasInt f_i_heardOk f_i_in f_i_keyAt f_i_less f_i_linkAt f_i_nearOk f_i_own f_i_put f_i_seqOf f_i_told f_newest f_s_AreasOf f_s_Before f_s_Better f_s_Beyond f_s_Border f_s_CostTo f_s_DrawRightSelf f_s_Find f_s_Ideal f_s_LinkOk f_s_NetOk f_s_NextTo f_s_RecordOk f_s_Renew f_s_RoutesBeyond f_s_RoutesWithin f_s_SameBody f_s_SameKey f_s_SelfOk f_s_StoreOk f_s_Together f_s_Wanted f_s_WayTo f_s_WaysIn f_s_l01Below f_s_l01Byte f_s_l01In f_s_l01Once f_s_l01PickInt f_s_l03Ahead f_s_l03In f_s_l03Net f_s_l03Put f_s_l03PutThing f_s_l03Thing f_s_l04Copy f_s_l04CopyList f_s_l04Near f_s_l04Record f_s_l05At f_s_l05Install f_s_l05Put f_s_l05Store f_s_l06Add f_s_l06Copy f_s_l06Links f_s_l06Node f_s_l06Tells f_s_l07Beyond f_s_l08Bare f_s_l08Copy f_s_l08Heard f_s_l08Node f_s_l08Self f_s_l08Seq f_s_l08With f_s_l13Beyond f_s_l13Open f_same f_sameStore:Sem1)
variable (a0 a1 a2 a3 a4 a5 a6 a7 a8 a9 a10 a11 a12 a13 a14 a15 a16 a17 a18 a19 a20 a21 a22 a23 a24 a25 a26 a27 a28 a29 a30 a31 a32 a33 a34 a35 a36 a37 a38 a39 a40 a41 a42 a43 a44 a45 a46 a47 a48 a49 a50 a51 a52 a53 a54 a55 a56 a57 a58 a59 a60 a61 a62 a63 a64 a65 a66 a67 a68 a69 a70 a71 a72 a73 a74 a75 a76 a77 a78 a79 a80 a81 a82 a83 a84 a85 a86 a87 a88 a89 a90 a91 a92 a93 a94 a95 a96 a97 a98 a99 a100 a101 a102 a103 a104 a105 a106 a107 a108 a109 a110 a111 a112 a113 a114 a115 a116 a117 a118 a119 a120 a121 a122 a123 a124 a125 a126 a127 a128 a129 a130 a131 a132 a133 a134 a135 a136 a137 a138 a139 a140 a141 a142 a143 a144 a145 a146 a147 a148 a149:T) (k0 k1 k2 k3 k4 k5 k6 k7 k8 k9 k10 k11 k12 k13 k14 k15 k16 k17 k18 k19:Sem1) (ts:List T)
def aEp_:Option (List T) :=
 Yn a0 fun a1 =>
 Yg a1 (ii 1048576) fun a2 =>
 Yz a2 fun a3 =>
 some [a3]
theorem aO3_:p_big.den (pick []) R [] [a0]=aEp_ a0:=(zc_ (by kernel_rfl)).trans (by kernel_rfl)
theorem aPh_:aky_ [a0]=aEp_ a0:=aO3_ rounds a0
def kK_:Option (List T) :=
 pv (.bin .mul) [a2,ii 6364136223846793005] fun a3 =>
 Ya a3 (ii 1442695040888963407) fun a4 =>
 pv (.bin .shr) [a4,.c (.int .u64 33)] fun a5 =>
 pv (.bin .shr) [a4,.c (.int .u64 45)] fun a6 =>
 pv (.bin .xor) [a5,a6] fun a7 =>
 pv (.bin .and) [a7,ii 255] fun a8 =>
 Yn a0 fun a9 =>
 Yl a1 a9 fun a10 =>
 jn (ar2 fun a11 a12 =>
 Yz a12 fun a13 =>
 some [a13,a0,a11,a4]) fun k0 =>
 ifT a10 (
 Y1 a0 a1 fun a12 =>
 pv (.cnv .i64) [a12] fun a13 =>
 Ya a8 a13 fun a14 =>
 pv (.bin .and) [a14,ii 255] fun a15 =>
 Ya a1 (ii 1) fun a16 =>
 k0 [a16,a15]) (
 k0 [a1,a8])
theorem auh_:p_s_l01Byte.den (pick []) R [] [a0,a1,a2]=kK_ a0 a1 a2:=(zc_ (by kernel_rfl)).trans (by kernel_rfl)
theorem aAr_:u8_ [a0,a1,a2]=kK_ a0 a1 a2:=auh_ rounds a0 a1 a2
def kl_:Option (List T) :=
 Ym a3 (ii 0) fun a4 =>
 ifT a4 (
 Yz (ii 0) fun a5 =>
 some [a5,a0,a1,a2]) (
 Ym a3 (ii 256) fun a5 =>
 ifT a5 (
 cl4 (f_s_l01Byte [a0,a1,a2]) fun a6 a7 a8 a9 =>
 pv (.bin .rem) [a6,a3] fun a10 =>
 Yz a10 fun a11 =>
 some [a11,a7,a8,a9]) (
 cl4 (f_s_l01Byte [a0,a1,a2]) fun a6 a7 a8 a9 =>
 cl4 (f_s_l01Byte [a7,a8,a9]) fun a10 a11 a12 a13 =>
 cl4 (f_s_l01Byte [a11,a12,a13]) fun a14 a15 a16 a17 =>
 cl4 (f_s_l01Byte [a15,a16,a17]) fun a18 a19 a20 a21 =>
 pv (.bin .mul) [a6,ii 16777216] fun a22 =>
 pv (.bin .mul) [a10,ii 65536] fun a23 =>
 Ya a22 a23 fun a24 =>
 pv (.bin .mul) [a14,ii 256] fun a25 =>
 Ya a24 a25 fun a26 =>
 Ya a26 a18 fun a27 =>
 pv (.bin .rem) [a27,a3] fun a28 =>
 Yz a28 fun a29 =>
 some [a29,a19,a20,a21]))
theorem asn_:p_s_l01Below.den (pick [(215,f_s_l01Byte)]) R [] [a0,a1,a2,a3]=kl_ f_s_l01Byte a0 a1 a2 a3:=(zc_ (by kernel_rfl)).trans (by kernel_rfl)
theorem atm_:zR_ [a0,a1,a2,a3]=kl_ u8_ a0 a1 a2 a3:=asn_ rounds u8_ a0 a1 a2 a3
def kw_:Option (List T) :=
 Yn a3 fun a4 =>
 cl4 (f_s_l01Below [a0,a1,a2,a4]) fun a5 a6 a7 a8 =>
 Y1 a3 a5 fun a10 =>
 Yz a10 fun a11 =>
 some [a11,a6,a7,a8]
theorem an1_:p_s_l01PickInt.den (pick [(149,f_s_l01Below)]) R [] [a0,a1,a2,a3]=kw_ f_s_l01Below a0 a1 a2 a3:=(zc_ (by kernel_rfl)).trans (by kernel_rfl)
theorem apv_:x4_ [a0,a1,a2,a3]=kw_ zR_ a0 a1 a2 a3:=an1_ rounds zR_ a0 a1 a2 a3
def abk_:Option (List T) :=
 Yl a0 a4 fun a8 =>
 ifT a8 (
 Yz (bb true) fun a9 =>
 some [a9]) (
 Ye a0 a4 fun a9 =>
 ifT a9 (
 Yl a1 a5 fun a10 =>
 ifT a10 (
 Yz (bb true) fun a11 =>
 some [a11]) (
 Ye a1 a5 fun a11 =>
 ifT a11 (
 Yl a3 a7 fun a12 =>
 Yz a12 fun a13 =>
 some [a13]) (
 Yz (bb false) fun a12 =>
 some [a12]))) (
 Yz (bb false) fun a10 =>
 some [a10]))
theorem ask_:p_s_l03Ahead.den (pick []) R [] [a0,a1,a2,a3,a4,a5,a6,a7]=abk_ a0 a1 a3 a4 a5 a7:=(zc_ (by kernel_rfl)).trans (by kernel_rfl)
theorem axh_:wq_ [a0,a1,a2,a3,a4,a5,a6,a7]=abk_ a0 a1 a3 a4 a5 a7:=ask_ rounds a0 a1 a2 a3 a4 a5 a6 a7
def wH_:Option (List T) :=
 (ar2 fun a12 a13 =>
 Yn a0 fun a14 =>
 Yl a13 a14 fun a15 =>
 ifT a15 (
 Y4 a0 a13 fun a17 a18 a19 a20 =>
 cl1 (f_s_l03Ahead [a1,a2,a3,a4,a17,a18,a19,a20]) fun a21 =>
 jn (ar1 fun a22 =>
 Ya a13 (ii 1) fun a23 =>
 k1 [a22,a23]) fun k2 =>
 ifT a21 (
 Y4 a0 a13 fun a23 a24 a25 a26 =>
 pv (.lit 4 [true,true,true,true]) [a23,a24,a25,a26] fun a27 =>
 pv (.app true 4) [a12,a27] fun a28 =>
 k2 [a28]) (
 k2 [a12])) (
 some [a12])) ts
def wI_:Option (List T) :=
 (ar2 fun a6 a7 =>
 Yn a0 fun a8 =>
 Yl a7 a8 fun a9 =>
 ifT a9 (
 Y4 a0 a7 fun a11 a12 a13 a14 =>
 cl1 (f_s_l03Ahead [a11,a12,a13,a14,a1,a2,a3,a4]) fun a15 =>
 jn (ar1 fun a16 =>
 Ya a7 (ii 1) fun a17 =>
 k0 [a16,a17]) fun k1 =>
 ifT a15 (
 Y4 a0 a7 fun a17 a18 a19 a20 =>
 pv (.lit 4 [true,true,true,true]) [a17,a18,a19,a20] fun a21 =>
 pv (.app true 4) [a6,a21] fun a22 =>
 k1 [a22]) (
 k1 [a6])) (
 pv (.lit 4 [true,true,true,true]) [a1,a2,a3,a4] fun a10 =>
 pv (.app true 4) [a6,a10] fun a11 =>
 iter (wH_ f_s_l03Ahead a0 a1 a2 a3 a4) R [a11,ii 0])) ts
def afz_:Option (List T) :=
 pv (.lit 4 []) [] fun a5 =>
 iter (wI_ R f_s_l03Ahead a0 a1 a2 a3 a4) R [a5,ii 0]
theorem aAd_:p_s_l03Put.den (pick [(204,f_s_l03Ahead)]) R [] [a0,a1,a2,a3,a4]=afz_ R f_s_l03Ahead a0 a1 a2 a3 a4:=(zc_ (by kernel_rfl)).trans (by kernel_rfl)
theorem aEu_:qU_ [a0,a1,a2,a3,a4]=afz_ rounds wq_ a0 a1 a2 a3 a4:=aAd_ rounds wq_ a0 a1 a2 a3 a4
def aem_:Option (List T) :=
 cl4 (f_s_l01Below [a0,a1,a2,a3]) fun a4 a5 a6 a7 =>
 Ye a4 (ii 0) fun a8 =>
 Yz a8 fun a9 =>
 some [a9,a5,a6,a7]
theorem avj_:p_s_l01Once.den (pick [(149,f_s_l01Below)]) R [] [a0,a1,a2,a3]=aem_ f_s_l01Below a0 a1 a2 a3:=(zc_ (by kernel_rfl)).trans (by kernel_rfl)
theorem azr_:xw_ [a0,a1,a2,a3]=aem_ zR_ a0 a1 a2 a3:=avj_ rounds zR_ a0 a1 a2 a3
def acy_:Option (List T) :=
 Yl a1 a5 fun a8 =>
 ifT a8 (
 Yz (bb true) fun a9 =>
 some [a9]) (
 Ye a1 a5 fun a9 =>
 ifT a9 (
 Yl a0 a4 fun a10 =>
 Yz a10 fun a11 =>
 some [a11]) (
 Yz (bb false) fun a10 =>
 some [a10]))
theorem ass_:p_s_l03Thing.den (pick []) R [] [a0,a1,a2,a3,a4,a5,a6,a7]=acy_ a0 a1 a4 a5:=(zc_ (by kernel_rfl)).trans (by kernel_rfl)
theorem awj_:wD_ [a0,a1,a2,a3,a4,a5,a6,a7]=acy_ a0 a1 a4 a5:=ass_ rounds a0 a1 a2 a3 a4 a5 a6 a7
def xx_:Option (List T) :=
 (ar2 fun a12 a13 =>
 Yn a0 fun a14 =>
 Yl a13 a14 fun a15 =>
 ifT a15 (
 Y4 a0 a13 fun a17 a18 a19 a20 =>
 cl1 (f_s_l03Thing [a1,a2,a3,a4,a17,a18,a19,a20]) fun a21 =>
 jn (ar1 fun a22 =>
 Ya a13 (ii 1) fun a23 =>
 k1 [a22,a23]) fun k2 =>
 ifT a21 (
 Y4 a0 a13 fun a23 a24 a25 a26 =>
 pv (.lit 4 [true,true,true,true]) [a23,a24,a25,a26] fun a27 =>
 pv (.app true 4) [a12,a27] fun a28 =>
 k2 [a28]) (
 k2 [a12])) (
 some [a12])) ts
def xy_:Option (List T) :=
 (ar2 fun a6 a7 =>
 Yn a0 fun a8 =>
 Yl a7 a8 fun a9 =>
 ifT a9 (
 Y4 a0 a7 fun a11 a12 a13 a14 =>
 cl1 (f_s_l03Thing [a11,a12,a13,a14,a1,a2,a3,a4]) fun a15 =>
 jn (ar1 fun a16 =>
 Ya a7 (ii 1) fun a17 =>
 k0 [a16,a17]) fun k1 =>
 ifT a15 (
 Y4 a0 a7 fun a17 a18 a19 a20 =>
 pv (.lit 4 [true,true,true,true]) [a17,a18,a19,a20] fun a21 =>
 pv (.app true 4) [a6,a21] fun a22 =>
 k1 [a22]) (
 k1 [a6])) (
 pv (.lit 4 [true,true,true,true]) [a1,a2,a3,a4] fun a10 =>
 pv (.app true 4) [a6,a10] fun a11 =>
 iter (xx_ f_s_l03Thing a0 a1 a2 a3 a4) R [a11,ii 0])) ts
def j6_:Option (List T) :=
 pv (.lit 4 []) [] fun a5 =>
 iter (xy_ R f_s_l03Thing a0 a1 a2 a3 a4) R [a5,ii 0]
theorem alz_:p_s_l03PutThing.den (pick [(205,f_s_l03Thing)]) R [] [a0,a1,a2,a3,a4]=j6_ R f_s_l03Thing a0 a1 a2 a3 a4:=(zc_ (by kernel_rfl)).trans (by kernel_rfl)
theorem aok_:w7_ [a0,a1,a2,a3,a4]=j6_ rounds wD_ a0 a1 a2 a3 a4:=alz_ rounds wD_ a0 a1 a2 a3 a4
def yI_:Option (List T) :=
 (ar5 fun a19 a20 a21 a22 a23 =>
 cl4 (f_s_l01Below [a20,a21,a22,ii 3]) fun a24 a25 a26 a27 =>
 Yl a19 a24 fun a28 =>
 ifT a28 (
 cl4 (f_s_l01Below [a25,a26,a27,a7]) fun a29 a30 a31 a32 =>
 Ya (ii 1) a29 fun a33 =>
 cl4 (f_s_l01Below [a30,a31,a32,ii 3]) fun a34 a35 a36 a37 =>
 Ya (ii 1) a34 fun a38 =>
 cl4 (f_s_l01Below [a35,a36,a37,ii 5]) fun a39 a40 a41 a42 =>
 Ya (ii 1) a39 fun a43 =>
 cl4 (f_s_l01Once [a40,a41,a42,ii 2]) fun a44 a45 a46 a47 =>
 cl1 (f_s_l03PutThing [a23,a33,a38,a43,a44]) fun a48 =>
 Ya a19 (ii 1) fun a49 =>
 k1 [a49,a45,a46,a47,a48]) (
 Yz a7 fun a29 =>
 some [a29,a12,a23,a25,a26,a27])) ts
def yK_:Option (List T) :=
 (ar5 fun a8 a9 a10 a11 a12 =>
 cl4 (f_s_l01Below [a9,a10,a11,ii 3]) fun a13 a14 a15 a16 =>
 Ya a7 a13 fun a17 =>
 Yl a8 a17 fun a18 =>
 ifT a18 (
 cl4 (f_s_l01Below [a14,a15,a16,a7]) fun a19 a20 a21 a22 =>
 Ya (ii 1) a19 fun a23 =>
 cl4 (f_s_l01Below [a20,a21,a22,a7]) fun a24 a25 a26 a27 =>
 Ya (ii 1) a24 fun a28 =>
 Ya a8 (ii 1) fun a29 =>
 Yl a29 a7 fun a30 =>
 jn (ar2 fun a31 a32 =>
 Ye a31 a32 fun a33 =>
 jn (ar1 fun a34 =>
 Yg a31 a34 fun a35 =>
 jn (ar2 fun a36 a37 =>
 cl4 (f_s_l01Below [a25,a26,a27,ii 4]) fun a38 a39 a40 a41 =>
 Ya (ii 1) a38 fun a42 =>
 pv (.lit 1 [true,true,true,true]) [ii 0,ii 0,ii 1,ii 2] fun a43 =>
 cl4 (f_s_l01PickInt [a39,a40,a41,a43]) fun a44 a45 a46 a47 =>
 Yn a12 fun a48 =>
 Yl a48 (ii 12) fun a49 =>
 jn (ar1 fun a50 =>
 Ya a8 (ii 1) fun a51 =>
 k0 [a51,a45,a46,a47,a50]) fun k1 =>
 ifT a49 (
 cl1 (f_s_l03Put [a12,a36,a37,a42,a44]) fun a50 =>
 k1 [a50]) (
 k1 [a12])) fun k1 =>
 ifT a35 (
 k1 [a34,a31]) (
 k1 [a31,a34])) fun k1 =>
 ifT a33 (
 pv (.bin .rem) [a31,a7] fun a34 =>
 Ya a34 (ii 1) fun a35 =>
 k1 [a35]) (
 k1 [a32])) fun k1 =>
 ifT a30 (
 Ya a8 (ii 1) fun a31 =>
 Ya a8 (ii 2) fun a32 =>
 k1 [a31,a32]) (
 k1 [a23,a28])) (
 iter (yI_ f_s_l01Below f_s_l01Once f_s_l03PutThing a7 a12) R [ii 0,a14,a15,a16,.l []])) ts
def ago_:Option (List T) :=
 cl4 (f_s_l01Below [a0,a1,a2,ii 4]) fun a3 a4 a5 a6 =>
 Ya (ii 2) a3 fun a7 =>
 iter (yK_ R f_s_l01Below f_s_l01Once f_s_l01PickInt f_s_l03Put f_s_l03PutThing a7) R [ii 0,a4,a5,a6,.l []]
theorem az9_:p_s_l03Net.den (pick [(149,f_s_l01Below),(151,f_s_l01Once),(212,f_s_l01PickInt),(213,f_s_l03Put),(214,f_s_l03PutThing)]) R [] [a0,a1,a2]=ago_ R f_s_l01Below f_s_l01Once f_s_l01PickInt f_s_l03Put f_s_l03PutThing a0 a1 a2:=(zc_ (by kernel_rfl)).trans (by kernel_rfl)
theorem aEm_:qP_ [a0,a1,a2]=ago_ rounds zR_ xw_ x4_ qU_ w7_ a0 a1 a2:=az9_ rounds zR_ xw_ x4_ qU_ w7_ a0 a1 a2
def jo_:Option (List T) :=
 (ar2 fun a6 a7 =>
 Yn a1 fun a8 =>
 Yl a7 a8 fun a9 =>
 ifT a9 (
 Y4 a1 a7 fun a11 a12 a13 a14 =>
 Ye a14 a5 fun a15 =>
 ifT a15 (
 Ye a11 a3 fun a16 =>
 ifT a16 (
 Ye a12 a4 fun a17 =>
 ifT a17 (
 Yz a13 fun a18 =>
 some [a18]) (
 Ye a11 a4 fun a18 =>
 ifT a18 (
 Ye a12 a3 fun a19 =>
 ifT a19 (
 Yz a13 fun a20 =>
 some [a20]) (
 Ya a7 (ii 1) fun a20 =>
 k0 [a6,a20])) (
 Ya a7 (ii 1) fun a19 =>
 k0 [a6,a19]))) (
 Ye a11 a4 fun a17 =>
 ifT a17 (
 Ye a12 a3 fun a18 =>
 ifT a18 (
 Yz a13 fun a19 =>
 some [a19]) (
 Ya a7 (ii 1) fun a19 =>
 k0 [a6,a19])) (
 Ya a7 (ii 1) fun a18 =>
 k0 [a6,a18]))) (
 Ya a7 (ii 1) fun a16 =>
 k0 [a6,a16])) (
 Yz (ii 0) fun a10 =>
 some [a10])) ts
def ahp_:Option (List T) :=
 iter (jo_ a1 a3 a4 a5) R [ii 0,ii 0]
theorem aza_:p_s_CostTo.den (pick []) R [] [a0,a1,a2,a3,a4,a5]=ahp_ R a1 a3 a4 a5:=(zc_ (by kernel_rfl)).trans (by kernel_rfl)
theorem aCn_:xE_ [a0,a1,a2,a3,a4,a5]=ahp_ rounds a1 a3 a4 a5:=aza_ rounds a0 a1 a2 a3 a4 a5
def aiy_:Option (List T) :=
 Yh a0 a1 fun a3 =>
 ifT a3 (
 Ym a0 a2 fun a4 =>
 Yz a4 fun a5 =>
 some [a5]) (
 Yz (bb false) fun a4 =>
 some [a4])
theorem aD7_:p_s_l01In.den (pick []) R [] [a0,a1,a2]=aiy_ a0 a1 a2:=(zc_ (by kernel_rfl)).trans (by kernel_rfl)
theorem aIz_:yt_ [a0,a1,a2]=aiy_ a0 a1 a2:=aD7_ rounds a0 a1 a2
def ag8_:Option (List T) :=
 cl1 (f_s_l01In [a0,ii 1,ii 6]) fun a5 =>
 ifT a5 (
 cl1 (f_s_l01In [a1,ii 1,a0]) fun a6 =>
 ifT a6 (
 cl1 (f_s_l01In [a2,ii 1,a0]) fun a7 =>
 ifT a7 (
 Yl a1 a2 fun a8 =>
 ifT a8 (
 cl1 (f_s_l01In [a3,ii 1,ii 1000]) fun a9 =>
 ifT a9 (
 cl1 (f_s_l01In [a4,ii 0,ii 2]) fun a10 =>
 Yz a10 fun a11 =>
 some [a11]) (
 Yz (bb false) fun a10 =>
 some [a10])) (
 Yz (bb false) fun a9 =>
 some [a9])) (
 Yz (bb false) fun a8 =>
 some [a8])) (
 Yz (bb false) fun a7 =>
 some [a7])) (
 Yz (bb false) fun a6 =>
 some [a6])
theorem axn_:p_s_LinkOk.den (pick [(105,f_s_l01In)]) R [] [a0,a1,a2,a3,a4]=ag8_ f_s_l01In a0 a1 a2 a3 a4:=(zc_ (by kernel_rfl)).trans (by kernel_rfl)
theorem aB4_:qC_ [a0,a1,a2,a3,a4]=ag8_ yt_ a0 a1 a2 a3 a4:=axn_ rounds yt_ a0 a1 a2 a3 a4
def vz_:Option (List T) :=
 (ar2 fun a13 a14 =>
 Yn a2 fun a15 =>
 Yl a14 a15 fun a16 =>
 ifT a16 (
 Y4 a2 a14 fun a18 a19 a20 a21 =>
 cl1 (f_s_l01In [a18,ii 1,a0]) fun a22 =>
 Yt a22 fun a23 =>
 ifT a23 (
 Yz (bb false) fun a24 =>
 some [a24]) (
 cl1 (f_s_l01In [a19,ii 1,ii 9]) fun a24 =>
 Yt a24 fun a25 =>
 ifT a25 (
 Yz (bb false) fun a26 =>
 some [a26]) (
 cl1 (f_s_l01In [a20,ii 1,ii 1000]) fun a26 =>
 Yt a26 fun a27 =>
 ifT a27 (
 Yz (bb false) fun a28 =>
 some [a28]) (
 Yg a14 (ii 0) fun a28 =>
 ifT a28 (
 Ys a14 (ii 1) fun a29 =>
 Y4 a2 a29 fun a31 a32 a33 a34 =>
 cl1 (f_s_l03Thing [a31,a32,a33,a34,a18,a19,a20,a21]) fun a35 =>
 Yt a35 fun a36 =>
 ifT a36 (
 Yz (bb false) fun a37 =>
 some [a37]) (
 Ya a14 (ii 1) fun a37 =>
 k1 [a13,a37])) (
 Ya a14 (ii 1) fun a29 =>
 k1 [a13,a29]))))) (
 Yz (bb true) fun a17 =>
 some [a17])) ts
def vG_:Option (List T) :=
 (ar2 fun a9 a10 =>
 Yn a1 fun a11 =>
 Yl a10 a11 fun a12 =>
 ifT a12 (
 Y4 a1 a10 fun a14 a15 a16 a17 =>
 cl1 (f_s_LinkOk [a0,a14,a15,a16,a17]) fun a18 =>
 Yt a18 fun a19 =>
 ifT a19 (
 Yz (bb false) fun a20 =>
 some [a20]) (
 Yg a10 (ii 0) fun a20 =>
 ifT a20 (
 Ys a10 (ii 1) fun a21 =>
 Y4 a1 a21 fun a23 a24 a25 a26 =>
 Y4 a1 a10 fun a28 a29 a30 a31 =>
 cl1 (f_s_l03Ahead [a23,a24,a25,a26,a28,a29,a30,a31]) fun a32 =>
 Yt a32 fun a33 =>
 ifT a33 (
 Yz (bb false) fun a34 =>
 some [a34]) (
 Ya a10 (ii 1) fun a34 =>
 k0 [a9,a34])) (
 Ya a10 (ii 1) fun a21 =>
 k0 [a9,a21]))) (
 iter (vz_ f_s_l01In f_s_l03Thing a0 a2) R [a9,ii 0])) ts
def aja_:Option (List T) :=
 cl1 (f_s_l01In [a0,ii 1,ii 6]) fun a3 =>
 Yt a3 fun a4 =>
 ifT a4 (
 Yz (bb false) fun a5 =>
 some [a5]) (
 Yn a1 fun a5 =>
 Yg a5 (ii 12) fun a6 =>
 ifT a6 (
 Yz (bb false) fun a7 =>
 some [a7]) (
 Yn a2 fun a7 =>
 Yg a7 (ii 4) fun a8 =>
 ifT a8 (
 Yz (bb false) fun a9 =>
 some [a9]) (
 iter (vG_ R f_s_LinkOk f_s_l01In f_s_l03Ahead f_s_l03Thing a0 a1 a2) R [bb false,ii 0])))
theorem aCw_:p_s_NetOk.den (pick [(105,f_s_l01In),(203,f_s_LinkOk),(204,f_s_l03Ahead),(205,f_s_l03Thing)]) R [] [a0,a1,a2]=aja_ R f_s_LinkOk f_s_l01In f_s_l03Ahead f_s_l03Thing a0 a1 a2:=(zc_ (by kernel_rfl)).trans (by kernel_rfl)
theorem aF5_:vQ_ [a0,a1,a2]=aja_ rounds qC_ yt_ wq_ wD_ a0 a1 a2:=aCw_ rounds qC_ yt_ wq_ wD_ a0 a1 a2
def uS_:Option (List T) :=
 (ar2 fun a6 a7 =>
 Ym a7 (ii 6) fun a8 =>
 ifT a8 (
 cl1 (f_s_CostTo [a0,a1,a2,a3,a7,a4]) fun a9 =>
 Yg a9 (ii 0) fun a10 =>
 jn (ar1 fun a11 =>
 Ya a7 (ii 1) fun a12 =>
 k0 [a11,a12]) fun k1 =>
 ifT a10 (
 Yx a7 fun a11 =>
 Yp a6 a11 fun a12 =>
 k1 [a12]) (
 k1 [a6])) (
 some [a6])) ts
def ags_:Option (List T) :=
 pv (.lit 1 []) [] fun a5 =>
 iter (uS_ f_s_CostTo a0 a1 a2 a3 a4) R [a5,ii 1]
theorem aAf_:p_s_NextTo.den (pick [(150,f_s_CostTo)]) R [] [a0,a1,a2,a3,a4]=ags_ R f_s_CostTo a0 a1 a2 a3 a4:=(zc_ (by kernel_rfl)).trans (by kernel_rfl)
theorem aCl_:qE_ [a0,a1,a2,a3,a4]=ags_ rounds xE_ a0 a1 a2 a3 a4:=aAf_ rounds xE_ a0 a1 a2 a3 a4
def um_:Option (List T) :=
 (ar2 fun a5 a6 =>
 Ym a6 (ii 2) fun a7 =>
 ifT a7 (
 cl1 (f_s_NextTo [a0,a1,a2,a3,a6]) fun a8 =>
 Yn a8 fun a9 =>
 Yg a9 (ii 0) fun a10 =>
 jn (ar1 fun a11 =>
 Ya a6 (ii 1) fun a12 =>
 k0 [a11,a12]) fun k1 =>
 ifT a10 (
 Yx a6 fun a11 =>
 Yp a5 a11 fun a12 =>
 k1 [a12]) (
 k1 [a5])) (
 some [a5])) ts
def aea_:Option (List T) :=
 pv (.lit 1 []) [] fun a4 =>
 iter (um_ f_s_NextTo a0 a1 a2 a3) R [a4,ii 0]
theorem avh_:p_s_AreasOf.den (pick [(78,f_s_NextTo)]) R [] [a0,a1,a2,a3]=aea_ R f_s_NextTo a0 a1 a2 a3:=(zc_ (by kernel_rfl)).trans (by kernel_rfl)
theorem ay0_:xe_ [a0,a1,a2,a3]=aea_ rounds qE_ a0 a1 a2 a3:=avh_ rounds qE_ a0 a1 a2 a3
def uh_:Option (List T) :=
 (ar2 fun a7 a8 =>
 Yn a1 fun a9 =>
 Yl a8 a9 fun a10 =>
 ifT a10 (
 Y4 a1 a8 fun a12 a13 a14 a15 =>
 Y1 a3 a8 fun a17 =>
 ifT a17 (
 Ye a15 a6 fun a18 =>
 ifT a18 (
 Ye a12 a4 fun a19 =>
 ifT a19 (
 Ye a13 a5 fun a20 =>
 ifT a20 (
 Yz a14 fun a21 =>
 some [a21]) (
 Ye a12 a5 fun a21 =>
 ifT a21 (
 Ye a13 a4 fun a22 =>
 ifT a22 (
 Yz a14 fun a23 =>
 some [a23]) (
 Ya a8 (ii 1) fun a23 =>
 k0 [a7,a23])) (
 Ya a8 (ii 1) fun a22 =>
 k0 [a7,a22]))) (
 Ye a12 a5 fun a20 =>
 ifT a20 (
 Ye a13 a4 fun a21 =>
 ifT a21 (
 Yz a14 fun a22 =>
 some [a22]) (
 Ya a8 (ii 1) fun a22 =>
 k0 [a7,a22])) (
 Ya a8 (ii 1) fun a21 =>
 k0 [a7,a21]))) (
 Ya a8 (ii 1) fun a19 =>
 k0 [a7,a19])) (
 Ya a8 (ii 1) fun a18 =>
 k0 [a7,a18])) (
 Yz (ii 0) fun a11 =>
 some [a11])) ts
def ad9_:Option (List T) :=
 iter (uh_ a1 a3 a4 a5 a6) R [ii 0,ii 0]
theorem avz_:p_s_l13Open.den (pick []) R [] [a0,a1,a2,a3,a4,a5,a6]=ad9_ R a1 a3 a4 a5 a6:=(zc_ (by kernel_rfl)).trans (by kernel_rfl)
theorem ax4_:u5_ [a0,a1,a2,a3,a4,a5,a6]=ad9_ rounds a1 a3 a4 a5 a6:=avz_ rounds a0 a1 a2 a3 a4 a5 a6
def ahx_:Option (List T) :=
 Yu a0 a8 fun a16 =>
 ifT a16 (
 Yl a0 a8 fun a17 =>
 Yz a17 fun a18 =>
 some [a18]) (
 Yu a1 a9 fun a17 =>
 ifT a17 (
 Yl a1 a9 fun a18 =>
 Yz a18 fun a19 =>
 some [a19]) (
 Yu a2 a10 fun a18 =>
 ifT a18 (
 Yl a2 a10 fun a19 =>
 Yz a19 fun a20 =>
 some [a20]) (
 Yl a3 a11 fun a19 =>
 Yz a19 fun a20 =>
 some [a20])))
theorem aAw_:p_s_Before.den (pick []) R [] [a0,a1,a2,a3,a4,a5,a6,a7,a8,a9,a10,a11,a12,a13,a14,a15]=ahx_ a0 a1 a2 a3 a8 a9 a10 a11:=(zc_ (by kernel_rfl)).trans (by kernel_rfl)
theorem aE7_:vn_ [a0,a1,a2,a3,a4,a5,a6,a7,a8,a9,a10,a11,a12,a13,a14,a15]=ahx_ a0 a1 a2 a3 a8 a9 a10 a11:=aAw_ rounds a0 a1 a2 a3 a4 a5 a6 a7 a8 a9 a10 a11 a12 a13 a14 a15
def vN_:Option (List T) :=
 (ar2 fun a16 a17 =>
 Yn a0 fun a18 =>
 Yl a17 a18 fun a19 =>
 ifT a19 (
 Y8 a0 a17 fun a21 a22 a23 a24 a25 a26 a27 a28 =>
 cl1 (f_s_Before [a1,a2,a3,a4,a5,a6,a7,a8,a21,a22,a23,a24,a25,a26,a27,a28]) fun a29 =>
 jn (ar1 fun a30 =>
 Ya a17 (ii 1) fun a31 =>
 k1 [a30,a31]) fun k2 =>
 ifT a29 (
 Y8 a0 a17 fun a31 a32 a33 a34 a35 a36 a37 a38 =>
 pv (.lit 8 []) [a31,a32,a33,a34,a35,a36,a37,a38] fun a39 =>
 Yy a16 a39 fun a40 =>
 k2 [a40]) (
 k2 [a16])) (
 some [a16])) ts
def vM_:Option (List T) :=
 (ar2 fun a10 a11 =>
 Yn a0 fun a12 =>
 Yl a11 a12 fun a13 =>
 ifT a13 (
 Y8 a0 a11 fun a15 a16 a17 a18 a19 a20 a21 a22 =>
 cl1 (f_s_Before [a15,a16,a17,a18,a19,a20,a21,a22,a1,a2,a3,a4,a5,a6,a7,a8]) fun a23 =>
 jn (ar1 fun a24 =>
 Ya a11 (ii 1) fun a25 =>
 k0 [a24,a25]) fun k1 =>
 ifT a23 (
 Y8 a0 a11 fun a25 a26 a27 a28 a29 a30 a31 a32 =>
 pv (.lit 8 []) [a25,a26,a27,a28,a29,a30,a31,a32] fun a33 =>
 Yy a10 a33 fun a34 =>
 k1 [a34]) (
 k1 [a10])) (
 pv (.lit 8 []) [a1,a2,a3,a4,a5,a6,a7,a8] fun a14 =>
 Yy a10 a14 fun a15 =>
 iter (vN_ f_s_Before a0 a1 a2 a3 a4 a5 a6 a7 a8) R [a15,ii 0])) ts
def agy_:Option (List T) :=
 pv (.lit 8 []) [] fun a9 =>
 iter (vM_ R f_s_Before a0 a1 a2 a3 a4 a5 a6 a7 a8) R [a9,ii 0]
theorem ayg_:p_s_l05Put.den (pick [(168,f_s_Before)]) R [] [a0,a1,a2,a3,a4,a5,a6,a7,a8]=agy_ R f_s_Before a0 a1 a2 a3 a4 a5 a6 a7 a8:=(zc_ (by kernel_rfl)).trans (by kernel_rfl)
theorem aEg_:yS_ [a0,a1,a2,a3,a4,a5,a6,a7,a8]=agy_ rounds vn_ a0 a1 a2 a3 a4 a5 a6 a7 a8:=ayg_ rounds vn_ a0 a1 a2 a3 a4 a5 a6 a7 a8
def ahr_:Option (List T) :=
 cl1 (f_s_AreasOf [a0,a1,a2,a3]) fun a4 =>
 Yn a4 fun a5 =>
 Yg a5 (ii 1) fun a6 =>
 ifT a6 (
 Yb a4 (ii 0) fun a7 =>
 Yc 1 0 a4 (ii 0) fun a8 =>
 Ye a8 (ii 0) fun a9 =>
 Yz a9 fun a10 =>
 some [a10]) (
 Yz (bb false) fun a7 =>
 some [a7])
theorem azy_:p_s_Border.den (pick [(20,f_s_AreasOf)]) R [] [a0,a1,a2,a3]=ahr_ f_s_AreasOf a0 a1 a2 a3:=(zc_ (by kernel_rfl)).trans (by kernel_rfl)
theorem aEd_:vm_ [a0,a1,a2,a3]=ahr_ xe_ a0 a1 a2 a3:=azy_ rounds xe_ a0 a1 a2 a3
def qX_:Option (List T) :=
 (ar2 fun a8 a9 =>
 Yn a5 fun a10 =>
 Yl a9 a10 fun a11 =>
 ifT a11 (
 Y2 a5 a9 fun a13 a14 =>
 cl1 (f_s_l01In [a13,ii 1,ii 6]) fun a15 =>
 Yt a15 fun a16 =>
 ifT a16 (
 Yz (bb false) fun a17 =>
 some [a17]) (
 Ye a13 a2 fun a17 =>
 ifT a17 (
 Yz (bb false) fun a18 =>
 some [a18]) (
 cl1 (f_s_l01In [a14,ii 1,ii 1000]) fun a18 =>
 Yt a18 fun a19 =>
 ifT a19 (
 Yz (bb false) fun a20 =>
 some [a20]) (
 Yg a9 (ii 0) fun a20 =>
 ifT a20 (
 Ys a9 (ii 1) fun a21 =>
 Yb a5 a21 fun a22 =>
 Yc 2 0 a5 a21 fun a23 =>
 Yh a23 a13 fun a24 =>
 ifT a24 (
 Yz (bb false) fun a25 =>
 some [a25]) (
 Ya a9 (ii 1) fun a25 =>
 k0 [a8,a25])) (
 Ya a9 (ii 1) fun a21 =>
 k0 [a8,a21]))))) (
 Yz (bb true) fun a12 =>
 some [a12])) ts
def ad4_:Option (List T) :=
 iter (qX_ f_s_l01In a2 a5) R [bb false,ii 0]
theorem aw1_:p_s_l04Near.den (pick [(105,f_s_l01In)]) R [] [a0,a1,a2,a3,a4,a5,a6,a7]=ad4_ R f_s_l01In a2 a5:=(zc_ (by kernel_rfl)).trans (by kernel_rfl)
theorem az2_:uX_ [a0,a1,a2,a3,a4,a5,a6,a7]=ad4_ rounds yt_ a2 a5:=aw1_ rounds yt_ a0 a1 a2 a3 a4 a5 a6 a7
def abs_:Option (List T) :=
 cl1 (f_s_l01In [a2,ii 1,ii 6]) fun a8 =>
 Yt a8 fun a9 =>
 ifT a9 (
 Yz (bb false) fun a10 =>
 some [a10]) (
 cl1 (f_s_l01In [a4,ii 1,ii 100000]) fun a10 =>
 Yt a10 fun a11 =>
 ifT a11 (
 Yz (bb false) fun a12 =>
 some [a12]) (
 Ye a1 (ii 1) fun a12 =>
 ifT a12 (
 cl1 (f_s_l01In [a0,ii 0,ii 2]) fun a13 =>
 ifT a13 (
 Ye a3 (ii 0) fun a14 =>
 ifT a14 (
 cl1 (f_s_l04Near [a0,a1,a2,a3,a4,a5,a6,a7]) fun a15 =>
 ifT a15 (
 Ye a6 (ii 0) fun a16 =>
 ifT a16 (
 Yt a7 fun a17 =>
 Yz a17 fun a18 =>
 some [a18]) (
 Yz (bb false) fun a17 =>
 some [a17])) (
 Yz (bb false) fun a16 =>
 some [a16])) (
 Yz (bb false) fun a15 =>
 some [a15])) (
 Yz (bb false) fun a14 =>
 some [a14])) (
 Ye a1 (ii 2) fun a13 =>
 ifT a13 (
 cl1 (f_s_l01In [a0,ii 0,ii 2]) fun a14 =>
 ifT a14 (
 cl1 (f_s_l01In [a3,ii 1,ii 6]) fun a15 =>
 ifT a15 (
 Yn a5 fun a16 =>
 Ye a16 (ii 0) fun a17 =>
 ifT a17 (
 cl1 (f_s_l01In [a6,ii 0,ii 60000]) fun a18 =>
 ifT a18 (
 Yt a7 fun a19 =>
 Yz a19 fun a20 =>
 some [a20]) (
 Yz (bb false) fun a19 =>
 some [a19])) (
 Yz (bb false) fun a18 =>
 some [a18])) (
 Yz (bb false) fun a16 =>
 some [a16])) (
 Yz (bb false) fun a15 =>
 some [a15])) (
 Ye a1 (ii 3) fun a14 =>
 ifT a14 (
 Ye a0 (ii 9) fun a15 =>
 ifT a15 (
 cl1 (f_s_l01In [a3,ii 1,ii 9]) fun a16 =>
 ifT a16 (
 Yn a5 fun a17 =>
 Ye a17 (ii 0) fun a18 =>
 ifT a18 (
 cl1 (f_s_l01In [a6,ii 1,ii 1000]) fun a19 =>
 ifT a19 (
 Yz (bb true) fun a20 =>
 some [a20]) (
 Ye a6 (ii 60000) fun a20 =>
 Yz a20 fun a21 =>
 some [a21])) (
 Yz (bb false) fun a19 =>
 some [a19])) (
 Yz (bb false) fun a17 =>
 some [a17])) (
 Yz (bb false) fun a16 =>
 some [a16])) (
 Yz (bb false) fun a15 =>
 some [a15])))))
theorem asl_:p_s_RecordOk.den (pick [(105,f_s_l01In),(229,f_s_l04Near)]) R [] [a0,a1,a2,a3,a4,a5,a6,a7]=abs_ f_s_l01In f_s_l04Near a0 a1 a2 a3 a4 a5 a6 a7:=(zc_ (by kernel_rfl)).trans (by kernel_rfl)
theorem aus_:ws_ [a0,a1,a2,a3,a4,a5,a6,a7]=abs_ yt_ uX_ a0 a1 a2 a3 a4 a5 a6 a7:=asl_ rounds yt_ uX_ a0 a1 a2 a3 a4 a5 a6 a7
def qF_:Option (List T) :=
 (ar2 fun a3 a4 =>
 Yn a0 fun a5 =>
 Yl a4 a5 fun a6 =>
 ifT a6 (
 Y8 a0 a4 fun a8 a9 a10 a11 a12 a13 a14 a15 =>
 cl1 (f_s_RecordOk [a8,a9,a10,a11,a12,a13,a14,a15]) fun a16 =>
 Yt a16 fun a17 =>
 ifT a17 (
 Yz (bb false) fun a18 =>
 some [a18]) (
 Yg a4 (ii 0) fun a18 =>
 ifT a18 (
 Ys a4 (ii 1) fun a19 =>
 Y8 a0 a19 fun a21 a22 a23 a24 a25 a26 a27 a28 =>
 Y8 a0 a4 fun a30 a31 a32 a33 a34 a35 a36 a37 =>
 cl1 (f_s_Before [a21,a22,a23,a24,a25,a26,a27,a28,a30,a31,a32,a33,a34,a35,a36,a37]) fun a38 =>
 Yt a38 fun a39 =>
 ifT a39 (
 Yz (bb false) fun a40 =>
 some [a40]) (
 Ya a4 (ii 1) fun a40 =>
 k0 [a3,a40])) (
 Ya a4 (ii 1) fun a19 =>
 k0 [a3,a19]))) (
 Yz (bb true) fun a7 =>
 some [a7])) ts
def ady_:Option (List T) :=
 Yn a0 fun a1 =>
 Yg a1 (ii 150) fun a2 =>
 ifT a2 (
 Yz (bb false) fun a3 =>
 some [a3]) (
 iter (qF_ f_s_Before f_s_RecordOk a0) R [bb false,ii 0])
theorem aul_:p_s_StoreOk.den (pick [(168,f_s_Before),(195,f_s_RecordOk)]) R [] [a0]=ady_ R f_s_Before f_s_RecordOk a0:=(zc_ (by kernel_rfl)).trans (by kernel_rfl)
theorem aAa_:xf_ [a0]=ady_ rounds vn_ ws_ a0:=aul_ rounds vn_ ws_ a0
def adx_:Option (List T) :=
 Ye a0 a8 fun a16 =>
 ifT a16 (
 Ye a1 a9 fun a17 =>
 ifT a17 (
 Ye a2 a10 fun a18 =>
 ifT a18 (
 Ye a3 a11 fun a19 =>
 Yz a19 fun a20 =>
 some [a20]) (
 Yz (bb false) fun a19 =>
 some [a19])) (
 Yz (bb false) fun a18 =>
 some [a18])) (
 Yz (bb false) fun a17 =>
 some [a17])
theorem avo_:p_s_SameKey.den (pick []) R [] [a0,a1,a2,a3,a4,a5,a6,a7,a8,a9,a10,a11,a12,a13,a14,a15]=adx_ a0 a1 a2 a3 a8 a9 a10 a11:=(zc_ (by kernel_rfl)).trans (by kernel_rfl)
theorem ax1_:xY_ [a0,a1,a2,a3,a4,a5,a6,a7,a8,a9,a10,a11,a12,a13,a14,a15]=adx_ a0 a1 a2 a3 a8 a9 a10 a11:=avo_ rounds a0 a1 a2 a3 a4 a5 a6 a7 a8 a9 a10 a11 a12 a13 a14 a15
def ki_:Option (List T) :=
 (ar2 fun a9 a10 =>
 Yn a0 fun a11 =>
 Yl a10 a11 fun a12 =>
 ifT a12 (
 Y8 a0 a10 fun a14 a15 a16 a17 a18 a19 a20 a21 =>
 cl1 (f_s_SameKey [a14,a15,a16,a17,a18,a19,a20,a21,a1,a2,a3,a4,a5,a6,a7,a8]) fun a22 =>
 ifT a22 (
 Yz a10 fun a23 =>
 some [a23]) (
 Ya a10 (ii 1) fun a23 =>
 k0 [a9,a23])) (
 Yz (ii (-1)) fun a13 =>
 some [a13])) ts
def ajg_:Option (List T) :=
 iter (ki_ f_s_SameKey a0 a1 a2 a3 a4 a5 a6 a7 a8) R [ii 0,ii 0]
theorem aCz_:p_s_l05At.den (pick [(72,f_s_SameKey)]) R [] [a0,a1,a2,a3,a4,a5,a6,a7,a8]=ajg_ R f_s_SameKey a0 a1 a2 a3 a4 a5 a6 a7 a8:=(zc_ (by kernel_rfl)).trans (by kernel_rfl)
theorem aG2_:xU_ [a0,a1,a2,a3,a4,a5,a6,a7,a8]=ajg_ rounds xY_ a0 a1 a2 a3 a4 a5 a6 a7 a8:=aCz_ rounds xY_ a0 a1 a2 a3 a4 a5 a6 a7 a8
def ad2_:Option (List T) :=
 cl1 (f_s_l05At [a0,a1,ii 1,a2,ii 0,ii 0,.l [],ii 0,bb false]) fun a3 =>
 Yl a3 (ii 0) fun a4 =>
 ifT a4 (
 Yz (bb false) fun a5 =>
 Yz (bb false) fun a6 =>
 Yz (ii 0) fun a7 =>
 Yz (ii 0) fun a8 =>
 Yz (ii 0) fun a9 =>
 Yz (ii 0) fun a10 =>
 Yz (ii 0) fun a11 =>
 Yz (ii 0) fun a12 =>
 some [a12,a11,a10,a9,a8,.l [],a7,a6,a5]) (
 Y8 a0 a3 fun a6 a7 a8 a9 a10 a11 a12 a13 =>
 Yz (bb true) fun a14 =>
 Yz a13 fun a15 =>
 Yz a12 fun a16 =>
 Yz a10 fun a17 =>
 Yz a9 fun a18 =>
 Yz a8 fun a19 =>
 Yz a7 fun a20 =>
 Yz a6 fun a21 =>
 some [a21,a20,a19,a18,a17,a11,a16,a15,a14])
theorem aw8_:p_s_l06Node.den (pick [(63,f_s_l05At)]) R [] [a0,a1,a2]=ad2_ f_s_l05At a0 a1 a2:=(zc_ (by kernel_rfl)).trans (by kernel_rfl)
theorem az3_:xG_ [a0,a1,a2]=ad2_ xU_ a0 a1 a2:=aw8_ rounds xU_ a0 a1 a2
def qc_:Option (List T) :=
 (ar2 fun a13 a14 =>
 Yn a9 fun a15 =>
 Yl a14 a15 fun a16 =>
 ifT a16 (
 Yb a9 a14 fun a17 =>
 Yc 2 0 a9 a14 fun a18 =>
 Ye a18 a3 fun a19 =>
 ifT a19 (
 Yb a9 a14 fun a20 =>
 Yc 2 1 a9 a14 fun a21 =>
 Yz a21 fun a22 =>
 some [a22]) (
 Ya a14 (ii 1) fun a20 =>
 k0 [a13,a20])) (
 Yz (ii 0) fun a17 =>
 some [a17])) ts
def ab4_:Option (List T) :=
 cl9 (f_s_l06Node [a0,a1,a2]) fun a4 a5 a6 a7 a8 a9 a10 a11 a12 =>
 iter (qc_ a3 a9) R [ii 0,ii 0]
theorem ar7_:p_s_l06Tells.den (pick [(233,f_s_l06Node)]) R [] [a0,a1,a2,a3]=ab4_ R f_s_l06Node a0 a1 a2 a3:=(zc_ (by kernel_rfl)).trans (by kernel_rfl)
theorem ats_:ul_ [a0,a1,a2,a3]=ab4_ rounds xG_ a0 a1 a2 a3:=ar7_ rounds xG_ a0 a1 a2 a3
def v4_:Option (List T) :=
 (ar2 fun a15 a16 =>
 Yn a11 fun a17 =>
 Yl a15 a17 fun a18 =>
 ifT a18 (
 Yb a11 a15 fun a19 =>
 Yc 2 0 a11 a15 fun a20 =>
 cl1 (f_s_l01In [a20,ii 1,ii 6]) fun a21 =>
 ifT a21 (
 Yb a11 a15 fun a22 =>
 Yc 2 0 a11 a15 fun a23 =>
 cl1 (f_s_l06Tells [a0,a1,a23,a3]) fun a24 =>
 Yg a24 (ii 0) fun a25 =>
 jn (ar1 fun a26 =>
 Ya a15 (ii 1) fun a27 =>
 k1 [a27,a26]) fun k2 =>
 ifT a25 (
 pv (.bin .mul) [a3,ii 7] fun a26 =>
 Yb a11 a15 fun a27 =>
 Yc 2 0 a11 a15 fun a28 =>
 Ya a26 a28 fun a29 =>
 Yb a11 a15 fun a30 =>
 Yc 2 1 a11 a15 fun a31 =>
 Yb a16 a29 fun a32 =>
 pv (.put true 1 0 1) [a16,a29,a31] fun a33 =>
 k2 [a33]) (
 k2 [a16])) (
 jn (ar1 fun a22 =>
 Ya a15 (ii 1) fun a23 =>
 k1 [a23,a22]) fun k2 =>
 k2 [a16])) (
 Ya a3 (ii 1) fun a19 =>
 k0 [a19,a16])) ts
def vW_:Option (List T) :=
 (ar2 fun a3 a4 =>
 Ym a3 (ii 6) fun a5 =>
 ifT a5 (
 cl9 (f_s_l06Node [a0,a1,a3]) fun a6 a7 a8 a9 a10 a11 a12 a13 a14 =>
 iter (v4_ f_s_l01In f_s_l06Tells a0 a1 a3 a11 k0) R [ii 0,a4]) (
 some [a4])) ts
def aci_:Option (List T) :=
 pv (.mk) [ii 49,ii 49,ii 0] fun a2 =>
 iter (vW_ R f_s_l01In f_s_l06Node f_s_l06Tells a0 a1) R [ii 1,a2]
theorem asc_:p_s_l06Links.den (pick [(105,f_s_l01In),(233,f_s_l06Node),(242,f_s_l06Tells)]) R [] [a0,a1]=aci_ R f_s_l01In f_s_l06Node f_s_l06Tells a0 a1:=(zc_ (by kernel_rfl)).trans (by kernel_rfl)
theorem avn_:uo_ [a0,a1]=aci_ rounds yt_ xG_ ul_ a0 a1:=asc_ rounds yt_ xG_ ul_ a0 a1
def km_:Option (List T) :=
 (ar2 fun a2 a3 =>
 Yn a0 fun a4 =>
 Yl a3 a4 fun a5 =>
 ifT a5 (
 Y1 a0 a3 fun a7 =>
 Ye a7 a1 fun a8 =>
 ifT a8 (
 Yz (bb true) fun a9 =>
 some [a9]) (
 Ya a3 (ii 1) fun a9 =>
 k0 [a2,a9])) (
 Yz (bb false) fun a6 =>
 some [a6])) ts
def ajz_:Option (List T) :=
 iter (km_ a0 a1) R [bb false,ii 0]
theorem aB6_:p_s_l03In.den (pick []) R [] [a0,a1]=ajz_ R a0 a1:=(zc_ (by kernel_rfl)).trans (by kernel_rfl)
theorem aF2_:jB_ [a0,a1]=ajz_ rounds a0 a1:=aB6_ rounds a0 a1
def jp_:Option (List T) :=
 (ar2 fun a3 a4 =>
 Ym a4 (ii 6) fun a5 =>
 ifT a5 (
 cl1 (f_s_l03In [a0,a4]) fun a6 =>
 ifT a6 (
 jn (ar1 fun a7 =>
 Ya a4 (ii 1) fun a8 =>
 k0 [a7,a8]) fun k1 =>
 Yx a4 fun a7 =>
 Yp a3 a7 fun a8 =>
 k1 [a8]) (
 cl1 (f_s_l03In [a1,a4]) fun a7 =>
 jn (ar1 fun a8 =>
 Ya a4 (ii 1) fun a9 =>
 k0 [a8,a9]) fun k1 =>
 ifT a7 (
 Yx a4 fun a8 =>
 Yp a3 a8 fun a9 =>
 k1 [a9]) (
 k1 [a3]))) (
 some [a3])) ts
def ahg_:Option (List T) :=
 pv (.lit 1 []) [] fun a2 =>
 iter (jp_ f_s_l03In a0 a1) R [a2,ii 1]
theorem az5_:p_s_l06Add.den (pick [(100,f_s_l03In)]) R [] [a0,a1]=ahg_ R f_s_l03In a0 a1:=(zc_ (by kernel_rfl)).trans (by kernel_rfl)
theorem aEh_:wC_ [a0,a1]=ahg_ rounds jB_ a0 a1:=az5_ rounds jB_ a0 a1
def zz_:Option (List T) :=
 (ar2 fun a32 a33 =>
 Ym a33 (ii 6) fun a34 =>
 ifT a34 (
 Yq a29 a33 fun a36 =>
 jn (ar1 fun a37 =>
 Ya a33 (ii 1) fun a38 =>
 k2 [a37,a38]) fun k3 =>
 ifT a36 (
 Yq a30 a33 fun a38 =>
 pv (.lit 1 []) [] fun a39 =>
 Y1 a28 a33 fun a41 =>
 Yp a39 a41 fun a42 =>
 pv (.lit 3 [true,true,false]) [a33,a38,a42] fun a43 =>
 Yo a32 a43 fun a44 =>
 k3 [a44]) (
 k3 [a32])) (
 some [a32])) ts
def zB_:Option (List T) :=
 (ar3 fun a38 a39 a40 =>
 Ym a38 (ii 6) fun a41 =>
 ifT a41 (
 pv (.bin .mul) [a32,ii 7] fun a42 =>
 Ya a42 a38 fun a43 =>
 Y1 a18 a43 fun a45 =>
 Ye a45 (ii 0) fun a46 =>
 ifT a46 (
 Ya a38 (ii 1) fun a47 =>
 k3 [a47,a39,a40]) (
 Yq a37 a38 fun a48 =>
 ifT a48 (
 Ya a38 (ii 1) fun a49 =>
 k3 [a49,a39,a40]) (
 Y1 a39 a32 fun a50 =>
 Ye a32 a2 fun a51 =>
 jn (ar1 fun a52 =>
 Yq a40 a32 fun a54 =>
 Ya a54 a45 fun a55 =>
 Yq a40 a38 fun a57 =>
 Yl a57 (ii 0) fun a58 =>
 ifT a58 (
 jn (ar2 fun a59 a60 =>
 Ya a38 (ii 1) fun a61 =>
 k3 [a61,a59,a60]) fun k4 =>
 Yb a40 a38 fun a59 =>
 pv (.put true 1 0 1) [a40,a38,a55] fun a60 =>
 pv (.lit 1 []) [] fun a61 =>
 cl1 (f_s_l06Add [a61,a52]) fun a62 =>
 Yb a39 a38 fun a63 =>
 pv (.put false 1 0 1) [a39,a38,a62] fun a64 =>
 k4 [a64,a60]) (
 Yq a40 a38 fun a60 =>
 Yl a55 a60 fun a61 =>
 jn (ar2 fun a62 a63 =>
 Ya a38 (ii 1) fun a64 =>
 k3 [a64,a62,a63]) fun k4 =>
 ifT a61 (
 Yb a40 a38 fun a62 =>
 pv (.put true 1 0 1) [a40,a38,a55] fun a63 =>
 pv (.lit 1 []) [] fun a64 =>
 cl1 (f_s_l06Add [a64,a52]) fun a65 =>
 Yb a39 a38 fun a66 =>
 pv (.put false 1 0 1) [a39,a38,a65] fun a67 =>
 k4 [a67,a63]) (
 Yq a40 a38 fun a63 =>
 Ye a55 a63 fun a64 =>
 jn (ar1 fun a65 =>
 k4 [a65,a40]) fun k5 =>
 ifT a64 (
 Y1 a39 a38 fun a66 =>
 cl1 (f_s_l06Add [a66,a52]) fun a67 =>
 Yb a39 a38 fun a68 =>
 pv (.put false 1 0 1) [a39,a38,a67] fun a69 =>
 k5 [a69]) (
 k5 [a39])))) fun k4 =>
 ifT a51 (
 Yx a38 fun a52 =>
 k4 [a52]) (
 k4 [a50])))) (
 Ya a27 (ii 1) fun a42 =>
 k1 [a42,a39,a37,a40])) ts
def zy_:Option (List T) :=
 (ar2 fun a32 a33 =>
 Ym a33 (ii 6) fun a34 =>
 ifT a34 (
 Yq a29 a33 fun a36 =>
 Yt a36 fun a37 =>
 ifT a37 (
 Yq a30 a33 fun a39 =>
 Yh a39 (ii 0) fun a40 =>
 ifT a40 (
 Ye a32 (ii 0) fun a41 =>
 ifT a41 (
 jn (ar1 fun a42 =>
 Ya a33 (ii 1) fun a43 =>
 k2 [a42,a43]) fun k3 =>
 k3 [a33]) (
 Yq a30 a33 fun a43 =>
 Yq a30 a32 fun a45 =>
 Yl a43 a45 fun a46 =>
 jn (ar1 fun a47 =>
 Ya a33 (ii 1) fun a48 =>
 k2 [a47,a48]) fun k3 =>
 ifT a46 (
 k3 [a33]) (
 k3 [a32]))) (
 jn (ar1 fun a41 =>
 Ya a33 (ii 1) fun a42 =>
 k2 [a41,a42]) fun k3 =>
 k3 [a32])) (
 jn (ar1 fun a38 =>
 Ya a33 (ii 1) fun a39 =>
 k2 [a38,a39]) fun k3 =>
 k3 [a32])) (
 Ye a32 (ii 0) fun a35 =>
 ifT a35 (
 Ya (ii 6) (ii 1) fun a36 =>
 k1 [a36,a28,a29,a30]) (
 Yb a29 a32 fun a36 =>
 pv (.put true 1 0 1) [a29,a32,bb true] fun a37 =>
 iter (zB_ f_s_l06Add a2 a18 a27 a32 a37 k1) R [ii 1,a28,a30]))) ts
def zw_:Option (List T) :=
 (ar4 fun a27 a28 a29 a30 =>
 Ym a27 (ii 6) fun a31 =>
 ifT a31 (
 iter (zy_ R f_s_l06Add a2 a18 a27 a28 a29 a30 k1) R [ii 0,ii 1]) (
 iter (zz_ a28 a29 a30) R [a3,ii 1])) ts
def zA_:Option (List T) :=
 (ar2 fun a22 a23 =>
 Ym a22 (ii 6) fun a24 =>
 ifT a24 (
 Yb a23 a22 fun a25 =>
 pv (.put true 1 0 1) [a23,a22,ii (-1)] fun a26 =>
 Ya a22 (ii 1) fun a27 =>
 k0 [a27,a26]) (
 Yb a23 a2 fun a25 =>
 pv (.put true 1 0 1) [a23,a2,ii 0] fun a26 =>
 iter (zw_ R f_s_l06Add a2 a3 a18) R [ii 1,a20,a21,a26])) ts
def af0_:Option (List T) :=
 pv (.lit 3 []) [] fun a3 =>
 cl9 (f_s_l06Node [a0,a1,a2]) fun a4 a5 a6 a7 a8 a9 a10 a11 a12 =>
 cl1 (f_s_StoreOk [a0]) fun a13 =>
 Yt a13 fun a14 =>
 ifT a14 (
 some [a3]) (
 cl1 (f_s_l01In [a2,ii 1,ii 6]) fun a15 =>
 Yt a15 fun a16 =>
 ifT a16 (
 some [a3]) (
 Yt a12 fun a17 =>
 ifT a17 (
 some [a3]) (
 cl1 (f_s_l06Links [a0,a1]) fun a18 =>
 pv (.mk) [ii 7,ii 7,ii 0] fun a19 =>
 pv (.mk) [ii 7,ii 7,.l []] fun a20 =>
 pv (.mk) [ii 7,ii 7,bb false] fun a21 =>
 iter (zA_ R f_s_l06Add a2 a3 a18 a20 a21) R [ii 1,a19])))
theorem ayn_:p_s_WaysIn.den (pick [(105,f_s_l01In),(106,f_s_StoreOk),(233,f_s_l06Node),(234,f_s_l06Links),(235,f_s_l06Add)]) R [] [a0,a1,a2]=af0_ R f_s_StoreOk f_s_l01In f_s_l06Add f_s_l06Links f_s_l06Node a0 a1 a2:=(zc_ (by kernel_rfl)).trans (by kernel_rfl)
theorem aDv_:we_ [a0,a1,a2]=af0_ rounds xf_ yt_ wC_ uo_ xG_ a0 a1 a2:=ayn_ rounds xf_ yt_ wC_ uo_ xG_ a0 a1 a2
def ad0_:Option (List T) :=
 pv (.lit 1 []) [] fun a3 =>
 Yp a3 a2 fun a4 =>
 Yz a1 fun a5 =>
 Yz a0 fun a6 =>
 some [a6,a5,a4]
theorem aw5_:p_s_l06Copy.den (pick []) R [] [a0,a1,a2]=ad0_ a0 a1 a2:=(zc_ (by kernel_rfl)).trans (by kernel_rfl)
theorem ax3_:wW_ [a0,a1,a2]=ad0_ a0 a1 a2:=aw5_ rounds a0 a1 a2
def ka_:Option (List T) :=
 (ar2 fun a2 a3 =>
 Yn a0 fun a4 =>
 Yl a3 a4 fun a5 =>
 ifT a5 (
 Yb a0 a3 fun a6 =>
 Yc 3 0 a0 a3 fun a7 =>
 Ye a7 a1 fun a8 =>
 ifT a8 (
 Y3 a0 a3 fun a10 a11 a12 =>
 cl3 (f_s_l06Copy [a10,a11,a12]) fun a13 a14 a15 =>
 Yz (bb true) fun a16 =>
 Yz a14 fun a17 =>
 Yz a13 fun a18 =>
 some [a18,a17,a15,a16]) (
 Ya a3 (ii 1) fun a9 =>
 k0 [a2,a9])) (
 Yz (bb false) fun a6 =>
 Yz (ii 0) fun a7 =>
 Yz (ii 0) fun a8 =>
 some [a8,a7,.l [],a6])) ts
def ai3_:Option (List T) :=
 iter (ka_ f_s_l06Copy a0 a1) R [bb false,ii 0]
theorem aCg_:p_s_WayTo.den (pick [(238,f_s_l06Copy)]) R [] [a0,a1]=ai3_ R f_s_l06Copy a0 a1:=(zc_ (by kernel_rfl)).trans (by kernel_rfl)
theorem aFs_:xJ_ [a0,a1]=ai3_ rounds wW_ a0 a1:=aCg_ rounds wW_ a0 a1
def agb_:Option (List T) :=
 Yl a1 a4 fun a6 =>
 Yz a6 fun a7 =>
 some [a7]
theorem ay3_:p_s_Better.den (pick []) R [] [a0,a1,a2,a3,a4,a5]=agb_ a1 a4:=(zc_ (by kernel_rfl)).trans (by kernel_rfl)
theorem aCx_:qO_ [a0,a1,a2,a3,a4,a5]=agb_ a1 a4:=ay3_ rounds a0 a1 a2 a3 a4 a5
def acg_:Option (List T) :=
 cl1 (f_s_Better [a0,a1,a2,a3,a4,a5]) fun a6 =>
 ifT a6 (
 cl3 (f_s_l06Copy [a0,a1,a2]) fun a7 a8 a9 =>
 Yz a8 fun a10 =>
 Yz a7 fun a11 =>
 some [a11,a10,a9]) (
 cl1 (f_s_Better [a3,a4,a5,a0,a1,a2]) fun a7 =>
 ifT a7 (
 cl3 (f_s_l06Copy [a3,a4,a5]) fun a8 a9 a10 =>
 Yz a9 fun a11 =>
 Yz a8 fun a12 =>
 some [a12,a11,a10]) (
 cl1 (f_s_l06Add [a2,a5]) fun a8 =>
 Yz a1 fun a9 =>
 Yz a0 fun a10 =>
 some [a10,a9,a8]))
theorem asm_:p_s_Together.den (pick [(235,f_s_l06Add),(238,f_s_l06Copy),(243,f_s_Better)]) R [] [a0,a1,a2,a3,a4,a5]=acg_ f_s_Better f_s_l06Add f_s_l06Copy a0 a1 a2 a3 a4 a5:=(zc_ (by kernel_rfl)).trans (by kernel_rfl)
theorem at5_:wv_ [a0,a1,a2,a3,a4,a5]=acg_ qO_ wC_ wW_ a0 a1 a2 a3 a4 a5:=asm_ rounds qO_ wC_ wW_ a0 a1 a2 a3 a4 a5
def yg_:Option (List T) :=
 (ar5 fun a12 a13 a14 a15 a16 =>
 Yn a1 fun a17 =>
 Yl a13 a17 fun a18 =>
 ifT a18 (
 Y1 a5 a13 fun a20 =>
 cl4 (f_s_WayTo [a20,a10]) fun a21 a22 a23 a24 =>
 Yt a24 fun a25 =>
 ifT a25 (
 Ya a13 (ii 1) fun a26 =>
 k2 [a12,a26,a14,a15,a16]) (
 jn (ar3 fun a26 a27 a28 =>
 Ya a13 (ii 1) fun a29 =>
 k2 [bb true,a29,a26,a27,a28]) fun k3 =>
 ifT a12 (
 cl3 (f_s_Together [a14,a15,a16,a21,a22,a23]) fun a26 a27 a28 =>
 k3 [a26,a27,a28]) (
 k3 [a21,a22,a23]))) (
 jn (ar1 fun a19 =>
 Ya a10 (ii 1) fun a20 =>
 k1 [a19,a20]) fun k3 =>
 ifT a12 (
 pv (.lit 3 []) [a14,a15,a16] fun a19 =>
 Yo a9 a19 fun a20 =>
 k3 [a20]) (
 k3 [a9]))) ts
def yf_:Option (List T) :=
 (ar2 fun a9 a10 =>
 Ym a10 (ii 6) fun a11 =>
 ifT a11 (
 iter (yg_ f_s_Together f_s_WayTo a1 a5 a9 a10 k1) R [bb false,ii 0,ii 0,ii 0,.l []]) (
 some [a9])) ts
def ye_:Option (List T) :=
 (ar2 fun a5 a6 =>
 Yn a1 fun a7 =>
 Yl a6 a7 fun a8 =>
 ifT a8 (
 Y1 a1 a6 fun a10 =>
 cl1 (f_s_WaysIn [a0,a10,a2]) fun a11 =>
 pv (.lit 1 []) [a11] fun a12 =>
 pv (.app false 1) [a5,a12] fun a13 =>
 Ya a6 (ii 1) fun a14 =>
 k0 [a13,a14]) (
 iter (yf_ R f_s_Together f_s_WayTo a1 a5) R [a3,ii 1])) ts
def jy_:Option (List T) :=
 pv (.lit 3 []) [] fun a3 =>
 pv (.lit 1 []) [] fun a4 =>
 iter (ye_ R f_s_Together f_s_WayTo f_s_WaysIn a0 a1 a2 a3) R [a4,ii 0]
theorem ak5_:p_s_RoutesWithin.den (pick [(218,f_s_WaysIn),(221,f_s_WayTo),(236,f_s_Together)]) R [] [a0,a1,a2]=jy_ R f_s_Together f_s_WayTo f_s_WaysIn a0 a1 a2:=(zc_ (by kernel_rfl)).trans (by kernel_rfl)
theorem amj_:xA_ [a0,a1,a2]=jy_ rounds wv_ xJ_ we_ a0 a1 a2:=ak5_ rounds wv_ xJ_ we_ a0 a1 a2
def yL_:Option (List T) :=
 (ar5 fun a9 a10 a11 a12 a13 =>
 Yn a0 fun a14 =>
 Yl a10 a14 fun a15 =>
 ifT a15 (
 Y8 a0 a10 fun a17 a18 a19 a20 a21 a22 a23 a24 =>
 Yu a18 (ii 2) fun a25 =>
 ifT a25 (
 Ya a10 (ii 1) fun a26 =>
 k0 [a9,a26,a11,a12,a13]) (
 Yu a17 a2 fun a26 =>
 ifT a26 (
 Ya a10 (ii 1) fun a27 =>
 k0 [a9,a27,a11,a12,a13]) (
 Yu a20 a4 fun a27 =>
 ifT a27 (
 Ya a10 (ii 1) fun a28 =>
 k0 [a9,a28,a11,a12,a13]) (
 Ye a19 a3 fun a28 =>
 ifT a28 (
 Ya a10 (ii 1) fun a29 =>
 k0 [a9,a29,a11,a12,a13]) (
 Yh a23 (ii 60000) fun a29 =>
 ifT a29 (
 Ya a10 (ii 1) fun a30 =>
 k0 [a9,a30,a11,a12,a13]) (
 cl4 (f_s_WayTo [a1,a19]) fun a30 a31 a32 a33 =>
 Yt a33 fun a34 =>
 ifT a34 (
 Ya a10 (ii 1) fun a35 =>
 k0 [a9,a35,a11,a12,a13]) (
 Ya a31 a23 fun a35 =>
 Yh a35 (ii 60000) fun a36 =>
 ifT a36 (
 Ya a10 (ii 1) fun a37 =>
 k0 [a9,a37,a11,a12,a13]) (
 Ya a31 a23 fun a37 =>
 jn (ar3 fun a38 a39 a40 =>
 Ya a10 (ii 1) fun a41 =>
 k0 [bb true,a41,a38,a39,a40]) fun k1 =>
 ifT a9 (
 cl3 (f_s_Together [a11,a12,a13,a4,a37,a32]) fun a38 a39 a40 =>
 k1 [a38,a39,a40]) (
 k1 [a4,a37,a32]))))))))) (
 Yz a9 fun a16 =>
 Yz a12 fun a17 =>
 Yz a11 fun a18 =>
 some [a18,a17,a13,a16])) ts
def aan_:Option (List T) :=
 iter (yL_ f_s_Together f_s_WayTo a0 a1 a2 a3 a4) R [a8,ii 0,a5,a6,a7]
theorem apx_:p_s_l07Beyond.den (pick [(221,f_s_WayTo),(236,f_s_Together)]) R [] [a0,a1,a2,a3,a4,a5,a6,a7,a8]=aan_ R f_s_Together f_s_WayTo a0 a1 a2 a3 a4 a5 a6 a7 a8:=(zc_ (by kernel_rfl)).trans (by kernel_rfl)
theorem ast_:vK_ [a0,a1,a2,a3,a4,a5,a6,a7,a8]=aan_ rounds wv_ xJ_ a0 a1 a2 a3 a4 a5 a6 a7 a8:=apx_ rounds wv_ xJ_ a0 a1 a2 a3 a4 a5 a6 a7 a8
def zX_:Option (List T) :=
 (ar5 fun a20 a21 a22 a23 a24 =>
 Yn a1 fun a25 =>
 Yl a21 a25 fun a26 =>
 ifT a26 (
 ifT a2 (
 Y1 a1 a21 fun a28 =>
 Yu a28 (ii 0) fun a29 =>
 ifT a29 (
 Ya a21 (ii 1) fun a30 =>
 k2 [a20,a30,a22,a23,a24]) (
 Y1 a9 a21 fun a31 =>
 Y1 a1 a21 fun a33 =>
 cl4 (f_s_l07Beyond [a0,a31,a33,a3,a14,a22,a23,a24,a20]) fun a34 a35 a36 a37 =>
 Ya a21 (ii 1) fun a38 =>
 k2 [a37,a38,a34,a35,a36])) (
 Y1 a9 a21 fun a28 =>
 Y1 a1 a21 fun a30 =>
 cl4 (f_s_l07Beyond [a0,a28,a30,a3,a14,a22,a23,a24,a20]) fun a31 a32 a33 a34 =>
 Ya a21 (ii 1) fun a35 =>
 k2 [a34,a35,a31,a32,a33])) (
 jn (ar1 fun a27 =>
 Ya a14 (ii 1) fun a28 =>
 k1 [a27,a28]) fun k3 =>
 ifT a20 (
 pv (.lit 3 []) [a22,a23,a24] fun a27 =>
 Yo a13 a27 fun a28 =>
 k3 [a28]) (
 k3 [a13]))) ts
def zW_:Option (List T) :=
 (ar2 fun a13 a14 =>
 Ym a14 (ii 6) fun a15 =>
 ifT a15 (
 cl4 (f_s_WayTo [a5,a14]) fun a16 a17 a18 a19 =>
 ifT a19 (
 Ya a14 (ii 1) fun a20 =>
 k1 [a13,a20]) (
 iter (zX_ f_s_l07Beyond a0 a1 a2 a3 a9 a13 a14 k1) R [bb false,ii 0,ii 0,ii 0,.l []])) (
 some [a13])) ts
def zY_:Option (List T) :=
 (ar2 fun a9 a10 =>
 Yn a1 fun a11 =>
 Yl a10 a11 fun a12 =>
 ifT a12 (
 Y1 a1 a10 fun a14 =>
 cl1 (f_s_WaysIn [a0,a14,a3]) fun a15 =>
 pv (.lit 1 []) [a15] fun a16 =>
 pv (.app false 1) [a9,a16] fun a17 =>
 Ya a10 (ii 1) fun a18 =>
 k0 [a17,a18]) (
 iter (zW_ R f_s_WayTo f_s_l07Beyond a0 a1 a2 a3 a5 a9) R [a4,ii 1])) ts
def jv_:Option (List T) :=
 pv (.lit 3 []) [] fun a4 =>
 cl1 (f_s_RoutesWithin [a0,a1,a3]) fun a5 =>
 cl1 (f_s_StoreOk [a0]) fun a6 =>
 Yt a6 fun a7 =>
 ifT a7 (
 some [a4]) (
 pv (.lit 1 []) [] fun a8 =>
 iter (zY_ R f_s_WayTo f_s_WaysIn f_s_l07Beyond a0 a1 a2 a3 a4 a5) R [a8,ii 0])
theorem ak6_:p_s_RoutesBeyond.den (pick [(106,f_s_StoreOk),(218,f_s_WaysIn),(219,f_s_RoutesWithin),(221,f_s_WayTo),(237,f_s_l07Beyond)]) R [] [a0,a1,a2,a3]=jv_ R f_s_RoutesWithin f_s_StoreOk f_s_WayTo f_s_WaysIn f_s_l07Beyond a0 a1 a2 a3:=(zc_ (by kernel_rfl)).trans (by kernel_rfl)
theorem amr_:wR_ [a0,a1,a2,a3]=jv_ rounds xA_ xf_ xJ_ we_ vK_ a0 a1 a2 a3:=ak6_ rounds xA_ xf_ xJ_ we_ vK_ a0 a1 a2 a3
def yY_:Option (List T) :=
 (ar2 fun a15 a16 =>
 Ym a16 (ii 6) fun a17 =>
 ifT a17 (
 cl4 (f_s_WayTo [a12,a16]) fun a18 a19 a20 a21 =>
 ifT a21 (
 Ya a16 (ii 1) fun a22 =>
 k1 [a15,a22]) (
 Ye a16 a2 fun a22 =>
 ifT a22 (
 Ya a16 (ii 1) fun a23 =>
 k1 [a15,a23]) (
 cl4 (f_s_WayTo [a13,a16]) fun a23 a24 a25 a26 =>
 Yt a26 fun a27 =>
 ifT a27 (
 Yu a3 (ii 0) fun a28 =>
 jn (ar4 fun a29 a30 a31 a32 =>
 jn (ar1 fun a33 =>
 Ya a16 (ii 1) fun a34 =>
 k1 [a33,a34]) fun k2 =>
 ifT a32 (
 pv (.lit 8 [true,true,true,true,true,false,true,true]) [a3,ii 2,a2,a16,ii 0,.l [],a30,bb false] fun a33 =>
 Yy a15 a33 fun a34 =>
 k2 [a34]) (
 k2 [a15])) fun k2 =>
 ifT a28 (
 cl4 (f_s_WayTo [a14,a16]) fun a29 a30 a31 a32 =>
 k2 [a29,a30,a31,a32]) (
 k2 [a23,a24,a25,a26])) (
 jn (ar4 fun a28 a29 a30 a31 =>
 jn (ar1 fun a32 =>
 Ya a16 (ii 1) fun a33 =>
 k1 [a32,a33]) fun k2 =>
 ifT a31 (
 pv (.lit 8 [true,true,true,true,true,false,true,true]) [a3,ii 2,a2,a16,ii 0,.l [],a29,bb false] fun a32 =>
 Yy a15 a32 fun a33 =>
 k2 [a33]) (
 k2 [a15])) fun k2 =>
 k2 [a23,a24,a25,a26])))) (
 some [a15])) ts
def y0_:Option (List T) :=
 (ar2 fun a8 a9 =>
 Yn a1 fun a10 =>
 Yl a9 a10 fun a11 =>
 ifT a11 (
 Y1 a1 a9 fun a13 =>
 Yu a13 a3 fun a14 =>
 jn (ar1 fun a15 =>
 Ya a9 (ii 1) fun a16 =>
 k0 [a15,a16]) fun k1 =>
 ifT a14 (
 Y1 a1 a9 fun a16 =>
 Yx a16 fun a17 =>
 Yp a8 a17 fun a18 =>
 k1 [a18]) (
 k1 [a8])) (
 cl1 (f_s_WaysIn [a0,a3,a2]) fun a12 =>
 cl1 (f_s_RoutesWithin [a0,a8,a2]) fun a13 =>
 cl1 (f_s_RoutesBeyond [a0,a1,bb true,a2]) fun a14 =>
 iter (yY_ f_s_WayTo a2 a3 a12 a13 a14) R [a4,ii 1])) ts
def ahc_:Option (List T) :=
 pv (.lit 8 []) [] fun a4 =>
 cl1 (f_s_StoreOk [a0]) fun a5 =>
 Yt a5 fun a6 =>
 ifT a6 (
 some [a4]) (
 pv (.lit 1 []) [] fun a7 =>
 iter (y0_ R f_s_RoutesBeyond f_s_RoutesWithin f_s_WayTo f_s_WaysIn a0 a1 a2 a3 a4) R [a7,ii 0])
theorem ayq_:p_s_Beyond.den (pick [(106,f_s_StoreOk),(218,f_s_WaysIn),(219,f_s_RoutesWithin),(220,f_s_RoutesBeyond),(221,f_s_WayTo)]) R [] [a0,a1,a2,a3]=ahc_ R f_s_RoutesBeyond f_s_RoutesWithin f_s_StoreOk f_s_WayTo f_s_WaysIn a0 a1 a2 a3:=(zc_ (by kernel_rfl)).trans (by kernel_rfl)
theorem aB7_:vh_ [a0,a1,a2,a3]=ahc_ rounds wR_ xA_ xf_ xJ_ we_ a0 a1 a2 a3:=ayq_ rounds wR_ xA_ xf_ xJ_ we_ a0 a1 a2 a3
def up_:Option (List T) :=
 (ar2 fun a2 a3 =>
 Yn a1 fun a4 =>
 Yl a3 a4 fun a5 =>
 ifT a5 (
 Y8 a1 a3 fun a7 a8 a9 a10 a11 a12 a13 a14 =>
 Ye a11 (ii 0) fun a15 =>
 jn (ar1 fun a16 =>
 cl1 (f_s_l05Put [a2,a7,a8,a9,a10,a16,a12,a13,a14]) fun a17 =>
 Ya a3 (ii 1) fun a18 =>
 k0 [a17,a18]) fun k1 =>
 ifT a15 (
 k1 [ii 1]) (
 k1 [a11])) (
 some [a2])) ts
def aeo_:Option (List T) :=
 iter (up_ f_s_l05Put a1) R [a0,ii 0]
theorem att_:p_s_l08With.den (pick [(62,f_s_l05Put)]) R [] [a0,a1]=aeo_ R f_s_l05Put a0 a1:=(zc_ (by kernel_rfl)).trans (by kernel_rfl)
theorem ay2_:xZ_ [a0,a1]=aeo_ rounds yS_ a0 a1:=att_ rounds yS_ a0 a1
def wP_:Option (List T) :=
 (ar2 fun a9 a10 =>
 Yn a0 fun a11 =>
 Yl a10 a11 fun a12 =>
 ifT a12 (
 Yb a0 a10 fun a13 =>
 Yc 8 1 a0 a10 fun a14 =>
 Yu a14 (ii 2) fun a15 =>
 ifT a15 (
 jn (ar1 fun a16 =>
 Ya a10 (ii 1) fun a17 =>
 k1 [a16,a17]) fun k2 =>
 Y8 a0 a10 fun a17 a18 a19 a20 a21 a22 a23 a24 =>
 pv (.lit 8 []) [a17,a18,a19,a20,a21,a22,a23,a24] fun a25 =>
 Yy a9 a25 fun a26 =>
 k2 [a26]) (
 Yb a0 a10 fun a16 =>
 Yc 8 2 a0 a10 fun a17 =>
 Yu a17 a2 fun a18 =>
 jn (ar1 fun a19 =>
 Ya a10 (ii 1) fun a20 =>
 k1 [a19,a20]) fun k2 =>
 ifT a18 (
 Y8 a0 a10 fun a20 a21 a22 a23 a24 a25 a26 a27 =>
 pv (.lit 8 []) [a20,a21,a22,a23,a24,a25,a26,a27] fun a28 =>
 Yy a9 a28 fun a29 =>
 k2 [a29]) (
 k2 [a9]))) (
 cl1 (f_s_l08With [a9,a4]) fun a13 =>
 some [a13])) ts
def wM_:Option (List T) :=
 (ar2 fun a4 a5 =>
 Yn a1 fun a6 =>
 Yl a5 a6 fun a7 =>
 ifT a7 (
 Y1 a1 a5 fun a9 =>
 cl1 (f_s_Beyond [a0,a1,a2,a9]) fun a10 =>
 Yy a4 a10 fun a11 =>
 Ya a5 (ii 1) fun a12 =>
 k0 [a11,a12]) (
 pv (.lit 8 []) [] fun a8 =>
 iter (wP_ f_s_l08With a0 a2 a4) R [a8,ii 0])) ts
def aal_:Option (List T) :=
 pv (.lit 8 []) [] fun a3 =>
 iter (wM_ R f_s_Beyond f_s_l08With a0 a1 a2) R [a3,ii 0]
theorem ap6_:p_s_l13Beyond.den (pick [(67,f_s_l08With),(167,f_s_Beyond)]) R [] [a0,a1,a2]=aal_ R f_s_Beyond f_s_l08With a0 a1 a2:=(zc_ (by kernel_rfl)).trans (by kernel_rfl)
theorem asy_:vL_ [a0,a1,a2]=aal_ rounds vh_ xZ_ a0 a1 a2:=ap6_ rounds vh_ xZ_ a0 a1 a2
def ad7_:Option (List T) :=
 pv (.lit 2 []) [] fun a8 =>
 pv (.app true 2) [a8,a5] fun a9 =>
 Yz a7 fun a10 =>
 Yz a6 fun a11 =>
 Yz a4 fun a12 =>
 Yz a3 fun a13 =>
 Yz a2 fun a14 =>
 Yz a1 fun a15 =>
 Yz a0 fun a16 =>
 some [a16,a15,a14,a13,a12,a9,a11,a10]
theorem atq_:p_s_l04Copy.den (pick []) R [] [a0,a1,a2,a3,a4,a5,a6,a7]=ad7_ a0 a1 a2 a3 a4 a5 a6 a7:=(zc_ (by kernel_rfl)).trans (by kernel_rfl)
theorem ayt_:x1_ [a0,a1,a2,a3,a4,a5,a6,a7]=ad7_ a0 a1 a2 a3 a4 a5 a6 a7:=atq_ rounds a0 a1 a2 a3 a4 a5 a6 a7
def vU_:Option (List T) :=
 (ar2 fun a2 a3 =>
 Yn a0 fun a4 =>
 Yl a3 a4 fun a5 =>
 ifT a5 (
 Y8 a0 a3 fun a7 a8 a9 a10 a11 a12 a13 a14 =>
 cl8 (f_s_l04Copy [a7,a8,a9,a10,a11,a12,a13,a14]) fun a15 a16 a17 a18 a19 a20 a21 a22 =>
 pv (.lit 8 [true,true,true,true,true,false,true,true]) [a15,a16,a17,a18,a19,a20,a21,a22] fun a23 =>
 Yy a2 a23 fun a24 =>
 Ya a3 (ii 1) fun a25 =>
 k0 [a24,a25]) (
 some [a2])) ts
def j7_:Option (List T) :=
 pv (.lit 8 []) [] fun a1 =>
 iter (vU_ f_s_l04Copy a0) R [a1,ii 0]
theorem ame_:p_s_l04CopyList.den (pick [(65,f_s_l04Copy)]) R [] [a0]=j7_ R f_s_l04Copy a0:=(zc_ (by kernel_rfl)).trans (by kernel_rfl)
theorem aoe_:z8_ [a0]=j7_ rounds x1_ a0:=ame_ rounds x1_ a0
def zL_:Option (List T) :=
 (ar2 fun a23 a24 =>
 Ym a24 a0 fun a25 =>
 ifT a25 (
 Ys a24 (ii 1) fun a26 =>
 Y1 a4 a26 fun a28 =>
 ifT a28 (
 cl1 (f_s_Border [a0,a1,a2,a24]) fun a29 =>
 jn (ar1 fun a30 =>
 Ya a24 (ii 1) fun a31 =>
 k3 [a30,a31]) fun k4 =>
 ifT a29 (
 cl1 (f_s_AreasOf [a0,a1,a2,a24]) fun a30 =>
 cl1 (f_s_l13Beyond [a23,a30,a24]) fun a31 =>
 k4 [a31]) (
 k4 [a23])) (
 jn (ar1 fun a29 =>
 Ya a24 (ii 1) fun a30 =>
 k3 [a29,a30]) fun k4 =>
 k4 [a23])) (
 Ya a21 (ii 1) fun a26 =>
 k2 [a23,a26])) ts
def zN_:Option (List T) :=
 (ar2 fun a20 a21 =>
 Yl a21 (ii 3) fun a22 =>
 ifT a22 (
 iter (zL_ f_s_AreasOf f_s_Border f_s_l13Beyond a0 a1 a2 a4 a21 k2) R [a20,ii 1]) (
 cl1 (f_s_l04CopyList [a20]) fun a23 =>
 Yz (bb true) fun a24 =>
 some [a23,a24])) ts
def zJ_:Option (List T) :=
 (ar2 fun a16 a17 =>
 Yn a2 fun a18 =>
 Yl a17 a18 fun a19 =>
 ifT a19 (
 Y4 a2 a17 fun a21 a22 a23 a24 =>
 Ys a21 (ii 1) fun a25 =>
 Y1 a4 a25 fun a27 =>
 jn (ar1 fun a28 =>
 Ya a17 (ii 1) fun a29 =>
 k1 [a28,a29]) fun k2 =>
 ifT a27 (
 cl1 (f_s_l05Put [a16,ii 9,ii 3,a21,a22,ii 1,.l [],a23,a24]) fun a28 =>
 k2 [a28]) (
 k2 [a16])) (
 iter (zN_ R f_s_AreasOf f_s_Border f_s_l04CopyList f_s_l13Beyond a0 a1 a2 a4) R [a16,ii 0])) ts
def zK_:Option (List T) :=
 (ar2 fun a26 a27 =>
 Ym a26 a0 fun a28 =>
 ifT a28 (
 Y1 a16 a18 fun a30 =>
 cl1 (f_s_l13Open [a0,a1,a2,a3,a14,a26,a30]) fun a31 =>
 Yg a31 (ii 0) fun a32 =>
 ifT a32 (
 Ys a26 (ii 1) fun a33 =>
 Y1 a4 a33 fun a35 =>
 jn (ar1 fun a36 =>
 Ya a26 (ii 1) fun a37 =>
 k2 [a37,a36]) fun k3 =>
 ifT a35 (
 pv (.lit 2 [true,true]) [a26,a31] fun a36 =>
 pv (.app true 2) [a27,a36] fun a37 =>
 k3 [a37]) (
 k3 [a27])) (
 jn (ar1 fun a33 =>
 Ya a26 (ii 1) fun a34 =>
 k2 [a34,a33]) fun k3 =>
 k3 [a27])) (
 cl1 (f_s_l05Put [a17,a25,ii 1,a14,ii 0,ii 1,a27,ii 0,bb false]) fun a29 =>
 Ya a18 (ii 1) fun a30 =>
 k1 [a29,a30])) ts
def zO_:Option (List T) :=
 (ar2 fun a17 a18 =>
 Yn a16 fun a19 =>
 Yl a18 a19 fun a20 =>
 ifT a20 (
 Ys a14 (ii 1) fun a21 =>
 Y1 a4 a21 fun a23 =>
 ifT a23 (
 Y1 a16 a18 fun a25 =>
 iter (zK_ f_s_l05Put f_s_l13Open a0 a1 a2 a3 a4 a14 a16 a17 a18 a25 k1) R [ii 1,.l []]) (
 Ya a14 (ii 1) fun a24 =>
 k0 [a17,a24])) (
 Ya a14 (ii 1) fun a21 =>
 k0 [a17,a21])) ts
def zM_:Option (List T) :=
 (ar2 fun a13 a14 =>
 Ym a14 a0 fun a15 =>
 ifT a15 (
 cl1 (f_s_AreasOf [a0,a1,a2,a14]) fun a16 =>
 iter (zO_ R f_s_l05Put f_s_l13Open a0 a1 a2 a3 a4 a14 a16 k0) R [a13,ii 0]) (
 iter (zJ_ R f_s_AreasOf f_s_Border f_s_l04CopyList f_s_l05Put f_s_l13Beyond a0 a1 a2 a4) R [a13,ii 0])) ts
def ac4_:Option (List T) :=
 pv (.lit 8 []) [] fun a5 =>
 cl1 (f_s_NetOk [a0,a1,a2]) fun a6 =>
 Yt a6 fun a7 =>
 ifT a7 (
 Yz (bb false) fun a8 =>
 some [a5,a8]) (
 Yn a3 fun a8 =>
 Yn a1 fun a9 =>
 Yu a8 a9 fun a10 =>
 ifT a10 (
 Yz (bb false) fun a11 =>
 some [a5,a11]) (
 Yn a4 fun a11 =>
 Yu a11 a0 fun a12 =>
 ifT a12 (
 Yz (bb false) fun a13 =>
 some [a5,a13]) (
 iter (zM_ R f_s_AreasOf f_s_Border f_s_l04CopyList f_s_l05Put f_s_l13Beyond f_s_l13Open a0 a1 a2 a3 a4) R [a5,ii 1])))
theorem aEb_:p_s_Ideal.den (pick [(20,f_s_AreasOf),(62,f_s_l05Put),(66,f_s_l04CopyList),(132,f_s_NetOk),(166,f_s_Border),(216,f_s_l13Open),(217,f_s_l13Beyond)]) R [] [a0,a1,a2,a3,a4]=ac4_ R f_s_AreasOf f_s_Border f_s_NetOk f_s_l04CopyList f_s_l05Put f_s_l13Beyond f_s_l13Open a0 a1 a2 a3 a4:=(zc_ (by kernel_rfl)).trans (by kernel_rfl)
theorem aqz_:uz_ [a0,a1,a2,a3,a4]=ac4_ rounds xe_ vm_ vQ_ z8_ yS_ vL_ u5_ a0 a1 a2 a3 a4:=aEb_ rounds xe_ vm_ vQ_ z8_ yS_ vL_ u5_ a0 a1 a2 a3 a4
def yJ_:Option (List T) :=
 (ar5 fun a23 a24 a25 a26 a27 =>
 Ym a23 (ii 6) fun a28 =>
 ifT a28 (
 Yu a23 a12 fun a29 =>
 ifT a29 (
 cl4 (f_s_l01Once [a24,a25,a26,ii 3]) fun a30 a31 a32 a33 =>
 jn (ar4 fun a34 a35 a36 a37 =>
 Ya a23 (ii 1) fun a38 =>
 k1 [a38,a34,a35,a36,a37]) fun k2 =>
 ifT a30 (
 cl4 (f_s_l01Below [a31,a32,a33,ii 4]) fun a34 a35 a36 a37 =>
 Ya (ii 1) a34 fun a38 =>
 pv (.lit 2 [true,true]) [a23,a38] fun a39 =>
 pv (.app true 2) [a27,a39] fun a40 =>
 k2 [a35,a36,a37,a40]) (
 k2 [a31,a32,a33,a27])) (
 jn (ar4 fun a30 a31 a32 a33 =>
 Ya a23 (ii 1) fun a34 =>
 k1 [a34,a30,a31,a32,a33]) fun k2 =>
 k2 [a24,a25,a26,a27])) (
 k0 [a24,a25,a26,a13,ii 0,a27,ii 0,bb false])) ts
def uW_:Option (List T) :=
 cl4 (f_s_l01Below [a0,a1,a2,ii 3]) fun a3 a4 a5 a6 =>
 Ya (ii 1) a3 fun a7 =>
 cl4 (f_s_l01Below [a4,a5,a6,ii 4]) fun a8 a9 a10 a11 =>
 Ya (ii 1) a8 fun a12 =>
 cl4 (f_s_l01Below [a9,a10,a11,ii 3]) fun a13 a14 a15 a16 =>
 cl4 (f_s_l01Below [a14,a15,a16,ii 5]) fun a17 a18 a19 a20 =>
 Ya (ii 1) a17 fun a21 =>
 Ye a7 (ii 1) fun a22 =>
 jn (ar8 fun a23 a24 a25 a26 a27 a28 a29 a30 =>
 Yz a30 fun a31 =>
 Yz a29 fun a32 =>
 Yz a21 fun a33 =>
 Yz a27 fun a34 =>
 Yz a12 fun a35 =>
 Yz a7 fun a36 =>
 Yz a26 fun a37 =>
 some [a37,a36,a35,a34,a33,a28,a32,a31,a23,a24,a25]) fun k0 =>
 ifT a22 (
 iter (yJ_ f_s_l01Below f_s_l01Once a12 a13 k0) R [ii 1,a18,a19,a20,.l []]) (
 Ye a7 (ii 2) fun a23 =>
 jn (ar7 fun a24 a25 a26 a27 a28 a29 a30 =>
 k0 [a24,a25,a26,a27,a28,.l [],a29,a30]) fun k1 =>
 ifT a23 (
 cl4 (f_s_l01Below [a18,a19,a20,ii 5]) fun a24 a25 a26 a27 =>
 Ya (ii 1) a24 fun a28 =>
 pv (.lit 1 [true,true,true,true,true]) [ii 0,ii 1,ii 2,ii 5,ii 60000] fun a29 =>
 cl4 (f_s_l01PickInt [a25,a26,a27,a29]) fun a30 a31 a32 a33 =>
 k1 [a31,a32,a33,a13,a28,a30,bb false]) (
 Ye a7 (ii 3) fun a24 =>
 jn (ar7 fun a25 a26 a27 a28 a29 a30 a31 =>
 k1 [a25,a26,a27,a28,a29,a30,a31]) fun k2 =>
 ifT a24 (
 cl4 (f_s_l01Below [a18,a19,a20,ii 3]) fun a25 a26 a27 a28 =>
 Ya (ii 1) a25 fun a29 =>
 pv (.lit 1 [true,true,true,true]) [ii 1,ii 2,ii 5,ii 60000] fun a30 =>
 cl4 (f_s_l01PickInt [a26,a27,a28,a30]) fun a31 a32 a33 a34 =>
 cl4 (f_s_l01Once [a32,a33,a34,ii 2]) fun a35 a36 a37 a38 =>
 k2 [a36,a37,a38,ii 9,a29,a31,a35]) (
 k2 [a18,a19,a20,a13,ii 0,ii 0,bb false])))
theorem aqe_:p_s_l04Record.den (pick [(149,f_s_l01Below),(151,f_s_l01Once),(212,f_s_l01PickInt)]) R [] [a0,a1,a2]=uW_ R f_s_l01Below f_s_l01Once f_s_l01PickInt a0 a1 a2:=(zc_ (by kernel_rfl)).trans (by kernel_rfl)
theorem ar6_:xn_ [a0,a1,a2]=uW_ rounds zR_ xw_ x4_ a0 a1 a2:=aqe_ rounds zR_ xw_ x4_ a0 a1 a2
def wO_:Option (List T) :=
 cl1 (f_s_l05At [a0,a1,a2,a3,a4,a5,a6,a7,a8]) fun a9 =>
 cl1 (f_s_RecordOk [a1,a2,a3,a4,a5,a6,a7,a8]) fun a10 =>
 Yt a10 fun a11 =>
 ifT a11 (
 Yz (bb false) fun a12 =>
 some [a0,a12]) (
 Yh a9 (ii 0) fun a12 =>
 ifT a12 (
 Yb a0 a9 fun a13 =>
 Yc 8 4 a0 a9 fun a14 =>
 Yh a14 a5 fun a15 =>
 ifT a15 (
 Yz (bb false) fun a16 =>
 some [a0,a16]) (
 Yl a9 (ii 0) fun a16 =>
 ifT a16 (
 Yn a0 fun a17 =>
 Yh a17 (ii 150) fun a18 =>
 ifT a18 (
 Yz (bb false) fun a19 =>
 some [a0,a19]) (
 cl1 (f_s_l05Put [a0,a1,a2,a3,a4,a5,a6,a7,a8]) fun a19 =>
 Yz (bb true) fun a20 =>
 some [a19,a20])) (
 cl1 (f_s_l05Put [a0,a1,a2,a3,a4,a5,a6,a7,a8]) fun a17 =>
 Yz (bb true) fun a18 =>
 some [a17,a18]))) (
 Yl a9 (ii 0) fun a13 =>
 ifT a13 (
 Yn a0 fun a14 =>
 Yh a14 (ii 150) fun a15 =>
 ifT a15 (
 Yz (bb false) fun a16 =>
 some [a0,a16]) (
 cl1 (f_s_l05Put [a0,a1,a2,a3,a4,a5,a6,a7,a8]) fun a16 =>
 Yz (bb true) fun a17 =>
 some [a16,a17])) (
 cl1 (f_s_l05Put [a0,a1,a2,a3,a4,a5,a6,a7,a8]) fun a14 =>
 Yz (bb true) fun a15 =>
 some [a14,a15])))
theorem aoj_:p_s_l05Install.den (pick [(62,f_s_l05Put),(63,f_s_l05At),(195,f_s_RecordOk)]) R [] [a0,a1,a2,a3,a4,a5,a6,a7,a8]=wO_ f_s_RecordOk f_s_l05At f_s_l05Put a0 a1 a2 a3 a4 a5 a6 a7 a8:=(zc_ (by kernel_rfl)).trans (by kernel_rfl)
theorem aqi_:xa_ [a0,a1,a2,a3,a4,a5,a6,a7,a8]=wO_ ws_ xU_ yS_ a0 a1 a2 a3 a4 a5 a6 a7 a8:=aoj_ rounds ws_ xU_ yS_ a0 a1 a2 a3 a4 a5 a6 a7 a8
def qe_:Option (List T) :=
 (ar5 fun a4 a5 a6 a7 a8 =>
 cl4 (f_s_l01Below [a6,a7,a8,ii 12]) fun a9 a10 a11 a12 =>
 Yl a5 a9 fun a13 =>
 ifT a13 (
 cl11 (f_s_l04Record [a10,a11,a12]) fun a14 a15 a16 a17 a18 a19 a20 a21 a22 a23 a24 =>
 cl2 (f_s_l05Install [a4,a14,a15,a16,a17,a18,a19,a20,a21]) fun a25 a26 =>
 Ya a5 (ii 1) fun a27 =>
 k0 [a25,a27,a22,a23,a24]) (
 some [a4,a10,a11,a12])) ts
def ab2_:Option (List T) :=
 pv (.lit 8 []) [] fun a3 =>
 iter (qe_ f_s_l01Below f_s_l04Record f_s_l05Install) R [a3,ii 0,a0,a1,a2]
theorem aso_:p_s_l05Store.den (pick [(149,f_s_l01Below),(154,f_s_l05Install),(155,f_s_l04Record)]) R [] [a0,a1,a2]=ab2_ R f_s_l01Below f_s_l04Record f_s_l05Install a0 a1 a2:=(zc_ (by kernel_rfl)).trans (by kernel_rfl)
theorem at4_:w2_ [a0,a1,a2]=ab2_ rounds zR_ xn_ xa_ a0 a1 a2:=aso_ rounds zR_ xn_ xa_ a0 a1 a2
def z4_:Option (List T) :=
 (ar5 fun a51 a52 a53 a54 a55 =>
 cl4 (f_s_l01Below [a53,a54,a55,ii 3]) fun a56 a57 a58 a59 =>
 Yl a51 a56 fun a60 =>
 ifT a60 (
 cl11 (f_s_l04Record [a57,a58,a59]) fun a61 a62 a63 a64 a65 a66 a67 a68 a69 a70 a71 =>
 cl2 (f_s_l05Install [a52,a61,a62,a63,a64,a65,a66,a67,a68]) fun a72 a73 =>
 Ya a51 (ii 1) fun a74 =>
 k3 [a74,a72,a69,a70,a71]) (
 Yz a3 fun a61 =>
 Yz a9 fun a62 =>
 Yz a17 fun a63 =>
 some [a63,a62,a61,a4,a5,a22,a52,a57,a58,a59])) ts
def z1_:Option (List T) :=
 (ar5 fun a34 a35 a36 a37 a38 =>
 Yn a38 fun a39 =>
 Yl a34 a39 fun a40 =>
 ifT a40 (
 cl4 (f_s_l01Once [a35,a36,a37,ii 8]) fun a41 a42 a43 a44 =>
 Yt a41 fun a45 =>
 Yb a38 a34 fun a46 =>
 pv (.put true 1 0 1) [a38,a34,a45] fun a47 =>
 Ya a34 (ii 1) fun a48 =>
 k2 [a48,a42,a43,a44,a47]) (
 cl2 (f_s_Ideal [a3,a4,a5,a31,a38]) fun a41 a42 =>
 cl4 (f_s_l01Once [a35,a36,a37,ii 3]) fun a43 a44 a45 a46 =>
 jn (ar4 fun a47 a48 a49 a50 =>
 iter (z4_ f_s_l01Below f_s_l04Record f_s_l05Install a3 a4 a5 a9 a17 a22) R [ii 0,a47,a48,a49,a50]) fun k3 =>
 ifT a43 (
 cl4 (f_s_l05Store [a44,a45,a46]) fun a47 a48 a49 a50 =>
 k3 [a47,a48,a49,a50]) (
 k3 [a41,a44,a45,a46]))) ts
def z5_:Option (List T) :=
 (ar5 fun a27 a28 a29 a30 a31 =>
 Yn a31 fun a32 =>
 Yl a27 a32 fun a33 =>
 ifT a33 (
 cl4 (f_s_l01Once [a28,a29,a30,ii 6]) fun a34 a35 a36 a37 =>
 Yt a34 fun a38 =>
 Yb a31 a27 fun a39 =>
 pv (.put true 1 0 1) [a31,a27,a38] fun a40 =>
 Ya a27 (ii 1) fun a41 =>
 k1 [a41,a35,a36,a37,a40]) (
 iter (z1_ R f_s_Ideal f_s_l01Below f_s_l01Once f_s_l04Record f_s_l05Install f_s_l05Store a3 a4 a5 a9 a17 a22 a31) R [ii 0,a28,a29,a30,a26])) ts
def z0_:Option (List T) :=
 (ar5 fun a24 a25 a26 a27 a28 =>
 Ym a24 (ii 2) fun a29 =>
 ifT a29 (
 cl1 (f_s_CostTo [a3,a4,a5,a17,a18,a24]) fun a30 =>
 Yg a30 (ii 0) fun a31 =>
 ifT a31 (
 cl4 (f_s_l01Once [a25,a26,a27,ii 4]) fun a32 a33 a34 a35 =>
 Yt a32 fun a36 =>
 jn (ar1 fun a37 =>
 Ya a24 (ii 1) fun a38 =>
 k1 [a38,a33,a34,a35,a37]) fun k2 =>
 ifT a36 (
 pv (.lit 1 [true,true]) [a18,a24] fun a37 =>
 Yp a28 a37 fun a38 =>
 k2 [a38]) (
 k2 [a28])) (
 jn (ar1 fun a32 =>
 Ya a24 (ii 1) fun a33 =>
 k1 [a33,a25,a26,a27,a32]) fun k2 =>
 k2 [a28])) (
 Ya a18 (ii 1) fun a30 =>
 k0 [a30,a25,a26,a27,a28])) ts
def yc_:Option (List T) :=
 (ar5 fun a18 a19 a20 a21 a22 =>
 Ym a18 a3 fun a23 =>
 ifT a23 (
 iter (z0_ f_s_CostTo f_s_l01Once a3 a4 a5 a17 a18 k0) R [ii 0,a19,a20,a21,a22]) (
 Yn a4 fun a24 =>
 pv (.mk) [a24,a24,bb false] fun a25 =>
 pv (.mk) [a3,a3,bb false] fun a26 =>
 iter (z5_ R f_s_Ideal f_s_l01Below f_s_l01Once f_s_l04Record f_s_l05Install f_s_l05Store a3 a4 a5 a9 a17 a22 a26) R [ii 0,a19,a20,a21,a25])) ts
def ad1_:Option (List T) :=
 cl6 (f_s_l03Net [a0,a1,a2]) fun a3 a4 a5 a6 a7 a8 =>
 cl4 (f_s_l01Below [a6,a7,a8,ii 2]) fun a9 a10 a11 a12 =>
 cl4 (f_s_l01Below [a10,a11,a12,a3]) fun a13 a14 a15 a16 =>
 Ya (ii 1) a13 fun a17 =>
 iter (yc_ R f_s_CostTo f_s_Ideal f_s_l01Below f_s_l01Once f_s_l04Record f_s_l05Install f_s_l05Store a3 a4 a5 a9 a17) R [ii 1,a14,a15,a16,.l []]
theorem awh_:p_s_l08Self.den (pick [(148,f_s_l03Net),(149,f_s_l01Below),(150,f_s_CostTo),(151,f_s_l01Once),(152,f_s_Ideal),(153,f_s_l05Store),(154,f_s_l05Install),(155,f_s_l04Record)]) R [] [a0,a1,a2]=ad1_ R f_s_CostTo f_s_Ideal f_s_l01Below f_s_l01Once f_s_l03Net f_s_l04Record f_s_l05Install f_s_l05Store a0 a1 a2:=(zc_ (by kernel_rfl)).trans (by kernel_rfl)
theorem azp_:uZ_ [a0,a1,a2]=ad1_ rounds xE_ uz_ zR_ xw_ qP_ xn_ xa_ w2_ a0 a1 a2:=awh_ rounds xE_ uz_ zR_ xw_ qP_ xn_ xa_ w2_ a0 a1 a2
def wt_:Option (List T) :=
 (ar2 fun a3 a4 =>
 Yn a0 fun a5 =>
 Yl a4 a5 fun a6 =>
 ifT a6 (
 Yl a4 (ii 4000) fun a7 =>
 ifT a7 (
 pv (.bin .mul) [a3,ii 131] fun a8 =>
 Y1 a0 a4 fun a10 =>
 pv (.cnv .i64) [a10] fun a11 =>
 Ya a8 a11 fun a12 =>
 Ya a12 (ii 7) fun a13 =>
 pv (.bin .and) [a13,ii 1073741823] fun a14 =>
 Ya a4 (ii 1) fun a15 =>
 k0 [a14,a15]) (
 cl10 (f_s_l08Self [a0,ii 0,a3]) fun a8 a9 a10 a11 a12 a13 a14 a15 a16 a17 =>
 Yz a10 fun a18 =>
 Yz a9 fun a19 =>
 Yz a8 fun a20 =>
 some [a20,a19,a18,a11,a12,a13,a14])) (
 cl10 (f_s_l08Self [a0,ii 0,a3]) fun a7 a8 a9 a10 a11 a12 a13 a14 a15 a16 =>
 Yz a9 fun a17 =>
 Yz a8 fun a18 =>
 Yz a7 fun a19 =>
 some [a19,a18,a17,a10,a11,a12,a13])) ts
def q4_:Option (List T) :=
 Yn a0 fun a1 =>
 Ya (ii 13901) a1 fun a2 =>
 iter (wt_ f_s_l08Self a0) R [a2,ii 0]
theorem aiq_:p_s_DrawRightSelf.den (pick [(52,f_s_l08Self)]) R [] [a0]=q4_ R f_s_l08Self a0:=(zc_ (by kernel_rfl)).trans (by kernel_rfl)
theorem ak7_:wE_ [a0]=q4_ rounds uZ_ a0:=aiq_ rounds uZ_ a0
def aeb_:Option (List T) :=
 pv (.app true 4) [.l [],a1] fun a3 =>
 pv (.app true 4) [.l [],a2] fun a4 =>
 Yz a0 fun a5 =>
 some [a5,a3,a4]
theorem avs_:p_i_copyNet.den (pick []) R [] [a0,a1,a2]=aeb_ a0 a1 a2:=(zc_ (by kernel_rfl)).trans (by kernel_rfl)
theorem aAh_:qa_ [a0,a1,a2]=aeb_ a0 a1 a2:=avs_ rounds a0 a1 a2
def acv_:Option (List T) :=
 Yp (.l []) a0 fun a1 =>
 some [a1]
theorem asq_:p_i_copyInts.den (pick []) R [] [a0]=acv_ a0:=(zc_ (by kernel_rfl)).trans (by kernel_rfl)
theorem av7_:ya_ [a0]=acv_ a0:=asq_ rounds a0
def ku_:Option (List T) :=
 pv (.app true 2) [.l [],a5] fun a8 =>
 Yz a7 fun a9 =>
 Yz a6 fun a10 =>
 Yz a4 fun a11 =>
 Yz a3 fun a12 =>
 Yz a2 fun a13 =>
 Yz a1 fun a14 =>
 Yz a0 fun a15 =>
 some [a15,a14,a13,a12,a11,a8,a10,a9]
theorem ao0_:p_i_copyRecord.den (pick []) R [] [a0,a1,a2,a3,a4,a5,a6,a7]=ku_ a0 a1 a2 a3 a4 a5 a6 a7:=(zc_ (by kernel_rfl)).trans (by kernel_rfl)
theorem aqc_:x7_ [a0,a1,a2,a3,a4,a5,a6,a7]=ku_ a0 a1 a2 a3 a4 a5 a6 a7:=ao0_ rounds a0 a1 a2 a3 a4 a5 a6 a7
def vS_:Option (List T) :=
 (ar2 fun a2 a3 =>
 Yl a3 a1 fun a4 =>
 ifT a4 (
 Y8 a0 a3 fun a6 a7 a8 a9 a10 a11 a12 a13 =>
 cl8 (f_i_copyRecord [a6,a7,a8,a9,a10,a11,a12,a13]) fun a14 a15 a16 a17 a18 a19 a20 a21 =>
 pv (.lit 8 [true,true,true,true,true,false,true,true]) [a14,a15,a16,a17,a18,a19,a20,a21] fun a22 =>
 Yy a2 a22 fun a23 =>
 Ya a3 (ii 1) fun a24 =>
 k0 [a23,a24]) (
 some [a2])) ts
def j3_:Option (List T) :=
 Yn a0 fun a1 =>
 iter (vS_ f_i_copyRecord a0 a1) R [.l [],ii 0]
theorem al7_:p_i_copyRecords.den (pick [(161,f_i_copyRecord)]) R [] [a0]=j3_ R f_i_copyRecord a0:=(zc_ (by kernel_rfl)).trans (by kernel_rfl)
theorem amz_:y4_ [a0]=j3_ rounds x7_ a0:=al7_ rounds x7_ a0
def abq_:Option (List T) :=
 cl3 (f_i_copyNet [a2,a3,a4]) fun a7 a8 a9 =>
 cl1 (f_i_copyInts [a5]) fun a10 =>
 cl1 (f_i_copyRecords [a6]) fun a11 =>
 Yz a7 fun a12 =>
 Yz a1 fun a13 =>
 Yz a0 fun a14 =>
 some [a14,a13,a12,a8,a9,a10,a11]
theorem ar4_:p_i_copySelf.den (pick [(56,f_i_copyRecords),(90,f_i_copyNet),(156,f_i_copyInts)]) R [] [a0,a1,a2,a3,a4,a5,a6]=abq_ f_i_copyInts f_i_copyNet f_i_copyRecords a0 a1 a2 a3 a4 a5 a6:=(zc_ (by kernel_rfl)).trans (by kernel_rfl)
theorem au4_:ud_ [a0,a1,a2,a3,a4,a5,a6]=abq_ ya_ qa_ y4_ a0 a1 a2 a3 a4 a5 a6:=ar4_ rounds ya_ qa_ y4_ a0 a1 a2 a3 a4 a5 a6
def awn_:Option (List T) :=
 Yh a0 a1 fun a3 =>
 ifT a3 (
 Ym a0 a2 fun a4 =>
 Yz a4 fun a5 =>
 some [a5]) (
 Yz (bb false) fun a4 =>
 some [a4])
theorem aM1_:p_i_in.den (pick []) R [] [a0,a1,a2]=awn_ a0 a1 a2:=(zc_ (by kernel_rfl)).trans (by kernel_rfl)
theorem aOv_:wd_ [a0,a1,a2]=awn_ a0 a1 a2:=aM1_ rounds a0 a1 a2
def aht_:Option (List T) :=
 cl1 (f_i_in [a0,ii 1,ii 6]) fun a5 =>
 ifT a5 (
 cl1 (f_i_in [a1,ii 1,a0]) fun a6 =>
 ifT a6 (
 cl1 (f_i_in [a2,ii 1,a0]) fun a7 =>
 ifT a7 (
 Yl a1 a2 fun a8 =>
 ifT a8 (
 cl1 (f_i_in [a3,ii 1,ii 1000]) fun a9 =>
 ifT a9 (
 cl1 (f_i_in [a4,ii 0,ii 2]) fun a10 =>
 Yz a10 fun a11 =>
 some [a11]) (
 Yz (bb false) fun a10 =>
 some [a10])) (
 Yz (bb false) fun a9 =>
 some [a9])) (
 Yz (bb false) fun a8 =>
 some [a8])) (
 Yz (bb false) fun a7 =>
 some [a7])) (
 Yz (bb false) fun a6 =>
 some [a6])
theorem azw_:p_i_LinkOk.den (pick [(69,f_i_in)]) R [] [a0,a1,a2,a3,a4]=aht_ f_i_in a0 a1 a2 a3 a4:=(zc_ (by kernel_rfl)).trans (by kernel_rfl)
theorem aB1_:qM_ [a0,a1,a2,a3,a4]=aht_ wd_ a0 a1 a2 a3 a4:=azw_ rounds wd_ a0 a1 a2 a3 a4
def air_:Option (List T) :=
 Yu a0 a4 fun a8 =>
 ifT a8 (
 Yl a0 a4 fun a9 =>
 Yz a9 fun a10 =>
 some [a10]) (
 Yu a1 a5 fun a9 =>
 ifT a9 (
 Yl a1 a5 fun a10 =>
 Yz a10 fun a11 =>
 some [a11]) (
 Yl a3 a7 fun a10 =>
 Yz a10 fun a11 =>
 some [a11]))
theorem aEx_:p_i_ahead.den (pick []) R [] [a0,a1,a2,a3,a4,a5,a6,a7]=air_ a0 a1 a3 a4 a5 a7:=(zc_ (by kernel_rfl)).trans (by kernel_rfl)
theorem aFz_:jY_ [a0,a1,a2,a3,a4,a5,a6,a7]=air_ a0 a1 a3 a4 a5 a7:=aEx_ rounds a0 a1 a2 a3 a4 a5 a6 a7
def amq_:Option (List T) :=
 Yl a1 a5 fun a8 =>
 ifT a8 (
 Yz (bb true) fun a9 =>
 some [a9]) (
 Ye a1 a5 fun a9 =>
 ifT a9 (
 Yl a0 a4 fun a10 =>
 Yz a10 fun a11 =>
 some [a11]) (
 Yz (bb false) fun a10 =>
 some [a10]))
theorem aGz_:p_i_less.den (pick []) R [] [a0,a1,a2,a3,a4,a5,a6,a7]=amq_ a0 a1 a4 a5:=(zc_ (by kernel_rfl)).trans (by kernel_rfl)
theorem aJp_:kB_ [a0,a1,a2,a3,a4,a5,a6,a7]=amq_ a0 a1 a4 a5:=aGz_ rounds a0 a1 a2 a3 a4 a5 a6 a7
def vH_:Option (List T) :=
 (ar2 fun a14 a15 =>
 Yl a15 a13 fun a16 =>
 ifT a16 (
 Y4 a2 a15 fun a18 a19 a20 a21 =>
 cl1 (f_i_in [a19,ii 1,ii 9]) fun a22 =>
 Yt a22 fun a23 =>
 ifT a23 (
 Yz (bb false) fun a24 =>
 some [a24]) (
 cl1 (f_i_in [a18,ii 1,a0]) fun a24 =>
 Yt a24 fun a25 =>
 ifT a25 (
 Yz (bb false) fun a26 =>
 some [a26]) (
 cl1 (f_i_in [a20,ii 1,ii 1000]) fun a26 =>
 Yt a26 fun a27 =>
 ifT a27 (
 Yz (bb false) fun a28 =>
 some [a28]) (
 Yg a15 (ii 0) fun a28 =>
 ifT a28 (
 Ys a15 (ii 1) fun a29 =>
 Y4 a2 a29 fun a31 a32 a33 a34 =>
 cl1 (f_i_less [a31,a32,a33,a34,a18,a19,a20,a21]) fun a35 =>
 Yt a35 fun a36 =>
 ifT a36 (
 Yz (bb false) fun a37 =>
 some [a37]) (
 Ya a15 (ii 1) fun a37 =>
 k1 [a14,a37])) (
 Ya a15 (ii 1) fun a29 =>
 k1 [a14,a29]))))) (
 Yz (bb true) fun a17 =>
 some [a17])) ts
def vD_:Option (List T) :=
 (ar2 fun a10 a11 =>
 Yl a11 a9 fun a12 =>
 ifT a12 (
 Y4 a1 a11 fun a14 a15 a16 a17 =>
 cl1 (f_i_LinkOk [a0,a14,a15,a16,a17]) fun a18 =>
 Yt a18 fun a19 =>
 ifT a19 (
 Yz (bb false) fun a20 =>
 some [a20]) (
 Yg a11 (ii 0) fun a20 =>
 ifT a20 (
 Ys a11 (ii 1) fun a21 =>
 Y4 a1 a21 fun a23 a24 a25 a26 =>
 cl1 (f_i_ahead [a23,a24,a25,a26,a14,a15,a16,a17]) fun a27 =>
 Yt a27 fun a28 =>
 ifT a28 (
 Yz (bb false) fun a29 =>
 some [a29]) (
 Ya a11 (ii 1) fun a29 =>
 k0 [a10,a29])) (
 Ya a11 (ii 1) fun a21 =>
 k0 [a10,a21]))) (
 Yn a2 fun a13 =>
 iter (vH_ f_i_in f_i_less a0 a2 a13) R [a10,ii 0])) ts
def ajk_:Option (List T) :=
 cl1 (f_i_in [a0,ii 1,ii 6]) fun a3 =>
 Yt a3 fun a4 =>
 ifT a4 (
 Yz (bb false) fun a5 =>
 some [a5]) (
 Yn a1 fun a5 =>
 Yg a5 (ii 12) fun a6 =>
 ifT a6 (
 Yz (bb false) fun a7 =>
 some [a7]) (
 Yn a2 fun a7 =>
 Yg a7 (ii 4) fun a8 =>
 ifT a8 (
 Yz (bb false) fun a9 =>
 some [a9]) (
 Yn a1 fun a9 =>
 iter (vD_ R f_i_LinkOk f_i_ahead f_i_in f_i_less a0 a1 a2 a9) R [bb false,ii 0])))
theorem aFf_:p_i_NetOk.den (pick [(69,f_i_in),(169,f_i_LinkOk),(170,f_i_ahead),(171,f_i_less)]) R [] [a0,a1,a2]=ajk_ R f_i_LinkOk f_i_ahead f_i_in f_i_less a0 a1 a2:=(zc_ (by kernel_rfl)).trans (by kernel_rfl)
theorem aHj_:jM_ [a0,a1,a2]=ajk_ rounds qM_ jY_ wd_ kB_ a0 a1 a2:=aFf_ rounds qM_ jY_ wd_ kB_ a0 a1 a2
def jh_:Option (List T) :=
 (ar2 fun a7 a8 =>
 Yl a8 a6 fun a9 =>
 ifT a9 (
 Y4 a1 a8 fun a11 a12 a13 a14 =>
 Ye a14 a5 fun a15 =>
 ifT a15 (
 Ye a11 a3 fun a16 =>
 ifT a16 (
 Ye a12 a4 fun a17 =>
 ifT a17 (
 Yz a8 fun a18 =>
 some [a18]) (
 Ye a11 a4 fun a18 =>
 ifT a18 (
 Ye a12 a3 fun a19 =>
 ifT a19 (
 Yz a8 fun a20 =>
 some [a20]) (
 Ya a8 (ii 1) fun a20 =>
 k0 [a7,a20])) (
 Ya a8 (ii 1) fun a19 =>
 k0 [a7,a19]))) (
 Ye a11 a4 fun a17 =>
 ifT a17 (
 Ye a12 a3 fun a18 =>
 ifT a18 (
 Yz a8 fun a19 =>
 some [a19]) (
 Ya a8 (ii 1) fun a19 =>
 k0 [a7,a19])) (
 Ya a8 (ii 1) fun a18 =>
 k0 [a7,a18]))) (
 Ya a8 (ii 1) fun a16 =>
 k0 [a7,a16])) (
 Yz (ii (-1)) fun a10 =>
 some [a10])) ts
def ahq_:Option (List T) :=
 Yn a1 fun a6 =>
 iter (jh_ a1 a3 a4 a5 a6) R [ii 0,ii 0]
theorem azj_:p_i_linkAt.den (pick []) R [] [a0,a1,a2,a3,a4,a5]=ahq_ R a1 a3 a4 a5:=(zc_ (by kernel_rfl)).trans (by kernel_rfl)
theorem aC3_:vl_ [a0,a1,a2,a3,a4,a5]=ahq_ rounds a1 a3 a4 a5:=azj_ rounds a0 a1 a2 a3 a4 a5
def q2_:Option (List T) :=
 (ar2 fun a10 a11 =>
 Yn a5 fun a12 =>
 Yl a11 a12 fun a13 =>
 ifT a13 (
 Y1 a5 a11 fun a15 =>
 Ya a11 (ii 1) fun a16 =>
 Y1 a5 a16 fun a18 =>
 cl1 (f_i_linkAt [a2,a3,a4,a0,a15,a18]) fun a19 =>
 Yl a19 (ii 0) fun a20 =>
 ifT a20 (
 Yz (bb false) fun a21 =>
 some [a21]) (
 Yg a11 (ii 0) fun a21 =>
 ifT a21 (
 Ys a11 (ii 2) fun a22 =>
 Y1 a5 a22 fun a24 =>
 Yg a24 a15 fun a25 =>
 ifT a25 (
 Yz (bb false) fun a26 =>
 some [a26]) (
 Ys a11 (ii 2) fun a26 =>
 Y1 a5 a26 fun a28 =>
 Ye a28 a15 fun a29 =>
 ifT a29 (
 Ys a11 (ii 1) fun a30 =>
 Y1 a5 a30 fun a32 =>
 Yh a32 a18 fun a33 =>
 ifT a33 (
 Yz (bb false) fun a34 =>
 some [a34]) (
 Ya a11 (ii 2) fun a34 =>
 k0 [a10,a34])) (
 Ya a11 (ii 2) fun a30 =>
 k0 [a10,a30]))) (
 Ya a11 (ii 2) fun a22 =>
 k0 [a10,a22]))) (
 Yz (bb true) fun a14 =>
 some [a14])) ts
def aeg_:Option (List T) :=
 Yn a5 fun a7 =>
 pv (.bin .rem) [a7,ii 2] fun a8 =>
 Yu a8 (ii 0) fun a9 =>
 ifT a9 (
 Yz (bb false) fun a10 =>
 some [a10]) (
 iter (q2_ f_i_linkAt a0 a2 a3 a4 a5) R [bb false,ii 0])
theorem auv_:p_i_heardOk.den (pick [(172,f_i_linkAt)]) R [] [a0,a1,a2,a3,a4,a5,a6]=aeg_ R f_i_linkAt a0 a2 a3 a4 a5:=(zc_ (by kernel_rfl)).trans (by kernel_rfl)
theorem ay4_:u0_ [a0,a1,a2,a3,a4,a5,a6]=aeg_ rounds vl_ a0 a2 a3 a4 a5:=auv_ rounds vl_ a0 a1 a2 a3 a4 a5 a6
def jj_:Option (List T) :=
 (ar2 fun a9 a10 =>
 Yl a10 a8 fun a11 =>
 ifT a11 (
 Y2 a5 a10 fun a13 a14 =>
 cl1 (f_i_in [a13,ii 1,ii 6]) fun a15 =>
 Yt a15 fun a16 =>
 ifT a16 (
 Yz (bb false) fun a17 =>
 some [a17]) (
 Ye a13 a2 fun a17 =>
 ifT a17 (
 Yz (bb false) fun a18 =>
 some [a18]) (
 cl1 (f_i_in [a14,ii 1,ii 1000]) fun a18 =>
 Yt a18 fun a19 =>
 ifT a19 (
 Yz (bb false) fun a20 =>
 some [a20]) (
 Yg a10 (ii 0) fun a20 =>
 ifT a20 (
 Ys a10 (ii 1) fun a21 =>
 Yb a5 a21 fun a22 =>
 Yc 2 0 a5 a21 fun a23 =>
 Yh a23 a13 fun a24 =>
 ifT a24 (
 Yz (bb false) fun a25 =>
 some [a25]) (
 Ya a10 (ii 1) fun a25 =>
 k0 [a9,a25])) (
 Ya a10 (ii 1) fun a21 =>
 k0 [a9,a21]))))) (
 Yz (bb true) fun a12 =>
 some [a12])) ts
def af5_:Option (List T) :=
 Yn a5 fun a8 =>
 iter (jj_ f_i_in a2 a5 a8) R [bb false,ii 0]
theorem ayb_:p_i_nearOk.den (pick [(69,f_i_in)]) R [] [a0,a1,a2,a3,a4,a5,a6,a7]=af5_ R f_i_in a2 a5:=(zc_ (by kernel_rfl)).trans (by kernel_rfl)
theorem aD1_:qQ_ [a0,a1,a2,a3,a4,a5,a6,a7]=af5_ rounds wd_ a2 a5:=ayb_ rounds wd_ a0 a1 a2 a3 a4 a5 a6 a7
def acd_:Option (List T) :=
 cl1 (f_i_in [a2,ii 1,ii 6]) fun a8 =>
 Yt a8 fun a9 =>
 ifT a9 (
 Yz (bb false) fun a10 =>
 some [a10]) (
 cl1 (f_i_in [a4,ii 1,ii 100000]) fun a10 =>
 Yt a10 fun a11 =>
 ifT a11 (
 Yz (bb false) fun a12 =>
 some [a12]) (
 Ye a1 (ii 1) fun a12 =>
 ifT a12 (
 cl1 (f_i_in [a0,ii 0,ii 2]) fun a13 =>
 ifT a13 (
 Ye a3 (ii 0) fun a14 =>
 ifT a14 (
 cl1 (f_i_nearOk [a0,a1,a2,a3,a4,a5,a6,a7]) fun a15 =>
 ifT a15 (
 Ye a6 (ii 0) fun a16 =>
 ifT a16 (
 Yt a7 fun a17 =>
 Yz a17 fun a18 =>
 some [a18]) (
 Yz (bb false) fun a17 =>
 some [a17])) (
 Yz (bb false) fun a16 =>
 some [a16])) (
 Yz (bb false) fun a15 =>
 some [a15])) (
 Yz (bb false) fun a14 =>
 some [a14])) (
 Ye a1 (ii 2) fun a13 =>
 ifT a13 (
 cl1 (f_i_in [a0,ii 0,ii 2]) fun a14 =>
 ifT a14 (
 cl1 (f_i_in [a3,ii 1,ii 6]) fun a15 =>
 ifT a15 (
 Yn a5 fun a16 =>
 Ye a16 (ii 0) fun a17 =>
 ifT a17 (
 cl1 (f_i_in [a6,ii 0,ii 60000]) fun a18 =>
 ifT a18 (
 Yt a7 fun a19 =>
 Yz a19 fun a20 =>
 some [a20]) (
 Yz (bb false) fun a19 =>
 some [a19])) (
 Yz (bb false) fun a18 =>
 some [a18])) (
 Yz (bb false) fun a16 =>
 some [a16])) (
 Yz (bb false) fun a15 =>
 some [a15])) (
 Ye a1 (ii 3) fun a14 =>
 ifT a14 (
 Ye a0 (ii 9) fun a15 =>
 ifT a15 (
 cl1 (f_i_in [a3,ii 1,ii 9]) fun a16 =>
 ifT a16 (
 Yn a5 fun a17 =>
 Ye a17 (ii 0) fun a18 =>
 ifT a18 (
 cl1 (f_i_in [a6,ii 1,ii 1000]) fun a19 =>
 ifT a19 (
 Yz (bb true) fun a20 =>
 some [a20]) (
 Ye a6 (ii 60000) fun a20 =>
 Yz a20 fun a21 =>
 some [a21])) (
 Yz (bb false) fun a19 =>
 some [a19])) (
 Yz (bb false) fun a17 =>
 some [a17])) (
 Yz (bb false) fun a16 =>
 some [a16])) (
 Yz (bb false) fun a15 =>
 some [a15])))))
theorem ar5_:p_i_RecordOk.den (pick [(69,f_i_in),(222,f_i_nearOk)]) R [] [a0,a1,a2,a3,a4,a5,a6,a7]=acd_ f_i_in f_i_nearOk a0 a1 a2 a3 a4 a5 a6 a7:=(zc_ (by kernel_rfl)).trans (by kernel_rfl)
theorem aur_:uu_ [a0,a1,a2,a3,a4,a5,a6,a7]=acd_ wd_ qQ_ a0 a1 a2 a3 a4 a5 a6 a7:=ar5_ rounds wd_ qQ_ a0 a1 a2 a3 a4 a5 a6 a7
def ahi_:Option (List T) :=
 Yu a0 a8 fun a16 =>
 ifT a16 (
 Yl a0 a8 fun a17 =>
 Yz a17 fun a18 =>
 some [a18]) (
 Yu a1 a9 fun a17 =>
 ifT a17 (
 Yl a1 a9 fun a18 =>
 Yz a18 fun a19 =>
 some [a19]) (
 Yu a2 a10 fun a18 =>
 ifT a18 (
 Yl a2 a10 fun a19 =>
 Yz a19 fun a20 =>
 some [a20]) (
 Yl a3 a11 fun a19 =>
 Yz a19 fun a20 =>
 some [a20])))
theorem aAt_:p_i_Before.den (pick []) R [] [a0,a1,a2,a3,a4,a5,a6,a7,a8,a9,a10,a11,a12,a13,a14,a15]=ahi_ a0 a1 a2 a3 a8 a9 a10 a11:=(zc_ (by kernel_rfl)).trans (by kernel_rfl)
theorem aCm_:vi_ [a0,a1,a2,a3,a4,a5,a6,a7,a8,a9,a10,a11,a12,a13,a14,a15]=ahi_ a0 a1 a2 a3 a8 a9 a10 a11:=aAt_ rounds a0 a1 a2 a3 a4 a5 a6 a7 a8 a9 a10 a11 a12 a13 a14 a15
def qT_:Option (List T) :=
 (ar2 fun a2 a3 =>
 Yl a3 a1 fun a4 =>
 ifT a4 (
 Y8 a0 a3 fun a6 a7 a8 a9 a10 a11 a12 a13 =>
 cl1 (f_i_RecordOk [a6,a7,a8,a9,a10,a11,a12,a13]) fun a14 =>
 Yt a14 fun a15 =>
 ifT a15 (
 Yz (bb false) fun a16 =>
 some [a16]) (
 Yg a3 (ii 0) fun a16 =>
 ifT a16 (
 Ys a3 (ii 1) fun a17 =>
 Y8 a0 a17 fun a19 a20 a21 a22 a23 a24 a25 a26 =>
 cl1 (f_i_Before [a19,a20,a21,a22,a23,a24,a25,a26,a6,a7,a8,a9,a10,a11,a12,a13]) fun a27 =>
 Yt a27 fun a28 =>
 ifT a28 (
 Yz (bb false) fun a29 =>
 some [a29]) (
 Ya a3 (ii 1) fun a29 =>
 k0 [a2,a29])) (
 Ya a3 (ii 1) fun a17 =>
 k0 [a2,a17]))) (
 Yn a0 fun a5 =>
 Ym a5 (ii 150) fun a6 =>
 Yz a6 fun a7 =>
 some [a7])) ts
def adz_:Option (List T) :=
 Yn a0 fun a1 =>
 iter (qT_ f_i_Before f_i_RecordOk a0 a1) R [bb false,ii 0]
theorem auu_:p_i_StoreOk.den (pick [(162,f_i_Before),(173,f_i_RecordOk)]) R [] [a0]=adz_ R f_i_Before f_i_RecordOk a0:=(zc_ (by kernel_rfl)).trans (by kernel_rfl)
theorem aAp_:wV_ [a0]=adz_ rounds vi_ uu_ a0:=auu_ rounds vi_ uu_ a0
def agh_:Option (List T) :=
 cl1 (f_i_NetOk [a2,a3,a4]) fun a7 =>
 ifT a7 (
 cl1 (f_i_in [a0,ii 1,a2]) fun a8 =>
 ifT a8 (
 cl1 (f_i_in [a1,ii 0,ii 90]) fun a9 =>
 ifT a9 (
 cl1 (f_i_heardOk [a0,a1,a2,a3,a4,a5,a6]) fun a10 =>
 ifT a10 (
 cl1 (f_i_StoreOk [a6]) fun a11 =>
 Yz a11 fun a12 =>
 some [a12]) (
 Yz (bb false) fun a11 =>
 some [a11])) (
 Yz (bb false) fun a10 =>
 some [a10])) (
 Yz (bb false) fun a9 =>
 some [a9])) (
 Yz (bb false) fun a8 =>
 some [a8])
theorem aAq_:p_i_SelfOk.den (pick [(68,f_i_NetOk),(69,f_i_in),(70,f_i_heardOk),(71,f_i_StoreOk)]) R [] [a0,a1,a2,a3,a4,a5,a6]=agh_ f_i_NetOk f_i_StoreOk f_i_heardOk f_i_in a0 a1 a2 a3 a4 a5 a6:=(zc_ (by kernel_rfl)).trans (by kernel_rfl)
theorem aEo_:wg_ [a0,a1,a2,a3,a4,a5,a6]=agh_ jM_ wV_ u0_ wd_ a0 a1 a2 a3 a4 a5 a6:=aAq_ rounds jM_ wV_ u0_ wd_ a0 a1 a2 a3 a4 a5 a6
def z9_:Option (List T) :=
 (ar1 fun a15 =>
 Yn a5 fun a16 =>
 Yl a15 a16 fun a17 =>
 ifT a17 (
 Yq a5 a15 fun a19 =>
 Yl a19 a12 fun a20 =>
 ifT a20 (
 Ya a15 (ii 1) fun a21 =>
 k2 [a21]) (
 Yn a5 fun a21 =>
 Yl a15 a21 fun a22 =>
 ifT a22 (
 Yq a5 a15 fun a24 =>
 Ye a24 a12 fun a25 =>
 ifT a25 (
 k1 [a5]) (
 Yw a5 a15 fun a26 =>
 cl1 (f_i_copyInts [a26]) fun a27 =>
 Yx a12 fun a28 =>
 Yp a27 a28 fun a29 =>
 Yv a5 a15 fun a30 =>
 Yp a29 a30 fun a31 =>
 k1 [a31])) (
 Yw a5 a15 fun a23 =>
 cl1 (f_i_copyInts [a23]) fun a24 =>
 Yx a12 fun a25 =>
 Yp a24 a25 fun a26 =>
 Yv a5 a15 fun a27 =>
 Yp a26 a27 fun a28 =>
 k1 [a28]))) (
 Yn a5 fun a18 =>
 Yl a15 a18 fun a19 =>
 ifT a19 (
 Yq a5 a15 fun a21 =>
 Ye a21 a12 fun a22 =>
 ifT a22 (
 k1 [a5]) (
 Yw a5 a15 fun a23 =>
 cl1 (f_i_copyInts [a23]) fun a24 =>
 Yx a12 fun a25 =>
 Yp a24 a25 fun a26 =>
 Yv a5 a15 fun a27 =>
 Yp a26 a27 fun a28 =>
 k1 [a28])) (
 Yw a5 a15 fun a20 =>
 cl1 (f_i_copyInts [a20]) fun a21 =>
 Yx a12 fun a22 =>
 Yp a21 a22 fun a23 =>
 Yv a5 a15 fun a24 =>
 Yp a23 a24 fun a25 =>
 k1 [a25]))) ts
def yb_:Option (List T) :=
 (ar1 fun a14 =>
 Yn a5 fun a15 =>
 Yl a14 a15 fun a16 =>
 ifT a16 (
 Yq a5 a14 fun a18 =>
 Yl a18 a12 fun a19 =>
 ifT a19 (
 Ya a14 (ii 1) fun a20 =>
 k2 [a20]) (
 Yn a5 fun a20 =>
 Yl a14 a20 fun a21 =>
 ifT a21 (
 Yq a5 a14 fun a23 =>
 Ye a23 a12 fun a24 =>
 ifT a24 (
 k1 [a5]) (
 Yw a5 a14 fun a25 =>
 cl1 (f_i_copyInts [a25]) fun a26 =>
 Yx a12 fun a27 =>
 Yp a26 a27 fun a28 =>
 Yv a5 a14 fun a29 =>
 Yp a28 a29 fun a30 =>
 k1 [a30])) (
 Yw a5 a14 fun a22 =>
 cl1 (f_i_copyInts [a22]) fun a23 =>
 Yx a12 fun a24 =>
 Yp a23 a24 fun a25 =>
 Yv a5 a14 fun a26 =>
 Yp a25 a26 fun a27 =>
 k1 [a27]))) (
 Yn a5 fun a17 =>
 Yl a14 a17 fun a18 =>
 ifT a18 (
 Yq a5 a14 fun a20 =>
 Ye a20 a12 fun a21 =>
 ifT a21 (
 k1 [a5]) (
 Yw a5 a14 fun a22 =>
 cl1 (f_i_copyInts [a22]) fun a23 =>
 Yx a12 fun a24 =>
 Yp a23 a24 fun a25 =>
 Yv a5 a14 fun a26 =>
 Yp a25 a26 fun a27 =>
 k1 [a27])) (
 Yw a5 a14 fun a19 =>
 cl1 (f_i_copyInts [a19]) fun a20 =>
 Yx a12 fun a21 =>
 Yp a20 a21 fun a22 =>
 Yv a5 a14 fun a23 =>
 Yp a22 a23 fun a24 =>
 k1 [a24]))) ts
def yn_:Option (List T) :=
 (ar2 fun a5 a6 =>
 Yl a6 a4 fun a7 =>
 ifT a7 (
 Y4 a1 a6 fun a9 a10 a11 a12 =>
 Ye a9 a3 fun a13 =>
 ifT a13 (
 jn (ar1 fun a14 =>
 Ya a6 (ii 1) fun a15 =>
 k0 [a14,a15]) fun k1 =>
 iter (yb_ f_i_copyInts a5 a12 k1) R [ii 0]) (
 Ye a10 a3 fun a14 =>
 jn (ar1 fun a15 =>
 Ya a6 (ii 1) fun a16 =>
 k0 [a15,a16]) fun k1 =>
 ifT a14 (
 iter (z9_ f_i_copyInts a5 a12 k1) R [ii 0]) (
 k1 [a5]))) (
 some [a5])) ts
def aen_:Option (List T) :=
 Yn a1 fun a4 =>
 iter (yn_ R f_i_copyInts a1 a3 a4) R [.l [],ii 0]
theorem atk_:p_i_AreasOf.den (pick [(156,f_i_copyInts)]) R [] [a0,a1,a2,a3]=aen_ R f_i_copyInts a1 a3:=(zc_ (by kernel_rfl)).trans (by kernel_rfl)
theorem az8_:xX_ [a0,a1,a2,a3]=aen_ rounds ya_ a1 a3:=atk_ rounds ya_ a0 a1 a2 a3
def agx_:Option (List T) :=
 cl1 (f_i_linkAt [a0,a1,a2,a3,a4,a5]) fun a6 =>
 Yh a6 (ii 0) fun a7 =>
 ifT a7 (
 Yb a1 a6 fun a8 =>
 Yc 4 2 a1 a6 fun a9 =>
 Yz a9 fun a10 =>
 some [a10]) (
 Yz (ii 0) fun a8 =>
 some [a8])
theorem axy_:p_i_CostTo.den (pick [(172,f_i_linkAt)]) R [] [a0,a1,a2,a3,a4,a5]=agx_ f_i_linkAt a0 a1 a2 a3 a4 a5:=(zc_ (by kernel_rfl)).trans (by kernel_rfl)
theorem aDm_:qW_ [a0,a1,a2,a3,a4,a5]=agx_ vl_ a0 a1 a2 a3 a4 a5:=axy_ rounds vl_ a0 a1 a2 a3 a4 a5
def uI_:Option (List T) :=
 (ar2 fun a14 a15 =>
 Yn a5 fun a16 =>
 Yl a14 a16 fun a17 =>
 ifT a17 (
 Ya a14 (ii 1) fun a18 =>
 Y1 a5 a18 fun a20 =>
 Ye a20 a13 fun a21 =>
 jn (ar1 fun a22 =>
 Ya a14 (ii 2) fun a23 =>
 k1 [a23,a22]) fun k2 =>
 ifT a21 (
 Y1 a5 a14 fun a23 =>
 Y1 a5 a14 fun a25 =>
 cl1 (f_i_CostTo [a2,a3,a4,a0,a25,a13]) fun a26 =>
 pv (.lit 2 [true,true]) [a23,a26] fun a27 =>
 pv (.app true 2) [a15,a27] fun a28 =>
 k2 [a28]) (
 k2 [a15])) (
 pv (.lit 8 [true,true,true,true,true,false,true,true]) [a13,ii 1,a0,ii 0,ii 0,a15,ii 0,bb false] fun a18 =>
 Yy a9 a18 fun a19 =>
 Ya a10 (ii 1) fun a20 =>
 k0 [a19,a20])) ts
def uO_:Option (List T) :=
 (ar2 fun a9 a10 =>
 Yl a10 a8 fun a11 =>
 ifT a11 (
 Yq a7 a10 fun a13 =>
 iter (uI_ f_i_CostTo a0 a2 a3 a4 a5 a9 a10 a13 k0) R [ii 0,.l []]) (
 some [a9])) ts
def ap0_:Option (List T) :=
 cl1 (f_i_AreasOf [a2,a3,a4,a0]) fun a7 =>
 Yn a7 fun a8 =>
 iter (uO_ R f_i_CostTo a0 a2 a3 a4 a5 a7 a8) R [.l [],ii 0]
theorem aJj_:p_i_own.den (pick [(74,f_i_AreasOf),(174,f_i_CostTo)]) R [] [a0,a1,a2,a3,a4,a5,a6]=ap0_ R f_i_AreasOf f_i_CostTo a0 a2 a3 a4 a5:=(zc_ (by kernel_rfl)).trans (by kernel_rfl)
theorem aNf_:abe_ [a0,a1,a2,a3,a4,a5,a6]=ap0_ rounds xX_ qW_ a0 a2 a3 a4 a5:=aJj_ rounds xX_ qW_ a0 a1 a2 a3 a4 a5 a6
def aer_:Option (List T) :=
 Ye a0 a8 fun a16 =>
 ifT a16 (
 Ye a1 a9 fun a17 =>
 ifT a17 (
 Ye a2 a10 fun a18 =>
 ifT a18 (
 Ye a3 a11 fun a19 =>
 Yz a19 fun a20 =>
 some [a20]) (
 Yz (bb false) fun a19 =>
 some [a19])) (
 Yz (bb false) fun a18 =>
 some [a18])) (
 Yz (bb false) fun a17 =>
 some [a17])
theorem au5_:p_i_SameKey.den (pick []) R [] [a0,a1,a2,a3,a4,a5,a6,a7,a8,a9,a10,a11,a12,a13,a14,a15]=aer_ a0 a1 a2 a3 a8 a9 a10 a11:=(zc_ (by kernel_rfl)).trans (by kernel_rfl)
theorem aAk_:x0_ [a0,a1,a2,a3,a4,a5,a6,a7,a8,a9,a10,a11,a12,a13,a14,a15]=aer_ a0 a1 a2 a3 a8 a9 a10 a11:=au5_ rounds a0 a1 a2 a3 a4 a5 a6 a7 a8 a9 a10 a11 a12 a13 a14 a15
def uJ_:Option (List T) :=
 (ar1 fun a9 =>
 Yn a0 fun a10 =>
 Yl a9 a10 fun a11 =>
 ifT a11 (
 Y8 a0 a9 fun a13 a14 a15 a16 a17 a18 a19 a20 =>
 cl1 (f_i_Before [a13,a14,a15,a16,a17,a18,a19,a20,a1,a2,a3,a4,a5,a6,a7,a8]) fun a21 =>
 ifT a21 (
 Ya a9 (ii 1) fun a22 =>
 k0 [a22]) (
 pv (.sub 8 false true) [a0,a9] fun a22 =>
 cl1 (f_i_copyRecords [a22]) fun a23 =>
 cl8 (f_i_copyRecord [a1,a2,a3,a4,a5,a6,a7,a8]) fun a24 a25 a26 a27 a28 a29 a30 a31 =>
 pv (.lit 8 [true,true,true,true,true,false,true,true]) [a24,a25,a26,a27,a28,a29,a30,a31] fun a32 =>
 Yy a23 a32 fun a33 =>
 Yn a0 fun a34 =>
 Yl a9 a34 fun a35 =>
 ifT a35 (
 Y8 a0 a9 fun a37 a38 a39 a40 a41 a42 a43 a44 =>
 cl1 (f_i_SameKey [a37,a38,a39,a40,a41,a42,a43,a44,a1,a2,a3,a4,a5,a6,a7,a8]) fun a45 =>
 jn (ar1 fun a46 =>
 pv (.sub 8 true false) [a0,a46] fun a47 =>
 cl1 (f_i_copyRecords [a47]) fun a48 =>
 Yy a33 a48 fun a49 =>
 some [a49]) fun k1 =>
 ifT a45 (
 Ya a9 (ii 1) fun a46 =>
 k1 [a46]) (
 k1 [a9])) (
 jn (ar1 fun a36 =>
 pv (.sub 8 true false) [a0,a36] fun a37 =>
 cl1 (f_i_copyRecords [a37]) fun a38 =>
 Yy a33 a38 fun a39 =>
 some [a39]) fun k1 =>
 k1 [a9]))) (
 pv (.sub 8 false true) [a0,a9] fun a12 =>
 cl1 (f_i_copyRecords [a12]) fun a13 =>
 cl8 (f_i_copyRecord [a1,a2,a3,a4,a5,a6,a7,a8]) fun a14 a15 a16 a17 a18 a19 a20 a21 =>
 pv (.lit 8 [true,true,true,true,true,false,true,true]) [a14,a15,a16,a17,a18,a19,a20,a21] fun a22 =>
 Yy a13 a22 fun a23 =>
 Yn a0 fun a24 =>
 Yl a9 a24 fun a25 =>
 ifT a25 (
 Y8 a0 a9 fun a27 a28 a29 a30 a31 a32 a33 a34 =>
 cl1 (f_i_SameKey [a27,a28,a29,a30,a31,a32,a33,a34,a1,a2,a3,a4,a5,a6,a7,a8]) fun a35 =>
 jn (ar1 fun a36 =>
 pv (.sub 8 true false) [a0,a36] fun a37 =>
 cl1 (f_i_copyRecords [a37]) fun a38 =>
 Yy a23 a38 fun a39 =>
 some [a39]) fun k1 =>
 ifT a35 (
 Ya a9 (ii 1) fun a36 =>
 k1 [a36]) (
 k1 [a9])) (
 jn (ar1 fun a26 =>
 pv (.sub 8 true false) [a0,a26] fun a27 =>
 cl1 (f_i_copyRecords [a27]) fun a28 =>
 Yy a23 a28 fun a29 =>
 some [a29]) fun k1 =>
 k1 [a9]))) ts
def ap5_:Option (List T) :=
 iter (uJ_ f_i_Before f_i_SameKey f_i_copyRecord f_i_copyRecords a0 a1 a2 a3 a4 a5 a6 a7 a8) R [ii 0]
theorem aK7_:p_i_put.den (pick [(56,f_i_copyRecords),(161,f_i_copyRecord),(162,f_i_Before),(163,f_i_SameKey)]) R [] [a0,a1,a2,a3,a4,a5,a6,a7,a8]=ap5_ R f_i_Before f_i_SameKey f_i_copyRecord f_i_copyRecords a0 a1 a2 a3 a4 a5 a6 a7 a8:=(zc_ (by kernel_rfl)).trans (by kernel_rfl)
theorem aN2_:x6_ [a0,a1,a2,a3,a4,a5,a6,a7,a8]=ap5_ rounds vi_ x0_ x7_ y4_ a0 a1 a2 a3 a4 a5 a6 a7 a8:=aK7_ rounds vi_ x0_ x7_ y4_ a0 a1 a2 a3 a4 a5 a6 a7 a8
def jm_:Option (List T) :=
 (ar2 fun a3 a4 =>
 Yl a4 a2 fun a5 =>
 ifT a5 (
 Y1 a0 a4 fun a7 =>
 Ye a7 a1 fun a8 =>
 ifT a8 (
 Yz (bb true) fun a9 =>
 some [a9]) (
 Ya a4 (ii 1) fun a9 =>
 k0 [a3,a9])) (
 Yz (bb false) fun a6 =>
 some [a6])) ts
def ahf_:Option (List T) :=
 Yn a0 fun a2 =>
 iter (jm_ a0 a1 a2) R [bb false,ii 0]
theorem az7_:p_i_hasInt.den (pick []) R [] [a0,a1]=ahf_ R a0 a1:=(zc_ (by kernel_rfl)).trans (by kernel_rfl)
theorem aDa_:wh_ [a0,a1]=ahf_ rounds a0 a1:=az7_ rounds a0 a1
def aga_:Option (List T) :=
 cl1 (f_i_AreasOf [a0,a1,a2,a3]) fun a4 =>
 cl1 (f_i_hasInt [a4,ii 0]) fun a5 =>
 ifT a5 (
 Yn a4 fun a6 =>
 Yg a6 (ii 1) fun a7 =>
 Yz a7 fun a8 =>
 some [a8]) (
 Yz (bb false) fun a6 =>
 some [a6])
theorem azo_:p_i_Border.den (pick [(74,f_i_AreasOf),(175,f_i_hasInt)]) R [] [a0,a1,a2,a3]=aga_ f_i_AreasOf f_i_hasInt a0 a1 a2 a3:=(zc_ (by kernel_rfl)).trans (by kernel_rfl)
theorem aBz_:qI_ [a0,a1,a2,a3]=aga_ xX_ wh_ a0 a1 a2 a3:=azo_ rounds xX_ wh_ a0 a1 a2 a3
def jT_:Option (List T) :=
 (ar2 fun a8 a9 =>
 Yl a9 a7 fun a10 =>
 ifT a10 (
 Y8 a2 a9 fun a12 a13 a14 a15 a16 a17 a18 a19 =>
 cl1 (f_i_put [a8,a12,a13,a14,a15,ii 1,a17,a18,a19]) fun a20 =>
 Ya a9 (ii 1) fun a21 =>
 k1 [a20,a21]) (
 some [a8])) ts
def jQ_:Option (List T) :=
 (ar2 fun a4 a5 =>
 Yl a5 a3 fun a6 =>
 ifT a6 (
 Y8 a0 a5 fun a8 a9 a10 a11 a12 a13 a14 a15 =>
 Yu a9 (ii 1) fun a16 =>
 ifT a16 (
 jn (ar1 fun a17 =>
 Ya a5 (ii 1) fun a18 =>
 k0 [a17,a18]) fun k1 =>
 pv (.lit 8 []) [a8,a9,a10,a11,a12,a13,a14,a15] fun a17 =>
 Yy a4 a17 fun a18 =>
 k1 [a18]) (
 Yu a10 a1 fun a17 =>
 jn (ar1 fun a18 =>
 Ya a5 (ii 1) fun a19 =>
 k0 [a18,a19]) fun k1 =>
 ifT a17 (
 pv (.lit 8 []) [a8,a9,a10,a11,a12,a13,a14,a15] fun a18 =>
 Yy a4 a18 fun a19 =>
 k1 [a19]) (
 k1 [a4]))) (
 Yn a2 fun a7 =>
 iter (jT_ f_i_put a2 a7) R [a4,ii 0])) ts
def avf_:Option (List T) :=
 Yn a0 fun a3 =>
 iter (jQ_ R f_i_put a0 a1 a2 a3) R [.l [],ii 0]
theorem aL1_:p_i_by.den (pick [(57,f_i_put)]) R [] [a0,a1,a2]=avf_ R f_i_put a0 a1 a2:=(zc_ (by kernel_rfl)).trans (by kernel_rfl)
theorem aOf_:afv_ [a0,a1,a2]=avf_ rounds x6_ a0 a1 a2:=aL1_ rounds x6_ a0 a1 a2
def kh_:Option (List T) :=
 (ar2 fun a10 a11 =>
 Yl a11 a9 fun a12 =>
 ifT a12 (
 Y8 a0 a11 fun a14 a15 a16 a17 a18 a19 a20 a21 =>
 cl1 (f_i_SameKey [a14,a15,a16,a17,a18,a19,a20,a21,a1,a2,a3,a4,a5,a6,a7,a8]) fun a22 =>
 ifT a22 (
 Yz a11 fun a23 =>
 some [a23]) (
 Ya a11 (ii 1) fun a23 =>
 k0 [a10,a23])) (
 Yz (ii (-1)) fun a13 =>
 some [a13])) ts
def aj2_:Option (List T) :=
 Yn a0 fun a9 =>
 iter (kh_ f_i_SameKey a0 a1 a2 a3 a4 a5 a6 a7 a8 a9) R [ii 0,ii 0]
theorem aCs_:p_i_keyAt.den (pick [(163,f_i_SameKey)]) R [] [a0,a1,a2,a3,a4,a5,a6,a7,a8]=aj2_ R f_i_SameKey a0 a1 a2 a3 a4 a5 a6 a7 a8:=(zc_ (by kernel_rfl)).trans (by kernel_rfl)
theorem aIv_:xj_ [a0,a1,a2,a3,a4,a5,a6,a7,a8]=aj2_ rounds x0_ a0 a1 a2 a3 a4 a5 a6 a7 a8:=aCs_ rounds x0_ a0 a1 a2 a3 a4 a5 a6 a7 a8
def q6_:Option (List T) :=
 (ar2 fun a9 a10 =>
 Yl a10 a8 fun a11 =>
 ifT a11 (
 Y2 a7 a10 fun a13 a14 =>
 Ye a13 a3 fun a15 =>
 ifT a15 (
 Yz a14 fun a16 =>
 some [a16]) (
 Ya a10 (ii 1) fun a16 =>
 k0 [a9,a16])) (
 Yz (ii 0) fun a12 =>
 some [a12])) ts
def al9_:Option (List T) :=
 cl1 (f_i_keyAt [a0,a1,ii 1,a2,ii 0,ii 0,.l [],ii 0,bb false]) fun a4 =>
 Yl a4 (ii 0) fun a5 =>
 ifT a5 (
 Yz (ii 0) fun a6 =>
 some [a6]) (
 Yb a0 a4 fun a6 =>
 Yc 8 5 a0 a4 fun a7 =>
 Yn a7 fun a8 =>
 iter (q6_ a3 a7 a8) R [ii 0,ii 0])
theorem aF9_:p_i_told.den (pick [(157,f_i_keyAt)]) R [] [a0,a1,a2,a3]=al9_ R f_i_keyAt a0 a1 a2 a3:=(zc_ (by kernel_rfl)).trans (by kernel_rfl)
theorem aJt_:kG_ [a0,a1,a2,a3]=al9_ rounds xj_ a0 a1 a2 a3:=aF9_ rounds xj_ a0 a1 a2 a3
def ahb_:Option (List T) :=
 cl1 (f_i_told [a0,a1,a3,a2]) fun a4 =>
 Ye a4 (ii 0) fun a5 =>
 ifT a5 (
 Yz (ii 0) fun a6 =>
 some [a6]) (
 cl1 (f_i_told [a0,a1,a2,a3]) fun a6 =>
 Yz a6 fun a7 =>
 some [a7])
theorem ayu_:p_i_Linked.den (pick [(244,f_i_told)]) R [] [a0,a1,a2,a3]=ahb_ f_i_told a0 a1 a2 a3:=(zc_ (by kernel_rfl)).trans (by kernel_rfl)
theorem aFd_:qB_ [a0,a1,a2,a3]=ahb_ kG_ a0 a1 a2 a3:=ayu_ rounds kG_ a0 a1 a2 a3
def adv_:Option (List T) :=
 cl1 (f_i_copyInts [a2]) fun a3 =>
 Yz a1 fun a4 =>
 Yz a0 fun a5 =>
 some [a5,a4,a3]
theorem av8_:p_i_copyWay.den (pick [(156,f_i_copyInts)]) R [] [a0,a1,a2]=adv_ f_i_copyInts a0 a1 a2:=(zc_ (by kernel_rfl)).trans (by kernel_rfl)
theorem aAe_:yF_ [a0,a1,a2]=adv_ ya_ a0 a1 a2:=av8_ rounds ya_ a0 a1 a2
def ys_:Option (List T) :=
 (ar1 fun a18 =>
 Yn a14 fun a19 =>
 Yl a18 a19 fun a20 =>
 ifT a20 (
 Yq a14 a18 fun a22 =>
 Yl a22 a17 fun a23 =>
 ifT a23 (
 Ya a18 (ii 1) fun a24 =>
 k2 [a24]) (
 Yn a14 fun a24 =>
 Yl a18 a24 fun a25 =>
 ifT a25 (
 Yq a14 a18 fun a27 =>
 Ye a27 a17 fun a28 =>
 ifT a28 (
 Ya a13 (ii 1) fun a29 =>
 k1 [a29,a14]) (
 Yw a14 a18 fun a29 =>
 cl1 (f_i_copyInts [a29]) fun a30 =>
 Yx a17 fun a31 =>
 Yp a30 a31 fun a32 =>
 Yv a14 a18 fun a33 =>
 Yp a32 a33 fun a34 =>
 Ya a13 (ii 1) fun a35 =>
 k1 [a35,a34])) (
 Yw a14 a18 fun a26 =>
 cl1 (f_i_copyInts [a26]) fun a27 =>
 Yx a17 fun a28 =>
 Yp a27 a28 fun a29 =>
 Yv a14 a18 fun a30 =>
 Yp a29 a30 fun a31 =>
 Ya a13 (ii 1) fun a32 =>
 k1 [a32,a31]))) (
 Yn a14 fun a21 =>
 Yl a18 a21 fun a22 =>
 ifT a22 (
 Yq a14 a18 fun a24 =>
 Ye a24 a17 fun a25 =>
 ifT a25 (
 Ya a13 (ii 1) fun a26 =>
 k1 [a26,a14]) (
 Yw a14 a18 fun a26 =>
 cl1 (f_i_copyInts [a26]) fun a27 =>
 Yx a17 fun a28 =>
 Yp a27 a28 fun a29 =>
 Yv a14 a18 fun a30 =>
 Yp a29 a30 fun a31 =>
 Ya a13 (ii 1) fun a32 =>
 k1 [a32,a31])) (
 Yw a14 a18 fun a23 =>
 cl1 (f_i_copyInts [a23]) fun a24 =>
 Yx a17 fun a25 =>
 Yp a24 a25 fun a26 =>
 Yv a14 a18 fun a27 =>
 Yp a26 a27 fun a28 =>
 Ya a13 (ii 1) fun a29 =>
 k1 [a29,a28]))) ts
def yv_:Option (List T) :=
 (ar2 fun a13 a14 =>
 Yl a13 a12 fun a15 =>
 ifT a15 (
 Y1 a5 a13 fun a17 =>
 iter (ys_ f_i_copyInts a13 a14 a17 k1) R [ii 0]) (
 Yz a1 fun a16 =>
 Yz a0 fun a17 =>
 some [a17,a16,a14])) ts
def yw_:Option (List T) :=
 (ar1 fun a14 =>
 Yn a10 fun a15 =>
 Yl a14 a15 fun a16 =>
 ifT a16 (
 Yq a10 a14 fun a18 =>
 Yl a18 a13 fun a19 =>
 ifT a19 (
 Ya a14 (ii 1) fun a20 =>
 k1 [a20]) (
 Yn a10 fun a20 =>
 Yl a14 a20 fun a21 =>
 ifT a21 (
 Yq a10 a14 fun a23 =>
 Ye a23 a13 fun a24 =>
 ifT a24 (
 Ya a9 (ii 1) fun a25 =>
 k0 [a25,a10]) (
 Yw a10 a14 fun a25 =>
 cl1 (f_i_copyInts [a25]) fun a26 =>
 Yx a13 fun a27 =>
 Yp a26 a27 fun a28 =>
 Yv a10 a14 fun a29 =>
 Yp a28 a29 fun a30 =>
 Ya a9 (ii 1) fun a31 =>
 k0 [a31,a30])) (
 Yw a10 a14 fun a22 =>
 cl1 (f_i_copyInts [a22]) fun a23 =>
 Yx a13 fun a24 =>
 Yp a23 a24 fun a25 =>
 Yv a10 a14 fun a26 =>
 Yp a25 a26 fun a27 =>
 Ya a9 (ii 1) fun a28 =>
 k0 [a28,a27]))) (
 Yn a10 fun a17 =>
 Yl a14 a17 fun a18 =>
 ifT a18 (
 Yq a10 a14 fun a20 =>
 Ye a20 a13 fun a21 =>
 ifT a21 (
 Ya a9 (ii 1) fun a22 =>
 k0 [a22,a10]) (
 Yw a10 a14 fun a22 =>
 cl1 (f_i_copyInts [a22]) fun a23 =>
 Yx a13 fun a24 =>
 Yp a23 a24 fun a25 =>
 Yv a10 a14 fun a26 =>
 Yp a25 a26 fun a27 =>
 Ya a9 (ii 1) fun a28 =>
 k0 [a28,a27])) (
 Yw a10 a14 fun a19 =>
 cl1 (f_i_copyInts [a19]) fun a20 =>
 Yx a13 fun a21 =>
 Yp a20 a21 fun a22 =>
 Yv a10 a14 fun a23 =>
 Yp a22 a23 fun a24 =>
 Ya a9 (ii 1) fun a25 =>
 k0 [a25,a24]))) ts
def yu_:Option (List T) :=
 (ar2 fun a9 a10 =>
 Yl a9 a8 fun a11 =>
 ifT a11 (
 Y1 a2 a9 fun a13 =>
 iter (yw_ f_i_copyInts a9 a10 a13 k0) R [ii 0]) (
 Yn a5 fun a12 =>
 iter (yv_ R f_i_copyInts a0 a1 a5 a12) R [ii 0,a10])) ts
def ab7_:Option (List T) :=
 Yg a4 a1 fun a6 =>
 ifT a6 (
 cl3 (f_i_copyWay [a0,a1,a2]) fun a7 a8 a9 =>
 Yz a8 fun a10 =>
 Yz a7 fun a11 =>
 some [a11,a10,a9]) (
 Yg a1 a4 fun a7 =>
 ifT a7 (
 cl3 (f_i_copyWay [a3,a4,a5]) fun a8 a9 a10 =>
 Yz a9 fun a11 =>
 Yz a8 fun a12 =>
 some [a12,a11,a10]) (
 Yn a2 fun a8 =>
 iter (yu_ R f_i_copyInts a0 a1 a2 a5 a8) R [ii 0,.l []]))
theorem asa_:p_i_Together.den (pick [(156,f_i_copyInts),(224,f_i_copyWay)]) R [] [a0,a1,a2,a3,a4,a5]=ab7_ R f_i_copyInts f_i_copyWay a0 a1 a2 a3 a4 a5:=(zc_ (by kernel_rfl)).trans (by kernel_rfl)
theorem awx_:yN_ [a0,a1,a2,a3,a4,a5]=ab7_ rounds ya_ yF_ a0 a1 a2 a3 a4 a5:=asa_ rounds ya_ yF_ a0 a1 a2 a3 a4 a5
def yh_:Option (List T) :=
 (ar2 fun a20 a21 =>
 Ym a20 (ii 6) fun a22 =>
 ifT a22 (
 cl1 (f_i_Linked [a0,a1,a14,a20]) fun a23 =>
 Ye a23 (ii 0) fun a24 =>
 ifT a24 (
 Ya a20 (ii 1) fun a25 =>
 k2 [a25,a21]) (
 Ye a20 a2 fun a25 =>
 ifT a25 (
 Ya a20 (ii 1) fun a26 =>
 k2 [a26,a21]) (
 Yb a21 a14 fun a26 =>
 pv (.scell 3 1) [a21,a14] fun a27 =>
 Ya a27 a23 fun a28 =>
 Yb a21 a14 fun a29 =>
 Yc 3 2 a21 a14 fun a30 =>
 cl1 (f_i_copyInts [a30]) fun a31 =>
 Ye a14 a2 fun a32 =>
 jn (ar1 fun a33 =>
 Y3 a21 a20 fun a35 a36 a37 =>
 Ye a35 (ii 0) fun a38 =>
 ifT a38 (
 jn (ar1 fun a39 =>
 Ya a20 (ii 1) fun a40 =>
 k2 [a40,a39]) fun k3 =>
 Yb a21 a20 fun a39 =>
 pv (.putD [true,true,false] 3 0) [a21,a20,a20,a28,a33] fun a40 =>
 k3 [a40]) (
 Yl a28 a36 fun a39 =>
 jn (ar1 fun a40 =>
 Ya a20 (ii 1) fun a41 =>
 k2 [a41,a40]) fun k3 =>
 ifT a39 (
 Yb a21 a20 fun a40 =>
 pv (.putD [true,true,false] 3 0) [a21,a20,a20,a28,a33] fun a41 =>
 k3 [a41]) (
 Ye a28 a36 fun a40 =>
 jn (ar1 fun a41 =>
 k3 [a41]) fun k4 =>
 ifT a40 (
 cl3 (f_i_Together [a35,a36,a37,a20,a28,a33]) fun a41 a42 a43 =>
 Yb a21 a20 fun a44 =>
 pv (.putD [true,true,false] 3 0) [a21,a20,a41,a42,a43] fun a45 =>
 k4 [a45]) (
 k4 [a21])))) fun k3 =>
 ifT a32 (
 Yx a20 fun a33 =>
 k3 [a33]) (
 k3 [a31])))) (
 k0 [a19,a21])) ts
def yj_:Option (List T) :=
 (ar3 fun a19 a20 a21 =>
 Yl a20 a18 fun a22 =>
 ifT a22 (
 Yb a13 a20 fun a23 =>
 pv (.scell 3 0) [a13,a20] fun a24 =>
 pv (.scell 3 1) [a13,a20] fun a25 =>
 pv (.dig 3 2) [a13,a20] fun a26 =>
 pv (.tk1) [a21,a20] fun a27 =>
 Yu a24 (ii 0) fun a28 =>
 jn (ar1 fun a29 =>
 Ya a20 (ii 1) fun a30 =>
 k2 [a29,a30,a27]) fun k3 =>
 ifT a28 (
 pv (.lit 3 [true,true,false]) [a24,a25,a26] fun a29 =>
 Yo a19 a29 fun a30 =>
 k3 [a30]) (
 k3 [a19])) (
 some [a19])) ts
def yi_:Option (List T) :=
 (ar2 fun a14 a15 =>
 Ym a15 (ii 6) fun a16 =>
 ifT a16 (
 Yb a13 a15 fun a17 =>
 pv (.scell 3 0) [a13,a15] fun a18 =>
 Yu a18 (ii 0) fun a19 =>
 ifT a19 (
 cl1 (f_i_hasInt [a12,a15]) fun a20 =>
 Yt a20 fun a21 =>
 ifT a21 (
 Ye a14 (ii 0) fun a22 =>
 ifT a22 (
 jn (ar1 fun a23 =>
 Ya a15 (ii 1) fun a24 =>
 k1 [a23,a24]) fun k2 =>
 k2 [a15]) (
 Yb a13 a15 fun a23 =>
 pv (.scell 3 1) [a13,a15] fun a24 =>
 Yb a13 a14 fun a25 =>
 pv (.scell 3 1) [a13,a14] fun a26 =>
 Yl a24 a26 fun a27 =>
 jn (ar1 fun a28 =>
 Ya a15 (ii 1) fun a29 =>
 k1 [a28,a29]) fun k2 =>
 ifT a27 (
 k2 [a15]) (
 k2 [a14]))) (
 jn (ar1 fun a22 =>
 Ya a15 (ii 1) fun a23 =>
 k1 [a22,a23]) fun k2 =>
 k2 [a14])) (
 jn (ar1 fun a20 =>
 Ya a15 (ii 1) fun a21 =>
 k1 [a20,a21]) fun k2 =>
 k2 [a14])) (
 Ye a14 (ii 0) fun a17 =>
 ifT a17 (
 Yn a13 fun a18 =>
 iter (yj_ a13 a18) R [.l [],ii 0,a13]) (
 Yx a14 fun a18 =>
 Yp a12 a18 fun a19 =>
 iter (yh_ f_i_Linked f_i_Together f_i_copyInts a0 a1 a2 a14 a19 k0) R [ii 1,a13]))) ts
def yd_:Option (List T) :=
 (ar2 fun a12 a13 =>
 iter (yi_ R f_i_Linked f_i_Together f_i_copyInts f_i_hasInt a0 a1 a2 a12 a13 k0) R [ii 0,ii 1]) ts
def agc_:Option (List T) :=
 cl1 (f_i_StoreOk [a0]) fun a3 =>
 Yt a3 fun a4 =>
 ifT a4 (
 some [.l []]) (
 cl1 (f_i_in [a2,ii 1,ii 6]) fun a5 =>
 Yt a5 fun a6 =>
 ifT a6 (
 some [.l []]) (
 cl1 (f_i_keyAt [a0,a1,ii 1,a2,ii 0,ii 0,.l [],ii 0,bb false]) fun a7 =>
 Yl a7 (ii 0) fun a8 =>
 ifT a8 (
 some [.l []]) (
 pv (.mk) [ii 7,ii 7,ii 0,ii 0,.l []] fun a9 =>
 Yb a9 a2 fun a10 =>
 pv (.put true 3 0 1) [a9,a2,a2] fun a11 =>
 iter (yd_ R f_i_Linked f_i_Together f_i_copyInts f_i_hasInt a0 a1 a2) R [.l [],a11])))
theorem axt_:p_i_WaysIn.den (pick [(69,f_i_in),(71,f_i_StoreOk),(156,f_i_copyInts),(157,f_i_keyAt),(175,f_i_hasInt),(227,f_i_Together),(239,f_i_Linked)]) R [] [a0,a1,a2]=agc_ R f_i_Linked f_i_StoreOk f_i_Together f_i_copyInts f_i_hasInt f_i_in f_i_keyAt a0 a1 a2:=(zc_ (by kernel_rfl)).trans (by kernel_rfl)
theorem aCd_:wj_ [a0,a1,a2]=agc_ rounds qB_ wV_ yN_ ya_ wh_ wd_ xj_ a0 a1 a2:=axt_ rounds qB_ wV_ yN_ ya_ wh_ wd_ xj_ a0 a1 a2
def kf_:Option (List T) :=
 (ar2 fun a3 a4 =>
 Yl a4 a2 fun a5 =>
 ifT a5 (
 Y3 a0 a4 fun a7 a8 a9 =>
 Ye a7 a1 fun a10 =>
 ifT a10 (
 cl3 (f_i_copyWay [a7,a8,a9]) fun a11 a12 a13 =>
 Yz (bb true) fun a14 =>
 Yz a12 fun a15 =>
 Yz a11 fun a16 =>
 some [a16,a15,a13,a14]) (
 Ya a4 (ii 1) fun a11 =>
 k0 [a3,a11])) (
 Yz (bb false) fun a6 =>
 Yz (ii 0) fun a7 =>
 Yz (ii 0) fun a8 =>
 some [a8,a7,.l [],a6])) ts
def ai2_:Option (List T) :=
 Yn a0 fun a2 =>
 iter (kf_ f_i_copyWay a0 a1 a2) R [bb false,ii 0]
theorem aCb_:p_i_WayTo.den (pick [(224,f_i_copyWay)]) R [] [a0,a1]=ai2_ R f_i_copyWay a0 a1:=(zc_ (by kernel_rfl)).trans (by kernel_rfl)
theorem aHf_:vT_ [a0,a1]=ai2_ rounds yF_ a0 a1:=aCb_ rounds yF_ a0 a1
def yr_:Option (List T) :=
 (ar1 fun a19 =>
 Yn a11 fun a20 =>
 Yl a19 a20 fun a21 =>
 ifT a21 (
 Yb a11 a19 fun a22 =>
 pv (.scell 3 0) [a11,a19] fun a23 =>
 Yl a23 a16 fun a24 =>
 ifT a24 (
 Ya a19 (ii 1) fun a25 =>
 k2 [a25]) (
 Yn a11 fun a25 =>
 Yl a19 a25 fun a26 =>
 ifT a26 (
 Yb a11 a19 fun a27 =>
 pv (.scell 3 0) [a11,a19] fun a28 =>
 Ye a28 a16 fun a29 =>
 ifT a29 (
 Y3 a11 a19 fun a31 a32 a33 =>
 cl3 (f_i_Together [a31,a32,a33,a16,a17,a18]) fun a34 a35 a36 =>
 Yb a11 a19 fun a37 =>
 pv (.putD [true,true,false] 3 0) [a11,a19,a34,a35,a36] fun a38 =>
 Ya a12 (ii 1) fun a39 =>
 k1 [a38,a39,a13]) (
 pv (.sub 3 false true) [a11,a19] fun a30 =>
 pv (.tkn) [a11,ii 0,a30] fun a31 =>
 Yo (.l []) a30 fun a32 =>
 cl3 (f_i_copyWay [a16,a17,a18]) fun a33 a34 a35 =>
 pv (.lit 3 [true,true,false]) [a33,a34,a35] fun a36 =>
 Yo a32 a36 fun a37 =>
 pv (.sub 3 true false) [a11,a19] fun a38 =>
 pv (.tkn) [a31,a19,a38] fun a39 =>
 Yo a37 a38 fun a40 =>
 Ya a12 (ii 1) fun a41 =>
 k1 [a40,a41,a13])) (
 pv (.sub 3 false true) [a11,a19] fun a27 =>
 pv (.tkn) [a11,ii 0,a27] fun a28 =>
 Yo (.l []) a27 fun a29 =>
 cl3 (f_i_copyWay [a16,a17,a18]) fun a30 a31 a32 =>
 pv (.lit 3 [true,true,false]) [a30,a31,a32] fun a33 =>
 Yo a29 a33 fun a34 =>
 pv (.sub 3 true false) [a11,a19] fun a35 =>
 pv (.tkn) [a28,a19,a35] fun a36 =>
 Yo a34 a35 fun a37 =>
 Ya a12 (ii 1) fun a38 =>
 k1 [a37,a38,a13]))) (
 Yn a11 fun a22 =>
 Yl a19 a22 fun a23 =>
 ifT a23 (
 Yb a11 a19 fun a24 =>
 pv (.scell 3 0) [a11,a19] fun a25 =>
 Ye a25 a16 fun a26 =>
 ifT a26 (
 Y3 a11 a19 fun a28 a29 a30 =>
 cl3 (f_i_Together [a28,a29,a30,a16,a17,a18]) fun a31 a32 a33 =>
 Yb a11 a19 fun a34 =>
 pv (.putD [true,true,false] 3 0) [a11,a19,a31,a32,a33] fun a35 =>
 Ya a12 (ii 1) fun a36 =>
 k1 [a35,a36,a13]) (
 pv (.sub 3 false true) [a11,a19] fun a27 =>
 pv (.tkn) [a11,ii 0,a27] fun a28 =>
 Yo (.l []) a27 fun a29 =>
 cl3 (f_i_copyWay [a16,a17,a18]) fun a30 a31 a32 =>
 pv (.lit 3 [true,true,false]) [a30,a31,a32] fun a33 =>
 Yo a29 a33 fun a34 =>
 pv (.sub 3 true false) [a11,a19] fun a35 =>
 pv (.tkn) [a28,a19,a35] fun a36 =>
 Yo a34 a35 fun a37 =>
 Ya a12 (ii 1) fun a38 =>
 k1 [a37,a38,a13])) (
 pv (.sub 3 false true) [a11,a19] fun a24 =>
 pv (.tkn) [a11,ii 0,a24] fun a25 =>
 Yo (.l []) a24 fun a26 =>
 cl3 (f_i_copyWay [a16,a17,a18]) fun a27 a28 a29 =>
 pv (.lit 3 [true,true,false]) [a27,a28,a29] fun a30 =>
 Yo a26 a30 fun a31 =>
 pv (.sub 3 true false) [a11,a19] fun a32 =>
 pv (.tkn) [a25,a19,a32] fun a33 =>
 Yo a31 a32 fun a34 =>
 Ya a12 (ii 1) fun a35 =>
 k1 [a34,a35,a13]))) ts
def yH_:Option (List T) :=
 (ar3 fun a11 a12 a13 =>
 Yl a12 a10 fun a14 =>
 ifT a14 (
 Y3 a13 a12 fun a16 a17 a18 =>
 iter (yr_ f_i_Together f_i_copyWay a11 a12 a13 a16 a17 a18 k1) R [ii 0]) (
 Ya a5 (ii 1) fun a15 =>
 k0 [a11,a15])) ts
def yG_:Option (List T) :=
 (ar2 fun a4 a5 =>
 Yl a5 a3 fun a6 =>
 ifT a6 (
 Y1 a1 a5 fun a8 =>
 cl1 (f_i_WaysIn [a0,a8,a2]) fun a9 =>
 Yn a9 fun a10 =>
 iter (yH_ R f_i_Together f_i_copyWay a5 a10 k0) R [a4,ii 0,a9]) (
 some [a4])) ts
def js_:Option (List T) :=
 Yn a1 fun a3 =>
 iter (yG_ R f_i_Together f_i_WaysIn f_i_copyWay a0 a1 a2 a3) R [.l [],ii 0]
theorem ak1_:p_i_RoutesWithin.den (pick [(176,f_i_WaysIn),(224,f_i_copyWay),(227,f_i_Together)]) R [] [a0,a1,a2]=js_ R f_i_Together f_i_WaysIn f_i_copyWay a0 a1 a2:=(zc_ (by kernel_rfl)).trans (by kernel_rfl)
theorem amh_:xB_ [a0,a1,a2]=js_ rounds yN_ wj_ yF_ a0 a1 a2:=ak1_ rounds yN_ wj_ yF_ a0 a1 a2
def zg_:Option (List T) :=
 (ar1 fun a36 =>
 Yn a6 fun a37 =>
 Yl a36 a37 fun a38 =>
 ifT a38 (
 Yb a6 a36 fun a39 =>
 pv (.scell 3 0) [a6,a36] fun a40 =>
 Yl a40 a13 fun a41 =>
 ifT a41 (
 Ya a36 (ii 1) fun a42 =>
 k1 [a42]) (
 Yn a6 fun a42 =>
 Yl a36 a42 fun a43 =>
 ifT a43 (
 Yb a6 a36 fun a44 =>
 pv (.scell 3 0) [a6,a36] fun a45 =>
 Ye a45 a13 fun a46 =>
 ifT a46 (
 Y3 a6 a36 fun a48 a49 a50 =>
 cl3 (f_i_Together [a48,a49,a50,a13,a35,a30]) fun a51 a52 a53 =>
 Yb a6 a36 fun a54 =>
 pv (.putD [true,true,false] 3 0) [a6,a36,a51,a52,a53] fun a55 =>
 Ya a7 (ii 1) fun a56 =>
 k0 [a55,a56]) (
 pv (.sub 3 false true) [a6,a36] fun a47 =>
 pv (.tkn) [a6,ii 0,a47] fun a48 =>
 Yo (.l []) a47 fun a49 =>
 cl3 (f_i_copyWay [a13,a35,a30]) fun a50 a51 a52 =>
 pv (.lit 3 [true,true,false]) [a50,a51,a52] fun a53 =>
 Yo a49 a53 fun a54 =>
 pv (.sub 3 true false) [a6,a36] fun a55 =>
 pv (.tkn) [a48,a36,a55] fun a56 =>
 Yo a54 a55 fun a57 =>
 Ya a7 (ii 1) fun a58 =>
 k0 [a57,a58])) (
 pv (.sub 3 false true) [a6,a36] fun a44 =>
 pv (.tkn) [a6,ii 0,a44] fun a45 =>
 Yo (.l []) a44 fun a46 =>
 cl3 (f_i_copyWay [a13,a35,a30]) fun a47 a48 a49 =>
 pv (.lit 3 [true,true,false]) [a47,a48,a49] fun a50 =>
 Yo a46 a50 fun a51 =>
 pv (.sub 3 true false) [a6,a36] fun a52 =>
 pv (.tkn) [a45,a36,a52] fun a53 =>
 Yo a51 a52 fun a54 =>
 Ya a7 (ii 1) fun a55 =>
 k0 [a54,a55]))) (
 Yn a6 fun a39 =>
 Yl a36 a39 fun a40 =>
 ifT a40 (
 Yb a6 a36 fun a41 =>
 pv (.scell 3 0) [a6,a36] fun a42 =>
 Ye a42 a13 fun a43 =>
 ifT a43 (
 Y3 a6 a36 fun a45 a46 a47 =>
 cl3 (f_i_Together [a45,a46,a47,a13,a35,a30]) fun a48 a49 a50 =>
 Yb a6 a36 fun a51 =>
 pv (.putD [true,true,false] 3 0) [a6,a36,a48,a49,a50] fun a52 =>
 Ya a7 (ii 1) fun a53 =>
 k0 [a52,a53]) (
 pv (.sub 3 false true) [a6,a36] fun a44 =>
 pv (.tkn) [a6,ii 0,a44] fun a45 =>
 Yo (.l []) a44 fun a46 =>
 cl3 (f_i_copyWay [a13,a35,a30]) fun a47 a48 a49 =>
 pv (.lit 3 [true,true,false]) [a47,a48,a49] fun a50 =>
 Yo a46 a50 fun a51 =>
 pv (.sub 3 true false) [a6,a36] fun a52 =>
 pv (.tkn) [a45,a36,a52] fun a53 =>
 Yo a51 a52 fun a54 =>
 Ya a7 (ii 1) fun a55 =>
 k0 [a54,a55])) (
 pv (.sub 3 false true) [a6,a36] fun a41 =>
 pv (.tkn) [a6,ii 0,a41] fun a42 =>
 Yo (.l []) a41 fun a43 =>
 cl3 (f_i_copyWay [a13,a35,a30]) fun a44 a45 a46 =>
 pv (.lit 3 [true,true,false]) [a44,a45,a46] fun a47 =>
 Yo a43 a47 fun a48 =>
 pv (.sub 3 true false) [a6,a36] fun a49 =>
 pv (.tkn) [a42,a36,a49] fun a50 =>
 Yo a48 a49 fun a51 =>
 Ya a7 (ii 1) fun a52 =>
 k0 [a51,a52]))) ts
def zh_:Option (List T) :=
 (ar1 fun a37 =>
 Yn a6 fun a38 =>
 Yl a37 a38 fun a39 =>
 ifT a39 (
 Yb a6 a37 fun a40 =>
 pv (.scell 3 0) [a6,a37] fun a41 =>
 Yl a41 a13 fun a42 =>
 ifT a42 (
 Ya a37 (ii 1) fun a43 =>
 k1 [a43]) (
 Yn a6 fun a43 =>
 Yl a37 a43 fun a44 =>
 ifT a44 (
 Yb a6 a37 fun a45 =>
 pv (.scell 3 0) [a6,a37] fun a46 =>
 Ye a46 a13 fun a47 =>
 ifT a47 (
 Y3 a6 a37 fun a49 a50 a51 =>
 cl3 (f_i_Together [a49,a50,a51,a13,a36,a31]) fun a52 a53 a54 =>
 Yb a6 a37 fun a55 =>
 pv (.putD [true,true,false] 3 0) [a6,a37,a52,a53,a54] fun a56 =>
 Ya a7 (ii 1) fun a57 =>
 k0 [a56,a57]) (
 pv (.sub 3 false true) [a6,a37] fun a48 =>
 pv (.tkn) [a6,ii 0,a48] fun a49 =>
 Yo (.l []) a48 fun a50 =>
 cl3 (f_i_copyWay [a13,a36,a31]) fun a51 a52 a53 =>
 pv (.lit 3 [true,true,false]) [a51,a52,a53] fun a54 =>
 Yo a50 a54 fun a55 =>
 pv (.sub 3 true false) [a6,a37] fun a56 =>
 pv (.tkn) [a49,a37,a56] fun a57 =>
 Yo a55 a56 fun a58 =>
 Ya a7 (ii 1) fun a59 =>
 k0 [a58,a59])) (
 pv (.sub 3 false true) [a6,a37] fun a45 =>
 pv (.tkn) [a6,ii 0,a45] fun a46 =>
 Yo (.l []) a45 fun a47 =>
 cl3 (f_i_copyWay [a13,a36,a31]) fun a48 a49 a50 =>
 pv (.lit 3 [true,true,false]) [a48,a49,a50] fun a51 =>
 Yo a47 a51 fun a52 =>
 pv (.sub 3 true false) [a6,a37] fun a53 =>
 pv (.tkn) [a46,a37,a53] fun a54 =>
 Yo a52 a53 fun a55 =>
 Ya a7 (ii 1) fun a56 =>
 k0 [a55,a56]))) (
 Yn a6 fun a40 =>
 Yl a37 a40 fun a41 =>
 ifT a41 (
 Yb a6 a37 fun a42 =>
 pv (.scell 3 0) [a6,a37] fun a43 =>
 Ye a43 a13 fun a44 =>
 ifT a44 (
 Y3 a6 a37 fun a46 a47 a48 =>
 cl3 (f_i_Together [a46,a47,a48,a13,a36,a31]) fun a49 a50 a51 =>
 Yb a6 a37 fun a52 =>
 pv (.putD [true,true,false] 3 0) [a6,a37,a49,a50,a51] fun a53 =>
 Ya a7 (ii 1) fun a54 =>
 k0 [a53,a54]) (
 pv (.sub 3 false true) [a6,a37] fun a45 =>
 pv (.tkn) [a6,ii 0,a45] fun a46 =>
 Yo (.l []) a45 fun a47 =>
 cl3 (f_i_copyWay [a13,a36,a31]) fun a48 a49 a50 =>
 pv (.lit 3 [true,true,false]) [a48,a49,a50] fun a51 =>
 Yo a47 a51 fun a52 =>
 pv (.sub 3 true false) [a6,a37] fun a53 =>
 pv (.tkn) [a46,a37,a53] fun a54 =>
 Yo a52 a53 fun a55 =>
 Ya a7 (ii 1) fun a56 =>
 k0 [a55,a56])) (
 pv (.sub 3 false true) [a6,a37] fun a42 =>
 pv (.tkn) [a6,ii 0,a42] fun a43 =>
 Yo (.l []) a42 fun a44 =>
 cl3 (f_i_copyWay [a13,a36,a31]) fun a45 a46 a47 =>
 pv (.lit 3 [true,true,false]) [a45,a46,a47] fun a48 =>
 Yo a44 a48 fun a49 =>
 pv (.sub 3 true false) [a6,a37] fun a50 =>
 pv (.tkn) [a43,a37,a50] fun a51 =>
 Yo a49 a50 fun a52 =>
 Ya a7 (ii 1) fun a53 =>
 k0 [a52,a53]))) ts
def zi_:Option (List T) :=
 (ar2 fun a6 a7 =>
 Yl a7 a5 fun a8 =>
 ifT a8 (
 Y8 a0 a7 fun a10 a11 a12 a13 a14 a15 a16 a17 =>
 Yu a11 (ii 2) fun a18 =>
 ifT a18 (
 Ya a7 (ii 1) fun a19 =>
 k0 [a6,a19]) (
 Yh a16 (ii 60000) fun a19 =>
 ifT a19 (
 Ya a7 (ii 1) fun a20 =>
 k0 [a6,a20]) (
 Ye a12 a3 fun a20 =>
 ifT a20 (
 Ya a7 (ii 1) fun a21 =>
 k0 [a6,a21]) (
 cl1 (f_i_hasInt [a1,a10]) fun a21 =>
 Yt a21 fun a22 =>
 ifT a22 (
 Ya a7 (ii 1) fun a23 =>
 k0 [a6,a23]) (
 ifT a2 (
 Yu a10 (ii 0) fun a23 =>
 ifT a23 (
 Ya a7 (ii 1) fun a24 =>
 k0 [a6,a24]) (
 cl4 (f_i_WayTo [a4,a13]) fun a24 a25 a26 a27 =>
 cl1 (f_i_WaysIn [a0,a10,a3]) fun a28 =>
 cl4 (f_i_WayTo [a28,a12]) fun a29 a30 a31 a32 =>
 ifT a27 (
 Ya a7 (ii 1) fun a33 =>
 k0 [a6,a33]) (
 Yt a32 fun a33 =>
 ifT a33 (
 Ya a7 (ii 1) fun a34 =>
 k0 [a6,a34]) (
 Ya a16 a30 fun a34 =>
 Yh a34 (ii 60000) fun a35 =>
 ifT a35 (
 Ya a7 (ii 1) fun a36 =>
 k0 [a6,a36]) (
 Ya a16 a30 fun a36 =>
 iter (zh_ f_i_Together f_i_copyWay a6 a7 a13 a31 a36 k0) R [ii 0]))))) (
 cl4 (f_i_WayTo [a4,a13]) fun a23 a24 a25 a26 =>
 cl1 (f_i_WaysIn [a0,a10,a3]) fun a27 =>
 cl4 (f_i_WayTo [a27,a12]) fun a28 a29 a30 a31 =>
 ifT a26 (
 Ya a7 (ii 1) fun a32 =>
 k0 [a6,a32]) (
 Yt a31 fun a32 =>
 ifT a32 (
 Ya a7 (ii 1) fun a33 =>
 k0 [a6,a33]) (
 Ya a16 a29 fun a33 =>
 Yh a33 (ii 60000) fun a34 =>
 ifT a34 (
 Ya a7 (ii 1) fun a35 =>
 k0 [a6,a35]) (
 Ya a16 a29 fun a35 =>
 iter (zg_ f_i_Together f_i_copyWay a6 a7 a13 a30 a35 k0) R [ii 0]))))))))) (
 some [a6])) ts
def jx_:Option (List T) :=
 cl1 (f_i_RoutesWithin [a0,a1,a3]) fun a4 =>
 Yn a0 fun a5 =>
 iter (zi_ R f_i_Together f_i_WayTo f_i_WaysIn f_i_copyWay f_i_hasInt a0 a1 a2 a3 a4 a5) R [.l [],ii 0]
theorem ak3_:p_i_RoutesBeyond.den (pick [(175,f_i_hasInt),(176,f_i_WaysIn),(178,f_i_WayTo),(179,f_i_RoutesWithin),(224,f_i_copyWay),(227,f_i_Together)]) R [] [a0,a1,a2,a3]=jx_ R f_i_RoutesWithin f_i_Together f_i_WayTo f_i_WaysIn f_i_copyWay f_i_hasInt a0 a1 a2 a3:=(zc_ (by kernel_rfl)).trans (by kernel_rfl)
theorem al1_:wS_ [a0,a1,a2,a3]=jx_ rounds xB_ yN_ vT_ wj_ yF_ wh_ a0 a1 a2 a3:=ak3_ rounds xB_ yN_ vT_ wj_ yF_ wh_ a0 a1 a2 a3
def yy_:Option (List T) :=
 (ar3 fun a18 a19 a20 =>
 Yl a18 a17 fun a21 =>
 ifT a21 (
 Y3 a20 a18 fun a23 a24 a25 =>
 cl4 (f_i_WayTo [a8,a23]) fun a26 a27 a28 a29 =>
 Yt a29 fun a30 =>
 ifT a30 (
 Yu a23 a2 fun a31 =>
 ifT a31 (
 cl1 (f_i_keyAt [a19,a3,ii 2,a2,a23,ii 0,.l [],a24,bb false]) fun a32 =>
 Yl a32 (ii 0) fun a33 =>
 jn (ar1 fun a34 =>
 Ya a18 (ii 1) fun a35 =>
 k3 [a35,a34,a20]) fun k4 =>
 ifT a33 (
 cl1 (f_i_put [a19,a3,ii 2,a2,a23,ii 0,.l [],a24,bb false]) fun a34 =>
 k4 [a34]) (
 k4 [a19])) (
 jn (ar1 fun a32 =>
 Ya a18 (ii 1) fun a33 =>
 k3 [a33,a32,a20]) fun k4 =>
 k4 [a19])) (
 jn (ar1 fun a31 =>
 Ya a18 (ii 1) fun a32 =>
 k3 [a32,a31,a20]) fun k4 =>
 k4 [a19])) (
 k2 [a19])) ts
def yz_:Option (List T) :=
 (ar3 fun a11 a12 a13 =>
 Yl a11 a10 fun a14 =>
 ifT a14 (
 Y3 a13 a11 fun a16 a17 a18 =>
 cl4 (f_i_WayTo [a8,a16]) fun a19 a20 a21 a22 =>
 Yt a22 fun a23 =>
 ifT a23 (
 Yu a16 a2 fun a24 =>
 ifT a24 (
 cl1 (f_i_keyAt [a12,a3,ii 2,a2,a16,ii 0,.l [],a17,bb false]) fun a25 =>
 Yl a25 (ii 0) fun a26 =>
 jn (ar1 fun a27 =>
 Ya a11 (ii 1) fun a28 =>
 k1 [a28,a27,a13]) fun k2 =>
 ifT a26 (
 cl1 (f_i_put [a12,a3,ii 2,a2,a16,ii 0,.l [],a17,bb false]) fun a27 =>
 k2 [a27]) (
 k2 [a12])) (
 jn (ar1 fun a25 =>
 Ya a11 (ii 1) fun a26 =>
 k1 [a26,a25,a13]) fun k2 =>
 k2 [a12])) (
 jn (ar1 fun a24 =>
 Ya a11 (ii 1) fun a25 =>
 k1 [a25,a24,a13]) fun k2 =>
 k2 [a12])) (
 Yu a3 (ii 0) fun a15 =>
 jn (ar1 fun a16 =>
 some [a16]) fun k2 =>
 ifT a15 (
 cl1 (f_i_RoutesBeyond [a0,a1,bb true,a2]) fun a16 =>
 Yn a16 fun a17 =>
 iter (yy_ f_i_WayTo f_i_keyAt f_i_put a2 a3 a8 a17 k2) R [ii 0,a12,a16]) (
 k2 [a12]))) ts
def yB_:Option (List T) :=
 (ar2 fun a5 a6 =>
 Yl a6 a4 fun a7 =>
 ifT a7 (
 Y1 a1 a6 fun a9 =>
 Yu a9 a3 fun a10 =>
 jn (ar1 fun a11 =>
 Ya a6 (ii 1) fun a12 =>
 k0 [a11,a12]) fun k1 =>
 ifT a10 (
 Yx a9 fun a11 =>
 Yp a5 a11 fun a12 =>
 k1 [a12]) (
 k1 [a5])) (
 cl1 (f_i_WaysIn [a0,a3,a2]) fun a8 =>
 cl1 (f_i_RoutesWithin [a0,a5,a2]) fun a9 =>
 Yn a9 fun a10 =>
 iter (yz_ R f_i_RoutesBeyond f_i_WayTo f_i_keyAt f_i_put a0 a1 a2 a3 a8 a10) R [ii 0,.l [],a9])) ts
def ahu_:Option (List T) :=
 Yn a1 fun a4 =>
 iter (yB_ R f_i_RoutesBeyond f_i_RoutesWithin f_i_WayTo f_i_WaysIn f_i_keyAt f_i_put a0 a1 a2 a3 a4) R [.l [],ii 0]
theorem ayz_:p_i_Beyond.den (pick [(57,f_i_put),(157,f_i_keyAt),(176,f_i_WaysIn),(178,f_i_WayTo),(179,f_i_RoutesWithin),(180,f_i_RoutesBeyond)]) R [] [a0,a1,a2,a3]=ahu_ R f_i_RoutesBeyond f_i_RoutesWithin f_i_WayTo f_i_WaysIn f_i_keyAt f_i_put a0 a1 a2 a3:=(zc_ (by kernel_rfl)).trans (by kernel_rfl)
theorem aEk_:q1_ [a0,a1,a2,a3]=ahu_ rounds wS_ xB_ vT_ wj_ xj_ x6_ a0 a1 a2 a3:=ayz_ rounds wS_ xB_ vT_ wj_ xj_ x6_ a0 a1 a2 a3
def xp_:Option (List T) :=
 (ar3 fun a26 a27 a28 =>
 Yl a27 a25 fun a29 =>
 ifT a29 (
 Y8 a28 a27 fun a31 a32 a33 a34 a35 a36 a37 a38 =>
 cl1 (f_i_put [a26,a31,a32,a33,a34,a35,a36,a37,a38]) fun a39 =>
 Ya a27 (ii 1) fun a40 =>
 k3 [a39,a40,a28]) (
 Ya a20 (ii 1) fun a30 =>
 k2 [a26,a30])) ts
def xm_:Option (List T) :=
 (ar2 fun a19 a20 =>
 Yl a20 a18 fun a21 =>
 ifT a21 (
 Yq a15 a20 fun a23 =>
 cl1 (f_i_Beyond [a17,a15,a0,a23]) fun a24 =>
 Yn a24 fun a25 =>
 iter (xp_ f_i_put a20 a25 k2) R [a19,ii 0,a24]) (
 k1 [a19,a13,a13,a13])) ts
def xb_:Option (List T) :=
 (ar2 fun a22 a23 =>
 Yl a23 a21 fun a24 =>
 ifT a24 (
 Y4 a4 a23 fun a26 a27 a28 a29 =>
 Ye a26 a0 fun a30 =>
 jn (ar1 fun a31 =>
 Ya a23 (ii 1) fun a32 =>
 k1 [a31,a32]) fun k2 =>
 ifT a30 (
 cl1 (f_i_put [a22,ii 9,ii 3,a0,a27,ii 0,.l [],a28,a29]) fun a31 =>
 k2 [a31]) (
 k2 [a22])) (
 some [a22])) ts
def xq_:Option (List T) :=
 (ar3 fun a11 a12 a13 =>
 Yl a12 a10 fun a14 =>
 ifT a14 (
 Y8 a13 a12 fun a16 a17 a18 a19 a20 a21 a22 a23 =>
 cl1 (f_i_put [a11,a16,a17,a18,a19,a20,a21,a22,a23]) fun a24 =>
 Ya a12 (ii 1) fun a25 =>
 k0 [a24,a25,a13]) (
 cl1 (f_i_AreasOf [a2,a3,a4,a0]) fun a15 =>
 cl1 (f_i_Border [a2,a3,a4,a0]) fun a16 =>
 jn (ar4 fun a17 a18 a19 a20 =>
 Yn a4 fun a21 =>
 iter (xb_ f_i_put a0 a4 a21) R [a17,ii 0]) fun k1 =>
 ifT a16 (
 cl1 (f_i_by [a6,a0,a13]) fun a17 =>
 Yn a15 fun a18 =>
 iter (xm_ R f_i_Beyond f_i_put a0 a13 a15 a17 a18 k1) R [a11,ii 0]) (
 k1 [a11,a13,a13,a13]))) ts
def ahy_:Option (List T) :=
 cl1 (f_i_SelfOk [a0,a1,a2,a3,a4,a5,a6]) fun a7 =>
 Yt a7 fun a8 =>
 ifT a8 (
 some [.l []]) (
 cl1 (f_i_own [a0,a1,a2,a3,a4,a5,a6]) fun a9 =>
 Yn a9 fun a10 =>
 iter (xq_ R f_i_AreasOf f_i_Beyond f_i_Border f_i_by f_i_put a0 a2 a3 a4 a6 a10) R [.l [],ii 0,a9])
theorem azk_:p_i_Wanted.den (pick [(13,f_i_SelfOk),(57,f_i_put),(73,f_i_own),(74,f_i_AreasOf),(75,f_i_Border),(76,f_i_by),(77,f_i_Beyond)]) R [] [a0,a1,a2,a3,a4,a5,a6]=ahy_ R f_i_AreasOf f_i_Beyond f_i_Border f_i_SelfOk f_i_by f_i_own f_i_put a0 a1 a2 a3 a4 a5 a6:=(zc_ (by kernel_rfl)).trans (by kernel_rfl)
theorem aC8_:wZ_ [a0,a1,a2,a3,a4,a5,a6]=ahy_ rounds xX_ q1_ qI_ wg_ afv_ abe_ x6_ a0 a1 a2 a3 a4 a5 a6:=azk_ rounds xX_ q1_ qI_ wg_ afv_ abe_ x6_ a0 a1 a2 a3 a4 a5 a6
def w8_:Option (List T) :=
 (ar2 fun a24 a25 =>
 Yl a25 a23 fun a26 =>
 ifT a26 (
 Y2 a5 a25 fun a28 a29 =>
 Y2 a13 a25 fun a31 a32 =>
 pv (.eqs [1,1]) [a28,a29,a31,a32] fun a33 =>
 Yt a33 fun a34 =>
 ifT a34 (
 Yz (bb false) fun a35 =>
 some [a35]) (
 Ya a25 (ii 1) fun a35 =>
 k0 [a24,a35])) (
 Yz (bb true) fun a27 =>
 some [a27])) ts
def acr_:Option (List T) :=
 cl1 (f_i_SameKey [a0,a1,a2,a3,a4,a5,a6,a7,a8,a9,a10,a11,a12,a13,a14,a15]) fun a16 =>
 Yt a16 fun a17 =>
 ifT a17 (
 Yz (bb false) fun a18 =>
 some [a18]) (
 Yu a6 a14 fun a18 =>
 ifT a18 (
 Yz (bb false) fun a19 =>
 some [a19]) (
 pv (.bb .neq) [a7,a15] fun a19 =>
 ifT a19 (
 Yz (bb false) fun a20 =>
 some [a20]) (
 Yn a5 fun a20 =>
 Yn a13 fun a21 =>
 Yu a20 a21 fun a22 =>
 ifT a22 (
 Yz (bb false) fun a23 =>
 some [a23]) (
 Yn a5 fun a23 =>
 iter (w8_ a5 a13 a23) R [bb false,ii 0]))))
theorem asu_:p_i_SameBody.den (pick [(163,f_i_SameKey)]) R [] [a0,a1,a2,a3,a4,a5,a6,a7,a8,a9,a10,a11,a12,a13,a14,a15]=acr_ R f_i_SameKey a0 a1 a2 a3 a4 a5 a6 a7 a8 a9 a10 a11 a12 a13 a14 a15:=(zc_ (by kernel_rfl)).trans (by kernel_rfl)
theorem awf_:ug_ [a0,a1,a2,a3,a4,a5,a6,a7,a8,a9,a10,a11,a12,a13,a14,a15]=acr_ rounds x0_ a0 a1 a2 a3 a4 a5 a6 a7 a8 a9 a10 a11 a12 a13 a14 a15:=asu_ rounds x0_ a0 a1 a2 a3 a4 a5 a6 a7 a8 a9 a10 a11 a12 a13 a14 a15
def adc_:Option (List T) :=
 cl1 (f_i_keyAt [a6,a7,a8,a9,a10,a11,a12,a13,a14]) fun a15 =>
 Yh a15 (ii 0) fun a16 =>
 jn (ar1 fun a17 =>
 Ya a17 (ii 1) fun a18 =>
 pv (.bin .mul) [ii 1000,a1] fun a19 =>
 Ya a19 (ii 1) fun a20 =>
 pv (.mx) [a18,a20] fun a21 =>
 Yz a21 fun a22 =>
 some [a22]) fun k0 =>
 ifT a16 (
 Yb a6 a15 fun a17 =>
 Yc 8 4 a6 a15 fun a18 =>
 k0 [a18]) (
 k0 [ii 0])
theorem aCi_:p_i_seqOf.den (pick [(157,f_i_keyAt)]) R [] [a0,a1,a2,a3,a4,a5,a6,a7,a8,a9,a10,a11,a12,a13,a14]=adc_ f_i_keyAt a1 a6 a7 a8 a9 a10 a11 a12 a13 a14:=(zc_ (by kernel_rfl)).trans (by kernel_rfl)
theorem aHm_:jG_ [a0,a1,a2,a3,a4,a5,a6,a7,a8,a9,a10,a11,a12,a13,a14]=adc_ xj_ a1 a6 a7 a8 a9 a10 a11 a12 a13 a14:=aCi_ rounds xj_ a0 a1 a2 a3 a4 a5 a6 a7 a8 a9 a10 a11 a12 a13 a14
def ahh_:Option (List T) :=
 Yu a1 (ii 1) fun a8 =>
 jn (ar1 fun a9 =>
 Yz a7 fun a10 =>
 Yz a9 fun a11 =>
 Yz a4 fun a12 =>
 Yz a3 fun a13 =>
 Yz a2 fun a14 =>
 Yz a1 fun a15 =>
 Yz a0 fun a16 =>
 some [a16,a15,a14,a13,a12,.l [],a11,a10]) fun k0 =>
 ifT a8 (
 k0 [ii 60000]) (
 k0 [a6])
theorem aFk_:p_i_gone.den (pick []) R [] [a0,a1,a2,a3,a4,a5,a6,a7]=ahh_ a0 a1 a2 a3 a4 a6 a7:=(zc_ (by kernel_rfl)).trans (by kernel_rfl)
theorem aJ8_:kE_ [a0,a1,a2,a3,a4,a5,a6,a7]=ahh_ a0 a1 a2 a3 a4 a6 a7:=aFk_ rounds a0 a1 a2 a3 a4 a5 a6 a7
def xT_:Option (List T) :=
 (ar2 fun a14 a15 =>
 Yl a15 a13 fun a16 =>
 ifT a16 (
 Y8 a6 a15 fun a18 a19 a20 a21 a22 a23 a24 a25 =>
 Yu a20 a0 fun a26 =>
 ifT a26 (
 Ya a15 (ii 1) fun a27 =>
 k1 [a14,a27]) (
 cl1 (f_i_keyAt [a11,a18,a19,a20,a21,a22,a23,a24,a25]) fun a27 =>
 Yh a27 (ii 0) fun a28 =>
 ifT a28 (
 Ya a15 (ii 1) fun a29 =>
 k1 [a14,a29]) (
 cl8 (f_i_gone [a18,a19,a20,a21,a22,a23,a24,a25]) fun a29 a30 a31 a32 a33 a34 a35 a36 =>
 cl1 (f_i_SameBody [a29,a30,a31,a32,a33,a34,a35,a36,a18,a19,a20,a21,a22,a23,a24,a25]) fun a37 =>
 Yt a37 fun a38 =>
 jn (ar2 fun a39 a40 =>
 Ya a15 (ii 1) fun a41 =>
 k1 [a39,a41]) fun k2 =>
 ifT a38 (
 cl1 (f_i_seqOf [a0,a1,a2,a3,a4,a5,a6,a18,a19,a20,a21,a22,a23,a24,a25]) fun a39 =>
 cl1 (f_i_put [a14,a29,a30,a31,a32,a39,a34,a35,a36]) fun a40 =>
 k2 [a40,a39]) (
 k2 [a14,a33])))) (
 some [a14])) ts
def xS_:Option (List T) :=
 (ar3 fun a9 a10 a11 =>
 Yl a10 a8 fun a12 =>
 ifT a12 (
 Y8 a11 a10 fun a14 a15 a16 a17 a18 a19 a20 a21 =>
 cl1 (f_i_keyAt [a6,a14,a15,a16,a17,a18,a19,a20,a21]) fun a22 =>
 Yl a22 (ii 0) fun a23 =>
 ifT a23 (
 jn (ar2 fun a24 a25 =>
 Ya a10 (ii 1) fun a26 =>
 k0 [a24,a26,a11]) fun k1 =>
 cl1 (f_i_seqOf [a0,a1,a2,a3,a4,a5,a6,a14,a15,a16,a17,a18,a19,a20,a21]) fun a24 =>
 cl1 (f_i_put [a9,a14,a15,a16,a17,a24,a19,a20,a21]) fun a25 =>
 k1 [a25,a24]) (
 Y8 a6 a22 fun a25 a26 a27 a28 a29 a30 a31 a32 =>
 cl1 (f_i_SameBody [a25,a26,a27,a28,a29,a30,a31,a32,a14,a15,a16,a17,a18,a19,a20,a21]) fun a33 =>
 Yt a33 fun a34 =>
 jn (ar2 fun a35 a36 =>
 Ya a10 (ii 1) fun a37 =>
 k0 [a35,a37,a11]) fun k1 =>
 ifT a34 (
 cl1 (f_i_seqOf [a0,a1,a2,a3,a4,a5,a6,a14,a15,a16,a17,a18,a19,a20,a21]) fun a35 =>
 cl1 (f_i_put [a9,a14,a15,a16,a17,a35,a19,a20,a21]) fun a36 =>
 k1 [a36,a35]) (
 k1 [a9,a18]))) (
 Yn a6 fun a13 =>
 iter (xT_ f_i_SameBody f_i_gone f_i_keyAt f_i_put f_i_seqOf a0 a1 a2 a3 a4 a5 a6 a11 a13) R [a9,ii 0])) ts
def aj4_:Option (List T) :=
 cl1 (f_i_Wanted [a0,a1,a2,a3,a4,a5,a6]) fun a7 =>
 Yn a7 fun a8 =>
 iter (xS_ R f_i_SameBody f_i_gone f_i_keyAt f_i_put f_i_seqOf a0 a1 a2 a3 a4 a5 a6 a8) R [.l [],ii 0,a7]
theorem aC6_:p_i_fresh.den (pick [(18,f_i_Wanted),(57,f_i_put),(157,f_i_keyAt),(158,f_i_SameBody),(159,f_i_seqOf),(160,f_i_gone)]) R [] [a0,a1,a2,a3,a4,a5,a6]=aj4_ R f_i_SameBody f_i_Wanted f_i_gone f_i_keyAt f_i_put f_i_seqOf a0 a1 a2 a3 a4 a5 a6:=(zc_ (by kernel_rfl)).trans (by kernel_rfl)
theorem aHx_:jR_ [a0,a1,a2,a3,a4,a5,a6]=aj4_ rounds ug_ wZ_ kE_ xj_ x6_ jG_ a0 a1 a2 a3 a4 a5 a6:=aC6_ rounds ug_ wZ_ kE_ xj_ x6_ jG_ a0 a1 a2 a3 a4 a5 a6
def vC_:Option (List T) :=
 (ar3 fun a19 a20 a21 =>
 Yl a21 a18 fun a22 =>
 ifT a22 (
 Yb a16 a21 fun a23 =>
 pv (.scell 8 0) [a16,a21] fun a24 =>
 pv (.scell 8 1) [a16,a21] fun a25 =>
 pv (.scell 8 2) [a16,a21] fun a26 =>
 pv (.scell 8 3) [a16,a21] fun a27 =>
 pv (.scell 8 4) [a16,a21] fun a28 =>
 pv (.dig 8 5) [a16,a21] fun a29 =>
 pv (.scell 8 6) [a16,a21] fun a30 =>
 pv (.scell 8 7) [a16,a21] fun a31 =>
 Yg a28 (ii 100000) fun a32 =>
 ifT a32 (
 Yz a9 fun a33 =>
 Yz a8 fun a34 =>
 Yz a7 fun a35 =>
 some [a35,a34,a33,a10,a11,a12,a13,.l []]) (
 pv (.dig 8 5) [a16,a21] fun a33 =>
 cl1 (f_i_put [a20,a24,a25,a26,a27,a28,a33,a30,a31]) fun a34 =>
 Ya a21 (ii 1) fun a35 =>
 k0 [a19,a34,a35])) (
 Yn a20 fun a23 =>
 Yg a23 (ii 150) fun a24 =>
 ifT a24 (
 Yz a9 fun a25 =>
 Yz a8 fun a26 =>
 Yz a7 fun a27 =>
 some [a27,a26,a25,a10,a11,a12,a13,.l []]) (
 Yz a9 fun a25 =>
 Yz a8 fun a26 =>
 Yz a7 fun a27 =>
 some [a27,a26,a25,a10,a11,a12,a20,a16]))) ts
def adm_:Option (List T) :=
 cl7 (f_i_copySelf [a0,a1,a2,a3,a4,a5,a6]) fun a7 a8 a9 a10 a11 a12 a13 =>
 cl1 (f_i_SelfOk [a0,a1,a2,a3,a4,a5,a6]) fun a14 =>
 Yt a14 fun a15 =>
 ifT a15 (
 Yz a9 fun a16 =>
 Yz a8 fun a17 =>
 Yz a7 fun a18 =>
 some [a18,a17,a16,a10,a11,a12,a13,.l []]) (
 cl1 (f_i_fresh [a0,a1,a2,a3,a4,a5,a6]) fun a16 =>
 cl1 (f_i_copyRecords [a6]) fun a17 =>
 Yn a16 fun a18 =>
 iter (vC_ f_i_put a7 a8 a9 a10 a11 a12 a13 a16 a18) R [.l [],a17,ii 0])
theorem aEr_:p_i_Renew.den (pick [(13,f_i_SelfOk),(54,f_i_copySelf),(55,f_i_fresh),(56,f_i_copyRecords),(57,f_i_put)]) R [] [a0,a1,a2,a3,a4,a5,a6]=adm_ R f_i_SelfOk f_i_copyRecords f_i_copySelf f_i_fresh f_i_put a0 a1 a2 a3 a4 a5 a6:=(zc_ (by kernel_rfl)).trans (by kernel_rfl)
theorem arb_:jF_ [a0,a1,a2,a3,a4,a5,a6]=adm_ rounds wg_ y4_ ud_ jR_ x6_ a0 a1 a2 a3 a4 a5 a6:=aEr_ rounds wg_ y4_ ud_ jR_ x6_ a0 a1 a2 a3 a4 a5 a6
def qh_:Option (List T) :=
 (ar2 fun a12 a13 =>
 Yn a5 fun a14 =>
 Yl a13 a14 fun a15 =>
 ifT a15 (
 Y1 a5 a13 fun a17 =>
 Ya a13 (ii 1) fun a18 =>
 Y1 a5 a18 fun a20 =>
 cl1 (f_s_CostTo [a2,a3,a4,a0,a17,a20]) fun a21 =>
 Ye a21 (ii 0) fun a22 =>
 ifT a22 (
 Yz (bb false) fun a23 =>
 some [a23]) (
 Yg a13 (ii 0) fun a23 =>
 ifT a23 (
 Ys a13 (ii 2) fun a24 =>
 Y1 a5 a24 fun a26 =>
 Yg a26 a17 fun a27 =>
 ifT a27 (
 Yz (bb false) fun a28 =>
 some [a28]) (
 Ys a13 (ii 2) fun a28 =>
 Y1 a5 a28 fun a30 =>
 Ye a30 a17 fun a31 =>
 ifT a31 (
 Ys a13 (ii 1) fun a32 =>
 Y1 a5 a32 fun a34 =>
 Yh a34 a20 fun a35 =>
 ifT a35 (
 Yz (bb false) fun a36 =>
 some [a36]) (
 Ya a13 (ii 2) fun a36 =>
 k0 [a12,a36])) (
 Ya a13 (ii 2) fun a32 =>
 k0 [a12,a32]))) (
 Ya a13 (ii 2) fun a24 =>
 k0 [a12,a24]))) (
 Yz (bb true) fun a16 =>
 some [a16])) ts
def ab0_:Option (List T) :=
 Yn a5 fun a7 =>
 pv (.bin .rem) [a7,ii 2] fun a8 =>
 Ye a8 (ii 1) fun a9 =>
 ifT a9 (
 Yz (bb false) fun a10 =>
 some [a10]) (
 Yn a5 fun a10 =>
 Yg a10 (ii 60) fun a11 =>
 ifT a11 (
 Yz (bb false) fun a12 =>
 some [a12]) (
 iter (qh_ f_s_CostTo a0 a2 a3 a4 a5) R [bb false,ii 0]))
theorem asd_:p_s_l08Heard.den (pick [(150,f_s_CostTo)]) R [] [a0,a1,a2,a3,a4,a5,a6]=ab0_ R f_s_CostTo a0 a2 a3 a4 a5:=(zc_ (by kernel_rfl)).trans (by kernel_rfl)
theorem aup_:uj_ [a0,a1,a2,a3,a4,a5,a6]=ab0_ rounds xE_ a0 a2 a3 a4 a5:=asd_ rounds xE_ a0 a1 a2 a3 a4 a5 a6
def aha_:Option (List T) :=
 cl1 (f_s_NetOk [a2,a3,a4]) fun a7 =>
 ifT a7 (
 cl1 (f_s_l01In [a0,ii 1,a2]) fun a8 =>
 ifT a8 (
 cl1 (f_s_l01In [a1,ii 0,ii 90]) fun a9 =>
 ifT a9 (
 cl1 (f_s_l08Heard [a0,a1,a2,a3,a4,a5,a6]) fun a10 =>
 ifT a10 (
 cl1 (f_s_StoreOk [a6]) fun a11 =>
 Yz a11 fun a12 =>
 some [a12]) (
 Yz (bb false) fun a11 =>
 some [a11])) (
 Yz (bb false) fun a10 =>
 some [a10])) (
 Yz (bb false) fun a9 =>
 some [a9])) (
 Yz (bb false) fun a8 =>
 some [a8])
theorem axu_:p_s_SelfOk.den (pick [(105,f_s_l01In),(106,f_s_StoreOk),(132,f_s_NetOk),(164,f_s_l08Heard)]) R [] [a0,a1,a2,a3,a4,a5,a6]=aha_ f_s_NetOk f_s_StoreOk f_s_l01In f_s_l08Heard a0 a1 a2 a3 a4 a5 a6:=(zc_ (by kernel_rfl)).trans (by kernel_rfl)
theorem aE0_:vg_ [a0,a1,a2,a3,a4,a5,a6]=aha_ vQ_ xf_ yt_ uj_ a0 a1 a2 a3 a4 a5 a6:=axu_ rounds vQ_ xf_ yt_ uj_ a0 a1 a2 a3 a4 a5 a6
def aed_:Option (List T) :=
 pv (.lit 4 []) [] fun a7 =>
 pv (.app true 4) [a7,a3] fun a8 =>
 pv (.lit 4 []) [] fun a9 =>
 pv (.app true 4) [a9,a4] fun a10 =>
 pv (.lit 1 []) [] fun a11 =>
 Yp a11 a5 fun a12 =>
 cl1 (f_s_l04CopyList [a6]) fun a13 =>
 Yz a2 fun a14 =>
 Yz a1 fun a15 =>
 Yz a0 fun a16 =>
 some [a16,a15,a14,a8,a10,a12,a13]
theorem axb_:p_s_l08Copy.den (pick [(66,f_s_l04CopyList)]) R [] [a0,a1,a2,a3,a4,a5,a6]=aed_ f_s_l04CopyList a0 a1 a2 a3 a4 a5 a6:=(zc_ (by kernel_rfl)).trans (by kernel_rfl)
theorem az0_:u1_ [a0,a1,a2,a3,a4,a5,a6]=aed_ z8_ a0 a1 a2 a3 a4 a5 a6:=axb_ rounds z8_ a0 a1 a2 a3 a4 a5 a6
def uk_:Option (List T) :=
 (ar2 fun a8 a9 =>
 Yn a5 fun a10 =>
 Yl a8 a10 fun a11 =>
 ifT a11 (
 Ya a8 (ii 1) fun a12 =>
 Y1 a5 a12 fun a14 =>
 Ye a14 a7 fun a15 =>
 jn (ar1 fun a16 =>
 Ya a8 (ii 2) fun a17 =>
 k0 [a17,a16]) fun k1 =>
 ifT a15 (
 Y1 a5 a8 fun a17 =>
 Y1 a5 a8 fun a19 =>
 cl1 (f_s_CostTo [a2,a3,a4,a0,a19,a7]) fun a20 =>
 pv (.lit 2 [true,true]) [a17,a20] fun a21 =>
 pv (.app true 2) [a9,a21] fun a22 =>
 k1 [a22]) (
 k1 [a9])) (
 Yz (bb false) fun a12 =>
 Yz (ii 0) fun a13 =>
 Yz (ii 0) fun a14 =>
 Yz (ii 0) fun a15 =>
 Yz a0 fun a16 =>
 Yz (ii 1) fun a17 =>
 Yz a7 fun a18 =>
 some [a18,a17,a16,a15,a14,a9,a13,a12])) ts
def aei_:Option (List T) :=
 iter (uk_ f_s_CostTo a0 a2 a3 a4 a5 a7) R [ii 0,.l []]
theorem atx_:p_s_l08Node.den (pick [(150,f_s_CostTo)]) R [] [a0,a1,a2,a3,a4,a5,a6,a7]=aei_ R f_s_CostTo a0 a2 a3 a4 a5 a7:=(zc_ (by kernel_rfl)).trans (by kernel_rfl)
theorem ay5_:u7_ [a0,a1,a2,a3,a4,a5,a6,a7]=aei_ rounds xE_ a0 a2 a3 a4 a5 a7:=atx_ rounds xE_ a0 a1 a2 a3 a4 a5 a6 a7
def xo_:Option (List T) :=
 (ar2 fun a20 a21 =>
 Yn a10 fun a22 =>
 Yl a21 a22 fun a23 =>
 ifT a23 (
 Y1 a10 a21 fun a25 =>
 cl1 (f_s_Beyond [a19,a10,a0,a25]) fun a26 =>
 Yy a20 a26 fun a27 =>
 Ya a21 (ii 1) fun a28 =>
 k2 [a27,a28]) (
 k1 [a20,a12,a12])) ts
def xr_:Option (List T) :=
 (ar2 fun a26 a27 =>
 Yn a22 fun a28 =>
 Yl a27 a28 fun a29 =>
 ifT a29 (
 Y8 a22 a27 fun a31 a32 a33 a34 a35 a36 a37 a38 =>
 cl1 (f_s_l05Put [a26,a31,a32,a33,a34,a35,a36,a37,a38]) fun a39 =>
 Ya a27 (ii 1) fun a40 =>
 k2 [a39,a40]) (
 cl1 (f_s_l04CopyList [a26]) fun a30 =>
 some [a30])) ts
def xc_:Option (List T) :=
 (ar2 fun a22 a23 =>
 Yn a4 fun a24 =>
 Yl a23 a24 fun a25 =>
 ifT a25 (
 Y4 a4 a23 fun a27 a28 a29 a30 =>
 Ye a27 a0 fun a31 =>
 jn (ar1 fun a32 =>
 Ya a23 (ii 1) fun a33 =>
 k1 [a32,a33]) fun k2 =>
 ifT a31 (
 pv (.lit 8 [true,true,true,true,true,false,true,true]) [ii 9,ii 3,a0,a28,ii 0,.l [],a29,a30] fun a32 =>
 Yy a22 a32 fun a33 =>
 k2 [a33]) (
 k2 [a22])) (
 iter (xr_ f_s_l04CopyList f_s_l05Put a22) R [a7,ii 0])) ts
def xl_:Option (List T) :=
 (ar2 fun a12 a13 =>
 Yn a10 fun a14 =>
 Yl a13 a14 fun a15 =>
 ifT a15 (
 Y1 a10 a13 fun a17 =>
 cl8 (f_s_l08Node [a0,a1,a2,a3,a4,a5,a6,a17]) fun a18 a19 a20 a21 a22 a23 a24 a25 =>
 pv (.lit 8 []) [a18,a19,a20,a21,a22,a23,a24,a25] fun a26 =>
 Yy a12 a26 fun a27 =>
 Ya a13 (ii 1) fun a28 =>
 k0 [a27,a28]) (
 pv (.lit 8 []) [] fun a16 =>
 Yy a16 a12 fun a17 =>
 cl1 (f_s_Border [a2,a3,a4,a0]) fun a18 =>
 jn (ar3 fun a19 a20 a21 =>
 iter (xc_ R f_s_l04CopyList f_s_l05Put a0 a4 a7) R [a19,ii 0]) fun k1 =>
 ifT a18 (
 cl1 (f_s_l08With [a6,a12]) fun a19 =>
 iter (xo_ f_s_Beyond a0 a10 a12 a19 k1) R [a17,ii 0]) (
 k1 [a17,a12,a12]))) ts
def agz_:Option (List T) :=
 pv (.lit 8 []) [] fun a7 =>
 cl1 (f_s_SelfOk [a0,a1,a2,a3,a4,a5,a6]) fun a8 =>
 Yt a8 fun a9 =>
 ifT a9 (
 some [a7]) (
 cl1 (f_s_AreasOf [a2,a3,a4,a0]) fun a10 =>
 pv (.lit 8 []) [] fun a11 =>
 iter (xl_ R f_s_Beyond f_s_Border f_s_l04CopyList f_s_l05Put f_s_l08Node f_s_l08With a0 a1 a2 a3 a4 a5 a6 a7 a10) R [a11,ii 0])
theorem azv_:p_s_Wanted.den (pick [(20,f_s_AreasOf),(58,f_s_SelfOk),(62,f_s_l05Put),(66,f_s_l04CopyList),(67,f_s_l08With),(165,f_s_l08Node),(166,f_s_Border),(167,f_s_Beyond)]) R [] [a0,a1,a2,a3,a4,a5,a6]=agz_ R f_s_AreasOf f_s_Beyond f_s_Border f_s_SelfOk f_s_l04CopyList f_s_l05Put f_s_l08Node f_s_l08With a0 a1 a2 a3 a4 a5 a6:=(zc_ (by kernel_rfl)).trans (by kernel_rfl)
theorem aD3_:qK_ [a0,a1,a2,a3,a4,a5,a6]=agz_ rounds xe_ vh_ vm_ vg_ z8_ yS_ u7_ xZ_ a0 a1 a2 a3 a4 a5 a6:=azv_ rounds xe_ vh_ vm_ vg_ z8_ yS_ u7_ xZ_ a0 a1 a2 a3 a4 a5 a6
def kF_:Option (List T) :=
 cl1 (f_s_l05At [a0,a1,a2,a3,a4,a5,a6,a7,a8]) fun a9 =>
 Yl a9 (ii 0) fun a10 =>
 ifT a10 (
 Yz (bb false) fun a11 =>
 Yz (bb false) fun a12 =>
 Yz (ii 0) fun a13 =>
 Yz (ii 0) fun a14 =>
 Yz (ii 0) fun a15 =>
 Yz (ii 0) fun a16 =>
 Yz (ii 0) fun a17 =>
 Yz (ii 0) fun a18 =>
 some [a18,a17,a16,a15,a14,.l [],a13,a12,a11]) (
 Y8 a0 a9 fun a12 a13 a14 a15 a16 a17 a18 a19 =>
 cl8 (f_s_l04Copy [a12,a13,a14,a15,a16,a17,a18,a19]) fun a20 a21 a22 a23 a24 a25 a26 a27 =>
 Yz (bb true) fun a28 =>
 Yz a27 fun a29 =>
 Yz a26 fun a30 =>
 Yz a24 fun a31 =>
 Yz a23 fun a32 =>
 Yz a22 fun a33 =>
 Yz a21 fun a34 =>
 Yz a20 fun a35 =>
 some [a35,a34,a33,a32,a31,a25,a30,a29,a28])
theorem aF8_:p_s_Find.den (pick [(63,f_s_l05At),(65,f_s_l04Copy)]) R [] [a0,a1,a2,a3,a4,a5,a6,a7,a8]=kF_ f_s_l04Copy f_s_l05At a0 a1 a2 a3 a4 a5 a6 a7 a8:=(zc_ (by kernel_rfl)).trans (by kernel_rfl)
theorem aw9_:vF_ [a0,a1,a2,a3,a4,a5,a6,a7,a8]=kF_ x1_ xU_ a0 a1 a2 a3 a4 a5 a6 a7 a8:=aF8_ rounds x1_ xU_ a0 a1 a2 a3 a4 a5 a6 a7 a8
def vb_:Option (List T) :=
 (ar2 fun a23 a24 =>
 Yn a5 fun a25 =>
 Yl a24 a25 fun a26 =>
 ifT a26 (
 Y2 a5 a24 fun a28 a29 =>
 Y2 a13 a24 fun a31 a32 =>
 pv (.eqs [1,1]) [a28,a29,a31,a32] fun a33 =>
 Yt a33 fun a34 =>
 ifT a34 (
 Yz (bb false) fun a35 =>
 some [a35]) (
 Ya a24 (ii 1) fun a35 =>
 k0 [a23,a35])) (
 Yz (bb true) fun a27 =>
 some [a27])) ts
def acq_:Option (List T) :=
 cl1 (f_s_SameKey [a0,a1,a2,a3,a4,a5,a6,a7,a8,a9,a10,a11,a12,a13,a14,a15]) fun a16 =>
 Yt a16 fun a17 =>
 ifT a17 (
 Yz (bb false) fun a18 =>
 some [a18]) (
 Yu a6 a14 fun a18 =>
 ifT a18 (
 Yz (bb false) fun a19 =>
 some [a19]) (
 pv (.bb .neq) [a7,a15] fun a19 =>
 ifT a19 (
 Yz (bb false) fun a20 =>
 some [a20]) (
 Yn a5 fun a20 =>
 Yn a13 fun a21 =>
 Yu a20 a21 fun a22 =>
 ifT a22 (
 Yz (bb false) fun a23 =>
 some [a23]) (
 iter (vb_ a5 a13) R [bb false,ii 0]))))
theorem asv_:p_s_SameBody.den (pick [(72,f_s_SameKey)]) R [] [a0,a1,a2,a3,a4,a5,a6,a7,a8,a9,a10,a11,a12,a13,a14,a15]=acq_ R f_s_SameKey a0 a1 a2 a3 a4 a5 a6 a7 a8 a9 a10 a11 a12 a13 a14 a15:=(zc_ (by kernel_rfl)).trans (by kernel_rfl)
theorem axf_:wB_ [a0,a1,a2,a3,a4,a5,a6,a7,a8,a9,a10,a11,a12,a13,a14,a15]=acq_ rounds xY_ a0 a1 a2 a3 a4 a5 a6 a7 a8 a9 a10 a11 a12 a13 a14 a15:=asv_ rounds xY_ a0 a1 a2 a3 a4 a5 a6 a7 a8 a9 a10 a11 a12 a13 a14 a15
def aay_:Option (List T) :=
 pv (.bin .mul) [ii 1000,a1] fun a8 =>
 Yl a7 a8 fun a9 =>
 ifT a9 (
 pv (.bin .mul) [ii 1000,a1] fun a10 =>
 Ya a10 (ii 1) fun a11 =>
 Yz a11 fun a12 =>
 some [a12]) (
 Ya a7 (ii 1) fun a10 =>
 Yz a10 fun a11 =>
 some [a11])
theorem axq_:p_s_l08Seq.den (pick []) R [] [a0,a1,a2,a3,a4,a5,a6,a7]=aay_ a1 a7:=(zc_ (by kernel_rfl)).trans (by kernel_rfl)
theorem aE2_:qH_ [a0,a1,a2,a3,a4,a5,a6,a7]=aay_ a1 a7:=axq_ rounds a0 a1 a2 a3 a4 a5 a6 a7
def kH_:Option (List T) :=
 Ye a1 (ii 1) fun a8 =>
 ifT a8 (
 pv (.lit 2 []) [] fun a9 =>
 Yz a7 fun a10 =>
 Yz a6 fun a11 =>
 Yz a4 fun a12 =>
 Yz a3 fun a13 =>
 Yz a2 fun a14 =>
 Yz a1 fun a15 =>
 Yz a0 fun a16 =>
 some [a16,a15,a14,a13,a12,a9,a11,a10]) (
 Yz a7 fun a9 =>
 Yz (ii 60000) fun a10 =>
 Yz a4 fun a11 =>
 Yz a3 fun a12 =>
 Yz a2 fun a13 =>
 Yz a1 fun a14 =>
 Yz a0 fun a15 =>
 some [a15,a14,a13,a12,a11,a5,a10,a9])
theorem aws_:p_s_l08Bare.den (pick []) R [] [a0,a1,a2,a3,a4,a5,a6,a7]=kH_ a0 a1 a2 a3 a4 a5 a6 a7:=(zc_ (by kernel_rfl)).trans (by kernel_rfl)
theorem ayr_:uY_ [a0,a1,a2,a3,a4,a5,a6,a7]=kH_ a0 a1 a2 a3 a4 a5 a6 a7:=aws_ rounds a0 a1 a2 a3 a4 a5 a6 a7
def yQ_:Option (List T) :=
 (ar2 fun a19 a20 =>
 Yn a15 fun a21 =>
 Yl a20 a21 fun a22 =>
 ifT a22 (
 Yb a15 a20 fun a23 =>
 Yc 8 4 a15 a20 fun a24 =>
 Yg a24 (ii 100000) fun a25 =>
 ifT a25 (
 cl7 (f_s_l08Copy [a0,a1,a2,a3,a4,a5,a6]) fun a26 a27 a28 a29 a30 a31 a32 =>
 pv (.lit 8 []) [] fun a33 =>
 Yz a28 fun a34 =>
 Yz a27 fun a35 =>
 Yz a26 fun a36 =>
 some [a36,a35,a34,a29,a30,a31,a32,a33]) (
 Ya a20 (ii 1) fun a26 =>
 k2 [a19,a26])) (
 cl7 (f_s_l08Copy [a0,a1,a2,a3,a4,a5,a6]) fun a23 a24 a25 a26 a27 a28 a29 =>
 cl1 (f_s_l08With [a6,a15]) fun a30 =>
 cl1 (f_s_l04CopyList [a30]) fun a31 =>
 Yn a31 fun a32 =>
 Yg a32 (ii 150) fun a33 =>
 ifT a33 (
 cl7 (f_s_l08Copy [a0,a1,a2,a3,a4,a5,a6]) fun a34 a35 a36 a37 a38 a39 a40 =>
 pv (.lit 8 []) [] fun a41 =>
 Yz a36 fun a42 =>
 Yz a35 fun a43 =>
 Yz a34 fun a44 =>
 some [a44,a43,a42,a37,a38,a39,a40,a41]) (
 cl1 (f_s_l04CopyList [a15]) fun a34 =>
 Yz a25 fun a35 =>
 Yz a24 fun a36 =>
 Yz a23 fun a37 =>
 some [a37,a36,a35,a26,a27,a28,a31,a34]))) ts
def yP_:Option (List T) :=
 (ar2 fun a15 a16 =>
 Yn a6 fun a17 =>
 Yl a16 a17 fun a18 =>
 ifT a18 (
 Y8 a6 a16 fun a20 a21 a22 a23 a24 a25 a26 a27 =>
 Yu a22 a0 fun a28 =>
 ifT a28 (
 Ya a16 (ii 1) fun a29 =>
 k1 [a15,a29]) (
 cl1 (f_s_l05At [a9,a20,a21,a22,a23,a24,a25,a26,a27]) fun a29 =>
 Yh a29 (ii 0) fun a30 =>
 ifT a30 (
 Ya a16 (ii 1) fun a31 =>
 k1 [a15,a31]) (
 cl8 (f_s_l04Copy [a20,a21,a22,a23,a24,a25,a26,a27]) fun a31 a32 a33 a34 a35 a36 a37 a38 =>
 cl8 (f_s_l08Bare [a31,a32,a33,a34,a35,a36,a37,a38]) fun a39 a40 a41 a42 a43 a44 a45 a46 =>
 cl1 (f_s_SameBody [a39,a40,a41,a42,a43,a44,a45,a46,a20,a21,a22,a23,a24,a25,a26,a27]) fun a47 =>
 ifT a47 (
 Ya a16 (ii 1) fun a48 =>
 k1 [a15,a48]) (
 cl8 (f_s_l04Copy [a20,a21,a22,a23,a24,a25,a26,a27]) fun a48 a49 a50 a51 a52 a53 a54 a55 =>
 cl8 (f_s_l08Bare [a48,a49,a50,a51,a52,a53,a54,a55]) fun a56 a57 a58 a59 a60 a61 a62 a63 =>
 cl1 (f_s_l08Seq [a0,a1,a2,a3,a4,a5,a6,a24]) fun a64 =>
 cl1 (f_s_l05Put [a15,a56,a57,a58,a59,a64,a61,a62,a63]) fun a65 =>
 Ya a16 (ii 1) fun a66 =>
 k1 [a65,a66])))) (
 iter (yQ_ f_s_l04CopyList f_s_l08Copy f_s_l08With a0 a1 a2 a3 a4 a5 a6 a15) R [.l [],ii 0])) ts
def yO_:Option (List T) :=
 (ar2 fun a11 a12 =>
 Yn a9 fun a13 =>
 Yl a12 a13 fun a14 =>
 ifT a14 (
 Y8 a9 a12 fun a16 a17 a18 a19 a20 a21 a22 a23 =>
 cl9 (f_s_Find [a6,a16,a17,a18,a19,a20,a21,a22,a23]) fun a24 a25 a26 a27 a28 a29 a30 a31 a32 =>
 ifT a32 (
 Y8 a9 a12 fun a34 a35 a36 a37 a38 a39 a40 a41 =>
 cl1 (f_s_SameBody [a24,a25,a26,a27,a28,a29,a30,a31,a34,a35,a36,a37,a38,a39,a40,a41]) fun a42 =>
 ifT a42 (
 Ya a12 (ii 1) fun a43 =>
 k0 [a11,a43]) (
 Y8 a9 a12 fun a44 a45 a46 a47 a48 a49 a50 a51 =>
 cl1 (f_s_l08Seq [a0,a1,a2,a3,a4,a5,a6,a28]) fun a52 =>
 cl1 (f_s_l05Put [a11,a44,a45,a46,a47,a52,a49,a50,a51]) fun a53 =>
 Ya a12 (ii 1) fun a54 =>
 k0 [a53,a54])) (
 Y8 a9 a12 fun a34 a35 a36 a37 a38 a39 a40 a41 =>
 cl1 (f_s_l08Seq [a0,a1,a2,a3,a4,a5,a6,a28]) fun a42 =>
 cl1 (f_s_l05Put [a11,a34,a35,a36,a37,a42,a39,a40,a41]) fun a43 =>
 Ya a12 (ii 1) fun a44 =>
 k0 [a43,a44])) (
 iter (yP_ R f_s_SameBody f_s_l04Copy f_s_l04CopyList f_s_l05At f_s_l05Put f_s_l08Bare f_s_l08Copy f_s_l08Seq f_s_l08With a0 a1 a2 a3 a4 a5 a6 a9) R [a11,ii 0])) ts
def ac7_:Option (List T) :=
 cl1 (f_s_SelfOk [a0,a1,a2,a3,a4,a5,a6]) fun a7 =>
 Yt a7 fun a8 =>
 ifT a8 (
 cl7 (f_s_l08Copy [a0,a1,a2,a3,a4,a5,a6]) fun a9 a10 a11 a12 a13 a14 a15 =>
 pv (.lit 8 []) [] fun a16 =>
 Yz a11 fun a17 =>
 Yz a10 fun a18 =>
 Yz a9 fun a19 =>
 some [a19,a18,a17,a12,a13,a14,a15,a16]) (
 cl1 (f_s_Wanted [a0,a1,a2,a3,a4,a5,a6]) fun a9 =>
 pv (.lit 8 []) [] fun a10 =>
 iter (yO_ R f_s_Find f_s_SameBody f_s_l04Copy f_s_l04CopyList f_s_l05At f_s_l05Put f_s_l08Bare f_s_l08Copy f_s_l08Seq f_s_l08With a0 a1 a2 a3 a4 a5 a6 a9) R [a10,ii 0])
theorem aCh_:p_s_Renew.den (pick [(15,f_s_Find),(19,f_s_SameBody),(58,f_s_SelfOk),(59,f_s_l08Copy),(60,f_s_Wanted),(61,f_s_l08Seq),(62,f_s_l05Put),(63,f_s_l05At),(64,f_s_l08Bare),(65,f_s_l04Copy),(66,f_s_l04CopyList),(67,f_s_l08With)]) R [] [a0,a1,a2,a3,a4,a5,a6]=ac7_ R f_s_Find f_s_SameBody f_s_SelfOk f_s_Wanted f_s_l04Copy f_s_l04CopyList f_s_l05At f_s_l05Put f_s_l08Bare f_s_l08Copy f_s_l08Seq f_s_l08With a0 a1 a2 a3 a4 a5 a6:=(zc_ (by kernel_rfl)).trans (by kernel_rfl)
theorem aqm_:jC_ [a0,a1,a2,a3,a4,a5,a6]=ac7_ rounds vF_ wB_ vg_ qK_ x1_ z8_ xU_ yS_ uY_ u1_ qH_ xZ_ a0 a1 a2 a3 a4 a5 a6:=aCh_ rounds vF_ wB_ vg_ qK_ x1_ z8_ xU_ yS_ uY_ u1_ qH_ xZ_ a0 a1 a2 a3 a4 a5 a6
def ajq_:Option (List T) :=
 (ar2 fun a26 a27 =>
 Yn a5 fun a28 =>
 Yl a27 a28 fun a29 =>
 ifT a29 (
 Y2 a5 a27 fun a31 a32 =>
 Y2 a13 a27 fun a34 a35 =>
 pv (.eqs [1,1]) [a31,a32,a34,a35] fun a36 =>
 Yt a36 fun a37 =>
 ifT a37 (
 Yz (bb false) fun a38 =>
 some [a38]) (
 Ya a27 (ii 1) fun a38 =>
 k0 [a26,a38])) (
 Yz (bb true) fun a30 =>
 some [a30])) ts
def awi_:Option (List T) :=
 Yu a0 a8 fun a16 =>
 ifT a16 (
 Yz (bb false) fun a17 =>
 some [a17]) (
 Yu a1 a9 fun a17 =>
 ifT a17 (
 Yz (bb false) fun a18 =>
 some [a18]) (
 Yu a2 a10 fun a18 =>
 ifT a18 (
 Yz (bb false) fun a19 =>
 some [a19]) (
 Yu a3 a11 fun a19 =>
 ifT a19 (
 Yz (bb false) fun a20 =>
 some [a20]) (
 Yu a4 a12 fun a20 =>
 ifT a20 (
 Yz (bb false) fun a21 =>
 some [a21]) (
 Yu a6 a14 fun a21 =>
 ifT a21 (
 Yz (bb false) fun a22 =>
 some [a22]) (
 pv (.bb .neq) [a7,a15] fun a22 =>
 ifT a22 (
 Yz (bb false) fun a23 =>
 some [a23]) (
 Yn a5 fun a23 =>
 Yn a13 fun a24 =>
 Yu a23 a24 fun a25 =>
 ifT a25 (
 Yz (bb false) fun a26 =>
 some [a26]) (
 iter (ajq_ a5 a13) R [bb false,ii 0]))))))))
theorem aMw_:p_same.den (pick []) R [] [a0,a1,a2,a3,a4,a5,a6,a7,a8,a9,a10,a11,a12,a13,a14,a15]=awi_ R a0 a1 a2 a3 a4 a5 a6 a7 a8 a9 a10 a11 a12 a13 a14 a15:=(zc_ (by kernel_rfl)).trans (by kernel_rfl)
theorem aOa_:jb_ [a0,a1,a2,a3,a4,a5,a6,a7,a8,a9,a10,a11,a12,a13,a14,a15]=awi_ rounds a0 a1 a2 a3 a4 a5 a6 a7 a8 a9 a10 a11 a12 a13 a14 a15:=aMw_ rounds a0 a1 a2 a3 a4 a5 a6 a7 a8 a9 a10 a11 a12 a13 a14 a15
def kC_:Option (List T) :=
 (ar2 fun a5 a6 =>
 Yn a0 fun a7 =>
 Yl a6 a7 fun a8 =>
 ifT a8 (
 Y8 a0 a6 fun a10 a11 a12 a13 a14 a15 a16 a17 =>
 Y8 a1 a6 fun a19 a20 a21 a22 a23 a24 a25 a26 =>
 cl1 (f_same [a10,a11,a12,a13,a14,a15,a16,a17,a19,a20,a21,a22,a23,a24,a25,a26]) fun a27 =>
 Yt a27 fun a28 =>
 ifT a28 (
 Yz (bb false) fun a29 =>
 some [a29]) (
 Ya a6 (ii 1) fun a29 =>
 k0 [a5,a29])) (
 Yz (bb true) fun a9 =>
 some [a9])) ts
def aet_:Option (List T) :=
 Yn a0 fun a2 =>
 Yn a1 fun a3 =>
 Yu a2 a3 fun a4 =>
 ifT a4 (
 Yz (bb false) fun a5 =>
 some [a5]) (
 iter (kC_ f_same a0 a1) R [bb false,ii 0])
theorem aw2_:p_sameStore.den (pick [(16,f_same)]) R [] [a0,a1]=aet_ R f_same a0 a1:=(zc_ (by kernel_rfl)).trans (by kernel_rfl)
theorem aAc_:u4_ [a0,a1]=aet_ rounds jb_ a0 a1:=aw2_ rounds jb_ a0 a1
def ja_:Option (List T) :=
 (ar2 fun a9 a10 =>
 Yn a0 fun a11 =>
 Yl a10 a11 fun a12 =>
 ifT a12 (
 Y8 a0 a10 fun a14 a15 a16 a17 a18 a19 a20 a21 =>
 cl1 (f_s_SameKey [a14,a15,a16,a17,a18,a19,a20,a21,a1,a2,a3,a4,a5,a6,a7,a8]) fun a22 =>
 ifT a22 (
 Yb a0 a10 fun a23 =>
 Yc 8 4 a0 a10 fun a24 =>
 Yg a24 a9 fun a25 =>
 jn (ar1 fun a26 =>
 Ya a10 (ii 1) fun a27 =>
 k0 [a26,a27]) fun k1 =>
 ifT a25 (
 Yb a0 a10 fun a26 =>
 Yc 8 4 a0 a10 fun a27 =>
 k1 [a27]) (
 k1 [a9])) (
 jn (ar1 fun a23 =>
 Ya a10 (ii 1) fun a24 =>
 k0 [a23,a24]) fun k1 =>
 k1 [a9])) (
 Yz a9 fun a13 =>
 some [a13])) ts
def al0_:Option (List T) :=
 iter (ja_ f_s_SameKey a0 a1 a2 a3 a4 a5 a6 a7 a8) R [ii 0,ii 0]
theorem aHr_:p_newest.den (pick [(72,f_s_SameKey)]) R [] [a0,a1,a2,a3,a4,a5,a6,a7,a8]=al0_ R f_s_SameKey a0 a1 a2 a3 a4 a5 a6 a7 a8:=(zc_ (by kernel_rfl)).trans (by kernel_rfl)
theorem aLa_:kt_ [a0,a1,a2,a3,a4,a5,a6,a7,a8]=al0_ rounds xY_ a0 a1 a2 a3 a4 a5 a6 a7 a8:=aHr_ rounds xY_ a0 a1 a2 a3 a4 a5 a6 a7 a8
def y3_:Option (List T) :=
 (ar2 fun a48 a49 =>
 Yn a47 fun a50 =>
 Yl a49 a50 fun a51 =>
 ifT a51 (
 Yb a47 a49 fun a52 =>
 pv (.scell 8 0) [a47,a49] fun a53 =>
 pv (.scell 8 1) [a47,a49] fun a54 =>
 pv (.scell 8 2) [a47,a49] fun a55 =>
 pv (.scell 8 3) [a47,a49] fun a56 =>
 pv (.scell 8 4) [a47,a49] fun a57 =>
 pv (.dig 8 5) [a47,a49] fun a58 =>
 pv (.scell 8 6) [a47,a49] fun a59 =>
 pv (.scell 8 7) [a47,a49] fun a60 =>
 pv (.dig 8 5) [a47,a49] fun a61 =>
 cl9 (f_s_Find [a15,a53,a54,a55,a56,a57,a61,a59,a60]) fun a62 a63 a64 a65 a66 a67 a68 a69 a70 =>
 Yt a70 fun a71 =>
 ifT a71 (
 Yz (bb false) fun a72 =>
 some [a72]) (
 Yb a47 a49 fun a72 =>
 pv (.scell 8 0) [a47,a49] fun a73 =>
 pv (.scell 8 1) [a47,a49] fun a74 =>
 pv (.scell 8 2) [a47,a49] fun a75 =>
 pv (.scell 8 3) [a47,a49] fun a76 =>
 pv (.scell 8 4) [a47,a49] fun a77 =>
 pv (.dig 8 5) [a47,a49] fun a78 =>
 pv (.scell 8 6) [a47,a49] fun a79 =>
 pv (.scell 8 7) [a47,a49] fun a80 =>
 pv (.dig 8 5) [a47,a49] fun a81 =>
 cl1 (f_s_SameBody [a62,a63,a64,a65,a66,a67,a68,a69,a73,a74,a75,a76,a77,a81,a79,a80]) fun a82 =>
 Yt a82 fun a83 =>
 ifT a83 (
 Yz (bb false) fun a84 =>
 some [a84]) (
 Ya a49 (ii 1) fun a84 =>
 k2 [a48,a84]))) (
 Yn a24 fun a52 =>
 Ye a52 (ii 0) fun a53 =>
 ifT a53 (
 cl1 (f_sameStore [a23,a15]) fun a54 =>
 ifT a54 (
 cl1 (f_s_AreasOf [a4,a5,a6,a2]) fun a55 =>
 Yn a55 fun a56 =>
 Ye a56 (ii 0) fun a57 =>
 ifT a57 (
 Yz (bb true) fun a58 =>
 some [a58]) (
 Yn a47 fun a58 =>
 Yg a58 (ii 0) fun a59 =>
 Yz a59 fun a60 =>
 some [a60])) (
 Yz (bb false) fun a55 =>
 some [a55])) (
 Yz (bb false) fun a54 =>
 some [a54]))) ts
def yX_:Option (List T) :=
 (ar2 fun a43 a44 =>
 Yn a8 fun a45 =>
 Yl a44 a45 fun a46 =>
 ifT a46 (
 Y8 a8 a44 fun a48 a49 a50 a51 a52 a53 a54 a55 =>
 cl1 (f_newest [a16,a48,a49,a50,a51,a52,a53,a54,a55]) fun a56 =>
 Ye a56 (ii 0) fun a57 =>
 jn (ar0 (
 Ya a44 (ii 1) fun a58 =>
 k1 [a43,a58])) fun k2 =>
 ifT a57 (
 Y8 a8 a44 fun a59 a60 a61 a62 a63 a64 a65 a66 =>
 cl9 (f_s_Find [a15,a59,a60,a61,a62,a63,a64,a65,a66]) fun a67 a68 a69 a70 a71 a72 a73 a74 a75 =>
 Yt a75 fun a76 =>
 ifT a76 (
 Yz (bb false) fun a77 =>
 some [a77]) (
 Y8 a8 a44 fun a78 a79 a80 a81 a82 a83 a84 a85 =>
 cl1 (f_same [a67,a68,a69,a70,a71,a72,a73,a74,a78,a79,a80,a81,a82,a83,a84,a85]) fun a86 =>
 Yt a86 fun a87 =>
 ifT a87 (
 Yz (bb false) fun a88 =>
 some [a88]) (
 k2 []))) (
 k2 [])) (
 cl1 (f_i_Wanted [a9,a10,a11,a12,a13,a14,a15]) fun a47 =>
 iter (y3_ f_s_AreasOf f_s_Find f_s_SameBody f_sameStore a2 a4 a5 a6 a15 a23 a24 a47) R [a43,ii 0])) ts
def xd_:Option (List T) :=
 (ar2 fun a39 a40 =>
 Yn a16 fun a41 =>
 Yl a40 a41 fun a42 =>
 ifT a42 (
 Yb a16 a40 fun a43 =>
 pv (.scell 8 0) [a16,a40] fun a44 =>
 pv (.scell 8 1) [a16,a40] fun a45 =>
 pv (.scell 8 2) [a16,a40] fun a46 =>
 pv (.scell 8 3) [a16,a40] fun a47 =>
 pv (.scell 8 4) [a16,a40] fun a48 =>
 pv (.dig 8 5) [a16,a40] fun a49 =>
 pv (.scell 8 6) [a16,a40] fun a50 =>
 pv (.scell 8 7) [a16,a40] fun a51 =>
 pv (.dig 8 5) [a16,a40] fun a52 =>
 cl9 (f_s_Find [a15,a44,a45,a46,a47,a48,a52,a50,a51]) fun a53 a54 a55 a56 a57 a58 a59 a60 a61 =>
 Yb a16 a40 fun a62 =>
 pv (.scell 8 2) [a16,a40] fun a63 =>
 Yu a63 a2 fun a64 =>
 ifT a64 (
 Yz (bb false) fun a65 =>
 some [a65]) (
 Yt a61 fun a65 =>
 ifT a65 (
 Yz (bb false) fun a66 =>
 some [a66]) (
 Yb a16 a40 fun a66 =>
 pv (.scell 8 0) [a16,a40] fun a67 =>
 pv (.scell 8 1) [a16,a40] fun a68 =>
 pv (.scell 8 2) [a16,a40] fun a69 =>
 pv (.scell 8 3) [a16,a40] fun a70 =>
 pv (.scell 8 4) [a16,a40] fun a71 =>
 pv (.dig 8 5) [a16,a40] fun a72 =>
 pv (.scell 8 6) [a16,a40] fun a73 =>
 pv (.scell 8 7) [a16,a40] fun a74 =>
 pv (.dig 8 5) [a16,a40] fun a75 =>
 cl1 (f_same [a53,a54,a55,a56,a57,a58,a59,a60,a67,a68,a69,a70,a71,a75,a73,a74]) fun a76 =>
 Yt a76 fun a77 =>
 ifT a77 (
 Yz (bb false) fun a78 =>
 some [a78]) (
 Yb a16 a40 fun a78 =>
 pv (.scell 8 4) [a16,a40] fun a79 =>
 Yb a16 a40 fun a80 =>
 pv (.scell 8 0) [a16,a40] fun a81 =>
 pv (.scell 8 1) [a16,a40] fun a82 =>
 pv (.scell 8 2) [a16,a40] fun a83 =>
 pv (.scell 8 3) [a16,a40] fun a84 =>
 pv (.scell 8 4) [a16,a40] fun a85 =>
 pv (.dig 8 5) [a16,a40] fun a86 =>
 pv (.scell 8 6) [a16,a40] fun a87 =>
 pv (.scell 8 7) [a16,a40] fun a88 =>
 pv (.dig 8 5) [a16,a40] fun a89 =>
 cl1 (f_newest [a8,a81,a82,a83,a84,a85,a89,a87,a88]) fun a90 =>
 Ym a79 a90 fun a91 =>
 ifT a91 (
 Yz (bb false) fun a92 =>
 some [a92]) (
 Yb a16 a40 fun a92 =>
 pv (.scell 8 4) [a16,a40] fun a93 =>
 pv (.bin .mul) [ii 1000,a3] fun a94 =>
 Ym a93 a94 fun a95 =>
 ifT a95 (
 Yz (bb false) fun a96 =>
 some [a96]) (
 Ya a40 (ii 1) fun a96 =>
 k0 [a39,a96])))))) (
 iter (yX_ R f_i_Wanted f_newest f_s_AreasOf f_s_Find f_s_SameBody f_same f_sameStore a2 a4 a5 a6 a8 a9 a10 a11 a12 a13 a14 a15 a16 a23 a24) R [a39,ii 0])) ts
def aas_:Option (List T) :=
 cl1 (f_big [a0]) fun a1 =>
 ifT a1 (
 Yz (bb true) fun a2 =>
 some [a2]) (
 cl7 (f_s_DrawRightSelf [a0]) fun a2 a3 a4 a5 a6 a7 a8 =>
 cl8 (f_i_Renew [a2,a3,a4,a5,a6,a7,a8]) fun a9 a10 a11 a12 a13 a14 a15 a16 =>
 cl8 (f_i_Renew [a9,a10,a11,a12,a13,a14,a15]) fun a17 a18 a19 a20 a21 a22 a23 a24 =>
 cl8 (f_s_Renew [a2,a3,a4,a5,a6,a7,a8]) fun a25 a26 a27 a28 a29 a30 a31 a32 =>
 cl1 (f_i_SelfOk [a2,a3,a4,a5,a6,a7,a8]) fun a33 =>
 Yt a33 fun a34 =>
 ifT a34 (
 Yz (bb false) fun a35 =>
 some [a35]) (
 cl1 (f_i_SelfOk [a9,a10,a11,a12,a13,a14,a15]) fun a35 =>
 Yt a35 fun a36 =>
 ifT a36 (
 Yz (bb false) fun a37 =>
 some [a37]) (
 cl1 (f_sameStore [a16,a32]) fun a37 =>
 Yt a37 fun a38 =>
 ifT a38 (
 Yz (bb false) fun a39 =>
 some [a39]) (
 iter (xd_ R f_i_Wanted f_newest f_s_AreasOf f_s_Find f_s_SameBody f_same f_sameStore a2 a3 a4 a5 a6 a8 a9 a10 a11 a12 a13 a14 a15 a16 a23 a24) R [bb false,ii 0]))))
theorem axp_:p_FnRenews.den (pick [(9,f_big),(10,f_s_DrawRightSelf),(11,f_i_Renew),(12,f_s_Renew),(13,f_i_SelfOk),(14,f_sameStore),(15,f_s_Find),(16,f_same),(17,f_newest),(18,f_i_Wanted),(19,f_s_SameBody),(20,f_s_AreasOf)]) R [] [a0]=aas_ R f_big f_i_Renew f_i_SelfOk f_i_Wanted f_newest f_s_AreasOf f_s_DrawRightSelf f_s_Find f_s_Renew f_s_SameBody f_same f_sameStore a0:=(zc_ (by kernel_rfl)).trans (by kernel_rfl)
theorem aDk_:aaq_ [a0]=aas_ rounds aky_ jF_ wg_ wZ_ kt_ xe_ wE_ vF_ jC_ wB_ jb_ u4_ a0:=axp_ rounds aky_ jF_ wg_ wZ_ kt_ xe_ wE_ vF_ jC_ wB_ jb_ u4_ a0
end
end Go.Proofs.YtjimmglpkndemaaGreatC
