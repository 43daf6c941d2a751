/- The plain programs as native functions (printed by a program). Conditions: none. -/
import Derived.Test.YtlofiplkmgmnfaaXPI
import Derived.Test.YtlofiplkmgmnfaaKe
namespace Go.Proofs.YtlofiplkmgmnfaaC
set_option linter.unusedVariables false
section
variable (R:Nat) (f_FnExactIdeal f_eqBoolS f_eqLink f_eqLinkS f_eqNear f_eqNearS f_eqNet f_eqRecord f_eqRecordS f_eqThing f_eqThingS f_heldNearS f_heldRecordS f_i_AreasOf f_i_Before f_i_Beyond f_i_Border f_i_Ideal f_i_LinkOk f_i_Linked f_i_NetOk f_i_NextTo f_i_RecordOk f_i_RoutesBeyond f_i_RoutesWithin f_i_SameKey f_i_StoreOk f_i_Together f_i_WayTo f_i_WaysIn f_i_ahead f_i_copyInts f_i_copyRecord f_i_copyRecords f_i_copyWay f_i_hasInt f_i_in f_i_keyAt f_i_less f_i_linkAt f_i_nearOk f_i_nearUp f_i_put f_i_told f_s_AreasOf f_s_Before f_s_Better f_s_Beyond f_s_Border f_s_CostTo f_s_Ideal f_s_LinkOk f_s_NetOk f_s_NextTo f_s_RecordOk f_s_RoutesBeyond f_s_RoutesWithin f_s_SameKey f_s_StoreOk f_s_Together f_s_WayTo f_s_WaysIn f_s_l01In f_s_l03Ahead f_s_l03In f_s_l03Thing f_s_l04Copy f_s_l04CopyList f_s_l04Near f_s_l05At f_s_l05Put f_s_l06Add f_s_l06Copy f_s_l06Links f_s_l06Node f_s_l06Tells f_s_l07Beyond f_s_l08With f_s_l13Beyond f_s_l13Open f_szLinkS f_szNet f_szThingS f_toBoolS f_toLink f_toLinkS f_toNet f_toThing f_toThingS:Sem1)
variable (a0 a1 a2 a3 a4 a5 a6 a7 a8 a9 a10 a11 a12 a13 a14 a15 a16 a17 a18 a19 a20 a21 a22 a23 a24 a25 a26 a27 a28 a29 a30 a31 a32 a33 a34 a35 a36 a37 a38 a39 a40 a41 a42 a43 a44 a45 a46 a47 a48 a49 a50 a51 a52 a53 a54 a55 a56 a57 a58 a59 a60 a61 a62 a63 a64 a65 a66 a67 a68 a69 a70 a71 a72 a73 a74 a75 a76 a77 a78 a79 a80 a81 a82 a83 a84 a85 a86 a87 a88 a89 a90 a91 a92 a93 a94 a95 a96 a97 a98 a99 a100 a101 a102 a103 a104 a105 a106 a107 a108 a109 a110 a111 a112 a113 a114 a115 a116 a117 a118 a119 a120 a121 a122 a123 a124 a125 a126 a127 a128 a129 a130 a131 a132 a133 a134 a135 a136 a137 a138 a139 a140 a141 a142 a143 a144 a145 a146 a147 a148 a149:T) (k0 k1 k2 k3 k4 k5 k6 k7 k8 k9 k10 k11 k12 k13 k14 k15 k16 k17 k18 k19:Sem1) (ts:List T)
def G_s_l01In:Option (List T) :=
 Yh a0 a1 fun a3 =>
 ifT a3 (
 Ym a0 a2 fun a4 =>
 Yz a4 fun a5 =>
 some [a5]) (
 Yz (bb false) fun a4 =>
 some [a4])
theorem gr_s_l01In:p_s_l01In.den (pick []) R [] [a0,a1,a2]=G_s_l01In a0 a1 a2:=(den2_of (by kernel_rfl)).trans (by kernel_rfl)
theorem g_s_l01In:F_s_l01In [a0,a1,a2]=G_s_l01In a0 a1 a2:=gr_s_l01In rounds a0 a1 a2
def G_s_LinkOk:Option (List T) :=
 cl1 (f_s_l01In [a0,ii 1,ii 6]) fun a5 =>
 ifT a5 (
 cl1 (f_s_l01In [a1,ii 1,a0]) fun a6 =>
 ifT a6 (
 cl1 (f_s_l01In [a2,ii 1,a0]) fun a7 =>
 ifT a7 (
 Yl a1 a2 fun a8 =>
 ifT a8 (
 cl1 (f_s_l01In [a3,ii 1,ii 1000]) fun a9 =>
 ifT a9 (
 cl1 (f_s_l01In [a4,ii 0,ii 2]) fun a10 =>
 Yz a10 fun a11 =>
 some [a11]) (
 Yz (bb false) fun a10 =>
 some [a10])) (
 Yz (bb false) fun a9 =>
 some [a9])) (
 Yz (bb false) fun a8 =>
 some [a8])) (
 Yz (bb false) fun a7 =>
 some [a7])) (
 Yz (bb false) fun a6 =>
 some [a6])
theorem gr_s_LinkOk:p_s_LinkOk.den (pick [(84,f_s_l01In)]) R [] [a0,a1,a2,a3,a4]=G_s_LinkOk f_s_l01In a0 a1 a2 a3 a4:=(den2_of (by kernel_rfl)).trans (by kernel_rfl)
theorem g_s_LinkOk:F_s_LinkOk [a0,a1,a2,a3,a4]=G_s_LinkOk F_s_l01In a0 a1 a2 a3 a4:=gr_s_LinkOk rounds F_s_l01In a0 a1 a2 a3 a4
def G_s_l03Ahead:Option (List T) :=
 Yl a0 a4 fun a8 =>
 ifT a8 (
 Yz (bb true) fun a9 =>
 some [a9]) (
 Ye a0 a4 fun a9 =>
 ifT a9 (
 Yl a1 a5 fun a10 =>
 ifT a10 (
 Yz (bb true) fun a11 =>
 some [a11]) (
 Ye a1 a5 fun a11 =>
 ifT a11 (
 Yl a3 a7 fun a12 =>
 Yz a12 fun a13 =>
 some [a13]) (
 Yz (bb false) fun a12 =>
 some [a12]))) (
 Yz (bb false) fun a10 =>
 some [a10]))
theorem gr_s_l03Ahead:p_s_l03Ahead.den (pick []) R [] [a0,a1,a2,a3,a4,a5,a6,a7]=G_s_l03Ahead a0 a1 a3 a4 a5 a7:=(den2_of (by kernel_rfl)).trans (by kernel_rfl)
theorem g_s_l03Ahead:F_s_l03Ahead [a0,a1,a2,a3,a4,a5,a6,a7]=G_s_l03Ahead a0 a1 a3 a4 a5 a7:=gr_s_l03Ahead rounds a0 a1 a2 a3 a4 a5 a6 a7
def G_s_l03Thing:Option (List T) :=
 Yl a1 a5 fun a8 =>
 ifT a8 (
 Yz (bb true) fun a9 =>
 some [a9]) (
 Ye a1 a5 fun a9 =>
 ifT a9 (
 Yl a0 a4 fun a10 =>
 Yz a10 fun a11 =>
 some [a11]) (
 Yz (bb false) fun a10 =>
 some [a10]))
theorem gr_s_l03Thing:p_s_l03Thing.den (pick []) R [] [a0,a1,a2,a3,a4,a5,a6,a7]=G_s_l03Thing a0 a1 a4 a5:=(den2_of (by kernel_rfl)).trans (by kernel_rfl)
theorem g_s_l03Thing:F_s_l03Thing [a0,a1,a2,a3,a4,a5,a6,a7]=G_s_l03Thing a0 a1 a4 a5:=gr_s_l03Thing rounds a0 a1 a2 a3 a4 a5 a6 a7
def G_s_NetOk_l0:Option (List T) :=
 (ar2 fun a13 a14 =>
 Yn a2 fun a15 =>
 Yl a14 a15 fun a16 =>
 ifT a16 (
 Y4 a2 a14 fun a18 a19 a20 a21 =>
 cl1 (f_s_l01In [a18,ii 1,a0]) fun a22 =>
 Yt a22 fun a23 =>
 ifT a23 (
 Yz (bb false) fun a24 =>
 some [a24]) (
 cl1 (f_s_l01In [a19,ii 1,ii 9]) fun a24 =>
 Yt a24 fun a25 =>
 ifT a25 (
 Yz (bb false) fun a26 =>
 some [a26]) (
 cl1 (f_s_l01In [a20,ii 1,ii 1000]) fun a26 =>
 Yt a26 fun a27 =>
 ifT a27 (
 Yz (bb false) fun a28 =>
 some [a28]) (
 Yg a14 (ii 0) fun a28 =>
 ifT a28 (
 Ys a14 (ii 1) fun a29 =>
 Y4 a2 a29 fun a31 a32 a33 a34 =>
 cl1 (f_s_l03Thing [a31,a32,a33,a34,a18,a19,a20,a21]) fun a35 =>
 Yt a35 fun a36 =>
 ifT a36 (
 Yz (bb false) fun a37 =>
 some [a37]) (
 Ya a14 (ii 1) fun a37 =>
 k1 [a13,a37])) (
 Ya a14 (ii 1) fun a29 =>
 k1 [a13,a29]))))) (
 Yz (bb true) fun a17 =>
 some [a17])) ts
def G_s_NetOk_l1:Option (List T) :=
 (ar2 fun a9 a10 =>
 Yn a1 fun a11 =>
 Yl a10 a11 fun a12 =>
 ifT a12 (
 Y4 a1 a10 fun a14 a15 a16 a17 =>
 cl1 (f_s_LinkOk [a0,a14,a15,a16,a17]) fun a18 =>
 Yt a18 fun a19 =>
 ifT a19 (
 Yz (bb false) fun a20 =>
 some [a20]) (
 Yg a10 (ii 0) fun a20 =>
 ifT a20 (
 Ys a10 (ii 1) fun a21 =>
 Y4 a1 a21 fun a23 a24 a25 a26 =>
 Y4 a1 a10 fun a28 a29 a30 a31 =>
 cl1 (f_s_l03Ahead [a23,a24,a25,a26,a28,a29,a30,a31]) fun a32 =>
 Yt a32 fun a33 =>
 ifT a33 (
 Yz (bb false) fun a34 =>
 some [a34]) (
 Ya a10 (ii 1) fun a34 =>
 k0 [a9,a34])) (
 Ya a10 (ii 1) fun a21 =>
 k0 [a9,a21]))) (
 iter (G_s_NetOk_l0 f_s_l01In f_s_l03Thing a0 a2) R [a9,ii 0])) ts
def G_s_NetOk:Option (List T) :=
 cl1 (f_s_l01In [a0,ii 1,ii 6]) fun a3 =>
 Yt a3 fun a4 =>
 ifT a4 (
 Yz (bb false) fun a5 =>
 some [a5]) (
 Yn a1 fun a5 =>
 Yg a5 (ii 12) fun a6 =>
 ifT a6 (
 Yz (bb false) fun a7 =>
 some [a7]) (
 Yn a2 fun a7 =>
 Yg a7 (ii 4) fun a8 =>
 ifT a8 (
 Yz (bb false) fun a9 =>
 some [a9]) (
 iter (G_s_NetOk_l1 R f_s_LinkOk f_s_l01In f_s_l03Ahead f_s_l03Thing a0 a1 a2) R [bb false,ii 0])))
theorem gr_s_NetOk:p_s_NetOk.den (pick [(84,f_s_l01In),(169,f_s_LinkOk),(170,f_s_l03Ahead),(171,f_s_l03Thing)]) R [] [a0,a1,a2]=G_s_NetOk R f_s_LinkOk f_s_l01In f_s_l03Ahead f_s_l03Thing a0 a1 a2:=(den2_of (by kernel_rfl)).trans (by kernel_rfl)
theorem g_s_NetOk:F_s_NetOk [a0,a1,a2]=G_s_NetOk rounds F_s_LinkOk F_s_l01In F_s_l03Ahead F_s_l03Thing a0 a1 a2:=gr_s_NetOk rounds F_s_LinkOk F_s_l01In F_s_l03Ahead F_s_l03Thing a0 a1 a2
def G_s_CostTo_l0:Option (List T) :=
 (ar2 fun a6 a7 =>
 Yn a1 fun a8 =>
 Yl a7 a8 fun a9 =>
 ifT a9 (
 Y4 a1 a7 fun a11 a12 a13 a14 =>
 Ye a14 a5 fun a15 =>
 ifT a15 (
 Ye a11 a3 fun a16 =>
 ifT a16 (
 Ye a12 a4 fun a17 =>
 ifT a17 (
 Yz a13 fun a18 =>
 some [a18]) (
 Ye a11 a4 fun a18 =>
 ifT a18 (
 Ye a12 a3 fun a19 =>
 ifT a19 (
 Yz a13 fun a20 =>
 some [a20]) (
 Ya a7 (ii 1) fun a20 =>
 k0 [a6,a20])) (
 Ya a7 (ii 1) fun a19 =>
 k0 [a6,a19]))) (
 Ye a11 a4 fun a17 =>
 ifT a17 (
 Ye a12 a3 fun a18 =>
 ifT a18 (
 Yz a13 fun a19 =>
 some [a19]) (
 Ya a7 (ii 1) fun a19 =>
 k0 [a6,a19])) (
 Ya a7 (ii 1) fun a18 =>
 k0 [a6,a18]))) (
 Ya a7 (ii 1) fun a16 =>
 k0 [a6,a16])) (
 Yz (ii 0) fun a10 =>
 some [a10])) ts
def G_s_CostTo:Option (List T) :=
 iter (G_s_CostTo_l0 a1 a3 a4 a5) R [ii 0,ii 0]
theorem gr_s_CostTo:p_s_CostTo.den (pick []) R [] [a0,a1,a2,a3,a4,a5]=G_s_CostTo R a1 a3 a4 a5:=(den2_of (by kernel_rfl)).trans (by kernel_rfl)
theorem g_s_CostTo:F_s_CostTo [a0,a1,a2,a3,a4,a5]=G_s_CostTo rounds a1 a3 a4 a5:=gr_s_CostTo rounds a0 a1 a2 a3 a4 a5
def G_s_NextTo_l0:Option (List T) :=
 (ar2 fun a6 a7 =>
 Ym a7 (ii 6) fun a8 =>
 ifT a8 (
 cl1 (f_s_CostTo [a0,a1,a2,a3,a7,a4]) fun a9 =>
 Yg a9 (ii 0) fun a10 =>
 jn (ar1 fun a11 =>
 Ya a7 (ii 1) fun a12 =>
 k0 [a11,a12]) fun k1 =>
 ifT a10 (
 Yx a7 fun a11 =>
 Yp a6 a11 fun a12 =>
 k1 [a12]) (
 k1 [a6])) (
 some [a6])) ts
def G_s_NextTo:Option (List T) :=
 pv (.lit 1 []) [] fun a5 =>
 iter (G_s_NextTo_l0 f_s_CostTo a0 a1 a2 a3 a4) R [a5,ii 1]
theorem gr_s_NextTo:p_s_NextTo.den (pick [(187,f_s_CostTo)]) R [] [a0,a1,a2,a3,a4]=G_s_NextTo R f_s_CostTo a0 a1 a2 a3 a4:=(den2_of (by kernel_rfl)).trans (by kernel_rfl)
theorem g_s_NextTo:F_s_NextTo [a0,a1,a2,a3,a4]=G_s_NextTo rounds F_s_CostTo a0 a1 a2 a3 a4:=gr_s_NextTo rounds F_s_CostTo a0 a1 a2 a3 a4
def G_s_AreasOf_l0:Option (List T) :=
 (ar2 fun a5 a6 =>
 Ym a6 (ii 2) fun a7 =>
 ifT a7 (
 cl1 (f_s_NextTo [a0,a1,a2,a3,a6]) fun a8 =>
 Yn a8 fun a9 =>
 Yg a9 (ii 0) fun a10 =>
 jn (ar1 fun a11 =>
 Ya a6 (ii 1) fun a12 =>
 k0 [a11,a12]) fun k1 =>
 ifT a10 (
 Yx a6 fun a11 =>
 Yp a5 a11 fun a12 =>
 k1 [a12]) (
 k1 [a5])) (
 some [a5])) ts
def G_s_AreasOf:Option (List T) :=
 pv (.lit 1 []) [] fun a4 =>
 iter (G_s_AreasOf_l0 f_s_NextTo a0 a1 a2 a3) R [a4,ii 0]
theorem gr_s_AreasOf:p_s_AreasOf.den (pick [(132,f_s_NextTo)]) R [] [a0,a1,a2,a3]=G_s_AreasOf R f_s_NextTo a0 a1 a2 a3:=(den2_of (by kernel_rfl)).trans (by kernel_rfl)
theorem g_s_AreasOf:F_s_AreasOf [a0,a1,a2,a3]=G_s_AreasOf rounds F_s_NextTo a0 a1 a2 a3:=gr_s_AreasOf rounds F_s_NextTo a0 a1 a2 a3
def G_s_l13Open_l0:Option (List T) :=
 (ar2 fun a7 a8 =>
 Yn a1 fun a9 =>
 Yl a8 a9 fun a10 =>
 ifT a10 (
 Y4 a1 a8 fun a12 a13 a14 a15 =>
 Y1 a3 a8 fun a17 =>
 ifT a17 (
 Ye a15 a6 fun a18 =>
 ifT a18 (
 Ye a12 a4 fun a19 =>
 ifT a19 (
 Ye a13 a5 fun a20 =>
 ifT a20 (
 Yz a14 fun a21 =>
 some [a21]) (
 Ye a12 a5 fun a21 =>
 ifT a21 (
 Ye a13 a4 fun a22 =>
 ifT a22 (
 Yz a14 fun a23 =>
 some [a23]) (
 Ya a8 (ii 1) fun a23 =>
 k0 [a7,a23])) (
 Ya a8 (ii 1) fun a22 =>
 k0 [a7,a22]))) (
 Ye a12 a5 fun a20 =>
 ifT a20 (
 Ye a13 a4 fun a21 =>
 ifT a21 (
 Yz a14 fun a22 =>
 some [a22]) (
 Ya a8 (ii 1) fun a22 =>
 k0 [a7,a22])) (
 Ya a8 (ii 1) fun a21 =>
 k0 [a7,a21]))) (
 Ya a8 (ii 1) fun a19 =>
 k0 [a7,a19])) (
 Ya a8 (ii 1) fun a18 =>
 k0 [a7,a18])) (
 Yz (ii 0) fun a11 =>
 some [a11])) ts
def G_s_l13Open:Option (List T) :=
 iter (G_s_l13Open_l0 a1 a3 a4 a5 a6) R [ii 0,ii 0]
theorem gr_s_l13Open:p_s_l13Open.den (pick []) R [] [a0,a1,a2,a3,a4,a5,a6]=G_s_l13Open R a1 a3 a4 a5 a6:=(den2_of (by kernel_rfl)).trans (by kernel_rfl)
theorem g_s_l13Open:F_s_l13Open [a0,a1,a2,a3,a4,a5,a6]=G_s_l13Open rounds a1 a3 a4 a5 a6:=gr_s_l13Open rounds a0 a1 a2 a3 a4 a5 a6
def G_s_Before:Option (List T) :=
 Yu a0 a8 fun a16 =>
 ifT a16 (
 Yl a0 a8 fun a17 =>
 Yz a17 fun a18 =>
 some [a18]) (
 Yu a1 a9 fun a17 =>
 ifT a17 (
 Yl a1 a9 fun a18 =>
 Yz a18 fun a19 =>
 some [a19]) (
 Yu a2 a10 fun a18 =>
 ifT a18 (
 Yl a2 a10 fun a19 =>
 Yz a19 fun a20 =>
 some [a20]) (
 Yl a3 a11 fun a19 =>
 Yz a19 fun a20 =>
 some [a20])))
theorem gr_s_Before:p_s_Before.den (pick []) R [] [a0,a1,a2,a3,a4,a5,a6,a7,a8,a9,a10,a11,a12,a13,a14,a15]=G_s_Before a0 a1 a2 a3 a8 a9 a10 a11:=(den2_of (by kernel_rfl)).trans (by kernel_rfl)
theorem g_s_Before:F_s_Before [a0,a1,a2,a3,a4,a5,a6,a7,a8,a9,a10,a11,a12,a13,a14,a15]=G_s_Before a0 a1 a2 a3 a8 a9 a10 a11:=gr_s_Before rounds a0 a1 a2 a3 a4 a5 a6 a7 a8 a9 a10 a11 a12 a13 a14 a15
def G_s_l05Put_l0:Option (List T) :=
 (ar2 fun a16 a17 =>
 Yn a0 fun a18 =>
 Yl a17 a18 fun a19 =>
 ifT a19 (
 Y8 a0 a17 fun a21 a22 a23 a24 a25 a26 a27 a28 =>
 cl1 (f_s_Before [a1,a2,a3,a4,a5,a6,a7,a8,a21,a22,a23,a24,a25,a26,a27,a28]) fun a29 =>
 jn (ar1 fun a30 =>
 Ya a17 (ii 1) fun a31 =>
 k1 [a30,a31]) fun k2 =>
 ifT a29 (
 Y8 a0 a17 fun a31 a32 a33 a34 a35 a36 a37 a38 =>
 pv (.lit 8 []) [a31,a32,a33,a34,a35,a36,a37,a38] fun a39 =>
 Yy a16 a39 fun a40 =>
 k2 [a40]) (
 k2 [a16])) (
 some [a16])) ts
def G_s_l05Put_l1:Option (List T) :=
 (ar2 fun a10 a11 =>
 Yn a0 fun a12 =>
 Yl a11 a12 fun a13 =>
 ifT a13 (
 Y8 a0 a11 fun a15 a16 a17 a18 a19 a20 a21 a22 =>
 cl1 (f_s_Before [a15,a16,a17,a18,a19,a20,a21,a22,a1,a2,a3,a4,a5,a6,a7,a8]) fun a23 =>
 jn (ar1 fun a24 =>
 Ya a11 (ii 1) fun a25 =>
 k0 [a24,a25]) fun k1 =>
 ifT a23 (
 Y8 a0 a11 fun a25 a26 a27 a28 a29 a30 a31 a32 =>
 pv (.lit 8 []) [a25,a26,a27,a28,a29,a30,a31,a32] fun a33 =>
 Yy a10 a33 fun a34 =>
 k1 [a34]) (
 k1 [a10])) (
 pv (.lit 8 []) [a1,a2,a3,a4,a5,a6,a7,a8] fun a14 =>
 Yy a10 a14 fun a15 =>
 iter (G_s_l05Put_l0 f_s_Before a0 a1 a2 a3 a4 a5 a6 a7 a8) R [a15,ii 0])) ts
def G_s_l05Put:Option (List T) :=
 pv (.lit 8 []) [] fun a9 =>
 iter (G_s_l05Put_l1 R f_s_Before a0 a1 a2 a3 a4 a5 a6 a7 a8) R [a9,ii 0]
theorem gr_s_l05Put:p_s_l05Put.den (pick [(140,f_s_Before)]) R [] [a0,a1,a2,a3,a4,a5,a6,a7,a8]=G_s_l05Put R f_s_Before a0 a1 a2 a3 a4 a5 a6 a7 a8:=(den2_of (by kernel_rfl)).trans (by kernel_rfl)
theorem g_s_l05Put:F_s_l05Put [a0,a1,a2,a3,a4,a5,a6,a7,a8]=G_s_l05Put rounds F_s_Before a0 a1 a2 a3 a4 a5 a6 a7 a8:=gr_s_l05Put rounds F_s_Before a0 a1 a2 a3 a4 a5 a6 a7 a8
def G_s_Border:Option (List T) :=
 cl1 (f_s_AreasOf [a0,a1,a2,a3]) fun a4 =>
 Yn a4 fun a5 =>
 Yg a5 (ii 1) fun a6 =>
 ifT a6 (
 Yb a4 (ii 0) fun a7 =>
 Yc 1 0 a4 (ii 0) fun a8 =>
 Ye a8 (ii 0) fun a9 =>
 Yz a9 fun a10 =>
 some [a10]) (
 Yz (bb false) fun a7 =>
 some [a7])
theorem gr_s_Border:p_s_Border.den (pick [(53,f_s_AreasOf)]) R [] [a0,a1,a2,a3]=G_s_Border f_s_AreasOf a0 a1 a2 a3:=(den2_of (by kernel_rfl)).trans (by kernel_rfl)
theorem g_s_Border:F_s_Border [a0,a1,a2,a3]=G_s_Border F_s_AreasOf a0 a1 a2 a3:=gr_s_Border rounds F_s_AreasOf a0 a1 a2 a3
def G_s_l04Near_l0:Option (List T) :=
 (ar2 fun a8 a9 =>
 Yn a5 fun a10 =>
 Yl a9 a10 fun a11 =>
 ifT a11 (
 Y2 a5 a9 fun a13 a14 =>
 cl1 (f_s_l01In [a13,ii 1,ii 6]) fun a15 =>
 Yt a15 fun a16 =>
 ifT a16 (
 Yz (bb false) fun a17 =>
 some [a17]) (
 Ye a13 a2 fun a17 =>
 ifT a17 (
 Yz (bb false) fun a18 =>
 some [a18]) (
 cl1 (f_s_l01In [a14,ii 1,ii 1000]) fun a18 =>
 Yt a18 fun a19 =>
 ifT a19 (
 Yz (bb false) fun a20 =>
 some [a20]) (
 Yg a9 (ii 0) fun a20 =>
 ifT a20 (
 Ys a9 (ii 1) fun a21 =>
 Yb a5 a21 fun a22 =>
 Yc 2 0 a5 a21 fun a23 =>
 Yh a23 a13 fun a24 =>
 ifT a24 (
 Yz (bb false) fun a25 =>
 some [a25]) (
 Ya a9 (ii 1) fun a25 =>
 k0 [a8,a25])) (
 Ya a9 (ii 1) fun a21 =>
 k0 [a8,a21]))))) (
 Yz (bb true) fun a12 =>
 some [a12])) ts
def G_s_l04Near:Option (List T) :=
 iter (G_s_l04Near_l0 f_s_l01In a2 a5) R [bb false,ii 0]
theorem gr_s_l04Near:p_s_l04Near.den (pick [(84,f_s_l01In)]) R [] [a0,a1,a2,a3,a4,a5,a6,a7]=G_s_l04Near R f_s_l01In a2 a5:=(den2_of (by kernel_rfl)).trans (by kernel_rfl)
theorem g_s_l04Near:F_s_l04Near [a0,a1,a2,a3,a4,a5,a6,a7]=G_s_l04Near rounds F_s_l01In a2 a5:=gr_s_l04Near rounds F_s_l01In a0 a1 a2 a3 a4 a5 a6 a7
def G_s_RecordOk:Option (List T) :=
 cl1 (f_s_l01In [a2,ii 1,ii 6]) fun a8 =>
 Yt a8 fun a9 =>
 ifT a9 (
 Yz (bb false) fun a10 =>
 some [a10]) (
 cl1 (f_s_l01In [a4,ii 1,ii 100000]) fun a10 =>
 Yt a10 fun a11 =>
 ifT a11 (
 Yz (bb false) fun a12 =>
 some [a12]) (
 Ye a1 (ii 1) fun a12 =>
 ifT a12 (
 cl1 (f_s_l01In [a0,ii 0,ii 2]) fun a13 =>
 ifT a13 (
 Ye a3 (ii 0) fun a14 =>
 ifT a14 (
 cl1 (f_s_l04Near [a0,a1,a2,a3,a4,a5,a6,a7]) fun a15 =>
 ifT a15 (
 Ye a6 (ii 0) fun a16 =>
 ifT a16 (
 Yt a7 fun a17 =>
 Yz a17 fun a18 =>
 some [a18]) (
 Yz (bb false) fun a17 =>
 some [a17])) (
 Yz (bb false) fun a16 =>
 some [a16])) (
 Yz (bb false) fun a15 =>
 some [a15])) (
 Yz (bb false) fun a14 =>
 some [a14])) (
 Ye a1 (ii 2) fun a13 =>
 ifT a13 (
 cl1 (f_s_l01In [a0,ii 0,ii 2]) fun a14 =>
 ifT a14 (
 cl1 (f_s_l01In [a3,ii 1,ii 6]) fun a15 =>
 ifT a15 (
 Yn a5 fun a16 =>
 Ye a16 (ii 0) fun a17 =>
 ifT a17 (
 cl1 (f_s_l01In [a6,ii 0,ii 60000]) fun a18 =>
 ifT a18 (
 Yt a7 fun a19 =>
 Yz a19 fun a20 =>
 some [a20]) (
 Yz (bb false) fun a19 =>
 some [a19])) (
 Yz (bb false) fun a18 =>
 some [a18])) (
 Yz (bb false) fun a16 =>
 some [a16])) (
 Yz (bb false) fun a15 =>
 some [a15])) (
 Ye a1 (ii 3) fun a14 =>
 ifT a14 (
 Ye a0 (ii 9) fun a15 =>
 ifT a15 (
 cl1 (f_s_l01In [a3,ii 1,ii 9]) fun a16 =>
 ifT a16 (
 Yn a5 fun a17 =>
 Ye a17 (ii 0) fun a18 =>
 ifT a18 (
 cl1 (f_s_l01In [a6,ii 1,ii 1000]) fun a19 =>
 ifT a19 (
 Yz (bb true) fun a20 =>
 some [a20]) (
 Ye a6 (ii 60000) fun a20 =>
 Yz a20 fun a21 =>
 some [a21])) (
 Yz (bb false) fun a19 =>
 some [a19])) (
 Yz (bb false) fun a17 =>
 some [a17])) (
 Yz (bb false) fun a16 =>
 some [a16])) (
 Yz (bb false) fun a15 =>
 some [a15])))))
theorem gr_s_RecordOk:p_s_RecordOk.den (pick [(84,f_s_l01In),(189,f_s_l04Near)]) R [] [a0,a1,a2,a3,a4,a5,a6,a7]=G_s_RecordOk f_s_l01In f_s_l04Near a0 a1 a2 a3 a4 a5 a6 a7:=(den2_of (by kernel_rfl)).trans (by kernel_rfl)
theorem g_s_RecordOk:F_s_RecordOk [a0,a1,a2,a3,a4,a5,a6,a7]=G_s_RecordOk F_s_l01In F_s_l04Near a0 a1 a2 a3 a4 a5 a6 a7:=gr_s_RecordOk rounds F_s_l01In F_s_l04Near a0 a1 a2 a3 a4 a5 a6 a7
def G_s_StoreOk_l0:Option (List T) :=
 (ar2 fun a3 a4 =>
 Yn a0 fun a5 =>
 Yl a4 a5 fun a6 =>
 ifT a6 (
 Y8 a0 a4 fun a8 a9 a10 a11 a12 a13 a14 a15 =>
 cl1 (f_s_RecordOk [a8,a9,a10,a11,a12,a13,a14,a15]) fun a16 =>
 Yt a16 fun a17 =>
 ifT a17 (
 Yz (bb false) fun a18 =>
 some [a18]) (
 Yg a4 (ii 0) fun a18 =>
 ifT a18 (
 Ys a4 (ii 1) fun a19 =>
 Y8 a0 a19 fun a21 a22 a23 a24 a25 a26 a27 a28 =>
 Y8 a0 a4 fun a30 a31 a32 a33 a34 a35 a36 a37 =>
 cl1 (f_s_Before [a21,a22,a23,a24,a25,a26,a27,a28,a30,a31,a32,a33,a34,a35,a36,a37]) fun a38 =>
 Yt a38 fun a39 =>
 ifT a39 (
 Yz (bb false) fun a40 =>
 some [a40]) (
 Ya a4 (ii 1) fun a40 =>
 k0 [a3,a40])) (
 Ya a4 (ii 1) fun a19 =>
 k0 [a3,a19]))) (
 Yz (bb true) fun a7 =>
 some [a7])) ts
def G_s_StoreOk:Option (List T) :=
 Yn a0 fun a1 =>
 Yg a1 (ii 150) fun a2 =>
 ifT a2 (
 Yz (bb false) fun a3 =>
 some [a3]) (
 iter (G_s_StoreOk_l0 f_s_Before f_s_RecordOk a0) R [bb false,ii 0])
theorem gr_s_StoreOk:p_s_StoreOk.den (pick [(139,f_s_RecordOk),(140,f_s_Before)]) R [] [a0]=G_s_StoreOk R f_s_Before f_s_RecordOk a0:=(den2_of (by kernel_rfl)).trans (by kernel_rfl)
theorem g_s_StoreOk:F_s_StoreOk [a0]=G_s_StoreOk rounds F_s_Before F_s_RecordOk a0:=gr_s_StoreOk rounds F_s_Before F_s_RecordOk a0
def G_s_SameKey:Option (List T) :=
 Ye a0 a8 fun a16 =>
 ifT a16 (
 Ye a1 a9 fun a17 =>
 ifT a17 (
 Ye a2 a10 fun a18 =>
 ifT a18 (
 Ye a3 a11 fun a19 =>
 Yz a19 fun a20 =>
 some [a20]) (
 Yz (bb false) fun a19 =>
 some [a19])) (
 Yz (bb false) fun a18 =>
 some [a18])) (
 Yz (bb false) fun a17 =>
 some [a17])
theorem gr_s_SameKey:p_s_SameKey.den (pick []) R [] [a0,a1,a2,a3,a4,a5,a6,a7,a8,a9,a10,a11,a12,a13,a14,a15]=G_s_SameKey a0 a1 a2 a3 a8 a9 a10 a11:=(den2_of (by kernel_rfl)).trans (by kernel_rfl)
theorem g_s_SameKey:F_s_SameKey [a0,a1,a2,a3,a4,a5,a6,a7,a8,a9,a10,a11,a12,a13,a14,a15]=G_s_SameKey a0 a1 a2 a3 a8 a9 a10 a11:=gr_s_SameKey rounds a0 a1 a2 a3 a4 a5 a6 a7 a8 a9 a10 a11 a12 a13 a14 a15
def G_s_l05At_l0:Option (List T) :=
 (ar2 fun a9 a10 =>
 Yn a0 fun a11 =>
 Yl a10 a11 fun a12 =>
 ifT a12 (
 Y8 a0 a10 fun a14 a15 a16 a17 a18 a19 a20 a21 =>
 cl1 (f_s_SameKey [a14,a15,a16,a17,a18,a19,a20,a21,a1,a2,a3,a4,a5,a6,a7,a8]) fun a22 =>
 ifT a22 (
 Yz a10 fun a23 =>
 some [a23]) (
 Ya a10 (ii 1) fun a23 =>
 k0 [a9,a23])) (
 Yz (ii (-1)) fun a13 =>
 some [a13])) ts
def G_s_l05At:Option (List T) :=
 iter (G_s_l05At_l0 f_s_SameKey a0 a1 a2 a3 a4 a5 a6 a7 a8) R [ii 0,ii 0]
theorem gr_s_l05At:p_s_l05At.den (pick [(160,f_s_SameKey)]) R [] [a0,a1,a2,a3,a4,a5,a6,a7,a8]=G_s_l05At R f_s_SameKey a0 a1 a2 a3 a4 a5 a6 a7 a8:=(den2_of (by kernel_rfl)).trans (by kernel_rfl)
theorem g_s_l05At:F_s_l05At [a0,a1,a2,a3,a4,a5,a6,a7,a8]=G_s_l05At rounds F_s_SameKey a0 a1 a2 a3 a4 a5 a6 a7 a8:=gr_s_l05At rounds F_s_SameKey a0 a1 a2 a3 a4 a5 a6 a7 a8
def G_s_l06Node:Option (List T) :=
 cl1 (f_s_l05At [a0,a1,ii 1,a2,ii 0,ii 0,.l [],ii 0,bb false]) fun a3 =>
 Yl a3 (ii 0) fun a4 =>
 ifT a4 (
 Yz (bb false) fun a5 =>
 Yz (bb false) fun a6 =>
 Yz (ii 0) fun a7 =>
 Yz (ii 0) fun a8 =>
 Yz (ii 0) fun a9 =>
 Yz (ii 0) fun a10 =>
 Yz (ii 0) fun a11 =>
 Yz (ii 0) fun a12 =>
 some [a12,a11,a10,a9,a8,.l [],a7,a6,a5]) (
 Y8 a0 a3 fun a6 a7 a8 a9 a10 a11 a12 a13 =>
 Yz (bb true) fun a14 =>
 Yz a13 fun a15 =>
 Yz a12 fun a16 =>
 Yz a10 fun a17 =>
 Yz a9 fun a18 =>
 Yz a8 fun a19 =>
 Yz a7 fun a20 =>
 Yz a6 fun a21 =>
 some [a21,a20,a19,a18,a17,a11,a16,a15,a14])
theorem gr_s_l06Node:p_s_l06Node.den (pick [(123,f_s_l05At)]) R [] [a0,a1,a2]=G_s_l06Node f_s_l05At a0 a1 a2:=(den2_of (by kernel_rfl)).trans (by kernel_rfl)
theorem g_s_l06Node:F_s_l06Node [a0,a1,a2]=G_s_l06Node F_s_l05At a0 a1 a2:=gr_s_l06Node rounds F_s_l05At a0 a1 a2
def G_s_l06Tells_l0:Option (List T) :=
 (ar2 fun a13 a14 =>
 Yn a9 fun a15 =>
 Yl a14 a15 fun a16 =>
 ifT a16 (
 Yb a9 a14 fun a17 =>
 Yc 2 0 a9 a14 fun a18 =>
 Ye a18 a3 fun a19 =>
 ifT a19 (
 Yb a9 a14 fun a20 =>
 Yc 2 1 a9 a14 fun a21 =>
 Yz a21 fun a22 =>
 some [a22]) (
 Ya a14 (ii 1) fun a20 =>
 k0 [a13,a20])) (
 Yz (ii 0) fun a17 =>
 some [a17])) ts
def G_s_l06Tells:Option (List T) :=
 cl9 (f_s_l06Node [a0,a1,a2]) fun a4 a5 a6 a7 a8 a9 a10 a11 a12 =>
 iter (G_s_l06Tells_l0 a3 a9) R [ii 0,ii 0]
theorem gr_s_l06Tells:p_s_l06Tells.den (pick [(83,f_s_l06Node)]) R [] [a0,a1,a2,a3]=G_s_l06Tells R f_s_l06Node a0 a1 a2 a3:=(den2_of (by kernel_rfl)).trans (by kernel_rfl)
theorem g_s_l06Tells:F_s_l06Tells [a0,a1,a2,a3]=G_s_l06Tells rounds F_s_l06Node a0 a1 a2 a3:=gr_s_l06Tells rounds F_s_l06Node a0 a1 a2 a3
def G_s_l06Links_l0:Option (List T) :=
 (ar2 fun a15 a16 =>
 Yn a11 fun a17 =>
 Yl a15 a17 fun a18 =>
 ifT a18 (
 Yb a11 a15 fun a19 =>
 Yc 2 0 a11 a15 fun a20 =>
 cl1 (f_s_l01In [a20,ii 1,ii 6]) fun a21 =>
 ifT a21 (
 Yb a11 a15 fun a22 =>
 Yc 2 0 a11 a15 fun a23 =>
 cl1 (f_s_l06Tells [a0,a1,a23,a3]) fun a24 =>
 Yg a24 (ii 0) fun a25 =>
 jn (ar1 fun a26 =>
 Ya a15 (ii 1) fun a27 =>
 k1 [a27,a26]) fun k2 =>
 ifT a25 (
 pv (.bin .mul) [a3,ii 7] fun a26 =>
 Yb a11 a15 fun a27 =>
 Yc 2 0 a11 a15 fun a28 =>
 Ya a26 a28 fun a29 =>
 Yb a11 a15 fun a30 =>
 Yc 2 1 a11 a15 fun a31 =>
 Yb a16 a29 fun a32 =>
 pv (.put true 1 0 1) [a16,a29,a31] fun a33 =>
 k2 [a33]) (
 k2 [a16])) (
 jn (ar1 fun a22 =>
 Ya a15 (ii 1) fun a23 =>
 k1 [a23,a22]) fun k2 =>
 k2 [a16])) (
 Ya a3 (ii 1) fun a19 =>
 k0 [a19,a16])) ts
def G_s_l06Links_l1:Option (List T) :=
 (ar2 fun a3 a4 =>
 Ym a3 (ii 6) fun a5 =>
 ifT a5 (
 cl9 (f_s_l06Node [a0,a1,a3]) fun a6 a7 a8 a9 a10 a11 a12 a13 a14 =>
 iter (G_s_l06Links_l0 f_s_l01In f_s_l06Tells a0 a1 a3 a11 k0) R [ii 0,a4]) (
 some [a4])) ts
def G_s_l06Links:Option (List T) :=
 pv (.mk) [ii 49,ii 49,ii 0] fun a2 =>
 iter (G_s_l06Links_l1 R f_s_l01In f_s_l06Node f_s_l06Tells a0 a1) R [ii 1,a2]
theorem gr_s_l06Links:p_s_l06Links.den (pick [(83,f_s_l06Node),(84,f_s_l01In),(127,f_s_l06Tells)]) R [] [a0,a1]=G_s_l06Links R f_s_l01In f_s_l06Node f_s_l06Tells a0 a1:=(den2_of (by kernel_rfl)).trans (by kernel_rfl)
theorem g_s_l06Links:F_s_l06Links [a0,a1]=G_s_l06Links rounds F_s_l01In F_s_l06Node F_s_l06Tells a0 a1:=gr_s_l06Links rounds F_s_l01In F_s_l06Node F_s_l06Tells a0 a1
def G_s_l03In_l0:Option (List T) :=
 (ar2 fun a2 a3 =>
 Yn a0 fun a4 =>
 Yl a3 a4 fun a5 =>
 ifT a5 (
 Y1 a0 a3 fun a7 =>
 Ye a7 a1 fun a8 =>
 ifT a8 (
 Yz (bb true) fun a9 =>
 some [a9]) (
 Ya a3 (ii 1) fun a9 =>
 k0 [a2,a9])) (
 Yz (bb false) fun a6 =>
 some [a6])) ts
def G_s_l03In:Option (List T) :=
 iter (G_s_l03In_l0 a0 a1) R [bb false,ii 0]
theorem gr_s_l03In:p_s_l03In.den (pick []) R [] [a0,a1]=G_s_l03In R a0 a1:=(den2_of (by kernel_rfl)).trans (by kernel_rfl)
theorem g_s_l03In:F_s_l03In [a0,a1]=G_s_l03In rounds a0 a1:=gr_s_l03In rounds a0 a1
def G_s_l06Add_l0:Option (List T) :=
 (ar2 fun a3 a4 =>
 Ym a4 (ii 6) fun a5 =>
 ifT a5 (
 cl1 (f_s_l03In [a0,a4]) fun a6 =>
 ifT a6 (
 jn (ar1 fun a7 =>
 Ya a4 (ii 1) fun a8 =>
 k0 [a7,a8]) fun k1 =>
 Yx a4 fun a7 =>
 Yp a3 a7 fun a8 =>
 k1 [a8]) (
 cl1 (f_s_l03In [a1,a4]) fun a7 =>
 jn (ar1 fun a8 =>
 Ya a4 (ii 1) fun a9 =>
 k0 [a8,a9]) fun k1 =>
 ifT a7 (
 Yx a4 fun a8 =>
 Yp a3 a8 fun a9 =>
 k1 [a9]) (
 k1 [a3]))) (
 some [a3])) ts
def G_s_l06Add:Option (List T) :=
 pv (.lit 1 []) [] fun a2 =>
 iter (G_s_l06Add_l0 f_s_l03In a0 a1) R [a2,ii 1]
theorem gr_s_l06Add:p_s_l06Add.den (pick [(162,f_s_l03In)]) R [] [a0,a1]=G_s_l06Add R f_s_l03In a0 a1:=(den2_of (by kernel_rfl)).trans (by kernel_rfl)
theorem g_s_l06Add:F_s_l06Add [a0,a1]=G_s_l06Add rounds F_s_l03In a0 a1:=gr_s_l06Add rounds F_s_l03In a0 a1
def G_s_WaysIn_l0:Option (List T) :=
 (ar2 fun a32 a33 =>
 Ym a33 (ii 6) fun a34 =>
 ifT a34 (
 Yq a29 a33 fun a36 =>
 jn (ar1 fun a37 =>
 Ya a33 (ii 1) fun a38 =>
 k2 [a37,a38]) fun k3 =>
 ifT a36 (
 Yq a30 a33 fun a38 =>
 pv (.lit 1 []) [] fun a39 =>
 Y1 a28 a33 fun a41 =>
 Yp a39 a41 fun a42 =>
 pv (.lit 3 [true,true,false]) [a33,a38,a42] fun a43 =>
 Yo a32 a43 fun a44 =>
 k3 [a44]) (
 k3 [a32])) (
 some [a32])) ts
def G_s_WaysIn_l1:Option (List T) :=
 (ar3 fun a38 a39 a40 =>
 Ym a38 (ii 6) fun a41 =>
 ifT a41 (
 pv (.bin .mul) [a32,ii 7] fun a42 =>
 Ya a42 a38 fun a43 =>
 Y1 a18 a43 fun a45 =>
 Ye a45 (ii 0) fun a46 =>
 ifT a46 (
 Ya a38 (ii 1) fun a47 =>
 k3 [a47,a39,a40]) (
 Yq a37 a38 fun a48 =>
 ifT a48 (
 Ya a38 (ii 1) fun a49 =>
 k3 [a49,a39,a40]) (
 Y1 a39 a32 fun a50 =>
 Ye a32 a2 fun a51 =>
 jn (ar1 fun a52 =>
 Yq a40 a32 fun a54 =>
 Ya a54 a45 fun a55 =>
 Yq a40 a38 fun a57 =>
 Yl a57 (ii 0) fun a58 =>
 ifT a58 (
 jn (ar2 fun a59 a60 =>
 Ya a38 (ii 1) fun a61 =>
 k3 [a61,a59,a60]) fun k4 =>
 Yb a40 a38 fun a59 =>
 pv (.put true 1 0 1) [a40,a38,a55] fun a60 =>
 pv (.lit 1 []) [] fun a61 =>
 cl1 (f_s_l06Add [a61,a52]) fun a62 =>
 Yb a39 a38 fun a63 =>
 pv (.put false 1 0 1) [a39,a38,a62] fun a64 =>
 k4 [a64,a60]) (
 Yq a40 a38 fun a60 =>
 Yl a55 a60 fun a61 =>
 jn (ar2 fun a62 a63 =>
 Ya a38 (ii 1) fun a64 =>
 k3 [a64,a62,a63]) fun k4 =>
 ifT a61 (
 Yb a40 a38 fun a62 =>
 pv (.put true 1 0 1) [a40,a38,a55] fun a63 =>
 pv (.lit 1 []) [] fun a64 =>
 cl1 (f_s_l06Add [a64,a52]) fun a65 =>
 Yb a39 a38 fun a66 =>
 pv (.put false 1 0 1) [a39,a38,a65] fun a67 =>
 k4 [a67,a63]) (
 Yq a40 a38 fun a63 =>
 Ye a55 a63 fun a64 =>
 jn (ar1 fun a65 =>
 k4 [a65,a40]) fun k5 =>
 ifT a64 (
 Y1 a39 a38 fun a66 =>
 cl1 (f_s_l06Add [a66,a52]) fun a67 =>
 Yb a39 a38 fun a68 =>
 pv (.put false 1 0 1) [a39,a38,a67] fun a69 =>
 k5 [a69]) (
 k5 [a39])))) fun k4 =>
 ifT a51 (
 Yx a38 fun a52 =>
 k4 [a52]) (
 k4 [a50])))) (
 Ya a27 (ii 1) fun a42 =>
 k1 [a42,a39,a37,a40])) ts
def G_s_WaysIn_l2:Option (List T) :=
 (ar2 fun a32 a33 =>
 Ym a33 (ii 6) fun a34 =>
 ifT a34 (
 Yq a29 a33 fun a36 =>
 Yt a36 fun a37 =>
 ifT a37 (
 Yq a30 a33 fun a39 =>
 Yh a39 (ii 0) fun a40 =>
 ifT a40 (
 Ye a32 (ii 0) fun a41 =>
 ifT a41 (
 jn (ar1 fun a42 =>
 Ya a33 (ii 1) fun a43 =>
 k2 [a42,a43]) fun k3 =>
 k3 [a33]) (
 Yq a30 a33 fun a43 =>
 Yq a30 a32 fun a45 =>
 Yl a43 a45 fun a46 =>
 jn (ar1 fun a47 =>
 Ya a33 (ii 1) fun a48 =>
 k2 [a47,a48]) fun k3 =>
 ifT a46 (
 k3 [a33]) (
 k3 [a32]))) (
 jn (ar1 fun a41 =>
 Ya a33 (ii 1) fun a42 =>
 k2 [a41,a42]) fun k3 =>
 k3 [a32])) (
 jn (ar1 fun a38 =>
 Ya a33 (ii 1) fun a39 =>
 k2 [a38,a39]) fun k3 =>
 k3 [a32])) (
 Ye a32 (ii 0) fun a35 =>
 ifT a35 (
 Ya (ii 6) (ii 1) fun a36 =>
 k1 [a36,a28,a29,a30]) (
 Yb a29 a32 fun a36 =>
 pv (.put true 1 0 1) [a29,a32,bb true] fun a37 =>
 iter (G_s_WaysIn_l1 f_s_l06Add a2 a18 a27 a32 a37 k1) R [ii 1,a28,a30]))) ts
def G_s_WaysIn_l3:Option (List T) :=
 (ar4 fun a27 a28 a29 a30 =>
 Ym a27 (ii 6) fun a31 =>
 ifT a31 (
 iter (G_s_WaysIn_l2 R f_s_l06Add a2 a18 a27 a28 a29 a30 k1) R [ii 0,ii 1]) (
 iter (G_s_WaysIn_l0 a28 a29 a30) R [a3,ii 1])) ts
def G_s_WaysIn_l4:Option (List T) :=
 (ar2 fun a22 a23 =>
 Ym a22 (ii 6) fun a24 =>
 ifT a24 (
 Yb a23 a22 fun a25 =>
 pv (.put true 1 0 1) [a23,a22,ii (-1)] fun a26 =>
 Ya a22 (ii 1) fun a27 =>
 k0 [a27,a26]) (
 Yb a23 a2 fun a25 =>
 pv (.put true 1 0 1) [a23,a2,ii 0] fun a26 =>
 iter (G_s_WaysIn_l3 R f_s_l06Add a2 a3 a18) R [ii 1,a20,a21,a26])) ts
def G_s_WaysIn:Option (List T) :=
 pv (.lit 3 []) [] fun a3 =>
 cl9 (f_s_l06Node [a0,a1,a2]) fun a4 a5 a6 a7 a8 a9 a10 a11 a12 =>
 cl1 (f_s_StoreOk [a0]) fun a13 =>
 Yt a13 fun a14 =>
 ifT a14 (
 some [a3]) (
 cl1 (f_s_l01In [a2,ii 1,ii 6]) fun a15 =>
 Yt a15 fun a16 =>
 ifT a16 (
 some [a3]) (
 Yt a12 fun a17 =>
 ifT a17 (
 some [a3]) (
 cl1 (f_s_l06Links [a0,a1]) fun a18 =>
 pv (.mk) [ii 7,ii 7,ii 0] fun a19 =>
 pv (.mk) [ii 7,ii 7,.l []] fun a20 =>
 pv (.mk) [ii 7,ii 7,bb false] fun a21 =>
 iter (G_s_WaysIn_l4 R f_s_l06Add a2 a3 a18 a20 a21) R [ii 1,a19])))
theorem gr_s_WaysIn:p_s_WaysIn.den (pick [(63,f_s_StoreOk),(83,f_s_l06Node),(84,f_s_l01In),(85,f_s_l06Links),(86,f_s_l06Add)]) R [] [a0,a1,a2]=G_s_WaysIn R f_s_StoreOk f_s_l01In f_s_l06Add f_s_l06Links f_s_l06Node a0 a1 a2:=(den2_of (by kernel_rfl)).trans (by kernel_rfl)
theorem g_s_WaysIn:F_s_WaysIn [a0,a1,a2]=G_s_WaysIn rounds F_s_StoreOk F_s_l01In F_s_l06Add F_s_l06Links F_s_l06Node a0 a1 a2:=gr_s_WaysIn rounds F_s_StoreOk F_s_l01In F_s_l06Add F_s_l06Links F_s_l06Node a0 a1 a2
def G_s_l06Copy:Option (List T) :=
 pv (.lit 1 []) [] fun a3 =>
 Yp a3 a2 fun a4 =>
 Yz a1 fun a5 =>
 Yz a0 fun a6 =>
 some [a6,a5,a4]
theorem gr_s_l06Copy:p_s_l06Copy.den (pick []) R [] [a0,a1,a2]=G_s_l06Copy a0 a1 a2:=(den2_of (by kernel_rfl)).trans (by kernel_rfl)
theorem g_s_l06Copy:F_s_l06Copy [a0,a1,a2]=G_s_l06Copy a0 a1 a2:=gr_s_l06Copy rounds a0 a1 a2
def G_s_WayTo_l0:Option (List T) :=
 (ar2 fun a2 a3 =>
 Yn a0 fun a4 =>
 Yl a3 a4 fun a5 =>
 ifT a5 (
 Yb a0 a3 fun a6 =>
 Yc 3 0 a0 a3 fun a7 =>
 Ye a7 a1 fun a8 =>
 ifT a8 (
 Y3 a0 a3 fun a10 a11 a12 =>
 cl3 (f_s_l06Copy [a10,a11,a12]) fun a13 a14 a15 =>
 Yz (bb true) fun a16 =>
 Yz a14 fun a17 =>
 Yz a13 fun a18 =>
 some [a18,a17,a15,a16]) (
 Ya a3 (ii 1) fun a9 =>
 k0 [a2,a9])) (
 Yz (bb false) fun a6 =>
 Yz (ii 0) fun a7 =>
 Yz (ii 0) fun a8 =>
 some [a8,a7,.l [],a6])) ts
def G_s_WayTo:Option (List T) :=
 iter (G_s_WayTo_l0 f_s_l06Copy a0 a1) R [bb false,ii 0]
theorem gr_s_WayTo:p_s_WayTo.den (pick [(128,f_s_l06Copy)]) R [] [a0,a1]=G_s_WayTo R f_s_l06Copy a0 a1:=(den2_of (by kernel_rfl)).trans (by kernel_rfl)
theorem g_s_WayTo:F_s_WayTo [a0,a1]=G_s_WayTo rounds F_s_l06Copy a0 a1:=gr_s_WayTo rounds F_s_l06Copy a0 a1
def G_s_Better:Option (List T) :=
 Yl a1 a4 fun a6 =>
 Yz a6 fun a7 =>
 some [a7]
theorem gr_s_Better:p_s_Better.den (pick []) R [] [a0,a1,a2,a3,a4,a5]=G_s_Better a1 a4:=(den2_of (by kernel_rfl)).trans (by kernel_rfl)
theorem g_s_Better:F_s_Better [a0,a1,a2,a3,a4,a5]=G_s_Better a1 a4:=gr_s_Better rounds a0 a1 a2 a3 a4 a5
def G_s_Together:Option (List T) :=
 cl1 (f_s_Better [a0,a1,a2,a3,a4,a5]) fun a6 =>
 ifT a6 (
 cl3 (f_s_l06Copy [a0,a1,a2]) fun a7 a8 a9 =>
 Yz a8 fun a10 =>
 Yz a7 fun a11 =>
 some [a11,a10,a9]) (
 cl1 (f_s_Better [a3,a4,a5,a0,a1,a2]) fun a7 =>
 ifT a7 (
 cl3 (f_s_l06Copy [a3,a4,a5]) fun a8 a9 a10 =>
 Yz a9 fun a11 =>
 Yz a8 fun a12 =>
 some [a12,a11,a10]) (
 cl1 (f_s_l06Add [a2,a5]) fun a8 =>
 Yz a1 fun a9 =>
 Yz a0 fun a10 =>
 some [a10,a9,a8]))
theorem gr_s_Together:p_s_Together.den (pick [(86,f_s_l06Add),(128,f_s_l06Copy),(168,f_s_Better)]) R [] [a0,a1,a2,a3,a4,a5]=G_s_Together f_s_Better f_s_l06Add f_s_l06Copy a0 a1 a2 a3 a4 a5:=(den2_of (by kernel_rfl)).trans (by kernel_rfl)
theorem g_s_Together:F_s_Together [a0,a1,a2,a3,a4,a5]=G_s_Together F_s_Better F_s_l06Add F_s_l06Copy a0 a1 a2 a3 a4 a5:=gr_s_Together rounds F_s_Better F_s_l06Add F_s_l06Copy a0 a1 a2 a3 a4 a5
def G_s_RoutesWithin_l0:Option (List T) :=
 (ar5 fun a12 a13 a14 a15 a16 =>
 Yn a1 fun a17 =>
 Yl a13 a17 fun a18 =>
 ifT a18 (
 Y1 a5 a13 fun a20 =>
 cl4 (f_s_WayTo [a20,a10]) fun a21 a22 a23 a24 =>
 Yt a24 fun a25 =>
 ifT a25 (
 Ya a13 (ii 1) fun a26 =>
 k2 [a12,a26,a14,a15,a16]) (
 jn (ar3 fun a26 a27 a28 =>
 Ya a13 (ii 1) fun a29 =>
 k2 [bb true,a29,a26,a27,a28]) fun k3 =>
 ifT a12 (
 cl3 (f_s_Together [a14,a15,a16,a21,a22,a23]) fun a26 a27 a28 =>
 k3 [a26,a27,a28]) (
 k3 [a21,a22,a23]))) (
 jn (ar1 fun a19 =>
 Ya a10 (ii 1) fun a20 =>
 k1 [a19,a20]) fun k3 =>
 ifT a12 (
 pv (.lit 3 []) [a14,a15,a16] fun a19 =>
 Yo a9 a19 fun a20 =>
 k3 [a20]) (
 k3 [a9]))) ts
def G_s_RoutesWithin_l1:Option (List T) :=
 (ar2 fun a9 a10 =>
 Ym a10 (ii 6) fun a11 =>
 ifT a11 (
 iter (G_s_RoutesWithin_l0 f_s_Together f_s_WayTo a1 a5 a9 a10 k1) R [bb false,ii 0,ii 0,ii 0,.l []]) (
 some [a9])) ts
def G_s_RoutesWithin_l2:Option (List T) :=
 (ar2 fun a5 a6 =>
 Yn a1 fun a7 =>
 Yl a6 a7 fun a8 =>
 ifT a8 (
 Y1 a1 a6 fun a10 =>
 cl1 (f_s_WaysIn [a0,a10,a2]) fun a11 =>
 pv (.lit 1 []) [a11] fun a12 =>
 pv (.app false 1) [a5,a12] fun a13 =>
 Ya a6 (ii 1) fun a14 =>
 k0 [a13,a14]) (
 iter (G_s_RoutesWithin_l1 R f_s_Together f_s_WayTo a1 a5) R [a3,ii 1])) ts
def G_s_RoutesWithin:Option (List T) :=
 pv (.lit 3 []) [] fun a3 =>
 pv (.lit 1 []) [] fun a4 =>
 iter (G_s_RoutesWithin_l2 R f_s_Together f_s_WayTo f_s_WaysIn a0 a1 a2 a3) R [a4,ii 0]
theorem gr_s_RoutesWithin:p_s_RoutesWithin.den (pick [(16,f_s_WaysIn),(47,f_s_WayTo),(97,f_s_Together)]) R [] [a0,a1,a2]=G_s_RoutesWithin R f_s_Together f_s_WayTo f_s_WaysIn a0 a1 a2:=(den2_of (by kernel_rfl)).trans (by kernel_rfl)
theorem g_s_RoutesWithin:F_s_RoutesWithin [a0,a1,a2]=G_s_RoutesWithin rounds F_s_Together F_s_WayTo F_s_WaysIn a0 a1 a2:=gr_s_RoutesWithin rounds F_s_Together F_s_WayTo F_s_WaysIn a0 a1 a2
def G_s_l07Beyond_l0:Option (List T) :=
 (ar5 fun a9 a10 a11 a12 a13 =>
 Yn a0 fun a14 =>
 Yl a10 a14 fun a15 =>
 ifT a15 (
 Y8 a0 a10 fun a17 a18 a19 a20 a21 a22 a23 a24 =>
 Yu a18 (ii 2) fun a25 =>
 ifT a25 (
 Ya a10 (ii 1) fun a26 =>
 k0 [a9,a26,a11,a12,a13]) (
 Yu a17 a2 fun a26 =>
 ifT a26 (
 Ya a10 (ii 1) fun a27 =>
 k0 [a9,a27,a11,a12,a13]) (
 Yu a20 a4 fun a27 =>
 ifT a27 (
 Ya a10 (ii 1) fun a28 =>
 k0 [a9,a28,a11,a12,a13]) (
 Ye a19 a3 fun a28 =>
 ifT a28 (
 Ya a10 (ii 1) fun a29 =>
 k0 [a9,a29,a11,a12,a13]) (
 Yh a23 (ii 60000) fun a29 =>
 ifT a29 (
 Ya a10 (ii 1) fun a30 =>
 k0 [a9,a30,a11,a12,a13]) (
 cl4 (f_s_WayTo [a1,a19]) fun a30 a31 a32 a33 =>
 Yt a33 fun a34 =>
 ifT a34 (
 Ya a10 (ii 1) fun a35 =>
 k0 [a9,a35,a11,a12,a13]) (
 Ya a31 a23 fun a35 =>
 Yh a35 (ii 60000) fun a36 =>
 ifT a36 (
 Ya a10 (ii 1) fun a37 =>
 k0 [a9,a37,a11,a12,a13]) (
 Ya a31 a23 fun a37 =>
 jn (ar3 fun a38 a39 a40 =>
 Ya a10 (ii 1) fun a41 =>
 k0 [bb true,a41,a38,a39,a40]) fun k1 =>
 ifT a9 (
 cl3 (f_s_Together [a11,a12,a13,a4,a37,a32]) fun a38 a39 a40 =>
 k1 [a38,a39,a40]) (
 k1 [a4,a37,a32]))))))))) (
 Yz a9 fun a16 =>
 Yz a12 fun a17 =>
 Yz a11 fun a18 =>
 some [a18,a17,a13,a16])) ts
def G_s_l07Beyond:Option (List T) :=
 iter (G_s_l07Beyond_l0 f_s_Together f_s_WayTo a0 a1 a2 a3 a4) R [a8,ii 0,a5,a6,a7]
theorem gr_s_l07Beyond:p_s_l07Beyond.den (pick [(47,f_s_WayTo),(97,f_s_Together)]) R [] [a0,a1,a2,a3,a4,a5,a6,a7,a8]=G_s_l07Beyond R f_s_Together f_s_WayTo a0 a1 a2 a3 a4 a5 a6 a7 a8:=(den2_of (by kernel_rfl)).trans (by kernel_rfl)
theorem g_s_l07Beyond:F_s_l07Beyond [a0,a1,a2,a3,a4,a5,a6,a7,a8]=G_s_l07Beyond rounds F_s_Together F_s_WayTo a0 a1 a2 a3 a4 a5 a6 a7 a8:=gr_s_l07Beyond rounds F_s_Together F_s_WayTo a0 a1 a2 a3 a4 a5 a6 a7 a8
def G_s_RoutesBeyond_l0:Option (List T) :=
 (ar5 fun a20 a21 a22 a23 a24 =>
 Yn a1 fun a25 =>
 Yl a21 a25 fun a26 =>
 ifT a26 (
 ifT a2 (
 Y1 a1 a21 fun a28 =>
 Yu a28 (ii 0) fun a29 =>
 ifT a29 (
 Ya a21 (ii 1) fun a30 =>
 k2 [a20,a30,a22,a23,a24]) (
 Y1 a9 a21 fun a31 =>
 Y1 a1 a21 fun a33 =>
 cl4 (f_s_l07Beyond [a0,a31,a33,a3,a14,a22,a23,a24,a20]) fun a34 a35 a36 a37 =>
 Ya a21 (ii 1) fun a38 =>
 k2 [a37,a38,a34,a35,a36])) (
 Y1 a9 a21 fun a28 =>
 Y1 a1 a21 fun a30 =>
 cl4 (f_s_l07Beyond [a0,a28,a30,a3,a14,a22,a23,a24,a20]) fun a31 a32 a33 a34 =>
 Ya a21 (ii 1) fun a35 =>
 k2 [a34,a35,a31,a32,a33])) (
 jn (ar1 fun a27 =>
 Ya a14 (ii 1) fun a28 =>
 k1 [a27,a28]) fun k3 =>
 ifT a20 (
 pv (.lit 3 []) [a22,a23,a24] fun a27 =>
 Yo a13 a27 fun a28 =>
 k3 [a28]) (
 k3 [a13]))) ts
def G_s_RoutesBeyond_l1:Option (List T) :=
 (ar2 fun a13 a14 =>
 Ym a14 (ii 6) fun a15 =>
 ifT a15 (
 cl4 (f_s_WayTo [a5,a14]) fun a16 a17 a18 a19 =>
 ifT a19 (
 Ya a14 (ii 1) fun a20 =>
 k1 [a13,a20]) (
 iter (G_s_RoutesBeyond_l0 f_s_l07Beyond a0 a1 a2 a3 a9 a13 a14 k1) R [bb false,ii 0,ii 0,ii 0,.l []])) (
 some [a13])) ts
def G_s_RoutesBeyond_l2:Option (List T) :=
 (ar2 fun a9 a10 =>
 Yn a1 fun a11 =>
 Yl a10 a11 fun a12 =>
 ifT a12 (
 Y1 a1 a10 fun a14 =>
 cl1 (f_s_WaysIn [a0,a14,a3]) fun a15 =>
 pv (.lit 1 []) [a15] fun a16 =>
 pv (.app false 1) [a9,a16] fun a17 =>
 Ya a10 (ii 1) fun a18 =>
 k0 [a17,a18]) (
 iter (G_s_RoutesBeyond_l1 R f_s_WayTo f_s_l07Beyond a0 a1 a2 a3 a5 a9) R [a4,ii 1])) ts
def G_s_RoutesBeyond:Option (List T) :=
 pv (.lit 3 []) [] fun a4 =>
 cl1 (f_s_RoutesWithin [a0,a1,a3]) fun a5 =>
 cl1 (f_s_StoreOk [a0]) fun a6 =>
 Yt a6 fun a7 =>
 ifT a7 (
 some [a4]) (
 pv (.lit 1 []) [] fun a8 =>
 iter (G_s_RoutesBeyond_l2 R f_s_WayTo f_s_WaysIn f_s_l07Beyond a0 a1 a2 a3 a4 a5) R [a8,ii 0])
theorem gr_s_RoutesBeyond:p_s_RoutesBeyond.den (pick [(16,f_s_WaysIn),(24,f_s_RoutesWithin),(47,f_s_WayTo),(63,f_s_StoreOk),(99,f_s_l07Beyond)]) R [] [a0,a1,a2,a3]=G_s_RoutesBeyond R f_s_RoutesWithin f_s_StoreOk f_s_WayTo f_s_WaysIn f_s_l07Beyond a0 a1 a2 a3:=(den2_of (by kernel_rfl)).trans (by kernel_rfl)
theorem g_s_RoutesBeyond:F_s_RoutesBeyond [a0,a1,a2,a3]=G_s_RoutesBeyond rounds F_s_RoutesWithin F_s_StoreOk F_s_WayTo F_s_WaysIn F_s_l07Beyond a0 a1 a2 a3:=gr_s_RoutesBeyond rounds F_s_RoutesWithin F_s_StoreOk F_s_WayTo F_s_WaysIn F_s_l07Beyond a0 a1 a2 a3
def G_s_Beyond_l0:Option (List T) :=
 (ar2 fun a15 a16 =>
 Ym a16 (ii 6) fun a17 =>
 ifT a17 (
 cl4 (f_s_WayTo [a12,a16]) fun a18 a19 a20 a21 =>
 ifT a21 (
 Ya a16 (ii 1) fun a22 =>
 k1 [a15,a22]) (
 Ye a16 a2 fun a22 =>
 ifT a22 (
 Ya a16 (ii 1) fun a23 =>
 k1 [a15,a23]) (
 cl4 (f_s_WayTo [a13,a16]) fun a23 a24 a25 a26 =>
 Yt a26 fun a27 =>
 ifT a27 (
 Yu a3 (ii 0) fun a28 =>
 jn (ar4 fun a29 a30 a31 a32 =>
 jn (ar1 fun a33 =>
 Ya a16 (ii 1) fun a34 =>
 k1 [a33,a34]) fun k2 =>
 ifT a32 (
 pv (.lit 8 [true,true,true,true,true,false,true,true]) [a3,ii 2,a2,a16,ii 0,.l [],a30,bb false] fun a33 =>
 Yy a15 a33 fun a34 =>
 k2 [a34]) (
 k2 [a15])) fun k2 =>
 ifT a28 (
 cl4 (f_s_WayTo [a14,a16]) fun a29 a30 a31 a32 =>
 k2 [a29,a30,a31,a32]) (
 k2 [a23,a24,a25,a26])) (
 jn (ar4 fun a28 a29 a30 a31 =>
 jn (ar1 fun a32 =>
 Ya a16 (ii 1) fun a33 =>
 k1 [a32,a33]) fun k2 =>
 ifT a31 (
 pv (.lit 8 [true,true,true,true,true,false,true,true]) [a3,ii 2,a2,a16,ii 0,.l [],a29,bb false] fun a32 =>
 Yy a15 a32 fun a33 =>
 k2 [a33]) (
 k2 [a15])) fun k2 =>
 k2 [a23,a24,a25,a26])))) (
 some [a15])) ts
def G_s_Beyond_l1:Option (List T) :=
 (ar2 fun a8 a9 =>
 Yn a1 fun a10 =>
 Yl a9 a10 fun a11 =>
 ifT a11 (
 Y1 a1 a9 fun a13 =>
 Yu a13 a3 fun a14 =>
 jn (ar1 fun a15 =>
 Ya a9 (ii 1) fun a16 =>
 k0 [a15,a16]) fun k1 =>
 ifT a14 (
 Y1 a1 a9 fun a16 =>
 Yx a16 fun a17 =>
 Yp a8 a17 fun a18 =>
 k1 [a18]) (
 k1 [a8])) (
 cl1 (f_s_WaysIn [a0,a3,a2]) fun a12 =>
 cl1 (f_s_RoutesWithin [a0,a8,a2]) fun a13 =>
 cl1 (f_s_RoutesBeyond [a0,a1,bb true,a2]) fun a14 =>
 iter (G_s_Beyond_l0 f_s_WayTo a2 a3 a12 a13 a14) R [a4,ii 1])) ts
def G_s_Beyond:Option (List T) :=
 pv (.lit 8 []) [] fun a4 =>
 cl1 (f_s_StoreOk [a0]) fun a5 =>
 Yt a5 fun a6 =>
 ifT a6 (
 some [a4]) (
 pv (.lit 1 []) [] fun a7 =>
 iter (G_s_Beyond_l1 R f_s_RoutesBeyond f_s_RoutesWithin f_s_WayTo f_s_WaysIn a0 a1 a2 a3 a4) R [a7,ii 0])
theorem gr_s_Beyond:p_s_Beyond.den (pick [(16,f_s_WaysIn),(24,f_s_RoutesWithin),(29,f_s_RoutesBeyond),(47,f_s_WayTo),(63,f_s_StoreOk)]) R [] [a0,a1,a2,a3]=G_s_Beyond R f_s_RoutesBeyond f_s_RoutesWithin f_s_StoreOk f_s_WayTo f_s_WaysIn a0 a1 a2 a3:=(den2_of (by kernel_rfl)).trans (by kernel_rfl)
theorem g_s_Beyond:F_s_Beyond [a0,a1,a2,a3]=G_s_Beyond rounds F_s_RoutesBeyond F_s_RoutesWithin F_s_StoreOk F_s_WayTo F_s_WaysIn a0 a1 a2 a3:=gr_s_Beyond rounds F_s_RoutesBeyond F_s_RoutesWithin F_s_StoreOk F_s_WayTo F_s_WaysIn a0 a1 a2 a3
def G_s_l08With_l0:Option (List T) :=
 (ar2 fun a2 a3 =>
 Yn a1 fun a4 =>
 Yl a3 a4 fun a5 =>
 ifT a5 (
 Y8 a1 a3 fun a7 a8 a9 a10 a11 a12 a13 a14 =>
 Ye a11 (ii 0) fun a15 =>
 jn (ar1 fun a16 =>
 cl1 (f_s_l05Put [a2,a7,a8,a9,a10,a16,a12,a13,a14]) fun a17 =>
 Ya a3 (ii 1) fun a18 =>
 k0 [a17,a18]) fun k1 =>
 ifT a15 (
 k1 [ii 1]) (
 k1 [a11])) (
 some [a2])) ts
def G_s_l08With:Option (List T) :=
 iter (G_s_l08With_l0 f_s_l05Put a1) R [a0,ii 0]
theorem gr_s_l08With:p_s_l08With.den (pick [(104,f_s_l05Put)]) R [] [a0,a1]=G_s_l08With R f_s_l05Put a0 a1:=(den2_of (by kernel_rfl)).trans (by kernel_rfl)
theorem g_s_l08With:F_s_l08With [a0,a1]=G_s_l08With rounds F_s_l05Put a0 a1:=gr_s_l08With rounds F_s_l05Put a0 a1
def G_s_l13Beyond_l0:Option (List T) :=
 (ar2 fun a9 a10 =>
 Yn a0 fun a11 =>
 Yl a10 a11 fun a12 =>
 ifT a12 (
 Yb a0 a10 fun a13 =>
 Yc 8 1 a0 a10 fun a14 =>
 Yu a14 (ii 2) fun a15 =>
 ifT a15 (
 jn (ar1 fun a16 =>
 Ya a10 (ii 1) fun a17 =>
 k1 [a16,a17]) fun k2 =>
 Y8 a0 a10 fun a17 a18 a19 a20 a21 a22 a23 a24 =>
 pv (.lit 8 []) [a17,a18,a19,a20,a21,a22,a23,a24] fun a25 =>
 Yy a9 a25 fun a26 =>
 k2 [a26]) (
 Yb a0 a10 fun a16 =>
 Yc 8 2 a0 a10 fun a17 =>
 Yu a17 a2 fun a18 =>
 jn (ar1 fun a19 =>
 Ya a10 (ii 1) fun a20 =>
 k1 [a19,a20]) fun k2 =>
 ifT a18 (
 Y8 a0 a10 fun a20 a21 a22 a23 a24 a25 a26 a27 =>
 pv (.lit 8 []) [a20,a21,a22,a23,a24,a25,a26,a27] fun a28 =>
 Yy a9 a28 fun a29 =>
 k2 [a29]) (
 k2 [a9]))) (
 cl1 (f_s_l08With [a9,a4]) fun a13 =>
 some [a13])) ts
def G_s_l13Beyond_l1:Option (List T) :=
 (ar2 fun a4 a5 =>
 Yn a1 fun a6 =>
 Yl a5 a6 fun a7 =>
 ifT a7 (
 Y1 a1 a5 fun a9 =>
 cl1 (f_s_Beyond [a0,a1,a2,a9]) fun a10 =>
 Yy a4 a10 fun a11 =>
 Ya a5 (ii 1) fun a12 =>
 k0 [a11,a12]) (
 pv (.lit 8 []) [] fun a8 =>
 iter (G_s_l13Beyond_l0 f_s_l08With a0 a2 a4) R [a8,ii 0])) ts
def G_s_l13Beyond:Option (List T) :=
 pv (.lit 8 []) [] fun a3 =>
 iter (G_s_l13Beyond_l1 R f_s_Beyond f_s_l08With a0 a1 a2) R [a3,ii 0]
theorem gr_s_l13Beyond:p_s_l13Beyond.den (pick [(172,f_s_Beyond),(173,f_s_l08With)]) R [] [a0,a1,a2]=G_s_l13Beyond R f_s_Beyond f_s_l08With a0 a1 a2:=(den2_of (by kernel_rfl)).trans (by kernel_rfl)
theorem g_s_l13Beyond:F_s_l13Beyond [a0,a1,a2]=G_s_l13Beyond rounds F_s_Beyond F_s_l08With a0 a1 a2:=gr_s_l13Beyond rounds F_s_Beyond F_s_l08With a0 a1 a2
def G_s_l04Copy:Option (List T) :=
 pv (.lit 2 []) [] fun a8 =>
 pv (.app true 2) [a8,a5] fun a9 =>
 Yz a7 fun a10 =>
 Yz a6 fun a11 =>
 Yz a4 fun a12 =>
 Yz a3 fun a13 =>
 Yz a2 fun a14 =>
 Yz a1 fun a15 =>
 Yz a0 fun a16 =>
 some [a16,a15,a14,a13,a12,a9,a11,a10]
theorem gr_s_l04Copy:p_s_l04Copy.den (pick []) R [] [a0,a1,a2,a3,a4,a5,a6,a7]=G_s_l04Copy a0 a1 a2 a3 a4 a5 a6 a7:=(den2_of (by kernel_rfl)).trans (by kernel_rfl)
theorem g_s_l04Copy:F_s_l04Copy [a0,a1,a2,a3,a4,a5,a6,a7]=G_s_l04Copy a0 a1 a2 a3 a4 a5 a6 a7:=gr_s_l04Copy rounds a0 a1 a2 a3 a4 a5 a6 a7
def G_s_l04CopyList_l0:Option (List T) :=
 (ar2 fun a2 a3 =>
 Yn a0 fun a4 =>
 Yl a3 a4 fun a5 =>
 ifT a5 (
 Y8 a0 a3 fun a7 a8 a9 a10 a11 a12 a13 a14 =>
 cl8 (f_s_l04Copy [a7,a8,a9,a10,a11,a12,a13,a14]) fun a15 a16 a17 a18 a19 a20 a21 a22 =>
 pv (.lit 8 [true,true,true,true,true,false,true,true]) [a15,a16,a17,a18,a19,a20,a21,a22] fun a23 =>
 Yy a2 a23 fun a24 =>
 Ya a3 (ii 1) fun a25 =>
 k0 [a24,a25]) (
 some [a2])) ts
def G_s_l04CopyList:Option (List T) :=
 pv (.lit 8 []) [] fun a1 =>
 iter (G_s_l04CopyList_l0 f_s_l04Copy a0) R [a1,ii 0]
theorem gr_s_l04CopyList:p_s_l04CopyList.den (pick [(124,f_s_l04Copy)]) R [] [a0]=G_s_l04CopyList R f_s_l04Copy a0:=(den2_of (by kernel_rfl)).trans (by kernel_rfl)
theorem g_s_l04CopyList:F_s_l04CopyList [a0]=G_s_l04CopyList rounds F_s_l04Copy a0:=gr_s_l04CopyList rounds F_s_l04Copy a0
def G_s_Ideal_l0:Option (List T) :=
 (ar2 fun a23 a24 =>
 Ym a24 a0 fun a25 =>
 ifT a25 (
 Ys a24 (ii 1) fun a26 =>
 Y1 a4 a26 fun a28 =>
 ifT a28 (
 cl1 (f_s_Border [a0,a1,a2,a24]) fun a29 =>
 jn (ar1 fun a30 =>
 Ya a24 (ii 1) fun a31 =>
 k3 [a30,a31]) fun k4 =>
 ifT a29 (
 cl1 (f_s_AreasOf [a0,a1,a2,a24]) fun a30 =>
 cl1 (f_s_l13Beyond [a23,a30,a24]) fun a31 =>
 k4 [a31]) (
 k4 [a23])) (
 jn (ar1 fun a29 =>
 Ya a24 (ii 1) fun a30 =>
 k3 [a29,a30]) fun k4 =>
 k4 [a23])) (
 Ya a21 (ii 1) fun a26 =>
 k2 [a23,a26])) ts
def G_s_Ideal_l1:Option (List T) :=
 (ar2 fun a20 a21 =>
 Yl a21 (ii 3) fun a22 =>
 ifT a22 (
 iter (G_s_Ideal_l0 f_s_AreasOf f_s_Border f_s_l13Beyond a0 a1 a2 a4 a21 k2) R [a20,ii 1]) (
 cl1 (f_s_l04CopyList [a20]) fun a23 =>
 Yz (bb true) fun a24 =>
 some [a23,a24])) ts
def G_s_Ideal_l2:Option (List T) :=
 (ar2 fun a16 a17 =>
 Yn a2 fun a18 =>
 Yl a17 a18 fun a19 =>
 ifT a19 (
 Y4 a2 a17 fun a21 a22 a23 a24 =>
 Ys a21 (ii 1) fun a25 =>
 Y1 a4 a25 fun a27 =>
 jn (ar1 fun a28 =>
 Ya a17 (ii 1) fun a29 =>
 k1 [a28,a29]) fun k2 =>
 ifT a27 (
 cl1 (f_s_l05Put [a16,ii 9,ii 3,a21,a22,ii 1,.l [],a23,a24]) fun a28 =>
 k2 [a28]) (
 k2 [a16])) (
 iter (G_s_Ideal_l1 R f_s_AreasOf f_s_Border f_s_l04CopyList f_s_l13Beyond a0 a1 a2 a4) R [a16,ii 0])) ts
def G_s_Ideal_l3:Option (List T) :=
 (ar2 fun a26 a27 =>
 Ym a26 a0 fun a28 =>
 ifT a28 (
 Y1 a16 a18 fun a30 =>
 cl1 (f_s_l13Open [a0,a1,a2,a3,a14,a26,a30]) fun a31 =>
 Yg a31 (ii 0) fun a32 =>
 ifT a32 (
 Ys a26 (ii 1) fun a33 =>
 Y1 a4 a33 fun a35 =>
 jn (ar1 fun a36 =>
 Ya a26 (ii 1) fun a37 =>
 k2 [a37,a36]) fun k3 =>
 ifT a35 (
 pv (.lit 2 [true,true]) [a26,a31] fun a36 =>
 pv (.app true 2) [a27,a36] fun a37 =>
 k3 [a37]) (
 k3 [a27])) (
 jn (ar1 fun a33 =>
 Ya a26 (ii 1) fun a34 =>
 k2 [a34,a33]) fun k3 =>
 k3 [a27])) (
 cl1 (f_s_l05Put [a17,a25,ii 1,a14,ii 0,ii 1,a27,ii 0,bb false]) fun a29 =>
 Ya a18 (ii 1) fun a30 =>
 k1 [a29,a30])) ts
def G_s_Ideal_l4:Option (List T) :=
 (ar2 fun a17 a18 =>
 Yn a16 fun a19 =>
 Yl a18 a19 fun a20 =>
 ifT a20 (
 Ys a14 (ii 1) fun a21 =>
 Y1 a4 a21 fun a23 =>
 ifT a23 (
 Y1 a16 a18 fun a25 =>
 iter (G_s_Ideal_l3 f_s_l05Put f_s_l13Open a0 a1 a2 a3 a4 a14 a16 a17 a18 a25 k1) R [ii 1,.l []]) (
 Ya a14 (ii 1) fun a24 =>
 k0 [a17,a24])) (
 Ya a14 (ii 1) fun a21 =>
 k0 [a17,a21])) ts
def G_s_Ideal_l5:Option (List T) :=
 (ar2 fun a13 a14 =>
 Ym a14 a0 fun a15 =>
 ifT a15 (
 cl1 (f_s_AreasOf [a0,a1,a2,a14]) fun a16 =>
 iter (G_s_Ideal_l4 R f_s_l05Put f_s_l13Open a0 a1 a2 a3 a4 a14 a16 k0) R [a13,ii 0]) (
 iter (G_s_Ideal_l2 R f_s_AreasOf f_s_Border f_s_l04CopyList f_s_l05Put f_s_l13Beyond a0 a1 a2 a4) R [a13,ii 0])) ts
def G_s_Ideal:Option (List T) :=
 pv (.lit 8 []) [] fun a5 =>
 cl1 (f_s_NetOk [a0,a1,a2]) fun a6 =>
 Yt a6 fun a7 =>
 ifT a7 (
 Yz (bb false) fun a8 =>
 some [a5,a8]) (
 Yn a3 fun a8 =>
 Yn a1 fun a9 =>
 Yu a8 a9 fun a10 =>
 ifT a10 (
 Yz (bb false) fun a11 =>
 some [a5,a11]) (
 Yn a4 fun a11 =>
 Yu a11 a0 fun a12 =>
 ifT a12 (
 Yz (bb false) fun a13 =>
 some [a5,a13]) (
 iter (G_s_Ideal_l5 R f_s_AreasOf f_s_Border f_s_l04CopyList f_s_l05Put f_s_l13Beyond f_s_l13Open a0 a1 a2 a3 a4) R [a5,ii 1])))
theorem gr_s_Ideal:p_s_Ideal.den (pick [(53,f_s_AreasOf),(54,f_s_Border),(102,f_s_NetOk),(103,f_s_l13Open),(104,f_s_l05Put),(105,f_s_l13Beyond),(106,f_s_l04CopyList)]) R [] [a0,a1,a2,a3,a4]=G_s_Ideal R f_s_AreasOf f_s_Border f_s_NetOk f_s_l04CopyList f_s_l05Put f_s_l13Beyond f_s_l13Open a0 a1 a2 a3 a4:=(den2_of (by kernel_rfl)).trans (by kernel_rfl)
theorem g_s_Ideal:F_s_Ideal [a0,a1,a2,a3,a4]=G_s_Ideal rounds F_s_AreasOf F_s_Border F_s_NetOk F_s_l04CopyList F_s_l05Put F_s_l13Beyond F_s_l13Open a0 a1 a2 a3 a4:=gr_s_Ideal rounds F_s_AreasOf F_s_Border F_s_NetOk F_s_l04CopyList F_s_l05Put F_s_l13Beyond F_s_l13Open a0 a1 a2 a3 a4
def G_i_in:Option (List T) :=
 Yh a0 a1 fun a3 =>
 ifT a3 (
 Ym a0 a2 fun a4 =>
 Yz a4 fun a5 =>
 some [a5]) (
 Yz (bb false) fun a4 =>
 some [a4])
theorem gr_i_in:p_i_in.den (pick []) R [] [a0,a1,a2]=G_i_in a0 a1 a2:=(den2_of (by kernel_rfl)).trans (by kernel_rfl)
theorem g_i_in:F_i_in [a0,a1,a2]=G_i_in a0 a1 a2:=gr_i_in rounds a0 a1 a2
def G_i_LinkOk:Option (List T) :=
 cl1 (f_i_in [a0,ii 1,ii 6]) fun a5 =>
 ifT a5 (
 cl1 (f_i_in [a1,ii 1,a0]) fun a6 =>
 ifT a6 (
 cl1 (f_i_in [a2,ii 1,a0]) fun a7 =>
 ifT a7 (
 Yl a1 a2 fun a8 =>
 ifT a8 (
 cl1 (f_i_in [a3,ii 1,ii 1000]) fun a9 =>
 ifT a9 (
 cl1 (f_i_in [a4,ii 0,ii 2]) fun a10 =>
 Yz a10 fun a11 =>
 some [a11]) (
 Yz (bb false) fun a10 =>
 some [a10])) (
 Yz (bb false) fun a9 =>
 some [a9])) (
 Yz (bb false) fun a8 =>
 some [a8])) (
 Yz (bb false) fun a7 =>
 some [a7])) (
 Yz (bb false) fun a6 =>
 some [a6])
theorem gr_i_LinkOk:p_i_LinkOk.den (pick [(89,f_i_in)]) R [] [a0,a1,a2,a3,a4]=G_i_LinkOk f_i_in a0 a1 a2 a3 a4:=(den2_of (by kernel_rfl)).trans (by kernel_rfl)
theorem g_i_LinkOk:F_i_LinkOk [a0,a1,a2,a3,a4]=G_i_LinkOk F_i_in a0 a1 a2 a3 a4:=gr_i_LinkOk rounds F_i_in a0 a1 a2 a3 a4
def G_i_ahead:Option (List T) :=
 Yu a0 a4 fun a8 =>
 ifT a8 (
 Yl a0 a4 fun a9 =>
 Yz a9 fun a10 =>
 some [a10]) (
 Yu a1 a5 fun a9 =>
 ifT a9 (
 Yl a1 a5 fun a10 =>
 Yz a10 fun a11 =>
 some [a11]) (
 Yl a3 a7 fun a10 =>
 Yz a10 fun a11 =>
 some [a11]))
theorem gr_i_ahead:p_i_ahead.den (pick []) R [] [a0,a1,a2,a3,a4,a5,a6,a7]=G_i_ahead a0 a1 a3 a4 a5 a7:=(den2_of (by kernel_rfl)).trans (by kernel_rfl)
theorem g_i_ahead:F_i_ahead [a0,a1,a2,a3,a4,a5,a6,a7]=G_i_ahead a0 a1 a3 a4 a5 a7:=gr_i_ahead rounds a0 a1 a2 a3 a4 a5 a6 a7
def G_i_less:Option (List T) :=
 Yl a1 a5 fun a8 =>
 ifT a8 (
 Yz (bb true) fun a9 =>
 some [a9]) (
 Ye a1 a5 fun a9 =>
 ifT a9 (
 Yl a0 a4 fun a10 =>
 Yz a10 fun a11 =>
 some [a11]) (
 Yz (bb false) fun a10 =>
 some [a10]))
theorem gr_i_less:p_i_less.den (pick []) R [] [a0,a1,a2,a3,a4,a5,a6,a7]=G_i_less a0 a1 a4 a5:=(den2_of (by kernel_rfl)).trans (by kernel_rfl)
theorem g_i_less:F_i_less [a0,a1,a2,a3,a4,a5,a6,a7]=G_i_less a0 a1 a4 a5:=gr_i_less rounds a0 a1 a2 a3 a4 a5 a6 a7
def G_i_NetOk_l0:Option (List T) :=
 (ar2 fun a14 a15 =>
 Yl a15 a13 fun a16 =>
 ifT a16 (
 Y4 a2 a15 fun a18 a19 a20 a21 =>
 cl1 (f_i_in [a19,ii 1,ii 9]) fun a22 =>
 Yt a22 fun a23 =>
 ifT a23 (
 Yz (bb false) fun a24 =>
 some [a24]) (
 cl1 (f_i_in [a18,ii 1,a0]) fun a24 =>
 Yt a24 fun a25 =>
 ifT a25 (
 Yz (bb false) fun a26 =>
 some [a26]) (
 cl1 (f_i_in [a20,ii 1,ii 1000]) fun a26 =>
 Yt a26 fun a27 =>
 ifT a27 (
 Yz (bb false) fun a28 =>
 some [a28]) (
 Yg a15 (ii 0) fun a28 =>
 ifT a28 (
 Ys a15 (ii 1) fun a29 =>
 Y4 a2 a29 fun a31 a32 a33 a34 =>
 cl1 (f_i_less [a31,a32,a33,a34,a18,a19,a20,a21]) fun a35 =>
 Yt a35 fun a36 =>
 ifT a36 (
 Yz (bb false) fun a37 =>
 some [a37]) (
 Ya a15 (ii 1) fun a37 =>
 k1 [a14,a37])) (
 Ya a15 (ii 1) fun a29 =>
 k1 [a14,a29]))))) (
 Yz (bb true) fun a17 =>
 some [a17])) ts
def G_i_NetOk_l1:Option (List T) :=
 (ar2 fun a10 a11 =>
 Yl a11 a9 fun a12 =>
 ifT a12 (
 Y4 a1 a11 fun a14 a15 a16 a17 =>
 cl1 (f_i_LinkOk [a0,a14,a15,a16,a17]) fun a18 =>
 Yt a18 fun a19 =>
 ifT a19 (
 Yz (bb false) fun a20 =>
 some [a20]) (
 Yg a11 (ii 0) fun a20 =>
 ifT a20 (
 Ys a11 (ii 1) fun a21 =>
 Y4 a1 a21 fun a23 a24 a25 a26 =>
 cl1 (f_i_ahead [a23,a24,a25,a26,a14,a15,a16,a17]) fun a27 =>
 Yt a27 fun a28 =>
 ifT a28 (
 Yz (bb false) fun a29 =>
 some [a29]) (
 Ya a11 (ii 1) fun a29 =>
 k0 [a10,a29])) (
 Ya a11 (ii 1) fun a21 =>
 k0 [a10,a21]))) (
 Yn a2 fun a13 =>
 iter (G_i_NetOk_l0 f_i_in f_i_less a0 a2 a13) R [a10,ii 0])) ts
def G_i_NetOk:Option (List T) :=
 cl1 (f_i_in [a0,ii 1,ii 6]) fun a3 =>
 Yt a3 fun a4 =>
 ifT a4 (
 Yz (bb false) fun a5 =>
 some [a5]) (
 Yn a1 fun a5 =>
 Yg a5 (ii 12) fun a6 =>
 ifT a6 (
 Yz (bb false) fun a7 =>
 some [a7]) (
 Yn a2 fun a7 =>
 Yg a7 (ii 4) fun a8 =>
 ifT a8 (
 Yz (bb false) fun a9 =>
 some [a9]) (
 Yn a1 fun a9 =>
 iter (G_i_NetOk_l1 R f_i_LinkOk f_i_ahead f_i_in f_i_less a0 a1 a2 a9) R [bb false,ii 0])))
theorem gr_i_NetOk:p_i_NetOk.den (pick [(89,f_i_in),(176,f_i_LinkOk),(177,f_i_ahead),(178,f_i_less)]) R [] [a0,a1,a2]=G_i_NetOk R f_i_LinkOk f_i_ahead f_i_in f_i_less a0 a1 a2:=(den2_of (by kernel_rfl)).trans (by kernel_rfl)
theorem g_i_NetOk:F_i_NetOk [a0,a1,a2]=G_i_NetOk rounds F_i_LinkOk F_i_ahead F_i_in F_i_less a0 a1 a2:=gr_i_NetOk rounds F_i_LinkOk F_i_ahead F_i_in F_i_less a0 a1 a2
def G_i_copyInts:Option (List T) :=
 Yp (.l []) a0 fun a1 =>
 some [a1]
theorem gr_i_copyInts:p_i_copyInts.den (pick []) R [] [a0]=G_i_copyInts a0:=(den2_of (by kernel_rfl)).trans (by kernel_rfl)
theorem g_i_copyInts:F_i_copyInts [a0]=G_i_copyInts a0:=gr_i_copyInts rounds a0
def G_i_AreasOf_l0:Option (List T) :=
 (ar1 fun a15 =>
 Yn a5 fun a16 =>
 Yl a15 a16 fun a17 =>
 ifT a17 (
 Yq a5 a15 fun a19 =>
 Yl a19 a12 fun a20 =>
 ifT a20 (
 Ya a15 (ii 1) fun a21 =>
 k2 [a21]) (
 Yn a5 fun a21 =>
 Yl a15 a21 fun a22 =>
 ifT a22 (
 Yq a5 a15 fun a24 =>
 Ye a24 a12 fun a25 =>
 ifT a25 (
 k1 [a5]) (
 Yw a5 a15 fun a26 =>
 cl1 (f_i_copyInts [a26]) fun a27 =>
 Yx a12 fun a28 =>
 Yp a27 a28 fun a29 =>
 Yv a5 a15 fun a30 =>
 Yp a29 a30 fun a31 =>
 k1 [a31])) (
 Yw a5 a15 fun a23 =>
 cl1 (f_i_copyInts [a23]) fun a24 =>
 Yx a12 fun a25 =>
 Yp a24 a25 fun a26 =>
 Yv a5 a15 fun a27 =>
 Yp a26 a27 fun a28 =>
 k1 [a28]))) (
 Yn a5 fun a18 =>
 Yl a15 a18 fun a19 =>
 ifT a19 (
 Yq a5 a15 fun a21 =>
 Ye a21 a12 fun a22 =>
 ifT a22 (
 k1 [a5]) (
 Yw a5 a15 fun a23 =>
 cl1 (f_i_copyInts [a23]) fun a24 =>
 Yx a12 fun a25 =>
 Yp a24 a25 fun a26 =>
 Yv a5 a15 fun a27 =>
 Yp a26 a27 fun a28 =>
 k1 [a28])) (
 Yw a5 a15 fun a20 =>
 cl1 (f_i_copyInts [a20]) fun a21 =>
 Yx a12 fun a22 =>
 Yp a21 a22 fun a23 =>
 Yv a5 a15 fun a24 =>
 Yp a23 a24 fun a25 =>
 k1 [a25]))) ts
def G_i_AreasOf_l1:Option (List T) :=
 (ar1 fun a14 =>
 Yn a5 fun a15 =>
 Yl a14 a15 fun a16 =>
 ifT a16 (
 Yq a5 a14 fun a18 =>
 Yl a18 a12 fun a19 =>
 ifT a19 (
 Ya a14 (ii 1) fun a20 =>
 k2 [a20]) (
 Yn a5 fun a20 =>
 Yl a14 a20 fun a21 =>
 ifT a21 (
 Yq a5 a14 fun a23 =>
 Ye a23 a12 fun a24 =>
 ifT a24 (
 k1 [a5]) (
 Yw a5 a14 fun a25 =>
 cl1 (f_i_copyInts [a25]) fun a26 =>
 Yx a12 fun a27 =>
 Yp a26 a27 fun a28 =>
 Yv a5 a14 fun a29 =>
 Yp a28 a29 fun a30 =>
 k1 [a30])) (
 Yw a5 a14 fun a22 =>
 cl1 (f_i_copyInts [a22]) fun a23 =>
 Yx a12 fun a24 =>
 Yp a23 a24 fun a25 =>
 Yv a5 a14 fun a26 =>
 Yp a25 a26 fun a27 =>
 k1 [a27]))) (
 Yn a5 fun a17 =>
 Yl a14 a17 fun a18 =>
 ifT a18 (
 Yq a5 a14 fun a20 =>
 Ye a20 a12 fun a21 =>
 ifT a21 (
 k1 [a5]) (
 Yw a5 a14 fun a22 =>
 cl1 (f_i_copyInts [a22]) fun a23 =>
 Yx a12 fun a24 =>
 Yp a23 a24 fun a25 =>
 Yv a5 a14 fun a26 =>
 Yp a25 a26 fun a27 =>
 k1 [a27])) (
 Yw a5 a14 fun a19 =>
 cl1 (f_i_copyInts [a19]) fun a20 =>
 Yx a12 fun a21 =>
 Yp a20 a21 fun a22 =>
 Yv a5 a14 fun a23 =>
 Yp a22 a23 fun a24 =>
 k1 [a24]))) ts
def G_i_AreasOf_l2:Option (List T) :=
 (ar2 fun a5 a6 =>
 Yl a6 a4 fun a7 =>
 ifT a7 (
 Y4 a1 a6 fun a9 a10 a11 a12 =>
 Ye a9 a3 fun a13 =>
 ifT a13 (
 jn (ar1 fun a14 =>
 Ya a6 (ii 1) fun a15 =>
 k0 [a14,a15]) fun k1 =>
 iter (G_i_AreasOf_l1 f_i_copyInts a5 a12 k1) R [ii 0]) (
 Ye a10 a3 fun a14 =>
 jn (ar1 fun a15 =>
 Ya a6 (ii 1) fun a16 =>
 k0 [a15,a16]) fun k1 =>
 ifT a14 (
 iter (G_i_AreasOf_l0 f_i_copyInts a5 a12 k1) R [ii 0]) (
 k1 [a5]))) (
 some [a5])) ts
def G_i_AreasOf:Option (List T) :=
 Yn a1 fun a4 =>
 iter (G_i_AreasOf_l2 R f_i_copyInts a1 a3 a4) R [.l [],ii 0]
theorem gr_i_AreasOf:p_i_AreasOf.den (pick [(133,f_i_copyInts)]) R [] [a0,a1,a2,a3]=G_i_AreasOf R f_i_copyInts a1 a3:=(den2_of (by kernel_rfl)).trans (by kernel_rfl)
theorem g_i_AreasOf:F_i_AreasOf [a0,a1,a2,a3]=G_i_AreasOf rounds F_i_copyInts a1 a3:=gr_i_AreasOf rounds F_i_copyInts a0 a1 a2 a3
def G_i_NextTo_l0:Option (List T) :=
 (ar1 fun a16 =>
 Yn a6 fun a17 =>
 Yl a16 a17 fun a18 =>
 ifT a18 (
 Yq a6 a16 fun a20 =>
 Yl a20 a11 fun a21 =>
 ifT a21 (
 Ya a16 (ii 1) fun a22 =>
 k2 [a22]) (
 Yn a6 fun a22 =>
 Yl a16 a22 fun a23 =>
 ifT a23 (
 Yq a6 a16 fun a25 =>
 Ye a25 a11 fun a26 =>
 ifT a26 (
 k1 [a6]) (
 Yw a6 a16 fun a27 =>
 cl1 (f_i_copyInts [a27]) fun a28 =>
 Yx a11 fun a29 =>
 Yp a28 a29 fun a30 =>
 Yv a6 a16 fun a31 =>
 Yp a30 a31 fun a32 =>
 k1 [a32])) (
 Yw a6 a16 fun a24 =>
 cl1 (f_i_copyInts [a24]) fun a25 =>
 Yx a11 fun a26 =>
 Yp a25 a26 fun a27 =>
 Yv a6 a16 fun a28 =>
 Yp a27 a28 fun a29 =>
 k1 [a29]))) (
 Yn a6 fun a19 =>
 Yl a16 a19 fun a20 =>
 ifT a20 (
 Yq a6 a16 fun a22 =>
 Ye a22 a11 fun a23 =>
 ifT a23 (
 k1 [a6]) (
 Yw a6 a16 fun a24 =>
 cl1 (f_i_copyInts [a24]) fun a25 =>
 Yx a11 fun a26 =>
 Yp a25 a26 fun a27 =>
 Yv a6 a16 fun a28 =>
 Yp a27 a28 fun a29 =>
 k1 [a29])) (
 Yw a6 a16 fun a21 =>
 cl1 (f_i_copyInts [a21]) fun a22 =>
 Yx a11 fun a23 =>
 Yp a22 a23 fun a24 =>
 Yv a6 a16 fun a25 =>
 Yp a24 a25 fun a26 =>
 k1 [a26]))) ts
def G_i_NextTo_l1:Option (List T) :=
 (ar1 fun a18 =>
 Yn a16 fun a19 =>
 Yl a18 a19 fun a20 =>
 ifT a20 (
 Yq a16 a18 fun a22 =>
 Yl a22 a10 fun a23 =>
 ifT a23 (
 Ya a18 (ii 1) fun a24 =>
 k2 [a24]) (
 Yn a16 fun a24 =>
 Yl a18 a24 fun a25 =>
 ifT a25 (
 Yq a16 a18 fun a27 =>
 Ye a27 a10 fun a28 =>
 ifT a28 (
 k1 [a16]) (
 Yw a16 a18 fun a29 =>
 cl1 (f_i_copyInts [a29]) fun a30 =>
 Yx a10 fun a31 =>
 Yp a30 a31 fun a32 =>
 Yv a16 a18 fun a33 =>
 Yp a32 a33 fun a34 =>
 k1 [a34])) (
 Yw a16 a18 fun a26 =>
 cl1 (f_i_copyInts [a26]) fun a27 =>
 Yx a10 fun a28 =>
 Yp a27 a28 fun a29 =>
 Yv a16 a18 fun a30 =>
 Yp a29 a30 fun a31 =>
 k1 [a31]))) (
 Yn a16 fun a21 =>
 Yl a18 a21 fun a22 =>
 ifT a22 (
 Yq a16 a18 fun a24 =>
 Ye a24 a10 fun a25 =>
 ifT a25 (
 k1 [a16]) (
 Yw a16 a18 fun a26 =>
 cl1 (f_i_copyInts [a26]) fun a27 =>
 Yx a10 fun a28 =>
 Yp a27 a28 fun a29 =>
 Yv a16 a18 fun a30 =>
 Yp a29 a30 fun a31 =>
 k1 [a31])) (
 Yw a16 a18 fun a23 =>
 cl1 (f_i_copyInts [a23]) fun a24 =>
 Yx a10 fun a25 =>
 Yp a24 a25 fun a26 =>
 Yv a16 a18 fun a27 =>
 Yp a26 a27 fun a28 =>
 k1 [a28]))) ts
def G_i_NextTo_l2:Option (List T) :=
 (ar2 fun a6 a7 =>
 Yl a7 a5 fun a8 =>
 ifT a8 (
 Y4 a1 a7 fun a10 a11 a12 a13 =>
 Yu a13 a4 fun a14 =>
 ifT a14 (
 Ya a7 (ii 1) fun a15 =>
 k0 [a6,a15]) (
 Ye a10 a3 fun a15 =>
 jn (ar1 fun a16 =>
 Ye a11 a3 fun a17 =>
 jn (ar1 fun a18 =>
 Ya a7 (ii 1) fun a19 =>
 k0 [a18,a19]) fun k1 =>
 ifT a17 (
 iter (G_i_NextTo_l1 f_i_copyInts a10 a16 k1) R [ii 0]) (
 k1 [a16])) fun k1 =>
 ifT a15 (
 iter (G_i_NextTo_l0 f_i_copyInts a6 a11 k1) R [ii 0]) (
 k1 [a6]))) (
 some [a6])) ts
def G_i_NextTo:Option (List T) :=
 Yn a1 fun a5 =>
 iter (G_i_NextTo_l2 R f_i_copyInts a1 a3 a4 a5) R [.l [],ii 0]
theorem gr_i_NextTo:p_i_NextTo.den (pick [(133,f_i_copyInts)]) R [] [a0,a1,a2,a3,a4]=G_i_NextTo R f_i_copyInts a1 a3 a4:=(den2_of (by kernel_rfl)).trans (by kernel_rfl)
theorem g_i_NextTo:F_i_NextTo [a0,a1,a2,a3,a4]=G_i_NextTo rounds F_i_copyInts a1 a3 a4:=gr_i_NextTo rounds F_i_copyInts a0 a1 a2 a3 a4
def G_i_linkAt_l0:Option (List T) :=
 (ar2 fun a7 a8 =>
 Yl a8 a6 fun a9 =>
 ifT a9 (
 Y4 a1 a8 fun a11 a12 a13 a14 =>
 Ye a14 a5 fun a15 =>
 ifT a15 (
 Ye a11 a3 fun a16 =>
 ifT a16 (
 Ye a12 a4 fun a17 =>
 ifT a17 (
 Yz a8 fun a18 =>
 some [a18]) (
 Ye a11 a4 fun a18 =>
 ifT a18 (
 Ye a12 a3 fun a19 =>
 ifT a19 (
 Yz a8 fun a20 =>
 some [a20]) (
 Ya a8 (ii 1) fun a20 =>
 k0 [a7,a20])) (
 Ya a8 (ii 1) fun a19 =>
 k0 [a7,a19]))) (
 Ye a11 a4 fun a17 =>
 ifT a17 (
 Ye a12 a3 fun a18 =>
 ifT a18 (
 Yz a8 fun a19 =>
 some [a19]) (
 Ya a8 (ii 1) fun a19 =>
 k0 [a7,a19])) (
 Ya a8 (ii 1) fun a18 =>
 k0 [a7,a18]))) (
 Ya a8 (ii 1) fun a16 =>
 k0 [a7,a16])) (
 Yz (ii (-1)) fun a10 =>
 some [a10])) ts
def G_i_linkAt:Option (List T) :=
 Yn a1 fun a6 =>
 iter (G_i_linkAt_l0 a1 a3 a4 a5 a6) R [ii 0,ii 0]
theorem gr_i_linkAt:p_i_linkAt.den (pick []) R [] [a0,a1,a2,a3,a4,a5]=G_i_linkAt R a1 a3 a4 a5:=(den2_of (by kernel_rfl)).trans (by kernel_rfl)
theorem g_i_linkAt:F_i_linkAt [a0,a1,a2,a3,a4,a5]=G_i_linkAt rounds a1 a3 a4 a5:=gr_i_linkAt rounds a0 a1 a2 a3 a4 a5
def G_i_nearUp_l0:Option (List T) :=
 (ar2 fun a9 a10 =>
 Yl a10 a8 fun a11 =>
 ifT a11 (
 Yq a7 a10 fun a13 =>
 cl1 (f_i_linkAt [a0,a1,a2,a5,a13,a6]) fun a14 =>
 Y1 a3 a14 fun a16 =>
 ifT a16 (
 Ys a13 (ii 1) fun a17 =>
 Y1 a4 a17 fun a19 =>
 jn (ar1 fun a20 =>
 Ya a10 (ii 1) fun a21 =>
 k0 [a20,a21]) fun k1 =>
 ifT a19 (
 Yb a1 a14 fun a20 =>
 Yc 4 2 a1 a14 fun a21 =>
 pv (.lit 2 [true,true]) [a13,a21] fun a22 =>
 pv (.app true 2) [a9,a22] fun a23 =>
 k1 [a23]) (
 k1 [a9])) (
 jn (ar1 fun a17 =>
 Ya a10 (ii 1) fun a18 =>
 k0 [a17,a18]) fun k1 =>
 k1 [a9])) (
 some [a9])) ts
def G_i_nearUp:Option (List T) :=
 cl1 (f_i_NextTo [a0,a1,a2,a5,a6]) fun a7 =>
 Yn a7 fun a8 =>
 iter (G_i_nearUp_l0 f_i_linkAt a0 a1 a2 a3 a4 a5 a6 a7 a8) R [.l [],ii 0]
theorem gr_i_nearUp:p_i_nearUp.den (pick [(181,f_i_NextTo),(182,f_i_linkAt)]) R [] [a0,a1,a2,a3,a4,a5,a6]=G_i_nearUp R f_i_NextTo f_i_linkAt a0 a1 a2 a3 a4 a5 a6:=(den2_of (by kernel_rfl)).trans (by kernel_rfl)
theorem g_i_nearUp:F_i_nearUp [a0,a1,a2,a3,a4,a5,a6]=G_i_nearUp rounds F_i_NextTo F_i_linkAt a0 a1 a2 a3 a4 a5 a6:=gr_i_nearUp rounds F_i_NextTo F_i_linkAt a0 a1 a2 a3 a4 a5 a6
def G_i_Before:Option (List T) :=
 Yu a0 a8 fun a16 =>
 ifT a16 (
 Yl a0 a8 fun a17 =>
 Yz a17 fun a18 =>
 some [a18]) (
 Yu a1 a9 fun a17 =>
 ifT a17 (
 Yl a1 a9 fun a18 =>
 Yz a18 fun a19 =>
 some [a19]) (
 Yu a2 a10 fun a18 =>
 ifT a18 (
 Yl a2 a10 fun a19 =>
 Yz a19 fun a20 =>
 some [a20]) (
 Yl a3 a11 fun a19 =>
 Yz a19 fun a20 =>
 some [a20])))
theorem gr_i_Before:p_i_Before.den (pick []) R [] [a0,a1,a2,a3,a4,a5,a6,a7,a8,a9,a10,a11,a12,a13,a14,a15]=G_i_Before a0 a1 a2 a3 a8 a9 a10 a11:=(den2_of (by kernel_rfl)).trans (by kernel_rfl)
theorem g_i_Before:F_i_Before [a0,a1,a2,a3,a4,a5,a6,a7,a8,a9,a10,a11,a12,a13,a14,a15]=G_i_Before a0 a1 a2 a3 a8 a9 a10 a11:=gr_i_Before rounds a0 a1 a2 a3 a4 a5 a6 a7 a8 a9 a10 a11 a12 a13 a14 a15
def G_i_copyRecord:Option (List T) :=
 pv (.app true 2) [.l [],a5] fun a8 =>
 Yz a7 fun a9 =>
 Yz a6 fun a10 =>
 Yz a4 fun a11 =>
 Yz a3 fun a12 =>
 Yz a2 fun a13 =>
 Yz a1 fun a14 =>
 Yz a0 fun a15 =>
 some [a15,a14,a13,a12,a11,a8,a10,a9]
theorem gr_i_copyRecord:p_i_copyRecord.den (pick []) R [] [a0,a1,a2,a3,a4,a5,a6,a7]=G_i_copyRecord a0 a1 a2 a3 a4 a5 a6 a7:=(den2_of (by kernel_rfl)).trans (by kernel_rfl)
theorem g_i_copyRecord:F_i_copyRecord [a0,a1,a2,a3,a4,a5,a6,a7]=G_i_copyRecord a0 a1 a2 a3 a4 a5 a6 a7:=gr_i_copyRecord rounds a0 a1 a2 a3 a4 a5 a6 a7
def G_i_copyRecords_l0:Option (List T) :=
 (ar2 fun a2 a3 =>
 Yl a3 a1 fun a4 =>
 ifT a4 (
 Y8 a0 a3 fun a6 a7 a8 a9 a10 a11 a12 a13 =>
 cl8 (f_i_copyRecord [a6,a7,a8,a9,a10,a11,a12,a13]) fun a14 a15 a16 a17 a18 a19 a20 a21 =>
 pv (.lit 8 [true,true,true,true,true,false,true,true]) [a14,a15,a16,a17,a18,a19,a20,a21] fun a22 =>
 Yy a2 a22 fun a23 =>
 Ya a3 (ii 1) fun a24 =>
 k0 [a23,a24]) (
 some [a2])) ts
def G_i_copyRecords:Option (List T) :=
 Yn a0 fun a1 =>
 iter (G_i_copyRecords_l0 f_i_copyRecord a0 a1) R [.l [],ii 0]
theorem gr_i_copyRecords:p_i_copyRecords.den (pick [(180,f_i_copyRecord)]) R [] [a0]=G_i_copyRecords R f_i_copyRecord a0:=(den2_of (by kernel_rfl)).trans (by kernel_rfl)
theorem g_i_copyRecords:F_i_copyRecords [a0]=G_i_copyRecords rounds F_i_copyRecord a0:=gr_i_copyRecords rounds F_i_copyRecord a0
def G_i_SameKey:Option (List T) :=
 Ye a0 a8 fun a16 =>
 ifT a16 (
 Ye a1 a9 fun a17 =>
 ifT a17 (
 Ye a2 a10 fun a18 =>
 ifT a18 (
 Ye a3 a11 fun a19 =>
 Yz a19 fun a20 =>
 some [a20]) (
 Yz (bb false) fun a19 =>
 some [a19])) (
 Yz (bb false) fun a18 =>
 some [a18])) (
 Yz (bb false) fun a17 =>
 some [a17])
theorem gr_i_SameKey:p_i_SameKey.den (pick []) R [] [a0,a1,a2,a3,a4,a5,a6,a7,a8,a9,a10,a11,a12,a13,a14,a15]=G_i_SameKey a0 a1 a2 a3 a8 a9 a10 a11:=(den2_of (by kernel_rfl)).trans (by kernel_rfl)
theorem g_i_SameKey:F_i_SameKey [a0,a1,a2,a3,a4,a5,a6,a7,a8,a9,a10,a11,a12,a13,a14,a15]=G_i_SameKey a0 a1 a2 a3 a8 a9 a10 a11:=gr_i_SameKey rounds a0 a1 a2 a3 a4 a5 a6 a7 a8 a9 a10 a11 a12 a13 a14 a15
def G_i_put_l0:Option (List T) :=
 (ar1 fun a9 =>
 Yn a0 fun a10 =>
 Yl a9 a10 fun a11 =>
 ifT a11 (
 Y8 a0 a9 fun a13 a14 a15 a16 a17 a18 a19 a20 =>
 cl1 (f_i_Before [a13,a14,a15,a16,a17,a18,a19,a20,a1,a2,a3,a4,a5,a6,a7,a8]) fun a21 =>
 ifT a21 (
 Ya a9 (ii 1) fun a22 =>
 k0 [a22]) (
 pv (.sub 8 false true) [a0,a9] fun a22 =>
 cl1 (f_i_copyRecords [a22]) fun a23 =>
 cl8 (f_i_copyRecord [a1,a2,a3,a4,a5,a6,a7,a8]) fun a24 a25 a26 a27 a28 a29 a30 a31 =>
 pv (.lit 8 [true,true,true,true,true,false,true,true]) [a24,a25,a26,a27,a28,a29,a30,a31] fun a32 =>
 Yy a23 a32 fun a33 =>
 Yn a0 fun a34 =>
 Yl a9 a34 fun a35 =>
 ifT a35 (
 Y8 a0 a9 fun a37 a38 a39 a40 a41 a42 a43 a44 =>
 cl1 (f_i_SameKey [a37,a38,a39,a40,a41,a42,a43,a44,a1,a2,a3,a4,a5,a6,a7,a8]) fun a45 =>
 jn (ar1 fun a46 =>
 pv (.sub 8 true false) [a0,a46] fun a47 =>
 cl1 (f_i_copyRecords [a47]) fun a48 =>
 Yy a33 a48 fun a49 =>
 some [a49]) fun k1 =>
 ifT a45 (
 Ya a9 (ii 1) fun a46 =>
 k1 [a46]) (
 k1 [a9])) (
 jn (ar1 fun a36 =>
 pv (.sub 8 true false) [a0,a36] fun a37 =>
 cl1 (f_i_copyRecords [a37]) fun a38 =>
 Yy a33 a38 fun a39 =>
 some [a39]) fun k1 =>
 k1 [a9]))) (
 pv (.sub 8 false true) [a0,a9] fun a12 =>
 cl1 (f_i_copyRecords [a12]) fun a13 =>
 cl8 (f_i_copyRecord [a1,a2,a3,a4,a5,a6,a7,a8]) fun a14 a15 a16 a17 a18 a19 a20 a21 =>
 pv (.lit 8 [true,true,true,true,true,false,true,true]) [a14,a15,a16,a17,a18,a19,a20,a21] fun a22 =>
 Yy a13 a22 fun a23 =>
 Yn a0 fun a24 =>
 Yl a9 a24 fun a25 =>
 ifT a25 (
 Y8 a0 a9 fun a27 a28 a29 a30 a31 a32 a33 a34 =>
 cl1 (f_i_SameKey [a27,a28,a29,a30,a31,a32,a33,a34,a1,a2,a3,a4,a5,a6,a7,a8]) fun a35 =>
 jn (ar1 fun a36 =>
 pv (.sub 8 true false) [a0,a36] fun a37 =>
 cl1 (f_i_copyRecords [a37]) fun a38 =>
 Yy a23 a38 fun a39 =>
 some [a39]) fun k1 =>
 ifT a35 (
 Ya a9 (ii 1) fun a36 =>
 k1 [a36]) (
 k1 [a9])) (
 jn (ar1 fun a26 =>
 pv (.sub 8 true false) [a0,a26] fun a27 =>
 cl1 (f_i_copyRecords [a27]) fun a28 =>
 Yy a23 a28 fun a29 =>
 some [a29]) fun k1 =>
 k1 [a9]))) ts
def G_i_put:Option (List T) :=
 iter (G_i_put_l0 f_i_Before f_i_SameKey f_i_copyRecord f_i_copyRecords a0 a1 a2 a3 a4 a5 a6 a7 a8) R [ii 0]
theorem gr_i_put:p_i_put.den (pick [(165,f_i_Before),(166,f_i_SameKey),(179,f_i_copyRecords),(180,f_i_copyRecord)]) R [] [a0,a1,a2,a3,a4,a5,a6,a7,a8]=G_i_put R f_i_Before f_i_SameKey f_i_copyRecord f_i_copyRecords a0 a1 a2 a3 a4 a5 a6 a7 a8:=(den2_of (by kernel_rfl)).trans (by kernel_rfl)
theorem g_i_put:F_i_put [a0,a1,a2,a3,a4,a5,a6,a7,a8]=G_i_put rounds F_i_Before F_i_SameKey F_i_copyRecord F_i_copyRecords a0 a1 a2 a3 a4 a5 a6 a7 a8:=gr_i_put rounds F_i_Before F_i_SameKey F_i_copyRecord F_i_copyRecords a0 a1 a2 a3 a4 a5 a6 a7 a8
def G_i_hasInt_l0:Option (List T) :=
 (ar2 fun a3 a4 =>
 Yl a4 a2 fun a5 =>
 ifT a5 (
 Y1 a0 a4 fun a7 =>
 Ye a7 a1 fun a8 =>
 ifT a8 (
 Yz (bb true) fun a9 =>
 some [a9]) (
 Ya a4 (ii 1) fun a9 =>
 k0 [a3,a9])) (
 Yz (bb false) fun a6 =>
 some [a6])) ts
def G_i_hasInt:Option (List T) :=
 Yn a0 fun a2 =>
 iter (G_i_hasInt_l0 a0 a1 a2) R [bb false,ii 0]
theorem gr_i_hasInt:p_i_hasInt.den (pick []) R [] [a0,a1]=G_i_hasInt R a0 a1:=(den2_of (by kernel_rfl)).trans (by kernel_rfl)
theorem g_i_hasInt:F_i_hasInt [a0,a1]=G_i_hasInt rounds a0 a1:=gr_i_hasInt rounds a0 a1
def G_i_Border:Option (List T) :=
 cl1 (f_i_AreasOf [a0,a1,a2,a3]) fun a4 =>
 cl1 (f_i_hasInt [a4,ii 0]) fun a5 =>
 ifT a5 (
 Yn a4 fun a6 =>
 Yg a6 (ii 1) fun a7 =>
 Yz a7 fun a8 =>
 some [a8]) (
 Yz (bb false) fun a6 =>
 some [a6])
theorem gr_i_Border:p_i_Border.den (pick [(91,f_i_hasInt),(110,f_i_AreasOf)]) R [] [a0,a1,a2,a3]=G_i_Border f_i_AreasOf f_i_hasInt a0 a1 a2 a3:=(den2_of (by kernel_rfl)).trans (by kernel_rfl)
theorem g_i_Border:F_i_Border [a0,a1,a2,a3]=G_i_Border F_i_AreasOf F_i_hasInt a0 a1 a2 a3:=gr_i_Border rounds F_i_AreasOf F_i_hasInt a0 a1 a2 a3
def G_i_nearOk_l0:Option (List T) :=
 (ar2 fun a9 a10 =>
 Yl a10 a8 fun a11 =>
 ifT a11 (
 Y2 a5 a10 fun a13 a14 =>
 cl1 (f_i_in [a13,ii 1,ii 6]) fun a15 =>
 Yt a15 fun a16 =>
 ifT a16 (
 Yz (bb false) fun a17 =>
 some [a17]) (
 Ye a13 a2 fun a17 =>
 ifT a17 (
 Yz (bb false) fun a18 =>
 some [a18]) (
 cl1 (f_i_in [a14,ii 1,ii 1000]) fun a18 =>
 Yt a18 fun a19 =>
 ifT a19 (
 Yz (bb false) fun a20 =>
 some [a20]) (
 Yg a10 (ii 0) fun a20 =>
 ifT a20 (
 Ys a10 (ii 1) fun a21 =>
 Yb a5 a21 fun a22 =>
 Yc 2 0 a5 a21 fun a23 =>
 Yh a23 a13 fun a24 =>
 ifT a24 (
 Yz (bb false) fun a25 =>
 some [a25]) (
 Ya a10 (ii 1) fun a25 =>
 k0 [a9,a25])) (
 Ya a10 (ii 1) fun a21 =>
 k0 [a9,a21]))))) (
 Yz (bb true) fun a12 =>
 some [a12])) ts
def G_i_nearOk:Option (List T) :=
 Yn a5 fun a8 =>
 iter (G_i_nearOk_l0 f_i_in a2 a5 a8) R [bb false,ii 0]
theorem gr_i_nearOk:p_i_nearOk.den (pick [(89,f_i_in)]) R [] [a0,a1,a2,a3,a4,a5,a6,a7]=G_i_nearOk R f_i_in a2 a5:=(den2_of (by kernel_rfl)).trans (by kernel_rfl)
theorem g_i_nearOk:F_i_nearOk [a0,a1,a2,a3,a4,a5,a6,a7]=G_i_nearOk rounds F_i_in a2 a5:=gr_i_nearOk rounds F_i_in a0 a1 a2 a3 a4 a5 a6 a7
def G_i_RecordOk:Option (List T) :=
 cl1 (f_i_in [a2,ii 1,ii 6]) fun a8 =>
 Yt a8 fun a9 =>
 ifT a9 (
 Yz (bb false) fun a10 =>
 some [a10]) (
 cl1 (f_i_in [a4,ii 1,ii 100000]) fun a10 =>
 Yt a10 fun a11 =>
 ifT a11 (
 Yz (bb false) fun a12 =>
 some [a12]) (
 Ye a1 (ii 1) fun a12 =>
 ifT a12 (
 cl1 (f_i_in [a0,ii 0,ii 2]) fun a13 =>
 ifT a13 (
 Ye a3 (ii 0) fun a14 =>
 ifT a14 (
 cl1 (f_i_nearOk [a0,a1,a2,a3,a4,a5,a6,a7]) fun a15 =>
 ifT a15 (
 Ye a6 (ii 0) fun a16 =>
 ifT a16 (
 Yt a7 fun a17 =>
 Yz a17 fun a18 =>
 some [a18]) (
 Yz (bb false) fun a17 =>
 some [a17])) (
 Yz (bb false) fun a16 =>
 some [a16])) (
 Yz (bb false) fun a15 =>
 some [a15])) (
 Yz (bb false) fun a14 =>
 some [a14])) (
 Ye a1 (ii 2) fun a13 =>
 ifT a13 (
 cl1 (f_i_in [a0,ii 0,ii 2]) fun a14 =>
 ifT a14 (
 cl1 (f_i_in [a3,ii 1,ii 6]) fun a15 =>
 ifT a15 (
 Yn a5 fun a16 =>
 Ye a16 (ii 0) fun a17 =>
 ifT a17 (
 cl1 (f_i_in [a6,ii 0,ii 60000]) fun a18 =>
 ifT a18 (
 Yt a7 fun a19 =>
 Yz a19 fun a20 =>
 some [a20]) (
 Yz (bb false) fun a19 =>
 some [a19])) (
 Yz (bb false) fun a18 =>
 some [a18])) (
 Yz (bb false) fun a16 =>
 some [a16])) (
 Yz (bb false) fun a15 =>
 some [a15])) (
 Ye a1 (ii 3) fun a14 =>
 ifT a14 (
 Ye a0 (ii 9) fun a15 =>
 ifT a15 (
 cl1 (f_i_in [a3,ii 1,ii 9]) fun a16 =>
 ifT a16 (
 Yn a5 fun a17 =>
 Ye a17 (ii 0) fun a18 =>
 ifT a18 (
 cl1 (f_i_in [a6,ii 1,ii 1000]) fun a19 =>
 ifT a19 (
 Yz (bb true) fun a20 =>
 some [a20]) (
 Ye a6 (ii 60000) fun a20 =>
 Yz a20 fun a21 =>
 some [a21])) (
 Yz (bb false) fun a19 =>
 some [a19])) (
 Yz (bb false) fun a17 =>
 some [a17])) (
 Yz (bb false) fun a16 =>
 some [a16])) (
 Yz (bb false) fun a15 =>
 some [a15])))))
theorem gr_i_RecordOk:p_i_RecordOk.den (pick [(89,f_i_in),(197,f_i_nearOk)]) R [] [a0,a1,a2,a3,a4,a5,a6,a7]=G_i_RecordOk f_i_in f_i_nearOk a0 a1 a2 a3 a4 a5 a6 a7:=(den2_of (by kernel_rfl)).trans (by kernel_rfl)
theorem g_i_RecordOk:F_i_RecordOk [a0,a1,a2,a3,a4,a5,a6,a7]=G_i_RecordOk F_i_in F_i_nearOk a0 a1 a2 a3 a4 a5 a6 a7:=gr_i_RecordOk rounds F_i_in F_i_nearOk a0 a1 a2 a3 a4 a5 a6 a7
def G_i_StoreOk_l0:Option (List T) :=
 (ar2 fun a2 a3 =>
 Yl a3 a1 fun a4 =>
 ifT a4 (
 Y8 a0 a3 fun a6 a7 a8 a9 a10 a11 a12 a13 =>
 cl1 (f_i_RecordOk [a6,a7,a8,a9,a10,a11,a12,a13]) fun a14 =>
 Yt a14 fun a15 =>
 ifT a15 (
 Yz (bb false) fun a16 =>
 some [a16]) (
 Yg a3 (ii 0) fun a16 =>
 ifT a16 (
 Ys a3 (ii 1) fun a17 =>
 Y8 a0 a17 fun a19 a20 a21 a22 a23 a24 a25 a26 =>
 cl1 (f_i_Before [a19,a20,a21,a22,a23,a24,a25,a26,a6,a7,a8,a9,a10,a11,a12,a13]) fun a27 =>
 Yt a27 fun a28 =>
 ifT a28 (
 Yz (bb false) fun a29 =>
 some [a29]) (
 Ya a3 (ii 1) fun a29 =>
 k0 [a2,a29])) (
 Ya a3 (ii 1) fun a17 =>
 k0 [a2,a17]))) (
 Yn a0 fun a5 =>
 Ym a5 (ii 150) fun a6 =>
 Yz a6 fun a7 =>
 some [a7])) ts
def G_i_StoreOk:Option (List T) :=
 Yn a0 fun a1 =>
 iter (G_i_StoreOk_l0 f_i_Before f_i_RecordOk a0 a1) R [bb false,ii 0]
theorem gr_i_StoreOk:p_i_StoreOk.den (pick [(164,f_i_RecordOk),(165,f_i_Before)]) R [] [a0]=G_i_StoreOk R f_i_Before f_i_RecordOk a0:=(den2_of (by kernel_rfl)).trans (by kernel_rfl)
theorem g_i_StoreOk:F_i_StoreOk [a0]=G_i_StoreOk rounds F_i_Before F_i_RecordOk a0:=gr_i_StoreOk rounds F_i_Before F_i_RecordOk a0
def G_i_keyAt_l0:Option (List T) :=
 (ar2 fun a10 a11 =>
 Yl a11 a9 fun a12 =>
 ifT a12 (
 Y8 a0 a11 fun a14 a15 a16 a17 a18 a19 a20 a21 =>
 cl1 (f_i_SameKey [a14,a15,a16,a17,a18,a19,a20,a21,a1,a2,a3,a4,a5,a6,a7,a8]) fun a22 =>
 ifT a22 (
 Yz a11 fun a23 =>
 some [a23]) (
 Ya a11 (ii 1) fun a23 =>
 k0 [a10,a23])) (
 Yz (ii (-1)) fun a13 =>
 some [a13])) ts
def G_i_keyAt:Option (List T) :=
 Yn a0 fun a9 =>
 iter (G_i_keyAt_l0 f_i_SameKey a0 a1 a2 a3 a4 a5 a6 a7 a8 a9) R [ii 0,ii 0]
theorem gr_i_keyAt:p_i_keyAt.den (pick [(166,f_i_SameKey)]) R [] [a0,a1,a2,a3,a4,a5,a6,a7,a8]=G_i_keyAt R f_i_SameKey a0 a1 a2 a3 a4 a5 a6 a7 a8:=(den2_of (by kernel_rfl)).trans (by kernel_rfl)
theorem g_i_keyAt:F_i_keyAt [a0,a1,a2,a3,a4,a5,a6,a7,a8]=G_i_keyAt rounds F_i_SameKey a0 a1 a2 a3 a4 a5 a6 a7 a8:=gr_i_keyAt rounds F_i_SameKey a0 a1 a2 a3 a4 a5 a6 a7 a8
def G_i_told_l0:Option (List T) :=
 (ar2 fun a9 a10 =>
 Yl a10 a8 fun a11 =>
 ifT a11 (
 Y2 a7 a10 fun a13 a14 =>
 Ye a13 a3 fun a15 =>
 ifT a15 (
 Yz a14 fun a16 =>
 some [a16]) (
 Ya a10 (ii 1) fun a16 =>
 k0 [a9,a16])) (
 Yz (ii 0) fun a12 =>
 some [a12])) ts
def G_i_told:Option (List T) :=
 cl1 (f_i_keyAt [a0,a1,ii 1,a2,ii 0,ii 0,.l [],ii 0,bb false]) fun a4 =>
 Yl a4 (ii 0) fun a5 =>
 ifT a5 (
 Yz (ii 0) fun a6 =>
 some [a6]) (
 Yb a0 a4 fun a6 =>
 Yc 8 5 a0 a4 fun a7 =>
 Yn a7 fun a8 =>
 iter (G_i_told_l0 a3 a7 a8) R [ii 0,ii 0])
theorem gr_i_told:p_i_told.den (pick [(90,f_i_keyAt)]) R [] [a0,a1,a2,a3]=G_i_told R f_i_keyAt a0 a1 a2 a3:=(den2_of (by kernel_rfl)).trans (by kernel_rfl)
theorem g_i_told:F_i_told [a0,a1,a2,a3]=G_i_told rounds F_i_keyAt a0 a1 a2 a3:=gr_i_told rounds F_i_keyAt a0 a1 a2 a3
def G_i_Linked:Option (List T) :=
 cl1 (f_i_told [a0,a1,a3,a2]) fun a4 =>
 Ye a4 (ii 0) fun a5 =>
 ifT a5 (
 Yz (ii 0) fun a6 =>
 some [a6]) (
 cl1 (f_i_told [a0,a1,a2,a3]) fun a6 =>
 Yz a6 fun a7 =>
 some [a7])
theorem gr_i_Linked:p_i_Linked.den (pick [(125,f_i_told)]) R [] [a0,a1,a2,a3]=G_i_Linked f_i_told a0 a1 a2 a3:=(den2_of (by kernel_rfl)).trans (by kernel_rfl)
theorem g_i_Linked:F_i_Linked [a0,a1,a2,a3]=G_i_Linked F_i_told a0 a1 a2 a3:=gr_i_Linked rounds F_i_told a0 a1 a2 a3
def G_i_copyWay:Option (List T) :=
 cl1 (f_i_copyInts [a2]) fun a3 =>
 Yz a1 fun a4 =>
 Yz a0 fun a5 =>
 some [a5,a4,a3]
theorem gr_i_copyWay:p_i_copyWay.den (pick [(133,f_i_copyInts)]) R [] [a0,a1,a2]=G_i_copyWay f_i_copyInts a0 a1 a2:=(den2_of (by kernel_rfl)).trans (by kernel_rfl)
theorem g_i_copyWay:F_i_copyWay [a0,a1,a2]=G_i_copyWay F_i_copyInts a0 a1 a2:=gr_i_copyWay rounds F_i_copyInts a0 a1 a2
def G_i_Together_l0:Option (List T) :=
 (ar1 fun a18 =>
 Yn a14 fun a19 =>
 Yl a18 a19 fun a20 =>
 ifT a20 (
 Yq a14 a18 fun a22 =>
 Yl a22 a17 fun a23 =>
 ifT a23 (
 Ya a18 (ii 1) fun a24 =>
 k2 [a24]) (
 Yn a14 fun a24 =>
 Yl a18 a24 fun a25 =>
 ifT a25 (
 Yq a14 a18 fun a27 =>
 Ye a27 a17 fun a28 =>
 ifT a28 (
 Ya a13 (ii 1) fun a29 =>
 k1 [a29,a14]) (
 Yw a14 a18 fun a29 =>
 cl1 (f_i_copyInts [a29]) fun a30 =>
 Yx a17 fun a31 =>
 Yp a30 a31 fun a32 =>
 Yv a14 a18 fun a33 =>
 Yp a32 a33 fun a34 =>
 Ya a13 (ii 1) fun a35 =>
 k1 [a35,a34])) (
 Yw a14 a18 fun a26 =>
 cl1 (f_i_copyInts [a26]) fun a27 =>
 Yx a17 fun a28 =>
 Yp a27 a28 fun a29 =>
 Yv a14 a18 fun a30 =>
 Yp a29 a30 fun a31 =>
 Ya a13 (ii 1) fun a32 =>
 k1 [a32,a31]))) (
 Yn a14 fun a21 =>
 Yl a18 a21 fun a22 =>
 ifT a22 (
 Yq a14 a18 fun a24 =>
 Ye a24 a17 fun a25 =>
 ifT a25 (
 Ya a13 (ii 1) fun a26 =>
 k1 [a26,a14]) (
 Yw a14 a18 fun a26 =>
 cl1 (f_i_copyInts [a26]) fun a27 =>
 Yx a17 fun a28 =>
 Yp a27 a28 fun a29 =>
 Yv a14 a18 fun a30 =>
 Yp a29 a30 fun a31 =>
 Ya a13 (ii 1) fun a32 =>
 k1 [a32,a31])) (
 Yw a14 a18 fun a23 =>
 cl1 (f_i_copyInts [a23]) fun a24 =>
 Yx a17 fun a25 =>
 Yp a24 a25 fun a26 =>
 Yv a14 a18 fun a27 =>
 Yp a26 a27 fun a28 =>
 Ya a13 (ii 1) fun a29 =>
 k1 [a29,a28]))) ts
def G_i_Together_l1:Option (List T) :=
 (ar2 fun a13 a14 =>
 Yl a13 a12 fun a15 =>
 ifT a15 (
 Y1 a5 a13 fun a17 =>
 iter (G_i_Together_l0 f_i_copyInts a13 a14 a17 k1) R [ii 0]) (
 Yz a1 fun a16 =>
 Yz a0 fun a17 =>
 some [a17,a16,a14])) ts
def G_i_Together_l2:Option (List T) :=
 (ar1 fun a14 =>
 Yn a10 fun a15 =>
 Yl a14 a15 fun a16 =>
 ifT a16 (
 Yq a10 a14 fun a18 =>
 Yl a18 a13 fun a19 =>
 ifT a19 (
 Ya a14 (ii 1) fun a20 =>
 k1 [a20]) (
 Yn a10 fun a20 =>
 Yl a14 a20 fun a21 =>
 ifT a21 (
 Yq a10 a14 fun a23 =>
 Ye a23 a13 fun a24 =>
 ifT a24 (
 Ya a9 (ii 1) fun a25 =>
 k0 [a25,a10]) (
 Yw a10 a14 fun a25 =>
 cl1 (f_i_copyInts [a25]) fun a26 =>
 Yx a13 fun a27 =>
 Yp a26 a27 fun a28 =>
 Yv a10 a14 fun a29 =>
 Yp a28 a29 fun a30 =>
 Ya a9 (ii 1) fun a31 =>
 k0 [a31,a30])) (
 Yw a10 a14 fun a22 =>
 cl1 (f_i_copyInts [a22]) fun a23 =>
 Yx a13 fun a24 =>
 Yp a23 a24 fun a25 =>
 Yv a10 a14 fun a26 =>
 Yp a25 a26 fun a27 =>
 Ya a9 (ii 1) fun a28 =>
 k0 [a28,a27]))) (
 Yn a10 fun a17 =>
 Yl a14 a17 fun a18 =>
 ifT a18 (
 Yq a10 a14 fun a20 =>
 Ye a20 a13 fun a21 =>
 ifT a21 (
 Ya a9 (ii 1) fun a22 =>
 k0 [a22,a10]) (
 Yw a10 a14 fun a22 =>
 cl1 (f_i_copyInts [a22]) fun a23 =>
 Yx a13 fun a24 =>
 Yp a23 a24 fun a25 =>
 Yv a10 a14 fun a26 =>
 Yp a25 a26 fun a27 =>
 Ya a9 (ii 1) fun a28 =>
 k0 [a28,a27])) (
 Yw a10 a14 fun a19 =>
 cl1 (f_i_copyInts [a19]) fun a20 =>
 Yx a13 fun a21 =>
 Yp a20 a21 fun a22 =>
 Yv a10 a14 fun a23 =>
 Yp a22 a23 fun a24 =>
 Ya a9 (ii 1) fun a25 =>
 k0 [a25,a24]))) ts
def G_i_Together_l3:Option (List T) :=
 (ar2 fun a9 a10 =>
 Yl a9 a8 fun a11 =>
 ifT a11 (
 Y1 a2 a9 fun a13 =>
 iter (G_i_Together_l2 f_i_copyInts a9 a10 a13 k0) R [ii 0]) (
 Yn a5 fun a12 =>
 iter (G_i_Together_l1 R f_i_copyInts a0 a1 a5 a12) R [ii 0,a10])) ts
def G_i_Together:Option (List T) :=
 Yg a4 a1 fun a6 =>
 ifT a6 (
 cl3 (f_i_copyWay [a0,a1,a2]) fun a7 a8 a9 =>
 Yz a8 fun a10 =>
 Yz a7 fun a11 =>
 some [a11,a10,a9]) (
 Yg a1 a4 fun a7 =>
 ifT a7 (
 cl3 (f_i_copyWay [a3,a4,a5]) fun a8 a9 a10 =>
 Yz a9 fun a11 =>
 Yz a8 fun a12 =>
 some [a12,a11,a10]) (
 Yn a2 fun a8 =>
 iter (G_i_Together_l3 R f_i_copyInts a0 a1 a2 a5 a8) R [ii 0,.l []]))
theorem gr_i_Together:p_i_Together.den (pick [(126,f_i_copyWay),(133,f_i_copyInts)]) R [] [a0,a1,a2,a3,a4,a5]=G_i_Together R f_i_copyInts f_i_copyWay a0 a1 a2 a3 a4 a5:=(den2_of (by kernel_rfl)).trans (by kernel_rfl)
theorem g_i_Together:F_i_Together [a0,a1,a2,a3,a4,a5]=G_i_Together rounds F_i_copyInts F_i_copyWay a0 a1 a2 a3 a4 a5:=gr_i_Together rounds F_i_copyInts F_i_copyWay a0 a1 a2 a3 a4 a5
def G_i_WaysIn_l0:Option (List T) :=
 (ar2 fun a20 a21 =>
 Ym a20 (ii 6) fun a22 =>
 ifT a22 (
 cl1 (f_i_Linked [a0,a1,a14,a20]) fun a23 =>
 Ye a23 (ii 0) fun a24 =>
 ifT a24 (
 Ya a20 (ii 1) fun a25 =>
 k2 [a25,a21]) (
 Ye a20 a2 fun a25 =>
 ifT a25 (
 Ya a20 (ii 1) fun a26 =>
 k2 [a26,a21]) (
 Yb a21 a14 fun a26 =>
 pv (.scell 3 1) [a21,a14] fun a27 =>
 Ya a27 a23 fun a28 =>
 Yb a21 a14 fun a29 =>
 Yc 3 2 a21 a14 fun a30 =>
 cl1 (f_i_copyInts [a30]) fun a31 =>
 Ye a14 a2 fun a32 =>
 jn (ar1 fun a33 =>
 Y3 a21 a20 fun a35 a36 a37 =>
 Ye a35 (ii 0) fun a38 =>
 ifT a38 (
 jn (ar1 fun a39 =>
 Ya a20 (ii 1) fun a40 =>
 k2 [a40,a39]) fun k3 =>
 Yb a21 a20 fun a39 =>
 pv (.putD [true,true,false] 3 0) [a21,a20,a20,a28,a33] fun a40 =>
 k3 [a40]) (
 Yl a28 a36 fun a39 =>
 jn (ar1 fun a40 =>
 Ya a20 (ii 1) fun a41 =>
 k2 [a41,a40]) fun k3 =>
 ifT a39 (
 Yb a21 a20 fun a40 =>
 pv (.putD [true,true,false] 3 0) [a21,a20,a20,a28,a33] fun a41 =>
 k3 [a41]) (
 Ye a28 a36 fun a40 =>
 jn (ar1 fun a41 =>
 k3 [a41]) fun k4 =>
 ifT a40 (
 cl3 (f_i_Together [a35,a36,a37,a20,a28,a33]) fun a41 a42 a43 =>
 Yb a21 a20 fun a44 =>
 pv (.putD [true,true,false] 3 0) [a21,a20,a41,a42,a43] fun a45 =>
 k4 [a45]) (
 k4 [a21])))) fun k3 =>
 ifT a32 (
 Yx a20 fun a33 =>
 k3 [a33]) (
 k3 [a31])))) (
 k0 [a19,a21])) ts
def G_i_WaysIn_l1:Option (List T) :=
 (ar3 fun a19 a20 a21 =>
 Yl a20 a18 fun a22 =>
 ifT a22 (
 Yb a13 a20 fun a23 =>
 pv (.scell 3 0) [a13,a20] fun a24 =>
 pv (.scell 3 1) [a13,a20] fun a25 =>
 pv (.dig 3 2) [a13,a20] fun a26 =>
 pv (.tk1) [a21,a20] fun a27 =>
 Yu a24 (ii 0) fun a28 =>
 jn (ar1 fun a29 =>
 Ya a20 (ii 1) fun a30 =>
 k2 [a29,a30,a27]) fun k3 =>
 ifT a28 (
 pv (.lit 3 [true,true,false]) [a24,a25,a26] fun a29 =>
 Yo a19 a29 fun a30 =>
 k3 [a30]) (
 k3 [a19])) (
 some [a19])) ts
def G_i_WaysIn_l2:Option (List T) :=
 (ar2 fun a14 a15 =>
 Ym a15 (ii 6) fun a16 =>
 ifT a16 (
 Yb a13 a15 fun a17 =>
 pv (.scell 3 0) [a13,a15] fun a18 =>
 Yu a18 (ii 0) fun a19 =>
 ifT a19 (
 cl1 (f_i_hasInt [a12,a15]) fun a20 =>
 Yt a20 fun a21 =>
 ifT a21 (
 Ye a14 (ii 0) fun a22 =>
 ifT a22 (
 jn (ar1 fun a23 =>
 Ya a15 (ii 1) fun a24 =>
 k1 [a23,a24]) fun k2 =>
 k2 [a15]) (
 Yb a13 a15 fun a23 =>
 pv (.scell 3 1) [a13,a15] fun a24 =>
 Yb a13 a14 fun a25 =>
 pv (.scell 3 1) [a13,a14] fun a26 =>
 Yl a24 a26 fun a27 =>
 jn (ar1 fun a28 =>
 Ya a15 (ii 1) fun a29 =>
 k1 [a28,a29]) fun k2 =>
 ifT a27 (
 k2 [a15]) (
 k2 [a14]))) (
 jn (ar1 fun a22 =>
 Ya a15 (ii 1) fun a23 =>
 k1 [a22,a23]) fun k2 =>
 k2 [a14])) (
 jn (ar1 fun a20 =>
 Ya a15 (ii 1) fun a21 =>
 k1 [a20,a21]) fun k2 =>
 k2 [a14])) (
 Ye a14 (ii 0) fun a17 =>
 ifT a17 (
 Yn a13 fun a18 =>
 iter (G_i_WaysIn_l1 a13 a18) R [.l [],ii 0,a13]) (
 Yx a14 fun a18 =>
 Yp a12 a18 fun a19 =>
 iter (G_i_WaysIn_l0 f_i_Linked f_i_Together f_i_copyInts a0 a1 a2 a14 a19 k0) R [ii 1,a13]))) ts
def G_i_WaysIn_l3:Option (List T) :=
 (ar2 fun a12 a13 =>
 iter (G_i_WaysIn_l2 R f_i_Linked f_i_Together f_i_copyInts f_i_hasInt a0 a1 a2 a12 a13 k0) R [ii 0,ii 1]) ts
def G_i_WaysIn:Option (List T) :=
 cl1 (f_i_StoreOk [a0]) fun a3 =>
 Yt a3 fun a4 =>
 ifT a4 (
 some [.l []]) (
 cl1 (f_i_in [a2,ii 1,ii 6]) fun a5 =>
 Yt a5 fun a6 =>
 ifT a6 (
 some [.l []]) (
 cl1 (f_i_keyAt [a0,a1,ii 1,a2,ii 0,ii 0,.l [],ii 0,bb false]) fun a7 =>
 Yl a7 (ii 0) fun a8 =>
 ifT a8 (
 some [.l []]) (
 pv (.mk) [ii 7,ii 7,ii 0,ii 0,.l []] fun a9 =>
 Yb a9 a2 fun a10 =>
 pv (.put true 3 0 1) [a9,a2,a2] fun a11 =>
 iter (G_i_WaysIn_l3 R f_i_Linked f_i_Together f_i_copyInts f_i_hasInt a0 a1 a2) R [.l [],a11])))
theorem gr_i_WaysIn:p_i_WaysIn.den (pick [(44,f_i_Linked),(50,f_i_Together),(88,f_i_StoreOk),(89,f_i_in),(90,f_i_keyAt),(91,f_i_hasInt),(133,f_i_copyInts)]) R [] [a0,a1,a2]=G_i_WaysIn R f_i_Linked f_i_StoreOk f_i_Together f_i_copyInts f_i_hasInt f_i_in f_i_keyAt a0 a1 a2:=(den2_of (by kernel_rfl)).trans (by kernel_rfl)
theorem g_i_WaysIn:F_i_WaysIn [a0,a1,a2]=G_i_WaysIn rounds F_i_Linked F_i_StoreOk F_i_Together F_i_copyInts F_i_hasInt F_i_in F_i_keyAt a0 a1 a2:=gr_i_WaysIn rounds F_i_Linked F_i_StoreOk F_i_Together F_i_copyInts F_i_hasInt F_i_in F_i_keyAt a0 a1 a2
def G_i_WayTo_l0:Option (List T) :=
 (ar2 fun a3 a4 =>
 Yl a4 a2 fun a5 =>
 ifT a5 (
 Y3 a0 a4 fun a7 a8 a9 =>
 Ye a7 a1 fun a10 =>
 ifT a10 (
 cl3 (f_i_copyWay [a7,a8,a9]) fun a11 a12 a13 =>
 Yz (bb true) fun a14 =>
 Yz a12 fun a15 =>
 Yz a11 fun a16 =>
 some [a16,a15,a13,a14]) (
 Ya a4 (ii 1) fun a11 =>
 k0 [a3,a11])) (
 Yz (bb false) fun a6 =>
 Yz (ii 0) fun a7 =>
 Yz (ii 0) fun a8 =>
 some [a8,a7,.l [],a6])) ts
def G_i_WayTo:Option (List T) :=
 Yn a0 fun a2 =>
 iter (G_i_WayTo_l0 f_i_copyWay a0 a1 a2) R [bb false,ii 0]
theorem gr_i_WayTo:p_i_WayTo.den (pick [(126,f_i_copyWay)]) R [] [a0,a1]=G_i_WayTo R f_i_copyWay a0 a1:=(den2_of (by kernel_rfl)).trans (by kernel_rfl)
theorem g_i_WayTo:F_i_WayTo [a0,a1]=G_i_WayTo rounds F_i_copyWay a0 a1:=gr_i_WayTo rounds F_i_copyWay a0 a1
def G_i_RoutesWithin_l0:Option (List T) :=
 (ar1 fun a19 =>
 Yn a11 fun a20 =>
 Yl a19 a20 fun a21 =>
 ifT a21 (
 Yb a11 a19 fun a22 =>
 pv (.scell 3 0) [a11,a19] fun a23 =>
 Yl a23 a16 fun a24 =>
 ifT a24 (
 Ya a19 (ii 1) fun a25 =>
 k2 [a25]) (
 Yn a11 fun a25 =>
 Yl a19 a25 fun a26 =>
 ifT a26 (
 Yb a11 a19 fun a27 =>
 pv (.scell 3 0) [a11,a19] fun a28 =>
 Ye a28 a16 fun a29 =>
 ifT a29 (
 Y3 a11 a19 fun a31 a32 a33 =>
 cl3 (f_i_Together [a31,a32,a33,a16,a17,a18]) fun a34 a35 a36 =>
 Yb a11 a19 fun a37 =>
 pv (.putD [true,true,false] 3 0) [a11,a19,a34,a35,a36] fun a38 =>
 Ya a12 (ii 1) fun a39 =>
 k1 [a38,a39,a13]) (
 pv (.sub 3 false true) [a11,a19] fun a30 =>
 pv (.tkn) [a11,ii 0,a30] fun a31 =>
 Yo (.l []) a30 fun a32 =>
 cl3 (f_i_copyWay [a16,a17,a18]) fun a33 a34 a35 =>
 pv (.lit 3 [true,true,false]) [a33,a34,a35] fun a36 =>
 Yo a32 a36 fun a37 =>
 pv (.sub 3 true false) [a11,a19] fun a38 =>
 pv (.tkn) [a31,a19,a38] fun a39 =>
 Yo a37 a38 fun a40 =>
 Ya a12 (ii 1) fun a41 =>
 k1 [a40,a41,a13])) (
 pv (.sub 3 false true) [a11,a19] fun a27 =>
 pv (.tkn) [a11,ii 0,a27] fun a28 =>
 Yo (.l []) a27 fun a29 =>
 cl3 (f_i_copyWay [a16,a17,a18]) fun a30 a31 a32 =>
 pv (.lit 3 [true,true,false]) [a30,a31,a32] fun a33 =>
 Yo a29 a33 fun a34 =>
 pv (.sub 3 true false) [a11,a19] fun a35 =>
 pv (.tkn) [a28,a19,a35] fun a36 =>
 Yo a34 a35 fun a37 =>
 Ya a12 (ii 1) fun a38 =>
 k1 [a37,a38,a13]))) (
 Yn a11 fun a22 =>
 Yl a19 a22 fun a23 =>
 ifT a23 (
 Yb a11 a19 fun a24 =>
 pv (.scell 3 0) [a11,a19] fun a25 =>
 Ye a25 a16 fun a26 =>
 ifT a26 (
 Y3 a11 a19 fun a28 a29 a30 =>
 cl3 (f_i_Together [a28,a29,a30,a16,a17,a18]) fun a31 a32 a33 =>
 Yb a11 a19 fun a34 =>
 pv (.putD [true,true,false] 3 0) [a11,a19,a31,a32,a33] fun a35 =>
 Ya a12 (ii 1) fun a36 =>
 k1 [a35,a36,a13]) (
 pv (.sub 3 false true) [a11,a19] fun a27 =>
 pv (.tkn) [a11,ii 0,a27] fun a28 =>
 Yo (.l []) a27 fun a29 =>
 cl3 (f_i_copyWay [a16,a17,a18]) fun a30 a31 a32 =>
 pv (.lit 3 [true,true,false]) [a30,a31,a32] fun a33 =>
 Yo a29 a33 fun a34 =>
 pv (.sub 3 true false) [a11,a19] fun a35 =>
 pv (.tkn) [a28,a19,a35] fun a36 =>
 Yo a34 a35 fun a37 =>
 Ya a12 (ii 1) fun a38 =>
 k1 [a37,a38,a13])) (
 pv (.sub 3 false true) [a11,a19] fun a24 =>
 pv (.tkn) [a11,ii 0,a24] fun a25 =>
 Yo (.l []) a24 fun a26 =>
 cl3 (f_i_copyWay [a16,a17,a18]) fun a27 a28 a29 =>
 pv (.lit 3 [true,true,false]) [a27,a28,a29] fun a30 =>
 Yo a26 a30 fun a31 =>
 pv (.sub 3 true false) [a11,a19] fun a32 =>
 pv (.tkn) [a25,a19,a32] fun a33 =>
 Yo a31 a32 fun a34 =>
 Ya a12 (ii 1) fun a35 =>
 k1 [a34,a35,a13]))) ts
def G_i_RoutesWithin_l1:Option (List T) :=
 (ar3 fun a11 a12 a13 =>
 Yl a12 a10 fun a14 =>
 ifT a14 (
 Y3 a13 a12 fun a16 a17 a18 =>
 iter (G_i_RoutesWithin_l0 f_i_Together f_i_copyWay a11 a12 a13 a16 a17 a18 k1) R [ii 0]) (
 Ya a5 (ii 1) fun a15 =>
 k0 [a11,a15])) ts
def G_i_RoutesWithin_l2:Option (List T) :=
 (ar2 fun a4 a5 =>
 Yl a5 a3 fun a6 =>
 ifT a6 (
 Y1 a1 a5 fun a8 =>
 cl1 (f_i_WaysIn [a0,a8,a2]) fun a9 =>
 Yn a9 fun a10 =>
 iter (G_i_RoutesWithin_l1 R f_i_Together f_i_copyWay a5 a10 k0) R [a4,ii 0,a9]) (
 some [a4])) ts
def G_i_RoutesWithin:Option (List T) :=
 Yn a1 fun a3 =>
 iter (G_i_RoutesWithin_l2 R f_i_Together f_i_WaysIn f_i_copyWay a0 a1 a2 a3) R [.l [],ii 0]
theorem gr_i_RoutesWithin:p_i_RoutesWithin.den (pick [(18,f_i_WaysIn),(50,f_i_Together),(126,f_i_copyWay)]) R [] [a0,a1,a2]=G_i_RoutesWithin R f_i_Together f_i_WaysIn f_i_copyWay a0 a1 a2:=(den2_of (by kernel_rfl)).trans (by kernel_rfl)
theorem g_i_RoutesWithin:F_i_RoutesWithin [a0,a1,a2]=G_i_RoutesWithin rounds F_i_Together F_i_WaysIn F_i_copyWay a0 a1 a2:=gr_i_RoutesWithin rounds F_i_Together F_i_WaysIn F_i_copyWay a0 a1 a2
def G_i_RoutesBeyond_l0:Option (List T) :=
 (ar1 fun a36 =>
 Yn a6 fun a37 =>
 Yl a36 a37 fun a38 =>
 ifT a38 (
 Yb a6 a36 fun a39 =>
 pv (.scell 3 0) [a6,a36] fun a40 =>
 Yl a40 a13 fun a41 =>
 ifT a41 (
 Ya a36 (ii 1) fun a42 =>
 k1 [a42]) (
 Yn a6 fun a42 =>
 Yl a36 a42 fun a43 =>
 ifT a43 (
 Yb a6 a36 fun a44 =>
 pv (.scell 3 0) [a6,a36] fun a45 =>
 Ye a45 a13 fun a46 =>
 ifT a46 (
 Y3 a6 a36 fun a48 a49 a50 =>
 cl3 (f_i_Together [a48,a49,a50,a13,a35,a30]) fun a51 a52 a53 =>
 Yb a6 a36 fun a54 =>
 pv (.putD [true,true,false] 3 0) [a6,a36,a51,a52,a53] fun a55 =>
 Ya a7 (ii 1) fun a56 =>
 k0 [a55,a56]) (
 pv (.sub 3 false true) [a6,a36] fun a47 =>
 pv (.tkn) [a6,ii 0,a47] fun a48 =>
 Yo (.l []) a47 fun a49 =>
 cl3 (f_i_copyWay [a13,a35,a30]) fun a50 a51 a52 =>
 pv (.lit 3 [true,true,false]) [a50,a51,a52] fun a53 =>
 Yo a49 a53 fun a54 =>
 pv (.sub 3 true false) [a6,a36] fun a55 =>
 pv (.tkn) [a48,a36,a55] fun a56 =>
 Yo a54 a55 fun a57 =>
 Ya a7 (ii 1) fun a58 =>
 k0 [a57,a58])) (
 pv (.sub 3 false true) [a6,a36] fun a44 =>
 pv (.tkn) [a6,ii 0,a44] fun a45 =>
 Yo (.l []) a44 fun a46 =>
 cl3 (f_i_copyWay [a13,a35,a30]) fun a47 a48 a49 =>
 pv (.lit 3 [true,true,false]) [a47,a48,a49] fun a50 =>
 Yo a46 a50 fun a51 =>
 pv (.sub 3 true false) [a6,a36] fun a52 =>
 pv (.tkn) [a45,a36,a52] fun a53 =>
 Yo a51 a52 fun a54 =>
 Ya a7 (ii 1) fun a55 =>
 k0 [a54,a55]))) (
 Yn a6 fun a39 =>
 Yl a36 a39 fun a40 =>
 ifT a40 (
 Yb a6 a36 fun a41 =>
 pv (.scell 3 0) [a6,a36] fun a42 =>
 Ye a42 a13 fun a43 =>
 ifT a43 (
 Y3 a6 a36 fun a45 a46 a47 =>
 cl3 (f_i_Together [a45,a46,a47,a13,a35,a30]) fun a48 a49 a50 =>
 Yb a6 a36 fun a51 =>
 pv (.putD [true,true,false] 3 0) [a6,a36,a48,a49,a50] fun a52 =>
 Ya a7 (ii 1) fun a53 =>
 k0 [a52,a53]) (
 pv (.sub 3 false true) [a6,a36] fun a44 =>
 pv (.tkn) [a6,ii 0,a44] fun a45 =>
 Yo (.l []) a44 fun a46 =>
 cl3 (f_i_copyWay [a13,a35,a30]) fun a47 a48 a49 =>
 pv (.lit 3 [true,true,false]) [a47,a48,a49] fun a50 =>
 Yo a46 a50 fun a51 =>
 pv (.sub 3 true false) [a6,a36] fun a52 =>
 pv (.tkn) [a45,a36,a52] fun a53 =>
 Yo a51 a52 fun a54 =>
 Ya a7 (ii 1) fun a55 =>
 k0 [a54,a55])) (
 pv (.sub 3 false true) [a6,a36] fun a41 =>
 pv (.tkn) [a6,ii 0,a41] fun a42 =>
 Yo (.l []) a41 fun a43 =>
 cl3 (f_i_copyWay [a13,a35,a30]) fun a44 a45 a46 =>
 pv (.lit 3 [true,true,false]) [a44,a45,a46] fun a47 =>
 Yo a43 a47 fun a48 =>
 pv (.sub 3 true false) [a6,a36] fun a49 =>
 pv (.tkn) [a42,a36,a49] fun a50 =>
 Yo a48 a49 fun a51 =>
 Ya a7 (ii 1) fun a52 =>
 k0 [a51,a52]))) ts
def G_i_RoutesBeyond_l1:Option (List T) :=
 (ar1 fun a37 =>
 Yn a6 fun a38 =>
 Yl a37 a38 fun a39 =>
 ifT a39 (
 Yb a6 a37 fun a40 =>
 pv (.scell 3 0) [a6,a37] fun a41 =>
 Yl a41 a13 fun a42 =>
 ifT a42 (
 Ya a37 (ii 1) fun a43 =>
 k1 [a43]) (
 Yn a6 fun a43 =>
 Yl a37 a43 fun a44 =>
 ifT a44 (
 Yb a6 a37 fun a45 =>
 pv (.scell 3 0) [a6,a37] fun a46 =>
 Ye a46 a13 fun a47 =>
 ifT a47 (
 Y3 a6 a37 fun a49 a50 a51 =>
 cl3 (f_i_Together [a49,a50,a51,a13,a36,a31]) fun a52 a53 a54 =>
 Yb a6 a37 fun a55 =>
 pv (.putD [true,true,false] 3 0) [a6,a37,a52,a53,a54] fun a56 =>
 Ya a7 (ii 1) fun a57 =>
 k0 [a56,a57]) (
 pv (.sub 3 false true) [a6,a37] fun a48 =>
 pv (.tkn) [a6,ii 0,a48] fun a49 =>
 Yo (.l []) a48 fun a50 =>
 cl3 (f_i_copyWay [a13,a36,a31]) fun a51 a52 a53 =>
 pv (.lit 3 [true,true,false]) [a51,a52,a53] fun a54 =>
 Yo a50 a54 fun a55 =>
 pv (.sub 3 true false) [a6,a37] fun a56 =>
 pv (.tkn) [a49,a37,a56] fun a57 =>
 Yo a55 a56 fun a58 =>
 Ya a7 (ii 1) fun a59 =>
 k0 [a58,a59])) (
 pv (.sub 3 false true) [a6,a37] fun a45 =>
 pv (.tkn) [a6,ii 0,a45] fun a46 =>
 Yo (.l []) a45 fun a47 =>
 cl3 (f_i_copyWay [a13,a36,a31]) fun a48 a49 a50 =>
 pv (.lit 3 [true,true,false]) [a48,a49,a50] fun a51 =>
 Yo a47 a51 fun a52 =>
 pv (.sub 3 true false) [a6,a37] fun a53 =>
 pv (.tkn) [a46,a37,a53] fun a54 =>
 Yo a52 a53 fun a55 =>
 Ya a7 (ii 1) fun a56 =>
 k0 [a55,a56]))) (
 Yn a6 fun a40 =>
 Yl a37 a40 fun a41 =>
 ifT a41 (
 Yb a6 a37 fun a42 =>
 pv (.scell 3 0) [a6,a37] fun a43 =>
 Ye a43 a13 fun a44 =>
 ifT a44 (
 Y3 a6 a37 fun a46 a47 a48 =>
 cl3 (f_i_Together [a46,a47,a48,a13,a36,a31]) fun a49 a50 a51 =>
 Yb a6 a37 fun a52 =>
 pv (.putD [true,true,false] 3 0) [a6,a37,a49,a50,a51] fun a53 =>
 Ya a7 (ii 1) fun a54 =>
 k0 [a53,a54]) (
 pv (.sub 3 false true) [a6,a37] fun a45 =>
 pv (.tkn) [a6,ii 0,a45] fun a46 =>
 Yo (.l []) a45 fun a47 =>
 cl3 (f_i_copyWay [a13,a36,a31]) fun a48 a49 a50 =>
 pv (.lit 3 [true,true,false]) [a48,a49,a50] fun a51 =>
 Yo a47 a51 fun a52 =>
 pv (.sub 3 true false) [a6,a37] fun a53 =>
 pv (.tkn) [a46,a37,a53] fun a54 =>
 Yo a52 a53 fun a55 =>
 Ya a7 (ii 1) fun a56 =>
 k0 [a55,a56])) (
 pv (.sub 3 false true) [a6,a37] fun a42 =>
 pv (.tkn) [a6,ii 0,a42] fun a43 =>
 Yo (.l []) a42 fun a44 =>
 cl3 (f_i_copyWay [a13,a36,a31]) fun a45 a46 a47 =>
 pv (.lit 3 [true,true,false]) [a45,a46,a47] fun a48 =>
 Yo a44 a48 fun a49 =>
 pv (.sub 3 true false) [a6,a37] fun a50 =>
 pv (.tkn) [a43,a37,a50] fun a51 =>
 Yo a49 a50 fun a52 =>
 Ya a7 (ii 1) fun a53 =>
 k0 [a52,a53]))) ts
def G_i_RoutesBeyond_l2:Option (List T) :=
 (ar2 fun a6 a7 =>
 Yl a7 a5 fun a8 =>
 ifT a8 (
 Y8 a0 a7 fun a10 a11 a12 a13 a14 a15 a16 a17 =>
 Yu a11 (ii 2) fun a18 =>
 ifT a18 (
 Ya a7 (ii 1) fun a19 =>
 k0 [a6,a19]) (
 Yh a16 (ii 60000) fun a19 =>
 ifT a19 (
 Ya a7 (ii 1) fun a20 =>
 k0 [a6,a20]) (
 Ye a12 a3 fun a20 =>
 ifT a20 (
 Ya a7 (ii 1) fun a21 =>
 k0 [a6,a21]) (
 cl1 (f_i_hasInt [a1,a10]) fun a21 =>
 Yt a21 fun a22 =>
 ifT a22 (
 Ya a7 (ii 1) fun a23 =>
 k0 [a6,a23]) (
 ifT a2 (
 Yu a10 (ii 0) fun a23 =>
 ifT a23 (
 Ya a7 (ii 1) fun a24 =>
 k0 [a6,a24]) (
 cl4 (f_i_WayTo [a4,a13]) fun a24 a25 a26 a27 =>
 cl1 (f_i_WaysIn [a0,a10,a3]) fun a28 =>
 cl4 (f_i_WayTo [a28,a12]) fun a29 a30 a31 a32 =>
 ifT a27 (
 Ya a7 (ii 1) fun a33 =>
 k0 [a6,a33]) (
 Yt a32 fun a33 =>
 ifT a33 (
 Ya a7 (ii 1) fun a34 =>
 k0 [a6,a34]) (
 Ya a16 a30 fun a34 =>
 Yh a34 (ii 60000) fun a35 =>
 ifT a35 (
 Ya a7 (ii 1) fun a36 =>
 k0 [a6,a36]) (
 Ya a16 a30 fun a36 =>
 iter (G_i_RoutesBeyond_l1 f_i_Together f_i_copyWay a6 a7 a13 a31 a36 k0) R [ii 0]))))) (
 cl4 (f_i_WayTo [a4,a13]) fun a23 a24 a25 a26 =>
 cl1 (f_i_WaysIn [a0,a10,a3]) fun a27 =>
 cl4 (f_i_WayTo [a27,a12]) fun a28 a29 a30 a31 =>
 ifT a26 (
 Ya a7 (ii 1) fun a32 =>
 k0 [a6,a32]) (
 Yt a31 fun a32 =>
 ifT a32 (
 Ya a7 (ii 1) fun a33 =>
 k0 [a6,a33]) (
 Ya a16 a29 fun a33 =>
 Yh a33 (ii 60000) fun a34 =>
 ifT a34 (
 Ya a7 (ii 1) fun a35 =>
 k0 [a6,a35]) (
 Ya a16 a29 fun a35 =>
 iter (G_i_RoutesBeyond_l0 f_i_Together f_i_copyWay a6 a7 a13 a30 a35 k0) R [ii 0]))))))))) (
 some [a6])) ts
def G_i_RoutesBeyond:Option (List T) :=
 cl1 (f_i_RoutesWithin [a0,a1,a3]) fun a4 =>
 Yn a0 fun a5 =>
 iter (G_i_RoutesBeyond_l2 R f_i_Together f_i_WayTo f_i_WaysIn f_i_copyWay f_i_hasInt a0 a1 a2 a3 a4 a5) R [.l [],ii 0]
theorem gr_i_RoutesBeyond:p_i_RoutesBeyond.den (pick [(18,f_i_WaysIn),(26,f_i_RoutesWithin),(45,f_i_WayTo),(50,f_i_Together),(91,f_i_hasInt),(126,f_i_copyWay)]) R [] [a0,a1,a2,a3]=G_i_RoutesBeyond R f_i_RoutesWithin f_i_Together f_i_WayTo f_i_WaysIn f_i_copyWay f_i_hasInt a0 a1 a2 a3:=(den2_of (by kernel_rfl)).trans (by kernel_rfl)
theorem g_i_RoutesBeyond:F_i_RoutesBeyond [a0,a1,a2,a3]=G_i_RoutesBeyond rounds F_i_RoutesWithin F_i_Together F_i_WayTo F_i_WaysIn F_i_copyWay F_i_hasInt a0 a1 a2 a3:=gr_i_RoutesBeyond rounds F_i_RoutesWithin F_i_Together F_i_WayTo F_i_WaysIn F_i_copyWay F_i_hasInt a0 a1 a2 a3
def G_i_Beyond_l0:Option (List T) :=
 (ar3 fun a18 a19 a20 =>
 Yl a18 a17 fun a21 =>
 ifT a21 (
 Y3 a20 a18 fun a23 a24 a25 =>
 cl4 (f_i_WayTo [a8,a23]) fun a26 a27 a28 a29 =>
 Yt a29 fun a30 =>
 ifT a30 (
 Yu a23 a2 fun a31 =>
 ifT a31 (
 cl1 (f_i_keyAt [a19,a3,ii 2,a2,a23,ii 0,.l [],a24,bb false]) fun a32 =>
 Yl a32 (ii 0) fun a33 =>
 jn (ar1 fun a34 =>
 Ya a18 (ii 1) fun a35 =>
 k3 [a35,a34,a20]) fun k4 =>
 ifT a33 (
 cl1 (f_i_put [a19,a3,ii 2,a2,a23,ii 0,.l [],a24,bb false]) fun a34 =>
 k4 [a34]) (
 k4 [a19])) (
 jn (ar1 fun a32 =>
 Ya a18 (ii 1) fun a33 =>
 k3 [a33,a32,a20]) fun k4 =>
 k4 [a19])) (
 jn (ar1 fun a31 =>
 Ya a18 (ii 1) fun a32 =>
 k3 [a32,a31,a20]) fun k4 =>
 k4 [a19])) (
 k2 [a19])) ts
def G_i_Beyond_l1:Option (List T) :=
 (ar3 fun a11 a12 a13 =>
 Yl a11 a10 fun a14 =>
 ifT a14 (
 Y3 a13 a11 fun a16 a17 a18 =>
 cl4 (f_i_WayTo [a8,a16]) fun a19 a20 a21 a22 =>
 Yt a22 fun a23 =>
 ifT a23 (
 Yu a16 a2 fun a24 =>
 ifT a24 (
 cl1 (f_i_keyAt [a12,a3,ii 2,a2,a16,ii 0,.l [],a17,bb false]) fun a25 =>
 Yl a25 (ii 0) fun a26 =>
 jn (ar1 fun a27 =>
 Ya a11 (ii 1) fun a28 =>
 k1 [a28,a27,a13]) fun k2 =>
 ifT a26 (
 cl1 (f_i_put [a12,a3,ii 2,a2,a16,ii 0,.l [],a17,bb false]) fun a27 =>
 k2 [a27]) (
 k2 [a12])) (
 jn (ar1 fun a25 =>
 Ya a11 (ii 1) fun a26 =>
 k1 [a26,a25,a13]) fun k2 =>
 k2 [a12])) (
 jn (ar1 fun a24 =>
 Ya a11 (ii 1) fun a25 =>
 k1 [a25,a24,a13]) fun k2 =>
 k2 [a12])) (
 Yu a3 (ii 0) fun a15 =>
 jn (ar1 fun a16 =>
 some [a16]) fun k2 =>
 ifT a15 (
 cl1 (f_i_RoutesBeyond [a0,a1,bb true,a2]) fun a16 =>
 Yn a16 fun a17 =>
 iter (G_i_Beyond_l0 f_i_WayTo f_i_keyAt f_i_put a2 a3 a8 a17 k2) R [ii 0,a12,a16]) (
 k2 [a12]))) ts
def G_i_Beyond_l2:Option (List T) :=
 (ar2 fun a5 a6 =>
 Yl a6 a4 fun a7 =>
 ifT a7 (
 Y1 a1 a6 fun a9 =>
 Yu a9 a3 fun a10 =>
 jn (ar1 fun a11 =>
 Ya a6 (ii 1) fun a12 =>
 k0 [a11,a12]) fun k1 =>
 ifT a10 (
 Yx a9 fun a11 =>
 Yp a5 a11 fun a12 =>
 k1 [a12]) (
 k1 [a5])) (
 cl1 (f_i_WaysIn [a0,a3,a2]) fun a8 =>
 cl1 (f_i_RoutesWithin [a0,a5,a2]) fun a9 =>
 Yn a9 fun a10 =>
 iter (G_i_Beyond_l1 R f_i_RoutesBeyond f_i_WayTo f_i_keyAt f_i_put a0 a1 a2 a3 a8 a10) R [ii 0,.l [],a9])) ts
def G_i_Beyond:Option (List T) :=
 Yn a1 fun a4 =>
 iter (G_i_Beyond_l2 R f_i_RoutesBeyond f_i_RoutesWithin f_i_WayTo f_i_WaysIn f_i_keyAt f_i_put a0 a1 a2 a3 a4) R [.l [],ii 0]
theorem gr_i_Beyond:p_i_Beyond.den (pick [(18,f_i_WaysIn),(26,f_i_RoutesWithin),(30,f_i_RoutesBeyond),(45,f_i_WayTo),(90,f_i_keyAt),(111,f_i_put)]) R [] [a0,a1,a2,a3]=G_i_Beyond R f_i_RoutesBeyond f_i_RoutesWithin f_i_WayTo f_i_WaysIn f_i_keyAt f_i_put a0 a1 a2 a3:=(den2_of (by kernel_rfl)).trans (by kernel_rfl)
theorem g_i_Beyond:F_i_Beyond [a0,a1,a2,a3]=G_i_Beyond rounds F_i_RoutesBeyond F_i_RoutesWithin F_i_WayTo F_i_WaysIn F_i_keyAt F_i_put a0 a1 a2 a3:=gr_i_Beyond rounds F_i_RoutesBeyond F_i_RoutesWithin F_i_WayTo F_i_WaysIn F_i_keyAt F_i_put a0 a1 a2 a3
def G_i_Ideal_l0:Option (List T) :=
 (ar3 fun a43 a44 a45 =>
 Yl a44 a42 fun a46 =>
 ifT a46 (
 Y8 a45 a44 fun a48 a49 a50 a51 a52 a53 a54 a55 =>
 cl1 (f_i_put [a43,a48,a49,a50,a51,ii 1,a53,a54,a55]) fun a56 =>
 Ya a44 (ii 1) fun a57 =>
 k7 [a56,a57,a45]) (
 Ya a37 (ii 1) fun a47 =>
 k6 [a43,a47])) ts
def G_i_Ideal_l1:Option (List T) :=
 (ar2 fun a36 a37 =>
 Yl a37 a35 fun a38 =>
 ifT a38 (
 Yq a34 a37 fun a40 =>
 cl1 (f_i_Beyond [a22,a34,a23,a40]) fun a41 =>
 Yn a41 fun a42 =>
 iter (G_i_Ideal_l0 f_i_put a37 a42 k6) R [a36,ii 0,a41]) (
 k4 [a36])) ts
def G_i_Ideal_l2:Option (List T) :=
 (ar3 fun a30 a31 a32 =>
 Yl a31 a29 fun a33 =>
 ifT a33 (
 Yb a22 a31 fun a34 =>
 pv (.scell 8 0) [a22,a31] fun a35 =>
 pv (.scell 8 1) [a22,a31] fun a36 =>
 pv (.scell 8 2) [a22,a31] fun a37 =>
 pv (.scell 8 3) [a22,a31] fun a38 =>
 pv (.scell 8 4) [a22,a31] fun a39 =>
 pv (.dig 8 5) [a22,a31] fun a40 =>
 pv (.scell 8 6) [a22,a31] fun a41 =>
 pv (.scell 8 7) [a22,a31] fun a42 =>
 pv (.tk1) [a32,a31] fun a43 =>
 Yu a36 (ii 2) fun a44 =>
 ifT a44 (
 jn (ar1 fun a45 =>
 Ya a31 (ii 1) fun a46 =>
 k5 [a45,a46,a43]) fun k6 =>
 pv (.lit 8 [true,true,true,true,true,false,true,true]) [a35,a36,a37,a38,a39,a40,a41,a42] fun a45 =>
 Yy a30 a45 fun a46 =>
 k6 [a46]) (
 Yu a37 a23 fun a45 =>
 jn (ar1 fun a46 =>
 Ya a31 (ii 1) fun a47 =>
 k5 [a46,a47,a43]) fun k6 =>
 ifT a45 (
 pv (.lit 8 [true,true,true,true,true,false,true,true]) [a35,a36,a37,a38,a39,a40,a41,a42] fun a46 =>
 Yy a30 a46 fun a47 =>
 k6 [a47]) (
 k6 [a30]))) (
 cl1 (f_i_AreasOf [a0,a1,a2,a23]) fun a34 =>
 Yn a34 fun a35 =>
 iter (G_i_Ideal_l1 R f_i_Beyond f_i_put a22 a23 a34 a35 k4) R [a30,ii 0])) ts
def G_i_Ideal_l3:Option (List T) :=
 (ar2 fun a22 a23 =>
 Ym a23 a0 fun a24 =>
 ifT a24 (
 Ys a23 (ii 1) fun a25 =>
 Y1 a4 a25 fun a27 =>
 ifT a27 (
 cl1 (f_i_Border [a0,a1,a2,a23]) fun a28 =>
 jn (ar1 fun a29 =>
 Ya a23 (ii 1) fun a30 =>
 k3 [a29,a30]) fun k4 =>
 ifT a28 (
 Yn a22 fun a29 =>
 iter (G_i_Ideal_l2 R f_i_AreasOf f_i_Beyond f_i_put a0 a1 a2 a22 a23 a29 k4) R [.l [],ii 0,a22]) (
 k4 [a22])) (
 jn (ar1 fun a28 =>
 Ya a23 (ii 1) fun a29 =>
 k3 [a28,a29]) fun k4 =>
 k4 [a22])) (
 Ya a20 (ii 1) fun a25 =>
 k2 [a22,a25])) ts
def G_i_Ideal_l4:Option (List T) :=
 (ar2 fun a19 a20 =>
 Yl a20 (ii 3) fun a21 =>
 ifT a21 (
 iter (G_i_Ideal_l3 R f_i_AreasOf f_i_Beyond f_i_Border f_i_put a0 a1 a2 a4 a20 k2) R [a19,ii 1]) (
 Yz (bb true) fun a22 =>
 some [a19,a22])) ts
def G_i_Ideal_l5:Option (List T) :=
 (ar2 fun a16 a17 =>
 Yl a17 a15 fun a18 =>
 ifT a18 (
 Y4 a2 a17 fun a20 a21 a22 a23 =>
 Ys a20 (ii 1) fun a24 =>
 Y1 a4 a24 fun a26 =>
 jn (ar1 fun a27 =>
 Ya a17 (ii 1) fun a28 =>
 k1 [a27,a28]) fun k2 =>
 ifT a26 (
 cl1 (f_i_put [a16,ii 9,ii 3,a20,a21,ii 1,.l [],a22,a23]) fun a27 =>
 k2 [a27]) (
 k2 [a16])) (
 iter (G_i_Ideal_l4 R f_i_AreasOf f_i_Beyond f_i_Border f_i_put a0 a1 a2 a4) R [a16,ii 0])) ts
def G_i_Ideal_l6:Option (List T) :=
 (ar2 fun a17 a18 =>
 Yl a18 a16 fun a19 =>
 ifT a19 (
 Yq a15 a18 fun a21 =>
 Ys a13 (ii 1) fun a22 =>
 Y1 a4 a22 fun a24 =>
 jn (ar1 fun a25 =>
 Ya a18 (ii 1) fun a26 =>
 k1 [a25,a26]) fun k2 =>
 ifT a24 (
 cl1 (f_i_nearUp [a0,a1,a2,a3,a4,a13,a21]) fun a25 =>
 cl1 (f_i_put [a17,a21,ii 1,a13,ii 0,ii 1,a25,ii 0,bb false]) fun a26 =>
 k2 [a26]) (
 k2 [a17])) (
 Ya a13 (ii 1) fun a20 =>
 k0 [a17,a20])) ts
def G_i_Ideal_l7:Option (List T) :=
 (ar2 fun a12 a13 =>
 Ym a13 a0 fun a14 =>
 ifT a14 (
 cl1 (f_i_AreasOf [a0,a1,a2,a13]) fun a15 =>
 Yn a15 fun a16 =>
 iter (G_i_Ideal_l6 f_i_nearUp f_i_put a0 a1 a2 a3 a4 a13 a15 a16 k0) R [a12,ii 0]) (
 Yn a2 fun a15 =>
 iter (G_i_Ideal_l5 R f_i_AreasOf f_i_Beyond f_i_Border f_i_put a0 a1 a2 a4 a15) R [a12,ii 0])) ts
def G_i_Ideal:Option (List T) :=
 cl1 (f_i_NetOk [a0,a1,a2]) fun a5 =>
 Yt a5 fun a6 =>
 ifT a6 (
 Yz (bb false) fun a7 =>
 some [.l [],a7]) (
 Yn a3 fun a7 =>
 Yn a1 fun a8 =>
 Yu a7 a8 fun a9 =>
 ifT a9 (
 Yz (bb false) fun a10 =>
 some [.l [],a10]) (
 Yn a4 fun a10 =>
 Yu a10 a0 fun a11 =>
 ifT a11 (
 Yz (bb false) fun a12 =>
 some [.l [],a12]) (
 iter (G_i_Ideal_l7 R f_i_AreasOf f_i_Beyond f_i_Border f_i_nearUp f_i_put a0 a1 a2 a3 a4) R [.l [],ii 1])))
theorem gr_i_Ideal:p_i_Ideal.den (pick [(59,f_i_Beyond),(109,f_i_NetOk),(110,f_i_AreasOf),(111,f_i_put),(112,f_i_nearUp),(113,f_i_Border)]) R [] [a0,a1,a2,a3,a4]=G_i_Ideal R f_i_AreasOf f_i_Beyond f_i_Border f_i_NetOk f_i_nearUp f_i_put a0 a1 a2 a3 a4:=(den2_of (by kernel_rfl)).trans (by kernel_rfl)
theorem g_i_Ideal:F_i_Ideal [a0,a1,a2,a3,a4]=G_i_Ideal rounds F_i_AreasOf F_i_Beyond F_i_Border F_i_NetOk F_i_nearUp F_i_put a0 a1 a2 a3 a4:=gr_i_Ideal rounds F_i_AreasOf F_i_Beyond F_i_Border F_i_NetOk F_i_nearUp F_i_put a0 a1 a2 a3 a4
end
end Go.Proofs.YtlofiplkmgmnfaaC
