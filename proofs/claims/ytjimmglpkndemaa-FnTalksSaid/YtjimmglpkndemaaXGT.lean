/- The plain programs as native functions (printed by a program). Conditions: none. -/
import Derived.Test.YtjimmglpkndemaaXPT
import Derived.Test.YtjimmglpkndemaaKe
namespace Go.Proofs.YtjimmglpkndemaaC
set_option linter.unusedVariables false
section
variable (R:Nat) (f_FnTalks f_big f_i_AreasOf f_i_Before f_i_Beyond f_i_Border f_i_CostTo f_i_Headers f_i_HearNode f_i_Install f_i_Learn f_i_LinkOk f_i_Linked f_i_NetOk f_i_Newer f_i_NodeNew f_i_NodeOk f_i_Node_say f_i_PacketOk f_i_RecordOk f_i_Renew f_i_Routes f_i_RoutesBeyond f_i_RoutesOf f_i_RoutesWithin f_i_SameBody f_i_SameKey f_i_Scope f_i_SelfOk f_i_StoreOk f_i_TickNode f_i_Together f_i_Wanted f_i_WayTo f_i_WaysIn f_i_ahead f_i_by f_i_copyInts f_i_copyNet f_i_copyNode f_i_copyRecord f_i_copyRecords f_i_copySelf f_i_copyWay f_i_earAt f_i_earsOf f_i_fresh f_i_gone f_i_hasInt f_i_header f_i_heardBy f_i_heardOk f_i_heardUp f_i_in f_i_keyAt f_i_learned f_i_less f_i_linkAt f_i_nearOk f_i_newest f_i_own f_i_put f_i_sameInts f_i_seqOf f_i_sumsOk f_i_thing f_i_told f_same f_sameInts f_sameStore:Sem1)
variable (a0 a1 a2 a3 a4 a5 a6 a7 a8 a9 a10 a11 a12 a13 a14 a15 a16 a17 a18 a19 a20 a21 a22 a23 a24 a25 a26 a27 a28 a29 a30 a31 a32 a33 a34 a35 a36 a37 a38 a39 a40 a41 a42 a43 a44 a45 a46 a47 a48 a49 a50 a51 a52 a53 a54 a55 a56 a57 a58 a59 a60 a61 a62 a63 a64 a65 a66 a67 a68 a69 a70 a71 a72 a73 a74 a75 a76 a77 a78 a79 a80 a81 a82 a83 a84 a85 a86 a87 a88 a89 a90 a91 a92 a93 a94 a95 a96 a97 a98 a99 a100 a101 a102 a103 a104 a105 a106 a107 a108 a109 a110 a111 a112 a113 a114 a115 a116 a117 a118 a119 a120 a121 a122 a123 a124 a125 a126 a127 a128 a129 a130 a131 a132 a133 a134 a135 a136 a137 a138 a139 a140 a141 a142 a143 a144 a145 a146 a147 a148 a149:T) (k0 k1 k2 k3 k4 k5 k6 k7 k8 k9 k10 k11 k12 k13 k14 k15 k16 k17 k18 k19:Sem1) (ts:List T)
def G_big:Option (List T) :=
 Yn a0 fun a1 =>
 Yg a1 (ii 1048576) fun a2 =>
 Yz a2 fun a3 =>
 some [a3]
theorem gr_big:p_big.den (pick []) R [] [a0]=G_big a0:=(den2_of (by kernel_rfl)).trans (by kernel_rfl)
theorem g_big:F_big [a0]=G_big a0:=gr_big rounds a0
def G_i_copyNet:Option (List T) :=
 pv (.app true 4) [.l [],a1] fun a3 =>
 pv (.app true 4) [.l [],a2] fun a4 =>
 Yz a0 fun a5 =>
 some [a5,a3,a4]
theorem gr_i_copyNet:p_i_copyNet.den (pick []) R [] [a0,a1,a2]=G_i_copyNet a0 a1 a2:=(den2_of (by kernel_rfl)).trans (by kernel_rfl)
theorem g_i_copyNet:F_i_copyNet [a0,a1,a2]=G_i_copyNet a0 a1 a2:=gr_i_copyNet rounds a0 a1 a2
def G_i_in:Option (List T) :=
 Yh a0 a1 fun a3 =>
 ifT a3 (
 Ym a0 a2 fun a4 =>
 Yz a4 fun a5 =>
 some [a5]) (
 Yz (bb false) fun a4 =>
 some [a4])
theorem gr_i_in:p_i_in.den (pick []) R [] [a0,a1,a2]=G_i_in a0 a1 a2:=(den2_of (by kernel_rfl)).trans (by kernel_rfl)
theorem g_i_in:F_i_in [a0,a1,a2]=G_i_in a0 a1 a2:=gr_i_in rounds a0 a1 a2
def G_i_LinkOk:Option (List T) :=
 cl1 (f_i_in [a0,ii 1,ii 6]) fun a5 =>
 ifT a5 (
 cl1 (f_i_in [a1,ii 1,a0]) fun a6 =>
 ifT a6 (
 cl1 (f_i_in [a2,ii 1,a0]) fun a7 =>
 ifT a7 (
 Yl a1 a2 fun a8 =>
 ifT a8 (
 cl1 (f_i_in [a3,ii 1,ii 1000]) fun a9 =>
 ifT a9 (
 cl1 (f_i_in [a4,ii 0,ii 2]) fun a10 =>
 Yz a10 fun a11 =>
 some [a11]) (
 Yz (bb false) fun a10 =>
 some [a10])) (
 Yz (bb false) fun a9 =>
 some [a9])) (
 Yz (bb false) fun a8 =>
 some [a8])) (
 Yz (bb false) fun a7 =>
 some [a7])) (
 Yz (bb false) fun a6 =>
 some [a6])
theorem gr_i_LinkOk:p_i_LinkOk.den (pick [(33,f_i_in)]) R [] [a0,a1,a2,a3,a4]=G_i_LinkOk f_i_in a0 a1 a2 a3 a4:=(den2_of (by kernel_rfl)).trans (by kernel_rfl)
theorem g_i_LinkOk:F_i_LinkOk [a0,a1,a2,a3,a4]=G_i_LinkOk F_i_in a0 a1 a2 a3 a4:=gr_i_LinkOk rounds F_i_in a0 a1 a2 a3 a4
def G_i_ahead:Option (List T) :=
 Yu a0 a4 fun a8 =>
 ifT a8 (
 Yl a0 a4 fun a9 =>
 Yz a9 fun a10 =>
 some [a10]) (
 Yu a1 a5 fun a9 =>
 ifT a9 (
 Yl a1 a5 fun a10 =>
 Yz a10 fun a11 =>
 some [a11]) (
 Yl a3 a7 fun a10 =>
 Yz a10 fun a11 =>
 some [a11]))
theorem gr_i_ahead:p_i_ahead.den (pick []) R [] [a0,a1,a2,a3,a4,a5,a6,a7]=G_i_ahead a0 a1 a3 a4 a5 a7:=(den2_of (by kernel_rfl)).trans (by kernel_rfl)
theorem g_i_ahead:F_i_ahead [a0,a1,a2,a3,a4,a5,a6,a7]=G_i_ahead a0 a1 a3 a4 a5 a7:=gr_i_ahead rounds a0 a1 a2 a3 a4 a5 a6 a7
def G_i_less:Option (List T) :=
 Yl a1 a5 fun a8 =>
 ifT a8 (
 Yz (bb true) fun a9 =>
 some [a9]) (
 Ye a1 a5 fun a9 =>
 ifT a9 (
 Yl a0 a4 fun a10 =>
 Yz a10 fun a11 =>
 some [a11]) (
 Yz (bb false) fun a10 =>
 some [a10]))
theorem gr_i_less:p_i_less.den (pick []) R [] [a0,a1,a2,a3,a4,a5,a6,a7]=G_i_less a0 a1 a4 a5:=(den2_of (by kernel_rfl)).trans (by kernel_rfl)
theorem g_i_less:F_i_less [a0,a1,a2,a3,a4,a5,a6,a7]=G_i_less a0 a1 a4 a5:=gr_i_less rounds a0 a1 a2 a3 a4 a5 a6 a7
def G_i_NetOk_l0:Option (List T) :=
 (ar2 fun a14 a15 =>
 Yl a15 a13 fun a16 =>
 ifT a16 (
 Y4 a2 a15 fun a18 a19 a20 a21 =>
 cl1 (f_i_in [a19,ii 1,ii 9]) fun a22 =>
 Yt a22 fun a23 =>
 ifT a23 (
 Yz (bb false) fun a24 =>
 some [a24]) (
 cl1 (f_i_in [a18,ii 1,a0]) fun a24 =>
 Yt a24 fun a25 =>
 ifT a25 (
 Yz (bb false) fun a26 =>
 some [a26]) (
 cl1 (f_i_in [a20,ii 1,ii 1000]) fun a26 =>
 Yt a26 fun a27 =>
 ifT a27 (
 Yz (bb false) fun a28 =>
 some [a28]) (
 Yg a15 (ii 0) fun a28 =>
 ifT a28 (
 Ys a15 (ii 1) fun a29 =>
 Y4 a2 a29 fun a31 a32 a33 a34 =>
 cl1 (f_i_less [a31,a32,a33,a34,a18,a19,a20,a21]) fun a35 =>
 Yt a35 fun a36 =>
 ifT a36 (
 Yz (bb false) fun a37 =>
 some [a37]) (
 Ya a15 (ii 1) fun a37 =>
 k1 [a14,a37])) (
 Ya a15 (ii 1) fun a29 =>
 k1 [a14,a29]))))) (
 Yz (bb true) fun a17 =>
 some [a17])) ts
def G_i_NetOk_l1:Option (List T) :=
 (ar2 fun a10 a11 =>
 Yl a11 a9 fun a12 =>
 ifT a12 (
 Y4 a1 a11 fun a14 a15 a16 a17 =>
 cl1 (f_i_LinkOk [a0,a14,a15,a16,a17]) fun a18 =>
 Yt a18 fun a19 =>
 ifT a19 (
 Yz (bb false) fun a20 =>
 some [a20]) (
 Yg a11 (ii 0) fun a20 =>
 ifT a20 (
 Ys a11 (ii 1) fun a21 =>
 Y4 a1 a21 fun a23 a24 a25 a26 =>
 cl1 (f_i_ahead [a23,a24,a25,a26,a14,a15,a16,a17]) fun a27 =>
 Yt a27 fun a28 =>
 ifT a28 (
 Yz (bb false) fun a29 =>
 some [a29]) (
 Ya a11 (ii 1) fun a29 =>
 k0 [a10,a29])) (
 Ya a11 (ii 1) fun a21 =>
 k0 [a10,a21]))) (
 Yn a2 fun a13 =>
 iter (G_i_NetOk_l0 f_i_in f_i_less a0 a2 a13) R [a10,ii 0])) ts
def G_i_NetOk:Option (List T) :=
 cl1 (f_i_in [a0,ii 1,ii 6]) fun a3 =>
 Yt a3 fun a4 =>
 ifT a4 (
 Yz (bb false) fun a5 =>
 some [a5]) (
 Yn a1 fun a5 =>
 Yg a5 (ii 12) fun a6 =>
 ifT a6 (
 Yz (bb false) fun a7 =>
 some [a7]) (
 Yn a2 fun a7 =>
 Yg a7 (ii 4) fun a8 =>
 ifT a8 (
 Yz (bb false) fun a9 =>
 some [a9]) (
 Yn a1 fun a9 =>
 iter (G_i_NetOk_l1 R f_i_LinkOk f_i_ahead f_i_in f_i_less a0 a1 a2 a9) R [bb false,ii 0])))
theorem gr_i_NetOk:p_i_NetOk.den (pick [(33,f_i_in),(54,f_i_LinkOk),(55,f_i_ahead),(56,f_i_less)]) R [] [a0,a1,a2]=G_i_NetOk R f_i_LinkOk f_i_ahead f_i_in f_i_less a0 a1 a2:=(den2_of (by kernel_rfl)).trans (by kernel_rfl)
theorem g_i_NetOk:F_i_NetOk [a0,a1,a2]=G_i_NetOk rounds F_i_LinkOk F_i_ahead F_i_in F_i_less a0 a1 a2:=gr_i_NetOk rounds F_i_LinkOk F_i_ahead F_i_in F_i_less a0 a1 a2
def G_i_linkAt_l0:Option (List T) :=
 (ar2 fun a7 a8 =>
 Yl a8 a6 fun a9 =>
 ifT a9 (
 Y4 a1 a8 fun a11 a12 a13 a14 =>
 Ye a14 a5 fun a15 =>
 ifT a15 (
 Ye a11 a3 fun a16 =>
 ifT a16 (
 Ye a12 a4 fun a17 =>
 ifT a17 (
 Yz a8 fun a18 =>
 some [a18]) (
 Ye a11 a4 fun a18 =>
 ifT a18 (
 Ye a12 a3 fun a19 =>
 ifT a19 (
 Yz a8 fun a20 =>
 some [a20]) (
 Ya a8 (ii 1) fun a20 =>
 k0 [a7,a20])) (
 Ya a8 (ii 1) fun a19 =>
 k0 [a7,a19]))) (
 Ye a11 a4 fun a17 =>
 ifT a17 (
 Ye a12 a3 fun a18 =>
 ifT a18 (
 Yz a8 fun a19 =>
 some [a19]) (
 Ya a8 (ii 1) fun a19 =>
 k0 [a7,a19])) (
 Ya a8 (ii 1) fun a18 =>
 k0 [a7,a18]))) (
 Ya a8 (ii 1) fun a16 =>
 k0 [a7,a16])) (
 Yz (ii (-1)) fun a10 =>
 some [a10])) ts
def G_i_linkAt:Option (List T) :=
 Yn a1 fun a6 =>
 iter (G_i_linkAt_l0 a1 a3 a4 a5 a6) R [ii 0,ii 0]
theorem gr_i_linkAt:p_i_linkAt.den (pick []) R [] [a0,a1,a2,a3,a4,a5]=G_i_linkAt R a1 a3 a4 a5:=(den2_of (by kernel_rfl)).trans (by kernel_rfl)
theorem g_i_linkAt:F_i_linkAt [a0,a1,a2,a3,a4,a5]=G_i_linkAt rounds a1 a3 a4 a5:=gr_i_linkAt rounds a0 a1 a2 a3 a4 a5
def G_i_heardOk_l0:Option (List T) :=
 (ar2 fun a10 a11 =>
 Yn a5 fun a12 =>
 Yl a11 a12 fun a13 =>
 ifT a13 (
 Y1 a5 a11 fun a15 =>
 Ya a11 (ii 1) fun a16 =>
 Y1 a5 a16 fun a18 =>
 cl1 (f_i_linkAt [a2,a3,a4,a0,a15,a18]) fun a19 =>
 Yl a19 (ii 0) fun a20 =>
 ifT a20 (
 Yz (bb false) fun a21 =>
 some [a21]) (
 Yg a11 (ii 0) fun a21 =>
 ifT a21 (
 Ys a11 (ii 2) fun a22 =>
 Y1 a5 a22 fun a24 =>
 Yg a24 a15 fun a25 =>
 ifT a25 (
 Yz (bb false) fun a26 =>
 some [a26]) (
 Ys a11 (ii 2) fun a26 =>
 Y1 a5 a26 fun a28 =>
 Ye a28 a15 fun a29 =>
 ifT a29 (
 Ys a11 (ii 1) fun a30 =>
 Y1 a5 a30 fun a32 =>
 Yh a32 a18 fun a33 =>
 ifT a33 (
 Yz (bb false) fun a34 =>
 some [a34]) (
 Ya a11 (ii 2) fun a34 =>
 k0 [a10,a34])) (
 Ya a11 (ii 2) fun a30 =>
 k0 [a10,a30]))) (
 Ya a11 (ii 2) fun a22 =>
 k0 [a10,a22]))) (
 Yz (bb true) fun a14 =>
 some [a14])) ts
def G_i_heardOk:Option (List T) :=
 Yn a5 fun a7 =>
 pv (.bin .rem) [a7,ii 2] fun a8 =>
 Yu a8 (ii 0) fun a9 =>
 ifT a9 (
 Yz (bb false) fun a10 =>
 some [a10]) (
 iter (G_i_heardOk_l0 f_i_linkAt a0 a2 a3 a4 a5) R [bb false,ii 0])
theorem gr_i_heardOk:p_i_heardOk.den (pick [(40,f_i_linkAt)]) R [] [a0,a1,a2,a3,a4,a5,a6]=G_i_heardOk R f_i_linkAt a0 a2 a3 a4 a5:=(den2_of (by kernel_rfl)).trans (by kernel_rfl)
theorem g_i_heardOk:F_i_heardOk [a0,a1,a2,a3,a4,a5,a6]=G_i_heardOk rounds F_i_linkAt a0 a2 a3 a4 a5:=gr_i_heardOk rounds F_i_linkAt a0 a1 a2 a3 a4 a5 a6
def G_i_nearOk_l0:Option (List T) :=
 (ar2 fun a9 a10 =>
 Yl a10 a8 fun a11 =>
 ifT a11 (
 Y2 a5 a10 fun a13 a14 =>
 cl1 (f_i_in [a13,ii 1,ii 6]) fun a15 =>
 Yt a15 fun a16 =>
 ifT a16 (
 Yz (bb false) fun a17 =>
 some [a17]) (
 Ye a13 a2 fun a17 =>
 ifT a17 (
 Yz (bb false) fun a18 =>
 some [a18]) (
 cl1 (f_i_in [a14,ii 1,ii 1000]) fun a18 =>
 Yt a18 fun a19 =>
 ifT a19 (
 Yz (bb false) fun a20 =>
 some [a20]) (
 Yg a10 (ii 0) fun a20 =>
 ifT a20 (
 Ys a10 (ii 1) fun a21 =>
 Yb a5 a21 fun a22 =>
 Yc 2 0 a5 a21 fun a23 =>
 Yh a23 a13 fun a24 =>
 ifT a24 (
 Yz (bb false) fun a25 =>
 some [a25]) (
 Ya a10 (ii 1) fun a25 =>
 k0 [a9,a25])) (
 Ya a10 (ii 1) fun a21 =>
 k0 [a9,a21]))))) (
 Yz (bb true) fun a12 =>
 some [a12])) ts
def G_i_nearOk:Option (List T) :=
 Yn a5 fun a8 =>
 iter (G_i_nearOk_l0 f_i_in a2 a5 a8) R [bb false,ii 0]
theorem gr_i_nearOk:p_i_nearOk.den (pick [(33,f_i_in)]) R [] [a0,a1,a2,a3,a4,a5,a6,a7]=G_i_nearOk R f_i_in a2 a5:=(den2_of (by kernel_rfl)).trans (by kernel_rfl)
theorem g_i_nearOk:F_i_nearOk [a0,a1,a2,a3,a4,a5,a6,a7]=G_i_nearOk rounds F_i_in a2 a5:=gr_i_nearOk rounds F_i_in a0 a1 a2 a3 a4 a5 a6 a7
def G_i_RecordOk:Option (List T) :=
 cl1 (f_i_in [a2,ii 1,ii 6]) fun a8 =>
 Yt a8 fun a9 =>
 ifT a9 (
 Yz (bb false) fun a10 =>
 some [a10]) (
 cl1 (f_i_in [a4,ii 1,ii 100000]) fun a10 =>
 Yt a10 fun a11 =>
 ifT a11 (
 Yz (bb false) fun a12 =>
 some [a12]) (
 Ye a1 (ii 1) fun a12 =>
 ifT a12 (
 cl1 (f_i_in [a0,ii 0,ii 2]) fun a13 =>
 ifT a13 (
 Ye a3 (ii 0) fun a14 =>
 ifT a14 (
 cl1 (f_i_nearOk [a0,a1,a2,a3,a4,a5,a6,a7]) fun a15 =>
 ifT a15 (
 Ye a6 (ii 0) fun a16 =>
 ifT a16 (
 Yt a7 fun a17 =>
 Yz a17 fun a18 =>
 some [a18]) (
 Yz (bb false) fun a17 =>
 some [a17])) (
 Yz (bb false) fun a16 =>
 some [a16])) (
 Yz (bb false) fun a15 =>
 some [a15])) (
 Yz (bb false) fun a14 =>
 some [a14])) (
 Ye a1 (ii 2) fun a13 =>
 ifT a13 (
 cl1 (f_i_in [a0,ii 0,ii 2]) fun a14 =>
 ifT a14 (
 cl1 (f_i_in [a3,ii 1,ii 6]) fun a15 =>
 ifT a15 (
 Yn a5 fun a16 =>
 Ye a16 (ii 0) fun a17 =>
 ifT a17 (
 cl1 (f_i_in [a6,ii 0,ii 60000]) fun a18 =>
 ifT a18 (
 Yt a7 fun a19 =>
 Yz a19 fun a20 =>
 some [a20]) (
 Yz (bb false) fun a19 =>
 some [a19])) (
 Yz (bb false) fun a18 =>
 some [a18])) (
 Yz (bb false) fun a16 =>
 some [a16])) (
 Yz (bb false) fun a15 =>
 some [a15])) (
 Ye a1 (ii 3) fun a14 =>
 ifT a14 (
 Ye a0 (ii 9) fun a15 =>
 ifT a15 (
 cl1 (f_i_in [a3,ii 1,ii 9]) fun a16 =>
 ifT a16 (
 Yn a5 fun a17 =>
 Ye a17 (ii 0) fun a18 =>
 ifT a18 (
 cl1 (f_i_in [a6,ii 1,ii 1000]) fun a19 =>
 ifT a19 (
 Yz (bb true) fun a20 =>
 some [a20]) (
 Ye a6 (ii 60000) fun a20 =>
 Yz a20 fun a21 =>
 some [a21])) (
 Yz (bb false) fun a19 =>
 some [a19])) (
 Yz (bb false) fun a17 =>
 some [a17])) (
 Yz (bb false) fun a16 =>
 some [a16])) (
 Yz (bb false) fun a15 =>
 some [a15])))))
theorem gr_i_RecordOk:p_i_RecordOk.den (pick [(33,f_i_in),(71,f_i_nearOk)]) R [] [a0,a1,a2,a3,a4,a5,a6,a7]=G_i_RecordOk f_i_in f_i_nearOk a0 a1 a2 a3 a4 a5 a6 a7:=(den2_of (by kernel_rfl)).trans (by kernel_rfl)
theorem g_i_RecordOk:F_i_RecordOk [a0,a1,a2,a3,a4,a5,a6,a7]=G_i_RecordOk F_i_in F_i_nearOk a0 a1 a2 a3 a4 a5 a6 a7:=gr_i_RecordOk rounds F_i_in F_i_nearOk a0 a1 a2 a3 a4 a5 a6 a7
def G_i_Before:Option (List T) :=
 Yu a0 a8 fun a16 =>
 ifT a16 (
 Yl a0 a8 fun a17 =>
 Yz a17 fun a18 =>
 some [a18]) (
 Yu a1 a9 fun a17 =>
 ifT a17 (
 Yl a1 a9 fun a18 =>
 Yz a18 fun a19 =>
 some [a19]) (
 Yu a2 a10 fun a18 =>
 ifT a18 (
 Yl a2 a10 fun a19 =>
 Yz a19 fun a20 =>
 some [a20]) (
 Yl a3 a11 fun a19 =>
 Yz a19 fun a20 =>
 some [a20])))
theorem gr_i_Before:p_i_Before.den (pick []) R [] [a0,a1,a2,a3,a4,a5,a6,a7,a8,a9,a10,a11,a12,a13,a14,a15]=G_i_Before a0 a1 a2 a3 a8 a9 a10 a11:=(den2_of (by kernel_rfl)).trans (by kernel_rfl)
theorem g_i_Before:F_i_Before [a0,a1,a2,a3,a4,a5,a6,a7,a8,a9,a10,a11,a12,a13,a14,a15]=G_i_Before a0 a1 a2 a3 a8 a9 a10 a11:=gr_i_Before rounds a0 a1 a2 a3 a4 a5 a6 a7 a8 a9 a10 a11 a12 a13 a14 a15
def G_i_StoreOk_l0:Option (List T) :=
 (ar2 fun a2 a3 =>
 Yl a3 a1 fun a4 =>
 ifT a4 (
 Y8 a0 a3 fun a6 a7 a8 a9 a10 a11 a12 a13 =>
 cl1 (f_i_RecordOk [a6,a7,a8,a9,a10,a11,a12,a13]) fun a14 =>
 Yt a14 fun a15 =>
 ifT a15 (
 Yz (bb false) fun a16 =>
 some [a16]) (
 Yg a3 (ii 0) fun a16 =>
 ifT a16 (
 Ys a3 (ii 1) fun a17 =>
 Y8 a0 a17 fun a19 a20 a21 a22 a23 a24 a25 a26 =>
 cl1 (f_i_Before [a19,a20,a21,a22,a23,a24,a25,a26,a6,a7,a8,a9,a10,a11,a12,a13]) fun a27 =>
 Yt a27 fun a28 =>
 ifT a28 (
 Yz (bb false) fun a29 =>
 some [a29]) (
 Ya a3 (ii 1) fun a29 =>
 k0 [a2,a29])) (
 Ya a3 (ii 1) fun a17 =>
 k0 [a2,a17]))) (
 Yn a0 fun a5 =>
 Ym a5 (ii 150) fun a6 =>
 Yz a6 fun a7 =>
 some [a7])) ts
def G_i_StoreOk:Option (List T) :=
 Yn a0 fun a1 =>
 iter (G_i_StoreOk_l0 f_i_Before f_i_RecordOk a0 a1) R [bb false,ii 0]
theorem gr_i_StoreOk:p_i_StoreOk.den (pick [(57,f_i_RecordOk),(58,f_i_Before)]) R [] [a0]=G_i_StoreOk R f_i_Before f_i_RecordOk a0:=(den2_of (by kernel_rfl)).trans (by kernel_rfl)
theorem g_i_StoreOk:F_i_StoreOk [a0]=G_i_StoreOk rounds F_i_Before F_i_RecordOk a0:=gr_i_StoreOk rounds F_i_Before F_i_RecordOk a0
def G_i_SelfOk:Option (List T) :=
 cl1 (f_i_NetOk [a2,a3,a4]) fun a7 =>
 ifT a7 (
 cl1 (f_i_in [a0,ii 1,a2]) fun a8 =>
 ifT a8 (
 cl1 (f_i_in [a1,ii 0,ii 90]) fun a9 =>
 ifT a9 (
 cl1 (f_i_heardOk [a0,a1,a2,a3,a4,a5,a6]) fun a10 =>
 ifT a10 (
 cl1 (f_i_StoreOk [a6]) fun a11 =>
 Yz a11 fun a12 =>
 some [a12]) (
 Yz (bb false) fun a11 =>
 some [a11])) (
 Yz (bb false) fun a10 =>
 some [a10])) (
 Yz (bb false) fun a9 =>
 some [a9])) (
 Yz (bb false) fun a8 =>
 some [a8])
theorem gr_i_SelfOk:p_i_SelfOk.den (pick [(32,f_i_NetOk),(33,f_i_in),(34,f_i_heardOk),(35,f_i_StoreOk)]) R [] [a0,a1,a2,a3,a4,a5,a6]=G_i_SelfOk f_i_NetOk f_i_StoreOk f_i_heardOk f_i_in a0 a1 a2 a3 a4 a5 a6:=(den2_of (by kernel_rfl)).trans (by kernel_rfl)
theorem g_i_SelfOk:F_i_SelfOk [a0,a1,a2,a3,a4,a5,a6]=G_i_SelfOk F_i_NetOk F_i_StoreOk F_i_heardOk F_i_in a0 a1 a2 a3 a4 a5 a6:=gr_i_SelfOk rounds F_i_NetOk F_i_StoreOk F_i_heardOk F_i_in a0 a1 a2 a3 a4 a5 a6
def G_i_copyInts:Option (List T) :=
 Yp (.l []) a0 fun a1 =>
 some [a1]
theorem gr_i_copyInts:p_i_copyInts.den (pick []) R [] [a0]=G_i_copyInts a0:=(den2_of (by kernel_rfl)).trans (by kernel_rfl)
theorem g_i_copyInts:F_i_copyInts [a0]=G_i_copyInts a0:=gr_i_copyInts rounds a0
def G_i_copyRecord:Option (List T) :=
 pv (.app true 2) [.l [],a5] fun a8 =>
 Yz a7 fun a9 =>
 Yz a6 fun a10 =>
 Yz a4 fun a11 =>
 Yz a3 fun a12 =>
 Yz a2 fun a13 =>
 Yz a1 fun a14 =>
 Yz a0 fun a15 =>
 some [a15,a14,a13,a12,a11,a8,a10,a9]
theorem gr_i_copyRecord:p_i_copyRecord.den (pick []) R [] [a0,a1,a2,a3,a4,a5,a6,a7]=G_i_copyRecord a0 a1 a2 a3 a4 a5 a6 a7:=(den2_of (by kernel_rfl)).trans (by kernel_rfl)
theorem g_i_copyRecord:F_i_copyRecord [a0,a1,a2,a3,a4,a5,a6,a7]=G_i_copyRecord a0 a1 a2 a3 a4 a5 a6 a7:=gr_i_copyRecord rounds a0 a1 a2 a3 a4 a5 a6 a7
def G_i_copyRecords_l0:Option (List T) :=
 (ar2 fun a2 a3 =>
 Yl a3 a1 fun a4 =>
 ifT a4 (
 Y8 a0 a3 fun a6 a7 a8 a9 a10 a11 a12 a13 =>
 cl8 (f_i_copyRecord [a6,a7,a8,a9,a10,a11,a12,a13]) fun a14 a15 a16 a17 a18 a19 a20 a21 =>
 pv (.lit 8 [true,true,true,true,true,false,true,true]) [a14,a15,a16,a17,a18,a19,a20,a21] fun a22 =>
 Yy a2 a22 fun a23 =>
 Ya a3 (ii 1) fun a24 =>
 k0 [a23,a24]) (
 some [a2])) ts
def G_i_copyRecords:Option (List T) :=
 Yn a0 fun a1 =>
 iter (G_i_copyRecords_l0 f_i_copyRecord a0 a1) R [.l [],ii 0]
theorem gr_i_copyRecords:p_i_copyRecords.den (pick [(64,f_i_copyRecord)]) R [] [a0]=G_i_copyRecords R f_i_copyRecord a0:=(den2_of (by kernel_rfl)).trans (by kernel_rfl)
theorem g_i_copyRecords:F_i_copyRecords [a0]=G_i_copyRecords rounds F_i_copyRecord a0:=gr_i_copyRecords rounds F_i_copyRecord a0
def G_i_copySelf:Option (List T) :=
 cl3 (f_i_copyNet [a2,a3,a4]) fun a7 a8 a9 =>
 cl1 (f_i_copyInts [a5]) fun a10 =>
 cl1 (f_i_copyRecords [a6]) fun a11 =>
 Yz a7 fun a12 =>
 Yz a1 fun a13 =>
 Yz a0 fun a14 =>
 some [a14,a13,a12,a8,a9,a10,a11]
theorem gr_i_copySelf:p_i_copySelf.den (pick [(11,f_i_copyNet),(38,f_i_copyRecords),(42,f_i_copyInts)]) R [] [a0,a1,a2,a3,a4,a5,a6]=G_i_copySelf f_i_copyInts f_i_copyNet f_i_copyRecords a0 a1 a2 a3 a4 a5 a6:=(den2_of (by kernel_rfl)).trans (by kernel_rfl)
theorem g_i_copySelf:F_i_copySelf [a0,a1,a2,a3,a4,a5,a6]=G_i_copySelf F_i_copyInts F_i_copyNet F_i_copyRecords a0 a1 a2 a3 a4 a5 a6:=gr_i_copySelf rounds F_i_copyInts F_i_copyNet F_i_copyRecords a0 a1 a2 a3 a4 a5 a6
def G_i_AreasOf_l0:Option (List T) :=
 (ar1 fun a15 =>
 Yn a5 fun a16 =>
 Yl a15 a16 fun a17 =>
 ifT a17 (
 Yq a5 a15 fun a19 =>
 Yl a19 a12 fun a20 =>
 ifT a20 (
 Ya a15 (ii 1) fun a21 =>
 k2 [a21]) (
 Yn a5 fun a21 =>
 Yl a15 a21 fun a22 =>
 ifT a22 (
 Yq a5 a15 fun a24 =>
 Ye a24 a12 fun a25 =>
 ifT a25 (
 k1 [a5]) (
 Yw a5 a15 fun a26 =>
 cl1 (f_i_copyInts [a26]) fun a27 =>
 Yx a12 fun a28 =>
 Yp a27 a28 fun a29 =>
 Yv a5 a15 fun a30 =>
 Yp a29 a30 fun a31 =>
 k1 [a31])) (
 Yw a5 a15 fun a23 =>
 cl1 (f_i_copyInts [a23]) fun a24 =>
 Yx a12 fun a25 =>
 Yp a24 a25 fun a26 =>
 Yv a5 a15 fun a27 =>
 Yp a26 a27 fun a28 =>
 k1 [a28]))) (
 Yn a5 fun a18 =>
 Yl a15 a18 fun a19 =>
 ifT a19 (
 Yq a5 a15 fun a21 =>
 Ye a21 a12 fun a22 =>
 ifT a22 (
 k1 [a5]) (
 Yw a5 a15 fun a23 =>
 cl1 (f_i_copyInts [a23]) fun a24 =>
 Yx a12 fun a25 =>
 Yp a24 a25 fun a26 =>
 Yv a5 a15 fun a27 =>
 Yp a26 a27 fun a28 =>
 k1 [a28])) (
 Yw a5 a15 fun a20 =>
 cl1 (f_i_copyInts [a20]) fun a21 =>
 Yx a12 fun a22 =>
 Yp a21 a22 fun a23 =>
 Yv a5 a15 fun a24 =>
 Yp a23 a24 fun a25 =>
 k1 [a25]))) ts
def G_i_AreasOf_l1:Option (List T) :=
 (ar1 fun a14 =>
 Yn a5 fun a15 =>
 Yl a14 a15 fun a16 =>
 ifT a16 (
 Yq a5 a14 fun a18 =>
 Yl a18 a12 fun a19 =>
 ifT a19 (
 Ya a14 (ii 1) fun a20 =>
 k2 [a20]) (
 Yn a5 fun a20 =>
 Yl a14 a20 fun a21 =>
 ifT a21 (
 Yq a5 a14 fun a23 =>
 Ye a23 a12 fun a24 =>
 ifT a24 (
 k1 [a5]) (
 Yw a5 a14 fun a25 =>
 cl1 (f_i_copyInts [a25]) fun a26 =>
 Yx a12 fun a27 =>
 Yp a26 a27 fun a28 =>
 Yv a5 a14 fun a29 =>
 Yp a28 a29 fun a30 =>
 k1 [a30])) (
 Yw a5 a14 fun a22 =>
 cl1 (f_i_copyInts [a22]) fun a23 =>
 Yx a12 fun a24 =>
 Yp a23 a24 fun a25 =>
 Yv a5 a14 fun a26 =>
 Yp a25 a26 fun a27 =>
 k1 [a27]))) (
 Yn a5 fun a17 =>
 Yl a14 a17 fun a18 =>
 ifT a18 (
 Yq a5 a14 fun a20 =>
 Ye a20 a12 fun a21 =>
 ifT a21 (
 k1 [a5]) (
 Yw a5 a14 fun a22 =>
 cl1 (f_i_copyInts [a22]) fun a23 =>
 Yx a12 fun a24 =>
 Yp a23 a24 fun a25 =>
 Yv a5 a14 fun a26 =>
 Yp a25 a26 fun a27 =>
 k1 [a27])) (
 Yw a5 a14 fun a19 =>
 cl1 (f_i_copyInts [a19]) fun a20 =>
 Yx a12 fun a21 =>
 Yp a20 a21 fun a22 =>
 Yv a5 a14 fun a23 =>
 Yp a22 a23 fun a24 =>
 k1 [a24]))) ts
def G_i_AreasOf_l2:Option (List T) :=
 (ar2 fun a5 a6 =>
 Yl a6 a4 fun a7 =>
 ifT a7 (
 Y4 a1 a6 fun a9 a10 a11 a12 =>
 Ye a9 a3 fun a13 =>
 ifT a13 (
 jn (ar1 fun a14 =>
 Ya a6 (ii 1) fun a15 =>
 k0 [a14,a15]) fun k1 =>
 iter (G_i_AreasOf_l1 f_i_copyInts a5 a12 k1) R [ii 0]) (
 Ye a10 a3 fun a14 =>
 jn (ar1 fun a15 =>
 Ya a6 (ii 1) fun a16 =>
 k0 [a15,a16]) fun k1 =>
 ifT a14 (
 iter (G_i_AreasOf_l0 f_i_copyInts a5 a12 k1) R [ii 0]) (
 k1 [a5]))) (
 some [a5])) ts
def G_i_AreasOf:Option (List T) :=
 Yn a1 fun a4 =>
 iter (G_i_AreasOf_l2 R f_i_copyInts a1 a3 a4) R [.l [],ii 0]
theorem gr_i_AreasOf:p_i_AreasOf.den (pick [(42,f_i_copyInts)]) R [] [a0,a1,a2,a3]=G_i_AreasOf R f_i_copyInts a1 a3:=(den2_of (by kernel_rfl)).trans (by kernel_rfl)
theorem g_i_AreasOf:F_i_AreasOf [a0,a1,a2,a3]=G_i_AreasOf rounds F_i_copyInts a1 a3:=gr_i_AreasOf rounds F_i_copyInts a0 a1 a2 a3
def G_i_CostTo:Option (List T) :=
 cl1 (f_i_linkAt [a0,a1,a2,a3,a4,a5]) fun a6 =>
 Yh a6 (ii 0) fun a7 =>
 ifT a7 (
 Yb a1 a6 fun a8 =>
 Yc 4 2 a1 a6 fun a9 =>
 Yz a9 fun a10 =>
 some [a10]) (
 Yz (ii 0) fun a8 =>
 some [a8])
theorem gr_i_CostTo:p_i_CostTo.den (pick [(40,f_i_linkAt)]) R [] [a0,a1,a2,a3,a4,a5]=G_i_CostTo f_i_linkAt a0 a1 a2 a3 a4 a5:=(den2_of (by kernel_rfl)).trans (by kernel_rfl)
theorem g_i_CostTo:F_i_CostTo [a0,a1,a2,a3,a4,a5]=G_i_CostTo F_i_linkAt a0 a1 a2 a3 a4 a5:=gr_i_CostTo rounds F_i_linkAt a0 a1 a2 a3 a4 a5
def G_i_own_l0:Option (List T) :=
 (ar2 fun a14 a15 =>
 Yn a5 fun a16 =>
 Yl a14 a16 fun a17 =>
 ifT a17 (
 Ya a14 (ii 1) fun a18 =>
 Y1 a5 a18 fun a20 =>
 Ye a20 a13 fun a21 =>
 jn (ar1 fun a22 =>
 Ya a14 (ii 2) fun a23 =>
 k1 [a23,a22]) fun k2 =>
 ifT a21 (
 Y1 a5 a14 fun a23 =>
 Y1 a5 a14 fun a25 =>
 cl1 (f_i_CostTo [a2,a3,a4,a0,a25,a13]) fun a26 =>
 pv (.lit 2 [true,true]) [a23,a26] fun a27 =>
 pv (.app true 2) [a15,a27] fun a28 =>
 k2 [a28]) (
 k2 [a15])) (
 pv (.lit 8 [true,true,true,true,true,false,true,true]) [a13,ii 1,a0,ii 0,ii 0,a15,ii 0,bb false] fun a18 =>
 Yy a9 a18 fun a19 =>
 Ya a10 (ii 1) fun a20 =>
 k0 [a19,a20])) ts
def G_i_own_l1:Option (List T) :=
 (ar2 fun a9 a10 =>
 Yl a10 a8 fun a11 =>
 ifT a11 (
 Yq a7 a10 fun a13 =>
 iter (G_i_own_l0 f_i_CostTo a0 a2 a3 a4 a5 a9 a10 a13 k0) R [ii 0,.l []]) (
 some [a9])) ts
def G_i_own:Option (List T) :=
 cl1 (f_i_AreasOf [a2,a3,a4,a0]) fun a7 =>
 Yn a7 fun a8 =>
 iter (G_i_own_l1 R f_i_CostTo a0 a2 a3 a4 a5 a7 a8) R [.l [],ii 0]
theorem gr_i_own:p_i_own.den (pick [(29,f_i_AreasOf),(77,f_i_CostTo)]) R [] [a0,a1,a2,a3,a4,a5,a6]=G_i_own R f_i_AreasOf f_i_CostTo a0 a2 a3 a4 a5:=(den2_of (by kernel_rfl)).trans (by kernel_rfl)
theorem g_i_own:F_i_own [a0,a1,a2,a3,a4,a5,a6]=G_i_own rounds F_i_AreasOf F_i_CostTo a0 a2 a3 a4 a5:=gr_i_own rounds F_i_AreasOf F_i_CostTo a0 a1 a2 a3 a4 a5 a6
def G_i_SameKey:Option (List T) :=
 Ye a0 a8 fun a16 =>
 ifT a16 (
 Ye a1 a9 fun a17 =>
 ifT a17 (
 Ye a2 a10 fun a18 =>
 ifT a18 (
 Ye a3 a11 fun a19 =>
 Yz a19 fun a20 =>
 some [a20]) (
 Yz (bb false) fun a19 =>
 some [a19])) (
 Yz (bb false) fun a18 =>
 some [a18])) (
 Yz (bb false) fun a17 =>
 some [a17])
theorem gr_i_SameKey:p_i_SameKey.den (pick []) R [] [a0,a1,a2,a3,a4,a5,a6,a7,a8,a9,a10,a11,a12,a13,a14,a15]=G_i_SameKey a0 a1 a2 a3 a8 a9 a10 a11:=(den2_of (by kernel_rfl)).trans (by kernel_rfl)
theorem g_i_SameKey:F_i_SameKey [a0,a1,a2,a3,a4,a5,a6,a7,a8,a9,a10,a11,a12,a13,a14,a15]=G_i_SameKey a0 a1 a2 a3 a8 a9 a10 a11:=gr_i_SameKey rounds a0 a1 a2 a3 a4 a5 a6 a7 a8 a9 a10 a11 a12 a13 a14 a15
def G_i_put_l0:Option (List T) :=
 (ar1 fun a9 =>
 Yn a0 fun a10 =>
 Yl a9 a10 fun a11 =>
 ifT a11 (
 Y8 a0 a9 fun a13 a14 a15 a16 a17 a18 a19 a20 =>
 cl1 (f_i_Before [a13,a14,a15,a16,a17,a18,a19,a20,a1,a2,a3,a4,a5,a6,a7,a8]) fun a21 =>
 ifT a21 (
 Ya a9 (ii 1) fun a22 =>
 k0 [a22]) (
 pv (.sub 8 false true) [a0,a9] fun a22 =>
 cl1 (f_i_copyRecords [a22]) fun a23 =>
 cl8 (f_i_copyRecord [a1,a2,a3,a4,a5,a6,a7,a8]) fun a24 a25 a26 a27 a28 a29 a30 a31 =>
 pv (.lit 8 [true,true,true,true,true,false,true,true]) [a24,a25,a26,a27,a28,a29,a30,a31] fun a32 =>
 Yy a23 a32 fun a33 =>
 Yn a0 fun a34 =>
 Yl a9 a34 fun a35 =>
 ifT a35 (
 Y8 a0 a9 fun a37 a38 a39 a40 a41 a42 a43 a44 =>
 cl1 (f_i_SameKey [a37,a38,a39,a40,a41,a42,a43,a44,a1,a2,a3,a4,a5,a6,a7,a8]) fun a45 =>
 jn (ar1 fun a46 =>
 pv (.sub 8 true false) [a0,a46] fun a47 =>
 cl1 (f_i_copyRecords [a47]) fun a48 =>
 Yy a33 a48 fun a49 =>
 some [a49]) fun k1 =>
 ifT a45 (
 Ya a9 (ii 1) fun a46 =>
 k1 [a46]) (
 k1 [a9])) (
 jn (ar1 fun a36 =>
 pv (.sub 8 true false) [a0,a36] fun a37 =>
 cl1 (f_i_copyRecords [a37]) fun a38 =>
 Yy a33 a38 fun a39 =>
 some [a39]) fun k1 =>
 k1 [a9]))) (
 pv (.sub 8 false true) [a0,a9] fun a12 =>
 cl1 (f_i_copyRecords [a12]) fun a13 =>
 cl8 (f_i_copyRecord [a1,a2,a3,a4,a5,a6,a7,a8]) fun a14 a15 a16 a17 a18 a19 a20 a21 =>
 pv (.lit 8 [true,true,true,true,true,false,true,true]) [a14,a15,a16,a17,a18,a19,a20,a21] fun a22 =>
 Yy a13 a22 fun a23 =>
 Yn a0 fun a24 =>
 Yl a9 a24 fun a25 =>
 ifT a25 (
 Y8 a0 a9 fun a27 a28 a29 a30 a31 a32 a33 a34 =>
 cl1 (f_i_SameKey [a27,a28,a29,a30,a31,a32,a33,a34,a1,a2,a3,a4,a5,a6,a7,a8]) fun a35 =>
 jn (ar1 fun a36 =>
 pv (.sub 8 true false) [a0,a36] fun a37 =>
 cl1 (f_i_copyRecords [a37]) fun a38 =>
 Yy a23 a38 fun a39 =>
 some [a39]) fun k1 =>
 ifT a35 (
 Ya a9 (ii 1) fun a36 =>
 k1 [a36]) (
 k1 [a9])) (
 jn (ar1 fun a26 =>
 pv (.sub 8 true false) [a0,a26] fun a27 =>
 cl1 (f_i_copyRecords [a27]) fun a28 =>
 Yy a23 a28 fun a29 =>
 some [a29]) fun k1 =>
 k1 [a9]))) ts
def G_i_put:Option (List T) :=
 iter (G_i_put_l0 f_i_Before f_i_SameKey f_i_copyRecord f_i_copyRecords a0 a1 a2 a3 a4 a5 a6 a7 a8) R [ii 0]
theorem gr_i_put:p_i_put.den (pick [(38,f_i_copyRecords),(58,f_i_Before),(64,f_i_copyRecord),(65,f_i_SameKey)]) R [] [a0,a1,a2,a3,a4,a5,a6,a7,a8]=G_i_put R f_i_Before f_i_SameKey f_i_copyRecord f_i_copyRecords a0 a1 a2 a3 a4 a5 a6 a7 a8:=(den2_of (by kernel_rfl)).trans (by kernel_rfl)
theorem g_i_put:F_i_put [a0,a1,a2,a3,a4,a5,a6,a7,a8]=G_i_put rounds F_i_Before F_i_SameKey F_i_copyRecord F_i_copyRecords a0 a1 a2 a3 a4 a5 a6 a7 a8:=gr_i_put rounds F_i_Before F_i_SameKey F_i_copyRecord F_i_copyRecords a0 a1 a2 a3 a4 a5 a6 a7 a8
def G_i_hasInt_l0:Option (List T) :=
 (ar2 fun a3 a4 =>
 Yl a4 a2 fun a5 =>
 ifT a5 (
 Y1 a0 a4 fun a7 =>
 Ye a7 a1 fun a8 =>
 ifT a8 (
 Yz (bb true) fun a9 =>
 some [a9]) (
 Ya a4 (ii 1) fun a9 =>
 k0 [a3,a9])) (
 Yz (bb false) fun a6 =>
 some [a6])) ts
def G_i_hasInt:Option (List T) :=
 Yn a0 fun a2 =>
 iter (G_i_hasInt_l0 a0 a1 a2) R [bb false,ii 0]
theorem gr_i_hasInt:p_i_hasInt.den (pick []) R [] [a0,a1]=G_i_hasInt R a0 a1:=(den2_of (by kernel_rfl)).trans (by kernel_rfl)
theorem g_i_hasInt:F_i_hasInt [a0,a1]=G_i_hasInt rounds a0 a1:=gr_i_hasInt rounds a0 a1
def G_i_Border:Option (List T) :=
 cl1 (f_i_AreasOf [a0,a1,a2,a3]) fun a4 =>
 cl1 (f_i_hasInt [a4,ii 0]) fun a5 =>
 ifT a5 (
 Yn a4 fun a6 =>
 Yg a6 (ii 1) fun a7 =>
 Yz a7 fun a8 =>
 some [a8]) (
 Yz (bb false) fun a6 =>
 some [a6])
theorem gr_i_Border:p_i_Border.den (pick [(29,f_i_AreasOf),(47,f_i_hasInt)]) R [] [a0,a1,a2,a3]=G_i_Border f_i_AreasOf f_i_hasInt a0 a1 a2 a3:=(den2_of (by kernel_rfl)).trans (by kernel_rfl)
theorem g_i_Border:F_i_Border [a0,a1,a2,a3]=G_i_Border F_i_AreasOf F_i_hasInt a0 a1 a2 a3:=gr_i_Border rounds F_i_AreasOf F_i_hasInt a0 a1 a2 a3
def G_i_by_l0:Option (List T) :=
 (ar2 fun a8 a9 =>
 Yl a9 a7 fun a10 =>
 ifT a10 (
 Y8 a2 a9 fun a12 a13 a14 a15 a16 a17 a18 a19 =>
 cl1 (f_i_put [a8,a12,a13,a14,a15,ii 1,a17,a18,a19]) fun a20 =>
 Ya a9 (ii 1) fun a21 =>
 k1 [a20,a21]) (
 some [a8])) ts
def G_i_by_l1:Option (List T) :=
 (ar2 fun a4 a5 =>
 Yl a5 a3 fun a6 =>
 ifT a6 (
 Y8 a0 a5 fun a8 a9 a10 a11 a12 a13 a14 a15 =>
 Yu a9 (ii 1) fun a16 =>
 ifT a16 (
 jn (ar1 fun a17 =>
 Ya a5 (ii 1) fun a18 =>
 k0 [a17,a18]) fun k1 =>
 pv (.lit 8 []) [a8,a9,a10,a11,a12,a13,a14,a15] fun a17 =>
 Yy a4 a17 fun a18 =>
 k1 [a18]) (
 Yu a10 a1 fun a17 =>
 jn (ar1 fun a18 =>
 Ya a5 (ii 1) fun a19 =>
 k0 [a18,a19]) fun k1 =>
 ifT a17 (
 pv (.lit 8 []) [a8,a9,a10,a11,a12,a13,a14,a15] fun a18 =>
 Yy a4 a18 fun a19 =>
 k1 [a19]) (
 k1 [a4]))) (
 Yn a2 fun a7 =>
 iter (G_i_by_l0 f_i_put a2 a7) R [a4,ii 0])) ts
def G_i_by:Option (List T) :=
 Yn a0 fun a3 =>
 iter (G_i_by_l1 R f_i_put a0 a1 a2 a3) R [.l [],ii 0]
theorem gr_i_by:p_i_by.den (pick [(39,f_i_put)]) R [] [a0,a1,a2]=G_i_by R f_i_put a0 a1 a2:=(den2_of (by kernel_rfl)).trans (by kernel_rfl)
theorem g_i_by:F_i_by [a0,a1,a2]=G_i_by rounds F_i_put a0 a1 a2:=gr_i_by rounds F_i_put a0 a1 a2
def G_i_keyAt_l0:Option (List T) :=
 (ar2 fun a10 a11 =>
 Yl a11 a9 fun a12 =>
 ifT a12 (
 Y8 a0 a11 fun a14 a15 a16 a17 a18 a19 a20 a21 =>
 cl1 (f_i_SameKey [a14,a15,a16,a17,a18,a19,a20,a21,a1,a2,a3,a4,a5,a6,a7,a8]) fun a22 =>
 ifT a22 (
 Yz a11 fun a23 =>
 some [a23]) (
 Ya a11 (ii 1) fun a23 =>
 k0 [a10,a23])) (
 Yz (ii (-1)) fun a13 =>
 some [a13])) ts
def G_i_keyAt:Option (List T) :=
 Yn a0 fun a9 =>
 iter (G_i_keyAt_l0 f_i_SameKey a0 a1 a2 a3 a4 a5 a6 a7 a8 a9) R [ii 0,ii 0]
theorem gr_i_keyAt:p_i_keyAt.den (pick [(65,f_i_SameKey)]) R [] [a0,a1,a2,a3,a4,a5,a6,a7,a8]=G_i_keyAt R f_i_SameKey a0 a1 a2 a3 a4 a5 a6 a7 a8:=(den2_of (by kernel_rfl)).trans (by kernel_rfl)
theorem g_i_keyAt:F_i_keyAt [a0,a1,a2,a3,a4,a5,a6,a7,a8]=G_i_keyAt rounds F_i_SameKey a0 a1 a2 a3 a4 a5 a6 a7 a8:=gr_i_keyAt rounds F_i_SameKey a0 a1 a2 a3 a4 a5 a6 a7 a8
def G_i_told_l0:Option (List T) :=
 (ar2 fun a9 a10 =>
 Yl a10 a8 fun a11 =>
 ifT a11 (
 Y2 a7 a10 fun a13 a14 =>
 Ye a13 a3 fun a15 =>
 ifT a15 (
 Yz a14 fun a16 =>
 some [a16]) (
 Ya a10 (ii 1) fun a16 =>
 k0 [a9,a16])) (
 Yz (ii 0) fun a12 =>
 some [a12])) ts
def G_i_told:Option (List T) :=
 cl1 (f_i_keyAt [a0,a1,ii 1,a2,ii 0,ii 0,.l [],ii 0,bb false]) fun a4 =>
 Yl a4 (ii 0) fun a5 =>
 ifT a5 (
 Yz (ii 0) fun a6 =>
 some [a6]) (
 Yb a0 a4 fun a6 =>
 Yc 8 5 a0 a4 fun a7 =>
 Yn a7 fun a8 =>
 iter (G_i_told_l0 a3 a7 a8) R [ii 0,ii 0])
theorem gr_i_told:p_i_told.den (pick [(60,f_i_keyAt)]) R [] [a0,a1,a2,a3]=G_i_told R f_i_keyAt a0 a1 a2 a3:=(den2_of (by kernel_rfl)).trans (by kernel_rfl)
theorem g_i_told:F_i_told [a0,a1,a2,a3]=G_i_told rounds F_i_keyAt a0 a1 a2 a3:=gr_i_told rounds F_i_keyAt a0 a1 a2 a3
def G_i_Linked:Option (List T) :=
 cl1 (f_i_told [a0,a1,a3,a2]) fun a4 =>
 Ye a4 (ii 0) fun a5 =>
 ifT a5 (
 Yz (ii 0) fun a6 =>
 some [a6]) (
 cl1 (f_i_told [a0,a1,a2,a3]) fun a6 =>
 Yz a6 fun a7 =>
 some [a7])
theorem gr_i_Linked:p_i_Linked.den (pick [(80,f_i_told)]) R [] [a0,a1,a2,a3]=G_i_Linked f_i_told a0 a1 a2 a3:=(den2_of (by kernel_rfl)).trans (by kernel_rfl)
theorem g_i_Linked:F_i_Linked [a0,a1,a2,a3]=G_i_Linked F_i_told a0 a1 a2 a3:=gr_i_Linked rounds F_i_told a0 a1 a2 a3
def G_i_copyWay:Option (List T) :=
 cl1 (f_i_copyInts [a2]) fun a3 =>
 Yz a1 fun a4 =>
 Yz a0 fun a5 =>
 some [a5,a4,a3]
theorem gr_i_copyWay:p_i_copyWay.den (pick [(42,f_i_copyInts)]) R [] [a0,a1,a2]=G_i_copyWay f_i_copyInts a0 a1 a2:=(den2_of (by kernel_rfl)).trans (by kernel_rfl)
theorem g_i_copyWay:F_i_copyWay [a0,a1,a2]=G_i_copyWay F_i_copyInts a0 a1 a2:=gr_i_copyWay rounds F_i_copyInts a0 a1 a2
def G_i_Together_l0:Option (List T) :=
 (ar1 fun a18 =>
 Yn a14 fun a19 =>
 Yl a18 a19 fun a20 =>
 ifT a20 (
 Yq a14 a18 fun a22 =>
 Yl a22 a17 fun a23 =>
 ifT a23 (
 Ya a18 (ii 1) fun a24 =>
 k2 [a24]) (
 Yn a14 fun a24 =>
 Yl a18 a24 fun a25 =>
 ifT a25 (
 Yq a14 a18 fun a27 =>
 Ye a27 a17 fun a28 =>
 ifT a28 (
 Ya a13 (ii 1) fun a29 =>
 k1 [a29,a14]) (
 Yw a14 a18 fun a29 =>
 cl1 (f_i_copyInts [a29]) fun a30 =>
 Yx a17 fun a31 =>
 Yp a30 a31 fun a32 =>
 Yv a14 a18 fun a33 =>
 Yp a32 a33 fun a34 =>
 Ya a13 (ii 1) fun a35 =>
 k1 [a35,a34])) (
 Yw a14 a18 fun a26 =>
 cl1 (f_i_copyInts [a26]) fun a27 =>
 Yx a17 fun a28 =>
 Yp a27 a28 fun a29 =>
 Yv a14 a18 fun a30 =>
 Yp a29 a30 fun a31 =>
 Ya a13 (ii 1) fun a32 =>
 k1 [a32,a31]))) (
 Yn a14 fun a21 =>
 Yl a18 a21 fun a22 =>
 ifT a22 (
 Yq a14 a18 fun a24 =>
 Ye a24 a17 fun a25 =>
 ifT a25 (
 Ya a13 (ii 1) fun a26 =>
 k1 [a26,a14]) (
 Yw a14 a18 fun a26 =>
 cl1 (f_i_copyInts [a26]) fun a27 =>
 Yx a17 fun a28 =>
 Yp a27 a28 fun a29 =>
 Yv a14 a18 fun a30 =>
 Yp a29 a30 fun a31 =>
 Ya a13 (ii 1) fun a32 =>
 k1 [a32,a31])) (
 Yw a14 a18 fun a23 =>
 cl1 (f_i_copyInts [a23]) fun a24 =>
 Yx a17 fun a25 =>
 Yp a24 a25 fun a26 =>
 Yv a14 a18 fun a27 =>
 Yp a26 a27 fun a28 =>
 Ya a13 (ii 1) fun a29 =>
 k1 [a29,a28]))) ts
def G_i_Together_l1:Option (List T) :=
 (ar2 fun a13 a14 =>
 Yl a13 a12 fun a15 =>
 ifT a15 (
 Y1 a5 a13 fun a17 =>
 iter (G_i_Together_l0 f_i_copyInts a13 a14 a17 k1) R [ii 0]) (
 Yz a1 fun a16 =>
 Yz a0 fun a17 =>
 some [a17,a16,a14])) ts
def G_i_Together_l2:Option (List T) :=
 (ar1 fun a14 =>
 Yn a10 fun a15 =>
 Yl a14 a15 fun a16 =>
 ifT a16 (
 Yq a10 a14 fun a18 =>
 Yl a18 a13 fun a19 =>
 ifT a19 (
 Ya a14 (ii 1) fun a20 =>
 k1 [a20]) (
 Yn a10 fun a20 =>
 Yl a14 a20 fun a21 =>
 ifT a21 (
 Yq a10 a14 fun a23 =>
 Ye a23 a13 fun a24 =>
 ifT a24 (
 Ya a9 (ii 1) fun a25 =>
 k0 [a25,a10]) (
 Yw a10 a14 fun a25 =>
 cl1 (f_i_copyInts [a25]) fun a26 =>
 Yx a13 fun a27 =>
 Yp a26 a27 fun a28 =>
 Yv a10 a14 fun a29 =>
 Yp a28 a29 fun a30 =>
 Ya a9 (ii 1) fun a31 =>
 k0 [a31,a30])) (
 Yw a10 a14 fun a22 =>
 cl1 (f_i_copyInts [a22]) fun a23 =>
 Yx a13 fun a24 =>
 Yp a23 a24 fun a25 =>
 Yv a10 a14 fun a26 =>
 Yp a25 a26 fun a27 =>
 Ya a9 (ii 1) fun a28 =>
 k0 [a28,a27]))) (
 Yn a10 fun a17 =>
 Yl a14 a17 fun a18 =>
 ifT a18 (
 Yq a10 a14 fun a20 =>
 Ye a20 a13 fun a21 =>
 ifT a21 (
 Ya a9 (ii 1) fun a22 =>
 k0 [a22,a10]) (
 Yw a10 a14 fun a22 =>
 cl1 (f_i_copyInts [a22]) fun a23 =>
 Yx a13 fun a24 =>
 Yp a23 a24 fun a25 =>
 Yv a10 a14 fun a26 =>
 Yp a25 a26 fun a27 =>
 Ya a9 (ii 1) fun a28 =>
 k0 [a28,a27])) (
 Yw a10 a14 fun a19 =>
 cl1 (f_i_copyInts [a19]) fun a20 =>
 Yx a13 fun a21 =>
 Yp a20 a21 fun a22 =>
 Yv a10 a14 fun a23 =>
 Yp a22 a23 fun a24 =>
 Ya a9 (ii 1) fun a25 =>
 k0 [a25,a24]))) ts
def G_i_Together_l3:Option (List T) :=
 (ar2 fun a9 a10 =>
 Yl a9 a8 fun a11 =>
 ifT a11 (
 Y1 a2 a9 fun a13 =>
 iter (G_i_Together_l2 f_i_copyInts a9 a10 a13 k0) R [ii 0]) (
 Yn a5 fun a12 =>
 iter (G_i_Together_l1 R f_i_copyInts a0 a1 a5 a12) R [ii 0,a10])) ts
def G_i_Together:Option (List T) :=
 Yg a4 a1 fun a6 =>
 ifT a6 (
 cl3 (f_i_copyWay [a0,a1,a2]) fun a7 a8 a9 =>
 Yz a8 fun a10 =>
 Yz a7 fun a11 =>
 some [a11,a10,a9]) (
 Yg a1 a4 fun a7 =>
 ifT a7 (
 cl3 (f_i_copyWay [a3,a4,a5]) fun a8 a9 a10 =>
 Yz a9 fun a11 =>
 Yz a8 fun a12 =>
 some [a12,a11,a10]) (
 Yn a2 fun a8 =>
 iter (G_i_Together_l3 R f_i_copyInts a0 a1 a2 a5 a8) R [ii 0,.l []]))
theorem gr_i_Together:p_i_Together.den (pick [(42,f_i_copyInts),(76,f_i_copyWay)]) R [] [a0,a1,a2,a3,a4,a5]=G_i_Together R f_i_copyInts f_i_copyWay a0 a1 a2 a3 a4 a5:=(den2_of (by kernel_rfl)).trans (by kernel_rfl)
theorem g_i_Together:F_i_Together [a0,a1,a2,a3,a4,a5]=G_i_Together rounds F_i_copyInts F_i_copyWay a0 a1 a2 a3 a4 a5:=gr_i_Together rounds F_i_copyInts F_i_copyWay a0 a1 a2 a3 a4 a5
def G_i_WaysIn_l0:Option (List T) :=
 (ar2 fun a20 a21 =>
 Ym a20 (ii 6) fun a22 =>
 ifT a22 (
 cl1 (f_i_Linked [a0,a1,a14,a20]) fun a23 =>
 Ye a23 (ii 0) fun a24 =>
 ifT a24 (
 Ya a20 (ii 1) fun a25 =>
 k2 [a25,a21]) (
 Ye a20 a2 fun a25 =>
 ifT a25 (
 Ya a20 (ii 1) fun a26 =>
 k2 [a26,a21]) (
 Yb a21 a14 fun a26 =>
 pv (.scell 3 1) [a21,a14] fun a27 =>
 Ya a27 a23 fun a28 =>
 Yb a21 a14 fun a29 =>
 Yc 3 2 a21 a14 fun a30 =>
 cl1 (f_i_copyInts [a30]) fun a31 =>
 Ye a14 a2 fun a32 =>
 jn (ar1 fun a33 =>
 Y3 a21 a20 fun a35 a36 a37 =>
 Ye a35 (ii 0) fun a38 =>
 ifT a38 (
 jn (ar1 fun a39 =>
 Ya a20 (ii 1) fun a40 =>
 k2 [a40,a39]) fun k3 =>
 Yb a21 a20 fun a39 =>
 pv (.putD [true,true,false] 3 0) [a21,a20,a20,a28,a33] fun a40 =>
 k3 [a40]) (
 Yl a28 a36 fun a39 =>
 jn (ar1 fun a40 =>
 Ya a20 (ii 1) fun a41 =>
 k2 [a41,a40]) fun k3 =>
 ifT a39 (
 Yb a21 a20 fun a40 =>
 pv (.putD [true,true,false] 3 0) [a21,a20,a20,a28,a33] fun a41 =>
 k3 [a41]) (
 Ye a28 a36 fun a40 =>
 jn (ar1 fun a41 =>
 k3 [a41]) fun k4 =>
 ifT a40 (
 cl3 (f_i_Together [a35,a36,a37,a20,a28,a33]) fun a41 a42 a43 =>
 Yb a21 a20 fun a44 =>
 pv (.putD [true,true,false] 3 0) [a21,a20,a41,a42,a43] fun a45 =>
 k4 [a45]) (
 k4 [a21])))) fun k3 =>
 ifT a32 (
 Yx a20 fun a33 =>
 k3 [a33]) (
 k3 [a31])))) (
 k0 [a19,a21])) ts
def G_i_WaysIn_l1:Option (List T) :=
 (ar3 fun a19 a20 a21 =>
 Yl a20 a18 fun a22 =>
 ifT a22 (
 Yb a13 a20 fun a23 =>
 pv (.scell 3 0) [a13,a20] fun a24 =>
 pv (.scell 3 1) [a13,a20] fun a25 =>
 pv (.dig 3 2) [a13,a20] fun a26 =>
 pv (.tk1) [a21,a20] fun a27 =>
 Yu a24 (ii 0) fun a28 =>
 jn (ar1 fun a29 =>
 Ya a20 (ii 1) fun a30 =>
 k2 [a29,a30,a27]) fun k3 =>
 ifT a28 (
 pv (.lit 3 [true,true,false]) [a24,a25,a26] fun a29 =>
 Yo a19 a29 fun a30 =>
 k3 [a30]) (
 k3 [a19])) (
 some [a19])) ts
def G_i_WaysIn_l2:Option (List T) :=
 (ar2 fun a14 a15 =>
 Ym a15 (ii 6) fun a16 =>
 ifT a16 (
 Yb a13 a15 fun a17 =>
 pv (.scell 3 0) [a13,a15] fun a18 =>
 Yu a18 (ii 0) fun a19 =>
 ifT a19 (
 cl1 (f_i_hasInt [a12,a15]) fun a20 =>
 Yt a20 fun a21 =>
 ifT a21 (
 Ye a14 (ii 0) fun a22 =>
 ifT a22 (
 jn (ar1 fun a23 =>
 Ya a15 (ii 1) fun a24 =>
 k1 [a23,a24]) fun k2 =>
 k2 [a15]) (
 Yb a13 a15 fun a23 =>
 pv (.scell 3 1) [a13,a15] fun a24 =>
 Yb a13 a14 fun a25 =>
 pv (.scell 3 1) [a13,a14] fun a26 =>
 Yl a24 a26 fun a27 =>
 jn (ar1 fun a28 =>
 Ya a15 (ii 1) fun a29 =>
 k1 [a28,a29]) fun k2 =>
 ifT a27 (
 k2 [a15]) (
 k2 [a14]))) (
 jn (ar1 fun a22 =>
 Ya a15 (ii 1) fun a23 =>
 k1 [a22,a23]) fun k2 =>
 k2 [a14])) (
 jn (ar1 fun a20 =>
 Ya a15 (ii 1) fun a21 =>
 k1 [a20,a21]) fun k2 =>
 k2 [a14])) (
 Ye a14 (ii 0) fun a17 =>
 ifT a17 (
 Yn a13 fun a18 =>
 iter (G_i_WaysIn_l1 a13 a18) R [.l [],ii 0,a13]) (
 Yx a14 fun a18 =>
 Yp a12 a18 fun a19 =>
 iter (G_i_WaysIn_l0 f_i_Linked f_i_Together f_i_copyInts a0 a1 a2 a14 a19 k0) R [ii 1,a13]))) ts
def G_i_WaysIn_l3:Option (List T) :=
 (ar2 fun a12 a13 =>
 iter (G_i_WaysIn_l2 R f_i_Linked f_i_Together f_i_copyInts f_i_hasInt a0 a1 a2 a12 a13 k0) R [ii 0,ii 1]) ts
def G_i_WaysIn:Option (List T) :=
 cl1 (f_i_StoreOk [a0]) fun a3 =>
 Yt a3 fun a4 =>
 ifT a4 (
 some [.l []]) (
 cl1 (f_i_in [a2,ii 1,ii 6]) fun a5 =>
 Yt a5 fun a6 =>
 ifT a6 (
 some [.l []]) (
 cl1 (f_i_keyAt [a0,a1,ii 1,a2,ii 0,ii 0,.l [],ii 0,bb false]) fun a7 =>
 Yl a7 (ii 0) fun a8 =>
 ifT a8 (
 some [.l []]) (
 pv (.mk) [ii 7,ii 7,ii 0,ii 0,.l []] fun a9 =>
 Yb a9 a2 fun a10 =>
 pv (.put true 3 0 1) [a9,a2,a2] fun a11 =>
 iter (G_i_WaysIn_l3 R f_i_Linked f_i_Together f_i_copyInts f_i_hasInt a0 a1 a2) R [.l [],a11])))
theorem gr_i_WaysIn:p_i_WaysIn.den (pick [(33,f_i_in),(35,f_i_StoreOk),(42,f_i_copyInts),(47,f_i_hasInt),(60,f_i_keyAt),(70,f_i_Together),(79,f_i_Linked)]) R [] [a0,a1,a2]=G_i_WaysIn R f_i_Linked f_i_StoreOk f_i_Together f_i_copyInts f_i_hasInt f_i_in f_i_keyAt a0 a1 a2:=(den2_of (by kernel_rfl)).trans (by kernel_rfl)
theorem g_i_WaysIn:F_i_WaysIn [a0,a1,a2]=G_i_WaysIn rounds F_i_Linked F_i_StoreOk F_i_Together F_i_copyInts F_i_hasInt F_i_in F_i_keyAt a0 a1 a2:=gr_i_WaysIn rounds F_i_Linked F_i_StoreOk F_i_Together F_i_copyInts F_i_hasInt F_i_in F_i_keyAt a0 a1 a2
def G_i_WayTo_l0:Option (List T) :=
 (ar2 fun a3 a4 =>
 Yl a4 a2 fun a5 =>
 ifT a5 (
 Y3 a0 a4 fun a7 a8 a9 =>
 Ye a7 a1 fun a10 =>
 ifT a10 (
 cl3 (f_i_copyWay [a7,a8,a9]) fun a11 a12 a13 =>
 Yz (bb true) fun a14 =>
 Yz a12 fun a15 =>
 Yz a11 fun a16 =>
 some [a16,a15,a13,a14]) (
 Ya a4 (ii 1) fun a11 =>
 k0 [a3,a11])) (
 Yz (bb false) fun a6 =>
 Yz (ii 0) fun a7 =>
 Yz (ii 0) fun a8 =>
 some [a8,a7,.l [],a6])) ts
def G_i_WayTo:Option (List T) :=
 Yn a0 fun a2 =>
 iter (G_i_WayTo_l0 f_i_copyWay a0 a1 a2) R [bb false,ii 0]
theorem gr_i_WayTo:p_i_WayTo.den (pick [(76,f_i_copyWay)]) R [] [a0,a1]=G_i_WayTo R f_i_copyWay a0 a1:=(den2_of (by kernel_rfl)).trans (by kernel_rfl)
theorem g_i_WayTo:F_i_WayTo [a0,a1]=G_i_WayTo rounds F_i_copyWay a0 a1:=gr_i_WayTo rounds F_i_copyWay a0 a1
def G_i_RoutesWithin_l0:Option (List T) :=
 (ar1 fun a19 =>
 Yn a11 fun a20 =>
 Yl a19 a20 fun a21 =>
 ifT a21 (
 Yb a11 a19 fun a22 =>
 pv (.scell 3 0) [a11,a19] fun a23 =>
 Yl a23 a16 fun a24 =>
 ifT a24 (
 Ya a19 (ii 1) fun a25 =>
 k2 [a25]) (
 Yn a11 fun a25 =>
 Yl a19 a25 fun a26 =>
 ifT a26 (
 Yb a11 a19 fun a27 =>
 pv (.scell 3 0) [a11,a19] fun a28 =>
 Ye a28 a16 fun a29 =>
 ifT a29 (
 Y3 a11 a19 fun a31 a32 a33 =>
 cl3 (f_i_Together [a31,a32,a33,a16,a17,a18]) fun a34 a35 a36 =>
 Yb a11 a19 fun a37 =>
 pv (.putD [true,true,false] 3 0) [a11,a19,a34,a35,a36] fun a38 =>
 Ya a12 (ii 1) fun a39 =>
 k1 [a38,a39,a13]) (
 pv (.sub 3 false true) [a11,a19] fun a30 =>
 pv (.tkn) [a11,ii 0,a30] fun a31 =>
 Yo (.l []) a30 fun a32 =>
 cl3 (f_i_copyWay [a16,a17,a18]) fun a33 a34 a35 =>
 pv (.lit 3 [true,true,false]) [a33,a34,a35] fun a36 =>
 Yo a32 a36 fun a37 =>
 pv (.sub 3 true false) [a11,a19] fun a38 =>
 pv (.tkn) [a31,a19,a38] fun a39 =>
 Yo a37 a38 fun a40 =>
 Ya a12 (ii 1) fun a41 =>
 k1 [a40,a41,a13])) (
 pv (.sub 3 false true) [a11,a19] fun a27 =>
 pv (.tkn) [a11,ii 0,a27] fun a28 =>
 Yo (.l []) a27 fun a29 =>
 cl3 (f_i_copyWay [a16,a17,a18]) fun a30 a31 a32 =>
 pv (.lit 3 [true,true,false]) [a30,a31,a32] fun a33 =>
 Yo a29 a33 fun a34 =>
 pv (.sub 3 true false) [a11,a19] fun a35 =>
 pv (.tkn) [a28,a19,a35] fun a36 =>
 Yo a34 a35 fun a37 =>
 Ya a12 (ii 1) fun a38 =>
 k1 [a37,a38,a13]))) (
 Yn a11 fun a22 =>
 Yl a19 a22 fun a23 =>
 ifT a23 (
 Yb a11 a19 fun a24 =>
 pv (.scell 3 0) [a11,a19] fun a25 =>
 Ye a25 a16 fun a26 =>
 ifT a26 (
 Y3 a11 a19 fun a28 a29 a30 =>
 cl3 (f_i_Together [a28,a29,a30,a16,a17,a18]) fun a31 a32 a33 =>
 Yb a11 a19 fun a34 =>
 pv (.putD [true,true,false] 3 0) [a11,a19,a31,a32,a33] fun a35 =>
 Ya a12 (ii 1) fun a36 =>
 k1 [a35,a36,a13]) (
 pv (.sub 3 false true) [a11,a19] fun a27 =>
 pv (.tkn) [a11,ii 0,a27] fun a28 =>
 Yo (.l []) a27 fun a29 =>
 cl3 (f_i_copyWay [a16,a17,a18]) fun a30 a31 a32 =>
 pv (.lit 3 [true,true,false]) [a30,a31,a32] fun a33 =>
 Yo a29 a33 fun a34 =>
 pv (.sub 3 true false) [a11,a19] fun a35 =>
 pv (.tkn) [a28,a19,a35] fun a36 =>
 Yo a34 a35 fun a37 =>
 Ya a12 (ii 1) fun a38 =>
 k1 [a37,a38,a13])) (
 pv (.sub 3 false true) [a11,a19] fun a24 =>
 pv (.tkn) [a11,ii 0,a24] fun a25 =>
 Yo (.l []) a24 fun a26 =>
 cl3 (f_i_copyWay [a16,a17,a18]) fun a27 a28 a29 =>
 pv (.lit 3 [true,true,false]) [a27,a28,a29] fun a30 =>
 Yo a26 a30 fun a31 =>
 pv (.sub 3 true false) [a11,a19] fun a32 =>
 pv (.tkn) [a25,a19,a32] fun a33 =>
 Yo a31 a32 fun a34 =>
 Ya a12 (ii 1) fun a35 =>
 k1 [a34,a35,a13]))) ts
def G_i_RoutesWithin_l1:Option (List T) :=
 (ar3 fun a11 a12 a13 =>
 Yl a12 a10 fun a14 =>
 ifT a14 (
 Y3 a13 a12 fun a16 a17 a18 =>
 iter (G_i_RoutesWithin_l0 f_i_Together f_i_copyWay a11 a12 a13 a16 a17 a18 k1) R [ii 0]) (
 Ya a5 (ii 1) fun a15 =>
 k0 [a11,a15])) ts
def G_i_RoutesWithin_l2:Option (List T) :=
 (ar2 fun a4 a5 =>
 Yl a5 a3 fun a6 =>
 ifT a6 (
 Y1 a1 a5 fun a8 =>
 cl1 (f_i_WaysIn [a0,a8,a2]) fun a9 =>
 Yn a9 fun a10 =>
 iter (G_i_RoutesWithin_l1 R f_i_Together f_i_copyWay a5 a10 k0) R [a4,ii 0,a9]) (
 some [a4])) ts
def G_i_RoutesWithin:Option (List T) :=
 Yn a1 fun a3 =>
 iter (G_i_RoutesWithin_l2 R f_i_Together f_i_WaysIn f_i_copyWay a0 a1 a2 a3) R [.l [],ii 0]
theorem gr_i_RoutesWithin:p_i_RoutesWithin.den (pick [(67,f_i_WaysIn),(70,f_i_Together),(76,f_i_copyWay)]) R [] [a0,a1,a2]=G_i_RoutesWithin R f_i_Together f_i_WaysIn f_i_copyWay a0 a1 a2:=(den2_of (by kernel_rfl)).trans (by kernel_rfl)
theorem g_i_RoutesWithin:F_i_RoutesWithin [a0,a1,a2]=G_i_RoutesWithin rounds F_i_Together F_i_WaysIn F_i_copyWay a0 a1 a2:=gr_i_RoutesWithin rounds F_i_Together F_i_WaysIn F_i_copyWay a0 a1 a2
def G_i_RoutesBeyond_l0:Option (List T) :=
 (ar1 fun a36 =>
 Yn a6 fun a37 =>
 Yl a36 a37 fun a38 =>
 ifT a38 (
 Yb a6 a36 fun a39 =>
 pv (.scell 3 0) [a6,a36] fun a40 =>
 Yl a40 a13 fun a41 =>
 ifT a41 (
 Ya a36 (ii 1) fun a42 =>
 k1 [a42]) (
 Yn a6 fun a42 =>
 Yl a36 a42 fun a43 =>
 ifT a43 (
 Yb a6 a36 fun a44 =>
 pv (.scell 3 0) [a6,a36] fun a45 =>
 Ye a45 a13 fun a46 =>
 ifT a46 (
 Y3 a6 a36 fun a48 a49 a50 =>
 cl3 (f_i_Together [a48,a49,a50,a13,a35,a30]) fun a51 a52 a53 =>
 Yb a6 a36 fun a54 =>
 pv (.putD [true,true,false] 3 0) [a6,a36,a51,a52,a53] fun a55 =>
 Ya a7 (ii 1) fun a56 =>
 k0 [a55,a56]) (
 pv (.sub 3 false true) [a6,a36] fun a47 =>
 pv (.tkn) [a6,ii 0,a47] fun a48 =>
 Yo (.l []) a47 fun a49 =>
 cl3 (f_i_copyWay [a13,a35,a30]) fun a50 a51 a52 =>
 pv (.lit 3 [true,true,false]) [a50,a51,a52] fun a53 =>
 Yo a49 a53 fun a54 =>
 pv (.sub 3 true false) [a6,a36] fun a55 =>
 pv (.tkn) [a48,a36,a55] fun a56 =>
 Yo a54 a55 fun a57 =>
 Ya a7 (ii 1) fun a58 =>
 k0 [a57,a58])) (
 pv (.sub 3 false true) [a6,a36] fun a44 =>
 pv (.tkn) [a6,ii 0,a44] fun a45 =>
 Yo (.l []) a44 fun a46 =>
 cl3 (f_i_copyWay [a13,a35,a30]) fun a47 a48 a49 =>
 pv (.lit 3 [true,true,false]) [a47,a48,a49] fun a50 =>
 Yo a46 a50 fun a51 =>
 pv (.sub 3 true false) [a6,a36] fun a52 =>
 pv (.tkn) [a45,a36,a52] fun a53 =>
 Yo a51 a52 fun a54 =>
 Ya a7 (ii 1) fun a55 =>
 k0 [a54,a55]))) (
 Yn a6 fun a39 =>
 Yl a36 a39 fun a40 =>
 ifT a40 (
 Yb a6 a36 fun a41 =>
 pv (.scell 3 0) [a6,a36] fun a42 =>
 Ye a42 a13 fun a43 =>
 ifT a43 (
 Y3 a6 a36 fun a45 a46 a47 =>
 cl3 (f_i_Together [a45,a46,a47,a13,a35,a30]) fun a48 a49 a50 =>
 Yb a6 a36 fun a51 =>
 pv (.putD [true,true,false] 3 0) [a6,a36,a48,a49,a50] fun a52 =>
 Ya a7 (ii 1) fun a53 =>
 k0 [a52,a53]) (
 pv (.sub 3 false true) [a6,a36] fun a44 =>
 pv (.tkn) [a6,ii 0,a44] fun a45 =>
 Yo (.l []) a44 fun a46 =>
 cl3 (f_i_copyWay [a13,a35,a30]) fun a47 a48 a49 =>
 pv (.lit 3 [true,true,false]) [a47,a48,a49] fun a50 =>
 Yo a46 a50 fun a51 =>
 pv (.sub 3 true false) [a6,a36] fun a52 =>
 pv (.tkn) [a45,a36,a52] fun a53 =>
 Yo a51 a52 fun a54 =>
 Ya a7 (ii 1) fun a55 =>
 k0 [a54,a55])) (
 pv (.sub 3 false true) [a6,a36] fun a41 =>
 pv (.tkn) [a6,ii 0,a41] fun a42 =>
 Yo (.l []) a41 fun a43 =>
 cl3 (f_i_copyWay [a13,a35,a30]) fun a44 a45 a46 =>
 pv (.lit 3 [true,true,false]) [a44,a45,a46] fun a47 =>
 Yo a43 a47 fun a48 =>
 pv (.sub 3 true false) [a6,a36] fun a49 =>
 pv (.tkn) [a42,a36,a49] fun a50 =>
 Yo a48 a49 fun a51 =>
 Ya a7 (ii 1) fun a52 =>
 k0 [a51,a52]))) ts
def G_i_RoutesBeyond_l1:Option (List T) :=
 (ar1 fun a37 =>
 Yn a6 fun a38 =>
 Yl a37 a38 fun a39 =>
 ifT a39 (
 Yb a6 a37 fun a40 =>
 pv (.scell 3 0) [a6,a37] fun a41 =>
 Yl a41 a13 fun a42 =>
 ifT a42 (
 Ya a37 (ii 1) fun a43 =>
 k1 [a43]) (
 Yn a6 fun a43 =>
 Yl a37 a43 fun a44 =>
 ifT a44 (
 Yb a6 a37 fun a45 =>
 pv (.scell 3 0) [a6,a37] fun a46 =>
 Ye a46 a13 fun a47 =>
 ifT a47 (
 Y3 a6 a37 fun a49 a50 a51 =>
 cl3 (f_i_Together [a49,a50,a51,a13,a36,a31]) fun a52 a53 a54 =>
 Yb a6 a37 fun a55 =>
 pv (.putD [true,true,false] 3 0) [a6,a37,a52,a53,a54] fun a56 =>
 Ya a7 (ii 1) fun a57 =>
 k0 [a56,a57]) (
 pv (.sub 3 false true) [a6,a37] fun a48 =>
 pv (.tkn) [a6,ii 0,a48] fun a49 =>
 Yo (.l []) a48 fun a50 =>
 cl3 (f_i_copyWay [a13,a36,a31]) fun a51 a52 a53 =>
 pv (.lit 3 [true,true,false]) [a51,a52,a53] fun a54 =>
 Yo a50 a54 fun a55 =>
 pv (.sub 3 true false) [a6,a37] fun a56 =>
 pv (.tkn) [a49,a37,a56] fun a57 =>
 Yo a55 a56 fun a58 =>
 Ya a7 (ii 1) fun a59 =>
 k0 [a58,a59])) (
 pv (.sub 3 false true) [a6,a37] fun a45 =>
 pv (.tkn) [a6,ii 0,a45] fun a46 =>
 Yo (.l []) a45 fun a47 =>
 cl3 (f_i_copyWay [a13,a36,a31]) fun a48 a49 a50 =>
 pv (.lit 3 [true,true,false]) [a48,a49,a50] fun a51 =>
 Yo a47 a51 fun a52 =>
 pv (.sub 3 true false) [a6,a37] fun a53 =>
 pv (.tkn) [a46,a37,a53] fun a54 =>
 Yo a52 a53 fun a55 =>
 Ya a7 (ii 1) fun a56 =>
 k0 [a55,a56]))) (
 Yn a6 fun a40 =>
 Yl a37 a40 fun a41 =>
 ifT a41 (
 Yb a6 a37 fun a42 =>
 pv (.scell 3 0) [a6,a37] fun a43 =>
 Ye a43 a13 fun a44 =>
 ifT a44 (
 Y3 a6 a37 fun a46 a47 a48 =>
 cl3 (f_i_Together [a46,a47,a48,a13,a36,a31]) fun a49 a50 a51 =>
 Yb a6 a37 fun a52 =>
 pv (.putD [true,true,false] 3 0) [a6,a37,a49,a50,a51] fun a53 =>
 Ya a7 (ii 1) fun a54 =>
 k0 [a53,a54]) (
 pv (.sub 3 false true) [a6,a37] fun a45 =>
 pv (.tkn) [a6,ii 0,a45] fun a46 =>
 Yo (.l []) a45 fun a47 =>
 cl3 (f_i_copyWay [a13,a36,a31]) fun a48 a49 a50 =>
 pv (.lit 3 [true,true,false]) [a48,a49,a50] fun a51 =>
 Yo a47 a51 fun a52 =>
 pv (.sub 3 true false) [a6,a37] fun a53 =>
 pv (.tkn) [a46,a37,a53] fun a54 =>
 Yo a52 a53 fun a55 =>
 Ya a7 (ii 1) fun a56 =>
 k0 [a55,a56])) (
 pv (.sub 3 false true) [a6,a37] fun a42 =>
 pv (.tkn) [a6,ii 0,a42] fun a43 =>
 Yo (.l []) a42 fun a44 =>
 cl3 (f_i_copyWay [a13,a36,a31]) fun a45 a46 a47 =>
 pv (.lit 3 [true,true,false]) [a45,a46,a47] fun a48 =>
 Yo a44 a48 fun a49 =>
 pv (.sub 3 true false) [a6,a37] fun a50 =>
 pv (.tkn) [a43,a37,a50] fun a51 =>
 Yo a49 a50 fun a52 =>
 Ya a7 (ii 1) fun a53 =>
 k0 [a52,a53]))) ts
def G_i_RoutesBeyond_l2:Option (List T) :=
 (ar2 fun a6 a7 =>
 Yl a7 a5 fun a8 =>
 ifT a8 (
 Y8 a0 a7 fun a10 a11 a12 a13 a14 a15 a16 a17 =>
 Yu a11 (ii 2) fun a18 =>
 ifT a18 (
 Ya a7 (ii 1) fun a19 =>
 k0 [a6,a19]) (
 Yh a16 (ii 60000) fun a19 =>
 ifT a19 (
 Ya a7 (ii 1) fun a20 =>
 k0 [a6,a20]) (
 Ye a12 a3 fun a20 =>
 ifT a20 (
 Ya a7 (ii 1) fun a21 =>
 k0 [a6,a21]) (
 cl1 (f_i_hasInt [a1,a10]) fun a21 =>
 Yt a21 fun a22 =>
 ifT a22 (
 Ya a7 (ii 1) fun a23 =>
 k0 [a6,a23]) (
 ifT a2 (
 Yu a10 (ii 0) fun a23 =>
 ifT a23 (
 Ya a7 (ii 1) fun a24 =>
 k0 [a6,a24]) (
 cl4 (f_i_WayTo [a4,a13]) fun a24 a25 a26 a27 =>
 cl1 (f_i_WaysIn [a0,a10,a3]) fun a28 =>
 cl4 (f_i_WayTo [a28,a12]) fun a29 a30 a31 a32 =>
 ifT a27 (
 Ya a7 (ii 1) fun a33 =>
 k0 [a6,a33]) (
 Yt a32 fun a33 =>
 ifT a33 (
 Ya a7 (ii 1) fun a34 =>
 k0 [a6,a34]) (
 Ya a16 a30 fun a34 =>
 Yh a34 (ii 60000) fun a35 =>
 ifT a35 (
 Ya a7 (ii 1) fun a36 =>
 k0 [a6,a36]) (
 Ya a16 a30 fun a36 =>
 iter (G_i_RoutesBeyond_l1 f_i_Together f_i_copyWay a6 a7 a13 a31 a36 k0) R [ii 0]))))) (
 cl4 (f_i_WayTo [a4,a13]) fun a23 a24 a25 a26 =>
 cl1 (f_i_WaysIn [a0,a10,a3]) fun a27 =>
 cl4 (f_i_WayTo [a27,a12]) fun a28 a29 a30 a31 =>
 ifT a26 (
 Ya a7 (ii 1) fun a32 =>
 k0 [a6,a32]) (
 Yt a31 fun a32 =>
 ifT a32 (
 Ya a7 (ii 1) fun a33 =>
 k0 [a6,a33]) (
 Ya a16 a29 fun a33 =>
 Yh a33 (ii 60000) fun a34 =>
 ifT a34 (
 Ya a7 (ii 1) fun a35 =>
 k0 [a6,a35]) (
 Ya a16 a29 fun a35 =>
 iter (G_i_RoutesBeyond_l0 f_i_Together f_i_copyWay a6 a7 a13 a30 a35 k0) R [ii 0]))))))))) (
 some [a6])) ts
def G_i_RoutesBeyond:Option (List T) :=
 cl1 (f_i_RoutesWithin [a0,a1,a3]) fun a4 =>
 Yn a0 fun a5 =>
 iter (G_i_RoutesBeyond_l2 R f_i_Together f_i_WayTo f_i_WaysIn f_i_copyWay f_i_hasInt a0 a1 a2 a3 a4 a5) R [.l [],ii 0]
theorem gr_i_RoutesBeyond:p_i_RoutesBeyond.den (pick [(47,f_i_hasInt),(51,f_i_RoutesWithin),(67,f_i_WaysIn),(69,f_i_WayTo),(70,f_i_Together),(76,f_i_copyWay)]) R [] [a0,a1,a2,a3]=G_i_RoutesBeyond R f_i_RoutesWithin f_i_Together f_i_WayTo f_i_WaysIn f_i_copyWay f_i_hasInt a0 a1 a2 a3:=(den2_of (by kernel_rfl)).trans (by kernel_rfl)
theorem g_i_RoutesBeyond:F_i_RoutesBeyond [a0,a1,a2,a3]=G_i_RoutesBeyond rounds F_i_RoutesWithin F_i_Together F_i_WayTo F_i_WaysIn F_i_copyWay F_i_hasInt a0 a1 a2 a3:=gr_i_RoutesBeyond rounds F_i_RoutesWithin F_i_Together F_i_WayTo F_i_WaysIn F_i_copyWay F_i_hasInt a0 a1 a2 a3
def G_i_Beyond_l0:Option (List T) :=
 (ar3 fun a18 a19 a20 =>
 Yl a18 a17 fun a21 =>
 ifT a21 (
 Y3 a20 a18 fun a23 a24 a25 =>
 cl4 (f_i_WayTo [a8,a23]) fun a26 a27 a28 a29 =>
 Yt a29 fun a30 =>
 ifT a30 (
 Yu a23 a2 fun a31 =>
 ifT a31 (
 cl1 (f_i_keyAt [a19,a3,ii 2,a2,a23,ii 0,.l [],a24,bb false]) fun a32 =>
 Yl a32 (ii 0) fun a33 =>
 jn (ar1 fun a34 =>
 Ya a18 (ii 1) fun a35 =>
 k3 [a35,a34,a20]) fun k4 =>
 ifT a33 (
 cl1 (f_i_put [a19,a3,ii 2,a2,a23,ii 0,.l [],a24,bb false]) fun a34 =>
 k4 [a34]) (
 k4 [a19])) (
 jn (ar1 fun a32 =>
 Ya a18 (ii 1) fun a33 =>
 k3 [a33,a32,a20]) fun k4 =>
 k4 [a19])) (
 jn (ar1 fun a31 =>
 Ya a18 (ii 1) fun a32 =>
 k3 [a32,a31,a20]) fun k4 =>
 k4 [a19])) (
 k2 [a19])) ts
def G_i_Beyond_l1:Option (List T) :=
 (ar3 fun a11 a12 a13 =>
 Yl a11 a10 fun a14 =>
 ifT a14 (
 Y3 a13 a11 fun a16 a17 a18 =>
 cl4 (f_i_WayTo [a8,a16]) fun a19 a20 a21 a22 =>
 Yt a22 fun a23 =>
 ifT a23 (
 Yu a16 a2 fun a24 =>
 ifT a24 (
 cl1 (f_i_keyAt [a12,a3,ii 2,a2,a16,ii 0,.l [],a17,bb false]) fun a25 =>
 Yl a25 (ii 0) fun a26 =>
 jn (ar1 fun a27 =>
 Ya a11 (ii 1) fun a28 =>
 k1 [a28,a27,a13]) fun k2 =>
 ifT a26 (
 cl1 (f_i_put [a12,a3,ii 2,a2,a16,ii 0,.l [],a17,bb false]) fun a27 =>
 k2 [a27]) (
 k2 [a12])) (
 jn (ar1 fun a25 =>
 Ya a11 (ii 1) fun a26 =>
 k1 [a26,a25,a13]) fun k2 =>
 k2 [a12])) (
 jn (ar1 fun a24 =>
 Ya a11 (ii 1) fun a25 =>
 k1 [a25,a24,a13]) fun k2 =>
 k2 [a12])) (
 Yu a3 (ii 0) fun a15 =>
 jn (ar1 fun a16 =>
 some [a16]) fun k2 =>
 ifT a15 (
 cl1 (f_i_RoutesBeyond [a0,a1,bb true,a2]) fun a16 =>
 Yn a16 fun a17 =>
 iter (G_i_Beyond_l0 f_i_WayTo f_i_keyAt f_i_put a2 a3 a8 a17 k2) R [ii 0,a12,a16]) (
 k2 [a12]))) ts
def G_i_Beyond_l2:Option (List T) :=
 (ar2 fun a5 a6 =>
 Yl a6 a4 fun a7 =>
 ifT a7 (
 Y1 a1 a6 fun a9 =>
 Yu a9 a3 fun a10 =>
 jn (ar1 fun a11 =>
 Ya a6 (ii 1) fun a12 =>
 k0 [a11,a12]) fun k1 =>
 ifT a10 (
 Yx a9 fun a11 =>
 Yp a5 a11 fun a12 =>
 k1 [a12]) (
 k1 [a5])) (
 cl1 (f_i_WaysIn [a0,a3,a2]) fun a8 =>
 cl1 (f_i_RoutesWithin [a0,a5,a2]) fun a9 =>
 Yn a9 fun a10 =>
 iter (G_i_Beyond_l1 R f_i_RoutesBeyond f_i_WayTo f_i_keyAt f_i_put a0 a1 a2 a3 a8 a10) R [ii 0,.l [],a9])) ts
def G_i_Beyond:Option (List T) :=
 Yn a1 fun a4 =>
 iter (G_i_Beyond_l2 R f_i_RoutesBeyond f_i_RoutesWithin f_i_WayTo f_i_WaysIn f_i_keyAt f_i_put a0 a1 a2 a3 a4) R [.l [],ii 0]
theorem gr_i_Beyond:p_i_Beyond.den (pick [(39,f_i_put),(51,f_i_RoutesWithin),(52,f_i_RoutesBeyond),(60,f_i_keyAt),(67,f_i_WaysIn),(69,f_i_WayTo)]) R [] [a0,a1,a2,a3]=G_i_Beyond R f_i_RoutesBeyond f_i_RoutesWithin f_i_WayTo f_i_WaysIn f_i_keyAt f_i_put a0 a1 a2 a3:=(den2_of (by kernel_rfl)).trans (by kernel_rfl)
theorem g_i_Beyond:F_i_Beyond [a0,a1,a2,a3]=G_i_Beyond rounds F_i_RoutesBeyond F_i_RoutesWithin F_i_WayTo F_i_WaysIn F_i_keyAt F_i_put a0 a1 a2 a3:=gr_i_Beyond rounds F_i_RoutesBeyond F_i_RoutesWithin F_i_WayTo F_i_WaysIn F_i_keyAt F_i_put a0 a1 a2 a3
def G_i_Wanted_l0:Option (List T) :=
 (ar3 fun a26 a27 a28 =>
 Yl a27 a25 fun a29 =>
 ifT a29 (
 Y8 a28 a27 fun a31 a32 a33 a34 a35 a36 a37 a38 =>
 cl1 (f_i_put [a26,a31,a32,a33,a34,a35,a36,a37,a38]) fun a39 =>
 Ya a27 (ii 1) fun a40 =>
 k3 [a39,a40,a28]) (
 Ya a20 (ii 1) fun a30 =>
 k2 [a26,a30])) ts
def G_i_Wanted_l1:Option (List T) :=
 (ar2 fun a19 a20 =>
 Yl a20 a18 fun a21 =>
 ifT a21 (
 Yq a15 a20 fun a23 =>
 cl1 (f_i_Beyond [a17,a15,a0,a23]) fun a24 =>
 Yn a24 fun a25 =>
 iter (G_i_Wanted_l0 f_i_put a20 a25 k2) R [a19,ii 0,a24]) (
 k1 [a19,a13,a13,a13])) ts
def G_i_Wanted_l2:Option (List T) :=
 (ar2 fun a22 a23 =>
 Yl a23 a21 fun a24 =>
 ifT a24 (
 Y4 a4 a23 fun a26 a27 a28 a29 =>
 Ye a26 a0 fun a30 =>
 jn (ar1 fun a31 =>
 Ya a23 (ii 1) fun a32 =>
 k1 [a31,a32]) fun k2 =>
 ifT a30 (
 cl1 (f_i_put [a22,ii 9,ii 3,a0,a27,ii 0,.l [],a28,a29]) fun a31 =>
 k2 [a31]) (
 k2 [a22])) (
 some [a22])) ts
def G_i_Wanted_l3:Option (List T) :=
 (ar3 fun a11 a12 a13 =>
 Yl a12 a10 fun a14 =>
 ifT a14 (
 Y8 a13 a12 fun a16 a17 a18 a19 a20 a21 a22 a23 =>
 cl1 (f_i_put [a11,a16,a17,a18,a19,a20,a21,a22,a23]) fun a24 =>
 Ya a12 (ii 1) fun a25 =>
 k0 [a24,a25,a13]) (
 cl1 (f_i_AreasOf [a2,a3,a4,a0]) fun a15 =>
 cl1 (f_i_Border [a2,a3,a4,a0]) fun a16 =>
 jn (ar4 fun a17 a18 a19 a20 =>
 Yn a4 fun a21 =>
 iter (G_i_Wanted_l2 f_i_put a0 a4 a21) R [a17,ii 0]) fun k1 =>
 ifT a16 (
 cl1 (f_i_by [a6,a0,a13]) fun a17 =>
 Yn a15 fun a18 =>
 iter (G_i_Wanted_l1 R f_i_Beyond f_i_put a0 a13 a15 a17 a18 k1) R [a11,ii 0]) (
 k1 [a11,a13,a13,a13]))) ts
def G_i_Wanted:Option (List T) :=
 cl1 (f_i_SelfOk [a0,a1,a2,a3,a4,a5,a6]) fun a7 =>
 Yt a7 fun a8 =>
 ifT a8 (
 some [.l []]) (
 cl1 (f_i_own [a0,a1,a2,a3,a4,a5,a6]) fun a9 =>
 Yn a9 fun a10 =>
 iter (G_i_Wanted_l3 R f_i_AreasOf f_i_Beyond f_i_Border f_i_by f_i_put a0 a2 a3 a4 a6 a10) R [.l [],ii 0,a9])
theorem gr_i_Wanted:p_i_Wanted.den (pick [(12,f_i_SelfOk),(29,f_i_AreasOf),(30,f_i_Border),(39,f_i_put),(72,f_i_own),(73,f_i_by),(74,f_i_Beyond)]) R [] [a0,a1,a2,a3,a4,a5,a6]=G_i_Wanted R f_i_AreasOf f_i_Beyond f_i_Border f_i_SelfOk f_i_by f_i_own f_i_put a0 a1 a2 a3 a4 a5 a6:=(den2_of (by kernel_rfl)).trans (by kernel_rfl)
theorem g_i_Wanted:F_i_Wanted [a0,a1,a2,a3,a4,a5,a6]=G_i_Wanted rounds F_i_AreasOf F_i_Beyond F_i_Border F_i_SelfOk F_i_by F_i_own F_i_put a0 a1 a2 a3 a4 a5 a6:=gr_i_Wanted rounds F_i_AreasOf F_i_Beyond F_i_Border F_i_SelfOk F_i_by F_i_own F_i_put a0 a1 a2 a3 a4 a5 a6
def G_i_SameBody_l0:Option (List T) :=
 (ar2 fun a24 a25 =>
 Yl a25 a23 fun a26 =>
 ifT a26 (
 Y2 a5 a25 fun a28 a29 =>
 Y2 a13 a25 fun a31 a32 =>
 pv (.eqs [1,1]) [a28,a29,a31,a32] fun a33 =>
 Yt a33 fun a34 =>
 ifT a34 (
 Yz (bb false) fun a35 =>
 some [a35]) (
 Ya a25 (ii 1) fun a35 =>
 k0 [a24,a35])) (
 Yz (bb true) fun a27 =>
 some [a27])) ts
def G_i_SameBody:Option (List T) :=
 cl1 (f_i_SameKey [a0,a1,a2,a3,a4,a5,a6,a7,a8,a9,a10,a11,a12,a13,a14,a15]) fun a16 =>
 Yt a16 fun a17 =>
 ifT a17 (
 Yz (bb false) fun a18 =>
 some [a18]) (
 Yu a6 a14 fun a18 =>
 ifT a18 (
 Yz (bb false) fun a19 =>
 some [a19]) (
 pv (.bb .neq) [a7,a15] fun a19 =>
 ifT a19 (
 Yz (bb false) fun a20 =>
 some [a20]) (
 Yn a5 fun a20 =>
 Yn a13 fun a21 =>
 Yu a20 a21 fun a22 =>
 ifT a22 (
 Yz (bb false) fun a23 =>
 some [a23]) (
 Yn a5 fun a23 =>
 iter (G_i_SameBody_l0 a5 a13 a23) R [bb false,ii 0]))))
theorem gr_i_SameBody:p_i_SameBody.den (pick [(65,f_i_SameKey)]) R [] [a0,a1,a2,a3,a4,a5,a6,a7,a8,a9,a10,a11,a12,a13,a14,a15]=G_i_SameBody R f_i_SameKey a0 a1 a2 a3 a4 a5 a6 a7 a8 a9 a10 a11 a12 a13 a14 a15:=(den2_of (by kernel_rfl)).trans (by kernel_rfl)
theorem g_i_SameBody:F_i_SameBody [a0,a1,a2,a3,a4,a5,a6,a7,a8,a9,a10,a11,a12,a13,a14,a15]=G_i_SameBody rounds F_i_SameKey a0 a1 a2 a3 a4 a5 a6 a7 a8 a9 a10 a11 a12 a13 a14 a15:=gr_i_SameBody rounds F_i_SameKey a0 a1 a2 a3 a4 a5 a6 a7 a8 a9 a10 a11 a12 a13 a14 a15
def G_i_seqOf:Option (List T) :=
 cl1 (f_i_keyAt [a6,a7,a8,a9,a10,a11,a12,a13,a14]) fun a15 =>
 Yh a15 (ii 0) fun a16 =>
 jn (ar1 fun a17 =>
 Ya a17 (ii 1) fun a18 =>
 pv (.bin .mul) [ii 1000,a1] fun a19 =>
 Ya a19 (ii 1) fun a20 =>
 pv (.mx) [a18,a20] fun a21 =>
 Yz a21 fun a22 =>
 some [a22]) fun k0 =>
 ifT a16 (
 Yb a6 a15 fun a17 =>
 Yc 8 4 a6 a15 fun a18 =>
 k0 [a18]) (
 k0 [ii 0])
theorem gr_i_seqOf:p_i_seqOf.den (pick [(60,f_i_keyAt)]) R [] [a0,a1,a2,a3,a4,a5,a6,a7,a8,a9,a10,a11,a12,a13,a14]=G_i_seqOf f_i_keyAt a1 a6 a7 a8 a9 a10 a11 a12 a13 a14:=(den2_of (by kernel_rfl)).trans (by kernel_rfl)
theorem g_i_seqOf:F_i_seqOf [a0,a1,a2,a3,a4,a5,a6,a7,a8,a9,a10,a11,a12,a13,a14]=G_i_seqOf F_i_keyAt a1 a6 a7 a8 a9 a10 a11 a12 a13 a14:=gr_i_seqOf rounds F_i_keyAt a0 a1 a2 a3 a4 a5 a6 a7 a8 a9 a10 a11 a12 a13 a14
def G_i_gone:Option (List T) :=
 Yu a1 (ii 1) fun a8 =>
 jn (ar1 fun a9 =>
 Yz a7 fun a10 =>
 Yz a9 fun a11 =>
 Yz a4 fun a12 =>
 Yz a3 fun a13 =>
 Yz a2 fun a14 =>
 Yz a1 fun a15 =>
 Yz a0 fun a16 =>
 some [a16,a15,a14,a13,a12,.l [],a11,a10]) fun k0 =>
 ifT a8 (
 k0 [ii 60000]) (
 k0 [a6])
theorem gr_i_gone:p_i_gone.den (pick []) R [] [a0,a1,a2,a3,a4,a5,a6,a7]=G_i_gone a0 a1 a2 a3 a4 a6 a7:=(den2_of (by kernel_rfl)).trans (by kernel_rfl)
theorem g_i_gone:F_i_gone [a0,a1,a2,a3,a4,a5,a6,a7]=G_i_gone a0 a1 a2 a3 a4 a6 a7:=gr_i_gone rounds a0 a1 a2 a3 a4 a5 a6 a7
def G_i_fresh_l0:Option (List T) :=
 (ar2 fun a14 a15 =>
 Yl a15 a13 fun a16 =>
 ifT a16 (
 Y8 a6 a15 fun a18 a19 a20 a21 a22 a23 a24 a25 =>
 Yu a20 a0 fun a26 =>
 ifT a26 (
 Ya a15 (ii 1) fun a27 =>
 k1 [a14,a27]) (
 cl1 (f_i_keyAt [a11,a18,a19,a20,a21,a22,a23,a24,a25]) fun a27 =>
 Yh a27 (ii 0) fun a28 =>
 ifT a28 (
 Ya a15 (ii 1) fun a29 =>
 k1 [a14,a29]) (
 cl8 (f_i_gone [a18,a19,a20,a21,a22,a23,a24,a25]) fun a29 a30 a31 a32 a33 a34 a35 a36 =>
 cl1 (f_i_SameBody [a29,a30,a31,a32,a33,a34,a35,a36,a18,a19,a20,a21,a22,a23,a24,a25]) fun a37 =>
 Yt a37 fun a38 =>
 jn (ar2 fun a39 a40 =>
 Ya a15 (ii 1) fun a41 =>
 k1 [a39,a41]) fun k2 =>
 ifT a38 (
 cl1 (f_i_seqOf [a0,a1,a2,a3,a4,a5,a6,a18,a19,a20,a21,a22,a23,a24,a25]) fun a39 =>
 cl1 (f_i_put [a14,a29,a30,a31,a32,a39,a34,a35,a36]) fun a40 =>
 k2 [a40,a39]) (
 k2 [a14,a33])))) (
 some [a14])) ts
def G_i_fresh_l1:Option (List T) :=
 (ar3 fun a9 a10 a11 =>
 Yl a10 a8 fun a12 =>
 ifT a12 (
 Y8 a11 a10 fun a14 a15 a16 a17 a18 a19 a20 a21 =>
 cl1 (f_i_keyAt [a6,a14,a15,a16,a17,a18,a19,a20,a21]) fun a22 =>
 Yl a22 (ii 0) fun a23 =>
 ifT a23 (
 jn (ar2 fun a24 a25 =>
 Ya a10 (ii 1) fun a26 =>
 k0 [a24,a26,a11]) fun k1 =>
 cl1 (f_i_seqOf [a0,a1,a2,a3,a4,a5,a6,a14,a15,a16,a17,a18,a19,a20,a21]) fun a24 =>
 cl1 (f_i_put [a9,a14,a15,a16,a17,a24,a19,a20,a21]) fun a25 =>
 k1 [a25,a24]) (
 Y8 a6 a22 fun a25 a26 a27 a28 a29 a30 a31 a32 =>
 cl1 (f_i_SameBody [a25,a26,a27,a28,a29,a30,a31,a32,a14,a15,a16,a17,a18,a19,a20,a21]) fun a33 =>
 Yt a33 fun a34 =>
 jn (ar2 fun a35 a36 =>
 Ya a10 (ii 1) fun a37 =>
 k0 [a35,a37,a11]) fun k1 =>
 ifT a34 (
 cl1 (f_i_seqOf [a0,a1,a2,a3,a4,a5,a6,a14,a15,a16,a17,a18,a19,a20,a21]) fun a35 =>
 cl1 (f_i_put [a9,a14,a15,a16,a17,a35,a19,a20,a21]) fun a36 =>
 k1 [a36,a35]) (
 k1 [a9,a18]))) (
 Yn a6 fun a13 =>
 iter (G_i_fresh_l0 f_i_SameBody f_i_gone f_i_keyAt f_i_put f_i_seqOf a0 a1 a2 a3 a4 a5 a6 a11 a13) R [a9,ii 0])) ts
def G_i_fresh:Option (List T) :=
 cl1 (f_i_Wanted [a0,a1,a2,a3,a4,a5,a6]) fun a7 =>
 Yn a7 fun a8 =>
 iter (G_i_fresh_l1 R f_i_SameBody f_i_gone f_i_keyAt f_i_put f_i_seqOf a0 a1 a2 a3 a4 a5 a6 a8) R [.l [],ii 0,a7]
theorem gr_i_fresh:p_i_fresh.den (pick [(39,f_i_put),(59,f_i_Wanted),(60,f_i_keyAt),(61,f_i_SameBody),(62,f_i_seqOf),(63,f_i_gone)]) R [] [a0,a1,a2,a3,a4,a5,a6]=G_i_fresh R f_i_SameBody f_i_Wanted f_i_gone f_i_keyAt f_i_put f_i_seqOf a0 a1 a2 a3 a4 a5 a6:=(den2_of (by kernel_rfl)).trans (by kernel_rfl)
theorem g_i_fresh:F_i_fresh [a0,a1,a2,a3,a4,a5,a6]=G_i_fresh rounds F_i_SameBody F_i_Wanted F_i_gone F_i_keyAt F_i_put F_i_seqOf a0 a1 a2 a3 a4 a5 a6:=gr_i_fresh rounds F_i_SameBody F_i_Wanted F_i_gone F_i_keyAt F_i_put F_i_seqOf a0 a1 a2 a3 a4 a5 a6
def G_i_Renew_l0:Option (List T) :=
 (ar3 fun a19 a20 a21 =>
 Yl a21 a18 fun a22 =>
 ifT a22 (
 Yb a16 a21 fun a23 =>
 pv (.scell 8 0) [a16,a21] fun a24 =>
 pv (.scell 8 1) [a16,a21] fun a25 =>
 pv (.scell 8 2) [a16,a21] fun a26 =>
 pv (.scell 8 3) [a16,a21] fun a27 =>
 pv (.scell 8 4) [a16,a21] fun a28 =>
 pv (.dig 8 5) [a16,a21] fun a29 =>
 pv (.scell 8 6) [a16,a21] fun a30 =>
 pv (.scell 8 7) [a16,a21] fun a31 =>
 Yg a28 (ii 100000) fun a32 =>
 ifT a32 (
 Yz a9 fun a33 =>
 Yz a8 fun a34 =>
 Yz a7 fun a35 =>
 some [a35,a34,a33,a10,a11,a12,a13,.l []]) (
 pv (.dig 8 5) [a16,a21] fun a33 =>
 cl1 (f_i_put [a20,a24,a25,a26,a27,a28,a33,a30,a31]) fun a34 =>
 Ya a21 (ii 1) fun a35 =>
 k0 [a19,a34,a35])) (
 Yn a20 fun a23 =>
 Yg a23 (ii 150) fun a24 =>
 ifT a24 (
 Yz a9 fun a25 =>
 Yz a8 fun a26 =>
 Yz a7 fun a27 =>
 some [a27,a26,a25,a10,a11,a12,a13,.l []]) (
 Yz a9 fun a25 =>
 Yz a8 fun a26 =>
 Yz a7 fun a27 =>
 some [a27,a26,a25,a10,a11,a12,a20,a16]))) ts
def G_i_Renew:Option (List T) :=
 cl7 (f_i_copySelf [a0,a1,a2,a3,a4,a5,a6]) fun a7 a8 a9 a10 a11 a12 a13 =>
 cl1 (f_i_SelfOk [a0,a1,a2,a3,a4,a5,a6]) fun a14 =>
 Yt a14 fun a15 =>
 ifT a15 (
 Yz a9 fun a16 =>
 Yz a8 fun a17 =>
 Yz a7 fun a18 =>
 some [a18,a17,a16,a10,a11,a12,a13,.l []]) (
 cl1 (f_i_fresh [a0,a1,a2,a3,a4,a5,a6]) fun a16 =>
 cl1 (f_i_copyRecords [a6]) fun a17 =>
 Yn a16 fun a18 =>
 iter (G_i_Renew_l0 f_i_put a7 a8 a9 a10 a11 a12 a13 a16 a18) R [.l [],a17,ii 0])
theorem gr_i_Renew:p_i_Renew.den (pick [(12,f_i_SelfOk),(36,f_i_copySelf),(37,f_i_fresh),(38,f_i_copyRecords),(39,f_i_put)]) R [] [a0,a1,a2,a3,a4,a5,a6]=G_i_Renew R f_i_SelfOk f_i_copyRecords f_i_copySelf f_i_fresh f_i_put a0 a1 a2 a3 a4 a5 a6:=(den2_of (by kernel_rfl)).trans (by kernel_rfl)
theorem g_i_Renew:F_i_Renew [a0,a1,a2,a3,a4,a5,a6]=G_i_Renew rounds F_i_SelfOk F_i_copyRecords F_i_copySelf F_i_fresh F_i_put a0 a1 a2 a3 a4 a5 a6:=gr_i_Renew rounds F_i_SelfOk F_i_copyRecords F_i_copySelf F_i_fresh F_i_put a0 a1 a2 a3 a4 a5 a6
def G_i_earsOf_l0:Option (List T) :=
 (ar2 fun a7 a8 =>
 Ym a8 (ii 2) fun a9 =>
 ifT a9 (
 cl1 (f_i_linkAt [a0,a1,a2,a3,a5,a8]) fun a10 =>
 Yh a10 (ii 0) fun a11 =>
 jn (ar1 fun a12 =>
 Ya a8 (ii 1) fun a13 =>
 k1 [a12,a13]) fun k2 =>
 ifT a11 (
 pv (.lit 4 [true,true,true,true]) [a5,a8,ii 0,bb false] fun a12 =>
 pv (.app true 4) [a7,a12] fun a13 =>
 k2 [a13]) (
 k2 [a7])) (
 Ya a5 (ii 1) fun a10 =>
 k0 [a7,a10])) ts
def G_i_earsOf_l1:Option (List T) :=
 (ar2 fun a4 a5 =>
 Ym a5 a0 fun a6 =>
 ifT a6 (
 iter (G_i_earsOf_l0 f_i_linkAt a0 a1 a2 a3 a5 k0) R [a4,ii 0]) (
 some [a4])) ts
def G_i_earsOf:Option (List T) :=
 iter (G_i_earsOf_l1 R f_i_linkAt a0 a1 a2 a3) R [.l [],ii 1]
theorem gr_i_earsOf:p_i_earsOf.den (pick [(40,f_i_linkAt)]) R [] [a0,a1,a2,a3]=G_i_earsOf R f_i_linkAt a0 a1 a2 a3:=(den2_of (by kernel_rfl)).trans (by kernel_rfl)
theorem g_i_earsOf:F_i_earsOf [a0,a1,a2,a3]=G_i_earsOf rounds F_i_linkAt a0 a1 a2 a3:=gr_i_earsOf rounds F_i_linkAt a0 a1 a2 a3
def G_i_NodeNew:Option (List T) :=
 cl3 (f_i_copyNet [a0,a1,a2]) fun a5 a6 a7 =>
 cl1 (f_i_SelfOk [a3,a4,a5,a6,a7,.l [],.l []]) fun a8 =>
 Yt a8 fun a9 =>
 ifT a9 (
 Yz (bb false) fun a10 =>
 Yz (ii 0) fun a11 =>
 Yz (ii 0) fun a12 =>
 Yz (ii 0) fun a13 =>
 some [a13,a12,a11,.l [],.l [],.l [],.l [],.l [],a10]) (
 cl8 (f_i_Renew [a3,a4,a5,a6,a7,.l [],.l []]) fun a10 a11 a12 a13 a14 a15 a16 a17 =>
 cl1 (f_i_earsOf [a0,a1,a2,a3]) fun a18 =>
 Yz (bb true) fun a19 =>
 Yz a12 fun a20 =>
 Yz a11 fun a21 =>
 Yz a10 fun a22 =>
 some [a22,a21,a20,a13,a14,a15,a16,a18,a19])
theorem gr_i_NodeNew:p_i_NodeNew.den (pick [(11,f_i_copyNet),(12,f_i_SelfOk),(13,f_i_Renew),(14,f_i_earsOf)]) R [] [a0,a1,a2,a3,a4]=G_i_NodeNew f_i_Renew f_i_SelfOk f_i_copyNet f_i_earsOf a0 a1 a2 a3 a4:=(den2_of (by kernel_rfl)).trans (by kernel_rfl)
theorem g_i_NodeNew:F_i_NodeNew [a0,a1,a2,a3,a4]=G_i_NodeNew F_i_Renew F_i_SelfOk F_i_copyNet F_i_earsOf a0 a1 a2 a3 a4:=gr_i_NodeNew rounds F_i_Renew F_i_SelfOk F_i_copyNet F_i_earsOf a0 a1 a2 a3 a4
def G_i_copyNode:Option (List T) :=
 cl7 (f_i_copySelf [a0,a1,a2,a3,a4,a5,a6]) fun a8 a9 a10 a11 a12 a13 a14 =>
 pv (.app true 4) [.l [],a7] fun a15 =>
 Yz a10 fun a16 =>
 Yz a9 fun a17 =>
 Yz a8 fun a18 =>
 some [a18,a17,a16,a11,a12,a13,a14,a15]
theorem gr_i_copyNode:p_i_copyNode.den (pick [(36,f_i_copySelf)]) R [] [a0,a1,a2,a3,a4,a5,a6,a7]=G_i_copyNode f_i_copySelf a0 a1 a2 a3 a4 a5 a6 a7:=(den2_of (by kernel_rfl)).trans (by kernel_rfl)
theorem g_i_copyNode:F_i_copyNode [a0,a1,a2,a3,a4,a5,a6,a7]=G_i_copyNode F_i_copySelf a0 a1 a2 a3 a4 a5 a6 a7:=gr_i_copyNode rounds F_i_copySelf a0 a1 a2 a3 a4 a5 a6 a7
def G_i_heardBy_l0:Option (List T) :=
 (ar2 fun a2 a3 =>
 Yl a3 a1 fun a4 =>
 ifT a4 (
 Y4 a0 a3 fun a6 a7 a8 a9 =>
 jn (ar1 fun a10 =>
 Ya a3 (ii 1) fun a11 =>
 k0 [a10,a11]) fun k1 =>
 ifT a9 (
 pv (.lit 1 [true,true]) [a6,a7] fun a10 =>
 Yp a2 a10 fun a11 =>
 k1 [a11]) (
 k1 [a2])) (
 some [a2])) ts
def G_i_heardBy:Option (List T) :=
 Yn a0 fun a1 =>
 iter (G_i_heardBy_l0 a0 a1) R [.l [],ii 0]
theorem gr_i_heardBy:p_i_heardBy.den (pick []) R [] [a0]=G_i_heardBy R a0:=(den2_of (by kernel_rfl)).trans (by kernel_rfl)
theorem g_i_heardBy:F_i_heardBy [a0]=G_i_heardBy rounds a0:=gr_i_heardBy rounds a0
def G_i_sameInts_l0:Option (List T) :=
 (ar2 fun a6 a7 =>
 Yl a7 a5 fun a8 =>
 ifT a8 (
 Y1 a0 a7 fun a10 =>
 Y1 a1 a7 fun a12 =>
 Yu a10 a12 fun a13 =>
 ifT a13 (
 Yz (bb false) fun a14 =>
 some [a14]) (
 Ya a7 (ii 1) fun a14 =>
 k0 [a6,a14])) (
 Yz (bb true) fun a9 =>
 some [a9])) ts
def G_i_sameInts:Option (List T) :=
 Yn a0 fun a2 =>
 Yn a1 fun a3 =>
 Yu a2 a3 fun a4 =>
 ifT a4 (
 Yz (bb false) fun a5 =>
 some [a5]) (
 Yn a0 fun a5 =>
 iter (G_i_sameInts_l0 a0 a1 a5) R [bb false,ii 0])
theorem gr_i_sameInts:p_i_sameInts.den (pick []) R [] [a0,a1]=G_i_sameInts R a0 a1:=(den2_of (by kernel_rfl)).trans (by kernel_rfl)
theorem g_i_sameInts:F_i_sameInts [a0,a1]=G_i_sameInts rounds a0 a1:=gr_i_sameInts rounds a0 a1
def G_i_NodeOk_l0:Option (List T) :=
 (ar2 fun a15 a16 =>
 Yl a16 a14 fun a17 =>
 ifT a17 (
 Y4 a7 a16 fun a19 a20 a21 a22 =>
 Yb a10 a16 fun a23 =>
 pv (.scell 4 0) [a10,a16] fun a24 =>
 Yu a19 a24 fun a25 =>
 ifT a25 (
 Yz (bb false) fun a26 =>
 some [a26]) (
 Yb a10 a16 fun a26 =>
 pv (.scell 4 1) [a10,a16] fun a27 =>
 Yu a20 a27 fun a28 =>
 ifT a28 (
 Yz (bb false) fun a29 =>
 some [a29]) (
 cl1 (f_i_in [a21,ii 0,ii 3]) fun a29 =>
 Yt a29 fun a30 =>
 ifT a30 (
 Yz (bb false) fun a31 =>
 some [a31]) (
 ifT a22 (
 Ye a21 (ii 0) fun a31 =>
 ifT a31 (
 Yz (bb false) fun a32 =>
 some [a32]) (
 Ya a16 (ii 1) fun a32 =>
 k0 [a15,a32])) (
 Ya a16 (ii 1) fun a31 =>
 k0 [a15,a31]))))) (
 cl1 (f_i_heardBy [a7]) fun a18 =>
 cl1 (f_i_sameInts [a18,a5]) fun a19 =>
 Yz a19 fun a20 =>
 some [a20])) ts
def G_i_NodeOk:Option (List T) :=
 cl1 (f_i_SelfOk [a0,a1,a2,a3,a4,a5,a6]) fun a8 =>
 Yt a8 fun a9 =>
 ifT a9 (
 Yz (bb false) fun a10 =>
 some [a10]) (
 cl1 (f_i_earsOf [a2,a3,a4,a0]) fun a10 =>
 Yn a10 fun a11 =>
 Yn a7 fun a12 =>
 Yu a11 a12 fun a13 =>
 ifT a13 (
 Yz (bb false) fun a14 =>
 some [a14]) (
 Yn a7 fun a14 =>
 iter (G_i_NodeOk_l0 f_i_heardBy f_i_in f_i_sameInts a5 a7 a10 a14) R [bb false,ii 0]))
theorem gr_i_NodeOk:p_i_NodeOk.den (pick [(12,f_i_SelfOk),(14,f_i_earsOf),(17,f_i_heardBy),(33,f_i_in),(41,f_i_sameInts)]) R [] [a0,a1,a2,a3,a4,a5,a6,a7]=G_i_NodeOk R f_i_SelfOk f_i_earsOf f_i_heardBy f_i_in f_i_sameInts a0 a1 a2 a3 a4 a5 a6 a7:=(den2_of (by kernel_rfl)).trans (by kernel_rfl)
theorem g_i_NodeOk:F_i_NodeOk [a0,a1,a2,a3,a4,a5,a6,a7]=G_i_NodeOk rounds F_i_SelfOk F_i_earsOf F_i_heardBy F_i_in F_i_sameInts a0 a1 a2 a3 a4 a5 a6 a7:=gr_i_NodeOk rounds F_i_SelfOk F_i_earsOf F_i_heardBy F_i_in F_i_sameInts a0 a1 a2 a3 a4 a5 a6 a7
def G_i_Node_say:Option (List T) :=
 Yz a10 fun a15 =>
 Yz a9 fun a16 =>
 Yz a0 fun a17 =>
 Yz a8 fun a18 =>
 some [a18,a17,a16,a15,a13,a14,a0,a1,a2,a3,a4,a5,a6,a7]
theorem gr_i_Node_say:p_i_Node_say.den (pick []) R [] [a0,a1,a2,a3,a4,a5,a6,a7,a8,a9,a10,a11,a12,a13,a14]=G_i_Node_say a0 a1 a2 a3 a4 a5 a6 a7 a8 a9 a10 a13 a14:=(den2_of (by kernel_rfl)).trans (by kernel_rfl)
theorem g_i_Node_say:F_i_Node_say [a0,a1,a2,a3,a4,a5,a6,a7,a8,a9,a10,a11,a12,a13,a14]=G_i_Node_say a0 a1 a2 a3 a4 a5 a6 a7 a8 a9 a10 a13 a14:=gr_i_Node_say rounds a0 a1 a2 a3 a4 a5 a6 a7 a8 a9 a10 a11 a12 a13 a14
def G_i_Scope_l0:Option (List T) :=
 (ar2 fun a3 a4 =>
 Yl a4 a2 fun a5 =>
 ifT a5 (
 Y8 a0 a4 fun a7 a8 a9 a10 a11 a12 a13 a14 =>
 Ye a7 a1 fun a15 =>
 ifT a15 (
 jn (ar1 fun a16 =>
 Ya a4 (ii 1) fun a17 =>
 k0 [a16,a17]) fun k1 =>
 cl8 (f_i_copyRecord [a7,a8,a9,a10,a11,a12,a13,a14]) fun a16 a17 a18 a19 a20 a21 a22 a23 =>
 pv (.lit 8 [true,true,true,true,true,false,true,true]) [a16,a17,a18,a19,a20,a21,a22,a23] fun a24 =>
 Yy a3 a24 fun a25 =>
 k1 [a25]) (
 Ye a7 (ii 9) fun a16 =>
 jn (ar1 fun a17 =>
 Ya a4 (ii 1) fun a18 =>
 k0 [a17,a18]) fun k1 =>
 ifT a16 (
 cl8 (f_i_copyRecord [a7,a8,a9,a10,a11,a12,a13,a14]) fun a17 a18 a19 a20 a21 a22 a23 a24 =>
 pv (.lit 8 [true,true,true,true,true,false,true,true]) [a17,a18,a19,a20,a21,a22,a23,a24] fun a25 =>
 Yy a3 a25 fun a26 =>
 k1 [a26]) (
 k1 [a3]))) (
 some [a3])) ts
def G_i_Scope:Option (List T) :=
 Yn a0 fun a2 =>
 iter (G_i_Scope_l0 f_i_copyRecord a0 a1 a2) R [.l [],ii 0]
theorem gr_i_Scope:p_i_Scope.den (pick [(64,f_i_copyRecord)]) R [] [a0,a1]=G_i_Scope R f_i_copyRecord a0 a1:=(den2_of (by kernel_rfl)).trans (by kernel_rfl)
theorem g_i_Scope:F_i_Scope [a0,a1]=G_i_Scope rounds F_i_copyRecord a0 a1:=gr_i_Scope rounds F_i_copyRecord a0 a1
def G_i_header:Option (List T) :=
 Ye a1 (ii 3) fun a8 =>
 jn (ar1 fun a9 =>
 Yz (bb false) fun a10 =>
 Yz a9 fun a11 =>
 Yz a4 fun a12 =>
 Yz a3 fun a13 =>
 Yz a2 fun a14 =>
 Yz a1 fun a15 =>
 Yz a0 fun a16 =>
 some [a16,a15,a14,a13,a12,.l [],a11,a10]) fun k0 =>
 ifT a8 (
 k0 [ii 1]) (
 k0 [ii 0])
theorem gr_i_header:p_i_header.den (pick []) R [] [a0,a1,a2,a3,a4,a5,a6,a7]=G_i_header a0 a1 a2 a3 a4:=(den2_of (by kernel_rfl)).trans (by kernel_rfl)
theorem g_i_header:F_i_header [a0,a1,a2,a3,a4,a5,a6,a7]=G_i_header a0 a1 a2 a3 a4:=gr_i_header rounds a0 a1 a2 a3 a4 a5 a6 a7
def G_i_Headers_l0:Option (List T) :=
 (ar3 fun a4 a5 a6 =>
 Yl a5 a3 fun a7 =>
 ifT a7 (
 Y8 a6 a5 fun a9 a10 a11 a12 a13 a14 a15 a16 =>
 cl8 (f_i_header [a9,a10,a11,a12,a13,a14,a15,a16]) fun a17 a18 a19 a20 a21 a22 a23 a24 =>
 pv (.lit 8 [true,true,true,true,true,false,true,true]) [a17,a18,a19,a20,a21,a22,a23,a24] fun a25 =>
 Yy a4 a25 fun a26 =>
 Ya a5 (ii 1) fun a27 =>
 k0 [a26,a27,a6]) (
 some [a4])) ts
def G_i_Headers:Option (List T) :=
 cl1 (f_i_Scope [a0,a1]) fun a2 =>
 Yn a2 fun a3 =>
 iter (G_i_Headers_l0 f_i_header a3) R [.l [],ii 0,a2]
theorem gr_i_Headers:p_i_Headers.den (pick [(43,f_i_Scope),(44,f_i_header)]) R [] [a0,a1]=G_i_Headers R f_i_Scope f_i_header a0 a1:=(den2_of (by kernel_rfl)).trans (by kernel_rfl)
theorem g_i_Headers:F_i_Headers [a0,a1]=G_i_Headers rounds F_i_Scope F_i_header a0 a1:=gr_i_Headers rounds F_i_Scope F_i_header a0 a1
def G_i_TickNode_l0:Option (List T) :=
 (ar1 fun a63 =>
 Yn a53 fun a64 =>
 Yl a63 a64 fun a65 =>
 ifT a65 (
 Yq a53 a63 fun a67 =>
 Yl a67 a57 fun a68 =>
 ifT a68 (
 Ya a63 (ii 1) fun a69 =>
 k4 [a69]) (
 Yn a53 fun a69 =>
 Yl a63 a69 fun a70 =>
 ifT a70 (
 Yq a53 a63 fun a72 =>
 Ye a72 a57 fun a73 =>
 ifT a73 (
 k3 [a53]) (
 Yw a53 a63 fun a74 =>
 cl1 (f_i_copyInts [a74]) fun a75 =>
 Yx a57 fun a76 =>
 Yp a75 a76 fun a77 =>
 Yv a53 a63 fun a78 =>
 Yp a77 a78 fun a79 =>
 k3 [a79])) (
 Yw a53 a63 fun a71 =>
 cl1 (f_i_copyInts [a71]) fun a72 =>
 Yx a57 fun a73 =>
 Yp a72 a73 fun a74 =>
 Yv a53 a63 fun a75 =>
 Yp a74 a75 fun a76 =>
 k3 [a76]))) (
 Yn a53 fun a66 =>
 Yl a63 a66 fun a67 =>
 ifT a67 (
 Yq a53 a63 fun a69 =>
 Ye a69 a57 fun a70 =>
 ifT a70 (
 k3 [a53]) (
 Yw a53 a63 fun a71 =>
 cl1 (f_i_copyInts [a71]) fun a72 =>
 Yx a57 fun a73 =>
 Yp a72 a73 fun a74 =>
 Yv a53 a63 fun a75 =>
 Yp a74 a75 fun a76 =>
 k3 [a76])) (
 Yw a53 a63 fun a68 =>
 cl1 (f_i_copyInts [a68]) fun a69 =>
 Yx a57 fun a70 =>
 Yp a69 a70 fun a71 =>
 Yv a53 a63 fun a72 =>
 Yp a71 a72 fun a73 =>
 k3 [a73]))) ts
def G_i_TickNode_l1:Option (List T) :=
 (ar2 fun a53 a54 =>
 Yl a54 a52 fun a55 =>
 ifT a55 (
 Y4 a41 a54 fun a57 a58 a59 a60 =>
 Ye a58 a49 fun a61 =>
 ifT a61 (
 Yg a59 (ii 0) fun a62 =>
 jn (ar1 fun a63 =>
 Ya a54 (ii 1) fun a64 =>
 k2 [a63,a64]) fun k3 =>
 ifT a62 (
 iter (G_i_TickNode_l0 f_i_copyInts a53 a57 k3) R [ii 0]) (
 k3 [a53])) (
 jn (ar1 fun a62 =>
 Ya a54 (ii 1) fun a63 =>
 k2 [a62,a63]) fun k3 =>
 k3 [a53])) (
 cl14 (f_i_Node_say [a34,a35,a36,a37,a38,a39,a40,a41,ii 1,a48,a49,a50,a51,a53,.l []]) fun a56 a57 a58 a59 a60 a61 a62 a63 a64 a65 a66 a67 a68 a69 =>
 pv (.lit 6 []) [a56,a57,a58,a59,a60,a61] fun a70 =>
 pv (.app false 6) [a32,a70] fun a71 =>
 jn (ar9 fun a72 a73 a74 a75 a76 a77 a78 a79 a80 =>
 Ya a33 (ii 1) fun a81 =>
 k1 [a80,a81,a72,a73,a74,a75,a76,a77,a78,a79,a42,a43,a44,a45]) fun k3 =>
 ifT a51 (
 cl1 (f_i_Headers [a68,a49]) fun a72 =>
 cl14 (f_i_Node_say [a62,a63,a64,a65,a66,a67,a68,a69,ii 2,a48,a49,a50,a51,.l [],a72]) fun a73 a74 a75 a76 a77 a78 a79 a80 a81 a82 a83 a84 a85 a86 =>
 pv (.lit 6 []) [a73,a74,a75,a76,a77,a78] fun a87 =>
 pv (.app false 6) [a71,a87] fun a88 =>
 k3 [a79,a80,a81,a82,a83,a84,a85,a86,a88]) (
 k3 [a62,a63,a64,a65,a66,a67,a68,a69,a71]))) ts
def G_i_TickNode_l2:Option (List T) :=
 (ar14 fun a32 a33 a34 a35 a36 a37 a38 a39 a40 a41 a42 a43 a44 a45 =>
 Yl a33 a31 fun a46 =>
 ifT a46 (
 Y4 a45 a33 fun a48 a49 a50 a51 =>
 Yn a41 fun a52 =>
 iter (G_i_TickNode_l1 R f_i_Headers f_i_Node_say f_i_copyInts a32 a33 a34 a35 a36 a37 a38 a39 a40 a41 a42 a43 a44 a45 a48 a49 a50 a51 a52 k1) R [.l [],ii 0]) (
 Yz a36 fun a47 =>
 Yz a35 fun a48 =>
 Yz a34 fun a49 =>
 some [a49,a48,a47,a37,a38,a39,a40,a41,a32])) ts
def G_i_TickNode_l3:Option (List T) :=
 (ar2 fun a19 a20 =>
 Yl a19 a18 fun a21 =>
 ifT a21 (
 Yb a20 a19 fun a22 =>
 pv (.scell 4 2) [a20,a19] fun a23 =>
 Ys a23 (ii 1) fun a24 =>
 pv (.mx) [a24,ii 0] fun a25 =>
 pv (.put true 4 2 1) [a20,a19,a25] fun a26 =>
 pv (.scell 4 3) [a26,a19] fun a27 =>
 ifT a27 (
 pv (.scell 4 2) [a26,a19] fun a28 =>
 Yg a28 (ii 0) fun a29 =>
 pv (.put true 4 3 1) [a26,a19,a29] fun a30 =>
 Ya a19 (ii 1) fun a31 =>
 k0 [a31,a30]) (
 pv (.put true 4 3 1) [a26,a19,bb false] fun a28 =>
 Ya a19 (ii 1) fun a29 =>
 k0 [a29,a28])) (
 cl1 (f_i_heardBy [a20]) fun a22 =>
 cl8 (f_i_Renew [a8,a9,a10,a11,a12,a22,a14]) fun a23 a24 a25 a26 a27 a28 a29 a30 =>
 Yn a20 fun a31 =>
 iter (G_i_TickNode_l2 R f_i_Headers f_i_Node_say f_i_copyInts a31) R [.l [],ii 0,a23,a24,a25,a26,a27,a28,a29,a20,a20,a20,a20,a20])) ts
def G_i_TickNode:Option (List T) :=
 cl8 (f_i_copyNode [a0,a1,a2,a3,a4,a5,a6,a7]) fun a8 a9 a10 a11 a12 a13 a14 a15 =>
 cl1 (f_i_NodeOk [a0,a1,a2,a3,a4,a5,a6,a7]) fun a16 =>
 Yt a16 fun a17 =>
 ifT a17 (
 Yz a10 fun a18 =>
 Yz a9 fun a19 =>
 Yz a8 fun a20 =>
 some [a20,a19,a18,a11,a12,a13,a14,a15,.l []]) (
 Yn a15 fun a18 =>
 iter (G_i_TickNode_l3 R f_i_Headers f_i_Node_say f_i_Renew f_i_copyInts f_i_heardBy a8 a9 a10 a11 a12 a14 a18) R [ii 0,a15])
theorem gr_i_TickNode:p_i_TickNode.den (pick [(13,f_i_Renew),(15,f_i_copyNode),(16,f_i_NodeOk),(17,f_i_heardBy),(20,f_i_Node_say),(21,f_i_Headers),(42,f_i_copyInts)]) R [] [a0,a1,a2,a3,a4,a5,a6,a7]=G_i_TickNode R f_i_Headers f_i_NodeOk f_i_Node_say f_i_Renew f_i_copyInts f_i_copyNode f_i_heardBy a0 a1 a2 a3 a4 a5 a6 a7:=(den2_of (by kernel_rfl)).trans (by kernel_rfl)
theorem g_i_TickNode:F_i_TickNode [a0,a1,a2,a3,a4,a5,a6,a7]=G_i_TickNode rounds F_i_Headers F_i_NodeOk F_i_Node_say F_i_Renew F_i_copyInts F_i_copyNode F_i_heardBy a0 a1 a2 a3 a4 a5 a6 a7:=gr_i_TickNode rounds F_i_Headers F_i_NodeOk F_i_Node_say F_i_Renew F_i_copyInts F_i_copyNode F_i_heardBy a0 a1 a2 a3 a4 a5 a6 a7
def G_i_earAt_l0:Option (List T) :=
 (ar2 fun a11 a12 =>
 Yl a12 a10 fun a13 =>
 ifT a13 (
 Y4 a7 a12 fun a15 a16 a17 a18 =>
 Ye a15 a8 fun a19 =>
 ifT a19 (
 Ye a16 a9 fun a20 =>
 ifT a20 (
 Yz a12 fun a21 =>
 some [a21]) (
 Ya a12 (ii 1) fun a21 =>
 k0 [a11,a21])) (
 Ya a12 (ii 1) fun a20 =>
 k0 [a11,a20])) (
 Yz (ii (-1)) fun a14 =>
 some [a14])) ts
def G_i_earAt:Option (List T) :=
 Yn a7 fun a10 =>
 iter (G_i_earAt_l0 a7 a8 a9 a10) R [ii 0,ii 0]
theorem gr_i_earAt:p_i_earAt.den (pick []) R [] [a0,a1,a2,a3,a4,a5,a6,a7,a8,a9]=G_i_earAt R a7 a8 a9:=(den2_of (by kernel_rfl)).trans (by kernel_rfl)
theorem g_i_earAt:F_i_earAt [a0,a1,a2,a3,a4,a5,a6,a7,a8,a9]=G_i_earAt rounds a7 a8 a9:=gr_i_earAt rounds a0 a1 a2 a3 a4 a5 a6 a7 a8 a9
def G_i_heardUp_l0:Option (List T) :=
 (ar2 fun a2 a3 =>
 Yl a3 a1 fun a4 =>
 ifT a4 (
 Y1 a0 a3 fun a6 =>
 cl1 (f_i_in [a6,ii 1,ii 6]) fun a7 =>
 Yt a7 fun a8 =>
 ifT a8 (
 Yz (bb false) fun a9 =>
 some [a9]) (
 Yg a3 (ii 0) fun a9 =>
 ifT a9 (
 Ys a3 (ii 1) fun a10 =>
 Y1 a0 a10 fun a12 =>
 Yh a12 a6 fun a13 =>
 ifT a13 (
 Yz (bb false) fun a14 =>
 some [a14]) (
 Ya a3 (ii 1) fun a14 =>
 k0 [a2,a14])) (
 Ya a3 (ii 1) fun a10 =>
 k0 [a2,a10]))) (
 Yz (bb true) fun a5 =>
 some [a5])) ts
def G_i_heardUp:Option (List T) :=
 Yn a0 fun a1 =>
 iter (G_i_heardUp_l0 f_i_in a0 a1) R [bb false,ii 0]
theorem gr_i_heardUp:p_i_heardUp.den (pick [(33,f_i_in)]) R [] [a0]=G_i_heardUp R f_i_in a0:=(den2_of (by kernel_rfl)).trans (by kernel_rfl)
theorem g_i_heardUp:F_i_heardUp [a0]=G_i_heardUp rounds F_i_in a0:=gr_i_heardUp rounds F_i_in a0
def G_i_sumsOk_l0:Option (List T) :=
 (ar2 fun a2 a3 =>
 Yl a3 a1 fun a4 =>
 ifT a4 (
 Y8 a0 a3 fun a6 a7 a8 a9 a10 a11 a12 a13 =>
 cl8 (f_i_header [a6,a7,a8,a9,a10,a11,a12,a13]) fun a14 a15 a16 a17 a18 a19 a20 a21 =>
 cl1 (f_i_SameBody [a14,a15,a16,a17,a18,a19,a20,a21,a6,a7,a8,a9,a10,a11,a12,a13]) fun a22 =>
 Yt a22 fun a23 =>
 ifT a23 (
 Yz (bb false) fun a24 =>
 some [a24]) (
 Ya a3 (ii 1) fun a24 =>
 k0 [a2,a24])) (
 Yz (bb true) fun a5 =>
 some [a5])) ts
def G_i_sumsOk:Option (List T) :=
 Yn a0 fun a1 =>
 iter (G_i_sumsOk_l0 f_i_SameBody f_i_header a0 a1) R [bb false,ii 0]
theorem gr_i_sumsOk:p_i_sumsOk.den (pick [(44,f_i_header),(61,f_i_SameBody)]) R [] [a0]=G_i_sumsOk R f_i_SameBody f_i_header a0:=(den2_of (by kernel_rfl)).trans (by kernel_rfl)
theorem g_i_sumsOk:F_i_sumsOk [a0]=G_i_sumsOk rounds F_i_SameBody F_i_header a0:=gr_i_sumsOk rounds F_i_SameBody F_i_header a0
def G_i_PacketOk_l0:Option (List T) :=
 (ar2 fun a17 a18 =>
 Yl a18 a16 fun a19 =>
 ifT a19 (
 Y8 a5 a18 fun a21 a22 a23 a24 a25 a26 a27 a28 =>
 Yu a21 a3 fun a29 =>
 ifT a29 (
 Yu a21 (ii 9) fun a30 =>
 ifT a30 (
 Yz (bb false) fun a31 =>
 some [a31]) (
 Ya a18 (ii 1) fun a31 =>
 k0 [a17,a31])) (
 Ya a18 (ii 1) fun a30 =>
 k0 [a17,a30])) (
 Yn a4 fun a20 =>
 Ye a20 (ii 0) fun a21 =>
 ifT a21 (
 cl1 (f_i_StoreOk [a5]) fun a22 =>
 ifT a22 (
 Ye a0 (ii 3) fun a23 =>
 ifT a23 (
 Yz (bb true) fun a24 =>
 some [a24]) (
 cl1 (f_i_sumsOk [a5]) fun a24 =>
 Yz a24 fun a25 =>
 some [a25])) (
 Yz (bb false) fun a23 =>
 some [a23])) (
 Yz (bb false) fun a22 =>
 some [a22]))) ts
def G_i_PacketOk:Option (List T) :=
 cl1 (f_i_in [a0,ii 1,ii 3]) fun a6 =>
 Yt a6 fun a7 =>
 ifT a7 (
 Yz (bb false) fun a8 =>
 some [a8]) (
 cl1 (f_i_in [a1,ii 1,ii 6]) fun a8 =>
 Yt a8 fun a9 =>
 ifT a9 (
 Yz (bb false) fun a10 =>
 some [a10]) (
 cl1 (f_i_in [a2,ii 1,ii 6]) fun a10 =>
 Yt a10 fun a11 =>
 ifT a11 (
 Yz (bb false) fun a12 =>
 some [a12]) (
 Ye a1 a2 fun a12 =>
 ifT a12 (
 Yz (bb false) fun a13 =>
 some [a13]) (
 cl1 (f_i_in [a3,ii 0,ii 2]) fun a13 =>
 Yt a13 fun a14 =>
 ifT a14 (
 Yz (bb false) fun a15 =>
 some [a15]) (
 Ye a0 (ii 1) fun a15 =>
 ifT a15 (
 cl1 (f_i_heardUp [a4]) fun a16 =>
 ifT a16 (
 Yn a5 fun a17 =>
 Ye a17 (ii 0) fun a18 =>
 Yz a18 fun a19 =>
 some [a19]) (
 Yz (bb false) fun a17 =>
 some [a17])) (
 Yn a5 fun a16 =>
 iter (G_i_PacketOk_l0 f_i_StoreOk f_i_sumsOk a0 a3 a4 a5 a16) R [bb false,ii 0]))))))
theorem gr_i_PacketOk:p_i_PacketOk.den (pick [(33,f_i_in),(35,f_i_StoreOk),(45,f_i_heardUp),(46,f_i_sumsOk)]) R [] [a0,a1,a2,a3,a4,a5]=G_i_PacketOk R f_i_StoreOk f_i_heardUp f_i_in f_i_sumsOk a0 a1 a2 a3 a4 a5:=(den2_of (by kernel_rfl)).trans (by kernel_rfl)
theorem g_i_PacketOk:F_i_PacketOk [a0,a1,a2,a3,a4,a5]=G_i_PacketOk rounds F_i_StoreOk F_i_heardUp F_i_in F_i_sumsOk a0 a1 a2 a3 a4 a5:=gr_i_PacketOk rounds F_i_StoreOk F_i_heardUp F_i_in F_i_sumsOk a0 a1 a2 a3 a4 a5
def G_i_newest_l0:Option (List T) :=
 (ar2 fun a7 a8 =>
 Yl a8 a6 fun a9 =>
 ifT a9 (
 Y8 a1 a8 fun a11 a12 a13 a14 a15 a16 a17 a18 =>
 cl1 (f_i_keyAt [a7,a11,a12,a13,a14,a15,a16,a17,a18]) fun a19 =>
 Yl a19 (ii 0) fun a20 =>
 ifT a20 (
 jn (ar1 fun a21 =>
 Ya a8 (ii 1) fun a22 =>
 k1 [a21,a22]) fun k2 =>
 cl1 (f_i_put [a7,a11,a12,a13,a14,a15,a16,a17,a18]) fun a21 =>
 k2 [a21]) (
 Yb a7 a19 fun a21 =>
 pv (.scell 8 4) [a7,a19] fun a22 =>
 Yl a22 a15 fun a23 =>
 jn (ar1 fun a24 =>
 Ya a8 (ii 1) fun a25 =>
 k1 [a24,a25]) fun k2 =>
 ifT a23 (
 cl1 (f_i_put [a7,a11,a12,a13,a14,a15,a16,a17,a18]) fun a24 =>
 k2 [a24]) (
 k2 [a7]))) (
 some [a7])) ts
def G_i_newest_l1:Option (List T) :=
 (ar2 fun a3 a4 =>
 Yl a4 a2 fun a5 =>
 ifT a5 (
 Y8 a0 a4 fun a7 a8 a9 a10 a11 a12 a13 a14 =>
 cl1 (f_i_put [a3,a7,a8,a9,a10,a11,a12,a13,a14]) fun a15 =>
 Ya a4 (ii 1) fun a16 =>
 k0 [a15,a16]) (
 Yn a1 fun a6 =>
 iter (G_i_newest_l0 f_i_keyAt f_i_put a1 a6) R [a3,ii 0])) ts
def G_i_newest:Option (List T) :=
 Yn a0 fun a2 =>
 iter (G_i_newest_l1 R f_i_keyAt f_i_put a0 a1 a2) R [.l [],ii 0]
theorem gr_i_newest:p_i_newest.den (pick [(39,f_i_put),(60,f_i_keyAt)]) R [] [a0,a1]=G_i_newest R f_i_keyAt f_i_put a0 a1:=(den2_of (by kernel_rfl)).trans (by kernel_rfl)
theorem g_i_newest:F_i_newest [a0,a1]=G_i_newest rounds F_i_keyAt F_i_put a0 a1:=gr_i_newest rounds F_i_keyAt F_i_put a0 a1
def G_i_Newer_l0:Option (List T) :=
 (ar2 fun a3 a4 =>
 Yl a4 a2 fun a5 =>
 ifT a5 (
 Y8 a0 a4 fun a7 a8 a9 a10 a11 a12 a13 a14 =>
 cl1 (f_i_keyAt [a1,a7,a8,a9,a10,a11,a12,a13,a14]) fun a15 =>
 Yl a15 (ii 0) fun a16 =>
 ifT a16 (
 jn (ar1 fun a17 =>
 Ya a4 (ii 1) fun a18 =>
 k0 [a17,a18]) fun k1 =>
 cl8 (f_i_copyRecord [a7,a8,a9,a10,a11,a12,a13,a14]) fun a17 a18 a19 a20 a21 a22 a23 a24 =>
 pv (.lit 8 [true,true,true,true,true,false,true,true]) [a17,a18,a19,a20,a21,a22,a23,a24] fun a25 =>
 Yy a3 a25 fun a26 =>
 k1 [a26]) (
 Yb a1 a15 fun a17 =>
 Yc 8 4 a1 a15 fun a18 =>
 Yl a18 a11 fun a19 =>
 jn (ar1 fun a20 =>
 Ya a4 (ii 1) fun a21 =>
 k0 [a20,a21]) fun k1 =>
 ifT a19 (
 cl8 (f_i_copyRecord [a7,a8,a9,a10,a11,a12,a13,a14]) fun a20 a21 a22 a23 a24 a25 a26 a27 =>
 pv (.lit 8 [true,true,true,true,true,false,true,true]) [a20,a21,a22,a23,a24,a25,a26,a27] fun a28 =>
 Yy a3 a28 fun a29 =>
 k1 [a29]) (
 k1 [a3]))) (
 some [a3])) ts
def G_i_Newer:Option (List T) :=
 Yn a0 fun a2 =>
 iter (G_i_Newer_l0 f_i_copyRecord f_i_keyAt a0 a1 a2) R [.l [],ii 0]
theorem gr_i_Newer:p_i_Newer.den (pick [(60,f_i_keyAt),(64,f_i_copyRecord)]) R [] [a0,a1]=G_i_Newer R f_i_copyRecord f_i_keyAt a0 a1:=(den2_of (by kernel_rfl)).trans (by kernel_rfl)
theorem g_i_Newer:F_i_Newer [a0,a1]=G_i_Newer rounds F_i_copyRecord F_i_keyAt a0 a1:=gr_i_Newer rounds F_i_copyRecord F_i_keyAt a0 a1
def G_i_Install:Option (List T) :=
 cl1 (f_i_StoreOk [a0]) fun a9 =>
 Yt a9 fun a10 =>
 ifT a10 (
 Yz (bb false) fun a11 =>
 some [.l [],a11]) (
 cl1 (f_i_RecordOk [a1,a2,a3,a4,a5,a6,a7,a8]) fun a11 =>
 Yt a11 fun a12 =>
 ifT a12 (
 Yz (bb false) fun a13 =>
 some [.l [],a13]) (
 cl1 (f_i_keyAt [a0,a1,a2,a3,a4,a5,a6,a7,a8]) fun a13 =>
 Yh a13 (ii 0) fun a14 =>
 ifT a14 (
 Yb a0 a13 fun a15 =>
 Yc 8 4 a0 a13 fun a16 =>
 Yh a16 a5 fun a17 =>
 ifT a17 (
 Yz (bb false) fun a18 =>
 some [.l [],a18]) (
 Yl a13 (ii 0) fun a18 =>
 ifT a18 (
 Yn a0 fun a19 =>
 Yh a19 (ii 150) fun a20 =>
 ifT a20 (
 Yz (bb false) fun a21 =>
 some [.l [],a21]) (
 cl1 (f_i_put [a0,a1,a2,a3,a4,a5,a6,a7,a8]) fun a21 =>
 Yz (bb true) fun a22 =>
 some [a21,a22])) (
 cl1 (f_i_put [a0,a1,a2,a3,a4,a5,a6,a7,a8]) fun a19 =>
 Yz (bb true) fun a20 =>
 some [a19,a20]))) (
 Yl a13 (ii 0) fun a15 =>
 ifT a15 (
 Yn a0 fun a16 =>
 Yh a16 (ii 150) fun a17 =>
 ifT a17 (
 Yz (bb false) fun a18 =>
 some [.l [],a18]) (
 cl1 (f_i_put [a0,a1,a2,a3,a4,a5,a6,a7,a8]) fun a18 =>
 Yz (bb true) fun a19 =>
 some [a18,a19])) (
 cl1 (f_i_put [a0,a1,a2,a3,a4,a5,a6,a7,a8]) fun a16 =>
 Yz (bb true) fun a17 =>
 some [a16,a17]))))
theorem gr_i_Install:p_i_Install.den (pick [(35,f_i_StoreOk),(39,f_i_put),(57,f_i_RecordOk),(60,f_i_keyAt)]) R [] [a0,a1,a2,a3,a4,a5,a6,a7,a8]=G_i_Install f_i_RecordOk f_i_StoreOk f_i_keyAt f_i_put a0 a1 a2 a3 a4 a5 a6 a7 a8:=(den2_of (by kernel_rfl)).trans (by kernel_rfl)
theorem g_i_Install:F_i_Install [a0,a1,a2,a3,a4,a5,a6,a7,a8]=G_i_Install F_i_RecordOk F_i_StoreOk F_i_keyAt F_i_put a0 a1 a2 a3 a4 a5 a6 a7 a8:=gr_i_Install rounds F_i_RecordOk F_i_StoreOk F_i_keyAt F_i_put a0 a1 a2 a3 a4 a5 a6 a7 a8
def G_i_learned_l0:Option (List T) :=
 (ar3 fun a4 a5 a6 =>
 Yl a6 a3 fun a7 =>
 ifT a7 (
 Y8 a1 a6 fun a9 a10 a11 a12 a13 a14 a15 a16 =>
 cl2 (f_i_Install [a4,a9,a10,a11,a12,a13,a14,a15,a16]) fun a17 a18 =>
 jn (ar2 fun a19 a20 =>
 Ya a6 (ii 1) fun a21 =>
 k0 [a19,a20,a21]) fun k1 =>
 ifT a18 (
 cl8 (f_i_copyRecord [a9,a10,a11,a12,a13,a14,a15,a16]) fun a19 a20 a21 a22 a23 a24 a25 a26 =>
 pv (.lit 8 [true,true,true,true,true,false,true,true]) [a19,a20,a21,a22,a23,a24,a25,a26] fun a27 =>
 Yy a5 a27 fun a28 =>
 k1 [a17,a28]) (
 k1 [a4,a5])) (
 some [a4,a5])) ts
def G_i_learned:Option (List T) :=
 cl1 (f_i_copyRecords [a0]) fun a2 =>
 Yn a1 fun a3 =>
 iter (G_i_learned_l0 f_i_Install f_i_copyRecord a1 a3) R [a2,.l [],ii 0]
theorem gr_i_learned:p_i_learned.den (pick [(38,f_i_copyRecords),(64,f_i_copyRecord),(66,f_i_Install)]) R [] [a0,a1]=G_i_learned R f_i_Install f_i_copyRecord f_i_copyRecords a0 a1:=(den2_of (by kernel_rfl)).trans (by kernel_rfl)
theorem g_i_learned:F_i_learned [a0,a1]=G_i_learned rounds F_i_Install F_i_copyRecord F_i_copyRecords a0 a1:=gr_i_learned rounds F_i_Install F_i_copyRecord F_i_copyRecords a0 a1
def G_i_Learn:Option (List T) :=
 cl7 (f_i_copySelf [a0,a1,a2,a3,a4,a5,a6]) fun a8 a9 a10 a11 a12 a13 a14 =>
 cl1 (f_i_SelfOk [a0,a1,a2,a3,a4,a5,a6]) fun a15 =>
 Yt a15 fun a16 =>
 ifT a16 (
 Yz a10 fun a17 =>
 Yz a9 fun a18 =>
 Yz a8 fun a19 =>
 some [a19,a18,a17,a11,a12,a13,a14,.l []]) (
 cl2 (f_i_learned [a6,a7]) fun a17 a18 =>
 Yz a10 fun a19 =>
 Yz a9 fun a20 =>
 Yz a8 fun a21 =>
 some [a21,a20,a19,a11,a12,a13,a17,a18])
theorem gr_i_Learn:p_i_Learn.den (pick [(12,f_i_SelfOk),(36,f_i_copySelf),(49,f_i_learned)]) R [] [a0,a1,a2,a3,a4,a5,a6,a7]=G_i_Learn f_i_SelfOk f_i_copySelf f_i_learned a0 a1 a2 a3 a4 a5 a6 a7:=(den2_of (by kernel_rfl)).trans (by kernel_rfl)
theorem g_i_Learn:F_i_Learn [a0,a1,a2,a3,a4,a5,a6,a7]=G_i_Learn F_i_SelfOk F_i_copySelf F_i_learned a0 a1 a2 a3 a4 a5 a6 a7:=gr_i_Learn rounds F_i_SelfOk F_i_copySelf F_i_learned a0 a1 a2 a3 a4 a5 a6 a7
def G_i_HearNode_l0:Option (List T) :=
 (ar11 fun a53 a54 a55 a56 a57 a58 a59 a60 a61 a62 a63 =>
 Yl a54 a52 fun a64 =>
 ifT a64 (
 Y4 a63 a54 fun a66 a67 a68 a69 =>
 cl1 (f_i_Scope [a50,a67]) fun a70 =>
 Ye a54 a22 fun a71 =>
 jn (ar1 fun a72 =>
 ifT a69 (
 Yn a72 fun a73 =>
 Yg a73 (ii 0) fun a74 =>
 jn (ar11 fun a75 a76 a77 a78 a79 a80 a81 a82 a83 a84 a85 =>
 Ya a54 (ii 1) fun a86 =>
 k0 [a83,a86,a75,a76,a77,a78,a79,a80,a81,a82,a84]) fun k1 =>
 ifT a74 (
 cl14 (f_i_Node_say [a55,a56,a57,a58,a59,a60,a61,a62,ii 3,a66,a67,a68,a69,.l [],a72]) fun a75 a76 a77 a78 a79 a80 a81 a82 a83 a84 a85 a86 a87 a88 =>
 pv (.lit 6 []) [a75,a76,a77,a78,a79,a80] fun a89 =>
 pv (.app false 6) [a53,a89] fun a90 =>
 k1 [a81,a82,a83,a84,a85,a86,a87,a88,a90,a63,a72]) (
 k1 [a55,a56,a57,a58,a59,a60,a61,a62,a53,a63,a72])) (
 jn (ar11 fun a73 a74 a75 a76 a77 a78 a79 a80 a81 a82 a83 =>
 Ya a54 (ii 1) fun a84 =>
 k0 [a81,a84,a73,a74,a75,a76,a77,a78,a79,a80,a82]) fun k1 =>
 k1 [a55,a56,a57,a58,a59,a60,a61,a62,a53,a63,a72])) fun k1 =>
 ifT a71 (
 cl1 (f_i_Scope [a51,a67]) fun a72 =>
 k1 [a72]) (
 k1 [a70])) (
 Yz a57 fun a65 =>
 Yz a56 fun a66 =>
 Yz a55 fun a67 =>
 some [a67,a66,a65,a58,a59,a60,a61,a62,a53])) ts
def G_i_HearNode_l1:Option (List T) :=
 (ar11 fun a46 a47 a48 a49 a50 a51 a52 a53 a54 a55 a56 =>
 Yl a47 a45 fun a57 =>
 ifT a57 (
 Y4 a56 a47 fun a59 a60 a61 a62 =>
 cl1 (f_i_Scope [a43,a60]) fun a63 =>
 Ye a47 (ii (-1)) fun a64 =>
 jn (ar1 fun a65 =>
 ifT a62 (
 Yn a65 fun a66 =>
 Yg a66 (ii 0) fun a67 =>
 jn (ar11 fun a68 a69 a70 a71 a72 a73 a74 a75 a76 a77 a78 =>
 Ya a47 (ii 1) fun a79 =>
 k0 [a76,a79,a68,a69,a70,a71,a72,a73,a74,a75,a77]) fun k1 =>
 ifT a67 (
 cl14 (f_i_Node_say [a48,a49,a50,a51,a52,a53,a54,a55,ii 3,a59,a60,a61,a62,.l [],a65]) fun a68 a69 a70 a71 a72 a73 a74 a75 a76 a77 a78 a79 a80 a81 =>
 pv (.lit 6 []) [a68,a69,a70,a71,a72,a73] fun a82 =>
 pv (.app false 6) [a46,a82] fun a83 =>
 k1 [a74,a75,a76,a77,a78,a79,a80,a81,a83,a56,a65]) (
 k1 [a48,a49,a50,a51,a52,a53,a54,a55,a46,a56,a65])) (
 jn (ar11 fun a66 a67 a68 a69 a70 a71 a72 a73 a74 a75 a76 =>
 Ya a47 (ii 1) fun a77 =>
 k0 [a74,a77,a66,a67,a68,a69,a70,a71,a72,a73,a75]) fun k1 =>
 k1 [a48,a49,a50,a51,a52,a53,a54,a55,a46,a56,a65])) fun k1 =>
 ifT a64 (
 cl1 (f_i_Scope [a44,a60]) fun a65 =>
 k1 [a65]) (
 k1 [a63])) (
 Yz a50 fun a58 =>
 Yz a49 fun a59 =>
 Yz a48 fun a60 =>
 some [a60,a59,a58,a51,a52,a53,a54,a55,a46])) ts
def G_i_HearNode:Option (List T) :=
 cl8 (f_i_copyNode [a0,a1,a2,a3,a4,a5,a6,a7]) fun a14 a15 a16 a17 a18 a19 a20 a21 =>
 cl1 (f_i_earAt [a0,a1,a2,a3,a4,a5,a6,a7,a9,a11]) fun a22 =>
 cl1 (f_i_NodeOk [a0,a1,a2,a3,a4,a5,a6,a7]) fun a23 =>
 Yt a23 fun a24 =>
 ifT a24 (
 Yz a16 fun a25 =>
 Yz a15 fun a26 =>
 Yz a14 fun a27 =>
 some [a27,a26,a25,a17,a18,a19,a20,a21,.l []]) (
 cl1 (f_i_PacketOk [a8,a9,a10,a11,a12,a13]) fun a25 =>
 Yt a25 fun a26 =>
 ifT a26 (
 Yz a16 fun a27 =>
 Yz a15 fun a28 =>
 Yz a14 fun a29 =>
 some [a29,a28,a27,a17,a18,a19,a20,a21,.l []]) (
 Yu a10 a0 fun a27 =>
 ifT a27 (
 Yz a16 fun a28 =>
 Yz a15 fun a29 =>
 Yz a14 fun a30 =>
 some [a30,a29,a28,a17,a18,a19,a20,a21,.l []]) (
 Yl a22 (ii 0) fun a28 =>
 ifT a28 (
 Yz a16 fun a29 =>
 Yz a15 fun a30 =>
 Yz a14 fun a31 =>
 some [a31,a30,a29,a17,a18,a19,a20,a21,.l []]) (
 Ye a8 (ii 1) fun a29 =>
 ifT a29 (
 Yb a21 a22 fun a30 =>
 cl1 (f_i_hasInt [a12,a14]) fun a31 =>
 pv (.put true 4 2 1) [a21,a22,ii 3] fun a32 =>
 pv (.put true 4 3 1) [a32,a22,a31] fun a33 =>
 cl1 (f_i_heardBy [a33]) fun a34 =>
 cl8 (f_i_Renew [a14,a15,a16,a17,a18,a34,a20]) fun a35 a36 a37 a38 a39 a40 a41 a42 =>
 cl1 (f_i_newest [.l [],a42]) fun a43 =>
 cl1 (f_i_newest [.l [],a42]) fun a44 =>
 Yn a33 fun a45 =>
 iter (G_i_HearNode_l1 f_i_Node_say f_i_Scope a43 a44 a45) R [.l [],ii 0,a35,a36,a37,a38,a39,a40,a41,a33,a33]) (
 Yb a7 a22 fun a30 =>
 Yc 4 3 a7 a22 fun a31 =>
 Yt a31 fun a32 =>
 ifT a32 (
 Yz a16 fun a33 =>
 Yz a15 fun a34 =>
 Yz a14 fun a35 =>
 some [a35,a34,a33,a17,a18,a19,a20,a21,.l []]) (
 Ye a8 (ii 2) fun a33 =>
 ifT a33 (
 Yb a21 a22 fun a34 =>
 pv (.scell 4 0) [a21,a22] fun a35 =>
 pv (.scell 4 1) [a21,a22] fun a36 =>
 pv (.scell 4 2) [a21,a22] fun a37 =>
 pv (.scell 4 3) [a21,a22] fun a38 =>
 cl1 (f_i_Scope [a20,a36]) fun a39 =>
 cl1 (f_i_Newer [a39,a13]) fun a40 =>
 Yn a40 fun a41 =>
 Yg a41 (ii 0) fun a42 =>
 jn (ar14 fun a43 a44 a45 a46 a47 a48 a49 a50 a51 a52 a53 a54 a55 a56 =>
 cl1 (f_i_Newer [a13,a39]) fun a57 =>
 Yn a57 fun a58 =>
 Yg a58 (ii 0) fun a59 =>
 jn (ar9 fun a60 a61 a62 a63 a64 a65 a66 a67 a68 =>
 Yz a62 fun a69 =>
 Yz a61 fun a70 =>
 Yz a60 fun a71 =>
 some [a71,a70,a69,a63,a64,a65,a66,a67,a68]) fun k0 =>
 ifT a59 (
 cl1 (f_i_Headers [a49,a36]) fun a60 =>
 cl14 (f_i_Node_say [a43,a44,a45,a46,a47,a48,a49,a50,ii 2,a35,a36,a37,a38,.l [],a60]) fun a61 a62 a63 a64 a65 a66 a67 a68 a69 a70 a71 a72 a73 a74 =>
 pv (.lit 6 []) [a61,a62,a63,a64,a65,a66] fun a75 =>
 pv (.app false 6) [a51,a75] fun a76 =>
 k0 [a67,a68,a69,a70,a71,a72,a73,a74,a76]) (
 k0 [a43,a44,a45,a46,a47,a48,a49,a50,a51])) fun k0 =>
 ifT a42 (
 cl14 (f_i_Node_say [a14,a15,a16,a17,a18,a19,a20,a21,ii 3,a35,a36,a37,a38,.l [],a40]) fun a43 a44 a45 a46 a47 a48 a49 a50 a51 a52 a53 a54 a55 a56 =>
 pv (.lit 6 []) [a43,a44,a45,a46,a47,a48] fun a57 =>
 pv (.app false 6) [.l [],a57] fun a58 =>
 k0 [a49,a50,a51,a52,a53,a54,a55,a56,a58,a21,a20,a40,a40,a40]) (
 k0 [a14,a15,a16,a17,a18,a19,a20,a21,.l [],a21,a20,a40,a40,a40])) (
 cl8 (f_i_Learn [a14,a15,a16,a17,a18,a19,a20,a13]) fun a34 a35 a36 a37 a38 a39 a40 a41 =>
 cl8 (f_i_Renew [a34,a35,a36,a37,a38,a39,a40]) fun a42 a43 a44 a45 a46 a47 a48 a49 =>
 cl1 (f_i_newest [a41,a49]) fun a50 =>
 cl1 (f_i_newest [.l [],a49]) fun a51 =>
 Yn a21 fun a52 =>
 iter (G_i_HearNode_l0 f_i_Node_say f_i_Scope a22 a50 a51 a52) R [.l [],ii 0,a42,a43,a44,a45,a46,a47,a48,a21,a21])))))))
theorem gr_i_HearNode:p_i_HearNode.den (pick [(13,f_i_Renew),(15,f_i_copyNode),(16,f_i_NodeOk),(17,f_i_heardBy),(20,f_i_Node_say),(21,f_i_Headers),(22,f_i_earAt),(23,f_i_PacketOk),(26,f_i_Learn),(43,f_i_Scope),(47,f_i_hasInt),(48,f_i_Newer),(50,f_i_newest)]) R [] [a0,a1,a2,a3,a4,a5,a6,a7,a8,a9,a10,a11,a12,a13]=G_i_HearNode R f_i_Headers f_i_Learn f_i_Newer f_i_NodeOk f_i_Node_say f_i_PacketOk f_i_Renew f_i_Scope f_i_copyNode f_i_earAt f_i_hasInt f_i_heardBy f_i_newest a0 a1 a2 a3 a4 a5 a6 a7 a8 a9 a10 a11 a12 a13:=(den2_of (by kernel_rfl)).trans (by kernel_rfl)
theorem g_i_HearNode:F_i_HearNode [a0,a1,a2,a3,a4,a5,a6,a7,a8,a9,a10,a11,a12,a13]=G_i_HearNode rounds F_i_Headers F_i_Learn F_i_Newer F_i_NodeOk F_i_Node_say F_i_PacketOk F_i_Renew F_i_Scope F_i_copyNode F_i_earAt F_i_hasInt F_i_heardBy F_i_newest a0 a1 a2 a3 a4 a5 a6 a7 a8 a9 a10 a11 a12 a13:=gr_i_HearNode rounds F_i_Headers F_i_Learn F_i_Newer F_i_NodeOk F_i_Node_say F_i_PacketOk F_i_Renew F_i_Scope F_i_copyNode F_i_earAt F_i_hasInt F_i_heardBy F_i_newest a0 a1 a2 a3 a4 a5 a6 a7 a8 a9 a10 a11 a12 a13
def G_i_thing_l0:Option (List T) :=
 (ar10 fun a5 a6 a7 a8 a9 a10 a11 a12 a13 a14 =>
 Yl a8 a4 fun a15 =>
 ifT a15 (
 Y8 a0 a8 fun a17 a18 a19 a20 a21 a22 a23 a24 =>
 Yu a18 (ii 3) fun a25 =>
 ifT a25 (
 Ya a8 (ii 1) fun a26 =>
 k0 [a5,a6,a7,a26,a9,a10,a11,a12,a13,a14]) (
 Yu a20 a1 fun a26 =>
 ifT a26 (
 Ya a8 (ii 1) fun a27 =>
 k0 [a5,a6,a7,a27,a9,a10,a11,a12,a13,a14]) (
 Yh a23 (ii 60000) fun a27 =>
 ifT a27 (
 Ya a8 (ii 1) fun a28 =>
 k0 [a5,a6,a7,a28,a9,a10,a11,a12,a13,a14]) (
 cl4 (f_i_WayTo [a3,a19]) fun a28 a29 a30 a31 =>
 Ye a19 a2 fun a32 =>
 jn (ar4 fun a33 a34 a35 a36 =>
 Yt a36 fun a37 =>
 ifT a37 (
 Ya a8 (ii 1) fun a38 =>
 k0 [a5,a6,a7,a38,a9,a10,a11,a12,a13,a14]) (
 Yt a24 fun a38 =>
 ifT a38 (
 Ya a34 a23 fun a39 =>
 jn (ar3 fun a40 a41 a42 =>
 Ya a8 (ii 1) fun a43 =>
 k0 [bb true,a6,a7,a43,a40,a41,a42,a12,a13,a14]) fun k1 =>
 ifT a5 (
 cl3 (f_i_Together [a9,a10,a11,a1,a39,a35]) fun a40 a41 a42 =>
 k1 [a40,a41,a42]) (
 k1 [a1,a39,a35])) (
 ifT a6 (
 Ye a23 a7 fun a39 =>
 jn (ar3 fun a40 a41 a42 =>
 Yt a6 fun a43 =>
 ifT a43 (
 jn (ar5 fun a44 a45 a46 a47 a48 =>
 Ya a8 (ii 1) fun a49 =>
 k0 [a5,a47,a48,a49,a9,a10,a11,a44,a45,a46]) fun k1 =>
 k1 [a40,a41,a42,bb true,a23]) (
 Ym a23 a7 fun a44 =>
 jn (ar5 fun a45 a46 a47 a48 a49 =>
 Ya a8 (ii 1) fun a50 =>
 k0 [a5,a48,a49,a50,a9,a10,a11,a45,a46,a47]) fun k1 =>
 ifT a44 (
 k1 [a40,a41,a42,bb true,a23]) (
 k1 [a12,a13,a14,a6,a7]))) fun k1 =>
 ifT a39 (
 cl3 (f_i_Together [a12,a13,a14,a1,a34,a35]) fun a40 a41 a42 =>
 k1 [a40,a41,a42]) (
 k1 [a1,a34,a35])) (
 jn (ar3 fun a39 a40 a41 =>
 Yt a6 fun a42 =>
 ifT a42 (
 jn (ar5 fun a43 a44 a45 a46 a47 =>
 Ya a8 (ii 1) fun a48 =>
 k0 [a5,a46,a47,a48,a9,a10,a11,a43,a44,a45]) fun k1 =>
 k1 [a39,a40,a41,bb true,a23]) (
 Ym a23 a7 fun a43 =>
 jn (ar5 fun a44 a45 a46 a47 a48 =>
 Ya a8 (ii 1) fun a49 =>
 k0 [a5,a47,a48,a49,a9,a10,a11,a44,a45,a46]) fun k1 =>
 ifT a43 (
 k1 [a39,a40,a41,bb true,a23]) (
 k1 [a12,a13,a14,a6,a7]))) fun k1 =>
 k1 [a1,a34,a35])))) fun k1 =>
 ifT a32 (
 k1 [ii 0,ii 0,.l [],bb true]) (
 k1 [a28,a29,a30,a31]))))) (
 ifT a5 (
 Yz (bb true) fun a16 =>
 Yz (ii 0) fun a17 =>
 Yz a10 fun a18 =>
 Yz (ii 3) fun a19 =>
 Yz a1 fun a20 =>
 Yz (bb true) fun a21 =>
 some [a21,a20,a19,a18,a17,a11,a16]) (
 Yz a6 fun a16 =>
 Yz a7 fun a17 =>
 Yz a13 fun a18 =>
 Yz (ii 4) fun a19 =>
 Yz a1 fun a20 =>
 Yz (bb true) fun a21 =>
 some [a21,a20,a19,a18,a17,a14,a16]))) ts
def G_i_thing:Option (List T) :=
 Yn a0 fun a4 =>
 iter (G_i_thing_l0 f_i_Together f_i_WayTo a0 a1 a2 a3 a4) R [bb false,bb false,ii 0,ii 0,ii 0,ii 0,.l [],ii 0,ii 0,.l []]
theorem gr_i_thing:p_i_thing.den (pick [(69,f_i_WayTo),(70,f_i_Together)]) R [] [a0,a1,a2,a3]=G_i_thing R f_i_Together f_i_WayTo a0 a1 a2 a3:=(den2_of (by kernel_rfl)).trans (by kernel_rfl)
theorem g_i_thing:F_i_thing [a0,a1,a2,a3]=G_i_thing rounds F_i_Together F_i_WayTo a0 a1 a2 a3:=gr_i_thing rounds F_i_Together F_i_WayTo a0 a1 a2 a3
def G_i_RoutesOf_l0:Option (List T) :=
 (ar2 fun a23 a24 =>
 Yl a24 a22 fun a25 =>
 ifT a25 (
 Yq a17 a24 fun a27 =>
 cl7 (f_i_thing [a0,a27,a3,a21]) fun a28 a29 a30 a31 a32 a33 a34 =>
 jn (ar1 fun a35 =>
 Ya a24 (ii 1) fun a36 =>
 k3 [a35,a36]) fun k4 =>
 ifT a34 (
 pv (.lit 6 [true,true,true,true,true,false]) [a28,a29,a30,a31,a32,a33] fun a35 =>
 pv (.app false 6) [a23,a35] fun a36 =>
 k4 [a36]) (
 k4 [a23])) (
 some [a23])) ts
def G_i_RoutesOf_l1:Option (List T) :=
 (ar1 fun a31 =>
 Yn a17 fun a32 =>
 Yl a31 a32 fun a33 =>
 ifT a33 (
 Yq a17 a31 fun a35 =>
 Yl a35 a24 fun a36 =>
 ifT a36 (
 Ya a31 (ii 1) fun a37 =>
 k4 [a37]) (
 Yn a17 fun a37 =>
 Yl a31 a37 fun a38 =>
 ifT a38 (
 Yq a17 a31 fun a40 =>
 Ye a40 a24 fun a41 =>
 ifT a41 (
 k3 [a17]) (
 Yw a17 a31 fun a42 =>
 cl1 (f_i_copyInts [a42]) fun a43 =>
 Yx a24 fun a44 =>
 Yp a43 a44 fun a45 =>
 Yv a17 a31 fun a46 =>
 Yp a45 a46 fun a47 =>
 k3 [a47])) (
 Yw a17 a31 fun a39 =>
 cl1 (f_i_copyInts [a39]) fun a40 =>
 Yx a24 fun a41 =>
 Yp a40 a41 fun a42 =>
 Yv a17 a31 fun a43 =>
 Yp a42 a43 fun a44 =>
 k3 [a44]))) (
 Yn a17 fun a34 =>
 Yl a31 a34 fun a35 =>
 ifT a35 (
 Yq a17 a31 fun a37 =>
 Ye a37 a24 fun a38 =>
 ifT a38 (
 k3 [a17]) (
 Yw a17 a31 fun a39 =>
 cl1 (f_i_copyInts [a39]) fun a40 =>
 Yx a24 fun a41 =>
 Yp a40 a41 fun a42 =>
 Yv a17 a31 fun a43 =>
 Yp a42 a43 fun a44 =>
 k3 [a44])) (
 Yw a17 a31 fun a36 =>
 cl1 (f_i_copyInts [a36]) fun a37 =>
 Yx a24 fun a38 =>
 Yp a37 a38 fun a39 =>
 Yv a17 a31 fun a40 =>
 Yp a39 a40 fun a41 =>
 k3 [a41]))) ts
def G_i_RoutesOf_l2:Option (List T) :=
 (ar2 fun a17 a18 =>
 Yl a18 a16 fun a19 =>
 ifT a19 (
 Y8 a0 a18 fun a21 a22 a23 a24 a25 a26 a27 a28 =>
 Ye a22 (ii 3) fun a29 =>
 ifT a29 (
 Yl a27 (ii 60000) fun a30 =>
 jn (ar1 fun a31 =>
 Ya a18 (ii 1) fun a32 =>
 k2 [a31,a32]) fun k3 =>
 ifT a30 (
 iter (G_i_RoutesOf_l1 f_i_copyInts a17 a24 k3) R [ii 0]) (
 k3 [a17])) (
 jn (ar1 fun a30 =>
 Ya a18 (ii 1) fun a31 =>
 k2 [a30,a31]) fun k3 =>
 k3 [a17])) (
 Yo (.l []) a9 fun a20 =>
 Yo a20 a14 fun a21 =>
 Yn a17 fun a22 =>
 iter (G_i_RoutesOf_l0 f_i_thing a0 a3 a17 a21 a22) R [a12,ii 0])) ts
def G_i_RoutesOf_l3:Option (List T) :=
 (ar3 fun a12 a13 a14 =>
 Yl a13 a11 fun a15 =>
 ifT a15 (
 Y3 a14 a13 fun a17 a18 a19 =>
 cl1 (f_i_copyInts [a19]) fun a20 =>
 pv (.lit 6 [true,true,true,true,true,false]) [bb false,a17,ii 2,a18,ii 0,a20] fun a21 =>
 pv (.app false 6) [a12,a21] fun a22 =>
 Ya a13 (ii 1) fun a23 =>
 k1 [a22,a23,a14]) (
 Yn a0 fun a16 =>
 iter (G_i_RoutesOf_l2 R f_i_copyInts f_i_thing a0 a3 a9 a12 a14 a16) R [.l [],ii 0])) ts
def G_i_RoutesOf_l4:Option (List T) :=
 (ar3 fun a7 a8 a9 =>
 Yl a8 a6 fun a10 =>
 ifT a10 (
 Y3 a9 a8 fun a12 a13 a14 =>
 Yu a12 a3 fun a15 =>
 jn (ar1 fun a16 =>
 Ya a8 (ii 1) fun a17 =>
 k0 [a16,a17,a9]) fun k1 =>
 ifT a15 (
 cl1 (f_i_copyInts [a14]) fun a16 =>
 pv (.lit 6 [true,true,true,true,true,false]) [bb false,a12,ii 1,a13,ii 0,a16] fun a17 =>
 pv (.app false 6) [a7,a17] fun a18 =>
 k1 [a18]) (
 k1 [a7])) (
 Yn a5 fun a11 =>
 iter (G_i_RoutesOf_l3 R f_i_copyInts f_i_thing a0 a3 a9 a11) R [a7,ii 0,a5])) ts
def G_i_RoutesOf:Option (List T) :=
 cl1 (f_i_RoutesWithin [a0,a1,a3]) fun a4 =>
 cl1 (f_i_RoutesBeyond [a0,a1,a2,a3]) fun a5 =>
 Yn a4 fun a6 =>
 iter (G_i_RoutesOf_l4 R f_i_copyInts f_i_thing a0 a3 a5 a6) R [.l [],ii 0,a4]
theorem gr_i_RoutesOf:p_i_RoutesOf.den (pick [(42,f_i_copyInts),(51,f_i_RoutesWithin),(52,f_i_RoutesBeyond),(53,f_i_thing)]) R [] [a0,a1,a2,a3]=G_i_RoutesOf R f_i_RoutesBeyond f_i_RoutesWithin f_i_copyInts f_i_thing a0 a1 a2 a3:=(den2_of (by kernel_rfl)).trans (by kernel_rfl)
theorem g_i_RoutesOf:F_i_RoutesOf [a0,a1,a2,a3]=G_i_RoutesOf rounds F_i_RoutesBeyond F_i_RoutesWithin F_i_copyInts F_i_thing a0 a1 a2 a3:=gr_i_RoutesOf rounds F_i_RoutesBeyond F_i_RoutesWithin F_i_copyInts F_i_thing a0 a1 a2 a3
def G_i_Routes:Option (List T) :=
 cl1 (f_i_NodeOk [a0,a1,a2,a3,a4,a5,a6,a7]) fun a8 =>
 Yt a8 fun a9 =>
 ifT a9 (
 some [.l []]) (
 cl1 (f_i_AreasOf [a2,a3,a4,a0]) fun a10 =>
 cl1 (f_i_Border [a2,a3,a4,a0]) fun a11 =>
 cl1 (f_i_RoutesOf [a6,a10,a11,a0]) fun a12 =>
 some [a12])
theorem gr_i_Routes:p_i_Routes.den (pick [(16,f_i_NodeOk),(28,f_i_RoutesOf),(29,f_i_AreasOf),(30,f_i_Border)]) R [] [a0,a1,a2,a3,a4,a5,a6,a7]=G_i_Routes f_i_AreasOf f_i_Border f_i_NodeOk f_i_RoutesOf a0 a1 a2 a3 a4 a5 a6 a7:=(den2_of (by kernel_rfl)).trans (by kernel_rfl)
theorem g_i_Routes:F_i_Routes [a0,a1,a2,a3,a4,a5,a6,a7]=G_i_Routes F_i_AreasOf F_i_Border F_i_NodeOk F_i_RoutesOf a0 a1 a2 a3 a4 a5 a6 a7:=gr_i_Routes rounds F_i_AreasOf F_i_Border F_i_NodeOk F_i_RoutesOf a0 a1 a2 a3 a4 a5 a6 a7
def G_same_l0:Option (List T) :=
 (ar2 fun a26 a27 =>
 Yn a5 fun a28 =>
 Yl a27 a28 fun a29 =>
 ifT a29 (
 Y2 a5 a27 fun a31 a32 =>
 Y2 a13 a27 fun a34 a35 =>
 pv (.eqs [1,1]) [a31,a32,a34,a35] fun a36 =>
 Yt a36 fun a37 =>
 ifT a37 (
 Yz (bb false) fun a38 =>
 some [a38]) (
 Ya a27 (ii 1) fun a38 =>
 k0 [a26,a38])) (
 Yz (bb true) fun a30 =>
 some [a30])) ts
def G_same:Option (List T) :=
 Yu a0 a8 fun a16 =>
 ifT a16 (
 Yz (bb false) fun a17 =>
 some [a17]) (
 Yu a1 a9 fun a17 =>
 ifT a17 (
 Yz (bb false) fun a18 =>
 some [a18]) (
 Yu a2 a10 fun a18 =>
 ifT a18 (
 Yz (bb false) fun a19 =>
 some [a19]) (
 Yu a3 a11 fun a19 =>
 ifT a19 (
 Yz (bb false) fun a20 =>
 some [a20]) (
 Yu a4 a12 fun a20 =>
 ifT a20 (
 Yz (bb false) fun a21 =>
 some [a21]) (
 Yu a6 a14 fun a21 =>
 ifT a21 (
 Yz (bb false) fun a22 =>
 some [a22]) (
 pv (.bb .neq) [a7,a15] fun a22 =>
 ifT a22 (
 Yz (bb false) fun a23 =>
 some [a23]) (
 Yn a5 fun a23 =>
 Yn a13 fun a24 =>
 Yu a23 a24 fun a25 =>
 ifT a25 (
 Yz (bb false) fun a26 =>
 some [a26]) (
 iter (G_same_l0 a5 a13) R [bb false,ii 0]))))))))
theorem gr_same:p_same.den (pick []) R [] [a0,a1,a2,a3,a4,a5,a6,a7,a8,a9,a10,a11,a12,a13,a14,a15]=G_same R a0 a1 a2 a3 a4 a5 a6 a7 a8 a9 a10 a11 a12 a13 a14 a15:=(den2_of (by kernel_rfl)).trans (by kernel_rfl)
theorem g_same:F_same [a0,a1,a2,a3,a4,a5,a6,a7,a8,a9,a10,a11,a12,a13,a14,a15]=G_same rounds a0 a1 a2 a3 a4 a5 a6 a7 a8 a9 a10 a11 a12 a13 a14 a15:=gr_same rounds a0 a1 a2 a3 a4 a5 a6 a7 a8 a9 a10 a11 a12 a13 a14 a15
def G_sameStore_l0:Option (List T) :=
 (ar2 fun a5 a6 =>
 Yn a0 fun a7 =>
 Yl a6 a7 fun a8 =>
 ifT a8 (
 Y8 a0 a6 fun a10 a11 a12 a13 a14 a15 a16 a17 =>
 Y8 a1 a6 fun a19 a20 a21 a22 a23 a24 a25 a26 =>
 cl1 (f_same [a10,a11,a12,a13,a14,a15,a16,a17,a19,a20,a21,a22,a23,a24,a25,a26]) fun a27 =>
 Yt a27 fun a28 =>
 ifT a28 (
 Yz (bb false) fun a29 =>
 some [a29]) (
 Ya a6 (ii 1) fun a29 =>
 k0 [a5,a29])) (
 Yz (bb true) fun a9 =>
 some [a9])) ts
def G_sameStore:Option (List T) :=
 Yn a0 fun a2 =>
 Yn a1 fun a3 =>
 Yu a2 a3 fun a4 =>
 ifT a4 (
 Yz (bb false) fun a5 =>
 some [a5]) (
 iter (G_sameStore_l0 f_same a0 a1) R [bb false,ii 0])
theorem gr_sameStore:p_sameStore.den (pick [(31,f_same)]) R [] [a0,a1]=G_sameStore R f_same a0 a1:=(den2_of (by kernel_rfl)).trans (by kernel_rfl)
theorem g_sameStore:F_sameStore [a0,a1]=G_sameStore rounds F_same a0 a1:=gr_sameStore rounds F_same a0 a1
def G_sameInts_l0:Option (List T) :=
 (ar2 fun a5 a6 =>
 Yn a0 fun a7 =>
 Yl a6 a7 fun a8 =>
 ifT a8 (
 Y1 a0 a6 fun a10 =>
 Y1 a1 a6 fun a12 =>
 Yu a10 a12 fun a13 =>
 ifT a13 (
 Yz (bb false) fun a14 =>
 some [a14]) (
 Ya a6 (ii 1) fun a14 =>
 k0 [a5,a14])) (
 Yz (bb true) fun a9 =>
 some [a9])) ts
def G_sameInts:Option (List T) :=
 Yn a0 fun a2 =>
 Yn a1 fun a3 =>
 Yu a2 a3 fun a4 =>
 ifT a4 (
 Yz (bb false) fun a5 =>
 some [a5]) (
 iter (G_sameInts_l0 a0 a1) R [bb false,ii 0])
theorem gr_sameInts:p_sameInts.den (pick []) R [] [a0,a1]=G_sameInts R a0 a1:=(den2_of (by kernel_rfl)).trans (by kernel_rfl)
theorem g_sameInts:F_sameInts [a0,a1]=G_sameInts rounds a0 a1:=gr_sameInts rounds a0 a1
def G_FnTalks_l0:Option (List T) :=
 (ar18 fun a70 a71 a72 a73 a74 a75 a76 a77 a78 a79 a80 a81 a82 a83 a84 a85 a86 a87 =>
 Yl a71 (ii 60) fun a88 =>
 ifT a88 (
 Yn a70 fun a89 =>
 Yg a89 (ii 0) fun a90 =>
 ifT a90 (
 pv (.lit 6 []) [] fun a91 =>
 Yb a70 (ii 0) fun a92 =>
 Yc 6 2 a70 (ii 0) fun a93 =>
 Ye a93 (ii 1) fun a94 =>
 jn (ar17 fun a95 a96 a97 a98 a99 a100 a101 a102 a103 a104 a105 a106 a107 a108 a109 a110 a111 =>
 pv (.lit 6 []) [] fun a112 =>
 pv (.sub 6 true false) [a70,ii 1] fun a113 =>
 pv (.app false 6) [a112,a113] fun a114 =>
 pv (.app false 6) [a114,a103] fun a115 =>
 Ya a71 (ii 1) fun a116 =>
 k1 [a115,a116,a95,a96,a97,a98,a99,a100,a101,a102,a104,a105,a106,a107,a108,a109,a110,a111]) fun k2 =>
 ifT a94 (
 Yb a70 (ii 0) fun a95 =>
 Yc 6 0 a70 (ii 0) fun a96 =>
 Yc 6 1 a70 (ii 0) fun a97 =>
 Yc 6 2 a70 (ii 0) fun a98 =>
 Yc 6 3 a70 (ii 0) fun a99 =>
 Yc 6 4 a70 (ii 0) fun a100 =>
 Yc 6 5 a70 (ii 0) fun a101 =>
 cl9 (f_i_HearNode [a72,a73,a74,a75,a76,a77,a78,a79,a96,a97,a98,a99,a100,a101]) fun a102 a103 a104 a105 a106 a107 a108 a109 a110 =>
 k2 [a102,a103,a104,a105,a106,a107,a108,a109,a110,a80,a81,a82,a83,a84,a85,a86,a87]) (
 Yb a70 (ii 0) fun a95 =>
 Yc 6 0 a70 (ii 0) fun a96 =>
 Yc 6 1 a70 (ii 0) fun a97 =>
 Yc 6 2 a70 (ii 0) fun a98 =>
 Yc 6 3 a70 (ii 0) fun a99 =>
 Yc 6 4 a70 (ii 0) fun a100 =>
 Yc 6 5 a70 (ii 0) fun a101 =>
 cl9 (f_i_HearNode [a80,a81,a82,a83,a84,a85,a86,a87,a96,a97,a98,a99,a100,a101]) fun a102 a103 a104 a105 a106 a107 a108 a109 a110 =>
 k2 [a72,a73,a74,a75,a76,a77,a78,a79,a110,a102,a103,a104,a105,a106,a107,a108,a109])) (
 Yn a70 fun a91 =>
 Yg a91 (ii 0) fun a92 =>
 ifT a92 (
 Yz (bb false) fun a93 =>
 some [a93]) (
 Ya a30 (ii 1) fun a93 =>
 k0 [a29,a93,a72,a73,a74,a75,a76,a77,a78,a79,a80,a81,a82,a83,a84,a85,a86,a87]))) (
 Yn a70 fun a89 =>
 Yg a89 (ii 0) fun a90 =>
 ifT a90 (
 Yz (bb false) fun a91 =>
 some [a91]) (
 Ya a30 (ii 1) fun a91 =>
 k0 [a29,a91,a72,a73,a74,a75,a76,a77,a78,a79,a80,a81,a82,a83,a84,a85,a86,a87]))) ts
def G_FnTalks_l1:Option (List T) :=
 (ar18 fun a29 a30 a31 a32 a33 a34 a35 a36 a37 a38 a39 a40 a41 a42 a43 a44 a45 a46 =>
 Yl a30 (ii 4) fun a47 =>
 ifT a47 (
 pv (.lit 6 []) [] fun a48 =>
 pv (.lit 6 []) [] fun a49 =>
 cl9 (f_i_TickNode [a31,a32,a33,a34,a35,a36,a37,a38]) fun a50 a51 a52 a53 a54 a55 a56 a57 a58 =>
 pv (.app false 6) [a48,a58] fun a59 =>
 cl9 (f_i_TickNode [a39,a40,a41,a42,a43,a44,a45,a46]) fun a60 a61 a62 a63 a64 a65 a66 a67 a68 =>
 pv (.app false 6) [a59,a68] fun a69 =>
 iter (G_FnTalks_l0 f_i_HearNode a29 a30 k0) R [a69,ii 0,a50,a51,a52,a53,a54,a55,a56,a57,a60,a61,a62,a63,a64,a65,a66,a67]) (
 cl1 (f_i_Routes [a31,a32,a33,a34,a35,a36,a37,a38]) fun a48 =>
 ifT a19 (
 ifT a28 (
 cl1 (f_sameStore [a37,a45]) fun a49 =>
 ifT a49 (
 Yn a48 fun a50 =>
 Ye a50 (ii 2) fun a51 =>
 ifT a51 (
 Yb a48 (ii 0) fun a52 =>
 pv (.scell 6 1) [a48,ii 0] fun a53 =>
 Ye a53 (ii 2) fun a54 =>
 ifT a54 (
 Yb a48 (ii 0) fun a55 =>
 pv (.scell 6 3) [a48,ii 0] fun a56 =>
 Yn a0 fun a57 =>
 pv (.bin .rem) [a57,ii 9] fun a58 =>
 Ya (ii 1) a58 fun a59 =>
 Ye a56 a59 fun a60 =>
 ifT a60 (
 Yb a48 (ii 1) fun a61 =>
 pv (.scell 6 0) [a48,ii 1] fun a62 =>
 ifT a62 (
 Yb a48 (ii 1) fun a63 =>
 pv (.scell 6 3) [a48,ii 1] fun a64 =>
 Yn a0 fun a65 =>
 pv (.bin .rem) [a65,ii 9] fun a66 =>
 Ya (ii 6) a66 fun a67 =>
 Ye a64 a67 fun a68 =>
 ifT a68 (
 Yb a48 (ii 1) fun a69 =>
 pv (.dig 6 5) [a48,ii 1] fun a70 =>
 Yx (ii 2) fun a71 =>
 pv (.dig 6 5) [a48,ii 1] fun a72 =>
 cl1 (f_sameInts [a72,a71]) fun a73 =>
 Yz a73 fun a74 =>
 some [a74]) (
 Yz (bb false) fun a69 =>
 some [a69])) (
 Yz (bb false) fun a63 =>
 some [a63])) (
 Yz (bb false) fun a61 =>
 some [a61])) (
 Yz (bb false) fun a55 =>
 some [a55])) (
 Yz (bb false) fun a52 =>
 some [a52])) (
 Yz (bb false) fun a50 =>
 some [a50])) (
 Yz (bb false) fun a49 =>
 some [a49])) (
 Yz (bb false) fun a49 =>
 some [a49]))) ts
def G_FnTalks:Option (List T) :=
 cl1 (f_big [a0]) fun a1 =>
 ifT a1 (
 Yz (bb true) fun a2 =>
 some [a2]) (
 Yn a0 fun a2 =>
 pv (.bin .rem) [a2,ii 9] fun a3 =>
 Ya (ii 1) a3 fun a4 =>
 Yn a0 fun a5 =>
 pv (.bin .rem) [a5,ii 3] fun a6 =>
 pv (.lit 4 [true,true,true,true]) [ii 1,ii 2,a4,a6] fun a7 =>
 pv (.lit 4 [true,true,true,true]) [ii 2,ii 4,ii 5,bb false] fun a8 =>
 Yn a0 fun a9 =>
 pv (.bin .rem) [a9,ii 5] fun a10 =>
 cl9 (f_i_NodeNew [ii 2,a7,a8,ii 1,a10]) fun a11 a12 a13 a14 a15 a16 a17 a18 a19 =>
 cl9 (f_i_NodeNew [ii 2,a7,a8,ii 2,ii 0]) fun a20 a21 a22 a23 a24 a25 a26 a27 a28 =>
 iter (G_FnTalks_l1 R f_i_HearNode f_i_Routes f_i_TickNode f_sameInts f_sameStore a0 a19 a28) R [bb false,ii 0,a11,a12,a13,a14,a15,a16,a17,a18,a20,a21,a22,a23,a24,a25,a26,a27])
theorem gr_FnTalks:p_FnTalks.den (pick [(4,f_big),(5,f_i_NodeNew),(6,f_i_TickNode),(7,f_i_HearNode),(8,f_i_Routes),(9,f_sameStore),(10,f_sameInts)]) R [] [a0]=G_FnTalks R f_big f_i_HearNode f_i_NodeNew f_i_Routes f_i_TickNode f_sameInts f_sameStore a0:=(den2_of (by kernel_rfl)).trans (by kernel_rfl)
theorem g_FnTalks:F_FnTalks [a0]=G_FnTalks rounds F_big F_i_HearNode F_i_NodeNew F_i_Routes F_i_TickNode F_sameInts F_sameStore a0:=gr_FnTalks rounds F_big F_i_HearNode F_i_NodeNew F_i_Routes F_i_TickNode F_sameInts F_sameStore a0
end
end Go.Proofs.YtjimmglpkndemaaC
