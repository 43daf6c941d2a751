/- The plain programs as native functions (printed by a program). Conditions: none. -/
import Derived.Test.YtbhplkilhknciaaDoorXPS
import Derived.Test.YtbhplkilhknciaaDoorKe
namespace Go.Proofs.YtbhplkilhknciaaDoorC
set_option linter.unusedVariables false
section
variable (R:Nat) (f_FnExactShowRoute f_FnShown f_begins f_big f_eqIntS f_eqRoute f_i_Decimal f_i_ShowRoute f_s_AreasOf f_s_Before f_s_Better f_s_Beyond f_s_Border f_s_CostTo f_s_Decimal f_s_DrawShowRoute f_s_Ideal f_s_LinkOk f_s_NetOk f_s_NextTo f_s_RecordOk f_s_RoutesBeyond f_s_RoutesOf f_s_RoutesWithin f_s_SameKey f_s_ShowRoute f_s_StoreOk f_s_Together f_s_TrueRoutes f_s_WayTo f_s_WaysIn f_s_l01Below f_s_l01Byte f_s_l01Figure f_s_l01In f_s_l01Once f_s_l01PickInt f_s_l03Ahead f_s_l03In f_s_l03Net f_s_l03Put f_s_l03PutThing f_s_l03Thing f_s_l04Copy f_s_l04CopyList f_s_l04Near f_s_l05At f_s_l05Put f_s_l06Add f_s_l06Copy f_s_l06Links f_s_l06Node f_s_l06Tells f_s_l07Beyond f_s_l07Owner f_s_l07Thing f_s_l08With f_s_l11Routes f_s_l13Beyond f_s_l13Open f_strconv_Itoa f_szIntS f_szRoute f_toIntS f_toRoute:Sem1)
variable (a0 a1 a2 a3 a4 a5 a6 a7 a8 a9 a10 a11 a12 a13 a14 a15 a16 a17 a18 a19 a20 a21 a22 a23 a24 a25 a26 a27 a28 a29 a30 a31 a32 a33 a34 a35 a36 a37 a38 a39 a40 a41 a42 a43 a44 a45 a46 a47 a48 a49 a50 a51 a52 a53 a54 a55 a56 a57 a58 a59 a60 a61 a62 a63 a64 a65 a66 a67 a68 a69 a70 a71 a72 a73 a74 a75 a76 a77 a78 a79 a80 a81 a82 a83 a84 a85 a86 a87 a88 a89 a90 a91 a92 a93 a94 a95 a96 a97 a98 a99 a100 a101 a102 a103 a104 a105 a106 a107 a108 a109 a110 a111 a112 a113 a114 a115 a116 a117 a118 a119 a120 a121 a122 a123 a124 a125 a126 a127 a128 a129 a130 a131 a132 a133 a134 a135 a136 a137 a138 a139 a140 a141 a142 a143 a144 a145 a146 a147 a148 a149:T) (k0 k1 k2 k3 k4 k5 k6 k7 k8 k9 k10 k11 k12 k13 k14 k15 k16 k17 k18 k19:Sem1) (ts:List T)
def G_s_l01Figure:Option (List T) :=
 Yl a0 (ii 10) fun a1 =>
 ifT a1 (
 Ya (ii 48) a0 fun a2 =>
 pv (.cnv .u8) [a2] fun a3 =>
 Yz a3 fun a4 =>
 some [a4]) (
 Ya (ii 97) a0 fun a2 =>
 Ys a2 (ii 10) fun a3 =>
 pv (.cnv .u8) [a3] fun a4 =>
 Yz a4 fun a5 =>
 some [a5])
theorem gr_s_l01Figure:p_s_l01Figure.den (pick []) R [] [a0]=G_s_l01Figure a0:=(den2_of (by kernel_rfl)).trans (by kernel_rfl)
theorem g_s_l01Figure:F_s_l01Figure [a0]=G_s_l01Figure a0:=gr_s_l01Figure rounds a0
def G_s_Decimal_l0:Option (List T) :=
 (ar2 fun a3 a4 =>
 Yu a3 (ii 0) fun a5 =>
 ifT a5 (
 pv (.bin .rem) [a3,ii 10] fun a6 =>
 Yl a6 (ii 0) fun a7 =>
 jn (ar1 fun a8 =>
 cl1 (f_s_l01Figure [a8]) fun a9 =>
 Yx a9 fun a10 =>
 pv (.str) [a10] fun a11 =>
 Ya a11 a4 fun a12 =>
 pv (.bin .quo) [a3,ii 10] fun a13 =>
 k0 [a13,a12]) fun k1 =>
 ifT a7 (
 pv (.un .neg) [a6] fun a8 =>
 k1 [a8]) (
 k1 [a6])) (
 ifT a2 (
 Ya (.c (.string (ByteArray.mk #[45]))) a4 fun a6 =>
 Yz a6 fun a7 =>
 some [a7]) (
 Yz a4 fun a6 =>
 some [a6]))) ts
def G_s_Decimal:Option (List T) :=
 Ye a0 (ii 0) fun a1 =>
 ifT a1 (
 Yz (.c (.string (ByteArray.mk #[48]))) fun a2 =>
 some [a2]) (
 Yl a0 (ii 0) fun a2 =>
 iter (G_s_Decimal_l0 f_s_l01Figure a2) R [a0,.c (.string (ByteArray.mk #[]))])
theorem gr_s_Decimal:p_s_Decimal.den (pick [(18,f_s_l01Figure)]) R [] [a0]=G_s_Decimal R f_s_l01Figure a0:=(den2_of (by kernel_rfl)).trans (by kernel_rfl)
theorem g_s_Decimal:F_s_Decimal [a0]=G_s_Decimal rounds F_s_l01Figure a0:=gr_s_Decimal rounds F_s_l01Figure a0
def G_i_Decimal:Option (List T) :=
 cl1 (f_strconv_Itoa [a0]) fun a1 =>
 Yz a1 fun a2 =>
 some [a2]
theorem gr_i_Decimal:p_i_Decimal.den (pick [(26,f_strconv_Itoa)]) R [] [a0]=G_i_Decimal f_strconv_Itoa a0:=(den2_of (by kernel_rfl)).trans (by kernel_rfl)
theorem g_i_Decimal:F_i_Decimal [a0]=G_i_Decimal F_strconv_Itoa a0:=gr_i_Decimal rounds F_strconv_Itoa a0
def G_i_ShowRoute_l0:Option (List T) :=
 (ar2 fun a16 a17 =>
 Yl a17 a15 fun a18 =>
 ifT a18 (
 Y1 a5 a17 fun a20 =>
 cl1 (f_i_Decimal [a20]) fun a21 =>
 Ya (.c (.string (ByteArray.mk #[32]))) a21 fun a22 =>
 Ya a16 a22 fun a23 =>
 Ya a17 (ii 1) fun a24 =>
 k0 [a23,a24]) (
 Yz a16 fun a19 =>
 some [a19])) ts
def G_i_ShowRoute:Option (List T) :=
 jn (ar1 fun a6 =>
 cl1 (f_i_Decimal [a1]) fun a7 =>
 Ya a7 (.c (.string (ByteArray.mk #[32,99,111,115,116,32]))) fun a8 =>
 cl1 (f_i_Decimal [a3]) fun a9 =>
 Ya a8 a9 fun a10 =>
 Ya a6 a10 fun a11 =>
 Ye a2 (ii 4) fun a12 =>
 jn (ar1 fun a13 =>
 Ya a13 (.c (.string (ByteArray.mk #[32,98,121]))) fun a14 =>
 Yn a5 fun a15 =>
 iter (G_i_ShowRoute_l0 f_i_Decimal a5 a15) R [a14,ii 0]) fun k0 =>
 ifT a12 (
 cl1 (f_i_Decimal [a4]) fun a13 =>
 Ya (.c (.string (ByteArray.mk #[32,102,97,114,32]))) a13 fun a14 =>
 Ya a11 a14 fun a15 =>
 k0 [a15]) (
 k0 [a11])) fun k0 =>
 ifT a0 (
 k0 [.c (.string (ByteArray.mk #[116,104,105,110,103,32]))]) (
 k0 [.c (.string (ByteArray.mk #[110,111,100,101,32]))])
theorem gr_i_ShowRoute:p_i_ShowRoute.den (pick [(17,f_i_Decimal)]) R [] [a0,a1,a2,a3,a4,a5]=G_i_ShowRoute R f_i_Decimal a0 a1 a2 a3 a4 a5:=(den2_of (by kernel_rfl)).trans (by kernel_rfl)
theorem g_i_ShowRoute:F_i_ShowRoute [a0,a1,a2,a3,a4,a5]=G_i_ShowRoute rounds F_i_Decimal a0 a1 a2 a3 a4 a5:=gr_i_ShowRoute rounds F_i_Decimal a0 a1 a2 a3 a4 a5
def G_big:Option (List T) :=
 Yn a0 fun a1 =>
 Yg a1 (ii 1048576) fun a2 =>
 Yz a2 fun a3 =>
 some [a3]
theorem gr_big:p_big.den (pick []) R [] [a0]=G_big a0:=(den2_of (by kernel_rfl)).trans (by kernel_rfl)
theorem g_big:F_big [a0]=G_big a0:=gr_big rounds a0
def G_s_l01Byte:Option (List T) :=
 pv (.bin .mul) [a2,ii 6364136223846793005] fun a3 =>
 Ya a3 (ii 1442695040888963407) fun a4 =>
 pv (.bin .shr) [a4,.c (.int .u64 33)] fun a5 =>
 pv (.bin .shr) [a4,.c (.int .u64 45)] fun a6 =>
 pv (.bin .xor) [a5,a6] fun a7 =>
 pv (.bin .and) [a7,ii 255] fun a8 =>
 Yn a0 fun a9 =>
 Yl a1 a9 fun a10 =>
 jn (ar2 fun a11 a12 =>
 Yz a12 fun a13 =>
 some [a13,a0,a11,a4]) fun k0 =>
 ifT a10 (
 Y1 a0 a1 fun a12 =>
 pv (.cnv .i64) [a12] fun a13 =>
 Ya a8 a13 fun a14 =>
 pv (.bin .and) [a14,ii 255] fun a15 =>
 Ya a1 (ii 1) fun a16 =>
 k0 [a16,a15]) (
 k0 [a1,a8])
theorem gr_s_l01Byte:p_s_l01Byte.den (pick []) R [] [a0,a1,a2]=G_s_l01Byte a0 a1 a2:=(den2_of (by kernel_rfl)).trans (by kernel_rfl)
theorem g_s_l01Byte:F_s_l01Byte [a0,a1,a2]=G_s_l01Byte a0 a1 a2:=gr_s_l01Byte rounds a0 a1 a2
def G_s_l01Below:Option (List T) :=
 Ym a3 (ii 0) fun a4 =>
 ifT a4 (
 Yz (ii 0) fun a5 =>
 some [a5,a0,a1,a2]) (
 Ym a3 (ii 256) fun a5 =>
 ifT a5 (
 cl4 (f_s_l01Byte [a0,a1,a2]) fun a6 a7 a8 a9 =>
 pv (.bin .rem) [a6,a3] fun a10 =>
 Yz a10 fun a11 =>
 some [a11,a7,a8,a9]) (
 cl4 (f_s_l01Byte [a0,a1,a2]) fun a6 a7 a8 a9 =>
 cl4 (f_s_l01Byte [a7,a8,a9]) fun a10 a11 a12 a13 =>
 cl4 (f_s_l01Byte [a11,a12,a13]) fun a14 a15 a16 a17 =>
 cl4 (f_s_l01Byte [a15,a16,a17]) fun a18 a19 a20 a21 =>
 pv (.bin .mul) [a6,ii 16777216] fun a22 =>
 pv (.bin .mul) [a10,ii 65536] fun a23 =>
 Ya a22 a23 fun a24 =>
 pv (.bin .mul) [a14,ii 256] fun a25 =>
 Ya a24 a25 fun a26 =>
 Ya a26 a18 fun a27 =>
 pv (.bin .rem) [a27,a3] fun a28 =>
 Yz a28 fun a29 =>
 some [a29,a19,a20,a21]))
theorem gr_s_l01Below:p_s_l01Below.den (pick [(25,f_s_l01Byte)]) R [] [a0,a1,a2,a3]=G_s_l01Below f_s_l01Byte a0 a1 a2 a3:=(den2_of (by kernel_rfl)).trans (by kernel_rfl)
theorem g_s_l01Below:F_s_l01Below [a0,a1,a2,a3]=G_s_l01Below F_s_l01Byte a0 a1 a2 a3:=gr_s_l01Below rounds F_s_l01Byte a0 a1 a2 a3
def G_s_l01PickInt:Option (List T) :=
 Yn a3 fun a4 =>
 cl4 (f_s_l01Below [a0,a1,a2,a4]) fun a5 a6 a7 a8 =>
 Y1 a3 a5 fun a10 =>
 Yz a10 fun a11 =>
 some [a11,a6,a7,a8]
theorem gr_s_l01PickInt:p_s_l01PickInt.den (pick [(16,f_s_l01Below)]) R [] [a0,a1,a2,a3]=G_s_l01PickInt f_s_l01Below a0 a1 a2 a3:=(den2_of (by kernel_rfl)).trans (by kernel_rfl)
theorem g_s_l01PickInt:F_s_l01PickInt [a0,a1,a2,a3]=G_s_l01PickInt F_s_l01Below a0 a1 a2 a3:=gr_s_l01PickInt rounds F_s_l01Below a0 a1 a2 a3
def G_s_l03Ahead:Option (List T) :=
 Yl a0 a4 fun a8 =>
 ifT a8 (
 Yz (bb true) fun a9 =>
 some [a9]) (
 Ye a0 a4 fun a9 =>
 ifT a9 (
 Yl a1 a5 fun a10 =>
 ifT a10 (
 Yz (bb true) fun a11 =>
 some [a11]) (
 Ye a1 a5 fun a11 =>
 ifT a11 (
 Yl a3 a7 fun a12 =>
 Yz a12 fun a13 =>
 some [a13]) (
 Yz (bb false) fun a12 =>
 some [a12]))) (
 Yz (bb false) fun a10 =>
 some [a10]))
theorem gr_s_l03Ahead:p_s_l03Ahead.den (pick []) R [] [a0,a1,a2,a3,a4,a5,a6,a7]=G_s_l03Ahead a0 a1 a3 a4 a5 a7:=(den2_of (by kernel_rfl)).trans (by kernel_rfl)
theorem g_s_l03Ahead:F_s_l03Ahead [a0,a1,a2,a3,a4,a5,a6,a7]=G_s_l03Ahead a0 a1 a3 a4 a5 a7:=gr_s_l03Ahead rounds a0 a1 a2 a3 a4 a5 a6 a7
def G_s_l03Put_l0:Option (List T) :=
 (ar2 fun a12 a13 =>
 Yn a0 fun a14 =>
 Yl a13 a14 fun a15 =>
 ifT a15 (
 Y4 a0 a13 fun a17 a18 a19 a20 =>
 cl1 (f_s_l03Ahead [a1,a2,a3,a4,a17,a18,a19,a20]) fun a21 =>
 jn (ar1 fun a22 =>
 Ya a13 (ii 1) fun a23 =>
 k1 [a22,a23]) fun k2 =>
 ifT a21 (
 Y4 a0 a13 fun a23 a24 a25 a26 =>
 pv (.lit 4 [true,true,true,true]) [a23,a24,a25,a26] fun a27 =>
 pv (.app true 4) [a12,a27] fun a28 =>
 k2 [a28]) (
 k2 [a12])) (
 some [a12])) ts
def G_s_l03Put_l1:Option (List T) :=
 (ar2 fun a6 a7 =>
 Yn a0 fun a8 =>
 Yl a7 a8 fun a9 =>
 ifT a9 (
 Y4 a0 a7 fun a11 a12 a13 a14 =>
 cl1 (f_s_l03Ahead [a11,a12,a13,a14,a1,a2,a3,a4]) fun a15 =>
 jn (ar1 fun a16 =>
 Ya a7 (ii 1) fun a17 =>
 k0 [a16,a17]) fun k1 =>
 ifT a15 (
 Y4 a0 a7 fun a17 a18 a19 a20 =>
 pv (.lit 4 [true,true,true,true]) [a17,a18,a19,a20] fun a21 =>
 pv (.app true 4) [a6,a21] fun a22 =>
 k1 [a22]) (
 k1 [a6])) (
 pv (.lit 4 [true,true,true,true]) [a1,a2,a3,a4] fun a10 =>
 pv (.app true 4) [a6,a10] fun a11 =>
 iter (G_s_l03Put_l0 f_s_l03Ahead a0 a1 a2 a3 a4) R [a11,ii 0])) ts
def G_s_l03Put:Option (List T) :=
 pv (.lit 4 []) [] fun a5 =>
 iter (G_s_l03Put_l1 R f_s_l03Ahead a0 a1 a2 a3 a4) R [a5,ii 0]
theorem gr_s_l03Put:p_s_l03Put.den (pick [(36,f_s_l03Ahead)]) R [] [a0,a1,a2,a3,a4]=G_s_l03Put R f_s_l03Ahead a0 a1 a2 a3 a4:=(den2_of (by kernel_rfl)).trans (by kernel_rfl)
theorem g_s_l03Put:F_s_l03Put [a0,a1,a2,a3,a4]=G_s_l03Put rounds F_s_l03Ahead a0 a1 a2 a3 a4:=gr_s_l03Put rounds F_s_l03Ahead a0 a1 a2 a3 a4
def G_s_l01Once:Option (List T) :=
 cl4 (f_s_l01Below [a0,a1,a2,a3]) fun a4 a5 a6 a7 =>
 Ye a4 (ii 0) fun a8 =>
 Yz a8 fun a9 =>
 some [a9,a5,a6,a7]
theorem gr_s_l01Once:p_s_l01Once.den (pick [(16,f_s_l01Below)]) R [] [a0,a1,a2,a3]=G_s_l01Once f_s_l01Below a0 a1 a2 a3:=(den2_of (by kernel_rfl)).trans (by kernel_rfl)
theorem g_s_l01Once:F_s_l01Once [a0,a1,a2,a3]=G_s_l01Once F_s_l01Below a0 a1 a2 a3:=gr_s_l01Once rounds F_s_l01Below a0 a1 a2 a3
def G_s_l03Thing:Option (List T) :=
 Yl a1 a5 fun a8 =>
 ifT a8 (
 Yz (bb true) fun a9 =>
 some [a9]) (
 Ye a1 a5 fun a9 =>
 ifT a9 (
 Yl a0 a4 fun a10 =>
 Yz a10 fun a11 =>
 some [a11]) (
 Yz (bb false) fun a10 =>
 some [a10]))
theorem gr_s_l03Thing:p_s_l03Thing.den (pick []) R [] [a0,a1,a2,a3,a4,a5,a6,a7]=G_s_l03Thing a0 a1 a4 a5:=(den2_of (by kernel_rfl)).trans (by kernel_rfl)
theorem g_s_l03Thing:F_s_l03Thing [a0,a1,a2,a3,a4,a5,a6,a7]=G_s_l03Thing a0 a1 a4 a5:=gr_s_l03Thing rounds a0 a1 a2 a3 a4 a5 a6 a7
def G_s_l03PutThing_l0:Option (List T) :=
 (ar2 fun a12 a13 =>
 Yn a0 fun a14 =>
 Yl a13 a14 fun a15 =>
 ifT a15 (
 Y4 a0 a13 fun a17 a18 a19 a20 =>
 cl1 (f_s_l03Thing [a1,a2,a3,a4,a17,a18,a19,a20]) fun a21 =>
 jn (ar1 fun a22 =>
 Ya a13 (ii 1) fun a23 =>
 k1 [a22,a23]) fun k2 =>
 ifT a21 (
 Y4 a0 a13 fun a23 a24 a25 a26 =>
 pv (.lit 4 [true,true,true,true]) [a23,a24,a25,a26] fun a27 =>
 pv (.app true 4) [a12,a27] fun a28 =>
 k2 [a28]) (
 k2 [a12])) (
 some [a12])) ts
def G_s_l03PutThing_l1:Option (List T) :=
 (ar2 fun a6 a7 =>
 Yn a0 fun a8 =>
 Yl a7 a8 fun a9 =>
 ifT a9 (
 Y4 a0 a7 fun a11 a12 a13 a14 =>
 cl1 (f_s_l03Thing [a11,a12,a13,a14,a1,a2,a3,a4]) fun a15 =>
 jn (ar1 fun a16 =>
 Ya a7 (ii 1) fun a17 =>
 k0 [a16,a17]) fun k1 =>
 ifT a15 (
 Y4 a0 a7 fun a17 a18 a19 a20 =>
 pv (.lit 4 [true,true,true,true]) [a17,a18,a19,a20] fun a21 =>
 pv (.app true 4) [a6,a21] fun a22 =>
 k1 [a22]) (
 k1 [a6])) (
 pv (.lit 4 [true,true,true,true]) [a1,a2,a3,a4] fun a10 =>
 pv (.app true 4) [a6,a10] fun a11 =>
 iter (G_s_l03PutThing_l0 f_s_l03Thing a0 a1 a2 a3 a4) R [a11,ii 0])) ts
def G_s_l03PutThing:Option (List T) :=
 pv (.lit 4 []) [] fun a5 =>
 iter (G_s_l03PutThing_l1 R f_s_l03Thing a0 a1 a2 a3 a4) R [a5,ii 0]
theorem gr_s_l03PutThing:p_s_l03PutThing.den (pick [(37,f_s_l03Thing)]) R [] [a0,a1,a2,a3,a4]=G_s_l03PutThing R f_s_l03Thing a0 a1 a2 a3 a4:=(den2_of (by kernel_rfl)).trans (by kernel_rfl)
theorem g_s_l03PutThing:F_s_l03PutThing [a0,a1,a2,a3,a4]=G_s_l03PutThing rounds F_s_l03Thing a0 a1 a2 a3 a4:=gr_s_l03PutThing rounds F_s_l03Thing a0 a1 a2 a3 a4
def G_s_l03Net_l0:Option (List T) :=
 (ar5 fun a19 a20 a21 a22 a23 =>
 cl4 (f_s_l01Below [a20,a21,a22,ii 3]) fun a24 a25 a26 a27 =>
 Yl a19 a24 fun a28 =>
 ifT a28 (
 cl4 (f_s_l01Below [a25,a26,a27,a7]) fun a29 a30 a31 a32 =>
 Ya (ii 1) a29 fun a33 =>
 cl4 (f_s_l01Below [a30,a31,a32,ii 3]) fun a34 a35 a36 a37 =>
 Ya (ii 1) a34 fun a38 =>
 cl4 (f_s_l01Below [a35,a36,a37,ii 5]) fun a39 a40 a41 a42 =>
 Ya (ii 1) a39 fun a43 =>
 cl4 (f_s_l01Once [a40,a41,a42,ii 2]) fun a44 a45 a46 a47 =>
 cl1 (f_s_l03PutThing [a23,a33,a38,a43,a44]) fun a48 =>
 Ya a19 (ii 1) fun a49 =>
 k1 [a49,a45,a46,a47,a48]) (
 Yz a7 fun a29 =>
 some [a29,a12,a23,a25,a26,a27])) ts
def G_s_l03Net_l1:Option (List T) :=
 (ar5 fun a8 a9 a10 a11 a12 =>
 cl4 (f_s_l01Below [a9,a10,a11,ii 3]) fun a13 a14 a15 a16 =>
 Ya a7 a13 fun a17 =>
 Yl a8 a17 fun a18 =>
 ifT a18 (
 cl4 (f_s_l01Below [a14,a15,a16,a7]) fun a19 a20 a21 a22 =>
 Ya (ii 1) a19 fun a23 =>
 cl4 (f_s_l01Below [a20,a21,a22,a7]) fun a24 a25 a26 a27 =>
 Ya (ii 1) a24 fun a28 =>
 Ya a8 (ii 1) fun a29 =>
 Yl a29 a7 fun a30 =>
 jn (ar2 fun a31 a32 =>
 Ye a31 a32 fun a33 =>
 jn (ar1 fun a34 =>
 Yg a31 a34 fun a35 =>
 jn (ar2 fun a36 a37 =>
 cl4 (f_s_l01Below [a25,a26,a27,ii 4]) fun a38 a39 a40 a41 =>
 Ya (ii 1) a38 fun a42 =>
 pv (.lit 1 [true,true,true,true]) [ii 0,ii 0,ii 1,ii 2] fun a43 =>
 cl4 (f_s_l01PickInt [a39,a40,a41,a43]) fun a44 a45 a46 a47 =>
 Yn a12 fun a48 =>
 Yl a48 (ii 12) fun a49 =>
 jn (ar1 fun a50 =>
 Ya a8 (ii 1) fun a51 =>
 k0 [a51,a45,a46,a47,a50]) fun k1 =>
 ifT a49 (
 cl1 (f_s_l03Put [a12,a36,a37,a42,a44]) fun a50 =>
 k1 [a50]) (
 k1 [a12])) fun k1 =>
 ifT a35 (
 k1 [a34,a31]) (
 k1 [a31,a34])) fun k1 =>
 ifT a33 (
 pv (.bin .rem) [a31,a7] fun a34 =>
 Ya a34 (ii 1) fun a35 =>
 k1 [a35]) (
 k1 [a32])) fun k1 =>
 ifT a30 (
 Ya a8 (ii 1) fun a31 =>
 Ya a8 (ii 2) fun a32 =>
 k1 [a31,a32]) (
 k1 [a23,a28])) (
 iter (G_s_l03Net_l0 f_s_l01Below f_s_l01Once f_s_l03PutThing a7 a12) R [ii 0,a14,a15,a16,.l []])) ts
def G_s_l03Net:Option (List T) :=
 cl4 (f_s_l01Below [a0,a1,a2,ii 4]) fun a3 a4 a5 a6 =>
 Ya (ii 2) a3 fun a7 =>
 iter (G_s_l03Net_l1 R f_s_l01Below f_s_l01Once f_s_l01PickInt f_s_l03Put f_s_l03PutThing a7) R [ii 0,a4,a5,a6,.l []]
theorem gr_s_l03Net:p_s_l03Net.den (pick [(16,f_s_l01Below),(23,f_s_l01Once),(27,f_s_l01PickInt),(28,f_s_l03Put),(29,f_s_l03PutThing)]) R [] [a0,a1,a2]=G_s_l03Net R f_s_l01Below f_s_l01Once f_s_l01PickInt f_s_l03Put f_s_l03PutThing a0 a1 a2:=(den2_of (by kernel_rfl)).trans (by kernel_rfl)
theorem g_s_l03Net:F_s_l03Net [a0,a1,a2]=G_s_l03Net rounds F_s_l01Below F_s_l01Once F_s_l01PickInt F_s_l03Put F_s_l03PutThing a0 a1 a2:=gr_s_l03Net rounds F_s_l01Below F_s_l01Once F_s_l01PickInt F_s_l03Put F_s_l03PutThing a0 a1 a2
def G_s_l01In:Option (List T) :=
 Yh a0 a1 fun a3 =>
 ifT a3 (
 Ym a0 a2 fun a4 =>
 Yz a4 fun a5 =>
 some [a5]) (
 Yz (bb false) fun a4 =>
 some [a4])
theorem gr_s_l01In:p_s_l01In.den (pick []) R [] [a0,a1,a2]=G_s_l01In a0 a1 a2:=(den2_of (by kernel_rfl)).trans (by kernel_rfl)
theorem g_s_l01In:F_s_l01In [a0,a1,a2]=G_s_l01In a0 a1 a2:=gr_s_l01In rounds a0 a1 a2
def G_s_LinkOk:Option (List T) :=
 cl1 (f_s_l01In [a0,ii 1,ii 6]) fun a5 =>
 ifT a5 (
 cl1 (f_s_l01In [a1,ii 1,a0]) fun a6 =>
 ifT a6 (
 cl1 (f_s_l01In [a2,ii 1,a0]) fun a7 =>
 ifT a7 (
 Yl a1 a2 fun a8 =>
 ifT a8 (
 cl1 (f_s_l01In [a3,ii 1,ii 1000]) fun a9 =>
 ifT a9 (
 cl1 (f_s_l01In [a4,ii 0,ii 2]) fun a10 =>
 Yz a10 fun a11 =>
 some [a11]) (
 Yz (bb false) fun a10 =>
 some [a10])) (
 Yz (bb false) fun a9 =>
 some [a9])) (
 Yz (bb false) fun a8 =>
 some [a8])) (
 Yz (bb false) fun a7 =>
 some [a7])) (
 Yz (bb false) fun a6 =>
 some [a6])
theorem gr_s_LinkOk:p_s_LinkOk.den (pick [(31,f_s_l01In)]) R [] [a0,a1,a2,a3,a4]=G_s_LinkOk f_s_l01In a0 a1 a2 a3 a4:=(den2_of (by kernel_rfl)).trans (by kernel_rfl)
theorem g_s_LinkOk:F_s_LinkOk [a0,a1,a2,a3,a4]=G_s_LinkOk F_s_l01In a0 a1 a2 a3 a4:=gr_s_LinkOk rounds F_s_l01In a0 a1 a2 a3 a4
def G_s_NetOk_l0:Option (List T) :=
 (ar2 fun a13 a14 =>
 Yn a2 fun a15 =>
 Yl a14 a15 fun a16 =>
 ifT a16 (
 Y4 a2 a14 fun a18 a19 a20 a21 =>
 cl1 (f_s_l01In [a18,ii 1,a0]) fun a22 =>
 Yt a22 fun a23 =>
 ifT a23 (
 Yz (bb false) fun a24 =>
 some [a24]) (
 cl1 (f_s_l01In [a19,ii 1,ii 9]) fun a24 =>
 Yt a24 fun a25 =>
 ifT a25 (
 Yz (bb false) fun a26 =>
 some [a26]) (
 cl1 (f_s_l01In [a20,ii 1,ii 1000]) fun a26 =>
 Yt a26 fun a27 =>
 ifT a27 (
 Yz (bb false) fun a28 =>
 some [a28]) (
 Yg a14 (ii 0) fun a28 =>
 ifT a28 (
 Ys a14 (ii 1) fun a29 =>
 Y4 a2 a29 fun a31 a32 a33 a34 =>
 cl1 (f_s_l03Thing [a31,a32,a33,a34,a18,a19,a20,a21]) fun a35 =>
 Yt a35 fun a36 =>
 ifT a36 (
 Yz (bb false) fun a37 =>
 some [a37]) (
 Ya a14 (ii 1) fun a37 =>
 k1 [a13,a37])) (
 Ya a14 (ii 1) fun a29 =>
 k1 [a13,a29]))))) (
 Yz (bb true) fun a17 =>
 some [a17])) ts
def G_s_NetOk_l1:Option (List T) :=
 (ar2 fun a9 a10 =>
 Yn a1 fun a11 =>
 Yl a10 a11 fun a12 =>
 ifT a12 (
 Y4 a1 a10 fun a14 a15 a16 a17 =>
 cl1 (f_s_LinkOk [a0,a14,a15,a16,a17]) fun a18 =>
 Yt a18 fun a19 =>
 ifT a19 (
 Yz (bb false) fun a20 =>
 some [a20]) (
 Yg a10 (ii 0) fun a20 =>
 ifT a20 (
 Ys a10 (ii 1) fun a21 =>
 Y4 a1 a21 fun a23 a24 a25 a26 =>
 Y4 a1 a10 fun a28 a29 a30 a31 =>
 cl1 (f_s_l03Ahead [a23,a24,a25,a26,a28,a29,a30,a31]) fun a32 =>
 Yt a32 fun a33 =>
 ifT a33 (
 Yz (bb false) fun a34 =>
 some [a34]) (
 Ya a10 (ii 1) fun a34 =>
 k0 [a9,a34])) (
 Ya a10 (ii 1) fun a21 =>
 k0 [a9,a21]))) (
 iter (G_s_NetOk_l0 f_s_l01In f_s_l03Thing a0 a2) R [a9,ii 0])) ts
def G_s_NetOk:Option (List T) :=
 cl1 (f_s_l01In [a0,ii 1,ii 6]) fun a3 =>
 Yt a3 fun a4 =>
 ifT a4 (
 Yz (bb false) fun a5 =>
 some [a5]) (
 Yn a1 fun a5 =>
 Yg a5 (ii 12) fun a6 =>
 ifT a6 (
 Yz (bb false) fun a7 =>
 some [a7]) (
 Yn a2 fun a7 =>
 Yg a7 (ii 4) fun a8 =>
 ifT a8 (
 Yz (bb false) fun a9 =>
 some [a9]) (
 iter (G_s_NetOk_l1 R f_s_LinkOk f_s_l01In f_s_l03Ahead f_s_l03Thing a0 a1 a2) R [bb false,ii 0])))
theorem gr_s_NetOk:p_s_NetOk.den (pick [(31,f_s_l01In),(36,f_s_l03Ahead),(37,f_s_l03Thing),(49,f_s_LinkOk)]) R [] [a0,a1,a2]=G_s_NetOk R f_s_LinkOk f_s_l01In f_s_l03Ahead f_s_l03Thing a0 a1 a2:=(den2_of (by kernel_rfl)).trans (by kernel_rfl)
theorem g_s_NetOk:F_s_NetOk [a0,a1,a2]=G_s_NetOk rounds F_s_LinkOk F_s_l01In F_s_l03Ahead F_s_l03Thing a0 a1 a2:=gr_s_NetOk rounds F_s_LinkOk F_s_l01In F_s_l03Ahead F_s_l03Thing a0 a1 a2
def G_s_CostTo_l0:Option (List T) :=
 (ar2 fun a6 a7 =>
 Yn a1 fun a8 =>
 Yl a7 a8 fun a9 =>
 ifT a9 (
 Y4 a1 a7 fun a11 a12 a13 a14 =>
 Ye a14 a5 fun a15 =>
 ifT a15 (
 Ye a11 a3 fun a16 =>
 ifT a16 (
 Ye a12 a4 fun a17 =>
 ifT a17 (
 Yz a13 fun a18 =>
 some [a18]) (
 Ye a11 a4 fun a18 =>
 ifT a18 (
 Ye a12 a3 fun a19 =>
 ifT a19 (
 Yz a13 fun a20 =>
 some [a20]) (
 Ya a7 (ii 1) fun a20 =>
 k0 [a6,a20])) (
 Ya a7 (ii 1) fun a19 =>
 k0 [a6,a19]))) (
 Ye a11 a4 fun a17 =>
 ifT a17 (
 Ye a12 a3 fun a18 =>
 ifT a18 (
 Yz a13 fun a19 =>
 some [a19]) (
 Ya a7 (ii 1) fun a19 =>
 k0 [a6,a19])) (
 Ya a7 (ii 1) fun a18 =>
 k0 [a6,a18]))) (
 Ya a7 (ii 1) fun a16 =>
 k0 [a6,a16])) (
 Yz (ii 0) fun a10 =>
 some [a10])) ts
def G_s_CostTo:Option (List T) :=
 iter (G_s_CostTo_l0 a1 a3 a4 a5) R [ii 0,ii 0]
theorem gr_s_CostTo:p_s_CostTo.den (pick []) R [] [a0,a1,a2,a3,a4,a5]=G_s_CostTo R a1 a3 a4 a5:=(den2_of (by kernel_rfl)).trans (by kernel_rfl)
theorem g_s_CostTo:F_s_CostTo [a0,a1,a2,a3,a4,a5]=G_s_CostTo rounds a1 a3 a4 a5:=gr_s_CostTo rounds a0 a1 a2 a3 a4 a5
def G_s_NextTo_l0:Option (List T) :=
 (ar2 fun a6 a7 =>
 Ym a7 (ii 6) fun a8 =>
 ifT a8 (
 cl1 (f_s_CostTo [a0,a1,a2,a3,a7,a4]) fun a9 =>
 Yg a9 (ii 0) fun a10 =>
 jn (ar1 fun a11 =>
 Ya a7 (ii 1) fun a12 =>
 k0 [a11,a12]) fun k1 =>
 ifT a10 (
 Yx a7 fun a11 =>
 Yp a6 a11 fun a12 =>
 k1 [a12]) (
 k1 [a6])) (
 some [a6])) ts
def G_s_NextTo:Option (List T) :=
 pv (.lit 1 []) [] fun a5 =>
 iter (G_s_NextTo_l0 f_s_CostTo a0 a1 a2 a3 a4) R [a5,ii 1]
theorem gr_s_NextTo:p_s_NextTo.den (pick [(61,f_s_CostTo)]) R [] [a0,a1,a2,a3,a4]=G_s_NextTo R f_s_CostTo a0 a1 a2 a3 a4:=(den2_of (by kernel_rfl)).trans (by kernel_rfl)
theorem g_s_NextTo:F_s_NextTo [a0,a1,a2,a3,a4]=G_s_NextTo rounds F_s_CostTo a0 a1 a2 a3 a4:=gr_s_NextTo rounds F_s_CostTo a0 a1 a2 a3 a4
def G_s_AreasOf_l0:Option (List T) :=
 (ar2 fun a5 a6 =>
 Ym a6 (ii 2) fun a7 =>
 ifT a7 (
 cl1 (f_s_NextTo [a0,a1,a2,a3,a6]) fun a8 =>
 Yn a8 fun a9 =>
 Yg a9 (ii 0) fun a10 =>
 jn (ar1 fun a11 =>
 Ya a6 (ii 1) fun a12 =>
 k0 [a11,a12]) fun k1 =>
 ifT a10 (
 Yx a6 fun a11 =>
 Yp a5 a11 fun a12 =>
 k1 [a12]) (
 k1 [a5])) (
 some [a5])) ts
def G_s_AreasOf:Option (List T) :=
 pv (.lit 1 []) [] fun a4 =>
 iter (G_s_AreasOf_l0 f_s_NextTo a0 a1 a2 a3) R [a4,ii 0]
theorem gr_s_AreasOf:p_s_AreasOf.den (pick [(47,f_s_NextTo)]) R [] [a0,a1,a2,a3]=G_s_AreasOf R f_s_NextTo a0 a1 a2 a3:=(den2_of (by kernel_rfl)).trans (by kernel_rfl)
theorem g_s_AreasOf:F_s_AreasOf [a0,a1,a2,a3]=G_s_AreasOf rounds F_s_NextTo a0 a1 a2 a3:=gr_s_AreasOf rounds F_s_NextTo a0 a1 a2 a3
def G_s_l13Open_l0:Option (List T) :=
 (ar2 fun a7 a8 =>
 Yn a1 fun a9 =>
 Yl a8 a9 fun a10 =>
 ifT a10 (
 Y4 a1 a8 fun a12 a13 a14 a15 =>
 Y1 a3 a8 fun a17 =>
 ifT a17 (
 Ye a15 a6 fun a18 =>
 ifT a18 (
 Ye a12 a4 fun a19 =>
 ifT a19 (
 Ye a13 a5 fun a20 =>
 ifT a20 (
 Yz a14 fun a21 =>
 some [a21]) (
 Ye a12 a5 fun a21 =>
 ifT a21 (
 Ye a13 a4 fun a22 =>
 ifT a22 (
 Yz a14 fun a23 =>
 some [a23]) (
 Ya a8 (ii 1) fun a23 =>
 k0 [a7,a23])) (
 Ya a8 (ii 1) fun a22 =>
 k0 [a7,a22]))) (
 Ye a12 a5 fun a20 =>
 ifT a20 (
 Ye a13 a4 fun a21 =>
 ifT a21 (
 Yz a14 fun a22 =>
 some [a22]) (
 Ya a8 (ii 1) fun a22 =>
 k0 [a7,a22])) (
 Ya a8 (ii 1) fun a21 =>
 k0 [a7,a21]))) (
 Ya a8 (ii 1) fun a19 =>
 k0 [a7,a19])) (
 Ya a8 (ii 1) fun a18 =>
 k0 [a7,a18])) (
 Yz (ii 0) fun a11 =>
 some [a11])) ts
def G_s_l13Open:Option (List T) :=
 iter (G_s_l13Open_l0 a1 a3 a4 a5 a6) R [ii 0,ii 0]
theorem gr_s_l13Open:p_s_l13Open.den (pick []) R [] [a0,a1,a2,a3,a4,a5,a6]=G_s_l13Open R a1 a3 a4 a5 a6:=(den2_of (by kernel_rfl)).trans (by kernel_rfl)
theorem g_s_l13Open:F_s_l13Open [a0,a1,a2,a3,a4,a5,a6]=G_s_l13Open rounds a1 a3 a4 a5 a6:=gr_s_l13Open rounds a0 a1 a2 a3 a4 a5 a6
def G_s_Before:Option (List T) :=
 Yu a0 a8 fun a16 =>
 ifT a16 (
 Yl a0 a8 fun a17 =>
 Yz a17 fun a18 =>
 some [a18]) (
 Yu a1 a9 fun a17 =>
 ifT a17 (
 Yl a1 a9 fun a18 =>
 Yz a18 fun a19 =>
 some [a19]) (
 Yu a2 a10 fun a18 =>
 ifT a18 (
 Yl a2 a10 fun a19 =>
 Yz a19 fun a20 =>
 some [a20]) (
 Yl a3 a11 fun a19 =>
 Yz a19 fun a20 =>
 some [a20])))
theorem gr_s_Before:p_s_Before.den (pick []) R [] [a0,a1,a2,a3,a4,a5,a6,a7,a8,a9,a10,a11,a12,a13,a14,a15]=G_s_Before a0 a1 a2 a3 a8 a9 a10 a11:=(den2_of (by kernel_rfl)).trans (by kernel_rfl)
theorem g_s_Before:F_s_Before [a0,a1,a2,a3,a4,a5,a6,a7,a8,a9,a10,a11,a12,a13,a14,a15]=G_s_Before a0 a1 a2 a3 a8 a9 a10 a11:=gr_s_Before rounds a0 a1 a2 a3 a4 a5 a6 a7 a8 a9 a10 a11 a12 a13 a14 a15
def G_s_l05Put_l0:Option (List T) :=
 (ar2 fun a16 a17 =>
 Yn a0 fun a18 =>
 Yl a17 a18 fun a19 =>
 ifT a19 (
 Y8 a0 a17 fun a21 a22 a23 a24 a25 a26 a27 a28 =>
 cl1 (f_s_Before [a1,a2,a3,a4,a5,a6,a7,a8,a21,a22,a23,a24,a25,a26,a27,a28]) fun a29 =>
 jn (ar1 fun a30 =>
 Ya a17 (ii 1) fun a31 =>
 k1 [a30,a31]) fun k2 =>
 ifT a29 (
 Y8 a0 a17 fun a31 a32 a33 a34 a35 a36 a37 a38 =>
 pv (.lit 8 []) [a31,a32,a33,a34,a35,a36,a37,a38] fun a39 =>
 Yy a16 a39 fun a40 =>
 k2 [a40]) (
 k2 [a16])) (
 some [a16])) ts
def G_s_l05Put_l1:Option (List T) :=
 (ar2 fun a10 a11 =>
 Yn a0 fun a12 =>
 Yl a11 a12 fun a13 =>
 ifT a13 (
 Y8 a0 a11 fun a15 a16 a17 a18 a19 a20 a21 a22 =>
 cl1 (f_s_Before [a15,a16,a17,a18,a19,a20,a21,a22,a1,a2,a3,a4,a5,a6,a7,a8]) fun a23 =>
 jn (ar1 fun a24 =>
 Ya a11 (ii 1) fun a25 =>
 k0 [a24,a25]) fun k1 =>
 ifT a23 (
 Y8 a0 a11 fun a25 a26 a27 a28 a29 a30 a31 a32 =>
 pv (.lit 8 []) [a25,a26,a27,a28,a29,a30,a31,a32] fun a33 =>
 Yy a10 a33 fun a34 =>
 k1 [a34]) (
 k1 [a10])) (
 pv (.lit 8 []) [a1,a2,a3,a4,a5,a6,a7,a8] fun a14 =>
 Yy a10 a14 fun a15 =>
 iter (G_s_l05Put_l0 f_s_Before a0 a1 a2 a3 a4 a5 a6 a7 a8) R [a15,ii 0])) ts
def G_s_l05Put:Option (List T) :=
 pv (.lit 8 []) [] fun a9 =>
 iter (G_s_l05Put_l1 R f_s_Before a0 a1 a2 a3 a4 a5 a6 a7 a8) R [a9,ii 0]
theorem gr_s_l05Put:p_s_l05Put.den (pick [(50,f_s_Before)]) R [] [a0,a1,a2,a3,a4,a5,a6,a7,a8]=G_s_l05Put R f_s_Before a0 a1 a2 a3 a4 a5 a6 a7 a8:=(den2_of (by kernel_rfl)).trans (by kernel_rfl)
theorem g_s_l05Put:F_s_l05Put [a0,a1,a2,a3,a4,a5,a6,a7,a8]=G_s_l05Put rounds F_s_Before a0 a1 a2 a3 a4 a5 a6 a7 a8:=gr_s_l05Put rounds F_s_Before a0 a1 a2 a3 a4 a5 a6 a7 a8
def G_s_Border:Option (List T) :=
 cl1 (f_s_AreasOf [a0,a1,a2,a3]) fun a4 =>
 Yn a4 fun a5 =>
 Yg a5 (ii 1) fun a6 =>
 ifT a6 (
 Yb a4 (ii 0) fun a7 =>
 Yc 1 0 a4 (ii 0) fun a8 =>
 Ye a8 (ii 0) fun a9 =>
 Yz a9 fun a10 =>
 some [a10]) (
 Yz (bb false) fun a7 =>
 some [a7])
theorem gr_s_Border:p_s_Border.den (pick [(33,f_s_AreasOf)]) R [] [a0,a1,a2,a3]=G_s_Border f_s_AreasOf a0 a1 a2 a3:=(den2_of (by kernel_rfl)).trans (by kernel_rfl)
theorem g_s_Border:F_s_Border [a0,a1,a2,a3]=G_s_Border F_s_AreasOf a0 a1 a2 a3:=gr_s_Border rounds F_s_AreasOf a0 a1 a2 a3
def G_s_l04Near_l0:Option (List T) :=
 (ar2 fun a8 a9 =>
 Yn a5 fun a10 =>
 Yl a9 a10 fun a11 =>
 ifT a11 (
 Y2 a5 a9 fun a13 a14 =>
 cl1 (f_s_l01In [a13,ii 1,ii 6]) fun a15 =>
 Yt a15 fun a16 =>
 ifT a16 (
 Yz (bb false) fun a17 =>
 some [a17]) (
 Ye a13 a2 fun a17 =>
 ifT a17 (
 Yz (bb false) fun a18 =>
 some [a18]) (
 cl1 (f_s_l01In [a14,ii 1,ii 1000]) fun a18 =>
 Yt a18 fun a19 =>
 ifT a19 (
 Yz (bb false) fun a20 =>
 some [a20]) (
 Yg a9 (ii 0) fun a20 =>
 ifT a20 (
 Ys a9 (ii 1) fun a21 =>
 Yb a5 a21 fun a22 =>
 Yc 2 0 a5 a21 fun a23 =>
 Yh a23 a13 fun a24 =>
 ifT a24 (
 Yz (bb false) fun a25 =>
 some [a25]) (
 Ya a9 (ii 1) fun a25 =>
 k0 [a8,a25])) (
 Ya a9 (ii 1) fun a21 =>
 k0 [a8,a21]))))) (
 Yz (bb true) fun a12 =>
 some [a12])) ts
def G_s_l04Near:Option (List T) :=
 iter (G_s_l04Near_l0 f_s_l01In a2 a5) R [bb false,ii 0]
theorem gr_s_l04Near:p_s_l04Near.den (pick [(31,f_s_l01In)]) R [] [a0,a1,a2,a3,a4,a5,a6,a7]=G_s_l04Near R f_s_l01In a2 a5:=(den2_of (by kernel_rfl)).trans (by kernel_rfl)
theorem g_s_l04Near:F_s_l04Near [a0,a1,a2,a3,a4,a5,a6,a7]=G_s_l04Near rounds F_s_l01In a2 a5:=gr_s_l04Near rounds F_s_l01In a0 a1 a2 a3 a4 a5 a6 a7
def G_s_RecordOk:Option (List T) :=
 cl1 (f_s_l01In [a2,ii 1,ii 6]) fun a8 =>
 Yt a8 fun a9 =>
 ifT a9 (
 Yz (bb false) fun a10 =>
 some [a10]) (
 cl1 (f_s_l01In [a4,ii 1,ii 100000]) fun a10 =>
 Yt a10 fun a11 =>
 ifT a11 (
 Yz (bb false) fun a12 =>
 some [a12]) (
 Ye a1 (ii 1) fun a12 =>
 ifT a12 (
 cl1 (f_s_l01In [a0,ii 0,ii 2]) fun a13 =>
 ifT a13 (
 Ye a3 (ii 0) fun a14 =>
 ifT a14 (
 cl1 (f_s_l04Near [a0,a1,a2,a3,a4,a5,a6,a7]) fun a15 =>
 ifT a15 (
 Ye a6 (ii 0) fun a16 =>
 ifT a16 (
 Yt a7 fun a17 =>
 Yz a17 fun a18 =>
 some [a18]) (
 Yz (bb false) fun a17 =>
 some [a17])) (
 Yz (bb false) fun a16 =>
 some [a16])) (
 Yz (bb false) fun a15 =>
 some [a15])) (
 Yz (bb false) fun a14 =>
 some [a14])) (
 Ye a1 (ii 2) fun a13 =>
 ifT a13 (
 cl1 (f_s_l01In [a0,ii 0,ii 2]) fun a14 =>
 ifT a14 (
 cl1 (f_s_l01In [a3,ii 1,ii 6]) fun a15 =>
 ifT a15 (
 Yn a5 fun a16 =>
 Ye a16 (ii 0) fun a17 =>
 ifT a17 (
 cl1 (f_s_l01In [a6,ii 0,ii 60000]) fun a18 =>
 ifT a18 (
 Yt a7 fun a19 =>
 Yz a19 fun a20 =>
 some [a20]) (
 Yz (bb false) fun a19 =>
 some [a19])) (
 Yz (bb false) fun a18 =>
 some [a18])) (
 Yz (bb false) fun a16 =>
 some [a16])) (
 Yz (bb false) fun a15 =>
 some [a15])) (
 Ye a1 (ii 3) fun a14 =>
 ifT a14 (
 Ye a0 (ii 9) fun a15 =>
 ifT a15 (
 cl1 (f_s_l01In [a3,ii 1,ii 9]) fun a16 =>
 ifT a16 (
 Yn a5 fun a17 =>
 Ye a17 (ii 0) fun a18 =>
 ifT a18 (
 cl1 (f_s_l01In [a6,ii 1,ii 1000]) fun a19 =>
 ifT a19 (
 Yz (bb true) fun a20 =>
 some [a20]) (
 Ye a6 (ii 60000) fun a20 =>
 Yz a20 fun a21 =>
 some [a21])) (
 Yz (bb false) fun a19 =>
 some [a19])) (
 Yz (bb false) fun a17 =>
 some [a17])) (
 Yz (bb false) fun a16 =>
 some [a16])) (
 Yz (bb false) fun a15 =>
 some [a15])))))
theorem gr_s_RecordOk:p_s_RecordOk.den (pick [(31,f_s_l01In),(70,f_s_l04Near)]) R [] [a0,a1,a2,a3,a4,a5,a6,a7]=G_s_RecordOk f_s_l01In f_s_l04Near a0 a1 a2 a3 a4 a5 a6 a7:=(den2_of (by kernel_rfl)).trans (by kernel_rfl)
theorem g_s_RecordOk:F_s_RecordOk [a0,a1,a2,a3,a4,a5,a6,a7]=G_s_RecordOk F_s_l01In F_s_l04Near a0 a1 a2 a3 a4 a5 a6 a7:=gr_s_RecordOk rounds F_s_l01In F_s_l04Near a0 a1 a2 a3 a4 a5 a6 a7
def G_s_StoreOk_l0:Option (List T) :=
 (ar2 fun a3 a4 =>
 Yn a0 fun a5 =>
 Yl a4 a5 fun a6 =>
 ifT a6 (
 Y8 a0 a4 fun a8 a9 a10 a11 a12 a13 a14 a15 =>
 cl1 (f_s_RecordOk [a8,a9,a10,a11,a12,a13,a14,a15]) fun a16 =>
 Yt a16 fun a17 =>
 ifT a17 (
 Yz (bb false) fun a18 =>
 some [a18]) (
 Yg a4 (ii 0) fun a18 =>
 ifT a18 (
 Ys a4 (ii 1) fun a19 =>
 Y8 a0 a19 fun a21 a22 a23 a24 a25 a26 a27 a28 =>
 Y8 a0 a4 fun a30 a31 a32 a33 a34 a35 a36 a37 =>
 cl1 (f_s_Before [a21,a22,a23,a24,a25,a26,a27,a28,a30,a31,a32,a33,a34,a35,a36,a37]) fun a38 =>
 Yt a38 fun a39 =>
 ifT a39 (
 Yz (bb false) fun a40 =>
 some [a40]) (
 Ya a4 (ii 1) fun a40 =>
 k0 [a3,a40])) (
 Ya a4 (ii 1) fun a19 =>
 k0 [a3,a19]))) (
 Yz (bb true) fun a7 =>
 some [a7])) ts
def G_s_StoreOk:Option (List T) :=
 Yn a0 fun a1 =>
 Yg a1 (ii 150) fun a2 =>
 ifT a2 (
 Yz (bb false) fun a3 =>
 some [a3]) (
 iter (G_s_StoreOk_l0 f_s_Before f_s_RecordOk a0) R [bb false,ii 0])
theorem gr_s_StoreOk:p_s_StoreOk.den (pick [(50,f_s_Before),(58,f_s_RecordOk)]) R [] [a0]=G_s_StoreOk R f_s_Before f_s_RecordOk a0:=(den2_of (by kernel_rfl)).trans (by kernel_rfl)
theorem g_s_StoreOk:F_s_StoreOk [a0]=G_s_StoreOk rounds F_s_Before F_s_RecordOk a0:=gr_s_StoreOk rounds F_s_Before F_s_RecordOk a0
def G_s_SameKey:Option (List T) :=
 Ye a0 a8 fun a16 =>
 ifT a16 (
 Ye a1 a9 fun a17 =>
 ifT a17 (
 Ye a2 a10 fun a18 =>
 ifT a18 (
 Ye a3 a11 fun a19 =>
 Yz a19 fun a20 =>
 some [a20]) (
 Yz (bb false) fun a19 =>
 some [a19])) (
 Yz (bb false) fun a18 =>
 some [a18])) (
 Yz (bb false) fun a17 =>
 some [a17])
theorem gr_s_SameKey:p_s_SameKey.den (pick []) R [] [a0,a1,a2,a3,a4,a5,a6,a7,a8,a9,a10,a11,a12,a13,a14,a15]=G_s_SameKey a0 a1 a2 a3 a8 a9 a10 a11:=(den2_of (by kernel_rfl)).trans (by kernel_rfl)
theorem g_s_SameKey:F_s_SameKey [a0,a1,a2,a3,a4,a5,a6,a7,a8,a9,a10,a11,a12,a13,a14,a15]=G_s_SameKey a0 a1 a2 a3 a8 a9 a10 a11:=gr_s_SameKey rounds a0 a1 a2 a3 a4 a5 a6 a7 a8 a9 a10 a11 a12 a13 a14 a15
def G_s_l05At_l0:Option (List T) :=
 (ar2 fun a9 a10 =>
 Yn a0 fun a11 =>
 Yl a10 a11 fun a12 =>
 ifT a12 (
 Y8 a0 a10 fun a14 a15 a16 a17 a18 a19 a20 a21 =>
 cl1 (f_s_SameKey [a14,a15,a16,a17,a18,a19,a20,a21,a1,a2,a3,a4,a5,a6,a7,a8]) fun a22 =>
 ifT a22 (
 Yz a10 fun a23 =>
 some [a23]) (
 Ya a10 (ii 1) fun a23 =>
 k0 [a9,a23])) (
 Yz (ii (-1)) fun a13 =>
 some [a13])) ts
def G_s_l05At:Option (List T) :=
 iter (G_s_l05At_l0 f_s_SameKey a0 a1 a2 a3 a4 a5 a6 a7 a8) R [ii 0,ii 0]
theorem gr_s_l05At:p_s_l05At.den (pick [(81,f_s_SameKey)]) R [] [a0,a1,a2,a3,a4,a5,a6,a7,a8]=G_s_l05At R f_s_SameKey a0 a1 a2 a3 a4 a5 a6 a7 a8:=(den2_of (by kernel_rfl)).trans (by kernel_rfl)
theorem g_s_l05At:F_s_l05At [a0,a1,a2,a3,a4,a5,a6,a7,a8]=G_s_l05At rounds F_s_SameKey a0 a1 a2 a3 a4 a5 a6 a7 a8:=gr_s_l05At rounds F_s_SameKey a0 a1 a2 a3 a4 a5 a6 a7 a8
def G_s_l06Node:Option (List T) :=
 cl1 (f_s_l05At [a0,a1,ii 1,a2,ii 0,ii 0,.l [],ii 0,bb false]) fun a3 =>
 Yl a3 (ii 0) fun a4 =>
 ifT a4 (
 Yz (bb false) fun a5 =>
 Yz (bb false) fun a6 =>
 Yz (ii 0) fun a7 =>
 Yz (ii 0) fun a8 =>
 Yz (ii 0) fun a9 =>
 Yz (ii 0) fun a10 =>
 Yz (ii 0) fun a11 =>
 Yz (ii 0) fun a12 =>
 some [a12,a11,a10,a9,a8,.l [],a7,a6,a5]) (
 Y8 a0 a3 fun a6 a7 a8 a9 a10 a11 a12 a13 =>
 Yz (bb true) fun a14 =>
 Yz a13 fun a15 =>
 Yz a12 fun a16 =>
 Yz a10 fun a17 =>
 Yz a9 fun a18 =>
 Yz a8 fun a19 =>
 Yz a7 fun a20 =>
 Yz a6 fun a21 =>
 some [a21,a20,a19,a18,a17,a11,a16,a15,a14])
theorem gr_s_l06Node:p_s_l06Node.den (pick [(77,f_s_l05At)]) R [] [a0,a1,a2]=G_s_l06Node f_s_l05At a0 a1 a2:=(den2_of (by kernel_rfl)).trans (by kernel_rfl)
theorem g_s_l06Node:F_s_l06Node [a0,a1,a2]=G_s_l06Node F_s_l05At a0 a1 a2:=gr_s_l06Node rounds F_s_l05At a0 a1 a2
def G_s_l06Tells_l0:Option (List T) :=
 (ar2 fun a13 a14 =>
 Yn a9 fun a15 =>
 Yl a14 a15 fun a16 =>
 ifT a16 (
 Yb a9 a14 fun a17 =>
 Yc 2 0 a9 a14 fun a18 =>
 Ye a18 a3 fun a19 =>
 ifT a19 (
 Yb a9 a14 fun a20 =>
 Yc 2 1 a9 a14 fun a21 =>
 Yz a21 fun a22 =>
 some [a22]) (
 Ya a14 (ii 1) fun a20 =>
 k0 [a13,a20])) (
 Yz (ii 0) fun a17 =>
 some [a17])) ts
def G_s_l06Tells:Option (List T) :=
 cl9 (f_s_l06Node [a0,a1,a2]) fun a4 a5 a6 a7 a8 a9 a10 a11 a12 =>
 iter (G_s_l06Tells_l0 a3 a9) R [ii 0,ii 0]
theorem gr_s_l06Tells:p_s_l06Tells.den (pick [(66,f_s_l06Node)]) R [] [a0,a1,a2,a3]=G_s_l06Tells R f_s_l06Node a0 a1 a2 a3:=(den2_of (by kernel_rfl)).trans (by kernel_rfl)
theorem g_s_l06Tells:F_s_l06Tells [a0,a1,a2,a3]=G_s_l06Tells rounds F_s_l06Node a0 a1 a2 a3:=gr_s_l06Tells rounds F_s_l06Node a0 a1 a2 a3
def G_s_l06Links_l0:Option (List T) :=
 (ar2 fun a15 a16 =>
 Yn a11 fun a17 =>
 Yl a15 a17 fun a18 =>
 ifT a18 (
 Yb a11 a15 fun a19 =>
 Yc 2 0 a11 a15 fun a20 =>
 cl1 (f_s_l01In [a20,ii 1,ii 6]) fun a21 =>
 ifT a21 (
 Yb a11 a15 fun a22 =>
 Yc 2 0 a11 a15 fun a23 =>
 cl1 (f_s_l06Tells [a0,a1,a23,a3]) fun a24 =>
 Yg a24 (ii 0) fun a25 =>
 jn (ar1 fun a26 =>
 Ya a15 (ii 1) fun a27 =>
 k1 [a27,a26]) fun k2 =>
 ifT a25 (
 pv (.bin .mul) [a3,ii 7] fun a26 =>
 Yb a11 a15 fun a27 =>
 Yc 2 0 a11 a15 fun a28 =>
 Ya a26 a28 fun a29 =>
 Yb a11 a15 fun a30 =>
 Yc 2 1 a11 a15 fun a31 =>
 Yb a16 a29 fun a32 =>
 pv (.put true 1 0 1) [a16,a29,a31] fun a33 =>
 k2 [a33]) (
 k2 [a16])) (
 jn (ar1 fun a22 =>
 Ya a15 (ii 1) fun a23 =>
 k1 [a23,a22]) fun k2 =>
 k2 [a16])) (
 Ya a3 (ii 1) fun a19 =>
 k0 [a19,a16])) ts
def G_s_l06Links_l1:Option (List T) :=
 (ar2 fun a3 a4 =>
 Ym a3 (ii 6) fun a5 =>
 ifT a5 (
 cl9 (f_s_l06Node [a0,a1,a3]) fun a6 a7 a8 a9 a10 a11 a12 a13 a14 =>
 iter (G_s_l06Links_l0 f_s_l01In f_s_l06Tells a0 a1 a3 a11 k0) R [ii 0,a4]) (
 some [a4])) ts
def G_s_l06Links:Option (List T) :=
 pv (.mk) [ii 49,ii 49,ii 0] fun a2 =>
 iter (G_s_l06Links_l1 R f_s_l01In f_s_l06Node f_s_l06Tells a0 a1) R [ii 1,a2]
theorem gr_s_l06Links:p_s_l06Links.den (pick [(31,f_s_l01In),(66,f_s_l06Node),(78,f_s_l06Tells)]) R [] [a0,a1]=G_s_l06Links R f_s_l01In f_s_l06Node f_s_l06Tells a0 a1:=(den2_of (by kernel_rfl)).trans (by kernel_rfl)
theorem g_s_l06Links:F_s_l06Links [a0,a1]=G_s_l06Links rounds F_s_l01In F_s_l06Node F_s_l06Tells a0 a1:=gr_s_l06Links rounds F_s_l01In F_s_l06Node F_s_l06Tells a0 a1
def G_s_l03In_l0:Option (List T) :=
 (ar2 fun a2 a3 =>
 Yn a0 fun a4 =>
 Yl a3 a4 fun a5 =>
 ifT a5 (
 Y1 a0 a3 fun a7 =>
 Ye a7 a1 fun a8 =>
 ifT a8 (
 Yz (bb true) fun a9 =>
 some [a9]) (
 Ya a3 (ii 1) fun a9 =>
 k0 [a2,a9])) (
 Yz (bb false) fun a6 =>
 some [a6])) ts
def G_s_l03In:Option (List T) :=
 iter (G_s_l03In_l0 a0 a1) R [bb false,ii 0]
theorem gr_s_l03In:p_s_l03In.den (pick []) R [] [a0,a1]=G_s_l03In R a0 a1:=(den2_of (by kernel_rfl)).trans (by kernel_rfl)
theorem g_s_l03In:F_s_l03In [a0,a1]=G_s_l03In rounds a0 a1:=gr_s_l03In rounds a0 a1
def G_s_l06Add_l0:Option (List T) :=
 (ar2 fun a3 a4 =>
 Ym a4 (ii 6) fun a5 =>
 ifT a5 (
 cl1 (f_s_l03In [a0,a4]) fun a6 =>
 ifT a6 (
 jn (ar1 fun a7 =>
 Ya a4 (ii 1) fun a8 =>
 k0 [a7,a8]) fun k1 =>
 Yx a4 fun a7 =>
 Yp a3 a7 fun a8 =>
 k1 [a8]) (
 cl1 (f_s_l03In [a1,a4]) fun a7 =>
 jn (ar1 fun a8 =>
 Ya a4 (ii 1) fun a9 =>
 k0 [a8,a9]) fun k1 =>
 ifT a7 (
 Yx a4 fun a8 =>
 Yp a3 a8 fun a9 =>
 k1 [a9]) (
 k1 [a3]))) (
 some [a3])) ts
def G_s_l06Add:Option (List T) :=
 pv (.lit 1 []) [] fun a2 =>
 iter (G_s_l06Add_l0 f_s_l03In a0 a1) R [a2,ii 1]
theorem gr_s_l06Add:p_s_l06Add.den (pick [(71,f_s_l03In)]) R [] [a0,a1]=G_s_l06Add R f_s_l03In a0 a1:=(den2_of (by kernel_rfl)).trans (by kernel_rfl)
theorem g_s_l06Add:F_s_l06Add [a0,a1]=G_s_l06Add rounds F_s_l03In a0 a1:=gr_s_l06Add rounds F_s_l03In a0 a1
def G_s_WaysIn_l0:Option (List T) :=
 (ar2 fun a32 a33 =>
 Ym a33 (ii 6) fun a34 =>
 ifT a34 (
 Yq a29 a33 fun a36 =>
 jn (ar1 fun a37 =>
 Ya a33 (ii 1) fun a38 =>
 k2 [a37,a38]) fun k3 =>
 ifT a36 (
 Yq a30 a33 fun a38 =>
 pv (.lit 1 []) [] fun a39 =>
 Y1 a28 a33 fun a41 =>
 Yp a39 a41 fun a42 =>
 pv (.lit 3 [true,true,false]) [a33,a38,a42] fun a43 =>
 Yo a32 a43 fun a44 =>
 k3 [a44]) (
 k3 [a32])) (
 some [a32])) ts
def G_s_WaysIn_l1:Option (List T) :=
 (ar3 fun a38 a39 a40 =>
 Ym a38 (ii 6) fun a41 =>
 ifT a41 (
 pv (.bin .mul) [a32,ii 7] fun a42 =>
 Ya a42 a38 fun a43 =>
 Y1 a18 a43 fun a45 =>
 Ye a45 (ii 0) fun a46 =>
 ifT a46 (
 Ya a38 (ii 1) fun a47 =>
 k3 [a47,a39,a40]) (
 Yq a37 a38 fun a48 =>
 ifT a48 (
 Ya a38 (ii 1) fun a49 =>
 k3 [a49,a39,a40]) (
 Y1 a39 a32 fun a50 =>
 Ye a32 a2 fun a51 =>
 jn (ar1 fun a52 =>
 Yq a40 a32 fun a54 =>
 Ya a54 a45 fun a55 =>
 Yq a40 a38 fun a57 =>
 Yl a57 (ii 0) fun a58 =>
 ifT a58 (
 jn (ar2 fun a59 a60 =>
 Ya a38 (ii 1) fun a61 =>
 k3 [a61,a59,a60]) fun k4 =>
 Yb a40 a38 fun a59 =>
 pv (.put true 1 0 1) [a40,a38,a55] fun a60 =>
 pv (.lit 1 []) [] fun a61 =>
 cl1 (f_s_l06Add [a61,a52]) fun a62 =>
 Yb a39 a38 fun a63 =>
 pv (.put false 1 0 1) [a39,a38,a62] fun a64 =>
 k4 [a64,a60]) (
 Yq a40 a38 fun a60 =>
 Yl a55 a60 fun a61 =>
 jn (ar2 fun a62 a63 =>
 Ya a38 (ii 1) fun a64 =>
 k3 [a64,a62,a63]) fun k4 =>
 ifT a61 (
 Yb a40 a38 fun a62 =>
 pv (.put true 1 0 1) [a40,a38,a55] fun a63 =>
 pv (.lit 1 []) [] fun a64 =>
 cl1 (f_s_l06Add [a64,a52]) fun a65 =>
 Yb a39 a38 fun a66 =>
 pv (.put false 1 0 1) [a39,a38,a65] fun a67 =>
 k4 [a67,a63]) (
 Yq a40 a38 fun a63 =>
 Ye a55 a63 fun a64 =>
 jn (ar1 fun a65 =>
 k4 [a65,a40]) fun k5 =>
 ifT a64 (
 Y1 a39 a38 fun a66 =>
 cl1 (f_s_l06Add [a66,a52]) fun a67 =>
 Yb a39 a38 fun a68 =>
 pv (.put false 1 0 1) [a39,a38,a67] fun a69 =>
 k5 [a69]) (
 k5 [a39])))) fun k4 =>
 ifT a51 (
 Yx a38 fun a52 =>
 k4 [a52]) (
 k4 [a50])))) (
 Ya a27 (ii 1) fun a42 =>
 k1 [a42,a39,a37,a40])) ts
def G_s_WaysIn_l2:Option (List T) :=
 (ar2 fun a32 a33 =>
 Ym a33 (ii 6) fun a34 =>
 ifT a34 (
 Yq a29 a33 fun a36 =>
 Yt a36 fun a37 =>
 ifT a37 (
 Yq a30 a33 fun a39 =>
 Yh a39 (ii 0) fun a40 =>
 ifT a40 (
 Ye a32 (ii 0) fun a41 =>
 ifT a41 (
 jn (ar1 fun a42 =>
 Ya a33 (ii 1) fun a43 =>
 k2 [a42,a43]) fun k3 =>
 k3 [a33]) (
 Yq a30 a33 fun a43 =>
 Yq a30 a32 fun a45 =>
 Yl a43 a45 fun a46 =>
 jn (ar1 fun a47 =>
 Ya a33 (ii 1) fun a48 =>
 k2 [a47,a48]) fun k3 =>
 ifT a46 (
 k3 [a33]) (
 k3 [a32]))) (
 jn (ar1 fun a41 =>
 Ya a33 (ii 1) fun a42 =>
 k2 [a41,a42]) fun k3 =>
 k3 [a32])) (
 jn (ar1 fun a38 =>
 Ya a33 (ii 1) fun a39 =>
 k2 [a38,a39]) fun k3 =>
 k3 [a32])) (
 Ye a32 (ii 0) fun a35 =>
 ifT a35 (
 Ya (ii 6) (ii 1) fun a36 =>
 k1 [a36,a28,a29,a30]) (
 Yb a29 a32 fun a36 =>
 pv (.put true 1 0 1) [a29,a32,bb true] fun a37 =>
 iter (G_s_WaysIn_l1 f_s_l06Add a2 a18 a27 a32 a37 k1) R [ii 1,a28,a30]))) ts
def G_s_WaysIn_l3:Option (List T) :=
 (ar4 fun a27 a28 a29 a30 =>
 Ym a27 (ii 6) fun a31 =>
 ifT a31 (
 iter (G_s_WaysIn_l2 R f_s_l06Add a2 a18 a27 a28 a29 a30 k1) R [ii 0,ii 1]) (
 iter (G_s_WaysIn_l0 a28 a29 a30) R [a3,ii 1])) ts
def G_s_WaysIn_l4:Option (List T) :=
 (ar2 fun a22 a23 =>
 Ym a22 (ii 6) fun a24 =>
 ifT a24 (
 Yb a23 a22 fun a25 =>
 pv (.put true 1 0 1) [a23,a22,ii (-1)] fun a26 =>
 Ya a22 (ii 1) fun a27 =>
 k0 [a27,a26]) (
 Yb a23 a2 fun a25 =>
 pv (.put true 1 0 1) [a23,a2,ii 0] fun a26 =>
 iter (G_s_WaysIn_l3 R f_s_l06Add a2 a3 a18) R [ii 1,a20,a21,a26])) ts
def G_s_WaysIn:Option (List T) :=
 pv (.lit 3 []) [] fun a3 =>
 cl9 (f_s_l06Node [a0,a1,a2]) fun a4 a5 a6 a7 a8 a9 a10 a11 a12 =>
 cl1 (f_s_StoreOk [a0]) fun a13 =>
 Yt a13 fun a14 =>
 ifT a14 (
 some [a3]) (
 cl1 (f_s_l01In [a2,ii 1,ii 6]) fun a15 =>
 Yt a15 fun a16 =>
 ifT a16 (
 some [a3]) (
 Yt a12 fun a17 =>
 ifT a17 (
 some [a3]) (
 cl1 (f_s_l06Links [a0,a1]) fun a18 =>
 pv (.mk) [ii 7,ii 7,ii 0] fun a19 =>
 pv (.mk) [ii 7,ii 7,.l []] fun a20 =>
 pv (.mk) [ii 7,ii 7,bb false] fun a21 =>
 iter (G_s_WaysIn_l4 R f_s_l06Add a2 a3 a18 a20 a21) R [ii 1,a19])))
theorem gr_s_WaysIn:p_s_WaysIn.den (pick [(31,f_s_l01In),(45,f_s_StoreOk),(60,f_s_l06Add),(66,f_s_l06Node),(67,f_s_l06Links)]) R [] [a0,a1,a2]=G_s_WaysIn R f_s_StoreOk f_s_l01In f_s_l06Add f_s_l06Links f_s_l06Node a0 a1 a2:=(den2_of (by kernel_rfl)).trans (by kernel_rfl)
theorem g_s_WaysIn:F_s_WaysIn [a0,a1,a2]=G_s_WaysIn rounds F_s_StoreOk F_s_l01In F_s_l06Add F_s_l06Links F_s_l06Node a0 a1 a2:=gr_s_WaysIn rounds F_s_StoreOk F_s_l01In F_s_l06Add F_s_l06Links F_s_l06Node a0 a1 a2
def G_s_l06Copy:Option (List T) :=
 pv (.lit 1 []) [] fun a3 =>
 Yp a3 a2 fun a4 =>
 Yz a1 fun a5 =>
 Yz a0 fun a6 =>
 some [a6,a5,a4]
theorem gr_s_l06Copy:p_s_l06Copy.den (pick []) R [] [a0,a1,a2]=G_s_l06Copy a0 a1 a2:=(den2_of (by kernel_rfl)).trans (by kernel_rfl)
theorem g_s_l06Copy:F_s_l06Copy [a0,a1,a2]=G_s_l06Copy a0 a1 a2:=gr_s_l06Copy rounds a0 a1 a2
def G_s_WayTo_l0:Option (List T) :=
 (ar2 fun a2 a3 =>
 Yn a0 fun a4 =>
 Yl a3 a4 fun a5 =>
 ifT a5 (
 Yb a0 a3 fun a6 =>
 Yc 3 0 a0 a3 fun a7 =>
 Ye a7 a1 fun a8 =>
 ifT a8 (
 Y3 a0 a3 fun a10 a11 a12 =>
 cl3 (f_s_l06Copy [a10,a11,a12]) fun a13 a14 a15 =>
 Yz (bb true) fun a16 =>
 Yz a14 fun a17 =>
 Yz a13 fun a18 =>
 some [a18,a17,a15,a16]) (
 Ya a3 (ii 1) fun a9 =>
 k0 [a2,a9])) (
 Yz (bb false) fun a6 =>
 Yz (ii 0) fun a7 =>
 Yz (ii 0) fun a8 =>
 some [a8,a7,.l [],a6])) ts
def G_s_WayTo:Option (List T) :=
 iter (G_s_WayTo_l0 f_s_l06Copy a0 a1) R [bb false,ii 0]
theorem gr_s_WayTo:p_s_WayTo.den (pick [(68,f_s_l06Copy)]) R [] [a0,a1]=G_s_WayTo R f_s_l06Copy a0 a1:=(den2_of (by kernel_rfl)).trans (by kernel_rfl)
theorem g_s_WayTo:F_s_WayTo [a0,a1]=G_s_WayTo rounds F_s_l06Copy a0 a1:=gr_s_WayTo rounds F_s_l06Copy a0 a1
def G_s_Better:Option (List T) :=
 Yl a1 a4 fun a6 =>
 Yz a6 fun a7 =>
 some [a7]
theorem gr_s_Better:p_s_Better.den (pick []) R [] [a0,a1,a2,a3,a4,a5]=G_s_Better a1 a4:=(den2_of (by kernel_rfl)).trans (by kernel_rfl)
theorem g_s_Better:F_s_Better [a0,a1,a2,a3,a4,a5]=G_s_Better a1 a4:=gr_s_Better rounds a0 a1 a2 a3 a4 a5
def G_s_Together:Option (List T) :=
 cl1 (f_s_Better [a0,a1,a2,a3,a4,a5]) fun a6 =>
 ifT a6 (
 cl3 (f_s_l06Copy [a0,a1,a2]) fun a7 a8 a9 =>
 Yz a8 fun a10 =>
 Yz a7 fun a11 =>
 some [a11,a10,a9]) (
 cl1 (f_s_Better [a3,a4,a5,a0,a1,a2]) fun a7 =>
 ifT a7 (
 cl3 (f_s_l06Copy [a3,a4,a5]) fun a8 a9 a10 =>
 Yz a9 fun a11 =>
 Yz a8 fun a12 =>
 some [a12,a11,a10]) (
 cl1 (f_s_l06Add [a2,a5]) fun a8 =>
 Yz a1 fun a9 =>
 Yz a0 fun a10 =>
 some [a10,a9,a8]))
theorem gr_s_Together:p_s_Together.den (pick [(60,f_s_l06Add),(68,f_s_l06Copy),(69,f_s_Better)]) R [] [a0,a1,a2,a3,a4,a5]=G_s_Together f_s_Better f_s_l06Add f_s_l06Copy a0 a1 a2 a3 a4 a5:=(den2_of (by kernel_rfl)).trans (by kernel_rfl)
theorem g_s_Together:F_s_Together [a0,a1,a2,a3,a4,a5]=G_s_Together F_s_Better F_s_l06Add F_s_l06Copy a0 a1 a2 a3 a4 a5:=gr_s_Together rounds F_s_Better F_s_l06Add F_s_l06Copy a0 a1 a2 a3 a4 a5
def G_s_RoutesWithin_l0:Option (List T) :=
 (ar5 fun a12 a13 a14 a15 a16 =>
 Yn a1 fun a17 =>
 Yl a13 a17 fun a18 =>
 ifT a18 (
 Y1 a5 a13 fun a20 =>
 cl4 (f_s_WayTo [a20,a10]) fun a21 a22 a23 a24 =>
 Yt a24 fun a25 =>
 ifT a25 (
 Ya a13 (ii 1) fun a26 =>
 k2 [a12,a26,a14,a15,a16]) (
 jn (ar3 fun a26 a27 a28 =>
 Ya a13 (ii 1) fun a29 =>
 k2 [bb true,a29,a26,a27,a28]) fun k3 =>
 ifT a12 (
 cl3 (f_s_Together [a14,a15,a16,a21,a22,a23]) fun a26 a27 a28 =>
 k3 [a26,a27,a28]) (
 k3 [a21,a22,a23]))) (
 jn (ar1 fun a19 =>
 Ya a10 (ii 1) fun a20 =>
 k1 [a19,a20]) fun k3 =>
 ifT a12 (
 pv (.lit 3 []) [a14,a15,a16] fun a19 =>
 Yo a9 a19 fun a20 =>
 k3 [a20]) (
 k3 [a9]))) ts
def G_s_RoutesWithin_l1:Option (List T) :=
 (ar2 fun a9 a10 =>
 Ym a10 (ii 6) fun a11 =>
 ifT a11 (
 iter (G_s_RoutesWithin_l0 f_s_Together f_s_WayTo a1 a5 a9 a10 k1) R [bb false,ii 0,ii 0,ii 0,.l []]) (
 some [a9])) ts
def G_s_RoutesWithin_l2:Option (List T) :=
 (ar2 fun a5 a6 =>
 Yn a1 fun a7 =>
 Yl a6 a7 fun a8 =>
 ifT a8 (
 Y1 a1 a6 fun a10 =>
 cl1 (f_s_WaysIn [a0,a10,a2]) fun a11 =>
 pv (.lit 1 []) [a11] fun a12 =>
 pv (.app false 1) [a5,a12] fun a13 =>
 Ya a6 (ii 1) fun a14 =>
 k0 [a13,a14]) (
 iter (G_s_RoutesWithin_l1 R f_s_Together f_s_WayTo a1 a5) R [a3,ii 1])) ts
def G_s_RoutesWithin:Option (List T) :=
 pv (.lit 3 []) [] fun a3 =>
 pv (.lit 1 []) [] fun a4 =>
 iter (G_s_RoutesWithin_l2 R f_s_Together f_s_WayTo f_s_WaysIn a0 a1 a2 a3) R [a4,ii 0]
theorem gr_s_RoutesWithin:p_s_RoutesWithin.den (pick [(54,f_s_WaysIn),(55,f_s_WayTo),(56,f_s_Together)]) R [] [a0,a1,a2]=G_s_RoutesWithin R f_s_Together f_s_WayTo f_s_WaysIn a0 a1 a2:=(den2_of (by kernel_rfl)).trans (by kernel_rfl)
theorem g_s_RoutesWithin:F_s_RoutesWithin [a0,a1,a2]=G_s_RoutesWithin rounds F_s_Together F_s_WayTo F_s_WaysIn a0 a1 a2:=gr_s_RoutesWithin rounds F_s_Together F_s_WayTo F_s_WaysIn a0 a1 a2
def G_s_l07Beyond_l0:Option (List T) :=
 (ar5 fun a9 a10 a11 a12 a13 =>
 Yn a0 fun a14 =>
 Yl a10 a14 fun a15 =>
 ifT a15 (
 Y8 a0 a10 fun a17 a18 a19 a20 a21 a22 a23 a24 =>
 Yu a18 (ii 2) fun a25 =>
 ifT a25 (
 Ya a10 (ii 1) fun a26 =>
 k0 [a9,a26,a11,a12,a13]) (
 Yu a17 a2 fun a26 =>
 ifT a26 (
 Ya a10 (ii 1) fun a27 =>
 k0 [a9,a27,a11,a12,a13]) (
 Yu a20 a4 fun a27 =>
 ifT a27 (
 Ya a10 (ii 1) fun a28 =>
 k0 [a9,a28,a11,a12,a13]) (
 Ye a19 a3 fun a28 =>
 ifT a28 (
 Ya a10 (ii 1) fun a29 =>
 k0 [a9,a29,a11,a12,a13]) (
 Yh a23 (ii 60000) fun a29 =>
 ifT a29 (
 Ya a10 (ii 1) fun a30 =>
 k0 [a9,a30,a11,a12,a13]) (
 cl4 (f_s_WayTo [a1,a19]) fun a30 a31 a32 a33 =>
 Yt a33 fun a34 =>
 ifT a34 (
 Ya a10 (ii 1) fun a35 =>
 k0 [a9,a35,a11,a12,a13]) (
 Ya a31 a23 fun a35 =>
 Yh a35 (ii 60000) fun a36 =>
 ifT a36 (
 Ya a10 (ii 1) fun a37 =>
 k0 [a9,a37,a11,a12,a13]) (
 Ya a31 a23 fun a37 =>
 jn (ar3 fun a38 a39 a40 =>
 Ya a10 (ii 1) fun a41 =>
 k0 [bb true,a41,a38,a39,a40]) fun k1 =>
 ifT a9 (
 cl3 (f_s_Together [a11,a12,a13,a4,a37,a32]) fun a38 a39 a40 =>
 k1 [a38,a39,a40]) (
 k1 [a4,a37,a32]))))))))) (
 Yz a9 fun a16 =>
 Yz a12 fun a17 =>
 Yz a11 fun a18 =>
 some [a18,a17,a13,a16])) ts
def G_s_l07Beyond:Option (List T) :=
 iter (G_s_l07Beyond_l0 f_s_Together f_s_WayTo a0 a1 a2 a3 a4) R [a8,ii 0,a5,a6,a7]
theorem gr_s_l07Beyond:p_s_l07Beyond.den (pick [(55,f_s_WayTo),(56,f_s_Together)]) R [] [a0,a1,a2,a3,a4,a5,a6,a7,a8]=G_s_l07Beyond R f_s_Together f_s_WayTo a0 a1 a2 a3 a4 a5 a6 a7 a8:=(den2_of (by kernel_rfl)).trans (by kernel_rfl)
theorem g_s_l07Beyond:F_s_l07Beyond [a0,a1,a2,a3,a4,a5,a6,a7,a8]=G_s_l07Beyond rounds F_s_Together F_s_WayTo a0 a1 a2 a3 a4 a5 a6 a7 a8:=gr_s_l07Beyond rounds F_s_Together F_s_WayTo a0 a1 a2 a3 a4 a5 a6 a7 a8
def G_s_RoutesBeyond_l0:Option (List T) :=
 (ar5 fun a20 a21 a22 a23 a24 =>
 Yn a1 fun a25 =>
 Yl a21 a25 fun a26 =>
 ifT a26 (
 ifT a2 (
 Y1 a1 a21 fun a28 =>
 Yu a28 (ii 0) fun a29 =>
 ifT a29 (
 Ya a21 (ii 1) fun a30 =>
 k2 [a20,a30,a22,a23,a24]) (
 Y1 a9 a21 fun a31 =>
 Y1 a1 a21 fun a33 =>
 cl4 (f_s_l07Beyond [a0,a31,a33,a3,a14,a22,a23,a24,a20]) fun a34 a35 a36 a37 =>
 Ya a21 (ii 1) fun a38 =>
 k2 [a37,a38,a34,a35,a36])) (
 Y1 a9 a21 fun a28 =>
 Y1 a1 a21 fun a30 =>
 cl4 (f_s_l07Beyond [a0,a28,a30,a3,a14,a22,a23,a24,a20]) fun a31 a32 a33 a34 =>
 Ya a21 (ii 1) fun a35 =>
 k2 [a34,a35,a31,a32,a33])) (
 jn (ar1 fun a27 =>
 Ya a14 (ii 1) fun a28 =>
 k1 [a27,a28]) fun k3 =>
 ifT a20 (
 pv (.lit 3 []) [a22,a23,a24] fun a27 =>
 Yo a13 a27 fun a28 =>
 k3 [a28]) (
 k3 [a13]))) ts
def G_s_RoutesBeyond_l1:Option (List T) :=
 (ar2 fun a13 a14 =>
 Ym a14 (ii 6) fun a15 =>
 ifT a15 (
 cl4 (f_s_WayTo [a5,a14]) fun a16 a17 a18 a19 =>
 ifT a19 (
 Ya a14 (ii 1) fun a20 =>
 k1 [a13,a20]) (
 iter (G_s_RoutesBeyond_l0 f_s_l07Beyond a0 a1 a2 a3 a9 a13 a14 k1) R [bb false,ii 0,ii 0,ii 0,.l []])) (
 some [a13])) ts
def G_s_RoutesBeyond_l2:Option (List T) :=
 (ar2 fun a9 a10 =>
 Yn a1 fun a11 =>
 Yl a10 a11 fun a12 =>
 ifT a12 (
 Y1 a1 a10 fun a14 =>
 cl1 (f_s_WaysIn [a0,a14,a3]) fun a15 =>
 pv (.lit 1 []) [a15] fun a16 =>
 pv (.app false 1) [a9,a16] fun a17 =>
 Ya a10 (ii 1) fun a18 =>
 k0 [a17,a18]) (
 iter (G_s_RoutesBeyond_l1 R f_s_WayTo f_s_l07Beyond a0 a1 a2 a3 a5 a9) R [a4,ii 1])) ts
def G_s_RoutesBeyond:Option (List T) :=
 pv (.lit 3 []) [] fun a4 =>
 cl1 (f_s_RoutesWithin [a0,a1,a3]) fun a5 =>
 cl1 (f_s_StoreOk [a0]) fun a6 =>
 Yt a6 fun a7 =>
 ifT a7 (
 some [a4]) (
 pv (.lit 1 []) [] fun a8 =>
 iter (G_s_RoutesBeyond_l2 R f_s_WayTo f_s_WaysIn f_s_l07Beyond a0 a1 a2 a3 a4 a5) R [a8,ii 0])
theorem gr_s_RoutesBeyond:p_s_RoutesBeyond.den (pick [(43,f_s_RoutesWithin),(45,f_s_StoreOk),(54,f_s_WaysIn),(55,f_s_WayTo),(57,f_s_l07Beyond)]) R [] [a0,a1,a2,a3]=G_s_RoutesBeyond R f_s_RoutesWithin f_s_StoreOk f_s_WayTo f_s_WaysIn f_s_l07Beyond a0 a1 a2 a3:=(den2_of (by kernel_rfl)).trans (by kernel_rfl)
theorem g_s_RoutesBeyond:F_s_RoutesBeyond [a0,a1,a2,a3]=G_s_RoutesBeyond rounds F_s_RoutesWithin F_s_StoreOk F_s_WayTo F_s_WaysIn F_s_l07Beyond a0 a1 a2 a3:=gr_s_RoutesBeyond rounds F_s_RoutesWithin F_s_StoreOk F_s_WayTo F_s_WaysIn F_s_l07Beyond a0 a1 a2 a3
def G_s_Beyond_l0:Option (List T) :=
 (ar2 fun a15 a16 =>
 Ym a16 (ii 6) fun a17 =>
 ifT a17 (
 cl4 (f_s_WayTo [a12,a16]) fun a18 a19 a20 a21 =>
 ifT a21 (
 Ya a16 (ii 1) fun a22 =>
 k1 [a15,a22]) (
 Ye a16 a2 fun a22 =>
 ifT a22 (
 Ya a16 (ii 1) fun a23 =>
 k1 [a15,a23]) (
 cl4 (f_s_WayTo [a13,a16]) fun a23 a24 a25 a26 =>
 Yt a26 fun a27 =>
 ifT a27 (
 Yu a3 (ii 0) fun a28 =>
 jn (ar4 fun a29 a30 a31 a32 =>
 jn (ar1 fun a33 =>
 Ya a16 (ii 1) fun a34 =>
 k1 [a33,a34]) fun k2 =>
 ifT a32 (
 pv (.lit 8 [true,true,true,true,true,false,true,true]) [a3,ii 2,a2,a16,ii 0,.l [],a30,bb false] fun a33 =>
 Yy a15 a33 fun a34 =>
 k2 [a34]) (
 k2 [a15])) fun k2 =>
 ifT a28 (
 cl4 (f_s_WayTo [a14,a16]) fun a29 a30 a31 a32 =>
 k2 [a29,a30,a31,a32]) (
 k2 [a23,a24,a25,a26])) (
 jn (ar4 fun a28 a29 a30 a31 =>
 jn (ar1 fun a32 =>
 Ya a16 (ii 1) fun a33 =>
 k1 [a32,a33]) fun k2 =>
 ifT a31 (
 pv (.lit 8 [true,true,true,true,true,false,true,true]) [a3,ii 2,a2,a16,ii 0,.l [],a29,bb false] fun a32 =>
 Yy a15 a32 fun a33 =>
 k2 [a33]) (
 k2 [a15])) fun k2 =>
 k2 [a23,a24,a25,a26])))) (
 some [a15])) ts
def G_s_Beyond_l1:Option (List T) :=
 (ar2 fun a8 a9 =>
 Yn a1 fun a10 =>
 Yl a9 a10 fun a11 =>
 ifT a11 (
 Y1 a1 a9 fun a13 =>
 Yu a13 a3 fun a14 =>
 jn (ar1 fun a15 =>
 Ya a9 (ii 1) fun a16 =>
 k0 [a15,a16]) fun k1 =>
 ifT a14 (
 Y1 a1 a9 fun a16 =>
 Yx a16 fun a17 =>
 Yp a8 a17 fun a18 =>
 k1 [a18]) (
 k1 [a8])) (
 cl1 (f_s_WaysIn [a0,a3,a2]) fun a12 =>
 cl1 (f_s_RoutesWithin [a0,a8,a2]) fun a13 =>
 cl1 (f_s_RoutesBeyond [a0,a1,bb true,a2]) fun a14 =>
 iter (G_s_Beyond_l0 f_s_WayTo a2 a3 a12 a13 a14) R [a4,ii 1])) ts
def G_s_Beyond:Option (List T) :=
 pv (.lit 8 []) [] fun a4 =>
 cl1 (f_s_StoreOk [a0]) fun a5 =>
 Yt a5 fun a6 =>
 ifT a6 (
 some [a4]) (
 pv (.lit 1 []) [] fun a7 =>
 iter (G_s_Beyond_l1 R f_s_RoutesBeyond f_s_RoutesWithin f_s_WayTo f_s_WaysIn a0 a1 a2 a3 a4) R [a7,ii 0])
theorem gr_s_Beyond:p_s_Beyond.den (pick [(43,f_s_RoutesWithin),(44,f_s_RoutesBeyond),(45,f_s_StoreOk),(54,f_s_WaysIn),(55,f_s_WayTo)]) R [] [a0,a1,a2,a3]=G_s_Beyond R f_s_RoutesBeyond f_s_RoutesWithin f_s_StoreOk f_s_WayTo f_s_WaysIn a0 a1 a2 a3:=(den2_of (by kernel_rfl)).trans (by kernel_rfl)
theorem g_s_Beyond:F_s_Beyond [a0,a1,a2,a3]=G_s_Beyond rounds F_s_RoutesBeyond F_s_RoutesWithin F_s_StoreOk F_s_WayTo F_s_WaysIn a0 a1 a2 a3:=gr_s_Beyond rounds F_s_RoutesBeyond F_s_RoutesWithin F_s_StoreOk F_s_WayTo F_s_WaysIn a0 a1 a2 a3
def G_s_l08With_l0:Option (List T) :=
 (ar2 fun a2 a3 =>
 Yn a1 fun a4 =>
 Yl a3 a4 fun a5 =>
 ifT a5 (
 Y8 a1 a3 fun a7 a8 a9 a10 a11 a12 a13 a14 =>
 Ye a11 (ii 0) fun a15 =>
 jn (ar1 fun a16 =>
 cl1 (f_s_l05Put [a2,a7,a8,a9,a10,a16,a12,a13,a14]) fun a17 =>
 Ya a3 (ii 1) fun a18 =>
 k0 [a17,a18]) fun k1 =>
 ifT a15 (
 k1 [ii 1]) (
 k1 [a11])) (
 some [a2])) ts
def G_s_l08With:Option (List T) :=
 iter (G_s_l08With_l0 f_s_l05Put a1) R [a0,ii 0]
theorem gr_s_l08With:p_s_l08With.den (pick [(40,f_s_l05Put)]) R [] [a0,a1]=G_s_l08With R f_s_l05Put a0 a1:=(den2_of (by kernel_rfl)).trans (by kernel_rfl)
theorem g_s_l08With:F_s_l08With [a0,a1]=G_s_l08With rounds F_s_l05Put a0 a1:=gr_s_l08With rounds F_s_l05Put a0 a1
def G_s_l13Beyond_l0:Option (List T) :=
 (ar2 fun a9 a10 =>
 Yn a0 fun a11 =>
 Yl a10 a11 fun a12 =>
 ifT a12 (
 Yb a0 a10 fun a13 =>
 Yc 8 1 a0 a10 fun a14 =>
 Yu a14 (ii 2) fun a15 =>
 ifT a15 (
 jn (ar1 fun a16 =>
 Ya a10 (ii 1) fun a17 =>
 k1 [a16,a17]) fun k2 =>
 Y8 a0 a10 fun a17 a18 a19 a20 a21 a22 a23 a24 =>
 pv (.lit 8 []) [a17,a18,a19,a20,a21,a22,a23,a24] fun a25 =>
 Yy a9 a25 fun a26 =>
 k2 [a26]) (
 Yb a0 a10 fun a16 =>
 Yc 8 2 a0 a10 fun a17 =>
 Yu a17 a2 fun a18 =>
 jn (ar1 fun a19 =>
 Ya a10 (ii 1) fun a20 =>
 k1 [a19,a20]) fun k2 =>
 ifT a18 (
 Y8 a0 a10 fun a20 a21 a22 a23 a24 a25 a26 a27 =>
 pv (.lit 8 []) [a20,a21,a22,a23,a24,a25,a26,a27] fun a28 =>
 Yy a9 a28 fun a29 =>
 k2 [a29]) (
 k2 [a9]))) (
 cl1 (f_s_l08With [a9,a4]) fun a13 =>
 some [a13])) ts
def G_s_l13Beyond_l1:Option (List T) :=
 (ar2 fun a4 a5 =>
 Yn a1 fun a6 =>
 Yl a5 a6 fun a7 =>
 ifT a7 (
 Y1 a1 a5 fun a9 =>
 cl1 (f_s_Beyond [a0,a1,a2,a9]) fun a10 =>
 Yy a4 a10 fun a11 =>
 Ya a5 (ii 1) fun a12 =>
 k0 [a11,a12]) (
 pv (.lit 8 []) [] fun a8 =>
 iter (G_s_l13Beyond_l0 f_s_l08With a0 a2 a4) R [a8,ii 0])) ts
def G_s_l13Beyond:Option (List T) :=
 pv (.lit 8 []) [] fun a3 =>
 iter (G_s_l13Beyond_l1 R f_s_Beyond f_s_l08With a0 a1 a2) R [a3,ii 0]
theorem gr_s_l13Beyond:p_s_l13Beyond.den (pick [(51,f_s_Beyond),(52,f_s_l08With)]) R [] [a0,a1,a2]=G_s_l13Beyond R f_s_Beyond f_s_l08With a0 a1 a2:=(den2_of (by kernel_rfl)).trans (by kernel_rfl)
theorem g_s_l13Beyond:F_s_l13Beyond [a0,a1,a2]=G_s_l13Beyond rounds F_s_Beyond F_s_l08With a0 a1 a2:=gr_s_l13Beyond rounds F_s_Beyond F_s_l08With a0 a1 a2
def G_s_l04Copy:Option (List T) :=
 pv (.lit 2 []) [] fun a8 =>
 pv (.app true 2) [a8,a5] fun a9 =>
 Yz a7 fun a10 =>
 Yz a6 fun a11 =>
 Yz a4 fun a12 =>
 Yz a3 fun a13 =>
 Yz a2 fun a14 =>
 Yz a1 fun a15 =>
 Yz a0 fun a16 =>
 some [a16,a15,a14,a13,a12,a9,a11,a10]
theorem gr_s_l04Copy:p_s_l04Copy.den (pick []) R [] [a0,a1,a2,a3,a4,a5,a6,a7]=G_s_l04Copy a0 a1 a2 a3 a4 a5 a6 a7:=(den2_of (by kernel_rfl)).trans (by kernel_rfl)
theorem g_s_l04Copy:F_s_l04Copy [a0,a1,a2,a3,a4,a5,a6,a7]=G_s_l04Copy a0 a1 a2 a3 a4 a5 a6 a7:=gr_s_l04Copy rounds a0 a1 a2 a3 a4 a5 a6 a7
def G_s_l04CopyList_l0:Option (List T) :=
 (ar2 fun a2 a3 =>
 Yn a0 fun a4 =>
 Yl a3 a4 fun a5 =>
 ifT a5 (
 Y8 a0 a3 fun a7 a8 a9 a10 a11 a12 a13 a14 =>
 cl8 (f_s_l04Copy [a7,a8,a9,a10,a11,a12,a13,a14]) fun a15 a16 a17 a18 a19 a20 a21 a22 =>
 pv (.lit 8 [true,true,true,true,true,false,true,true]) [a15,a16,a17,a18,a19,a20,a21,a22] fun a23 =>
 Yy a2 a23 fun a24 =>
 Ya a3 (ii 1) fun a25 =>
 k0 [a24,a25]) (
 some [a2])) ts
def G_s_l04CopyList:Option (List T) :=
 pv (.lit 8 []) [] fun a1 =>
 iter (G_s_l04CopyList_l0 f_s_l04Copy a0) R [a1,ii 0]
theorem gr_s_l04CopyList:p_s_l04CopyList.den (pick [(53,f_s_l04Copy)]) R [] [a0]=G_s_l04CopyList R f_s_l04Copy a0:=(den2_of (by kernel_rfl)).trans (by kernel_rfl)
theorem g_s_l04CopyList:F_s_l04CopyList [a0]=G_s_l04CopyList rounds F_s_l04Copy a0:=gr_s_l04CopyList rounds F_s_l04Copy a0
def G_s_Ideal_l0:Option (List T) :=
 (ar2 fun a23 a24 =>
 Ym a24 a0 fun a25 =>
 ifT a25 (
 Ys a24 (ii 1) fun a26 =>
 Y1 a4 a26 fun a28 =>
 ifT a28 (
 cl1 (f_s_Border [a0,a1,a2,a24]) fun a29 =>
 jn (ar1 fun a30 =>
 Ya a24 (ii 1) fun a31 =>
 k3 [a30,a31]) fun k4 =>
 ifT a29 (
 cl1 (f_s_AreasOf [a0,a1,a2,a24]) fun a30 =>
 cl1 (f_s_l13Beyond [a23,a30,a24]) fun a31 =>
 k4 [a31]) (
 k4 [a23])) (
 jn (ar1 fun a29 =>
 Ya a24 (ii 1) fun a30 =>
 k3 [a29,a30]) fun k4 =>
 k4 [a23])) (
 Ya a21 (ii 1) fun a26 =>
 k2 [a23,a26])) ts
def G_s_Ideal_l1:Option (List T) :=
 (ar2 fun a20 a21 =>
 Yl a21 (ii 3) fun a22 =>
 ifT a22 (
 iter (G_s_Ideal_l0 f_s_AreasOf f_s_Border f_s_l13Beyond a0 a1 a2 a4 a21 k2) R [a20,ii 1]) (
 cl1 (f_s_l04CopyList [a20]) fun a23 =>
 Yz (bb true) fun a24 =>
 some [a23,a24])) ts
def G_s_Ideal_l2:Option (List T) :=
 (ar2 fun a16 a17 =>
 Yn a2 fun a18 =>
 Yl a17 a18 fun a19 =>
 ifT a19 (
 Y4 a2 a17 fun a21 a22 a23 a24 =>
 Ys a21 (ii 1) fun a25 =>
 Y1 a4 a25 fun a27 =>
 jn (ar1 fun a28 =>
 Ya a17 (ii 1) fun a29 =>
 k1 [a28,a29]) fun k2 =>
 ifT a27 (
 cl1 (f_s_l05Put [a16,ii 9,ii 3,a21,a22,ii 1,.l [],a23,a24]) fun a28 =>
 k2 [a28]) (
 k2 [a16])) (
 iter (G_s_Ideal_l1 R f_s_AreasOf f_s_Border f_s_l04CopyList f_s_l13Beyond a0 a1 a2 a4) R [a16,ii 0])) ts
def G_s_Ideal_l3:Option (List T) :=
 (ar2 fun a26 a27 =>
 Ym a26 a0 fun a28 =>
 ifT a28 (
 Y1 a16 a18 fun a30 =>
 cl1 (f_s_l13Open [a0,a1,a2,a3,a14,a26,a30]) fun a31 =>
 Yg a31 (ii 0) fun a32 =>
 ifT a32 (
 Ys a26 (ii 1) fun a33 =>
 Y1 a4 a33 fun a35 =>
 jn (ar1 fun a36 =>
 Ya a26 (ii 1) fun a37 =>
 k2 [a37,a36]) fun k3 =>
 ifT a35 (
 pv (.lit 2 [true,true]) [a26,a31] fun a36 =>
 pv (.app true 2) [a27,a36] fun a37 =>
 k3 [a37]) (
 k3 [a27])) (
 jn (ar1 fun a33 =>
 Ya a26 (ii 1) fun a34 =>
 k2 [a34,a33]) fun k3 =>
 k3 [a27])) (
 cl1 (f_s_l05Put [a17,a25,ii 1,a14,ii 0,ii 1,a27,ii 0,bb false]) fun a29 =>
 Ya a18 (ii 1) fun a30 =>
 k1 [a29,a30])) ts
def G_s_Ideal_l4:Option (List T) :=
 (ar2 fun a17 a18 =>
 Yn a16 fun a19 =>
 Yl a18 a19 fun a20 =>
 ifT a20 (
 Ys a14 (ii 1) fun a21 =>
 Y1 a4 a21 fun a23 =>
 ifT a23 (
 Y1 a16 a18 fun a25 =>
 iter (G_s_Ideal_l3 f_s_l05Put f_s_l13Open a0 a1 a2 a3 a4 a14 a16 a17 a18 a25 k1) R [ii 1,.l []]) (
 Ya a14 (ii 1) fun a24 =>
 k0 [a17,a24])) (
 Ya a14 (ii 1) fun a21 =>
 k0 [a17,a21])) ts
def G_s_Ideal_l5:Option (List T) :=
 (ar2 fun a13 a14 =>
 Ym a14 a0 fun a15 =>
 ifT a15 (
 cl1 (f_s_AreasOf [a0,a1,a2,a14]) fun a16 =>
 iter (G_s_Ideal_l4 R f_s_l05Put f_s_l13Open a0 a1 a2 a3 a4 a14 a16 k0) R [a13,ii 0]) (
 iter (G_s_Ideal_l2 R f_s_AreasOf f_s_Border f_s_l04CopyList f_s_l05Put f_s_l13Beyond a0 a1 a2 a4) R [a13,ii 0])) ts
def G_s_Ideal:Option (List T) :=
 pv (.lit 8 []) [] fun a5 =>
 cl1 (f_s_NetOk [a0,a1,a2]) fun a6 =>
 Yt a6 fun a7 =>
 ifT a7 (
 Yz (bb false) fun a8 =>
 some [a5,a8]) (
 Yn a3 fun a8 =>
 Yn a1 fun a9 =>
 Yu a8 a9 fun a10 =>
 ifT a10 (
 Yz (bb false) fun a11 =>
 some [a5,a11]) (
 Yn a4 fun a11 =>
 Yu a11 a0 fun a12 =>
 ifT a12 (
 Yz (bb false) fun a13 =>
 some [a5,a13]) (
 iter (G_s_Ideal_l5 R f_s_AreasOf f_s_Border f_s_l04CopyList f_s_l05Put f_s_l13Beyond f_s_l13Open a0 a1 a2 a3 a4) R [a5,ii 1])))
theorem gr_s_Ideal:p_s_Ideal.den (pick [(33,f_s_AreasOf),(34,f_s_Border),(38,f_s_NetOk),(39,f_s_l13Open),(40,f_s_l05Put),(41,f_s_l13Beyond),(42,f_s_l04CopyList)]) R [] [a0,a1,a2,a3,a4]=G_s_Ideal R f_s_AreasOf f_s_Border f_s_NetOk f_s_l04CopyList f_s_l05Put f_s_l13Beyond f_s_l13Open a0 a1 a2 a3 a4:=(den2_of (by kernel_rfl)).trans (by kernel_rfl)
theorem g_s_Ideal:F_s_Ideal [a0,a1,a2,a3,a4]=G_s_Ideal rounds F_s_AreasOf F_s_Border F_s_NetOk F_s_l04CopyList F_s_l05Put F_s_l13Beyond F_s_l13Open a0 a1 a2 a3 a4:=gr_s_Ideal rounds F_s_AreasOf F_s_Border F_s_NetOk F_s_l04CopyList F_s_l05Put F_s_l13Beyond F_s_l13Open a0 a1 a2 a3 a4
def G_s_l07Owner:Option (List T) :=
 Ye a2 a3 fun a4 =>
 ifT a4 (
 Yz (bb true) fun a5 =>
 Yz (ii 0) fun a6 =>
 Yz a2 fun a7 =>
 some [a7,a6,.l [],a5]) (
 cl4 (f_s_WayTo [a0,a2]) fun a5 a6 a7 a8 =>
 ifT a8 (
 Yz (bb true) fun a9 =>
 Yz a6 fun a10 =>
 Yz a5 fun a11 =>
 some [a11,a10,a7,a9]) (
 cl4 (f_s_WayTo [a1,a2]) fun a9 a10 a11 a12 =>
 Yz a12 fun a13 =>
 Yz a10 fun a14 =>
 Yz a9 fun a15 =>
 some [a15,a14,a11,a13]))
theorem gr_s_l07Owner:p_s_l07Owner.den (pick [(55,f_s_WayTo)]) R [] [a0,a1,a2,a3]=G_s_l07Owner f_s_WayTo a0 a1 a2 a3:=(den2_of (by kernel_rfl)).trans (by kernel_rfl)
theorem g_s_l07Owner:F_s_l07Owner [a0,a1,a2,a3]=G_s_l07Owner F_s_WayTo a0 a1 a2 a3:=gr_s_l07Owner rounds F_s_WayTo a0 a1 a2 a3
def G_s_l07Thing_l0:Option (List T) :=
 (ar6 fun a6 a7 a8 a9 a10 a11 =>
 Yn a0 fun a12 =>
 Yl a7 a12 fun a13 =>
 ifT a13 (
 Y8 a0 a7 fun a15 a16 a17 a18 a19 a20 a21 a22 =>
 Yu a16 (ii 3) fun a23 =>
 ifT a23 (
 Ya a7 (ii 1) fun a24 =>
 k0 [a6,a24,a8,a9,a10,a11]) (
 Yu a18 a3 fun a24 =>
 ifT a24 (
 Ya a7 (ii 1) fun a25 =>
 k0 [a6,a25,a8,a9,a10,a11]) (
 pv (.bb .neq) [a22,a5] fun a25 =>
 ifT a25 (
 Ya a7 (ii 1) fun a26 =>
 k0 [a6,a26,a8,a9,a10,a11]) (
 Yh a21 (ii 60000) fun a26 =>
 ifT a26 (
 Ya a7 (ii 1) fun a27 =>
 k0 [a6,a27,a8,a9,a10,a11]) (
 cl4 (f_s_l07Owner [a1,a2,a17,a4]) fun a27 a28 a29 a30 =>
 Yt a30 fun a31 =>
 ifT a31 (
 Ya a7 (ii 1) fun a32 =>
 k0 [a6,a32,a8,a9,a10,a11]) (
 Ya a28 a21 fun a32 =>
 jn (ar3 fun a33 a34 a35 =>
 Yt a6 fun a36 =>
 ifT a36 (
 jn (ar3 fun a37 a38 a39 =>
 Ya a7 (ii 1) fun a40 =>
 k0 [bb true,a40,a33,a37,a38,a39]) fun k1 =>
 pv (.lit 1 []) [] fun a37 =>
 cl1 (f_s_l06Add [a37,a29]) fun a38 =>
 k1 [a34,a35,a38]) (
 Yl a35 a10 fun a37 =>
 ifT a37 (
 jn (ar3 fun a38 a39 a40 =>
 Ya a7 (ii 1) fun a41 =>
 k0 [bb true,a41,a33,a38,a39,a40]) fun k1 =>
 pv (.lit 1 []) [] fun a38 =>
 cl1 (f_s_l06Add [a38,a29]) fun a39 =>
 k1 [a34,a35,a39]) (
 Ye a35 a10 fun a38 =>
 ifT a38 (
 Yl a34 a9 fun a39 =>
 jn (ar3 fun a40 a41 a42 =>
 Ya a7 (ii 1) fun a43 =>
 k0 [bb true,a43,a33,a40,a41,a42]) fun k1 =>
 ifT a39 (
 pv (.lit 1 []) [] fun a40 =>
 cl1 (f_s_l06Add [a40,a29]) fun a41 =>
 k1 [a34,a35,a41]) (
 Ye a35 a10 fun a40 =>
 ifT a40 (
 Ye a34 a9 fun a41 =>
 jn (ar1 fun a42 =>
 k1 [a9,a10,a42]) fun k2 =>
 ifT a41 (
 cl1 (f_s_l06Add [a11,a29]) fun a42 =>
 k2 [a42]) (
 k2 [a11])) (
 jn (ar1 fun a41 =>
 k1 [a9,a10,a41]) fun k2 =>
 k2 [a11]))) (
 jn (ar3 fun a39 a40 a41 =>
 Ya a7 (ii 1) fun a42 =>
 k0 [bb true,a42,a33,a39,a40,a41]) fun k1 =>
 Ye a35 a10 fun a39 =>
 ifT a39 (
 Ye a34 a9 fun a40 =>
 jn (ar1 fun a41 =>
 k1 [a9,a10,a41]) fun k2 =>
 ifT a40 (
 cl1 (f_s_l06Add [a11,a29]) fun a41 =>
 k2 [a41]) (
 k2 [a11])) (
 jn (ar1 fun a40 =>
 k1 [a9,a10,a40]) fun k2 =>
 k2 [a11]))))) fun k1 =>
 ifT a5 (
 k1 [ii 4,a28,a21]) (
 k1 [a8,a32,ii 0]))))))) (
 Yz a6 fun a14 =>
 Yz a10 fun a15 =>
 Yz a9 fun a16 =>
 Yz a8 fun a17 =>
 Yz a3 fun a18 =>
 Yz (bb true) fun a19 =>
 some [a19,a18,a17,a16,a15,a11,a14])) ts
def G_s_l07Thing:Option (List T) :=
 iter (G_s_l07Thing_l0 f_s_l06Add f_s_l07Owner a0 a1 a2 a3 a4 a5) R [bb false,ii 0,ii 3,ii 0,ii 0,.l []]
theorem gr_s_l07Thing:p_s_l07Thing.den (pick [(59,f_s_l07Owner),(60,f_s_l06Add)]) R [] [a0,a1,a2,a3,a4,a5]=G_s_l07Thing R f_s_l06Add f_s_l07Owner a0 a1 a2 a3 a4 a5:=(den2_of (by kernel_rfl)).trans (by kernel_rfl)
theorem g_s_l07Thing:F_s_l07Thing [a0,a1,a2,a3,a4,a5]=G_s_l07Thing rounds F_s_l06Add F_s_l07Owner a0 a1 a2 a3 a4 a5:=gr_s_l07Thing rounds F_s_l06Add F_s_l07Owner a0 a1 a2 a3 a4 a5
def G_s_RoutesOf_l0:Option (List T) :=
 (ar2 fun a17 a18 =>
 Ym a18 (ii 9) fun a19 =>
 ifT a19 (
 cl7 (f_s_l07Thing [a0,a5,a6,a18,a3,bb false]) fun a20 a21 a22 a23 a24 a25 a26 =>
 Yt a26 fun a27 =>
 jn (ar7 fun a28 a29 a30 a31 a32 a33 a34 =>
 jn (ar1 fun a35 =>
 Ya a18 (ii 1) fun a36 =>
 k2 [a35,a36]) fun k3 =>
 ifT a34 (
 pv (.lit 1 []) [] fun a35 =>
 Yp a35 a33 fun a36 =>
 pv (.lit 6 [true,true,true,true,true,false]) [a28,a29,a30,a31,a32,a36] fun a37 =>
 pv (.app false 6) [a17,a37] fun a38 =>
 k3 [a38]) (
 k3 [a17])) fun k3 =>
 ifT a27 (
 cl7 (f_s_l07Thing [a0,a5,a6,a18,a3,bb true]) fun a28 a29 a30 a31 a32 a33 a34 =>
 k3 [a28,a29,a30,a31,a32,a33,a34]) (
 k3 [a20,a21,a22,a23,a24,a25,a26])) (
 some [a17])) ts
def G_s_RoutesOf_l1:Option (List T) :=
 (ar2 fun a13 a14 =>
 Yn a6 fun a15 =>
 Yl a14 a15 fun a16 =>
 ifT a16 (
 Yb a6 a14 fun a17 =>
 Yc 3 0 a6 a14 fun a18 =>
 Yu a18 a3 fun a19 =>
 jn (ar1 fun a20 =>
 Ya a14 (ii 1) fun a21 =>
 k1 [a20,a21]) fun k2 =>
 ifT a19 (
 Yb a6 a14 fun a20 =>
 Yc 3 0 a6 a14 fun a21 =>
 Yb a6 a14 fun a22 =>
 Yc 3 1 a6 a14 fun a23 =>
 Yb a6 a14 fun a24 =>
 Yc 3 2 a6 a14 fun a25 =>
 pv (.lit 6 []) [bb false,a21,ii 2,a23,ii 0,a25] fun a26 =>
 pv (.app false 6) [a13,a26] fun a27 =>
 k2 [a27]) (
 k2 [a13])) (
 iter (G_s_RoutesOf_l0 f_s_l07Thing a0 a3 a5 a6) R [a13,ii 1])) ts
def G_s_RoutesOf_l2:Option (List T) :=
 (ar2 fun a9 a10 =>
 Yn a5 fun a11 =>
 Yl a10 a11 fun a12 =>
 ifT a12 (
 Yb a5 a10 fun a13 =>
 Yc 3 0 a5 a10 fun a14 =>
 Yu a14 a3 fun a15 =>
 jn (ar1 fun a16 =>
 Ya a10 (ii 1) fun a17 =>
 k0 [a16,a17]) fun k1 =>
 ifT a15 (
 Yb a5 a10 fun a16 =>
 Yc 3 0 a5 a10 fun a17 =>
 Yb a5 a10 fun a18 =>
 Yc 3 1 a5 a10 fun a19 =>
 Yb a5 a10 fun a20 =>
 Yc 3 2 a5 a10 fun a21 =>
 pv (.lit 6 []) [bb false,a17,ii 1,a19,ii 0,a21] fun a22 =>
 pv (.app false 6) [a9,a22] fun a23 =>
 k1 [a23]) (
 k1 [a9])) (
 iter (G_s_RoutesOf_l1 R f_s_l07Thing a0 a3 a5 a6) R [a9,ii 0])) ts
def G_s_RoutesOf:Option (List T) :=
 pv (.lit 6 []) [] fun a4 =>
 cl1 (f_s_RoutesWithin [a0,a1,a3]) fun a5 =>
 cl1 (f_s_RoutesBeyond [a0,a1,a2,a3]) fun a6 =>
 cl1 (f_s_StoreOk [a0]) fun a7 =>
 Yt a7 fun a8 =>
 ifT a8 (
 some [a4]) (
 iter (G_s_RoutesOf_l2 R f_s_l07Thing a0 a3 a5 a6) R [a4,ii 0])
theorem gr_s_RoutesOf:p_s_RoutesOf.den (pick [(43,f_s_RoutesWithin),(44,f_s_RoutesBeyond),(45,f_s_StoreOk),(46,f_s_l07Thing)]) R [] [a0,a1,a2,a3]=G_s_RoutesOf R f_s_RoutesBeyond f_s_RoutesWithin f_s_StoreOk f_s_l07Thing a0 a1 a2 a3:=(den2_of (by kernel_rfl)).trans (by kernel_rfl)
theorem g_s_RoutesOf:F_s_RoutesOf [a0,a1,a2,a3]=G_s_RoutesOf rounds F_s_RoutesBeyond F_s_RoutesWithin F_s_StoreOk F_s_l07Thing a0 a1 a2 a3:=gr_s_RoutesOf rounds F_s_RoutesBeyond F_s_RoutesWithin F_s_StoreOk F_s_l07Thing a0 a1 a2 a3
def G_s_TrueRoutes:Option (List T) :=
 cl2 (f_s_Ideal [a0,a1,a2,a3,a4]) fun a6 a7 =>
 Yt a7 fun a8 =>
 ifT a8 (
 pv (.lit 6 []) [] fun a9 =>
 some [a9]) (
 cl1 (f_s_l01In [a5,ii 1,a0]) fun a9 =>
 Yt a9 fun a10 =>
 ifT a10 (
 pv (.lit 6 []) [] fun a11 =>
 some [a11]) (
 Ys a5 (ii 1) fun a11 =>
 Y1 a4 a11 fun a13 =>
 Yt a13 fun a14 =>
 ifT a14 (
 pv (.lit 6 []) [] fun a15 =>
 some [a15]) (
 cl1 (f_s_AreasOf [a0,a1,a2,a5]) fun a15 =>
 cl1 (f_s_Border [a0,a1,a2,a5]) fun a16 =>
 cl1 (f_s_RoutesOf [a6,a15,a16,a5]) fun a17 =>
 some [a17])))
theorem gr_s_TrueRoutes:p_s_TrueRoutes.den (pick [(30,f_s_Ideal),(31,f_s_l01In),(32,f_s_RoutesOf),(33,f_s_AreasOf),(34,f_s_Border)]) R [] [a0,a1,a2,a3,a4,a5]=G_s_TrueRoutes f_s_AreasOf f_s_Border f_s_Ideal f_s_RoutesOf f_s_l01In a0 a1 a2 a3 a4 a5:=(den2_of (by kernel_rfl)).trans (by kernel_rfl)
theorem g_s_TrueRoutes:F_s_TrueRoutes [a0,a1,a2,a3,a4,a5]=G_s_TrueRoutes F_s_AreasOf F_s_Border F_s_Ideal F_s_RoutesOf F_s_l01In a0 a1 a2 a3 a4 a5:=gr_s_TrueRoutes rounds F_s_AreasOf F_s_Border F_s_Ideal F_s_RoutesOf F_s_l01In a0 a1 a2 a3 a4 a5
def G_s_l11Routes_l0:Option (List T) :=
 (ar2 fun a19 a20 =>
 Yn a20 fun a21 =>
 Yl a19 a21 fun a22 =>
 ifT a22 (
 Yb a20 a19 fun a23 =>
 pv (.put true 1 0 1) [a20,a19,bb true] fun a24 =>
 Ya a19 (ii 1) fun a25 =>
 k1 [a25,a24]) (
 cl4 (f_s_l01Below [a13,a14,a15,a3]) fun a23 a24 a25 a26 =>
 Ya (ii 1) a23 fun a27 =>
 cl1 (f_s_TrueRoutes [a3,a4,a5,a16,a20,a27]) fun a28 =>
 Yn a28 fun a29 =>
 Yg a29 (ii 0) fun a30 =>
 ifT a30 (
 cl4 (f_s_l01Once [a24,a25,a26,ii 6]) fun a31 a32 a33 a34 =>
 jn (ar1 fun a35 =>
 some [a35,a32,a33,a34]) fun k2 =>
 ifT a31 (
 Yb a28 (ii 0) fun a35 =>
 Yc 6 0 a28 (ii 0) fun a36 =>
 Yc 6 1 a28 (ii 0) fun a37 =>
 Yc 6 2 a28 (ii 0) fun a38 =>
 Yc 6 3 a28 (ii 0) fun a39 =>
 Yc 6 4 a28 (ii 0) fun a40 =>
 Yc 6 5 a28 (ii 0) fun a41 =>
 pv (.lit 6 []) [a36,a37,a38,a39,a40,a41] fun a42 =>
 pv (.app false 6) [a28,a42] fun a43 =>
 k2 [a43]) (
 k2 [a28])) (
 jn (ar1 fun a31 =>
 some [a31,a24,a25,a26]) fun k2 =>
 k2 [a28]))) ts
def G_s_l11Routes_l1:Option (List T) :=
 (ar5 fun a12 a13 a14 a15 a16 =>
 Yn a16 fun a17 =>
 Yl a12 a17 fun a18 =>
 ifT a18 (
 cl4 (f_s_l01Once [a13,a14,a15,ii 8]) fun a19 a20 a21 a22 =>
 Yt a19 fun a23 =>
 Yb a16 a12 fun a24 =>
 pv (.put true 1 0 1) [a16,a12,a23] fun a25 =>
 Ya a12 (ii 1) fun a26 =>
 k0 [a26,a20,a21,a22,a25]) (
 iter (G_s_l11Routes_l0 f_s_TrueRoutes f_s_l01Below f_s_l01Once a3 a4 a5 a13 a14 a15 a16) R [ii 0,a11])) ts
def G_s_l11Routes:Option (List T) :=
 cl6 (f_s_l03Net [a0,a1,a2]) fun a3 a4 a5 a6 a7 a8 =>
 Yn a4 fun a9 =>
 pv (.mk) [a9,a9,bb false] fun a10 =>
 pv (.mk) [a3,a3,bb false] fun a11 =>
 iter (G_s_l11Routes_l1 R f_s_TrueRoutes f_s_l01Below f_s_l01Once a3 a4 a5 a11) R [ii 0,a6,a7,a8,a10]
theorem gr_s_l11Routes:p_s_l11Routes.den (pick [(16,f_s_l01Below),(22,f_s_l03Net),(23,f_s_l01Once),(24,f_s_TrueRoutes)]) R [] [a0,a1,a2]=G_s_l11Routes R f_s_TrueRoutes f_s_l01Below f_s_l01Once f_s_l03Net a0 a1 a2:=(den2_of (by kernel_rfl)).trans (by kernel_rfl)
theorem g_s_l11Routes:F_s_l11Routes [a0,a1,a2]=G_s_l11Routes rounds F_s_TrueRoutes F_s_l01Below F_s_l01Once F_s_l03Net a0 a1 a2:=gr_s_l11Routes rounds F_s_TrueRoutes F_s_l01Below F_s_l01Once F_s_l03Net a0 a1 a2
def G_s_DrawShowRoute_l0:Option (List T) :=
 (ar2 fun a3 a4 =>
 Yn a0 fun a5 =>
 Yl a4 a5 fun a6 =>
 ifT a6 (
 Yl a4 (ii 4000) fun a7 =>
 ifT a7 (
 pv (.bin .mul) [a3,ii 131] fun a8 =>
 Y1 a0 a4 fun a10 =>
 pv (.cnv .i64) [a10] fun a11 =>
 Ya a8 a11 fun a12 =>
 Ya a12 (ii 7) fun a13 =>
 pv (.bin .and) [a13,ii 1073741823] fun a14 =>
 Ya a4 (ii 1) fun a15 =>
 k0 [a14,a15]) (
 cl4 (f_s_l11Routes [a0,ii 0,a3]) fun a8 a9 a10 a11 =>
 Yn a8 fun a12 =>
 Ye a12 (ii 0) fun a13 =>
 ifT a13 (
 Yz (ii 4) fun a14 =>
 Yz (ii 0) fun a15 =>
 Yz (ii 4) fun a16 =>
 Yz (ii 3) fun a17 =>
 Yz (bb true) fun a18 =>
 some [a18,a17,a16,a15,a14,.l []]) (
 Yn a8 fun a14 =>
 cl4 (f_s_l01Below [a9,a10,a11,a14]) fun a15 a16 a17 a18 =>
 Y6 a8 a15 fun a20 a21 a22 a23 a24 a25 =>
 Yz a24 fun a26 =>
 Yz a23 fun a27 =>
 Yz a22 fun a28 =>
 Yz a21 fun a29 =>
 Yz a20 fun a30 =>
 some [a30,a29,a28,a27,a26,a25]))) (
 cl4 (f_s_l11Routes [a0,ii 0,a3]) fun a7 a8 a9 a10 =>
 Yn a7 fun a11 =>
 Ye a11 (ii 0) fun a12 =>
 ifT a12 (
 Yz (ii 4) fun a13 =>
 Yz (ii 0) fun a14 =>
 Yz (ii 4) fun a15 =>
 Yz (ii 3) fun a16 =>
 Yz (bb true) fun a17 =>
 some [a17,a16,a15,a14,a13,.l []]) (
 Yn a7 fun a13 =>
 cl4 (f_s_l01Below [a8,a9,a10,a13]) fun a14 a15 a16 a17 =>
 Y6 a7 a14 fun a19 a20 a21 a22 a23 a24 =>
 Yz a23 fun a25 =>
 Yz a22 fun a26 =>
 Yz a21 fun a27 =>
 Yz a20 fun a28 =>
 Yz a19 fun a29 =>
 some [a29,a28,a27,a26,a25,a24]))) ts
def G_s_DrawShowRoute:Option (List T) :=
 Yn a0 fun a1 =>
 Ya (ii 13901) a1 fun a2 =>
 iter (G_s_DrawShowRoute_l0 f_s_l01Below f_s_l11Routes a0) R [a2,ii 0]
theorem gr_s_DrawShowRoute:p_s_DrawShowRoute.den (pick [(15,f_s_l11Routes),(16,f_s_l01Below)]) R [] [a0]=G_s_DrawShowRoute R f_s_l01Below f_s_l11Routes a0:=(den2_of (by kernel_rfl)).trans (by kernel_rfl)
theorem g_s_DrawShowRoute:F_s_DrawShowRoute [a0]=G_s_DrawShowRoute rounds F_s_l01Below F_s_l11Routes a0:=gr_s_DrawShowRoute rounds F_s_l01Below F_s_l11Routes a0
def G_begins:Option (List T) :=
 pv (.lens) [a0] fun a2 =>
 pv (.lens) [a1] fun a3 =>
 Ym a2 a3 fun a4 =>
 ifT a4 (
 pv (.lens) [a0] fun a5 =>
 pv (.subs false true) [a1,a5] fun a6 =>
 Ye a6 a0 fun a7 =>
 Yz a7 fun a8 =>
 some [a8]) (
 Yz (bb false) fun a5 =>
 some [a5])
theorem gr_begins:p_begins.den (pick []) R [] [a0,a1]=G_begins a0 a1:=(den2_of (by kernel_rfl)).trans (by kernel_rfl)
theorem g_begins:F_begins [a0,a1]=G_begins a0 a1:=gr_begins rounds a0 a1
def G_FnShown_l0:Option (List T) :=
 (ar2 fun a9 a10 =>
 Yn a7 fun a11 =>
 Yl a10 a11 fun a12 =>
 ifT a12 (
 Ya a9 (.c (.string (ByteArray.mk #[32]))) fun a13 =>
 Y1 a7 a10 fun a15 =>
 cl1 (f_s_Decimal [a15]) fun a16 =>
 Ya a13 a16 fun a17 =>
 Ya a10 (ii 1) fun a18 =>
 k0 [a17,a18]) (
 jn (ar1 fun a13 =>
 cl1 (f_s_Decimal [a3]) fun a14 =>
 Ya a13 a14 fun a15 =>
 Ya a15 (.c (.string (ByteArray.mk #[32,99,111,115,116,32]))) fun a16 =>
 cl1 (f_s_Decimal [a5]) fun a17 =>
 Ya a16 a17 fun a18 =>
 cl1 (f_begins [a18,a8]) fun a19 =>
 ifT a19 (
 pv (.lens) [a8] fun a20 =>
 pv (.lens) [a9] fun a21 =>
 Yh a20 a21 fun a22 =>
 ifT a22 (
 pv (.lens) [a8] fun a23 =>
 pv (.lens) [a9] fun a24 =>
 Ys a23 a24 fun a25 =>
 pv (.subs true false) [a8,a25] fun a26 =>
 Ye a26 a9 fun a27 =>
 Yz a27 fun a28 =>
 some [a28]) (
 Yz (bb false) fun a23 =>
 some [a23])) (
 Yz (bb false) fun a20 =>
 some [a20])) fun k1 =>
 ifT a2 (
 k1 [.c (.string (ByteArray.mk #[116,104,105,110,103,32]))]) (
 k1 [.c (.string (ByteArray.mk #[110,111,100,101,32]))]))) ts
def G_FnShown:Option (List T) :=
 cl1 (f_big [a0]) fun a1 =>
 ifT a1 (
 Yz (bb true) fun a2 =>
 some [a2]) (
 cl6 (f_s_DrawShowRoute [a0]) fun a2 a3 a4 a5 a6 a7 =>
 cl1 (f_i_ShowRoute [a2,a3,a4,a5,a6,a7]) fun a8 =>
 iter (G_FnShown_l0 f_begins f_s_Decimal a2 a3 a5 a7 a8) R [.c (.string (ByteArray.mk #[32,98,121])),ii 0])
theorem gr_FnShown:p_FnShown.den (pick [(5,f_big),(6,f_s_DrawShowRoute),(7,f_i_ShowRoute),(8,f_s_Decimal),(9,f_begins)]) R [] [a0]=G_FnShown R f_begins f_big f_i_ShowRoute f_s_Decimal f_s_DrawShowRoute a0:=(den2_of (by kernel_rfl)).trans (by kernel_rfl)
theorem g_FnShown:F_FnShown [a0]=G_FnShown rounds F_begins F_big F_i_ShowRoute F_s_Decimal F_s_DrawShowRoute a0:=gr_FnShown rounds F_begins F_big F_i_ShowRoute F_s_Decimal F_s_DrawShowRoute a0
end
end Go.Proofs.YtbhplkilhknciaaDoorC
