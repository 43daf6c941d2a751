/- The plain programs as native functions (printed by a program). Conditions: none. -/
import Derived.Test.YtbhplkilhknciaaDoorXPS
import Derived.Test.YtbhplkilhknciaaDoorKe
namespace Go.Proofs.YtbhplkilhknciaaDoorC
set_option linter.unusedVariables false
section
variable (R:Nat) (f_FnExactShowRoute f_FnShown f_begins f_big f_eqIntS f_eqRoute f_i_Decimal f_i_ShowRoute f_s_AreasOf f_s_Before f_s_Better f_s_Beyond f_s_Border f_s_CostTo f_s_Decimal f_s_DrawShowRoute f_s_Ideal f_s_LinkOk f_s_NetOk f_s_NextTo f_s_RecordOk f_s_RoutesBeyond f_s_RoutesOf f_s_RoutesWithin f_s_SameKey f_s_ShowRoute f_s_StoreOk f_s_Together f_s_TrueRoutes f_s_WayTo f_s_WaysIn f_s_l01Below f_s_l01Byte f_s_l01Figure f_s_l01In f_s_l01Once f_s_l01PickInt f_s_l03Ahead f_s_l03In f_s_l03Net f_s_l03Put f_s_l03PutThing f_s_l03Thing f_s_l04Copy f_s_l04CopyList f_s_l04Near f_s_l05At f_s_l05Put f_s_l06Add f_s_l06Copy f_s_l06Links f_s_l06Node f_s_l06Tells f_s_l07Beyond f_s_l07Owner f_s_l07Thing f_s_l08With f_s_l11Routes f_s_l13Beyond f_s_l13Open f_strconv_Itoa f_szIntS f_szRoute f_toIntS f_toRoute:Sem1)
variable (a0 a1 a2 a3 a4 a5 a6 a7 a8 a9 a10 a11 a12 a13 a14 a15 a16 a17 a18 a19 a20 a21 a22 a23 a24 a25 a26 a27 a28 a29 a30 a31 a32 a33 a34 a35 a36 a37 a38 a39 a40 a41 a42 a43 a44 a45 a46 a47 a48 a49 a50 a51 a52 a53 a54 a55 a56 a57 a58 a59 a60 a61 a62 a63 a64 a65 a66 a67 a68 a69 a70 a71 a72 a73 a74 a75 a76 a77 a78 a79 a80 a81 a82 a83 a84 a85 a86 a87 a88 a89 a90 a91 a92 a93 a94 a95 a96 a97 a98 a99 a100 a101 a102 a103 a104 a105 a106 a107 a108 a109 a110 a111 a112 a113 a114 a115 a116 a117 a118 a119 a120 a121 a122 a123 a124 a125 a126 a127 a128 a129 a130 a131 a132 a133 a134 a135 a136 a137 a138 a139 a140 a141 a142 a143 a144 a145 a146 a147 a148 a149:T) (k0 k1 k2 k3 k4 k5 k6 k7 k8 k9 k10 k11 k12 k13 k14 k15 k16 k17 k18 k19:Sem1) (ts:List T)
def G_s_l01Figure:Option (List T) :=
 Yl a0 (ii 10) fun a1 =>
 ifT a1 (
 Ya (ii 48) a0 fun a2 =>
 pv (.cnv .u8) [a2] fun a3 =>
 Yz a3 fun a4 =>
 some [a4]) (
 Ya (ii 97) a0 fun a2 =>
 Ys a2 (ii 10) fun a3 =>
 pv (.cnv .u8) [a3] fun a4 =>
 Yz a4 fun a5 =>
 some [a5])
theorem gr_s_l01Figure:p_s_l01Figure.den (pick []) R [] [a0]=G_s_l01Figure a0:=(den2_of (by kernel_rfl)).trans (by kernel_rfl)
theorem g_s_l01Figure:F_s_l01Figure [a0]=G_s_l01Figure a0:=gr_s_l01Figure rounds a0
def G_s_Decimal_l0:Option (List T) :=
 (ar2 fun a3 a4 =>
 Yu a3 (ii 0) fun a5 =>
 ifT a5 (
 pv (.bin .rem) [a3,ii 10] fun a6 =>
 Yl a6 (ii 0) fun a7 =>
 jn (ar1 fun a8 =>
 cl1 (f_s_l01Figure [a8]) fun a9 =>
 Yx a9 fun a10 =>
 pv (.str) [a10] fun a11 =>
 Ya a11 a4 fun a12 =>
 pv (.bin .quo) [a3,ii 10] fun a13 =>
 k0 [a13,a12]) fun k1 =>
 ifT a7 (
 pv (.un .neg) [a6] fun a8 =>
 k1 [a8]) (
 k1 [a6])) (
 ifT a2 (
 Ya (.c (.string (ByteArray.mk #[45]))) a4 fun a6 =>
 Yz a6 fun a7 =>
 some [a7]) (
 Yz a4 fun a6 =>
 some [a6]))) ts
def G_s_Decimal:Option (List T) :=
 Ye a0 (ii 0) fun a1 =>
 ifT a1 (
 Yz (.c (.string (ByteArray.mk #[48]))) fun a2 =>
 some [a2]) (
 Yl a0 (ii 0) fun a2 =>
 iter (G_s_Decimal_l0 f_s_l01Figure a2) R [a0,.c (.string (ByteArray.mk #[]))])
theorem gr_s_Decimal:p_s_Decimal.den (pick [(18,f_s_l01Figure)]) R [] [a0]=G_s_Decimal R f_s_l01Figure a0:=(den2_of (by kernel_rfl)).trans (by kernel_rfl)
theorem g_s_Decimal:F_s_Decimal [a0]=G_s_Decimal rounds F_s_l01Figure a0:=gr_s_Decimal rounds F_s_l01Figure a0
def G_s_ShowRoute_l0:Option (List T) :=
 (ar2 fun a15 a16 =>
 Yn a5 fun a17 =>
 Yl a16 a17 fun a18 =>
 ifT a18 (
 Ya a15 (.c (.string (ByteArray.mk #[32]))) fun a19 =>
 Y1 a5 a16 fun a21 =>
 cl1 (f_s_Decimal [a21]) fun a22 =>
 Ya a19 a22 fun a23 =>
 Ya a16 (ii 1) fun a24 =>
 k0 [a23,a24]) (
 Yz a15 fun a19 =>
 some [a19])) ts
def G_s_ShowRoute:Option (List T) :=
 jn (ar1 fun a6 =>
 cl1 (f_s_Decimal [a1]) fun a7 =>
 Ya a6 a7 fun a8 =>
 Ya a8 (.c (.string (ByteArray.mk #[32,99,111,115,116,32]))) fun a9 =>
 cl1 (f_s_Decimal [a3]) fun a10 =>
 Ya a9 a10 fun a11 =>
 Ye a2 (ii 4) fun a12 =>
 jn (ar1 fun a13 =>
 Ya a13 (.c (.string (ByteArray.mk #[32,98,121]))) fun a14 =>
 iter (G_s_ShowRoute_l0 f_s_Decimal a5) R [a14,ii 0]) fun k0 =>
 ifT a12 (
 Ya a11 (.c (.string (ByteArray.mk #[32,102,97,114,32]))) fun a13 =>
 cl1 (f_s_Decimal [a4]) fun a14 =>
 Ya a13 a14 fun a15 =>
 k0 [a15]) (
 k0 [a11])) fun k0 =>
 ifT a0 (
 k0 [.c (.string (ByteArray.mk #[116,104,105,110,103,32]))]) (
 k0 [.c (.string (ByteArray.mk #[110,111,100,101,32]))])
theorem gr_s_ShowRoute:p_s_ShowRoute.den (pick [(8,f_s_Decimal)]) R [] [a0,a1,a2,a3,a4,a5]=G_s_ShowRoute R f_s_Decimal a0 a1 a2 a3 a4 a5:=(den2_of (by kernel_rfl)).trans (by kernel_rfl)
theorem g_s_ShowRoute:F_s_ShowRoute [a0,a1,a2,a3,a4,a5]=G_s_ShowRoute rounds F_s_Decimal a0 a1 a2 a3 a4 a5:=gr_s_ShowRoute rounds F_s_Decimal a0 a1 a2 a3 a4 a5
def G_i_Decimal:Option (List T) :=
 cl1 (f_strconv_Itoa [a0]) fun a1 =>
 Yz a1 fun a2 =>
 some [a2]
theorem gr_i_Decimal:p_i_Decimal.den (pick [(26,f_strconv_Itoa)]) R [] [a0]=G_i_Decimal f_strconv_Itoa a0:=(den2_of (by kernel_rfl)).trans (by kernel_rfl)
theorem g_i_Decimal:F_i_Decimal [a0]=G_i_Decimal F_strconv_Itoa a0:=gr_i_Decimal rounds F_strconv_Itoa a0
def G_i_ShowRoute_l0:Option (List T) :=
 (ar2 fun a16 a17 =>
 Yl a17 a15 fun a18 =>
 ifT a18 (
 Y1 a5 a17 fun a20 =>
 cl1 (f_i_Decimal [a20]) fun a21 =>
 Ya (.c (.string (ByteArray.mk #[32]))) a21 fun a22 =>
 Ya a16 a22 fun a23 =>
 Ya a17 (ii 1) fun a24 =>
 k0 [a23,a24]) (
 Yz a16 fun a19 =>
 some [a19])) ts
def G_i_ShowRoute:Option (List T) :=
 jn (ar1 fun a6 =>
 cl1 (f_i_Decimal [a1]) fun a7 =>
 Ya a7 (.c (.string (ByteArray.mk #[32,99,111,115,116,32]))) fun a8 =>
 cl1 (f_i_Decimal [a3]) fun a9 =>
 Ya a8 a9 fun a10 =>
 Ya a6 a10 fun a11 =>
 Ye a2 (ii 4) fun a12 =>
 jn (ar1 fun a13 =>
 Ya a13 (.c (.string (ByteArray.mk #[32,98,121]))) fun a14 =>
 Yn a5 fun a15 =>
 iter (G_i_ShowRoute_l0 f_i_Decimal a5 a15) R [a14,ii 0]) fun k0 =>
 ifT a12 (
 cl1 (f_i_Decimal [a4]) fun a13 =>
 Ya (.c (.string (ByteArray.mk #[32,102,97,114,32]))) a13 fun a14 =>
 Ya a11 a14 fun a15 =>
 k0 [a15]) (
 k0 [a11])) fun k0 =>
 ifT a0 (
 k0 [.c (.string (ByteArray.mk #[116,104,105,110,103,32]))]) (
 k0 [.c (.string (ByteArray.mk #[110,111,100,101,32]))])
theorem gr_i_ShowRoute:p_i_ShowRoute.den (pick [(17,f_i_Decimal)]) R [] [a0,a1,a2,a3,a4,a5]=G_i_ShowRoute R f_i_Decimal a0 a1 a2 a3 a4 a5:=(den2_of (by kernel_rfl)).trans (by kernel_rfl)
theorem g_i_ShowRoute:F_i_ShowRoute [a0,a1,a2,a3,a4,a5]=G_i_ShowRoute rounds F_i_Decimal a0 a1 a2 a3 a4 a5:=gr_i_ShowRoute rounds F_i_Decimal a0 a1 a2 a3 a4 a5
def G_FnExactShowRoute:Option (List T) :=
 cl1 (f_szRoute [a0,a1,a2,a3,a4,a5,ii 1048576]) fun a6 =>
 Yl a6 (ii 0) fun a7 =>
 ifT a7 (
 Yz (bb true) fun a8 =>
 some [a8]) (
 cl6 (f_toRoute [a0,a1,a2,a3,a4,a5]) fun a8 a9 a10 a11 a12 a13 =>
 cl1 (f_s_ShowRoute [a8,a9,a10,a11,a12,a13]) fun a14 =>
 cl6 (f_toRoute [a0,a1,a2,a3,a4,a5]) fun a15 a16 a17 a18 a19 a20 =>
 cl1 (f_i_ShowRoute [a15,a16,a17,a18,a19,a20]) fun a21 =>
 Yu a21 a14 fun a22 =>
 ifT a22 (
 Yz (bb false) fun a23 =>
 some [a23]) (
 cl6 (f_toRoute [a0,a1,a2,a3,a4,a5]) fun a23 a24 a25 a26 a27 a28 =>
 cl1 (f_eqRoute [a15,a16,a17,a18,a19,a20,a23,a24,a25,a26,a27,a28]) fun a29 =>
 Yt a29 fun a30 =>
 ifT a30 (
 Yz (bb false) fun a31 =>
 some [a31]) (
 Yz (bb true) fun a31 =>
 some [a31])))
theorem gr_FnExactShowRoute:p_FnExactShowRoute.den (pick [(7,f_i_ShowRoute),(10,f_szRoute),(11,f_s_ShowRoute),(12,f_toRoute),(13,f_eqRoute)]) R [] [a0,a1,a2,a3,a4,a5]=G_FnExactShowRoute f_eqRoute f_i_ShowRoute f_s_ShowRoute f_szRoute f_toRoute a0 a1 a2 a3 a4 a5:=(den2_of (by kernel_rfl)).trans (by kernel_rfl)
theorem g_FnExactShowRoute:F_FnExactShowRoute [a0,a1,a2,a3,a4,a5]=G_FnExactShowRoute F_eqRoute F_i_ShowRoute F_s_ShowRoute F_szRoute F_toRoute a0 a1 a2 a3 a4 a5:=gr_FnExactShowRoute rounds F_eqRoute F_i_ShowRoute F_s_ShowRoute F_szRoute F_toRoute a0 a1 a2 a3 a4 a5
end
end Go.Proofs.YtbhplkilhknciaaDoorC
