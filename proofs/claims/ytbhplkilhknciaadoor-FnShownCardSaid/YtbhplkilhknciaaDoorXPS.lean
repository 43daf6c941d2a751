/- The plain programs of the functions that are walked (printed by a program). Conditions: none. -/
import Derived.Test.YtbhplkilhknciaaDoorKe
import Derived.Test.YtbhplkilhknciaaDoorXItoa
namespace Go.Proofs.YtbhplkilhknciaaDoorC
def p_s_l01Figure:PL :=
 Ql [0,I 10] <|
 .ite 1 (
 Qa [I 48,0] <|
 Q (.cnv .u8) [2] <|
 Qz [3] <|
 .ret [4]) (
 Qa [I 97,0] <|
 Qs [2,I 10] <|
 Q (.cnv .u8) [3] <|
 Qz [4] <|
 .ret [5])
def F_s_l01Figure:Sem1:=Fs p_s_l01Figure []
def p_s_Decimal:PL :=
 Qe [0,I 0] <|
 .ite 1 (
 Qz [.k (.string (ByteArray.mk #[48]))] <|
 .ret [2]) (
 Ql [0,I 0] <|
 .loop [0,.k (.string (ByteArray.mk #[]))] (
 Qu [3,I 0] <|
 .ite 5 (
 Q (.bin .rem) [3,I 10] <|
 Ql [6,I 0] <|
 .join (
 Qi 18 [8] 1 <|
 Qx [9] <|
 Q (.str) [10] <|
 Qa [11,4] <|
 Q (.bin .quo) [3,I 10] <|
 .go 0 [13,12]) (
 .ite 7 (
 Q (.un .neg) [6] <|
 .go 0 [8]) (
 .go 0 [6]))) (
 .ite 2 (
 Qa [.k (.string (ByteArray.mk #[45])),4] <|
 Qz [6] <|
 .ret [7]) (
 Qz [4] <|
 .ret [6]))))
def F_s_Decimal:Sem1:=Fs p_s_Decimal [(18,F_s_l01Figure)]
def p_i_Decimal:PL :=
 Qi 26 [0] 1 <|
 Qz [1] <|
 .ret [2]
def F_i_Decimal:Sem1:=Fs p_i_Decimal [(26,F_strconv_Itoa)]
def p_i_ShowRoute:PL :=
 .join (
 Qi 17 [1] 1 <|
 Qa [7,.k (.string (ByteArray.mk #[32,99,111,115,116,32]))] <|
 Qi 17 [3] 1 <|
 Qa [8,9] <|
 Qa [6,10] <|
 Qe [2,I 4] <|
 .join (
 Qa [13,.k (.string (ByteArray.mk #[32,98,121]))] <|
 Qn [5] <|
 .loop [14,I 0] (
 Ql [17,15] <|
 .ite 18 (
 Q1 [5,17] <|
 Qi 17 [20] 1 <|
 Qa [.k (.string (ByteArray.mk #[32])),21] <|
 Qa [16,22] <|
 Qa [17,I 1] <|
 .go 0 [23,24]) (
 Qz [16] <|
 .ret [19]))) (
 .ite 12 (
 Qi 17 [4] 1 <|
 Qa [.k (.string (ByteArray.mk #[32,102,97,114,32])),13] <|
 Qa [11,14] <|
 .go 0 [15]) (
 .go 0 [11]))) (
 .ite 0 (
 .go 0 [.k (.string (ByteArray.mk #[116,104,105,110,103,32]))]) (
 .go 0 [.k (.string (ByteArray.mk #[110,111,100,101,32]))]))
def F_i_ShowRoute:Sem1:=Fs p_i_ShowRoute [(17,F_i_Decimal)]
def p_big:PL :=
 .ins (.pr (.len) [.a 0]) <|
 .ins (.pr (.bin .gtr) [.a 1,.k (.int .i64 1048576)]) <|
 .ins (.pr (.scl) [.a 2]) <|
 .ret [.a 3]
def S_big:Nat→Sem1:=pick []
def F_big:Sem1:=fun ts=>p_big.den S_big rounds [] ts
def p_s_l01Byte:PL :=
 Q (.bin .mul) [2,I 6364136223846793005] <|
 Qa [3,I 1442695040888963407] <|
 Q (.bin .shr) [4,.k (.int .u64 33)] <|
 Q (.bin .shr) [4,.k (.int .u64 45)] <|
 Q (.bin .xor) [5,6] <|
 Q (.bin .and) [7,I 255] <|
 Qn [0] <|
 Ql [1,9] <|
 .join (
 Qz [12] <|
 .ret [13,0,11,4]) (
 .ite 10 (
 Q1 [0,1] <|
 Q (.cnv .i64) [12] <|
 Qa [8,13] <|
 Q (.bin .and) [14,I 255] <|
 Qa [1,I 1] <|
 .go 0 [16,15]) (
 .go 0 [1,8]))
def F_s_l01Byte:Sem1:=Fs p_s_l01Byte []
def p_s_l01Below:PL :=
 Qm [3,I 0] <|
 .ite 4 (
 Qz [I 0] <|
 .ret [5,0,1,2]) (
 Qm [3,I 256] <|
 .ite 5 (
 Qi 25 [0,1,2] 4 <|
 Q (.bin .rem) [6,3] <|
 Qz [10] <|
 .ret [11,7,8,9]) (
 Qi 25 [0,1,2] 4 <|
 Qi 25 [7,8,9] 4 <|
 Qi 25 [11,12,13] 4 <|
 Qi 25 [15,16,17] 4 <|
 Q (.bin .mul) [6,I 16777216] <|
 Q (.bin .mul) [10,I 65536] <|
 Qa [22,23] <|
 Q (.bin .mul) [14,I 256] <|
 Qa [24,25] <|
 Qa [26,18] <|
 Q (.bin .rem) [27,3] <|
 Qz [28] <|
 .ret [29,19,20,21]))
def F_s_l01Below:Sem1:=Fs p_s_l01Below [(25,F_s_l01Byte)]
def p_s_l01PickInt:PL :=
 Qn [3] <|
 Qi 16 [0,1,2,4] 4 <|
 Q1 [3,5] <|
 Qz [10] <|
 .ret [11,6,7,8]
def F_s_l01PickInt:Sem1:=Fs p_s_l01PickInt [(16,F_s_l01Below)]
def p_s_l03Ahead:PL :=
 Ql [0,4] <|
 .ite 8 (
 Qz [.k (.bool true)] <|
 .ret [9]) (
 Qe [0,4] <|
 .ite 9 (
 Ql [1,5] <|
 .ite 10 (
 Qz [.k (.bool true)] <|
 .ret [11]) (
 Qe [1,5] <|
 .ite 11 (
 Ql [3,7] <|
 Qz [12] <|
 .ret [13]) (
 Qz [.k (.bool false)] <|
 .ret [12]))) (
 Qz [.k (.bool false)] <|
 .ret [10]))
def F_s_l03Ahead:Sem1:=Fs p_s_l03Ahead []
def p_s_l03Put:PL :=
 Q (.lit 4 []) [] <|
 .loop [5,I 0] (
 Qn [0] <|
 Ql [7,8] <|
 .ite 9 (
 Q4 [0,7] <|
 Qi 36 [11,12,13,14,1,2,3,4] 1 <|
 .join (
 Qa [7,I 1] <|
 .go 0 [16,17]) (
 .ite 15 (
 Q4 [0,7] <|
 Q (.lit 4 [true,true,true,true]) [17,18,19,20] <|
 Q (.app true 4) [6,21] <|
 .go 0 [22]) (
 .go 0 [6]))) (
 Q (.lit 4 [true,true,true,true]) [1,2,3,4] <|
 Q (.app true 4) [6,10] <|
 .loop [11,I 0] (
 Qn [0] <|
 Ql [13,14] <|
 .ite 15 (
 Q4 [0,13] <|
 Qi 36 [1,2,3,4,17,18,19,20] 1 <|
 .join (
 Qa [13,I 1] <|
 .go 0 [22,23]) (
 .ite 21 (
 Q4 [0,13] <|
 Q (.lit 4 [true,true,true,true]) [23,24,25,26] <|
 Q (.app true 4) [12,27] <|
 .go 0 [28]) (
 .go 0 [12]))) (
 .ret [12]))))
def F_s_l03Put:Sem1:=Fs p_s_l03Put [(36,F_s_l03Ahead)]
def p_s_l01Once:PL :=
 Qi 16 [0,1,2,3] 4 <|
 Qe [4,I 0] <|
 Qz [8] <|
 .ret [9,5,6,7]
def F_s_l01Once:Sem1:=Fs p_s_l01Once [(16,F_s_l01Below)]
def p_s_l03Thing:PL :=
 Ql [1,5] <|
 .ite 8 (
 Qz [.k (.bool true)] <|
 .ret [9]) (
 Qe [1,5] <|
 .ite 9 (
 Ql [0,4] <|
 Qz [10] <|
 .ret [11]) (
 Qz [.k (.bool false)] <|
 .ret [10]))
def F_s_l03Thing:Sem1:=Fs p_s_l03Thing []
def p_s_l03PutThing:PL :=
 Q (.lit 4 []) [] <|
 .loop [5,I 0] (
 Qn [0] <|
 Ql [7,8] <|
 .ite 9 (
 Q4 [0,7] <|
 Qi 37 [11,12,13,14,1,2,3,4] 1 <|
 .join (
 Qa [7,I 1] <|
 .go 0 [16,17]) (
 .ite 15 (
 Q4 [0,7] <|
 Q (.lit 4 [true,true,true,true]) [17,18,19,20] <|
 Q (.app true 4) [6,21] <|
 .go 0 [22]) (
 .go 0 [6]))) (
 Q (.lit 4 [true,true,true,true]) [1,2,3,4] <|
 Q (.app true 4) [6,10] <|
 .loop [11,I 0] (
 Qn [0] <|
 Ql [13,14] <|
 .ite 15 (
 Q4 [0,13] <|
 Qi 37 [1,2,3,4,17,18,19,20] 1 <|
 .join (
 Qa [13,I 1] <|
 .go 0 [22,23]) (
 .ite 21 (
 Q4 [0,13] <|
 Q (.lit 4 [true,true,true,true]) [23,24,25,26] <|
 Q (.app true 4) [12,27] <|
 .go 0 [28]) (
 .go 0 [12]))) (
 .ret [12]))))
def F_s_l03PutThing:Sem1:=Fs p_s_l03PutThing [(37,F_s_l03Thing)]
def p_s_l03Net:PL :=
 Qi 16 [0,1,2,I 4] 4 <|
 Qa [I 2,3] <|
 .loop [I 0,4,5,6,.e] (
 Qi 16 [9,10,11,I 3] 4 <|
 Qa [7,13] <|
 Ql [8,17] <|
 .ite 18 (
 Qi 16 [14,15,16,7] 4 <|
 Qa [I 1,19] <|
 Qi 16 [20,21,22,7] 4 <|
 Qa [I 1,24] <|
 Qa [8,I 1] <|
 Ql [29,7] <|
 .join (
 Qe [31,32] <|
 .join (
 Qg [31,34] <|
 .join (
 Qi 16 [25,26,27,I 4] 4 <|
 Qa [I 1,38] <|
 Q (.lit 1 [true,true,true,true]) [I 0,I 0,I 1,I 2] <|
 Qi 27 [39,40,41,43] 4 <|
 Qn [12] <|
 Ql [48,I 12] <|
 .join (
 Qa [8,I 1] <|
 .go 0 [51,45,46,47,50]) (
 .ite 49 (
 Qi 28 [12,36,37,42,44] 1 <|
 .go 0 [50]) (
 .go 0 [12]))) (
 .ite 35 (
 .go 0 [34,31]) (
 .go 0 [31,34]))) (
 .ite 33 (
 Q (.bin .rem) [31,7] <|
 Qa [34,I 1] <|
 .go 0 [35]) (
 .go 0 [32]))) (
 .ite 30 (
 Qa [8,I 1] <|
 Qa [8,I 2] <|
 .go 0 [31,32]) (
 .go 0 [23,28]))) (
 .loop [I 0,14,15,16,.e] (
 Qi 16 [20,21,22,I 3] 4 <|
 Ql [19,24] <|
 .ite 28 (
 Qi 16 [25,26,27,7] 4 <|
 Qa [I 1,29] <|
 Qi 16 [30,31,32,I 3] 4 <|
 Qa [I 1,34] <|
 Qi 16 [35,36,37,I 5] 4 <|
 Qa [I 1,39] <|
 Qi 23 [40,41,42,I 2] 4 <|
 Qi 29 [23,33,38,43,44] 1 <|
 Qa [19,I 1] <|
 .go 0 [49,45,46,47,48]) (
 Qz [7] <|
 .ret [29,12,23,25,26,27]))))
def F_s_l03Net:Sem1:=Fs p_s_l03Net [(16,F_s_l01Below),(23,F_s_l01Once),(27,F_s_l01PickInt),(28,F_s_l03Put),(29,F_s_l03PutThing)]
def p_s_l01In:PL :=
 Qh [0,1] <|
 .ite 3 (
 Qm [0,2] <|
 Qz [4] <|
 .ret [5]) (
 Qz [.k (.bool false)] <|
 .ret [4])
def F_s_l01In:Sem1:=Fs p_s_l01In []
def p_s_LinkOk:PL :=
 Qi 31 [0,I 1,I 6] 1 <|
 .ite 5 (
 Qi 31 [1,I 1,0] 1 <|
 .ite 6 (
 Qi 31 [2,I 1,0] 1 <|
 .ite 7 (
 Ql [1,2] <|
 .ite 8 (
 Qi 31 [3,I 1,I 1000] 1 <|
 .ite 9 (
 Qi 31 [4,I 0,I 2] 1 <|
 Qz [10] <|
 .ret [11]) (
 Qz [.k (.bool false)] <|
 .ret [10])) (
 Qz [.k (.bool false)] <|
 .ret [9])) (
 Qz [.k (.bool false)] <|
 .ret [8])) (
 Qz [.k (.bool false)] <|
 .ret [7])) (
 Qz [.k (.bool false)] <|
 .ret [6])
def F_s_LinkOk:Sem1:=Fs p_s_LinkOk [(31,F_s_l01In)]
def p_s_NetOk:PL :=
 Qi 31 [0,I 1,I 6] 1 <|
 Qt [3] <|
 .ite 4 (
 Qz [.k (.bool false)] <|
 .ret [5]) (
 Qn [1] <|
 Qg [5,I 12] <|
 .ite 6 (
 Qz [.k (.bool false)] <|
 .ret [7]) (
 Qn [2] <|
 Qg [7,I 4] <|
 .ite 8 (
 Qz [.k (.bool false)] <|
 .ret [9]) (
 .loop [.k (.bool false),I 0] (
 Qn [1] <|
 Ql [10,11] <|
 .ite 12 (
 Q4 [1,10] <|
 Qi 49 [0,14,15,16,17] 1 <|
 Qt [18] <|
 .ite 19 (
 Qz [.k (.bool false)] <|
 .ret [20]) (
 Qg [10,I 0] <|
 .ite 20 (
 Qs [10,I 1] <|
 Q4 [1,21] <|
 Q4 [1,10] <|
 Qi 36 [23,24,25,26,28,29,30,31] 1 <|
 Qt [32] <|
 .ite 33 (
 Qz [.k (.bool false)] <|
 .ret [34]) (
 Qa [10,I 1] <|
 .go 0 [9,34])) (
 Qa [10,I 1] <|
 .go 0 [9,21]))) (
 .loop [9,I 0] (
 Qn [2] <|
 Ql [14,15] <|
 .ite 16 (
 Q4 [2,14] <|
 Qi 31 [18,I 1,0] 1 <|
 Qt [22] <|
 .ite 23 (
 Qz [.k (.bool false)] <|
 .ret [24]) (
 Qi 31 [19,I 1,I 9] 1 <|
 Qt [24] <|
 .ite 25 (
 Qz [.k (.bool false)] <|
 .ret [26]) (
 Qi 31 [20,I 1,I 1000] 1 <|
 Qt [26] <|
 .ite 27 (
 Qz [.k (.bool false)] <|
 .ret [28]) (
 Qg [14,I 0] <|
 .ite 28 (
 Qs [14,I 1] <|
 Q4 [2,29] <|
 Qi 37 [31,32,33,34,18,19,20,21] 1 <|
 Qt [35] <|
 .ite 36 (
 Qz [.k (.bool false)] <|
 .ret [37]) (
 Qa [14,I 1] <|
 .go 0 [13,37])) (
 Qa [14,I 1] <|
 .go 0 [13,29]))))) (
 Qz [.k (.bool true)] <|
 .ret [17])))))))
def F_s_NetOk:Sem1:=Fs p_s_NetOk [(31,F_s_l01In),(36,F_s_l03Ahead),(37,F_s_l03Thing),(49,F_s_LinkOk)]
def p_s_CostTo:PL :=
 .loop [I 0,I 0] (
 Qn [1] <|
 Ql [7,8] <|
 .ite 9 (
 Q4 [1,7] <|
 Qe [14,5] <|
 .ite 15 (
 Qe [11,3] <|
 .ite 16 (
 Qe [12,4] <|
 .ite 17 (
 Qz [13] <|
 .ret [18]) (
 Qe [11,4] <|
 .ite 18 (
 Qe [12,3] <|
 .ite 19 (
 Qz [13] <|
 .ret [20]) (
 Qa [7,I 1] <|
 .go 0 [6,20])) (
 Qa [7,I 1] <|
 .go 0 [6,19]))) (
 Qe [11,4] <|
 .ite 17 (
 Qe [12,3] <|
 .ite 18 (
 Qz [13] <|
 .ret [19]) (
 Qa [7,I 1] <|
 .go 0 [6,19])) (
 Qa [7,I 1] <|
 .go 0 [6,18]))) (
 Qa [7,I 1] <|
 .go 0 [6,16])) (
 Qz [I 0] <|
 .ret [10]))
def F_s_CostTo:Sem1:=Fs p_s_CostTo []
def p_s_NextTo:PL :=
 Q (.lit 1 []) [] <|
 .loop [5,I 1] (
 Qm [7,I 6] <|
 .ite 8 (
 Qi 61 [0,1,2,3,7,4] 1 <|
 Qg [9,I 0] <|
 .join (
 Qa [7,I 1] <|
 .go 0 [11,12]) (
 .ite 10 (
 Qx [7] <|
 Qp [6,11] <|
 .go 0 [12]) (
 .go 0 [6]))) (
 .ret [6]))
def F_s_NextTo:Sem1:=Fs p_s_NextTo [(61,F_s_CostTo)]
def p_s_AreasOf:PL :=
 Q (.lit 1 []) [] <|
 .loop [4,I 0] (
 Qm [6,I 2] <|
 .ite 7 (
 Qi 47 [0,1,2,3,6] 1 <|
 Qn [8] <|
 Qg [9,I 0] <|
 .join (
 Qa [6,I 1] <|
 .go 0 [11,12]) (
 .ite 10 (
 Qx [6] <|
 Qp [5,11] <|
 .go 0 [12]) (
 .go 0 [5]))) (
 .ret [5]))
def F_s_AreasOf:Sem1:=Fs p_s_AreasOf [(47,F_s_NextTo)]
def p_s_l13Open:PL :=
 .loop [I 0,I 0] (
 Qn [1] <|
 Ql [8,9] <|
 .ite 10 (
 Q4 [1,8] <|
 Q1 [3,8] <|
 .ite 17 (
 Qe [15,6] <|
 .ite 18 (
 Qe [12,4] <|
 .ite 19 (
 Qe [13,5] <|
 .ite 20 (
 Qz [14] <|
 .ret [21]) (
 Qe [12,5] <|
 .ite 21 (
 Qe [13,4] <|
 .ite 22 (
 Qz [14] <|
 .ret [23]) (
 Qa [8,I 1] <|
 .go 0 [7,23])) (
 Qa [8,I 1] <|
 .go 0 [7,22]))) (
 Qe [12,5] <|
 .ite 20 (
 Qe [13,4] <|
 .ite 21 (
 Qz [14] <|
 .ret [22]) (
 Qa [8,I 1] <|
 .go 0 [7,22])) (
 Qa [8,I 1] <|
 .go 0 [7,21]))) (
 Qa [8,I 1] <|
 .go 0 [7,19])) (
 Qa [8,I 1] <|
 .go 0 [7,18])) (
 Qz [I 0] <|
 .ret [11]))
def F_s_l13Open:Sem1:=Fs p_s_l13Open []
def p_s_Before:PL :=
 Qu [0,8] <|
 .ite 16 (
 Ql [0,8] <|
 Qz [17] <|
 .ret [18]) (
 Qu [1,9] <|
 .ite 17 (
 Ql [1,9] <|
 Qz [18] <|
 .ret [19]) (
 Qu [2,10] <|
 .ite 18 (
 Ql [2,10] <|
 Qz [19] <|
 .ret [20]) (
 Ql [3,11] <|
 Qz [19] <|
 .ret [20])))
def F_s_Before:Sem1:=Fs p_s_Before []
def p_s_l05Put:PL :=
 Q (.lit 8 []) [] <|
 .loop [9,I 0] (
 Qn [0] <|
 Ql [11,12] <|
 .ite 13 (
 Q8 [0,11] <|
 Qi 50 [15,16,17,18,19,20,21,22,1,2,3,4,5,6,7,8] 1 <|
 .join (
 Qa [11,I 1] <|
 .go 0 [24,25]) (
 .ite 23 (
 Q8 [0,11] <|
 Q (.lit 8 []) [25,26,27,28,29,30,31,32] <|
 Qy [10,33] <|
 .go 0 [34]) (
 .go 0 [10]))) (
 Q (.lit 8 []) [1,2,3,4,5,6,7,8] <|
 Qy [10,14] <|
 .loop [15,I 0] (
 Qn [0] <|
 Ql [17,18] <|
 .ite 19 (
 Q8 [0,17] <|
 Qi 50 [1,2,3,4,5,6,7,8,21,22,23,24,25,26,27,28] 1 <|
 .join (
 Qa [17,I 1] <|
 .go 0 [30,31]) (
 .ite 29 (
 Q8 [0,17] <|
 Q (.lit 8 []) [31,32,33,34,35,36,37,38] <|
 Qy [16,39] <|
 .go 0 [40]) (
 .go 0 [16]))) (
 .ret [16]))))
def F_s_l05Put:Sem1:=Fs p_s_l05Put [(50,F_s_Before)]
def p_s_Border:PL :=
 Qi 33 [0,1,2,3] 1 <|
 Qn [4] <|
 Qg [5,I 1] <|
 .ite 6 (
 Q1 [4,I 0] <|
 Qe [8,I 0] <|
 Qz [9] <|
 .ret [10]) (
 Qz [.k (.bool false)] <|
 .ret [7])
def F_s_Border:Sem1:=Fs p_s_Border [(33,F_s_AreasOf)]
def p_s_l04Near:PL :=
 .loop [.k (.bool false),I 0] (
 Qn [5] <|
 Ql [9,10] <|
 .ite 11 (
 Q2 [5,9] <|
 Qi 31 [13,I 1,I 6] 1 <|
 Qt [15] <|
 .ite 16 (
 Qz [.k (.bool false)] <|
 .ret [17]) (
 Qe [13,2] <|
 .ite 17 (
 Qz [.k (.bool false)] <|
 .ret [18]) (
 Qi 31 [14,I 1,I 1000] 1 <|
 Qt [18] <|
 .ite 19 (
 Qz [.k (.bool false)] <|
 .ret [20]) (
 Qg [9,I 0] <|
 .ite 20 (
 Qs [9,I 1] <|
 Qb [5,21] <|
 Qc 2 0 [5,21] <|
 Qh [23,13] <|
 .ite 24 (
 Qz [.k (.bool false)] <|
 .ret [25]) (
 Qa [9,I 1] <|
 .go 0 [8,25])) (
 Qa [9,I 1] <|
 .go 0 [8,21]))))) (
 Qz [.k (.bool true)] <|
 .ret [12]))
def F_s_l04Near:Sem1:=Fs p_s_l04Near [(31,F_s_l01In)]
def p_s_RecordOk:PL :=
 Qi 31 [2,I 1,I 6] 1 <|
 Qt [8] <|
 .ite 9 (
 Qz [.k (.bool false)] <|
 .ret [10]) (
 Qi 31 [4,I 1,I 100000] 1 <|
 Qt [10] <|
 .ite 11 (
 Qz [.k (.bool false)] <|
 .ret [12]) (
 Qe [1,I 1] <|
 .ite 12 (
 Qi 31 [0,I 0,I 2] 1 <|
 .ite 13 (
 Qe [3,I 0] <|
 .ite 14 (
 Qi 70 [0,1,2,3,4,5,6,7] 1 <|
 .ite 15 (
 Qe [6,I 0] <|
 .ite 16 (
 Qt [7] <|
 Qz [17] <|
 .ret [18]) (
 Qz [.k (.bool false)] <|
 .ret [17])) (
 Qz [.k (.bool false)] <|
 .ret [16])) (
 Qz [.k (.bool false)] <|
 .ret [15])) (
 Qz [.k (.bool false)] <|
 .ret [14])) (
 Qe [1,I 2] <|
 .ite 13 (
 Qi 31 [0,I 0,I 2] 1 <|
 .ite 14 (
 Qi 31 [3,I 1,I 6] 1 <|
 .ite 15 (
 Qn [5] <|
 Qe [16,I 0] <|
 .ite 17 (
 Qi 31 [6,I 0,I 60000] 1 <|
 .ite 18 (
 Qt [7] <|
 Qz [19] <|
 .ret [20]) (
 Qz [.k (.bool false)] <|
 .ret [19])) (
 Qz [.k (.bool false)] <|
 .ret [18])) (
 Qz [.k (.bool false)] <|
 .ret [16])) (
 Qz [.k (.bool false)] <|
 .ret [15])) (
 Qe [1,I 3] <|
 .ite 14 (
 Qe [0,I 9] <|
 .ite 15 (
 Qi 31 [3,I 1,I 9] 1 <|
 .ite 16 (
 Qn [5] <|
 Qe [17,I 0] <|
 .ite 18 (
 Qi 31 [6,I 1,I 1000] 1 <|
 .ite 19 (
 Qz [.k (.bool true)] <|
 .ret [20]) (
 Qe [6,I 60000] <|
 Qz [20] <|
 .ret [21])) (
 Qz [.k (.bool false)] <|
 .ret [19])) (
 Qz [.k (.bool false)] <|
 .ret [17])) (
 Qz [.k (.bool false)] <|
 .ret [16])) (
 Qz [.k (.bool false)] <|
 .ret [15])))))
def F_s_RecordOk:Sem1:=Fs p_s_RecordOk [(31,F_s_l01In),(70,F_s_l04Near)]
def p_s_StoreOk:PL :=
 Qn [0] <|
 Qg [1,I 150] <|
 .ite 2 (
 Qz [.k (.bool false)] <|
 .ret [3]) (
 .loop [.k (.bool false),I 0] (
 Qn [0] <|
 Ql [4,5] <|
 .ite 6 (
 Q8 [0,4] <|
 Qi 58 [8,9,10,11,12,13,14,15] 1 <|
 Qt [16] <|
 .ite 17 (
 Qz [.k (.bool false)] <|
 .ret [18]) (
 Qg [4,I 0] <|
 .ite 18 (
 Qs [4,I 1] <|
 Q8 [0,19] <|
 Q8 [0,4] <|
 Qi 50 [21,22,23,24,25,26,27,28,30,31,32,33,34,35,36,37] 1 <|
 Qt [38] <|
 .ite 39 (
 Qz [.k (.bool false)] <|
 .ret [40]) (
 Qa [4,I 1] <|
 .go 0 [3,40])) (
 Qa [4,I 1] <|
 .go 0 [3,19]))) (
 Qz [.k (.bool true)] <|
 .ret [7])))
def F_s_StoreOk:Sem1:=Fs p_s_StoreOk [(50,F_s_Before),(58,F_s_RecordOk)]
def p_s_SameKey:PL :=
 Qe [0,8] <|
 .ite 16 (
 Qe [1,9] <|
 .ite 17 (
 Qe [2,10] <|
 .ite 18 (
 Qe [3,11] <|
 Qz [19] <|
 .ret [20]) (
 Qz [.k (.bool false)] <|
 .ret [19])) (
 Qz [.k (.bool false)] <|
 .ret [18])) (
 Qz [.k (.bool false)] <|
 .ret [17])
def F_s_SameKey:Sem1:=Fs p_s_SameKey []
def p_s_l05At:PL :=
 .loop [I 0,I 0] (
 Qn [0] <|
 Ql [10,11] <|
 .ite 12 (
 Q8 [0,10] <|
 Qi 81 [14,15,16,17,18,19,20,21,1,2,3,4,5,6,7,8] 1 <|
 .ite 22 (
 Qz [10] <|
 .ret [23]) (
 Qa [10,I 1] <|
 .go 0 [9,23])) (
 Qz [.k (.int .i64 (-1))] <|
 .ret [13]))
def F_s_l05At:Sem1:=Fs p_s_l05At [(81,F_s_SameKey)]
def p_s_l06Node:PL :=
 Qi 77 [0,1,I 1,2,I 0,I 0,.e,I 0,.k (.bool false)] 1 <|
 Ql [3,I 0] <|
 .ite 4 (
 Qz [.k (.bool false)] <|
 Qz [.k (.bool false)] <|
 Qz [I 0] <|
 Qz [I 0] <|
 Qz [I 0] <|
 Qz [I 0] <|
 Qz [I 0] <|
 Qz [I 0] <|
 .ret [12,11,10,9,8,.e,7,6,5]) (
 Q8 [0,3] <|
 Qz [.k (.bool true)] <|
 Qz [13] <|
 Qz [12] <|
 Qz [10] <|
 Qz [9] <|
 Qz [8] <|
 Qz [7] <|
 Qz [6] <|
 .ret [21,20,19,18,17,11,16,15,14])
def F_s_l06Node:Sem1:=Fs p_s_l06Node [(77,F_s_l05At)]
def p_s_l06Tells:PL :=
 Qi 66 [0,1,2] 9 <|
 .loop [I 0,I 0] (
 Qn [9] <|
 Ql [14,15] <|
 .ite 16 (
 Qb [9,14] <|
 Qc 2 0 [9,14] <|
 Qe [18,3] <|
 .ite 19 (
 Qb [9,14] <|
 Qc 2 1 [9,14] <|
 Qz [21] <|
 .ret [22]) (
 Qa [14,I 1] <|
 .go 0 [13,20])) (
 Qz [I 0] <|
 .ret [17]))
def F_s_l06Tells:Sem1:=Fs p_s_l06Tells [(66,F_s_l06Node)]
def p_s_l06Links:PL :=
 Q (.mk) [I 49,I 49,I 0] <|
 .loop [I 1,2] (
 Qm [3,I 6] <|
 .ite 5 (
 Qi 66 [0,1,3] 9 <|
 .loop [I 0,4] (
 Qn [11] <|
 Ql [15,17] <|
 .ite 18 (
 Qb [11,15] <|
 Qc 2 0 [11,15] <|
 Qi 31 [20,I 1,I 6] 1 <|
 .ite 21 (
 Qb [11,15] <|
 Qc 2 0 [11,15] <|
 Qi 78 [0,1,23,3] 1 <|
 Qg [24,I 0] <|
 .join (
 Qa [15,I 1] <|
 .go 0 [27,26]) (
 .ite 25 (
 Q (.bin .mul) [3,I 7] <|
 Qb [11,15] <|
 Qc 2 0 [11,15] <|
 Qa [26,28] <|
 Qb [11,15] <|
 Qc 2 1 [11,15] <|
 Qb [16,29] <|
 Q (.put true 1 0 1) [16,29,31] <|
 .go 0 [33]) (
 .go 0 [16]))) (
 .join (
 Qa [15,I 1] <|
 .go 0 [23,22]) (
 .go 0 [16]))) (
 Qa [3,I 1] <|
 .go 1 [19,16]))) (
 .ret [4]))
def F_s_l06Links:Sem1:=Fs p_s_l06Links [(31,F_s_l01In),(66,F_s_l06Node),(78,F_s_l06Tells)]
def p_s_l03In:PL :=
 .loop [.k (.bool false),I 0] (
 Qn [0] <|
 Ql [3,4] <|
 .ite 5 (
 Q1 [0,3] <|
 Qe [7,1] <|
 .ite 8 (
 Qz [.k (.bool true)] <|
 .ret [9]) (
 Qa [3,I 1] <|
 .go 0 [2,9])) (
 Qz [.k (.bool false)] <|
 .ret [6]))
def F_s_l03In:Sem1:=Fs p_s_l03In []
def p_s_l06Add:PL :=
 Q (.lit 1 []) [] <|
 .loop [2,I 1] (
 Qm [4,I 6] <|
 .ite 5 (
 Qi 71 [0,4] 1 <|
 .ite 6 (
 .join (
 Qa [4,I 1] <|
 .go 0 [7,8]) (
 Qx [4] <|
 Qp [3,7] <|
 .go 0 [8])) (
 Qi 71 [1,4] 1 <|
 .join (
 Qa [4,I 1] <|
 .go 0 [8,9]) (
 .ite 7 (
 Qx [4] <|
 Qp [3,8] <|
 .go 0 [9]) (
 .go 0 [3])))) (
 .ret [3]))
def F_s_l06Add:Sem1:=Fs p_s_l06Add [(71,F_s_l03In)]
def p_s_WaysIn:PL :=
 Q (.lit 3 []) [] <|
 Qi 66 [0,1,2] 9 <|
 Qi 45 [0] 1 <|
 Qt [13] <|
 .ite 14 (
 .ret [3]) (
 Qi 31 [2,I 1,I 6] 1 <|
 Qt [15] <|
 .ite 16 (
 .ret [3]) (
 Qt [12] <|
 .ite 17 (
 .ret [3]) (
 Qi 67 [0,1] 1 <|
 Q (.mk) [I 7,I 7,I 0] <|
 Q (.mk) [I 7,I 7,.e] <|
 Q (.mk) [I 7,I 7,.k (.bool false)] <|
 .loop [I 1,19] (
 Qm [22,I 6] <|
 .ite 24 (
 Qb [23,22] <|
 Q (.put true 1 0 1) [23,22,.k (.int .i64 (-1))] <|
 Qa [22,I 1] <|
 .go 0 [27,26]) (
 Qb [23,2] <|
 Q (.put true 1 0 1) [23,2,I 0] <|
 .loop [I 1,20,21,26] (
 Qm [27,I 6] <|
 .ite 31 (
 .loop [I 0,I 1] (
 Qm [33,I 6] <|
 .ite 34 (
 Qq [29,33] <|
 Qt [36] <|
 .ite 37 (
 Qq [30,33] <|
 Qh [39,I 0] <|
 .ite 40 (
 Qe [32,I 0] <|
 .ite 41 (
 .join (
 Qa [33,I 1] <|
 .go 0 [42,43]) (
 .go 0 [33])) (
 Qq [30,33] <|
 Qq [30,32] <|
 Ql [43,45] <|
 .join (
 Qa [33,I 1] <|
 .go 0 [47,48]) (
 .ite 46 (
 .go 0 [33]) (
 .go 0 [32])))) (
 .join (
 Qa [33,I 1] <|
 .go 0 [41,42]) (
 .go 0 [32]))) (
 .join (
 Qa [33,I 1] <|
 .go 0 [38,39]) (
 .go 0 [32]))) (
 Qe [32,I 0] <|
 .ite 35 (
 Qa [I 6,I 1] <|
 .go 1 [36,28,29,30]) (
 Qb [29,32] <|
 Q (.put true 1 0 1) [29,32,.k (.bool true)] <|
 .loop [I 1,28,30] (
 Qm [38,I 6] <|
 .ite 41 (
 Q (.bin .mul) [32,I 7] <|
 Qa [42,38] <|
 Q1 [18,43] <|
 Qe [45,I 0] <|
 .ite 46 (
 Qa [38,I 1] <|
 .go 0 [47,39,40]) (
 Qq [37,38] <|
 .ite 48 (
 Qa [38,I 1] <|
 .go 0 [49,39,40]) (
 Q1 [39,32] <|
 Qe [32,2] <|
 .join (
 Qq [40,32] <|
 Qa [54,45] <|
 Qq [40,38] <|
 Ql [57,I 0] <|
 .ite 58 (
 .join (
 Qa [38,I 1] <|
 .go 0 [61,59,60]) (
 Qb [40,38] <|
 Q (.put true 1 0 1) [40,38,55] <|
 Q (.lit 1 []) [] <|
 Qi 60 [61,52] 1 <|
 Qb [39,38] <|
 Q (.put false 1 0 1) [39,38,62] <|
 .go 0 [64,60])) (
 Qq [40,38] <|
 Ql [55,60] <|
 .join (
 Qa [38,I 1] <|
 .go 0 [64,62,63]) (
 .ite 61 (
 Qb [40,38] <|
 Q (.put true 1 0 1) [40,38,55] <|
 Q (.lit 1 []) [] <|
 Qi 60 [64,52] 1 <|
 Qb [39,38] <|
 Q (.put false 1 0 1) [39,38,65] <|
 .go 0 [67,63]) (
 Qq [40,38] <|
 Qe [55,63] <|
 .join (
 .go 0 [65,40]) (
 .ite 64 (
 Q1 [39,38] <|
 Qi 60 [66,52] 1 <|
 Qb [39,38] <|
 Q (.put false 1 0 1) [39,38,67] <|
 .go 0 [69]) (
 .go 0 [39])))))) (
 .ite 51 (
 Qx [38] <|
 .go 0 [52]) (
 .go 0 [50]))))) (
 Qa [27,I 1] <|
 .go 2 [42,39,37,40])))))) (
 .loop [3,I 1] (
 Qm [33,I 6] <|
 .ite 34 (
 Qq [29,33] <|
 .join (
 Qa [33,I 1] <|
 .go 0 [37,38]) (
 .ite 36 (
 Qq [30,33] <|
 Q (.lit 1 []) [] <|
 Q1 [28,33] <|
 Qp [39,41] <|
 Q (.lit 3 [true,true,false]) [33,38,42] <|
 Qo [32,43] <|
 .go 0 [44]) (
 .go 0 [32]))) (
 .ret [32])))))))))
def F_s_WaysIn:Sem1:=Fs p_s_WaysIn [(31,F_s_l01In),(45,F_s_StoreOk),(60,F_s_l06Add),(66,F_s_l06Node),(67,F_s_l06Links)]
def p_s_l06Copy:PL :=
 Q (.lit 1 []) [] <|
 Qp [3,2] <|
 Qz [1] <|
 Qz [0] <|
 .ret [6,5,4]
def F_s_l06Copy:Sem1:=Fs p_s_l06Copy []
def p_s_WayTo:PL :=
 .loop [.k (.bool false),I 0] (
 Qn [0] <|
 Ql [3,4] <|
 .ite 5 (
 Qb [0,3] <|
 Qc 3 0 [0,3] <|
 Qe [7,1] <|
 .ite 8 (
 Q3 [0,3] <|
 Qi 68 [10,11,12] 3 <|
 Qz [.k (.bool true)] <|
 Qz [14] <|
 Qz [13] <|
 .ret [18,17,15,16]) (
 Qa [3,I 1] <|
 .go 0 [2,9])) (
 Qz [.k (.bool false)] <|
 Qz [I 0] <|
 Qz [I 0] <|
 .ret [8,7,.e,6]))
def F_s_WayTo:Sem1:=Fs p_s_WayTo [(68,F_s_l06Copy)]
def p_s_Better:PL :=
 Ql [1,4] <|
 Qz [6] <|
 .ret [7]
def F_s_Better:Sem1:=Fs p_s_Better []
def p_s_Together:PL :=
 Qi 69 [0,1,2,3,4,5] 1 <|
 .ite 6 (
 Qi 68 [0,1,2] 3 <|
 Qz [8] <|
 Qz [7] <|
 .ret [11,10,9]) (
 Qi 69 [3,4,5,0,1,2] 1 <|
 .ite 7 (
 Qi 68 [3,4,5] 3 <|
 Qz [9] <|
 Qz [8] <|
 .ret [12,11,10]) (
 Qi 60 [2,5] 1 <|
 Qz [1] <|
 Qz [0] <|
 .ret [10,9,8]))
def F_s_Together:Sem1:=Fs p_s_Together [(60,F_s_l06Add),(68,F_s_l06Copy),(69,F_s_Better)]
def p_s_RoutesWithin:PL :=
 Q (.lit 3 []) [] <|
 Q (.lit 1 []) [] <|
 .loop [4,I 0] (
 Qn [1] <|
 Ql [6,7] <|
 .ite 8 (
 Q1 [1,6] <|
 Qi 54 [0,10,2] 1 <|
 Q (.lit 1 []) [11] <|
 Q (.app false 1) [5,12] <|
 Qa [6,I 1] <|
 .go 0 [13,14]) (
 .loop [3,I 1] (
 Qm [10,I 6] <|
 .ite 11 (
 .loop [.k (.bool false),I 0,I 0,I 0,.e] (
 Qn [1] <|
 Ql [13,17] <|
 .ite 18 (
 Q1 [5,13] <|
 Qi 55 [20,10] 4 <|
 Qt [24] <|
 .ite 25 (
 Qa [13,I 1] <|
 .go 0 [12,26,14,15,16]) (
 .join (
 Qa [13,I 1] <|
 .go 0 [.k (.bool true),29,26,27,28]) (
 .ite 12 (
 Qi 56 [14,15,16,21,22,23] 3 <|
 .go 0 [26,27,28]) (
 .go 0 [21,22,23])))) (
 .join (
 Qa [10,I 1] <|
 .go 1 [19,20]) (
 .ite 12 (
 Q (.lit 3 []) [14,15,16] <|
 Qo [9,19] <|
 .go 0 [20]) (
 .go 0 [9]))))) (
 .ret [9]))))
def F_s_RoutesWithin:Sem1:=Fs p_s_RoutesWithin [(54,F_s_WaysIn),(55,F_s_WayTo),(56,F_s_Together)]
def p_s_l07Beyond:PL :=
 .loop [8,I 0,5,6,7] (
 Qn [0] <|
 Ql [10,14] <|
 .ite 15 (
 Q8 [0,10] <|
 Qu [18,I 2] <|
 .ite 25 (
 Qa [10,I 1] <|
 .go 0 [9,26,11,12,13]) (
 Qu [17,2] <|
 .ite 26 (
 Qa [10,I 1] <|
 .go 0 [9,27,11,12,13]) (
 Qu [20,4] <|
 .ite 27 (
 Qa [10,I 1] <|
 .go 0 [9,28,11,12,13]) (
 Qe [19,3] <|
 .ite 28 (
 Qa [10,I 1] <|
 .go 0 [9,29,11,12,13]) (
 Qh [23,I 60000] <|
 .ite 29 (
 Qa [10,I 1] <|
 .go 0 [9,30,11,12,13]) (
 Qi 55 [1,19] 4 <|
 Qt [33] <|
 .ite 34 (
 Qa [10,I 1] <|
 .go 0 [9,35,11,12,13]) (
 Qa [31,23] <|
 Qh [35,I 60000] <|
 .ite 36 (
 Qa [10,I 1] <|
 .go 0 [9,37,11,12,13]) (
 Qa [31,23] <|
 .join (
 Qa [10,I 1] <|
 .go 0 [.k (.bool true),41,38,39,40]) (
 .ite 9 (
 Qi 56 [11,12,13,4,37,32] 3 <|
 .go 0 [38,39,40]) (
 .go 0 [4,37,32])))))))))) (
 Qz [9] <|
 Qz [12] <|
 Qz [11] <|
 .ret [18,17,13,16]))
def F_s_l07Beyond:Sem1:=Fs p_s_l07Beyond [(55,F_s_WayTo),(56,F_s_Together)]
def p_s_RoutesBeyond:PL :=
 Q (.lit 3 []) [] <|
 Qi 43 [0,1,3] 1 <|
 Qi 45 [0] 1 <|
 Qt [6] <|
 .ite 7 (
 .ret [4]) (
 Q (.lit 1 []) [] <|
 .loop [8,I 0] (
 Qn [1] <|
 Ql [10,11] <|
 .ite 12 (
 Q1 [1,10] <|
 Qi 54 [0,14,3] 1 <|
 Q (.lit 1 []) [15] <|
 Q (.app false 1) [9,16] <|
 Qa [10,I 1] <|
 .go 0 [17,18]) (
 .loop [4,I 1] (
 Qm [14,I 6] <|
 .ite 15 (
 Qi 55 [5,14] 4 <|
 .ite 19 (
 Qa [14,I 1] <|
 .go 0 [13,20]) (
 .loop [.k (.bool false),I 0,I 0,I 0,.e] (
 Qn [1] <|
 Ql [21,25] <|
 .ite 26 (
 .ite 2 (
 Q1 [1,21] <|
 Qu [28,I 0] <|
 .ite 29 (
 Qa [21,I 1] <|
 .go 0 [20,30,22,23,24]) (
 Q1 [9,21] <|
 Q1 [1,21] <|
 Qi 57 [0,31,33,3,14,22,23,24,20] 4 <|
 Qa [21,I 1] <|
 .go 0 [37,38,34,35,36])) (
 Q1 [9,21] <|
 Q1 [1,21] <|
 Qi 57 [0,28,30,3,14,22,23,24,20] 4 <|
 Qa [21,I 1] <|
 .go 0 [34,35,31,32,33])) (
 .join (
 Qa [14,I 1] <|
 .go 1 [27,28]) (
 .ite 20 (
 Q (.lit 3 []) [22,23,24] <|
 Qo [13,27] <|
 .go 0 [28]) (
 .go 0 [13])))))) (
 .ret [13])))))
def F_s_RoutesBeyond:Sem1:=Fs p_s_RoutesBeyond [(43,F_s_RoutesWithin),(45,F_s_StoreOk),(54,F_s_WaysIn),(55,F_s_WayTo),(57,F_s_l07Beyond)]
def p_s_Beyond:PL :=
 Q (.lit 8 []) [] <|
 Qi 45 [0] 1 <|
 Qt [5] <|
 .ite 6 (
 .ret [4]) (
 Q (.lit 1 []) [] <|
 .loop [7,I 0] (
 Qn [1] <|
 Ql [9,10] <|
 .ite 11 (
 Q1 [1,9] <|
 Qu [13,3] <|
 .join (
 Qa [9,I 1] <|
 .go 0 [15,16]) (
 .ite 14 (
 Q1 [1,9] <|
 Qx [16] <|
 Qp [8,17] <|
 .go 0 [18]) (
 .go 0 [8]))) (
 Qi 54 [0,3,2] 1 <|
 Qi 43 [0,8,2] 1 <|
 Qi 44 [0,1,.k (.bool true),2] 1 <|
 .loop [4,I 1] (
 Qm [16,I 6] <|
 .ite 17 (
 Qi 55 [12,16] 4 <|
 .ite 21 (
 Qa [16,I 1] <|
 .go 0 [15,22]) (
 Qe [16,2] <|
 .ite 22 (
 Qa [16,I 1] <|
 .go 0 [15,23]) (
 Qi 55 [13,16] 4 <|
 Qt [26] <|
 .ite 27 (
 Qu [3,I 0] <|
 .join (
 .join (
 Qa [16,I 1] <|
 .go 0 [33,34]) (
 .ite 32 (
 Q (.lit 8 [true,true,true,true,true,false,true,true]) [3,I 2,2,16,I 0,.e,30,.k (.bool false)] <|
 Qy [15,33] <|
 .go 0 [34]) (
 .go 0 [15]))) (
 .ite 28 (
 Qi 55 [14,16] 4 <|
 .go 0 [29,30,31,32]) (
 .go 0 [23,24,25,26]))) (
 .join (
 .join (
 Qa [16,I 1] <|
 .go 0 [32,33]) (
 .ite 31 (
 Q (.lit 8 [true,true,true,true,true,false,true,true]) [3,I 2,2,16,I 0,.e,29,.k (.bool false)] <|
 Qy [15,32] <|
 .go 0 [33]) (
 .go 0 [15]))) (
 .go 0 [23,24,25,26]))))) (
 .ret [15])))))
def F_s_Beyond:Sem1:=Fs p_s_Beyond [(43,F_s_RoutesWithin),(44,F_s_RoutesBeyond),(45,F_s_StoreOk),(54,F_s_WaysIn),(55,F_s_WayTo)]
def p_s_l08With:PL :=
 .loop [0,I 0] (
 Qn [1] <|
 Ql [3,4] <|
 .ite 5 (
 Q8 [1,3] <|
 Qe [11,I 0] <|
 .join (
 Qi 40 [2,7,8,9,10,16,12,13,14] 1 <|
 Qa [3,I 1] <|
 .go 0 [17,18]) (
 .ite 15 (
 .go 0 [I 1]) (
 .go 0 [11]))) (
 .ret [2]))
def F_s_l08With:Sem1:=Fs p_s_l08With [(40,F_s_l05Put)]
def p_s_l13Beyond:PL :=
 Q (.lit 8 []) [] <|
 .loop [3,I 0] (
 Qn [1] <|
 Ql [5,6] <|
 .ite 7 (
 Q1 [1,5] <|
 Qi 51 [0,1,2,9] 1 <|
 Qy [4,10] <|
 Qa [5,I 1] <|
 .go 0 [11,12]) (
 Q (.lit 8 []) [] <|
 .loop [8,I 0] (
 Qn [0] <|
 Ql [10,11] <|
 .ite 12 (
 Qb [0,10] <|
 Qc 8 1 [0,10] <|
 Qu [14,I 2] <|
 .ite 15 (
 .join (
 Qa [10,I 1] <|
 .go 0 [16,17]) (
 Q8 [0,10] <|
 Q (.lit 8 []) [17,18,19,20,21,22,23,24] <|
 Qy [9,25] <|
 .go 0 [26])) (
 Qb [0,10] <|
 Qc 8 2 [0,10] <|
 Qu [17,2] <|
 .join (
 Qa [10,I 1] <|
 .go 0 [19,20]) (
 .ite 18 (
 Q8 [0,10] <|
 Q (.lit 8 []) [20,21,22,23,24,25,26,27] <|
 Qy [9,28] <|
 .go 0 [29]) (
 .go 0 [9])))) (
 Qi 52 [9,4] 1 <|
 .ret [13]))))
def F_s_l13Beyond:Sem1:=Fs p_s_l13Beyond [(51,F_s_Beyond),(52,F_s_l08With)]
def p_s_l04Copy:PL :=
 Q (.lit 2 []) [] <|
 Q (.app true 2) [8,5] <|
 Qz [7] <|
 Qz [6] <|
 Qz [4] <|
 Qz [3] <|
 Qz [2] <|
 Qz [1] <|
 Qz [0] <|
 .ret [16,15,14,13,12,9,11,10]
def F_s_l04Copy:Sem1:=Fs p_s_l04Copy []
def p_s_l04CopyList:PL :=
 Q (.lit 8 []) [] <|
 .loop [1,I 0] (
 Qn [0] <|
 Ql [3,4] <|
 .ite 5 (
 Q8 [0,3] <|
 Qi 53 [7,8,9,10,11,12,13,14] 8 <|
 Q (.lit 8 [true,true,true,true,true,false,true,true]) [15,16,17,18,19,20,21,22] <|
 Qy [2,23] <|
 Qa [3,I 1] <|
 .go 0 [24,25]) (
 .ret [2]))
def F_s_l04CopyList:Sem1:=Fs p_s_l04CopyList [(53,F_s_l04Copy)]
def p_s_Ideal:PL :=
 Q (.lit 8 []) [] <|
 Qi 38 [0,1,2] 1 <|
 Qt [6] <|
 .ite 7 (
 Qz [.k (.bool false)] <|
 .ret [5,8]) (
 Qn [3] <|
 Qn [1] <|
 Qu [8,9] <|
 .ite 10 (
 Qz [.k (.bool false)] <|
 .ret [5,11]) (
 Qn [4] <|
 Qu [11,0] <|
 .ite 12 (
 Qz [.k (.bool false)] <|
 .ret [5,13]) (
 .loop [5,I 1] (
 Qm [14,0] <|
 .ite 15 (
 Qi 33 [0,1,2,14] 1 <|
 .loop [13,I 0] (
 Qn [16] <|
 Ql [18,19] <|
 .ite 20 (
 Qs [14,I 1] <|
 Q1 [4,21] <|
 .ite 23 (
 Q1 [16,18] <|
 .loop [I 1,.e] (
 Qm [26,0] <|
 .ite 28 (
 Q1 [16,18] <|
 Qi 39 [0,1,2,3,14,26,30] 1 <|
 Qg [31,I 0] <|
 .ite 32 (
 Qs [26,I 1] <|
 Q1 [4,33] <|
 .join (
 Qa [26,I 1] <|
 .go 0 [37,36]) (
 .ite 35 (
 Q (.lit 2 [true,true]) [26,31] <|
 Q (.app true 2) [27,36] <|
 .go 0 [37]) (
 .go 0 [27]))) (
 .join (
 Qa [26,I 1] <|
 .go 0 [34,33]) (
 .go 0 [27]))) (
 Qi 40 [17,25,I 1,14,I 0,I 1,27,I 0,.k (.bool false)] 1 <|
 Qa [18,I 1] <|
 .go 1 [29,30]))) (
 Qa [14,I 1] <|
 .go 1 [17,24])) (
 Qa [14,I 1] <|
 .go 1 [17,21]))) (
 .loop [13,I 0] (
 Qn [2] <|
 Ql [17,18] <|
 .ite 19 (
 Q4 [2,17] <|
 Qs [21,I 1] <|
 Q1 [4,25] <|
 .join (
 Qa [17,I 1] <|
 .go 0 [28,29]) (
 .ite 27 (
 Qi 40 [16,I 9,I 3,21,22,I 1,.e,23,24] 1 <|
 .go 0 [28]) (
 .go 0 [16]))) (
 .loop [16,I 0] (
 Ql [21,I 3] <|
 .ite 22 (
 .loop [20,I 1] (
 Qm [24,0] <|
 .ite 25 (
 Qs [24,I 1] <|
 Q1 [4,26] <|
 .ite 28 (
 Qi 34 [0,1,2,24] 1 <|
 .join (
 Qa [24,I 1] <|
 .go 0 [30,31]) (
 .ite 29 (
 Qi 33 [0,1,2,24] 1 <|
 Qi 41 [23,30,24] 1 <|
 .go 0 [31]) (
 .go 0 [23]))) (
 .join (
 Qa [24,I 1] <|
 .go 0 [29,30]) (
 .go 0 [23]))) (
 Qa [21,I 1] <|
 .go 1 [23,26]))) (
 Qi 42 [20] 1 <|
 Qz [.k (.bool true)] <|
 .ret [23,24])))))))))
def F_s_Ideal:Sem1:=Fs p_s_Ideal [(33,F_s_AreasOf),(34,F_s_Border),(38,F_s_NetOk),(39,F_s_l13Open),(40,F_s_l05Put),(41,F_s_l13Beyond),(42,F_s_l04CopyList)]
def p_s_l07Owner:PL :=
 Qe [2,3] <|
 .ite 4 (
 Qz [.k (.bool true)] <|
 Qz [I 0] <|
 Qz [2] <|
 .ret [7,6,.e,5]) (
 Qi 55 [0,2] 4 <|
 .ite 8 (
 Qz [.k (.bool true)] <|
 Qz [6] <|
 Qz [5] <|
 .ret [11,10,7,9]) (
 Qi 55 [1,2] 4 <|
 Qz [12] <|
 Qz [10] <|
 Qz [9] <|
 .ret [15,14,11,13]))
def F_s_l07Owner:Sem1:=Fs p_s_l07Owner [(55,F_s_WayTo)]
def p_s_l07Thing:PL :=
 .loop [.k (.bool false),I 0,I 3,I 0,I 0,.e] (
 Qn [0] <|
 Ql [7,12] <|
 .ite 13 (
 Q8 [0,7] <|
 Qu [16,I 3] <|
 .ite 23 (
 Qa [7,I 1] <|
 .go 0 [6,24,8,9,10,11]) (
 Qu [18,3] <|
 .ite 24 (
 Qa [7,I 1] <|
 .go 0 [6,25,8,9,10,11]) (
 Q (.bb .neq) [22,5] <|
 .ite 25 (
 Qa [7,I 1] <|
 .go 0 [6,26,8,9,10,11]) (
 Qh [21,I 60000] <|
 .ite 26 (
 Qa [7,I 1] <|
 .go 0 [6,27,8,9,10,11]) (
 Qi 59 [1,2,17,4] 4 <|
 Qt [30] <|
 .ite 31 (
 Qa [7,I 1] <|
 .go 0 [6,32,8,9,10,11]) (
 Qa [28,21] <|
 .join (
 Qt [6] <|
 .ite 36 (
 .join (
 Qa [7,I 1] <|
 .go 0 [.k (.bool true),40,33,37,38,39]) (
 Q (.lit 1 []) [] <|
 Qi 60 [37,29] 1 <|
 .go 0 [34,35,38])) (
 Ql [35,10] <|
 .ite 37 (
 .join (
 Qa [7,I 1] <|
 .go 0 [.k (.bool true),41,33,38,39,40]) (
 Q (.lit 1 []) [] <|
 Qi 60 [38,29] 1 <|
 .go 0 [34,35,39])) (
 Qe [35,10] <|
 .ite 38 (
 Ql [34,9] <|
 .join (
 Qa [7,I 1] <|
 .go 0 [.k (.bool true),43,33,40,41,42]) (
 .ite 39 (
 Q (.lit 1 []) [] <|
 Qi 60 [40,29] 1 <|
 .go 0 [34,35,41]) (
 Qe [35,10] <|
 .ite 40 (
 Qe [34,9] <|
 .join (
 .go 0 [9,10,42]) (
 .ite 41 (
 Qi 60 [11,29] 1 <|
 .go 0 [42]) (
 .go 0 [11]))) (
 .join (
 .go 0 [9,10,41]) (
 .go 0 [11]))))) (
 .join (
 Qa [7,I 1] <|
 .go 0 [.k (.bool true),42,33,39,40,41]) (
 Qe [35,10] <|
 .ite 39 (
 Qe [34,9] <|
 .join (
 .go 0 [9,10,41]) (
 .ite 40 (
 Qi 60 [11,29] 1 <|
 .go 0 [41]) (
 .go 0 [11]))) (
 .join (
 .go 0 [9,10,40]) (
 .go 0 [11]))))))) (
 .ite 5 (
 .go 0 [I 4,28,21]) (
 .go 0 [8,32,I 0])))))))) (
 Qz [6] <|
 Qz [10] <|
 Qz [9] <|
 Qz [8] <|
 Qz [3] <|
 Qz [.k (.bool true)] <|
 .ret [19,18,17,16,15,11,14]))
def F_s_l07Thing:Sem1:=Fs p_s_l07Thing [(59,F_s_l07Owner),(60,F_s_l06Add)]
def p_s_RoutesOf:PL :=
 Q (.lit 6 []) [] <|
 Qi 43 [0,1,3] 1 <|
 Qi 44 [0,1,2,3] 1 <|
 Qi 45 [0] 1 <|
 Qt [7] <|
 .ite 8 (
 .ret [4]) (
 .loop [4,I 0] (
 Qn [5] <|
 Ql [10,11] <|
 .ite 12 (
 Qb [5,10] <|
 Qc 3 0 [5,10] <|
 Qu [14,3] <|
 .join (
 Qa [10,I 1] <|
 .go 0 [16,17]) (
 .ite 15 (
 Qb [5,10] <|
 Qc 3 0 [5,10] <|
 Qb [5,10] <|
 Qc 3 1 [5,10] <|
 Qb [5,10] <|
 Qc 3 2 [5,10] <|
 Q (.lit 6 []) [.k (.bool false),17,I 1,19,I 0,21] <|
 Q (.app false 6) [9,22] <|
 .go 0 [23]) (
 .go 0 [9]))) (
 .loop [9,I 0] (
 Qn [6] <|
 Ql [14,15] <|
 .ite 16 (
 Qb [6,14] <|
 Qc 3 0 [6,14] <|
 Qu [18,3] <|
 .join (
 Qa [14,I 1] <|
 .go 0 [20,21]) (
 .ite 19 (
 Qb [6,14] <|
 Qc 3 0 [6,14] <|
 Qb [6,14] <|
 Qc 3 1 [6,14] <|
 Qb [6,14] <|
 Qc 3 2 [6,14] <|
 Q (.lit 6 []) [.k (.bool false),21,I 2,23,I 0,25] <|
 Q (.app false 6) [13,26] <|
 .go 0 [27]) (
 .go 0 [13]))) (
 .loop [13,I 1] (
 Qm [18,I 9] <|
 .ite 19 (
 Qi 46 [0,5,6,18,3,.k (.bool false)] 7 <|
 Qt [26] <|
 .join (
 .join (
 Qa [18,I 1] <|
 .go 0 [35,36]) (
 .ite 34 (
 Q (.lit 1 []) [] <|
 Qp [35,33] <|
 Q (.lit 6 [true,true,true,true,true,false]) [28,29,30,31,32,36] <|
 Q (.app false 6) [17,37] <|
 .go 0 [38]) (
 .go 0 [17]))) (
 .ite 27 (
 Qi 46 [0,5,6,18,3,.k (.bool true)] 7 <|
 .go 0 [28,29,30,31,32,33,34]) (
 .go 0 [20,21,22,23,24,25,26]))) (
 .ret [17])))))))
def F_s_RoutesOf:Sem1:=Fs p_s_RoutesOf [(43,F_s_RoutesWithin),(44,F_s_RoutesBeyond),(45,F_s_StoreOk),(46,F_s_l07Thing)]
def p_s_TrueRoutes:PL :=
 Qi 30 [0,1,2,3,4] 2 <|
 Qt [7] <|
 .ite 8 (
 Q (.lit 6 []) [] <|
 .ret [9]) (
 Qi 31 [5,I 1,0] 1 <|
 Qt [9] <|
 .ite 10 (
 Q (.lit 6 []) [] <|
 .ret [11]) (
 Qs [5,I 1] <|
 Q1 [4,11] <|
 Qt [13] <|
 .ite 14 (
 Q (.lit 6 []) [] <|
 .ret [15]) (
 Qi 33 [0,1,2,5] 1 <|
 Qi 34 [0,1,2,5] 1 <|
 Qi 32 [6,15,16,5] 1 <|
 .ret [17])))
def F_s_TrueRoutes:Sem1:=Fs p_s_TrueRoutes [(30,F_s_Ideal),(31,F_s_l01In),(32,F_s_RoutesOf),(33,F_s_AreasOf),(34,F_s_Border)]
def p_s_l11Routes:PL :=
 Qi 22 [0,1,2] 6 <|
 Qn [4] <|
 Q (.mk) [9,9,.k (.bool false)] <|
 Q (.mk) [3,3,.k (.bool false)] <|
 .loop [I 0,6,7,8,10] (
 Qn [16] <|
 Ql [12,17] <|
 .ite 18 (
 Qi 23 [13,14,15,I 8] 4 <|
 Qt [19] <|
 Qb [16,12] <|
 Q (.put true 1 0 1) [16,12,23] <|
 Qa [12,I 1] <|
 .go 0 [26,20,21,22,25]) (
 .loop [I 0,11] (
 Qn [20] <|
 Ql [19,21] <|
 .ite 22 (
 Qb [20,19] <|
 Q (.put true 1 0 1) [20,19,.k (.bool true)] <|
 Qa [19,I 1] <|
 .go 0 [25,24]) (
 Qi 16 [13,14,15,3] 4 <|
 Qa [I 1,23] <|
 Qi 24 [3,4,5,16,20,27] 1 <|
 Qn [28] <|
 Qg [29,I 0] <|
 .ite 30 (
 Qi 23 [24,25,26,I 6] 4 <|
 .join (
 .ret [35,32,33,34]) (
 .ite 31 (
 Q6 [28,I 0] <|
 Q (.lit 6 []) [36,37,38,39,40,41] <|
 Q (.app false 6) [28,42] <|
 .go 0 [43]) (
 .go 0 [28]))) (
 .join (
 .ret [31,24,25,26]) (
 .go 0 [28]))))))
def F_s_l11Routes:Sem1:=Fs p_s_l11Routes [(16,F_s_l01Below),(22,F_s_l03Net),(23,F_s_l01Once),(24,F_s_TrueRoutes)]
def p_s_DrawShowRoute:PL :=
 Qn [0] <|
 Qa [I 13901,1] <|
 .loop [2,I 0] (
 Qn [0] <|
 Ql [4,5] <|
 .ite 6 (
 Ql [4,I 4000] <|
 .ite 7 (
 Q (.bin .mul) [3,I 131] <|
 Q1 [0,4] <|
 Q (.cnv .i64) [10] <|
 Qa [8,11] <|
 Qa [12,I 7] <|
 Q (.bin .and) [13,I 1073741823] <|
 Qa [4,I 1] <|
 .go 0 [14,15]) (
 Qi 15 [0,I 0,3] 4 <|
 Qn [8] <|
 Qe [12,I 0] <|
 .ite 13 (
 Qz [I 4] <|
 Qz [I 0] <|
 Qz [I 4] <|
 Qz [I 3] <|
 Qz [.k (.bool true)] <|
 .ret [18,17,16,15,14,.e]) (
 Qn [8] <|
 Qi 16 [9,10,11,14] 4 <|
 Q6 [8,15] <|
 Qz [24] <|
 Qz [23] <|
 Qz [22] <|
 Qz [21] <|
 Qz [20] <|
 .ret [30,29,28,27,26,25]))) (
 Qi 15 [0,I 0,3] 4 <|
 Qn [7] <|
 Qe [11,I 0] <|
 .ite 12 (
 Qz [I 4] <|
 Qz [I 0] <|
 Qz [I 4] <|
 Qz [I 3] <|
 Qz [.k (.bool true)] <|
 .ret [17,16,15,14,13,.e]) (
 Qn [7] <|
 Qi 16 [8,9,10,13] 4 <|
 Q6 [7,14] <|
 Qz [23] <|
 Qz [22] <|
 Qz [21] <|
 Qz [20] <|
 Qz [19] <|
 .ret [29,28,27,26,25,24])))
def F_s_DrawShowRoute:Sem1:=Fs p_s_DrawShowRoute [(15,F_s_l11Routes),(16,F_s_l01Below)]
def p_begins:PL :=
 .ins (.pr (.lens) [.a 0]) <|
 .ins (.pr (.lens) [.a 1]) <|
 .ins (.pr (.bin .leq) [.a 2,.a 3]) <|
 .ite 4 (
  .ins (.pr (.lens) [.a 0]) <|
  .ins (.pr (.subs false true) [.a 1,.a 5]) <|
  .ins (.pr (.bin .eql) [.a 6,.a 0]) <|
  .ins (.pr (.scl) [.a 7]) <|
  .ret [.a 8]) (
  .ins (.pr (.scl) [.k (.bool false)]) <|
  .ret [.a 5])
def S_begins:Nat→Sem1:=pick []
def F_begins:Sem1:=fun ts=>p_begins.den S_begins rounds [] ts
def p_FnShown:PL :=
 .ins (.cl 5 [.a 0] 1) <|
 .ite 1 (
  .ins (.pr (.scl) [.k (.bool true)]) <|
  .ret [.a 2]) (
  .ins (.cl 6 [.a 0] 6) <|
  .ins (.cl 7 [.a 2,.a 3,.a 4,.a 5,.a 6,.a 7] 1) <|
  .loop [.k (.string (ByteArray.mk #[32,98,121])),.k (.int .i64 0)] (
  .ins (.pr (.len) [.a 7]) <|
  .ins (.pr (.bin .lss) [.a 10,.a 11]) <|
  .ite 12 (
   .ins (.pr (.bin .add) [.a 9,.k (.string (ByteArray.mk #[32]))]) <|
   .ins (.pr (.bnd) [.a 7,.a 10]) <|
   .ins (.pr (.cell 1 0) [.a 7,.a 10]) <|
   .ins (.cl 8 [.a 15] 1) <|
   .ins (.pr (.bin .add) [.a 13,.a 16]) <|
   .ins (.pr (.bin .add) [.a 10,.k (.int .i64 1)]) <|
   .go 0 [.a 17,.a 18]) (
   .join (
   .ins (.cl 8 [.a 3] 1) <|
   .ins (.pr (.bin .add) [.a 13,.a 14]) <|
   .ins (.pr (.bin .add) [.a 15,.k (.string (ByteArray.mk #[32,99,111,115,116,32]))]) <|
   .ins (.cl 8 [.a 5] 1) <|
   .ins (.pr (.bin .add) [.a 16,.a 17]) <|
   .ins (.cl 9 [.a 18,.a 8] 1) <|
   .ite 19 (
    .ins (.pr (.lens) [.a 8]) <|
    .ins (.pr (.lens) [.a 9]) <|
    .ins (.pr (.bin .geq) [.a 20,.a 21]) <|
    .ite 22 (
    .ins (.pr (.lens) [.a 8]) <|
    .ins (.pr (.lens) [.a 9]) <|
    .ins (.pr (.bin .sub) [.a 23,.a 24]) <|
    .ins (.pr (.subs true false) [.a 8,.a 25]) <|
    .ins (.pr (.bin .eql) [.a 26,.a 9]) <|
    .ins (.pr (.scl) [.a 27]) <|
    .ret [.a 28]) (
    .ins (.pr (.scl) [.k (.bool false)]) <|
    .ret [.a 23])) (
    .ins (.pr (.scl) [.k (.bool false)]) <|
    .ret [.a 20])) (
   .ite 2 (
    .go 0 [.k (.string (ByteArray.mk #[116,104,105,110,103,32]))]) (
    .go 0 [.k (.string (ByteArray.mk #[110,111,100,101,32]))])))))
def S_FnShown:Nat→Sem1:=pick [(5,F_big),(6,F_s_DrawShowRoute),(7,F_i_ShowRoute),(8,F_s_Decimal),(9,F_begins)]
def F_FnShown:Sem1:=fun ts=>p_FnShown.den S_FnShown rounds [] ts
end Go.Proofs.YtbhplkilhknciaaDoorC
