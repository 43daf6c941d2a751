/- The plain programs of the functions that are walked (printed by a program). Conditions: none. -/
import Derived.Test.YtlofiplkmgmnfaaKe
namespace Go.Proofs.YtlofiplkmgmnfaaC
def p_big:PL :=
 .ins (.pr (.len) [.a 0]) <|
 .ins (.pr (.bin .gtr) [.a 1,.k (.int .i64 1048576)]) <|
 .ins (.pr (.scl) [.a 2]) <|
 .ret [.a 3]
def S_big:Nat→Sem1:=pick []
def F_big:Sem1:=fun ts=>p_big.den S_big rounds [] ts
def p_s_l01Byte:PL :=
 Q (.bin .mul) [2,I 6364136223846793005] <|
 Qa [3,I 1442695040888963407] <|
 Q (.bin .shr) [4,.k (.int .u64 33)] <|
 Q (.bin .shr) [4,.k (.int .u64 45)] <|
 Q (.bin .xor) [5,6] <|
 Q (.bin .and) [7,I 255] <|
 Qn [0] <|
 Ql [1,9] <|
 .join (
 Qz [12] <|
 .ret [13,0,11,4]) (
 .ite 10 (
 Q1 [0,1] <|
 Q (.cnv .i64) [12] <|
 Qa [8,13] <|
 Q (.bin .and) [14,I 255] <|
 Qa [1,I 1] <|
 .go 0 [16,15]) (
 .go 0 [1,8]))
def F_s_l01Byte:Sem1:=Fs p_s_l01Byte []
def p_s_l01Below:PL :=
 Qm [3,I 0] <|
 .ite 4 (
 Qz [I 0] <|
 .ret [5,0,1,2]) (
 Qm [3,I 256] <|
 .ite 5 (
 Qi 143 [0,1,2] 4 <|
 Q (.bin .rem) [6,3] <|
 Qz [10] <|
 .ret [11,7,8,9]) (
 Qi 143 [0,1,2] 4 <|
 Qi 143 [7,8,9] 4 <|
 Qi 143 [11,12,13] 4 <|
 Qi 143 [15,16,17] 4 <|
 Q (.bin .mul) [6,I 16777216] <|
 Q (.bin .mul) [10,I 65536] <|
 Qa [22,23] <|
 Q (.bin .mul) [14,I 256] <|
 Qa [24,25] <|
 Qa [26,18] <|
 Q (.bin .rem) [27,3] <|
 Qz [28] <|
 .ret [29,19,20,21]))
def F_s_l01Below:Sem1:=Fs p_s_l01Below [(143,F_s_l01Byte)]
def p_s_l01PickInt:PL :=
 Qn [3] <|
 Qi 144 [0,1,2,4] 4 <|
 Q1 [3,5] <|
 Qz [10] <|
 .ret [11,6,7,8]
def F_s_l01PickInt:Sem1:=Fs p_s_l01PickInt [(144,F_s_l01Below)]
def p_s_l03Ahead:PL :=
 Ql [0,4] <|
 .ite 8 (
 Qz [.k (.bool true)] <|
 .ret [9]) (
 Qe [0,4] <|
 .ite 9 (
 Ql [1,5] <|
 .ite 10 (
 Qz [.k (.bool true)] <|
 .ret [11]) (
 Qe [1,5] <|
 .ite 11 (
 Ql [3,7] <|
 Qz [12] <|
 .ret [13]) (
 Qz [.k (.bool false)] <|
 .ret [12]))) (
 Qz [.k (.bool false)] <|
 .ret [10]))
def F_s_l03Ahead:Sem1:=Fs p_s_l03Ahead []
def p_s_l03Put:PL :=
 Q (.lit 4 []) [] <|
 .loop [5,I 0] (
 Qn [0] <|
 Ql [7,8] <|
 .ite 9 (
 Q4 [0,7] <|
 Qi 170 [11,12,13,14,1,2,3,4] 1 <|
 .join (
 Qa [7,I 1] <|
 .go 0 [16,17]) (
 .ite 15 (
 Q4 [0,7] <|
 Q (.lit 4 [true,true,true,true]) [17,18,19,20] <|
 Q (.app true 4) [6,21] <|
 .go 0 [22]) (
 .go 0 [6]))) (
 Q (.lit 4 [true,true,true,true]) [1,2,3,4] <|
 Q (.app true 4) [6,10] <|
 .loop [11,I 0] (
 Qn [0] <|
 Ql [13,14] <|
 .ite 15 (
 Q4 [0,13] <|
 Qi 170 [1,2,3,4,17,18,19,20] 1 <|
 .join (
 Qa [13,I 1] <|
 .go 0 [22,23]) (
 .ite 21 (
 Q4 [0,13] <|
 Q (.lit 4 [true,true,true,true]) [23,24,25,26] <|
 Q (.app true 4) [12,27] <|
 .go 0 [28]) (
 .go 0 [12]))) (
 .ret [12]))))
def F_s_l03Put:Sem1:=Fs p_s_l03Put [(170,F_s_l03Ahead)]
def p_s_l01Once:PL :=
 Qi 144 [0,1,2,3] 4 <|
 Qe [4,I 0] <|
 Qz [8] <|
 .ret [9,5,6,7]
def F_s_l01Once:Sem1:=Fs p_s_l01Once [(144,F_s_l01Below)]
def p_s_l03Thing:PL :=
 Ql [1,5] <|
 .ite 8 (
 Qz [.k (.bool true)] <|
 .ret [9]) (
 Qe [1,5] <|
 .ite 9 (
 Ql [0,4] <|
 Qz [10] <|
 .ret [11]) (
 Qz [.k (.bool false)] <|
 .ret [10]))
def F_s_l03Thing:Sem1:=Fs p_s_l03Thing []
def p_s_l03PutThing:PL :=
 Q (.lit 4 []) [] <|
 .loop [5,I 0] (
 Qn [0] <|
 Ql [7,8] <|
 .ite 9 (
 Q4 [0,7] <|
 Qi 171 [11,12,13,14,1,2,3,4] 1 <|
 .join (
 Qa [7,I 1] <|
 .go 0 [16,17]) (
 .ite 15 (
 Q4 [0,7] <|
 Q (.lit 4 [true,true,true,true]) [17,18,19,20] <|
 Q (.app true 4) [6,21] <|
 .go 0 [22]) (
 .go 0 [6]))) (
 Q (.lit 4 [true,true,true,true]) [1,2,3,4] <|
 Q (.app true 4) [6,10] <|
 .loop [11,I 0] (
 Qn [0] <|
 Ql [13,14] <|
 .ite 15 (
 Q4 [0,13] <|
 Qi 171 [1,2,3,4,17,18,19,20] 1 <|
 .join (
 Qa [13,I 1] <|
 .go 0 [22,23]) (
 .ite 21 (
 Q4 [0,13] <|
 Q (.lit 4 [true,true,true,true]) [23,24,25,26] <|
 Q (.app true 4) [12,27] <|
 .go 0 [28]) (
 .go 0 [12]))) (
 .ret [12]))))
def F_s_l03PutThing:Sem1:=Fs p_s_l03PutThing [(171,F_s_l03Thing)]
def p_s_l03Net:PL :=
 Qi 144 [0,1,2,I 4] 4 <|
 Qa [I 2,3] <|
 .loop [I 0,4,5,6,.e] (
 Qi 144 [9,10,11,I 3] 4 <|
 Qa [7,13] <|
 Ql [8,17] <|
 .ite 18 (
 Qi 144 [14,15,16,7] 4 <|
 Qa [I 1,19] <|
 Qi 144 [20,21,22,7] 4 <|
 Qa [I 1,24] <|
 Qa [8,I 1] <|
 Ql [29,7] <|
 .join (
 Qe [31,32] <|
 .join (
 Qg [31,34] <|
 .join (
 Qi 144 [25,26,27,I 4] 4 <|
 Qa [I 1,38] <|
 Q (.lit 1 [true,true,true,true]) [I 0,I 0,I 1,I 2] <|
 Qi 130 [39,40,41,43] 4 <|
 Qn [12] <|
 Ql [48,I 12] <|
 .join (
 Qa [8,I 1] <|
 .go 0 [51,45,46,47,50]) (
 .ite 49 (
 Qi 185 [12,36,37,42,44] 1 <|
 .go 0 [50]) (
 .go 0 [12]))) (
 .ite 35 (
 .go 0 [34,31]) (
 .go 0 [31,34]))) (
 .ite 33 (
 Q (.bin .rem) [31,7] <|
 Qa [34,I 1] <|
 .go 0 [35]) (
 .go 0 [32]))) (
 .ite 30 (
 Qa [8,I 1] <|
 Qa [8,I 2] <|
 .go 0 [31,32]) (
 .go 0 [23,28]))) (
 .loop [I 0,14,15,16,.e] (
 Qi 144 [20,21,22,I 3] 4 <|
 Ql [19,24] <|
 .ite 28 (
 Qi 144 [25,26,27,7] 4 <|
 Qa [I 1,29] <|
 Qi 144 [30,31,32,I 3] 4 <|
 Qa [I 1,34] <|
 Qi 144 [35,36,37,I 5] 4 <|
 Qa [I 1,39] <|
 Qi 122 [40,41,42,I 2] 4 <|
 Qi 186 [23,33,38,43,44] 1 <|
 Qa [19,I 1] <|
 .go 0 [49,45,46,47,48]) (
 Qz [7] <|
 .ret [29,12,23,25,26,27]))))
def F_s_l03Net:Sem1:=Fs p_s_l03Net [(122,F_s_l01Once),(130,F_s_l01PickInt),(144,F_s_l01Below),(185,F_s_l03Put),(186,F_s_l03PutThing)]
def p_s_l01In:PL :=
 Qh [0,1] <|
 .ite 3 (
 Qm [0,2] <|
 Qz [4] <|
 .ret [5]) (
 Qz [.k (.bool false)] <|
 .ret [4])
def F_s_l01In:Sem1:=Fs p_s_l01In []
def p_s_LinkOk:PL :=
 Qi 84 [0,I 1,I 6] 1 <|
 .ite 5 (
 Qi 84 [1,I 1,0] 1 <|
 .ite 6 (
 Qi 84 [2,I 1,0] 1 <|
 .ite 7 (
 Ql [1,2] <|
 .ite 8 (
 Qi 84 [3,I 1,I 1000] 1 <|
 .ite 9 (
 Qi 84 [4,I 0,I 2] 1 <|
 Qz [10] <|
 .ret [11]) (
 Qz [.k (.bool false)] <|
 .ret [10])) (
 Qz [.k (.bool false)] <|
 .ret [9])) (
 Qz [.k (.bool false)] <|
 .ret [8])) (
 Qz [.k (.bool false)] <|
 .ret [7])) (
 Qz [.k (.bool false)] <|
 .ret [6])
def F_s_LinkOk:Sem1:=Fs p_s_LinkOk [(84,F_s_l01In)]
def p_s_NetOk:PL :=
 Qi 84 [0,I 1,I 6] 1 <|
 Qt [3] <|
 .ite 4 (
 Qz [.k (.bool false)] <|
 .ret [5]) (
 Qn [1] <|
 Qg [5,I 12] <|
 .ite 6 (
 Qz [.k (.bool false)] <|
 .ret [7]) (
 Qn [2] <|
 Qg [7,I 4] <|
 .ite 8 (
 Qz [.k (.bool false)] <|
 .ret [9]) (
 .loop [.k (.bool false),I 0] (
 Qn [1] <|
 Ql [10,11] <|
 .ite 12 (
 Q4 [1,10] <|
 Qi 169 [0,14,15,16,17] 1 <|
 Qt [18] <|
 .ite 19 (
 Qz [.k (.bool false)] <|
 .ret [20]) (
 Qg [10,I 0] <|
 .ite 20 (
 Qs [10,I 1] <|
 Q4 [1,21] <|
 Q4 [1,10] <|
 Qi 170 [23,24,25,26,28,29,30,31] 1 <|
 Qt [32] <|
 .ite 33 (
 Qz [.k (.bool false)] <|
 .ret [34]) (
 Qa [10,I 1] <|
 .go 0 [9,34])) (
 Qa [10,I 1] <|
 .go 0 [9,21]))) (
 .loop [9,I 0] (
 Qn [2] <|
 Ql [14,15] <|
 .ite 16 (
 Q4 [2,14] <|
 Qi 84 [18,I 1,0] 1 <|
 Qt [22] <|
 .ite 23 (
 Qz [.k (.bool false)] <|
 .ret [24]) (
 Qi 84 [19,I 1,I 9] 1 <|
 Qt [24] <|
 .ite 25 (
 Qz [.k (.bool false)] <|
 .ret [26]) (
 Qi 84 [20,I 1,I 1000] 1 <|
 Qt [26] <|
 .ite 27 (
 Qz [.k (.bool false)] <|
 .ret [28]) (
 Qg [14,I 0] <|
 .ite 28 (
 Qs [14,I 1] <|
 Q4 [2,29] <|
 Qi 171 [31,32,33,34,18,19,20,21] 1 <|
 Qt [35] <|
 .ite 36 (
 Qz [.k (.bool false)] <|
 .ret [37]) (
 Qa [14,I 1] <|
 .go 0 [13,37])) (
 Qa [14,I 1] <|
 .go 0 [13,29]))))) (
 Qz [.k (.bool true)] <|
 .ret [17])))))))
def F_s_NetOk:Sem1:=Fs p_s_NetOk [(84,F_s_l01In),(169,F_s_LinkOk),(170,F_s_l03Ahead),(171,F_s_l03Thing)]
def p_s_CostTo:PL :=
 .loop [I 0,I 0] (
 Qn [1] <|
 Ql [7,8] <|
 .ite 9 (
 Q4 [1,7] <|
 Qe [14,5] <|
 .ite 15 (
 Qe [11,3] <|
 .ite 16 (
 Qe [12,4] <|
 .ite 17 (
 Qz [13] <|
 .ret [18]) (
 Qe [11,4] <|
 .ite 18 (
 Qe [12,3] <|
 .ite 19 (
 Qz [13] <|
 .ret [20]) (
 Qa [7,I 1] <|
 .go 0 [6,20])) (
 Qa [7,I 1] <|
 .go 0 [6,19]))) (
 Qe [11,4] <|
 .ite 17 (
 Qe [12,3] <|
 .ite 18 (
 Qz [13] <|
 .ret [19]) (
 Qa [7,I 1] <|
 .go 0 [6,19])) (
 Qa [7,I 1] <|
 .go 0 [6,18]))) (
 Qa [7,I 1] <|
 .go 0 [6,16])) (
 Qz [I 0] <|
 .ret [10]))
def F_s_CostTo:Sem1:=Fs p_s_CostTo []
def p_s_NextTo:PL :=
 Q (.lit 1 []) [] <|
 .loop [5,I 1] (
 Qm [7,I 6] <|
 .ite 8 (
 Qi 187 [0,1,2,3,7,4] 1 <|
 Qg [9,I 0] <|
 .join (
 Qa [7,I 1] <|
 .go 0 [11,12]) (
 .ite 10 (
 Qx [7] <|
 Qp [6,11] <|
 .go 0 [12]) (
 .go 0 [6]))) (
 .ret [6]))
def F_s_NextTo:Sem1:=Fs p_s_NextTo [(187,F_s_CostTo)]
def p_s_AreasOf:PL :=
 Q (.lit 1 []) [] <|
 .loop [4,I 0] (
 Qm [6,I 2] <|
 .ite 7 (
 Qi 132 [0,1,2,3,6] 1 <|
 Qn [8] <|
 Qg [9,I 0] <|
 .join (
 Qa [6,I 1] <|
 .go 0 [11,12]) (
 .ite 10 (
 Qx [6] <|
 Qp [5,11] <|
 .go 0 [12]) (
 .go 0 [5]))) (
 .ret [5]))
def F_s_AreasOf:Sem1:=Fs p_s_AreasOf [(132,F_s_NextTo)]
def p_s_l13Open:PL :=
 .loop [I 0,I 0] (
 Qn [1] <|
 Ql [8,9] <|
 .ite 10 (
 Q4 [1,8] <|
 Q1 [3,8] <|
 .ite 17 (
 Qe [15,6] <|
 .ite 18 (
 Qe [12,4] <|
 .ite 19 (
 Qe [13,5] <|
 .ite 20 (
 Qz [14] <|
 .ret [21]) (
 Qe [12,5] <|
 .ite 21 (
 Qe [13,4] <|
 .ite 22 (
 Qz [14] <|
 .ret [23]) (
 Qa [8,I 1] <|
 .go 0 [7,23])) (
 Qa [8,I 1] <|
 .go 0 [7,22]))) (
 Qe [12,5] <|
 .ite 20 (
 Qe [13,4] <|
 .ite 21 (
 Qz [14] <|
 .ret [22]) (
 Qa [8,I 1] <|
 .go 0 [7,22])) (
 Qa [8,I 1] <|
 .go 0 [7,21]))) (
 Qa [8,I 1] <|
 .go 0 [7,19])) (
 Qa [8,I 1] <|
 .go 0 [7,18])) (
 Qz [I 0] <|
 .ret [11]))
def F_s_l13Open:Sem1:=Fs p_s_l13Open []
def p_s_Before:PL :=
 Qu [0,8] <|
 .ite 16 (
 Ql [0,8] <|
 Qz [17] <|
 .ret [18]) (
 Qu [1,9] <|
 .ite 17 (
 Ql [1,9] <|
 Qz [18] <|
 .ret [19]) (
 Qu [2,10] <|
 .ite 18 (
 Ql [2,10] <|
 Qz [19] <|
 .ret [20]) (
 Ql [3,11] <|
 Qz [19] <|
 .ret [20])))
def F_s_Before:Sem1:=Fs p_s_Before []
def p_s_l05Put:PL :=
 Q (.lit 8 []) [] <|
 .loop [9,I 0] (
 Qn [0] <|
 Ql [11,12] <|
 .ite 13 (
 Q8 [0,11] <|
 Qi 140 [15,16,17,18,19,20,21,22,1,2,3,4,5,6,7,8] 1 <|
 .join (
 Qa [11,I 1] <|
 .go 0 [24,25]) (
 .ite 23 (
 Q8 [0,11] <|
 Q (.lit 8 []) [25,26,27,28,29,30,31,32] <|
 Qy [10,33] <|
 .go 0 [34]) (
 .go 0 [10]))) (
 Q (.lit 8 []) [1,2,3,4,5,6,7,8] <|
 Qy [10,14] <|
 .loop [15,I 0] (
 Qn [0] <|
 Ql [17,18] <|
 .ite 19 (
 Q8 [0,17] <|
 Qi 140 [1,2,3,4,5,6,7,8,21,22,23,24,25,26,27,28] 1 <|
 .join (
 Qa [17,I 1] <|
 .go 0 [30,31]) (
 .ite 29 (
 Q8 [0,17] <|
 Q (.lit 8 []) [31,32,33,34,35,36,37,38] <|
 Qy [16,39] <|
 .go 0 [40]) (
 .go 0 [16]))) (
 .ret [16]))))
def F_s_l05Put:Sem1:=Fs p_s_l05Put [(140,F_s_Before)]
def p_s_Border:PL :=
 Qi 53 [0,1,2,3] 1 <|
 Qn [4] <|
 Qg [5,I 1] <|
 .ite 6 (
 Q1 [4,I 0] <|
 Qe [8,I 0] <|
 Qz [9] <|
 .ret [10]) (
 Qz [.k (.bool false)] <|
 .ret [7])
def F_s_Border:Sem1:=Fs p_s_Border [(53,F_s_AreasOf)]
def p_s_l04Near:PL :=
 .loop [.k (.bool false),I 0] (
 Qn [5] <|
 Ql [9,10] <|
 .ite 11 (
 Q2 [5,9] <|
 Qi 84 [13,I 1,I 6] 1 <|
 Qt [15] <|
 .ite 16 (
 Qz [.k (.bool false)] <|
 .ret [17]) (
 Qe [13,2] <|
 .ite 17 (
 Qz [.k (.bool false)] <|
 .ret [18]) (
 Qi 84 [14,I 1,I 1000] 1 <|
 Qt [18] <|
 .ite 19 (
 Qz [.k (.bool false)] <|
 .ret [20]) (
 Qg [9,I 0] <|
 .ite 20 (
 Qs [9,I 1] <|
 Qb [5,21] <|
 Qc 2 0 [5,21] <|
 Qh [23,13] <|
 .ite 24 (
 Qz [.k (.bool false)] <|
 .ret [25]) (
 Qa [9,I 1] <|
 .go 0 [8,25])) (
 Qa [9,I 1] <|
 .go 0 [8,21]))))) (
 Qz [.k (.bool true)] <|
 .ret [12]))
def F_s_l04Near:Sem1:=Fs p_s_l04Near [(84,F_s_l01In)]
def p_s_RecordOk:PL :=
 Qi 84 [2,I 1,I 6] 1 <|
 Qt [8] <|
 .ite 9 (
 Qz [.k (.bool false)] <|
 .ret [10]) (
 Qi 84 [4,I 1,I 100000] 1 <|
 Qt [10] <|
 .ite 11 (
 Qz [.k (.bool false)] <|
 .ret [12]) (
 Qe [1,I 1] <|
 .ite 12 (
 Qi 84 [0,I 0,I 2] 1 <|
 .ite 13 (
 Qe [3,I 0] <|
 .ite 14 (
 Qi 189 [0,1,2,3,4,5,6,7] 1 <|
 .ite 15 (
 Qe [6,I 0] <|
 .ite 16 (
 Qt [7] <|
 Qz [17] <|
 .ret [18]) (
 Qz [.k (.bool false)] <|
 .ret [17])) (
 Qz [.k (.bool false)] <|
 .ret [16])) (
 Qz [.k (.bool false)] <|
 .ret [15])) (
 Qz [.k (.bool false)] <|
 .ret [14])) (
 Qe [1,I 2] <|
 .ite 13 (
 Qi 84 [0,I 0,I 2] 1 <|
 .ite 14 (
 Qi 84 [3,I 1,I 6] 1 <|
 .ite 15 (
 Qn [5] <|
 Qe [16,I 0] <|
 .ite 17 (
 Qi 84 [6,I 0,I 60000] 1 <|
 .ite 18 (
 Qt [7] <|
 Qz [19] <|
 .ret [20]) (
 Qz [.k (.bool false)] <|
 .ret [19])) (
 Qz [.k (.bool false)] <|
 .ret [18])) (
 Qz [.k (.bool false)] <|
 .ret [16])) (
 Qz [.k (.bool false)] <|
 .ret [15])) (
 Qe [1,I 3] <|
 .ite 14 (
 Qe [0,I 9] <|
 .ite 15 (
 Qi 84 [3,I 1,I 9] 1 <|
 .ite 16 (
 Qn [5] <|
 Qe [17,I 0] <|
 .ite 18 (
 Qi 84 [6,I 1,I 1000] 1 <|
 .ite 19 (
 Qz [.k (.bool true)] <|
 .ret [20]) (
 Qe [6,I 60000] <|
 Qz [20] <|
 .ret [21])) (
 Qz [.k (.bool false)] <|
 .ret [19])) (
 Qz [.k (.bool false)] <|
 .ret [17])) (
 Qz [.k (.bool false)] <|
 .ret [16])) (
 Qz [.k (.bool false)] <|
 .ret [15])))))
def F_s_RecordOk:Sem1:=Fs p_s_RecordOk [(84,F_s_l01In),(189,F_s_l04Near)]
def p_s_StoreOk:PL :=
 Qn [0] <|
 Qg [1,I 150] <|
 .ite 2 (
 Qz [.k (.bool false)] <|
 .ret [3]) (
 .loop [.k (.bool false),I 0] (
 Qn [0] <|
 Ql [4,5] <|
 .ite 6 (
 Q8 [0,4] <|
 Qi 139 [8,9,10,11,12,13,14,15] 1 <|
 Qt [16] <|
 .ite 17 (
 Qz [.k (.bool false)] <|
 .ret [18]) (
 Qg [4,I 0] <|
 .ite 18 (
 Qs [4,I 1] <|
 Q8 [0,19] <|
 Q8 [0,4] <|
 Qi 140 [21,22,23,24,25,26,27,28,30,31,32,33,34,35,36,37] 1 <|
 Qt [38] <|
 .ite 39 (
 Qz [.k (.bool false)] <|
 .ret [40]) (
 Qa [4,I 1] <|
 .go 0 [3,40])) (
 Qa [4,I 1] <|
 .go 0 [3,19]))) (
 Qz [.k (.bool true)] <|
 .ret [7])))
def F_s_StoreOk:Sem1:=Fs p_s_StoreOk [(139,F_s_RecordOk),(140,F_s_Before)]
def p_s_SameKey:PL :=
 Qe [0,8] <|
 .ite 16 (
 Qe [1,9] <|
 .ite 17 (
 Qe [2,10] <|
 .ite 18 (
 Qe [3,11] <|
 Qz [19] <|
 .ret [20]) (
 Qz [.k (.bool false)] <|
 .ret [19])) (
 Qz [.k (.bool false)] <|
 .ret [18])) (
 Qz [.k (.bool false)] <|
 .ret [17])
def F_s_SameKey:Sem1:=Fs p_s_SameKey []
def p_s_l05At:PL :=
 .loop [I 0,I 0] (
 Qn [0] <|
 Ql [10,11] <|
 .ite 12 (
 Q8 [0,10] <|
 Qi 160 [14,15,16,17,18,19,20,21,1,2,3,4,5,6,7,8] 1 <|
 .ite 22 (
 Qz [10] <|
 .ret [23]) (
 Qa [10,I 1] <|
 .go 0 [9,23])) (
 Qz [.k (.int .i64 (-1))] <|
 .ret [13]))
def F_s_l05At:Sem1:=Fs p_s_l05At [(160,F_s_SameKey)]
def p_s_l06Node:PL :=
 Qi 123 [0,1,I 1,2,I 0,I 0,.e,I 0,.k (.bool false)] 1 <|
 Ql [3,I 0] <|
 .ite 4 (
 Qz [.k (.bool false)] <|
 Qz [.k (.bool false)] <|
 Qz [I 0] <|
 Qz [I 0] <|
 Qz [I 0] <|
 Qz [I 0] <|
 Qz [I 0] <|
 Qz [I 0] <|
 .ret [12,11,10,9,8,.e,7,6,5]) (
 Q8 [0,3] <|
 Qz [.k (.bool true)] <|
 Qz [13] <|
 Qz [12] <|
 Qz [10] <|
 Qz [9] <|
 Qz [8] <|
 Qz [7] <|
 Qz [6] <|
 .ret [21,20,19,18,17,11,16,15,14])
def F_s_l06Node:Sem1:=Fs p_s_l06Node [(123,F_s_l05At)]
def p_s_l06Tells:PL :=
 Qi 83 [0,1,2] 9 <|
 .loop [I 0,I 0] (
 Qn [9] <|
 Ql [14,15] <|
 .ite 16 (
 Qb [9,14] <|
 Qc 2 0 [9,14] <|
 Qe [18,3] <|
 .ite 19 (
 Qb [9,14] <|
 Qc 2 1 [9,14] <|
 Qz [21] <|
 .ret [22]) (
 Qa [14,I 1] <|
 .go 0 [13,20])) (
 Qz [I 0] <|
 .ret [17]))
def F_s_l06Tells:Sem1:=Fs p_s_l06Tells [(83,F_s_l06Node)]
def p_s_l06Links:PL :=
 Q (.mk) [I 49,I 49,I 0] <|
 .loop [I 1,2] (
 Qm [3,I 6] <|
 .ite 5 (
 Qi 83 [0,1,3] 9 <|
 .loop [I 0,4] (
 Qn [11] <|
 Ql [15,17] <|
 .ite 18 (
 Qb [11,15] <|
 Qc 2 0 [11,15] <|
 Qi 84 [20,I 1,I 6] 1 <|
 .ite 21 (
 Qb [11,15] <|
 Qc 2 0 [11,15] <|
 Qi 127 [0,1,23,3] 1 <|
 Qg [24,I 0] <|
 .join (
 Qa [15,I 1] <|
 .go 0 [27,26]) (
 .ite 25 (
 Q (.bin .mul) [3,I 7] <|
 Qb [11,15] <|
 Qc 2 0 [11,15] <|
 Qa [26,28] <|
 Qb [11,15] <|
 Qc 2 1 [11,15] <|
 Qb [16,29] <|
 Q (.put true 1 0 1) [16,29,31] <|
 .go 0 [33]) (
 .go 0 [16]))) (
 .join (
 Qa [15,I 1] <|
 .go 0 [23,22]) (
 .go 0 [16]))) (
 Qa [3,I 1] <|
 .go 1 [19,16]))) (
 .ret [4]))
def F_s_l06Links:Sem1:=Fs p_s_l06Links [(83,F_s_l06Node),(84,F_s_l01In),(127,F_s_l06Tells)]
def p_s_l03In:PL :=
 .loop [.k (.bool false),I 0] (
 Qn [0] <|
 Ql [3,4] <|
 .ite 5 (
 Q1 [0,3] <|
 Qe [7,1] <|
 .ite 8 (
 Qz [.k (.bool true)] <|
 .ret [9]) (
 Qa [3,I 1] <|
 .go 0 [2,9])) (
 Qz [.k (.bool false)] <|
 .ret [6]))
def F_s_l03In:Sem1:=Fs p_s_l03In []
def p_s_l06Add:PL :=
 Q (.lit 1 []) [] <|
 .loop [2,I 1] (
 Qm [4,I 6] <|
 .ite 5 (
 Qi 162 [0,4] 1 <|
 .ite 6 (
 .join (
 Qa [4,I 1] <|
 .go 0 [7,8]) (
 Qx [4] <|
 Qp [3,7] <|
 .go 0 [8])) (
 Qi 162 [1,4] 1 <|
 .join (
 Qa [4,I 1] <|
 .go 0 [8,9]) (
 .ite 7 (
 Qx [4] <|
 Qp [3,8] <|
 .go 0 [9]) (
 .go 0 [3])))) (
 .ret [3]))
def F_s_l06Add:Sem1:=Fs p_s_l06Add [(162,F_s_l03In)]
def p_s_WaysIn:PL :=
 Q (.lit 3 []) [] <|
 Qi 83 [0,1,2] 9 <|
 Qi 63 [0] 1 <|
 Qt [13] <|
 .ite 14 (
 .ret [3]) (
 Qi 84 [2,I 1,I 6] 1 <|
 Qt [15] <|
 .ite 16 (
 .ret [3]) (
 Qt [12] <|
 .ite 17 (
 .ret [3]) (
 Qi 85 [0,1] 1 <|
 Q (.mk) [I 7,I 7,I 0] <|
 Q (.mk) [I 7,I 7,.e] <|
 Q (.mk) [I 7,I 7,.k (.bool false)] <|
 .loop [I 1,19] (
 Qm [22,I 6] <|
 .ite 24 (
 Qb [23,22] <|
 Q (.put true 1 0 1) [23,22,.k (.int .i64 (-1))] <|
 Qa [22,I 1] <|
 .go 0 [27,26]) (
 Qb [23,2] <|
 Q (.put true 1 0 1) [23,2,I 0] <|
 .loop [I 1,20,21,26] (
 Qm [27,I 6] <|
 .ite 31 (
 .loop [I 0,I 1] (
 Qm [33,I 6] <|
 .ite 34 (
 Qq [29,33] <|
 Qt [36] <|
 .ite 37 (
 Qq [30,33] <|
 Qh [39,I 0] <|
 .ite 40 (
 Qe [32,I 0] <|
 .ite 41 (
 .join (
 Qa [33,I 1] <|
 .go 0 [42,43]) (
 .go 0 [33])) (
 Qq [30,33] <|
 Qq [30,32] <|
 Ql [43,45] <|
 .join (
 Qa [33,I 1] <|
 .go 0 [47,48]) (
 .ite 46 (
 .go 0 [33]) (
 .go 0 [32])))) (
 .join (
 Qa [33,I 1] <|
 .go 0 [41,42]) (
 .go 0 [32]))) (
 .join (
 Qa [33,I 1] <|
 .go 0 [38,39]) (
 .go 0 [32]))) (
 Qe [32,I 0] <|
 .ite 35 (
 Qa [I 6,I 1] <|
 .go 1 [36,28,29,30]) (
 Qb [29,32] <|
 Q (.put true 1 0 1) [29,32,.k (.bool true)] <|
 .loop [I 1,28,30] (
 Qm [38,I 6] <|
 .ite 41 (
 Q (.bin .mul) [32,I 7] <|
 Qa [42,38] <|
 Q1 [18,43] <|
 Qe [45,I 0] <|
 .ite 46 (
 Qa [38,I 1] <|
 .go 0 [47,39,40]) (
 Qq [37,38] <|
 .ite 48 (
 Qa [38,I 1] <|
 .go 0 [49,39,40]) (
 Q1 [39,32] <|
 Qe [32,2] <|
 .join (
 Qq [40,32] <|
 Qa [54,45] <|
 Qq [40,38] <|
 Ql [57,I 0] <|
 .ite 58 (
 .join (
 Qa [38,I 1] <|
 .go 0 [61,59,60]) (
 Qb [40,38] <|
 Q (.put true 1 0 1) [40,38,55] <|
 Q (.lit 1 []) [] <|
 Qi 86 [61,52] 1 <|
 Qb [39,38] <|
 Q (.put false 1 0 1) [39,38,62] <|
 .go 0 [64,60])) (
 Qq [40,38] <|
 Ql [55,60] <|
 .join (
 Qa [38,I 1] <|
 .go 0 [64,62,63]) (
 .ite 61 (
 Qb [40,38] <|
 Q (.put true 1 0 1) [40,38,55] <|
 Q (.lit 1 []) [] <|
 Qi 86 [64,52] 1 <|
 Qb [39,38] <|
 Q (.put false 1 0 1) [39,38,65] <|
 .go 0 [67,63]) (
 Qq [40,38] <|
 Qe [55,63] <|
 .join (
 .go 0 [65,40]) (
 .ite 64 (
 Q1 [39,38] <|
 Qi 86 [66,52] 1 <|
 Qb [39,38] <|
 Q (.put false 1 0 1) [39,38,67] <|
 .go 0 [69]) (
 .go 0 [39])))))) (
 .ite 51 (
 Qx [38] <|
 .go 0 [52]) (
 .go 0 [50]))))) (
 Qa [27,I 1] <|
 .go 2 [42,39,37,40])))))) (
 .loop [3,I 1] (
 Qm [33,I 6] <|
 .ite 34 (
 Qq [29,33] <|
 .join (
 Qa [33,I 1] <|
 .go 0 [37,38]) (
 .ite 36 (
 Qq [30,33] <|
 Q (.lit 1 []) [] <|
 Q1 [28,33] <|
 Qp [39,41] <|
 Q (.lit 3 [true,true,false]) [33,38,42] <|
 Qo [32,43] <|
 .go 0 [44]) (
 .go 0 [32]))) (
 .ret [32])))))))))
def F_s_WaysIn:Sem1:=Fs p_s_WaysIn [(63,F_s_StoreOk),(83,F_s_l06Node),(84,F_s_l01In),(85,F_s_l06Links),(86,F_s_l06Add)]
def p_s_l06Copy:PL :=
 Q (.lit 1 []) [] <|
 Qp [3,2] <|
 Qz [1] <|
 Qz [0] <|
 .ret [6,5,4]
def F_s_l06Copy:Sem1:=Fs p_s_l06Copy []
def p_s_WayTo:PL :=
 .loop [.k (.bool false),I 0] (
 Qn [0] <|
 Ql [3,4] <|
 .ite 5 (
 Qb [0,3] <|
 Qc 3 0 [0,3] <|
 Qe [7,1] <|
 .ite 8 (
 Q3 [0,3] <|
 Qi 128 [10,11,12] 3 <|
 Qz [.k (.bool true)] <|
 Qz [14] <|
 Qz [13] <|
 .ret [18,17,15,16]) (
 Qa [3,I 1] <|
 .go 0 [2,9])) (
 Qz [.k (.bool false)] <|
 Qz [I 0] <|
 Qz [I 0] <|
 .ret [8,7,.e,6]))
def F_s_WayTo:Sem1:=Fs p_s_WayTo [(128,F_s_l06Copy)]
def p_s_Better:PL :=
 Ql [1,4] <|
 Qz [6] <|
 .ret [7]
def F_s_Better:Sem1:=Fs p_s_Better []
def p_s_Together:PL :=
 Qi 168 [0,1,2,3,4,5] 1 <|
 .ite 6 (
 Qi 128 [0,1,2] 3 <|
 Qz [8] <|
 Qz [7] <|
 .ret [11,10,9]) (
 Qi 168 [3,4,5,0,1,2] 1 <|
 .ite 7 (
 Qi 128 [3,4,5] 3 <|
 Qz [9] <|
 Qz [8] <|
 .ret [12,11,10]) (
 Qi 86 [2,5] 1 <|
 Qz [1] <|
 Qz [0] <|
 .ret [10,9,8]))
def F_s_Together:Sem1:=Fs p_s_Together [(86,F_s_l06Add),(128,F_s_l06Copy),(168,F_s_Better)]
def p_s_RoutesWithin:PL :=
 Q (.lit 3 []) [] <|
 Q (.lit 1 []) [] <|
 .loop [4,I 0] (
 Qn [1] <|
 Ql [6,7] <|
 .ite 8 (
 Q1 [1,6] <|
 Qi 16 [0,10,2] 1 <|
 Q (.lit 1 []) [11] <|
 Q (.app false 1) [5,12] <|
 Qa [6,I 1] <|
 .go 0 [13,14]) (
 .loop [3,I 1] (
 Qm [10,I 6] <|
 .ite 11 (
 .loop [.k (.bool false),I 0,I 0,I 0,.e] (
 Qn [1] <|
 Ql [13,17] <|
 .ite 18 (
 Q1 [5,13] <|
 Qi 47 [20,10] 4 <|
 Qt [24] <|
 .ite 25 (
 Qa [13,I 1] <|
 .go 0 [12,26,14,15,16]) (
 .join (
 Qa [13,I 1] <|
 .go 0 [.k (.bool true),29,26,27,28]) (
 .ite 12 (
 Qi 97 [14,15,16,21,22,23] 3 <|
 .go 0 [26,27,28]) (
 .go 0 [21,22,23])))) (
 .join (
 Qa [10,I 1] <|
 .go 1 [19,20]) (
 .ite 12 (
 Q (.lit 3 []) [14,15,16] <|
 Qo [9,19] <|
 .go 0 [20]) (
 .go 0 [9]))))) (
 .ret [9]))))
def F_s_RoutesWithin:Sem1:=Fs p_s_RoutesWithin [(16,F_s_WaysIn),(47,F_s_WayTo),(97,F_s_Together)]
def p_s_l07Beyond:PL :=
 .loop [8,I 0,5,6,7] (
 Qn [0] <|
 Ql [10,14] <|
 .ite 15 (
 Q8 [0,10] <|
 Qu [18,I 2] <|
 .ite 25 (
 Qa [10,I 1] <|
 .go 0 [9,26,11,12,13]) (
 Qu [17,2] <|
 .ite 26 (
 Qa [10,I 1] <|
 .go 0 [9,27,11,12,13]) (
 Qu [20,4] <|
 .ite 27 (
 Qa [10,I 1] <|
 .go 0 [9,28,11,12,13]) (
 Qe [19,3] <|
 .ite 28 (
 Qa [10,I 1] <|
 .go 0 [9,29,11,12,13]) (
 Qh [23,I 60000] <|
 .ite 29 (
 Qa [10,I 1] <|
 .go 0 [9,30,11,12,13]) (
 Qi 47 [1,19] 4 <|
 Qt [33] <|
 .ite 34 (
 Qa [10,I 1] <|
 .go 0 [9,35,11,12,13]) (
 Qa [31,23] <|
 Qh [35,I 60000] <|
 .ite 36 (
 Qa [10,I 1] <|
 .go 0 [9,37,11,12,13]) (
 Qa [31,23] <|
 .join (
 Qa [10,I 1] <|
 .go 0 [.k (.bool true),41,38,39,40]) (
 .ite 9 (
 Qi 97 [11,12,13,4,37,32] 3 <|
 .go 0 [38,39,40]) (
 .go 0 [4,37,32])))))))))) (
 Qz [9] <|
 Qz [12] <|
 Qz [11] <|
 .ret [18,17,13,16]))
def F_s_l07Beyond:Sem1:=Fs p_s_l07Beyond [(47,F_s_WayTo),(97,F_s_Together)]
def p_s_RoutesBeyond:PL :=
 Q (.lit 3 []) [] <|
 Qi 24 [0,1,3] 1 <|
 Qi 63 [0] 1 <|
 Qt [6] <|
 .ite 7 (
 .ret [4]) (
 Q (.lit 1 []) [] <|
 .loop [8,I 0] (
 Qn [1] <|
 Ql [10,11] <|
 .ite 12 (
 Q1 [1,10] <|
 Qi 16 [0,14,3] 1 <|
 Q (.lit 1 []) [15] <|
 Q (.app false 1) [9,16] <|
 Qa [10,I 1] <|
 .go 0 [17,18]) (
 .loop [4,I 1] (
 Qm [14,I 6] <|
 .ite 15 (
 Qi 47 [5,14] 4 <|
 .ite 19 (
 Qa [14,I 1] <|
 .go 0 [13,20]) (
 .loop [.k (.bool false),I 0,I 0,I 0,.e] (
 Qn [1] <|
 Ql [21,25] <|
 .ite 26 (
 .ite 2 (
 Q1 [1,21] <|
 Qu [28,I 0] <|
 .ite 29 (
 Qa [21,I 1] <|
 .go 0 [20,30,22,23,24]) (
 Q1 [9,21] <|
 Q1 [1,21] <|
 Qi 99 [0,31,33,3,14,22,23,24,20] 4 <|
 Qa [21,I 1] <|
 .go 0 [37,38,34,35,36])) (
 Q1 [9,21] <|
 Q1 [1,21] <|
 Qi 99 [0,28,30,3,14,22,23,24,20] 4 <|
 Qa [21,I 1] <|
 .go 0 [34,35,31,32,33])) (
 .join (
 Qa [14,I 1] <|
 .go 1 [27,28]) (
 .ite 20 (
 Q (.lit 3 []) [22,23,24] <|
 Qo [13,27] <|
 .go 0 [28]) (
 .go 0 [13])))))) (
 .ret [13])))))
def F_s_RoutesBeyond:Sem1:=Fs p_s_RoutesBeyond [(16,F_s_WaysIn),(24,F_s_RoutesWithin),(47,F_s_WayTo),(63,F_s_StoreOk),(99,F_s_l07Beyond)]
def p_s_Beyond:PL :=
 Q (.lit 8 []) [] <|
 Qi 63 [0] 1 <|
 Qt [5] <|
 .ite 6 (
 .ret [4]) (
 Q (.lit 1 []) [] <|
 .loop [7,I 0] (
 Qn [1] <|
 Ql [9,10] <|
 .ite 11 (
 Q1 [1,9] <|
 Qu [13,3] <|
 .join (
 Qa [9,I 1] <|
 .go 0 [15,16]) (
 .ite 14 (
 Q1 [1,9] <|
 Qx [16] <|
 Qp [8,17] <|
 .go 0 [18]) (
 .go 0 [8]))) (
 Qi 16 [0,3,2] 1 <|
 Qi 24 [0,8,2] 1 <|
 Qi 29 [0,1,.k (.bool true),2] 1 <|
 .loop [4,I 1] (
 Qm [16,I 6] <|
 .ite 17 (
 Qi 47 [12,16] 4 <|
 .ite 21 (
 Qa [16,I 1] <|
 .go 0 [15,22]) (
 Qe [16,2] <|
 .ite 22 (
 Qa [16,I 1] <|
 .go 0 [15,23]) (
 Qi 47 [13,16] 4 <|
 Qt [26] <|
 .ite 27 (
 Qu [3,I 0] <|
 .join (
 .join (
 Qa [16,I 1] <|
 .go 0 [33,34]) (
 .ite 32 (
 Q (.lit 8 [true,true,true,true,true,false,true,true]) [3,I 2,2,16,I 0,.e,30,.k (.bool false)] <|
 Qy [15,33] <|
 .go 0 [34]) (
 .go 0 [15]))) (
 .ite 28 (
 Qi 47 [14,16] 4 <|
 .go 0 [29,30,31,32]) (
 .go 0 [23,24,25,26]))) (
 .join (
 .join (
 Qa [16,I 1] <|
 .go 0 [32,33]) (
 .ite 31 (
 Q (.lit 8 [true,true,true,true,true,false,true,true]) [3,I 2,2,16,I 0,.e,29,.k (.bool false)] <|
 Qy [15,32] <|
 .go 0 [33]) (
 .go 0 [15]))) (
 .go 0 [23,24,25,26]))))) (
 .ret [15])))))
def F_s_Beyond:Sem1:=Fs p_s_Beyond [(16,F_s_WaysIn),(24,F_s_RoutesWithin),(29,F_s_RoutesBeyond),(47,F_s_WayTo),(63,F_s_StoreOk)]
def p_s_l08With:PL :=
 .loop [0,I 0] (
 Qn [1] <|
 Ql [3,4] <|
 .ite 5 (
 Q8 [1,3] <|
 Qe [11,I 0] <|
 .join (
 Qi 104 [2,7,8,9,10,16,12,13,14] 1 <|
 Qa [3,I 1] <|
 .go 0 [17,18]) (
 .ite 15 (
 .go 0 [I 1]) (
 .go 0 [11]))) (
 .ret [2]))
def F_s_l08With:Sem1:=Fs p_s_l08With [(104,F_s_l05Put)]
def p_s_l13Beyond:PL :=
 Q (.lit 8 []) [] <|
 .loop [3,I 0] (
 Qn [1] <|
 Ql [5,6] <|
 .ite 7 (
 Q1 [1,5] <|
 Qi 172 [0,1,2,9] 1 <|
 Qy [4,10] <|
 Qa [5,I 1] <|
 .go 0 [11,12]) (
 Q (.lit 8 []) [] <|
 .loop [8,I 0] (
 Qn [0] <|
 Ql [10,11] <|
 .ite 12 (
 Qb [0,10] <|
 Qc 8 1 [0,10] <|
 Qu [14,I 2] <|
 .ite 15 (
 .join (
 Qa [10,I 1] <|
 .go 0 [16,17]) (
 Q8 [0,10] <|
 Q (.lit 8 []) [17,18,19,20,21,22,23,24] <|
 Qy [9,25] <|
 .go 0 [26])) (
 Qb [0,10] <|
 Qc 8 2 [0,10] <|
 Qu [17,2] <|
 .join (
 Qa [10,I 1] <|
 .go 0 [19,20]) (
 .ite 18 (
 Q8 [0,10] <|
 Q (.lit 8 []) [20,21,22,23,24,25,26,27] <|
 Qy [9,28] <|
 .go 0 [29]) (
 .go 0 [9])))) (
 Qi 173 [9,4] 1 <|
 .ret [13]))))
def F_s_l13Beyond:Sem1:=Fs p_s_l13Beyond [(172,F_s_Beyond),(173,F_s_l08With)]
def p_s_l04Copy:PL :=
 Q (.lit 2 []) [] <|
 Q (.app true 2) [8,5] <|
 Qz [7] <|
 Qz [6] <|
 Qz [4] <|
 Qz [3] <|
 Qz [2] <|
 Qz [1] <|
 Qz [0] <|
 .ret [16,15,14,13,12,9,11,10]
def F_s_l04Copy:Sem1:=Fs p_s_l04Copy []
def p_s_l04CopyList:PL :=
 Q (.lit 8 []) [] <|
 .loop [1,I 0] (
 Qn [0] <|
 Ql [3,4] <|
 .ite 5 (
 Q8 [0,3] <|
 Qi 124 [7,8,9,10,11,12,13,14] 8 <|
 Q (.lit 8 [true,true,true,true,true,false,true,true]) [15,16,17,18,19,20,21,22] <|
 Qy [2,23] <|
 Qa [3,I 1] <|
 .go 0 [24,25]) (
 .ret [2]))
def F_s_l04CopyList:Sem1:=Fs p_s_l04CopyList [(124,F_s_l04Copy)]
def p_s_Ideal:PL :=
 Q (.lit 8 []) [] <|
 Qi 102 [0,1,2] 1 <|
 Qt [6] <|
 .ite 7 (
 Qz [.k (.bool false)] <|
 .ret [5,8]) (
 Qn [3] <|
 Qn [1] <|
 Qu [8,9] <|
 .ite 10 (
 Qz [.k (.bool false)] <|
 .ret [5,11]) (
 Qn [4] <|
 Qu [11,0] <|
 .ite 12 (
 Qz [.k (.bool false)] <|
 .ret [5,13]) (
 .loop [5,I 1] (
 Qm [14,0] <|
 .ite 15 (
 Qi 53 [0,1,2,14] 1 <|
 .loop [13,I 0] (
 Qn [16] <|
 Ql [18,19] <|
 .ite 20 (
 Qs [14,I 1] <|
 Q1 [4,21] <|
 .ite 23 (
 Q1 [16,18] <|
 .loop [I 1,.e] (
 Qm [26,0] <|
 .ite 28 (
 Q1 [16,18] <|
 Qi 103 [0,1,2,3,14,26,30] 1 <|
 Qg [31,I 0] <|
 .ite 32 (
 Qs [26,I 1] <|
 Q1 [4,33] <|
 .join (
 Qa [26,I 1] <|
 .go 0 [37,36]) (
 .ite 35 (
 Q (.lit 2 [true,true]) [26,31] <|
 Q (.app true 2) [27,36] <|
 .go 0 [37]) (
 .go 0 [27]))) (
 .join (
 Qa [26,I 1] <|
 .go 0 [34,33]) (
 .go 0 [27]))) (
 Qi 104 [17,25,I 1,14,I 0,I 1,27,I 0,.k (.bool false)] 1 <|
 Qa [18,I 1] <|
 .go 1 [29,30]))) (
 Qa [14,I 1] <|
 .go 1 [17,24])) (
 Qa [14,I 1] <|
 .go 1 [17,21]))) (
 .loop [13,I 0] (
 Qn [2] <|
 Ql [17,18] <|
 .ite 19 (
 Q4 [2,17] <|
 Qs [21,I 1] <|
 Q1 [4,25] <|
 .join (
 Qa [17,I 1] <|
 .go 0 [28,29]) (
 .ite 27 (
 Qi 104 [16,I 9,I 3,21,22,I 1,.e,23,24] 1 <|
 .go 0 [28]) (
 .go 0 [16]))) (
 .loop [16,I 0] (
 Ql [21,I 3] <|
 .ite 22 (
 .loop [20,I 1] (
 Qm [24,0] <|
 .ite 25 (
 Qs [24,I 1] <|
 Q1 [4,26] <|
 .ite 28 (
 Qi 54 [0,1,2,24] 1 <|
 .join (
 Qa [24,I 1] <|
 .go 0 [30,31]) (
 .ite 29 (
 Qi 53 [0,1,2,24] 1 <|
 Qi 105 [23,30,24] 1 <|
 .go 0 [31]) (
 .go 0 [23]))) (
 .join (
 Qa [24,I 1] <|
 .go 0 [29,30]) (
 .go 0 [23]))) (
 Qa [21,I 1] <|
 .go 1 [23,26]))) (
 Qi 106 [20] 1 <|
 Qz [.k (.bool true)] <|
 .ret [23,24])))))))))
def F_s_Ideal:Sem1:=Fs p_s_Ideal [(53,F_s_AreasOf),(54,F_s_Border),(102,F_s_NetOk),(103,F_s_l13Open),(104,F_s_l05Put),(105,F_s_l13Beyond),(106,F_s_l04CopyList)]
def p_i_in:PL :=
 Qh [0,1] <|
 .ite 3 (
 Qm [0,2] <|
 Qz [4] <|
 .ret [5]) (
 Qz [.k (.bool false)] <|
 .ret [4])
def F_i_in:Sem1:=Fs p_i_in []
def p_i_nearOk:PL :=
 Qn [5] <|
 .loop [.k (.bool false),I 0] (
 Ql [10,8] <|
 .ite 11 (
 Q2 [5,10] <|
 Qi 89 [13,I 1,I 6] 1 <|
 Qt [15] <|
 .ite 16 (
 Qz [.k (.bool false)] <|
 .ret [17]) (
 Qe [13,2] <|
 .ite 17 (
 Qz [.k (.bool false)] <|
 .ret [18]) (
 Qi 89 [14,I 1,I 1000] 1 <|
 Qt [18] <|
 .ite 19 (
 Qz [.k (.bool false)] <|
 .ret [20]) (
 Qg [10,I 0] <|
 .ite 20 (
 Qs [10,I 1] <|
 Qb [5,21] <|
 Qc 2 0 [5,21] <|
 Qh [23,13] <|
 .ite 24 (
 Qz [.k (.bool false)] <|
 .ret [25]) (
 Qa [10,I 1] <|
 .go 0 [9,25])) (
 Qa [10,I 1] <|
 .go 0 [9,21]))))) (
 Qz [.k (.bool true)] <|
 .ret [12]))
def F_i_nearOk:Sem1:=Fs p_i_nearOk [(89,F_i_in)]
def p_i_RecordOk:PL :=
 Qi 89 [2,I 1,I 6] 1 <|
 Qt [8] <|
 .ite 9 (
 Qz [.k (.bool false)] <|
 .ret [10]) (
 Qi 89 [4,I 1,I 100000] 1 <|
 Qt [10] <|
 .ite 11 (
 Qz [.k (.bool false)] <|
 .ret [12]) (
 Qe [1,I 1] <|
 .ite 12 (
 Qi 89 [0,I 0,I 2] 1 <|
 .ite 13 (
 Qe [3,I 0] <|
 .ite 14 (
 Qi 197 [0,1,2,3,4,5,6,7] 1 <|
 .ite 15 (
 Qe [6,I 0] <|
 .ite 16 (
 Qt [7] <|
 Qz [17] <|
 .ret [18]) (
 Qz [.k (.bool false)] <|
 .ret [17])) (
 Qz [.k (.bool false)] <|
 .ret [16])) (
 Qz [.k (.bool false)] <|
 .ret [15])) (
 Qz [.k (.bool false)] <|
 .ret [14])) (
 Qe [1,I 2] <|
 .ite 13 (
 Qi 89 [0,I 0,I 2] 1 <|
 .ite 14 (
 Qi 89 [3,I 1,I 6] 1 <|
 .ite 15 (
 Qn [5] <|
 Qe [16,I 0] <|
 .ite 17 (
 Qi 89 [6,I 0,I 60000] 1 <|
 .ite 18 (
 Qt [7] <|
 Qz [19] <|
 .ret [20]) (
 Qz [.k (.bool false)] <|
 .ret [19])) (
 Qz [.k (.bool false)] <|
 .ret [18])) (
 Qz [.k (.bool false)] <|
 .ret [16])) (
 Qz [.k (.bool false)] <|
 .ret [15])) (
 Qe [1,I 3] <|
 .ite 14 (
 Qe [0,I 9] <|
 .ite 15 (
 Qi 89 [3,I 1,I 9] 1 <|
 .ite 16 (
 Qn [5] <|
 Qe [17,I 0] <|
 .ite 18 (
 Qi 89 [6,I 1,I 1000] 1 <|
 .ite 19 (
 Qz [.k (.bool true)] <|
 .ret [20]) (
 Qe [6,I 60000] <|
 Qz [20] <|
 .ret [21])) (
 Qz [.k (.bool false)] <|
 .ret [19])) (
 Qz [.k (.bool false)] <|
 .ret [17])) (
 Qz [.k (.bool false)] <|
 .ret [16])) (
 Qz [.k (.bool false)] <|
 .ret [15])))))
def F_i_RecordOk:Sem1:=Fs p_i_RecordOk [(89,F_i_in),(197,F_i_nearOk)]
def p_i_Before:PL :=
 Qu [0,8] <|
 .ite 16 (
 Ql [0,8] <|
 Qz [17] <|
 .ret [18]) (
 Qu [1,9] <|
 .ite 17 (
 Ql [1,9] <|
 Qz [18] <|
 .ret [19]) (
 Qu [2,10] <|
 .ite 18 (
 Ql [2,10] <|
 Qz [19] <|
 .ret [20]) (
 Ql [3,11] <|
 Qz [19] <|
 .ret [20])))
def F_i_Before:Sem1:=Fs p_i_Before []
def p_i_StoreOk:PL :=
 Qn [0] <|
 .loop [.k (.bool false),I 0] (
 Ql [3,1] <|
 .ite 4 (
 Q8 [0,3] <|
 Qi 164 [6,7,8,9,10,11,12,13] 1 <|
 Qt [14] <|
 .ite 15 (
 Qz [.k (.bool false)] <|
 .ret [16]) (
 Qg [3,I 0] <|
 .ite 16 (
 Qs [3,I 1] <|
 Q8 [0,17] <|
 Qi 165 [19,20,21,22,23,24,25,26,6,7,8,9,10,11,12,13] 1 <|
 Qt [27] <|
 .ite 28 (
 Qz [.k (.bool false)] <|
 .ret [29]) (
 Qa [3,I 1] <|
 .go 0 [2,29])) (
 Qa [3,I 1] <|
 .go 0 [2,17]))) (
 Qn [0] <|
 Qm [5,I 150] <|
 Qz [6] <|
 .ret [7]))
def F_i_StoreOk:Sem1:=Fs p_i_StoreOk [(164,F_i_RecordOk),(165,F_i_Before)]
def p_i_SameKey:PL :=
 Qe [0,8] <|
 .ite 16 (
 Qe [1,9] <|
 .ite 17 (
 Qe [2,10] <|
 .ite 18 (
 Qe [3,11] <|
 Qz [19] <|
 .ret [20]) (
 Qz [.k (.bool false)] <|
 .ret [19])) (
 Qz [.k (.bool false)] <|
 .ret [18])) (
 Qz [.k (.bool false)] <|
 .ret [17])
def F_i_SameKey:Sem1:=Fs p_i_SameKey []
def p_i_keyAt:PL :=
 Qn [0] <|
 .loop [I 0,I 0] (
 Ql [11,9] <|
 .ite 12 (
 Q8 [0,11] <|
 Qi 166 [14,15,16,17,18,19,20,21,1,2,3,4,5,6,7,8] 1 <|
 .ite 22 (
 Qz [11] <|
 .ret [23]) (
 Qa [11,I 1] <|
 .go 0 [10,23])) (
 Qz [.k (.int .i64 (-1))] <|
 .ret [13]))
def F_i_keyAt:Sem1:=Fs p_i_keyAt [(166,F_i_SameKey)]
def p_i_copyInts:PL :=
 Qp [.e,0] <|
 .ret [1]
def F_i_copyInts:Sem1:=Fs p_i_copyInts []
def p_i_copyRecord:PL :=
 Q (.app true 2) [.e,5] <|
 Qz [7] <|
 Qz [6] <|
 Qz [4] <|
 Qz [3] <|
 Qz [2] <|
 Qz [1] <|
 Qz [0] <|
 .ret [15,14,13,12,11,8,10,9]
def F_i_copyRecord:Sem1:=Fs p_i_copyRecord []
def p_i_copyRecords:PL :=
 Qn [0] <|
 .loop [.e,I 0] (
 Ql [3,1] <|
 .ite 4 (
 Q8 [0,3] <|
 Qi 180 [6,7,8,9,10,11,12,13] 8 <|
 Q (.lit 8 [true,true,true,true,true,false,true,true]) [14,15,16,17,18,19,20,21] <|
 Qy [2,22] <|
 Qa [3,I 1] <|
 .go 0 [23,24]) (
 .ret [2]))
def F_i_copyRecords:Sem1:=Fs p_i_copyRecords [(180,F_i_copyRecord)]
def p_i_put:PL :=
 .loop [I 0] (
 Qn [0] <|
 Ql [9,10] <|
 .ite 11 (
 Q8 [0,9] <|
 Qi 165 [13,14,15,16,17,18,19,20,1,2,3,4,5,6,7,8] 1 <|
 .ite 21 (
 Qa [9,I 1] <|
 .go 0 [22]) (
 Q (.sub 8 false true) [0,9] <|
 Qi 179 [22] 1 <|
 Qi 180 [1,2,3,4,5,6,7,8] 8 <|
 Q (.lit 8 [true,true,true,true,true,false,true,true]) [24,25,26,27,28,29,30,31] <|
 Qy [23,32] <|
 Qn [0] <|
 Ql [9,34] <|
 .ite 35 (
 Q8 [0,9] <|
 Qi 166 [37,38,39,40,41,42,43,44,1,2,3,4,5,6,7,8] 1 <|
 .join (
 Q (.sub 8 true false) [0,46] <|
 Qi 179 [47] 1 <|
 Qy [33,48] <|
 .ret [49]) (
 .ite 45 (
 Qa [9,I 1] <|
 .go 0 [46]) (
 .go 0 [9]))) (
 .join (
 Q (.sub 8 true false) [0,36] <|
 Qi 179 [37] 1 <|
 Qy [33,38] <|
 .ret [39]) (
 .go 0 [9])))) (
 Q (.sub 8 false true) [0,9] <|
 Qi 179 [12] 1 <|
 Qi 180 [1,2,3,4,5,6,7,8] 8 <|
 Q (.lit 8 [true,true,true,true,true,false,true,true]) [14,15,16,17,18,19,20,21] <|
 Qy [13,22] <|
 Qn [0] <|
 Ql [9,24] <|
 .ite 25 (
 Q8 [0,9] <|
 Qi 166 [27,28,29,30,31,32,33,34,1,2,3,4,5,6,7,8] 1 <|
 .join (
 Q (.sub 8 true false) [0,36] <|
 Qi 179 [37] 1 <|
 Qy [23,38] <|
 .ret [39]) (
 .ite 35 (
 Qa [9,I 1] <|
 .go 0 [36]) (
 .go 0 [9]))) (
 .join (
 Q (.sub 8 true false) [0,26] <|
 Qi 179 [27] 1 <|
 Qy [23,28] <|
 .ret [29]) (
 .go 0 [9]))))
def F_i_put:Sem1:=Fs p_i_put [(165,F_i_Before),(166,F_i_SameKey),(179,F_i_copyRecords),(180,F_i_copyRecord)]
def p_i_LinkOk:PL :=
 Qi 89 [0,I 1,I 6] 1 <|
 .ite 5 (
 Qi 89 [1,I 1,0] 1 <|
 .ite 6 (
 Qi 89 [2,I 1,0] 1 <|
 .ite 7 (
 Ql [1,2] <|
 .ite 8 (
 Qi 89 [3,I 1,I 1000] 1 <|
 .ite 9 (
 Qi 89 [4,I 0,I 2] 1 <|
 Qz [10] <|
 .ret [11]) (
 Qz [.k (.bool false)] <|
 .ret [10])) (
 Qz [.k (.bool false)] <|
 .ret [9])) (
 Qz [.k (.bool false)] <|
 .ret [8])) (
 Qz [.k (.bool false)] <|
 .ret [7])) (
 Qz [.k (.bool false)] <|
 .ret [6])
def F_i_LinkOk:Sem1:=Fs p_i_LinkOk [(89,F_i_in)]
def p_i_ahead:PL :=
 Qu [0,4] <|
 .ite 8 (
 Ql [0,4] <|
 Qz [9] <|
 .ret [10]) (
 Qu [1,5] <|
 .ite 9 (
 Ql [1,5] <|
 Qz [10] <|
 .ret [11]) (
 Ql [3,7] <|
 Qz [10] <|
 .ret [11]))
def F_i_ahead:Sem1:=Fs p_i_ahead []
def p_i_less:PL :=
 Ql [1,5] <|
 .ite 8 (
 Qz [.k (.bool true)] <|
 .ret [9]) (
 Qe [1,5] <|
 .ite 9 (
 Ql [0,4] <|
 Qz [10] <|
 .ret [11]) (
 Qz [.k (.bool false)] <|
 .ret [10]))
def F_i_less:Sem1:=Fs p_i_less []
def p_i_NetOk:PL :=
 Qi 89 [0,I 1,I 6] 1 <|
 Qt [3] <|
 .ite 4 (
 Qz [.k (.bool false)] <|
 .ret [5]) (
 Qn [1] <|
 Qg [5,I 12] <|
 .ite 6 (
 Qz [.k (.bool false)] <|
 .ret [7]) (
 Qn [2] <|
 Qg [7,I 4] <|
 .ite 8 (
 Qz [.k (.bool false)] <|
 .ret [9]) (
 Qn [1] <|
 .loop [.k (.bool false),I 0] (
 Ql [11,9] <|
 .ite 12 (
 Q4 [1,11] <|
 Qi 176 [0,14,15,16,17] 1 <|
 Qt [18] <|
 .ite 19 (
 Qz [.k (.bool false)] <|
 .ret [20]) (
 Qg [11,I 0] <|
 .ite 20 (
 Qs [11,I 1] <|
 Q4 [1,21] <|
 Qi 177 [23,24,25,26,14,15,16,17] 1 <|
 Qt [27] <|
 .ite 28 (
 Qz [.k (.bool false)] <|
 .ret [29]) (
 Qa [11,I 1] <|
 .go 0 [10,29])) (
 Qa [11,I 1] <|
 .go 0 [10,21]))) (
 Qn [2] <|
 .loop [10,I 0] (
 Ql [15,13] <|
 .ite 16 (
 Q4 [2,15] <|
 Qi 89 [19,I 1,I 9] 1 <|
 Qt [22] <|
 .ite 23 (
 Qz [.k (.bool false)] <|
 .ret [24]) (
 Qi 89 [18,I 1,0] 1 <|
 Qt [24] <|
 .ite 25 (
 Qz [.k (.bool false)] <|
 .ret [26]) (
 Qi 89 [20,I 1,I 1000] 1 <|
 Qt [26] <|
 .ite 27 (
 Qz [.k (.bool false)] <|
 .ret [28]) (
 Qg [15,I 0] <|
 .ite 28 (
 Qs [15,I 1] <|
 Q4 [2,29] <|
 Qi 178 [31,32,33,34,18,19,20,21] 1 <|
 Qt [35] <|
 .ite 36 (
 Qz [.k (.bool false)] <|
 .ret [37]) (
 Qa [15,I 1] <|
 .go 0 [14,37])) (
 Qa [15,I 1] <|
 .go 0 [14,29]))))) (
 Qz [.k (.bool true)] <|
 .ret [17])))))))
def F_i_NetOk:Sem1:=Fs p_i_NetOk [(89,F_i_in),(176,F_i_LinkOk),(177,F_i_ahead),(178,F_i_less)]
def p_i_linkAt:PL :=
 Qn [1] <|
 .loop [I 0,I 0] (
 Ql [8,6] <|
 .ite 9 (
 Q4 [1,8] <|
 Qe [14,5] <|
 .ite 15 (
 Qe [11,3] <|
 .ite 16 (
 Qe [12,4] <|
 .ite 17 (
 Qz [8] <|
 .ret [18]) (
 Qe [11,4] <|
 .ite 18 (
 Qe [12,3] <|
 .ite 19 (
 Qz [8] <|
 .ret [20]) (
 Qa [8,I 1] <|
 .go 0 [7,20])) (
 Qa [8,I 1] <|
 .go 0 [7,19]))) (
 Qe [11,4] <|
 .ite 17 (
 Qe [12,3] <|
 .ite 18 (
 Qz [8] <|
 .ret [19]) (
 Qa [8,I 1] <|
 .go 0 [7,19])) (
 Qa [8,I 1] <|
 .go 0 [7,18]))) (
 Qa [8,I 1] <|
 .go 0 [7,16])) (
 Qz [.k (.int .i64 (-1))] <|
 .ret [10]))
def F_i_linkAt:Sem1:=Fs p_i_linkAt []
def p_same:PL :=
 .ins (.pr (.bin .neq) [.a 0,.a 8]) <|
 .ite 16 (
  .ins (.pr (.scl) [.k (.bool false)]) <|
  .ret [.a 17]) (
  .ins (.pr (.bin .neq) [.a 1,.a 9]) <|
  .ite 17 (
  .ins (.pr (.scl) [.k (.bool false)]) <|
  .ret [.a 18]) (
  .ins (.pr (.bin .neq) [.a 2,.a 10]) <|
  .ite 18 (
   .ins (.pr (.scl) [.k (.bool false)]) <|
   .ret [.a 19]) (
   .ins (.pr (.bin .neq) [.a 3,.a 11]) <|
   .ite 19 (
   .ins (.pr (.scl) [.k (.bool false)]) <|
   .ret [.a 20]) (
   .ins (.pr (.bin .neq) [.a 4,.a 12]) <|
   .ite 20 (
    .ins (.pr (.scl) [.k (.bool false)]) <|
    .ret [.a 21]) (
    .ins (.pr (.bin .neq) [.a 6,.a 14]) <|
    .ite 21 (
    .ins (.pr (.scl) [.k (.bool false)]) <|
    .ret [.a 22]) (
    .ins (.pr (.bb .neq) [.a 7,.a 15]) <|
    .ite 22 (
     .ins (.pr (.scl) [.k (.bool false)]) <|
     .ret [.a 23]) (
     .ins (.pr (.len) [.a 5]) <|
     .ins (.pr (.len) [.a 13]) <|
     .ins (.pr (.bin .neq) [.a 23,.a 24]) <|
     .ite 25 (
     .ins (.pr (.scl) [.k (.bool false)]) <|
     .ret [.a 26]) (
     .loop [.k (.bool false),.k (.int .i64 0)] (
      .ins (.pr (.len) [.a 5]) <|
      .ins (.pr (.bin .lss) [.a 27,.a 28]) <|
      .ite 29 (
      .ins (.pr (.bnd) [.a 5,.a 27]) <|
      .ins (.pr (.cell 2 0) [.a 5,.a 27]) <|
      .ins (.pr (.cell 2 1) [.a 5,.a 27]) <|
      .ins (.pr (.bnd) [.a 13,.a 27]) <|
      .ins (.pr (.cell 2 0) [.a 13,.a 27]) <|
      .ins (.pr (.cell 2 1) [.a 13,.a 27]) <|
      .ins (.pr (.eqs [1,1]) [.a 31,.a 32,.a 34,.a 35]) <|
      .ins (.pr (.un .not) [.a 36]) <|
      .ite 37 (
       .ins (.pr (.scl) [.k (.bool false)]) <|
       .ret [.a 38]) (
       .ins (.pr (.bin .add) [.a 27,.k (.int .i64 1)]) <|
       .go 0 [.a 26,.a 38])) (
      .ins (.pr (.scl) [.k (.bool true)]) <|
      .ret [.a 30]))))))))))
def S_same:Nat→Sem1:=pick []
def F_same:Sem1:=fun ts=>p_same.den S_same rounds [] ts
def p_sameStore:PL :=
 .ins (.pr (.len) [.a 0]) <|
 .ins (.pr (.len) [.a 1]) <|
 .ins (.pr (.bin .neq) [.a 2,.a 3]) <|
 .ite 4 (
  .ins (.pr (.scl) [.k (.bool false)]) <|
  .ret [.a 5]) (
  .loop [.k (.bool false),.k (.int .i64 0)] (
  .ins (.pr (.len) [.a 0]) <|
  .ins (.pr (.bin .lss) [.a 6,.a 7]) <|
  .ite 8 (
   .ins (.pr (.bnd) [.a 0,.a 6]) <|
   .ins (.pr (.cell 8 0) [.a 0,.a 6]) <|
   .ins (.pr (.cell 8 1) [.a 0,.a 6]) <|
   .ins (.pr (.cell 8 2) [.a 0,.a 6]) <|
   .ins (.pr (.cell 8 3) [.a 0,.a 6]) <|
   .ins (.pr (.cell 8 4) [.a 0,.a 6]) <|
   .ins (.pr (.cell 8 5) [.a 0,.a 6]) <|
   .ins (.pr (.cell 8 6) [.a 0,.a 6]) <|
   .ins (.pr (.cell 8 7) [.a 0,.a 6]) <|
   .ins (.pr (.bnd) [.a 1,.a 6]) <|
   .ins (.pr (.cell 8 0) [.a 1,.a 6]) <|
   .ins (.pr (.cell 8 1) [.a 1,.a 6]) <|
   .ins (.pr (.cell 8 2) [.a 1,.a 6]) <|
   .ins (.pr (.cell 8 3) [.a 1,.a 6]) <|
   .ins (.pr (.cell 8 4) [.a 1,.a 6]) <|
   .ins (.pr (.cell 8 5) [.a 1,.a 6]) <|
   .ins (.pr (.cell 8 6) [.a 1,.a 6]) <|
   .ins (.pr (.cell 8 7) [.a 1,.a 6]) <|
   .ins (.cl 137 [.a 10,.a 11,.a 12,.a 13,.a 14,.a 15,.a 16,.a 17,.a 19,.a 20,.a 21,.a 22,.a 23,.a 24,.a 25,.a 26] 1) <|
   .ins (.pr (.un .not) [.a 27]) <|
   .ite 28 (
   .ins (.pr (.scl) [.k (.bool false)]) <|
   .ret [.a 29]) (
   .ins (.pr (.bin .add) [.a 6,.k (.int .i64 1)]) <|
   .go 0 [.a 5,.a 29])) (
   .ins (.pr (.scl) [.k (.bool true)]) <|
   .ret [.a 9])))
def S_sameStore:Nat→Sem1:=pick [(137,F_same)]
def F_sameStore:Sem1:=fun ts=>p_sameStore.den S_sameStore rounds [] ts
def p_s_l04Record:PL :=
 Qi 144 [0,1,2,I 3] 4 <|
 Qa [I 1,3] <|
 Qi 144 [4,5,6,I 4] 4 <|
 Qa [I 1,8] <|
 Qi 144 [9,10,11,I 3] 4 <|
 Qi 144 [14,15,16,I 5] 4 <|
 Qa [I 1,17] <|
 Qe [7,I 1] <|
 .join (
 Qz [30] <|
 Qz [29] <|
 Qz [21] <|
 Qz [27] <|
 Qz [12] <|
 Qz [7] <|
 Qz [26] <|
 .ret [37,36,35,34,33,28,32,31,23,24,25]) (
 .ite 22 (
 .loop [I 1,18,19,20,.e] (
 Qm [23,I 6] <|
 .ite 28 (
 Qu [23,12] <|
 .ite 29 (
 Qi 122 [24,25,26,I 3] 4 <|
 .join (
 Qa [23,I 1] <|
 .go 0 [38,34,35,36,37]) (
 .ite 30 (
 Qi 144 [31,32,33,I 4] 4 <|
 Qa [I 1,34] <|
 Q (.lit 2 [true,true]) [23,38] <|
 Q (.app true 2) [27,39] <|
 .go 0 [35,36,37,40]) (
 .go 0 [31,32,33,27]))) (
 .join (
 Qa [23,I 1] <|
 .go 0 [34,30,31,32,33]) (
 .go 0 [24,25,26,27]))) (
 .go 1 [24,25,26,13,I 0,27,I 0,.k (.bool false)]))) (
 Qe [7,I 2] <|
 .join (
 .go 0 [24,25,26,27,28,.e,29,30]) (
 .ite 23 (
 Qi 144 [18,19,20,I 5] 4 <|
 Qa [I 1,24] <|
 Q (.lit 1 [true,true,true,true,true]) [I 0,I 1,I 2,I 5,I 60000] <|
 Qi 130 [25,26,27,29] 4 <|
 .go 0 [31,32,33,13,28,30,.k (.bool false)]) (
 Qe [7,I 3] <|
 .join (
 .go 0 [25,26,27,28,29,30,31]) (
 .ite 24 (
 Qi 144 [18,19,20,I 3] 4 <|
 Qa [I 1,25] <|
 Q (.lit 1 [true,true,true,true]) [I 1,I 2,I 5,I 60000] <|
 Qi 130 [26,27,28,30] 4 <|
 Qi 122 [32,33,34,I 2] 4 <|
 .go 0 [36,37,38,I 9,29,31,35]) (
 .go 0 [18,19,20,13,I 0,I 0,.k (.bool false)]))))))
def F_s_l04Record:Sem1:=Fs p_s_l04Record [(122,F_s_l01Once),(130,F_s_l01PickInt),(144,F_s_l01Below)]
def p_s_l05Install:PL :=
 Qi 123 [0,1,2,3,4,5,6,7,8] 1 <|
 Qi 139 [1,2,3,4,5,6,7,8] 1 <|
 Qt [10] <|
 .ite 11 (
 Qz [.k (.bool false)] <|
 .ret [0,12]) (
 Qh [9,I 0] <|
 .ite 12 (
 Qb [0,9] <|
 Qc 8 4 [0,9] <|
 Qh [14,5] <|
 .ite 15 (
 Qz [.k (.bool false)] <|
 .ret [0,16]) (
 Ql [9,I 0] <|
 .ite 16 (
 Qn [0] <|
 Qh [17,I 150] <|
 .ite 18 (
 Qz [.k (.bool false)] <|
 .ret [0,19]) (
 Qi 104 [0,1,2,3,4,5,6,7,8] 1 <|
 Qz [.k (.bool true)] <|
 .ret [19,20])) (
 Qi 104 [0,1,2,3,4,5,6,7,8] 1 <|
 Qz [.k (.bool true)] <|
 .ret [17,18]))) (
 Ql [9,I 0] <|
 .ite 13 (
 Qn [0] <|
 Qh [14,I 150] <|
 .ite 15 (
 Qz [.k (.bool false)] <|
 .ret [0,16]) (
 Qi 104 [0,1,2,3,4,5,6,7,8] 1 <|
 Qz [.k (.bool true)] <|
 .ret [16,17])) (
 Qi 104 [0,1,2,3,4,5,6,7,8] 1 <|
 Qz [.k (.bool true)] <|
 .ret [14,15])))
def F_s_l05Install:Sem1:=Fs p_s_l05Install [(104,F_s_l05Put),(123,F_s_l05At),(139,F_s_RecordOk)]
def p_s_l05Store:PL :=
 Q (.lit 8 []) [] <|
 .loop [3,I 0,0,1,2] (
 Qi 144 [6,7,8,I 12] 4 <|
 Ql [5,9] <|
 .ite 13 (
 Qi 153 [10,11,12] 11 <|
 Qi 158 [4,14,15,16,17,18,19,20,21] 2 <|
 Qa [5,I 1] <|
 .go 0 [25,27,22,23,24]) (
 .ret [4,10,11,12]))
def F_s_l05Store:Sem1:=Fs p_s_l05Store [(144,F_s_l01Below),(153,F_s_l04Record),(158,F_s_l05Install)]
def p_s_l08Self:PL :=
 Qi 121 [0,1,2] 6 <|
 Qi 144 [6,7,8,I 2] 4 <|
 Qi 144 [10,11,12,3] 4 <|
 Qa [I 1,13] <|
 .loop [I 1,14,15,16,.e] (
 Qm [18,3] <|
 .ite 23 (
 .loop [I 0,19,20,21,22] (
 Qm [24,I 2] <|
 .ite 29 (
 Qi 187 [3,4,5,17,18,24] 1 <|
 Qg [30,I 0] <|
 .ite 31 (
 Qi 122 [25,26,27,I 4] 4 <|
 Qt [32] <|
 .join (
 Qa [24,I 1] <|
 .go 0 [38,33,34,35,37]) (
 .ite 36 (
 Q (.lit 1 [true,true]) [18,24] <|
 Qp [28,37] <|
 .go 0 [38]) (
 .go 0 [28]))) (
 .join (
 Qa [24,I 1] <|
 .go 0 [33,25,26,27,32]) (
 .go 0 [28]))) (
 Qa [18,I 1] <|
 .go 1 [30,25,26,27,28]))) (
 Qn [4] <|
 Q (.mk) [24,24,.k (.bool false)] <|
 Q (.mk) [3,3,.k (.bool false)] <|
 .loop [I 0,19,20,21,25] (
 Qn [31] <|
 Ql [27,32] <|
 .ite 33 (
 Qi 122 [28,29,30,I 6] 4 <|
 Qt [34] <|
 Qb [31,27] <|
 Q (.put true 1 0 1) [31,27,38] <|
 Qa [27,I 1] <|
 .go 0 [41,35,36,37,40]) (
 .loop [I 0,28,29,30,26] (
 Qn [38] <|
 Ql [34,39] <|
 .ite 40 (
 Qi 122 [35,36,37,I 8] 4 <|
 Qt [41] <|
 Qb [38,34] <|
 Q (.put true 1 0 1) [38,34,45] <|
 Qa [34,I 1] <|
 .go 0 [48,42,43,44,47]) (
 Qi 32 [3,4,5,31,38] 2 <|
 Qi 122 [35,36,37,I 3] 4 <|
 .join (
 .loop [I 0,47,48,49,50] (
 Qi 144 [53,54,55,I 3] 4 <|
 Ql [51,56] <|
 .ite 60 (
 Qi 153 [57,58,59] 11 <|
 Qi 158 [52,61,62,63,64,65,66,67,68] 2 <|
 Qa [51,I 1] <|
 .go 0 [74,72,69,70,71]) (
 Qz [3] <|
 Qz [9] <|
 Qz [17] <|
 .ret [63,62,61,4,5,22,52,57,58,59]))) (
 .ite 43 (
 Qi 192 [44,45,46] 4 <|
 .go 0 [47,48,49,50]) (
 .go 0 [41,44,45,46]))))))))
def F_s_l08Self:Sem1:=Fs p_s_l08Self [(32,F_s_Ideal),(121,F_s_l03Net),(122,F_s_l01Once),(144,F_s_l01Below),(153,F_s_l04Record),(158,F_s_l05Install),(187,F_s_CostTo),(192,F_s_l05Store)]
def p_s_DrawRightSelf:PL :=
 Qn [0] <|
 Qa [I 13901,1] <|
 .loop [2,I 0] (
 Qn [0] <|
 Ql [4,5] <|
 .ite 6 (
 Ql [4,I 4000] <|
 .ite 7 (
 Q (.bin .mul) [3,I 131] <|
 Q1 [0,4] <|
 Q (.cnv .i64) [10] <|
 Qa [8,11] <|
 Qa [12,I 7] <|
 Q (.bin .and) [13,I 1073741823] <|
 Qa [4,I 1] <|
 .go 0 [14,15]) (
 Qi 152 [0,I 0,3] 10 <|
 Qz [10] <|
 Qz [9] <|
 Qz [8] <|
 .ret [20,19,18,11,12,13,14])) (
 Qi 152 [0,I 0,3] 10 <|
 Qz [9] <|
 Qz [8] <|
 Qz [7] <|
 .ret [19,18,17,10,11,12,13]))
def F_s_DrawRightSelf:Sem1:=Fs p_s_DrawRightSelf [(152,F_s_l08Self)]
def p_s_DrawRecords:PL :=
 Qn [0] <|
 Qa [I 13901,1] <|
 .loop [2,I 0] (
 Qn [0] <|
 Ql [4,5] <|
 .ite 6 (
 Ql [4,I 4000] <|
 .ite 7 (
 Q (.bin .mul) [3,I 131] <|
 Q1 [0,4] <|
 Q (.cnv .i64) [10] <|
 Qa [8,11] <|
 Qa [12,I 7] <|
 Q (.bin .and) [13,I 1073741823] <|
 Qa [4,I 1] <|
 .go 0 [14,15]) (
 Q (.lit 8 []) [] <|
 .loop [8,I 0,0,I 0,3] (
 Qi 144 [11,12,13,I 14] 4 <|
 Ql [10,14] <|
 .ite 18 (
 Qi 153 [15,16,17] 11 <|
 Q (.lit 8 []) [19,20,21,22,23,24,25,26] <|
 Qy [9,30] <|
 Qa [10,I 1] <|
 .go 0 [31,32,27,28,29]) (
 .ret [9])))) (
 Q (.lit 8 []) [] <|
 .loop [7,I 0,0,I 0,3] (
 Qi 144 [10,11,12,I 14] 4 <|
 Ql [9,13] <|
 .ite 17 (
 Qi 153 [14,15,16] 11 <|
 Q (.lit 8 []) [18,19,20,21,22,23,24,25] <|
 Qy [8,29] <|
 Qa [9,I 1] <|
 .go 0 [30,31,26,27,28]) (
 .ret [8]))))
def F_s_DrawRecords:Sem1:=Fs p_s_DrawRecords [(144,F_s_l01Below),(153,F_s_l04Record)]
def p_i_copyNet:PL :=
 Q (.app true 4) [.e,1] <|
 Q (.app true 4) [.e,2] <|
 Qz [0] <|
 .ret [5,3,4]
def F_i_copyNet:Sem1:=Fs p_i_copyNet []
def p_i_copySelf:PL :=
 Qi 193 [2,3,4] 3 <|
 Qi 133 [5] 1 <|
 Qi 179 [6] 1 <|
 Qz [7] <|
 Qz [1] <|
 Qz [0] <|
 .ret [14,13,12,8,9,10,11]
def F_i_copySelf:Sem1:=Fs p_i_copySelf [(133,F_i_copyInts),(179,F_i_copyRecords),(193,F_i_copyNet)]
def p_i_heardOk:PL :=
 Qn [5] <|
 Q (.bin .rem) [7,I 2] <|
 Qu [8,I 0] <|
 .ite 9 (
 Qz [.k (.bool false)] <|
 .ret [10]) (
 .loop [.k (.bool false),I 0] (
 Qn [5] <|
 Ql [11,12] <|
 .ite 13 (
 Q1 [5,11] <|
 Qa [11,I 1] <|
 Q1 [5,16] <|
 Qi 182 [2,3,4,0,15,18] 1 <|
 Ql [19,I 0] <|
 .ite 20 (
 Qz [.k (.bool false)] <|
 .ret [21]) (
 Qg [11,I 0] <|
 .ite 21 (
 Qs [11,I 2] <|
 Q1 [5,22] <|
 Qg [24,15] <|
 .ite 25 (
 Qz [.k (.bool false)] <|
 .ret [26]) (
 Qs [11,I 2] <|
 Q1 [5,26] <|
 Qe [28,15] <|
 .ite 29 (
 Qs [11,I 1] <|
 Q1 [5,30] <|
 Qh [32,18] <|
 .ite 33 (
 Qz [.k (.bool false)] <|
 .ret [34]) (
 Qa [11,I 2] <|
 .go 0 [10,34])) (
 Qa [11,I 2] <|
 .go 0 [10,30]))) (
 Qa [11,I 2] <|
 .go 0 [10,22]))) (
 Qz [.k (.bool true)] <|
 .ret [14])))
def F_i_heardOk:Sem1:=Fs p_i_heardOk [(182,F_i_linkAt)]
def p_i_SelfOk:PL :=
 Qi 109 [2,3,4] 1 <|
 .ite 7 (
 Qi 89 [0,I 1,2] 1 <|
 .ite 8 (
 Qi 89 [1,I 0,I 90] 1 <|
 .ite 9 (
 Qi 159 [0,1,2,3,4,5,6] 1 <|
 .ite 10 (
 Qi 88 [6] 1 <|
 Qz [11] <|
 .ret [12]) (
 Qz [.k (.bool false)] <|
 .ret [11])) (
 Qz [.k (.bool false)] <|
 .ret [10])) (
 Qz [.k (.bool false)] <|
 .ret [9])) (
 Qz [.k (.bool false)] <|
 .ret [8])
def F_i_SelfOk:Sem1:=Fs p_i_SelfOk [(88,F_i_StoreOk),(89,F_i_in),(109,F_i_NetOk),(159,F_i_heardOk)]
def p_i_Install:PL :=
 Qi 88 [0] 1 <|
 Qt [9] <|
 .ite 10 (
 Qz [.k (.bool false)] <|
 .ret [.e,11]) (
 Qi 164 [1,2,3,4,5,6,7,8] 1 <|
 Qt [11] <|
 .ite 12 (
 Qz [.k (.bool false)] <|
 .ret [.e,13]) (
 Qi 90 [0,1,2,3,4,5,6,7,8] 1 <|
 Qh [13,I 0] <|
 .ite 14 (
 Qb [0,13] <|
 Qc 8 4 [0,13] <|
 Qh [16,5] <|
 .ite 17 (
 Qz [.k (.bool false)] <|
 .ret [.e,18]) (
 Ql [13,I 0] <|
 .ite 18 (
 Qn [0] <|
 Qh [19,I 150] <|
 .ite 20 (
 Qz [.k (.bool false)] <|
 .ret [.e,21]) (
 Qi 111 [0,1,2,3,4,5,6,7,8] 1 <|
 Qz [.k (.bool true)] <|
 .ret [21,22])) (
 Qi 111 [0,1,2,3,4,5,6,7,8] 1 <|
 Qz [.k (.bool true)] <|
 .ret [19,20]))) (
 Ql [13,I 0] <|
 .ite 15 (
 Qn [0] <|
 Qh [16,I 150] <|
 .ite 17 (
 Qz [.k (.bool false)] <|
 .ret [.e,18]) (
 Qi 111 [0,1,2,3,4,5,6,7,8] 1 <|
 Qz [.k (.bool true)] <|
 .ret [18,19])) (
 Qi 111 [0,1,2,3,4,5,6,7,8] 1 <|
 Qz [.k (.bool true)] <|
 .ret [16,17]))))
def F_i_Install:Sem1:=Fs p_i_Install [(88,F_i_StoreOk),(90,F_i_keyAt),(111,F_i_put),(164,F_i_RecordOk)]
def p_i_learned:PL :=
 Qi 179 [0] 1 <|
 Qn [1] <|
 .loop [2,.e,I 0] (
 Ql [6,3] <|
 .ite 7 (
 Q8 [1,6] <|
 Qi 194 [4,9,10,11,12,13,14,15,16] 2 <|
 .join (
 Qa [6,I 1] <|
 .go 0 [19,20,21]) (
 .ite 18 (
 Qi 180 [9,10,11,12,13,14,15,16] 8 <|
 Q (.lit 8 [true,true,true,true,true,false,true,true]) [19,20,21,22,23,24,25,26] <|
 Qy [5,27] <|
 .go 0 [17,28]) (
 .go 0 [4,5]))) (
 .ret [4,5]))
def F_i_learned:Sem1:=Fs p_i_learned [(179,F_i_copyRecords),(180,F_i_copyRecord),(194,F_i_Install)]
def p_i_Learn:PL :=
 Qi 154 [0,1,2,3,4,5,6] 7 <|
 Qi 79 [0,1,2,3,4,5,6] 1 <|
 Qt [15] <|
 .ite 16 (
 Qz [10] <|
 Qz [9] <|
 Qz [8] <|
 .ret [19,18,17,11,12,13,14,.e]) (
 Qi 155 [6,7] 2 <|
 Qz [10] <|
 Qz [9] <|
 Qz [8] <|
 .ret [21,20,19,11,12,13,17,18])
def F_i_Learn:Sem1:=Fs p_i_Learn [(79,F_i_SelfOk),(154,F_i_copySelf),(155,F_i_learned)]
def p_s_l08Copy:PL :=
 Q (.lit 4 []) [] <|
 Q (.app true 4) [7,3] <|
 Q (.lit 4 []) [] <|
 Q (.app true 4) [9,4] <|
 Q (.lit 1 []) [] <|
 Qp [11,5] <|
 Qi 106 [6] 1 <|
 Qz [2] <|
 Qz [1] <|
 Qz [0] <|
 .ret [16,15,14,8,10,12,13]
def F_s_l08Copy:Sem1:=Fs p_s_l08Copy [(106,F_s_l04CopyList)]
def p_s_l08Heard:PL :=
 Qn [5] <|
 Q (.bin .rem) [7,I 2] <|
 Qe [8,I 1] <|
 .ite 9 (
 Qz [.k (.bool false)] <|
 .ret [10]) (
 Qn [5] <|
 Qg [10,I 60] <|
 .ite 11 (
 Qz [.k (.bool false)] <|
 .ret [12]) (
 .loop [.k (.bool false),I 0] (
 Qn [5] <|
 Ql [13,14] <|
 .ite 15 (
 Q1 [5,13] <|
 Qa [13,I 1] <|
 Q1 [5,18] <|
 Qi 187 [2,3,4,0,17,20] 1 <|
 Qe [21,I 0] <|
 .ite 22 (
 Qz [.k (.bool false)] <|
 .ret [23]) (
 Qg [13,I 0] <|
 .ite 23 (
 Qs [13,I 2] <|
 Q1 [5,24] <|
 Qg [26,17] <|
 .ite 27 (
 Qz [.k (.bool false)] <|
 .ret [28]) (
 Qs [13,I 2] <|
 Q1 [5,28] <|
 Qe [30,17] <|
 .ite 31 (
 Qs [13,I 1] <|
 Q1 [5,32] <|
 Qh [34,20] <|
 .ite 35 (
 Qz [.k (.bool false)] <|
 .ret [36]) (
 Qa [13,I 2] <|
 .go 0 [12,36])) (
 Qa [13,I 2] <|
 .go 0 [12,32]))) (
 Qa [13,I 2] <|
 .go 0 [12,24]))) (
 Qz [.k (.bool true)] <|
 .ret [16]))))
def F_s_l08Heard:Sem1:=Fs p_s_l08Heard [(187,F_s_CostTo)]
def p_s_SelfOk:PL :=
 Qi 102 [2,3,4] 1 <|
 .ite 7 (
 Qi 84 [0,I 1,2] 1 <|
 .ite 8 (
 Qi 84 [1,I 0,I 90] 1 <|
 .ite 9 (
 Qi 195 [0,1,2,3,4,5,6] 1 <|
 .ite 10 (
 Qi 63 [6] 1 <|
 Qz [11] <|
 .ret [12]) (
 Qz [.k (.bool false)] <|
 .ret [11])) (
 Qz [.k (.bool false)] <|
 .ret [10])) (
 Qz [.k (.bool false)] <|
 .ret [9])) (
 Qz [.k (.bool false)] <|
 .ret [8])
def F_s_SelfOk:Sem1:=Fs p_s_SelfOk [(63,F_s_StoreOk),(84,F_s_l01In),(102,F_s_NetOk),(195,F_s_l08Heard)]
def p_s_Learn:PL :=
 Qi 156 [0,1,2,3,4,5,6] 7 <|
 Q (.lit 8 []) [] <|
 Qi 157 [0,1,2,3,4,5,6] 1 <|
 Qt [16] <|
 .ite 17 (
 Qz [10] <|
 Qz [9] <|
 Qz [8] <|
 .ret [20,19,18,11,12,13,14,15]) (
 .loop [15,I 0,14,14] (
 Qn [7] <|
 Ql [19,22] <|
 .ite 23 (
 Q8 [7,19] <|
 Qi 158 [20,25,26,27,28,29,30,31,32] 2 <|
 .join (
 Qa [19,I 1] <|
 .go 0 [36,37,35,21]) (
 .ite 34 (
 Q8 [7,19] <|
 Qi 124 [36,37,38,39,40,41,42,43] 8 <|
 Q (.lit 8 [true,true,true,true,true,false,true,true]) [44,45,46,47,48,49,50,51] <|
 Qy [18,52] <|
 .go 0 [33,53]) (
 .go 0 [20,18]))) (
 Qi 106 [20] 1 <|
 Qz [10] <|
 Qz [9] <|
 Qz [8] <|
 .ret [27,26,25,11,12,13,24,18])))
def F_s_Learn:Sem1:=Fs p_s_Learn [(106,F_s_l04CopyList),(124,F_s_l04Copy),(156,F_s_l08Copy),(157,F_s_SelfOk),(158,F_s_l05Install)]
def p_newest:PL :=
 .loop [.k (.int .i64 0),.k (.int .i64 0)] (
  .ins (.pr (.len) [.a 0]) <|
  .ins (.pr (.bin .lss) [.a 10,.a 11]) <|
  .ite 12 (
  .ins (.pr (.bnd) [.a 0,.a 10]) <|
  .ins (.pr (.cell 8 0) [.a 0,.a 10]) <|
  .ins (.pr (.cell 8 1) [.a 0,.a 10]) <|
  .ins (.pr (.cell 8 2) [.a 0,.a 10]) <|
  .ins (.pr (.cell 8 3) [.a 0,.a 10]) <|
  .ins (.pr (.cell 8 4) [.a 0,.a 10]) <|
  .ins (.pr (.cell 8 5) [.a 0,.a 10]) <|
  .ins (.pr (.cell 8 6) [.a 0,.a 10]) <|
  .ins (.pr (.cell 8 7) [.a 0,.a 10]) <|
  .ins (.cl 160 [.a 14,.a 15,.a 16,.a 17,.a 18,.a 19,.a 20,.a 21,.a 1,.a 2,.a 3,.a 4,.a 5,.a 6,.a 7,.a 8] 1) <|
  .ite 22 (
   .ins (.pr (.bnd) [.a 0,.a 10]) <|
   .ins (.pr (.cell 8 4) [.a 0,.a 10]) <|
   .ins (.pr (.bin .gtr) [.a 24,.a 9]) <|
   .join (
   .ins (.pr (.bin .add) [.a 10,.k (.int .i64 1)]) <|
   .go 0 [.a 26,.a 27]) (
   .ite 25 (
    .ins (.pr (.bnd) [.a 0,.a 10]) <|
    .ins (.pr (.cell 8 4) [.a 0,.a 10]) <|
    .go 0 [.a 27]) (
    .go 0 [.a 9]))) (
   .join (
   .ins (.pr (.bin .add) [.a 10,.k (.int .i64 1)]) <|
   .go 0 [.a 23,.a 24]) (
   .go 0 [.a 9]))) (
  .ins (.pr (.scl) [.a 9]) <|
  .ret [.a 13]))
def S_newest:Nat→Sem1:=pick [(160,F_s_SameKey)]
def F_newest:Sem1:=fun ts=>p_newest.den S_newest rounds [] ts
def p_s_Merge:PL :=
 .loop [0,I 0] (
 Qn [1] <|
 Ql [3,4] <|
 .ite 5 (
 Qi 63 [0] 1 <|
 .ite 6 (
 Q8 [1,3] <|
 Qi 158 [2,8,9,10,11,12,13,14,15] 2 <|
 .join (
 Qa [3,I 1] <|
 .go 0 [18,19]) (
 .ite 17 (
 .go 0 [16]) (
 .go 0 [2]))) (
 Qi 106 [2] 1 <|
 .ret [7])) (
 Qi 106 [2] 1 <|
 .ret [6]))
def F_s_Merge:Sem1:=Fs p_s_Merge [(63,F_s_StoreOk),(106,F_s_l04CopyList),(158,F_s_l05Install)]
def p_FnLearns:PL :=
 .ins (.cl 41 [.a 0] 1) <|
 .ite 1 (
  .ins (.pr (.scl) [.k (.bool true)]) <|
  .ret [.a 2]) (
  .ins (.cl 75 [.a 0] 7) <|
  .ins (.cl 76 [.a 0] 1) <|
  .ins (.cl 77 [.a 2,.a 3,.a 4,.a 5,.a 6,.a 7,.a 8,.a 9] 8) <|
  .ins (.cl 78 [.a 2,.a 3,.a 4,.a 5,.a 6,.a 7,.a 8,.a 9] 8) <|
  .ins (.cl 77 [.a 10,.a 11,.a 12,.a 13,.a 14,.a 15,.a 16,.a 9] 8) <|
  .ins (.cl 60 [.a 17,.a 25] 1) <|
  .ins (.pr (.un .not) [.a 34]) <|
  .ite 35 (
  .ins (.pr (.scl) [.k (.bool false)]) <|
  .ret [.a 36]) (
  .ins (.pr (.len) [.a 33]) <|
  .ins (.pr (.bin .neq) [.a 36,.k (.int .i64 0)]) <|
  .ite 37 (
   .ins (.pr (.scl) [.k (.bool false)]) <|
   .ret [.a 38]) (
   .ins (.cl 79 [.a 10,.a 11,.a 12,.a 13,.a 14,.a 15,.a 16] 1) <|
   .ins (.pr (.un .not) [.a 38]) <|
   .ite 39 (
   .ins (.pr (.scl) [.k (.bool false)]) <|
   .ret [.a 40]) (
   .loop [.k (.bool false),.k (.int .i64 0)] (
    .ins (.pr (.len) [.a 17]) <|
    .ins (.pr (.bin .lss) [.a 41,.a 42]) <|
    .ite 43 (
    .ins (.pr (.bnd) [.a 17,.a 41]) <|
    .ins (.pr (.scell 8 4) [.a 17,.a 41]) <|
    .ins (.pr (.bnd) [.a 17,.a 41]) <|
    .ins (.pr (.scell 8 0) [.a 17,.a 41]) <|
    .ins (.pr (.scell 8 1) [.a 17,.a 41]) <|
    .ins (.pr (.scell 8 2) [.a 17,.a 41]) <|
    .ins (.pr (.scell 8 3) [.a 17,.a 41]) <|
    .ins (.pr (.scell 8 4) [.a 17,.a 41]) <|
    .ins (.pr (.dig 8 5) [.a 17,.a 41]) <|
    .ins (.pr (.scell 8 6) [.a 17,.a 41]) <|
    .ins (.pr (.scell 8 7) [.a 17,.a 41]) <|
    .ins (.pr (.dig 8 5) [.a 17,.a 41]) <|
    .ins (.cl 80 [.a 8,.a 47,.a 48,.a 49,.a 50,.a 51,.a 55,.a 53,.a 54] 1) <|
    .ins (.pr (.bin .leq) [.a 45,.a 56]) <|
    .ite 57 (
     .ins (.pr (.scl) [.k (.bool false)]) <|
     .ret [.a 58]) (
     .ins (.pr (.bin .add) [.a 41,.k (.int .i64 1)]) <|
     .go 0 [.a 40,.a 58])) (
    .ins (.cl 81 [.a 8,.a 9] 1) <|
    .ins (.cl 60 [.a 16,.a 44] 1) <|
    .ins (.pr (.scl) [.a 45]) <|
    .ret [.a 46]))))))
def S_FnLearns:Nat→Sem1:=pick [(41,F_big),(60,F_sameStore),(75,F_s_DrawRightSelf),(76,F_s_DrawRecords),(77,F_i_Learn),(78,F_s_Learn),(79,F_i_SelfOk),(80,F_newest),(81,F_s_Merge)]
def F_FnLearns:Sem1:=fun ts=>p_FnLearns.den S_FnLearns rounds [] ts
end Go.Proofs.YtlofiplkmgmnfaaC
