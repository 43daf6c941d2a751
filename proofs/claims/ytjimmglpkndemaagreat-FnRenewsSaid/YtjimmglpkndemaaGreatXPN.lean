/- The plain programs of the functions that are walked (printed by a program). Conditions: none. -/
import Derived.Test.YtjimmglpkndemaaGreatKe
namespace Go.Proofs.YtjimmglpkndemaaGreatC
def p_big:PL :=
 .ins (.pr (.len) [.a 0]) <|
 .ins (.pr (.bin .gtr) [.a 1,.k (.int .i64 1048576)]) <|
 .ins (.pr (.scl) [.a 2]) <|
 .ret [.a 3]
def aPx_:Nat→Sem1:=pick []
def aky_:Sem1:=fun ts=>p_big.den aPx_ rounds [] ts
def p_s_l01Byte:PL :=
 Q (.bin .mul) [2,I 6364136223846793005] <|
 Qa [3,I 1442695040888963407] <|
 Q (.bin .shr) [4,.k (.int .u64 33)] <|
 Q (.bin .shr) [4,.k (.int .u64 45)] <|
 Q (.bin .xor) [5,6] <|
 Q (.bin .and) [7,I 255] <|
 Qn [0] <|
 Ql [1,9] <|
 .join (
 Qz [12] <|
 .ret [13,0,11,4]) (
 .ite 10 (
 Q1 [0,1] <|
 Q (.cnv .i64) [12] <|
 Qa [8,13] <|
 Q (.bin .and) [14,I 255] <|
 Qa [1,I 1] <|
 .go 0 [16,15]) (
 .go 0 [1,8]))
def u8_:Sem1:=Fs p_s_l01Byte []
def p_s_l01Below:PL :=
 Qm [3,I 0] <|
 .ite 4 (
 Qz [I 0] <|
 .ret [5,0,1,2]) (
 Qm [3,I 256] <|
 .ite 5 (
 Qi 215 [0,1,2] 4 <|
 Q (.bin .rem) [6,3] <|
 Qz [10] <|
 .ret [11,7,8,9]) (
 Qi 215 [0,1,2] 4 <|
 Qi 215 [7,8,9] 4 <|
 Qi 215 [11,12,13] 4 <|
 Qi 215 [15,16,17] 4 <|
 Q (.bin .mul) [6,I 16777216] <|
 Q (.bin .mul) [10,I 65536] <|
 Qa [22,23] <|
 Q (.bin .mul) [14,I 256] <|
 Qa [24,25] <|
 Qa [26,18] <|
 Q (.bin .rem) [27,3] <|
 Qz [28] <|
 .ret [29,19,20,21]))
def zR_:Sem1:=Fs p_s_l01Below [(215,u8_)]
def p_s_l01PickInt:PL :=
 Qn [3] <|
 Qi 149 [0,1,2,4] 4 <|
 Q1 [3,5] <|
 Qz [10] <|
 .ret [11,6,7,8]
def x4_:Sem1:=Fs p_s_l01PickInt [(149,zR_)]
def p_s_l03Ahead:PL :=
 Ql [0,4] <|
 .ite 8 (
 Qz [.k (.bool true)] <|
 .ret [9]) (
 Qe [0,4] <|
 .ite 9 (
 Ql [1,5] <|
 .ite 10 (
 Qz [.k (.bool true)] <|
 .ret [11]) (
 Qe [1,5] <|
 .ite 11 (
 Ql [3,7] <|
 Qz [12] <|
 .ret [13]) (
 Qz [.k (.bool false)] <|
 .ret [12]))) (
 Qz [.k (.bool false)] <|
 .ret [10]))
def wq_:Sem1:=Fs p_s_l03Ahead []
def p_s_l03Put:PL :=
 Q (.lit 4 []) [] <|
 .loop [5,I 0] (
 Qn [0] <|
 Ql [7,8] <|
 .ite 9 (
 Q4 [0,7] <|
 Qi 204 [11,12,13,14,1,2,3,4] 1 <|
 .join (
 Qa [7,I 1] <|
 .go 0 [16,17]) (
 .ite 15 (
 Q4 [0,7] <|
 Q (.lit 4 [true,true,true,true]) [17,18,19,20] <|
 Q (.app true 4) [6,21] <|
 .go 0 [22]) (
 .go 0 [6]))) (
 Q (.lit 4 [true,true,true,true]) [1,2,3,4] <|
 Q (.app true 4) [6,10] <|
 .loop [11,I 0] (
 Qn [0] <|
 Ql [13,14] <|
 .ite 15 (
 Q4 [0,13] <|
 Qi 204 [1,2,3,4,17,18,19,20] 1 <|
 .join (
 Qa [13,I 1] <|
 .go 0 [22,23]) (
 .ite 21 (
 Q4 [0,13] <|
 Q (.lit 4 [true,true,true,true]) [23,24,25,26] <|
 Q (.app true 4) [12,27] <|
 .go 0 [28]) (
 .go 0 [12]))) (
 .ret [12]))))
def qU_:Sem1:=Fs p_s_l03Put [(204,wq_)]
def p_s_l01Once:PL :=
 Qi 149 [0,1,2,3] 4 <|
 Qe [4,I 0] <|
 Qz [8] <|
 .ret [9,5,6,7]
def xw_:Sem1:=Fs p_s_l01Once [(149,zR_)]
def p_s_l03Thing:PL :=
 Ql [1,5] <|
 .ite 8 (
 Qz [.k (.bool true)] <|
 .ret [9]) (
 Qe [1,5] <|
 .ite 9 (
 Ql [0,4] <|
 Qz [10] <|
 .ret [11]) (
 Qz [.k (.bool false)] <|
 .ret [10]))
def wD_:Sem1:=Fs p_s_l03Thing []
def p_s_l03PutThing:PL :=
 Q (.lit 4 []) [] <|
 .loop [5,I 0] (
 Qn [0] <|
 Ql [7,8] <|
 .ite 9 (
 Q4 [0,7] <|
 Qi 205 [11,12,13,14,1,2,3,4] 1 <|
 .join (
 Qa [7,I 1] <|
 .go 0 [16,17]) (
 .ite 15 (
 Q4 [0,7] <|
 Q (.lit 4 [true,true,true,true]) [17,18,19,20] <|
 Q (.app true 4) [6,21] <|
 .go 0 [22]) (
 .go 0 [6]))) (
 Q (.lit 4 [true,true,true,true]) [1,2,3,4] <|
 Q (.app true 4) [6,10] <|
 .loop [11,I 0] (
 Qn [0] <|
 Ql [13,14] <|
 .ite 15 (
 Q4 [0,13] <|
 Qi 205 [1,2,3,4,17,18,19,20] 1 <|
 .join (
 Qa [13,I 1] <|
 .go 0 [22,23]) (
 .ite 21 (
 Q4 [0,13] <|
 Q (.lit 4 [true,true,true,true]) [23,24,25,26] <|
 Q (.app true 4) [12,27] <|
 .go 0 [28]) (
 .go 0 [12]))) (
 .ret [12]))))
def w7_:Sem1:=Fs p_s_l03PutThing [(205,wD_)]
def p_s_l03Net:PL :=
 Qi 149 [0,1,2,I 4] 4 <|
 Qa [I 2,3] <|
 .loop [I 0,4,5,6,.e] (
 Qi 149 [9,10,11,I 3] 4 <|
 Qa [7,13] <|
 Ql [8,17] <|
 .ite 18 (
 Qi 149 [14,15,16,7] 4 <|
 Qa [I 1,19] <|
 Qi 149 [20,21,22,7] 4 <|
 Qa [I 1,24] <|
 Qa [8,I 1] <|
 Ql [29,7] <|
 .join (
 Qe [31,32] <|
 .join (
 Qg [31,34] <|
 .join (
 Qi 149 [25,26,27,I 4] 4 <|
 Qa [I 1,38] <|
 Q (.lit 1 [true,true,true,true]) [I 0,I 0,I 1,I 2] <|
 Qi 212 [39,40,41,43] 4 <|
 Qn [12] <|
 Ql [48,I 12] <|
 .join (
 Qa [8,I 1] <|
 .go 0 [51,45,46,47,50]) (
 .ite 49 (
 Qi 213 [12,36,37,42,44] 1 <|
 .go 0 [50]) (
 .go 0 [12]))) (
 .ite 35 (
 .go 0 [34,31]) (
 .go 0 [31,34]))) (
 .ite 33 (
 Q (.bin .rem) [31,7] <|
 Qa [34,I 1] <|
 .go 0 [35]) (
 .go 0 [32]))) (
 .ite 30 (
 Qa [8,I 1] <|
 Qa [8,I 2] <|
 .go 0 [31,32]) (
 .go 0 [23,28]))) (
 .loop [I 0,14,15,16,.e] (
 Qi 149 [20,21,22,I 3] 4 <|
 Ql [19,24] <|
 .ite 28 (
 Qi 149 [25,26,27,7] 4 <|
 Qa [I 1,29] <|
 Qi 149 [30,31,32,I 3] 4 <|
 Qa [I 1,34] <|
 Qi 149 [35,36,37,I 5] 4 <|
 Qa [I 1,39] <|
 Qi 151 [40,41,42,I 2] 4 <|
 Qi 214 [23,33,38,43,44] 1 <|
 Qa [19,I 1] <|
 .go 0 [49,45,46,47,48]) (
 Qz [7] <|
 .ret [29,12,23,25,26,27]))))
def qP_:Sem1:=Fs p_s_l03Net [(149,zR_),(151,xw_),(212,x4_),(213,qU_),(214,w7_)]
def p_s_CostTo:PL :=
 .loop [I 0,I 0] (
 Qn [1] <|
 Ql [7,8] <|
 .ite 9 (
 Q4 [1,7] <|
 Qe [14,5] <|
 .ite 15 (
 Qe [11,3] <|
 .ite 16 (
 Qe [12,4] <|
 .ite 17 (
 Qz [13] <|
 .ret [18]) (
 Qe [11,4] <|
 .ite 18 (
 Qe [12,3] <|
 .ite 19 (
 Qz [13] <|
 .ret [20]) (
 Qa [7,I 1] <|
 .go 0 [6,20])) (
 Qa [7,I 1] <|
 .go 0 [6,19]))) (
 Qe [11,4] <|
 .ite 17 (
 Qe [12,3] <|
 .ite 18 (
 Qz [13] <|
 .ret [19]) (
 Qa [7,I 1] <|
 .go 0 [6,19])) (
 Qa [7,I 1] <|
 .go 0 [6,18]))) (
 Qa [7,I 1] <|
 .go 0 [6,16])) (
 Qz [I 0] <|
 .ret [10]))
def xE_:Sem1:=Fs p_s_CostTo []
def p_s_l01In:PL :=
 Qh [0,1] <|
 .ite 3 (
 Qm [0,2] <|
 Qz [4] <|
 .ret [5]) (
 Qz [.k (.bool false)] <|
 .ret [4])
def yt_:Sem1:=Fs p_s_l01In []
def p_s_LinkOk:PL :=
 Qi 105 [0,I 1,I 6] 1 <|
 .ite 5 (
 Qi 105 [1,I 1,0] 1 <|
 .ite 6 (
 Qi 105 [2,I 1,0] 1 <|
 .ite 7 (
 Ql [1,2] <|
 .ite 8 (
 Qi 105 [3,I 1,I 1000] 1 <|
 .ite 9 (
 Qi 105 [4,I 0,I 2] 1 <|
 Qz [10] <|
 .ret [11]) (
 Qz [.k (.bool false)] <|
 .ret [10])) (
 Qz [.k (.bool false)] <|
 .ret [9])) (
 Qz [.k (.bool false)] <|
 .ret [8])) (
 Qz [.k (.bool false)] <|
 .ret [7])) (
 Qz [.k (.bool false)] <|
 .ret [6])
def qC_:Sem1:=Fs p_s_LinkOk [(105,yt_)]
def p_s_NetOk:PL :=
 Qi 105 [0,I 1,I 6] 1 <|
 Qt [3] <|
 .ite 4 (
 Qz [.k (.bool false)] <|
 .ret [5]) (
 Qn [1] <|
 Qg [5,I 12] <|
 .ite 6 (
 Qz [.k (.bool false)] <|
 .ret [7]) (
 Qn [2] <|
 Qg [7,I 4] <|
 .ite 8 (
 Qz [.k (.bool false)] <|
 .ret [9]) (
 .loop [.k (.bool false),I 0] (
 Qn [1] <|
 Ql [10,11] <|
 .ite 12 (
 Q4 [1,10] <|
 Qi 203 [0,14,15,16,17] 1 <|
 Qt [18] <|
 .ite 19 (
 Qz [.k (.bool false)] <|
 .ret [20]) (
 Qg [10,I 0] <|
 .ite 20 (
 Qs [10,I 1] <|
 Q4 [1,21] <|
 Q4 [1,10] <|
 Qi 204 [23,24,25,26,28,29,30,31] 1 <|
 Qt [32] <|
 .ite 33 (
 Qz [.k (.bool false)] <|
 .ret [34]) (
 Qa [10,I 1] <|
 .go 0 [9,34])) (
 Qa [10,I 1] <|
 .go 0 [9,21]))) (
 .loop [9,I 0] (
 Qn [2] <|
 Ql [14,15] <|
 .ite 16 (
 Q4 [2,14] <|
 Qi 105 [18,I 1,0] 1 <|
 Qt [22] <|
 .ite 23 (
 Qz [.k (.bool false)] <|
 .ret [24]) (
 Qi 105 [19,I 1,I 9] 1 <|
 Qt [24] <|
 .ite 25 (
 Qz [.k (.bool false)] <|
 .ret [26]) (
 Qi 105 [20,I 1,I 1000] 1 <|
 Qt [26] <|
 .ite 27 (
 Qz [.k (.bool false)] <|
 .ret [28]) (
 Qg [14,I 0] <|
 .ite 28 (
 Qs [14,I 1] <|
 Q4 [2,29] <|
 Qi 205 [31,32,33,34,18,19,20,21] 1 <|
 Qt [35] <|
 .ite 36 (
 Qz [.k (.bool false)] <|
 .ret [37]) (
 Qa [14,I 1] <|
 .go 0 [13,37])) (
 Qa [14,I 1] <|
 .go 0 [13,29]))))) (
 Qz [.k (.bool true)] <|
 .ret [17])))))))
def vQ_:Sem1:=Fs p_s_NetOk [(105,yt_),(203,qC_),(204,wq_),(205,wD_)]
def p_s_NextTo:PL :=
 Q (.lit 1 []) [] <|
 .loop [5,I 1] (
 Qm [7,I 6] <|
 .ite 8 (
 Qi 150 [0,1,2,3,7,4] 1 <|
 Qg [9,I 0] <|
 .join (
 Qa [7,I 1] <|
 .go 0 [11,12]) (
 .ite 10 (
 Qx [7] <|
 Qp [6,11] <|
 .go 0 [12]) (
 .go 0 [6]))) (
 .ret [6]))
def qE_:Sem1:=Fs p_s_NextTo [(150,xE_)]
def p_s_AreasOf:PL :=
 Q (.lit 1 []) [] <|
 .loop [4,I 0] (
 Qm [6,I 2] <|
 .ite 7 (
 Qi 78 [0,1,2,3,6] 1 <|
 Qn [8] <|
 Qg [9,I 0] <|
 .join (
 Qa [6,I 1] <|
 .go 0 [11,12]) (
 .ite 10 (
 Qx [6] <|
 Qp [5,11] <|
 .go 0 [12]) (
 .go 0 [5]))) (
 .ret [5]))
def xe_:Sem1:=Fs p_s_AreasOf [(78,qE_)]
def p_s_l13Open:PL :=
 .loop [I 0,I 0] (
 Qn [1] <|
 Ql [8,9] <|
 .ite 10 (
 Q4 [1,8] <|
 Q1 [3,8] <|
 .ite 17 (
 Qe [15,6] <|
 .ite 18 (
 Qe [12,4] <|
 .ite 19 (
 Qe [13,5] <|
 .ite 20 (
 Qz [14] <|
 .ret [21]) (
 Qe [12,5] <|
 .ite 21 (
 Qe [13,4] <|
 .ite 22 (
 Qz [14] <|
 .ret [23]) (
 Qa [8,I 1] <|
 .go 0 [7,23])) (
 Qa [8,I 1] <|
 .go 0 [7,22]))) (
 Qe [12,5] <|
 .ite 20 (
 Qe [13,4] <|
 .ite 21 (
 Qz [14] <|
 .ret [22]) (
 Qa [8,I 1] <|
 .go 0 [7,22])) (
 Qa [8,I 1] <|
 .go 0 [7,21]))) (
 Qa [8,I 1] <|
 .go 0 [7,19])) (
 Qa [8,I 1] <|
 .go 0 [7,18])) (
 Qz [I 0] <|
 .ret [11]))
def u5_:Sem1:=Fs p_s_l13Open []
def p_s_Before:PL :=
 Qu [0,8] <|
 .ite 16 (
 Ql [0,8] <|
 Qz [17] <|
 .ret [18]) (
 Qu [1,9] <|
 .ite 17 (
 Ql [1,9] <|
 Qz [18] <|
 .ret [19]) (
 Qu [2,10] <|
 .ite 18 (
 Ql [2,10] <|
 Qz [19] <|
 .ret [20]) (
 Ql [3,11] <|
 Qz [19] <|
 .ret [20])))
def vn_:Sem1:=Fs p_s_Before []
def p_s_l05Put:PL :=
 Q (.lit 8 []) [] <|
 .loop [9,I 0] (
 Qn [0] <|
 Ql [11,12] <|
 .ite 13 (
 Q8 [0,11] <|
 Qi 168 [15,16,17,18,19,20,21,22,1,2,3,4,5,6,7,8] 1 <|
 .join (
 Qa [11,I 1] <|
 .go 0 [24,25]) (
 .ite 23 (
 Q8 [0,11] <|
 Q (.lit 8 []) [25,26,27,28,29,30,31,32] <|
 Qy [10,33] <|
 .go 0 [34]) (
 .go 0 [10]))) (
 Q (.lit 8 []) [1,2,3,4,5,6,7,8] <|
 Qy [10,14] <|
 .loop [15,I 0] (
 Qn [0] <|
 Ql [17,18] <|
 .ite 19 (
 Q8 [0,17] <|
 Qi 168 [1,2,3,4,5,6,7,8,21,22,23,24,25,26,27,28] 1 <|
 .join (
 Qa [17,I 1] <|
 .go 0 [30,31]) (
 .ite 29 (
 Q8 [0,17] <|
 Q (.lit 8 []) [31,32,33,34,35,36,37,38] <|
 Qy [16,39] <|
 .go 0 [40]) (
 .go 0 [16]))) (
 .ret [16]))))
def yS_:Sem1:=Fs p_s_l05Put [(168,vn_)]
def p_s_Border:PL :=
 Qi 20 [0,1,2,3] 1 <|
 Qn [4] <|
 Qg [5,I 1] <|
 .ite 6 (
 Q1 [4,I 0] <|
 Qe [8,I 0] <|
 Qz [9] <|
 .ret [10]) (
 Qz [.k (.bool false)] <|
 .ret [7])
def vm_:Sem1:=Fs p_s_Border [(20,xe_)]
def p_s_l04Near:PL :=
 .loop [.k (.bool false),I 0] (
 Qn [5] <|
 Ql [9,10] <|
 .ite 11 (
 Q2 [5,9] <|
 Qi 105 [13,I 1,I 6] 1 <|
 Qt [15] <|
 .ite 16 (
 Qz [.k (.bool false)] <|
 .ret [17]) (
 Qe [13,2] <|
 .ite 17 (
 Qz [.k (.bool false)] <|
 .ret [18]) (
 Qi 105 [14,I 1,I 1000] 1 <|
 Qt [18] <|
 .ite 19 (
 Qz [.k (.bool false)] <|
 .ret [20]) (
 Qg [9,I 0] <|
 .ite 20 (
 Qs [9,I 1] <|
 Qb [5,21] <|
 Qc 2 0 [5,21] <|
 Qh [23,13] <|
 .ite 24 (
 Qz [.k (.bool false)] <|
 .ret [25]) (
 Qa [9,I 1] <|
 .go 0 [8,25])) (
 Qa [9,I 1] <|
 .go 0 [8,21]))))) (
 Qz [.k (.bool true)] <|
 .ret [12]))
def uX_:Sem1:=Fs p_s_l04Near [(105,yt_)]
def p_s_RecordOk:PL :=
 Qi 105 [2,I 1,I 6] 1 <|
 Qt [8] <|
 .ite 9 (
 Qz [.k (.bool false)] <|
 .ret [10]) (
 Qi 105 [4,I 1,I 100000] 1 <|
 Qt [10] <|
 .ite 11 (
 Qz [.k (.bool false)] <|
 .ret [12]) (
 Qe [1,I 1] <|
 .ite 12 (
 Qi 105 [0,I 0,I 2] 1 <|
 .ite 13 (
 Qe [3,I 0] <|
 .ite 14 (
 Qi 229 [0,1,2,3,4,5,6,7] 1 <|
 .ite 15 (
 Qe [6,I 0] <|
 .ite 16 (
 Qt [7] <|
 Qz [17] <|
 .ret [18]) (
 Qz [.k (.bool false)] <|
 .ret [17])) (
 Qz [.k (.bool false)] <|
 .ret [16])) (
 Qz [.k (.bool false)] <|
 .ret [15])) (
 Qz [.k (.bool false)] <|
 .ret [14])) (
 Qe [1,I 2] <|
 .ite 13 (
 Qi 105 [0,I 0,I 2] 1 <|
 .ite 14 (
 Qi 105 [3,I 1,I 6] 1 <|
 .ite 15 (
 Qn [5] <|
 Qe [16,I 0] <|
 .ite 17 (
 Qi 105 [6,I 0,I 60000] 1 <|
 .ite 18 (
 Qt [7] <|
 Qz [19] <|
 .ret [20]) (
 Qz [.k (.bool false)] <|
 .ret [19])) (
 Qz [.k (.bool false)] <|
 .ret [18])) (
 Qz [.k (.bool false)] <|
 .ret [16])) (
 Qz [.k (.bool false)] <|
 .ret [15])) (
 Qe [1,I 3] <|
 .ite 14 (
 Qe [0,I 9] <|
 .ite 15 (
 Qi 105 [3,I 1,I 9] 1 <|
 .ite 16 (
 Qn [5] <|
 Qe [17,I 0] <|
 .ite 18 (
 Qi 105 [6,I 1,I 1000] 1 <|
 .ite 19 (
 Qz [.k (.bool true)] <|
 .ret [20]) (
 Qe [6,I 60000] <|
 Qz [20] <|
 .ret [21])) (
 Qz [.k (.bool false)] <|
 .ret [19])) (
 Qz [.k (.bool false)] <|
 .ret [17])) (
 Qz [.k (.bool false)] <|
 .ret [16])) (
 Qz [.k (.bool false)] <|
 .ret [15])))))
def ws_:Sem1:=Fs p_s_RecordOk [(105,yt_),(229,uX_)]
def p_s_StoreOk:PL :=
 Qn [0] <|
 Qg [1,I 150] <|
 .ite 2 (
 Qz [.k (.bool false)] <|
 .ret [3]) (
 .loop [.k (.bool false),I 0] (
 Qn [0] <|
 Ql [4,5] <|
 .ite 6 (
 Q8 [0,4] <|
 Qi 195 [8,9,10,11,12,13,14,15] 1 <|
 Qt [16] <|
 .ite 17 (
 Qz [.k (.bool false)] <|
 .ret [18]) (
 Qg [4,I 0] <|
 .ite 18 (
 Qs [4,I 1] <|
 Q8 [0,19] <|
 Q8 [0,4] <|
 Qi 168 [21,22,23,24,25,26,27,28,30,31,32,33,34,35,36,37] 1 <|
 Qt [38] <|
 .ite 39 (
 Qz [.k (.bool false)] <|
 .ret [40]) (
 Qa [4,I 1] <|
 .go 0 [3,40])) (
 Qa [4,I 1] <|
 .go 0 [3,19]))) (
 Qz [.k (.bool true)] <|
 .ret [7])))
def xf_:Sem1:=Fs p_s_StoreOk [(168,vn_),(195,ws_)]
def p_s_SameKey:PL :=
 Qe [0,8] <|
 .ite 16 (
 Qe [1,9] <|
 .ite 17 (
 Qe [2,10] <|
 .ite 18 (
 Qe [3,11] <|
 Qz [19] <|
 .ret [20]) (
 Qz [.k (.bool false)] <|
 .ret [19])) (
 Qz [.k (.bool false)] <|
 .ret [18])) (
 Qz [.k (.bool false)] <|
 .ret [17])
def xY_:Sem1:=Fs p_s_SameKey []
def p_s_l05At:PL :=
 .loop [I 0,I 0] (
 Qn [0] <|
 Ql [10,11] <|
 .ite 12 (
 Q8 [0,10] <|
 Qi 72 [14,15,16,17,18,19,20,21,1,2,3,4,5,6,7,8] 1 <|
 .ite 22 (
 Qz [10] <|
 .ret [23]) (
 Qa [10,I 1] <|
 .go 0 [9,23])) (
 Qz [.k (.int .i64 (-1))] <|
 .ret [13]))
def xU_:Sem1:=Fs p_s_l05At [(72,xY_)]
def p_s_l06Node:PL :=
 Qi 63 [0,1,I 1,2,I 0,I 0,.e,I 0,.k (.bool false)] 1 <|
 Ql [3,I 0] <|
 .ite 4 (
 Qz [.k (.bool false)] <|
 Qz [.k (.bool false)] <|
 Qz [I 0] <|
 Qz [I 0] <|
 Qz [I 0] <|
 Qz [I 0] <|
 Qz [I 0] <|
 Qz [I 0] <|
 .ret [12,11,10,9,8,.e,7,6,5]) (
 Q8 [0,3] <|
 Qz [.k (.bool true)] <|
 Qz [13] <|
 Qz [12] <|
 Qz [10] <|
 Qz [9] <|
 Qz [8] <|
 Qz [7] <|
 Qz [6] <|
 .ret [21,20,19,18,17,11,16,15,14])
def xG_:Sem1:=Fs p_s_l06Node [(63,xU_)]
def p_s_l06Tells:PL :=
 Qi 233 [0,1,2] 9 <|
 .loop [I 0,I 0] (
 Qn [9] <|
 Ql [14,15] <|
 .ite 16 (
 Qb [9,14] <|
 Qc 2 0 [9,14] <|
 Qe [18,3] <|
 .ite 19 (
 Qb [9,14] <|
 Qc 2 1 [9,14] <|
 Qz [21] <|
 .ret [22]) (
 Qa [14,I 1] <|
 .go 0 [13,20])) (
 Qz [I 0] <|
 .ret [17]))
def ul_:Sem1:=Fs p_s_l06Tells [(233,xG_)]
def p_s_l06Links:PL :=
 Q (.mk) [I 49,I 49,I 0] <|
 .loop [I 1,2] (
 Qm [3,I 6] <|
 .ite 5 (
 Qi 233 [0,1,3] 9 <|
 .loop [I 0,4] (
 Qn [11] <|
 Ql [15,17] <|
 .ite 18 (
 Qb [11,15] <|
 Qc 2 0 [11,15] <|
 Qi 105 [20,I 1,I 6] 1 <|
 .ite 21 (
 Qb [11,15] <|
 Qc 2 0 [11,15] <|
 Qi 242 [0,1,23,3] 1 <|
 Qg [24,I 0] <|
 .join (
 Qa [15,I 1] <|
 .go 0 [27,26]) (
 .ite 25 (
 Q (.bin .mul) [3,I 7] <|
 Qb [11,15] <|
 Qc 2 0 [11,15] <|
 Qa [26,28] <|
 Qb [11,15] <|
 Qc 2 1 [11,15] <|
 Qb [16,29] <|
 Q (.put true 1 0 1) [16,29,31] <|
 .go 0 [33]) (
 .go 0 [16]))) (
 .join (
 Qa [15,I 1] <|
 .go 0 [23,22]) (
 .go 0 [16]))) (
 Qa [3,I 1] <|
 .go 1 [19,16]))) (
 .ret [4]))
def uo_:Sem1:=Fs p_s_l06Links [(105,yt_),(233,xG_),(242,ul_)]
def p_s_l03In:PL :=
 .loop [.k (.bool false),I 0] (
 Qn [0] <|
 Ql [3,4] <|
 .ite 5 (
 Q1 [0,3] <|
 Qe [7,1] <|
 .ite 8 (
 Qz [.k (.bool true)] <|
 .ret [9]) (
 Qa [3,I 1] <|
 .go 0 [2,9])) (
 Qz [.k (.bool false)] <|
 .ret [6]))
def jB_:Sem1:=Fs p_s_l03In []
def p_s_l06Add:PL :=
 Q (.lit 1 []) [] <|
 .loop [2,I 1] (
 Qm [4,I 6] <|
 .ite 5 (
 Qi 100 [0,4] 1 <|
 .ite 6 (
 .join (
 Qa [4,I 1] <|
 .go 0 [7,8]) (
 Qx [4] <|
 Qp [3,7] <|
 .go 0 [8])) (
 Qi 100 [1,4] 1 <|
 .join (
 Qa [4,I 1] <|
 .go 0 [8,9]) (
 .ite 7 (
 Qx [4] <|
 Qp [3,8] <|
 .go 0 [9]) (
 .go 0 [3])))) (
 .ret [3]))
def wC_:Sem1:=Fs p_s_l06Add [(100,jB_)]
def p_s_WaysIn:PL :=
 Q (.lit 3 []) [] <|
 Qi 233 [0,1,2] 9 <|
 Qi 106 [0] 1 <|
 Qt [13] <|
 .ite 14 (
 .ret [3]) (
 Qi 105 [2,I 1,I 6] 1 <|
 Qt [15] <|
 .ite 16 (
 .ret [3]) (
 Qt [12] <|
 .ite 17 (
 .ret [3]) (
 Qi 234 [0,1] 1 <|
 Q (.mk) [I 7,I 7,I 0] <|
 Q (.mk) [I 7,I 7,.e] <|
 Q (.mk) [I 7,I 7,.k (.bool false)] <|
 .loop [I 1,19] (
 Qm [22,I 6] <|
 .ite 24 (
 Qb [23,22] <|
 Q (.put true 1 0 1) [23,22,.k (.int .i64 (-1))] <|
 Qa [22,I 1] <|
 .go 0 [27,26]) (
 Qb [23,2] <|
 Q (.put true 1 0 1) [23,2,I 0] <|
 .loop [I 1,20,21,26] (
 Qm [27,I 6] <|
 .ite 31 (
 .loop [I 0,I 1] (
 Qm [33,I 6] <|
 .ite 34 (
 Qq [29,33] <|
 Qt [36] <|
 .ite 37 (
 Qq [30,33] <|
 Qh [39,I 0] <|
 .ite 40 (
 Qe [32,I 0] <|
 .ite 41 (
 .join (
 Qa [33,I 1] <|
 .go 0 [42,43]) (
 .go 0 [33])) (
 Qq [30,33] <|
 Qq [30,32] <|
 Ql [43,45] <|
 .join (
 Qa [33,I 1] <|
 .go 0 [47,48]) (
 .ite 46 (
 .go 0 [33]) (
 .go 0 [32])))) (
 .join (
 Qa [33,I 1] <|
 .go 0 [41,42]) (
 .go 0 [32]))) (
 .join (
 Qa [33,I 1] <|
 .go 0 [38,39]) (
 .go 0 [32]))) (
 Qe [32,I 0] <|
 .ite 35 (
 Qa [I 6,I 1] <|
 .go 1 [36,28,29,30]) (
 Qb [29,32] <|
 Q (.put true 1 0 1) [29,32,.k (.bool true)] <|
 .loop [I 1,28,30] (
 Qm [38,I 6] <|
 .ite 41 (
 Q (.bin .mul) [32,I 7] <|
 Qa [42,38] <|
 Q1 [18,43] <|
 Qe [45,I 0] <|
 .ite 46 (
 Qa [38,I 1] <|
 .go 0 [47,39,40]) (
 Qq [37,38] <|
 .ite 48 (
 Qa [38,I 1] <|
 .go 0 [49,39,40]) (
 Q1 [39,32] <|
 Qe [32,2] <|
 .join (
 Qq [40,32] <|
 Qa [54,45] <|
 Qq [40,38] <|
 Ql [57,I 0] <|
 .ite 58 (
 .join (
 Qa [38,I 1] <|
 .go 0 [61,59,60]) (
 Qb [40,38] <|
 Q (.put true 1 0 1) [40,38,55] <|
 Q (.lit 1 []) [] <|
 Qi 235 [61,52] 1 <|
 Qb [39,38] <|
 Q (.put false 1 0 1) [39,38,62] <|
 .go 0 [64,60])) (
 Qq [40,38] <|
 Ql [55,60] <|
 .join (
 Qa [38,I 1] <|
 .go 0 [64,62,63]) (
 .ite 61 (
 Qb [40,38] <|
 Q (.put true 1 0 1) [40,38,55] <|
 Q (.lit 1 []) [] <|
 Qi 235 [64,52] 1 <|
 Qb [39,38] <|
 Q (.put false 1 0 1) [39,38,65] <|
 .go 0 [67,63]) (
 Qq [40,38] <|
 Qe [55,63] <|
 .join (
 .go 0 [65,40]) (
 .ite 64 (
 Q1 [39,38] <|
 Qi 235 [66,52] 1 <|
 Qb [39,38] <|
 Q (.put false 1 0 1) [39,38,67] <|
 .go 0 [69]) (
 .go 0 [39])))))) (
 .ite 51 (
 Qx [38] <|
 .go 0 [52]) (
 .go 0 [50]))))) (
 Qa [27,I 1] <|
 .go 2 [42,39,37,40])))))) (
 .loop [3,I 1] (
 Qm [33,I 6] <|
 .ite 34 (
 Qq [29,33] <|
 .join (
 Qa [33,I 1] <|
 .go 0 [37,38]) (
 .ite 36 (
 Qq [30,33] <|
 Q (.lit 1 []) [] <|
 Q1 [28,33] <|
 Qp [39,41] <|
 Q (.lit 3 [true,true,false]) [33,38,42] <|
 Qo [32,43] <|
 .go 0 [44]) (
 .go 0 [32]))) (
 .ret [32])))))))))
def we_:Sem1:=Fs p_s_WaysIn [(105,yt_),(106,xf_),(233,xG_),(234,uo_),(235,wC_)]
def p_s_l06Copy:PL :=
 Q (.lit 1 []) [] <|
 Qp [3,2] <|
 Qz [1] <|
 Qz [0] <|
 .ret [6,5,4]
def wW_:Sem1:=Fs p_s_l06Copy []
def p_s_WayTo:PL :=
 .loop [.k (.bool false),I 0] (
 Qn [0] <|
 Ql [3,4] <|
 .ite 5 (
 Qb [0,3] <|
 Qc 3 0 [0,3] <|
 Qe [7,1] <|
 .ite 8 (
 Q3 [0,3] <|
 Qi 238 [10,11,12] 3 <|
 Qz [.k (.bool true)] <|
 Qz [14] <|
 Qz [13] <|
 .ret [18,17,15,16]) (
 Qa [3,I 1] <|
 .go 0 [2,9])) (
 Qz [.k (.bool false)] <|
 Qz [I 0] <|
 Qz [I 0] <|
 .ret [8,7,.e,6]))
def xJ_:Sem1:=Fs p_s_WayTo [(238,wW_)]
def p_s_Better:PL :=
 Ql [1,4] <|
 Qz [6] <|
 .ret [7]
def qO_:Sem1:=Fs p_s_Better []
def p_s_Together:PL :=
 Qi 243 [0,1,2,3,4,5] 1 <|
 .ite 6 (
 Qi 238 [0,1,2] 3 <|
 Qz [8] <|
 Qz [7] <|
 .ret [11,10,9]) (
 Qi 243 [3,4,5,0,1,2] 1 <|
 .ite 7 (
 Qi 238 [3,4,5] 3 <|
 Qz [9] <|
 Qz [8] <|
 .ret [12,11,10]) (
 Qi 235 [2,5] 1 <|
 Qz [1] <|
 Qz [0] <|
 .ret [10,9,8]))
def wv_:Sem1:=Fs p_s_Together [(235,wC_),(238,wW_),(243,qO_)]
def p_s_RoutesWithin:PL :=
 Q (.lit 3 []) [] <|
 Q (.lit 1 []) [] <|
 .loop [4,I 0] (
 Qn [1] <|
 Ql [6,7] <|
 .ite 8 (
 Q1 [1,6] <|
 Qi 218 [0,10,2] 1 <|
 Q (.lit 1 []) [11] <|
 Q (.app false 1) [5,12] <|
 Qa [6,I 1] <|
 .go 0 [13,14]) (
 .loop [3,I 1] (
 Qm [10,I 6] <|
 .ite 11 (
 .loop [.k (.bool false),I 0,I 0,I 0,.e] (
 Qn [1] <|
 Ql [13,17] <|
 .ite 18 (
 Q1 [5,13] <|
 Qi 221 [20,10] 4 <|
 Qt [24] <|
 .ite 25 (
 Qa [13,I 1] <|
 .go 0 [12,26,14,15,16]) (
 .join (
 Qa [13,I 1] <|
 .go 0 [.k (.bool true),29,26,27,28]) (
 .ite 12 (
 Qi 236 [14,15,16,21,22,23] 3 <|
 .go 0 [26,27,28]) (
 .go 0 [21,22,23])))) (
 .join (
 Qa [10,I 1] <|
 .go 1 [19,20]) (
 .ite 12 (
 Q (.lit 3 []) [14,15,16] <|
 Qo [9,19] <|
 .go 0 [20]) (
 .go 0 [9]))))) (
 .ret [9]))))
def xA_:Sem1:=Fs p_s_RoutesWithin [(218,we_),(221,xJ_),(236,wv_)]
def p_s_l07Beyond:PL :=
 .loop [8,I 0,5,6,7] (
 Qn [0] <|
 Ql [10,14] <|
 .ite 15 (
 Q8 [0,10] <|
 Qu [18,I 2] <|
 .ite 25 (
 Qa [10,I 1] <|
 .go 0 [9,26,11,12,13]) (
 Qu [17,2] <|
 .ite 26 (
 Qa [10,I 1] <|
 .go 0 [9,27,11,12,13]) (
 Qu [20,4] <|
 .ite 27 (
 Qa [10,I 1] <|
 .go 0 [9,28,11,12,13]) (
 Qe [19,3] <|
 .ite 28 (
 Qa [10,I 1] <|
 .go 0 [9,29,11,12,13]) (
 Qh [23,I 60000] <|
 .ite 29 (
 Qa [10,I 1] <|
 .go 0 [9,30,11,12,13]) (
 Qi 221 [1,19] 4 <|
 Qt [33] <|
 .ite 34 (
 Qa [10,I 1] <|
 .go 0 [9,35,11,12,13]) (
 Qa [31,23] <|
 Qh [35,I 60000] <|
 .ite 36 (
 Qa [10,I 1] <|
 .go 0 [9,37,11,12,13]) (
 Qa [31,23] <|
 .join (
 Qa [10,I 1] <|
 .go 0 [.k (.bool true),41,38,39,40]) (
 .ite 9 (
 Qi 236 [11,12,13,4,37,32] 3 <|
 .go 0 [38,39,40]) (
 .go 0 [4,37,32])))))))))) (
 Qz [9] <|
 Qz [12] <|
 Qz [11] <|
 .ret [18,17,13,16]))
def vK_:Sem1:=Fs p_s_l07Beyond [(221,xJ_),(236,wv_)]
def p_s_RoutesBeyond:PL :=
 Q (.lit 3 []) [] <|
 Qi 219 [0,1,3] 1 <|
 Qi 106 [0] 1 <|
 Qt [6] <|
 .ite 7 (
 .ret [4]) (
 Q (.lit 1 []) [] <|
 .loop [8,I 0] (
 Qn [1] <|
 Ql [10,11] <|
 .ite 12 (
 Q1 [1,10] <|
 Qi 218 [0,14,3] 1 <|
 Q (.lit 1 []) [15] <|
 Q (.app false 1) [9,16] <|
 Qa [10,I 1] <|
 .go 0 [17,18]) (
 .loop [4,I 1] (
 Qm [14,I 6] <|
 .ite 15 (
 Qi 221 [5,14] 4 <|
 .ite 19 (
 Qa [14,I 1] <|
 .go 0 [13,20]) (
 .loop [.k (.bool false),I 0,I 0,I 0,.e] (
 Qn [1] <|
 Ql [21,25] <|
 .ite 26 (
 .ite 2 (
 Q1 [1,21] <|
 Qu [28,I 0] <|
 .ite 29 (
 Qa [21,I 1] <|
 .go 0 [20,30,22,23,24]) (
 Q1 [9,21] <|
 Q1 [1,21] <|
 Qi 237 [0,31,33,3,14,22,23,24,20] 4 <|
 Qa [21,I 1] <|
 .go 0 [37,38,34,35,36])) (
 Q1 [9,21] <|
 Q1 [1,21] <|
 Qi 237 [0,28,30,3,14,22,23,24,20] 4 <|
 Qa [21,I 1] <|
 .go 0 [34,35,31,32,33])) (
 .join (
 Qa [14,I 1] <|
 .go 1 [27,28]) (
 .ite 20 (
 Q (.lit 3 []) [22,23,24] <|
 Qo [13,27] <|
 .go 0 [28]) (
 .go 0 [13])))))) (
 .ret [13])))))
def wR_:Sem1:=Fs p_s_RoutesBeyond [(106,xf_),(218,we_),(219,xA_),(221,xJ_),(237,vK_)]
def p_s_Beyond:PL :=
 Q (.lit 8 []) [] <|
 Qi 106 [0] 1 <|
 Qt [5] <|
 .ite 6 (
 .ret [4]) (
 Q (.lit 1 []) [] <|
 .loop [7,I 0] (
 Qn [1] <|
 Ql [9,10] <|
 .ite 11 (
 Q1 [1,9] <|
 Qu [13,3] <|
 .join (
 Qa [9,I 1] <|
 .go 0 [15,16]) (
 .ite 14 (
 Q1 [1,9] <|
 Qx [16] <|
 Qp [8,17] <|
 .go 0 [18]) (
 .go 0 [8]))) (
 Qi 218 [0,3,2] 1 <|
 Qi 219 [0,8,2] 1 <|
 Qi 220 [0,1,.k (.bool true),2] 1 <|
 .loop [4,I 1] (
 Qm [16,I 6] <|
 .ite 17 (
 Qi 221 [12,16] 4 <|
 .ite 21 (
 Qa [16,I 1] <|
 .go 0 [15,22]) (
 Qe [16,2] <|
 .ite 22 (
 Qa [16,I 1] <|
 .go 0 [15,23]) (
 Qi 221 [13,16] 4 <|
 Qt [26] <|
 .ite 27 (
 Qu [3,I 0] <|
 .join (
 .join (
 Qa [16,I 1] <|
 .go 0 [33,34]) (
 .ite 32 (
 Q (.lit 8 [true,true,true,true,true,false,true,true]) [3,I 2,2,16,I 0,.e,30,.k (.bool false)] <|
 Qy [15,33] <|
 .go 0 [34]) (
 .go 0 [15]))) (
 .ite 28 (
 Qi 221 [14,16] 4 <|
 .go 0 [29,30,31,32]) (
 .go 0 [23,24,25,26]))) (
 .join (
 .join (
 Qa [16,I 1] <|
 .go 0 [32,33]) (
 .ite 31 (
 Q (.lit 8 [true,true,true,true,true,false,true,true]) [3,I 2,2,16,I 0,.e,29,.k (.bool false)] <|
 Qy [15,32] <|
 .go 0 [33]) (
 .go 0 [15]))) (
 .go 0 [23,24,25,26]))))) (
 .ret [15])))))
def vh_:Sem1:=Fs p_s_Beyond [(106,xf_),(218,we_),(219,xA_),(220,wR_),(221,xJ_)]
def p_s_l08With:PL :=
 .loop [0,I 0] (
 Qn [1] <|
 Ql [3,4] <|
 .ite 5 (
 Q8 [1,3] <|
 Qe [11,I 0] <|
 .join (
 Qi 62 [2,7,8,9,10,16,12,13,14] 1 <|
 Qa [3,I 1] <|
 .go 0 [17,18]) (
 .ite 15 (
 .go 0 [I 1]) (
 .go 0 [11]))) (
 .ret [2]))
def xZ_:Sem1:=Fs p_s_l08With [(62,yS_)]
def p_s_l13Beyond:PL :=
 Q (.lit 8 []) [] <|
 .loop [3,I 0] (
 Qn [1] <|
 Ql [5,6] <|
 .ite 7 (
 Q1 [1,5] <|
 Qi 167 [0,1,2,9] 1 <|
 Qy [4,10] <|
 Qa [5,I 1] <|
 .go 0 [11,12]) (
 Q (.lit 8 []) [] <|
 .loop [8,I 0] (
 Qn [0] <|
 Ql [10,11] <|
 .ite 12 (
 Qb [0,10] <|
 Qc 8 1 [0,10] <|
 Qu [14,I 2] <|
 .ite 15 (
 .join (
 Qa [10,I 1] <|
 .go 0 [16,17]) (
 Q8 [0,10] <|
 Q (.lit 8 []) [17,18,19,20,21,22,23,24] <|
 Qy [9,25] <|
 .go 0 [26])) (
 Qb [0,10] <|
 Qc 8 2 [0,10] <|
 Qu [17,2] <|
 .join (
 Qa [10,I 1] <|
 .go 0 [19,20]) (
 .ite 18 (
 Q8 [0,10] <|
 Q (.lit 8 []) [20,21,22,23,24,25,26,27] <|
 Qy [9,28] <|
 .go 0 [29]) (
 .go 0 [9])))) (
 Qi 67 [9,4] 1 <|
 .ret [13]))))
def vL_:Sem1:=Fs p_s_l13Beyond [(67,xZ_),(167,vh_)]
def p_s_l04Copy:PL :=
 Q (.lit 2 []) [] <|
 Q (.app true 2) [8,5] <|
 Qz [7] <|
 Qz [6] <|
 Qz [4] <|
 Qz [3] <|
 Qz [2] <|
 Qz [1] <|
 Qz [0] <|
 .ret [16,15,14,13,12,9,11,10]
def x1_:Sem1:=Fs p_s_l04Copy []
def p_s_l04CopyList:PL :=
 Q (.lit 8 []) [] <|
 .loop [1,I 0] (
 Qn [0] <|
 Ql [3,4] <|
 .ite 5 (
 Q8 [0,3] <|
 Qi 65 [7,8,9,10,11,12,13,14] 8 <|
 Q (.lit 8 [true,true,true,true,true,false,true,true]) [15,16,17,18,19,20,21,22] <|
 Qy [2,23] <|
 Qa [3,I 1] <|
 .go 0 [24,25]) (
 .ret [2]))
def z8_:Sem1:=Fs p_s_l04CopyList [(65,x1_)]
def p_s_Ideal:PL :=
 Q (.lit 8 []) [] <|
 Qi 132 [0,1,2] 1 <|
 Qt [6] <|
 .ite 7 (
 Qz [.k (.bool false)] <|
 .ret [5,8]) (
 Qn [3] <|
 Qn [1] <|
 Qu [8,9] <|
 .ite 10 (
 Qz [.k (.bool false)] <|
 .ret [5,11]) (
 Qn [4] <|
 Qu [11,0] <|
 .ite 12 (
 Qz [.k (.bool false)] <|
 .ret [5,13]) (
 .loop [5,I 1] (
 Qm [14,0] <|
 .ite 15 (
 Qi 20 [0,1,2,14] 1 <|
 .loop [13,I 0] (
 Qn [16] <|
 Ql [18,19] <|
 .ite 20 (
 Qs [14,I 1] <|
 Q1 [4,21] <|
 .ite 23 (
 Q1 [16,18] <|
 .loop [I 1,.e] (
 Qm [26,0] <|
 .ite 28 (
 Q1 [16,18] <|
 Qi 216 [0,1,2,3,14,26,30] 1 <|
 Qg [31,I 0] <|
 .ite 32 (
 Qs [26,I 1] <|
 Q1 [4,33] <|
 .join (
 Qa [26,I 1] <|
 .go 0 [37,36]) (
 .ite 35 (
 Q (.lit 2 [true,true]) [26,31] <|
 Q (.app true 2) [27,36] <|
 .go 0 [37]) (
 .go 0 [27]))) (
 .join (
 Qa [26,I 1] <|
 .go 0 [34,33]) (
 .go 0 [27]))) (
 Qi 62 [17,25,I 1,14,I 0,I 1,27,I 0,.k (.bool false)] 1 <|
 Qa [18,I 1] <|
 .go 1 [29,30]))) (
 Qa [14,I 1] <|
 .go 1 [17,24])) (
 Qa [14,I 1] <|
 .go 1 [17,21]))) (
 .loop [13,I 0] (
 Qn [2] <|
 Ql [17,18] <|
 .ite 19 (
 Q4 [2,17] <|
 Qs [21,I 1] <|
 Q1 [4,25] <|
 .join (
 Qa [17,I 1] <|
 .go 0 [28,29]) (
 .ite 27 (
 Qi 62 [16,I 9,I 3,21,22,I 1,.e,23,24] 1 <|
 .go 0 [28]) (
 .go 0 [16]))) (
 .loop [16,I 0] (
 Ql [21,I 3] <|
 .ite 22 (
 .loop [20,I 1] (
 Qm [24,0] <|
 .ite 25 (
 Qs [24,I 1] <|
 Q1 [4,26] <|
 .ite 28 (
 Qi 166 [0,1,2,24] 1 <|
 .join (
 Qa [24,I 1] <|
 .go 0 [30,31]) (
 .ite 29 (
 Qi 20 [0,1,2,24] 1 <|
 Qi 217 [23,30,24] 1 <|
 .go 0 [31]) (
 .go 0 [23]))) (
 .join (
 Qa [24,I 1] <|
 .go 0 [29,30]) (
 .go 0 [23]))) (
 Qa [21,I 1] <|
 .go 1 [23,26]))) (
 Qi 66 [20] 1 <|
 Qz [.k (.bool true)] <|
 .ret [23,24])))))))))
def uz_:Sem1:=Fs p_s_Ideal [(20,xe_),(62,yS_),(66,z8_),(132,vQ_),(166,vm_),(216,u5_),(217,vL_)]
def p_s_l04Record:PL :=
 Qi 149 [0,1,2,I 3] 4 <|
 Qa [I 1,3] <|
 Qi 149 [4,5,6,I 4] 4 <|
 Qa [I 1,8] <|
 Qi 149 [9,10,11,I 3] 4 <|
 Qi 149 [14,15,16,I 5] 4 <|
 Qa [I 1,17] <|
 Qe [7,I 1] <|
 .join (
 Qz [30] <|
 Qz [29] <|
 Qz [21] <|
 Qz [27] <|
 Qz [12] <|
 Qz [7] <|
 Qz [26] <|
 .ret [37,36,35,34,33,28,32,31,23,24,25]) (
 .ite 22 (
 .loop [I 1,18,19,20,.e] (
 Qm [23,I 6] <|
 .ite 28 (
 Qu [23,12] <|
 .ite 29 (
 Qi 151 [24,25,26,I 3] 4 <|
 .join (
 Qa [23,I 1] <|
 .go 0 [38,34,35,36,37]) (
 .ite 30 (
 Qi 149 [31,32,33,I 4] 4 <|
 Qa [I 1,34] <|
 Q (.lit 2 [true,true]) [23,38] <|
 Q (.app true 2) [27,39] <|
 .go 0 [35,36,37,40]) (
 .go 0 [31,32,33,27]))) (
 .join (
 Qa [23,I 1] <|
 .go 0 [34,30,31,32,33]) (
 .go 0 [24,25,26,27]))) (
 .go 1 [24,25,26,13,I 0,27,I 0,.k (.bool false)]))) (
 Qe [7,I 2] <|
 .join (
 .go 0 [24,25,26,27,28,.e,29,30]) (
 .ite 23 (
 Qi 149 [18,19,20,I 5] 4 <|
 Qa [I 1,24] <|
 Q (.lit 1 [true,true,true,true,true]) [I 0,I 1,I 2,I 5,I 60000] <|
 Qi 212 [25,26,27,29] 4 <|
 .go 0 [31,32,33,13,28,30,.k (.bool false)]) (
 Qe [7,I 3] <|
 .join (
 .go 0 [25,26,27,28,29,30,31]) (
 .ite 24 (
 Qi 149 [18,19,20,I 3] 4 <|
 Qa [I 1,25] <|
 Q (.lit 1 [true,true,true,true]) [I 1,I 2,I 5,I 60000] <|
 Qi 212 [26,27,28,30] 4 <|
 Qi 151 [32,33,34,I 2] 4 <|
 .go 0 [36,37,38,I 9,29,31,35]) (
 .go 0 [18,19,20,13,I 0,I 0,.k (.bool false)]))))))
def xn_:Sem1:=Fs p_s_l04Record [(149,zR_),(151,xw_),(212,x4_)]
def p_s_l05Install:PL :=
 Qi 63 [0,1,2,3,4,5,6,7,8] 1 <|
 Qi 195 [1,2,3,4,5,6,7,8] 1 <|
 Qt [10] <|
 .ite 11 (
 Qz [.k (.bool false)] <|
 .ret [0,12]) (
 Qh [9,I 0] <|
 .ite 12 (
 Qb [0,9] <|
 Qc 8 4 [0,9] <|
 Qh [14,5] <|
 .ite 15 (
 Qz [.k (.bool false)] <|
 .ret [0,16]) (
 Ql [9,I 0] <|
 .ite 16 (
 Qn [0] <|
 Qh [17,I 150] <|
 .ite 18 (
 Qz [.k (.bool false)] <|
 .ret [0,19]) (
 Qi 62 [0,1,2,3,4,5,6,7,8] 1 <|
 Qz [.k (.bool true)] <|
 .ret [19,20])) (
 Qi 62 [0,1,2,3,4,5,6,7,8] 1 <|
 Qz [.k (.bool true)] <|
 .ret [17,18]))) (
 Ql [9,I 0] <|
 .ite 13 (
 Qn [0] <|
 Qh [14,I 150] <|
 .ite 15 (
 Qz [.k (.bool false)] <|
 .ret [0,16]) (
 Qi 62 [0,1,2,3,4,5,6,7,8] 1 <|
 Qz [.k (.bool true)] <|
 .ret [16,17])) (
 Qi 62 [0,1,2,3,4,5,6,7,8] 1 <|
 Qz [.k (.bool true)] <|
 .ret [14,15])))
def xa_:Sem1:=Fs p_s_l05Install [(62,yS_),(63,xU_),(195,ws_)]
def p_s_l05Store:PL :=
 Q (.lit 8 []) [] <|
 .loop [3,I 0,0,1,2] (
 Qi 149 [6,7,8,I 12] 4 <|
 Ql [5,9] <|
 .ite 13 (
 Qi 155 [10,11,12] 11 <|
 Qi 154 [4,14,15,16,17,18,19,20,21] 2 <|
 Qa [5,I 1] <|
 .go 0 [25,27,22,23,24]) (
 .ret [4,10,11,12]))
def w2_:Sem1:=Fs p_s_l05Store [(149,zR_),(154,xa_),(155,xn_)]
def p_s_l08Self:PL :=
 Qi 148 [0,1,2] 6 <|
 Qi 149 [6,7,8,I 2] 4 <|
 Qi 149 [10,11,12,3] 4 <|
 Qa [I 1,13] <|
 .loop [I 1,14,15,16,.e] (
 Qm [18,3] <|
 .ite 23 (
 .loop [I 0,19,20,21,22] (
 Qm [24,I 2] <|
 .ite 29 (
 Qi 150 [3,4,5,17,18,24] 1 <|
 Qg [30,I 0] <|
 .ite 31 (
 Qi 151 [25,26,27,I 4] 4 <|
 Qt [32] <|
 .join (
 Qa [24,I 1] <|
 .go 0 [38,33,34,35,37]) (
 .ite 36 (
 Q (.lit 1 [true,true]) [18,24] <|
 Qp [28,37] <|
 .go 0 [38]) (
 .go 0 [28]))) (
 .join (
 Qa [24,I 1] <|
 .go 0 [33,25,26,27,32]) (
 .go 0 [28]))) (
 Qa [18,I 1] <|
 .go 1 [30,25,26,27,28]))) (
 Qn [4] <|
 Q (.mk) [24,24,.k (.bool false)] <|
 Q (.mk) [3,3,.k (.bool false)] <|
 .loop [I 0,19,20,21,25] (
 Qn [31] <|
 Ql [27,32] <|
 .ite 33 (
 Qi 151 [28,29,30,I 6] 4 <|
 Qt [34] <|
 Qb [31,27] <|
 Q (.put true 1 0 1) [31,27,38] <|
 Qa [27,I 1] <|
 .go 0 [41,35,36,37,40]) (
 .loop [I 0,28,29,30,26] (
 Qn [38] <|
 Ql [34,39] <|
 .ite 40 (
 Qi 151 [35,36,37,I 8] 4 <|
 Qt [41] <|
 Qb [38,34] <|
 Q (.put true 1 0 1) [38,34,45] <|
 Qa [34,I 1] <|
 .go 0 [48,42,43,44,47]) (
 Qi 152 [3,4,5,31,38] 2 <|
 Qi 151 [35,36,37,I 3] 4 <|
 .join (
 .loop [I 0,47,48,49,50] (
 Qi 149 [53,54,55,I 3] 4 <|
 Ql [51,56] <|
 .ite 60 (
 Qi 155 [57,58,59] 11 <|
 Qi 154 [52,61,62,63,64,65,66,67,68] 2 <|
 Qa [51,I 1] <|
 .go 0 [74,72,69,70,71]) (
 Qz [3] <|
 Qz [9] <|
 Qz [17] <|
 .ret [63,62,61,4,5,22,52,57,58,59]))) (
 .ite 43 (
 Qi 153 [44,45,46] 4 <|
 .go 0 [47,48,49,50]) (
 .go 0 [41,44,45,46]))))))))
def uZ_:Sem1:=Fs p_s_l08Self [(148,qP_),(149,zR_),(150,xE_),(151,xw_),(152,uz_),(153,w2_),(154,xa_),(155,xn_)]
def p_s_DrawRightSelf:PL :=
 Qn [0] <|
 Qa [I 13901,1] <|
 .loop [2,I 0] (
 Qn [0] <|
 Ql [4,5] <|
 .ite 6 (
 Ql [4,I 4000] <|
 .ite 7 (
 Q (.bin .mul) [3,I 131] <|
 Q1 [0,4] <|
 Q (.cnv .i64) [10] <|
 Qa [8,11] <|
 Qa [12,I 7] <|
 Q (.bin .and) [13,I 1073741823] <|
 Qa [4,I 1] <|
 .go 0 [14,15]) (
 Qi 52 [0,I 0,3] 10 <|
 Qz [10] <|
 Qz [9] <|
 Qz [8] <|
 .ret [20,19,18,11,12,13,14])) (
 Qi 52 [0,I 0,3] 10 <|
 Qz [9] <|
 Qz [8] <|
 Qz [7] <|
 .ret [19,18,17,10,11,12,13]))
def wE_:Sem1:=Fs p_s_DrawRightSelf [(52,uZ_)]
def p_i_copyNet:PL :=
 Q (.app true 4) [.e,1] <|
 Q (.app true 4) [.e,2] <|
 Qz [0] <|
 .ret [5,3,4]
def qa_:Sem1:=Fs p_i_copyNet []
def p_i_copyInts:PL :=
 Qp [.e,0] <|
 .ret [1]
def ya_:Sem1:=Fs p_i_copyInts []
def p_i_copyRecord:PL :=
 Q (.app true 2) [.e,5] <|
 Qz [7] <|
 Qz [6] <|
 Qz [4] <|
 Qz [3] <|
 Qz [2] <|
 Qz [1] <|
 Qz [0] <|
 .ret [15,14,13,12,11,8,10,9]
def x7_:Sem1:=Fs p_i_copyRecord []
def p_i_copyRecords:PL :=
 Qn [0] <|
 .loop [.e,I 0] (
 Ql [3,1] <|
 .ite 4 (
 Q8 [0,3] <|
 Qi 161 [6,7,8,9,10,11,12,13] 8 <|
 Q (.lit 8 [true,true,true,true,true,false,true,true]) [14,15,16,17,18,19,20,21] <|
 Qy [2,22] <|
 Qa [3,I 1] <|
 .go 0 [23,24]) (
 .ret [2]))
def y4_:Sem1:=Fs p_i_copyRecords [(161,x7_)]
def p_i_copySelf:PL :=
 Qi 90 [2,3,4] 3 <|
 Qi 156 [5] 1 <|
 Qi 56 [6] 1 <|
 Qz [7] <|
 Qz [1] <|
 Qz [0] <|
 .ret [14,13,12,8,9,10,11]
def ud_:Sem1:=Fs p_i_copySelf [(56,y4_),(90,qa_),(156,ya_)]
def p_i_in:PL :=
 Qh [0,1] <|
 .ite 3 (
 Qm [0,2] <|
 Qz [4] <|
 .ret [5]) (
 Qz [.k (.bool false)] <|
 .ret [4])
def wd_:Sem1:=Fs p_i_in []
def p_i_LinkOk:PL :=
 Qi 69 [0,I 1,I 6] 1 <|
 .ite 5 (
 Qi 69 [1,I 1,0] 1 <|
 .ite 6 (
 Qi 69 [2,I 1,0] 1 <|
 .ite 7 (
 Ql [1,2] <|
 .ite 8 (
 Qi 69 [3,I 1,I 1000] 1 <|
 .ite 9 (
 Qi 69 [4,I 0,I 2] 1 <|
 Qz [10] <|
 .ret [11]) (
 Qz [.k (.bool false)] <|
 .ret [10])) (
 Qz [.k (.bool false)] <|
 .ret [9])) (
 Qz [.k (.bool false)] <|
 .ret [8])) (
 Qz [.k (.bool false)] <|
 .ret [7])) (
 Qz [.k (.bool false)] <|
 .ret [6])
def qM_:Sem1:=Fs p_i_LinkOk [(69,wd_)]
def p_i_ahead:PL :=
 Qu [0,4] <|
 .ite 8 (
 Ql [0,4] <|
 Qz [9] <|
 .ret [10]) (
 Qu [1,5] <|
 .ite 9 (
 Ql [1,5] <|
 Qz [10] <|
 .ret [11]) (
 Ql [3,7] <|
 Qz [10] <|
 .ret [11]))
def jY_:Sem1:=Fs p_i_ahead []
def p_i_less:PL :=
 Ql [1,5] <|
 .ite 8 (
 Qz [.k (.bool true)] <|
 .ret [9]) (
 Qe [1,5] <|
 .ite 9 (
 Ql [0,4] <|
 Qz [10] <|
 .ret [11]) (
 Qz [.k (.bool false)] <|
 .ret [10]))
def kB_:Sem1:=Fs p_i_less []
def p_i_NetOk:PL :=
 Qi 69 [0,I 1,I 6] 1 <|
 Qt [3] <|
 .ite 4 (
 Qz [.k (.bool false)] <|
 .ret [5]) (
 Qn [1] <|
 Qg [5,I 12] <|
 .ite 6 (
 Qz [.k (.bool false)] <|
 .ret [7]) (
 Qn [2] <|
 Qg [7,I 4] <|
 .ite 8 (
 Qz [.k (.bool false)] <|
 .ret [9]) (
 Qn [1] <|
 .loop [.k (.bool false),I 0] (
 Ql [11,9] <|
 .ite 12 (
 Q4 [1,11] <|
 Qi 169 [0,14,15,16,17] 1 <|
 Qt [18] <|
 .ite 19 (
 Qz [.k (.bool false)] <|
 .ret [20]) (
 Qg [11,I 0] <|
 .ite 20 (
 Qs [11,I 1] <|
 Q4 [1,21] <|
 Qi 170 [23,24,25,26,14,15,16,17] 1 <|
 Qt [27] <|
 .ite 28 (
 Qz [.k (.bool false)] <|
 .ret [29]) (
 Qa [11,I 1] <|
 .go 0 [10,29])) (
 Qa [11,I 1] <|
 .go 0 [10,21]))) (
 Qn [2] <|
 .loop [10,I 0] (
 Ql [15,13] <|
 .ite 16 (
 Q4 [2,15] <|
 Qi 69 [19,I 1,I 9] 1 <|
 Qt [22] <|
 .ite 23 (
 Qz [.k (.bool false)] <|
 .ret [24]) (
 Qi 69 [18,I 1,0] 1 <|
 Qt [24] <|
 .ite 25 (
 Qz [.k (.bool false)] <|
 .ret [26]) (
 Qi 69 [20,I 1,I 1000] 1 <|
 Qt [26] <|
 .ite 27 (
 Qz [.k (.bool false)] <|
 .ret [28]) (
 Qg [15,I 0] <|
 .ite 28 (
 Qs [15,I 1] <|
 Q4 [2,29] <|
 Qi 171 [31,32,33,34,18,19,20,21] 1 <|
 Qt [35] <|
 .ite 36 (
 Qz [.k (.bool false)] <|
 .ret [37]) (
 Qa [15,I 1] <|
 .go 0 [14,37])) (
 Qa [15,I 1] <|
 .go 0 [14,29]))))) (
 Qz [.k (.bool true)] <|
 .ret [17])))))))
def jM_:Sem1:=Fs p_i_NetOk [(69,wd_),(169,qM_),(170,jY_),(171,kB_)]
def p_i_linkAt:PL :=
 Qn [1] <|
 .loop [I 0,I 0] (
 Ql [8,6] <|
 .ite 9 (
 Q4 [1,8] <|
 Qe [14,5] <|
 .ite 15 (
 Qe [11,3] <|
 .ite 16 (
 Qe [12,4] <|
 .ite 17 (
 Qz [8] <|
 .ret [18]) (
 Qe [11,4] <|
 .ite 18 (
 Qe [12,3] <|
 .ite 19 (
 Qz [8] <|
 .ret [20]) (
 Qa [8,I 1] <|
 .go 0 [7,20])) (
 Qa [8,I 1] <|
 .go 0 [7,19]))) (
 Qe [11,4] <|
 .ite 17 (
 Qe [12,3] <|
 .ite 18 (
 Qz [8] <|
 .ret [19]) (
 Qa [8,I 1] <|
 .go 0 [7,19])) (
 Qa [8,I 1] <|
 .go 0 [7,18]))) (
 Qa [8,I 1] <|
 .go 0 [7,16])) (
 Qz [.k (.int .i64 (-1))] <|
 .ret [10]))
def vl_:Sem1:=Fs p_i_linkAt []
def p_i_heardOk:PL :=
 Qn [5] <|
 Q (.bin .rem) [7,I 2] <|
 Qu [8,I 0] <|
 .ite 9 (
 Qz [.k (.bool false)] <|
 .ret [10]) (
 .loop [.k (.bool false),I 0] (
 Qn [5] <|
 Ql [11,12] <|
 .ite 13 (
 Q1 [5,11] <|
 Qa [11,I 1] <|
 Q1 [5,16] <|
 Qi 172 [2,3,4,0,15,18] 1 <|
 Ql [19,I 0] <|
 .ite 20 (
 Qz [.k (.bool false)] <|
 .ret [21]) (
 Qg [11,I 0] <|
 .ite 21 (
 Qs [11,I 2] <|
 Q1 [5,22] <|
 Qg [24,15] <|
 .ite 25 (
 Qz [.k (.bool false)] <|
 .ret [26]) (
 Qs [11,I 2] <|
 Q1 [5,26] <|
 Qe [28,15] <|
 .ite 29 (
 Qs [11,I 1] <|
 Q1 [5,30] <|
 Qh [32,18] <|
 .ite 33 (
 Qz [.k (.bool false)] <|
 .ret [34]) (
 Qa [11,I 2] <|
 .go 0 [10,34])) (
 Qa [11,I 2] <|
 .go 0 [10,30]))) (
 Qa [11,I 2] <|
 .go 0 [10,22]))) (
 Qz [.k (.bool true)] <|
 .ret [14])))
def u0_:Sem1:=Fs p_i_heardOk [(172,vl_)]
def p_i_nearOk:PL :=
 Qn [5] <|
 .loop [.k (.bool false),I 0] (
 Ql [10,8] <|
 .ite 11 (
 Q2 [5,10] <|
 Qi 69 [13,I 1,I 6] 1 <|
 Qt [15] <|
 .ite 16 (
 Qz [.k (.bool false)] <|
 .ret [17]) (
 Qe [13,2] <|
 .ite 17 (
 Qz [.k (.bool false)] <|
 .ret [18]) (
 Qi 69 [14,I 1,I 1000] 1 <|
 Qt [18] <|
 .ite 19 (
 Qz [.k (.bool false)] <|
 .ret [20]) (
 Qg [10,I 0] <|
 .ite 20 (
 Qs [10,I 1] <|
 Qb [5,21] <|
 Qc 2 0 [5,21] <|
 Qh [23,13] <|
 .ite 24 (
 Qz [.k (.bool false)] <|
 .ret [25]) (
 Qa [10,I 1] <|
 .go 0 [9,25])) (
 Qa [10,I 1] <|
 .go 0 [9,21]))))) (
 Qz [.k (.bool true)] <|
 .ret [12]))
def qQ_:Sem1:=Fs p_i_nearOk [(69,wd_)]
def p_i_RecordOk:PL :=
 Qi 69 [2,I 1,I 6] 1 <|
 Qt [8] <|
 .ite 9 (
 Qz [.k (.bool false)] <|
 .ret [10]) (
 Qi 69 [4,I 1,I 100000] 1 <|
 Qt [10] <|
 .ite 11 (
 Qz [.k (.bool false)] <|
 .ret [12]) (
 Qe [1,I 1] <|
 .ite 12 (
 Qi 69 [0,I 0,I 2] 1 <|
 .ite 13 (
 Qe [3,I 0] <|
 .ite 14 (
 Qi 222 [0,1,2,3,4,5,6,7] 1 <|
 .ite 15 (
 Qe [6,I 0] <|
 .ite 16 (
 Qt [7] <|
 Qz [17] <|
 .ret [18]) (
 Qz [.k (.bool false)] <|
 .ret [17])) (
 Qz [.k (.bool false)] <|
 .ret [16])) (
 Qz [.k (.bool false)] <|
 .ret [15])) (
 Qz [.k (.bool false)] <|
 .ret [14])) (
 Qe [1,I 2] <|
 .ite 13 (
 Qi 69 [0,I 0,I 2] 1 <|
 .ite 14 (
 Qi 69 [3,I 1,I 6] 1 <|
 .ite 15 (
 Qn [5] <|
 Qe [16,I 0] <|
 .ite 17 (
 Qi 69 [6,I 0,I 60000] 1 <|
 .ite 18 (
 Qt [7] <|
 Qz [19] <|
 .ret [20]) (
 Qz [.k (.bool false)] <|
 .ret [19])) (
 Qz [.k (.bool false)] <|
 .ret [18])) (
 Qz [.k (.bool false)] <|
 .ret [16])) (
 Qz [.k (.bool false)] <|
 .ret [15])) (
 Qe [1,I 3] <|
 .ite 14 (
 Qe [0,I 9] <|
 .ite 15 (
 Qi 69 [3,I 1,I 9] 1 <|
 .ite 16 (
 Qn [5] <|
 Qe [17,I 0] <|
 .ite 18 (
 Qi 69 [6,I 1,I 1000] 1 <|
 .ite 19 (
 Qz [.k (.bool true)] <|
 .ret [20]) (
 Qe [6,I 60000] <|
 Qz [20] <|
 .ret [21])) (
 Qz [.k (.bool false)] <|
 .ret [19])) (
 Qz [.k (.bool false)] <|
 .ret [17])) (
 Qz [.k (.bool false)] <|
 .ret [16])) (
 Qz [.k (.bool false)] <|
 .ret [15])))))
def uu_:Sem1:=Fs p_i_RecordOk [(69,wd_),(222,qQ_)]
def p_i_Before:PL :=
 Qu [0,8] <|
 .ite 16 (
 Ql [0,8] <|
 Qz [17] <|
 .ret [18]) (
 Qu [1,9] <|
 .ite 17 (
 Ql [1,9] <|
 Qz [18] <|
 .ret [19]) (
 Qu [2,10] <|
 .ite 18 (
 Ql [2,10] <|
 Qz [19] <|
 .ret [20]) (
 Ql [3,11] <|
 Qz [19] <|
 .ret [20])))
def vi_:Sem1:=Fs p_i_Before []
def p_i_StoreOk:PL :=
 Qn [0] <|
 .loop [.k (.bool false),I 0] (
 Ql [3,1] <|
 .ite 4 (
 Q8 [0,3] <|
 Qi 173 [6,7,8,9,10,11,12,13] 1 <|
 Qt [14] <|
 .ite 15 (
 Qz [.k (.bool false)] <|
 .ret [16]) (
 Qg [3,I 0] <|
 .ite 16 (
 Qs [3,I 1] <|
 Q8 [0,17] <|
 Qi 162 [19,20,21,22,23,24,25,26,6,7,8,9,10,11,12,13] 1 <|
 Qt [27] <|
 .ite 28 (
 Qz [.k (.bool false)] <|
 .ret [29]) (
 Qa [3,I 1] <|
 .go 0 [2,29])) (
 Qa [3,I 1] <|
 .go 0 [2,17]))) (
 Qn [0] <|
 Qm [5,I 150] <|
 Qz [6] <|
 .ret [7]))
def wV_:Sem1:=Fs p_i_StoreOk [(162,vi_),(173,uu_)]
def p_i_SelfOk:PL :=
 Qi 68 [2,3,4] 1 <|
 .ite 7 (
 Qi 69 [0,I 1,2] 1 <|
 .ite 8 (
 Qi 69 [1,I 0,I 90] 1 <|
 .ite 9 (
 Qi 70 [0,1,2,3,4,5,6] 1 <|
 .ite 10 (
 Qi 71 [6] 1 <|
 Qz [11] <|
 .ret [12]) (
 Qz [.k (.bool false)] <|
 .ret [11])) (
 Qz [.k (.bool false)] <|
 .ret [10])) (
 Qz [.k (.bool false)] <|
 .ret [9])) (
 Qz [.k (.bool false)] <|
 .ret [8])
def wg_:Sem1:=Fs p_i_SelfOk [(68,jM_),(69,wd_),(70,u0_),(71,wV_)]
def p_i_AreasOf:PL :=
 Qn [1] <|
 .loop [.e,I 0] (
 Ql [6,4] <|
 .ite 7 (
 Q4 [1,6] <|
 Qe [9,3] <|
 .ite 13 (
 .join (
 Qa [6,I 1] <|
 .go 0 [14,15]) (
 .loop [I 0] (
 Qn [5] <|
 Ql [14,15] <|
 .ite 16 (
 Qq [5,14] <|
 Ql [18,12] <|
 .ite 19 (
 Qa [14,I 1] <|
 .go 0 [20]) (
 Qn [5] <|
 Ql [14,20] <|
 .ite 21 (
 Qq [5,14] <|
 Qe [23,12] <|
 .ite 24 (
 .go 1 [5]) (
 Qw [5,14] <|
 Qi 156 [25] 1 <|
 Qx [12] <|
 Qp [26,27] <|
 Qv [5,14] <|
 Qp [28,29] <|
 .go 1 [30])) (
 Qw [5,14] <|
 Qi 156 [22] 1 <|
 Qx [12] <|
 Qp [23,24] <|
 Qv [5,14] <|
 Qp [25,26] <|
 .go 1 [27]))) (
 Qn [5] <|
 Ql [14,17] <|
 .ite 18 (
 Qq [5,14] <|
 Qe [20,12] <|
 .ite 21 (
 .go 1 [5]) (
 Qw [5,14] <|
 Qi 156 [22] 1 <|
 Qx [12] <|
 Qp [23,24] <|
 Qv [5,14] <|
 Qp [25,26] <|
 .go 1 [27])) (
 Qw [5,14] <|
 Qi 156 [19] 1 <|
 Qx [12] <|
 Qp [20,21] <|
 Qv [5,14] <|
 Qp [22,23] <|
 .go 1 [24]))))) (
 Qe [10,3] <|
 .join (
 Qa [6,I 1] <|
 .go 0 [15,16]) (
 .ite 14 (
 .loop [I 0] (
 Qn [5] <|
 Ql [15,16] <|
 .ite 17 (
 Qq [5,15] <|
 Ql [19,12] <|
 .ite 20 (
 Qa [15,I 1] <|
 .go 0 [21]) (
 Qn [5] <|
 Ql [15,21] <|
 .ite 22 (
 Qq [5,15] <|
 Qe [24,12] <|
 .ite 25 (
 .go 1 [5]) (
 Qw [5,15] <|
 Qi 156 [26] 1 <|
 Qx [12] <|
 Qp [27,28] <|
 Qv [5,15] <|
 Qp [29,30] <|
 .go 1 [31])) (
 Qw [5,15] <|
 Qi 156 [23] 1 <|
 Qx [12] <|
 Qp [24,25] <|
 Qv [5,15] <|
 Qp [26,27] <|
 .go 1 [28]))) (
 Qn [5] <|
 Ql [15,18] <|
 .ite 19 (
 Qq [5,15] <|
 Qe [21,12] <|
 .ite 22 (
 .go 1 [5]) (
 Qw [5,15] <|
 Qi 156 [23] 1 <|
 Qx [12] <|
 Qp [24,25] <|
 Qv [5,15] <|
 Qp [26,27] <|
 .go 1 [28])) (
 Qw [5,15] <|
 Qi 156 [20] 1 <|
 Qx [12] <|
 Qp [21,22] <|
 Qv [5,15] <|
 Qp [23,24] <|
 .go 1 [25])))) (
 .go 0 [5])))) (
 .ret [5]))
def xX_:Sem1:=Fs p_i_AreasOf [(156,ya_)]
def p_i_CostTo:PL :=
 Qi 172 [0,1,2,3,4,5] 1 <|
 Qh [6,I 0] <|
 .ite 7 (
 Qb [1,6] <|
 Qc 4 2 [1,6] <|
 Qz [9] <|
 .ret [10]) (
 Qz [I 0] <|
 .ret [8])
def qW_:Sem1:=Fs p_i_CostTo [(172,vl_)]
def p_i_own:PL :=
 Qi 74 [2,3,4,0] 1 <|
 Qn [7] <|
 .loop [.e,I 0] (
 Ql [10,8] <|
 .ite 11 (
 Qq [7,10] <|
 .loop [I 0,.e] (
 Qn [5] <|
 Ql [14,16] <|
 .ite 17 (
 Qa [14,I 1] <|
 Q1 [5,18] <|
 Qe [20,13] <|
 .join (
 Qa [14,I 2] <|
 .go 0 [23,22]) (
 .ite 21 (
 Q1 [5,14] <|
 Q1 [5,14] <|
 Qi 174 [2,3,4,0,25,13] 1 <|
 Q (.lit 2 [true,true]) [23,26] <|
 Q (.app true 2) [15,27] <|
 .go 0 [28]) (
 .go 0 [15]))) (
 Q (.lit 8 [true,true,true,true,true,false,true,true]) [13,I 1,0,I 0,I 0,15,I 0,.k (.bool false)] <|
 Qy [9,18] <|
 Qa [10,I 1] <|
 .go 1 [19,20]))) (
 .ret [9]))
def abe_:Sem1:=Fs p_i_own [(74,xX_),(174,qW_)]
def p_i_SameKey:PL :=
 Qe [0,8] <|
 .ite 16 (
 Qe [1,9] <|
 .ite 17 (
 Qe [2,10] <|
 .ite 18 (
 Qe [3,11] <|
 Qz [19] <|
 .ret [20]) (
 Qz [.k (.bool false)] <|
 .ret [19])) (
 Qz [.k (.bool false)] <|
 .ret [18])) (
 Qz [.k (.bool false)] <|
 .ret [17])
def x0_:Sem1:=Fs p_i_SameKey []
def p_i_put:PL :=
 .loop [I 0] (
 Qn [0] <|
 Ql [9,10] <|
 .ite 11 (
 Q8 [0,9] <|
 Qi 162 [13,14,15,16,17,18,19,20,1,2,3,4,5,6,7,8] 1 <|
 .ite 21 (
 Qa [9,I 1] <|
 .go 0 [22]) (
 Q (.sub 8 false true) [0,9] <|
 Qi 56 [22] 1 <|
 Qi 161 [1,2,3,4,5,6,7,8] 8 <|
 Q (.lit 8 [true,true,true,true,true,false,true,true]) [24,25,26,27,28,29,30,31] <|
 Qy [23,32] <|
 Qn [0] <|
 Ql [9,34] <|
 .ite 35 (
 Q8 [0,9] <|
 Qi 163 [37,38,39,40,41,42,43,44,1,2,3,4,5,6,7,8] 1 <|
 .join (
 Q (.sub 8 true false) [0,46] <|
 Qi 56 [47] 1 <|
 Qy [33,48] <|
 .ret [49]) (
 .ite 45 (
 Qa [9,I 1] <|
 .go 0 [46]) (
 .go 0 [9]))) (
 .join (
 Q (.sub 8 true false) [0,36] <|
 Qi 56 [37] 1 <|
 Qy [33,38] <|
 .ret [39]) (
 .go 0 [9])))) (
 Q (.sub 8 false true) [0,9] <|
 Qi 56 [12] 1 <|
 Qi 161 [1,2,3,4,5,6,7,8] 8 <|
 Q (.lit 8 [true,true,true,true,true,false,true,true]) [14,15,16,17,18,19,20,21] <|
 Qy [13,22] <|
 Qn [0] <|
 Ql [9,24] <|
 .ite 25 (
 Q8 [0,9] <|
 Qi 163 [27,28,29,30,31,32,33,34,1,2,3,4,5,6,7,8] 1 <|
 .join (
 Q (.sub 8 true false) [0,36] <|
 Qi 56 [37] 1 <|
 Qy [23,38] <|
 .ret [39]) (
 .ite 35 (
 Qa [9,I 1] <|
 .go 0 [36]) (
 .go 0 [9]))) (
 .join (
 Q (.sub 8 true false) [0,26] <|
 Qi 56 [27] 1 <|
 Qy [23,28] <|
 .ret [29]) (
 .go 0 [9]))))
def x6_:Sem1:=Fs p_i_put [(56,y4_),(161,x7_),(162,vi_),(163,x0_)]
def p_i_hasInt:PL :=
 Qn [0] <|
 .loop [.k (.bool false),I 0] (
 Ql [4,2] <|
 .ite 5 (
 Q1 [0,4] <|
 Qe [7,1] <|
 .ite 8 (
 Qz [.k (.bool true)] <|
 .ret [9]) (
 Qa [4,I 1] <|
 .go 0 [3,9])) (
 Qz [.k (.bool false)] <|
 .ret [6]))
def wh_:Sem1:=Fs p_i_hasInt []
def p_i_Border:PL :=
 Qi 74 [0,1,2,3] 1 <|
 Qi 175 [4,I 0] 1 <|
 .ite 5 (
 Qn [4] <|
 Qg [6,I 1] <|
 Qz [7] <|
 .ret [8]) (
 Qz [.k (.bool false)] <|
 .ret [6])
def qI_:Sem1:=Fs p_i_Border [(74,xX_),(175,wh_)]
def p_i_by:PL :=
 Qn [0] <|
 .loop [.e,I 0] (
 Ql [5,3] <|
 .ite 6 (
 Q8 [0,5] <|
 Qu [9,I 1] <|
 .ite 16 (
 .join (
 Qa [5,I 1] <|
 .go 0 [17,18]) (
 Q (.lit 8 []) [8,9,10,11,12,13,14,15] <|
 Qy [4,17] <|
 .go 0 [18])) (
 Qu [10,1] <|
 .join (
 Qa [5,I 1] <|
 .go 0 [18,19]) (
 .ite 17 (
 Q (.lit 8 []) [8,9,10,11,12,13,14,15] <|
 Qy [4,18] <|
 .go 0 [19]) (
 .go 0 [4])))) (
 Qn [2] <|
 .loop [4,I 0] (
 Ql [9,7] <|
 .ite 10 (
 Q8 [2,9] <|
 Qi 57 [8,12,13,14,15,I 1,17,18,19] 1 <|
 Qa [9,I 1] <|
 .go 0 [20,21]) (
 .ret [8]))))
def afv_:Sem1:=Fs p_i_by [(57,x6_)]
def p_i_keyAt:PL :=
 Qn [0] <|
 .loop [I 0,I 0] (
 Ql [11,9] <|
 .ite 12 (
 Q8 [0,11] <|
 Qi 163 [14,15,16,17,18,19,20,21,1,2,3,4,5,6,7,8] 1 <|
 .ite 22 (
 Qz [11] <|
 .ret [23]) (
 Qa [11,I 1] <|
 .go 0 [10,23])) (
 Qz [.k (.int .i64 (-1))] <|
 .ret [13]))
def xj_:Sem1:=Fs p_i_keyAt [(163,x0_)]
def p_i_told:PL :=
 Qi 157 [0,1,I 1,2,I 0,I 0,.e,I 0,.k (.bool false)] 1 <|
 Ql [4,I 0] <|
 .ite 5 (
 Qz [I 0] <|
 .ret [6]) (
 Qb [0,4] <|
 Qc 8 5 [0,4] <|
 Qn [7] <|
 .loop [I 0,I 0] (
 Ql [10,8] <|
 .ite 11 (
 Q2 [7,10] <|
 Qe [13,3] <|
 .ite 15 (
 Qz [14] <|
 .ret [16]) (
 Qa [10,I 1] <|
 .go 0 [9,16])) (
 Qz [I 0] <|
 .ret [12])))
def kG_:Sem1:=Fs p_i_told [(157,xj_)]
def p_i_Linked:PL :=
 Qi 244 [0,1,3,2] 1 <|
 Qe [4,I 0] <|
 .ite 5 (
 Qz [I 0] <|
 .ret [6]) (
 Qi 244 [0,1,2,3] 1 <|
 Qz [6] <|
 .ret [7])
def qB_:Sem1:=Fs p_i_Linked [(244,kG_)]
def p_i_copyWay:PL :=
 Qi 156 [2] 1 <|
 Qz [1] <|
 Qz [0] <|
 .ret [5,4,3]
def yF_:Sem1:=Fs p_i_copyWay [(156,ya_)]
def p_i_Together:PL :=
 Qg [4,1] <|
 .ite 6 (
 Qi 224 [0,1,2] 3 <|
 Qz [8] <|
 Qz [7] <|
 .ret [11,10,9]) (
 Qg [1,4] <|
 .ite 7 (
 Qi 224 [3,4,5] 3 <|
 Qz [9] <|
 Qz [8] <|
 .ret [12,11,10]) (
 Qn [2] <|
 .loop [I 0,.e] (
 Ql [9,8] <|
 .ite 11 (
 Q1 [2,9] <|
 .loop [I 0] (
 Qn [10] <|
 Ql [14,15] <|
 .ite 16 (
 Qq [10,14] <|
 Ql [18,13] <|
 .ite 19 (
 Qa [14,I 1] <|
 .go 0 [20]) (
 Qn [10] <|
 Ql [14,20] <|
 .ite 21 (
 Qq [10,14] <|
 Qe [23,13] <|
 .ite 24 (
 Qa [9,I 1] <|
 .go 1 [25,10]) (
 Qw [10,14] <|
 Qi 156 [25] 1 <|
 Qx [13] <|
 Qp [26,27] <|
 Qv [10,14] <|
 Qp [28,29] <|
 Qa [9,I 1] <|
 .go 1 [31,30])) (
 Qw [10,14] <|
 Qi 156 [22] 1 <|
 Qx [13] <|
 Qp [23,24] <|
 Qv [10,14] <|
 Qp [25,26] <|
 Qa [9,I 1] <|
 .go 1 [28,27]))) (
 Qn [10] <|
 Ql [14,17] <|
 .ite 18 (
 Qq [10,14] <|
 Qe [20,13] <|
 .ite 21 (
 Qa [9,I 1] <|
 .go 1 [22,10]) (
 Qw [10,14] <|
 Qi 156 [22] 1 <|
 Qx [13] <|
 Qp [23,24] <|
 Qv [10,14] <|
 Qp [25,26] <|
 Qa [9,I 1] <|
 .go 1 [28,27])) (
 Qw [10,14] <|
 Qi 156 [19] 1 <|
 Qx [13] <|
 Qp [20,21] <|
 Qv [10,14] <|
 Qp [22,23] <|
 Qa [9,I 1] <|
 .go 1 [25,24])))) (
 Qn [5] <|
 .loop [I 0,10] (
 Ql [13,12] <|
 .ite 15 (
 Q1 [5,13] <|
 .loop [I 0] (
 Qn [14] <|
 Ql [18,19] <|
 .ite 20 (
 Qq [14,18] <|
 Ql [22,17] <|
 .ite 23 (
 Qa [18,I 1] <|
 .go 0 [24]) (
 Qn [14] <|
 Ql [18,24] <|
 .ite 25 (
 Qq [14,18] <|
 Qe [27,17] <|
 .ite 28 (
 Qa [13,I 1] <|
 .go 1 [29,14]) (
 Qw [14,18] <|
 Qi 156 [29] 1 <|
 Qx [17] <|
 Qp [30,31] <|
 Qv [14,18] <|
 Qp [32,33] <|
 Qa [13,I 1] <|
 .go 1 [35,34])) (
 Qw [14,18] <|
 Qi 156 [26] 1 <|
 Qx [17] <|
 Qp [27,28] <|
 Qv [14,18] <|
 Qp [29,30] <|
 Qa [13,I 1] <|
 .go 1 [32,31]))) (
 Qn [14] <|
 Ql [18,21] <|
 .ite 22 (
 Qq [14,18] <|
 Qe [24,17] <|
 .ite 25 (
 Qa [13,I 1] <|
 .go 1 [26,14]) (
 Qw [14,18] <|
 Qi 156 [26] 1 <|
 Qx [17] <|
 Qp [27,28] <|
 Qv [14,18] <|
 Qp [29,30] <|
 Qa [13,I 1] <|
 .go 1 [32,31])) (
 Qw [14,18] <|
 Qi 156 [23] 1 <|
 Qx [17] <|
 Qp [24,25] <|
 Qv [14,18] <|
 Qp [26,27] <|
 Qa [13,I 1] <|
 .go 1 [29,28])))) (
 Qz [1] <|
 Qz [0] <|
 .ret [17,16,14]))))))
def yN_:Sem1:=Fs p_i_Together [(156,ya_),(224,yF_)]
def p_i_WaysIn:PL :=
 Qi 71 [0] 1 <|
 Qt [3] <|
 .ite 4 (
 .ret [.e]) (
 Qi 69 [2,I 1,I 6] 1 <|
 Qt [5] <|
 .ite 6 (
 .ret [.e]) (
 Qi 157 [0,1,I 1,2,I 0,I 0,.e,I 0,.k (.bool false)] 1 <|
 Ql [7,I 0] <|
 .ite 8 (
 .ret [.e]) (
 Q (.mk) [I 7,I 7,I 0,I 0,.e] <|
 Qb [9,2] <|
 Q (.put true 3 0 1) [9,2,2] <|
 .loop [.e,11] (
 .loop [I 0,I 1] (
 Qm [15,I 6] <|
 .ite 16 (
 Qb [13,15] <|
 Q (.scell 3 0) [13,15] <|
 Qu [18,I 0] <|
 .ite 19 (
 Qi 175 [12,15] 1 <|
 Qt [20] <|
 .ite 21 (
 Qe [14,I 0] <|
 .ite 22 (
 .join (
 Qa [15,I 1] <|
 .go 0 [23,24]) (
 .go 0 [15])) (
 Qb [13,15] <|
 Q (.scell 3 1) [13,15] <|
 Qb [13,14] <|
 Q (.scell 3 1) [13,14] <|
 Ql [24,26] <|
 .join (
 Qa [15,I 1] <|
 .go 0 [28,29]) (
 .ite 27 (
 .go 0 [15]) (
 .go 0 [14])))) (
 .join (
 Qa [15,I 1] <|
 .go 0 [22,23]) (
 .go 0 [14]))) (
 .join (
 Qa [15,I 1] <|
 .go 0 [20,21]) (
 .go 0 [14]))) (
 Qe [14,I 0] <|
 .ite 17 (
 Qn [13] <|
 .loop [.e,I 0,13] (
 Ql [20,18] <|
 .ite 22 (
 Qb [13,20] <|
 Q (.scell 3 0) [13,20] <|
 Q (.scell 3 1) [13,20] <|
 Q (.dig 3 2) [13,20] <|
 Q (.tk1) [21,20] <|
 Qu [24,I 0] <|
 .join (
 Qa [20,I 1] <|
 .go 0 [29,30,27]) (
 .ite 28 (
 Q (.lit 3 [true,true,false]) [24,25,26] <|
 Qo [19,29] <|
 .go 0 [30]) (
 .go 0 [19]))) (
 .ret [19]))) (
 Qx [14] <|
 Qp [12,18] <|
 .loop [I 1,13] (
 Qm [20,I 6] <|
 .ite 22 (
 Qi 239 [0,1,14,20] 1 <|
 Qe [23,I 0] <|
 .ite 24 (
 Qa [20,I 1] <|
 .go 0 [25,21]) (
 Qe [20,2] <|
 .ite 25 (
 Qa [20,I 1] <|
 .go 0 [26,21]) (
 Qb [21,14] <|
 Q (.scell 3 1) [21,14] <|
 Qa [27,23] <|
 Qb [21,14] <|
 Qc 3 2 [21,14] <|
 Qi 156 [30] 1 <|
 Qe [14,2] <|
 .join (
 Q3 [21,20] <|
 Qe [35,I 0] <|
 .ite 38 (
 .join (
 Qa [20,I 1] <|
 .go 0 [40,39]) (
 Qb [21,20] <|
 Q (.putD [true,true,false] 3 0) [21,20,20,28,33] <|
 .go 0 [40])) (
 Ql [28,36] <|
 .join (
 Qa [20,I 1] <|
 .go 0 [41,40]) (
 .ite 39 (
 Qb [21,20] <|
 Q (.putD [true,true,false] 3 0) [21,20,20,28,33] <|
 .go 0 [41]) (
 Qe [28,36] <|
 .join (
 .go 0 [41]) (
 .ite 40 (
 Qi 227 [35,36,37,20,28,33] 3 <|
 Qb [21,20] <|
 Q (.putD [true,true,false] 3 0) [21,20,41,42,43] <|
 .go 0 [45]) (
 .go 0 [21])))))) (
 .ite 32 (
 Qx [20] <|
 .go 0 [33]) (
 .go 0 [31]))))) (
 .go 2 [19,21])))))))))
def wj_:Sem1:=Fs p_i_WaysIn [(69,wd_),(71,wV_),(156,ya_),(157,xj_),(175,wh_),(227,yN_),(239,qB_)]
def p_i_WayTo:PL :=
 Qn [0] <|
 .loop [.k (.bool false),I 0] (
 Ql [4,2] <|
 .ite 5 (
 Q3 [0,4] <|
 Qe [7,1] <|
 .ite 10 (
 Qi 224 [7,8,9] 3 <|
 Qz [.k (.bool true)] <|
 Qz [12] <|
 Qz [11] <|
 .ret [16,15,13,14]) (
 Qa [4,I 1] <|
 .go 0 [3,11])) (
 Qz [.k (.bool false)] <|
 Qz [I 0] <|
 Qz [I 0] <|
 .ret [8,7,.e,6]))
def vT_:Sem1:=Fs p_i_WayTo [(224,yF_)]
def p_i_RoutesWithin:PL :=
 Qn [1] <|
 .loop [.e,I 0] (
 Ql [5,3] <|
 .ite 6 (
 Q1 [1,5] <|
 Qi 176 [0,8,2] 1 <|
 Qn [9] <|
 .loop [4,I 0,9] (
 Ql [12,10] <|
 .ite 14 (
 Q3 [13,12] <|
 .loop [I 0] (
 Qn [11] <|
 Ql [19,20] <|
 .ite 21 (
 Qb [11,19] <|
 Q (.scell 3 0) [11,19] <|
 Ql [23,16] <|
 .ite 24 (
 Qa [19,I 1] <|
 .go 0 [25]) (
 Qn [11] <|
 Ql [19,25] <|
 .ite 26 (
 Qb [11,19] <|
 Q (.scell 3 0) [11,19] <|
 Qe [28,16] <|
 .ite 29 (
 Q3 [11,19] <|
 Qi 227 [31,32,33,16,17,18] 3 <|
 Qb [11,19] <|
 Q (.putD [true,true,false] 3 0) [11,19,34,35,36] <|
 Qa [12,I 1] <|
 .go 1 [38,39,13]) (
 Q (.sub 3 false true) [11,19] <|
 Q (.tkn) [11,I 0,30] <|
 Qo [.e,30] <|
 Qi 224 [16,17,18] 3 <|
 Q (.lit 3 [true,true,false]) [33,34,35] <|
 Qo [32,36] <|
 Q (.sub 3 true false) [11,19] <|
 Q (.tkn) [31,19,38] <|
 Qo [37,38] <|
 Qa [12,I 1] <|
 .go 1 [40,41,13])) (
 Q (.sub 3 false true) [11,19] <|
 Q (.tkn) [11,I 0,27] <|
 Qo [.e,27] <|
 Qi 224 [16,17,18] 3 <|
 Q (.lit 3 [true,true,false]) [30,31,32] <|
 Qo [29,33] <|
 Q (.sub 3 true false) [11,19] <|
 Q (.tkn) [28,19,35] <|
 Qo [34,35] <|
 Qa [12,I 1] <|
 .go 1 [37,38,13]))) (
 Qn [11] <|
 Ql [19,22] <|
 .ite 23 (
 Qb [11,19] <|
 Q (.scell 3 0) [11,19] <|
 Qe [25,16] <|
 .ite 26 (
 Q3 [11,19] <|
 Qi 227 [28,29,30,16,17,18] 3 <|
 Qb [11,19] <|
 Q (.putD [true,true,false] 3 0) [11,19,31,32,33] <|
 Qa [12,I 1] <|
 .go 1 [35,36,13]) (
 Q (.sub 3 false true) [11,19] <|
 Q (.tkn) [11,I 0,27] <|
 Qo [.e,27] <|
 Qi 224 [16,17,18] 3 <|
 Q (.lit 3 [true,true,false]) [30,31,32] <|
 Qo [29,33] <|
 Q (.sub 3 true false) [11,19] <|
 Q (.tkn) [28,19,35] <|
 Qo [34,35] <|
 Qa [12,I 1] <|
 .go 1 [37,38,13])) (
 Q (.sub 3 false true) [11,19] <|
 Q (.tkn) [11,I 0,24] <|
 Qo [.e,24] <|
 Qi 224 [16,17,18] 3 <|
 Q (.lit 3 [true,true,false]) [27,28,29] <|
 Qo [26,30] <|
 Q (.sub 3 true false) [11,19] <|
 Q (.tkn) [25,19,32] <|
 Qo [31,32] <|
 Qa [12,I 1] <|
 .go 1 [34,35,13])))) (
 Qa [5,I 1] <|
 .go 1 [11,15]))) (
 .ret [4]))
def xB_:Sem1:=Fs p_i_RoutesWithin [(176,wj_),(224,yF_),(227,yN_)]
def p_i_RoutesBeyond:PL :=
 Qi 179 [0,1,3] 1 <|
 Qn [0] <|
 .loop [.e,I 0] (
 Ql [7,5] <|
 .ite 8 (
 Q8 [0,7] <|
 Qu [11,I 2] <|
 .ite 18 (
 Qa [7,I 1] <|
 .go 0 [6,19]) (
 Qh [16,I 60000] <|
 .ite 19 (
 Qa [7,I 1] <|
 .go 0 [6,20]) (
 Qe [12,3] <|
 .ite 20 (
 Qa [7,I 1] <|
 .go 0 [6,21]) (
 Qi 175 [1,10] 1 <|
 Qt [21] <|
 .ite 22 (
 Qa [7,I 1] <|
 .go 0 [6,23]) (
 .ite 2 (
 Qu [10,I 0] <|
 .ite 23 (
 Qa [7,I 1] <|
 .go 0 [6,24]) (
 Qi 178 [4,13] 4 <|
 Qi 176 [0,10,3] 1 <|
 Qi 178 [28,12] 4 <|
 .ite 27 (
 Qa [7,I 1] <|
 .go 0 [6,33]) (
 Qt [32] <|
 .ite 33 (
 Qa [7,I 1] <|
 .go 0 [6,34]) (
 Qa [16,30] <|
 Qh [34,I 60000] <|
 .ite 35 (
 Qa [7,I 1] <|
 .go 0 [6,36]) (
 Qa [16,30] <|
 .loop [I 0] (
 Qn [6] <|
 Ql [37,38] <|
 .ite 39 (
 Qb [6,37] <|
 Q (.scell 3 0) [6,37] <|
 Ql [41,13] <|
 .ite 42 (
 Qa [37,I 1] <|
 .go 0 [43]) (
 Qn [6] <|
 Ql [37,43] <|
 .ite 44 (
 Qb [6,37] <|
 Q (.scell 3 0) [6,37] <|
 Qe [46,13] <|
 .ite 47 (
 Q3 [6,37] <|
 Qi 227 [49,50,51,13,36,31] 3 <|
 Qb [6,37] <|
 Q (.putD [true,true,false] 3 0) [6,37,52,53,54] <|
 Qa [7,I 1] <|
 .go 1 [56,57]) (
 Q (.sub 3 false true) [6,37] <|
 Q (.tkn) [6,I 0,48] <|
 Qo [.e,48] <|
 Qi 224 [13,36,31] 3 <|
 Q (.lit 3 [true,true,false]) [51,52,53] <|
 Qo [50,54] <|
 Q (.sub 3 true false) [6,37] <|
 Q (.tkn) [49,37,56] <|
 Qo [55,56] <|
 Qa [7,I 1] <|
 .go 1 [58,59])) (
 Q (.sub 3 false true) [6,37] <|
 Q (.tkn) [6,I 0,45] <|
 Qo [.e,45] <|
 Qi 224 [13,36,31] 3 <|
 Q (.lit 3 [true,true,false]) [48,49,50] <|
 Qo [47,51] <|
 Q (.sub 3 true false) [6,37] <|
 Q (.tkn) [46,37,53] <|
 Qo [52,53] <|
 Qa [7,I 1] <|
 .go 1 [55,56]))) (
 Qn [6] <|
 Ql [37,40] <|
 .ite 41 (
 Qb [6,37] <|
 Q (.scell 3 0) [6,37] <|
 Qe [43,13] <|
 .ite 44 (
 Q3 [6,37] <|
 Qi 227 [46,47,48,13,36,31] 3 <|
 Qb [6,37] <|
 Q (.putD [true,true,false] 3 0) [6,37,49,50,51] <|
 Qa [7,I 1] <|
 .go 1 [53,54]) (
 Q (.sub 3 false true) [6,37] <|
 Q (.tkn) [6,I 0,45] <|
 Qo [.e,45] <|
 Qi 224 [13,36,31] 3 <|
 Q (.lit 3 [true,true,false]) [48,49,50] <|
 Qo [47,51] <|
 Q (.sub 3 true false) [6,37] <|
 Q (.tkn) [46,37,53] <|
 Qo [52,53] <|
 Qa [7,I 1] <|
 .go 1 [55,56])) (
 Q (.sub 3 false true) [6,37] <|
 Q (.tkn) [6,I 0,42] <|
 Qo [.e,42] <|
 Qi 224 [13,36,31] 3 <|
 Q (.lit 3 [true,true,false]) [45,46,47] <|
 Qo [44,48] <|
 Q (.sub 3 true false) [6,37] <|
 Q (.tkn) [43,37,50] <|
 Qo [49,50] <|
 Qa [7,I 1] <|
 .go 1 [52,53])))))))) (
 Qi 178 [4,13] 4 <|
 Qi 176 [0,10,3] 1 <|
 Qi 178 [27,12] 4 <|
 .ite 26 (
 Qa [7,I 1] <|
 .go 0 [6,32]) (
 Qt [31] <|
 .ite 32 (
 Qa [7,I 1] <|
 .go 0 [6,33]) (
 Qa [16,29] <|
 Qh [33,I 60000] <|
 .ite 34 (
 Qa [7,I 1] <|
 .go 0 [6,35]) (
 Qa [16,29] <|
 .loop [I 0] (
 Qn [6] <|
 Ql [36,37] <|
 .ite 38 (
 Qb [6,36] <|
 Q (.scell 3 0) [6,36] <|
 Ql [40,13] <|
 .ite 41 (
 Qa [36,I 1] <|
 .go 0 [42]) (
 Qn [6] <|
 Ql [36,42] <|
 .ite 43 (
 Qb [6,36] <|
 Q (.scell 3 0) [6,36] <|
 Qe [45,13] <|
 .ite 46 (
 Q3 [6,36] <|
 Qi 227 [48,49,50,13,35,30] 3 <|
 Qb [6,36] <|
 Q (.putD [true,true,false] 3 0) [6,36,51,52,53] <|
 Qa [7,I 1] <|
 .go 1 [55,56]) (
 Q (.sub 3 false true) [6,36] <|
 Q (.tkn) [6,I 0,47] <|
 Qo [.e,47] <|
 Qi 224 [13,35,30] 3 <|
 Q (.lit 3 [true,true,false]) [50,51,52] <|
 Qo [49,53] <|
 Q (.sub 3 true false) [6,36] <|
 Q (.tkn) [48,36,55] <|
 Qo [54,55] <|
 Qa [7,I 1] <|
 .go 1 [57,58])) (
 Q (.sub 3 false true) [6,36] <|
 Q (.tkn) [6,I 0,44] <|
 Qo [.e,44] <|
 Qi 224 [13,35,30] 3 <|
 Q (.lit 3 [true,true,false]) [47,48,49] <|
 Qo [46,50] <|
 Q (.sub 3 true false) [6,36] <|
 Q (.tkn) [45,36,52] <|
 Qo [51,52] <|
 Qa [7,I 1] <|
 .go 1 [54,55]))) (
 Qn [6] <|
 Ql [36,39] <|
 .ite 40 (
 Qb [6,36] <|
 Q (.scell 3 0) [6,36] <|
 Qe [42,13] <|
 .ite 43 (
 Q3 [6,36] <|
 Qi 227 [45,46,47,13,35,30] 3 <|
 Qb [6,36] <|
 Q (.putD [true,true,false] 3 0) [6,36,48,49,50] <|
 Qa [7,I 1] <|
 .go 1 [52,53]) (
 Q (.sub 3 false true) [6,36] <|
 Q (.tkn) [6,I 0,44] <|
 Qo [.e,44] <|
 Qi 224 [13,35,30] 3 <|
 Q (.lit 3 [true,true,false]) [47,48,49] <|
 Qo [46,50] <|
 Q (.sub 3 true false) [6,36] <|
 Q (.tkn) [45,36,52] <|
 Qo [51,52] <|
 Qa [7,I 1] <|
 .go 1 [54,55])) (
 Q (.sub 3 false true) [6,36] <|
 Q (.tkn) [6,I 0,41] <|
 Qo [.e,41] <|
 Qi 224 [13,35,30] 3 <|
 Q (.lit 3 [true,true,false]) [44,45,46] <|
 Qo [43,47] <|
 Q (.sub 3 true false) [6,36] <|
 Q (.tkn) [42,36,49] <|
 Qo [48,49] <|
 Qa [7,I 1] <|
 .go 1 [51,52])))))))))))) (
 .ret [6]))
def wS_:Sem1:=Fs p_i_RoutesBeyond [(175,wh_),(176,wj_),(178,vT_),(179,xB_),(224,yF_),(227,yN_)]
def p_i_Beyond:PL :=
 Qn [1] <|
 .loop [.e,I 0] (
 Ql [6,4] <|
 .ite 7 (
 Q1 [1,6] <|
 Qu [9,3] <|
 .join (
 Qa [6,I 1] <|
 .go 0 [11,12]) (
 .ite 10 (
 Qx [9] <|
 Qp [5,11] <|
 .go 0 [12]) (
 .go 0 [5]))) (
 Qi 176 [0,3,2] 1 <|
 Qi 179 [0,5,2] 1 <|
 Qn [9] <|
 .loop [I 0,.e,9] (
 Ql [11,10] <|
 .ite 14 (
 Q3 [13,11] <|
 Qi 178 [8,16] 4 <|
 Qt [22] <|
 .ite 23 (
 Qu [16,2] <|
 .ite 24 (
 Qi 157 [12,3,I 2,2,16,I 0,.e,17,.k (.bool false)] 1 <|
 Ql [25,I 0] <|
 .join (
 Qa [11,I 1] <|
 .go 0 [28,27,13]) (
 .ite 26 (
 Qi 57 [12,3,I 2,2,16,I 0,.e,17,.k (.bool false)] 1 <|
 .go 0 [27]) (
 .go 0 [12]))) (
 .join (
 Qa [11,I 1] <|
 .go 0 [26,25,13]) (
 .go 0 [12]))) (
 .join (
 Qa [11,I 1] <|
 .go 0 [25,24,13]) (
 .go 0 [12]))) (
 Qu [3,I 0] <|
 .join (
 .ret [16]) (
 .ite 15 (
 Qi 180 [0,1,.k (.bool true),2] 1 <|
 Qn [16] <|
 .loop [I 0,12,16] (
 Ql [18,17] <|
 .ite 21 (
 Q3 [20,18] <|
 Qi 178 [8,23] 4 <|
 Qt [29] <|
 .ite 30 (
 Qu [23,2] <|
 .ite 31 (
 Qi 157 [19,3,I 2,2,23,I 0,.e,24,.k (.bool false)] 1 <|
 Ql [32,I 0] <|
 .join (
 Qa [18,I 1] <|
 .go 0 [35,34,20]) (
 .ite 33 (
 Qi 57 [19,3,I 2,2,23,I 0,.e,24,.k (.bool false)] 1 <|
 .go 0 [34]) (
 .go 0 [19]))) (
 .join (
 Qa [18,I 1] <|
 .go 0 [33,32,20]) (
 .go 0 [19]))) (
 .join (
 Qa [18,I 1] <|
 .go 0 [32,31,20]) (
 .go 0 [19]))) (
 .go 1 [19]))) (
 .go 0 [12]))))))
def q1_:Sem1:=Fs p_i_Beyond [(57,x6_),(157,xj_),(176,wj_),(178,vT_),(179,xB_),(180,wS_)]
def p_i_Wanted:PL :=
 Qi 13 [0,1,2,3,4,5,6] 1 <|
 Qt [7] <|
 .ite 8 (
 .ret [.e]) (
 Qi 73 [0,1,2,3,4,5,6] 1 <|
 Qn [9] <|
 .loop [.e,I 0,9] (
 Ql [12,10] <|
 .ite 14 (
 Q8 [13,12] <|
 Qi 57 [11,16,17,18,19,20,21,22,23] 1 <|
 Qa [12,I 1] <|
 .go 0 [24,25,13]) (
 Qi 74 [2,3,4,0] 1 <|
 Qi 75 [2,3,4,0] 1 <|
 .join (
 Qn [4] <|
 .loop [17,I 0] (
 Ql [23,21] <|
 .ite 24 (
 Q4 [4,23] <|
 Qe [26,0] <|
 .join (
 Qa [23,I 1] <|
 .go 0 [31,32]) (
 .ite 30 (
 Qi 57 [22,I 9,I 3,0,27,I 0,.e,28,29] 1 <|
 .go 0 [31]) (
 .go 0 [22]))) (
 .ret [22]))) (
 .ite 16 (
 Qi 76 [6,0,13] 1 <|
 Qn [15] <|
 .loop [11,I 0] (
 Ql [20,18] <|
 .ite 21 (
 Qq [15,20] <|
 Qi 77 [17,15,0,23] 1 <|
 Qn [24] <|
 .loop [19,I 0,24] (
 Ql [27,25] <|
 .ite 29 (
 Q8 [28,27] <|
 Qi 57 [26,31,32,33,34,35,36,37,38] 1 <|
 Qa [27,I 1] <|
 .go 0 [39,40,28]) (
 Qa [20,I 1] <|
 .go 1 [26,30]))) (
 .go 1 [19,13,13,13]))) (
 .go 0 [11,13,13,13])))))
def wZ_:Sem1:=Fs p_i_Wanted [(13,wg_),(57,x6_),(73,abe_),(74,xX_),(75,qI_),(76,afv_),(77,q1_)]
def p_i_SameBody:PL :=
 Qi 163 [0,1,2,3,4,5,6,7,8,9,10,11,12,13,14,15] 1 <|
 Qt [16] <|
 .ite 17 (
 Qz [.k (.bool false)] <|
 .ret [18]) (
 Qu [6,14] <|
 .ite 18 (
 Qz [.k (.bool false)] <|
 .ret [19]) (
 Q (.bb .neq) [7,15] <|
 .ite 19 (
 Qz [.k (.bool false)] <|
 .ret [20]) (
 Qn [5] <|
 Qn [13] <|
 Qu [20,21] <|
 .ite 22 (
 Qz [.k (.bool false)] <|
 .ret [23]) (
 Qn [5] <|
 .loop [.k (.bool false),I 0] (
 Ql [25,23] <|
 .ite 26 (
 Q2 [5,25] <|
 Q2 [13,25] <|
 Q (.eqs [1,1]) [28,29,31,32] <|
 Qt [33] <|
 .ite 34 (
 Qz [.k (.bool false)] <|
 .ret [35]) (
 Qa [25,I 1] <|
 .go 0 [24,35])) (
 Qz [.k (.bool true)] <|
 .ret [27]))))))
def ug_:Sem1:=Fs p_i_SameBody [(163,x0_)]
def p_i_seqOf:PL :=
 Qi 157 [6,7,8,9,10,11,12,13,14] 1 <|
 Qh [15,I 0] <|
 .join (
 Qa [17,I 1] <|
 Q (.bin .mul) [I 1000,1] <|
 Qa [19,I 1] <|
 Q (.mx) [18,20] <|
 Qz [21] <|
 .ret [22]) (
 .ite 16 (
 Qb [6,15] <|
 Qc 8 4 [6,15] <|
 .go 0 [18]) (
 .go 0 [I 0]))
def jG_:Sem1:=Fs p_i_seqOf [(157,xj_)]
def p_i_gone:PL :=
 Qu [1,I 1] <|
 .join (
 Qz [7] <|
 Qz [9] <|
 Qz [4] <|
 Qz [3] <|
 Qz [2] <|
 Qz [1] <|
 Qz [0] <|
 .ret [16,15,14,13,12,.e,11,10]) (
 .ite 8 (
 .go 0 [I 60000]) (
 .go 0 [6]))
def kE_:Sem1:=Fs p_i_gone []
def p_i_fresh:PL :=
 Qi 18 [0,1,2,3,4,5,6] 1 <|
 Qn [7] <|
 .loop [.e,I 0,7] (
 Ql [10,8] <|
 .ite 12 (
 Q8 [11,10] <|
 Qi 157 [6,14,15,16,17,18,19,20,21] 1 <|
 Ql [22,I 0] <|
 .ite 23 (
 .join (
 Qa [10,I 1] <|
 .go 0 [24,26,11]) (
 Qi 159 [0,1,2,3,4,5,6,14,15,16,17,18,19,20,21] 1 <|
 Qi 57 [9,14,15,16,17,24,19,20,21] 1 <|
 .go 0 [25,24])) (
 Q8 [6,22] <|
 Qi 158 [25,26,27,28,29,30,31,32,14,15,16,17,18,19,20,21] 1 <|
 Qt [33] <|
 .join (
 Qa [10,I 1] <|
 .go 0 [35,37,11]) (
 .ite 34 (
 Qi 159 [0,1,2,3,4,5,6,14,15,16,17,18,19,20,21] 1 <|
 Qi 57 [9,14,15,16,17,35,19,20,21] 1 <|
 .go 0 [36,35]) (
 .go 0 [9,18])))) (
 Qn [6] <|
 .loop [9,I 0] (
 Ql [15,13] <|
 .ite 16 (
 Q8 [6,15] <|
 Qu [20,0] <|
 .ite 26 (
 Qa [15,I 1] <|
 .go 0 [14,27]) (
 Qi 157 [11,18,19,20,21,22,23,24,25] 1 <|
 Qh [27,I 0] <|
 .ite 28 (
 Qa [15,I 1] <|
 .go 0 [14,29]) (
 Qi 160 [18,19,20,21,22,23,24,25] 8 <|
 Qi 158 [29,30,31,32,33,34,35,36,18,19,20,21,22,23,24,25] 1 <|
 Qt [37] <|
 .join (
 Qa [15,I 1] <|
 .go 0 [39,41]) (
 .ite 38 (
 Qi 159 [0,1,2,3,4,5,6,18,19,20,21,22,23,24,25] 1 <|
 Qi 57 [14,29,30,31,32,39,34,35,36] 1 <|
 .go 0 [40,39]) (
 .go 0 [14,33]))))) (
 .ret [14]))))
def jR_:Sem1:=Fs p_i_fresh [(18,wZ_),(57,x6_),(157,xj_),(158,ug_),(159,jG_),(160,kE_)]
def p_i_Renew:PL :=
 Qi 54 [0,1,2,3,4,5,6] 7 <|
 Qi 13 [0,1,2,3,4,5,6] 1 <|
 Qt [14] <|
 .ite 15 (
 Qz [9] <|
 Qz [8] <|
 Qz [7] <|
 .ret [18,17,16,10,11,12,13,.e]) (
 Qi 55 [0,1,2,3,4,5,6] 1 <|
 Qi 56 [6] 1 <|
 Qn [16] <|
 .loop [.e,17,I 0] (
 Ql [21,18] <|
 .ite 22 (
 Qb [16,21] <|
 Q (.scell 8 0) [16,21] <|
 Q (.scell 8 1) [16,21] <|
 Q (.scell 8 2) [16,21] <|
 Q (.scell 8 3) [16,21] <|
 Q (.scell 8 4) [16,21] <|
 Q (.dig 8 5) [16,21] <|
 Q (.scell 8 6) [16,21] <|
 Q (.scell 8 7) [16,21] <|
 Qg [28,I 100000] <|
 .ite 32 (
 Qz [9] <|
 Qz [8] <|
 Qz [7] <|
 .ret [35,34,33,10,11,12,13,.e]) (
 Q (.dig 8 5) [16,21] <|
 Qi 57 [20,24,25,26,27,28,33,30,31] 1 <|
 Qa [21,I 1] <|
 .go 0 [19,34,35])) (
 Qn [20] <|
 Qg [23,I 150] <|
 .ite 24 (
 Qz [9] <|
 Qz [8] <|
 Qz [7] <|
 .ret [27,26,25,10,11,12,13,.e]) (
 Qz [9] <|
 Qz [8] <|
 Qz [7] <|
 .ret [27,26,25,10,11,12,20,16]))))
def jF_:Sem1:=Fs p_i_Renew [(13,wg_),(54,ud_),(55,jR_),(56,y4_),(57,x6_)]
def p_s_l08Heard:PL :=
 Qn [5] <|
 Q (.bin .rem) [7,I 2] <|
 Qe [8,I 1] <|
 .ite 9 (
 Qz [.k (.bool false)] <|
 .ret [10]) (
 Qn [5] <|
 Qg [10,I 60] <|
 .ite 11 (
 Qz [.k (.bool false)] <|
 .ret [12]) (
 .loop [.k (.bool false),I 0] (
 Qn [5] <|
 Ql [13,14] <|
 .ite 15 (
 Q1 [5,13] <|
 Qa [13,I 1] <|
 Q1 [5,18] <|
 Qi 150 [2,3,4,0,17,20] 1 <|
 Qe [21,I 0] <|
 .ite 22 (
 Qz [.k (.bool false)] <|
 .ret [23]) (
 Qg [13,I 0] <|
 .ite 23 (
 Qs [13,I 2] <|
 Q1 [5,24] <|
 Qg [26,17] <|
 .ite 27 (
 Qz [.k (.bool false)] <|
 .ret [28]) (
 Qs [13,I 2] <|
 Q1 [5,28] <|
 Qe [30,17] <|
 .ite 31 (
 Qs [13,I 1] <|
 Q1 [5,32] <|
 Qh [34,20] <|
 .ite 35 (
 Qz [.k (.bool false)] <|
 .ret [36]) (
 Qa [13,I 2] <|
 .go 0 [12,36])) (
 Qa [13,I 2] <|
 .go 0 [12,32]))) (
 Qa [13,I 2] <|
 .go 0 [12,24]))) (
 Qz [.k (.bool true)] <|
 .ret [16]))))
def uj_:Sem1:=Fs p_s_l08Heard [(150,xE_)]
def p_s_SelfOk:PL :=
 Qi 132 [2,3,4] 1 <|
 .ite 7 (
 Qi 105 [0,I 1,2] 1 <|
 .ite 8 (
 Qi 105 [1,I 0,I 90] 1 <|
 .ite 9 (
 Qi 164 [0,1,2,3,4,5,6] 1 <|
 .ite 10 (
 Qi 106 [6] 1 <|
 Qz [11] <|
 .ret [12]) (
 Qz [.k (.bool false)] <|
 .ret [11])) (
 Qz [.k (.bool false)] <|
 .ret [10])) (
 Qz [.k (.bool false)] <|
 .ret [9])) (
 Qz [.k (.bool false)] <|
 .ret [8])
def vg_:Sem1:=Fs p_s_SelfOk [(105,yt_),(106,xf_),(132,vQ_),(164,uj_)]
def p_s_l08Copy:PL :=
 Q (.lit 4 []) [] <|
 Q (.app true 4) [7,3] <|
 Q (.lit 4 []) [] <|
 Q (.app true 4) [9,4] <|
 Q (.lit 1 []) [] <|
 Qp [11,5] <|
 Qi 66 [6] 1 <|
 Qz [2] <|
 Qz [1] <|
 Qz [0] <|
 .ret [16,15,14,8,10,12,13]
def u1_:Sem1:=Fs p_s_l08Copy [(66,z8_)]
def p_s_l08Node:PL :=
 .loop [I 0,.e] (
 Qn [5] <|
 Ql [8,10] <|
 .ite 11 (
 Qa [8,I 1] <|
 Q1 [5,12] <|
 Qe [14,7] <|
 .join (
 Qa [8,I 2] <|
 .go 0 [17,16]) (
 .ite 15 (
 Q1 [5,8] <|
 Q1 [5,8] <|
 Qi 150 [2,3,4,0,19,7] 1 <|
 Q (.lit 2 [true,true]) [17,20] <|
 Q (.app true 2) [9,21] <|
 .go 0 [22]) (
 .go 0 [9]))) (
 Qz [.k (.bool false)] <|
 Qz [I 0] <|
 Qz [I 0] <|
 Qz [I 0] <|
 Qz [0] <|
 Qz [I 1] <|
 Qz [7] <|
 .ret [18,17,16,15,14,9,13,12]))
def u7_:Sem1:=Fs p_s_l08Node [(150,xE_)]
def p_s_Wanted:PL :=
 Q (.lit 8 []) [] <|
 Qi 58 [0,1,2,3,4,5,6] 1 <|
 Qt [8] <|
 .ite 9 (
 .ret [7]) (
 Qi 20 [2,3,4,0] 1 <|
 Q (.lit 8 []) [] <|
 .loop [11,I 0] (
 Qn [10] <|
 Ql [13,14] <|
 .ite 15 (
 Q1 [10,13] <|
 Qi 165 [0,1,2,3,4,5,6,17] 8 <|
 Q (.lit 8 []) [18,19,20,21,22,23,24,25] <|
 Qy [12,26] <|
 Qa [13,I 1] <|
 .go 0 [27,28]) (
 Q (.lit 8 []) [] <|
 Qy [16,12] <|
 Qi 166 [2,3,4,0] 1 <|
 .join (
 .loop [19,I 0] (
 Qn [4] <|
 Ql [23,24] <|
 .ite 25 (
 Q4 [4,23] <|
 Qe [27,0] <|
 .join (
 Qa [23,I 1] <|
 .go 0 [32,33]) (
 .ite 31 (
 Q (.lit 8 [true,true,true,true,true,false,true,true]) [I 9,I 3,0,28,I 0,.e,29,30] <|
 Qy [22,32] <|
 .go 0 [33]) (
 .go 0 [22]))) (
 .loop [7,I 0] (
 Qn [22] <|
 Ql [27,28] <|
 .ite 29 (
 Q8 [22,27] <|
 Qi 62 [26,31,32,33,34,35,36,37,38] 1 <|
 Qa [27,I 1] <|
 .go 0 [39,40]) (
 Qi 66 [26] 1 <|
 .ret [30]))))) (
 .ite 18 (
 Qi 67 [6,12] 1 <|
 .loop [17,I 0] (
 Qn [10] <|
 Ql [21,22] <|
 .ite 23 (
 Q1 [10,21] <|
 Qi 167 [19,10,0,25] 1 <|
 Qy [20,26] <|
 Qa [21,I 1] <|
 .go 0 [27,28]) (
 .go 1 [20,12,12]))) (
 .go 0 [17,12,12])))))
def qK_:Sem1:=Fs p_s_Wanted [(20,xe_),(58,vg_),(62,yS_),(66,z8_),(67,xZ_),(165,u7_),(166,vm_),(167,vh_)]
def p_s_Find:PL :=
 Qi 63 [0,1,2,3,4,5,6,7,8] 1 <|
 Ql [9,I 0] <|
 .ite 10 (
 Qz [.k (.bool false)] <|
 Qz [.k (.bool false)] <|
 Qz [I 0] <|
 Qz [I 0] <|
 Qz [I 0] <|
 Qz [I 0] <|
 Qz [I 0] <|
 Qz [I 0] <|
 .ret [18,17,16,15,14,.e,13,12,11]) (
 Q8 [0,9] <|
 Qi 65 [12,13,14,15,16,17,18,19] 8 <|
 Qz [.k (.bool true)] <|
 Qz [27] <|
 Qz [26] <|
 Qz [24] <|
 Qz [23] <|
 Qz [22] <|
 Qz [21] <|
 Qz [20] <|
 .ret [35,34,33,32,31,25,30,29,28])
def vF_:Sem1:=Fs p_s_Find [(63,xU_),(65,x1_)]
def p_s_SameBody:PL :=
 Qi 72 [0,1,2,3,4,5,6,7,8,9,10,11,12,13,14,15] 1 <|
 Qt [16] <|
 .ite 17 (
 Qz [.k (.bool false)] <|
 .ret [18]) (
 Qu [6,14] <|
 .ite 18 (
 Qz [.k (.bool false)] <|
 .ret [19]) (
 Q (.bb .neq) [7,15] <|
 .ite 19 (
 Qz [.k (.bool false)] <|
 .ret [20]) (
 Qn [5] <|
 Qn [13] <|
 Qu [20,21] <|
 .ite 22 (
 Qz [.k (.bool false)] <|
 .ret [23]) (
 .loop [.k (.bool false),I 0] (
 Qn [5] <|
 Ql [24,25] <|
 .ite 26 (
 Q2 [5,24] <|
 Q2 [13,24] <|
 Q (.eqs [1,1]) [28,29,31,32] <|
 Qt [33] <|
 .ite 34 (
 Qz [.k (.bool false)] <|
 .ret [35]) (
 Qa [24,I 1] <|
 .go 0 [23,35])) (
 Qz [.k (.bool true)] <|
 .ret [27]))))))
def wB_:Sem1:=Fs p_s_SameBody [(72,xY_)]
def p_s_l08Seq:PL :=
 Q (.bin .mul) [I 1000,1] <|
 Ql [7,8] <|
 .ite 9 (
 Q (.bin .mul) [I 1000,1] <|
 Qa [10,I 1] <|
 Qz [11] <|
 .ret [12]) (
 Qa [7,I 1] <|
 Qz [10] <|
 .ret [11])
def qH_:Sem1:=Fs p_s_l08Seq []
def p_s_l08Bare:PL :=
 Qe [1,I 1] <|
 .ite 8 (
 Q (.lit 2 []) [] <|
 Qz [7] <|
 Qz [6] <|
 Qz [4] <|
 Qz [3] <|
 Qz [2] <|
 Qz [1] <|
 Qz [0] <|
 .ret [16,15,14,13,12,9,11,10]) (
 Qz [7] <|
 Qz [I 60000] <|
 Qz [4] <|
 Qz [3] <|
 Qz [2] <|
 Qz [1] <|
 Qz [0] <|
 .ret [15,14,13,12,11,5,10,9])
def uY_:Sem1:=Fs p_s_l08Bare []
def p_s_Renew:PL :=
 Qi 58 [0,1,2,3,4,5,6] 1 <|
 Qt [7] <|
 .ite 8 (
 Qi 59 [0,1,2,3,4,5,6] 7 <|
 Q (.lit 8 []) [] <|
 Qz [11] <|
 Qz [10] <|
 Qz [9] <|
 .ret [19,18,17,12,13,14,15,16]) (
 Qi 60 [0,1,2,3,4,5,6] 1 <|
 Q (.lit 8 []) [] <|
 .loop [10,I 0] (
 Qn [9] <|
 Ql [12,13] <|
 .ite 14 (
 Q8 [9,12] <|
 Qi 15 [6,16,17,18,19,20,21,22,23] 9 <|
 .ite 32 (
 Q8 [9,12] <|
 Qi 19 [24,25,26,27,28,29,30,31,34,35,36,37,38,39,40,41] 1 <|
 .ite 42 (
 Qa [12,I 1] <|
 .go 0 [11,43]) (
 Q8 [9,12] <|
 Qi 61 [0,1,2,3,4,5,6,28] 1 <|
 Qi 62 [11,44,45,46,47,52,49,50,51] 1 <|
 Qa [12,I 1] <|
 .go 0 [53,54])) (
 Q8 [9,12] <|
 Qi 61 [0,1,2,3,4,5,6,28] 1 <|
 Qi 62 [11,34,35,36,37,42,39,40,41] 1 <|
 Qa [12,I 1] <|
 .go 0 [43,44])) (
 .loop [11,I 0] (
 Qn [6] <|
 Ql [16,17] <|
 .ite 18 (
 Q8 [6,16] <|
 Qu [22,0] <|
 .ite 28 (
 Qa [16,I 1] <|
 .go 0 [15,29]) (
 Qi 63 [9,20,21,22,23,24,25,26,27] 1 <|
 Qh [29,I 0] <|
 .ite 30 (
 Qa [16,I 1] <|
 .go 0 [15,31]) (
 Qi 65 [20,21,22,23,24,25,26,27] 8 <|
 Qi 64 [31,32,33,34,35,36,37,38] 8 <|
 Qi 19 [39,40,41,42,43,44,45,46,20,21,22,23,24,25,26,27] 1 <|
 .ite 47 (
 Qa [16,I 1] <|
 .go 0 [15,48]) (
 Qi 65 [20,21,22,23,24,25,26,27] 8 <|
 Qi 64 [48,49,50,51,52,53,54,55] 8 <|
 Qi 61 [0,1,2,3,4,5,6,24] 1 <|
 Qi 62 [15,56,57,58,59,64,61,62,63] 1 <|
 Qa [16,I 1] <|
 .go 0 [65,66])))) (
 .loop [.e,I 0] (
 Qn [15] <|
 Ql [20,21] <|
 .ite 22 (
 Qb [15,20] <|
 Qc 8 4 [15,20] <|
 Qg [24,I 100000] <|
 .ite 25 (
 Qi 59 [0,1,2,3,4,5,6] 7 <|
 Q (.lit 8 []) [] <|
 Qz [28] <|
 Qz [27] <|
 Qz [26] <|
 .ret [36,35,34,29,30,31,32,33]) (
 Qa [20,I 1] <|
 .go 0 [19,26])) (
 Qi 59 [0,1,2,3,4,5,6] 7 <|
 Qi 67 [6,15] 1 <|
 Qi 66 [30] 1 <|
 Qn [31] <|
 Qg [32,I 150] <|
 .ite 33 (
 Qi 59 [0,1,2,3,4,5,6] 7 <|
 Q (.lit 8 []) [] <|
 Qz [36] <|
 Qz [35] <|
 Qz [34] <|
 .ret [44,43,42,37,38,39,40,41]) (
 Qi 66 [15] 1 <|
 Qz [25] <|
 Qz [24] <|
 Qz [23] <|
 .ret [37,36,35,26,27,28,31,34]))))))))
def jC_:Sem1:=Fs p_s_Renew [(15,vF_),(19,wB_),(58,vg_),(59,u1_),(60,qK_),(61,qH_),(62,yS_),(63,xU_),(64,uY_),(65,x1_),(66,z8_),(67,xZ_)]
def p_same:PL :=
 .ins (.pr (.bin .neq) [.a 0,.a 8]) <|
 .ite 16 (
  .ins (.pr (.scl) [.k (.bool false)]) <|
  .ret [.a 17]) (
  .ins (.pr (.bin .neq) [.a 1,.a 9]) <|
  .ite 17 (
  .ins (.pr (.scl) [.k (.bool false)]) <|
  .ret [.a 18]) (
  .ins (.pr (.bin .neq) [.a 2,.a 10]) <|
  .ite 18 (
   .ins (.pr (.scl) [.k (.bool false)]) <|
   .ret [.a 19]) (
   .ins (.pr (.bin .neq) [.a 3,.a 11]) <|
   .ite 19 (
   .ins (.pr (.scl) [.k (.bool false)]) <|
   .ret [.a 20]) (
   .ins (.pr (.bin .neq) [.a 4,.a 12]) <|
   .ite 20 (
    .ins (.pr (.scl) [.k (.bool false)]) <|
    .ret [.a 21]) (
    .ins (.pr (.bin .neq) [.a 6,.a 14]) <|
    .ite 21 (
    .ins (.pr (.scl) [.k (.bool false)]) <|
    .ret [.a 22]) (
    .ins (.pr (.bb .neq) [.a 7,.a 15]) <|
    .ite 22 (
     .ins (.pr (.scl) [.k (.bool false)]) <|
     .ret [.a 23]) (
     .ins (.pr (.len) [.a 5]) <|
     .ins (.pr (.len) [.a 13]) <|
     .ins (.pr (.bin .neq) [.a 23,.a 24]) <|
     .ite 25 (
     .ins (.pr (.scl) [.k (.bool false)]) <|
     .ret [.a 26]) (
     .loop [.k (.bool false),.k (.int .i64 0)] (
      .ins (.pr (.len) [.a 5]) <|
      .ins (.pr (.bin .lss) [.a 27,.a 28]) <|
      .ite 29 (
      .ins (.pr (.bnd) [.a 5,.a 27]) <|
      .ins (.pr (.cell 2 0) [.a 5,.a 27]) <|
      .ins (.pr (.cell 2 1) [.a 5,.a 27]) <|
      .ins (.pr (.bnd) [.a 13,.a 27]) <|
      .ins (.pr (.cell 2 0) [.a 13,.a 27]) <|
      .ins (.pr (.cell 2 1) [.a 13,.a 27]) <|
      .ins (.pr (.eqs [1,1]) [.a 31,.a 32,.a 34,.a 35]) <|
      .ins (.pr (.un .not) [.a 36]) <|
      .ite 37 (
       .ins (.pr (.scl) [.k (.bool false)]) <|
       .ret [.a 38]) (
       .ins (.pr (.bin .add) [.a 27,.k (.int .i64 1)]) <|
       .go 0 [.a 26,.a 38])) (
      .ins (.pr (.scl) [.k (.bool true)]) <|
      .ret [.a 30]))))))))))
def aOp_:Nat→Sem1:=pick []
def jb_:Sem1:=fun ts=>p_same.den aOp_ rounds [] ts
def p_sameStore:PL :=
 .ins (.pr (.len) [.a 0]) <|
 .ins (.pr (.len) [.a 1]) <|
 .ins (.pr (.bin .neq) [.a 2,.a 3]) <|
 .ite 4 (
  .ins (.pr (.scl) [.k (.bool false)]) <|
  .ret [.a 5]) (
  .loop [.k (.bool false),.k (.int .i64 0)] (
  .ins (.pr (.len) [.a 0]) <|
  .ins (.pr (.bin .lss) [.a 6,.a 7]) <|
  .ite 8 (
   .ins (.pr (.bnd) [.a 0,.a 6]) <|
   .ins (.pr (.cell 8 0) [.a 0,.a 6]) <|
   .ins (.pr (.cell 8 1) [.a 0,.a 6]) <|
   .ins (.pr (.cell 8 2) [.a 0,.a 6]) <|
   .ins (.pr (.cell 8 3) [.a 0,.a 6]) <|
   .ins (.pr (.cell 8 4) [.a 0,.a 6]) <|
   .ins (.pr (.cell 8 5) [.a 0,.a 6]) <|
   .ins (.pr (.cell 8 6) [.a 0,.a 6]) <|
   .ins (.pr (.cell 8 7) [.a 0,.a 6]) <|
   .ins (.pr (.bnd) [.a 1,.a 6]) <|
   .ins (.pr (.cell 8 0) [.a 1,.a 6]) <|
   .ins (.pr (.cell 8 1) [.a 1,.a 6]) <|
   .ins (.pr (.cell 8 2) [.a 1,.a 6]) <|
   .ins (.pr (.cell 8 3) [.a 1,.a 6]) <|
   .ins (.pr (.cell 8 4) [.a 1,.a 6]) <|
   .ins (.pr (.cell 8 5) [.a 1,.a 6]) <|
   .ins (.pr (.cell 8 6) [.a 1,.a 6]) <|
   .ins (.pr (.cell 8 7) [.a 1,.a 6]) <|
   .ins (.cl 16 [.a 10,.a 11,.a 12,.a 13,.a 14,.a 15,.a 16,.a 17,.a 19,.a 20,.a 21,.a 22,.a 23,.a 24,.a 25,.a 26] 1) <|
   .ins (.pr (.un .not) [.a 27]) <|
   .ite 28 (
   .ins (.pr (.scl) [.k (.bool false)]) <|
   .ret [.a 29]) (
   .ins (.pr (.bin .add) [.a 6,.k (.int .i64 1)]) <|
   .go 0 [.a 5,.a 29])) (
   .ins (.pr (.scl) [.k (.bool true)]) <|
   .ret [.a 9])))
def ayk_:Nat→Sem1:=pick [(16,jb_)]
def u4_:Sem1:=fun ts=>p_sameStore.den ayk_ rounds [] ts
def p_newest:PL :=
 .loop [.k (.int .i64 0),.k (.int .i64 0)] (
  .ins (.pr (.len) [.a 0]) <|
  .ins (.pr (.bin .lss) [.a 10,.a 11]) <|
  .ite 12 (
  .ins (.pr (.bnd) [.a 0,.a 10]) <|
  .ins (.pr (.cell 8 0) [.a 0,.a 10]) <|
  .ins (.pr (.cell 8 1) [.a 0,.a 10]) <|
  .ins (.pr (.cell 8 2) [.a 0,.a 10]) <|
  .ins (.pr (.cell 8 3) [.a 0,.a 10]) <|
  .ins (.pr (.cell 8 4) [.a 0,.a 10]) <|
  .ins (.pr (.cell 8 5) [.a 0,.a 10]) <|
  .ins (.pr (.cell 8 6) [.a 0,.a 10]) <|
  .ins (.pr (.cell 8 7) [.a 0,.a 10]) <|
  .ins (.cl 72 [.a 14,.a 15,.a 16,.a 17,.a 18,.a 19,.a 20,.a 21,.a 1,.a 2,.a 3,.a 4,.a 5,.a 6,.a 7,.a 8] 1) <|
  .ite 22 (
   .ins (.pr (.bnd) [.a 0,.a 10]) <|
   .ins (.pr (.cell 8 4) [.a 0,.a 10]) <|
   .ins (.pr (.bin .gtr) [.a 24,.a 9]) <|
   .join (
   .ins (.pr (.bin .add) [.a 10,.k (.int .i64 1)]) <|
   .go 0 [.a 26,.a 27]) (
   .ite 25 (
    .ins (.pr (.bnd) [.a 0,.a 10]) <|
    .ins (.pr (.cell 8 4) [.a 0,.a 10]) <|
    .go 0 [.a 27]) (
    .go 0 [.a 9]))) (
   .join (
   .ins (.pr (.bin .add) [.a 10,.k (.int .i64 1)]) <|
   .go 0 [.a 23,.a 24]) (
   .go 0 [.a 9]))) (
  .ins (.pr (.scl) [.a 9]) <|
  .ret [.a 13]))
def aJl_:Nat→Sem1:=pick [(72,xY_)]
def kt_:Sem1:=fun ts=>p_newest.den aJl_ rounds [] ts
def p_FnRenews:PL :=
 .ins (.cl 9 [.a 0] 1) <|
 .ite 1 (
  .ins (.pr (.scl) [.k (.bool true)]) <|
  .ret [.a 2]) (
  .ins (.cl 10 [.a 0] 7) <|
  .ins (.cl 11 [.a 2,.a 3,.a 4,.a 5,.a 6,.a 7,.a 8] 8) <|
  .ins (.cl 11 [.a 9,.a 10,.a 11,.a 12,.a 13,.a 14,.a 15] 8) <|
  .ins (.cl 12 [.a 2,.a 3,.a 4,.a 5,.a 6,.a 7,.a 8] 8) <|
  .ins (.cl 13 [.a 2,.a 3,.a 4,.a 5,.a 6,.a 7,.a 8] 1) <|
  .ins (.pr (.un .not) [.a 33]) <|
  .ite 34 (
  .ins (.pr (.scl) [.k (.bool false)]) <|
  .ret [.a 35]) (
  .ins (.cl 13 [.a 9,.a 10,.a 11,.a 12,.a 13,.a 14,.a 15] 1) <|
  .ins (.pr (.un .not) [.a 35]) <|
  .ite 36 (
   .ins (.pr (.scl) [.k (.bool false)]) <|
   .ret [.a 37]) (
   .ins (.cl 14 [.a 16,.a 32] 1) <|
   .ins (.pr (.un .not) [.a 37]) <|
   .ite 38 (
   .ins (.pr (.scl) [.k (.bool false)]) <|
   .ret [.a 39]) (
   .loop [.k (.bool false),.k (.int .i64 0)] (
    .ins (.pr (.len) [.a 16]) <|
    .ins (.pr (.bin .lss) [.a 40,.a 41]) <|
    .ite 42 (
    .ins (.pr (.bnd) [.a 16,.a 40]) <|
    .ins (.pr (.scell 8 0) [.a 16,.a 40]) <|
    .ins (.pr (.scell 8 1) [.a 16,.a 40]) <|
    .ins (.pr (.scell 8 2) [.a 16,.a 40]) <|
    .ins (.pr (.scell 8 3) [.a 16,.a 40]) <|
    .ins (.pr (.scell 8 4) [.a 16,.a 40]) <|
    .ins (.pr (.dig 8 5) [.a 16,.a 40]) <|
    .ins (.pr (.scell 8 6) [.a 16,.a 40]) <|
    .ins (.pr (.scell 8 7) [.a 16,.a 40]) <|
    .ins (.pr (.dig 8 5) [.a 16,.a 40]) <|
    .ins (.cl 15 [.a 15,.a 44,.a 45,.a 46,.a 47,.a 48,.a 52,.a 50,.a 51] 9) <|
    .ins (.pr (.bnd) [.a 16,.a 40]) <|
    .ins (.pr (.scell 8 2) [.a 16,.a 40]) <|
    .ins (.pr (.bin .neq) [.a 63,.a 2]) <|
    .ite 64 (
     .ins (.pr (.scl) [.k (.bool false)]) <|
     .ret [.a 65]) (
     .ins (.pr (.un .not) [.a 61]) <|
     .ite 65 (
     .ins (.pr (.scl) [.k (.bool false)]) <|
     .ret [.a 66]) (
     .ins (.pr (.bnd) [.a 16,.a 40]) <|
     .ins (.pr (.scell 8 0) [.a 16,.a 40]) <|
     .ins (.pr (.scell 8 1) [.a 16,.a 40]) <|
     .ins (.pr (.scell 8 2) [.a 16,.a 40]) <|
     .ins (.pr (.scell 8 3) [.a 16,.a 40]) <|
     .ins (.pr (.scell 8 4) [.a 16,.a 40]) <|
     .ins (.pr (.dig 8 5) [.a 16,.a 40]) <|
     .ins (.pr (.scell 8 6) [.a 16,.a 40]) <|
     .ins (.pr (.scell 8 7) [.a 16,.a 40]) <|
     .ins (.pr (.dig 8 5) [.a 16,.a 40]) <|
     .ins (.cl 16 [.a 53,.a 54,.a 55,.a 56,.a 57,.a 58,.a 59,.a 60,.a 67,.a 68,.a 69,.a 70,.a 71,.a 75,.a 73,.a 74] 1) <|
     .ins (.pr (.un .not) [.a 76]) <|
     .ite 77 (
      .ins (.pr (.scl) [.k (.bool false)]) <|
      .ret [.a 78]) (
      .ins (.pr (.bnd) [.a 16,.a 40]) <|
      .ins (.pr (.scell 8 4) [.a 16,.a 40]) <|
      .ins (.pr (.bnd) [.a 16,.a 40]) <|
      .ins (.pr (.scell 8 0) [.a 16,.a 40]) <|
      .ins (.pr (.scell 8 1) [.a 16,.a 40]) <|
      .ins (.pr (.scell 8 2) [.a 16,.a 40]) <|
      .ins (.pr (.scell 8 3) [.a 16,.a 40]) <|
      .ins (.pr (.scell 8 4) [.a 16,.a 40]) <|
      .ins (.pr (.dig 8 5) [.a 16,.a 40]) <|
      .ins (.pr (.scell 8 6) [.a 16,.a 40]) <|
      .ins (.pr (.scell 8 7) [.a 16,.a 40]) <|
      .ins (.pr (.dig 8 5) [.a 16,.a 40]) <|
      .ins (.cl 17 [.a 8,.a 81,.a 82,.a 83,.a 84,.a 85,.a 89,.a 87,.a 88] 1) <|
      .ins (.pr (.bin .leq) [.a 79,.a 90]) <|
      .ite 91 (
      .ins (.pr (.scl) [.k (.bool false)]) <|
      .ret [.a 92]) (
      .ins (.pr (.bnd) [.a 16,.a 40]) <|
      .ins (.pr (.scell 8 4) [.a 16,.a 40]) <|
      .ins (.pr (.bin .mul) [.k (.int .i64 1000),.a 3]) <|
      .ins (.pr (.bin .leq) [.a 93,.a 94]) <|
      .ite 95 (
       .ins (.pr (.scl) [.k (.bool false)]) <|
       .ret [.a 96]) (
       .ins (.pr (.bin .add) [.a 40,.k (.int .i64 1)]) <|
       .go 0 [.a 39,.a 96])))))) (
    .loop [.a 39,.k (.int .i64 0)] (
     .ins (.pr (.len) [.a 8]) <|
     .ins (.pr (.bin .lss) [.a 44,.a 45]) <|
     .ite 46 (
     .ins (.pr (.bnd) [.a 8,.a 44]) <|
     .ins (.pr (.cell 8 0) [.a 8,.a 44]) <|
     .ins (.pr (.cell 8 1) [.a 8,.a 44]) <|
     .ins (.pr (.cell 8 2) [.a 8,.a 44]) <|
     .ins (.pr (.cell 8 3) [.a 8,.a 44]) <|
     .ins (.pr (.cell 8 4) [.a 8,.a 44]) <|
     .ins (.pr (.cell 8 5) [.a 8,.a 44]) <|
     .ins (.pr (.cell 8 6) [.a 8,.a 44]) <|
     .ins (.pr (.cell 8 7) [.a 8,.a 44]) <|
     .ins (.cl 17 [.a 16,.a 48,.a 49,.a 50,.a 51,.a 52,.a 53,.a 54,.a 55] 1) <|
     .ins (.pr (.bin .eql) [.a 56,.k (.int .i64 0)]) <|
     .join (
      .ins (.pr (.bin .add) [.a 44,.k (.int .i64 1)]) <|
      .go 0 [.a 43,.a 58]) (
      .ite 57 (
      .ins (.pr (.bnd) [.a 8,.a 44]) <|
      .ins (.pr (.cell 8 0) [.a 8,.a 44]) <|
      .ins (.pr (.cell 8 1) [.a 8,.a 44]) <|
      .ins (.pr (.cell 8 2) [.a 8,.a 44]) <|
      .ins (.pr (.cell 8 3) [.a 8,.a 44]) <|
      .ins (.pr (.cell 8 4) [.a 8,.a 44]) <|
      .ins (.pr (.cell 8 5) [.a 8,.a 44]) <|
      .ins (.pr (.cell 8 6) [.a 8,.a 44]) <|
      .ins (.pr (.cell 8 7) [.a 8,.a 44]) <|
      .ins (.cl 15 [.a 15,.a 59,.a 60,.a 61,.a 62,.a 63,.a 64,.a 65,.a 66] 9) <|
      .ins (.pr (.un .not) [.a 75]) <|
      .ite 76 (
       .ins (.pr (.scl) [.k (.bool false)]) <|
       .ret [.a 77]) (
       .ins (.pr (.bnd) [.a 8,.a 44]) <|
       .ins (.pr (.cell 8 0) [.a 8,.a 44]) <|
       .ins (.pr (.cell 8 1) [.a 8,.a 44]) <|
       .ins (.pr (.cell 8 2) [.a 8,.a 44]) <|
       .ins (.pr (.cell 8 3) [.a 8,.a 44]) <|
       .ins (.pr (.cell 8 4) [.a 8,.a 44]) <|
       .ins (.pr (.cell 8 5) [.a 8,.a 44]) <|
       .ins (.pr (.cell 8 6) [.a 8,.a 44]) <|
       .ins (.pr (.cell 8 7) [.a 8,.a 44]) <|
       .ins (.cl 16 [.a 67,.a 68,.a 69,.a 70,.a 71,.a 72,.a 73,.a 74,.a 78,.a 79,.a 80,.a 81,.a 82,.a 83,.a 84,.a 85] 1) <|
       .ins (.pr (.un .not) [.a 86]) <|
       .ite 87 (
       .ins (.pr (.scl) [.k (.bool false)]) <|
       .ret [.a 88]) (
       .go 0 []))) (
      .go 0 []))) (
     .ins (.cl 18 [.a 9,.a 10,.a 11,.a 12,.a 13,.a 14,.a 15] 1) <|
     .loop [.a 43,.k (.int .i64 0)] (
      .ins (.pr (.len) [.a 47]) <|
      .ins (.pr (.bin .lss) [.a 49,.a 50]) <|
      .ite 51 (
      .ins (.pr (.bnd) [.a 47,.a 49]) <|
      .ins (.pr (.scell 8 0) [.a 47,.a 49]) <|
      .ins (.pr (.scell 8 1) [.a 47,.a 49]) <|
      .ins (.pr (.scell 8 2) [.a 47,.a 49]) <|
      .ins (.pr (.scell 8 3) [.a 47,.a 49]) <|
      .ins (.pr (.scell 8 4) [.a 47,.a 49]) <|
      .ins (.pr (.dig 8 5) [.a 47,.a 49]) <|
      .ins (.pr (.scell 8 6) [.a 47,.a 49]) <|
      .ins (.pr (.scell 8 7) [.a 47,.a 49]) <|
      .ins (.pr (.dig 8 5) [.a 47,.a 49]) <|
      .ins (.cl 15 [.a 15,.a 53,.a 54,.a 55,.a 56,.a 57,.a 61,.a 59,.a 60] 9) <|
      .ins (.pr (.un .not) [.a 70]) <|
      .ite 71 (
       .ins (.pr (.scl) [.k (.bool false)]) <|
       .ret [.a 72]) (
       .ins (.pr (.bnd) [.a 47,.a 49]) <|
       .ins (.pr (.scell 8 0) [.a 47,.a 49]) <|
       .ins (.pr (.scell 8 1) [.a 47,.a 49]) <|
       .ins (.pr (.scell 8 2) [.a 47,.a 49]) <|
       .ins (.pr (.scell 8 3) [.a 47,.a 49]) <|
       .ins (.pr (.scell 8 4) [.a 47,.a 49]) <|
       .ins (.pr (.dig 8 5) [.a 47,.a 49]) <|
       .ins (.pr (.scell 8 6) [.a 47,.a 49]) <|
       .ins (.pr (.scell 8 7) [.a 47,.a 49]) <|
       .ins (.pr (.dig 8 5) [.a 47,.a 49]) <|
       .ins (.cl 19 [.a 62,.a 63,.a 64,.a 65,.a 66,.a 67,.a 68,.a 69,.a 73,.a 74,.a 75,.a 76,.a 77,.a 81,.a 79,.a 80] 1) <|
       .ins (.pr (.un .not) [.a 82]) <|
       .ite 83 (
       .ins (.pr (.scl) [.k (.bool false)]) <|
       .ret [.a 84]) (
       .ins (.pr (.bin .add) [.a 49,.k (.int .i64 1)]) <|
       .go 0 [.a 48,.a 84]))) (
      .ins (.pr (.len) [.a 24]) <|
      .ins (.pr (.bin .eql) [.a 52,.k (.int .i64 0)]) <|
      .ite 53 (
       .ins (.cl 14 [.a 23,.a 15] 1) <|
       .ite 54 (
       .ins (.cl 20 [.a 4,.a 5,.a 6,.a 2] 1) <|
       .ins (.pr (.len) [.a 55]) <|
       .ins (.pr (.bin .eql) [.a 56,.k (.int .i64 0)]) <|
       .ite 57 (
        .ins (.pr (.scl) [.k (.bool true)]) <|
        .ret [.a 58]) (
        .ins (.pr (.len) [.a 47]) <|
        .ins (.pr (.bin .gtr) [.a 58,.k (.int .i64 0)]) <|
        .ins (.pr (.scl) [.a 59]) <|
        .ret [.a 60])) (
       .ins (.pr (.scl) [.k (.bool false)]) <|
       .ret [.a 55])) (
       .ins (.pr (.scl) [.k (.bool false)]) <|
       .ret [.a 54])))))))))))
def aE1_:Nat→Sem1:=pick [(9,aky_),(10,wE_),(11,jF_),(12,jC_),(13,wg_),(14,u4_),(15,vF_),(16,jb_),(17,kt_),(18,wZ_),(19,wB_),(20,xe_)]
def aaq_:Sem1:=fun ts=>p_FnRenews.den aE1_ rounds [] ts
end Go.Proofs.YtjimmglpkndemaaGreatC
