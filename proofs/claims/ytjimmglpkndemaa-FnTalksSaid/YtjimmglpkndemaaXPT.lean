/- The plain programs of the functions that are walked (printed by a program). Conditions: none. -/
import Derived.Test.YtjimmglpkndemaaKe
namespace Go.Proofs.YtjimmglpkndemaaC
def p_big:PL :=
 .ins (.pr (.len) [.a 0]) <|
 .ins (.pr (.bin .gtr) [.a 1,.k (.int .i64 1048576)]) <|
 .ins (.pr (.scl) [.a 2]) <|
 .ret [.a 3]
def S_big:Nat→Sem1:=pick []
def F_big:Sem1:=fun ts=>p_big.den S_big rounds [] ts
def p_i_copyNet:PL :=
 Q (.app true 4) [.e,1] <|
 Q (.app true 4) [.e,2] <|
 Qz [0] <|
 .ret [5,3,4]
def F_i_copyNet:Sem1:=Fs p_i_copyNet []
def p_i_in:PL :=
 Qh [0,1] <|
 .ite 3 (
 Qm [0,2] <|
 Qz [4] <|
 .ret [5]) (
 Qz [.k (.bool false)] <|
 .ret [4])
def F_i_in:Sem1:=Fs p_i_in []
def p_i_LinkOk:PL :=
 Qi 33 [0,I 1,I 6] 1 <|
 .ite 5 (
 Qi 33 [1,I 1,0] 1 <|
 .ite 6 (
 Qi 33 [2,I 1,0] 1 <|
 .ite 7 (
 Ql [1,2] <|
 .ite 8 (
 Qi 33 [3,I 1,I 1000] 1 <|
 .ite 9 (
 Qi 33 [4,I 0,I 2] 1 <|
 Qz [10] <|
 .ret [11]) (
 Qz [.k (.bool false)] <|
 .ret [10])) (
 Qz [.k (.bool false)] <|
 .ret [9])) (
 Qz [.k (.bool false)] <|
 .ret [8])) (
 Qz [.k (.bool false)] <|
 .ret [7])) (
 Qz [.k (.bool false)] <|
 .ret [6])
def F_i_LinkOk:Sem1:=Fs p_i_LinkOk [(33,F_i_in)]
def p_i_ahead:PL :=
 Qu [0,4] <|
 .ite 8 (
 Ql [0,4] <|
 Qz [9] <|
 .ret [10]) (
 Qu [1,5] <|
 .ite 9 (
 Ql [1,5] <|
 Qz [10] <|
 .ret [11]) (
 Ql [3,7] <|
 Qz [10] <|
 .ret [11]))
def F_i_ahead:Sem1:=Fs p_i_ahead []
def p_i_less:PL :=
 Ql [1,5] <|
 .ite 8 (
 Qz [.k (.bool true)] <|
 .ret [9]) (
 Qe [1,5] <|
 .ite 9 (
 Ql [0,4] <|
 Qz [10] <|
 .ret [11]) (
 Qz [.k (.bool false)] <|
 .ret [10]))
def F_i_less:Sem1:=Fs p_i_less []
def p_i_NetOk:PL :=
 Qi 33 [0,I 1,I 6] 1 <|
 Qt [3] <|
 .ite 4 (
 Qz [.k (.bool false)] <|
 .ret [5]) (
 Qn [1] <|
 Qg [5,I 12] <|
 .ite 6 (
 Qz [.k (.bool false)] <|
 .ret [7]) (
 Qn [2] <|
 Qg [7,I 4] <|
 .ite 8 (
 Qz [.k (.bool false)] <|
 .ret [9]) (
 Qn [1] <|
 .loop [.k (.bool false),I 0] (
 Ql [11,9] <|
 .ite 12 (
 Q4 [1,11] <|
 Qi 54 [0,14,15,16,17] 1 <|
 Qt [18] <|
 .ite 19 (
 Qz [.k (.bool false)] <|
 .ret [20]) (
 Qg [11,I 0] <|
 .ite 20 (
 Qs [11,I 1] <|
 Q4 [1,21] <|
 Qi 55 [23,24,25,26,14,15,16,17] 1 <|
 Qt [27] <|
 .ite 28 (
 Qz [.k (.bool false)] <|
 .ret [29]) (
 Qa [11,I 1] <|
 .go 0 [10,29])) (
 Qa [11,I 1] <|
 .go 0 [10,21]))) (
 Qn [2] <|
 .loop [10,I 0] (
 Ql [15,13] <|
 .ite 16 (
 Q4 [2,15] <|
 Qi 33 [19,I 1,I 9] 1 <|
 Qt [22] <|
 .ite 23 (
 Qz [.k (.bool false)] <|
 .ret [24]) (
 Qi 33 [18,I 1,0] 1 <|
 Qt [24] <|
 .ite 25 (
 Qz [.k (.bool false)] <|
 .ret [26]) (
 Qi 33 [20,I 1,I 1000] 1 <|
 Qt [26] <|
 .ite 27 (
 Qz [.k (.bool false)] <|
 .ret [28]) (
 Qg [15,I 0] <|
 .ite 28 (
 Qs [15,I 1] <|
 Q4 [2,29] <|
 Qi 56 [31,32,33,34,18,19,20,21] 1 <|
 Qt [35] <|
 .ite 36 (
 Qz [.k (.bool false)] <|
 .ret [37]) (
 Qa [15,I 1] <|
 .go 0 [14,37])) (
 Qa [15,I 1] <|
 .go 0 [14,29]))))) (
 Qz [.k (.bool true)] <|
 .ret [17])))))))
def F_i_NetOk:Sem1:=Fs p_i_NetOk [(33,F_i_in),(54,F_i_LinkOk),(55,F_i_ahead),(56,F_i_less)]
def p_i_linkAt:PL :=
 Qn [1] <|
 .loop [I 0,I 0] (
 Ql [8,6] <|
 .ite 9 (
 Q4 [1,8] <|
 Qe [14,5] <|
 .ite 15 (
 Qe [11,3] <|
 .ite 16 (
 Qe [12,4] <|
 .ite 17 (
 Qz [8] <|
 .ret [18]) (
 Qe [11,4] <|
 .ite 18 (
 Qe [12,3] <|
 .ite 19 (
 Qz [8] <|
 .ret [20]) (
 Qa [8,I 1] <|
 .go 0 [7,20])) (
 Qa [8,I 1] <|
 .go 0 [7,19]))) (
 Qe [11,4] <|
 .ite 17 (
 Qe [12,3] <|
 .ite 18 (
 Qz [8] <|
 .ret [19]) (
 Qa [8,I 1] <|
 .go 0 [7,19])) (
 Qa [8,I 1] <|
 .go 0 [7,18]))) (
 Qa [8,I 1] <|
 .go 0 [7,16])) (
 Qz [.k (.int .i64 (-1))] <|
 .ret [10]))
def F_i_linkAt:Sem1:=Fs p_i_linkAt []
def p_i_heardOk:PL :=
 Qn [5] <|
 Q (.bin .rem) [7,I 2] <|
 Qu [8,I 0] <|
 .ite 9 (
 Qz [.k (.bool false)] <|
 .ret [10]) (
 .loop [.k (.bool false),I 0] (
 Qn [5] <|
 Ql [11,12] <|
 .ite 13 (
 Q1 [5,11] <|
 Qa [11,I 1] <|
 Q1 [5,16] <|
 Qi 40 [2,3,4,0,15,18] 1 <|
 Ql [19,I 0] <|
 .ite 20 (
 Qz [.k (.bool false)] <|
 .ret [21]) (
 Qg [11,I 0] <|
 .ite 21 (
 Qs [11,I 2] <|
 Q1 [5,22] <|
 Qg [24,15] <|
 .ite 25 (
 Qz [.k (.bool false)] <|
 .ret [26]) (
 Qs [11,I 2] <|
 Q1 [5,26] <|
 Qe [28,15] <|
 .ite 29 (
 Qs [11,I 1] <|
 Q1 [5,30] <|
 Qh [32,18] <|
 .ite 33 (
 Qz [.k (.bool false)] <|
 .ret [34]) (
 Qa [11,I 2] <|
 .go 0 [10,34])) (
 Qa [11,I 2] <|
 .go 0 [10,30]))) (
 Qa [11,I 2] <|
 .go 0 [10,22]))) (
 Qz [.k (.bool true)] <|
 .ret [14])))
def F_i_heardOk:Sem1:=Fs p_i_heardOk [(40,F_i_linkAt)]
def p_i_nearOk:PL :=
 Qn [5] <|
 .loop [.k (.bool false),I 0] (
 Ql [10,8] <|
 .ite 11 (
 Q2 [5,10] <|
 Qi 33 [13,I 1,I 6] 1 <|
 Qt [15] <|
 .ite 16 (
 Qz [.k (.bool false)] <|
 .ret [17]) (
 Qe [13,2] <|
 .ite 17 (
 Qz [.k (.bool false)] <|
 .ret [18]) (
 Qi 33 [14,I 1,I 1000] 1 <|
 Qt [18] <|
 .ite 19 (
 Qz [.k (.bool false)] <|
 .ret [20]) (
 Qg [10,I 0] <|
 .ite 20 (
 Qs [10,I 1] <|
 Qb [5,21] <|
 Qc 2 0 [5,21] <|
 Qh [23,13] <|
 .ite 24 (
 Qz [.k (.bool false)] <|
 .ret [25]) (
 Qa [10,I 1] <|
 .go 0 [9,25])) (
 Qa [10,I 1] <|
 .go 0 [9,21]))))) (
 Qz [.k (.bool true)] <|
 .ret [12]))
def F_i_nearOk:Sem1:=Fs p_i_nearOk [(33,F_i_in)]
def p_i_RecordOk:PL :=
 Qi 33 [2,I 1,I 6] 1 <|
 Qt [8] <|
 .ite 9 (
 Qz [.k (.bool false)] <|
 .ret [10]) (
 Qi 33 [4,I 1,I 100000] 1 <|
 Qt [10] <|
 .ite 11 (
 Qz [.k (.bool false)] <|
 .ret [12]) (
 Qe [1,I 1] <|
 .ite 12 (
 Qi 33 [0,I 0,I 2] 1 <|
 .ite 13 (
 Qe [3,I 0] <|
 .ite 14 (
 Qi 71 [0,1,2,3,4,5,6,7] 1 <|
 .ite 15 (
 Qe [6,I 0] <|
 .ite 16 (
 Qt [7] <|
 Qz [17] <|
 .ret [18]) (
 Qz [.k (.bool false)] <|
 .ret [17])) (
 Qz [.k (.bool false)] <|
 .ret [16])) (
 Qz [.k (.bool false)] <|
 .ret [15])) (
 Qz [.k (.bool false)] <|
 .ret [14])) (
 Qe [1,I 2] <|
 .ite 13 (
 Qi 33 [0,I 0,I 2] 1 <|
 .ite 14 (
 Qi 33 [3,I 1,I 6] 1 <|
 .ite 15 (
 Qn [5] <|
 Qe [16,I 0] <|
 .ite 17 (
 Qi 33 [6,I 0,I 60000] 1 <|
 .ite 18 (
 Qt [7] <|
 Qz [19] <|
 .ret [20]) (
 Qz [.k (.bool false)] <|
 .ret [19])) (
 Qz [.k (.bool false)] <|
 .ret [18])) (
 Qz [.k (.bool false)] <|
 .ret [16])) (
 Qz [.k (.bool false)] <|
 .ret [15])) (
 Qe [1,I 3] <|
 .ite 14 (
 Qe [0,I 9] <|
 .ite 15 (
 Qi 33 [3,I 1,I 9] 1 <|
 .ite 16 (
 Qn [5] <|
 Qe [17,I 0] <|
 .ite 18 (
 Qi 33 [6,I 1,I 1000] 1 <|
 .ite 19 (
 Qz [.k (.bool true)] <|
 .ret [20]) (
 Qe [6,I 60000] <|
 Qz [20] <|
 .ret [21])) (
 Qz [.k (.bool false)] <|
 .ret [19])) (
 Qz [.k (.bool false)] <|
 .ret [17])) (
 Qz [.k (.bool false)] <|
 .ret [16])) (
 Qz [.k (.bool false)] <|
 .ret [15])))))
def F_i_RecordOk:Sem1:=Fs p_i_RecordOk [(33,F_i_in),(71,F_i_nearOk)]
def p_i_Before:PL :=
 Qu [0,8] <|
 .ite 16 (
 Ql [0,8] <|
 Qz [17] <|
 .ret [18]) (
 Qu [1,9] <|
 .ite 17 (
 Ql [1,9] <|
 Qz [18] <|
 .ret [19]) (
 Qu [2,10] <|
 .ite 18 (
 Ql [2,10] <|
 Qz [19] <|
 .ret [20]) (
 Ql [3,11] <|
 Qz [19] <|
 .ret [20])))
def F_i_Before:Sem1:=Fs p_i_Before []
def p_i_StoreOk:PL :=
 Qn [0] <|
 .loop [.k (.bool false),I 0] (
 Ql [3,1] <|
 .ite 4 (
 Q8 [0,3] <|
 Qi 57 [6,7,8,9,10,11,12,13] 1 <|
 Qt [14] <|
 .ite 15 (
 Qz [.k (.bool false)] <|
 .ret [16]) (
 Qg [3,I 0] <|
 .ite 16 (
 Qs [3,I 1] <|
 Q8 [0,17] <|
 Qi 58 [19,20,21,22,23,24,25,26,6,7,8,9,10,11,12,13] 1 <|
 Qt [27] <|
 .ite 28 (
 Qz [.k (.bool false)] <|
 .ret [29]) (
 Qa [3,I 1] <|
 .go 0 [2,29])) (
 Qa [3,I 1] <|
 .go 0 [2,17]))) (
 Qn [0] <|
 Qm [5,I 150] <|
 Qz [6] <|
 .ret [7]))
def F_i_StoreOk:Sem1:=Fs p_i_StoreOk [(57,F_i_RecordOk),(58,F_i_Before)]
def p_i_SelfOk:PL :=
 Qi 32 [2,3,4] 1 <|
 .ite 7 (
 Qi 33 [0,I 1,2] 1 <|
 .ite 8 (
 Qi 33 [1,I 0,I 90] 1 <|
 .ite 9 (
 Qi 34 [0,1,2,3,4,5,6] 1 <|
 .ite 10 (
 Qi 35 [6] 1 <|
 Qz [11] <|
 .ret [12]) (
 Qz [.k (.bool false)] <|
 .ret [11])) (
 Qz [.k (.bool false)] <|
 .ret [10])) (
 Qz [.k (.bool false)] <|
 .ret [9])) (
 Qz [.k (.bool false)] <|
 .ret [8])
def F_i_SelfOk:Sem1:=Fs p_i_SelfOk [(32,F_i_NetOk),(33,F_i_in),(34,F_i_heardOk),(35,F_i_StoreOk)]
def p_i_copyInts:PL :=
 Qp [.e,0] <|
 .ret [1]
def F_i_copyInts:Sem1:=Fs p_i_copyInts []
def p_i_copyRecord:PL :=
 Q (.app true 2) [.e,5] <|
 Qz [7] <|
 Qz [6] <|
 Qz [4] <|
 Qz [3] <|
 Qz [2] <|
 Qz [1] <|
 Qz [0] <|
 .ret [15,14,13,12,11,8,10,9]
def F_i_copyRecord:Sem1:=Fs p_i_copyRecord []
def p_i_copyRecords:PL :=
 Qn [0] <|
 .loop [.e,I 0] (
 Ql [3,1] <|
 .ite 4 (
 Q8 [0,3] <|
 Qi 64 [6,7,8,9,10,11,12,13] 8 <|
 Q (.lit 8 [true,true,true,true,true,false,true,true]) [14,15,16,17,18,19,20,21] <|
 Qy [2,22] <|
 Qa [3,I 1] <|
 .go 0 [23,24]) (
 .ret [2]))
def F_i_copyRecords:Sem1:=Fs p_i_copyRecords [(64,F_i_copyRecord)]
def p_i_copySelf:PL :=
 Qi 11 [2,3,4] 3 <|
 Qi 42 [5] 1 <|
 Qi 38 [6] 1 <|
 Qz [7] <|
 Qz [1] <|
 Qz [0] <|
 .ret [14,13,12,8,9,10,11]
def F_i_copySelf:Sem1:=Fs p_i_copySelf [(11,F_i_copyNet),(38,F_i_copyRecords),(42,F_i_copyInts)]
def p_i_AreasOf:PL :=
 Qn [1] <|
 .loop [.e,I 0] (
 Ql [6,4] <|
 .ite 7 (
 Q4 [1,6] <|
 Qe [9,3] <|
 .ite 13 (
 .join (
 Qa [6,I 1] <|
 .go 0 [14,15]) (
 .loop [I 0] (
 Qn [5] <|
 Ql [14,15] <|
 .ite 16 (
 Qq [5,14] <|
 Ql [18,12] <|
 .ite 19 (
 Qa [14,I 1] <|
 .go 0 [20]) (
 Qn [5] <|
 Ql [14,20] <|
 .ite 21 (
 Qq [5,14] <|
 Qe [23,12] <|
 .ite 24 (
 .go 1 [5]) (
 Qw [5,14] <|
 Qi 42 [25] 1 <|
 Qx [12] <|
 Qp [26,27] <|
 Qv [5,14] <|
 Qp [28,29] <|
 .go 1 [30])) (
 Qw [5,14] <|
 Qi 42 [22] 1 <|
 Qx [12] <|
 Qp [23,24] <|
 Qv [5,14] <|
 Qp [25,26] <|
 .go 1 [27]))) (
 Qn [5] <|
 Ql [14,17] <|
 .ite 18 (
 Qq [5,14] <|
 Qe [20,12] <|
 .ite 21 (
 .go 1 [5]) (
 Qw [5,14] <|
 Qi 42 [22] 1 <|
 Qx [12] <|
 Qp [23,24] <|
 Qv [5,14] <|
 Qp [25,26] <|
 .go 1 [27])) (
 Qw [5,14] <|
 Qi 42 [19] 1 <|
 Qx [12] <|
 Qp [20,21] <|
 Qv [5,14] <|
 Qp [22,23] <|
 .go 1 [24]))))) (
 Qe [10,3] <|
 .join (
 Qa [6,I 1] <|
 .go 0 [15,16]) (
 .ite 14 (
 .loop [I 0] (
 Qn [5] <|
 Ql [15,16] <|
 .ite 17 (
 Qq [5,15] <|
 Ql [19,12] <|
 .ite 20 (
 Qa [15,I 1] <|
 .go 0 [21]) (
 Qn [5] <|
 Ql [15,21] <|
 .ite 22 (
 Qq [5,15] <|
 Qe [24,12] <|
 .ite 25 (
 .go 1 [5]) (
 Qw [5,15] <|
 Qi 42 [26] 1 <|
 Qx [12] <|
 Qp [27,28] <|
 Qv [5,15] <|
 Qp [29,30] <|
 .go 1 [31])) (
 Qw [5,15] <|
 Qi 42 [23] 1 <|
 Qx [12] <|
 Qp [24,25] <|
 Qv [5,15] <|
 Qp [26,27] <|
 .go 1 [28]))) (
 Qn [5] <|
 Ql [15,18] <|
 .ite 19 (
 Qq [5,15] <|
 Qe [21,12] <|
 .ite 22 (
 .go 1 [5]) (
 Qw [5,15] <|
 Qi 42 [23] 1 <|
 Qx [12] <|
 Qp [24,25] <|
 Qv [5,15] <|
 Qp [26,27] <|
 .go 1 [28])) (
 Qw [5,15] <|
 Qi 42 [20] 1 <|
 Qx [12] <|
 Qp [21,22] <|
 Qv [5,15] <|
 Qp [23,24] <|
 .go 1 [25])))) (
 .go 0 [5])))) (
 .ret [5]))
def F_i_AreasOf:Sem1:=Fs p_i_AreasOf [(42,F_i_copyInts)]
def p_i_CostTo:PL :=
 Qi 40 [0,1,2,3,4,5] 1 <|
 Qh [6,I 0] <|
 .ite 7 (
 Qb [1,6] <|
 Qc 4 2 [1,6] <|
 Qz [9] <|
 .ret [10]) (
 Qz [I 0] <|
 .ret [8])
def F_i_CostTo:Sem1:=Fs p_i_CostTo [(40,F_i_linkAt)]
def p_i_own:PL :=
 Qi 29 [2,3,4,0] 1 <|
 Qn [7] <|
 .loop [.e,I 0] (
 Ql [10,8] <|
 .ite 11 (
 Qq [7,10] <|
 .loop [I 0,.e] (
 Qn [5] <|
 Ql [14,16] <|
 .ite 17 (
 Qa [14,I 1] <|
 Q1 [5,18] <|
 Qe [20,13] <|
 .join (
 Qa [14,I 2] <|
 .go 0 [23,22]) (
 .ite 21 (
 Q1 [5,14] <|
 Q1 [5,14] <|
 Qi 77 [2,3,4,0,25,13] 1 <|
 Q (.lit 2 [true,true]) [23,26] <|
 Q (.app true 2) [15,27] <|
 .go 0 [28]) (
 .go 0 [15]))) (
 Q (.lit 8 [true,true,true,true,true,false,true,true]) [13,I 1,0,I 0,I 0,15,I 0,.k (.bool false)] <|
 Qy [9,18] <|
 Qa [10,I 1] <|
 .go 1 [19,20]))) (
 .ret [9]))
def F_i_own:Sem1:=Fs p_i_own [(29,F_i_AreasOf),(77,F_i_CostTo)]
def p_i_SameKey:PL :=
 Qe [0,8] <|
 .ite 16 (
 Qe [1,9] <|
 .ite 17 (
 Qe [2,10] <|
 .ite 18 (
 Qe [3,11] <|
 Qz [19] <|
 .ret [20]) (
 Qz [.k (.bool false)] <|
 .ret [19])) (
 Qz [.k (.bool false)] <|
 .ret [18])) (
 Qz [.k (.bool false)] <|
 .ret [17])
def F_i_SameKey:Sem1:=Fs p_i_SameKey []
def p_i_put:PL :=
 .loop [I 0] (
 Qn [0] <|
 Ql [9,10] <|
 .ite 11 (
 Q8 [0,9] <|
 Qi 58 [13,14,15,16,17,18,19,20,1,2,3,4,5,6,7,8] 1 <|
 .ite 21 (
 Qa [9,I 1] <|
 .go 0 [22]) (
 Q (.sub 8 false true) [0,9] <|
 Qi 38 [22] 1 <|
 Qi 64 [1,2,3,4,5,6,7,8] 8 <|
 Q (.lit 8 [true,true,true,true,true,false,true,true]) [24,25,26,27,28,29,30,31] <|
 Qy [23,32] <|
 Qn [0] <|
 Ql [9,34] <|
 .ite 35 (
 Q8 [0,9] <|
 Qi 65 [37,38,39,40,41,42,43,44,1,2,3,4,5,6,7,8] 1 <|
 .join (
 Q (.sub 8 true false) [0,46] <|
 Qi 38 [47] 1 <|
 Qy [33,48] <|
 .ret [49]) (
 .ite 45 (
 Qa [9,I 1] <|
 .go 0 [46]) (
 .go 0 [9]))) (
 .join (
 Q (.sub 8 true false) [0,36] <|
 Qi 38 [37] 1 <|
 Qy [33,38] <|
 .ret [39]) (
 .go 0 [9])))) (
 Q (.sub 8 false true) [0,9] <|
 Qi 38 [12] 1 <|
 Qi 64 [1,2,3,4,5,6,7,8] 8 <|
 Q (.lit 8 [true,true,true,true,true,false,true,true]) [14,15,16,17,18,19,20,21] <|
 Qy [13,22] <|
 Qn [0] <|
 Ql [9,24] <|
 .ite 25 (
 Q8 [0,9] <|
 Qi 65 [27,28,29,30,31,32,33,34,1,2,3,4,5,6,7,8] 1 <|
 .join (
 Q (.sub 8 true false) [0,36] <|
 Qi 38 [37] 1 <|
 Qy [23,38] <|
 .ret [39]) (
 .ite 35 (
 Qa [9,I 1] <|
 .go 0 [36]) (
 .go 0 [9]))) (
 .join (
 Q (.sub 8 true false) [0,26] <|
 Qi 38 [27] 1 <|
 Qy [23,28] <|
 .ret [29]) (
 .go 0 [9]))))
def F_i_put:Sem1:=Fs p_i_put [(38,F_i_copyRecords),(58,F_i_Before),(64,F_i_copyRecord),(65,F_i_SameKey)]
def p_i_hasInt:PL :=
 Qn [0] <|
 .loop [.k (.bool false),I 0] (
 Ql [4,2] <|
 .ite 5 (
 Q1 [0,4] <|
 Qe [7,1] <|
 .ite 8 (
 Qz [.k (.bool true)] <|
 .ret [9]) (
 Qa [4,I 1] <|
 .go 0 [3,9])) (
 Qz [.k (.bool false)] <|
 .ret [6]))
def F_i_hasInt:Sem1:=Fs p_i_hasInt []
def p_i_Border:PL :=
 Qi 29 [0,1,2,3] 1 <|
 Qi 47 [4,I 0] 1 <|
 .ite 5 (
 Qn [4] <|
 Qg [6,I 1] <|
 Qz [7] <|
 .ret [8]) (
 Qz [.k (.bool false)] <|
 .ret [6])
def F_i_Border:Sem1:=Fs p_i_Border [(29,F_i_AreasOf),(47,F_i_hasInt)]
def p_i_by:PL :=
 Qn [0] <|
 .loop [.e,I 0] (
 Ql [5,3] <|
 .ite 6 (
 Q8 [0,5] <|
 Qu [9,I 1] <|
 .ite 16 (
 .join (
 Qa [5,I 1] <|
 .go 0 [17,18]) (
 Q (.lit 8 []) [8,9,10,11,12,13,14,15] <|
 Qy [4,17] <|
 .go 0 [18])) (
 Qu [10,1] <|
 .join (
 Qa [5,I 1] <|
 .go 0 [18,19]) (
 .ite 17 (
 Q (.lit 8 []) [8,9,10,11,12,13,14,15] <|
 Qy [4,18] <|
 .go 0 [19]) (
 .go 0 [4])))) (
 Qn [2] <|
 .loop [4,I 0] (
 Ql [9,7] <|
 .ite 10 (
 Q8 [2,9] <|
 Qi 39 [8,12,13,14,15,I 1,17,18,19] 1 <|
 Qa [9,I 1] <|
 .go 0 [20,21]) (
 .ret [8]))))
def F_i_by:Sem1:=Fs p_i_by [(39,F_i_put)]
def p_i_keyAt:PL :=
 Qn [0] <|
 .loop [I 0,I 0] (
 Ql [11,9] <|
 .ite 12 (
 Q8 [0,11] <|
 Qi 65 [14,15,16,17,18,19,20,21,1,2,3,4,5,6,7,8] 1 <|
 .ite 22 (
 Qz [11] <|
 .ret [23]) (
 Qa [11,I 1] <|
 .go 0 [10,23])) (
 Qz [.k (.int .i64 (-1))] <|
 .ret [13]))
def F_i_keyAt:Sem1:=Fs p_i_keyAt [(65,F_i_SameKey)]
def p_i_told:PL :=
 Qi 60 [0,1,I 1,2,I 0,I 0,.e,I 0,.k (.bool false)] 1 <|
 Ql [4,I 0] <|
 .ite 5 (
 Qz [I 0] <|
 .ret [6]) (
 Qb [0,4] <|
 Qc 8 5 [0,4] <|
 Qn [7] <|
 .loop [I 0,I 0] (
 Ql [10,8] <|
 .ite 11 (
 Q2 [7,10] <|
 Qe [13,3] <|
 .ite 15 (
 Qz [14] <|
 .ret [16]) (
 Qa [10,I 1] <|
 .go 0 [9,16])) (
 Qz [I 0] <|
 .ret [12])))
def F_i_told:Sem1:=Fs p_i_told [(60,F_i_keyAt)]
def p_i_Linked:PL :=
 Qi 80 [0,1,3,2] 1 <|
 Qe [4,I 0] <|
 .ite 5 (
 Qz [I 0] <|
 .ret [6]) (
 Qi 80 [0,1,2,3] 1 <|
 Qz [6] <|
 .ret [7])
def F_i_Linked:Sem1:=Fs p_i_Linked [(80,F_i_told)]
def p_i_copyWay:PL :=
 Qi 42 [2] 1 <|
 Qz [1] <|
 Qz [0] <|
 .ret [5,4,3]
def F_i_copyWay:Sem1:=Fs p_i_copyWay [(42,F_i_copyInts)]
def p_i_Together:PL :=
 Qg [4,1] <|
 .ite 6 (
 Qi 76 [0,1,2] 3 <|
 Qz [8] <|
 Qz [7] <|
 .ret [11,10,9]) (
 Qg [1,4] <|
 .ite 7 (
 Qi 76 [3,4,5] 3 <|
 Qz [9] <|
 Qz [8] <|
 .ret [12,11,10]) (
 Qn [2] <|
 .loop [I 0,.e] (
 Ql [9,8] <|
 .ite 11 (
 Q1 [2,9] <|
 .loop [I 0] (
 Qn [10] <|
 Ql [14,15] <|
 .ite 16 (
 Qq [10,14] <|
 Ql [18,13] <|
 .ite 19 (
 Qa [14,I 1] <|
 .go 0 [20]) (
 Qn [10] <|
 Ql [14,20] <|
 .ite 21 (
 Qq [10,14] <|
 Qe [23,13] <|
 .ite 24 (
 Qa [9,I 1] <|
 .go 1 [25,10]) (
 Qw [10,14] <|
 Qi 42 [25] 1 <|
 Qx [13] <|
 Qp [26,27] <|
 Qv [10,14] <|
 Qp [28,29] <|
 Qa [9,I 1] <|
 .go 1 [31,30])) (
 Qw [10,14] <|
 Qi 42 [22] 1 <|
 Qx [13] <|
 Qp [23,24] <|
 Qv [10,14] <|
 Qp [25,26] <|
 Qa [9,I 1] <|
 .go 1 [28,27]))) (
 Qn [10] <|
 Ql [14,17] <|
 .ite 18 (
 Qq [10,14] <|
 Qe [20,13] <|
 .ite 21 (
 Qa [9,I 1] <|
 .go 1 [22,10]) (
 Qw [10,14] <|
 Qi 42 [22] 1 <|
 Qx [13] <|
 Qp [23,24] <|
 Qv [10,14] <|
 Qp [25,26] <|
 Qa [9,I 1] <|
 .go 1 [28,27])) (
 Qw [10,14] <|
 Qi 42 [19] 1 <|
 Qx [13] <|
 Qp [20,21] <|
 Qv [10,14] <|
 Qp [22,23] <|
 Qa [9,I 1] <|
 .go 1 [25,24])))) (
 Qn [5] <|
 .loop [I 0,10] (
 Ql [13,12] <|
 .ite 15 (
 Q1 [5,13] <|
 .loop [I 0] (
 Qn [14] <|
 Ql [18,19] <|
 .ite 20 (
 Qq [14,18] <|
 Ql [22,17] <|
 .ite 23 (
 Qa [18,I 1] <|
 .go 0 [24]) (
 Qn [14] <|
 Ql [18,24] <|
 .ite 25 (
 Qq [14,18] <|
 Qe [27,17] <|
 .ite 28 (
 Qa [13,I 1] <|
 .go 1 [29,14]) (
 Qw [14,18] <|
 Qi 42 [29] 1 <|
 Qx [17] <|
 Qp [30,31] <|
 Qv [14,18] <|
 Qp [32,33] <|
 Qa [13,I 1] <|
 .go 1 [35,34])) (
 Qw [14,18] <|
 Qi 42 [26] 1 <|
 Qx [17] <|
 Qp [27,28] <|
 Qv [14,18] <|
 Qp [29,30] <|
 Qa [13,I 1] <|
 .go 1 [32,31]))) (
 Qn [14] <|
 Ql [18,21] <|
 .ite 22 (
 Qq [14,18] <|
 Qe [24,17] <|
 .ite 25 (
 Qa [13,I 1] <|
 .go 1 [26,14]) (
 Qw [14,18] <|
 Qi 42 [26] 1 <|
 Qx [17] <|
 Qp [27,28] <|
 Qv [14,18] <|
 Qp [29,30] <|
 Qa [13,I 1] <|
 .go 1 [32,31])) (
 Qw [14,18] <|
 Qi 42 [23] 1 <|
 Qx [17] <|
 Qp [24,25] <|
 Qv [14,18] <|
 Qp [26,27] <|
 Qa [13,I 1] <|
 .go 1 [29,28])))) (
 Qz [1] <|
 Qz [0] <|
 .ret [17,16,14]))))))
def F_i_Together:Sem1:=Fs p_i_Together [(42,F_i_copyInts),(76,F_i_copyWay)]
def p_i_WaysIn:PL :=
 Qi 35 [0] 1 <|
 Qt [3] <|
 .ite 4 (
 .ret [.e]) (
 Qi 33 [2,I 1,I 6] 1 <|
 Qt [5] <|
 .ite 6 (
 .ret [.e]) (
 Qi 60 [0,1,I 1,2,I 0,I 0,.e,I 0,.k (.bool false)] 1 <|
 Ql [7,I 0] <|
 .ite 8 (
 .ret [.e]) (
 Q (.mk) [I 7,I 7,I 0,I 0,.e] <|
 Qb [9,2] <|
 Q (.put true 3 0 1) [9,2,2] <|
 .loop [.e,11] (
 .loop [I 0,I 1] (
 Qm [15,I 6] <|
 .ite 16 (
 Qb [13,15] <|
 Q (.scell 3 0) [13,15] <|
 Qu [18,I 0] <|
 .ite 19 (
 Qi 47 [12,15] 1 <|
 Qt [20] <|
 .ite 21 (
 Qe [14,I 0] <|
 .ite 22 (
 .join (
 Qa [15,I 1] <|
 .go 0 [23,24]) (
 .go 0 [15])) (
 Qb [13,15] <|
 Q (.scell 3 1) [13,15] <|
 Qb [13,14] <|
 Q (.scell 3 1) [13,14] <|
 Ql [24,26] <|
 .join (
 Qa [15,I 1] <|
 .go 0 [28,29]) (
 .ite 27 (
 .go 0 [15]) (
 .go 0 [14])))) (
 .join (
 Qa [15,I 1] <|
 .go 0 [22,23]) (
 .go 0 [14]))) (
 .join (
 Qa [15,I 1] <|
 .go 0 [20,21]) (
 .go 0 [14]))) (
 Qe [14,I 0] <|
 .ite 17 (
 Qn [13] <|
 .loop [.e,I 0,13] (
 Ql [20,18] <|
 .ite 22 (
 Qb [13,20] <|
 Q (.scell 3 0) [13,20] <|
 Q (.scell 3 1) [13,20] <|
 Q (.dig 3 2) [13,20] <|
 Q (.tk1) [21,20] <|
 Qu [24,I 0] <|
 .join (
 Qa [20,I 1] <|
 .go 0 [29,30,27]) (
 .ite 28 (
 Q (.lit 3 [true,true,false]) [24,25,26] <|
 Qo [19,29] <|
 .go 0 [30]) (
 .go 0 [19]))) (
 .ret [19]))) (
 Qx [14] <|
 Qp [12,18] <|
 .loop [I 1,13] (
 Qm [20,I 6] <|
 .ite 22 (
 Qi 79 [0,1,14,20] 1 <|
 Qe [23,I 0] <|
 .ite 24 (
 Qa [20,I 1] <|
 .go 0 [25,21]) (
 Qe [20,2] <|
 .ite 25 (
 Qa [20,I 1] <|
 .go 0 [26,21]) (
 Qb [21,14] <|
 Q (.scell 3 1) [21,14] <|
 Qa [27,23] <|
 Qb [21,14] <|
 Qc 3 2 [21,14] <|
 Qi 42 [30] 1 <|
 Qe [14,2] <|
 .join (
 Q3 [21,20] <|
 Qe [35,I 0] <|
 .ite 38 (
 .join (
 Qa [20,I 1] <|
 .go 0 [40,39]) (
 Qb [21,20] <|
 Q (.putD [true,true,false] 3 0) [21,20,20,28,33] <|
 .go 0 [40])) (
 Ql [28,36] <|
 .join (
 Qa [20,I 1] <|
 .go 0 [41,40]) (
 .ite 39 (
 Qb [21,20] <|
 Q (.putD [true,true,false] 3 0) [21,20,20,28,33] <|
 .go 0 [41]) (
 Qe [28,36] <|
 .join (
 .go 0 [41]) (
 .ite 40 (
 Qi 70 [35,36,37,20,28,33] 3 <|
 Qb [21,20] <|
 Q (.putD [true,true,false] 3 0) [21,20,41,42,43] <|
 .go 0 [45]) (
 .go 0 [21])))))) (
 .ite 32 (
 Qx [20] <|
 .go 0 [33]) (
 .go 0 [31]))))) (
 .go 2 [19,21])))))))))
def F_i_WaysIn:Sem1:=Fs p_i_WaysIn [(33,F_i_in),(35,F_i_StoreOk),(42,F_i_copyInts),(47,F_i_hasInt),(60,F_i_keyAt),(70,F_i_Together),(79,F_i_Linked)]
def p_i_WayTo:PL :=
 Qn [0] <|
 .loop [.k (.bool false),I 0] (
 Ql [4,2] <|
 .ite 5 (
 Q3 [0,4] <|
 Qe [7,1] <|
 .ite 10 (
 Qi 76 [7,8,9] 3 <|
 Qz [.k (.bool true)] <|
 Qz [12] <|
 Qz [11] <|
 .ret [16,15,13,14]) (
 Qa [4,I 1] <|
 .go 0 [3,11])) (
 Qz [.k (.bool false)] <|
 Qz [I 0] <|
 Qz [I 0] <|
 .ret [8,7,.e,6]))
def F_i_WayTo:Sem1:=Fs p_i_WayTo [(76,F_i_copyWay)]
def p_i_RoutesWithin:PL :=
 Qn [1] <|
 .loop [.e,I 0] (
 Ql [5,3] <|
 .ite 6 (
 Q1 [1,5] <|
 Qi 67 [0,8,2] 1 <|
 Qn [9] <|
 .loop [4,I 0,9] (
 Ql [12,10] <|
 .ite 14 (
 Q3 [13,12] <|
 .loop [I 0] (
 Qn [11] <|
 Ql [19,20] <|
 .ite 21 (
 Qb [11,19] <|
 Q (.scell 3 0) [11,19] <|
 Ql [23,16] <|
 .ite 24 (
 Qa [19,I 1] <|
 .go 0 [25]) (
 Qn [11] <|
 Ql [19,25] <|
 .ite 26 (
 Qb [11,19] <|
 Q (.scell 3 0) [11,19] <|
 Qe [28,16] <|
 .ite 29 (
 Q3 [11,19] <|
 Qi 70 [31,32,33,16,17,18] 3 <|
 Qb [11,19] <|
 Q (.putD [true,true,false] 3 0) [11,19,34,35,36] <|
 Qa [12,I 1] <|
 .go 1 [38,39,13]) (
 Q (.sub 3 false true) [11,19] <|
 Q (.tkn) [11,I 0,30] <|
 Qo [.e,30] <|
 Qi 76 [16,17,18] 3 <|
 Q (.lit 3 [true,true,false]) [33,34,35] <|
 Qo [32,36] <|
 Q (.sub 3 true false) [11,19] <|
 Q (.tkn) [31,19,38] <|
 Qo [37,38] <|
 Qa [12,I 1] <|
 .go 1 [40,41,13])) (
 Q (.sub 3 false true) [11,19] <|
 Q (.tkn) [11,I 0,27] <|
 Qo [.e,27] <|
 Qi 76 [16,17,18] 3 <|
 Q (.lit 3 [true,true,false]) [30,31,32] <|
 Qo [29,33] <|
 Q (.sub 3 true false) [11,19] <|
 Q (.tkn) [28,19,35] <|
 Qo [34,35] <|
 Qa [12,I 1] <|
 .go 1 [37,38,13]))) (
 Qn [11] <|
 Ql [19,22] <|
 .ite 23 (
 Qb [11,19] <|
 Q (.scell 3 0) [11,19] <|
 Qe [25,16] <|
 .ite 26 (
 Q3 [11,19] <|
 Qi 70 [28,29,30,16,17,18] 3 <|
 Qb [11,19] <|
 Q (.putD [true,true,false] 3 0) [11,19,31,32,33] <|
 Qa [12,I 1] <|
 .go 1 [35,36,13]) (
 Q (.sub 3 false true) [11,19] <|
 Q (.tkn) [11,I 0,27] <|
 Qo [.e,27] <|
 Qi 76 [16,17,18] 3 <|
 Q (.lit 3 [true,true,false]) [30,31,32] <|
 Qo [29,33] <|
 Q (.sub 3 true false) [11,19] <|
 Q (.tkn) [28,19,35] <|
 Qo [34,35] <|
 Qa [12,I 1] <|
 .go 1 [37,38,13])) (
 Q (.sub 3 false true) [11,19] <|
 Q (.tkn) [11,I 0,24] <|
 Qo [.e,24] <|
 Qi 76 [16,17,18] 3 <|
 Q (.lit 3 [true,true,false]) [27,28,29] <|
 Qo [26,30] <|
 Q (.sub 3 true false) [11,19] <|
 Q (.tkn) [25,19,32] <|
 Qo [31,32] <|
 Qa [12,I 1] <|
 .go 1 [34,35,13])))) (
 Qa [5,I 1] <|
 .go 1 [11,15]))) (
 .ret [4]))
def F_i_RoutesWithin:Sem1:=Fs p_i_RoutesWithin [(67,F_i_WaysIn),(70,F_i_Together),(76,F_i_copyWay)]
def p_i_RoutesBeyond:PL :=
 Qi 51 [0,1,3] 1 <|
 Qn [0] <|
 .loop [.e,I 0] (
 Ql [7,5] <|
 .ite 8 (
 Q8 [0,7] <|
 Qu [11,I 2] <|
 .ite 18 (
 Qa [7,I 1] <|
 .go 0 [6,19]) (
 Qh [16,I 60000] <|
 .ite 19 (
 Qa [7,I 1] <|
 .go 0 [6,20]) (
 Qe [12,3] <|
 .ite 20 (
 Qa [7,I 1] <|
 .go 0 [6,21]) (
 Qi 47 [1,10] 1 <|
 Qt [21] <|
 .ite 22 (
 Qa [7,I 1] <|
 .go 0 [6,23]) (
 .ite 2 (
 Qu [10,I 0] <|
 .ite 23 (
 Qa [7,I 1] <|
 .go 0 [6,24]) (
 Qi 69 [4,13] 4 <|
 Qi 67 [0,10,3] 1 <|
 Qi 69 [28,12] 4 <|
 .ite 27 (
 Qa [7,I 1] <|
 .go 0 [6,33]) (
 Qt [32] <|
 .ite 33 (
 Qa [7,I 1] <|
 .go 0 [6,34]) (
 Qa [16,30] <|
 Qh [34,I 60000] <|
 .ite 35 (
 Qa [7,I 1] <|
 .go 0 [6,36]) (
 Qa [16,30] <|
 .loop [I 0] (
 Qn [6] <|
 Ql [37,38] <|
 .ite 39 (
 Qb [6,37] <|
 Q (.scell 3 0) [6,37] <|
 Ql [41,13] <|
 .ite 42 (
 Qa [37,I 1] <|
 .go 0 [43]) (
 Qn [6] <|
 Ql [37,43] <|
 .ite 44 (
 Qb [6,37] <|
 Q (.scell 3 0) [6,37] <|
 Qe [46,13] <|
 .ite 47 (
 Q3 [6,37] <|
 Qi 70 [49,50,51,13,36,31] 3 <|
 Qb [6,37] <|
 Q (.putD [true,true,false] 3 0) [6,37,52,53,54] <|
 Qa [7,I 1] <|
 .go 1 [56,57]) (
 Q (.sub 3 false true) [6,37] <|
 Q (.tkn) [6,I 0,48] <|
 Qo [.e,48] <|
 Qi 76 [13,36,31] 3 <|
 Q (.lit 3 [true,true,false]) [51,52,53] <|
 Qo [50,54] <|
 Q (.sub 3 true false) [6,37] <|
 Q (.tkn) [49,37,56] <|
 Qo [55,56] <|
 Qa [7,I 1] <|
 .go 1 [58,59])) (
 Q (.sub 3 false true) [6,37] <|
 Q (.tkn) [6,I 0,45] <|
 Qo [.e,45] <|
 Qi 76 [13,36,31] 3 <|
 Q (.lit 3 [true,true,false]) [48,49,50] <|
 Qo [47,51] <|
 Q (.sub 3 true false) [6,37] <|
 Q (.tkn) [46,37,53] <|
 Qo [52,53] <|
 Qa [7,I 1] <|
 .go 1 [55,56]))) (
 Qn [6] <|
 Ql [37,40] <|
 .ite 41 (
 Qb [6,37] <|
 Q (.scell 3 0) [6,37] <|
 Qe [43,13] <|
 .ite 44 (
 Q3 [6,37] <|
 Qi 70 [46,47,48,13,36,31] 3 <|
 Qb [6,37] <|
 Q (.putD [true,true,false] 3 0) [6,37,49,50,51] <|
 Qa [7,I 1] <|
 .go 1 [53,54]) (
 Q (.sub 3 false true) [6,37] <|
 Q (.tkn) [6,I 0,45] <|
 Qo [.e,45] <|
 Qi 76 [13,36,31] 3 <|
 Q (.lit 3 [true,true,false]) [48,49,50] <|
 Qo [47,51] <|
 Q (.sub 3 true false) [6,37] <|
 Q (.tkn) [46,37,53] <|
 Qo [52,53] <|
 Qa [7,I 1] <|
 .go 1 [55,56])) (
 Q (.sub 3 false true) [6,37] <|
 Q (.tkn) [6,I 0,42] <|
 Qo [.e,42] <|
 Qi 76 [13,36,31] 3 <|
 Q (.lit 3 [true,true,false]) [45,46,47] <|
 Qo [44,48] <|
 Q (.sub 3 true false) [6,37] <|
 Q (.tkn) [43,37,50] <|
 Qo [49,50] <|
 Qa [7,I 1] <|
 .go 1 [52,53])))))))) (
 Qi 69 [4,13] 4 <|
 Qi 67 [0,10,3] 1 <|
 Qi 69 [27,12] 4 <|
 .ite 26 (
 Qa [7,I 1] <|
 .go 0 [6,32]) (
 Qt [31] <|
 .ite 32 (
 Qa [7,I 1] <|
 .go 0 [6,33]) (
 Qa [16,29] <|
 Qh [33,I 60000] <|
 .ite 34 (
 Qa [7,I 1] <|
 .go 0 [6,35]) (
 Qa [16,29] <|
 .loop [I 0] (
 Qn [6] <|
 Ql [36,37] <|
 .ite 38 (
 Qb [6,36] <|
 Q (.scell 3 0) [6,36] <|
 Ql [40,13] <|
 .ite 41 (
 Qa [36,I 1] <|
 .go 0 [42]) (
 Qn [6] <|
 Ql [36,42] <|
 .ite 43 (
 Qb [6,36] <|
 Q (.scell 3 0) [6,36] <|
 Qe [45,13] <|
 .ite 46 (
 Q3 [6,36] <|
 Qi 70 [48,49,50,13,35,30] 3 <|
 Qb [6,36] <|
 Q (.putD [true,true,false] 3 0) [6,36,51,52,53] <|
 Qa [7,I 1] <|
 .go 1 [55,56]) (
 Q (.sub 3 false true) [6,36] <|
 Q (.tkn) [6,I 0,47] <|
 Qo [.e,47] <|
 Qi 76 [13,35,30] 3 <|
 Q (.lit 3 [true,true,false]) [50,51,52] <|
 Qo [49,53] <|
 Q (.sub 3 true false) [6,36] <|
 Q (.tkn) [48,36,55] <|
 Qo [54,55] <|
 Qa [7,I 1] <|
 .go 1 [57,58])) (
 Q (.sub 3 false true) [6,36] <|
 Q (.tkn) [6,I 0,44] <|
 Qo [.e,44] <|
 Qi 76 [13,35,30] 3 <|
 Q (.lit 3 [true,true,false]) [47,48,49] <|
 Qo [46,50] <|
 Q (.sub 3 true false) [6,36] <|
 Q (.tkn) [45,36,52] <|
 Qo [51,52] <|
 Qa [7,I 1] <|
 .go 1 [54,55]))) (
 Qn [6] <|
 Ql [36,39] <|
 .ite 40 (
 Qb [6,36] <|
 Q (.scell 3 0) [6,36] <|
 Qe [42,13] <|
 .ite 43 (
 Q3 [6,36] <|
 Qi 70 [45,46,47,13,35,30] 3 <|
 Qb [6,36] <|
 Q (.putD [true,true,false] 3 0) [6,36,48,49,50] <|
 Qa [7,I 1] <|
 .go 1 [52,53]) (
 Q (.sub 3 false true) [6,36] <|
 Q (.tkn) [6,I 0,44] <|
 Qo [.e,44] <|
 Qi 76 [13,35,30] 3 <|
 Q (.lit 3 [true,true,false]) [47,48,49] <|
 Qo [46,50] <|
 Q (.sub 3 true false) [6,36] <|
 Q (.tkn) [45,36,52] <|
 Qo [51,52] <|
 Qa [7,I 1] <|
 .go 1 [54,55])) (
 Q (.sub 3 false true) [6,36] <|
 Q (.tkn) [6,I 0,41] <|
 Qo [.e,41] <|
 Qi 76 [13,35,30] 3 <|
 Q (.lit 3 [true,true,false]) [44,45,46] <|
 Qo [43,47] <|
 Q (.sub 3 true false) [6,36] <|
 Q (.tkn) [42,36,49] <|
 Qo [48,49] <|
 Qa [7,I 1] <|
 .go 1 [51,52])))))))))))) (
 .ret [6]))
def F_i_RoutesBeyond:Sem1:=Fs p_i_RoutesBeyond [(47,F_i_hasInt),(51,F_i_RoutesWithin),(67,F_i_WaysIn),(69,F_i_WayTo),(70,F_i_Together),(76,F_i_copyWay)]
def p_i_Beyond:PL :=
 Qn [1] <|
 .loop [.e,I 0] (
 Ql [6,4] <|
 .ite 7 (
 Q1 [1,6] <|
 Qu [9,3] <|
 .join (
 Qa [6,I 1] <|
 .go 0 [11,12]) (
 .ite 10 (
 Qx [9] <|
 Qp [5,11] <|
 .go 0 [12]) (
 .go 0 [5]))) (
 Qi 67 [0,3,2] 1 <|
 Qi 51 [0,5,2] 1 <|
 Qn [9] <|
 .loop [I 0,.e,9] (
 Ql [11,10] <|
 .ite 14 (
 Q3 [13,11] <|
 Qi 69 [8,16] 4 <|
 Qt [22] <|
 .ite 23 (
 Qu [16,2] <|
 .ite 24 (
 Qi 60 [12,3,I 2,2,16,I 0,.e,17,.k (.bool false)] 1 <|
 Ql [25,I 0] <|
 .join (
 Qa [11,I 1] <|
 .go 0 [28,27,13]) (
 .ite 26 (
 Qi 39 [12,3,I 2,2,16,I 0,.e,17,.k (.bool false)] 1 <|
 .go 0 [27]) (
 .go 0 [12]))) (
 .join (
 Qa [11,I 1] <|
 .go 0 [26,25,13]) (
 .go 0 [12]))) (
 .join (
 Qa [11,I 1] <|
 .go 0 [25,24,13]) (
 .go 0 [12]))) (
 Qu [3,I 0] <|
 .join (
 .ret [16]) (
 .ite 15 (
 Qi 52 [0,1,.k (.bool true),2] 1 <|
 Qn [16] <|
 .loop [I 0,12,16] (
 Ql [18,17] <|
 .ite 21 (
 Q3 [20,18] <|
 Qi 69 [8,23] 4 <|
 Qt [29] <|
 .ite 30 (
 Qu [23,2] <|
 .ite 31 (
 Qi 60 [19,3,I 2,2,23,I 0,.e,24,.k (.bool false)] 1 <|
 Ql [32,I 0] <|
 .join (
 Qa [18,I 1] <|
 .go 0 [35,34,20]) (
 .ite 33 (
 Qi 39 [19,3,I 2,2,23,I 0,.e,24,.k (.bool false)] 1 <|
 .go 0 [34]) (
 .go 0 [19]))) (
 .join (
 Qa [18,I 1] <|
 .go 0 [33,32,20]) (
 .go 0 [19]))) (
 .join (
 Qa [18,I 1] <|
 .go 0 [32,31,20]) (
 .go 0 [19]))) (
 .go 1 [19]))) (
 .go 0 [12]))))))
def F_i_Beyond:Sem1:=Fs p_i_Beyond [(39,F_i_put),(51,F_i_RoutesWithin),(52,F_i_RoutesBeyond),(60,F_i_keyAt),(67,F_i_WaysIn),(69,F_i_WayTo)]
def p_i_Wanted:PL :=
 Qi 12 [0,1,2,3,4,5,6] 1 <|
 Qt [7] <|
 .ite 8 (
 .ret [.e]) (
 Qi 72 [0,1,2,3,4,5,6] 1 <|
 Qn [9] <|
 .loop [.e,I 0,9] (
 Ql [12,10] <|
 .ite 14 (
 Q8 [13,12] <|
 Qi 39 [11,16,17,18,19,20,21,22,23] 1 <|
 Qa [12,I 1] <|
 .go 0 [24,25,13]) (
 Qi 29 [2,3,4,0] 1 <|
 Qi 30 [2,3,4,0] 1 <|
 .join (
 Qn [4] <|
 .loop [17,I 0] (
 Ql [23,21] <|
 .ite 24 (
 Q4 [4,23] <|
 Qe [26,0] <|
 .join (
 Qa [23,I 1] <|
 .go 0 [31,32]) (
 .ite 30 (
 Qi 39 [22,I 9,I 3,0,27,I 0,.e,28,29] 1 <|
 .go 0 [31]) (
 .go 0 [22]))) (
 .ret [22]))) (
 .ite 16 (
 Qi 73 [6,0,13] 1 <|
 Qn [15] <|
 .loop [11,I 0] (
 Ql [20,18] <|
 .ite 21 (
 Qq [15,20] <|
 Qi 74 [17,15,0,23] 1 <|
 Qn [24] <|
 .loop [19,I 0,24] (
 Ql [27,25] <|
 .ite 29 (
 Q8 [28,27] <|
 Qi 39 [26,31,32,33,34,35,36,37,38] 1 <|
 Qa [27,I 1] <|
 .go 0 [39,40,28]) (
 Qa [20,I 1] <|
 .go 1 [26,30]))) (
 .go 1 [19,13,13,13]))) (
 .go 0 [11,13,13,13])))))
def F_i_Wanted:Sem1:=Fs p_i_Wanted [(12,F_i_SelfOk),(29,F_i_AreasOf),(30,F_i_Border),(39,F_i_put),(72,F_i_own),(73,F_i_by),(74,F_i_Beyond)]
def p_i_SameBody:PL :=
 Qi 65 [0,1,2,3,4,5,6,7,8,9,10,11,12,13,14,15] 1 <|
 Qt [16] <|
 .ite 17 (
 Qz [.k (.bool false)] <|
 .ret [18]) (
 Qu [6,14] <|
 .ite 18 (
 Qz [.k (.bool false)] <|
 .ret [19]) (
 Q (.bb .neq) [7,15] <|
 .ite 19 (
 Qz [.k (.bool false)] <|
 .ret [20]) (
 Qn [5] <|
 Qn [13] <|
 Qu [20,21] <|
 .ite 22 (
 Qz [.k (.bool false)] <|
 .ret [23]) (
 Qn [5] <|
 .loop [.k (.bool false),I 0] (
 Ql [25,23] <|
 .ite 26 (
 Q2 [5,25] <|
 Q2 [13,25] <|
 Q (.eqs [1,1]) [28,29,31,32] <|
 Qt [33] <|
 .ite 34 (
 Qz [.k (.bool false)] <|
 .ret [35]) (
 Qa [25,I 1] <|
 .go 0 [24,35])) (
 Qz [.k (.bool true)] <|
 .ret [27]))))))
def F_i_SameBody:Sem1:=Fs p_i_SameBody [(65,F_i_SameKey)]
def p_i_seqOf:PL :=
 Qi 60 [6,7,8,9,10,11,12,13,14] 1 <|
 Qh [15,I 0] <|
 .join (
 Qa [17,I 1] <|
 Q (.bin .mul) [I 1000,1] <|
 Qa [19,I 1] <|
 Q (.mx) [18,20] <|
 Qz [21] <|
 .ret [22]) (
 .ite 16 (
 Qb [6,15] <|
 Qc 8 4 [6,15] <|
 .go 0 [18]) (
 .go 0 [I 0]))
def F_i_seqOf:Sem1:=Fs p_i_seqOf [(60,F_i_keyAt)]
def p_i_gone:PL :=
 Qu [1,I 1] <|
 .join (
 Qz [7] <|
 Qz [9] <|
 Qz [4] <|
 Qz [3] <|
 Qz [2] <|
 Qz [1] <|
 Qz [0] <|
 .ret [16,15,14,13,12,.e,11,10]) (
 .ite 8 (
 .go 0 [I 60000]) (
 .go 0 [6]))
def F_i_gone:Sem1:=Fs p_i_gone []
def p_i_fresh:PL :=
 Qi 59 [0,1,2,3,4,5,6] 1 <|
 Qn [7] <|
 .loop [.e,I 0,7] (
 Ql [10,8] <|
 .ite 12 (
 Q8 [11,10] <|
 Qi 60 [6,14,15,16,17,18,19,20,21] 1 <|
 Ql [22,I 0] <|
 .ite 23 (
 .join (
 Qa [10,I 1] <|
 .go 0 [24,26,11]) (
 Qi 62 [0,1,2,3,4,5,6,14,15,16,17,18,19,20,21] 1 <|
 Qi 39 [9,14,15,16,17,24,19,20,21] 1 <|
 .go 0 [25,24])) (
 Q8 [6,22] <|
 Qi 61 [25,26,27,28,29,30,31,32,14,15,16,17,18,19,20,21] 1 <|
 Qt [33] <|
 .join (
 Qa [10,I 1] <|
 .go 0 [35,37,11]) (
 .ite 34 (
 Qi 62 [0,1,2,3,4,5,6,14,15,16,17,18,19,20,21] 1 <|
 Qi 39 [9,14,15,16,17,35,19,20,21] 1 <|
 .go 0 [36,35]) (
 .go 0 [9,18])))) (
 Qn [6] <|
 .loop [9,I 0] (
 Ql [15,13] <|
 .ite 16 (
 Q8 [6,15] <|
 Qu [20,0] <|
 .ite 26 (
 Qa [15,I 1] <|
 .go 0 [14,27]) (
 Qi 60 [11,18,19,20,21,22,23,24,25] 1 <|
 Qh [27,I 0] <|
 .ite 28 (
 Qa [15,I 1] <|
 .go 0 [14,29]) (
 Qi 63 [18,19,20,21,22,23,24,25] 8 <|
 Qi 61 [29,30,31,32,33,34,35,36,18,19,20,21,22,23,24,25] 1 <|
 Qt [37] <|
 .join (
 Qa [15,I 1] <|
 .go 0 [39,41]) (
 .ite 38 (
 Qi 62 [0,1,2,3,4,5,6,18,19,20,21,22,23,24,25] 1 <|
 Qi 39 [14,29,30,31,32,39,34,35,36] 1 <|
 .go 0 [40,39]) (
 .go 0 [14,33]))))) (
 .ret [14]))))
def F_i_fresh:Sem1:=Fs p_i_fresh [(39,F_i_put),(59,F_i_Wanted),(60,F_i_keyAt),(61,F_i_SameBody),(62,F_i_seqOf),(63,F_i_gone)]
def p_i_Renew:PL :=
 Qi 36 [0,1,2,3,4,5,6] 7 <|
 Qi 12 [0,1,2,3,4,5,6] 1 <|
 Qt [14] <|
 .ite 15 (
 Qz [9] <|
 Qz [8] <|
 Qz [7] <|
 .ret [18,17,16,10,11,12,13,.e]) (
 Qi 37 [0,1,2,3,4,5,6] 1 <|
 Qi 38 [6] 1 <|
 Qn [16] <|
 .loop [.e,17,I 0] (
 Ql [21,18] <|
 .ite 22 (
 Qb [16,21] <|
 Q (.scell 8 0) [16,21] <|
 Q (.scell 8 1) [16,21] <|
 Q (.scell 8 2) [16,21] <|
 Q (.scell 8 3) [16,21] <|
 Q (.scell 8 4) [16,21] <|
 Q (.dig 8 5) [16,21] <|
 Q (.scell 8 6) [16,21] <|
 Q (.scell 8 7) [16,21] <|
 Qg [28,I 100000] <|
 .ite 32 (
 Qz [9] <|
 Qz [8] <|
 Qz [7] <|
 .ret [35,34,33,10,11,12,13,.e]) (
 Q (.dig 8 5) [16,21] <|
 Qi 39 [20,24,25,26,27,28,33,30,31] 1 <|
 Qa [21,I 1] <|
 .go 0 [19,34,35])) (
 Qn [20] <|
 Qg [23,I 150] <|
 .ite 24 (
 Qz [9] <|
 Qz [8] <|
 Qz [7] <|
 .ret [27,26,25,10,11,12,13,.e]) (
 Qz [9] <|
 Qz [8] <|
 Qz [7] <|
 .ret [27,26,25,10,11,12,20,16]))))
def F_i_Renew:Sem1:=Fs p_i_Renew [(12,F_i_SelfOk),(36,F_i_copySelf),(37,F_i_fresh),(38,F_i_copyRecords),(39,F_i_put)]
def p_i_earsOf:PL :=
 .loop [.e,I 1] (
 Qm [5,0] <|
 .ite 6 (
 .loop [4,I 0] (
 Qm [8,I 2] <|
 .ite 9 (
 Qi 40 [0,1,2,3,5,8] 1 <|
 Qh [10,I 0] <|
 .join (
 Qa [8,I 1] <|
 .go 0 [12,13]) (
 .ite 11 (
 Q (.lit 4 [true,true,true,true]) [5,8,I 0,.k (.bool false)] <|
 Q (.app true 4) [7,12] <|
 .go 0 [13]) (
 .go 0 [7]))) (
 Qa [5,I 1] <|
 .go 1 [7,10]))) (
 .ret [4]))
def F_i_earsOf:Sem1:=Fs p_i_earsOf [(40,F_i_linkAt)]
def p_i_NodeNew:PL :=
 Qi 11 [0,1,2] 3 <|
 Qi 12 [3,4,5,6,7,.e,.e] 1 <|
 Qt [8] <|
 .ite 9 (
 Qz [.k (.bool false)] <|
 Qz [I 0] <|
 Qz [I 0] <|
 Qz [I 0] <|
 .ret [13,12,11,.e,.e,.e,.e,.e,10]) (
 Qi 13 [3,4,5,6,7,.e,.e] 8 <|
 Qi 14 [0,1,2,3] 1 <|
 Qz [.k (.bool true)] <|
 Qz [12] <|
 Qz [11] <|
 Qz [10] <|
 .ret [22,21,20,13,14,15,16,18,19])
def F_i_NodeNew:Sem1:=Fs p_i_NodeNew [(11,F_i_copyNet),(12,F_i_SelfOk),(13,F_i_Renew),(14,F_i_earsOf)]
def p_i_copyNode:PL :=
 Qi 36 [0,1,2,3,4,5,6] 7 <|
 Q (.app true 4) [.e,7] <|
 Qz [10] <|
 Qz [9] <|
 Qz [8] <|
 .ret [18,17,16,11,12,13,14,15]
def F_i_copyNode:Sem1:=Fs p_i_copyNode [(36,F_i_copySelf)]
def p_i_heardBy:PL :=
 Qn [0] <|
 .loop [.e,I 0] (
 Ql [3,1] <|
 .ite 4 (
 Q4 [0,3] <|
 .join (
 Qa [3,I 1] <|
 .go 0 [10,11]) (
 .ite 9 (
 Q (.lit 1 [true,true]) [6,7] <|
 Qp [2,10] <|
 .go 0 [11]) (
 .go 0 [2]))) (
 .ret [2]))
def F_i_heardBy:Sem1:=Fs p_i_heardBy []
def p_i_sameInts:PL :=
 Qn [0] <|
 Qn [1] <|
 Qu [2,3] <|
 .ite 4 (
 Qz [.k (.bool false)] <|
 .ret [5]) (
 Qn [0] <|
 .loop [.k (.bool false),I 0] (
 Ql [7,5] <|
 .ite 8 (
 Q1 [0,7] <|
 Q1 [1,7] <|
 Qu [10,12] <|
 .ite 13 (
 Qz [.k (.bool false)] <|
 .ret [14]) (
 Qa [7,I 1] <|
 .go 0 [6,14])) (
 Qz [.k (.bool true)] <|
 .ret [9])))
def F_i_sameInts:Sem1:=Fs p_i_sameInts []
def p_i_NodeOk:PL :=
 Qi 12 [0,1,2,3,4,5,6] 1 <|
 Qt [8] <|
 .ite 9 (
 Qz [.k (.bool false)] <|
 .ret [10]) (
 Qi 14 [2,3,4,0] 1 <|
 Qn [10] <|
 Qn [7] <|
 Qu [11,12] <|
 .ite 13 (
 Qz [.k (.bool false)] <|
 .ret [14]) (
 Qn [7] <|
 .loop [.k (.bool false),I 0] (
 Ql [16,14] <|
 .ite 17 (
 Q4 [7,16] <|
 Qb [10,16] <|
 Q (.scell 4 0) [10,16] <|
 Qu [19,24] <|
 .ite 25 (
 Qz [.k (.bool false)] <|
 .ret [26]) (
 Qb [10,16] <|
 Q (.scell 4 1) [10,16] <|
 Qu [20,27] <|
 .ite 28 (
 Qz [.k (.bool false)] <|
 .ret [29]) (
 Qi 33 [21,I 0,I 3] 1 <|
 Qt [29] <|
 .ite 30 (
 Qz [.k (.bool false)] <|
 .ret [31]) (
 .ite 22 (
 Qe [21,I 0] <|
 .ite 31 (
 Qz [.k (.bool false)] <|
 .ret [32]) (
 Qa [16,I 1] <|
 .go 0 [15,32])) (
 Qa [16,I 1] <|
 .go 0 [15,31]))))) (
 Qi 17 [7] 1 <|
 Qi 41 [18,5] 1 <|
 Qz [19] <|
 .ret [20]))))
def F_i_NodeOk:Sem1:=Fs p_i_NodeOk [(12,F_i_SelfOk),(14,F_i_earsOf),(17,F_i_heardBy),(33,F_i_in),(41,F_i_sameInts)]
def p_i_Node_say:PL :=
 Qz [10] <|
 Qz [9] <|
 Qz [0] <|
 Qz [8] <|
 .ret [18,17,16,15,13,14,0,1,2,3,4,5,6,7]
def F_i_Node_say:Sem1:=Fs p_i_Node_say []
def p_i_Scope:PL :=
 Qn [0] <|
 .loop [.e,I 0] (
 Ql [4,2] <|
 .ite 5 (
 Q8 [0,4] <|
 Qe [7,1] <|
 .ite 15 (
 .join (
 Qa [4,I 1] <|
 .go 0 [16,17]) (
 Qi 64 [7,8,9,10,11,12,13,14] 8 <|
 Q (.lit 8 [true,true,true,true,true,false,true,true]) [16,17,18,19,20,21,22,23] <|
 Qy [3,24] <|
 .go 0 [25])) (
 Qe [7,I 9] <|
 .join (
 Qa [4,I 1] <|
 .go 0 [17,18]) (
 .ite 16 (
 Qi 64 [7,8,9,10,11,12,13,14] 8 <|
 Q (.lit 8 [true,true,true,true,true,false,true,true]) [17,18,19,20,21,22,23,24] <|
 Qy [3,25] <|
 .go 0 [26]) (
 .go 0 [3])))) (
 .ret [3]))
def F_i_Scope:Sem1:=Fs p_i_Scope [(64,F_i_copyRecord)]
def p_i_header:PL :=
 Qe [1,I 3] <|
 .join (
 Qz [.k (.bool false)] <|
 Qz [9] <|
 Qz [4] <|
 Qz [3] <|
 Qz [2] <|
 Qz [1] <|
 Qz [0] <|
 .ret [16,15,14,13,12,.e,11,10]) (
 .ite 8 (
 .go 0 [I 1]) (
 .go 0 [I 0]))
def F_i_header:Sem1:=Fs p_i_header []
def p_i_Headers:PL :=
 Qi 43 [0,1] 1 <|
 Qn [2] <|
 .loop [.e,I 0,2] (
 Ql [5,3] <|
 .ite 7 (
 Q8 [6,5] <|
 Qi 44 [9,10,11,12,13,14,15,16] 8 <|
 Q (.lit 8 [true,true,true,true,true,false,true,true]) [17,18,19,20,21,22,23,24] <|
 Qy [4,25] <|
 Qa [5,I 1] <|
 .go 0 [26,27,6]) (
 .ret [4]))
def F_i_Headers:Sem1:=Fs p_i_Headers [(43,F_i_Scope),(44,F_i_header)]
def p_i_TickNode:PL :=
 Qi 15 [0,1,2,3,4,5,6,7] 8 <|
 Qi 16 [0,1,2,3,4,5,6,7] 1 <|
 Qt [16] <|
 .ite 17 (
 Qz [10] <|
 Qz [9] <|
 Qz [8] <|
 .ret [20,19,18,11,12,13,14,15,.e]) (
 Qn [15] <|
 .loop [I 0,15] (
 Ql [19,18] <|
 .ite 21 (
 Qb [20,19] <|
 Q (.scell 4 2) [20,19] <|
 Qs [23,I 1] <|
 Q (.mx) [24,I 0] <|
 Q (.put true 4 2 1) [20,19,25] <|
 Q (.scell 4 3) [26,19] <|
 .ite 27 (
 Q (.scell 4 2) [26,19] <|
 Qg [28,I 0] <|
 Q (.put true 4 3 1) [26,19,29] <|
 Qa [19,I 1] <|
 .go 0 [31,30]) (
 Q (.put true 4 3 1) [26,19,.k (.bool false)] <|
 Qa [19,I 1] <|
 .go 0 [29,28])) (
 Qi 17 [20] 1 <|
 Qi 13 [8,9,10,11,12,22,14] 8 <|
 Qn [20] <|
 .loop [.e,I 0,23,24,25,26,27,28,29,20,20,20,20,20] (
 Ql [33,31] <|
 .ite 46 (
 Q4 [45,33] <|
 Qn [41] <|
 .loop [.e,I 0] (
 Ql [54,52] <|
 .ite 55 (
 Q4 [41,54] <|
 Qe [58,49] <|
 .ite 61 (
 Qg [59,I 0] <|
 .join (
 Qa [54,I 1] <|
 .go 0 [63,64]) (
 .ite 62 (
 .loop [I 0] (
 Qn [53] <|
 Ql [63,64] <|
 .ite 65 (
 Qq [53,63] <|
 Ql [67,57] <|
 .ite 68 (
 Qa [63,I 1] <|
 .go 0 [69]) (
 Qn [53] <|
 Ql [63,69] <|
 .ite 70 (
 Qq [53,63] <|
 Qe [72,57] <|
 .ite 73 (
 .go 1 [53]) (
 Qw [53,63] <|
 Qi 42 [74] 1 <|
 Qx [57] <|
 Qp [75,76] <|
 Qv [53,63] <|
 Qp [77,78] <|
 .go 1 [79])) (
 Qw [53,63] <|
 Qi 42 [71] 1 <|
 Qx [57] <|
 Qp [72,73] <|
 Qv [53,63] <|
 Qp [74,75] <|
 .go 1 [76]))) (
 Qn [53] <|
 Ql [63,66] <|
 .ite 67 (
 Qq [53,63] <|
 Qe [69,57] <|
 .ite 70 (
 .go 1 [53]) (
 Qw [53,63] <|
 Qi 42 [71] 1 <|
 Qx [57] <|
 Qp [72,73] <|
 Qv [53,63] <|
 Qp [74,75] <|
 .go 1 [76])) (
 Qw [53,63] <|
 Qi 42 [68] 1 <|
 Qx [57] <|
 Qp [69,70] <|
 Qv [53,63] <|
 Qp [71,72] <|
 .go 1 [73])))) (
 .go 0 [53]))) (
 .join (
 Qa [54,I 1] <|
 .go 0 [62,63]) (
 .go 0 [53]))) (
 Qi 20 [34,35,36,37,38,39,40,41,I 1,48,49,50,51,53,.e] 14 <|
 Q (.lit 6 []) [56,57,58,59,60,61] <|
 Q (.app false 6) [32,70] <|
 .join (
 Qa [33,I 1] <|
 .go 1 [80,81,72,73,74,75,76,77,78,79,42,43,44,45]) (
 .ite 51 (
 Qi 21 [68,49] 1 <|
 Qi 20 [62,63,64,65,66,67,68,69,I 2,48,49,50,51,.e,72] 14 <|
 Q (.lit 6 []) [73,74,75,76,77,78] <|
 Q (.app false 6) [71,87] <|
 .go 0 [79,80,81,82,83,84,85,86,88]) (
 .go 0 [62,63,64,65,66,67,68,69,71]))))) (
 Qz [36] <|
 Qz [35] <|
 Qz [34] <|
 .ret [49,48,47,37,38,39,40,41,32])))))
def F_i_TickNode:Sem1:=Fs p_i_TickNode [(13,F_i_Renew),(15,F_i_copyNode),(16,F_i_NodeOk),(17,F_i_heardBy),(20,F_i_Node_say),(21,F_i_Headers),(42,F_i_copyInts)]
def p_i_earAt:PL :=
 Qn [7] <|
 .loop [I 0,I 0] (
 Ql [12,10] <|
 .ite 13 (
 Q4 [7,12] <|
 Qe [15,8] <|
 .ite 19 (
 Qe [16,9] <|
 .ite 20 (
 Qz [12] <|
 .ret [21]) (
 Qa [12,I 1] <|
 .go 0 [11,21])) (
 Qa [12,I 1] <|
 .go 0 [11,20])) (
 Qz [.k (.int .i64 (-1))] <|
 .ret [14]))
def F_i_earAt:Sem1:=Fs p_i_earAt []
def p_i_heardUp:PL :=
 Qn [0] <|
 .loop [.k (.bool false),I 0] (
 Ql [3,1] <|
 .ite 4 (
 Q1 [0,3] <|
 Qi 33 [6,I 1,I 6] 1 <|
 Qt [7] <|
 .ite 8 (
 Qz [.k (.bool false)] <|
 .ret [9]) (
 Qg [3,I 0] <|
 .ite 9 (
 Qs [3,I 1] <|
 Q1 [0,10] <|
 Qh [12,6] <|
 .ite 13 (
 Qz [.k (.bool false)] <|
 .ret [14]) (
 Qa [3,I 1] <|
 .go 0 [2,14])) (
 Qa [3,I 1] <|
 .go 0 [2,10]))) (
 Qz [.k (.bool true)] <|
 .ret [5]))
def F_i_heardUp:Sem1:=Fs p_i_heardUp [(33,F_i_in)]
def p_i_sumsOk:PL :=
 Qn [0] <|
 .loop [.k (.bool false),I 0] (
 Ql [3,1] <|
 .ite 4 (
 Q8 [0,3] <|
 Qi 44 [6,7,8,9,10,11,12,13] 8 <|
 Qi 61 [14,15,16,17,18,19,20,21,6,7,8,9,10,11,12,13] 1 <|
 Qt [22] <|
 .ite 23 (
 Qz [.k (.bool false)] <|
 .ret [24]) (
 Qa [3,I 1] <|
 .go 0 [2,24])) (
 Qz [.k (.bool true)] <|
 .ret [5]))
def F_i_sumsOk:Sem1:=Fs p_i_sumsOk [(44,F_i_header),(61,F_i_SameBody)]
def p_i_PacketOk:PL :=
 Qi 33 [0,I 1,I 3] 1 <|
 Qt [6] <|
 .ite 7 (
 Qz [.k (.bool false)] <|
 .ret [8]) (
 Qi 33 [1,I 1,I 6] 1 <|
 Qt [8] <|
 .ite 9 (
 Qz [.k (.bool false)] <|
 .ret [10]) (
 Qi 33 [2,I 1,I 6] 1 <|
 Qt [10] <|
 .ite 11 (
 Qz [.k (.bool false)] <|
 .ret [12]) (
 Qe [1,2] <|
 .ite 12 (
 Qz [.k (.bool false)] <|
 .ret [13]) (
 Qi 33 [3,I 0,I 2] 1 <|
 Qt [13] <|
 .ite 14 (
 Qz [.k (.bool false)] <|
 .ret [15]) (
 Qe [0,I 1] <|
 .ite 15 (
 Qi 45 [4] 1 <|
 .ite 16 (
 Qn [5] <|
 Qe [17,I 0] <|
 Qz [18] <|
 .ret [19]) (
 Qz [.k (.bool false)] <|
 .ret [17])) (
 Qn [5] <|
 .loop [.k (.bool false),I 0] (
 Ql [18,16] <|
 .ite 19 (
 Q8 [5,18] <|
 Qu [21,3] <|
 .ite 29 (
 Qu [21,I 9] <|
 .ite 30 (
 Qz [.k (.bool false)] <|
 .ret [31]) (
 Qa [18,I 1] <|
 .go 0 [17,31])) (
 Qa [18,I 1] <|
 .go 0 [17,30])) (
 Qn [4] <|
 Qe [20,I 0] <|
 .ite 21 (
 Qi 35 [5] 1 <|
 .ite 22 (
 Qe [0,I 3] <|
 .ite 23 (
 Qz [.k (.bool true)] <|
 .ret [24]) (
 Qi 46 [5] 1 <|
 Qz [24] <|
 .ret [25])) (
 Qz [.k (.bool false)] <|
 .ret [23])) (
 Qz [.k (.bool false)] <|
 .ret [22])))))))))
def F_i_PacketOk:Sem1:=Fs p_i_PacketOk [(33,F_i_in),(35,F_i_StoreOk),(45,F_i_heardUp),(46,F_i_sumsOk)]
def p_i_newest:PL :=
 Qn [0] <|
 .loop [.e,I 0] (
 Ql [4,2] <|
 .ite 5 (
 Q8 [0,4] <|
 Qi 39 [3,7,8,9,10,11,12,13,14] 1 <|
 Qa [4,I 1] <|
 .go 0 [15,16]) (
 Qn [1] <|
 .loop [3,I 0] (
 Ql [8,6] <|
 .ite 9 (
 Q8 [1,8] <|
 Qi 60 [7,11,12,13,14,15,16,17,18] 1 <|
 Ql [19,I 0] <|
 .ite 20 (
 .join (
 Qa [8,I 1] <|
 .go 0 [21,22]) (
 Qi 39 [7,11,12,13,14,15,16,17,18] 1 <|
 .go 0 [21])) (
 Qb [7,19] <|
 Q (.scell 8 4) [7,19] <|
 Ql [22,15] <|
 .join (
 Qa [8,I 1] <|
 .go 0 [24,25]) (
 .ite 23 (
 Qi 39 [7,11,12,13,14,15,16,17,18] 1 <|
 .go 0 [24]) (
 .go 0 [7])))) (
 .ret [7]))))
def F_i_newest:Sem1:=Fs p_i_newest [(39,F_i_put),(60,F_i_keyAt)]
def p_i_Newer:PL :=
 Qn [0] <|
 .loop [.e,I 0] (
 Ql [4,2] <|
 .ite 5 (
 Q8 [0,4] <|
 Qi 60 [1,7,8,9,10,11,12,13,14] 1 <|
 Ql [15,I 0] <|
 .ite 16 (
 .join (
 Qa [4,I 1] <|
 .go 0 [17,18]) (
 Qi 64 [7,8,9,10,11,12,13,14] 8 <|
 Q (.lit 8 [true,true,true,true,true,false,true,true]) [17,18,19,20,21,22,23,24] <|
 Qy [3,25] <|
 .go 0 [26])) (
 Qb [1,15] <|
 Qc 8 4 [1,15] <|
 Ql [18,11] <|
 .join (
 Qa [4,I 1] <|
 .go 0 [20,21]) (
 .ite 19 (
 Qi 64 [7,8,9,10,11,12,13,14] 8 <|
 Q (.lit 8 [true,true,true,true,true,false,true,true]) [20,21,22,23,24,25,26,27] <|
 Qy [3,28] <|
 .go 0 [29]) (
 .go 0 [3])))) (
 .ret [3]))
def F_i_Newer:Sem1:=Fs p_i_Newer [(60,F_i_keyAt),(64,F_i_copyRecord)]
def p_i_Install:PL :=
 Qi 35 [0] 1 <|
 Qt [9] <|
 .ite 10 (
 Qz [.k (.bool false)] <|
 .ret [.e,11]) (
 Qi 57 [1,2,3,4,5,6,7,8] 1 <|
 Qt [11] <|
 .ite 12 (
 Qz [.k (.bool false)] <|
 .ret [.e,13]) (
 Qi 60 [0,1,2,3,4,5,6,7,8] 1 <|
 Qh [13,I 0] <|
 .ite 14 (
 Qb [0,13] <|
 Qc 8 4 [0,13] <|
 Qh [16,5] <|
 .ite 17 (
 Qz [.k (.bool false)] <|
 .ret [.e,18]) (
 Ql [13,I 0] <|
 .ite 18 (
 Qn [0] <|
 Qh [19,I 150] <|
 .ite 20 (
 Qz [.k (.bool false)] <|
 .ret [.e,21]) (
 Qi 39 [0,1,2,3,4,5,6,7,8] 1 <|
 Qz [.k (.bool true)] <|
 .ret [21,22])) (
 Qi 39 [0,1,2,3,4,5,6,7,8] 1 <|
 Qz [.k (.bool true)] <|
 .ret [19,20]))) (
 Ql [13,I 0] <|
 .ite 15 (
 Qn [0] <|
 Qh [16,I 150] <|
 .ite 17 (
 Qz [.k (.bool false)] <|
 .ret [.e,18]) (
 Qi 39 [0,1,2,3,4,5,6,7,8] 1 <|
 Qz [.k (.bool true)] <|
 .ret [18,19])) (
 Qi 39 [0,1,2,3,4,5,6,7,8] 1 <|
 Qz [.k (.bool true)] <|
 .ret [16,17]))))
def F_i_Install:Sem1:=Fs p_i_Install [(35,F_i_StoreOk),(39,F_i_put),(57,F_i_RecordOk),(60,F_i_keyAt)]
def p_i_learned:PL :=
 Qi 38 [0] 1 <|
 Qn [1] <|
 .loop [2,.e,I 0] (
 Ql [6,3] <|
 .ite 7 (
 Q8 [1,6] <|
 Qi 66 [4,9,10,11,12,13,14,15,16] 2 <|
 .join (
 Qa [6,I 1] <|
 .go 0 [19,20,21]) (
 .ite 18 (
 Qi 64 [9,10,11,12,13,14,15,16] 8 <|
 Q (.lit 8 [true,true,true,true,true,false,true,true]) [19,20,21,22,23,24,25,26] <|
 Qy [5,27] <|
 .go 0 [17,28]) (
 .go 0 [4,5]))) (
 .ret [4,5]))
def F_i_learned:Sem1:=Fs p_i_learned [(38,F_i_copyRecords),(64,F_i_copyRecord),(66,F_i_Install)]
def p_i_Learn:PL :=
 Qi 36 [0,1,2,3,4,5,6] 7 <|
 Qi 12 [0,1,2,3,4,5,6] 1 <|
 Qt [15] <|
 .ite 16 (
 Qz [10] <|
 Qz [9] <|
 Qz [8] <|
 .ret [19,18,17,11,12,13,14,.e]) (
 Qi 49 [6,7] 2 <|
 Qz [10] <|
 Qz [9] <|
 Qz [8] <|
 .ret [21,20,19,11,12,13,17,18])
def F_i_Learn:Sem1:=Fs p_i_Learn [(12,F_i_SelfOk),(36,F_i_copySelf),(49,F_i_learned)]
def p_i_HearNode:PL :=
 Qi 15 [0,1,2,3,4,5,6,7] 8 <|
 Qi 22 [0,1,2,3,4,5,6,7,9,11] 1 <|
 Qi 16 [0,1,2,3,4,5,6,7] 1 <|
 Qt [23] <|
 .ite 24 (
 Qz [16] <|
 Qz [15] <|
 Qz [14] <|
 .ret [27,26,25,17,18,19,20,21,.e]) (
 Qi 23 [8,9,10,11,12,13] 1 <|
 Qt [25] <|
 .ite 26 (
 Qz [16] <|
 Qz [15] <|
 Qz [14] <|
 .ret [29,28,27,17,18,19,20,21,.e]) (
 Qu [10,0] <|
 .ite 27 (
 Qz [16] <|
 Qz [15] <|
 Qz [14] <|
 .ret [30,29,28,17,18,19,20,21,.e]) (
 Ql [22,I 0] <|
 .ite 28 (
 Qz [16] <|
 Qz [15] <|
 Qz [14] <|
 .ret [31,30,29,17,18,19,20,21,.e]) (
 Qe [8,I 1] <|
 .ite 29 (
 Qb [21,22] <|
 Qi 47 [12,14] 1 <|
 Q (.put true 4 2 1) [21,22,I 3] <|
 Q (.put true 4 3 1) [32,22,31] <|
 Qi 17 [33] 1 <|
 Qi 13 [14,15,16,17,18,34,20] 8 <|
 Qi 50 [.e,42] 1 <|
 Qi 50 [.e,42] 1 <|
 Qn [33] <|
 .loop [.e,I 0,35,36,37,38,39,40,41,33,33] (
 Ql [47,45] <|
 .ite 57 (
 Q4 [56,47] <|
 Qi 43 [43,60] 1 <|
 Qe [47,.k (.int .i64 (-1))] <|
 .join (
 .ite 62 (
 Qn [65] <|
 Qg [66,I 0] <|
 .join (
 Qa [47,I 1] <|
 .go 0 [76,79,68,69,70,71,72,73,74,75,77]) (
 .ite 67 (
 Qi 20 [48,49,50,51,52,53,54,55,I 3,59,60,61,62,.e,65] 14 <|
 Q (.lit 6 []) [68,69,70,71,72,73] <|
 Q (.app false 6) [46,82] <|
 .go 0 [74,75,76,77,78,79,80,81,83,56,65]) (
 .go 0 [48,49,50,51,52,53,54,55,46,56,65]))) (
 .join (
 Qa [47,I 1] <|
 .go 0 [74,77,66,67,68,69,70,71,72,73,75]) (
 .go 0 [48,49,50,51,52,53,54,55,46,56,65]))) (
 .ite 64 (
 Qi 43 [44,60] 1 <|
 .go 0 [65]) (
 .go 0 [63]))) (
 Qz [50] <|
 Qz [49] <|
 Qz [48] <|
 .ret [60,59,58,51,52,53,54,55,46]))) (
 Qb [7,22] <|
 Qc 4 3 [7,22] <|
 Qt [31] <|
 .ite 32 (
 Qz [16] <|
 Qz [15] <|
 Qz [14] <|
 .ret [35,34,33,17,18,19,20,21,.e]) (
 Qe [8,I 2] <|
 .ite 33 (
 Qb [21,22] <|
 Q (.scell 4 0) [21,22] <|
 Q (.scell 4 1) [21,22] <|
 Q (.scell 4 2) [21,22] <|
 Q (.scell 4 3) [21,22] <|
 Qi 43 [20,36] 1 <|
 Qi 48 [39,13] 1 <|
 Qn [40] <|
 Qg [41,I 0] <|
 .join (
 Qi 48 [13,39] 1 <|
 Qn [57] <|
 Qg [58,I 0] <|
 .join (
 Qz [62] <|
 Qz [61] <|
 Qz [60] <|
 .ret [71,70,69,63,64,65,66,67,68]) (
 .ite 59 (
 Qi 21 [49,36] 1 <|
 Qi 20 [43,44,45,46,47,48,49,50,I 2,35,36,37,38,.e,60] 14 <|
 Q (.lit 6 []) [61,62,63,64,65,66] <|
 Q (.app false 6) [51,75] <|
 .go 0 [67,68,69,70,71,72,73,74,76]) (
 .go 0 [43,44,45,46,47,48,49,50,51]))) (
 .ite 42 (
 Qi 20 [14,15,16,17,18,19,20,21,I 3,35,36,37,38,.e,40] 14 <|
 Q (.lit 6 []) [43,44,45,46,47,48] <|
 Q (.app false 6) [.e,57] <|
 .go 0 [49,50,51,52,53,54,55,56,58,21,20,40,40,40]) (
 .go 0 [14,15,16,17,18,19,20,21,.e,21,20,40,40,40]))) (
 Qi 26 [14,15,16,17,18,19,20,13] 8 <|
 Qi 13 [34,35,36,37,38,39,40] 8 <|
 Qi 50 [41,49] 1 <|
 Qi 50 [.e,49] 1 <|
 Qn [21] <|
 .loop [.e,I 0,42,43,44,45,46,47,48,21,21] (
 Ql [54,52] <|
 .ite 64 (
 Q4 [63,54] <|
 Qi 43 [50,67] 1 <|
 Qe [54,22] <|
 .join (
 .ite 69 (
 Qn [72] <|
 Qg [73,I 0] <|
 .join (
 Qa [54,I 1] <|
 .go 0 [83,86,75,76,77,78,79,80,81,82,84]) (
 .ite 74 (
 Qi 20 [55,56,57,58,59,60,61,62,I 3,66,67,68,69,.e,72] 14 <|
 Q (.lit 6 []) [75,76,77,78,79,80] <|
 Q (.app false 6) [53,89] <|
 .go 0 [81,82,83,84,85,86,87,88,90,63,72]) (
 .go 0 [55,56,57,58,59,60,61,62,53,63,72]))) (
 .join (
 Qa [54,I 1] <|
 .go 0 [81,84,73,74,75,76,77,78,79,80,82]) (
 .go 0 [55,56,57,58,59,60,61,62,53,63,72]))) (
 .ite 71 (
 Qi 43 [51,67] 1 <|
 .go 0 [72]) (
 .go 0 [70]))) (
 Qz [57] <|
 Qz [56] <|
 Qz [55] <|
 .ret [67,66,65,58,59,60,61,62,53])))))))))
def F_i_HearNode:Sem1:=Fs p_i_HearNode [(13,F_i_Renew),(15,F_i_copyNode),(16,F_i_NodeOk),(17,F_i_heardBy),(20,F_i_Node_say),(21,F_i_Headers),(22,F_i_earAt),(23,F_i_PacketOk),(26,F_i_Learn),(43,F_i_Scope),(47,F_i_hasInt),(48,F_i_Newer),(50,F_i_newest)]
def p_i_thing:PL :=
 Qn [0] <|
 .loop [.k (.bool false),.k (.bool false),I 0,I 0,I 0,I 0,.e,I 0,I 0,.e] (
 Ql [8,4] <|
 .ite 15 (
 Q8 [0,8] <|
 Qu [18,I 3] <|
 .ite 25 (
 Qa [8,I 1] <|
 .go 0 [5,6,7,26,9,10,11,12,13,14]) (
 Qu [20,1] <|
 .ite 26 (
 Qa [8,I 1] <|
 .go 0 [5,6,7,27,9,10,11,12,13,14]) (
 Qh [23,I 60000] <|
 .ite 27 (
 Qa [8,I 1] <|
 .go 0 [5,6,7,28,9,10,11,12,13,14]) (
 Qi 69 [3,19] 4 <|
 Qe [19,2] <|
 .join (
 Qt [36] <|
 .ite 37 (
 Qa [8,I 1] <|
 .go 0 [5,6,7,38,9,10,11,12,13,14]) (
 Qt [24] <|
 .ite 38 (
 Qa [34,23] <|
 .join (
 Qa [8,I 1] <|
 .go 0 [.k (.bool true),6,7,43,40,41,42,12,13,14]) (
 .ite 5 (
 Qi 70 [9,10,11,1,39,35] 3 <|
 .go 0 [40,41,42]) (
 .go 0 [1,39,35]))) (
 .ite 6 (
 Qe [23,7] <|
 .join (
 Qt [6] <|
 .ite 43 (
 .join (
 Qa [8,I 1] <|
 .go 0 [5,47,48,49,9,10,11,44,45,46]) (
 .go 0 [40,41,42,.k (.bool true),23])) (
 Qm [23,7] <|
 .join (
 Qa [8,I 1] <|
 .go 0 [5,48,49,50,9,10,11,45,46,47]) (
 .ite 44 (
 .go 0 [40,41,42,.k (.bool true),23]) (
 .go 0 [12,13,14,6,7])))) (
 .ite 39 (
 Qi 70 [12,13,14,1,34,35] 3 <|
 .go 0 [40,41,42]) (
 .go 0 [1,34,35]))) (
 .join (
 Qt [6] <|
 .ite 42 (
 .join (
 Qa [8,I 1] <|
 .go 0 [5,46,47,48,9,10,11,43,44,45]) (
 .go 0 [39,40,41,.k (.bool true),23])) (
 Qm [23,7] <|
 .join (
 Qa [8,I 1] <|
 .go 0 [5,47,48,49,9,10,11,44,45,46]) (
 .ite 43 (
 .go 0 [39,40,41,.k (.bool true),23]) (
 .go 0 [12,13,14,6,7])))) (
 .go 0 [1,34,35]))))) (
 .ite 32 (
 .go 0 [I 0,I 0,.e,.k (.bool true)]) (
 .go 0 [28,29,30,31])))))) (
 .ite 5 (
 Qz [.k (.bool true)] <|
 Qz [I 0] <|
 Qz [10] <|
 Qz [I 3] <|
 Qz [1] <|
 Qz [.k (.bool true)] <|
 .ret [21,20,19,18,17,11,16]) (
 Qz [6] <|
 Qz [7] <|
 Qz [13] <|
 Qz [I 4] <|
 Qz [1] <|
 Qz [.k (.bool true)] <|
 .ret [21,20,19,18,17,14,16])))
def F_i_thing:Sem1:=Fs p_i_thing [(69,F_i_WayTo),(70,F_i_Together)]
def p_i_RoutesOf:PL :=
 Qi 51 [0,1,3] 1 <|
 Qi 52 [0,1,2,3] 1 <|
 Qn [4] <|
 .loop [.e,I 0,4] (
 Ql [8,6] <|
 .ite 10 (
 Q3 [9,8] <|
 Qu [12,3] <|
 .join (
 Qa [8,I 1] <|
 .go 0 [16,17,9]) (
 .ite 15 (
 Qi 42 [14] 1 <|
 Q (.lit 6 [true,true,true,true,true,false]) [.k (.bool false),12,I 1,13,I 0,16] <|
 Q (.app false 6) [7,17] <|
 .go 0 [18]) (
 .go 0 [7]))) (
 Qn [5] <|
 .loop [7,I 0,5] (
 Ql [13,11] <|
 .ite 15 (
 Q3 [14,13] <|
 Qi 42 [19] 1 <|
 Q (.lit 6 [true,true,true,true,true,false]) [.k (.bool false),17,I 2,18,I 0,20] <|
 Q (.app false 6) [12,21] <|
 Qa [13,I 1] <|
 .go 0 [22,23,14]) (
 Qn [0] <|
 .loop [.e,I 0] (
 Ql [18,16] <|
 .ite 19 (
 Q8 [0,18] <|
 Qe [22,I 3] <|
 .ite 29 (
 Ql [27,I 60000] <|
 .join (
 Qa [18,I 1] <|
 .go 0 [31,32]) (
 .ite 30 (
 .loop [I 0] (
 Qn [17] <|
 Ql [31,32] <|
 .ite 33 (
 Qq [17,31] <|
 Ql [35,24] <|
 .ite 36 (
 Qa [31,I 1] <|
 .go 0 [37]) (
 Qn [17] <|
 Ql [31,37] <|
 .ite 38 (
 Qq [17,31] <|
 Qe [40,24] <|
 .ite 41 (
 .go 1 [17]) (
 Qw [17,31] <|
 Qi 42 [42] 1 <|
 Qx [24] <|
 Qp [43,44] <|
 Qv [17,31] <|
 Qp [45,46] <|
 .go 1 [47])) (
 Qw [17,31] <|
 Qi 42 [39] 1 <|
 Qx [24] <|
 Qp [40,41] <|
 Qv [17,31] <|
 Qp [42,43] <|
 .go 1 [44]))) (
 Qn [17] <|
 Ql [31,34] <|
 .ite 35 (
 Qq [17,31] <|
 Qe [37,24] <|
 .ite 38 (
 .go 1 [17]) (
 Qw [17,31] <|
 Qi 42 [39] 1 <|
 Qx [24] <|
 Qp [40,41] <|
 Qv [17,31] <|
 Qp [42,43] <|
 .go 1 [44])) (
 Qw [17,31] <|
 Qi 42 [36] 1 <|
 Qx [24] <|
 Qp [37,38] <|
 Qv [17,31] <|
 Qp [39,40] <|
 .go 1 [41])))) (
 .go 0 [17]))) (
 .join (
 Qa [18,I 1] <|
 .go 0 [30,31]) (
 .go 0 [17]))) (
 Qo [.e,9] <|
 Qo [20,14] <|
 Qn [17] <|
 .loop [12,I 0] (
 Ql [24,22] <|
 .ite 25 (
 Qq [17,24] <|
 Qi 53 [0,27,3,21] 7 <|
 .join (
 Qa [24,I 1] <|
 .go 0 [35,36]) (
 .ite 34 (
 Q (.lit 6 [true,true,true,true,true,false]) [28,29,30,31,32,33] <|
 Q (.app false 6) [23,35] <|
 .go 0 [36]) (
 .go 0 [23]))) (
 .ret [23]))))))))
def F_i_RoutesOf:Sem1:=Fs p_i_RoutesOf [(42,F_i_copyInts),(51,F_i_RoutesWithin),(52,F_i_RoutesBeyond),(53,F_i_thing)]
def p_i_Routes:PL :=
 Qi 16 [0,1,2,3,4,5,6,7] 1 <|
 Qt [8] <|
 .ite 9 (
 .ret [.e]) (
 Qi 29 [2,3,4,0] 1 <|
 Qi 30 [2,3,4,0] 1 <|
 Qi 28 [6,10,11,0] 1 <|
 .ret [12])
def F_i_Routes:Sem1:=Fs p_i_Routes [(16,F_i_NodeOk),(28,F_i_RoutesOf),(29,F_i_AreasOf),(30,F_i_Border)]
def p_same:PL :=
 .ins (.pr (.bin .neq) [.a 0,.a 8]) <|
 .ite 16 (
  .ins (.pr (.scl) [.k (.bool false)]) <|
  .ret [.a 17]) (
  .ins (.pr (.bin .neq) [.a 1,.a 9]) <|
  .ite 17 (
  .ins (.pr (.scl) [.k (.bool false)]) <|
  .ret [.a 18]) (
  .ins (.pr (.bin .neq) [.a 2,.a 10]) <|
  .ite 18 (
   .ins (.pr (.scl) [.k (.bool false)]) <|
   .ret [.a 19]) (
   .ins (.pr (.bin .neq) [.a 3,.a 11]) <|
   .ite 19 (
   .ins (.pr (.scl) [.k (.bool false)]) <|
   .ret [.a 20]) (
   .ins (.pr (.bin .neq) [.a 4,.a 12]) <|
   .ite 20 (
    .ins (.pr (.scl) [.k (.bool false)]) <|
    .ret [.a 21]) (
    .ins (.pr (.bin .neq) [.a 6,.a 14]) <|
    .ite 21 (
    .ins (.pr (.scl) [.k (.bool false)]) <|
    .ret [.a 22]) (
    .ins (.pr (.bb .neq) [.a 7,.a 15]) <|
    .ite 22 (
     .ins (.pr (.scl) [.k (.bool false)]) <|
     .ret [.a 23]) (
     .ins (.pr (.len) [.a 5]) <|
     .ins (.pr (.len) [.a 13]) <|
     .ins (.pr (.bin .neq) [.a 23,.a 24]) <|
     .ite 25 (
     .ins (.pr (.scl) [.k (.bool false)]) <|
     .ret [.a 26]) (
     .loop [.k (.bool false),.k (.int .i64 0)] (
      .ins (.pr (.len) [.a 5]) <|
      .ins (.pr (.bin .lss) [.a 27,.a 28]) <|
      .ite 29 (
      .ins (.pr (.bnd) [.a 5,.a 27]) <|
      .ins (.pr (.cell 2 0) [.a 5,.a 27]) <|
      .ins (.pr (.cell 2 1) [.a 5,.a 27]) <|
      .ins (.pr (.bnd) [.a 13,.a 27]) <|
      .ins (.pr (.cell 2 0) [.a 13,.a 27]) <|
      .ins (.pr (.cell 2 1) [.a 13,.a 27]) <|
      .ins (.pr (.eqs [1,1]) [.a 31,.a 32,.a 34,.a 35]) <|
      .ins (.pr (.un .not) [.a 36]) <|
      .ite 37 (
       .ins (.pr (.scl) [.k (.bool false)]) <|
       .ret [.a 38]) (
       .ins (.pr (.bin .add) [.a 27,.k (.int .i64 1)]) <|
       .go 0 [.a 26,.a 38])) (
      .ins (.pr (.scl) [.k (.bool true)]) <|
      .ret [.a 30]))))))))))
def S_same:Nat→Sem1:=pick []
def F_same:Sem1:=fun ts=>p_same.den S_same rounds [] ts
def p_sameStore:PL :=
 .ins (.pr (.len) [.a 0]) <|
 .ins (.pr (.len) [.a 1]) <|
 .ins (.pr (.bin .neq) [.a 2,.a 3]) <|
 .ite 4 (
  .ins (.pr (.scl) [.k (.bool false)]) <|
  .ret [.a 5]) (
  .loop [.k (.bool false),.k (.int .i64 0)] (
  .ins (.pr (.len) [.a 0]) <|
  .ins (.pr (.bin .lss) [.a 6,.a 7]) <|
  .ite 8 (
   .ins (.pr (.bnd) [.a 0,.a 6]) <|
   .ins (.pr (.cell 8 0) [.a 0,.a 6]) <|
   .ins (.pr (.cell 8 1) [.a 0,.a 6]) <|
   .ins (.pr (.cell 8 2) [.a 0,.a 6]) <|
   .ins (.pr (.cell 8 3) [.a 0,.a 6]) <|
   .ins (.pr (.cell 8 4) [.a 0,.a 6]) <|
   .ins (.pr (.cell 8 5) [.a 0,.a 6]) <|
   .ins (.pr (.cell 8 6) [.a 0,.a 6]) <|
   .ins (.pr (.cell 8 7) [.a 0,.a 6]) <|
   .ins (.pr (.bnd) [.a 1,.a 6]) <|
   .ins (.pr (.cell 8 0) [.a 1,.a 6]) <|
   .ins (.pr (.cell 8 1) [.a 1,.a 6]) <|
   .ins (.pr (.cell 8 2) [.a 1,.a 6]) <|
   .ins (.pr (.cell 8 3) [.a 1,.a 6]) <|
   .ins (.pr (.cell 8 4) [.a 1,.a 6]) <|
   .ins (.pr (.cell 8 5) [.a 1,.a 6]) <|
   .ins (.pr (.cell 8 6) [.a 1,.a 6]) <|
   .ins (.pr (.cell 8 7) [.a 1,.a 6]) <|
   .ins (.cl 31 [.a 10,.a 11,.a 12,.a 13,.a 14,.a 15,.a 16,.a 17,.a 19,.a 20,.a 21,.a 22,.a 23,.a 24,.a 25,.a 26] 1) <|
   .ins (.pr (.un .not) [.a 27]) <|
   .ite 28 (
   .ins (.pr (.scl) [.k (.bool false)]) <|
   .ret [.a 29]) (
   .ins (.pr (.bin .add) [.a 6,.k (.int .i64 1)]) <|
   .go 0 [.a 5,.a 29])) (
   .ins (.pr (.scl) [.k (.bool true)]) <|
   .ret [.a 9])))
def S_sameStore:Nat→Sem1:=pick [(31,F_same)]
def F_sameStore:Sem1:=fun ts=>p_sameStore.den S_sameStore rounds [] ts
def p_sameInts:PL :=
 .ins (.pr (.len) [.a 0]) <|
 .ins (.pr (.len) [.a 1]) <|
 .ins (.pr (.bin .neq) [.a 2,.a 3]) <|
 .ite 4 (
  .ins (.pr (.scl) [.k (.bool false)]) <|
  .ret [.a 5]) (
  .loop [.k (.bool false),.k (.int .i64 0)] (
  .ins (.pr (.len) [.a 0]) <|
  .ins (.pr (.bin .lss) [.a 6,.a 7]) <|
  .ite 8 (
   .ins (.pr (.bnd) [.a 0,.a 6]) <|
   .ins (.pr (.cell 1 0) [.a 0,.a 6]) <|
   .ins (.pr (.bnd) [.a 1,.a 6]) <|
   .ins (.pr (.cell 1 0) [.a 1,.a 6]) <|
   .ins (.pr (.bin .neq) [.a 10,.a 12]) <|
   .ite 13 (
   .ins (.pr (.scl) [.k (.bool false)]) <|
   .ret [.a 14]) (
   .ins (.pr (.bin .add) [.a 6,.k (.int .i64 1)]) <|
   .go 0 [.a 5,.a 14])) (
   .ins (.pr (.scl) [.k (.bool true)]) <|
   .ret [.a 9])))
def S_sameInts:Nat→Sem1:=pick []
def F_sameInts:Sem1:=fun ts=>p_sameInts.den S_sameInts rounds [] ts
def p_FnTalks:PL :=
 .ins (.cl 4 [.a 0] 1) <|
 .ite 1 (
  .ins (.pr (.scl) [.k (.bool true)]) <|
  .ret [.a 2]) (
  .ins (.pr (.len) [.a 0]) <|
  .ins (.pr (.bin .rem) [.a 2,.k (.int .i64 9)]) <|
  .ins (.pr (.bin .add) [.k (.int .i64 1),.a 3]) <|
  .ins (.pr (.len) [.a 0]) <|
  .ins (.pr (.bin .rem) [.a 5,.k (.int .i64 3)]) <|
  .ins (.pr (.lit 4 [true,true,true,true]) [.k (.int .i64 1),.k (.int .i64 2),.a 4,.a 6]) <|
  .ins (.pr (.lit 4 [true,true,true,true]) [.k (.int .i64 2),.k (.int .i64 4),.k (.int .i64 5),.k (.bool false)]) <|
  .ins (.pr (.len) [.a 0]) <|
  .ins (.pr (.bin .rem) [.a 9,.k (.int .i64 5)]) <|
  .ins (.cl 5 [.k (.int .i64 2),.a 7,.a 8,.k (.int .i64 1),.a 10] 9) <|
  .ins (.cl 5 [.k (.int .i64 2),.a 7,.a 8,.k (.int .i64 2),.k (.int .i64 0)] 9) <|
  .loop [.k (.bool false),.k (.int .i64 0),.a 11,.a 12,.a 13,.a 14,.a 15,.a 16,.a 17,.a 18,.a 20,.a 21,.a 22,.a 23,.a 24,.a 25,.a 26,.a 27] (
  .ins (.pr (.bin .lss) [.a 30,.k (.int .i64 4)]) <|
  .ite 47 (
   .ins (.pr (.lit 6 []) []) <|
   .ins (.pr (.lit 6 []) []) <|
   .ins (.cl 6 [.a 31,.a 32,.a 33,.a 34,.a 35,.a 36,.a 37,.a 38] 9) <|
   .ins (.pr (.app false 6) [.a 48,.a 58]) <|
   .ins (.cl 6 [.a 39,.a 40,.a 41,.a 42,.a 43,.a 44,.a 45,.a 46] 9) <|
   .ins (.pr (.app false 6) [.a 59,.a 68]) <|
   .loop [.a 69,.k (.int .i64 0),.a 50,.a 51,.a 52,.a 53,.a 54,.a 55,.a 56,.a 57,.a 60,.a 61,.a 62,.a 63,.a 64,.a 65,.a 66,.a 67] (
   .ins (.pr (.bin .lss) [.a 71,.k (.int .i64 60)]) <|
   .ite 88 (
    .ins (.pr (.len) [.a 70]) <|
    .ins (.pr (.bin .gtr) [.a 89,.k (.int .i64 0)]) <|
    .ite 90 (
    .ins (.pr (.lit 6 []) []) <|
    .ins (.pr (.bnd) [.a 70,.k (.int .i64 0)]) <|
    .ins (.pr (.cell 6 2) [.a 70,.k (.int .i64 0)]) <|
    .ins (.pr (.bin .eql) [.a 93,.k (.int .i64 1)]) <|
    .join (
     .ins (.pr (.lit 6 []) []) <|
     .ins (.pr (.sub 6 true false) [.a 70,.k (.int .i64 1)]) <|
     .ins (.pr (.app false 6) [.a 112,.a 113]) <|
     .ins (.pr (.app false 6) [.a 114,.a 103]) <|
     .ins (.pr (.bin .add) [.a 71,.k (.int .i64 1)]) <|
     .go 0 [.a 115,.a 116,.a 95,.a 96,.a 97,.a 98,.a 99,.a 100,.a 101,.a 102,.a 104,.a 105,.a 106,.a 107,.a 108,.a 109,.a 110,.a 111]) (
     .ite 94 (
     .ins (.pr (.bnd) [.a 70,.k (.int .i64 0)]) <|
     .ins (.pr (.cell 6 0) [.a 70,.k (.int .i64 0)]) <|
     .ins (.pr (.cell 6 1) [.a 70,.k (.int .i64 0)]) <|
     .ins (.pr (.cell 6 2) [.a 70,.k (.int .i64 0)]) <|
     .ins (.pr (.cell 6 3) [.a 70,.k (.int .i64 0)]) <|
     .ins (.pr (.cell 6 4) [.a 70,.k (.int .i64 0)]) <|
     .ins (.pr (.cell 6 5) [.a 70,.k (.int .i64 0)]) <|
     .ins (.cl 7 [.a 72,.a 73,.a 74,.a 75,.a 76,.a 77,.a 78,.a 79,.a 96,.a 97,.a 98,.a 99,.a 100,.a 101] 9) <|
     .go 0 [.a 102,.a 103,.a 104,.a 105,.a 106,.a 107,.a 108,.a 109,.a 110,.a 80,.a 81,.a 82,.a 83,.a 84,.a 85,.a 86,.a 87]) (
     .ins (.pr (.bnd) [.a 70,.k (.int .i64 0)]) <|
     .ins (.pr (.cell 6 0) [.a 70,.k (.int .i64 0)]) <|
     .ins (.pr (.cell 6 1) [.a 70,.k (.int .i64 0)]) <|
     .ins (.pr (.cell 6 2) [.a 70,.k (.int .i64 0)]) <|
     .ins (.pr (.cell 6 3) [.a 70,.k (.int .i64 0)]) <|
     .ins (.pr (.cell 6 4) [.a 70,.k (.int .i64 0)]) <|
     .ins (.pr (.cell 6 5) [.a 70,.k (.int .i64 0)]) <|
     .ins (.cl 7 [.a 80,.a 81,.a 82,.a 83,.a 84,.a 85,.a 86,.a 87,.a 96,.a 97,.a 98,.a 99,.a 100,.a 101] 9) <|
     .go 0 [.a 72,.a 73,.a 74,.a 75,.a 76,.a 77,.a 78,.a 79,.a 110,.a 102,.a 103,.a 104,.a 105,.a 106,.a 107,.a 108,.a 109]))) (
    .ins (.pr (.len) [.a 70]) <|
    .ins (.pr (.bin .gtr) [.a 91,.k (.int .i64 0)]) <|
    .ite 92 (
     .ins (.pr (.scl) [.k (.bool false)]) <|
     .ret [.a 93]) (
     .ins (.pr (.bin .add) [.a 30,.k (.int .i64 1)]) <|
     .go 1 [.a 29,.a 93,.a 72,.a 73,.a 74,.a 75,.a 76,.a 77,.a 78,.a 79,.a 80,.a 81,.a 82,.a 83,.a 84,.a 85,.a 86,.a 87]))) (
    .ins (.pr (.len) [.a 70]) <|
    .ins (.pr (.bin .gtr) [.a 89,.k (.int .i64 0)]) <|
    .ite 90 (
    .ins (.pr (.scl) [.k (.bool false)]) <|
    .ret [.a 91]) (
    .ins (.pr (.bin .add) [.a 30,.k (.int .i64 1)]) <|
    .go 1 [.a 29,.a 91,.a 72,.a 73,.a 74,.a 75,.a 76,.a 77,.a 78,.a 79,.a 80,.a 81,.a 82,.a 83,.a 84,.a 85,.a 86,.a 87])))) (
   .ins (.cl 8 [.a 31,.a 32,.a 33,.a 34,.a 35,.a 36,.a 37,.a 38] 1) <|
   .ite 19 (
   .ite 28 (
    .ins (.cl 9 [.a 37,.a 45] 1) <|
    .ite 49 (
    .ins (.pr (.len) [.a 48]) <|
    .ins (.pr (.bin .eql) [.a 50,.k (.int .i64 2)]) <|
    .ite 51 (
     .ins (.pr (.bnd) [.a 48,.k (.int .i64 0)]) <|
     .ins (.pr (.scell 6 1) [.a 48,.k (.int .i64 0)]) <|
     .ins (.pr (.bin .eql) [.a 53,.k (.int .i64 2)]) <|
     .ite 54 (
     .ins (.pr (.bnd) [.a 48,.k (.int .i64 0)]) <|
     .ins (.pr (.scell 6 3) [.a 48,.k (.int .i64 0)]) <|
     .ins (.pr (.len) [.a 0]) <|
     .ins (.pr (.bin .rem) [.a 57,.k (.int .i64 9)]) <|
     .ins (.pr (.bin .add) [.k (.int .i64 1),.a 58]) <|
     .ins (.pr (.bin .eql) [.a 56,.a 59]) <|
     .ite 60 (
      .ins (.pr (.bnd) [.a 48,.k (.int .i64 1)]) <|
      .ins (.pr (.scell 6 0) [.a 48,.k (.int .i64 1)]) <|
      .ite 62 (
      .ins (.pr (.bnd) [.a 48,.k (.int .i64 1)]) <|
      .ins (.pr (.scell 6 3) [.a 48,.k (.int .i64 1)]) <|
      .ins (.pr (.len) [.a 0]) <|
      .ins (.pr (.bin .rem) [.a 65,.k (.int .i64 9)]) <|
      .ins (.pr (.bin .add) [.k (.int .i64 6),.a 66]) <|
      .ins (.pr (.bin .eql) [.a 64,.a 67]) <|
      .ite 68 (
       .ins (.pr (.bnd) [.a 48,.k (.int .i64 1)]) <|
       .ins (.pr (.dig 6 5) [.a 48,.k (.int .i64 1)]) <|
       .ins (.pr (.lit 1 [true]) [.k (.int .i64 2)]) <|
       .ins (.pr (.dig 6 5) [.a 48,.k (.int .i64 1)]) <|
       .ins (.cl 10 [.a 72,.a 71] 1) <|
       .ins (.pr (.scl) [.a 73]) <|
       .ret [.a 74]) (
       .ins (.pr (.scl) [.k (.bool false)]) <|
       .ret [.a 69])) (
      .ins (.pr (.scl) [.k (.bool false)]) <|
      .ret [.a 63])) (
      .ins (.pr (.scl) [.k (.bool false)]) <|
      .ret [.a 61])) (
     .ins (.pr (.scl) [.k (.bool false)]) <|
     .ret [.a 55])) (
     .ins (.pr (.scl) [.k (.bool false)]) <|
     .ret [.a 52])) (
    .ins (.pr (.scl) [.k (.bool false)]) <|
    .ret [.a 50])) (
    .ins (.pr (.scl) [.k (.bool false)]) <|
    .ret [.a 49])) (
   .ins (.pr (.scl) [.k (.bool false)]) <|
   .ret [.a 49]))))
def S_FnTalks:Nat→Sem1:=pick [(4,F_big),(5,F_i_NodeNew),(6,F_i_TickNode),(7,F_i_HearNode),(8,F_i_Routes),(9,F_sameStore),(10,F_sameInts)]
def F_FnTalks:Sem1:=fun ts=>p_FnTalks.den S_FnTalks rounds [] ts
end Go.Proofs.YtjimmglpkndemaaC
