/- The plain programs of the functions that are walked (printed by a program). Conditions: none. -/
import Derived.Test.YtlofiplkmgmnfaaKe
namespace Go.Proofs.YtlofiplkmgmnfaaC
def p_szLinkS:PL :=
 .ins (.pr (.len) [.a 0]) <|
 .ins (.pr (.bin .sub) [.a 1,.a 2]) <|
 .ins (.pr (.bin .lss) [.a 3,.k (.int .i64 0)]) <|
 .ite 4 (
  .ins (.pr (.scl) [.k (.int .i64 (-1))]) <|
  .ret [.a 5]) (
  .ins (.pr (.scl) [.a 3]) <|
  .ret [.a 5])
def S_szLinkS:Nat→Sem1:=pick []
def F_szLinkS:Sem1:=fun ts=>p_szLinkS.den S_szLinkS rounds [] ts
def p_szThingS:PL :=
 .ins (.pr (.len) [.a 0]) <|
 .ins (.pr (.bin .sub) [.a 1,.a 2]) <|
 .ins (.pr (.bin .lss) [.a 3,.k (.int .i64 0)]) <|
 .ite 4 (
  .ins (.pr (.scl) [.k (.int .i64 (-1))]) <|
  .ret [.a 5]) (
  .ins (.pr (.scl) [.a 3]) <|
  .ret [.a 5])
def S_szThingS:Nat→Sem1:=pick []
def F_szThingS:Sem1:=fun ts=>p_szThingS.den S_szThingS rounds [] ts
def p_szNet:PL :=
 .ins (.cl 100 [.a 1,.a 3] 1) <|
 .ins (.pr (.bin .lss) [.a 4,.k (.int .i64 0)]) <|
 .ite 5 (
  .ins (.pr (.scl) [.k (.int .i64 (-1))]) <|
  .ret [.a 6]) (
  .ins (.cl 101 [.a 2,.a 4] 1) <|
  .ins (.pr (.bin .lss) [.a 6,.k (.int .i64 0)]) <|
  .ite 7 (
  .ins (.pr (.scl) [.k (.int .i64 (-1))]) <|
  .ret [.a 8]) (
  .ins (.pr (.scl) [.a 6]) <|
  .ret [.a 8]))
def S_szNet:Nat→Sem1:=pick [(100,F_szLinkS),(101,F_szThingS)]
def F_szNet:Sem1:=fun ts=>p_szNet.den S_szNet rounds [] ts
def p_toLink:PL :=
 .ins (.pr (.scl) [.a 3]) <|
 .ins (.pr (.scl) [.a 2]) <|
 .ins (.pr (.scl) [.a 1]) <|
 .ins (.pr (.scl) [.a 0]) <|
 .ret [.a 7,.a 6,.a 5,.a 4]
def S_toLink:Nat→Sem1:=pick []
def F_toLink:Sem1:=fun ts=>p_toLink.den S_toLink rounds [] ts
def p_toLinkS:PL :=
 .ins (.pr (.len) [.a 0]) <|
 .ins (.pr (.mk) [.a 1,.a 1,.k (.int .i64 0),.k (.int .i64 0),.k (.int .i64 0),.k (.int .i64 0)]) <|
 .loop [.k (.int .i64 0),.a 2] (
  .ins (.pr (.len) [.a 0]) <|
  .ins (.pr (.bin .lss) [.a 3,.a 5]) <|
  .ite 6 (
  .ins (.pr (.bnd) [.a 0,.a 3]) <|
  .ins (.pr (.cell 4 0) [.a 0,.a 3]) <|
  .ins (.pr (.cell 4 1) [.a 0,.a 3]) <|
  .ins (.pr (.cell 4 2) [.a 0,.a 3]) <|
  .ins (.pr (.cell 4 3) [.a 0,.a 3]) <|
  .ins (.cl 174 [.a 8,.a 9,.a 10,.a 11] 4) <|
  .ins (.pr (.bnd) [.a 4,.a 3]) <|
  .ins (.pr (.put true 4 0 4) [.a 4,.a 3,.a 12,.a 13,.a 14,.a 15]) <|
  .ins (.pr (.bin .add) [.a 3,.k (.int .i64 1)]) <|
  .go 0 [.a 18,.a 17]) (
  .ret [.a 4]))
def S_toLinkS:Nat→Sem1:=pick [(174,F_toLink)]
def F_toLinkS:Sem1:=fun ts=>p_toLinkS.den S_toLinkS rounds [] ts
def p_toThing:PL :=
 .ins (.pr (.scl) [.a 3]) <|
 .ins (.pr (.scl) [.a 2]) <|
 .ins (.pr (.scl) [.a 1]) <|
 .ins (.pr (.scl) [.a 0]) <|
 .ret [.a 7,.a 6,.a 5,.a 4]
def S_toThing:Nat→Sem1:=pick []
def F_toThing:Sem1:=fun ts=>p_toThing.den S_toThing rounds [] ts
def p_toThingS:PL :=
 .ins (.pr (.len) [.a 0]) <|
 .ins (.pr (.mk) [.a 1,.a 1,.k (.int .i64 0),.k (.int .i64 0),.k (.int .i64 0),.k (.bool false)]) <|
 .loop [.k (.int .i64 0),.a 2] (
  .ins (.pr (.len) [.a 0]) <|
  .ins (.pr (.bin .lss) [.a 3,.a 5]) <|
  .ite 6 (
  .ins (.pr (.bnd) [.a 0,.a 3]) <|
  .ins (.pr (.cell 4 0) [.a 0,.a 3]) <|
  .ins (.pr (.cell 4 1) [.a 0,.a 3]) <|
  .ins (.pr (.cell 4 2) [.a 0,.a 3]) <|
  .ins (.pr (.cell 4 3) [.a 0,.a 3]) <|
  .ins (.cl 175 [.a 8,.a 9,.a 10,.a 11] 4) <|
  .ins (.pr (.bnd) [.a 4,.a 3]) <|
  .ins (.pr (.put true 4 0 4) [.a 4,.a 3,.a 12,.a 13,.a 14,.a 15]) <|
  .ins (.pr (.bin .add) [.a 3,.k (.int .i64 1)]) <|
  .go 0 [.a 18,.a 17]) (
  .ret [.a 4]))
def S_toThingS:Nat→Sem1:=pick [(175,F_toThing)]
def F_toThingS:Sem1:=fun ts=>p_toThingS.den S_toThingS rounds [] ts
def p_toNet:PL :=
 .ins (.cl 107 [.a 1] 1) <|
 .ins (.cl 108 [.a 2] 1) <|
 .ins (.pr (.scl) [.a 0]) <|
 .ret [.a 5,.a 3,.a 4]
def S_toNet:Nat→Sem1:=pick [(107,F_toLinkS),(108,F_toThingS)]
def F_toNet:Sem1:=fun ts=>p_toNet.den S_toNet rounds [] ts
def p_toBoolS:PL :=
 .ins (.pr (.len) [.a 0]) <|
 .ins (.pr (.mk) [.a 1,.a 1,.k (.bool false)]) <|
 .loop [.k (.int .i64 0),.a 2] (
  .ins (.pr (.len) [.a 0]) <|
  .ins (.pr (.bin .lss) [.a 3,.a 5]) <|
  .ite 6 (
  .ins (.pr (.bnd) [.a 0,.a 3]) <|
  .ins (.pr (.cell 1 0) [.a 0,.a 3]) <|
  .ins (.pr (.bnd) [.a 4,.a 3]) <|
  .ins (.pr (.put true 1 0 1) [.a 4,.a 3,.a 8]) <|
  .ins (.pr (.bin .add) [.a 3,.k (.int .i64 1)]) <|
  .go 0 [.a 11,.a 10]) (
  .ret [.a 4]))
def S_toBoolS:Nat→Sem1:=pick []
def F_toBoolS:Sem1:=fun ts=>p_toBoolS.den S_toBoolS rounds [] ts
def p_s_l01In:PL :=
 Qh [0,1] <|
 .ite 3 (
 Qm [0,2] <|
 Qz [4] <|
 .ret [5]) (
 Qz [.k (.bool false)] <|
 .ret [4])
def F_s_l01In:Sem1:=Fs p_s_l01In []
def p_s_LinkOk:PL :=
 Qi 84 [0,I 1,I 6] 1 <|
 .ite 5 (
 Qi 84 [1,I 1,0] 1 <|
 .ite 6 (
 Qi 84 [2,I 1,0] 1 <|
 .ite 7 (
 Ql [1,2] <|
 .ite 8 (
 Qi 84 [3,I 1,I 1000] 1 <|
 .ite 9 (
 Qi 84 [4,I 0,I 2] 1 <|
 Qz [10] <|
 .ret [11]) (
 Qz [.k (.bool false)] <|
 .ret [10])) (
 Qz [.k (.bool false)] <|
 .ret [9])) (
 Qz [.k (.bool false)] <|
 .ret [8])) (
 Qz [.k (.bool false)] <|
 .ret [7])) (
 Qz [.k (.bool false)] <|
 .ret [6])
def F_s_LinkOk:Sem1:=Fs p_s_LinkOk [(84,F_s_l01In)]
def p_s_l03Ahead:PL :=
 Ql [0,4] <|
 .ite 8 (
 Qz [.k (.bool true)] <|
 .ret [9]) (
 Qe [0,4] <|
 .ite 9 (
 Ql [1,5] <|
 .ite 10 (
 Qz [.k (.bool true)] <|
 .ret [11]) (
 Qe [1,5] <|
 .ite 11 (
 Ql [3,7] <|
 Qz [12] <|
 .ret [13]) (
 Qz [.k (.bool false)] <|
 .ret [12]))) (
 Qz [.k (.bool false)] <|
 .ret [10]))
def F_s_l03Ahead:Sem1:=Fs p_s_l03Ahead []
def p_s_l03Thing:PL :=
 Ql [1,5] <|
 .ite 8 (
 Qz [.k (.bool true)] <|
 .ret [9]) (
 Qe [1,5] <|
 .ite 9 (
 Ql [0,4] <|
 Qz [10] <|
 .ret [11]) (
 Qz [.k (.bool false)] <|
 .ret [10]))
def F_s_l03Thing:Sem1:=Fs p_s_l03Thing []
def p_s_NetOk:PL :=
 Qi 84 [0,I 1,I 6] 1 <|
 Qt [3] <|
 .ite 4 (
 Qz [.k (.bool false)] <|
 .ret [5]) (
 Qn [1] <|
 Qg [5,I 12] <|
 .ite 6 (
 Qz [.k (.bool false)] <|
 .ret [7]) (
 Qn [2] <|
 Qg [7,I 4] <|
 .ite 8 (
 Qz [.k (.bool false)] <|
 .ret [9]) (
 .loop [.k (.bool false),I 0] (
 Qn [1] <|
 Ql [10,11] <|
 .ite 12 (
 Q4 [1,10] <|
 Qi 169 [0,14,15,16,17] 1 <|
 Qt [18] <|
 .ite 19 (
 Qz [.k (.bool false)] <|
 .ret [20]) (
 Qg [10,I 0] <|
 .ite 20 (
 Qs [10,I 1] <|
 Q4 [1,21] <|
 Q4 [1,10] <|
 Qi 170 [23,24,25,26,28,29,30,31] 1 <|
 Qt [32] <|
 .ite 33 (
 Qz [.k (.bool false)] <|
 .ret [34]) (
 Qa [10,I 1] <|
 .go 0 [9,34])) (
 Qa [10,I 1] <|
 .go 0 [9,21]))) (
 .loop [9,I 0] (
 Qn [2] <|
 Ql [14,15] <|
 .ite 16 (
 Q4 [2,14] <|
 Qi 84 [18,I 1,0] 1 <|
 Qt [22] <|
 .ite 23 (
 Qz [.k (.bool false)] <|
 .ret [24]) (
 Qi 84 [19,I 1,I 9] 1 <|
 Qt [24] <|
 .ite 25 (
 Qz [.k (.bool false)] <|
 .ret [26]) (
 Qi 84 [20,I 1,I 1000] 1 <|
 Qt [26] <|
 .ite 27 (
 Qz [.k (.bool false)] <|
 .ret [28]) (
 Qg [14,I 0] <|
 .ite 28 (
 Qs [14,I 1] <|
 Q4 [2,29] <|
 Qi 171 [31,32,33,34,18,19,20,21] 1 <|
 Qt [35] <|
 .ite 36 (
 Qz [.k (.bool false)] <|
 .ret [37]) (
 Qa [14,I 1] <|
 .go 0 [13,37])) (
 Qa [14,I 1] <|
 .go 0 [13,29]))))) (
 Qz [.k (.bool true)] <|
 .ret [17])))))))
def F_s_NetOk:Sem1:=Fs p_s_NetOk [(84,F_s_l01In),(169,F_s_LinkOk),(170,F_s_l03Ahead),(171,F_s_l03Thing)]
def p_s_CostTo:PL :=
 .loop [I 0,I 0] (
 Qn [1] <|
 Ql [7,8] <|
 .ite 9 (
 Q4 [1,7] <|
 Qe [14,5] <|
 .ite 15 (
 Qe [11,3] <|
 .ite 16 (
 Qe [12,4] <|
 .ite 17 (
 Qz [13] <|
 .ret [18]) (
 Qe [11,4] <|
 .ite 18 (
 Qe [12,3] <|
 .ite 19 (
 Qz [13] <|
 .ret [20]) (
 Qa [7,I 1] <|
 .go 0 [6,20])) (
 Qa [7,I 1] <|
 .go 0 [6,19]))) (
 Qe [11,4] <|
 .ite 17 (
 Qe [12,3] <|
 .ite 18 (
 Qz [13] <|
 .ret [19]) (
 Qa [7,I 1] <|
 .go 0 [6,19])) (
 Qa [7,I 1] <|
 .go 0 [6,18]))) (
 Qa [7,I 1] <|
 .go 0 [6,16])) (
 Qz [I 0] <|
 .ret [10]))
def F_s_CostTo:Sem1:=Fs p_s_CostTo []
def p_s_NextTo:PL :=
 Q (.lit 1 []) [] <|
 .loop [5,I 1] (
 Qm [7,I 6] <|
 .ite 8 (
 Qi 187 [0,1,2,3,7,4] 1 <|
 Qg [9,I 0] <|
 .join (
 Qa [7,I 1] <|
 .go 0 [11,12]) (
 .ite 10 (
 Qx [7] <|
 Qp [6,11] <|
 .go 0 [12]) (
 .go 0 [6]))) (
 .ret [6]))
def F_s_NextTo:Sem1:=Fs p_s_NextTo [(187,F_s_CostTo)]
def p_s_AreasOf:PL :=
 Q (.lit 1 []) [] <|
 .loop [4,I 0] (
 Qm [6,I 2] <|
 .ite 7 (
 Qi 132 [0,1,2,3,6] 1 <|
 Qn [8] <|
 Qg [9,I 0] <|
 .join (
 Qa [6,I 1] <|
 .go 0 [11,12]) (
 .ite 10 (
 Qx [6] <|
 Qp [5,11] <|
 .go 0 [12]) (
 .go 0 [5]))) (
 .ret [5]))
def F_s_AreasOf:Sem1:=Fs p_s_AreasOf [(132,F_s_NextTo)]
def p_s_l13Open:PL :=
 .loop [I 0,I 0] (
 Qn [1] <|
 Ql [8,9] <|
 .ite 10 (
 Q4 [1,8] <|
 Q1 [3,8] <|
 .ite 17 (
 Qe [15,6] <|
 .ite 18 (
 Qe [12,4] <|
 .ite 19 (
 Qe [13,5] <|
 .ite 20 (
 Qz [14] <|
 .ret [21]) (
 Qe [12,5] <|
 .ite 21 (
 Qe [13,4] <|
 .ite 22 (
 Qz [14] <|
 .ret [23]) (
 Qa [8,I 1] <|
 .go 0 [7,23])) (
 Qa [8,I 1] <|
 .go 0 [7,22]))) (
 Qe [12,5] <|
 .ite 20 (
 Qe [13,4] <|
 .ite 21 (
 Qz [14] <|
 .ret [22]) (
 Qa [8,I 1] <|
 .go 0 [7,22])) (
 Qa [8,I 1] <|
 .go 0 [7,21]))) (
 Qa [8,I 1] <|
 .go 0 [7,19])) (
 Qa [8,I 1] <|
 .go 0 [7,18])) (
 Qz [I 0] <|
 .ret [11]))
def F_s_l13Open:Sem1:=Fs p_s_l13Open []
def p_s_Before:PL :=
 Qu [0,8] <|
 .ite 16 (
 Ql [0,8] <|
 Qz [17] <|
 .ret [18]) (
 Qu [1,9] <|
 .ite 17 (
 Ql [1,9] <|
 Qz [18] <|
 .ret [19]) (
 Qu [2,10] <|
 .ite 18 (
 Ql [2,10] <|
 Qz [19] <|
 .ret [20]) (
 Ql [3,11] <|
 Qz [19] <|
 .ret [20])))
def F_s_Before:Sem1:=Fs p_s_Before []
def p_s_l05Put:PL :=
 Q (.lit 8 []) [] <|
 .loop [9,I 0] (
 Qn [0] <|
 Ql [11,12] <|
 .ite 13 (
 Q8 [0,11] <|
 Qi 140 [15,16,17,18,19,20,21,22,1,2,3,4,5,6,7,8] 1 <|
 .join (
 Qa [11,I 1] <|
 .go 0 [24,25]) (
 .ite 23 (
 Q8 [0,11] <|
 Q (.lit 8 []) [25,26,27,28,29,30,31,32] <|
 Qy [10,33] <|
 .go 0 [34]) (
 .go 0 [10]))) (
 Q (.lit 8 []) [1,2,3,4,5,6,7,8] <|
 Qy [10,14] <|
 .loop [15,I 0] (
 Qn [0] <|
 Ql [17,18] <|
 .ite 19 (
 Q8 [0,17] <|
 Qi 140 [1,2,3,4,5,6,7,8,21,22,23,24,25,26,27,28] 1 <|
 .join (
 Qa [17,I 1] <|
 .go 0 [30,31]) (
 .ite 29 (
 Q8 [0,17] <|
 Q (.lit 8 []) [31,32,33,34,35,36,37,38] <|
 Qy [16,39] <|
 .go 0 [40]) (
 .go 0 [16]))) (
 .ret [16]))))
def F_s_l05Put:Sem1:=Fs p_s_l05Put [(140,F_s_Before)]
def p_s_Border:PL :=
 Qi 53 [0,1,2,3] 1 <|
 Qn [4] <|
 Qg [5,I 1] <|
 .ite 6 (
 Q1 [4,I 0] <|
 Qe [8,I 0] <|
 Qz [9] <|
 .ret [10]) (
 Qz [.k (.bool false)] <|
 .ret [7])
def F_s_Border:Sem1:=Fs p_s_Border [(53,F_s_AreasOf)]
def p_s_l04Near:PL :=
 .loop [.k (.bool false),I 0] (
 Qn [5] <|
 Ql [9,10] <|
 .ite 11 (
 Q2 [5,9] <|
 Qi 84 [13,I 1,I 6] 1 <|
 Qt [15] <|
 .ite 16 (
 Qz [.k (.bool false)] <|
 .ret [17]) (
 Qe [13,2] <|
 .ite 17 (
 Qz [.k (.bool false)] <|
 .ret [18]) (
 Qi 84 [14,I 1,I 1000] 1 <|
 Qt [18] <|
 .ite 19 (
 Qz [.k (.bool false)] <|
 .ret [20]) (
 Qg [9,I 0] <|
 .ite 20 (
 Qs [9,I 1] <|
 Qb [5,21] <|
 Qc 2 0 [5,21] <|
 Qh [23,13] <|
 .ite 24 (
 Qz [.k (.bool false)] <|
 .ret [25]) (
 Qa [9,I 1] <|
 .go 0 [8,25])) (
 Qa [9,I 1] <|
 .go 0 [8,21]))))) (
 Qz [.k (.bool true)] <|
 .ret [12]))
def F_s_l04Near:Sem1:=Fs p_s_l04Near [(84,F_s_l01In)]
def p_s_RecordOk:PL :=
 Qi 84 [2,I 1,I 6] 1 <|
 Qt [8] <|
 .ite 9 (
 Qz [.k (.bool false)] <|
 .ret [10]) (
 Qi 84 [4,I 1,I 100000] 1 <|
 Qt [10] <|
 .ite 11 (
 Qz [.k (.bool false)] <|
 .ret [12]) (
 Qe [1,I 1] <|
 .ite 12 (
 Qi 84 [0,I 0,I 2] 1 <|
 .ite 13 (
 Qe [3,I 0] <|
 .ite 14 (
 Qi 189 [0,1,2,3,4,5,6,7] 1 <|
 .ite 15 (
 Qe [6,I 0] <|
 .ite 16 (
 Qt [7] <|
 Qz [17] <|
 .ret [18]) (
 Qz [.k (.bool false)] <|
 .ret [17])) (
 Qz [.k (.bool false)] <|
 .ret [16])) (
 Qz [.k (.bool false)] <|
 .ret [15])) (
 Qz [.k (.bool false)] <|
 .ret [14])) (
 Qe [1,I 2] <|
 .ite 13 (
 Qi 84 [0,I 0,I 2] 1 <|
 .ite 14 (
 Qi 84 [3,I 1,I 6] 1 <|
 .ite 15 (
 Qn [5] <|
 Qe [16,I 0] <|
 .ite 17 (
 Qi 84 [6,I 0,I 60000] 1 <|
 .ite 18 (
 Qt [7] <|
 Qz [19] <|
 .ret [20]) (
 Qz [.k (.bool false)] <|
 .ret [19])) (
 Qz [.k (.bool false)] <|
 .ret [18])) (
 Qz [.k (.bool false)] <|
 .ret [16])) (
 Qz [.k (.bool false)] <|
 .ret [15])) (
 Qe [1,I 3] <|
 .ite 14 (
 Qe [0,I 9] <|
 .ite 15 (
 Qi 84 [3,I 1,I 9] 1 <|
 .ite 16 (
 Qn [5] <|
 Qe [17,I 0] <|
 .ite 18 (
 Qi 84 [6,I 1,I 1000] 1 <|
 .ite 19 (
 Qz [.k (.bool true)] <|
 .ret [20]) (
 Qe [6,I 60000] <|
 Qz [20] <|
 .ret [21])) (
 Qz [.k (.bool false)] <|
 .ret [19])) (
 Qz [.k (.bool false)] <|
 .ret [17])) (
 Qz [.k (.bool false)] <|
 .ret [16])) (
 Qz [.k (.bool false)] <|
 .ret [15])))))
def F_s_RecordOk:Sem1:=Fs p_s_RecordOk [(84,F_s_l01In),(189,F_s_l04Near)]
def p_s_StoreOk:PL :=
 Qn [0] <|
 Qg [1,I 150] <|
 .ite 2 (
 Qz [.k (.bool false)] <|
 .ret [3]) (
 .loop [.k (.bool false),I 0] (
 Qn [0] <|
 Ql [4,5] <|
 .ite 6 (
 Q8 [0,4] <|
 Qi 139 [8,9,10,11,12,13,14,15] 1 <|
 Qt [16] <|
 .ite 17 (
 Qz [.k (.bool false)] <|
 .ret [18]) (
 Qg [4,I 0] <|
 .ite 18 (
 Qs [4,I 1] <|
 Q8 [0,19] <|
 Q8 [0,4] <|
 Qi 140 [21,22,23,24,25,26,27,28,30,31,32,33,34,35,36,37] 1 <|
 Qt [38] <|
 .ite 39 (
 Qz [.k (.bool false)] <|
 .ret [40]) (
 Qa [4,I 1] <|
 .go 0 [3,40])) (
 Qa [4,I 1] <|
 .go 0 [3,19]))) (
 Qz [.k (.bool true)] <|
 .ret [7])))
def F_s_StoreOk:Sem1:=Fs p_s_StoreOk [(139,F_s_RecordOk),(140,F_s_Before)]
def p_s_SameKey:PL :=
 Qe [0,8] <|
 .ite 16 (
 Qe [1,9] <|
 .ite 17 (
 Qe [2,10] <|
 .ite 18 (
 Qe [3,11] <|
 Qz [19] <|
 .ret [20]) (
 Qz [.k (.bool false)] <|
 .ret [19])) (
 Qz [.k (.bool false)] <|
 .ret [18])) (
 Qz [.k (.bool false)] <|
 .ret [17])
def F_s_SameKey:Sem1:=Fs p_s_SameKey []
def p_s_l05At:PL :=
 .loop [I 0,I 0] (
 Qn [0] <|
 Ql [10,11] <|
 .ite 12 (
 Q8 [0,10] <|
 Qi 160 [14,15,16,17,18,19,20,21,1,2,3,4,5,6,7,8] 1 <|
 .ite 22 (
 Qz [10] <|
 .ret [23]) (
 Qa [10,I 1] <|
 .go 0 [9,23])) (
 Qz [.k (.int .i64 (-1))] <|
 .ret [13]))
def F_s_l05At:Sem1:=Fs p_s_l05At [(160,F_s_SameKey)]
def p_s_l06Node:PL :=
 Qi 123 [0,1,I 1,2,I 0,I 0,.e,I 0,.k (.bool false)] 1 <|
 Ql [3,I 0] <|
 .ite 4 (
 Qz [.k (.bool false)] <|
 Qz [.k (.bool false)] <|
 Qz [I 0] <|
 Qz [I 0] <|
 Qz [I 0] <|
 Qz [I 0] <|
 Qz [I 0] <|
 Qz [I 0] <|
 .ret [12,11,10,9,8,.e,7,6,5]) (
 Q8 [0,3] <|
 Qz [.k (.bool true)] <|
 Qz [13] <|
 Qz [12] <|
 Qz [10] <|
 Qz [9] <|
 Qz [8] <|
 Qz [7] <|
 Qz [6] <|
 .ret [21,20,19,18,17,11,16,15,14])
def F_s_l06Node:Sem1:=Fs p_s_l06Node [(123,F_s_l05At)]
def p_s_l06Tells:PL :=
 Qi 83 [0,1,2] 9 <|
 .loop [I 0,I 0] (
 Qn [9] <|
 Ql [14,15] <|
 .ite 16 (
 Qb [9,14] <|
 Qc 2 0 [9,14] <|
 Qe [18,3] <|
 .ite 19 (
 Qb [9,14] <|
 Qc 2 1 [9,14] <|
 Qz [21] <|
 .ret [22]) (
 Qa [14,I 1] <|
 .go 0 [13,20])) (
 Qz [I 0] <|
 .ret [17]))
def F_s_l06Tells:Sem1:=Fs p_s_l06Tells [(83,F_s_l06Node)]
def p_s_l06Links:PL :=
 Q (.mk) [I 49,I 49,I 0] <|
 .loop [I 1,2] (
 Qm [3,I 6] <|
 .ite 5 (
 Qi 83 [0,1,3] 9 <|
 .loop [I 0,4] (
 Qn [11] <|
 Ql [15,17] <|
 .ite 18 (
 Qb [11,15] <|
 Qc 2 0 [11,15] <|
 Qi 84 [20,I 1,I 6] 1 <|
 .ite 21 (
 Qb [11,15] <|
 Qc 2 0 [11,15] <|
 Qi 127 [0,1,23,3] 1 <|
 Qg [24,I 0] <|
 .join (
 Qa [15,I 1] <|
 .go 0 [27,26]) (
 .ite 25 (
 Q (.bin .mul) [3,I 7] <|
 Qb [11,15] <|
 Qc 2 0 [11,15] <|
 Qa [26,28] <|
 Qb [11,15] <|
 Qc 2 1 [11,15] <|
 Qb [16,29] <|
 Q (.put true 1 0 1) [16,29,31] <|
 .go 0 [33]) (
 .go 0 [16]))) (
 .join (
 Qa [15,I 1] <|
 .go 0 [23,22]) (
 .go 0 [16]))) (
 Qa [3,I 1] <|
 .go 1 [19,16]))) (
 .ret [4]))
def F_s_l06Links:Sem1:=Fs p_s_l06Links [(83,F_s_l06Node),(84,F_s_l01In),(127,F_s_l06Tells)]
def p_s_l03In:PL :=
 .loop [.k (.bool false),I 0] (
 Qn [0] <|
 Ql [3,4] <|
 .ite 5 (
 Q1 [0,3] <|
 Qe [7,1] <|
 .ite 8 (
 Qz [.k (.bool true)] <|
 .ret [9]) (
 Qa [3,I 1] <|
 .go 0 [2,9])) (
 Qz [.k (.bool false)] <|
 .ret [6]))
def F_s_l03In:Sem1:=Fs p_s_l03In []
def p_s_l06Add:PL :=
 Q (.lit 1 []) [] <|
 .loop [2,I 1] (
 Qm [4,I 6] <|
 .ite 5 (
 Qi 162 [0,4] 1 <|
 .ite 6 (
 .join (
 Qa [4,I 1] <|
 .go 0 [7,8]) (
 Qx [4] <|
 Qp [3,7] <|
 .go 0 [8])) (
 Qi 162 [1,4] 1 <|
 .join (
 Qa [4,I 1] <|
 .go 0 [8,9]) (
 .ite 7 (
 Qx [4] <|
 Qp [3,8] <|
 .go 0 [9]) (
 .go 0 [3])))) (
 .ret [3]))
def F_s_l06Add:Sem1:=Fs p_s_l06Add [(162,F_s_l03In)]
def p_s_WaysIn:PL :=
 Q (.lit 3 []) [] <|
 Qi 83 [0,1,2] 9 <|
 Qi 63 [0] 1 <|
 Qt [13] <|
 .ite 14 (
 .ret [3]) (
 Qi 84 [2,I 1,I 6] 1 <|
 Qt [15] <|
 .ite 16 (
 .ret [3]) (
 Qt [12] <|
 .ite 17 (
 .ret [3]) (
 Qi 85 [0,1] 1 <|
 Q (.mk) [I 7,I 7,I 0] <|
 Q (.mk) [I 7,I 7,.e] <|
 Q (.mk) [I 7,I 7,.k (.bool false)] <|
 .loop [I 1,19] (
 Qm [22,I 6] <|
 .ite 24 (
 Qb [23,22] <|
 Q (.put true 1 0 1) [23,22,.k (.int .i64 (-1))] <|
 Qa [22,I 1] <|
 .go 0 [27,26]) (
 Qb [23,2] <|
 Q (.put true 1 0 1) [23,2,I 0] <|
 .loop [I 1,20,21,26] (
 Qm [27,I 6] <|
 .ite 31 (
 .loop [I 0,I 1] (
 Qm [33,I 6] <|
 .ite 34 (
 Qq [29,33] <|
 Qt [36] <|
 .ite 37 (
 Qq [30,33] <|
 Qh [39,I 0] <|
 .ite 40 (
 Qe [32,I 0] <|
 .ite 41 (
 .join (
 Qa [33,I 1] <|
 .go 0 [42,43]) (
 .go 0 [33])) (
 Qq [30,33] <|
 Qq [30,32] <|
 Ql [43,45] <|
 .join (
 Qa [33,I 1] <|
 .go 0 [47,48]) (
 .ite 46 (
 .go 0 [33]) (
 .go 0 [32])))) (
 .join (
 Qa [33,I 1] <|
 .go 0 [41,42]) (
 .go 0 [32]))) (
 .join (
 Qa [33,I 1] <|
 .go 0 [38,39]) (
 .go 0 [32]))) (
 Qe [32,I 0] <|
 .ite 35 (
 Qa [I 6,I 1] <|
 .go 1 [36,28,29,30]) (
 Qb [29,32] <|
 Q (.put true 1 0 1) [29,32,.k (.bool true)] <|
 .loop [I 1,28,30] (
 Qm [38,I 6] <|
 .ite 41 (
 Q (.bin .mul) [32,I 7] <|
 Qa [42,38] <|
 Q1 [18,43] <|
 Qe [45,I 0] <|
 .ite 46 (
 Qa [38,I 1] <|
 .go 0 [47,39,40]) (
 Qq [37,38] <|
 .ite 48 (
 Qa [38,I 1] <|
 .go 0 [49,39,40]) (
 Q1 [39,32] <|
 Qe [32,2] <|
 .join (
 Qq [40,32] <|
 Qa [54,45] <|
 Qq [40,38] <|
 Ql [57,I 0] <|
 .ite 58 (
 .join (
 Qa [38,I 1] <|
 .go 0 [61,59,60]) (
 Qb [40,38] <|
 Q (.put true 1 0 1) [40,38,55] <|
 Q (.lit 1 []) [] <|
 Qi 86 [61,52] 1 <|
 Qb [39,38] <|
 Q (.put false 1 0 1) [39,38,62] <|
 .go 0 [64,60])) (
 Qq [40,38] <|
 Ql [55,60] <|
 .join (
 Qa [38,I 1] <|
 .go 0 [64,62,63]) (
 .ite 61 (
 Qb [40,38] <|
 Q (.put true 1 0 1) [40,38,55] <|
 Q (.lit 1 []) [] <|
 Qi 86 [64,52] 1 <|
 Qb [39,38] <|
 Q (.put false 1 0 1) [39,38,65] <|
 .go 0 [67,63]) (
 Qq [40,38] <|
 Qe [55,63] <|
 .join (
 .go 0 [65,40]) (
 .ite 64 (
 Q1 [39,38] <|
 Qi 86 [66,52] 1 <|
 Qb [39,38] <|
 Q (.put false 1 0 1) [39,38,67] <|
 .go 0 [69]) (
 .go 0 [39])))))) (
 .ite 51 (
 Qx [38] <|
 .go 0 [52]) (
 .go 0 [50]))))) (
 Qa [27,I 1] <|
 .go 2 [42,39,37,40])))))) (
 .loop [3,I 1] (
 Qm [33,I 6] <|
 .ite 34 (
 Qq [29,33] <|
 .join (
 Qa [33,I 1] <|
 .go 0 [37,38]) (
 .ite 36 (
 Qq [30,33] <|
 Q (.lit 1 []) [] <|
 Q1 [28,33] <|
 Qp [39,41] <|
 Q (.lit 3 [true,true,false]) [33,38,42] <|
 Qo [32,43] <|
 .go 0 [44]) (
 .go 0 [32]))) (
 .ret [32])))))))))
def F_s_WaysIn:Sem1:=Fs p_s_WaysIn [(63,F_s_StoreOk),(83,F_s_l06Node),(84,F_s_l01In),(85,F_s_l06Links),(86,F_s_l06Add)]
def p_s_l06Copy:PL :=
 Q (.lit 1 []) [] <|
 Qp [3,2] <|
 Qz [1] <|
 Qz [0] <|
 .ret [6,5,4]
def F_s_l06Copy:Sem1:=Fs p_s_l06Copy []
def p_s_WayTo:PL :=
 .loop [.k (.bool false),I 0] (
 Qn [0] <|
 Ql [3,4] <|
 .ite 5 (
 Qb [0,3] <|
 Qc 3 0 [0,3] <|
 Qe [7,1] <|
 .ite 8 (
 Q3 [0,3] <|
 Qi 128 [10,11,12] 3 <|
 Qz [.k (.bool true)] <|
 Qz [14] <|
 Qz [13] <|
 .ret [18,17,15,16]) (
 Qa [3,I 1] <|
 .go 0 [2,9])) (
 Qz [.k (.bool false)] <|
 Qz [I 0] <|
 Qz [I 0] <|
 .ret [8,7,.e,6]))
def F_s_WayTo:Sem1:=Fs p_s_WayTo [(128,F_s_l06Copy)]
def p_s_Better:PL :=
 Ql [1,4] <|
 Qz [6] <|
 .ret [7]
def F_s_Better:Sem1:=Fs p_s_Better []
def p_s_Together:PL :=
 Qi 168 [0,1,2,3,4,5] 1 <|
 .ite 6 (
 Qi 128 [0,1,2] 3 <|
 Qz [8] <|
 Qz [7] <|
 .ret [11,10,9]) (
 Qi 168 [3,4,5,0,1,2] 1 <|
 .ite 7 (
 Qi 128 [3,4,5] 3 <|
 Qz [9] <|
 Qz [8] <|
 .ret [12,11,10]) (
 Qi 86 [2,5] 1 <|
 Qz [1] <|
 Qz [0] <|
 .ret [10,9,8]))
def F_s_Together:Sem1:=Fs p_s_Together [(86,F_s_l06Add),(128,F_s_l06Copy),(168,F_s_Better)]
def p_s_RoutesWithin:PL :=
 Q (.lit 3 []) [] <|
 Q (.lit 1 []) [] <|
 .loop [4,I 0] (
 Qn [1] <|
 Ql [6,7] <|
 .ite 8 (
 Q1 [1,6] <|
 Qi 16 [0,10,2] 1 <|
 Q (.lit 1 []) [11] <|
 Q (.app false 1) [5,12] <|
 Qa [6,I 1] <|
 .go 0 [13,14]) (
 .loop [3,I 1] (
 Qm [10,I 6] <|
 .ite 11 (
 .loop [.k (.bool false),I 0,I 0,I 0,.e] (
 Qn [1] <|
 Ql [13,17] <|
 .ite 18 (
 Q1 [5,13] <|
 Qi 47 [20,10] 4 <|
 Qt [24] <|
 .ite 25 (
 Qa [13,I 1] <|
 .go 0 [12,26,14,15,16]) (
 .join (
 Qa [13,I 1] <|
 .go 0 [.k (.bool true),29,26,27,28]) (
 .ite 12 (
 Qi 97 [14,15,16,21,22,23] 3 <|
 .go 0 [26,27,28]) (
 .go 0 [21,22,23])))) (
 .join (
 Qa [10,I 1] <|
 .go 1 [19,20]) (
 .ite 12 (
 Q (.lit 3 []) [14,15,16] <|
 Qo [9,19] <|
 .go 0 [20]) (
 .go 0 [9]))))) (
 .ret [9]))))
def F_s_RoutesWithin:Sem1:=Fs p_s_RoutesWithin [(16,F_s_WaysIn),(47,F_s_WayTo),(97,F_s_Together)]
def p_s_l07Beyond:PL :=
 .loop [8,I 0,5,6,7] (
 Qn [0] <|
 Ql [10,14] <|
 .ite 15 (
 Q8 [0,10] <|
 Qu [18,I 2] <|
 .ite 25 (
 Qa [10,I 1] <|
 .go 0 [9,26,11,12,13]) (
 Qu [17,2] <|
 .ite 26 (
 Qa [10,I 1] <|
 .go 0 [9,27,11,12,13]) (
 Qu [20,4] <|
 .ite 27 (
 Qa [10,I 1] <|
 .go 0 [9,28,11,12,13]) (
 Qe [19,3] <|
 .ite 28 (
 Qa [10,I 1] <|
 .go 0 [9,29,11,12,13]) (
 Qh [23,I 60000] <|
 .ite 29 (
 Qa [10,I 1] <|
 .go 0 [9,30,11,12,13]) (
 Qi 47 [1,19] 4 <|
 Qt [33] <|
 .ite 34 (
 Qa [10,I 1] <|
 .go 0 [9,35,11,12,13]) (
 Qa [31,23] <|
 Qh [35,I 60000] <|
 .ite 36 (
 Qa [10,I 1] <|
 .go 0 [9,37,11,12,13]) (
 Qa [31,23] <|
 .join (
 Qa [10,I 1] <|
 .go 0 [.k (.bool true),41,38,39,40]) (
 .ite 9 (
 Qi 97 [11,12,13,4,37,32] 3 <|
 .go 0 [38,39,40]) (
 .go 0 [4,37,32])))))))))) (
 Qz [9] <|
 Qz [12] <|
 Qz [11] <|
 .ret [18,17,13,16]))
def F_s_l07Beyond:Sem1:=Fs p_s_l07Beyond [(47,F_s_WayTo),(97,F_s_Together)]
def p_s_RoutesBeyond:PL :=
 Q (.lit 3 []) [] <|
 Qi 24 [0,1,3] 1 <|
 Qi 63 [0] 1 <|
 Qt [6] <|
 .ite 7 (
 .ret [4]) (
 Q (.lit 1 []) [] <|
 .loop [8,I 0] (
 Qn [1] <|
 Ql [10,11] <|
 .ite 12 (
 Q1 [1,10] <|
 Qi 16 [0,14,3] 1 <|
 Q (.lit 1 []) [15] <|
 Q (.app false 1) [9,16] <|
 Qa [10,I 1] <|
 .go 0 [17,18]) (
 .loop [4,I 1] (
 Qm [14,I 6] <|
 .ite 15 (
 Qi 47 [5,14] 4 <|
 .ite 19 (
 Qa [14,I 1] <|
 .go 0 [13,20]) (
 .loop [.k (.bool false),I 0,I 0,I 0,.e] (
 Qn [1] <|
 Ql [21,25] <|
 .ite 26 (
 .ite 2 (
 Q1 [1,21] <|
 Qu [28,I 0] <|
 .ite 29 (
 Qa [21,I 1] <|
 .go 0 [20,30,22,23,24]) (
 Q1 [9,21] <|
 Q1 [1,21] <|
 Qi 99 [0,31,33,3,14,22,23,24,20] 4 <|
 Qa [21,I 1] <|
 .go 0 [37,38,34,35,36])) (
 Q1 [9,21] <|
 Q1 [1,21] <|
 Qi 99 [0,28,30,3,14,22,23,24,20] 4 <|
 Qa [21,I 1] <|
 .go 0 [34,35,31,32,33])) (
 .join (
 Qa [14,I 1] <|
 .go 1 [27,28]) (
 .ite 20 (
 Q (.lit 3 []) [22,23,24] <|
 Qo [13,27] <|
 .go 0 [28]) (
 .go 0 [13])))))) (
 .ret [13])))))
def F_s_RoutesBeyond:Sem1:=Fs p_s_RoutesBeyond [(16,F_s_WaysIn),(24,F_s_RoutesWithin),(47,F_s_WayTo),(63,F_s_StoreOk),(99,F_s_l07Beyond)]
def p_s_Beyond:PL :=
 Q (.lit 8 []) [] <|
 Qi 63 [0] 1 <|
 Qt [5] <|
 .ite 6 (
 .ret [4]) (
 Q (.lit 1 []) [] <|
 .loop [7,I 0] (
 Qn [1] <|
 Ql [9,10] <|
 .ite 11 (
 Q1 [1,9] <|
 Qu [13,3] <|
 .join (
 Qa [9,I 1] <|
 .go 0 [15,16]) (
 .ite 14 (
 Q1 [1,9] <|
 Qx [16] <|
 Qp [8,17] <|
 .go 0 [18]) (
 .go 0 [8]))) (
 Qi 16 [0,3,2] 1 <|
 Qi 24 [0,8,2] 1 <|
 Qi 29 [0,1,.k (.bool true),2] 1 <|
 .loop [4,I 1] (
 Qm [16,I 6] <|
 .ite 17 (
 Qi 47 [12,16] 4 <|
 .ite 21 (
 Qa [16,I 1] <|
 .go 0 [15,22]) (
 Qe [16,2] <|
 .ite 22 (
 Qa [16,I 1] <|
 .go 0 [15,23]) (
 Qi 47 [13,16] 4 <|
 Qt [26] <|
 .ite 27 (
 Qu [3,I 0] <|
 .join (
 .join (
 Qa [16,I 1] <|
 .go 0 [33,34]) (
 .ite 32 (
 Q (.lit 8 [true,true,true,true,true,false,true,true]) [3,I 2,2,16,I 0,.e,30,.k (.bool false)] <|
 Qy [15,33] <|
 .go 0 [34]) (
 .go 0 [15]))) (
 .ite 28 (
 Qi 47 [14,16] 4 <|
 .go 0 [29,30,31,32]) (
 .go 0 [23,24,25,26]))) (
 .join (
 .join (
 Qa [16,I 1] <|
 .go 0 [32,33]) (
 .ite 31 (
 Q (.lit 8 [true,true,true,true,true,false,true,true]) [3,I 2,2,16,I 0,.e,29,.k (.bool false)] <|
 Qy [15,32] <|
 .go 0 [33]) (
 .go 0 [15]))) (
 .go 0 [23,24,25,26]))))) (
 .ret [15])))))
def F_s_Beyond:Sem1:=Fs p_s_Beyond [(16,F_s_WaysIn),(24,F_s_RoutesWithin),(29,F_s_RoutesBeyond),(47,F_s_WayTo),(63,F_s_StoreOk)]
def p_s_l08With:PL :=
 .loop [0,I 0] (
 Qn [1] <|
 Ql [3,4] <|
 .ite 5 (
 Q8 [1,3] <|
 Qe [11,I 0] <|
 .join (
 Qi 104 [2,7,8,9,10,16,12,13,14] 1 <|
 Qa [3,I 1] <|
 .go 0 [17,18]) (
 .ite 15 (
 .go 0 [I 1]) (
 .go 0 [11]))) (
 .ret [2]))
def F_s_l08With:Sem1:=Fs p_s_l08With [(104,F_s_l05Put)]
def p_s_l13Beyond:PL :=
 Q (.lit 8 []) [] <|
 .loop [3,I 0] (
 Qn [1] <|
 Ql [5,6] <|
 .ite 7 (
 Q1 [1,5] <|
 Qi 172 [0,1,2,9] 1 <|
 Qy [4,10] <|
 Qa [5,I 1] <|
 .go 0 [11,12]) (
 Q (.lit 8 []) [] <|
 .loop [8,I 0] (
 Qn [0] <|
 Ql [10,11] <|
 .ite 12 (
 Qb [0,10] <|
 Qc 8 1 [0,10] <|
 Qu [14,I 2] <|
 .ite 15 (
 .join (
 Qa [10,I 1] <|
 .go 0 [16,17]) (
 Q8 [0,10] <|
 Q (.lit 8 []) [17,18,19,20,21,22,23,24] <|
 Qy [9,25] <|
 .go 0 [26])) (
 Qb [0,10] <|
 Qc 8 2 [0,10] <|
 Qu [17,2] <|
 .join (
 Qa [10,I 1] <|
 .go 0 [19,20]) (
 .ite 18 (
 Q8 [0,10] <|
 Q (.lit 8 []) [20,21,22,23,24,25,26,27] <|
 Qy [9,28] <|
 .go 0 [29]) (
 .go 0 [9])))) (
 Qi 173 [9,4] 1 <|
 .ret [13]))))
def F_s_l13Beyond:Sem1:=Fs p_s_l13Beyond [(172,F_s_Beyond),(173,F_s_l08With)]
def p_s_l04Copy:PL :=
 Q (.lit 2 []) [] <|
 Q (.app true 2) [8,5] <|
 Qz [7] <|
 Qz [6] <|
 Qz [4] <|
 Qz [3] <|
 Qz [2] <|
 Qz [1] <|
 Qz [0] <|
 .ret [16,15,14,13,12,9,11,10]
def F_s_l04Copy:Sem1:=Fs p_s_l04Copy []
def p_s_l04CopyList:PL :=
 Q (.lit 8 []) [] <|
 .loop [1,I 0] (
 Qn [0] <|
 Ql [3,4] <|
 .ite 5 (
 Q8 [0,3] <|
 Qi 124 [7,8,9,10,11,12,13,14] 8 <|
 Q (.lit 8 [true,true,true,true,true,false,true,true]) [15,16,17,18,19,20,21,22] <|
 Qy [2,23] <|
 Qa [3,I 1] <|
 .go 0 [24,25]) (
 .ret [2]))
def F_s_l04CopyList:Sem1:=Fs p_s_l04CopyList [(124,F_s_l04Copy)]
def p_s_Ideal:PL :=
 Q (.lit 8 []) [] <|
 Qi 102 [0,1,2] 1 <|
 Qt [6] <|
 .ite 7 (
 Qz [.k (.bool false)] <|
 .ret [5,8]) (
 Qn [3] <|
 Qn [1] <|
 Qu [8,9] <|
 .ite 10 (
 Qz [.k (.bool false)] <|
 .ret [5,11]) (
 Qn [4] <|
 Qu [11,0] <|
 .ite 12 (
 Qz [.k (.bool false)] <|
 .ret [5,13]) (
 .loop [5,I 1] (
 Qm [14,0] <|
 .ite 15 (
 Qi 53 [0,1,2,14] 1 <|
 .loop [13,I 0] (
 Qn [16] <|
 Ql [18,19] <|
 .ite 20 (
 Qs [14,I 1] <|
 Q1 [4,21] <|
 .ite 23 (
 Q1 [16,18] <|
 .loop [I 1,.e] (
 Qm [26,0] <|
 .ite 28 (
 Q1 [16,18] <|
 Qi 103 [0,1,2,3,14,26,30] 1 <|
 Qg [31,I 0] <|
 .ite 32 (
 Qs [26,I 1] <|
 Q1 [4,33] <|
 .join (
 Qa [26,I 1] <|
 .go 0 [37,36]) (
 .ite 35 (
 Q (.lit 2 [true,true]) [26,31] <|
 Q (.app true 2) [27,36] <|
 .go 0 [37]) (
 .go 0 [27]))) (
 .join (
 Qa [26,I 1] <|
 .go 0 [34,33]) (
 .go 0 [27]))) (
 Qi 104 [17,25,I 1,14,I 0,I 1,27,I 0,.k (.bool false)] 1 <|
 Qa [18,I 1] <|
 .go 1 [29,30]))) (
 Qa [14,I 1] <|
 .go 1 [17,24])) (
 Qa [14,I 1] <|
 .go 1 [17,21]))) (
 .loop [13,I 0] (
 Qn [2] <|
 Ql [17,18] <|
 .ite 19 (
 Q4 [2,17] <|
 Qs [21,I 1] <|
 Q1 [4,25] <|
 .join (
 Qa [17,I 1] <|
 .go 0 [28,29]) (
 .ite 27 (
 Qi 104 [16,I 9,I 3,21,22,I 1,.e,23,24] 1 <|
 .go 0 [28]) (
 .go 0 [16]))) (
 .loop [16,I 0] (
 Ql [21,I 3] <|
 .ite 22 (
 .loop [20,I 1] (
 Qm [24,0] <|
 .ite 25 (
 Qs [24,I 1] <|
 Q1 [4,26] <|
 .ite 28 (
 Qi 54 [0,1,2,24] 1 <|
 .join (
 Qa [24,I 1] <|
 .go 0 [30,31]) (
 .ite 29 (
 Qi 53 [0,1,2,24] 1 <|
 Qi 105 [23,30,24] 1 <|
 .go 0 [31]) (
 .go 0 [23]))) (
 .join (
 Qa [24,I 1] <|
 .go 0 [29,30]) (
 .go 0 [23]))) (
 Qa [21,I 1] <|
 .go 1 [23,26]))) (
 Qi 106 [20] 1 <|
 Qz [.k (.bool true)] <|
 .ret [23,24])))))))))
def F_s_Ideal:Sem1:=Fs p_s_Ideal [(53,F_s_AreasOf),(54,F_s_Border),(102,F_s_NetOk),(103,F_s_l13Open),(104,F_s_l05Put),(105,F_s_l13Beyond),(106,F_s_l04CopyList)]
def p_i_in:PL :=
 Qh [0,1] <|
 .ite 3 (
 Qm [0,2] <|
 Qz [4] <|
 .ret [5]) (
 Qz [.k (.bool false)] <|
 .ret [4])
def F_i_in:Sem1:=Fs p_i_in []
def p_i_LinkOk:PL :=
 Qi 89 [0,I 1,I 6] 1 <|
 .ite 5 (
 Qi 89 [1,I 1,0] 1 <|
 .ite 6 (
 Qi 89 [2,I 1,0] 1 <|
 .ite 7 (
 Ql [1,2] <|
 .ite 8 (
 Qi 89 [3,I 1,I 1000] 1 <|
 .ite 9 (
 Qi 89 [4,I 0,I 2] 1 <|
 Qz [10] <|
 .ret [11]) (
 Qz [.k (.bool false)] <|
 .ret [10])) (
 Qz [.k (.bool false)] <|
 .ret [9])) (
 Qz [.k (.bool false)] <|
 .ret [8])) (
 Qz [.k (.bool false)] <|
 .ret [7])) (
 Qz [.k (.bool false)] <|
 .ret [6])
def F_i_LinkOk:Sem1:=Fs p_i_LinkOk [(89,F_i_in)]
def p_i_ahead:PL :=
 Qu [0,4] <|
 .ite 8 (
 Ql [0,4] <|
 Qz [9] <|
 .ret [10]) (
 Qu [1,5] <|
 .ite 9 (
 Ql [1,5] <|
 Qz [10] <|
 .ret [11]) (
 Ql [3,7] <|
 Qz [10] <|
 .ret [11]))
def F_i_ahead:Sem1:=Fs p_i_ahead []
def p_i_less:PL :=
 Ql [1,5] <|
 .ite 8 (
 Qz [.k (.bool true)] <|
 .ret [9]) (
 Qe [1,5] <|
 .ite 9 (
 Ql [0,4] <|
 Qz [10] <|
 .ret [11]) (
 Qz [.k (.bool false)] <|
 .ret [10]))
def F_i_less:Sem1:=Fs p_i_less []
def p_i_NetOk:PL :=
 Qi 89 [0,I 1,I 6] 1 <|
 Qt [3] <|
 .ite 4 (
 Qz [.k (.bool false)] <|
 .ret [5]) (
 Qn [1] <|
 Qg [5,I 12] <|
 .ite 6 (
 Qz [.k (.bool false)] <|
 .ret [7]) (
 Qn [2] <|
 Qg [7,I 4] <|
 .ite 8 (
 Qz [.k (.bool false)] <|
 .ret [9]) (
 Qn [1] <|
 .loop [.k (.bool false),I 0] (
 Ql [11,9] <|
 .ite 12 (
 Q4 [1,11] <|
 Qi 176 [0,14,15,16,17] 1 <|
 Qt [18] <|
 .ite 19 (
 Qz [.k (.bool false)] <|
 .ret [20]) (
 Qg [11,I 0] <|
 .ite 20 (
 Qs [11,I 1] <|
 Q4 [1,21] <|
 Qi 177 [23,24,25,26,14,15,16,17] 1 <|
 Qt [27] <|
 .ite 28 (
 Qz [.k (.bool false)] <|
 .ret [29]) (
 Qa [11,I 1] <|
 .go 0 [10,29])) (
 Qa [11,I 1] <|
 .go 0 [10,21]))) (
 Qn [2] <|
 .loop [10,I 0] (
 Ql [15,13] <|
 .ite 16 (
 Q4 [2,15] <|
 Qi 89 [19,I 1,I 9] 1 <|
 Qt [22] <|
 .ite 23 (
 Qz [.k (.bool false)] <|
 .ret [24]) (
 Qi 89 [18,I 1,0] 1 <|
 Qt [24] <|
 .ite 25 (
 Qz [.k (.bool false)] <|
 .ret [26]) (
 Qi 89 [20,I 1,I 1000] 1 <|
 Qt [26] <|
 .ite 27 (
 Qz [.k (.bool false)] <|
 .ret [28]) (
 Qg [15,I 0] <|
 .ite 28 (
 Qs [15,I 1] <|
 Q4 [2,29] <|
 Qi 178 [31,32,33,34,18,19,20,21] 1 <|
 Qt [35] <|
 .ite 36 (
 Qz [.k (.bool false)] <|
 .ret [37]) (
 Qa [15,I 1] <|
 .go 0 [14,37])) (
 Qa [15,I 1] <|
 .go 0 [14,29]))))) (
 Qz [.k (.bool true)] <|
 .ret [17])))))))
def F_i_NetOk:Sem1:=Fs p_i_NetOk [(89,F_i_in),(176,F_i_LinkOk),(177,F_i_ahead),(178,F_i_less)]
def p_i_copyInts:PL :=
 Qp [.e,0] <|
 .ret [1]
def F_i_copyInts:Sem1:=Fs p_i_copyInts []
def p_i_AreasOf:PL :=
 Qn [1] <|
 .loop [.e,I 0] (
 Ql [6,4] <|
 .ite 7 (
 Q4 [1,6] <|
 Qe [9,3] <|
 .ite 13 (
 .join (
 Qa [6,I 1] <|
 .go 0 [14,15]) (
 .loop [I 0] (
 Qn [5] <|
 Ql [14,15] <|
 .ite 16 (
 Qq [5,14] <|
 Ql [18,12] <|
 .ite 19 (
 Qa [14,I 1] <|
 .go 0 [20]) (
 Qn [5] <|
 Ql [14,20] <|
 .ite 21 (
 Qq [5,14] <|
 Qe [23,12] <|
 .ite 24 (
 .go 1 [5]) (
 Qw [5,14] <|
 Qi 133 [25] 1 <|
 Qx [12] <|
 Qp [26,27] <|
 Qv [5,14] <|
 Qp [28,29] <|
 .go 1 [30])) (
 Qw [5,14] <|
 Qi 133 [22] 1 <|
 Qx [12] <|
 Qp [23,24] <|
 Qv [5,14] <|
 Qp [25,26] <|
 .go 1 [27]))) (
 Qn [5] <|
 Ql [14,17] <|
 .ite 18 (
 Qq [5,14] <|
 Qe [20,12] <|
 .ite 21 (
 .go 1 [5]) (
 Qw [5,14] <|
 Qi 133 [22] 1 <|
 Qx [12] <|
 Qp [23,24] <|
 Qv [5,14] <|
 Qp [25,26] <|
 .go 1 [27])) (
 Qw [5,14] <|
 Qi 133 [19] 1 <|
 Qx [12] <|
 Qp [20,21] <|
 Qv [5,14] <|
 Qp [22,23] <|
 .go 1 [24]))))) (
 Qe [10,3] <|
 .join (
 Qa [6,I 1] <|
 .go 0 [15,16]) (
 .ite 14 (
 .loop [I 0] (
 Qn [5] <|
 Ql [15,16] <|
 .ite 17 (
 Qq [5,15] <|
 Ql [19,12] <|
 .ite 20 (
 Qa [15,I 1] <|
 .go 0 [21]) (
 Qn [5] <|
 Ql [15,21] <|
 .ite 22 (
 Qq [5,15] <|
 Qe [24,12] <|
 .ite 25 (
 .go 1 [5]) (
 Qw [5,15] <|
 Qi 133 [26] 1 <|
 Qx [12] <|
 Qp [27,28] <|
 Qv [5,15] <|
 Qp [29,30] <|
 .go 1 [31])) (
 Qw [5,15] <|
 Qi 133 [23] 1 <|
 Qx [12] <|
 Qp [24,25] <|
 Qv [5,15] <|
 Qp [26,27] <|
 .go 1 [28]))) (
 Qn [5] <|
 Ql [15,18] <|
 .ite 19 (
 Qq [5,15] <|
 Qe [21,12] <|
 .ite 22 (
 .go 1 [5]) (
 Qw [5,15] <|
 Qi 133 [23] 1 <|
 Qx [12] <|
 Qp [24,25] <|
 Qv [5,15] <|
 Qp [26,27] <|
 .go 1 [28])) (
 Qw [5,15] <|
 Qi 133 [20] 1 <|
 Qx [12] <|
 Qp [21,22] <|
 Qv [5,15] <|
 Qp [23,24] <|
 .go 1 [25])))) (
 .go 0 [5])))) (
 .ret [5]))
def F_i_AreasOf:Sem1:=Fs p_i_AreasOf [(133,F_i_copyInts)]
def p_i_NextTo:PL :=
 Qn [1] <|
 .loop [.e,I 0] (
 Ql [7,5] <|
 .ite 8 (
 Q4 [1,7] <|
 Qu [13,4] <|
 .ite 14 (
 Qa [7,I 1] <|
 .go 0 [6,15]) (
 Qe [10,3] <|
 .join (
 Qe [11,3] <|
 .join (
 Qa [7,I 1] <|
 .go 0 [18,19]) (
 .ite 17 (
 .loop [I 0] (
 Qn [16] <|
 Ql [18,19] <|
 .ite 20 (
 Qq [16,18] <|
 Ql [22,10] <|
 .ite 23 (
 Qa [18,I 1] <|
 .go 0 [24]) (
 Qn [16] <|
 Ql [18,24] <|
 .ite 25 (
 Qq [16,18] <|
 Qe [27,10] <|
 .ite 28 (
 .go 1 [16]) (
 Qw [16,18] <|
 Qi 133 [29] 1 <|
 Qx [10] <|
 Qp [30,31] <|
 Qv [16,18] <|
 Qp [32,33] <|
 .go 1 [34])) (
 Qw [16,18] <|
 Qi 133 [26] 1 <|
 Qx [10] <|
 Qp [27,28] <|
 Qv [16,18] <|
 Qp [29,30] <|
 .go 1 [31]))) (
 Qn [16] <|
 Ql [18,21] <|
 .ite 22 (
 Qq [16,18] <|
 Qe [24,10] <|
 .ite 25 (
 .go 1 [16]) (
 Qw [16,18] <|
 Qi 133 [26] 1 <|
 Qx [10] <|
 Qp [27,28] <|
 Qv [16,18] <|
 Qp [29,30] <|
 .go 1 [31])) (
 Qw [16,18] <|
 Qi 133 [23] 1 <|
 Qx [10] <|
 Qp [24,25] <|
 Qv [16,18] <|
 Qp [26,27] <|
 .go 1 [28])))) (
 .go 0 [16]))) (
 .ite 15 (
 .loop [I 0] (
 Qn [6] <|
 Ql [16,17] <|
 .ite 18 (
 Qq [6,16] <|
 Ql [20,11] <|
 .ite 21 (
 Qa [16,I 1] <|
 .go 0 [22]) (
 Qn [6] <|
 Ql [16,22] <|
 .ite 23 (
 Qq [6,16] <|
 Qe [25,11] <|
 .ite 26 (
 .go 1 [6]) (
 Qw [6,16] <|
 Qi 133 [27] 1 <|
 Qx [11] <|
 Qp [28,29] <|
 Qv [6,16] <|
 Qp [30,31] <|
 .go 1 [32])) (
 Qw [6,16] <|
 Qi 133 [24] 1 <|
 Qx [11] <|
 Qp [25,26] <|
 Qv [6,16] <|
 Qp [27,28] <|
 .go 1 [29]))) (
 Qn [6] <|
 Ql [16,19] <|
 .ite 20 (
 Qq [6,16] <|
 Qe [22,11] <|
 .ite 23 (
 .go 1 [6]) (
 Qw [6,16] <|
 Qi 133 [24] 1 <|
 Qx [11] <|
 Qp [25,26] <|
 Qv [6,16] <|
 Qp [27,28] <|
 .go 1 [29])) (
 Qw [6,16] <|
 Qi 133 [21] 1 <|
 Qx [11] <|
 Qp [22,23] <|
 Qv [6,16] <|
 Qp [24,25] <|
 .go 1 [26])))) (
 .go 0 [6])))) (
 .ret [6]))
def F_i_NextTo:Sem1:=Fs p_i_NextTo [(133,F_i_copyInts)]
def p_i_linkAt:PL :=
 Qn [1] <|
 .loop [I 0,I 0] (
 Ql [8,6] <|
 .ite 9 (
 Q4 [1,8] <|
 Qe [14,5] <|
 .ite 15 (
 Qe [11,3] <|
 .ite 16 (
 Qe [12,4] <|
 .ite 17 (
 Qz [8] <|
 .ret [18]) (
 Qe [11,4] <|
 .ite 18 (
 Qe [12,3] <|
 .ite 19 (
 Qz [8] <|
 .ret [20]) (
 Qa [8,I 1] <|
 .go 0 [7,20])) (
 Qa [8,I 1] <|
 .go 0 [7,19]))) (
 Qe [11,4] <|
 .ite 17 (
 Qe [12,3] <|
 .ite 18 (
 Qz [8] <|
 .ret [19]) (
 Qa [8,I 1] <|
 .go 0 [7,19])) (
 Qa [8,I 1] <|
 .go 0 [7,18]))) (
 Qa [8,I 1] <|
 .go 0 [7,16])) (
 Qz [.k (.int .i64 (-1))] <|
 .ret [10]))
def F_i_linkAt:Sem1:=Fs p_i_linkAt []
def p_i_nearUp:PL :=
 Qi 181 [0,1,2,5,6] 1 <|
 Qn [7] <|
 .loop [.e,I 0] (
 Ql [10,8] <|
 .ite 11 (
 Qq [7,10] <|
 Qi 182 [0,1,2,5,13,6] 1 <|
 Q1 [3,14] <|
 .ite 16 (
 Qs [13,I 1] <|
 Q1 [4,17] <|
 .join (
 Qa [10,I 1] <|
 .go 0 [20,21]) (
 .ite 19 (
 Qb [1,14] <|
 Qc 4 2 [1,14] <|
 Q (.lit 2 [true,true]) [13,21] <|
 Q (.app true 2) [9,22] <|
 .go 0 [23]) (
 .go 0 [9]))) (
 .join (
 Qa [10,I 1] <|
 .go 0 [17,18]) (
 .go 0 [9]))) (
 .ret [9]))
def F_i_nearUp:Sem1:=Fs p_i_nearUp [(181,F_i_NextTo),(182,F_i_linkAt)]
def p_i_Before:PL :=
 Qu [0,8] <|
 .ite 16 (
 Ql [0,8] <|
 Qz [17] <|
 .ret [18]) (
 Qu [1,9] <|
 .ite 17 (
 Ql [1,9] <|
 Qz [18] <|
 .ret [19]) (
 Qu [2,10] <|
 .ite 18 (
 Ql [2,10] <|
 Qz [19] <|
 .ret [20]) (
 Ql [3,11] <|
 Qz [19] <|
 .ret [20])))
def F_i_Before:Sem1:=Fs p_i_Before []
def p_i_copyRecord:PL :=
 Q (.app true 2) [.e,5] <|
 Qz [7] <|
 Qz [6] <|
 Qz [4] <|
 Qz [3] <|
 Qz [2] <|
 Qz [1] <|
 Qz [0] <|
 .ret [15,14,13,12,11,8,10,9]
def F_i_copyRecord:Sem1:=Fs p_i_copyRecord []
def p_i_copyRecords:PL :=
 Qn [0] <|
 .loop [.e,I 0] (
 Ql [3,1] <|
 .ite 4 (
 Q8 [0,3] <|
 Qi 180 [6,7,8,9,10,11,12,13] 8 <|
 Q (.lit 8 [true,true,true,true,true,false,true,true]) [14,15,16,17,18,19,20,21] <|
 Qy [2,22] <|
 Qa [3,I 1] <|
 .go 0 [23,24]) (
 .ret [2]))
def F_i_copyRecords:Sem1:=Fs p_i_copyRecords [(180,F_i_copyRecord)]
def p_i_SameKey:PL :=
 Qe [0,8] <|
 .ite 16 (
 Qe [1,9] <|
 .ite 17 (
 Qe [2,10] <|
 .ite 18 (
 Qe [3,11] <|
 Qz [19] <|
 .ret [20]) (
 Qz [.k (.bool false)] <|
 .ret [19])) (
 Qz [.k (.bool false)] <|
 .ret [18])) (
 Qz [.k (.bool false)] <|
 .ret [17])
def F_i_SameKey:Sem1:=Fs p_i_SameKey []
def p_i_put:PL :=
 .loop [I 0] (
 Qn [0] <|
 Ql [9,10] <|
 .ite 11 (
 Q8 [0,9] <|
 Qi 165 [13,14,15,16,17,18,19,20,1,2,3,4,5,6,7,8] 1 <|
 .ite 21 (
 Qa [9,I 1] <|
 .go 0 [22]) (
 Q (.sub 8 false true) [0,9] <|
 Qi 179 [22] 1 <|
 Qi 180 [1,2,3,4,5,6,7,8] 8 <|
 Q (.lit 8 [true,true,true,true,true,false,true,true]) [24,25,26,27,28,29,30,31] <|
 Qy [23,32] <|
 Qn [0] <|
 Ql [9,34] <|
 .ite 35 (
 Q8 [0,9] <|
 Qi 166 [37,38,39,40,41,42,43,44,1,2,3,4,5,6,7,8] 1 <|
 .join (
 Q (.sub 8 true false) [0,46] <|
 Qi 179 [47] 1 <|
 Qy [33,48] <|
 .ret [49]) (
 .ite 45 (
 Qa [9,I 1] <|
 .go 0 [46]) (
 .go 0 [9]))) (
 .join (
 Q (.sub 8 true false) [0,36] <|
 Qi 179 [37] 1 <|
 Qy [33,38] <|
 .ret [39]) (
 .go 0 [9])))) (
 Q (.sub 8 false true) [0,9] <|
 Qi 179 [12] 1 <|
 Qi 180 [1,2,3,4,5,6,7,8] 8 <|
 Q (.lit 8 [true,true,true,true,true,false,true,true]) [14,15,16,17,18,19,20,21] <|
 Qy [13,22] <|
 Qn [0] <|
 Ql [9,24] <|
 .ite 25 (
 Q8 [0,9] <|
 Qi 166 [27,28,29,30,31,32,33,34,1,2,3,4,5,6,7,8] 1 <|
 .join (
 Q (.sub 8 true false) [0,36] <|
 Qi 179 [37] 1 <|
 Qy [23,38] <|
 .ret [39]) (
 .ite 35 (
 Qa [9,I 1] <|
 .go 0 [36]) (
 .go 0 [9]))) (
 .join (
 Q (.sub 8 true false) [0,26] <|
 Qi 179 [27] 1 <|
 Qy [23,28] <|
 .ret [29]) (
 .go 0 [9]))))
def F_i_put:Sem1:=Fs p_i_put [(165,F_i_Before),(166,F_i_SameKey),(179,F_i_copyRecords),(180,F_i_copyRecord)]
def p_i_hasInt:PL :=
 Qn [0] <|
 .loop [.k (.bool false),I 0] (
 Ql [4,2] <|
 .ite 5 (
 Q1 [0,4] <|
 Qe [7,1] <|
 .ite 8 (
 Qz [.k (.bool true)] <|
 .ret [9]) (
 Qa [4,I 1] <|
 .go 0 [3,9])) (
 Qz [.k (.bool false)] <|
 .ret [6]))
def F_i_hasInt:Sem1:=Fs p_i_hasInt []
def p_i_Border:PL :=
 Qi 110 [0,1,2,3] 1 <|
 Qi 91 [4,I 0] 1 <|
 .ite 5 (
 Qn [4] <|
 Qg [6,I 1] <|
 Qz [7] <|
 .ret [8]) (
 Qz [.k (.bool false)] <|
 .ret [6])
def F_i_Border:Sem1:=Fs p_i_Border [(91,F_i_hasInt),(110,F_i_AreasOf)]
def p_i_nearOk:PL :=
 Qn [5] <|
 .loop [.k (.bool false),I 0] (
 Ql [10,8] <|
 .ite 11 (
 Q2 [5,10] <|
 Qi 89 [13,I 1,I 6] 1 <|
 Qt [15] <|
 .ite 16 (
 Qz [.k (.bool false)] <|
 .ret [17]) (
 Qe [13,2] <|
 .ite 17 (
 Qz [.k (.bool false)] <|
 .ret [18]) (
 Qi 89 [14,I 1,I 1000] 1 <|
 Qt [18] <|
 .ite 19 (
 Qz [.k (.bool false)] <|
 .ret [20]) (
 Qg [10,I 0] <|
 .ite 20 (
 Qs [10,I 1] <|
 Qb [5,21] <|
 Qc 2 0 [5,21] <|
 Qh [23,13] <|
 .ite 24 (
 Qz [.k (.bool false)] <|
 .ret [25]) (
 Qa [10,I 1] <|
 .go 0 [9,25])) (
 Qa [10,I 1] <|
 .go 0 [9,21]))))) (
 Qz [.k (.bool true)] <|
 .ret [12]))
def F_i_nearOk:Sem1:=Fs p_i_nearOk [(89,F_i_in)]
def p_i_RecordOk:PL :=
 Qi 89 [2,I 1,I 6] 1 <|
 Qt [8] <|
 .ite 9 (
 Qz [.k (.bool false)] <|
 .ret [10]) (
 Qi 89 [4,I 1,I 100000] 1 <|
 Qt [10] <|
 .ite 11 (
 Qz [.k (.bool false)] <|
 .ret [12]) (
 Qe [1,I 1] <|
 .ite 12 (
 Qi 89 [0,I 0,I 2] 1 <|
 .ite 13 (
 Qe [3,I 0] <|
 .ite 14 (
 Qi 197 [0,1,2,3,4,5,6,7] 1 <|
 .ite 15 (
 Qe [6,I 0] <|
 .ite 16 (
 Qt [7] <|
 Qz [17] <|
 .ret [18]) (
 Qz [.k (.bool false)] <|
 .ret [17])) (
 Qz [.k (.bool false)] <|
 .ret [16])) (
 Qz [.k (.bool false)] <|
 .ret [15])) (
 Qz [.k (.bool false)] <|
 .ret [14])) (
 Qe [1,I 2] <|
 .ite 13 (
 Qi 89 [0,I 0,I 2] 1 <|
 .ite 14 (
 Qi 89 [3,I 1,I 6] 1 <|
 .ite 15 (
 Qn [5] <|
 Qe [16,I 0] <|
 .ite 17 (
 Qi 89 [6,I 0,I 60000] 1 <|
 .ite 18 (
 Qt [7] <|
 Qz [19] <|
 .ret [20]) (
 Qz [.k (.bool false)] <|
 .ret [19])) (
 Qz [.k (.bool false)] <|
 .ret [18])) (
 Qz [.k (.bool false)] <|
 .ret [16])) (
 Qz [.k (.bool false)] <|
 .ret [15])) (
 Qe [1,I 3] <|
 .ite 14 (
 Qe [0,I 9] <|
 .ite 15 (
 Qi 89 [3,I 1,I 9] 1 <|
 .ite 16 (
 Qn [5] <|
 Qe [17,I 0] <|
 .ite 18 (
 Qi 89 [6,I 1,I 1000] 1 <|
 .ite 19 (
 Qz [.k (.bool true)] <|
 .ret [20]) (
 Qe [6,I 60000] <|
 Qz [20] <|
 .ret [21])) (
 Qz [.k (.bool false)] <|
 .ret [19])) (
 Qz [.k (.bool false)] <|
 .ret [17])) (
 Qz [.k (.bool false)] <|
 .ret [16])) (
 Qz [.k (.bool false)] <|
 .ret [15])))))
def F_i_RecordOk:Sem1:=Fs p_i_RecordOk [(89,F_i_in),(197,F_i_nearOk)]
def p_i_StoreOk:PL :=
 Qn [0] <|
 .loop [.k (.bool false),I 0] (
 Ql [3,1] <|
 .ite 4 (
 Q8 [0,3] <|
 Qi 164 [6,7,8,9,10,11,12,13] 1 <|
 Qt [14] <|
 .ite 15 (
 Qz [.k (.bool false)] <|
 .ret [16]) (
 Qg [3,I 0] <|
 .ite 16 (
 Qs [3,I 1] <|
 Q8 [0,17] <|
 Qi 165 [19,20,21,22,23,24,25,26,6,7,8,9,10,11,12,13] 1 <|
 Qt [27] <|
 .ite 28 (
 Qz [.k (.bool false)] <|
 .ret [29]) (
 Qa [3,I 1] <|
 .go 0 [2,29])) (
 Qa [3,I 1] <|
 .go 0 [2,17]))) (
 Qn [0] <|
 Qm [5,I 150] <|
 Qz [6] <|
 .ret [7]))
def F_i_StoreOk:Sem1:=Fs p_i_StoreOk [(164,F_i_RecordOk),(165,F_i_Before)]
def p_i_keyAt:PL :=
 Qn [0] <|
 .loop [I 0,I 0] (
 Ql [11,9] <|
 .ite 12 (
 Q8 [0,11] <|
 Qi 166 [14,15,16,17,18,19,20,21,1,2,3,4,5,6,7,8] 1 <|
 .ite 22 (
 Qz [11] <|
 .ret [23]) (
 Qa [11,I 1] <|
 .go 0 [10,23])) (
 Qz [.k (.int .i64 (-1))] <|
 .ret [13]))
def F_i_keyAt:Sem1:=Fs p_i_keyAt [(166,F_i_SameKey)]
def p_i_told:PL :=
 Qi 90 [0,1,I 1,2,I 0,I 0,.e,I 0,.k (.bool false)] 1 <|
 Ql [4,I 0] <|
 .ite 5 (
 Qz [I 0] <|
 .ret [6]) (
 Qb [0,4] <|
 Qc 8 5 [0,4] <|
 Qn [7] <|
 .loop [I 0,I 0] (
 Ql [10,8] <|
 .ite 11 (
 Q2 [7,10] <|
 Qe [13,3] <|
 .ite 15 (
 Qz [14] <|
 .ret [16]) (
 Qa [10,I 1] <|
 .go 0 [9,16])) (
 Qz [I 0] <|
 .ret [12])))
def F_i_told:Sem1:=Fs p_i_told [(90,F_i_keyAt)]
def p_i_Linked:PL :=
 Qi 125 [0,1,3,2] 1 <|
 Qe [4,I 0] <|
 .ite 5 (
 Qz [I 0] <|
 .ret [6]) (
 Qi 125 [0,1,2,3] 1 <|
 Qz [6] <|
 .ret [7])
def F_i_Linked:Sem1:=Fs p_i_Linked [(125,F_i_told)]
def p_i_copyWay:PL :=
 Qi 133 [2] 1 <|
 Qz [1] <|
 Qz [0] <|
 .ret [5,4,3]
def F_i_copyWay:Sem1:=Fs p_i_copyWay [(133,F_i_copyInts)]
def p_i_Together:PL :=
 Qg [4,1] <|
 .ite 6 (
 Qi 126 [0,1,2] 3 <|
 Qz [8] <|
 Qz [7] <|
 .ret [11,10,9]) (
 Qg [1,4] <|
 .ite 7 (
 Qi 126 [3,4,5] 3 <|
 Qz [9] <|
 Qz [8] <|
 .ret [12,11,10]) (
 Qn [2] <|
 .loop [I 0,.e] (
 Ql [9,8] <|
 .ite 11 (
 Q1 [2,9] <|
 .loop [I 0] (
 Qn [10] <|
 Ql [14,15] <|
 .ite 16 (
 Qq [10,14] <|
 Ql [18,13] <|
 .ite 19 (
 Qa [14,I 1] <|
 .go 0 [20]) (
 Qn [10] <|
 Ql [14,20] <|
 .ite 21 (
 Qq [10,14] <|
 Qe [23,13] <|
 .ite 24 (
 Qa [9,I 1] <|
 .go 1 [25,10]) (
 Qw [10,14] <|
 Qi 133 [25] 1 <|
 Qx [13] <|
 Qp [26,27] <|
 Qv [10,14] <|
 Qp [28,29] <|
 Qa [9,I 1] <|
 .go 1 [31,30])) (
 Qw [10,14] <|
 Qi 133 [22] 1 <|
 Qx [13] <|
 Qp [23,24] <|
 Qv [10,14] <|
 Qp [25,26] <|
 Qa [9,I 1] <|
 .go 1 [28,27]))) (
 Qn [10] <|
 Ql [14,17] <|
 .ite 18 (
 Qq [10,14] <|
 Qe [20,13] <|
 .ite 21 (
 Qa [9,I 1] <|
 .go 1 [22,10]) (
 Qw [10,14] <|
 Qi 133 [22] 1 <|
 Qx [13] <|
 Qp [23,24] <|
 Qv [10,14] <|
 Qp [25,26] <|
 Qa [9,I 1] <|
 .go 1 [28,27])) (
 Qw [10,14] <|
 Qi 133 [19] 1 <|
 Qx [13] <|
 Qp [20,21] <|
 Qv [10,14] <|
 Qp [22,23] <|
 Qa [9,I 1] <|
 .go 1 [25,24])))) (
 Qn [5] <|
 .loop [I 0,10] (
 Ql [13,12] <|
 .ite 15 (
 Q1 [5,13] <|
 .loop [I 0] (
 Qn [14] <|
 Ql [18,19] <|
 .ite 20 (
 Qq [14,18] <|
 Ql [22,17] <|
 .ite 23 (
 Qa [18,I 1] <|
 .go 0 [24]) (
 Qn [14] <|
 Ql [18,24] <|
 .ite 25 (
 Qq [14,18] <|
 Qe [27,17] <|
 .ite 28 (
 Qa [13,I 1] <|
 .go 1 [29,14]) (
 Qw [14,18] <|
 Qi 133 [29] 1 <|
 Qx [17] <|
 Qp [30,31] <|
 Qv [14,18] <|
 Qp [32,33] <|
 Qa [13,I 1] <|
 .go 1 [35,34])) (
 Qw [14,18] <|
 Qi 133 [26] 1 <|
 Qx [17] <|
 Qp [27,28] <|
 Qv [14,18] <|
 Qp [29,30] <|
 Qa [13,I 1] <|
 .go 1 [32,31]))) (
 Qn [14] <|
 Ql [18,21] <|
 .ite 22 (
 Qq [14,18] <|
 Qe [24,17] <|
 .ite 25 (
 Qa [13,I 1] <|
 .go 1 [26,14]) (
 Qw [14,18] <|
 Qi 133 [26] 1 <|
 Qx [17] <|
 Qp [27,28] <|
 Qv [14,18] <|
 Qp [29,30] <|
 Qa [13,I 1] <|
 .go 1 [32,31])) (
 Qw [14,18] <|
 Qi 133 [23] 1 <|
 Qx [17] <|
 Qp [24,25] <|
 Qv [14,18] <|
 Qp [26,27] <|
 Qa [13,I 1] <|
 .go 1 [29,28])))) (
 Qz [1] <|
 Qz [0] <|
 .ret [17,16,14]))))))
def F_i_Together:Sem1:=Fs p_i_Together [(126,F_i_copyWay),(133,F_i_copyInts)]
def p_i_WaysIn:PL :=
 Qi 88 [0] 1 <|
 Qt [3] <|
 .ite 4 (
 .ret [.e]) (
 Qi 89 [2,I 1,I 6] 1 <|
 Qt [5] <|
 .ite 6 (
 .ret [.e]) (
 Qi 90 [0,1,I 1,2,I 0,I 0,.e,I 0,.k (.bool false)] 1 <|
 Ql [7,I 0] <|
 .ite 8 (
 .ret [.e]) (
 Q (.mk) [I 7,I 7,I 0,I 0,.e] <|
 Qb [9,2] <|
 Q (.put true 3 0 1) [9,2,2] <|
 .loop [.e,11] (
 .loop [I 0,I 1] (
 Qm [15,I 6] <|
 .ite 16 (
 Qb [13,15] <|
 Q (.scell 3 0) [13,15] <|
 Qu [18,I 0] <|
 .ite 19 (
 Qi 91 [12,15] 1 <|
 Qt [20] <|
 .ite 21 (
 Qe [14,I 0] <|
 .ite 22 (
 .join (
 Qa [15,I 1] <|
 .go 0 [23,24]) (
 .go 0 [15])) (
 Qb [13,15] <|
 Q (.scell 3 1) [13,15] <|
 Qb [13,14] <|
 Q (.scell 3 1) [13,14] <|
 Ql [24,26] <|
 .join (
 Qa [15,I 1] <|
 .go 0 [28,29]) (
 .ite 27 (
 .go 0 [15]) (
 .go 0 [14])))) (
 .join (
 Qa [15,I 1] <|
 .go 0 [22,23]) (
 .go 0 [14]))) (
 .join (
 Qa [15,I 1] <|
 .go 0 [20,21]) (
 .go 0 [14]))) (
 Qe [14,I 0] <|
 .ite 17 (
 Qn [13] <|
 .loop [.e,I 0,13] (
 Ql [20,18] <|
 .ite 22 (
 Qb [13,20] <|
 Q (.scell 3 0) [13,20] <|
 Q (.scell 3 1) [13,20] <|
 Q (.dig 3 2) [13,20] <|
 Q (.tk1) [21,20] <|
 Qu [24,I 0] <|
 .join (
 Qa [20,I 1] <|
 .go 0 [29,30,27]) (
 .ite 28 (
 Q (.lit 3 [true,true,false]) [24,25,26] <|
 Qo [19,29] <|
 .go 0 [30]) (
 .go 0 [19]))) (
 .ret [19]))) (
 Qx [14] <|
 Qp [12,18] <|
 .loop [I 1,13] (
 Qm [20,I 6] <|
 .ite 22 (
 Qi 44 [0,1,14,20] 1 <|
 Qe [23,I 0] <|
 .ite 24 (
 Qa [20,I 1] <|
 .go 0 [25,21]) (
 Qe [20,2] <|
 .ite 25 (
 Qa [20,I 1] <|
 .go 0 [26,21]) (
 Qb [21,14] <|
 Q (.scell 3 1) [21,14] <|
 Qa [27,23] <|
 Qb [21,14] <|
 Qc 3 2 [21,14] <|
 Qi 133 [30] 1 <|
 Qe [14,2] <|
 .join (
 Q3 [21,20] <|
 Qe [35,I 0] <|
 .ite 38 (
 .join (
 Qa [20,I 1] <|
 .go 0 [40,39]) (
 Qb [21,20] <|
 Q (.putD [true,true,false] 3 0) [21,20,20,28,33] <|
 .go 0 [40])) (
 Ql [28,36] <|
 .join (
 Qa [20,I 1] <|
 .go 0 [41,40]) (
 .ite 39 (
 Qb [21,20] <|
 Q (.putD [true,true,false] 3 0) [21,20,20,28,33] <|
 .go 0 [41]) (
 Qe [28,36] <|
 .join (
 .go 0 [41]) (
 .ite 40 (
 Qi 50 [35,36,37,20,28,33] 3 <|
 Qb [21,20] <|
 Q (.putD [true,true,false] 3 0) [21,20,41,42,43] <|
 .go 0 [45]) (
 .go 0 [21])))))) (
 .ite 32 (
 Qx [20] <|
 .go 0 [33]) (
 .go 0 [31]))))) (
 .go 2 [19,21])))))))))
def F_i_WaysIn:Sem1:=Fs p_i_WaysIn [(44,F_i_Linked),(50,F_i_Together),(88,F_i_StoreOk),(89,F_i_in),(90,F_i_keyAt),(91,F_i_hasInt),(133,F_i_copyInts)]
def p_i_WayTo:PL :=
 Qn [0] <|
 .loop [.k (.bool false),I 0] (
 Ql [4,2] <|
 .ite 5 (
 Q3 [0,4] <|
 Qe [7,1] <|
 .ite 10 (
 Qi 126 [7,8,9] 3 <|
 Qz [.k (.bool true)] <|
 Qz [12] <|
 Qz [11] <|
 .ret [16,15,13,14]) (
 Qa [4,I 1] <|
 .go 0 [3,11])) (
 Qz [.k (.bool false)] <|
 Qz [I 0] <|
 Qz [I 0] <|
 .ret [8,7,.e,6]))
def F_i_WayTo:Sem1:=Fs p_i_WayTo [(126,F_i_copyWay)]
def p_i_RoutesWithin:PL :=
 Qn [1] <|
 .loop [.e,I 0] (
 Ql [5,3] <|
 .ite 6 (
 Q1 [1,5] <|
 Qi 18 [0,8,2] 1 <|
 Qn [9] <|
 .loop [4,I 0,9] (
 Ql [12,10] <|
 .ite 14 (
 Q3 [13,12] <|
 .loop [I 0] (
 Qn [11] <|
 Ql [19,20] <|
 .ite 21 (
 Qb [11,19] <|
 Q (.scell 3 0) [11,19] <|
 Ql [23,16] <|
 .ite 24 (
 Qa [19,I 1] <|
 .go 0 [25]) (
 Qn [11] <|
 Ql [19,25] <|
 .ite 26 (
 Qb [11,19] <|
 Q (.scell 3 0) [11,19] <|
 Qe [28,16] <|
 .ite 29 (
 Q3 [11,19] <|
 Qi 50 [31,32,33,16,17,18] 3 <|
 Qb [11,19] <|
 Q (.putD [true,true,false] 3 0) [11,19,34,35,36] <|
 Qa [12,I 1] <|
 .go 1 [38,39,13]) (
 Q (.sub 3 false true) [11,19] <|
 Q (.tkn) [11,I 0,30] <|
 Qo [.e,30] <|
 Qi 126 [16,17,18] 3 <|
 Q (.lit 3 [true,true,false]) [33,34,35] <|
 Qo [32,36] <|
 Q (.sub 3 true false) [11,19] <|
 Q (.tkn) [31,19,38] <|
 Qo [37,38] <|
 Qa [12,I 1] <|
 .go 1 [40,41,13])) (
 Q (.sub 3 false true) [11,19] <|
 Q (.tkn) [11,I 0,27] <|
 Qo [.e,27] <|
 Qi 126 [16,17,18] 3 <|
 Q (.lit 3 [true,true,false]) [30,31,32] <|
 Qo [29,33] <|
 Q (.sub 3 true false) [11,19] <|
 Q (.tkn) [28,19,35] <|
 Qo [34,35] <|
 Qa [12,I 1] <|
 .go 1 [37,38,13]))) (
 Qn [11] <|
 Ql [19,22] <|
 .ite 23 (
 Qb [11,19] <|
 Q (.scell 3 0) [11,19] <|
 Qe [25,16] <|
 .ite 26 (
 Q3 [11,19] <|
 Qi 50 [28,29,30,16,17,18] 3 <|
 Qb [11,19] <|
 Q (.putD [true,true,false] 3 0) [11,19,31,32,33] <|
 Qa [12,I 1] <|
 .go 1 [35,36,13]) (
 Q (.sub 3 false true) [11,19] <|
 Q (.tkn) [11,I 0,27] <|
 Qo [.e,27] <|
 Qi 126 [16,17,18] 3 <|
 Q (.lit 3 [true,true,false]) [30,31,32] <|
 Qo [29,33] <|
 Q (.sub 3 true false) [11,19] <|
 Q (.tkn) [28,19,35] <|
 Qo [34,35] <|
 Qa [12,I 1] <|
 .go 1 [37,38,13])) (
 Q (.sub 3 false true) [11,19] <|
 Q (.tkn) [11,I 0,24] <|
 Qo [.e,24] <|
 Qi 126 [16,17,18] 3 <|
 Q (.lit 3 [true,true,false]) [27,28,29] <|
 Qo [26,30] <|
 Q (.sub 3 true false) [11,19] <|
 Q (.tkn) [25,19,32] <|
 Qo [31,32] <|
 Qa [12,I 1] <|
 .go 1 [34,35,13])))) (
 Qa [5,I 1] <|
 .go 1 [11,15]))) (
 .ret [4]))
def F_i_RoutesWithin:Sem1:=Fs p_i_RoutesWithin [(18,F_i_WaysIn),(50,F_i_Together),(126,F_i_copyWay)]
def p_i_RoutesBeyond:PL :=
 Qi 26 [0,1,3] 1 <|
 Qn [0] <|
 .loop [.e,I 0] (
 Ql [7,5] <|
 .ite 8 (
 Q8 [0,7] <|
 Qu [11,I 2] <|
 .ite 18 (
 Qa [7,I 1] <|
 .go 0 [6,19]) (
 Qh [16,I 60000] <|
 .ite 19 (
 Qa [7,I 1] <|
 .go 0 [6,20]) (
 Qe [12,3] <|
 .ite 20 (
 Qa [7,I 1] <|
 .go 0 [6,21]) (
 Qi 91 [1,10] 1 <|
 Qt [21] <|
 .ite 22 (
 Qa [7,I 1] <|
 .go 0 [6,23]) (
 .ite 2 (
 Qu [10,I 0] <|
 .ite 23 (
 Qa [7,I 1] <|
 .go 0 [6,24]) (
 Qi 45 [4,13] 4 <|
 Qi 18 [0,10,3] 1 <|
 Qi 45 [28,12] 4 <|
 .ite 27 (
 Qa [7,I 1] <|
 .go 0 [6,33]) (
 Qt [32] <|
 .ite 33 (
 Qa [7,I 1] <|
 .go 0 [6,34]) (
 Qa [16,30] <|
 Qh [34,I 60000] <|
 .ite 35 (
 Qa [7,I 1] <|
 .go 0 [6,36]) (
 Qa [16,30] <|
 .loop [I 0] (
 Qn [6] <|
 Ql [37,38] <|
 .ite 39 (
 Qb [6,37] <|
 Q (.scell 3 0) [6,37] <|
 Ql [41,13] <|
 .ite 42 (
 Qa [37,I 1] <|
 .go 0 [43]) (
 Qn [6] <|
 Ql [37,43] <|
 .ite 44 (
 Qb [6,37] <|
 Q (.scell 3 0) [6,37] <|
 Qe [46,13] <|
 .ite 47 (
 Q3 [6,37] <|
 Qi 50 [49,50,51,13,36,31] 3 <|
 Qb [6,37] <|
 Q (.putD [true,true,false] 3 0) [6,37,52,53,54] <|
 Qa [7,I 1] <|
 .go 1 [56,57]) (
 Q (.sub 3 false true) [6,37] <|
 Q (.tkn) [6,I 0,48] <|
 Qo [.e,48] <|
 Qi 126 [13,36,31] 3 <|
 Q (.lit 3 [true,true,false]) [51,52,53] <|
 Qo [50,54] <|
 Q (.sub 3 true false) [6,37] <|
 Q (.tkn) [49,37,56] <|
 Qo [55,56] <|
 Qa [7,I 1] <|
 .go 1 [58,59])) (
 Q (.sub 3 false true) [6,37] <|
 Q (.tkn) [6,I 0,45] <|
 Qo [.e,45] <|
 Qi 126 [13,36,31] 3 <|
 Q (.lit 3 [true,true,false]) [48,49,50] <|
 Qo [47,51] <|
 Q (.sub 3 true false) [6,37] <|
 Q (.tkn) [46,37,53] <|
 Qo [52,53] <|
 Qa [7,I 1] <|
 .go 1 [55,56]))) (
 Qn [6] <|
 Ql [37,40] <|
 .ite 41 (
 Qb [6,37] <|
 Q (.scell 3 0) [6,37] <|
 Qe [43,13] <|
 .ite 44 (
 Q3 [6,37] <|
 Qi 50 [46,47,48,13,36,31] 3 <|
 Qb [6,37] <|
 Q (.putD [true,true,false] 3 0) [6,37,49,50,51] <|
 Qa [7,I 1] <|
 .go 1 [53,54]) (
 Q (.sub 3 false true) [6,37] <|
 Q (.tkn) [6,I 0,45] <|
 Qo [.e,45] <|
 Qi 126 [13,36,31] 3 <|
 Q (.lit 3 [true,true,false]) [48,49,50] <|
 Qo [47,51] <|
 Q (.sub 3 true false) [6,37] <|
 Q (.tkn) [46,37,53] <|
 Qo [52,53] <|
 Qa [7,I 1] <|
 .go 1 [55,56])) (
 Q (.sub 3 false true) [6,37] <|
 Q (.tkn) [6,I 0,42] <|
 Qo [.e,42] <|
 Qi 126 [13,36,31] 3 <|
 Q (.lit 3 [true,true,false]) [45,46,47] <|
 Qo [44,48] <|
 Q (.sub 3 true false) [6,37] <|
 Q (.tkn) [43,37,50] <|
 Qo [49,50] <|
 Qa [7,I 1] <|
 .go 1 [52,53])))))))) (
 Qi 45 [4,13] 4 <|
 Qi 18 [0,10,3] 1 <|
 Qi 45 [27,12] 4 <|
 .ite 26 (
 Qa [7,I 1] <|
 .go 0 [6,32]) (
 Qt [31] <|
 .ite 32 (
 Qa [7,I 1] <|
 .go 0 [6,33]) (
 Qa [16,29] <|
 Qh [33,I 60000] <|
 .ite 34 (
 Qa [7,I 1] <|
 .go 0 [6,35]) (
 Qa [16,29] <|
 .loop [I 0] (
 Qn [6] <|
 Ql [36,37] <|
 .ite 38 (
 Qb [6,36] <|
 Q (.scell 3 0) [6,36] <|
 Ql [40,13] <|
 .ite 41 (
 Qa [36,I 1] <|
 .go 0 [42]) (
 Qn [6] <|
 Ql [36,42] <|
 .ite 43 (
 Qb [6,36] <|
 Q (.scell 3 0) [6,36] <|
 Qe [45,13] <|
 .ite 46 (
 Q3 [6,36] <|
 Qi 50 [48,49,50,13,35,30] 3 <|
 Qb [6,36] <|
 Q (.putD [true,true,false] 3 0) [6,36,51,52,53] <|
 Qa [7,I 1] <|
 .go 1 [55,56]) (
 Q (.sub 3 false true) [6,36] <|
 Q (.tkn) [6,I 0,47] <|
 Qo [.e,47] <|
 Qi 126 [13,35,30] 3 <|
 Q (.lit 3 [true,true,false]) [50,51,52] <|
 Qo [49,53] <|
 Q (.sub 3 true false) [6,36] <|
 Q (.tkn) [48,36,55] <|
 Qo [54,55] <|
 Qa [7,I 1] <|
 .go 1 [57,58])) (
 Q (.sub 3 false true) [6,36] <|
 Q (.tkn) [6,I 0,44] <|
 Qo [.e,44] <|
 Qi 126 [13,35,30] 3 <|
 Q (.lit 3 [true,true,false]) [47,48,49] <|
 Qo [46,50] <|
 Q (.sub 3 true false) [6,36] <|
 Q (.tkn) [45,36,52] <|
 Qo [51,52] <|
 Qa [7,I 1] <|
 .go 1 [54,55]))) (
 Qn [6] <|
 Ql [36,39] <|
 .ite 40 (
 Qb [6,36] <|
 Q (.scell 3 0) [6,36] <|
 Qe [42,13] <|
 .ite 43 (
 Q3 [6,36] <|
 Qi 50 [45,46,47,13,35,30] 3 <|
 Qb [6,36] <|
 Q (.putD [true,true,false] 3 0) [6,36,48,49,50] <|
 Qa [7,I 1] <|
 .go 1 [52,53]) (
 Q (.sub 3 false true) [6,36] <|
 Q (.tkn) [6,I 0,44] <|
 Qo [.e,44] <|
 Qi 126 [13,35,30] 3 <|
 Q (.lit 3 [true,true,false]) [47,48,49] <|
 Qo [46,50] <|
 Q (.sub 3 true false) [6,36] <|
 Q (.tkn) [45,36,52] <|
 Qo [51,52] <|
 Qa [7,I 1] <|
 .go 1 [54,55])) (
 Q (.sub 3 false true) [6,36] <|
 Q (.tkn) [6,I 0,41] <|
 Qo [.e,41] <|
 Qi 126 [13,35,30] 3 <|
 Q (.lit 3 [true,true,false]) [44,45,46] <|
 Qo [43,47] <|
 Q (.sub 3 true false) [6,36] <|
 Q (.tkn) [42,36,49] <|
 Qo [48,49] <|
 Qa [7,I 1] <|
 .go 1 [51,52])))))))))))) (
 .ret [6]))
def F_i_RoutesBeyond:Sem1:=Fs p_i_RoutesBeyond [(18,F_i_WaysIn),(26,F_i_RoutesWithin),(45,F_i_WayTo),(50,F_i_Together),(91,F_i_hasInt),(126,F_i_copyWay)]
def p_i_Beyond:PL :=
 Qn [1] <|
 .loop [.e,I 0] (
 Ql [6,4] <|
 .ite 7 (
 Q1 [1,6] <|
 Qu [9,3] <|
 .join (
 Qa [6,I 1] <|
 .go 0 [11,12]) (
 .ite 10 (
 Qx [9] <|
 Qp [5,11] <|
 .go 0 [12]) (
 .go 0 [5]))) (
 Qi 18 [0,3,2] 1 <|
 Qi 26 [0,5,2] 1 <|
 Qn [9] <|
 .loop [I 0,.e,9] (
 Ql [11,10] <|
 .ite 14 (
 Q3 [13,11] <|
 Qi 45 [8,16] 4 <|
 Qt [22] <|
 .ite 23 (
 Qu [16,2] <|
 .ite 24 (
 Qi 90 [12,3,I 2,2,16,I 0,.e,17,.k (.bool false)] 1 <|
 Ql [25,I 0] <|
 .join (
 Qa [11,I 1] <|
 .go 0 [28,27,13]) (
 .ite 26 (
 Qi 111 [12,3,I 2,2,16,I 0,.e,17,.k (.bool false)] 1 <|
 .go 0 [27]) (
 .go 0 [12]))) (
 .join (
 Qa [11,I 1] <|
 .go 0 [26,25,13]) (
 .go 0 [12]))) (
 .join (
 Qa [11,I 1] <|
 .go 0 [25,24,13]) (
 .go 0 [12]))) (
 Qu [3,I 0] <|
 .join (
 .ret [16]) (
 .ite 15 (
 Qi 30 [0,1,.k (.bool true),2] 1 <|
 Qn [16] <|
 .loop [I 0,12,16] (
 Ql [18,17] <|
 .ite 21 (
 Q3 [20,18] <|
 Qi 45 [8,23] 4 <|
 Qt [29] <|
 .ite 30 (
 Qu [23,2] <|
 .ite 31 (
 Qi 90 [19,3,I 2,2,23,I 0,.e,24,.k (.bool false)] 1 <|
 Ql [32,I 0] <|
 .join (
 Qa [18,I 1] <|
 .go 0 [35,34,20]) (
 .ite 33 (
 Qi 111 [19,3,I 2,2,23,I 0,.e,24,.k (.bool false)] 1 <|
 .go 0 [34]) (
 .go 0 [19]))) (
 .join (
 Qa [18,I 1] <|
 .go 0 [33,32,20]) (
 .go 0 [19]))) (
 .join (
 Qa [18,I 1] <|
 .go 0 [32,31,20]) (
 .go 0 [19]))) (
 .go 1 [19]))) (
 .go 0 [12]))))))
def F_i_Beyond:Sem1:=Fs p_i_Beyond [(18,F_i_WaysIn),(26,F_i_RoutesWithin),(30,F_i_RoutesBeyond),(45,F_i_WayTo),(90,F_i_keyAt),(111,F_i_put)]
def p_i_Ideal:PL :=
 Qi 109 [0,1,2] 1 <|
 Qt [5] <|
 .ite 6 (
 Qz [.k (.bool false)] <|
 .ret [.e,7]) (
 Qn [3] <|
 Qn [1] <|
 Qu [7,8] <|
 .ite 9 (
 Qz [.k (.bool false)] <|
 .ret [.e,10]) (
 Qn [4] <|
 Qu [10,0] <|
 .ite 11 (
 Qz [.k (.bool false)] <|
 .ret [.e,12]) (
 .loop [.e,I 1] (
 Qm [13,0] <|
 .ite 14 (
 Qi 110 [0,1,2,13] 1 <|
 Qn [15] <|
 .loop [12,I 0] (
 Ql [18,16] <|
 .ite 19 (
 Qq [15,18] <|
 Qs [13,I 1] <|
 Q1 [4,22] <|
 .join (
 Qa [18,I 1] <|
 .go 0 [25,26]) (
 .ite 24 (
 Qi 112 [0,1,2,3,4,13,21] 1 <|
 Qi 111 [17,21,I 1,13,I 0,I 1,25,I 0,.k (.bool false)] 1 <|
 .go 0 [26]) (
 .go 0 [17]))) (
 Qa [13,I 1] <|
 .go 1 [17,20]))) (
 Qn [2] <|
 .loop [12,I 0] (
 Ql [17,15] <|
 .ite 18 (
 Q4 [2,17] <|
 Qs [20,I 1] <|
 Q1 [4,24] <|
 .join (
 Qa [17,I 1] <|
 .go 0 [27,28]) (
 .ite 26 (
 Qi 111 [16,I 9,I 3,20,21,I 1,.e,22,23] 1 <|
 .go 0 [27]) (
 .go 0 [16]))) (
 .loop [16,I 0] (
 Ql [20,I 3] <|
 .ite 21 (
 .loop [19,I 1] (
 Qm [23,0] <|
 .ite 24 (
 Qs [23,I 1] <|
 Q1 [4,25] <|
 .ite 27 (
 Qi 113 [0,1,2,23] 1 <|
 .join (
 Qa [23,I 1] <|
 .go 0 [29,30]) (
 .ite 28 (
 Qn [22] <|
 .loop [.e,I 0,22] (
 Ql [31,29] <|
 .ite 33 (
 Qb [22,31] <|
 Q (.scell 8 0) [22,31] <|
 Q (.scell 8 1) [22,31] <|
 Q (.scell 8 2) [22,31] <|
 Q (.scell 8 3) [22,31] <|
 Q (.scell 8 4) [22,31] <|
 Q (.dig 8 5) [22,31] <|
 Q (.scell 8 6) [22,31] <|
 Q (.scell 8 7) [22,31] <|
 Q (.tk1) [32,31] <|
 Qu [36,I 2] <|
 .ite 44 (
 .join (
 Qa [31,I 1] <|
 .go 0 [45,46,43]) (
 Q (.lit 8 [true,true,true,true,true,false,true,true]) [35,36,37,38,39,40,41,42] <|
 Qy [30,45] <|
 .go 0 [46])) (
 Qu [37,23] <|
 .join (
 Qa [31,I 1] <|
 .go 0 [46,47,43]) (
 .ite 45 (
 Q (.lit 8 [true,true,true,true,true,false,true,true]) [35,36,37,38,39,40,41,42] <|
 Qy [30,46] <|
 .go 0 [47]) (
 .go 0 [30])))) (
 Qi 110 [0,1,2,23] 1 <|
 Qn [34] <|
 .loop [30,I 0] (
 Ql [37,35] <|
 .ite 38 (
 Qq [34,37] <|
 Qi 59 [22,34,23,40] 1 <|
 Qn [41] <|
 .loop [36,I 0,41] (
 Ql [44,42] <|
 .ite 46 (
 Q8 [45,44] <|
 Qi 111 [43,48,49,50,51,I 1,53,54,55] 1 <|
 Qa [44,I 1] <|
 .go 0 [56,57,45]) (
 Qa [37,I 1] <|
 .go 1 [43,47]))) (
 .go 2 [36]))))) (
 .go 0 [22]))) (
 .join (
 Qa [23,I 1] <|
 .go 0 [28,29]) (
 .go 0 [22]))) (
 Qa [20,I 1] <|
 .go 1 [22,25]))) (
 Qz [.k (.bool true)] <|
 .ret [19,22])))))))))
def F_i_Ideal:Sem1:=Fs p_i_Ideal [(59,F_i_Beyond),(109,F_i_NetOk),(110,F_i_AreasOf),(111,F_i_put),(112,F_i_nearUp),(113,F_i_Border)]
def p_eqNear:PL :=
 .ins (.pr (.bin .neq) [.a 0,.a 2]) <|
 .ite 4 (
  .ins (.pr (.scl) [.k (.bool false)]) <|
  .ret [.a 5]) (
  .ins (.pr (.bin .neq) [.a 1,.a 3]) <|
  .ite 5 (
  .ins (.pr (.scl) [.k (.bool false)]) <|
  .ret [.a 6]) (
  .ins (.pr (.scl) [.k (.bool true)]) <|
  .ret [.a 6]))
def S_eqNear:Nat→Sem1:=pick []
def F_eqNear:Sem1:=fun ts=>p_eqNear.den S_eqNear rounds [] ts
def p_eqNearS:PL :=
 .ins (.pr (.len) [.a 0]) <|
 .ins (.pr (.len) [.a 1]) <|
 .ins (.pr (.bin .neq) [.a 2,.a 3]) <|
 .ite 4 (
  .ins (.pr (.scl) [.k (.bool false)]) <|
  .ret [.a 5]) (
  .loop [.k (.bool false),.k (.int .i64 0)] (
  .ins (.pr (.len) [.a 0]) <|
  .ins (.pr (.bin .lss) [.a 6,.a 7]) <|
  .ite 8 (
   .ins (.pr (.bnd) [.a 0,.a 6]) <|
   .ins (.pr (.cell 2 0) [.a 0,.a 6]) <|
   .ins (.pr (.cell 2 1) [.a 0,.a 6]) <|
   .ins (.pr (.bnd) [.a 1,.a 6]) <|
   .ins (.pr (.cell 2 0) [.a 1,.a 6]) <|
   .ins (.pr (.cell 2 1) [.a 1,.a 6]) <|
   .ins (.cl 198 [.a 10,.a 11,.a 13,.a 14] 1) <|
   .ins (.pr (.un .not) [.a 15]) <|
   .ite 16 (
   .ins (.pr (.scl) [.k (.bool false)]) <|
   .ret [.a 17]) (
   .ins (.pr (.bin .add) [.a 6,.k (.int .i64 1)]) <|
   .go 0 [.a 5,.a 17])) (
   .ins (.pr (.scl) [.k (.bool true)]) <|
   .ret [.a 9])))
def S_eqNearS:Nat→Sem1:=pick [(198,F_eqNear)]
def F_eqNearS:Sem1:=fun ts=>p_eqNearS.den S_eqNearS rounds [] ts
def p_eqRecord:PL :=
 .ins (.pr (.bin .neq) [.a 0,.a 8]) <|
 .ite 16 (
  .ins (.pr (.scl) [.k (.bool false)]) <|
  .ret [.a 17]) (
  .ins (.pr (.bin .neq) [.a 1,.a 9]) <|
  .ite 17 (
  .ins (.pr (.scl) [.k (.bool false)]) <|
  .ret [.a 18]) (
  .ins (.pr (.bin .neq) [.a 2,.a 10]) <|
  .ite 18 (
   .ins (.pr (.scl) [.k (.bool false)]) <|
   .ret [.a 19]) (
   .ins (.pr (.bin .neq) [.a 3,.a 11]) <|
   .ite 19 (
   .ins (.pr (.scl) [.k (.bool false)]) <|
   .ret [.a 20]) (
   .ins (.pr (.bin .neq) [.a 4,.a 12]) <|
   .ite 20 (
    .ins (.pr (.scl) [.k (.bool false)]) <|
    .ret [.a 21]) (
    .ins (.cl 167 [.a 5,.a 13] 1) <|
    .ins (.pr (.un .not) [.a 21]) <|
    .ite 22 (
    .ins (.pr (.scl) [.k (.bool false)]) <|
    .ret [.a 23]) (
    .ins (.pr (.bin .neq) [.a 6,.a 14]) <|
    .ite 23 (
     .ins (.pr (.scl) [.k (.bool false)]) <|
     .ret [.a 24]) (
     .ins (.pr (.bb .neq) [.a 7,.a 15]) <|
     .ite 24 (
     .ins (.pr (.scl) [.k (.bool false)]) <|
     .ret [.a 25]) (
     .ins (.pr (.scl) [.k (.bool true)]) <|
     .ret [.a 25]))))))))
def S_eqRecord:Nat→Sem1:=pick [(167,F_eqNearS)]
def F_eqRecord:Sem1:=fun ts=>p_eqRecord.den S_eqRecord rounds [] ts
def p_eqRecordS:PL :=
 .ins (.pr (.len) [.a 0]) <|
 .ins (.pr (.len) [.a 1]) <|
 .ins (.pr (.bin .neq) [.a 2,.a 3]) <|
 .ite 4 (
  .ins (.pr (.scl) [.k (.bool false)]) <|
  .ret [.a 5]) (
  .loop [.k (.bool false),.k (.int .i64 0)] (
  .ins (.pr (.len) [.a 0]) <|
  .ins (.pr (.bin .lss) [.a 6,.a 7]) <|
  .ite 8 (
   .ins (.pr (.bnd) [.a 0,.a 6]) <|
   .ins (.pr (.cell 8 0) [.a 0,.a 6]) <|
   .ins (.pr (.cell 8 1) [.a 0,.a 6]) <|
   .ins (.pr (.cell 8 2) [.a 0,.a 6]) <|
   .ins (.pr (.cell 8 3) [.a 0,.a 6]) <|
   .ins (.pr (.cell 8 4) [.a 0,.a 6]) <|
   .ins (.pr (.cell 8 5) [.a 0,.a 6]) <|
   .ins (.pr (.cell 8 6) [.a 0,.a 6]) <|
   .ins (.pr (.cell 8 7) [.a 0,.a 6]) <|
   .ins (.pr (.bnd) [.a 1,.a 6]) <|
   .ins (.pr (.cell 8 0) [.a 1,.a 6]) <|
   .ins (.pr (.cell 8 1) [.a 1,.a 6]) <|
   .ins (.pr (.cell 8 2) [.a 1,.a 6]) <|
   .ins (.pr (.cell 8 3) [.a 1,.a 6]) <|
   .ins (.pr (.cell 8 4) [.a 1,.a 6]) <|
   .ins (.pr (.cell 8 5) [.a 1,.a 6]) <|
   .ins (.pr (.cell 8 6) [.a 1,.a 6]) <|
   .ins (.pr (.cell 8 7) [.a 1,.a 6]) <|
   .ins (.cl 94 [.a 10,.a 11,.a 12,.a 13,.a 14,.a 15,.a 16,.a 17,.a 19,.a 20,.a 21,.a 22,.a 23,.a 24,.a 25,.a 26] 1) <|
   .ins (.pr (.un .not) [.a 27]) <|
   .ite 28 (
   .ins (.pr (.scl) [.k (.bool false)]) <|
   .ret [.a 29]) (
   .ins (.pr (.bin .add) [.a 6,.k (.int .i64 1)]) <|
   .go 0 [.a 5,.a 29])) (
   .ins (.pr (.scl) [.k (.bool true)]) <|
   .ret [.a 9])))
def S_eqRecordS:Nat→Sem1:=pick [(94,F_eqRecord)]
def F_eqRecordS:Sem1:=fun ts=>p_eqRecordS.den S_eqRecordS rounds [] ts
def p_eqLink:PL :=
 .ins (.pr (.bin .neq) [.a 0,.a 4]) <|
 .ite 8 (
  .ins (.pr (.scl) [.k (.bool false)]) <|
  .ret [.a 9]) (
  .ins (.pr (.bin .neq) [.a 1,.a 5]) <|
  .ite 9 (
  .ins (.pr (.scl) [.k (.bool false)]) <|
  .ret [.a 10]) (
  .ins (.pr (.bin .neq) [.a 2,.a 6]) <|
  .ite 10 (
   .ins (.pr (.scl) [.k (.bool false)]) <|
   .ret [.a 11]) (
   .ins (.pr (.bin .neq) [.a 3,.a 7]) <|
   .ite 11 (
   .ins (.pr (.scl) [.k (.bool false)]) <|
   .ret [.a 12]) (
   .ins (.pr (.scl) [.k (.bool true)]) <|
   .ret [.a 12]))))
def S_eqLink:Nat→Sem1:=pick []
def F_eqLink:Sem1:=fun ts=>p_eqLink.den S_eqLink rounds [] ts
def p_eqLinkS:PL :=
 .ins (.pr (.len) [.a 0]) <|
 .ins (.pr (.len) [.a 1]) <|
 .ins (.pr (.bin .neq) [.a 2,.a 3]) <|
 .ite 4 (
  .ins (.pr (.scl) [.k (.bool false)]) <|
  .ret [.a 5]) (
  .loop [.k (.bool false),.k (.int .i64 0)] (
  .ins (.pr (.len) [.a 0]) <|
  .ins (.pr (.bin .lss) [.a 6,.a 7]) <|
  .ite 8 (
   .ins (.pr (.bnd) [.a 0,.a 6]) <|
   .ins (.pr (.cell 4 0) [.a 0,.a 6]) <|
   .ins (.pr (.cell 4 1) [.a 0,.a 6]) <|
   .ins (.pr (.cell 4 2) [.a 0,.a 6]) <|
   .ins (.pr (.cell 4 3) [.a 0,.a 6]) <|
   .ins (.pr (.bnd) [.a 1,.a 6]) <|
   .ins (.pr (.cell 4 0) [.a 1,.a 6]) <|
   .ins (.pr (.cell 4 1) [.a 1,.a 6]) <|
   .ins (.pr (.cell 4 2) [.a 1,.a 6]) <|
   .ins (.pr (.cell 4 3) [.a 1,.a 6]) <|
   .ins (.cl 183 [.a 10,.a 11,.a 12,.a 13,.a 15,.a 16,.a 17,.a 18] 1) <|
   .ins (.pr (.un .not) [.a 19]) <|
   .ite 20 (
   .ins (.pr (.scl) [.k (.bool false)]) <|
   .ret [.a 21]) (
   .ins (.pr (.bin .add) [.a 6,.k (.int .i64 1)]) <|
   .go 0 [.a 5,.a 21])) (
   .ins (.pr (.scl) [.k (.bool true)]) <|
   .ret [.a 9])))
def S_eqLinkS:Nat→Sem1:=pick [(183,F_eqLink)]
def F_eqLinkS:Sem1:=fun ts=>p_eqLinkS.den S_eqLinkS rounds [] ts
def p_eqThing:PL :=
 .ins (.pr (.bin .neq) [.a 0,.a 4]) <|
 .ite 8 (
  .ins (.pr (.scl) [.k (.bool false)]) <|
  .ret [.a 9]) (
  .ins (.pr (.bin .neq) [.a 1,.a 5]) <|
  .ite 9 (
  .ins (.pr (.scl) [.k (.bool false)]) <|
  .ret [.a 10]) (
  .ins (.pr (.bin .neq) [.a 2,.a 6]) <|
  .ite 10 (
   .ins (.pr (.scl) [.k (.bool false)]) <|
   .ret [.a 11]) (
   .ins (.pr (.bb .neq) [.a 3,.a 7]) <|
   .ite 11 (
   .ins (.pr (.scl) [.k (.bool false)]) <|
   .ret [.a 12]) (
   .ins (.pr (.scl) [.k (.bool true)]) <|
   .ret [.a 12]))))
def S_eqThing:Nat→Sem1:=pick []
def F_eqThing:Sem1:=fun ts=>p_eqThing.den S_eqThing rounds [] ts
def p_eqThingS:PL :=
 .ins (.pr (.len) [.a 0]) <|
 .ins (.pr (.len) [.a 1]) <|
 .ins (.pr (.bin .neq) [.a 2,.a 3]) <|
 .ite 4 (
  .ins (.pr (.scl) [.k (.bool false)]) <|
  .ret [.a 5]) (
  .loop [.k (.bool false),.k (.int .i64 0)] (
  .ins (.pr (.len) [.a 0]) <|
  .ins (.pr (.bin .lss) [.a 6,.a 7]) <|
  .ite 8 (
   .ins (.pr (.bnd) [.a 0,.a 6]) <|
   .ins (.pr (.cell 4 0) [.a 0,.a 6]) <|
   .ins (.pr (.cell 4 1) [.a 0,.a 6]) <|
   .ins (.pr (.cell 4 2) [.a 0,.a 6]) <|
   .ins (.pr (.cell 4 3) [.a 0,.a 6]) <|
   .ins (.pr (.bnd) [.a 1,.a 6]) <|
   .ins (.pr (.cell 4 0) [.a 1,.a 6]) <|
   .ins (.pr (.cell 4 1) [.a 1,.a 6]) <|
   .ins (.pr (.cell 4 2) [.a 1,.a 6]) <|
   .ins (.pr (.cell 4 3) [.a 1,.a 6]) <|
   .ins (.cl 184 [.a 10,.a 11,.a 12,.a 13,.a 15,.a 16,.a 17,.a 18] 1) <|
   .ins (.pr (.un .not) [.a 19]) <|
   .ite 20 (
   .ins (.pr (.scl) [.k (.bool false)]) <|
   .ret [.a 21]) (
   .ins (.pr (.bin .add) [.a 6,.k (.int .i64 1)]) <|
   .go 0 [.a 5,.a 21])) (
   .ins (.pr (.scl) [.k (.bool true)]) <|
   .ret [.a 9])))
def S_eqThingS:Nat→Sem1:=pick [(184,F_eqThing)]
def F_eqThingS:Sem1:=fun ts=>p_eqThingS.den S_eqThingS rounds [] ts
def p_eqNet:PL :=
 .ins (.pr (.bin .neq) [.a 0,.a 3]) <|
 .ite 6 (
  .ins (.pr (.scl) [.k (.bool false)]) <|
  .ret [.a 7]) (
  .ins (.cl 115 [.a 1,.a 4] 1) <|
  .ins (.pr (.un .not) [.a 7]) <|
  .ite 8 (
  .ins (.pr (.scl) [.k (.bool false)]) <|
  .ret [.a 9]) (
  .ins (.cl 116 [.a 2,.a 5] 1) <|
  .ins (.pr (.un .not) [.a 9]) <|
  .ite 10 (
   .ins (.pr (.scl) [.k (.bool false)]) <|
   .ret [.a 11]) (
   .ins (.pr (.scl) [.k (.bool true)]) <|
   .ret [.a 11])))
def S_eqNet:Nat→Sem1:=pick [(115,F_eqLinkS),(116,F_eqThingS)]
def F_eqNet:Sem1:=fun ts=>p_eqNet.den S_eqNet rounds [] ts
def p_eqBoolS:PL :=
 .ins (.pr (.len) [.a 0]) <|
 .ins (.pr (.len) [.a 1]) <|
 .ins (.pr (.bin .neq) [.a 2,.a 3]) <|
 .ite 4 (
  .ins (.pr (.scl) [.k (.bool false)]) <|
  .ret [.a 5]) (
  .loop [.k (.bool false),.k (.int .i64 0)] (
  .ins (.pr (.len) [.a 0]) <|
  .ins (.pr (.bin .lss) [.a 6,.a 7]) <|
  .ite 8 (
   .ins (.pr (.bnd) [.a 0,.a 6]) <|
   .ins (.pr (.cell 1 0) [.a 0,.a 6]) <|
   .ins (.pr (.bnd) [.a 1,.a 6]) <|
   .ins (.pr (.cell 1 0) [.a 1,.a 6]) <|
   .ins (.pr (.bb .neq) [.a 10,.a 12]) <|
   .ite 13 (
   .ins (.pr (.scl) [.k (.bool false)]) <|
   .ret [.a 14]) (
   .ins (.pr (.bin .add) [.a 6,.k (.int .i64 1)]) <|
   .go 0 [.a 5,.a 14])) (
   .ins (.pr (.scl) [.k (.bool true)]) <|
   .ret [.a 9])))
def S_eqBoolS:Nat→Sem1:=pick []
def F_eqBoolS:Sem1:=fun ts=>p_eqBoolS.den S_eqBoolS rounds [] ts
def p_heldNearS:PL :=
 .loop [.a 1,.k (.int .i64 0),.k (.int .i64 0)] (
  .ins (.pr (.len) [.a 0]) <|
  .ins (.pr (.bin .lss) [.a 4,.a 5]) <|
  .ite 6 (
  .ins (.pr (.bnd) [.a 0,.a 4]) <|
  .ins (.pr (.cell 2 0) [.a 0,.a 4]) <|
  .ins (.pr (.bin .neq) [.a 8,.a 2]) <|
  .ite 9 (
   .ins (.pr (.scl) [.k (.int .i64 (-1))]) <|
   .ret [.a 10]) (
   .ins (.pr (.bin .add) [.a 2,.k (.int .i64 1)]) <|
   .ins (.pr (.bnd) [.a 0,.a 4]) <|
   .ins (.pr (.cell 2 1) [.a 0,.a 4]) <|
   .ins (.pr (.bin .neq) [.a 12,.a 10]) <|
   .ite 13 (
   .ins (.pr (.scl) [.k (.int .i64 (-1))]) <|
   .ret [.a 14]) (
   .ins (.pr (.bin .add) [.a 10,.k (.int .i64 1)]) <|
   .ins (.pr (.bin .add) [.a 4,.k (.int .i64 1)]) <|
   .go 0 [.a 14,.a 3,.a 15]))) (
  .ins (.pr (.scl) [.a 2]) <|
  .ret [.a 7]))
def S_heldNearS:Nat→Sem1:=pick []
def F_heldNearS:Sem1:=fun ts=>p_heldNearS.den S_heldNearS rounds [] ts
def p_heldRecordS:PL :=
 .loop [.a 1,.k (.int .i64 0),.k (.int .i64 0)] (
  .ins (.pr (.len) [.a 0]) <|
  .ins (.pr (.bin .lss) [.a 4,.a 5]) <|
  .ite 6 (
  .ins (.pr (.bnd) [.a 0,.a 4]) <|
  .ins (.pr (.cell 8 0) [.a 0,.a 4]) <|
  .ins (.pr (.bin .neq) [.a 8,.a 2]) <|
  .ite 9 (
   .ins (.pr (.scl) [.k (.int .i64 (-1))]) <|
   .ret [.a 10]) (
   .ins (.pr (.bin .add) [.a 2,.k (.int .i64 1)]) <|
   .ins (.pr (.bnd) [.a 0,.a 4]) <|
   .ins (.pr (.cell 8 1) [.a 0,.a 4]) <|
   .ins (.pr (.bin .neq) [.a 12,.a 10]) <|
   .ite 13 (
   .ins (.pr (.scl) [.k (.int .i64 (-1))]) <|
   .ret [.a 14]) (
   .ins (.pr (.bin .add) [.a 10,.k (.int .i64 1)]) <|
   .ins (.pr (.bnd) [.a 0,.a 4]) <|
   .ins (.pr (.cell 8 2) [.a 0,.a 4]) <|
   .ins (.pr (.bin .neq) [.a 16,.a 14]) <|
   .ite 17 (
    .ins (.pr (.scl) [.k (.int .i64 (-1))]) <|
    .ret [.a 18]) (
    .ins (.pr (.bin .add) [.a 14,.k (.int .i64 1)]) <|
    .ins (.pr (.bnd) [.a 0,.a 4]) <|
    .ins (.pr (.cell 8 3) [.a 0,.a 4]) <|
    .ins (.pr (.bin .neq) [.a 20,.a 18]) <|
    .ite 21 (
    .ins (.pr (.scl) [.k (.int .i64 (-1))]) <|
    .ret [.a 22]) (
    .ins (.pr (.bin .add) [.a 18,.k (.int .i64 1)]) <|
    .ins (.pr (.bnd) [.a 0,.a 4]) <|
    .ins (.pr (.cell 8 4) [.a 0,.a 4]) <|
    .ins (.pr (.bin .neq) [.a 24,.a 22]) <|
    .ite 25 (
     .ins (.pr (.scl) [.k (.int .i64 (-1))]) <|
     .ret [.a 26]) (
     .ins (.pr (.bin .add) [.a 22,.k (.int .i64 1)]) <|
     .ins (.pr (.bnd) [.a 0,.a 4]) <|
     .ins (.pr (.cell 8 5) [.a 0,.a 4]) <|
     .ins (.cl 119 [.a 28,.a 26] 1) <|
     .ins (.pr (.bin .lss) [.a 29,.k (.int .i64 0)]) <|
     .ite 30 (
     .ins (.pr (.scl) [.k (.int .i64 (-1))]) <|
     .ret [.a 31]) (
     .ins (.pr (.bnd) [.a 0,.a 4]) <|
     .ins (.pr (.cell 8 6) [.a 0,.a 4]) <|
     .ins (.pr (.bin .neq) [.a 32,.a 29]) <|
     .ite 33 (
      .ins (.pr (.scl) [.k (.int .i64 (-1))]) <|
      .ret [.a 34]) (
      .ins (.pr (.bin .add) [.a 29,.k (.int .i64 1)]) <|
      .ins (.pr (.bnd) [.a 0,.a 4]) <|
      .ins (.pr (.cell 8 7) [.a 0,.a 4]) <|
      .ins (.pr (.bin .rem) [.a 34,.k (.int .i64 3)]) <|
      .ins (.pr (.bin .eql) [.a 37,.k (.int .i64 0)]) <|
      .ins (.pr (.bb .neq) [.a 36,.a 38]) <|
      .ite 39 (
      .ins (.pr (.scl) [.k (.int .i64 (-1))]) <|
      .ret [.a 40]) (
      .ins (.pr (.bin .add) [.a 34,.k (.int .i64 1)]) <|
      .ins (.pr (.bin .add) [.a 4,.k (.int .i64 1)]) <|
      .go 0 [.a 40,.a 3,.a 41]))))))))) (
  .ins (.pr (.scl) [.a 2]) <|
  .ret [.a 7]))
def S_heldRecordS:Nat→Sem1:=pick [(119,F_heldNearS)]
def F_heldRecordS:Sem1:=fun ts=>p_heldRecordS.den S_heldRecordS rounds [] ts
def p_FnExactIdeal:PL :=
 .ins (.pr (.len) [.a 3]) <|
 .ins (.pr (.bin .gtr) [.a 5,.k (.int .i64 1048576)]) <|
 .ite 6 (
  .ins (.pr (.scl) [.k (.bool true)]) <|
  .ret [.a 7]) (
  .ins (.pr (.len) [.a 4]) <|
  .ins (.pr (.bin .gtr) [.a 7,.k (.int .i64 1048576)]) <|
  .ite 8 (
  .ins (.pr (.scl) [.k (.bool true)]) <|
  .ret [.a 9]) (
  .ins (.cl 31 [.a 0,.a 1,.a 2,.k (.int .i64 1048576)] 1) <|
  .ins (.pr (.bin .lss) [.a 9,.k (.int .i64 0)]) <|
  .ite 10 (
   .ins (.pr (.scl) [.k (.bool true)]) <|
   .ret [.a 11]) (
   .ins (.cl 33 [.a 0,.a 1,.a 2] 3) <|
   .ins (.cl 34 [.a 3] 1) <|
   .ins (.cl 34 [.a 4] 1) <|
   .ins (.cl 32 [.a 11,.a 12,.a 13,.a 14,.a 15] 2) <|
   .ins (.cl 33 [.a 0,.a 1,.a 2] 3) <|
   .ins (.cl 34 [.a 3] 1) <|
   .ins (.cl 34 [.a 4] 1) <|
   .ins (.cl 35 [.a 18,.a 19,.a 20,.a 21,.a 22] 2) <|
   .ins (.cl 20 [.a 23,.a 16] 1) <|
   .ins (.pr (.un .not) [.a 25]) <|
   .ite 26 (
   .ins (.pr (.scl) [.k (.bool false)]) <|
   .ret [.a 27]) (
   .ins (.pr (.bb .neq) [.a 24,.a 17]) <|
   .ite 27 (
    .ins (.pr (.scl) [.k (.bool false)]) <|
    .ret [.a 28]) (
    .ins (.cl 33 [.a 0,.a 1,.a 2] 3) <|
    .ins (.cl 36 [.a 18,.a 19,.a 20,.a 28,.a 29,.a 30] 1) <|
    .ins (.pr (.un .not) [.a 31]) <|
    .ite 32 (
    .ins (.pr (.scl) [.k (.bool false)]) <|
    .ret [.a 33]) (
    .ins (.cl 34 [.a 3] 1) <|
    .ins (.cl 37 [.a 21,.a 33] 1) <|
    .ins (.pr (.un .not) [.a 34]) <|
    .ite 35 (
     .ins (.pr (.scl) [.k (.bool false)]) <|
     .ret [.a 36]) (
     .ins (.cl 34 [.a 4] 1) <|
     .ins (.cl 37 [.a 22,.a 36] 1) <|
     .ins (.pr (.un .not) [.a 37]) <|
     .ite 38 (
     .ins (.pr (.scl) [.k (.bool false)]) <|
     .ret [.a 39]) (
     .loop [.k (.int .i64 1),.k (.int .i64 0),.a 19] (
      .ins (.pr (.len) [.a 41]) <|
      .ins (.pr (.bin .lss) [.a 40,.a 42]) <|
      .ite 43 (
      .ins (.pr (.bnd) [.a 41,.a 40]) <|
      .ins (.pr (.put true 4 0 1) [.a 41,.a 40,.a 39]) <|
      .ins (.pr (.bin .add) [.a 39,.k (.int .i64 1)]) <|
      .ins (.pr (.bnd) [.a 45,.a 40]) <|
      .ins (.pr (.put true 4 1 1) [.a 45,.a 40,.a 46]) <|
      .ins (.pr (.bin .add) [.a 46,.k (.int .i64 1)]) <|
      .ins (.pr (.bnd) [.a 48,.a 40]) <|
      .ins (.pr (.put true 4 2 1) [.a 48,.a 40,.a 49]) <|
      .ins (.pr (.bin .add) [.a 49,.k (.int .i64 1)]) <|
      .ins (.pr (.bnd) [.a 51,.a 40]) <|
      .ins (.pr (.put true 4 3 1) [.a 51,.a 40,.a 52]) <|
      .ins (.pr (.bin .add) [.a 52,.k (.int .i64 1)]) <|
      .ins (.pr (.bin .add) [.a 40,.k (.int .i64 1)]) <|
      .go 0 [.a 55,.a 56,.a 54]) (
      .loop [.a 39,.k (.int .i64 0),.a 20] (
       .ins (.pr (.len) [.a 46]) <|
       .ins (.pr (.bin .lss) [.a 45,.a 47]) <|
       .ite 48 (
       .ins (.pr (.bnd) [.a 46,.a 45]) <|
       .ins (.pr (.put true 4 0 1) [.a 46,.a 45,.a 44]) <|
       .ins (.pr (.bin .add) [.a 44,.k (.int .i64 1)]) <|
       .ins (.pr (.bnd) [.a 50,.a 45]) <|
       .ins (.pr (.put true 4 1 1) [.a 50,.a 45,.a 51]) <|
       .ins (.pr (.bin .add) [.a 51,.k (.int .i64 1)]) <|
       .ins (.pr (.bnd) [.a 53,.a 45]) <|
       .ins (.pr (.put true 4 2 1) [.a 53,.a 45,.a 54]) <|
       .ins (.pr (.bin .add) [.a 54,.k (.int .i64 1)]) <|
       .ins (.pr (.bin .rem) [.a 57,.k (.int .i64 3)]) <|
       .ins (.pr (.bin .eql) [.a 58,.k (.int .i64 0)]) <|
       .ins (.pr (.bnd) [.a 56,.a 45]) <|
       .ins (.pr (.put true 4 3 1) [.a 56,.a 45,.a 59]) <|
       .ins (.pr (.bin .add) [.a 57,.k (.int .i64 1)]) <|
       .ins (.pr (.bin .add) [.a 45,.k (.int .i64 1)]) <|
       .go 0 [.a 62,.a 63,.a 61]) (
       .loop [.a 44,.k (.int .i64 0),.a 21] (
        .ins (.pr (.len) [.a 51]) <|
        .ins (.pr (.bin .lss) [.a 50,.a 52]) <|
        .ite 53 (
        .ins (.pr (.bin .rem) [.a 49,.k (.int .i64 3)]) <|
        .ins (.pr (.bin .eql) [.a 54,.k (.int .i64 0)]) <|
        .ins (.pr (.bnd) [.a 51,.a 50]) <|
        .ins (.pr (.put true 1 0 1) [.a 51,.a 50,.a 55]) <|
        .ins (.pr (.bin .add) [.a 49,.k (.int .i64 1)]) <|
        .ins (.pr (.bin .add) [.a 50,.k (.int .i64 1)]) <|
        .go 0 [.a 58,.a 59,.a 57]) (
        .loop [.a 49,.k (.int .i64 0),.a 22] (
         .ins (.pr (.len) [.a 56]) <|
         .ins (.pr (.bin .lss) [.a 55,.a 57]) <|
         .ite 58 (
         .ins (.pr (.bin .rem) [.a 54,.k (.int .i64 3)]) <|
         .ins (.pr (.bin .eql) [.a 59,.k (.int .i64 0)]) <|
         .ins (.pr (.bnd) [.a 56,.a 55]) <|
         .ins (.pr (.put true 1 0 1) [.a 56,.a 55,.a 60]) <|
         .ins (.pr (.bin .add) [.a 54,.k (.int .i64 1)]) <|
         .ins (.pr (.bin .add) [.a 55,.k (.int .i64 1)]) <|
         .go 0 [.a 63,.a 64,.a 62]) (
         .ins (.pr (.bin .lss) [.a 54,.k (.int .i64 0)]) <|
         .ite 59 (
          .ins (.pr (.scl) [.k (.bool false)]) <|
          .ret [.a 60]) (
          .ins (.cl 20 [.a 23,.a 16] 1) <|
          .ins (.pr (.un .not) [.a 60]) <|
          .ite 61 (
          .ins (.pr (.scl) [.k (.bool false)]) <|
          .ret [.a 62]) (
          .ins (.pr (.bb .neq) [.a 24,.a 17]) <|
          .ite 62 (
           .ins (.pr (.scl) [.k (.bool false)]) <|
           .ret [.a 63]) (
           .loop [.k (.int .i64 1),.k (.int .i64 0),.a 23] (
           .ins (.pr (.len) [.a 65]) <|
           .ins (.pr (.bin .lss) [.a 64,.a 66]) <|
           .ite 67 (
            .ins (.pr (.bnd) [.a 65,.a 64]) <|
            .ins (.pr (.put true 8 0 1) [.a 65,.a 64,.a 63]) <|
            .ins (.pr (.bin .add) [.a 63,.k (.int .i64 1)]) <|
            .ins (.pr (.bnd) [.a 69,.a 64]) <|
            .ins (.pr (.put true 8 1 1) [.a 69,.a 64,.a 70]) <|
            .ins (.pr (.bin .add) [.a 70,.k (.int .i64 1)]) <|
            .ins (.pr (.bnd) [.a 72,.a 64]) <|
            .ins (.pr (.put true 8 2 1) [.a 72,.a 64,.a 73]) <|
            .ins (.pr (.bin .add) [.a 73,.k (.int .i64 1)]) <|
            .ins (.pr (.bnd) [.a 75,.a 64]) <|
            .ins (.pr (.put true 8 3 1) [.a 75,.a 64,.a 76]) <|
            .ins (.pr (.bin .add) [.a 76,.k (.int .i64 1)]) <|
            .ins (.pr (.bnd) [.a 78,.a 64]) <|
            .ins (.pr (.put true 8 4 1) [.a 78,.a 64,.a 79]) <|
            .ins (.pr (.bin .add) [.a 79,.k (.int .i64 1)]) <|
            .ins (.pr (.bnd) [.a 81,.a 64]) <|
            .ins (.pr (.dig 8 5) [.a 81,.a 64]) <|
            .loop [.a 82,.k (.int .i64 0),.a 81] (
            .ins (.pr (.dig 8 5) [.a 87,.a 64]) <|
            .ins (.pr (.len) [.a 88]) <|
            .ins (.pr (.bin .lss) [.a 86,.a 89]) <|
            .ite 90 (
             .ins (.pr (.dig 8 5) [.a 87,.a 64]) <|
             .ins (.pr (.bnd) [.a 91,.a 86]) <|
             .ins (.pr (.dig 8 5) [.a 87,.a 64]) <|
             .ins (.pr (.put true 2 0 1) [.a 93,.a 86,.a 85]) <|
             .ins (.pr (.dig 8 5) [.a 87,.a 64]) <|
             .ins (.pr (.bury 8 5) [.a 87,.a 64,.a 94]) <|
             .ins (.pr (.bin .add) [.a 85,.k (.int .i64 1)]) <|
             .ins (.pr (.dig 8 5) [.a 96,.a 64]) <|
             .ins (.pr (.bnd) [.a 98,.a 86]) <|
             .ins (.pr (.dig 8 5) [.a 96,.a 64]) <|
             .ins (.pr (.put true 2 1 1) [.a 100,.a 86,.a 97]) <|
             .ins (.pr (.dig 8 5) [.a 96,.a 64]) <|
             .ins (.pr (.bury 8 5) [.a 96,.a 64,.a 101]) <|
             .ins (.pr (.bin .add) [.a 97,.k (.int .i64 1)]) <|
             .ins (.pr (.bin .add) [.a 86,.k (.int .i64 1)]) <|
             .go 0 [.a 104,.a 105,.a 103]) (
             .ins (.pr (.bnd) [.a 87,.a 64]) <|
             .ins (.pr (.put true 8 6 1) [.a 87,.a 64,.a 85]) <|
             .ins (.pr (.bin .add) [.a 85,.k (.int .i64 1)]) <|
             .ins (.pr (.bin .rem) [.a 93,.k (.int .i64 3)]) <|
             .ins (.pr (.bin .eql) [.a 94,.k (.int .i64 0)]) <|
             .ins (.pr (.bnd) [.a 92,.a 64]) <|
             .ins (.pr (.put true 8 7 1) [.a 92,.a 64,.a 95]) <|
             .ins (.pr (.bin .add) [.a 93,.k (.int .i64 1)]) <|
             .ins (.pr (.bin .add) [.a 64,.k (.int .i64 1)]) <|
             .go 1 [.a 98,.a 99,.a 97]))) (
            .ins (.cl 40 [.a 65,.k (.int .i64 1)] 1) <|
            .ins (.pr (.bin .lss) [.a 68,.k (.int .i64 0)]) <|
            .ite 69 (
            .ins (.pr (.scl) [.k (.bool false)]) <|
            .ret [.a 70]) (
            .ins (.pr (.bin .neq) [.a 68,.a 63]) <|
            .ite 70 (
             .ins (.pr (.scl) [.k (.bool false)]) <|
             .ret [.a 71]) (
             .ins (.cl 33 [.a 0,.a 1,.a 2] 3) <|
             .ins (.cl 34 [.a 3] 1) <|
             .ins (.cl 34 [.a 4] 1) <|
             .ins (.cl 35 [.a 71,.a 72,.a 73,.a 74,.a 75] 2) <|
             .ins (.cl 20 [.a 76,.a 16] 1) <|
             .ins (.pr (.un .not) [.a 78]) <|
             .ite 79 (
             .ins (.pr (.scl) [.k (.bool false)]) <|
             .ret [.a 80]) (
             .ins (.pr (.bb .neq) [.a 77,.a 17]) <|
             .ite 80 (
              .ins (.pr (.scl) [.k (.bool false)]) <|
              .ret [.a 81]) (
              .ins (.cl 40 [.a 65,.k (.int .i64 1)] 1) <|
              .ins (.pr (.bin .lss) [.a 81,.k (.int .i64 0)]) <|
              .ite 82 (
              .ins (.pr (.scl) [.k (.bool false)]) <|
              .ret [.a 83]) (
              .ins (.pr (.bin .neq) [.a 81,.a 63]) <|
              .ite 83 (
               .ins (.pr (.scl) [.k (.bool false)]) <|
               .ret [.a 84]) (
               .ins (.pr (.scl) [.k (.bool true)]) <|
               .ret [.a 84])))))))))))))))))))))))))))
def S_FnExactIdeal:Nat→Sem1:=pick [(20,F_eqRecordS),(31,F_szNet),(32,F_s_Ideal),(33,F_toNet),(34,F_toBoolS),(35,F_i_Ideal),(36,F_eqNet),(37,F_eqBoolS),(40,F_heldRecordS)]
def F_FnExactIdeal:Sem1:=fun ts=>p_FnExactIdeal.den S_FnExactIdeal rounds [] ts
end Go.Proofs.YtlofiplkmgmnfaaC
