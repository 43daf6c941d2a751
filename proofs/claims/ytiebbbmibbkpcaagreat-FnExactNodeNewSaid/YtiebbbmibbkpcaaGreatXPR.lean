/- The plain programs of the functions that are walked (printed by a program). Conditions: none. -/
import Derived.Test.YtiebbbmibbkpcaaGreatKe
namespace Go.Proofs.YtiebbbmibbkpcaaGreatC
def p_szLinkS:PL :=
 .ins (.pr (.len) [.a 0]) <|
 .ins (.pr (.bin .sub) [.a 1,.a 2]) <|
 .ins (.pr (.bin .lss) [.a 3,.k (.int .i64 0)]) <|
 .ite 4 (
  .ins (.pr (.scl) [.k (.int .i64 (-1))]) <|
  .ret [.a 5]) (
  .ins (.pr (.scl) [.a 3]) <|
  .ret [.a 5])
def asg_:Nat→Sem1:=pick []
def adn_:Sem1:=fun ts=>p_szLinkS.den asg_ rounds [] ts
def p_szThingS:PL :=
 .ins (.pr (.len) [.a 0]) <|
 .ins (.pr (.bin .sub) [.a 1,.a 2]) <|
 .ins (.pr (.bin .lss) [.a 3,.k (.int .i64 0)]) <|
 .ite 4 (
  .ins (.pr (.scl) [.k (.int .i64 (-1))]) <|
  .ret [.a 5]) (
  .ins (.pr (.scl) [.a 3]) <|
  .ret [.a 5])
def aos_:Nat→Sem1:=pick []
def abc_:Sem1:=fun ts=>p_szThingS.den aos_ rounds [] ts
def p_szNet:PL :=
 .ins (.cl 72 [.a 1,.a 3] 1) <|
 .ins (.pr (.bin .lss) [.a 4,.k (.int .i64 0)]) <|
 .ite 5 (
  .ins (.pr (.scl) [.k (.int .i64 (-1))]) <|
  .ret [.a 6]) (
  .ins (.cl 73 [.a 2,.a 4] 1) <|
  .ins (.pr (.bin .lss) [.a 6,.k (.int .i64 0)]) <|
  .ite 7 (
  .ins (.pr (.scl) [.k (.int .i64 (-1))]) <|
  .ret [.a 8]) (
  .ins (.pr (.scl) [.a 6]) <|
  .ret [.a 8]))
def aq2_:Nat→Sem1:=pick [(72,adn_),(73,abc_)]
def kM_:Sem1:=fun ts=>p_szNet.den aq2_ rounds [] ts
def p_toLink:PL :=
 .ins (.pr (.scl) [.a 3]) <|
 .ins (.pr (.scl) [.a 2]) <|
 .ins (.pr (.scl) [.a 1]) <|
 .ins (.pr (.scl) [.a 0]) <|
 .ret [.a 7,.a 6,.a 5,.a 4]
def aOm_:Nat→Sem1:=pick []
def ah5_:Sem1:=fun ts=>p_toLink.den aOm_ rounds [] ts
def p_toLinkS:PL :=
 .ins (.pr (.len) [.a 0]) <|
 .ins (.pr (.mk) [.a 1,.a 1,.k (.int .i64 0),.k (.int .i64 0),.k (.int .i64 0),.k (.int .i64 0)]) <|
 .loop [.k (.int .i64 0),.a 2] (
  .ins (.pr (.len) [.a 0]) <|
  .ins (.pr (.bin .lss) [.a 3,.a 5]) <|
  .ite 6 (
  .ins (.pr (.bnd) [.a 0,.a 3]) <|
  .ins (.pr (.cell 4 0) [.a 0,.a 3]) <|
  .ins (.pr (.cell 4 1) [.a 0,.a 3]) <|
  .ins (.pr (.cell 4 2) [.a 0,.a 3]) <|
  .ins (.pr (.cell 4 3) [.a 0,.a 3]) <|
  .ins (.cl 179 [.a 8,.a 9,.a 10,.a 11] 4) <|
  .ins (.pr (.bnd) [.a 4,.a 3]) <|
  .ins (.pr (.put true 4 0 4) [.a 4,.a 3,.a 12,.a 13,.a 14,.a 15]) <|
  .ins (.pr (.bin .add) [.a 3,.k (.int .i64 1)]) <|
  .go 0 [.a 18,.a 17]) (
  .ret [.a 4]))
def arv_:Nat→Sem1:=pick [(179,ah5_)]
def ad9_:Sem1:=fun ts=>p_toLinkS.den arv_ rounds [] ts
def p_toThing:PL :=
 .ins (.pr (.scl) [.a 3]) <|
 .ins (.pr (.scl) [.a 2]) <|
 .ins (.pr (.scl) [.a 1]) <|
 .ins (.pr (.scl) [.a 0]) <|
 .ret [.a 7,.a 6,.a 5,.a 4]
def aKz_:Nat→Sem1:=pick []
def adm_:Sem1:=fun ts=>p_toThing.den aKz_ rounds [] ts
def p_toThingS:PL :=
 .ins (.pr (.len) [.a 0]) <|
 .ins (.pr (.mk) [.a 1,.a 1,.k (.int .i64 0),.k (.int .i64 0),.k (.int .i64 0),.k (.bool false)]) <|
 .loop [.k (.int .i64 0),.a 2] (
  .ins (.pr (.len) [.a 0]) <|
  .ins (.pr (.bin .lss) [.a 3,.a 5]) <|
  .ite 6 (
  .ins (.pr (.bnd) [.a 0,.a 3]) <|
  .ins (.pr (.cell 4 0) [.a 0,.a 3]) <|
  .ins (.pr (.cell 4 1) [.a 0,.a 3]) <|
  .ins (.pr (.cell 4 2) [.a 0,.a 3]) <|
  .ins (.pr (.cell 4 3) [.a 0,.a 3]) <|
  .ins (.cl 180 [.a 8,.a 9,.a 10,.a 11] 4) <|
  .ins (.pr (.bnd) [.a 4,.a 3]) <|
  .ins (.pr (.put true 4 0 4) [.a 4,.a 3,.a 12,.a 13,.a 14,.a 15]) <|
  .ins (.pr (.bin .add) [.a 3,.k (.int .i64 1)]) <|
  .go 0 [.a 18,.a 17]) (
  .ret [.a 4]))
def aof_:Nat→Sem1:=pick [(180,adm_)]
def abd_:Sem1:=fun ts=>p_toThingS.den aof_ rounds [] ts
def p_toNet:PL :=
 .ins (.cl 79 [.a 1] 1) <|
 .ins (.cl 80 [.a 2] 1) <|
 .ins (.pr (.scl) [.a 0]) <|
 .ret [.a 5,.a 3,.a 4]
def aq0_:Nat→Sem1:=pick [(79,ad9_),(80,abd_)]
def age_:Sem1:=fun ts=>p_toNet.den aq0_ rounds [] ts
def p_s_l01In:PL :=
 Qh [0,1] <|
 .ite 3 (
 Qm [0,2] <|
 Qz [4] <|
 .ret [5]) (
 Qz [.k (.bool false)] <|
 .ret [4])
def z6_:Sem1:=Fs p_s_l01In []
def p_s_LinkOk:PL :=
 Qi 75 [0,I 1,I 6] 1 <|
 .ite 5 (
 Qi 75 [1,I 1,0] 1 <|
 .ite 6 (
 Qi 75 [2,I 1,0] 1 <|
 .ite 7 (
 Ql [1,2] <|
 .ite 8 (
 Qi 75 [3,I 1,I 1000] 1 <|
 .ite 9 (
 Qi 75 [4,I 0,I 2] 1 <|
 Qz [10] <|
 .ret [11]) (
 Qz [.k (.bool false)] <|
 .ret [10])) (
 Qz [.k (.bool false)] <|
 .ret [9])) (
 Qz [.k (.bool false)] <|
 .ret [8])) (
 Qz [.k (.bool false)] <|
 .ret [7])) (
 Qz [.k (.bool false)] <|
 .ret [6])
def qV_:Sem1:=Fs p_s_LinkOk [(75,z6_)]
def p_s_l03Ahead:PL :=
 Ql [0,4] <|
 .ite 8 (
 Qz [.k (.bool true)] <|
 .ret [9]) (
 Qe [0,4] <|
 .ite 9 (
 Ql [1,5] <|
 .ite 10 (
 Qz [.k (.bool true)] <|
 .ret [11]) (
 Qe [1,5] <|
 .ite 11 (
 Ql [3,7] <|
 Qz [12] <|
 .ret [13]) (
 Qz [.k (.bool false)] <|
 .ret [12]))) (
 Qz [.k (.bool false)] <|
 .ret [10]))
def ue_:Sem1:=Fs p_s_l03Ahead []
def p_s_l03Thing:PL :=
 Ql [1,5] <|
 .ite 8 (
 Qz [.k (.bool true)] <|
 .ret [9]) (
 Qe [1,5] <|
 .ite 9 (
 Ql [0,4] <|
 Qz [10] <|
 .ret [11]) (
 Qz [.k (.bool false)] <|
 .ret [10]))
def ut_:Sem1:=Fs p_s_l03Thing []
def p_s_NetOk:PL :=
 Qi 75 [0,I 1,I 6] 1 <|
 Qt [3] <|
 .ite 4 (
 Qz [.k (.bool false)] <|
 .ret [5]) (
 Qn [1] <|
 Qg [5,I 12] <|
 .ite 6 (
 Qz [.k (.bool false)] <|
 .ret [7]) (
 Qn [2] <|
 Qg [7,I 4] <|
 .ite 8 (
 Qz [.k (.bool false)] <|
 .ret [9]) (
 .loop [.k (.bool false),I 0] (
 Qn [1] <|
 Ql [10,11] <|
 .ite 12 (
 Q4 [1,10] <|
 Qi 215 [0,14,15,16,17] 1 <|
 Qt [18] <|
 .ite 19 (
 Qz [.k (.bool false)] <|
 .ret [20]) (
 Qg [10,I 0] <|
 .ite 20 (
 Qs [10,I 1] <|
 Q4 [1,21] <|
 Q4 [1,10] <|
 Qi 216 [23,24,25,26,28,29,30,31] 1 <|
 Qt [32] <|
 .ite 33 (
 Qz [.k (.bool false)] <|
 .ret [34]) (
 Qa [10,I 1] <|
 .go 0 [9,34])) (
 Qa [10,I 1] <|
 .go 0 [9,21]))) (
 .loop [9,I 0] (
 Qn [2] <|
 Ql [14,15] <|
 .ite 16 (
 Q4 [2,14] <|
 Qi 75 [18,I 1,0] 1 <|
 Qt [22] <|
 .ite 23 (
 Qz [.k (.bool false)] <|
 .ret [24]) (
 Qi 75 [19,I 1,I 9] 1 <|
 Qt [24] <|
 .ite 25 (
 Qz [.k (.bool false)] <|
 .ret [26]) (
 Qi 75 [20,I 1,I 1000] 1 <|
 Qt [26] <|
 .ite 27 (
 Qz [.k (.bool false)] <|
 .ret [28]) (
 Qg [14,I 0] <|
 .ite 28 (
 Qs [14,I 1] <|
 Q4 [2,29] <|
 Qi 217 [31,32,33,34,18,19,20,21] 1 <|
 Qt [35] <|
 .ite 36 (
 Qz [.k (.bool false)] <|
 .ret [37]) (
 Qa [14,I 1] <|
 .go 0 [13,37])) (
 Qa [14,I 1] <|
 .go 0 [13,29]))))) (
 Qz [.k (.bool true)] <|
 .ret [17])))))))
def jT_:Sem1:=Fs p_s_NetOk [(75,z6_),(215,qV_),(216,ue_),(217,ut_)]
def p_s_CostTo:PL :=
 .loop [I 0,I 0] (
 Qn [1] <|
 Ql [7,8] <|
 .ite 9 (
 Q4 [1,7] <|
 Qe [14,5] <|
 .ite 15 (
 Qe [11,3] <|
 .ite 16 (
 Qe [12,4] <|
 .ite 17 (
 Qz [13] <|
 .ret [18]) (
 Qe [11,4] <|
 .ite 18 (
 Qe [12,3] <|
 .ite 19 (
 Qz [13] <|
 .ret [20]) (
 Qa [7,I 1] <|
 .go 0 [6,20])) (
 Qa [7,I 1] <|
 .go 0 [6,19]))) (
 Qe [11,4] <|
 .ite 17 (
 Qe [12,3] <|
 .ite 18 (
 Qz [13] <|
 .ret [19]) (
 Qa [7,I 1] <|
 .go 0 [6,19])) (
 Qa [7,I 1] <|
 .go 0 [6,18]))) (
 Qa [7,I 1] <|
 .go 0 [6,16])) (
 Qz [I 0] <|
 .ret [10]))
def yZ_:Sem1:=Fs p_s_CostTo []
def p_s_l08Heard:PL :=
 Qn [5] <|
 Q (.bin .rem) [7,I 2] <|
 Qe [8,I 1] <|
 .ite 9 (
 Qz [.k (.bool false)] <|
 .ret [10]) (
 Qn [5] <|
 Qg [10,I 60] <|
 .ite 11 (
 Qz [.k (.bool false)] <|
 .ret [12]) (
 .loop [.k (.bool false),I 0] (
 Qn [5] <|
 Ql [13,14] <|
 .ite 15 (
 Q1 [5,13] <|
 Qa [13,I 1] <|
 Q1 [5,18] <|
 Qi 122 [2,3,4,0,17,20] 1 <|
 Qe [21,I 0] <|
 .ite 22 (
 Qz [.k (.bool false)] <|
 .ret [23]) (
 Qg [13,I 0] <|
 .ite 23 (
 Qs [13,I 2] <|
 Q1 [5,24] <|
 Qg [26,17] <|
 .ite 27 (
 Qz [.k (.bool false)] <|
 .ret [28]) (
 Qs [13,I 2] <|
 Q1 [5,28] <|
 Qe [30,17] <|
 .ite 31 (
 Qs [13,I 1] <|
 Q1 [5,32] <|
 Qh [34,20] <|
 .ite 35 (
 Qz [.k (.bool false)] <|
 .ret [36]) (
 Qa [13,I 2] <|
 .go 0 [12,36])) (
 Qa [13,I 2] <|
 .go 0 [12,32]))) (
 Qa [13,I 2] <|
 .go 0 [12,24]))) (
 Qz [.k (.bool true)] <|
 .ret [16]))))
def un_:Sem1:=Fs p_s_l08Heard [(122,yZ_)]
def p_s_l04Near:PL :=
 .loop [.k (.bool false),I 0] (
 Qn [5] <|
 Ql [9,10] <|
 .ite 11 (
 Q2 [5,9] <|
 Qi 75 [13,I 1,I 6] 1 <|
 Qt [15] <|
 .ite 16 (
 Qz [.k (.bool false)] <|
 .ret [17]) (
 Qe [13,2] <|
 .ite 17 (
 Qz [.k (.bool false)] <|
 .ret [18]) (
 Qi 75 [14,I 1,I 1000] 1 <|
 Qt [18] <|
 .ite 19 (
 Qz [.k (.bool false)] <|
 .ret [20]) (
 Qg [9,I 0] <|
 .ite 20 (
 Qs [9,I 1] <|
 Qb [5,21] <|
 Qc 2 0 [5,21] <|
 Qh [23,13] <|
 .ite 24 (
 Qz [.k (.bool false)] <|
 .ret [25]) (
 Qa [9,I 1] <|
 .go 0 [8,25])) (
 Qa [9,I 1] <|
 .go 0 [8,21]))))) (
 Qz [.k (.bool true)] <|
 .ret [12]))
def u1_:Sem1:=Fs p_s_l04Near [(75,z6_)]
def p_s_RecordOk:PL :=
 Qi 75 [2,I 1,I 6] 1 <|
 Qt [8] <|
 .ite 9 (
 Qz [.k (.bool false)] <|
 .ret [10]) (
 Qi 75 [4,I 1,I 100000] 1 <|
 Qt [10] <|
 .ite 11 (
 Qz [.k (.bool false)] <|
 .ret [12]) (
 Qe [1,I 1] <|
 .ite 12 (
 Qi 75 [0,I 0,I 2] 1 <|
 .ite 13 (
 Qe [3,I 0] <|
 .ite 14 (
 Qi 286 [0,1,2,3,4,5,6,7] 1 <|
 .ite 15 (
 Qe [6,I 0] <|
 .ite 16 (
 Qt [7] <|
 Qz [17] <|
 .ret [18]) (
 Qz [.k (.bool false)] <|
 .ret [17])) (
 Qz [.k (.bool false)] <|
 .ret [16])) (
 Qz [.k (.bool false)] <|
 .ret [15])) (
 Qz [.k (.bool false)] <|
 .ret [14])) (
 Qe [1,I 2] <|
 .ite 13 (
 Qi 75 [0,I 0,I 2] 1 <|
 .ite 14 (
 Qi 75 [3,I 1,I 6] 1 <|
 .ite 15 (
 Qn [5] <|
 Qe [16,I 0] <|
 .ite 17 (
 Qi 75 [6,I 0,I 60000] 1 <|
 .ite 18 (
 Qt [7] <|
 Qz [19] <|
 .ret [20]) (
 Qz [.k (.bool false)] <|
 .ret [19])) (
 Qz [.k (.bool false)] <|
 .ret [18])) (
 Qz [.k (.bool false)] <|
 .ret [16])) (
 Qz [.k (.bool false)] <|
 .ret [15])) (
 Qe [1,I 3] <|
 .ite 14 (
 Qe [0,I 9] <|
 .ite 15 (
 Qi 75 [3,I 1,I 9] 1 <|
 .ite 16 (
 Qn [5] <|
 Qe [17,I 0] <|
 .ite 18 (
 Qi 75 [6,I 1,I 1000] 1 <|
 .ite 19 (
 Qz [.k (.bool true)] <|
 .ret [20]) (
 Qe [6,I 60000] <|
 Qz [20] <|
 .ret [21])) (
 Qz [.k (.bool false)] <|
 .ret [19])) (
 Qz [.k (.bool false)] <|
 .ret [17])) (
 Qz [.k (.bool false)] <|
 .ret [16])) (
 Qz [.k (.bool false)] <|
 .ret [15])))))
def uq_:Sem1:=Fs p_s_RecordOk [(75,z6_),(286,u1_)]
def p_s_Before:PL :=
 Qu [0,8] <|
 .ite 16 (
 Ql [0,8] <|
 Qz [17] <|
 .ret [18]) (
 Qu [1,9] <|
 .ite 17 (
 Ql [1,9] <|
 Qz [18] <|
 .ret [19]) (
 Qu [2,10] <|
 .ite 18 (
 Ql [2,10] <|
 Qz [19] <|
 .ret [20]) (
 Ql [3,11] <|
 Qz [19] <|
 .ret [20])))
def ve_:Sem1:=Fs p_s_Before []
def p_s_StoreOk:PL :=
 Qn [0] <|
 Qg [1,I 150] <|
 .ite 2 (
 Qz [.k (.bool false)] <|
 .ret [3]) (
 .loop [.k (.bool false),I 0] (
 Qn [0] <|
 Ql [4,5] <|
 .ite 6 (
 Q8 [0,4] <|
 Qi 249 [8,9,10,11,12,13,14,15] 1 <|
 Qt [16] <|
 .ite 17 (
 Qz [.k (.bool false)] <|
 .ret [18]) (
 Qg [4,I 0] <|
 .ite 18 (
 Qs [4,I 1] <|
 Q8 [0,19] <|
 Q8 [0,4] <|
 Qi 199 [21,22,23,24,25,26,27,28,30,31,32,33,34,35,36,37] 1 <|
 Qt [38] <|
 .ite 39 (
 Qz [.k (.bool false)] <|
 .ret [40]) (
 Qa [4,I 1] <|
 .go 0 [3,40])) (
 Qa [4,I 1] <|
 .go 0 [3,19]))) (
 Qz [.k (.bool true)] <|
 .ret [7])))
def yE_:Sem1:=Fs p_s_StoreOk [(199,ve_),(249,uq_)]
def p_s_SelfOk:PL :=
 Qi 135 [2,3,4] 1 <|
 .ite 7 (
 Qi 75 [0,I 1,2] 1 <|
 .ite 8 (
 Qi 75 [1,I 0,I 90] 1 <|
 .ite 9 (
 Qi 195 [0,1,2,3,4,5,6] 1 <|
 .ite 10 (
 Qi 176 [6] 1 <|
 Qz [11] <|
 .ret [12]) (
 Qz [.k (.bool false)] <|
 .ret [11])) (
 Qz [.k (.bool false)] <|
 .ret [10])) (
 Qz [.k (.bool false)] <|
 .ret [9])) (
 Qz [.k (.bool false)] <|
 .ret [8])
def xu_:Sem1:=Fs p_s_SelfOk [(75,z6_),(135,jT_),(176,yE_),(195,un_)]
def p_s_l10Heard:PL :=
 Q (.lit 1 []) [] <|
 .loop [1,I 0] (
 Qn [0] <|
 Ql [3,4] <|
 .ite 5 (
 Qb [0,3] <|
 Qc 4 3 [0,3] <|
 .join (
 Qa [3,I 1] <|
 .go 0 [8,9]) (
 .ite 7 (
 Qb [0,3] <|
 Qc 4 0 [0,3] <|
 Qb [0,3] <|
 Qc 4 1 [0,3] <|
 Q (.lit 1 [true,true]) [9,11] <|
 Qp [2,12] <|
 .go 0 [13]) (
 .go 0 [2]))) (
 .ret [2]))
def qk_:Sem1:=Fs p_s_l10Heard []
def p_s_l10SameInts:PL :=
 Qn [0] <|
 Qn [1] <|
 Qu [2,3] <|
 .ite 4 (
 Qz [.k (.bool false)] <|
 .ret [5]) (
 .loop [.k (.bool false),I 0] (
 Qn [0] <|
 Ql [6,7] <|
 .ite 8 (
 Q1 [0,6] <|
 Q1 [1,6] <|
 Qu [10,12] <|
 .ite 13 (
 Qz [.k (.bool false)] <|
 .ret [14]) (
 Qa [6,I 1] <|
 .go 0 [5,14])) (
 Qz [.k (.bool true)] <|
 .ret [9])))
def vU_:Sem1:=Fs p_s_l10SameInts []
def p_s_NodeOk:PL :=
 Qi 99 [0,1,2,3,4,5,6] 1 <|
 Qt [8] <|
 .ite 9 (
 Qz [.k (.bool false)] <|
 .ret [10]) (
 .loop [.k (.bool false),I 0,I 1] (
 Qm [12,2] <|
 .ite 13 (
 .loop [10,11,I 0] (
 Qm [16,I 2] <|
 .ite 17 (
 Qi 122 [2,3,4,0,12,16] 1 <|
 Qe [18,I 0] <|
 .ite 19 (
 Qa [16,I 1] <|
 .go 0 [14,15,20]) (
 Qn [7] <|
 Qh [15,20] <|
 .ite 21 (
 Qz [.k (.bool false)] <|
 .ret [22]) (
 Qb [7,15] <|
 Qc 4 0 [7,15] <|
 Qu [23,12] <|
 .ite 24 (
 Qz [.k (.bool false)] <|
 .ret [25]) (
 Qb [7,15] <|
 Qc 4 1 [7,15] <|
 Qu [26,16] <|
 .ite 27 (
 Qz [.k (.bool false)] <|
 .ret [28]) (
 Qb [7,15] <|
 Qc 4 2 [7,15] <|
 Qi 75 [29,I 0,I 3] 1 <|
 Qt [30] <|
 .ite 31 (
 Qz [.k (.bool false)] <|
 .ret [32]) (
 Qb [7,15] <|
 Qc 4 3 [7,15] <|
 .ite 33 (
 Qb [7,15] <|
 Qc 4 2 [7,15] <|
 Qe [35,I 0] <|
 .ite 36 (
 Qz [.k (.bool false)] <|
 .ret [37]) (
 Qa [15,I 1] <|
 Qa [16,I 1] <|
 .go 0 [14,37,38])) (
 Qa [15,I 1] <|
 Qa [16,I 1] <|
 .go 0 [14,34,35]))))))) (
 Qa [12,I 1] <|
 .go 1 [14,15,18]))) (
 Qn [7] <|
 Qe [11,14] <|
 .ite 15 (
 Qi 142 [7] 1 <|
 Qi 190 [5,16] 1 <|
 Qz [17] <|
 .ret [18]) (
 Qz [.k (.bool false)] <|
 .ret [16]))))
def ko_:Sem1:=Fs p_s_NodeOk [(75,z6_),(99,xu_),(122,yZ_),(142,qk_),(190,vU_)]
def p_s_NextTo:PL :=
 Q (.lit 1 []) [] <|
 .loop [5,I 1] (
 Qm [7,I 6] <|
 .ite 8 (
 Qi 122 [0,1,2,3,7,4] 1 <|
 Qg [9,I 0] <|
 .join (
 Qa [7,I 1] <|
 .go 0 [11,12]) (
 .ite 10 (
 Qx [7] <|
 Qp [6,11] <|
 .go 0 [12]) (
 .go 0 [6]))) (
 .ret [6]))
def qK_:Sem1:=Fs p_s_NextTo [(122,yZ_)]
def p_s_AreasOf:PL :=
 Q (.lit 1 []) [] <|
 .loop [4,I 0] (
 Qm [6,I 2] <|
 .ite 7 (
 Qi 178 [0,1,2,3,6] 1 <|
 Qn [8] <|
 Qg [9,I 0] <|
 .join (
 Qa [6,I 1] <|
 .go 0 [11,12]) (
 .ite 10 (
 Qx [6] <|
 Qp [5,11] <|
 .go 0 [12]) (
 .go 0 [5]))) (
 .ret [5]))
def xV_:Sem1:=Fs p_s_AreasOf [(178,qK_)]
def p_s_Border:PL :=
 Qi 77 [0,1,2,3] 1 <|
 Qn [4] <|
 Qg [5,I 1] <|
 .ite 6 (
 Q1 [4,I 0] <|
 Qe [8,I 0] <|
 Qz [9] <|
 .ret [10]) (
 Qz [.k (.bool false)] <|
 .ret [7])
def vf_:Sem1:=Fs p_s_Border [(77,xV_)]
def p_s_SameKey:PL :=
 Qe [0,8] <|
 .ite 16 (
 Qe [1,9] <|
 .ite 17 (
 Qe [2,10] <|
 .ite 18 (
 Qe [3,11] <|
 Qz [19] <|
 .ret [20]) (
 Qz [.k (.bool false)] <|
 .ret [19])) (
 Qz [.k (.bool false)] <|
 .ret [18])) (
 Qz [.k (.bool false)] <|
 .ret [17])
def wL_:Sem1:=Fs p_s_SameKey []
def p_s_l05At:PL :=
 .loop [I 0,I 0] (
 Qn [0] <|
 Ql [10,11] <|
 .ite 12 (
 Q8 [0,10] <|
 Qi 198 [14,15,16,17,18,19,20,21,1,2,3,4,5,6,7,8] 1 <|
 .ite 22 (
 Qz [10] <|
 .ret [23]) (
 Qa [10,I 1] <|
 .go 0 [9,23])) (
 Qz [.k (.int .i64 (-1))] <|
 .ret [13]))
def wF_:Sem1:=Fs p_s_l05At [(198,wL_)]
def p_s_l06Node:PL :=
 Qi 106 [0,1,I 1,2,I 0,I 0,.e,I 0,.k (.bool false)] 1 <|
 Ql [3,I 0] <|
 .ite 4 (
 Qz [.k (.bool false)] <|
 Qz [.k (.bool false)] <|
 Qz [I 0] <|
 Qz [I 0] <|
 Qz [I 0] <|
 Qz [I 0] <|
 Qz [I 0] <|
 Qz [I 0] <|
 .ret [12,11,10,9,8,.e,7,6,5]) (
 Q8 [0,3] <|
 Qz [.k (.bool true)] <|
 Qz [13] <|
 Qz [12] <|
 Qz [10] <|
 Qz [9] <|
 Qz [8] <|
 Qz [7] <|
 Qz [6] <|
 .ret [21,20,19,18,17,11,16,15,14])
def xE_:Sem1:=Fs p_s_l06Node [(106,wF_)]
def p_s_l06Tells:PL :=
 Qi 282 [0,1,2] 9 <|
 .loop [I 0,I 0] (
 Qn [9] <|
 Ql [14,15] <|
 .ite 16 (
 Qb [9,14] <|
 Qc 2 0 [9,14] <|
 Qe [18,3] <|
 .ite 19 (
 Qb [9,14] <|
 Qc 2 1 [9,14] <|
 Qz [21] <|
 .ret [22]) (
 Qa [14,I 1] <|
 .go 0 [13,20])) (
 Qz [I 0] <|
 .ret [17]))
def ul_:Sem1:=Fs p_s_l06Tells [(282,xE_)]
def p_s_l06Links:PL :=
 Q (.mk) [I 49,I 49,I 0] <|
 .loop [I 1,2] (
 Qm [3,I 6] <|
 .ite 5 (
 Qi 282 [0,1,3] 9 <|
 .loop [I 0,4] (
 Qn [11] <|
 Ql [15,17] <|
 .ite 18 (
 Qb [11,15] <|
 Qc 2 0 [11,15] <|
 Qi 75 [20,I 1,I 6] 1 <|
 .ite 21 (
 Qb [11,15] <|
 Qc 2 0 [11,15] <|
 Qi 307 [0,1,23,3] 1 <|
 Qg [24,I 0] <|
 .join (
 Qa [15,I 1] <|
 .go 0 [27,26]) (
 .ite 25 (
 Q (.bin .mul) [3,I 7] <|
 Qb [11,15] <|
 Qc 2 0 [11,15] <|
 Qa [26,28] <|
 Qb [11,15] <|
 Qc 2 1 [11,15] <|
 Qb [16,29] <|
 Q (.put true 1 0 1) [16,29,31] <|
 .go 0 [33]) (
 .go 0 [16]))) (
 .join (
 Qa [15,I 1] <|
 .go 0 [23,22]) (
 .go 0 [16]))) (
 Qa [3,I 1] <|
 .go 1 [19,16]))) (
 .ret [4]))
def ug_:Sem1:=Fs p_s_l06Links [(75,z6_),(282,xE_),(307,ul_)]
def p_s_l03In:PL :=
 .loop [.k (.bool false),I 0] (
 Qn [0] <|
 Ql [3,4] <|
 .ite 5 (
 Q1 [0,3] <|
 Qe [7,1] <|
 .ite 8 (
 Qz [.k (.bool true)] <|
 .ret [9]) (
 Qa [3,I 1] <|
 .go 0 [2,9])) (
 Qz [.k (.bool false)] <|
 .ret [6]))
def jO_:Sem1:=Fs p_s_l03In []
def p_s_l06Add:PL :=
 Q (.lit 1 []) [] <|
 .loop [2,I 1] (
 Qm [4,I 6] <|
 .ite 5 (
 Qi 153 [0,4] 1 <|
 .ite 6 (
 .join (
 Qa [4,I 1] <|
 .go 0 [7,8]) (
 Qx [4] <|
 Qp [3,7] <|
 .go 0 [8])) (
 Qi 153 [1,4] 1 <|
 .join (
 Qa [4,I 1] <|
 .go 0 [8,9]) (
 .ite 7 (
 Qx [4] <|
 Qp [3,8] <|
 .go 0 [9]) (
 .go 0 [3])))) (
 .ret [3]))
def yn_:Sem1:=Fs p_s_l06Add [(153,jO_)]
def p_s_WaysIn:PL :=
 Q (.lit 3 []) [] <|
 Qi 282 [0,1,2] 9 <|
 Qi 176 [0] 1 <|
 Qt [13] <|
 .ite 14 (
 .ret [3]) (
 Qi 75 [2,I 1,I 6] 1 <|
 Qt [15] <|
 .ite 16 (
 .ret [3]) (
 Qt [12] <|
 .ite 17 (
 .ret [3]) (
 Qi 283 [0,1] 1 <|
 Q (.mk) [I 7,I 7,I 0] <|
 Q (.mk) [I 7,I 7,.e] <|
 Q (.mk) [I 7,I 7,.k (.bool false)] <|
 .loop [I 1,19] (
 Qm [22,I 6] <|
 .ite 24 (
 Qb [23,22] <|
 Q (.put true 1 0 1) [23,22,.k (.int .i64 (-1))] <|
 Qa [22,I 1] <|
 .go 0 [27,26]) (
 Qb [23,2] <|
 Q (.put true 1 0 1) [23,2,I 0] <|
 .loop [I 1,20,21,26] (
 Qm [27,I 6] <|
 .ite 31 (
 .loop [I 0,I 1] (
 Qm [33,I 6] <|
 .ite 34 (
 Qq [29,33] <|
 Qt [36] <|
 .ite 37 (
 Qq [30,33] <|
 Qh [39,I 0] <|
 .ite 40 (
 Qe [32,I 0] <|
 .ite 41 (
 .join (
 Qa [33,I 1] <|
 .go 0 [42,43]) (
 .go 0 [33])) (
 Qq [30,33] <|
 Qq [30,32] <|
 Ql [43,45] <|
 .join (
 Qa [33,I 1] <|
 .go 0 [47,48]) (
 .ite 46 (
 .go 0 [33]) (
 .go 0 [32])))) (
 .join (
 Qa [33,I 1] <|
 .go 0 [41,42]) (
 .go 0 [32]))) (
 .join (
 Qa [33,I 1] <|
 .go 0 [38,39]) (
 .go 0 [32]))) (
 Qe [32,I 0] <|
 .ite 35 (
 Qa [I 6,I 1] <|
 .go 1 [36,28,29,30]) (
 Qb [29,32] <|
 Q (.put true 1 0 1) [29,32,.k (.bool true)] <|
 .loop [I 1,28,30] (
 Qm [38,I 6] <|
 .ite 41 (
 Q (.bin .mul) [32,I 7] <|
 Qa [42,38] <|
 Q1 [18,43] <|
 Qe [45,I 0] <|
 .ite 46 (
 Qa [38,I 1] <|
 .go 0 [47,39,40]) (
 Qq [37,38] <|
 .ite 48 (
 Qa [38,I 1] <|
 .go 0 [49,39,40]) (
 Q1 [39,32] <|
 Qe [32,2] <|
 .join (
 Qq [40,32] <|
 Qa [54,45] <|
 Qq [40,38] <|
 Ql [57,I 0] <|
 .ite 58 (
 .join (
 Qa [38,I 1] <|
 .go 0 [61,59,60]) (
 Qb [40,38] <|
 Q (.put true 1 0 1) [40,38,55] <|
 Q (.lit 1 []) [] <|
 Qi 251 [61,52] 1 <|
 Qb [39,38] <|
 Q (.put false 1 0 1) [39,38,62] <|
 .go 0 [64,60])) (
 Qq [40,38] <|
 Ql [55,60] <|
 .join (
 Qa [38,I 1] <|
 .go 0 [64,62,63]) (
 .ite 61 (
 Qb [40,38] <|
 Q (.put true 1 0 1) [40,38,55] <|
 Q (.lit 1 []) [] <|
 Qi 251 [64,52] 1 <|
 Qb [39,38] <|
 Q (.put false 1 0 1) [39,38,65] <|
 .go 0 [67,63]) (
 Qq [40,38] <|
 Qe [55,63] <|
 .join (
 .go 0 [65,40]) (
 .ite 64 (
 Q1 [39,38] <|
 Qi 251 [66,52] 1 <|
 Qb [39,38] <|
 Q (.put false 1 0 1) [39,38,67] <|
 .go 0 [69]) (
 .go 0 [39])))))) (
 .ite 51 (
 Qx [38] <|
 .go 0 [52]) (
 .go 0 [50]))))) (
 Qa [27,I 1] <|
 .go 2 [42,39,37,40])))))) (
 .loop [3,I 1] (
 Qm [33,I 6] <|
 .ite 34 (
 Qq [29,33] <|
 .join (
 Qa [33,I 1] <|
 .go 0 [37,38]) (
 .ite 36 (
 Qq [30,33] <|
 Q (.lit 1 []) [] <|
 Q1 [28,33] <|
 Qp [39,41] <|
 Q (.lit 3 [true,true,false]) [33,38,42] <|
 Qo [32,43] <|
 .go 0 [44]) (
 .go 0 [32]))) (
 .ret [32])))))))))
def wf_:Sem1:=Fs p_s_WaysIn [(75,z6_),(176,yE_),(251,yn_),(282,xE_),(283,ug_)]
def p_s_l06Copy:PL :=
 Q (.lit 1 []) [] <|
 Qp [3,2] <|
 Qz [1] <|
 Qz [0] <|
 .ret [6,5,4]
def wQ_:Sem1:=Fs p_s_l06Copy []
def p_s_WayTo:PL :=
 .loop [.k (.bool false),I 0] (
 Qn [0] <|
 Ql [3,4] <|
 .ite 5 (
 Qb [0,3] <|
 Qc 3 0 [0,3] <|
 Qe [7,1] <|
 .ite 8 (
 Q3 [0,3] <|
 Qi 284 [10,11,12] 3 <|
 Qz [.k (.bool true)] <|
 Qz [14] <|
 Qz [13] <|
 .ret [18,17,15,16]) (
 Qa [3,I 1] <|
 .go 0 [2,9])) (
 Qz [.k (.bool false)] <|
 Qz [I 0] <|
 Qz [I 0] <|
 .ret [8,7,.e,6]))
def y7_:Sem1:=Fs p_s_WayTo [(284,wQ_)]
def p_s_Better:PL :=
 Ql [1,4] <|
 Qz [6] <|
 .ret [7]
def q8_:Sem1:=Fs p_s_Better []
def p_s_Together:PL :=
 Qi 285 [0,1,2,3,4,5] 1 <|
 .ite 6 (
 Qi 284 [0,1,2] 3 <|
 Qz [8] <|
 Qz [7] <|
 .ret [11,10,9]) (
 Qi 285 [3,4,5,0,1,2] 1 <|
 .ite 7 (
 Qi 284 [3,4,5] 3 <|
 Qz [9] <|
 Qz [8] <|
 .ret [12,11,10]) (
 Qi 251 [2,5] 1 <|
 Qz [1] <|
 Qz [0] <|
 .ret [10,9,8]))
def wB_:Sem1:=Fs p_s_Together [(251,yn_),(284,wQ_),(285,q8_)]
def p_s_RoutesWithin:PL :=
 Q (.lit 3 []) [] <|
 Q (.lit 1 []) [] <|
 .loop [4,I 0] (
 Qn [1] <|
 Ql [6,7] <|
 .ite 8 (
 Q1 [1,6] <|
 Qi 245 [0,10,2] 1 <|
 Q (.lit 1 []) [11] <|
 Q (.app false 1) [5,12] <|
 Qa [6,I 1] <|
 .go 0 [13,14]) (
 .loop [3,I 1] (
 Qm [10,I 6] <|
 .ite 11 (
 .loop [.k (.bool false),I 0,I 0,I 0,.e] (
 Qn [1] <|
 Ql [13,17] <|
 .ite 18 (
 Q1 [5,13] <|
 Qi 246 [20,10] 4 <|
 Qt [24] <|
 .ite 25 (
 Qa [13,I 1] <|
 .go 0 [12,26,14,15,16]) (
 .join (
 Qa [13,I 1] <|
 .go 0 [.k (.bool true),29,26,27,28]) (
 .ite 12 (
 Qi 247 [14,15,16,21,22,23] 3 <|
 .go 0 [26,27,28]) (
 .go 0 [21,22,23])))) (
 .join (
 Qa [10,I 1] <|
 .go 1 [19,20]) (
 .ite 12 (
 Q (.lit 3 []) [14,15,16] <|
 Qo [9,19] <|
 .go 0 [20]) (
 .go 0 [9]))))) (
 .ret [9]))))
def yK_:Sem1:=Fs p_s_RoutesWithin [(245,wf_),(246,y7_),(247,wB_)]
def p_s_l07Beyond:PL :=
 .loop [8,I 0,5,6,7] (
 Qn [0] <|
 Ql [10,14] <|
 .ite 15 (
 Q8 [0,10] <|
 Qu [18,I 2] <|
 .ite 25 (
 Qa [10,I 1] <|
 .go 0 [9,26,11,12,13]) (
 Qu [17,2] <|
 .ite 26 (
 Qa [10,I 1] <|
 .go 0 [9,27,11,12,13]) (
 Qu [20,4] <|
 .ite 27 (
 Qa [10,I 1] <|
 .go 0 [9,28,11,12,13]) (
 Qe [19,3] <|
 .ite 28 (
 Qa [10,I 1] <|
 .go 0 [9,29,11,12,13]) (
 Qh [23,I 60000] <|
 .ite 29 (
 Qa [10,I 1] <|
 .go 0 [9,30,11,12,13]) (
 Qi 246 [1,19] 4 <|
 Qt [33] <|
 .ite 34 (
 Qa [10,I 1] <|
 .go 0 [9,35,11,12,13]) (
 Qa [31,23] <|
 Qh [35,I 60000] <|
 .ite 36 (
 Qa [10,I 1] <|
 .go 0 [9,37,11,12,13]) (
 Qa [31,23] <|
 .join (
 Qa [10,I 1] <|
 .go 0 [.k (.bool true),41,38,39,40]) (
 .ite 9 (
 Qi 247 [11,12,13,4,37,32] 3 <|
 .go 0 [38,39,40]) (
 .go 0 [4,37,32])))))))))) (
 Qz [9] <|
 Qz [12] <|
 Qz [11] <|
 .ret [18,17,13,16]))
def vD_:Sem1:=Fs p_s_l07Beyond [(246,y7_),(247,wB_)]
def p_s_RoutesBeyond:PL :=
 Q (.lit 3 []) [] <|
 Qi 174 [0,1,3] 1 <|
 Qi 176 [0] 1 <|
 Qt [6] <|
 .ite 7 (
 .ret [4]) (
 Q (.lit 1 []) [] <|
 .loop [8,I 0] (
 Qn [1] <|
 Ql [10,11] <|
 .ite 12 (
 Q1 [1,10] <|
 Qi 245 [0,14,3] 1 <|
 Q (.lit 1 []) [15] <|
 Q (.app false 1) [9,16] <|
 Qa [10,I 1] <|
 .go 0 [17,18]) (
 .loop [4,I 1] (
 Qm [14,I 6] <|
 .ite 15 (
 Qi 246 [5,14] 4 <|
 .ite 19 (
 Qa [14,I 1] <|
 .go 0 [13,20]) (
 .loop [.k (.bool false),I 0,I 0,I 0,.e] (
 Qn [1] <|
 Ql [21,25] <|
 .ite 26 (
 .ite 2 (
 Q1 [1,21] <|
 Qu [28,I 0] <|
 .ite 29 (
 Qa [21,I 1] <|
 .go 0 [20,30,22,23,24]) (
 Q1 [9,21] <|
 Q1 [1,21] <|
 Qi 248 [0,31,33,3,14,22,23,24,20] 4 <|
 Qa [21,I 1] <|
 .go 0 [37,38,34,35,36])) (
 Q1 [9,21] <|
 Q1 [1,21] <|
 Qi 248 [0,28,30,3,14,22,23,24,20] 4 <|
 Qa [21,I 1] <|
 .go 0 [34,35,31,32,33])) (
 .join (
 Qa [14,I 1] <|
 .go 1 [27,28]) (
 .ite 20 (
 Q (.lit 3 []) [22,23,24] <|
 Qo [13,27] <|
 .go 0 [28]) (
 .go 0 [13])))))) (
 .ret [13])))))
def xw_:Sem1:=Fs p_s_RoutesBeyond [(174,yK_),(176,yE_),(245,wf_),(246,y7_),(248,vD_)]
def p_s_l07Owner:PL :=
 Qe [2,3] <|
 .ite 4 (
 Qz [.k (.bool true)] <|
 Qz [I 0] <|
 Qz [2] <|
 .ret [7,6,.e,5]) (
 Qi 246 [0,2] 4 <|
 .ite 8 (
 Qz [.k (.bool true)] <|
 Qz [6] <|
 Qz [5] <|
 .ret [11,10,7,9]) (
 Qi 246 [1,2] 4 <|
 Qz [12] <|
 Qz [10] <|
 Qz [9] <|
 .ret [15,14,11,13]))
def qn_:Sem1:=Fs p_s_l07Owner [(246,y7_)]
def p_s_l07Thing:PL :=
 .loop [.k (.bool false),I 0,I 3,I 0,I 0,.e] (
 Qn [0] <|
 Ql [7,12] <|
 .ite 13 (
 Q8 [0,7] <|
 Qu [16,I 3] <|
 .ite 23 (
 Qa [7,I 1] <|
 .go 0 [6,24,8,9,10,11]) (
 Qu [18,3] <|
 .ite 24 (
 Qa [7,I 1] <|
 .go 0 [6,25,8,9,10,11]) (
 Q (.bb .neq) [22,5] <|
 .ite 25 (
 Qa [7,I 1] <|
 .go 0 [6,26,8,9,10,11]) (
 Qh [21,I 60000] <|
 .ite 26 (
 Qa [7,I 1] <|
 .go 0 [6,27,8,9,10,11]) (
 Qi 250 [1,2,17,4] 4 <|
 Qt [30] <|
 .ite 31 (
 Qa [7,I 1] <|
 .go 0 [6,32,8,9,10,11]) (
 Qa [28,21] <|
 .join (
 Qt [6] <|
 .ite 36 (
 .join (
 Qa [7,I 1] <|
 .go 0 [.k (.bool true),40,33,37,38,39]) (
 Q (.lit 1 []) [] <|
 Qi 251 [37,29] 1 <|
 .go 0 [34,35,38])) (
 Ql [35,10] <|
 .ite 37 (
 .join (
 Qa [7,I 1] <|
 .go 0 [.k (.bool true),41,33,38,39,40]) (
 Q (.lit 1 []) [] <|
 Qi 251 [38,29] 1 <|
 .go 0 [34,35,39])) (
 Qe [35,10] <|
 .ite 38 (
 Ql [34,9] <|
 .join (
 Qa [7,I 1] <|
 .go 0 [.k (.bool true),43,33,40,41,42]) (
 .ite 39 (
 Q (.lit 1 []) [] <|
 Qi 251 [40,29] 1 <|
 .go 0 [34,35,41]) (
 Qe [35,10] <|
 .ite 40 (
 Qe [34,9] <|
 .join (
 .go 0 [9,10,42]) (
 .ite 41 (
 Qi 251 [11,29] 1 <|
 .go 0 [42]) (
 .go 0 [11]))) (
 .join (
 .go 0 [9,10,41]) (
 .go 0 [11]))))) (
 .join (
 Qa [7,I 1] <|
 .go 0 [.k (.bool true),42,33,39,40,41]) (
 Qe [35,10] <|
 .ite 39 (
 Qe [34,9] <|
 .join (
 .go 0 [9,10,41]) (
 .ite 40 (
 Qi 251 [11,29] 1 <|
 .go 0 [41]) (
 .go 0 [11]))) (
 .join (
 .go 0 [9,10,40]) (
 .go 0 [11]))))))) (
 .ite 5 (
 .go 0 [I 4,28,21]) (
 .go 0 [8,32,I 0])))))))) (
 Qz [6] <|
 Qz [10] <|
 Qz [9] <|
 Qz [8] <|
 Qz [3] <|
 Qz [.k (.bool true)] <|
 .ret [19,18,17,16,15,11,14]))
def v9_:Sem1:=Fs p_s_l07Thing [(250,qn_),(251,yn_)]
def p_s_RoutesOf:PL :=
 Q (.lit 6 []) [] <|
 Qi 174 [0,1,3] 1 <|
 Qi 175 [0,1,2,3] 1 <|
 Qi 176 [0] 1 <|
 Qt [7] <|
 .ite 8 (
 .ret [4]) (
 .loop [4,I 0] (
 Qn [5] <|
 Ql [10,11] <|
 .ite 12 (
 Qb [5,10] <|
 Qc 3 0 [5,10] <|
 Qu [14,3] <|
 .join (
 Qa [10,I 1] <|
 .go 0 [16,17]) (
 .ite 15 (
 Qb [5,10] <|
 Qc 3 0 [5,10] <|
 Qb [5,10] <|
 Qc 3 1 [5,10] <|
 Qb [5,10] <|
 Qc 3 2 [5,10] <|
 Q (.lit 6 []) [.k (.bool false),17,I 1,19,I 0,21] <|
 Q (.app false 6) [9,22] <|
 .go 0 [23]) (
 .go 0 [9]))) (
 .loop [9,I 0] (
 Qn [6] <|
 Ql [14,15] <|
 .ite 16 (
 Qb [6,14] <|
 Qc 3 0 [6,14] <|
 Qu [18,3] <|
 .join (
 Qa [14,I 1] <|
 .go 0 [20,21]) (
 .ite 19 (
 Qb [6,14] <|
 Qc 3 0 [6,14] <|
 Qb [6,14] <|
 Qc 3 1 [6,14] <|
 Qb [6,14] <|
 Qc 3 2 [6,14] <|
 Q (.lit 6 []) [.k (.bool false),21,I 2,23,I 0,25] <|
 Q (.app false 6) [13,26] <|
 .go 0 [27]) (
 .go 0 [13]))) (
 .loop [13,I 1] (
 Qm [18,I 9] <|
 .ite 19 (
 Qi 177 [0,5,6,18,3,.k (.bool false)] 7 <|
 Qt [26] <|
 .join (
 .join (
 Qa [18,I 1] <|
 .go 0 [35,36]) (
 .ite 34 (
 Q (.lit 1 []) [] <|
 Qp [35,33] <|
 Q (.lit 6 [true,true,true,true,true,false]) [28,29,30,31,32,36] <|
 Q (.app false 6) [17,37] <|
 .go 0 [38]) (
 .go 0 [17]))) (
 .ite 27 (
 Qi 177 [0,5,6,18,3,.k (.bool true)] 7 <|
 .go 0 [28,29,30,31,32,33,34]) (
 .go 0 [20,21,22,23,24,25,26]))) (
 .ret [17])))))))
def ql_:Sem1:=Fs p_s_RoutesOf [(174,yK_),(175,xw_),(176,yE_),(177,v9_)]
def p_s_Routes:PL :=
 Qi 92 [0,1,2,3,4,5,6,7] 1 <|
 Qt [8] <|
 .ite 9 (
 Q (.lit 6 []) [] <|
 .ret [10]) (
 Qi 77 [2,3,4,0] 1 <|
 Qi 78 [2,3,4,0] 1 <|
 Qi 76 [6,10,11,0] 1 <|
 .ret [12])
def agu_:Sem1:=Fs p_s_Routes [(76,ql_),(77,xV_),(78,vf_),(92,ko_)]
def p_i_in:PL :=
 Qh [0,1] <|
 .ite 3 (
 Qm [0,2] <|
 Qz [4] <|
 .ret [5]) (
 Qz [.k (.bool false)] <|
 .ret [4])
def xK_:Sem1:=Fs p_i_in []
def p_i_LinkOk:PL :=
 Qi 82 [0,I 1,I 6] 1 <|
 .ite 5 (
 Qi 82 [1,I 1,0] 1 <|
 .ite 6 (
 Qi 82 [2,I 1,0] 1 <|
 .ite 7 (
 Ql [1,2] <|
 .ite 8 (
 Qi 82 [3,I 1,I 1000] 1 <|
 .ite 9 (
 Qi 82 [4,I 0,I 2] 1 <|
 Qz [10] <|
 .ret [11]) (
 Qz [.k (.bool false)] <|
 .ret [10])) (
 Qz [.k (.bool false)] <|
 .ret [9])) (
 Qz [.k (.bool false)] <|
 .ret [8])) (
 Qz [.k (.bool false)] <|
 .ret [7])) (
 Qz [.k (.bool false)] <|
 .ret [6])
def q4_:Sem1:=Fs p_i_LinkOk [(82,xK_)]
def p_i_ahead:PL :=
 Qu [0,4] <|
 .ite 8 (
 Ql [0,4] <|
 Qz [9] <|
 .ret [10]) (
 Qu [1,5] <|
 .ite 9 (
 Ql [1,5] <|
 Qz [10] <|
 .ret [11]) (
 Ql [3,7] <|
 Qz [10] <|
 .ret [11]))
def j2_:Sem1:=Fs p_i_ahead []
def p_i_less:PL :=
 Ql [1,5] <|
 .ite 8 (
 Qz [.k (.bool true)] <|
 .ret [9]) (
 Qe [1,5] <|
 .ite 9 (
 Ql [0,4] <|
 Qz [10] <|
 .ret [11]) (
 Qz [.k (.bool false)] <|
 .ret [10]))
def kK_:Sem1:=Fs p_i_less []
def p_i_NetOk:PL :=
 Qi 82 [0,I 1,I 6] 1 <|
 Qt [3] <|
 .ite 4 (
 Qz [.k (.bool false)] <|
 .ret [5]) (
 Qn [1] <|
 Qg [5,I 12] <|
 .ite 6 (
 Qz [.k (.bool false)] <|
 .ret [7]) (
 Qn [2] <|
 Qg [7,I 4] <|
 .ite 8 (
 Qz [.k (.bool false)] <|
 .ret [9]) (
 Qn [1] <|
 .loop [.k (.bool false),I 0] (
 Ql [11,9] <|
 .ite 12 (
 Q4 [1,11] <|
 Qi 218 [0,14,15,16,17] 1 <|
 Qt [18] <|
 .ite 19 (
 Qz [.k (.bool false)] <|
 .ret [20]) (
 Qg [11,I 0] <|
 .ite 20 (
 Qs [11,I 1] <|
 Q4 [1,21] <|
 Qi 219 [23,24,25,26,14,15,16,17] 1 <|
 Qt [27] <|
 .ite 28 (
 Qz [.k (.bool false)] <|
 .ret [29]) (
 Qa [11,I 1] <|
 .go 0 [10,29])) (
 Qa [11,I 1] <|
 .go 0 [10,21]))) (
 Qn [2] <|
 .loop [10,I 0] (
 Ql [15,13] <|
 .ite 16 (
 Q4 [2,15] <|
 Qi 82 [19,I 1,I 9] 1 <|
 Qt [22] <|
 .ite 23 (
 Qz [.k (.bool false)] <|
 .ret [24]) (
 Qi 82 [18,I 1,0] 1 <|
 Qt [24] <|
 .ite 25 (
 Qz [.k (.bool false)] <|
 .ret [26]) (
 Qi 82 [20,I 1,I 1000] 1 <|
 Qt [26] <|
 .ite 27 (
 Qz [.k (.bool false)] <|
 .ret [28]) (
 Qg [15,I 0] <|
 .ite 28 (
 Qs [15,I 1] <|
 Q4 [2,29] <|
 Qi 220 [31,32,33,34,18,19,20,21] 1 <|
 Qt [35] <|
 .ite 36 (
 Qz [.k (.bool false)] <|
 .ret [37]) (
 Qa [15,I 1] <|
 .go 0 [14,37])) (
 Qa [15,I 1] <|
 .go 0 [14,29]))))) (
 Qz [.k (.bool true)] <|
 .ret [17])))))))
def j9_:Sem1:=Fs p_i_NetOk [(82,xK_),(218,q4_),(219,j2_),(220,kK_)]
def p_i_linkAt:PL :=
 Qn [1] <|
 .loop [I 0,I 0] (
 Ql [8,6] <|
 .ite 9 (
 Q4 [1,8] <|
 Qe [14,5] <|
 .ite 15 (
 Qe [11,3] <|
 .ite 16 (
 Qe [12,4] <|
 .ite 17 (
 Qz [8] <|
 .ret [18]) (
 Qe [11,4] <|
 .ite 18 (
 Qe [12,3] <|
 .ite 19 (
 Qz [8] <|
 .ret [20]) (
 Qa [8,I 1] <|
 .go 0 [7,20])) (
 Qa [8,I 1] <|
 .go 0 [7,19]))) (
 Qe [11,4] <|
 .ite 17 (
 Qe [12,3] <|
 .ite 18 (
 Qz [8] <|
 .ret [19]) (
 Qa [8,I 1] <|
 .go 0 [7,19])) (
 Qa [8,I 1] <|
 .go 0 [7,18]))) (
 Qa [8,I 1] <|
 .go 0 [7,16])) (
 Qz [.k (.int .i64 (-1))] <|
 .ret [10]))
def wd_:Sem1:=Fs p_i_linkAt []
def p_i_heardOk:PL :=
 Qn [5] <|
 Q (.bin .rem) [7,I 2] <|
 Qu [8,I 0] <|
 .ite 9 (
 Qz [.k (.bool false)] <|
 .ret [10]) (
 .loop [.k (.bool false),I 0] (
 Qn [5] <|
 Ql [11,12] <|
 .ite 13 (
 Q1 [5,11] <|
 Qa [11,I 1] <|
 Q1 [5,16] <|
 Qi 214 [2,3,4,0,15,18] 1 <|
 Ql [19,I 0] <|
 .ite 20 (
 Qz [.k (.bool false)] <|
 .ret [21]) (
 Qg [11,I 0] <|
 .ite 21 (
 Qs [11,I 2] <|
 Q1 [5,22] <|
 Qg [24,15] <|
 .ite 25 (
 Qz [.k (.bool false)] <|
 .ret [26]) (
 Qs [11,I 2] <|
 Q1 [5,26] <|
 Qe [28,15] <|
 .ite 29 (
 Qs [11,I 1] <|
 Q1 [5,30] <|
 Qh [32,18] <|
 .ite 33 (
 Qz [.k (.bool false)] <|
 .ret [34]) (
 Qa [11,I 2] <|
 .go 0 [10,34])) (
 Qa [11,I 2] <|
 .go 0 [10,30]))) (
 Qa [11,I 2] <|
 .go 0 [10,22]))) (
 Qz [.k (.bool true)] <|
 .ret [14])))
def uX_:Sem1:=Fs p_i_heardOk [(214,wd_)]
def p_i_nearOk:PL :=
 Qn [5] <|
 .loop [.k (.bool false),I 0] (
 Ql [10,8] <|
 .ite 11 (
 Q2 [5,10] <|
 Qi 82 [13,I 1,I 6] 1 <|
 Qt [15] <|
 .ite 16 (
 Qz [.k (.bool false)] <|
 .ret [17]) (
 Qe [13,2] <|
 .ite 17 (
 Qz [.k (.bool false)] <|
 .ret [18]) (
 Qi 82 [14,I 1,I 1000] 1 <|
 Qt [18] <|
 .ite 19 (
 Qz [.k (.bool false)] <|
 .ret [20]) (
 Qg [10,I 0] <|
 .ite 20 (
 Qs [10,I 1] <|
 Qb [5,21] <|
 Qc 2 0 [5,21] <|
 Qh [23,13] <|
 .ite 24 (
 Qz [.k (.bool false)] <|
 .ret [25]) (
 Qa [10,I 1] <|
 .go 0 [9,25])) (
 Qa [10,I 1] <|
 .go 0 [9,21]))))) (
 Qz [.k (.bool true)] <|
 .ret [12]))
def q5_:Sem1:=Fs p_i_nearOk [(82,xK_)]
def p_i_RecordOk:PL :=
 Qi 82 [2,I 1,I 6] 1 <|
 Qt [8] <|
 .ite 9 (
 Qz [.k (.bool false)] <|
 .ret [10]) (
 Qi 82 [4,I 1,I 100000] 1 <|
 Qt [10] <|
 .ite 11 (
 Qz [.k (.bool false)] <|
 .ret [12]) (
 Qe [1,I 1] <|
 .ite 12 (
 Qi 82 [0,I 0,I 2] 1 <|
 .ite 13 (
 Qe [3,I 0] <|
 .ite 14 (
 Qi 291 [0,1,2,3,4,5,6,7] 1 <|
 .ite 15 (
 Qe [6,I 0] <|
 .ite 16 (
 Qt [7] <|
 Qz [17] <|
 .ret [18]) (
 Qz [.k (.bool false)] <|
 .ret [17])) (
 Qz [.k (.bool false)] <|
 .ret [16])) (
 Qz [.k (.bool false)] <|
 .ret [15])) (
 Qz [.k (.bool false)] <|
 .ret [14])) (
 Qe [1,I 2] <|
 .ite 13 (
 Qi 82 [0,I 0,I 2] 1 <|
 .ite 14 (
 Qi 82 [3,I 1,I 6] 1 <|
 .ite 15 (
 Qn [5] <|
 Qe [16,I 0] <|
 .ite 17 (
 Qi 82 [6,I 0,I 60000] 1 <|
 .ite 18 (
 Qt [7] <|
 Qz [19] <|
 .ret [20]) (
 Qz [.k (.bool false)] <|
 .ret [19])) (
 Qz [.k (.bool false)] <|
 .ret [18])) (
 Qz [.k (.bool false)] <|
 .ret [16])) (
 Qz [.k (.bool false)] <|
 .ret [15])) (
 Qe [1,I 3] <|
 .ite 14 (
 Qe [0,I 9] <|
 .ite 15 (
 Qi 82 [3,I 1,I 9] 1 <|
 .ite 16 (
 Qn [5] <|
 Qe [17,I 0] <|
 .ite 18 (
 Qi 82 [6,I 1,I 1000] 1 <|
 .ite 19 (
 Qz [.k (.bool true)] <|
 .ret [20]) (
 Qe [6,I 60000] <|
 Qz [20] <|
 .ret [21])) (
 Qz [.k (.bool false)] <|
 .ret [19])) (
 Qz [.k (.bool false)] <|
 .ret [17])) (
 Qz [.k (.bool false)] <|
 .ret [16])) (
 Qz [.k (.bool false)] <|
 .ret [15])))))
def uc_:Sem1:=Fs p_i_RecordOk [(82,xK_),(291,q5_)]
def p_i_Before:PL :=
 Qu [0,8] <|
 .ite 16 (
 Ql [0,8] <|
 Qz [17] <|
 .ret [18]) (
 Qu [1,9] <|
 .ite 17 (
 Ql [1,9] <|
 Qz [18] <|
 .ret [19]) (
 Qu [2,10] <|
 .ite 18 (
 Ql [2,10] <|
 Qz [19] <|
 .ret [20]) (
 Ql [3,11] <|
 Qz [19] <|
 .ret [20])))
def vd_:Sem1:=Fs p_i_Before []
def p_i_StoreOk:PL :=
 Qn [0] <|
 .loop [.k (.bool false),I 0] (
 Ql [3,1] <|
 .ite 4 (
 Q8 [0,3] <|
 Qi 260 [6,7,8,9,10,11,12,13] 1 <|
 Qt [14] <|
 .ite 15 (
 Qz [.k (.bool false)] <|
 .ret [16]) (
 Qg [3,I 0] <|
 .ite 16 (
 Qs [3,I 1] <|
 Q8 [0,17] <|
 Qi 209 [19,20,21,22,23,24,25,26,6,7,8,9,10,11,12,13] 1 <|
 Qt [27] <|
 .ite 28 (
 Qz [.k (.bool false)] <|
 .ret [29]) (
 Qa [3,I 1] <|
 .go 0 [2,29])) (
 Qa [3,I 1] <|
 .go 0 [2,17]))) (
 Qn [0] <|
 Qm [5,I 150] <|
 Qz [6] <|
 .ret [7]))
def wO_:Sem1:=Fs p_i_StoreOk [(209,vd_),(260,uc_)]
def p_i_SelfOk:PL :=
 Qi 138 [2,3,4] 1 <|
 .ite 7 (
 Qi 82 [0,I 1,2] 1 <|
 .ite 8 (
 Qi 82 [1,I 0,I 90] 1 <|
 .ite 9 (
 Qi 201 [0,1,2,3,4,5,6] 1 <|
 .ite 10 (
 Qi 202 [6] 1 <|
 Qz [11] <|
 .ret [12]) (
 Qz [.k (.bool false)] <|
 .ret [11])) (
 Qz [.k (.bool false)] <|
 .ret [10])) (
 Qz [.k (.bool false)] <|
 .ret [9])) (
 Qz [.k (.bool false)] <|
 .ret [8])
def xt_:Sem1:=Fs p_i_SelfOk [(82,xK_),(138,j9_),(201,uX_),(202,wO_)]
def p_i_earsOf:PL :=
 .loop [.e,I 1] (
 Qm [5,0] <|
 .ite 6 (
 .loop [4,I 0] (
 Qm [8,I 2] <|
 .ite 9 (
 Qi 214 [0,1,2,3,5,8] 1 <|
 Qh [10,I 0] <|
 .join (
 Qa [8,I 1] <|
 .go 0 [12,13]) (
 .ite 11 (
 Q (.lit 4 [true,true,true,true]) [5,8,I 0,.k (.bool false)] <|
 Q (.app true 4) [7,12] <|
 .go 0 [13]) (
 .go 0 [7]))) (
 Qa [5,I 1] <|
 .go 1 [7,10]))) (
 .ret [4]))
def vc_:Sem1:=Fs p_i_earsOf [(214,wd_)]
def p_i_heardBy:PL :=
 Qn [0] <|
 .loop [.e,I 0] (
 Ql [3,1] <|
 .ite 4 (
 Q4 [0,3] <|
 .join (
 Qa [3,I 1] <|
 .go 0 [10,11]) (
 .ite 9 (
 Q (.lit 1 [true,true]) [6,7] <|
 Qp [2,10] <|
 .go 0 [11]) (
 .go 0 [2]))) (
 .ret [2]))
def jm_:Sem1:=Fs p_i_heardBy []
def p_i_sameInts:PL :=
 Qn [0] <|
 Qn [1] <|
 Qu [2,3] <|
 .ite 4 (
 Qz [.k (.bool false)] <|
 .ret [5]) (
 Qn [0] <|
 .loop [.k (.bool false),I 0] (
 Ql [7,5] <|
 .ite 8 (
 Q1 [0,7] <|
 Q1 [1,7] <|
 Qu [10,12] <|
 .ite 13 (
 Qz [.k (.bool false)] <|
 .ret [14]) (
 Qa [7,I 1] <|
 .go 0 [6,14])) (
 Qz [.k (.bool true)] <|
 .ret [9])))
def qg_:Sem1:=Fs p_i_sameInts []
def p_i_NodeOk:PL :=
 Qi 114 [0,1,2,3,4,5,6] 1 <|
 Qt [8] <|
 .ite 9 (
 Qz [.k (.bool false)] <|
 .ret [10]) (
 Qi 124 [2,3,4,0] 1 <|
 Qn [10] <|
 Qn [7] <|
 Qu [11,12] <|
 .ite 13 (
 Qz [.k (.bool false)] <|
 .ret [14]) (
 Qn [7] <|
 .loop [.k (.bool false),I 0] (
 Ql [16,14] <|
 .ite 17 (
 Q4 [7,16] <|
 Qb [10,16] <|
 Q (.scell 4 0) [10,16] <|
 Qu [19,24] <|
 .ite 25 (
 Qz [.k (.bool false)] <|
 .ret [26]) (
 Qb [10,16] <|
 Q (.scell 4 1) [10,16] <|
 Qu [20,27] <|
 .ite 28 (
 Qz [.k (.bool false)] <|
 .ret [29]) (
 Qi 82 [21,I 0,I 3] 1 <|
 Qt [29] <|
 .ite 30 (
 Qz [.k (.bool false)] <|
 .ret [31]) (
 .ite 22 (
 Qe [21,I 0] <|
 .ite 31 (
 Qz [.k (.bool false)] <|
 .ret [32]) (
 Qa [16,I 1] <|
 .go 0 [15,32])) (
 Qa [16,I 1] <|
 .go 0 [15,31]))))) (
 Qi 146 [7] 1 <|
 Qi 192 [18,5] 1 <|
 Qz [19] <|
 .ret [20]))))
def kk_:Sem1:=Fs p_i_NodeOk [(82,xK_),(114,xt_),(124,vc_),(146,jm_),(192,qg_)]
def p_i_copyInts:PL :=
 Qp [.e,0] <|
 .ret [1]
def zM_:Sem1:=Fs p_i_copyInts []
def p_i_AreasOf:PL :=
 Qn [1] <|
 .loop [.e,I 0] (
 Ql [6,4] <|
 .ite 7 (
 Q4 [1,6] <|
 Qe [9,3] <|
 .ite 13 (
 .join (
 Qa [6,I 1] <|
 .go 0 [14,15]) (
 .loop [I 0] (
 Qn [5] <|
 Ql [14,15] <|
 .ite 16 (
 Qq [5,14] <|
 Ql [18,12] <|
 .ite 19 (
 Qa [14,I 1] <|
 .go 0 [20]) (
 Qn [5] <|
 Ql [14,20] <|
 .ite 21 (
 Qq [5,14] <|
 Qe [23,12] <|
 .ite 24 (
 .go 1 [5]) (
 Qw [5,14] <|
 Qi 185 [25] 1 <|
 Qx [12] <|
 Qp [26,27] <|
 Qv [5,14] <|
 Qp [28,29] <|
 .go 1 [30])) (
 Qw [5,14] <|
 Qi 185 [22] 1 <|
 Qx [12] <|
 Qp [23,24] <|
 Qv [5,14] <|
 Qp [25,26] <|
 .go 1 [27]))) (
 Qn [5] <|
 Ql [14,17] <|
 .ite 18 (
 Qq [5,14] <|
 Qe [20,12] <|
 .ite 21 (
 .go 1 [5]) (
 Qw [5,14] <|
 Qi 185 [22] 1 <|
 Qx [12] <|
 Qp [23,24] <|
 Qv [5,14] <|
 Qp [25,26] <|
 .go 1 [27])) (
 Qw [5,14] <|
 Qi 185 [19] 1 <|
 Qx [12] <|
 Qp [20,21] <|
 Qv [5,14] <|
 Qp [22,23] <|
 .go 1 [24]))))) (
 Qe [10,3] <|
 .join (
 Qa [6,I 1] <|
 .go 0 [15,16]) (
 .ite 14 (
 .loop [I 0] (
 Qn [5] <|
 Ql [15,16] <|
 .ite 17 (
 Qq [5,15] <|
 Ql [19,12] <|
 .ite 20 (
 Qa [15,I 1] <|
 .go 0 [21]) (
 Qn [5] <|
 Ql [15,21] <|
 .ite 22 (
 Qq [5,15] <|
 Qe [24,12] <|
 .ite 25 (
 .go 1 [5]) (
 Qw [5,15] <|
 Qi 185 [26] 1 <|
 Qx [12] <|
 Qp [27,28] <|
 Qv [5,15] <|
 Qp [29,30] <|
 .go 1 [31])) (
 Qw [5,15] <|
 Qi 185 [23] 1 <|
 Qx [12] <|
 Qp [24,25] <|
 Qv [5,15] <|
 Qp [26,27] <|
 .go 1 [28]))) (
 Qn [5] <|
 Ql [15,18] <|
 .ite 19 (
 Qq [5,15] <|
 Qe [21,12] <|
 .ite 22 (
 .go 1 [5]) (
 Qw [5,15] <|
 Qi 185 [23] 1 <|
 Qx [12] <|
 Qp [24,25] <|
 Qv [5,15] <|
 Qp [26,27] <|
 .go 1 [28])) (
 Qw [5,15] <|
 Qi 185 [20] 1 <|
 Qx [12] <|
 Qp [21,22] <|
 Qv [5,15] <|
 Qp [23,24] <|
 .go 1 [25])))) (
 .go 0 [5])))) (
 .ret [5]))
def y9_:Sem1:=Fs p_i_AreasOf [(185,zM_)]
def p_i_hasInt:PL :=
 Qn [0] <|
 .loop [.k (.bool false),I 0] (
 Ql [4,2] <|
 .ite 5 (
 Q1 [0,4] <|
 Qe [7,1] <|
 .ite 8 (
 Qz [.k (.bool true)] <|
 .ret [9]) (
 Qa [4,I 1] <|
 .go 0 [3,9])) (
 Qz [.k (.bool false)] <|
 .ret [6]))
def we_:Sem1:=Fs p_i_hasInt []
def p_i_Border:PL :=
 Qi 84 [0,1,2,3] 1 <|
 Qi 187 [4,I 0] 1 <|
 .ite 5 (
 Qn [4] <|
 Qg [6,I 1] <|
 Qz [7] <|
 .ret [8]) (
 Qz [.k (.bool false)] <|
 .ret [6])
def va_:Sem1:=Fs p_i_Border [(84,y9_),(187,we_)]
def p_i_SameKey:PL :=
 Qe [0,8] <|
 .ite 16 (
 Qe [1,9] <|
 .ite 17 (
 Qe [2,10] <|
 .ite 18 (
 Qe [3,11] <|
 Qz [19] <|
 .ret [20]) (
 Qz [.k (.bool false)] <|
 .ret [19])) (
 Qz [.k (.bool false)] <|
 .ret [18])) (
 Qz [.k (.bool false)] <|
 .ret [17])
def xY_:Sem1:=Fs p_i_SameKey []
def p_i_keyAt:PL :=
 Qn [0] <|
 .loop [I 0,I 0] (
 Ql [11,9] <|
 .ite 12 (
 Q8 [0,11] <|
 Qi 210 [14,15,16,17,18,19,20,21,1,2,3,4,5,6,7,8] 1 <|
 .ite 22 (
 Qz [11] <|
 .ret [23]) (
 Qa [11,I 1] <|
 .go 0 [10,23])) (
 Qz [.k (.int .i64 (-1))] <|
 .ret [13]))
def xe_:Sem1:=Fs p_i_keyAt [(210,xY_)]
def p_i_told:PL :=
 Qi 204 [0,1,I 1,2,I 0,I 0,.e,I 0,.k (.bool false)] 1 <|
 Ql [4,I 0] <|
 .ite 5 (
 Qz [I 0] <|
 .ret [6]) (
 Qb [0,4] <|
 Qc 8 5 [0,4] <|
 Qn [7] <|
 .loop [I 0,I 0] (
 Ql [10,8] <|
 .ite 11 (
 Q2 [7,10] <|
 Qe [13,3] <|
 .ite 15 (
 Qz [14] <|
 .ret [16]) (
 Qa [10,I 1] <|
 .go 0 [9,16])) (
 Qz [I 0] <|
 .ret [12])))
def kV_:Sem1:=Fs p_i_told [(204,xe_)]
def p_i_Linked:PL :=
 Qi 313 [0,1,3,2] 1 <|
 Qe [4,I 0] <|
 .ite 5 (
 Qz [I 0] <|
 .ret [6]) (
 Qi 313 [0,1,2,3] 1 <|
 Qz [6] <|
 .ret [7])
def q9_:Sem1:=Fs p_i_Linked [(313,kV_)]
def p_i_copyWay:PL :=
 Qi 185 [2] 1 <|
 Qz [1] <|
 Qz [0] <|
 .ret [5,4,3]
def yC_:Sem1:=Fs p_i_copyWay [(185,zM_)]
def p_i_Together:PL :=
 Qg [4,1] <|
 .ite 6 (
 Qi 289 [0,1,2] 3 <|
 Qz [8] <|
 Qz [7] <|
 .ret [11,10,9]) (
 Qg [1,4] <|
 .ite 7 (
 Qi 289 [3,4,5] 3 <|
 Qz [9] <|
 Qz [8] <|
 .ret [12,11,10]) (
 Qn [2] <|
 .loop [I 0,.e] (
 Ql [9,8] <|
 .ite 11 (
 Q1 [2,9] <|
 .loop [I 0] (
 Qn [10] <|
 Ql [14,15] <|
 .ite 16 (
 Qq [10,14] <|
 Ql [18,13] <|
 .ite 19 (
 Qa [14,I 1] <|
 .go 0 [20]) (
 Qn [10] <|
 Ql [14,20] <|
 .ite 21 (
 Qq [10,14] <|
 Qe [23,13] <|
 .ite 24 (
 Qa [9,I 1] <|
 .go 1 [25,10]) (
 Qw [10,14] <|
 Qi 185 [25] 1 <|
 Qx [13] <|
 Qp [26,27] <|
 Qv [10,14] <|
 Qp [28,29] <|
 Qa [9,I 1] <|
 .go 1 [31,30])) (
 Qw [10,14] <|
 Qi 185 [22] 1 <|
 Qx [13] <|
 Qp [23,24] <|
 Qv [10,14] <|
 Qp [25,26] <|
 Qa [9,I 1] <|
 .go 1 [28,27]))) (
 Qn [10] <|
 Ql [14,17] <|
 .ite 18 (
 Qq [10,14] <|
 Qe [20,13] <|
 .ite 21 (
 Qa [9,I 1] <|
 .go 1 [22,10]) (
 Qw [10,14] <|
 Qi 185 [22] 1 <|
 Qx [13] <|
 Qp [23,24] <|
 Qv [10,14] <|
 Qp [25,26] <|
 Qa [9,I 1] <|
 .go 1 [28,27])) (
 Qw [10,14] <|
 Qi 185 [19] 1 <|
 Qx [13] <|
 Qp [20,21] <|
 Qv [10,14] <|
 Qp [22,23] <|
 Qa [9,I 1] <|
 .go 1 [25,24])))) (
 Qn [5] <|
 .loop [I 0,10] (
 Ql [13,12] <|
 .ite 15 (
 Q1 [5,13] <|
 .loop [I 0] (
 Qn [14] <|
 Ql [18,19] <|
 .ite 20 (
 Qq [14,18] <|
 Ql [22,17] <|
 .ite 23 (
 Qa [18,I 1] <|
 .go 0 [24]) (
 Qn [14] <|
 Ql [18,24] <|
 .ite 25 (
 Qq [14,18] <|
 Qe [27,17] <|
 .ite 28 (
 Qa [13,I 1] <|
 .go 1 [29,14]) (
 Qw [14,18] <|
 Qi 185 [29] 1 <|
 Qx [17] <|
 Qp [30,31] <|
 Qv [14,18] <|
 Qp [32,33] <|
 Qa [13,I 1] <|
 .go 1 [35,34])) (
 Qw [14,18] <|
 Qi 185 [26] 1 <|
 Qx [17] <|
 Qp [27,28] <|
 Qv [14,18] <|
 Qp [29,30] <|
 Qa [13,I 1] <|
 .go 1 [32,31]))) (
 Qn [14] <|
 Ql [18,21] <|
 .ite 22 (
 Qq [14,18] <|
 Qe [24,17] <|
 .ite 25 (
 Qa [13,I 1] <|
 .go 1 [26,14]) (
 Qw [14,18] <|
 Qi 185 [26] 1 <|
 Qx [17] <|
 Qp [27,28] <|
 Qv [14,18] <|
 Qp [29,30] <|
 Qa [13,I 1] <|
 .go 1 [32,31])) (
 Qw [14,18] <|
 Qi 185 [23] 1 <|
 Qx [17] <|
 Qp [24,25] <|
 Qv [14,18] <|
 Qp [26,27] <|
 Qa [13,I 1] <|
 .go 1 [29,28])))) (
 Qz [1] <|
 Qz [0] <|
 .ret [17,16,14]))))))
def z0_:Sem1:=Fs p_i_Together [(185,zM_),(289,yC_)]
def p_i_WaysIn:PL :=
 Qi 202 [0] 1 <|
 Qt [3] <|
 .ite 4 (
 .ret [.e]) (
 Qi 82 [2,I 1,I 6] 1 <|
 Qt [5] <|
 .ite 6 (
 .ret [.e]) (
 Qi 204 [0,1,I 1,2,I 0,I 0,.e,I 0,.k (.bool false)] 1 <|
 Ql [7,I 0] <|
 .ite 8 (
 .ret [.e]) (
 Q (.mk) [I 7,I 7,I 0,I 0,.e] <|
 Qb [9,2] <|
 Q (.put true 3 0 1) [9,2,2] <|
 .loop [.e,11] (
 .loop [I 0,I 1] (
 Qm [15,I 6] <|
 .ite 16 (
 Qb [13,15] <|
 Qc 3 0 [13,15] <|
 Qu [18,I 0] <|
 .ite 19 (
 Qi 187 [12,15] 1 <|
 Qt [20] <|
 .ite 21 (
 Qe [14,I 0] <|
 .ite 22 (
 .join (
 Qa [15,I 1] <|
 .go 0 [23,24]) (
 .go 0 [15])) (
 Qb [13,15] <|
 Qc 3 1 [13,15] <|
 Qb [13,14] <|
 Qc 3 1 [13,14] <|
 Ql [24,26] <|
 .join (
 Qa [15,I 1] <|
 .go 0 [28,29]) (
 .ite 27 (
 .go 0 [15]) (
 .go 0 [14])))) (
 .join (
 Qa [15,I 1] <|
 .go 0 [22,23]) (
 .go 0 [14]))) (
 .join (
 Qa [15,I 1] <|
 .go 0 [20,21]) (
 .go 0 [14]))) (
 Qe [14,I 0] <|
 .ite 17 (
 Qn [13] <|
 .loop [.e,I 0,13] (
 Ql [20,18] <|
 .ite 22 (
 Q3 [21,20] <|
 Qu [24,I 0] <|
 .join (
 Qa [20,I 1] <|
 .go 0 [28,29,21]) (
 .ite 27 (
 Q (.lit 3 []) [24,25,26] <|
 Qo [19,28] <|
 .go 0 [29]) (
 .go 0 [19]))) (
 .ret [19]))) (
 Qx [14] <|
 Qp [12,18] <|
 .loop [I 1,13] (
 Qm [20,I 6] <|
 .ite 22 (
 Qi 308 [0,1,14,20] 1 <|
 Qe [23,I 0] <|
 .ite 24 (
 Qa [20,I 1] <|
 .go 0 [25,21]) (
 Qe [20,2] <|
 .ite 25 (
 Qa [20,I 1] <|
 .go 0 [26,21]) (
 Qb [21,14] <|
 Qc 3 1 [21,14] <|
 Qa [27,23] <|
 Qb [21,14] <|
 Qc 3 2 [21,14] <|
 Qi 185 [30] 1 <|
 Qe [14,2] <|
 .join (
 Q3 [21,20] <|
 Qe [35,I 0] <|
 .ite 38 (
 .join (
 Qa [20,I 1] <|
 .go 0 [40,39]) (
 Qb [21,20] <|
 Q (.put false 3 0 3) [21,20,20,28,33] <|
 .go 0 [40])) (
 Ql [28,36] <|
 .join (
 Qa [20,I 1] <|
 .go 0 [41,40]) (
 .ite 39 (
 Qb [21,20] <|
 Q (.put false 3 0 3) [21,20,20,28,33] <|
 .go 0 [41]) (
 Qe [28,36] <|
 .join (
 .go 0 [41]) (
 .ite 40 (
 Qi 257 [35,36,37,20,28,33] 3 <|
 Qb [21,20] <|
 Q (.put false 3 0 3) [21,20,41,42,43] <|
 .go 0 [45]) (
 .go 0 [21])))))) (
 .ite 32 (
 Qx [20] <|
 .go 0 [33]) (
 .go 0 [31]))))) (
 .go 2 [19,21])))))))))
def wg_:Sem1:=Fs p_i_WaysIn [(82,xK_),(185,zM_),(187,we_),(202,wO_),(204,xe_),(257,z0_),(308,q9_)]
def p_i_RoutesWithin:PL :=
 Qn [1] <|
 .loop [.e,I 0] (
 Ql [5,3] <|
 .ite 6 (
 Q1 [1,5] <|
 Qi 254 [0,8,2] 1 <|
 Qn [9] <|
 .loop [4,I 0] (
 Ql [12,10] <|
 .ite 13 (
 Q3 [9,12] <|
 .loop [I 0] (
 Qn [11] <|
 Ql [18,19] <|
 .ite 20 (
 Qb [11,18] <|
 Qc 3 0 [11,18] <|
 Ql [22,15] <|
 .ite 23 (
 Qa [18,I 1] <|
 .go 0 [24]) (
 Qn [11] <|
 Ql [18,24] <|
 .ite 25 (
 Qb [11,18] <|
 Qc 3 0 [11,18] <|
 Qe [27,15] <|
 .ite 28 (
 Q3 [11,18] <|
 Qi 257 [30,31,32,15,16,17] 3 <|
 Qb [11,18] <|
 Q (.put false 3 0 3) [11,18,33,34,35] <|
 Qa [12,I 1] <|
 .go 1 [37,38]) (
 Q (.sub 3 false true) [11,18] <|
 Qo [.e,29] <|
 Qi 289 [15,16,17] 3 <|
 Q (.lit 3 [true,true,false]) [31,32,33] <|
 Qo [30,34] <|
 Q (.sub 3 true false) [11,18] <|
 Qo [35,36] <|
 Qa [12,I 1] <|
 .go 1 [37,38])) (
 Q (.sub 3 false true) [11,18] <|
 Qo [.e,26] <|
 Qi 289 [15,16,17] 3 <|
 Q (.lit 3 [true,true,false]) [28,29,30] <|
 Qo [27,31] <|
 Q (.sub 3 true false) [11,18] <|
 Qo [32,33] <|
 Qa [12,I 1] <|
 .go 1 [34,35]))) (
 Qn [11] <|
 Ql [18,21] <|
 .ite 22 (
 Qb [11,18] <|
 Qc 3 0 [11,18] <|
 Qe [24,15] <|
 .ite 25 (
 Q3 [11,18] <|
 Qi 257 [27,28,29,15,16,17] 3 <|
 Qb [11,18] <|
 Q (.put false 3 0 3) [11,18,30,31,32] <|
 Qa [12,I 1] <|
 .go 1 [34,35]) (
 Q (.sub 3 false true) [11,18] <|
 Qo [.e,26] <|
 Qi 289 [15,16,17] 3 <|
 Q (.lit 3 [true,true,false]) [28,29,30] <|
 Qo [27,31] <|
 Q (.sub 3 true false) [11,18] <|
 Qo [32,33] <|
 Qa [12,I 1] <|
 .go 1 [34,35])) (
 Q (.sub 3 false true) [11,18] <|
 Qo [.e,23] <|
 Qi 289 [15,16,17] 3 <|
 Q (.lit 3 [true,true,false]) [25,26,27] <|
 Qo [24,28] <|
 Q (.sub 3 true false) [11,18] <|
 Qo [29,30] <|
 Qa [12,I 1] <|
 .go 1 [31,32])))) (
 Qa [5,I 1] <|
 .go 1 [11,14]))) (
 .ret [4]))
def yH_:Sem1:=Fs p_i_RoutesWithin [(254,wg_),(257,z0_),(289,yC_)]
def p_i_WayTo:PL :=
 Qn [0] <|
 .loop [.k (.bool false),I 0] (
 Ql [4,2] <|
 .ite 5 (
 Q3 [0,4] <|
 Qe [7,1] <|
 .ite 10 (
 Qi 289 [7,8,9] 3 <|
 Qz [.k (.bool true)] <|
 Qz [12] <|
 Qz [11] <|
 .ret [16,15,13,14]) (
 Qa [4,I 1] <|
 .go 0 [3,11])) (
 Qz [.k (.bool false)] <|
 Qz [I 0] <|
 Qz [I 0] <|
 .ret [8,7,.e,6]))
def wp_:Sem1:=Fs p_i_WayTo [(289,yC_)]
def p_i_RoutesBeyond:PL :=
 Qi 183 [0,1,3] 1 <|
 Qn [0] <|
 .loop [.e,I 0] (
 Ql [7,5] <|
 .ite 8 (
 Q8 [0,7] <|
 Qu [11,I 2] <|
 .ite 18 (
 Qa [7,I 1] <|
 .go 0 [6,19]) (
 Qh [16,I 60000] <|
 .ite 19 (
 Qa [7,I 1] <|
 .go 0 [6,20]) (
 Qe [12,3] <|
 .ite 20 (
 Qa [7,I 1] <|
 .go 0 [6,21]) (
 Qi 187 [1,10] 1 <|
 Qt [21] <|
 .ite 22 (
 Qa [7,I 1] <|
 .go 0 [6,23]) (
 .ite 2 (
 Qu [10,I 0] <|
 .ite 23 (
 Qa [7,I 1] <|
 .go 0 [6,24]) (
 Qi 256 [4,13] 4 <|
 Qi 254 [0,10,3] 1 <|
 Qi 256 [28,12] 4 <|
 .ite 27 (
 Qa [7,I 1] <|
 .go 0 [6,33]) (
 Qt [32] <|
 .ite 33 (
 Qa [7,I 1] <|
 .go 0 [6,34]) (
 Qa [16,30] <|
 Qh [34,I 60000] <|
 .ite 35 (
 Qa [7,I 1] <|
 .go 0 [6,36]) (
 Qa [16,30] <|
 .loop [I 0] (
 Qn [6] <|
 Ql [37,38] <|
 .ite 39 (
 Qb [6,37] <|
 Qc 3 0 [6,37] <|
 Ql [41,13] <|
 .ite 42 (
 Qa [37,I 1] <|
 .go 0 [43]) (
 Qn [6] <|
 Ql [37,43] <|
 .ite 44 (
 Qb [6,37] <|
 Qc 3 0 [6,37] <|
 Qe [46,13] <|
 .ite 47 (
 Q3 [6,37] <|
 Qi 257 [49,50,51,13,36,31] 3 <|
 Qb [6,37] <|
 Q (.put false 3 0 3) [6,37,52,53,54] <|
 Qa [7,I 1] <|
 .go 1 [56,57]) (
 Q (.sub 3 false true) [6,37] <|
 Qo [.e,48] <|
 Qi 289 [13,36,31] 3 <|
 Q (.lit 3 [true,true,false]) [50,51,52] <|
 Qo [49,53] <|
 Q (.sub 3 true false) [6,37] <|
 Qo [54,55] <|
 Qa [7,I 1] <|
 .go 1 [56,57])) (
 Q (.sub 3 false true) [6,37] <|
 Qo [.e,45] <|
 Qi 289 [13,36,31] 3 <|
 Q (.lit 3 [true,true,false]) [47,48,49] <|
 Qo [46,50] <|
 Q (.sub 3 true false) [6,37] <|
 Qo [51,52] <|
 Qa [7,I 1] <|
 .go 1 [53,54]))) (
 Qn [6] <|
 Ql [37,40] <|
 .ite 41 (
 Qb [6,37] <|
 Qc 3 0 [6,37] <|
 Qe [43,13] <|
 .ite 44 (
 Q3 [6,37] <|
 Qi 257 [46,47,48,13,36,31] 3 <|
 Qb [6,37] <|
 Q (.put false 3 0 3) [6,37,49,50,51] <|
 Qa [7,I 1] <|
 .go 1 [53,54]) (
 Q (.sub 3 false true) [6,37] <|
 Qo [.e,45] <|
 Qi 289 [13,36,31] 3 <|
 Q (.lit 3 [true,true,false]) [47,48,49] <|
 Qo [46,50] <|
 Q (.sub 3 true false) [6,37] <|
 Qo [51,52] <|
 Qa [7,I 1] <|
 .go 1 [53,54])) (
 Q (.sub 3 false true) [6,37] <|
 Qo [.e,42] <|
 Qi 289 [13,36,31] 3 <|
 Q (.lit 3 [true,true,false]) [44,45,46] <|
 Qo [43,47] <|
 Q (.sub 3 true false) [6,37] <|
 Qo [48,49] <|
 Qa [7,I 1] <|
 .go 1 [50,51])))))))) (
 Qi 256 [4,13] 4 <|
 Qi 254 [0,10,3] 1 <|
 Qi 256 [27,12] 4 <|
 .ite 26 (
 Qa [7,I 1] <|
 .go 0 [6,32]) (
 Qt [31] <|
 .ite 32 (
 Qa [7,I 1] <|
 .go 0 [6,33]) (
 Qa [16,29] <|
 Qh [33,I 60000] <|
 .ite 34 (
 Qa [7,I 1] <|
 .go 0 [6,35]) (
 Qa [16,29] <|
 .loop [I 0] (
 Qn [6] <|
 Ql [36,37] <|
 .ite 38 (
 Qb [6,36] <|
 Qc 3 0 [6,36] <|
 Ql [40,13] <|
 .ite 41 (
 Qa [36,I 1] <|
 .go 0 [42]) (
 Qn [6] <|
 Ql [36,42] <|
 .ite 43 (
 Qb [6,36] <|
 Qc 3 0 [6,36] <|
 Qe [45,13] <|
 .ite 46 (
 Q3 [6,36] <|
 Qi 257 [48,49,50,13,35,30] 3 <|
 Qb [6,36] <|
 Q (.put false 3 0 3) [6,36,51,52,53] <|
 Qa [7,I 1] <|
 .go 1 [55,56]) (
 Q (.sub 3 false true) [6,36] <|
 Qo [.e,47] <|
 Qi 289 [13,35,30] 3 <|
 Q (.lit 3 [true,true,false]) [49,50,51] <|
 Qo [48,52] <|
 Q (.sub 3 true false) [6,36] <|
 Qo [53,54] <|
 Qa [7,I 1] <|
 .go 1 [55,56])) (
 Q (.sub 3 false true) [6,36] <|
 Qo [.e,44] <|
 Qi 289 [13,35,30] 3 <|
 Q (.lit 3 [true,true,false]) [46,47,48] <|
 Qo [45,49] <|
 Q (.sub 3 true false) [6,36] <|
 Qo [50,51] <|
 Qa [7,I 1] <|
 .go 1 [52,53]))) (
 Qn [6] <|
 Ql [36,39] <|
 .ite 40 (
 Qb [6,36] <|
 Qc 3 0 [6,36] <|
 Qe [42,13] <|
 .ite 43 (
 Q3 [6,36] <|
 Qi 257 [45,46,47,13,35,30] 3 <|
 Qb [6,36] <|
 Q (.put false 3 0 3) [6,36,48,49,50] <|
 Qa [7,I 1] <|
 .go 1 [52,53]) (
 Q (.sub 3 false true) [6,36] <|
 Qo [.e,44] <|
 Qi 289 [13,35,30] 3 <|
 Q (.lit 3 [true,true,false]) [46,47,48] <|
 Qo [45,49] <|
 Q (.sub 3 true false) [6,36] <|
 Qo [50,51] <|
 Qa [7,I 1] <|
 .go 1 [52,53])) (
 Q (.sub 3 false true) [6,36] <|
 Qo [.e,41] <|
 Qi 289 [13,35,30] 3 <|
 Q (.lit 3 [true,true,false]) [43,44,45] <|
 Qo [42,46] <|
 Q (.sub 3 true false) [6,36] <|
 Qo [47,48] <|
 Qa [7,I 1] <|
 .go 1 [49,50])))))))))))) (
 .ret [6]))
def xx_:Sem1:=Fs p_i_RoutesBeyond [(183,yH_),(187,we_),(254,wg_),(256,wp_),(257,z0_),(289,yC_)]
def p_i_thing:PL :=
 Qn [0] <|
 .loop [.k (.bool false),.k (.bool false),I 0,I 0,I 0,I 0,.e,I 0,I 0,.e] (
 Ql [8,4] <|
 .ite 15 (
 Q8 [0,8] <|
 Qu [18,I 3] <|
 .ite 25 (
 Qa [8,I 1] <|
 .go 0 [5,6,7,26,9,10,11,12,13,14]) (
 Qu [20,1] <|
 .ite 26 (
 Qa [8,I 1] <|
 .go 0 [5,6,7,27,9,10,11,12,13,14]) (
 Qh [23,I 60000] <|
 .ite 27 (
 Qa [8,I 1] <|
 .go 0 [5,6,7,28,9,10,11,12,13,14]) (
 Qi 256 [3,19] 4 <|
 Qe [19,2] <|
 .join (
 Qt [36] <|
 .ite 37 (
 Qa [8,I 1] <|
 .go 0 [5,6,7,38,9,10,11,12,13,14]) (
 Qt [24] <|
 .ite 38 (
 Qa [34,23] <|
 .join (
 Qa [8,I 1] <|
 .go 0 [.k (.bool true),6,7,43,40,41,42,12,13,14]) (
 .ite 5 (
 Qi 257 [9,10,11,1,39,35] 3 <|
 .go 0 [40,41,42]) (
 .go 0 [1,39,35]))) (
 .ite 6 (
 Qe [23,7] <|
 .join (
 Qt [6] <|
 .ite 43 (
 .join (
 Qa [8,I 1] <|
 .go 0 [5,47,48,49,9,10,11,44,45,46]) (
 .go 0 [40,41,42,.k (.bool true),23])) (
 Qm [23,7] <|
 .join (
 Qa [8,I 1] <|
 .go 0 [5,48,49,50,9,10,11,45,46,47]) (
 .ite 44 (
 .go 0 [40,41,42,.k (.bool true),23]) (
 .go 0 [12,13,14,6,7])))) (
 .ite 39 (
 Qi 257 [12,13,14,1,34,35] 3 <|
 .go 0 [40,41,42]) (
 .go 0 [1,34,35]))) (
 .join (
 Qt [6] <|
 .ite 42 (
 .join (
 Qa [8,I 1] <|
 .go 0 [5,46,47,48,9,10,11,43,44,45]) (
 .go 0 [39,40,41,.k (.bool true),23])) (
 Qm [23,7] <|
 .join (
 Qa [8,I 1] <|
 .go 0 [5,47,48,49,9,10,11,44,45,46]) (
 .ite 43 (
 .go 0 [39,40,41,.k (.bool true),23]) (
 .go 0 [12,13,14,6,7])))) (
 .go 0 [1,34,35]))))) (
 .ite 32 (
 .go 0 [I 0,I 0,.e,.k (.bool true)]) (
 .go 0 [28,29,30,31])))))) (
 .ite 5 (
 Qz [.k (.bool true)] <|
 Qz [I 0] <|
 Qz [10] <|
 Qz [I 3] <|
 Qz [1] <|
 Qz [.k (.bool true)] <|
 .ret [21,20,19,18,17,11,16]) (
 Qz [6] <|
 Qz [7] <|
 Qz [13] <|
 Qz [I 4] <|
 Qz [1] <|
 Qz [.k (.bool true)] <|
 .ret [21,20,19,18,17,14,16])))
def aao_:Sem1:=Fs p_i_thing [(256,wp_),(257,z0_)]
def p_i_RoutesOf:PL :=
 Qi 183 [0,1,3] 1 <|
 Qi 184 [0,1,2,3] 1 <|
 Qn [4] <|
 .loop [.e,I 0,4] (
 Ql [8,6] <|
 .ite 10 (
 Q3 [9,8] <|
 Qu [12,3] <|
 .join (
 Qa [8,I 1] <|
 .go 0 [16,17,9]) (
 .ite 15 (
 Qi 185 [14] 1 <|
 Q (.lit 6 [true,true,true,true,true,false]) [.k (.bool false),12,I 1,13,I 0,16] <|
 Q (.app false 6) [7,17] <|
 .go 0 [18]) (
 .go 0 [7]))) (
 Qn [5] <|
 .loop [7,I 0,5] (
 Ql [13,11] <|
 .ite 15 (
 Q3 [14,13] <|
 Qi 185 [19] 1 <|
 Q (.lit 6 [true,true,true,true,true,false]) [.k (.bool false),17,I 2,18,I 0,20] <|
 Q (.app false 6) [12,21] <|
 Qa [13,I 1] <|
 .go 0 [22,23,14]) (
 Qn [0] <|
 .loop [.e,I 0] (
 Ql [18,16] <|
 .ite 19 (
 Q8 [0,18] <|
 Qe [22,I 3] <|
 .ite 29 (
 Ql [27,I 60000] <|
 .join (
 Qa [18,I 1] <|
 .go 0 [31,32]) (
 .ite 30 (
 .loop [I 0] (
 Qn [17] <|
 Ql [31,32] <|
 .ite 33 (
 Qq [17,31] <|
 Ql [35,24] <|
 .ite 36 (
 Qa [31,I 1] <|
 .go 0 [37]) (
 Qn [17] <|
 Ql [31,37] <|
 .ite 38 (
 Qq [17,31] <|
 Qe [40,24] <|
 .ite 41 (
 .go 1 [17]) (
 Qw [17,31] <|
 Qi 185 [42] 1 <|
 Qx [24] <|
 Qp [43,44] <|
 Qv [17,31] <|
 Qp [45,46] <|
 .go 1 [47])) (
 Qw [17,31] <|
 Qi 185 [39] 1 <|
 Qx [24] <|
 Qp [40,41] <|
 Qv [17,31] <|
 Qp [42,43] <|
 .go 1 [44]))) (
 Qn [17] <|
 Ql [31,34] <|
 .ite 35 (
 Qq [17,31] <|
 Qe [37,24] <|
 .ite 38 (
 .go 1 [17]) (
 Qw [17,31] <|
 Qi 185 [39] 1 <|
 Qx [24] <|
 Qp [40,41] <|
 Qv [17,31] <|
 Qp [42,43] <|
 .go 1 [44])) (
 Qw [17,31] <|
 Qi 185 [36] 1 <|
 Qx [24] <|
 Qp [37,38] <|
 Qv [17,31] <|
 Qp [39,40] <|
 .go 1 [41])))) (
 .go 0 [17]))) (
 .join (
 Qa [18,I 1] <|
 .go 0 [30,31]) (
 .go 0 [17]))) (
 Qo [.e,9] <|
 Qo [20,14] <|
 Qn [17] <|
 .loop [12,I 0] (
 Ql [24,22] <|
 .ite 25 (
 Qq [17,24] <|
 Qi 186 [0,27,3,21] 7 <|
 .join (
 Qa [24,I 1] <|
 .go 0 [35,36]) (
 .ite 34 (
 Q (.lit 6 [true,true,true,true,true,false]) [28,29,30,31,32,33] <|
 Q (.app false 6) [23,35] <|
 .go 0 [36]) (
 .go 0 [23]))) (
 .ret [23]))))))))
def qo_:Sem1:=Fs p_i_RoutesOf [(183,yH_),(184,xx_),(185,zM_),(186,aao_)]
def p_i_Routes:PL :=
 Qi 94 [0,1,2,3,4,5,6,7] 1 <|
 Qt [8] <|
 .ite 9 (
 .ret [.e]) (
 Qi 84 [2,3,4,0] 1 <|
 Qi 85 [2,3,4,0] 1 <|
 Qi 83 [6,10,11,0] 1 <|
 .ret [12])
def ain_:Sem1:=Fs p_i_Routes [(83,qo_),(84,y9_),(85,va_),(94,kk_)]
def p_eqIntS:PL :=
 .ins (.pr (.len) [.a 0]) <|
 .ins (.pr (.len) [.a 1]) <|
 .ins (.pr (.bin .neq) [.a 2,.a 3]) <|
 .ite 4 (
  .ins (.pr (.scl) [.k (.bool false)]) <|
  .ret [.a 5]) (
  .loop [.k (.bool false),.k (.int .i64 0)] (
  .ins (.pr (.len) [.a 0]) <|
  .ins (.pr (.bin .lss) [.a 6,.a 7]) <|
  .ite 8 (
   .ins (.pr (.bnd) [.a 0,.a 6]) <|
   .ins (.pr (.cell 1 0) [.a 0,.a 6]) <|
   .ins (.pr (.bnd) [.a 1,.a 6]) <|
   .ins (.pr (.cell 1 0) [.a 1,.a 6]) <|
   .ins (.pr (.bin .neq) [.a 10,.a 12]) <|
   .ite 13 (
   .ins (.pr (.scl) [.k (.bool false)]) <|
   .ret [.a 14]) (
   .ins (.pr (.bin .add) [.a 6,.k (.int .i64 1)]) <|
   .go 0 [.a 5,.a 14])) (
   .ins (.pr (.scl) [.k (.bool true)]) <|
   .ret [.a 9])))
def av7_:Nat→Sem1:=pick []
def ai6_:Sem1:=fun ts=>p_eqIntS.den av7_ rounds [] ts
def p_eqLink:PL :=
 .ins (.pr (.bin .neq) [.a 0,.a 4]) <|
 .ite 8 (
  .ins (.pr (.scl) [.k (.bool false)]) <|
  .ret [.a 9]) (
  .ins (.pr (.bin .neq) [.a 1,.a 5]) <|
  .ite 9 (
  .ins (.pr (.scl) [.k (.bool false)]) <|
  .ret [.a 10]) (
  .ins (.pr (.bin .neq) [.a 2,.a 6]) <|
  .ite 10 (
   .ins (.pr (.scl) [.k (.bool false)]) <|
   .ret [.a 11]) (
   .ins (.pr (.bin .neq) [.a 3,.a 7]) <|
   .ite 11 (
   .ins (.pr (.scl) [.k (.bool false)]) <|
   .ret [.a 12]) (
   .ins (.pr (.scl) [.k (.bool true)]) <|
   .ret [.a 12]))))
def aNt_:Nat→Sem1:=pick []
def ahe_:Sem1:=fun ts=>p_eqLink.den aNt_ rounds [] ts
def p_eqLinkS:PL :=
 .ins (.pr (.len) [.a 0]) <|
 .ins (.pr (.len) [.a 1]) <|
 .ins (.pr (.bin .neq) [.a 2,.a 3]) <|
 .ite 4 (
  .ins (.pr (.scl) [.k (.bool false)]) <|
  .ret [.a 5]) (
  .loop [.k (.bool false),.k (.int .i64 0)] (
  .ins (.pr (.len) [.a 0]) <|
  .ins (.pr (.bin .lss) [.a 6,.a 7]) <|
  .ite 8 (
   .ins (.pr (.bnd) [.a 0,.a 6]) <|
   .ins (.pr (.cell 4 0) [.a 0,.a 6]) <|
   .ins (.pr (.cell 4 1) [.a 0,.a 6]) <|
   .ins (.pr (.cell 4 2) [.a 0,.a 6]) <|
   .ins (.pr (.cell 4 3) [.a 0,.a 6]) <|
   .ins (.pr (.bnd) [.a 1,.a 6]) <|
   .ins (.pr (.cell 4 0) [.a 1,.a 6]) <|
   .ins (.pr (.cell 4 1) [.a 1,.a 6]) <|
   .ins (.pr (.cell 4 2) [.a 1,.a 6]) <|
   .ins (.pr (.cell 4 3) [.a 1,.a 6]) <|
   .ins (.cl 188 [.a 10,.a 11,.a 12,.a 13,.a 15,.a 16,.a 17,.a 18] 1) <|
   .ins (.pr (.un .not) [.a 19]) <|
   .ite 20 (
   .ins (.pr (.scl) [.k (.bool false)]) <|
   .ret [.a 21]) (
   .ins (.pr (.bin .add) [.a 6,.k (.int .i64 1)]) <|
   .go 0 [.a 5,.a 21])) (
   .ins (.pr (.scl) [.k (.bool true)]) <|
   .ret [.a 9])))
def asr_:Nat→Sem1:=pick [(188,ahe_)]
def adx_:Sem1:=fun ts=>p_eqLinkS.den asr_ rounds [] ts
def p_eqThing:PL :=
 .ins (.pr (.bin .neq) [.a 0,.a 4]) <|
 .ite 8 (
  .ins (.pr (.scl) [.k (.bool false)]) <|
  .ret [.a 9]) (
  .ins (.pr (.bin .neq) [.a 1,.a 5]) <|
  .ite 9 (
  .ins (.pr (.scl) [.k (.bool false)]) <|
  .ret [.a 10]) (
  .ins (.pr (.bin .neq) [.a 2,.a 6]) <|
  .ite 10 (
   .ins (.pr (.scl) [.k (.bool false)]) <|
   .ret [.a 11]) (
   .ins (.pr (.bb .neq) [.a 3,.a 7]) <|
   .ite 11 (
   .ins (.pr (.scl) [.k (.bool false)]) <|
   .ret [.a 12]) (
   .ins (.pr (.scl) [.k (.bool true)]) <|
   .ret [.a 12]))))
def aKe_:Nat→Sem1:=pick []
def ad1_:Sem1:=fun ts=>p_eqThing.den aKe_ rounds [] ts
def p_eqThingS:PL :=
 .ins (.pr (.len) [.a 0]) <|
 .ins (.pr (.len) [.a 1]) <|
 .ins (.pr (.bin .neq) [.a 2,.a 3]) <|
 .ite 4 (
  .ins (.pr (.scl) [.k (.bool false)]) <|
  .ret [.a 5]) (
  .loop [.k (.bool false),.k (.int .i64 0)] (
  .ins (.pr (.len) [.a 0]) <|
  .ins (.pr (.bin .lss) [.a 6,.a 7]) <|
  .ite 8 (
   .ins (.pr (.bnd) [.a 0,.a 6]) <|
   .ins (.pr (.cell 4 0) [.a 0,.a 6]) <|
   .ins (.pr (.cell 4 1) [.a 0,.a 6]) <|
   .ins (.pr (.cell 4 2) [.a 0,.a 6]) <|
   .ins (.pr (.cell 4 3) [.a 0,.a 6]) <|
   .ins (.pr (.bnd) [.a 1,.a 6]) <|
   .ins (.pr (.cell 4 0) [.a 1,.a 6]) <|
   .ins (.pr (.cell 4 1) [.a 1,.a 6]) <|
   .ins (.pr (.cell 4 2) [.a 1,.a 6]) <|
   .ins (.pr (.cell 4 3) [.a 1,.a 6]) <|
   .ins (.cl 189 [.a 10,.a 11,.a 12,.a 13,.a 15,.a 16,.a 17,.a 18] 1) <|
   .ins (.pr (.un .not) [.a 19]) <|
   .ite 20 (
   .ins (.pr (.scl) [.k (.bool false)]) <|
   .ret [.a 21]) (
   .ins (.pr (.bin .add) [.a 6,.k (.int .i64 1)]) <|
   .go 0 [.a 5,.a 21])) (
   .ins (.pr (.scl) [.k (.bool true)]) <|
   .ret [.a 9])))
def aph_:Nat→Sem1:=pick [(189,ad1_)]
def aa4_:Sem1:=fun ts=>p_eqThingS.den aph_ rounds [] ts
def p_eqNet:PL :=
 .ins (.pr (.bin .neq) [.a 0,.a 3]) <|
 .ite 6 (
  .ins (.pr (.scl) [.k (.bool false)]) <|
  .ret [.a 7]) (
  .ins (.cl 87 [.a 1,.a 4] 1) <|
  .ins (.pr (.un .not) [.a 7]) <|
  .ite 8 (
  .ins (.pr (.scl) [.k (.bool false)]) <|
  .ret [.a 9]) (
  .ins (.cl 88 [.a 2,.a 5] 1) <|
  .ins (.pr (.un .not) [.a 9]) <|
  .ite 10 (
   .ins (.pr (.scl) [.k (.bool false)]) <|
   .ret [.a 11]) (
   .ins (.pr (.scl) [.k (.bool true)]) <|
   .ret [.a 11])))
def ark_:Nat→Sem1:=pick [(87,adx_),(88,aa4_)]
def kN_:Sem1:=fun ts=>p_eqNet.den ark_ rounds [] ts
def p_eqNear:PL :=
 .ins (.pr (.bin .neq) [.a 0,.a 2]) <|
 .ite 4 (
  .ins (.pr (.scl) [.k (.bool false)]) <|
  .ret [.a 5]) (
  .ins (.pr (.bin .neq) [.a 1,.a 3]) <|
  .ite 5 (
  .ins (.pr (.scl) [.k (.bool false)]) <|
  .ret [.a 6]) (
  .ins (.pr (.scl) [.k (.bool true)]) <|
  .ret [.a 6]))
def aOs_:Nat→Sem1:=pick []
def agp_:Sem1:=fun ts=>p_eqNear.den aOs_ rounds [] ts
def p_eqNearS:PL :=
 .ins (.pr (.len) [.a 0]) <|
 .ins (.pr (.len) [.a 1]) <|
 .ins (.pr (.bin .neq) [.a 2,.a 3]) <|
 .ite 4 (
  .ins (.pr (.scl) [.k (.bool false)]) <|
  .ret [.a 5]) (
  .loop [.k (.bool false),.k (.int .i64 0)] (
  .ins (.pr (.len) [.a 0]) <|
  .ins (.pr (.bin .lss) [.a 6,.a 7]) <|
  .ite 8 (
   .ins (.pr (.bnd) [.a 0,.a 6]) <|
   .ins (.pr (.cell 2 0) [.a 0,.a 6]) <|
   .ins (.pr (.cell 2 1) [.a 0,.a 6]) <|
   .ins (.pr (.bnd) [.a 1,.a 6]) <|
   .ins (.pr (.cell 2 0) [.a 1,.a 6]) <|
   .ins (.pr (.cell 2 1) [.a 1,.a 6]) <|
   .ins (.cl 263 [.a 10,.a 11,.a 13,.a 14] 1) <|
   .ins (.pr (.un .not) [.a 15]) <|
   .ite 16 (
   .ins (.pr (.scl) [.k (.bool false)]) <|
   .ret [.a 17]) (
   .ins (.pr (.bin .add) [.a 6,.k (.int .i64 1)]) <|
   .go 0 [.a 5,.a 17])) (
   .ins (.pr (.scl) [.k (.bool true)]) <|
   .ret [.a 9])))
def arw_:Nat→Sem1:=pick [(263,agp_)]
def ad6_:Sem1:=fun ts=>p_eqNearS.den arw_ rounds [] ts
def p_eqRecord:PL :=
 .ins (.pr (.bin .neq) [.a 0,.a 8]) <|
 .ite 16 (
  .ins (.pr (.scl) [.k (.bool false)]) <|
  .ret [.a 17]) (
  .ins (.pr (.bin .neq) [.a 1,.a 9]) <|
  .ite 17 (
  .ins (.pr (.scl) [.k (.bool false)]) <|
  .ret [.a 18]) (
  .ins (.pr (.bin .neq) [.a 2,.a 10]) <|
  .ite 18 (
   .ins (.pr (.scl) [.k (.bool false)]) <|
   .ret [.a 19]) (
   .ins (.pr (.bin .neq) [.a 3,.a 11]) <|
   .ite 19 (
   .ins (.pr (.scl) [.k (.bool false)]) <|
   .ret [.a 20]) (
   .ins (.pr (.bin .neq) [.a 4,.a 12]) <|
   .ite 20 (
    .ins (.pr (.scl) [.k (.bool false)]) <|
    .ret [.a 21]) (
    .ins (.cl 211 [.a 5,.a 13] 1) <|
    .ins (.pr (.un .not) [.a 21]) <|
    .ite 22 (
    .ins (.pr (.scl) [.k (.bool false)]) <|
    .ret [.a 23]) (
    .ins (.pr (.bin .neq) [.a 6,.a 14]) <|
    .ite 23 (
     .ins (.pr (.scl) [.k (.bool false)]) <|
     .ret [.a 24]) (
     .ins (.pr (.bb .neq) [.a 7,.a 15]) <|
     .ite 24 (
     .ins (.pr (.scl) [.k (.bool false)]) <|
     .ret [.a 25]) (
     .ins (.pr (.scl) [.k (.bool true)]) <|
     .ret [.a 25]))))))))
def ao4_:Nat→Sem1:=pick [(211,ad6_)]
def aa7_:Sem1:=fun ts=>p_eqRecord.den ao4_ rounds [] ts
def p_eqRecordS:PL :=
 .ins (.pr (.len) [.a 0]) <|
 .ins (.pr (.len) [.a 1]) <|
 .ins (.pr (.bin .neq) [.a 2,.a 3]) <|
 .ite 4 (
  .ins (.pr (.scl) [.k (.bool false)]) <|
  .ret [.a 5]) (
  .loop [.k (.bool false),.k (.int .i64 0)] (
  .ins (.pr (.len) [.a 0]) <|
  .ins (.pr (.bin .lss) [.a 6,.a 7]) <|
  .ite 8 (
   .ins (.pr (.bnd) [.a 0,.a 6]) <|
   .ins (.pr (.cell 8 0) [.a 0,.a 6]) <|
   .ins (.pr (.cell 8 1) [.a 0,.a 6]) <|
   .ins (.pr (.cell 8 2) [.a 0,.a 6]) <|
   .ins (.pr (.cell 8 3) [.a 0,.a 6]) <|
   .ins (.pr (.cell 8 4) [.a 0,.a 6]) <|
   .ins (.pr (.cell 8 5) [.a 0,.a 6]) <|
   .ins (.pr (.cell 8 6) [.a 0,.a 6]) <|
   .ins (.pr (.cell 8 7) [.a 0,.a 6]) <|
   .ins (.pr (.bnd) [.a 1,.a 6]) <|
   .ins (.pr (.cell 8 0) [.a 1,.a 6]) <|
   .ins (.pr (.cell 8 1) [.a 1,.a 6]) <|
   .ins (.pr (.cell 8 2) [.a 1,.a 6]) <|
   .ins (.pr (.cell 8 3) [.a 1,.a 6]) <|
   .ins (.pr (.cell 8 4) [.a 1,.a 6]) <|
   .ins (.pr (.cell 8 5) [.a 1,.a 6]) <|
   .ins (.pr (.cell 8 6) [.a 1,.a 6]) <|
   .ins (.pr (.cell 8 7) [.a 1,.a 6]) <|
   .ins (.cl 118 [.a 10,.a 11,.a 12,.a 13,.a 14,.a 15,.a 16,.a 17,.a 19,.a 20,.a 21,.a 22,.a 23,.a 24,.a 25,.a 26] 1) <|
   .ins (.pr (.un .not) [.a 27]) <|
   .ite 28 (
   .ins (.pr (.scl) [.k (.bool false)]) <|
   .ret [.a 29]) (
   .ins (.pr (.bin .add) [.a 6,.k (.int .i64 1)]) <|
   .go 0 [.a 5,.a 29])) (
   .ins (.pr (.scl) [.k (.bool true)]) <|
   .ret [.a 9])))
def am4_:Nat→Sem1:=pick [(118,aa7_)]
def k3_:Sem1:=fun ts=>p_eqRecordS.den am4_ rounds [] ts
def p_eqSelf:PL :=
 .ins (.pr (.bin .neq) [.a 0,.a 7]) <|
 .ite 14 (
  .ins (.pr (.scl) [.k (.bool false)]) <|
  .ret [.a 15]) (
  .ins (.pr (.bin .neq) [.a 1,.a 8]) <|
  .ite 15 (
  .ins (.pr (.scl) [.k (.bool false)]) <|
  .ret [.a 16]) (
  .ins (.cl 18 [.a 2,.a 3,.a 4,.a 9,.a 10,.a 11] 1) <|
  .ins (.pr (.un .not) [.a 16]) <|
  .ite 17 (
   .ins (.pr (.scl) [.k (.bool false)]) <|
   .ret [.a 18]) (
   .ins (.cl 67 [.a 5,.a 12] 1) <|
   .ins (.pr (.un .not) [.a 18]) <|
   .ite 19 (
   .ins (.pr (.scl) [.k (.bool false)]) <|
   .ret [.a 20]) (
   .ins (.cl 35 [.a 6,.a 13] 1) <|
   .ins (.pr (.un .not) [.a 20]) <|
   .ite 21 (
    .ins (.pr (.scl) [.k (.bool false)]) <|
    .ret [.a 22]) (
    .ins (.pr (.scl) [.k (.bool true)]) <|
    .ret [.a 22])))))
def ahw_:Nat→Sem1:=pick [(18,kN_),(35,k3_),(67,ai6_)]
def abx_:Sem1:=fun ts=>p_eqSelf.den ahw_ rounds [] ts
def p_eqEar:PL :=
 .ins (.pr (.bin .neq) [.a 0,.a 4]) <|
 .ite 8 (
  .ins (.pr (.scl) [.k (.bool false)]) <|
  .ret [.a 9]) (
  .ins (.pr (.bin .neq) [.a 1,.a 5]) <|
  .ite 9 (
  .ins (.pr (.scl) [.k (.bool false)]) <|
  .ret [.a 10]) (
  .ins (.pr (.bin .neq) [.a 2,.a 6]) <|
  .ite 10 (
   .ins (.pr (.scl) [.k (.bool false)]) <|
   .ret [.a 11]) (
   .ins (.pr (.bb .neq) [.a 3,.a 7]) <|
   .ite 11 (
   .ins (.pr (.scl) [.k (.bool false)]) <|
   .ret [.a 12]) (
   .ins (.pr (.scl) [.k (.bool true)]) <|
   .ret [.a 12]))))
def aQ7_:Nat→Sem1:=pick []
def al0_:Sem1:=fun ts=>p_eqEar.den aQ7_ rounds [] ts
def p_eqEarS:PL :=
 .ins (.pr (.len) [.a 0]) <|
 .ins (.pr (.len) [.a 1]) <|
 .ins (.pr (.bin .neq) [.a 2,.a 3]) <|
 .ite 4 (
  .ins (.pr (.scl) [.k (.bool false)]) <|
  .ret [.a 5]) (
  .loop [.k (.bool false),.k (.int .i64 0)] (
  .ins (.pr (.len) [.a 0]) <|
  .ins (.pr (.bin .lss) [.a 6,.a 7]) <|
  .ite 8 (
   .ins (.pr (.bnd) [.a 0,.a 6]) <|
   .ins (.pr (.cell 4 0) [.a 0,.a 6]) <|
   .ins (.pr (.cell 4 1) [.a 0,.a 6]) <|
   .ins (.pr (.cell 4 2) [.a 0,.a 6]) <|
   .ins (.pr (.cell 4 3) [.a 0,.a 6]) <|
   .ins (.pr (.bnd) [.a 1,.a 6]) <|
   .ins (.pr (.cell 4 0) [.a 1,.a 6]) <|
   .ins (.pr (.cell 4 1) [.a 1,.a 6]) <|
   .ins (.pr (.cell 4 2) [.a 1,.a 6]) <|
   .ins (.pr (.cell 4 3) [.a 1,.a 6]) <|
   .ins (.cl 193 [.a 10,.a 11,.a 12,.a 13,.a 15,.a 16,.a 17,.a 18] 1) <|
   .ins (.pr (.un .not) [.a 19]) <|
   .ite 20 (
   .ins (.pr (.scl) [.k (.bool false)]) <|
   .ret [.a 21]) (
   .ins (.pr (.bin .add) [.a 6,.k (.int .i64 1)]) <|
   .go 0 [.a 5,.a 21])) (
   .ins (.pr (.scl) [.k (.bool true)]) <|
   .ret [.a 9])))
def ay2_:Nat→Sem1:=pick [(193,al0_)]
def agr_:Sem1:=fun ts=>p_eqEarS.den ay2_ rounds [] ts
def p_eqNode:PL :=
 .ins (.cl 34 [.a 0,.a 1,.a 2,.a 3,.a 4,.a 5,.a 6,.a 8,.a 9,.a 10,.a 11,.a 12,.a 13,.a 14] 1) <|
 .ins (.pr (.un .not) [.a 16]) <|
 .ite 17 (
  .ins (.pr (.scl) [.k (.bool false)]) <|
  .ret [.a 18]) (
  .ins (.cl 95 [.a 7,.a 15] 1) <|
  .ins (.pr (.un .not) [.a 18]) <|
  .ite 19 (
  .ins (.pr (.scl) [.k (.bool false)]) <|
  .ret [.a 20]) (
  .ins (.pr (.scl) [.k (.bool true)]) <|
  .ret [.a 20]))
def am7_:Nat→Sem1:=pick [(34,abx_),(95,agr_)]
def acq_:Sem1:=fun ts=>p_eqNode.den am7_ rounds [] ts
def p_heldIntS:PL :=
 .loop [.a 1,.k (.int .i64 0),.k (.int .i64 0)] (
  .ins (.pr (.len) [.a 0]) <|
  .ins (.pr (.bin .lss) [.a 4,.a 5]) <|
  .ite 6 (
  .ins (.pr (.bnd) [.a 0,.a 4]) <|
  .ins (.pr (.cell 1 0) [.a 0,.a 4]) <|
  .ins (.pr (.bin .neq) [.a 8,.a 2]) <|
  .ite 9 (
   .ins (.pr (.scl) [.k (.int .i64 (-1))]) <|
   .ret [.a 10]) (
   .ins (.pr (.bin .add) [.a 2,.k (.int .i64 1)]) <|
   .ins (.pr (.bin .add) [.a 4,.k (.int .i64 1)]) <|
   .go 0 [.a 10,.a 3,.a 11])) (
  .ins (.pr (.scl) [.a 2]) <|
  .ret [.a 7]))
def aqa_:Nat→Sem1:=pick []
def aa3_:Sem1:=fun ts=>p_heldIntS.den aqa_ rounds [] ts
def p_s_l05Put:PL :=
 Q (.lit 8 []) [] <|
 .loop [9,I 0] (
 Qn [0] <|
 Ql [11,12] <|
 .ite 13 (
 Q8 [0,11] <|
 Qi 199 [15,16,17,18,19,20,21,22,1,2,3,4,5,6,7,8] 1 <|
 .join (
 Qa [11,I 1] <|
 .go 0 [24,25]) (
 .ite 23 (
 Q8 [0,11] <|
 Q (.lit 8 []) [25,26,27,28,29,30,31,32] <|
 Qy [10,33] <|
 .go 0 [34]) (
 .go 0 [10]))) (
 Q (.lit 8 []) [1,2,3,4,5,6,7,8] <|
 Qy [10,14] <|
 .loop [15,I 0] (
 Qn [0] <|
 Ql [17,18] <|
 .ite 19 (
 Q8 [0,17] <|
 Qi 199 [1,2,3,4,5,6,7,8,21,22,23,24,25,26,27,28] 1 <|
 .join (
 Qa [17,I 1] <|
 .go 0 [30,31]) (
 .ite 29 (
 Q8 [0,17] <|
 Q (.lit 8 []) [31,32,33,34,35,36,37,38] <|
 Qy [16,39] <|
 .go 0 [40]) (
 .go 0 [16]))) (
 .ret [16]))))
def x6_:Sem1:=Fs p_s_l05Put [(199,ve_)]
def p_s_Beyond:PL :=
 Q (.lit 8 []) [] <|
 Qi 176 [0] 1 <|
 Qt [5] <|
 .ite 6 (
 .ret [4]) (
 Q (.lit 1 []) [] <|
 .loop [7,I 0] (
 Qn [1] <|
 Ql [9,10] <|
 .ite 11 (
 Q1 [1,9] <|
 Qu [13,3] <|
 .join (
 Qa [9,I 1] <|
 .go 0 [15,16]) (
 .ite 14 (
 Q1 [1,9] <|
 Qx [16] <|
 Qp [8,17] <|
 .go 0 [18]) (
 .go 0 [8]))) (
 Qi 245 [0,3,2] 1 <|
 Qi 174 [0,8,2] 1 <|
 Qi 175 [0,1,.k (.bool true),2] 1 <|
 .loop [4,I 1] (
 Qm [16,I 6] <|
 .ite 17 (
 Qi 246 [12,16] 4 <|
 .ite 21 (
 Qa [16,I 1] <|
 .go 0 [15,22]) (
 Qe [16,2] <|
 .ite 22 (
 Qa [16,I 1] <|
 .go 0 [15,23]) (
 Qi 246 [13,16] 4 <|
 Qt [26] <|
 .ite 27 (
 Qu [3,I 0] <|
 .join (
 .join (
 Qa [16,I 1] <|
 .go 0 [33,34]) (
 .ite 32 (
 Q (.lit 8 [true,true,true,true,true,false,true,true]) [3,I 2,2,16,I 0,.e,30,.k (.bool false)] <|
 Qy [15,33] <|
 .go 0 [34]) (
 .go 0 [15]))) (
 .ite 28 (
 Qi 246 [14,16] 4 <|
 .go 0 [29,30,31,32]) (
 .go 0 [23,24,25,26]))) (
 .join (
 .join (
 Qa [16,I 1] <|
 .go 0 [32,33]) (
 .ite 31 (
 Q (.lit 8 [true,true,true,true,true,false,true,true]) [3,I 2,2,16,I 0,.e,29,.k (.bool false)] <|
 Qy [15,32] <|
 .go 0 [33]) (
 .go 0 [15]))) (
 .go 0 [23,24,25,26]))))) (
 .ret [15])))))
def qU_:Sem1:=Fs p_s_Beyond [(174,yK_),(175,xw_),(176,yE_),(245,wf_),(246,y7_)]
def p_s_l08With:PL :=
 .loop [0,I 0] (
 Qn [1] <|
 Ql [3,4] <|
 .ite 5 (
 Q8 [1,3] <|
 Qe [11,I 0] <|
 .join (
 Qi 105 [2,7,8,9,10,16,12,13,14] 1 <|
 Qa [3,I 1] <|
 .go 0 [17,18]) (
 .ite 15 (
 .go 0 [I 1]) (
 .go 0 [11]))) (
 .ret [2]))
def wK_:Sem1:=Fs p_s_l08With [(105,x6_)]
def p_s_l04Copy:PL :=
 Q (.lit 2 []) [] <|
 Q (.app true 2) [8,5] <|
 Qz [7] <|
 Qz [6] <|
 Qz [4] <|
 Qz [3] <|
 Qz [2] <|
 Qz [1] <|
 Qz [0] <|
 .ret [16,15,14,13,12,9,11,10]
def xX_:Sem1:=Fs p_s_l04Copy []
def p_s_l04CopyList:PL :=
 Q (.lit 8 []) [] <|
 .loop [1,I 0] (
 Qn [0] <|
 Ql [3,4] <|
 .ite 5 (
 Q8 [0,3] <|
 Qi 108 [7,8,9,10,11,12,13,14] 8 <|
 Q (.lit 8 [true,true,true,true,true,false,true,true]) [15,16,17,18,19,20,21,22] <|
 Qy [2,23] <|
 Qa [3,I 1] <|
 .go 0 [24,25]) (
 .ret [2]))
def yA_:Sem1:=Fs p_s_l04CopyList [(108,xX_)]
def p_i_copyRecord:PL :=
 Q (.app true 2) [.e,5] <|
 Qz [7] <|
 Qz [6] <|
 Qz [4] <|
 Qz [3] <|
 Qz [2] <|
 Qz [1] <|
 Qz [0] <|
 .ret [15,14,13,12,11,8,10,9]
def xZ_:Sem1:=Fs p_i_copyRecord []
def p_i_copyRecords:PL :=
 Qn [0] <|
 .loop [.e,I 0] (
 Ql [3,1] <|
 .ite 4 (
 Q8 [0,3] <|
 Qi 208 [6,7,8,9,10,11,12,13] 8 <|
 Q (.lit 8 [true,true,true,true,true,false,true,true]) [14,15,16,17,18,19,20,21] <|
 Qy [2,22] <|
 Qa [3,I 1] <|
 .go 0 [23,24]) (
 .ret [2]))
def yU_:Sem1:=Fs p_i_copyRecords [(208,xZ_)]
def p_i_put:PL :=
 .loop [I 0] (
 Qn [0] <|
 Ql [9,10] <|
 .ite 11 (
 Q8 [0,9] <|
 Qi 209 [13,14,15,16,17,18,19,20,1,2,3,4,5,6,7,8] 1 <|
 .ite 21 (
 Qa [9,I 1] <|
 .go 0 [22]) (
 Q (.sub 8 false true) [0,9] <|
 Qi 116 [22] 1 <|
 Qi 208 [1,2,3,4,5,6,7,8] 8 <|
 Q (.lit 8 [true,true,true,true,true,false,true,true]) [24,25,26,27,28,29,30,31] <|
 Qy [23,32] <|
 Qn [0] <|
 Ql [9,34] <|
 .ite 35 (
 Q8 [0,9] <|
 Qi 210 [37,38,39,40,41,42,43,44,1,2,3,4,5,6,7,8] 1 <|
 .join (
 Q (.sub 8 true false) [0,46] <|
 Qi 116 [47] 1 <|
 Qy [33,48] <|
 .ret [49]) (
 .ite 45 (
 Qa [9,I 1] <|
 .go 0 [46]) (
 .go 0 [9]))) (
 .join (
 Q (.sub 8 true false) [0,36] <|
 Qi 116 [37] 1 <|
 Qy [33,38] <|
 .ret [39]) (
 .go 0 [9])))) (
 Q (.sub 8 false true) [0,9] <|
 Qi 116 [12] 1 <|
 Qi 208 [1,2,3,4,5,6,7,8] 8 <|
 Q (.lit 8 [true,true,true,true,true,false,true,true]) [14,15,16,17,18,19,20,21] <|
 Qy [13,22] <|
 Qn [0] <|
 Ql [9,24] <|
 .ite 25 (
 Q8 [0,9] <|
 Qi 210 [27,28,29,30,31,32,33,34,1,2,3,4,5,6,7,8] 1 <|
 .join (
 Q (.sub 8 true false) [0,36] <|
 Qi 116 [37] 1 <|
 Qy [23,38] <|
 .ret [39]) (
 .ite 35 (
 Qa [9,I 1] <|
 .go 0 [36]) (
 .go 0 [9]))) (
 .join (
 Q (.sub 8 true false) [0,26] <|
 Qi 116 [27] 1 <|
 Qy [23,28] <|
 .ret [29]) (
 .go 0 [9]))))
def x3_:Sem1:=Fs p_i_put [(116,yU_),(208,xZ_),(209,vd_),(210,xY_)]
def p_i_Beyond:PL :=
 Qn [1] <|
 .loop [.e,I 0] (
 Ql [6,4] <|
 .ite 7 (
 Q1 [1,6] <|
 Qu [9,3] <|
 .join (
 Qa [6,I 1] <|
 .go 0 [11,12]) (
 .ite 10 (
 Qx [9] <|
 Qp [5,11] <|
 .go 0 [12]) (
 .go 0 [5]))) (
 Qi 254 [0,3,2] 1 <|
 Qi 183 [0,5,2] 1 <|
 Qn [9] <|
 .loop [I 0,.e] (
 Ql [11,10] <|
 .ite 13 (
 Q3 [9,11] <|
 Qi 256 [8,15] 4 <|
 Qt [21] <|
 .ite 22 (
 Qu [15,2] <|
 .ite 23 (
 Qi 204 [12,3,I 2,2,15,I 0,.e,16,.k (.bool false)] 1 <|
 Ql [24,I 0] <|
 .join (
 Qa [11,I 1] <|
 .go 0 [27,26]) (
 .ite 25 (
 Qi 117 [12,3,I 2,2,15,I 0,.e,16,.k (.bool false)] 1 <|
 .go 0 [26]) (
 .go 0 [12]))) (
 .join (
 Qa [11,I 1] <|
 .go 0 [25,24]) (
 .go 0 [12]))) (
 .join (
 Qa [11,I 1] <|
 .go 0 [24,23]) (
 .go 0 [12]))) (
 Qu [3,I 0] <|
 .join (
 .ret [15]) (
 .ite 14 (
 Qi 184 [0,1,.k (.bool true),2] 1 <|
 Qn [15] <|
 .loop [I 0,12] (
 Ql [17,16] <|
 .ite 19 (
 Q3 [15,17] <|
 Qi 256 [8,21] 4 <|
 Qt [27] <|
 .ite 28 (
 Qu [21,2] <|
 .ite 29 (
 Qi 204 [18,3,I 2,2,21,I 0,.e,22,.k (.bool false)] 1 <|
 Ql [30,I 0] <|
 .join (
 Qa [17,I 1] <|
 .go 0 [33,32]) (
 .ite 31 (
 Qi 117 [18,3,I 2,2,21,I 0,.e,22,.k (.bool false)] 1 <|
 .go 0 [32]) (
 .go 0 [18]))) (
 .join (
 Qa [17,I 1] <|
 .go 0 [31,30]) (
 .go 0 [18]))) (
 .join (
 Qa [17,I 1] <|
 .go 0 [30,29]) (
 .go 0 [18]))) (
 .go 1 [18]))) (
 .go 0 [12]))))))
def q2_:Sem1:=Fs p_i_Beyond [(117,x3_),(183,yH_),(184,xx_),(204,xe_),(254,wg_),(256,wp_)]
def p_s_l08Copy:PL :=
 Q (.lit 4 []) [] <|
 Q (.app true 4) [7,3] <|
 Q (.lit 4 []) [] <|
 Q (.app true 4) [9,4] <|
 Q (.lit 1 []) [] <|
 Qp [11,5] <|
 Qi 109 [6] 1 <|
 Qz [2] <|
 Qz [1] <|
 Qz [0] <|
 .ret [16,15,14,8,10,12,13]
def u0_:Sem1:=Fs p_s_l08Copy [(109,yA_)]
def p_s_l08Node:PL :=
 .loop [I 0,.e] (
 Qn [5] <|
 Ql [8,10] <|
 .ite 11 (
 Qa [8,I 1] <|
 Q1 [5,12] <|
 Qe [14,7] <|
 .join (
 Qa [8,I 2] <|
 .go 0 [17,16]) (
 .ite 15 (
 Q1 [5,8] <|
 Q1 [5,8] <|
 Qi 122 [2,3,4,0,19,7] 1 <|
 Q (.lit 2 [true,true]) [17,20] <|
 Q (.app true 2) [9,21] <|
 .go 0 [22]) (
 .go 0 [9]))) (
 Qz [.k (.bool false)] <|
 Qz [I 0] <|
 Qz [I 0] <|
 Qz [I 0] <|
 Qz [0] <|
 Qz [I 1] <|
 Qz [7] <|
 .ret [18,17,16,15,14,9,13,12]))
def u3_:Sem1:=Fs p_s_l08Node [(122,yZ_)]
def p_s_Wanted:PL :=
 Q (.lit 8 []) [] <|
 Qi 99 [0,1,2,3,4,5,6] 1 <|
 Qt [8] <|
 .ite 9 (
 .ret [7]) (
 Qi 77 [2,3,4,0] 1 <|
 Q (.lit 8 []) [] <|
 .loop [11,I 0] (
 Qn [10] <|
 Ql [13,14] <|
 .ite 15 (
 Q1 [10,13] <|
 Qi 196 [0,1,2,3,4,5,6,17] 8 <|
 Q (.lit 8 []) [18,19,20,21,22,23,24,25] <|
 Qy [12,26] <|
 Qa [13,I 1] <|
 .go 0 [27,28]) (
 Q (.lit 8 []) [] <|
 Qy [16,12] <|
 Qi 78 [2,3,4,0] 1 <|
 .join (
 .loop [19,I 0] (
 Qn [4] <|
 Ql [23,24] <|
 .ite 25 (
 Q4 [4,23] <|
 Qe [27,0] <|
 .join (
 Qa [23,I 1] <|
 .go 0 [32,33]) (
 .ite 31 (
 Q (.lit 8 [true,true,true,true,true,false,true,true]) [I 9,I 3,0,28,I 0,.e,29,30] <|
 Qy [22,32] <|
 .go 0 [33]) (
 .go 0 [22]))) (
 .loop [7,I 0] (
 Qn [22] <|
 Ql [27,28] <|
 .ite 29 (
 Q8 [22,27] <|
 Qi 105 [26,31,32,33,34,35,36,37,38] 1 <|
 Qa [27,I 1] <|
 .go 0 [39,40]) (
 Qi 109 [26] 1 <|
 .ret [30]))))) (
 .ite 18 (
 Qi 110 [6,12] 1 <|
 .loop [17,I 0] (
 Qn [10] <|
 Ql [21,22] <|
 .ite 23 (
 Q1 [10,21] <|
 Qi 197 [19,10,0,25] 1 <|
 Qy [20,26] <|
 Qa [21,I 1] <|
 .go 0 [27,28]) (
 .go 1 [20,12,12]))) (
 .go 0 [17,12,12])))))
def qP_:Sem1:=Fs p_s_Wanted [(77,xV_),(78,vf_),(99,xu_),(105,x6_),(109,yA_),(110,wK_),(196,u3_),(197,qU_)]
def p_s_Find:PL :=
 Qi 106 [0,1,2,3,4,5,6,7,8] 1 <|
 Ql [9,I 0] <|
 .ite 10 (
 Qz [.k (.bool false)] <|
 Qz [.k (.bool false)] <|
 Qz [I 0] <|
 Qz [I 0] <|
 Qz [I 0] <|
 Qz [I 0] <|
 Qz [I 0] <|
 Qz [I 0] <|
 .ret [18,17,16,15,14,.e,13,12,11]) (
 Q8 [0,9] <|
 Qi 108 [12,13,14,15,16,17,18,19] 8 <|
 Qz [.k (.bool true)] <|
 Qz [27] <|
 Qz [26] <|
 Qz [24] <|
 Qz [23] <|
 Qz [22] <|
 Qz [21] <|
 Qz [20] <|
 .ret [35,34,33,32,31,25,30,29,28])
def kJ_:Sem1:=Fs p_s_Find [(106,wF_),(108,xX_)]
def p_s_SameBody:PL :=
 Qi 198 [0,1,2,3,4,5,6,7,8,9,10,11,12,13,14,15] 1 <|
 Qt [16] <|
 .ite 17 (
 Qz [.k (.bool false)] <|
 .ret [18]) (
 Qu [6,14] <|
 .ite 18 (
 Qz [.k (.bool false)] <|
 .ret [19]) (
 Q (.bb .neq) [7,15] <|
 .ite 19 (
 Qz [.k (.bool false)] <|
 .ret [20]) (
 Qn [5] <|
 Qn [13] <|
 Qu [20,21] <|
 .ite 22 (
 Qz [.k (.bool false)] <|
 .ret [23]) (
 .loop [.k (.bool false),I 0] (
 Qn [5] <|
 Ql [24,25] <|
 .ite 26 (
 Q2 [5,24] <|
 Q2 [13,24] <|
 Q (.eqs [1,1]) [28,29,31,32] <|
 Qt [33] <|
 .ite 34 (
 Qz [.k (.bool false)] <|
 .ret [35]) (
 Qa [24,I 1] <|
 .go 0 [23,35])) (
 Qz [.k (.bool true)] <|
 .ret [27]))))))
def uk_:Sem1:=Fs p_s_SameBody [(198,wL_)]
def p_s_l08Seq:PL :=
 Q (.bin .mul) [I 1000,1] <|
 Ql [7,8] <|
 .ite 9 (
 Q (.bin .mul) [I 1000,1] <|
 Qa [10,I 1] <|
 Qz [11] <|
 .ret [12]) (
 Qa [7,I 1] <|
 Qz [10] <|
 .ret [11])
def q1_:Sem1:=Fs p_s_l08Seq []
def p_s_l08Bare:PL :=
 Qe [1,I 1] <|
 .ite 8 (
 Q (.lit 2 []) [] <|
 Qz [7] <|
 Qz [6] <|
 Qz [4] <|
 Qz [3] <|
 Qz [2] <|
 Qz [1] <|
 Qz [0] <|
 .ret [16,15,14,13,12,9,11,10]) (
 Qz [7] <|
 Qz [I 60000] <|
 Qz [4] <|
 Qz [3] <|
 Qz [2] <|
 Qz [1] <|
 Qz [0] <|
 .ret [15,14,13,12,11,5,10,9])
def u7_:Sem1:=Fs p_s_l08Bare []
def p_s_Renew:PL :=
 Qi 99 [0,1,2,3,4,5,6] 1 <|
 Qt [7] <|
 .ite 8 (
 Qi 100 [0,1,2,3,4,5,6] 7 <|
 Q (.lit 8 []) [] <|
 Qz [11] <|
 Qz [10] <|
 Qz [9] <|
 .ret [19,18,17,12,13,14,15,16]) (
 Qi 101 [0,1,2,3,4,5,6] 1 <|
 Q (.lit 8 []) [] <|
 .loop [10,I 0] (
 Qn [9] <|
 Ql [12,13] <|
 .ite 14 (
 Q8 [9,12] <|
 Qi 102 [6,16,17,18,19,20,21,22,23] 9 <|
 .ite 32 (
 Q8 [9,12] <|
 Qi 103 [24,25,26,27,28,29,30,31,34,35,36,37,38,39,40,41] 1 <|
 .ite 42 (
 Qa [12,I 1] <|
 .go 0 [11,43]) (
 Q8 [9,12] <|
 Qi 104 [0,1,2,3,4,5,6,28] 1 <|
 Qi 105 [11,44,45,46,47,52,49,50,51] 1 <|
 Qa [12,I 1] <|
 .go 0 [53,54])) (
 Q8 [9,12] <|
 Qi 104 [0,1,2,3,4,5,6,28] 1 <|
 Qi 105 [11,34,35,36,37,42,39,40,41] 1 <|
 Qa [12,I 1] <|
 .go 0 [43,44])) (
 .loop [11,I 0] (
 Qn [6] <|
 Ql [16,17] <|
 .ite 18 (
 Q8 [6,16] <|
 Qu [22,0] <|
 .ite 28 (
 Qa [16,I 1] <|
 .go 0 [15,29]) (
 Qi 106 [9,20,21,22,23,24,25,26,27] 1 <|
 Qh [29,I 0] <|
 .ite 30 (
 Qa [16,I 1] <|
 .go 0 [15,31]) (
 Qi 108 [20,21,22,23,24,25,26,27] 8 <|
 Qi 107 [31,32,33,34,35,36,37,38] 8 <|
 Qi 103 [39,40,41,42,43,44,45,46,20,21,22,23,24,25,26,27] 1 <|
 .ite 47 (
 Qa [16,I 1] <|
 .go 0 [15,48]) (
 Qi 108 [20,21,22,23,24,25,26,27] 8 <|
 Qi 107 [48,49,50,51,52,53,54,55] 8 <|
 Qi 104 [0,1,2,3,4,5,6,24] 1 <|
 Qi 105 [15,56,57,58,59,64,61,62,63] 1 <|
 Qa [16,I 1] <|
 .go 0 [65,66])))) (
 .loop [.e,I 0] (
 Qn [15] <|
 Ql [20,21] <|
 .ite 22 (
 Qb [15,20] <|
 Qc 8 4 [15,20] <|
 Qg [24,I 100000] <|
 .ite 25 (
 Qi 100 [0,1,2,3,4,5,6] 7 <|
 Q (.lit 8 []) [] <|
 Qz [28] <|
 Qz [27] <|
 Qz [26] <|
 .ret [36,35,34,29,30,31,32,33]) (
 Qa [20,I 1] <|
 .go 0 [19,26])) (
 Qi 100 [0,1,2,3,4,5,6] 7 <|
 Qi 110 [6,15] 1 <|
 Qi 109 [30] 1 <|
 Qn [31] <|
 Qg [32,I 150] <|
 .ite 33 (
 Qi 100 [0,1,2,3,4,5,6] 7 <|
 Q (.lit 8 []) [] <|
 Qz [36] <|
 Qz [35] <|
 Qz [34] <|
 .ret [44,43,42,37,38,39,40,41]) (
 Qi 109 [15] 1 <|
 Qz [25] <|
 Qz [24] <|
 Qz [23] <|
 .ret [37,36,35,26,27,28,31,34]))))))))
def j3_:Sem1:=Fs p_s_Renew [(99,xu_),(100,u0_),(101,qP_),(102,kJ_),(103,uk_),(104,q1_),(105,x6_),(106,wF_),(107,u7_),(108,xX_),(109,yA_),(110,wK_)]
def p_i_copyNet:PL :=
 Q (.app true 4) [.e,1] <|
 Q (.app true 4) [.e,2] <|
 Qz [0] <|
 .ret [5,3,4]
def wu_:Sem1:=Fs p_i_copyNet []
def p_i_copySelf:PL :=
 Qi 123 [2,3,4] 3 <|
 Qi 185 [5] 1 <|
 Qi 116 [6] 1 <|
 Qz [7] <|
 Qz [1] <|
 Qz [0] <|
 .ret [14,13,12,8,9,10,11]
def ui_:Sem1:=Fs p_i_copySelf [(116,yU_),(123,wu_),(185,zM_)]
def p_i_CostTo:PL :=
 Qi 214 [0,1,2,3,4,5] 1 <|
 Qh [6,I 0] <|
 .ite 7 (
 Qb [1,6] <|
 Qc 4 2 [1,6] <|
 Qz [9] <|
 .ret [10]) (
 Qz [I 0] <|
 .ret [8])
def qH_:Sem1:=Fs p_i_CostTo [(214,wd_)]
def p_i_own:PL :=
 Qi 84 [2,3,4,0] 1 <|
 Qn [7] <|
 .loop [.e,I 0] (
 Ql [10,8] <|
 .ite 11 (
 Qq [7,10] <|
 .loop [I 0,.e] (
 Qn [5] <|
 Ql [14,16] <|
 .ite 17 (
 Qa [14,I 1] <|
 Q1 [5,18] <|
 Qe [20,13] <|
 .join (
 Qa [14,I 2] <|
 .go 0 [23,22]) (
 .ite 21 (
 Q1 [5,14] <|
 Q1 [5,14] <|
 Qi 292 [2,3,4,0,25,13] 1 <|
 Q (.lit 2 [true,true]) [23,26] <|
 Q (.app true 2) [15,27] <|
 .go 0 [28]) (
 .go 0 [15]))) (
 Q (.lit 8 [true,true,true,true,true,false,true,true]) [13,I 1,0,I 0,I 0,15,I 0,.k (.bool false)] <|
 Qy [9,18] <|
 Qa [10,I 1] <|
 .go 1 [19,20]))) (
 .ret [9]))
def abt_:Sem1:=Fs p_i_own [(84,y9_),(292,qH_)]
def p_i_by:PL :=
 Qn [0] <|
 .loop [.e,I 0] (
 Ql [5,3] <|
 .ite 6 (
 Q8 [0,5] <|
 Qu [9,I 1] <|
 .ite 16 (
 .join (
 Qa [5,I 1] <|
 .go 0 [17,18]) (
 Q (.lit 8 []) [8,9,10,11,12,13,14,15] <|
 Qy [4,17] <|
 .go 0 [18])) (
 Qu [10,1] <|
 .join (
 Qa [5,I 1] <|
 .go 0 [18,19]) (
 .ite 17 (
 Q (.lit 8 []) [8,9,10,11,12,13,14,15] <|
 Qy [4,18] <|
 .go 0 [19]) (
 .go 0 [4])))) (
 Qn [2] <|
 .loop [4,I 0] (
 Ql [9,7] <|
 .ite 10 (
 Q8 [2,9] <|
 Qi 117 [8,12,13,14,15,I 1,17,18,19] 1 <|
 Qa [9,I 1] <|
 .go 0 [20,21]) (
 .ret [8]))))
def afc_:Sem1:=Fs p_i_by [(117,x3_)]
def p_i_Wanted:PL :=
 Qi 114 [0,1,2,3,4,5,6] 1 <|
 Qt [7] <|
 .ite 8 (
 .ret [.e]) (
 Qi 261 [0,1,2,3,4,5,6] 1 <|
 Qn [9] <|
 .loop [.e,I 0,9] (
 Ql [12,10] <|
 .ite 14 (
 Q8 [13,12] <|
 Qi 117 [11,16,17,18,19,20,21,22,23] 1 <|
 Qa [12,I 1] <|
 .go 0 [24,25,13]) (
 Qi 84 [2,3,4,0] 1 <|
 Qi 85 [2,3,4,0] 1 <|
 .join (
 Qn [4] <|
 .loop [17,I 0] (
 Ql [23,21] <|
 .ite 24 (
 Q4 [4,23] <|
 Qe [26,0] <|
 .join (
 Qa [23,I 1] <|
 .go 0 [31,32]) (
 .ite 30 (
 Qi 117 [22,I 9,I 3,0,27,I 0,.e,28,29] 1 <|
 .go 0 [31]) (
 .go 0 [22]))) (
 .ret [22]))) (
 .ite 16 (
 Qi 262 [6,0,13] 1 <|
 Qn [15] <|
 .loop [11,I 0] (
 Ql [20,18] <|
 .ite 21 (
 Qq [15,20] <|
 Qi 253 [17,15,0,23] 1 <|
 Qn [24] <|
 .loop [19,I 0,24] (
 Ql [27,25] <|
 .ite 29 (
 Q8 [28,27] <|
 Qi 117 [26,31,32,33,34,35,36,37,38] 1 <|
 Qa [27,I 1] <|
 .go 0 [39,40,28]) (
 Qa [20,I 1] <|
 .go 1 [26,30]))) (
 .go 1 [19,13,13,13]))) (
 .go 0 [11,13,13,13])))))
def uz_:Sem1:=Fs p_i_Wanted [(84,y9_),(85,va_),(114,xt_),(117,x3_),(253,q2_),(261,abt_),(262,afc_)]
def p_i_SameBody:PL :=
 Qi 210 [0,1,2,3,4,5,6,7,8,9,10,11,12,13,14,15] 1 <|
 Qt [16] <|
 .ite 17 (
 Qz [.k (.bool false)] <|
 .ret [18]) (
 Qu [6,14] <|
 .ite 18 (
 Qz [.k (.bool false)] <|
 .ret [19]) (
 Q (.bb .neq) [7,15] <|
 .ite 19 (
 Qz [.k (.bool false)] <|
 .ret [20]) (
 Qn [5] <|
 Qn [13] <|
 Qu [20,21] <|
 .ite 22 (
 Qz [.k (.bool false)] <|
 .ret [23]) (
 Qn [5] <|
 .loop [.k (.bool false),I 0] (
 Ql [25,23] <|
 .ite 26 (
 Q2 [5,25] <|
 Q2 [13,25] <|
 Q (.eqs [1,1]) [28,29,31,32] <|
 Qt [33] <|
 .ite 34 (
 Qz [.k (.bool false)] <|
 .ret [35]) (
 Qa [25,I 1] <|
 .go 0 [24,35])) (
 Qz [.k (.bool true)] <|
 .ret [27]))))))
def us_:Sem1:=Fs p_i_SameBody [(210,xY_)]
def p_i_seqOf:PL :=
 Qi 204 [6,7,8,9,10,11,12,13,14] 1 <|
 Qh [15,I 0] <|
 .join (
 Qa [17,I 1] <|
 Q (.bin .mul) [I 1000,1] <|
 Qa [19,I 1] <|
 Q (.mx) [18,20] <|
 Qz [21] <|
 .ret [22]) (
 .ite 16 (
 Qb [6,15] <|
 Qc 8 4 [6,15] <|
 .go 0 [18]) (
 .go 0 [I 0]))
def j6_:Sem1:=Fs p_i_seqOf [(204,xe_)]
def p_i_gone:PL :=
 Qu [1,I 1] <|
 .join (
 Qz [7] <|
 Qz [9] <|
 Qz [4] <|
 Qz [3] <|
 Qz [2] <|
 Qz [1] <|
 Qz [0] <|
 .ret [16,15,14,13,12,.e,11,10]) (
 .ite 8 (
 .go 0 [I 60000]) (
 .go 0 [6]))
def kT_:Sem1:=Fs p_i_gone []
def p_i_fresh:PL :=
 Qi 203 [0,1,2,3,4,5,6] 1 <|
 Qn [7] <|
 .loop [.e,I 0,7] (
 Ql [10,8] <|
 .ite 12 (
 Q8 [11,10] <|
 Qi 204 [6,14,15,16,17,18,19,20,21] 1 <|
 Ql [22,I 0] <|
 .ite 23 (
 .join (
 Qa [10,I 1] <|
 .go 0 [24,26,11]) (
 Qi 206 [0,1,2,3,4,5,6,14,15,16,17,18,19,20,21] 1 <|
 Qi 117 [9,14,15,16,17,24,19,20,21] 1 <|
 .go 0 [25,24])) (
 Q8 [6,22] <|
 Qi 205 [25,26,27,28,29,30,31,32,14,15,16,17,18,19,20,21] 1 <|
 Qt [33] <|
 .join (
 Qa [10,I 1] <|
 .go 0 [35,37,11]) (
 .ite 34 (
 Qi 206 [0,1,2,3,4,5,6,14,15,16,17,18,19,20,21] 1 <|
 Qi 117 [9,14,15,16,17,35,19,20,21] 1 <|
 .go 0 [36,35]) (
 .go 0 [9,18])))) (
 Qn [6] <|
 .loop [9,I 0] (
 Ql [15,13] <|
 .ite 16 (
 Q8 [6,15] <|
 Qu [20,0] <|
 .ite 26 (
 Qa [15,I 1] <|
 .go 0 [14,27]) (
 Qi 204 [11,18,19,20,21,22,23,24,25] 1 <|
 Qh [27,I 0] <|
 .ite 28 (
 Qa [15,I 1] <|
 .go 0 [14,29]) (
 Qi 207 [18,19,20,21,22,23,24,25] 8 <|
 Qi 205 [29,30,31,32,33,34,35,36,18,19,20,21,22,23,24,25] 1 <|
 Qt [37] <|
 .join (
 Qa [15,I 1] <|
 .go 0 [39,41]) (
 .ite 38 (
 Qi 206 [0,1,2,3,4,5,6,18,19,20,21,22,23,24,25] 1 <|
 Qi 117 [14,29,30,31,32,39,34,35,36] 1 <|
 .go 0 [40,39]) (
 .go 0 [14,33]))))) (
 .ret [14]))))
def jY_:Sem1:=Fs p_i_fresh [(117,x3_),(203,uz_),(204,xe_),(205,us_),(206,j6_),(207,kT_)]
def p_i_Renew:PL :=
 Qi 113 [0,1,2,3,4,5,6] 7 <|
 Qi 114 [0,1,2,3,4,5,6] 1 <|
 Qt [14] <|
 .ite 15 (
 Qz [9] <|
 Qz [8] <|
 Qz [7] <|
 .ret [18,17,16,10,11,12,13,.e]) (
 Qi 115 [0,1,2,3,4,5,6] 1 <|
 Qi 116 [6] 1 <|
 Qn [16] <|
 .loop [.e,17,I 0] (
 Ql [21,18] <|
 .ite 22 (
 Qb [16,21] <|
 Q (.scell 8 0) [16,21] <|
 Q (.scell 8 1) [16,21] <|
 Q (.scell 8 2) [16,21] <|
 Q (.scell 8 3) [16,21] <|
 Q (.scell 8 4) [16,21] <|
 Q (.dig 8 5) [16,21] <|
 Q (.scell 8 6) [16,21] <|
 Q (.scell 8 7) [16,21] <|
 Qg [28,I 100000] <|
 .ite 32 (
 Qz [9] <|
 Qz [8] <|
 Qz [7] <|
 .ret [35,34,33,10,11,12,13,.e]) (
 Q (.dig 8 5) [16,21] <|
 Qi 117 [20,24,25,26,27,28,33,30,31] 1 <|
 Qa [21,I 1] <|
 .go 0 [19,34,35])) (
 Qn [20] <|
 Qg [23,I 150] <|
 .ite 24 (
 Qz [9] <|
 Qz [8] <|
 Qz [7] <|
 .ret [27,26,25,10,11,12,13,.e]) (
 Qz [9] <|
 Qz [8] <|
 Qz [7] <|
 .ret [27,26,25,10,11,12,20,16]))))
def jV_:Sem1:=Fs p_i_Renew [(113,ui_),(114,xt_),(115,jY_),(116,yU_),(117,x3_)]
def p_heldLinkS:PL :=
 .loop [.a 1,.k (.int .i64 0),.k (.int .i64 0)] (
  .ins (.pr (.len) [.a 0]) <|
  .ins (.pr (.bin .lss) [.a 4,.a 5]) <|
  .ite 6 (
  .ins (.pr (.bnd) [.a 0,.a 4]) <|
  .ins (.pr (.cell 4 0) [.a 0,.a 4]) <|
  .ins (.pr (.bin .neq) [.a 8,.a 2]) <|
  .ite 9 (
   .ins (.pr (.scl) [.k (.int .i64 (-1))]) <|
   .ret [.a 10]) (
   .ins (.pr (.bin .add) [.a 2,.k (.int .i64 1)]) <|
   .ins (.pr (.bnd) [.a 0,.a 4]) <|
   .ins (.pr (.cell 4 1) [.a 0,.a 4]) <|
   .ins (.pr (.bin .neq) [.a 12,.a 10]) <|
   .ite 13 (
   .ins (.pr (.scl) [.k (.int .i64 (-1))]) <|
   .ret [.a 14]) (
   .ins (.pr (.bin .add) [.a 10,.k (.int .i64 1)]) <|
   .ins (.pr (.bnd) [.a 0,.a 4]) <|
   .ins (.pr (.cell 4 2) [.a 0,.a 4]) <|
   .ins (.pr (.bin .neq) [.a 16,.a 14]) <|
   .ite 17 (
    .ins (.pr (.scl) [.k (.int .i64 (-1))]) <|
    .ret [.a 18]) (
    .ins (.pr (.bin .add) [.a 14,.k (.int .i64 1)]) <|
    .ins (.pr (.bnd) [.a 0,.a 4]) <|
    .ins (.pr (.cell 4 3) [.a 0,.a 4]) <|
    .ins (.pr (.bin .neq) [.a 20,.a 18]) <|
    .ite 21 (
    .ins (.pr (.scl) [.k (.int .i64 (-1))]) <|
    .ret [.a 22]) (
    .ins (.pr (.bin .add) [.a 18,.k (.int .i64 1)]) <|
    .ins (.pr (.bin .add) [.a 4,.k (.int .i64 1)]) <|
    .go 0 [.a 22,.a 3,.a 23]))))) (
  .ins (.pr (.scl) [.a 2]) <|
  .ret [.a 7]))
def aml_:Nat→Sem1:=pick []
def k5_:Sem1:=fun ts=>p_heldLinkS.den aml_ rounds [] ts
def p_heldThingS:PL :=
 .loop [.a 1,.k (.int .i64 0),.k (.int .i64 0)] (
  .ins (.pr (.len) [.a 0]) <|
  .ins (.pr (.bin .lss) [.a 4,.a 5]) <|
  .ite 6 (
  .ins (.pr (.bnd) [.a 0,.a 4]) <|
  .ins (.pr (.cell 4 0) [.a 0,.a 4]) <|
  .ins (.pr (.bin .neq) [.a 8,.a 2]) <|
  .ite 9 (
   .ins (.pr (.scl) [.k (.int .i64 (-1))]) <|
   .ret [.a 10]) (
   .ins (.pr (.bin .add) [.a 2,.k (.int .i64 1)]) <|
   .ins (.pr (.bnd) [.a 0,.a 4]) <|
   .ins (.pr (.cell 4 1) [.a 0,.a 4]) <|
   .ins (.pr (.bin .neq) [.a 12,.a 10]) <|
   .ite 13 (
   .ins (.pr (.scl) [.k (.int .i64 (-1))]) <|
   .ret [.a 14]) (
   .ins (.pr (.bin .add) [.a 10,.k (.int .i64 1)]) <|
   .ins (.pr (.bnd) [.a 0,.a 4]) <|
   .ins (.pr (.cell 4 2) [.a 0,.a 4]) <|
   .ins (.pr (.bin .neq) [.a 16,.a 14]) <|
   .ite 17 (
    .ins (.pr (.scl) [.k (.int .i64 (-1))]) <|
    .ret [.a 18]) (
    .ins (.pr (.bin .add) [.a 14,.k (.int .i64 1)]) <|
    .ins (.pr (.bnd) [.a 0,.a 4]) <|
    .ins (.pr (.cell 4 3) [.a 0,.a 4]) <|
    .ins (.pr (.bin .rem) [.a 18,.k (.int .i64 3)]) <|
    .ins (.pr (.bin .eql) [.a 21,.k (.int .i64 0)]) <|
    .ins (.pr (.bb .neq) [.a 20,.a 22]) <|
    .ite 23 (
    .ins (.pr (.scl) [.k (.int .i64 (-1))]) <|
    .ret [.a 24]) (
    .ins (.pr (.bin .add) [.a 18,.k (.int .i64 1)]) <|
    .ins (.pr (.bin .add) [.a 4,.k (.int .i64 1)]) <|
    .go 0 [.a 24,.a 3,.a 25]))))) (
  .ins (.pr (.scl) [.a 2]) <|
  .ret [.a 7]))
def ajw_:Nat→Sem1:=pick []
def kp_:Sem1:=fun ts=>p_heldThingS.den ajw_ rounds [] ts
def p_heldNet:PL :=
 .ins (.cl 212 [.a 1,.a 3] 1) <|
 .ins (.pr (.bin .lss) [.a 4,.k (.int .i64 0)]) <|
 .ite 5 (
  .ins (.pr (.scl) [.k (.int .i64 (-1))]) <|
  .ret [.a 6]) (
  .ins (.cl 213 [.a 2,.a 4] 1) <|
  .ins (.pr (.bin .lss) [.a 6,.k (.int .i64 0)]) <|
  .ite 7 (
  .ins (.pr (.scl) [.k (.int .i64 (-1))]) <|
  .ret [.a 8]) (
  .ins (.pr (.scl) [.a 6]) <|
  .ret [.a 8]))
def ajr_:Nat→Sem1:=pick [(212,k5_),(213,kp_)]
def aaj_:Sem1:=fun ts=>p_heldNet.den ajr_ rounds [] ts
def p_heldNearS:PL :=
 .loop [.a 1,.k (.int .i64 0),.k (.int .i64 0)] (
  .ins (.pr (.len) [.a 0]) <|
  .ins (.pr (.bin .lss) [.a 4,.a 5]) <|
  .ite 6 (
  .ins (.pr (.bnd) [.a 0,.a 4]) <|
  .ins (.pr (.cell 2 0) [.a 0,.a 4]) <|
  .ins (.pr (.bin .neq) [.a 8,.a 2]) <|
  .ite 9 (
   .ins (.pr (.scl) [.k (.int .i64 (-1))]) <|
   .ret [.a 10]) (
   .ins (.pr (.bin .add) [.a 2,.k (.int .i64 1)]) <|
   .ins (.pr (.bnd) [.a 0,.a 4]) <|
   .ins (.pr (.cell 2 1) [.a 0,.a 4]) <|
   .ins (.pr (.bin .neq) [.a 12,.a 10]) <|
   .ite 13 (
   .ins (.pr (.scl) [.k (.int .i64 (-1))]) <|
   .ret [.a 14]) (
   .ins (.pr (.bin .add) [.a 10,.k (.int .i64 1)]) <|
   .ins (.pr (.bin .add) [.a 4,.k (.int .i64 1)]) <|
   .go 0 [.a 14,.a 3,.a 15]))) (
  .ins (.pr (.scl) [.a 2]) <|
  .ret [.a 7]))
def amw_:Nat→Sem1:=pick []
def aem_:Sem1:=fun ts=>p_heldNearS.den amw_ rounds [] ts
def p_heldRecordS:PL :=
 .loop [.a 1,.k (.int .i64 0),.k (.int .i64 0)] (
  .ins (.pr (.len) [.a 0]) <|
  .ins (.pr (.bin .lss) [.a 4,.a 5]) <|
  .ite 6 (
  .ins (.pr (.bnd) [.a 0,.a 4]) <|
  .ins (.pr (.cell 8 0) [.a 0,.a 4]) <|
  .ins (.pr (.bin .neq) [.a 8,.a 2]) <|
  .ite 9 (
   .ins (.pr (.scl) [.k (.int .i64 (-1))]) <|
   .ret [.a 10]) (
   .ins (.pr (.bin .add) [.a 2,.k (.int .i64 1)]) <|
   .ins (.pr (.bnd) [.a 0,.a 4]) <|
   .ins (.pr (.cell 8 1) [.a 0,.a 4]) <|
   .ins (.pr (.bin .neq) [.a 12,.a 10]) <|
   .ite 13 (
   .ins (.pr (.scl) [.k (.int .i64 (-1))]) <|
   .ret [.a 14]) (
   .ins (.pr (.bin .add) [.a 10,.k (.int .i64 1)]) <|
   .ins (.pr (.bnd) [.a 0,.a 4]) <|
   .ins (.pr (.cell 8 2) [.a 0,.a 4]) <|
   .ins (.pr (.bin .neq) [.a 16,.a 14]) <|
   .ite 17 (
    .ins (.pr (.scl) [.k (.int .i64 (-1))]) <|
    .ret [.a 18]) (
    .ins (.pr (.bin .add) [.a 14,.k (.int .i64 1)]) <|
    .ins (.pr (.bnd) [.a 0,.a 4]) <|
    .ins (.pr (.cell 8 3) [.a 0,.a 4]) <|
    .ins (.pr (.bin .neq) [.a 20,.a 18]) <|
    .ite 21 (
    .ins (.pr (.scl) [.k (.int .i64 (-1))]) <|
    .ret [.a 22]) (
    .ins (.pr (.bin .add) [.a 18,.k (.int .i64 1)]) <|
    .ins (.pr (.bnd) [.a 0,.a 4]) <|
    .ins (.pr (.cell 8 4) [.a 0,.a 4]) <|
    .ins (.pr (.bin .neq) [.a 24,.a 22]) <|
    .ite 25 (
     .ins (.pr (.scl) [.k (.int .i64 (-1))]) <|
     .ret [.a 26]) (
     .ins (.pr (.bin .add) [.a 22,.k (.int .i64 1)]) <|
     .ins (.pr (.bnd) [.a 0,.a 4]) <|
     .ins (.pr (.cell 8 5) [.a 0,.a 4]) <|
     .ins (.cl 121 [.a 28,.a 26] 1) <|
     .ins (.pr (.bin .lss) [.a 29,.k (.int .i64 0)]) <|
     .ite 30 (
     .ins (.pr (.scl) [.k (.int .i64 (-1))]) <|
     .ret [.a 31]) (
     .ins (.pr (.bnd) [.a 0,.a 4]) <|
     .ins (.pr (.cell 8 6) [.a 0,.a 4]) <|
     .ins (.pr (.bin .neq) [.a 32,.a 29]) <|
     .ite 33 (
      .ins (.pr (.scl) [.k (.int .i64 (-1))]) <|
      .ret [.a 34]) (
      .ins (.pr (.bin .add) [.a 29,.k (.int .i64 1)]) <|
      .ins (.pr (.bnd) [.a 0,.a 4]) <|
      .ins (.pr (.cell 8 7) [.a 0,.a 4]) <|
      .ins (.pr (.bin .rem) [.a 34,.k (.int .i64 3)]) <|
      .ins (.pr (.bin .eql) [.a 37,.k (.int .i64 0)]) <|
      .ins (.pr (.bb .neq) [.a 36,.a 38]) <|
      .ite 39 (
      .ins (.pr (.scl) [.k (.int .i64 (-1))]) <|
      .ret [.a 40]) (
      .ins (.pr (.bin .add) [.a 34,.k (.int .i64 1)]) <|
      .ins (.pr (.bin .add) [.a 4,.k (.int .i64 1)]) <|
      .go 0 [.a 40,.a 3,.a 41]))))))))) (
  .ins (.pr (.scl) [.a 2]) <|
  .ret [.a 7]))
def aje_:Nat→Sem1:=pick [(121,aem_)]
def ju_:Sem1:=fun ts=>p_heldRecordS.den aje_ rounds [] ts
def p_heldSelf:PL :=
 .ins (.cl 120 [.a 2,.a 3,.a 4,.a 7] 1) <|
 .ins (.pr (.bin .lss) [.a 8,.k (.int .i64 0)]) <|
 .ite 9 (
  .ins (.pr (.scl) [.k (.int .i64 (-1))]) <|
  .ret [.a 10]) (
  .ins (.cl 71 [.a 5,.a 8] 1) <|
  .ins (.pr (.bin .lss) [.a 10,.k (.int .i64 0)]) <|
  .ite 11 (
  .ins (.pr (.scl) [.k (.int .i64 (-1))]) <|
  .ret [.a 12]) (
  .ins (.cl 39 [.a 6,.a 10] 1) <|
  .ins (.pr (.bin .lss) [.a 12,.k (.int .i64 0)]) <|
  .ite 13 (
   .ins (.pr (.scl) [.k (.int .i64 (-1))]) <|
   .ret [.a 14]) (
   .ins (.pr (.scl) [.a 12]) <|
   .ret [.a 14])))
def aa5_:Nat→Sem1:=pick [(39,ju_),(71,aa3_),(120,aaj_)]
def kq_:Sem1:=fun ts=>p_heldSelf.den aa5_ rounds [] ts
def p_s_NodeNew:PL :=
 Qi 99 [3,4,0,1,2,.e,.e] 1 <|
 Qt [5] <|
 .ite 6 (
 Qz [.k (.bool false)] <|
 Qz [I 0] <|
 Qz [I 0] <|
 Qz [I 0] <|
 .ret [10,9,8,.e,.e,.e,.e,.e,7]) (
 .loop [I 1,.e] (
 Qm [7,0] <|
 .ite 9 (
 .loop [I 0,8] (
 Qm [10,I 2] <|
 .ite 12 (
 Qi 122 [0,1,2,3,7,10] 1 <|
 Qg [13,I 0] <|
 .join (
 Qa [10,I 1] <|
 .go 0 [16,15]) (
 .ite 14 (
 Q (.lit 4 [true,true,true,true]) [7,10,I 0,.k (.bool false)] <|
 Q (.app true 4) [11,15] <|
 .go 0 [16]) (
 .go 0 [11]))) (
 Qa [7,I 1] <|
 .go 1 [13,11]))) (
 Qi 31 [3,4,0,1,2,.e,.e] 8 <|
 Qz [.k (.bool true)] <|
 Qz [12] <|
 Qz [11] <|
 Qz [10] <|
 .ret [21,20,19,13,14,15,16,8,18])))
def jr_:Sem1:=Fs p_s_NodeNew [(31,j3_),(99,xu_),(122,yZ_)]
def p_i_NodeNew:PL :=
 Qi 123 [0,1,2] 3 <|
 Qi 114 [3,4,5,6,7,.e,.e] 1 <|
 Qt [8] <|
 .ite 9 (
 Qz [.k (.bool false)] <|
 Qz [I 0] <|
 Qz [I 0] <|
 Qz [I 0] <|
 .ret [13,12,11,.e,.e,.e,.e,.e,10]) (
 Qi 33 [3,4,5,6,7,.e,.e] 8 <|
 Qi 124 [0,1,2,3] 1 <|
 Qz [.k (.bool true)] <|
 Qz [12] <|
 Qz [11] <|
 Qz [10] <|
 .ret [22,21,20,13,14,15,16,18,19])
def jh_:Sem1:=Fs p_i_NodeNew [(33,jV_),(114,xt_),(123,wu_),(124,vc_)]
def p_heldEarS:PL :=
 .loop [.a 1,.k (.int .i64 0),.k (.int .i64 0)] (
  .ins (.pr (.len) [.a 0]) <|
  .ins (.pr (.bin .lss) [.a 4,.a 5]) <|
  .ite 6 (
  .ins (.pr (.bnd) [.a 0,.a 4]) <|
  .ins (.pr (.cell 4 0) [.a 0,.a 4]) <|
  .ins (.pr (.bin .neq) [.a 8,.a 2]) <|
  .ite 9 (
   .ins (.pr (.scl) [.k (.int .i64 (-1))]) <|
   .ret [.a 10]) (
   .ins (.pr (.bin .add) [.a 2,.k (.int .i64 1)]) <|
   .ins (.pr (.bnd) [.a 0,.a 4]) <|
   .ins (.pr (.cell 4 1) [.a 0,.a 4]) <|
   .ins (.pr (.bin .neq) [.a 12,.a 10]) <|
   .ite 13 (
   .ins (.pr (.scl) [.k (.int .i64 (-1))]) <|
   .ret [.a 14]) (
   .ins (.pr (.bin .add) [.a 10,.k (.int .i64 1)]) <|
   .ins (.pr (.bnd) [.a 0,.a 4]) <|
   .ins (.pr (.cell 4 2) [.a 0,.a 4]) <|
   .ins (.pr (.bin .neq) [.a 16,.a 14]) <|
   .ite 17 (
    .ins (.pr (.scl) [.k (.int .i64 (-1))]) <|
    .ret [.a 18]) (
    .ins (.pr (.bin .add) [.a 14,.k (.int .i64 1)]) <|
    .ins (.pr (.bnd) [.a 0,.a 4]) <|
    .ins (.pr (.cell 4 3) [.a 0,.a 4]) <|
    .ins (.pr (.bin .rem) [.a 18,.k (.int .i64 3)]) <|
    .ins (.pr (.bin .eql) [.a 21,.k (.int .i64 0)]) <|
    .ins (.pr (.bb .neq) [.a 20,.a 22]) <|
    .ite 23 (
    .ins (.pr (.scl) [.k (.int .i64 (-1))]) <|
    .ret [.a 24]) (
    .ins (.pr (.bin .add) [.a 18,.k (.int .i64 1)]) <|
    .ins (.pr (.bin .add) [.a 4,.k (.int .i64 1)]) <|
    .go 0 [.a 24,.a 3,.a 25]))))) (
  .ins (.pr (.scl) [.a 2]) <|
  .ret [.a 7]))
def ap8_:Nat→Sem1:=pick []
def abh_:Sem1:=fun ts=>p_heldEarS.den ap8_ rounds [] ts
def p_heldNode:PL :=
 .ins (.cl 38 [.a 0,.a 1,.a 2,.a 3,.a 4,.a 5,.a 6,.a 8] 1) <|
 .ins (.pr (.bin .lss) [.a 9,.k (.int .i64 0)]) <|
 .ite 10 (
  .ins (.pr (.scl) [.k (.int .i64 (-1))]) <|
  .ret [.a 11]) (
  .ins (.cl 125 [.a 7,.a 9] 1) <|
  .ins (.pr (.bin .lss) [.a 11,.k (.int .i64 0)]) <|
  .ite 12 (
  .ins (.pr (.scl) [.k (.int .i64 (-1))]) <|
  .ret [.a 13]) (
  .ins (.pr (.scl) [.a 11]) <|
  .ret [.a 13]))
def agx_:Nat→Sem1:=pick [(38,kq_),(125,abh_)]
def qN_:Sem1:=fun ts=>p_heldNode.den agx_ rounds [] ts
def p_FnExactNodeNew:PL :=
 .ins (.cl 12 [.a 0,.a 1,.a 2,.k (.int .i64 1048576)] 1) <|
 .ins (.pr (.bin .lss) [.a 5,.k (.int .i64 0)]) <|
 .ite 6 (
  .ins (.pr (.scl) [.k (.bool true)]) <|
  .ret [.a 7]) (
  .ins (.cl 14 [.a 0,.a 1,.a 2] 3) <|
  .ins (.cl 40 [.a 7,.a 8,.a 9,.a 3,.a 4] 9) <|
  .ins (.cl 14 [.a 0,.a 1,.a 2] 3) <|
  .ins (.cl 41 [.a 19,.a 20,.a 21,.a 3,.a 4] 9) <|
  .ins (.cl 28 [.a 22,.a 23,.a 24,.a 25,.a 26,.a 27,.a 28,.a 29,.a 10,.a 11,.a 12,.a 13,.a 14,.a 15,.a 16,.a 17] 1) <|
  .ins (.pr (.un .not) [.a 31]) <|
  .ite 32 (
  .ins (.pr (.scl) [.k (.bool false)]) <|
  .ret [.a 33]) (
  .ins (.pr (.bb .neq) [.a 30,.a 18]) <|
  .ite 33 (
   .ins (.pr (.scl) [.k (.bool false)]) <|
   .ret [.a 34]) (
   .ins (.cl 14 [.a 0,.a 1,.a 2] 3) <|
   .ins (.cl 18 [.a 19,.a 20,.a 21,.a 34,.a 35,.a 36] 1) <|
   .ins (.pr (.un .not) [.a 37]) <|
   .ite 38 (
   .ins (.pr (.scl) [.k (.bool false)]) <|
   .ret [.a 39]) (
   .loop [.k (.int .i64 1),.k (.int .i64 0),.a 20] (
    .ins (.pr (.len) [.a 41]) <|
    .ins (.pr (.bin .lss) [.a 40,.a 42]) <|
    .ite 43 (
    .ins (.pr (.bnd) [.a 41,.a 40]) <|
    .ins (.pr (.put true 4 0 1) [.a 41,.a 40,.a 39]) <|
    .ins (.pr (.bin .add) [.a 39,.k (.int .i64 1)]) <|
    .ins (.pr (.bnd) [.a 45,.a 40]) <|
    .ins (.pr (.put true 4 1 1) [.a 45,.a 40,.a 46]) <|
    .ins (.pr (.bin .add) [.a 46,.k (.int .i64 1)]) <|
    .ins (.pr (.bnd) [.a 48,.a 40]) <|
    .ins (.pr (.put true 4 2 1) [.a 48,.a 40,.a 49]) <|
    .ins (.pr (.bin .add) [.a 49,.k (.int .i64 1)]) <|
    .ins (.pr (.bnd) [.a 51,.a 40]) <|
    .ins (.pr (.put true 4 3 1) [.a 51,.a 40,.a 52]) <|
    .ins (.pr (.bin .add) [.a 52,.k (.int .i64 1)]) <|
    .ins (.pr (.bin .add) [.a 40,.k (.int .i64 1)]) <|
    .go 0 [.a 55,.a 56,.a 54]) (
    .loop [.a 39,.k (.int .i64 0),.a 21] (
     .ins (.pr (.len) [.a 46]) <|
     .ins (.pr (.bin .lss) [.a 45,.a 47]) <|
     .ite 48 (
     .ins (.pr (.bnd) [.a 46,.a 45]) <|
     .ins (.pr (.put true 4 0 1) [.a 46,.a 45,.a 44]) <|
     .ins (.pr (.bin .add) [.a 44,.k (.int .i64 1)]) <|
     .ins (.pr (.bnd) [.a 50,.a 45]) <|
     .ins (.pr (.put true 4 1 1) [.a 50,.a 45,.a 51]) <|
     .ins (.pr (.bin .add) [.a 51,.k (.int .i64 1)]) <|
     .ins (.pr (.bnd) [.a 53,.a 45]) <|
     .ins (.pr (.put true 4 2 1) [.a 53,.a 45,.a 54]) <|
     .ins (.pr (.bin .add) [.a 54,.k (.int .i64 1)]) <|
     .ins (.pr (.bin .rem) [.a 57,.k (.int .i64 3)]) <|
     .ins (.pr (.bin .eql) [.a 58,.k (.int .i64 0)]) <|
     .ins (.pr (.bnd) [.a 56,.a 45]) <|
     .ins (.pr (.put true 4 3 1) [.a 56,.a 45,.a 59]) <|
     .ins (.pr (.bin .add) [.a 57,.k (.int .i64 1)]) <|
     .ins (.pr (.bin .add) [.a 45,.k (.int .i64 1)]) <|
     .go 0 [.a 62,.a 63,.a 61]) (
     .ins (.pr (.bin .lss) [.a 44,.k (.int .i64 0)]) <|
     .ite 49 (
      .ins (.pr (.scl) [.k (.bool false)]) <|
      .ret [.a 50]) (
      .ins (.cl 28 [.a 22,.a 23,.a 24,.a 25,.a 26,.a 27,.a 28,.a 29,.a 10,.a 11,.a 12,.a 13,.a 14,.a 15,.a 16,.a 17] 1) <|
      .ins (.pr (.un .not) [.a 50]) <|
      .ite 51 (
      .ins (.pr (.scl) [.k (.bool false)]) <|
      .ret [.a 52]) (
      .ins (.pr (.bb .neq) [.a 30,.a 18]) <|
      .ite 52 (
       .ins (.pr (.scl) [.k (.bool false)]) <|
       .ret [.a 53]) (
       .loop [.k (.int .i64 1),.k (.int .i64 0),.a 25] (
       .ins (.pr (.len) [.a 55]) <|
       .ins (.pr (.bin .lss) [.a 54,.a 56]) <|
       .ite 57 (
        .ins (.pr (.bnd) [.a 55,.a 54]) <|
        .ins (.pr (.put true 4 0 1) [.a 55,.a 54,.a 53]) <|
        .ins (.pr (.bin .add) [.a 53,.k (.int .i64 1)]) <|
        .ins (.pr (.bnd) [.a 59,.a 54]) <|
        .ins (.pr (.put true 4 1 1) [.a 59,.a 54,.a 60]) <|
        .ins (.pr (.bin .add) [.a 60,.k (.int .i64 1)]) <|
        .ins (.pr (.bnd) [.a 62,.a 54]) <|
        .ins (.pr (.put true 4 2 1) [.a 62,.a 54,.a 63]) <|
        .ins (.pr (.bin .add) [.a 63,.k (.int .i64 1)]) <|
        .ins (.pr (.bnd) [.a 65,.a 54]) <|
        .ins (.pr (.put true 4 3 1) [.a 65,.a 54,.a 66]) <|
        .ins (.pr (.bin .add) [.a 66,.k (.int .i64 1)]) <|
        .ins (.pr (.bin .add) [.a 54,.k (.int .i64 1)]) <|
        .go 0 [.a 69,.a 70,.a 68]) (
        .loop [.a 53,.k (.int .i64 0),.a 26] (
        .ins (.pr (.len) [.a 60]) <|
        .ins (.pr (.bin .lss) [.a 59,.a 61]) <|
        .ite 62 (
         .ins (.pr (.bnd) [.a 60,.a 59]) <|
         .ins (.pr (.put true 4 0 1) [.a 60,.a 59,.a 58]) <|
         .ins (.pr (.bin .add) [.a 58,.k (.int .i64 1)]) <|
         .ins (.pr (.bnd) [.a 64,.a 59]) <|
         .ins (.pr (.put true 4 1 1) [.a 64,.a 59,.a 65]) <|
         .ins (.pr (.bin .add) [.a 65,.k (.int .i64 1)]) <|
         .ins (.pr (.bnd) [.a 67,.a 59]) <|
         .ins (.pr (.put true 4 2 1) [.a 67,.a 59,.a 68]) <|
         .ins (.pr (.bin .add) [.a 68,.k (.int .i64 1)]) <|
         .ins (.pr (.bin .rem) [.a 71,.k (.int .i64 3)]) <|
         .ins (.pr (.bin .eql) [.a 72,.k (.int .i64 0)]) <|
         .ins (.pr (.bnd) [.a 70,.a 59]) <|
         .ins (.pr (.put true 4 3 1) [.a 70,.a 59,.a 73]) <|
         .ins (.pr (.bin .add) [.a 71,.k (.int .i64 1)]) <|
         .ins (.pr (.bin .add) [.a 59,.k (.int .i64 1)]) <|
         .go 0 [.a 76,.a 77,.a 75]) (
         .loop [.a 58,.k (.int .i64 0),.a 27] (
         .ins (.pr (.len) [.a 65]) <|
         .ins (.pr (.bin .lss) [.a 64,.a 66]) <|
         .ite 67 (
          .ins (.pr (.bnd) [.a 65,.a 64]) <|
          .ins (.pr (.put true 1 0 1) [.a 65,.a 64,.a 63]) <|
          .ins (.pr (.bin .add) [.a 63,.k (.int .i64 1)]) <|
          .ins (.pr (.bin .add) [.a 64,.k (.int .i64 1)]) <|
          .go 0 [.a 70,.a 71,.a 69]) (
          .loop [.a 63,.k (.int .i64 0),.a 28] (
          .ins (.pr (.len) [.a 70]) <|
          .ins (.pr (.bin .lss) [.a 69,.a 71]) <|
          .ite 72 (
           .ins (.pr (.bnd) [.a 70,.a 69]) <|
           .ins (.pr (.put true 8 0 1) [.a 70,.a 69,.a 68]) <|
           .ins (.pr (.bin .add) [.a 68,.k (.int .i64 1)]) <|
           .ins (.pr (.bnd) [.a 74,.a 69]) <|
           .ins (.pr (.put true 8 1 1) [.a 74,.a 69,.a 75]) <|
           .ins (.pr (.bin .add) [.a 75,.k (.int .i64 1)]) <|
           .ins (.pr (.bnd) [.a 77,.a 69]) <|
           .ins (.pr (.put true 8 2 1) [.a 77,.a 69,.a 78]) <|
           .ins (.pr (.bin .add) [.a 78,.k (.int .i64 1)]) <|
           .ins (.pr (.bnd) [.a 80,.a 69]) <|
           .ins (.pr (.put true 8 3 1) [.a 80,.a 69,.a 81]) <|
           .ins (.pr (.bin .add) [.a 81,.k (.int .i64 1)]) <|
           .ins (.pr (.bnd) [.a 83,.a 69]) <|
           .ins (.pr (.put true 8 4 1) [.a 83,.a 69,.a 84]) <|
           .ins (.pr (.bin .add) [.a 84,.k (.int .i64 1)]) <|
           .ins (.pr (.bnd) [.a 86,.a 69]) <|
           .ins (.pr (.dig 8 5) [.a 86,.a 69]) <|
           .loop [.a 87,.k (.int .i64 0),.a 86] (
           .ins (.pr (.dig 8 5) [.a 92,.a 69]) <|
           .ins (.pr (.len) [.a 93]) <|
           .ins (.pr (.bin .lss) [.a 91,.a 94]) <|
           .ite 95 (
            .ins (.pr (.dig 8 5) [.a 92,.a 69]) <|
            .ins (.pr (.bnd) [.a 96,.a 91]) <|
            .ins (.pr (.dig 8 5) [.a 92,.a 69]) <|
            .ins (.pr (.put true 2 0 1) [.a 98,.a 91,.a 90]) <|
            .ins (.pr (.dig 8 5) [.a 92,.a 69]) <|
            .ins (.pr (.bury 8 5) [.a 92,.a 69,.a 99]) <|
            .ins (.pr (.bin .add) [.a 90,.k (.int .i64 1)]) <|
            .ins (.pr (.dig 8 5) [.a 101,.a 69]) <|
            .ins (.pr (.bnd) [.a 103,.a 91]) <|
            .ins (.pr (.dig 8 5) [.a 101,.a 69]) <|
            .ins (.pr (.put true 2 1 1) [.a 105,.a 91,.a 102]) <|
            .ins (.pr (.dig 8 5) [.a 101,.a 69]) <|
            .ins (.pr (.bury 8 5) [.a 101,.a 69,.a 106]) <|
            .ins (.pr (.bin .add) [.a 102,.k (.int .i64 1)]) <|
            .ins (.pr (.bin .add) [.a 91,.k (.int .i64 1)]) <|
            .go 0 [.a 109,.a 110,.a 108]) (
            .ins (.pr (.bnd) [.a 92,.a 69]) <|
            .ins (.pr (.put true 8 6 1) [.a 92,.a 69,.a 90]) <|
            .ins (.pr (.bin .add) [.a 90,.k (.int .i64 1)]) <|
            .ins (.pr (.bin .rem) [.a 98,.k (.int .i64 3)]) <|
            .ins (.pr (.bin .eql) [.a 99,.k (.int .i64 0)]) <|
            .ins (.pr (.bnd) [.a 97,.a 69]) <|
            .ins (.pr (.put true 8 7 1) [.a 97,.a 69,.a 100]) <|
            .ins (.pr (.bin .add) [.a 98,.k (.int .i64 1)]) <|
            .ins (.pr (.bin .add) [.a 69,.k (.int .i64 1)]) <|
            .go 1 [.a 103,.a 104,.a 102]))) (
           .loop [.a 68,.k (.int .i64 0),.a 29] (
           .ins (.pr (.len) [.a 75]) <|
           .ins (.pr (.bin .lss) [.a 74,.a 76]) <|
           .ite 77 (
            .ins (.pr (.bnd) [.a 75,.a 74]) <|
            .ins (.pr (.put true 4 0 1) [.a 75,.a 74,.a 73]) <|
            .ins (.pr (.bin .add) [.a 73,.k (.int .i64 1)]) <|
            .ins (.pr (.bnd) [.a 79,.a 74]) <|
            .ins (.pr (.put true 4 1 1) [.a 79,.a 74,.a 80]) <|
            .ins (.pr (.bin .add) [.a 80,.k (.int .i64 1)]) <|
            .ins (.pr (.bnd) [.a 82,.a 74]) <|
            .ins (.pr (.put true 4 2 1) [.a 82,.a 74,.a 83]) <|
            .ins (.pr (.bin .add) [.a 83,.k (.int .i64 1)]) <|
            .ins (.pr (.bin .rem) [.a 86,.k (.int .i64 3)]) <|
            .ins (.pr (.bin .eql) [.a 87,.k (.int .i64 0)]) <|
            .ins (.pr (.bnd) [.a 85,.a 74]) <|
            .ins (.pr (.put true 4 3 1) [.a 85,.a 74,.a 88]) <|
            .ins (.pr (.bin .add) [.a 86,.k (.int .i64 1)]) <|
            .ins (.pr (.bin .add) [.a 74,.k (.int .i64 1)]) <|
            .go 0 [.a 91,.a 92,.a 90]) (
            .ins (.cl 42 [.a 22,.a 23,.a 24,.a 55,.a 60,.a 65,.a 70,.a 75,.k (.int .i64 1)] 1) <|
            .ins (.pr (.bin .lss) [.a 78,.k (.int .i64 0)]) <|
            .ite 79 (
            .ins (.pr (.scl) [.k (.bool false)]) <|
            .ret [.a 80]) (
            .ins (.pr (.bin .neq) [.a 78,.a 73]) <|
            .ite 80 (
             .ins (.pr (.scl) [.k (.bool false)]) <|
             .ret [.a 81]) (
             .ins (.cl 14 [.a 0,.a 1,.a 2] 3) <|
             .ins (.cl 41 [.a 81,.a 82,.a 83,.a 3,.a 4] 9) <|
             .ins (.cl 28 [.a 84,.a 85,.a 86,.a 87,.a 88,.a 89,.a 90,.a 91,.a 10,.a 11,.a 12,.a 13,.a 14,.a 15,.a 16,.a 17] 1) <|
             .ins (.pr (.un .not) [.a 93]) <|
             .ite 94 (
             .ins (.pr (.scl) [.k (.bool false)]) <|
             .ret [.a 95]) (
             .ins (.pr (.bb .neq) [.a 92,.a 18]) <|
             .ite 95 (
              .ins (.pr (.scl) [.k (.bool false)]) <|
              .ret [.a 96]) (
              .ins (.cl 42 [.a 22,.a 23,.a 24,.a 55,.a 60,.a 65,.a 70,.a 75,.k (.int .i64 1)] 1) <|
              .ins (.pr (.bin .lss) [.a 96,.k (.int .i64 0)]) <|
              .ite 97 (
              .ins (.pr (.scl) [.k (.bool false)]) <|
              .ret [.a 98]) (
              .ins (.pr (.bin .neq) [.a 96,.a 73]) <|
              .ite 98 (
               .ins (.pr (.scl) [.k (.bool false)]) <|
               .ret [.a 99]) (
               .ins (.pr (.scl) [.k (.bool true)]) <|
               .ret [.a 99])))))))))))))))))))))))))))
def xS_:Nat→Sem1:=pick [(12,kM_),(14,age_),(18,kN_),(28,acq_),(40,jr_),(41,jh_),(42,qN_)]
def vw_:Sem1:=fun ts=>p_FnExactNodeNew.den xS_ rounds [] ts
end Go.Proofs.YtiebbbmibbkpcaaGreatC
