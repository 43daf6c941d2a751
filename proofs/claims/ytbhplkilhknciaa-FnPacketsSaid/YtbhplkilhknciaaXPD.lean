/- The plain programs of the functions that are walked (printed by a program). Conditions: none. -/
import Derived.Test.YtbhplkilhknciaaKe
namespace Go.Proofs.YtbhplkilhknciaaC
def xL:PL:=
 .ins (.pr (.len) [.a 0])<|
 .ins (.pr (.bin .gtr) [.a 1,.k (.int .i64 1048576)])<|
 .ins (.pr (.iP) [.a 2])<|
 .ret [.a 3]
def YN:Nat->ai:=pick []
def vm:ai:=λts=>xL.den YN rounds [] ts
def j7:PL:=
 Q (.bin .mul) [2,I 6364136223846793005]<|
 Qa [3,I 1442695040888963407]<|
 Q (.bin .shr) [4,.k (.int .u64 33)]<|
 Q (.bin .shr) [4,.k (.int .u64 45)]<|
 Q (.bin .xor) [5,6]<|
 Q (.bin .and) [7,I 255]<|
 Qn [0]<|
 Ql [1,9]<|
 .join (
 Qz [12]<|
 .ret [13,0,11,4]) (
 .ite 10 (
 Q1 [0,1]<|
 Q (.dA .i64) [12]<|
 Qa [8,13]<|
 Q (.bin .and) [14,I 255]<|
 Qa [1,I 1]<|
 .go 0 [16,15]) (
 .go 0 [1,8]))
def rY:ai:=Fs j7 []
def jd:PL:=
 Qm [3,I 0]<|
 .ite 4 (
 Qz [I 0]<|
 .ret [5,0,1,2]) (
 Qm [3,I 256]<|
 .ite 5 (
 Qi 49 [0,1,2] 4<|
 Q (.bin .rem) [6,3]<|
 Qz [10]<|
 .ret [11,7,8,9]) (
 Qi 49 [0,1,2] 4<|
 Qi 49 [7,8,9] 4<|
 Qi 49 [11,12,13] 4<|
 Qi 49 [15,16,17] 4<|
 Q (.bin .mul) [6,I 16777216]<|
 Q (.bin .mul) [10,I 65536]<|
 Qa [22,23]<|
 Q (.bin .mul) [14,I 256]<|
 Qa [24,25]<|
 Qa [26,18]<|
 Q (.bin .rem) [27,3]<|
 Qz [28]<|
 .ret [29,19,20,21]))
def j8:ai:=Fs jd [(49,rY)]
def j9:PL:=
 Qi 50 [0,1,2,3] 4<|
 Qe [4,I 0]<|
 Qz [8]<|
 .ret [9,5,6,7]
def Ba:ai:=Fs j9 [(50,j8)]
def gO:PL:=
 Qn [3]<|
 Qi 50 [0,1,2,4] 4<|
 Q1 [3,5]<|
 Qz [10]<|
 .ret [11,6,7,8]
def v_:ai:=Fs gO [(50,j8)]
def iG:PL:=
 Qi 50 [0,1,2,I 3] 4<|
 Qa [I 1,3]<|
 Qi 50 [4,5,6,I 4] 4<|
 Qa [I 1,8]<|
 Qi 50 [9,10,11,I 3] 4<|
 Qi 50 [14,15,16,I 5] 4<|
 Qa [I 1,17]<|
 Qe [7,I 1]<|
 .join (
 Qz [30]<|
 Qz [29]<|
 Qz [21]<|
 Qz [27]<|
 Qz [12]<|
 Qz [7]<|
 Qz [26]<|
 .ret [37,36,35,34,33,28,32,31,23,24,25]) (
 .ite 22 (
 .loop [I 1,18,19,20,.e] (
 Qm [23,I 6]<|
 .ite 28 (
 Qu [23,12]<|
 .ite 29 (
 Qi 60 [24,25,26,I 3] 4<|
 .join (
 Qa [23,I 1]<|
 .go 0 [38,34,35,36,37]) (
 .ite 30 (
 Qi 50 [31,32,33,I 4] 4<|
 Qa [I 1,34]<|
 Q (.lit 2 [true,true]) [23,38]<|
 Q (.app true 2) [27,39]<|
 .go 0 [35,36,37,40]) (
 .go 0 [31,32,33,27]))) (
 .join (
 Qa [23,I 1]<|
 .go 0 [34,30,31,32,33]) (
 .go 0 [24,25,26,27]))) (
 .go 1 [24,25,26,13,I 0,27,I 0,.k (.bool false)]))) (
 Qe [7,I 2]<|
 .join (
 .go 0 [24,25,26,27,28,.e,29,30]) (
 .ite 23 (
 Qi 50 [18,19,20,I 5] 4<|
 Qa [I 1,24]<|
 Q (.lit 1 [true,true,true,true,true]) [I 0,I 1,I 2,I 5,I 60000]<|
 Qi 81 [25,26,27,29] 4<|
 .go 0 [31,32,33,13,28,30,.k (.bool false)]) (
 Qe [7,I 3]<|
 .join (
 .go 0 [25,26,27,28,29,30,31]) (
 .ite 24 (
 Qi 50 [18,19,20,I 3] 4<|
 Qa [I 1,25]<|
 Q (.lit 1 [true,true,true,true]) [I 1,I 2,I 5,I 60000]<|
 Qi 81 [26,27,28,30] 4<|
 Qi 60 [32,33,34,I 2] 4<|
 .go 0 [36,37,38,I 9,29,31,35]) (
 .go 0 [18,19,20,13,I 0,I 0,.k (.bool false)]))))))
def Bb:ai:=Fs iG [(50,j8),(60,Ba),(81,v_)]
def j_:PL:=
 Qe [0,8]<|
 .ite 16 (
 Qe [1,9]<|
 .ite 17 (
 Qe [2,10]<|
 .ite 18 (
 Qe [3,11]<|
 Qz [19]<|
 .ret [20]) (
 Qz [.k (.bool false)]<|
 .ret [19])) (
 Qz [.k (.bool false)]<|
 .ret [18])) (
 Qz [.k (.bool false)]<|
 .ret [17])
def Bc:ai:=Fs j_ []
def nh:PL:=
 .loop [I 0,I 0] (
 Qn [0]<|
 Ql [10,11]<|
 .ite 12 (
 Q8 [0,10]<|
 Qi 118 [14,15,16,17,18,19,20,21,1,2,3,4,5,6,7,8] 1<|
 .ite 22 (
 Qz [10]<|
 .ret [23]) (
 Qa [10,I 1]<|
 .go 0 [9,23])) (
 Qz [.k (.int .i64 (-1))]<|
 .ret [13]))
def HL:ai:=Fs nh [(118,Bc)]
def nj:PL:=
 Qh [0,1]<|
 .ite 3 (
 Qm [0,2]<|
 Qz [4]<|
 .ret [5]) (
 Qz [.k (.bool false)]<|
 .ret [4])
def tl:ai:=Fs nj []
def ke:PL:=
 .loop [.k (.bool false),I 0] (
 Qn [5]<|
 Ql [9,10]<|
 .ite 11 (
 Q2 [5,9]<|
 Qi 90 [13,I 1,I 6] 1<|
 Qt [15]<|
 .ite 16 (
 Qz [.k (.bool false)]<|
 .ret [17]) (
 Qe [13,2]<|
 .ite 17 (
 Qz [.k (.bool false)]<|
 .ret [18]) (
 Qi 90 [14,I 1,I 1000] 1<|
 Qt [18]<|
 .ite 19 (
 Qz [.k (.bool false)]<|
 .ret [20]) (
 Qg [9,I 0]<|
 .ite 20 (
 Qs [9,I 1]<|
 Qb [5,21]<|
 Qc 2 0 [5,21]<|
 Qh [23,13]<|
 .ite 24 (
 Qz [.k (.bool false)]<|
 .ret [25]) (
 Qa [9,I 1]<|
 .go 0 [8,25])) (
 Qa [9,I 1]<|
 .go 0 [8,21]))))) (
 Qz [.k (.bool true)]<|
 .ret [12]))
def HM:ai:=Fs ke [(90,tl)]
def je:PL:=
 Qi 90 [2,I 1,I 6] 1<|
 Qt [8]<|
 .ite 9 (
 Qz [.k (.bool false)]<|
 .ret [10]) (
 Qi 90 [4,I 1,I 100000] 1<|
 Qt [10]<|
 .ite 11 (
 Qz [.k (.bool false)]<|
 .ret [12]) (
 Qe [1,I 1]<|
 .ite 12 (
 Qi 90 [0,I 0,I 2] 1<|
 .ite 13 (
 Qe [3,I 0]<|
 .ite 14 (
 Qi 119 [0,1,2,3,4,5,6,7] 1<|
 .ite 15 (
 Qe [6,I 0]<|
 .ite 16 (
 Qt [7]<|
 Qz [17]<|
 .ret [18]) (
 Qz [.k (.bool false)]<|
 .ret [17])) (
 Qz [.k (.bool false)]<|
 .ret [16])) (
 Qz [.k (.bool false)]<|
 .ret [15])) (
 Qz [.k (.bool false)]<|
 .ret [14])) (
 Qe [1,I 2]<|
 .ite 13 (
 Qi 90 [0,I 0,I 2] 1<|
 .ite 14 (
 Qi 90 [3,I 1,I 6] 1<|
 .ite 15 (
 Qn [5]<|
 Qe [16,I 0]<|
 .ite 17 (
 Qi 90 [6,I 0,I 60000] 1<|
 .ite 18 (
 Qt [7]<|
 Qz [19]<|
 .ret [20]) (
 Qz [.k (.bool false)]<|
 .ret [19])) (
 Qz [.k (.bool false)]<|
 .ret [18])) (
 Qz [.k (.bool false)]<|
 .ret [16])) (
 Qz [.k (.bool false)]<|
 .ret [15])) (
 Qe [1,I 3]<|
 .ite 14 (
 Qe [0,I 9]<|
 .ite 15 (
 Qi 90 [3,I 1,I 9] 1<|
 .ite 16 (
 Qn [5]<|
 Qe [17,I 0]<|
 .ite 18 (
 Qi 90 [6,I 1,I 1000] 1<|
 .ite 19 (
 Qz [.k (.bool true)]<|
 .ret [20]) (
 Qe [6,I 60000]<|
 Qz [20]<|
 .ret [21])) (
 Qz [.k (.bool false)]<|
 .ret [19])) (
 Qz [.k (.bool false)]<|
 .ret [17])) (
 Qz [.k (.bool false)]<|
 .ret [16])) (
 Qz [.k (.bool false)]<|
 .ret [15])))))
def wb:ai:=Fs je [(90,tl),(119,HM)]
def lL:PL:=
 Qu [0,8]<|
 .ite 16 (
 Ql [0,8]<|
 Qz [17]<|
 .ret [18]) (
 Qu [1,9]<|
 .ite 17 (
 Ql [1,9]<|
 Qz [18]<|
 .ret [19]) (
 Qu [2,10]<|
 .ite 18 (
 Ql [2,10]<|
 Qz [19]<|
 .ret [20]) (
 Ql [3,11]<|
 Qz [19]<|
 .ret [20])))
def Bd:ai:=Fs lL []
def lM:PL:=
 Q (.lit 8 []) []<|
 .loop [9,I 0] (
 Qn [0]<|
 Ql [11,12]<|
 .ite 13 (
 Q8 [0,11]<|
 Qi 117 [15,16,17,18,19,20,21,22,1,2,3,4,5,6,7,8] 1<|
 .join (
 Qa [11,I 1]<|
 .go 0 [24,25]) (
 .ite 23 (
 Q8 [0,11]<|
 Q (.lit 8 []) [25,26,27,28,29,30,31,32]<|
 Qy [10,33]<|
 .go 0 [34]) (
 .go 0 [10]))) (
 Q (.lit 8 []) [1,2,3,4,5,6,7,8]<|
 Qy [10,14]<|
 .loop [15,I 0] (
 Qn [0]<|
 Ql [17,18]<|
 .ite 19 (
 Q8 [0,17]<|
 Qi 117 [1,2,3,4,5,6,7,8,21,22,23,24,25,26,27,28] 1<|
 .join (
 Qa [17,I 1]<|
 .go 0 [30,31]) (
 .ite 29 (
 Q8 [0,17]<|
 Q (.lit 8 []) [31,32,33,34,35,36,37,38]<|
 Qy [16,39]<|
 .go 0 [40]) (
 .go 0 [16]))) (
 .ret [16]))))
def HN:ai:=Fs lM [(117,Bd)]
def gP:PL:=
 Qi 116 [0,1,2,3,4,5,6,7,8] 1<|
 Qi 103 [1,2,3,4,5,6,7,8] 1<|
 Qt [10]<|
 .ite 11 (
 Qz [.k (.bool false)]<|
 .ret [0,12]) (
 Qh [9,I 0]<|
 .ite 12 (
 Qb [0,9]<|
 Qc 8 4 [0,9]<|
 Qh [14,5]<|
 .ite 15 (
 Qz [.k (.bool false)]<|
 .ret [0,16]) (
 Ql [9,I 0]<|
 .ite 16 (
 Qn [0]<|
 Qh [17,I 150]<|
 .ite 18 (
 Qz [.k (.bool false)]<|
 .ret [0,19]) (
 Qi 110 [0,1,2,3,4,5,6,7,8] 1<|
 Qz [.k (.bool true)]<|
 .ret [19,20])) (
 Qi 110 [0,1,2,3,4,5,6,7,8] 1<|
 Qz [.k (.bool true)]<|
 .ret [17,18]))) (
 Ql [9,I 0]<|
 .ite 13 (
 Qn [0]<|
 Qh [14,I 150]<|
 .ite 15 (
 Qz [.k (.bool false)]<|
 .ret [0,16]) (
 Qi 110 [0,1,2,3,4,5,6,7,8] 1<|
 Qz [.k (.bool true)]<|
 .ret [16,17])) (
 Qi 110 [0,1,2,3,4,5,6,7,8] 1<|
 Qz [.k (.bool true)]<|
 .ret [14,15])))
def HO:ai:=Fs gP [(103,wb),(110,HN),(116,HL)]
def jf:PL:=
 Q (.lit 8 []) []<|
 .loop [3,I 0,0,1,2] (
 Qi 50 [6,7,8,I 12] 4<|
 Ql [5,9]<|
 .ite 13 (
 Qi 95 [10,11,12] 11<|
 Qi 94 [4,14,15,16,17,18,19,20,21] 2<|
 Qa [5,I 1]<|
 .go 0 [25,27,22,23,24]) (
 .ret [4,10,11,12]))
def HP:ai:=Fs jf [(50,j8),(94,HO),(95,Bb)]
def kf:PL:=
 Q (.lit 2 []) []<|
 Q (.app true 2) [8,5]<|
 Qz [7]<|
 Qz [6]<|
 Qz [4]<|
 Qz [3]<|
 Qz [2]<|
 Qz [1]<|
 Qz [0]<|
 .ret [16,15,14,13,12,9,11,10]
def uk:ai:=Fs kf []
def nk:PL:=
 Q (.lit 8 []) []<|
 .loop [2,I 0] (
 Qn [0]<|
 Ql [4,5]<|
 .ite 6 (
 Qb [0,4]<|
 Qc 8 0 [0,4]<|
 Qe [8,1]<|
 .ite 9 (
 .join (
 Qa [4,I 1]<|
 .go 0 [10,11]) (
 Q8 [0,4]<|
 Qi 96 [11,12,13,14,15,16,17,18] 8<|
 Q (.lit 8 [true,true,true,true,true,false,true,true]) [19,20,21,22,23,24,25,26]<|
 Qy [3,27]<|
 .go 0 [28])) (
 Qb [0,4]<|
 Qc 8 0 [0,4]<|
 Qe [11,I 9]<|
 .join (
 Qa [4,I 1]<|
 .go 0 [13,14]) (
 .ite 12 (
 Q8 [0,4]<|
 Qi 96 [14,15,16,17,18,19,20,21] 8<|
 Q (.lit 8 [true,true,true,true,true,false,true,true]) [22,23,24,25,26,27,28,29]<|
 Qy [3,30]<|
 .go 0 [31]) (
 .go 0 [3])))) (
 .ret [3]))
def Be:ai:=Fs nk [(96,uk)]
def kg:PL:=
 Q (.lit 2 []) []<|
 Qe [1,I 3]<|
 .join (
 Qz [.k (.bool false)]<|
 Qz [10]<|
 Qz [4]<|
 Qz [3]<|
 Qz [2]<|
 Qz [1]<|
 Qz [0]<|
 .ret [17,16,15,14,13,8,12,11]) (
 .ite 9 (
 .go 0 [I 1]) (
 .go 0 [I 0]))
def xM:ai:=Fs kg []
def kh:PL:=
 Qi 66 [0,1] 1<|
 .loop [I 0,2] (
 Qn [4]<|
 Ql [3,5]<|
 .ite 6 (
 Q8 [4,3]<|
 Qi 97 [8,9,10,11,12,13,14,15] 8<|
 Qb [4,3]<|
 Q (.put false 8 0 8) [4,3,16,17,18,19,20,21,22,23]<|
 Qa [3,I 1]<|
 .go 0 [26,25]) (
 .ret [4]))
def HQ:ai:=Fs kh [(66,Be),(97,xM)]
def iH:PL:=
 Qi 50 [0,1,2,I 3] 4<|
 Qa [I 1,3]<|
 Qi 50 [4,5,6,I 4] 4<|
 Qa [I 1,8]<|
 Qi 50 [9,10,11,I 3] 4<|
 Q (.bin .rem) [12,I 5]<|
 Qa [17,I 1]<|
 Qe [7,I 1]<|
 .ite 19 (
 .loop [I 1,14,15,16,.e] (
 Qm [20,I 5]<|
 .ite 25 (
 Qi 60 [21,22,23,I 2] 4<|
 .join (
 Qa [20,I 1]<|
 .go 0 [31,27,28,29,30]) (
 .ite 26 (
 Qx [20]<|
 Qp [24,30]<|
 .go 0 [31]) (
 .go 0 [24]))) (
 Qz [13]<|
 Qz [18]<|
 Qz [12]<|
 Qz [7]<|
 .ret [29,28,27,26,24,.e,21,22,23]))) (
 Qi 65 [14,15,16] 4<|
 Qi 66 [20,13] 1<|
 Qe [7,I 2]<|
 .join (
 Qz [13]<|
 Qz [18]<|
 Qz [12]<|
 Qz [7]<|
 .ret [30,29,28,27,.e,26,21,22,23]) (
 .ite 25 (
 Qi 67 [20,13] 1<|
 .go 0 [26]) (
 .go 0 [24])))
def yY:ai:=Fs iH [(50,j8),(60,Ba),(65,HP),(66,Be),(67,HQ)]
def eF:PL:=
 Qn [0]<|
 Qa [I 13901,1]<|
 .loop [2,I 0] (
 Qn [0]<|
 Ql [4,5]<|
 .ite 6 (
 Ql [4,I 4000]<|
 .ite 7 (
 Q (.bin .mul) [3,I 131]<|
 Q1 [0,4]<|
 Q (.dA .i64) [10]<|
 Qa [8,11]<|
 Qa [12,I 7]<|
 Q (.bin .and) [13,I 1073741823]<|
 Qa [4,I 1]<|
 .go 0 [14,15]) (
 Qi 34 [0,I 0,3] 9<|
 Qz [11]<|
 Qz [10]<|
 Qz [9]<|
 Qz [8]<|
 .ret [20,19,18,17,12,13])) (
 Qi 34 [0,I 0,3] 9<|
 Qz [10]<|
 Qz [9]<|
 Qz [8]<|
 Qz [7]<|
 .ret [19,18,17,16,11,12]))
def HR:ai:=Fs eF [(34,yY)]
def tq:PL:=
 Qh [0,1]<|
 .ite 3 (
 Qm [0,2]<|
 Qz [4]<|
 .ret [5]) (
 Qz [.k (.bool false)]<|
 .ret [4])
def pw:ai:=Fs tq []
def ki:PL:=
 Qn [0]<|
 .loop [.k (.bool false),I 0] (
 Ql [3,1]<|
 .ite 4 (
 Q1 [0,3]<|
 Qi 44 [6,I 1,I 6] 1<|
 Qt [7]<|
 .ite 8 (
 Qz [.k (.bool false)]<|
 .ret [9]) (
 Qg [3,I 0]<|
 .ite 9 (
 Qs [3,I 1]<|
 Q1 [0,10]<|
 Qh [12,6]<|
 .ite 13 (
 Qz [.k (.bool false)]<|
 .ret [14]) (
 Qa [3,I 1]<|
 .go 0 [2,14])) (
 Qa [3,I 1]<|
 .go 0 [2,10]))) (
 Qz [.k (.bool true)]<|
 .ret [5]))
def HS:ai:=Fs ki [(44,pw)]
def lN:PL:=
 Qn [5]<|
 .loop [.k (.bool false),I 0] (
 Ql [10,8]<|
 .ite 11 (
 Q2 [5,10]<|
 Qi 44 [13,I 1,I 6] 1<|
 Qt [15]<|
 .ite 16 (
 Qz [.k (.bool false)]<|
 .ret [17]) (
 Qe [13,2]<|
 .ite 17 (
 Qz [.k (.bool false)]<|
 .ret [18]) (
 Qi 44 [14,I 1,I 1000] 1<|
 Qt [18]<|
 .ite 19 (
 Qz [.k (.bool false)]<|
 .ret [20]) (
 Qg [10,I 0]<|
 .ite 20 (
 Qs [10,I 1]<|
 Qb [5,21]<|
 Qc 2 0 [5,21]<|
 Qh [23,13]<|
 .ite 24 (
 Qz [.k (.bool false)]<|
 .ret [25]) (
 Qa [10,I 1]<|
 .go 0 [9,25])) (
 Qa [10,I 1]<|
 .go 0 [9,21]))))) (
 Qz [.k (.bool true)]<|
 .ret [12]))
def HT:ai:=Fs lN [(44,pw)]
def jg:PL:=
 Qi 44 [2,I 1,I 6] 1<|
 Qt [8]<|
 .ite 9 (
 Qz [.k (.bool false)]<|
 .ret [10]) (
 Qi 44 [4,I 1,I 100000] 1<|
 Qt [10]<|
 .ite 11 (
 Qz [.k (.bool false)]<|
 .ret [12]) (
 Qe [1,I 1]<|
 .ite 12 (
 Qi 44 [0,I 0,I 2] 1<|
 .ite 13 (
 Qe [3,I 0]<|
 .ite 14 (
 Qi 98 [0,1,2,3,4,5,6,7] 1<|
 .ite 15 (
 Qe [6,I 0]<|
 .ite 16 (
 Qt [7]<|
 Qz [17]<|
 .ret [18]) (
 Qz [.k (.bool false)]<|
 .ret [17])) (
 Qz [.k (.bool false)]<|
 .ret [16])) (
 Qz [.k (.bool false)]<|
 .ret [15])) (
 Qz [.k (.bool false)]<|
 .ret [14])) (
 Qe [1,I 2]<|
 .ite 13 (
 Qi 44 [0,I 0,I 2] 1<|
 .ite 14 (
 Qi 44 [3,I 1,I 6] 1<|
 .ite 15 (
 Qn [5]<|
 Qe [16,I 0]<|
 .ite 17 (
 Qi 44 [6,I 0,I 60000] 1<|
 .ite 18 (
 Qt [7]<|
 Qz [19]<|
 .ret [20]) (
 Qz [.k (.bool false)]<|
 .ret [19])) (
 Qz [.k (.bool false)]<|
 .ret [18])) (
 Qz [.k (.bool false)]<|
 .ret [16])) (
 Qz [.k (.bool false)]<|
 .ret [15])) (
 Qe [1,I 3]<|
 .ite 14 (
 Qe [0,I 9]<|
 .ite 15 (
 Qi 44 [3,I 1,I 9] 1<|
 .ite 16 (
 Qn [5]<|
 Qe [17,I 0]<|
 .ite 18 (
 Qi 44 [6,I 1,I 1000] 1<|
 .ite 19 (
 Qz [.k (.bool true)]<|
 .ret [20]) (
 Qe [6,I 60000]<|
 Qz [20]<|
 .ret [21])) (
 Qz [.k (.bool false)]<|
 .ret [19])) (
 Qz [.k (.bool false)]<|
 .ret [17])) (
 Qz [.k (.bool false)]<|
 .ret [16])) (
 Qz [.k (.bool false)]<|
 .ret [15])))))
def re:ai:=Fs jg [(44,pw),(98,HT)]
def lO:PL:=
 Qu [0,8]<|
 .ite 16 (
 Ql [0,8]<|
 Qz [17]<|
 .ret [18]) (
 Qu [1,9]<|
 .ite 17 (
 Ql [1,9]<|
 Qz [18]<|
 .ret [19]) (
 Qu [2,10]<|
 .ite 18 (
 Ql [2,10]<|
 Qz [19]<|
 .ret [20]) (
 Ql [3,11]<|
 Qz [19]<|
 .ret [20])))
def HU:ai:=Fs lO []
def kj:PL:=
 Qn [0]<|
 .loop [.k (.bool false),I 0] (
 Ql [3,1]<|
 .ite 4 (
 Q8 [0,3]<|
 Qi 68 [6,7,8,9,10,11,12,13] 1<|
 Qt [14]<|
 .ite 15 (
 Qz [.k (.bool false)]<|
 .ret [16]) (
 Qg [3,I 0]<|
 .ite 16 (
 Qs [3,I 1]<|
 Q8 [0,17]<|
 Qi 72 [19,20,21,22,23,24,25,26,6,7,8,9,10,11,12,13] 1<|
 Qt [27]<|
 .ite 28 (
 Qz [.k (.bool false)]<|
 .ret [29]) (
 Qa [3,I 1]<|
 .go 0 [2,29])) (
 Qa [3,I 1]<|
 .go 0 [2,17]))) (
 Qn [0]<|
 Qm [5,I 150]<|
 Qz [6]<|
 .ret [7]))
def HV:ai:=Fs kj [(68,re),(72,HU)]
def lP:PL:=
 Qe [1,I 3]<|
 .join (
 Qz [.k (.bool false)]<|
 Qz [9]<|
 Qz [4]<|
 Qz [3]<|
 Qz [2]<|
 Qz [1]<|
 Qz [0]<|
 .ret [16,15,14,13,12,.e,11,10]) (
 .ite 8 (
 .go 0 [I 1]) (
 .go 0 [I 0]))
def HW:ai:=Fs lP []
def kl:PL:=
 Qe [0,8]<|
 .ite 16 (
 Qe [1,9]<|
 .ite 17 (
 Qe [2,10]<|
 .ite 18 (
 Qe [3,11]<|
 Qz [19]<|
 .ret [20]) (
 Qz [.k (.bool false)]<|
 .ret [19])) (
 Qz [.k (.bool false)]<|
 .ret [18])) (
 Qz [.k (.bool false)]<|
 .ret [17])
def HX:ai:=Fs kl []
def jh:PL:=
 Qi 100 [0,1,2,3,4,5,6,7,8,9,10,11,12,13,14,15] 1<|
 Qt [16]<|
 .ite 17 (
 Qz [.k (.bool false)]<|
 .ret [18]) (
 Qu [6,14]<|
 .ite 18 (
 Qz [.k (.bool false)]<|
 .ret [19]) (
 Q (.bb .neq) [7,15]<|
 .ite 19 (
 Qz [.k (.bool false)]<|
 .ret [20]) (
 Qn [5]<|
 Qn [13]<|
 Qu [20,21]<|
 .ite 22 (
 Qz [.k (.bool false)]<|
 .ret [23]) (
 Qn [5]<|
 .loop [.k (.bool false),I 0] (
 Ql [25,23]<|
 .ite 26 (
 Q2 [5,25]<|
 Q2 [13,25]<|
 Q (.oY [1,1]) [28,29,31,32]<|
 Qt [33]<|
 .ite 34 (
 Qz [.k (.bool false)]<|
 .ret [35]) (
 Qa [25,I 1]<|
 .go 0 [24,35])) (
 Qz [.k (.bool true)]<|
 .ret [27]))))))
def HY:ai:=Fs jh [(100,HX)]
def lQ:PL:=
 Qn [0]<|
 .loop [.k (.bool false),I 0] (
 Ql [3,1]<|
 .ite 4 (
 Q8 [0,3]<|
 Qi 73 [6,7,8,9,10,11,12,13] 8<|
 Qi 74 [14,15,16,17,18,19,20,21,6,7,8,9,10,11,12,13] 1<|
 Qt [22]<|
 .ite 23 (
 Qz [.k (.bool false)]<|
 .ret [24]) (
 Qa [3,I 1]<|
 .go 0 [2,24])) (
 Qz [.k (.bool true)]<|
 .ret [5]))
def HZ:ai:=Fs lQ [(73,HW),(74,HY)]
def ji:PL:=
 Qi 44 [0,I 1,I 3] 1<|
 Qt [6]<|
 .ite 7 (
 Qz [.k (.bool false)]<|
 .ret [8]) (
 Qi 44 [1,I 1,I 6] 1<|
 Qt [8]<|
 .ite 9 (
 Qz [.k (.bool false)]<|
 .ret [10]) (
 Qi 44 [2,I 1,I 6] 1<|
 Qt [10]<|
 .ite 11 (
 Qz [.k (.bool false)]<|
 .ret [12]) (
 Qe [1,2]<|
 .ite 12 (
 Qz [.k (.bool false)]<|
 .ret [13]) (
 Qi 44 [3,I 0,I 2] 1<|
 Qt [13]<|
 .ite 14 (
 Qz [.k (.bool false)]<|
 .ret [15]) (
 Qe [0,I 1]<|
 .ite 15 (
 Qi 45 [4] 1<|
 .ite 16 (
 Qn [5]<|
 Qe [17,I 0]<|
 Qz [18]<|
 .ret [19]) (
 Qz [.k (.bool false)]<|
 .ret [17])) (
 Qn [5]<|
 .loop [.k (.bool false),I 0] (
 Ql [18,16]<|
 .ite 19 (
 Q8 [5,18]<|
 Qu [21,3]<|
 .ite 29 (
 Qu [21,I 9]<|
 .ite 30 (
 Qz [.k (.bool false)]<|
 .ret [31]) (
 Qa [18,I 1]<|
 .go 0 [17,31])) (
 Qa [18,I 1]<|
 .go 0 [17,30])) (
 Qn [4]<|
 Qe [20,I 0]<|
 .ite 21 (
 Qi 46 [5] 1<|
 .ite 22 (
 Qe [0,I 3]<|
 .ite 23 (
 Qz [.k (.bool true)]<|
 .ret [24]) (
 Qi 47 [5] 1<|
 Qz [24]<|
 .ret [25])) (
 Qz [.k (.bool false)]<|
 .ret [23])) (
 Qz [.k (.bool false)]<|
 .ret [22])))))))))
def ol:ai:=Fs ji [(44,pw),(45,HS),(46,HV),(47,HZ)]
def km:PL:=
 Qi 44 [0,I 0,I 1000000000] 1<|
 Qt [1]<|
 .ite 2 (
 Qz [.k (.bool false)]<|
 Qz [.k (.string (ByteArray.mk #[]))]<|
 .ret [4,3]) (
 .loop [0,.e] (
 Qg [3,I 127]<|
 .ite 5 (
 Q (.bin .rem) [3,I 128]<|
 Qa [6,I 128]<|
 Q (.dA .u8) [7]<|
 Qx [8]<|
 Qp [4,9]<|
 Q (.bin .quo) [3,I 128]<|
 .go 0 [11,10]) (
 Q (.dA .u8) [3]<|
 Qx [6]<|
 Qp [4,7]<|
 Q (.str) [8]<|
 Qz [.k (.bool true)]<|
 Qz [9]<|
 .ret [11,10])))
def vn:ai:=Fs km [(44,pw)]
def gQ:PL:=
 Qi 68 [0,1,2,3,4,5,6,7] 1<|
 Qt [8]<|
 .ite 9 (
 Qz [.k (.bool false)]<|
 Qz [.k (.string (ByteArray.mk #[]))]<|
 .ret [11,10]) (
 Qi 35 [4] 2<|
 Qn [5]<|
 Qi 35 [12] 2<|
 Q (.dA .u8) [0]<|
 Q (.dA .u8) [1]<|
 Q (.dA .u8) [2]<|
 Q (.dA .u8) [3]<|
 Q (.lit 1 [true,true,true,true]) [15,16,17,18]<|
 Q (.str) [19]<|
 Qa [20,10]<|
 Qa [21,13]<|
 Qn [5]<|
 .loop [22,I 0] (
 Ql [25,23]<|
 .ite 26 (
 Q2 [5,25]<|
 Qi 35 [29] 2<|
 Q (.dA .u8) [28]<|
 Qx [32]<|
 Q (.str) [33]<|
 Qa [34,30]<|
 Qa [24,35]<|
 Qa [25,I 1]<|
 .go 0 [36,37]) (
 Qi 35 [6] 2<|
 .join (
 Qa [24,27]<|
 Qa [30,29]<|
 Qz [.k (.bool true)]<|
 Qz [31]<|
 .ret [33,32]) (
 .ite 7 (
 .go 0 [.k (.string (ByteArray.mk #[1]))]) (
 .go 0 [.k (.string (ByteArray.mk #[0]))])))))
def H0:ai:=Fs gQ [(35,vn),(68,re)]
def iI:PL:=
 Q (.lens) [0]<|
 Qg [1,I 20000]<|
 .ite 2 (
 Qz [.k (.bool false)]<|
 Qz [.k (.string (ByteArray.mk #[]))]<|
 .ret [4,3]) (
 Q (.lens) [0]<|
 Qi 35 [3] 2<|
 Qa [4,0]<|
 Qz [.k (.bool true)]<|
 Qz [6]<|
 .ret [8,7])
def H2:ai:=Fs iI [(35,vn)]
def ko:PL:=
 Q (.lens) [1]<|
 .loop [0,I 0] (
 Ql [4,2]<|
 .ite 5 (
 Q (.idx) [1,4]<|
 Q (.dA .u32) [6]<|
 Q (.bin .xor) [3,7]<|
 .loop [8,I 0] (
 Ql [10,I 8]<|
 .ite 11 (
 Q (.bin .and) [9,.k (.int .u32 1)]<|
 Qe [12,.k (.int .u32 1)]<|
 Q (.bin .shr) [9,.k (.int .u64 1)]<|
 .join (
 Qa [10,I 1]<|
 .go 0 [15,16]) (
 .ite 13 (
 Q (.bin .xor) [14,.k (.int .u32 3558460437)]<|
 .go 0 [15]) (
 .go 0 [14]))) (
 Qa [4,I 1]<|
 .go 1 [9,12]))) (
 Qz [3]<|
 .ret [6]))
def H3:ai:=Fs ko []
def nl:PL:=
 Qi 99 [.k (.int .u32 4294967295),0] 1<|
 Qz [1]<|
 .ret [2]
def H4:ai:=Fs nl [(99,H3)]
def lR:PL:=
 Q (.lens) [0]<|
 Qg [1,I 20000]<|
 .ite 2 (
 Qz [.k (.bool false)]<|
 Qz [.k (.string (ByteArray.mk #[]))]<|
 .ret [4,3]) (
 Qi 69 [0] 1<|
 Q (.bin .shr) [3,.k (.int .u64 24)]<|
 Q (.dA .u8) [4]<|
 Q (.bin .shr) [3,.k (.int .u64 16)]<|
 Q (.dA .u8) [6]<|
 Q (.bin .shr) [3,.k (.int .u64 8)]<|
 Q (.dA .u8) [8]<|
 Q (.dA .u8) [3]<|
 Q (.lit 1 [true,true,true,true]) [5,7,9,10]<|
 Q (.str) [11]<|
 Qa [0,12]<|
 Qz [.k (.bool true)]<|
 Qz [13]<|
 .ret [15,14])
def Bf:ai:=Fs lR [(69,H4)]
def gR:PL:=
 Qi 18 [0,1,2,3,4,5] 1<|
 Qt [6]<|
 .ite 7 (
 Qz [.k (.bool false)]<|
 Qz [.k (.string (ByteArray.mk #[]))]<|
 .ret [9,8]) (
 Qn [4]<|
 Qi 35 [8] 2<|
 Q (.dA .u8) [0]<|
 Q (.dA .u8) [1]<|
 Q (.dA .u8) [2]<|
 Q (.dA .u8) [3]<|
 Q (.lit 1 [true,true,true,true]) [11,12,13,14]<|
 Q (.str) [15]<|
 Qa [16,9]<|
 Qn [4]<|
 .loop [17,I 0] (
 Ql [20,18]<|
 .ite 21 (
 Q1 [4,20]<|
 Q (.dA .u8) [23]<|
 Qx [24]<|
 Q (.str) [25]<|
 Qa [19,26]<|
 Qa [20,I 1]<|
 .go 0 [27,28]) (
 Qn [5]<|
 Qi 35 [22] 2<|
 Qa [19,23]<|
 Qn [5]<|
 .loop [.k (.string (ByteArray.mk #[])),.k (.bool false),25,I 0] (
 Ql [30,26]<|
 .ite 31 (
 Q8 [5,30]<|
 Qi 36 [33,34,35,36,37,38,39,40] 2<|
 Qi 37 [41] 2<|
 Qt [44]<|
 .ite 45 (
 Qz [.k (.bool false)]<|
 Qz [.k (.string (ByteArray.mk #[]))]<|
 .ret [47,46]) (
 Qa [29,43]<|
 Qa [30,I 1]<|
 .go 0 [27,28,46,47])) (
 Qi 38 [29] 2<|
 Qz [33]<|
 Qz [32]<|
 .ret [35,34])))))
def H5:ai:=Fs gR [(18,ol),(35,vn),(36,H0),(37,H2),(38,Bf)]
def jj:PL:=
 Q (.lens) [0]<|
 Ql [1,I 4]<|
 .ite 2 (
 Qz [.k (.bool false)]<|
 Qz [.k (.string (ByteArray.mk #[]))]<|
 .ret [4,3]) (
 Q (.lens) [0]<|
 Qs [3,I 4]<|
 Q (.fg false true) [0,4]<|
 Qi 38 [5] 2<|
 Qt [7]<|
 .ite 8 (
 Qz [.k (.bool false)]<|
 Qz [.k (.string (ByteArray.mk #[]))]<|
 .ret [10,9]) (
 Qu [6,0]<|
 .ite 9 (
 Qz [.k (.bool false)]<|
 Qz [.k (.string (ByteArray.mk #[]))]<|
 .ret [11,10]) (
 Qz [.k (.bool true)]<|
 Qz [5]<|
 .ret [11,10])))
def Fp:ai:=Fs jj [(38,Bf)]
def gS:PL:=
 .ite 2 (
 Qz [I 0]<|
 .ret [3,0,1,.k (.bool true)]) (
 Q (.lens) [0]<|
 Qh [1,3]<|
 .ite 4 (
 Qz [I 0]<|
 .ret [5,0,1,.k (.bool true)]) (
 Qa [1,I 1]<|
 Qs [5,I 1]<|
 Q (.idx) [0,6]<|
 Q (.dA .i64) [7]<|
 Qz [8]<|
 .ret [9,0,5,2]))
def pA:ai:=Fs gS []
def kq:PL:=
 Q (.lens) [0]<|
 Qi 44 [1,I 0,2] 1<|
 Qt [3]<|
 .ite 4 (
 Qz [.k (.bool false)]<|
 Qz [I 0]<|
 Qz [I 0]<|
 .ret [7,6,5]) (
 .loop [I 0,I 0,.k (.bool false),I 0,I 1,1] (
 Q (.lens) [0]<|
 Ql [10,11]<|
 .ite 12 (
 Qa [1,I 5]<|
 Ql [10,13]<|
 .ite 14 (
 Q (.idx) [0,10]<|
 Q (.dA .i64) [15]<|
 Q (.bin .rem) [16,I 128]<|
 Q (.bin .mul) [17,9]<|
 Qa [8,18]<|
 Q (.bin .mul) [9,I 128]<|
 Ql [16,I 128]<|
 .ite 21 (
 Qe [16,I 0]<|
 .ite 22 (
 Qg [10,1]<|
 .ite 23 (
 Qz [.k (.bool false)]<|
 Qz [I 0]<|
 Qz [I 0]<|
 .ret [26,25,24]) (
 Qg [19,I 1000000000]<|
 .ite 24 (
 Qz [.k (.bool false)]<|
 Qz [I 0]<|
 Qz [I 0]<|
 .ret [27,26,25]) (
 Qa [10,I 1]<|
 Qz [.k (.bool true)]<|
 Qz [25]<|
 Qz [19]<|
 .ret [28,27,26]))) (
 Qg [19,I 1000000000]<|
 .ite 23 (
 Qz [.k (.bool false)]<|
 Qz [I 0]<|
 Qz [I 0]<|
 .ret [26,25,24]) (
 Qa [10,I 1]<|
 Qz [.k (.bool true)]<|
 Qz [24]<|
 Qz [19]<|
 .ret [27,26,25]))) (
 Qa [10,I 1]<|
 .go 0 [5,6,7,19,20,22])) (
 Qz [.k (.bool false)]<|
 Qz [I 0]<|
 Qz [I 0]<|
 .ret [17,16,15])) (
 Qz [.k (.bool false)]<|
 Qz [I 0]<|
 Qz [I 0]<|
 .ret [15,14,13])))
def Bg:ai:=Fs kq [(44,pw)]
def gT:PL:=
 Qi 70 [0,1] 3<|
 .ite 2 (
 Qz [I 0]<|
 .ret [6,0,1,.k (.bool true)]) (
 Qt [5]<|
 .ite 6 (
 Qz [I 0]<|
 .ret [7,0,1,.k (.bool true)]) (
 Qz [3]<|
 .ret [7,0,4,2]))
def pB:ai:=Fs gT [(70,Bg)]
def iJ:PL:=
 Qi 70 [0,1] 3<|
 Qt [4]<|
 .ite 5 (
 Qz [.k (.bool false)]<|
 Qz [I 0]<|
 Qz [.k (.string (ByteArray.mk #[]))]<|
 .ret [8,7,6]) (
 Qg [2,I 20000]<|
 .ite 6 (
 Qz [.k (.bool false)]<|
 Qz [I 0]<|
 Qz [.k (.string (ByteArray.mk #[]))]<|
 .ret [9,8,7]) (
 Q (.lens) [0]<|
 Qs [7,3]<|
 Qg [2,8]<|
 .ite 9 (
 Qz [.k (.bool false)]<|
 Qz [I 0]<|
 Qz [.k (.string (ByteArray.mk #[]))]<|
 .ret [12,11,10]) (
 Qa [3,2]<|
 Q (.fg true true) [0,3,10]<|
 Qa [3,2]<|
 Qz [.k (.bool true)]<|
 Qz [12]<|
 Qz [11]<|
 .ret [15,14,13])))
def H6:ai:=Fs iJ [(70,Bg)]
def fT:PL:=
 Qi 71 [0,1] 3<|
 .ite 2 (
 Qz [.k (.string (ByteArray.mk #[]))]<|
 .ret [6,0,1,.k (.bool true)]) (
 Qt [5]<|
 .ite 6 (
 Qz [.k (.string (ByteArray.mk #[]))]<|
 .ret [7,0,1,.k (.bool true)]) (
 Qz [3]<|
 .ret [7,0,4,2]))
def rf:ai:=Fs fT [(71,H6)]
def gU:PL:=
 Qi 40 [0,I 0,.k (.bool false)] 4<|
 Qi 40 [2,3,4] 4<|
 Qi 40 [6,7,8] 4<|
 Qi 40 [10,11,12] 4<|
 Qi 41 [14,15,16] 4<|
 Qi 41 [18,19,20] 4<|
 .loop [21,22,23,24,.e] (
 .join (
 .ite 30 (
 Qi 40 [26,27,28] 4<|
 Qi 41 [32,33,34] 4<|
 Q (.lit 2 [true,true]) [31,35]<|
 Q (.app true 2) [29,39]<|
 Qs [25,I 1]<|
 .go 0 [41,36,37,38,40]) (
 Qi 41 [26,27,28] 4<|
 Qi 40 [32,33,34] 4<|
 Qe [35,I 1]<|
 .join (
 .ite 40 (
 Qz [.k (.bool false)]<|
 Qz [.k (.bool false)]<|
 Qz [I 0]<|
 Qz [I 0]<|
 Qz [I 0]<|
 Qz [I 0]<|
 Qz [I 0]<|
 Qz [I 0]<|
 .ret [48,47,46,45,44,.e,43,42,41]) (
 Qz [.k (.bool true)]<|
 Qz [39]<|
 Qz [31]<|
 Qz [17]<|
 Qz [13]<|
 Qz [9]<|
 Qz [5]<|
 Qz [1]<|
 .ret [48,47,46,45,44,29,43,42,41])) (
 .ite 38 (
 .go 0 [.k (.bool true)]) (
 Qg [35,I 1]<|
 .ite 40 (
 .go 0 [.k (.bool true)]) (
 Q (.lens) [0]<|
 Qu [37,41]<|
 .ite 42 (
 .go 0 [.k (.bool true)]) (
 Qi 68 [1,5,9,13,17,29,31,39] 1<|
 Qt [43]<|
 .go 0 [44])))))) (
 Qg [25,I 0]<|
 .ite 30 (
 Qt [28]<|
 .go 0 [31]) (
 .go 0 [.k (.bool false)])))
def rh:ai:=Fs gU [(40,pA),(41,pB),(68,re)]
def gV:PL:=
 Qi 39 [0] 2<|
 Qt [2]<|
 .ite 3 (
 Qz [.k (.bool false)]<|
 Qz [I 0]<|
 Qz [I 0]<|
 Qz [I 0]<|
 Qz [I 0]<|
 .ret [8,7,6,5,.e,.e,4]) (
 Qi 40 [1,I 0,.k (.bool false)] 4<|
 Qi 40 [5,6,7] 4<|
 Qi 40 [9,10,11] 4<|
 Qi 40 [13,14,15] 4<|
 Qi 41 [17,18,19] 4<|
 .loop [20,21,22,23,.e] (
 .join (
 .ite 29 (
 Qi 40 [25,26,27] 4<|
 Qx [30]<|
 Qp [28,34]<|
 Qs [24,I 1]<|
 .go 0 [36,31,32,33,35]) (
 Qi 41 [25,26,27] 4<|
 .loop [30,31,32,33,.e] (
 .join (
 .ite 39 (
 Qi 43 [35,36,37] 4<|
 Qi 42 [40] 9<|
 .ite 43 (
 Q (.lit 8 [true,true,true,true,true,false,true,true]) [44,45,46,47,48,49,50,51]<|
 Qy [38,53]<|
 Qs [34,I 1]<|
 .go 0 [55,41,42,.k (.bool true),54]) (
 Qt [52]<|
 Q (.lit 8 [true,true,true,true,true,false,true,true]) [44,45,46,47,48,49,50,51]<|
 Qy [38,54]<|
 Qs [34,I 1]<|
 .go 0 [56,41,42,53,55])) (
 .join (
 .ite 40 (
 Qz [.k (.bool false)]<|
 Qz [I 0]<|
 Qz [I 0]<|
 Qz [I 0]<|
 Qz [I 0]<|
 .ret [45,44,43,42,.e,.e,41]) (
 Qz [.k (.bool true)]<|
 Qz [16]<|
 Qz [12]<|
 Qz [8]<|
 Qz [4]<|
 .ret [45,44,43,42,28,38,41])) (
 .ite 37 (
 .go 0 [.k (.bool true)]) (
 Q (.lens) [1]<|
 Qu [36,40]<|
 .ite 41 (
 .go 0 [.k (.bool true)]) (
 Qi 18 [4,8,12,16,28,38] 1<|
 Qt [42]<|
 .go 0 [43]))))) (
 Qg [34,I 0]<|
 .ite 39 (
 Qt [37]<|
 .go 0 [40]) (
 .go 0 [.k (.bool false)]))))) (
 Qg [24,I 0]<|
 .ite 29 (
 Qt [27]<|
 .go 0 [30]) (
 .go 0 [.k (.bool false)]))))
def yZ:ai:=Fs gV [(18,ol),(39,Fp),(40,pA),(41,pB),(42,rh),(43,rf)]
def lS:PL:=
 .ins (.pr (.len) [.a 0])<|
 .ins (.pr (.len) [.a 1])<|
 .ins (.pr (.bin .neq) [.a 2,.a 3])<|
 .ite 4 (
  .ins (.pr (.iP) [.k (.bool false)])<|
  .ret [.a 5]) (
  .loop [.k (.bool false),.k (.int .i64 0)] (
  .ins (.pr (.len) [.a 0])<|
  .ins (.pr (.bin .lss) [.a 6,.a 7])<|
  .ite 8 (
   .ins (.pr (.ic) [.a 0,.a 6])<|
   .ins (.pr (.cell 1 0) [.a 0,.a 6])<|
   .ins (.pr (.ic) [.a 1,.a 6])<|
   .ins (.pr (.cell 1 0) [.a 1,.a 6])<|
   .ins (.pr (.bin .neq) [.a 10,.a 12])<|
   .ite 13 (
   .ins (.pr (.iP) [.k (.bool false)])<|
   .ret [.a 14]) (
   .ins (.pr (.bin .add) [.a 6,.k (.int .i64 1)])<|
   .go 0 [.a 5,.a 14])) (
   .ins (.pr (.iP) [.k (.bool true)])<|
   .ret [.a 9])))
def YO:Nat->ai:=pick []
def H7:ai:=λts=>lS.den YO rounds [] ts
def tv:PL:=
 .ins (.pr (.bin .neq) [.a 0,.a 8])<|
 .ite 16 (
  .ins (.pr (.iP) [.k (.bool false)])<|
  .ret [.a 17]) (
  .ins (.pr (.bin .neq) [.a 1,.a 9])<|
  .ite 17 (
  .ins (.pr (.iP) [.k (.bool false)])<|
  .ret [.a 18]) (
  .ins (.pr (.bin .neq) [.a 2,.a 10])<|
  .ite 18 (
   .ins (.pr (.iP) [.k (.bool false)])<|
   .ret [.a 19]) (
   .ins (.pr (.bin .neq) [.a 3,.a 11])<|
   .ite 19 (
   .ins (.pr (.iP) [.k (.bool false)])<|
   .ret [.a 20]) (
   .ins (.pr (.bin .neq) [.a 4,.a 12])<|
   .ite 20 (
    .ins (.pr (.iP) [.k (.bool false)])<|
    .ret [.a 21]) (
    .ins (.pr (.bin .neq) [.a 6,.a 14])<|
    .ite 21 (
    .ins (.pr (.iP) [.k (.bool false)])<|
    .ret [.a 22]) (
    .ins (.pr (.bb .neq) [.a 7,.a 15])<|
    .ite 22 (
     .ins (.pr (.iP) [.k (.bool false)])<|
     .ret [.a 23]) (
     .ins (.pr (.len) [.a 5])<|
     .ins (.pr (.len) [.a 13])<|
     .ins (.pr (.bin .neq) [.a 23,.a 24])<|
     .ite 25 (
     .ins (.pr (.iP) [.k (.bool false)])<|
     .ret [.a 26]) (
     .loop [.k (.bool false),.k (.int .i64 0)] (
      .ins (.pr (.len) [.a 5])<|
      .ins (.pr (.bin .lss) [.a 27,.a 28])<|
      .ite 29 (
      .ins (.pr (.ic) [.a 5,.a 27])<|
      .ins (.pr (.cell 2 0) [.a 5,.a 27])<|
      .ins (.pr (.cell 2 1) [.a 5,.a 27])<|
      .ins (.pr (.ic) [.a 13,.a 27])<|
      .ins (.pr (.cell 2 0) [.a 13,.a 27])<|
      .ins (.pr (.cell 2 1) [.a 13,.a 27])<|
      .ins (.pr (.oY [1,1]) [.a 31,.a 32,.a 34,.a 35])<|
      .ins (.pr (.un .not) [.a 36])<|
      .ite 37 (
       .ins (.pr (.iP) [.k (.bool false)])<|
       .ret [.a 38]) (
       .ins (.pr (.bin .add) [.a 27,.k (.int .i64 1)])<|
       .go 0 [.a 26,.a 38])) (
      .ins (.pr (.iP) [.k (.bool true)])<|
      .ret [.a 30]))))))))))
def YP:Nat->ai:=pick []
def vo:ai:=λts=>tv.den YP rounds [] ts
def kt:PL:=
 .ins (.pr (.len) [.a 0])<|
 .ins (.pr (.len) [.a 1])<|
 .ins (.pr (.bin .neq) [.a 2,.a 3])<|
 .ite 4 (
  .ins (.pr (.iP) [.k (.bool false)])<|
  .ret [.a 5]) (
  .loop [.k (.bool false),.k (.int .i64 0)] (
  .ins (.pr (.len) [.a 0])<|
  .ins (.pr (.bin .lss) [.a 6,.a 7])<|
  .ite 8 (
   .ins (.pr (.ic) [.a 0,.a 6])<|
   .ins (.pr (.cell 8 0) [.a 0,.a 6])<|
   .ins (.pr (.cell 8 1) [.a 0,.a 6])<|
   .ins (.pr (.cell 8 2) [.a 0,.a 6])<|
   .ins (.pr (.cell 8 3) [.a 0,.a 6])<|
   .ins (.pr (.cell 8 4) [.a 0,.a 6])<|
   .ins (.pr (.cell 8 5) [.a 0,.a 6])<|
   .ins (.pr (.cell 8 6) [.a 0,.a 6])<|
   .ins (.pr (.cell 8 7) [.a 0,.a 6])<|
   .ins (.pr (.ic) [.a 1,.a 6])<|
   .ins (.pr (.cell 8 0) [.a 1,.a 6])<|
   .ins (.pr (.cell 8 1) [.a 1,.a 6])<|
   .ins (.pr (.cell 8 2) [.a 1,.a 6])<|
   .ins (.pr (.cell 8 3) [.a 1,.a 6])<|
   .ins (.pr (.cell 8 4) [.a 1,.a 6])<|
   .ins (.pr (.cell 8 5) [.a 1,.a 6])<|
   .ins (.pr (.cell 8 6) [.a 1,.a 6])<|
   .ins (.pr (.cell 8 7) [.a 1,.a 6])<|
   .ins (.cl 48 [.a 10,.a 11,.a 12,.a 13,.a 14,.a 15,.a 16,.a 17,.a 19,.a 20,.a 21,.a 22,.a 23,.a 24,.a 25,.a 26] 1)<|
   .ins (.pr (.un .not) [.a 27])<|
   .ite 28 (
   .ins (.pr (.iP) [.k (.bool false)])<|
   .ret [.a 29]) (
   .ins (.pr (.bin .add) [.a 6,.k (.int .i64 1)])<|
   .go 0 [.a 5,.a 29])) (
   .ins (.pr (.iP) [.k (.bool true)])<|
   .ret [.a 9])))
def YQ:Nat->ai:=pick [(48,vo)]
def H8:ai:=λts=>kt.den YQ rounds [] ts
def gW:PL:=
 Qn [0]<|
 Qa [I 13901,1]<|
 .loop [2,I 0] (
 Qn [0]<|
 Ql [4,5]<|
 .ite 6 (
 Ql [4,I 4000]<|
 .ite 7 (
 Q (.bin .mul) [3,I 131]<|
 Q1 [0,4]<|
 Q (.dA .i64) [10]<|
 Qa [8,11]<|
 Qa [12,I 7]<|
 Q (.bin .and) [13,I 1073741823]<|
 Qa [4,I 1]<|
 .go 0 [14,15]) (
 Qi 49 [0,I 0,3] 4<|
 Q (.lit 1 []) []<|
 .loop [12,I 0,9,10,11] (
 Ql [14,I 12]<|
 .ite 18 (
 Qi 50 [15,16,17,I 10000] 4<|
 Qx [19]<|
 Qp [13,23]<|
 Qa [14,I 1]<|
 .go 0 [24,25,20,21,22]) (
 .ret [13])))) (
 Qi 49 [0,I 0,3] 4<|
 Q (.lit 1 []) []<|
 .loop [11,I 0,8,9,10] (
 Ql [13,I 12]<|
 .ite 17 (
 Qi 50 [14,15,16,I 10000] 4<|
 Qx [18]<|
 Qp [12,22]<|
 Qa [13,I 1]<|
 .go 0 [23,24,19,20,21]) (
 .ret [12]))))
def H9:ai:=Fs gW [(49,rY),(50,j8)]
def gk:PL:=
 Q (.lit 8 []) []<|
 .loop [1,I 0] (
 Qn [0]<|
 Ql [3,4]<|
 .ite 5 (
 Q8 [0,3]<|
 Qi 96 [7,8,9,10,11,12,13,14] 8<|
 Q (.lit 8 [true,true,true,true,true,false,true,true]) [15,16,17,18,19,20,21,22]<|
 Qy [2,23]<|
 Qa [3,I 1]<|
 .go 0 [24,25]) (
 .ret [2]))
def H_:ai:=Fs gk [(96,uk)]
def ku:PL:=
 Q (.lit 1 []) []<|
 Qp [6,4]<|
 Qi 104 [5] 1<|
 Qz [3]<|
 Qz [2]<|
 Qz [1]<|
 Qz [0]<|
 .ret [12,11,10,9,7,8]
def Ia:ai:=Fs ku [(104,H_)]
def lT:PL:=
 Qi 95 [0,1,2] 11<|
 Qi 50 [11,12,13,I 30] 4<|
 Qe [14,I 0]<|
 .join (
 Qz [29]<|
 Qz [28]<|
 Qz [26]<|
 Qz [25]<|
 Qz [24]<|
 Qz [23]<|
 Qz [22]<|
 .ret [36,35,34,33,32,27,31,30,19,20,21]) (
 .ite 18 (
 Q (.lit 1 [true,true,true,true]) [.k (.int .i64 (-1)),I 3,I 9,I 0]<|
 Qi 81 [15,16,17,19] 4<|
 .go 0 [21,22,23,20,4,5,6,7,8,9,10]) (
 Qe [14,I 1]<|
 .join (
 .go 0 [20,21,22,3,23,24,25,26,27,28,29]) (
 .ite 19 (
 Q (.lit 1 [true,true,true,true,true]) [I 0,I 1,I 2,I 3,I 4]<|
 Qi 81 [15,16,17,20] 4<|
 .go 0 [22,23,24,21,5,6,7,8,9,10]) (
 Qe [14,I 2]<|
 .join (
 .go 0 [21,22,23,4,24,25,26,27,28,29]) (
 .ite 20 (
 Q (.lit 1 [true,true,true]) [I 0,I 6,I 7]<|
 Qi 81 [15,16,17,21] 4<|
 .go 0 [23,24,25,22,6,7,8,9,10]) (
 Qe [14,I 3]<|
 .join (
 .go 0 [22,23,24,5,25,26,27,28,29]) (
 .ite 21 (
 Q (.lit 1 [true,true,true,true,true,true]) [.k (.int .i64 (-1)),I 0,I 6,I 7,I 9,I 10]<|
 Qi 81 [15,16,17,22] 4<|
 .go 0 [24,25,26,23,7,8,9,10]) (
 Qe [14,I 4]<|
 .join (
 .go 0 [23,24,25,6,26,27,28,29]) (
 .ite 22 (
 Q (.lit 1 [true,true,true,true]) [I 0,.k (.int .i64 (-1)),I 100000,I 100001]<|
 Qi 81 [15,16,17,23] 4<|
 .go 0 [25,26,27,24,8,9,10]) (
 Qe [14,I 5]<|
 .join (
 .go 0 [24,25,26,7,27,28,29]) (
 .ite 23 (
 Qi 50 [15,16,17,I 8] 4<|
 Q (.lit 1 [true,true,true,true]) [I 0,I 1,I 1000,I 1001]<|
 Qi 81 [25,26,27,28] 4<|
 Q (.lit 2 [true,true]) [24,29]<|
 Q (.app true 2) [8,33]<|
 .go 0 [30,31,32,34,9,10]) (
 Qe [14,I 6]<|
 .join (
 .go 0 [25,26,27,8,28,29]) (
 .ite 24 (
 Q (.lit 1 [true,true,true,true,true,true]) [.k (.int .i64 (-1)),I 0,I 1000,I 1001,I 60000,I 60001]<|
 Qi 81 [15,16,17,25] 4<|
 .go 0 [27,28,29,26,10]) (
 Qe [14,I 7]<|
 .join (
 .go 0 [15,16,17,9,26]) (
 .ite 25 (
 Qt [10]<|
 .go 0 [26]) (
 .go 0 [10]))))))))))))))))
def Ib:ai:=Fs lT [(50,j8),(81,v_),(95,Bb)]
def lU:PL:=
 Qi 34 [0,1,2] 9<|
 Qi 80 [3,4,5,6,7,8] 6<|
 Qi 50 [9,10,11,I 24] 4<|
 Qe [18,I 0]<|
 .join (
 Qz [28]<|
 Qz [14]<|
 Qz [27]<|
 Qz [26]<|
 .ret [34,33,32,31,29,30,23,24,25]) (
 .ite 22 (
 Q (.lit 1 [true,true,true,true,true]) [I 0,I 1,I 2,I 3,I 4]<|
 Qi 81 [19,20,21,23] 4<|
 .go 0 [25,26,27,24,13,15,16,17]) (
 Qe [18,I 1]<|
 .join (
 .go 0 [24,25,26,12,27,28,29,30]) (
 .ite 23 (
 Q (.lit 1 [true,true,true,true]) [I 0,I 6,I 7,14]<|
 Qi 81 [19,20,21,24] 4<|
 .go 0 [26,27,28,25,15,16,17]) (
 Qe [18,I 2]<|
 .join (
 .go 0 [25,26,27,13,28,29,30]) (
 .ite 24 (
 Q (.lit 1 [true,true,true,true]) [.k (.int .i64 (-1)),I 0,I 2,I 3]<|
 Qi 81 [19,20,21,25] 4<|
 .go 0 [27,28,29,26,16,17]) (
 Qe [18,I 3]<|
 .join (
 .go 0 [26,27,28,15,29,30]) (
 .ite 25 (
 Qi 50 [19,20,21,I 8] 4<|
 Qx [26]<|
 Qp [16,30]<|
 .go 0 [27,28,29,31,17]) (
 Qe [18,I 4]<|
 .join (
 .go 0 [27,28,29,16,30]) (
 .ite 26 (
 Qi 82 [19,20,21] 11<|
 Q (.lit 8 []) [27,28,29,30,31,32,33,34]<|
 Qy [17,38]<|
 .go 0 [35,36,37,39]) (
 .go 0 [19,20,21,17]))))))))))
def Ic:ai:=Fs lU [(34,yY),(50,j8),(80,Ia),(81,v_),(82,Ib)]
def kC:PL:=
 Qn [0]<|
 Qg [1,I 150]<|
 .ite 2 (
 Qz [.k (.bool false)]<|
 .ret [3]) (
 .loop [.k (.bool false),I 0] (
 Qn [0]<|
 Ql [4,5]<|
 .ite 6 (
 Q8 [0,4]<|
 Qi 103 [8,9,10,11,12,13,14,15] 1<|
 Qt [16]<|
 .ite 17 (
 Qz [.k (.bool false)]<|
 .ret [18]) (
 Qg [4,I 0]<|
 .ite 18 (
 Qs [4,I 1]<|
 Q8 [0,19]<|
 Q8 [0,4]<|
 Qi 117 [21,22,23,24,25,26,27,28,30,31,32,33,34,35,36,37] 1<|
 Qt [38]<|
 .ite 39 (
 Qz [.k (.bool false)]<|
 .ret [40]) (
 Qa [4,I 1]<|
 .go 0 [3,40])) (
 Qa [4,I 1]<|
 .go 0 [3,19]))) (
 Qz [.k (.bool true)]<|
 .ret [7])))
def Ie:ai:=Fs kC [(103,wb),(117,Bd)]
def jk:PL:=
 Qi 118 [0,1,2,3,4,5,6,7,8,9,10,11,12,13,14,15] 1<|
 Qt [16]<|
 .ite 17 (
 Qz [.k (.bool false)]<|
 .ret [18]) (
 Qu [6,14]<|
 .ite 18 (
 Qz [.k (.bool false)]<|
 .ret [19]) (
 Q (.bb .neq) [7,15]<|
 .ite 19 (
 Qz [.k (.bool false)]<|
 .ret [20]) (
 Qn [5]<|
 Qn [13]<|
 Qu [20,21]<|
 .ite 22 (
 Qz [.k (.bool false)]<|
 .ret [23]) (
 .loop [.k (.bool false),I 0] (
 Qn [5]<|
 Ql [24,25]<|
 .ite 26 (
 Q2 [5,24]<|
 Q2 [13,24]<|
 Q (.oY [1,1]) [28,29,31,32]<|
 Qt [33]<|
 .ite 34 (
 Qz [.k (.bool false)]<|
 .ret [35]) (
 Qa [24,I 1]<|
 .go 0 [23,35])) (
 Qz [.k (.bool true)]<|
 .ret [27]))))))
def CS:ai:=Fs jk [(118,Bc)]
def jl:PL:=
 .join (
 .ite 6 (
 Qz [.k (.bool false)]<|
 .ret [7]) (
 .loop [.k (.bool false),I 0] (
 Qn [4]<|
 Ql [8,9]<|
 .ite 10 (
 Q1 [4,8]<|
 Qi 90 [12,I 1,I 6] 1<|
 Qt [13]<|
 .ite 14 (
 Qz [.k (.bool false)]<|
 .ret [15]) (
 Qg [8,I 0]<|
 .ite 15 (
 Qs [8,I 1]<|
 Q1 [4,16]<|
 Q1 [4,8]<|
 Qh [18,20]<|
 .ite 21 (
 Qz [.k (.bool false)]<|
 .ret [22]) (
 Qa [8,I 1]<|
 .go 0 [7,22])) (
 Qa [8,I 1]<|
 .go 0 [7,16]))) (
 .join (
 .ite 11 (
 Qz [.k (.bool false)]<|
 .ret [12]) (
 .loop [7,I 0] (
 Qn [5]<|
 Ql [13,14]<|
 .ite 15 (
 Q8 [5,13]<|
 .join (
 .ite 25 (
 Qz [.k (.bool false)]<|
 .ret [26]) (
 Qa [13,I 1]<|
 .go 0 [12,26])) (
 Qu [17,3]<|
 .ite 25 (
 Qu [17,I 9]<|
 .ite 26 (
 .go 0 [.k (.bool true)]) (
 Qe [0,I 2]<|
 .ite 27 (
 Qi 96 [17,18,19,20,21,22,23,24] 8<|
 Qi 97 [28,29,30,31,32,33,34,35] 8<|
 Qi 102 [36,37,38,39,40,41,42,43,17,18,19,20,21,22,23,24] 1<|
 Qt [44]<|
 .go 0 [45]) (
 .go 0 [.k (.bool false)]))) (
 Qe [0,I 2]<|
 .ite 26 (
 Qi 96 [17,18,19,20,21,22,23,24] 8<|
 Qi 97 [27,28,29,30,31,32,33,34] 8<|
 Qi 102 [35,36,37,38,39,40,41,42,17,18,19,20,21,22,23,24] 1<|
 Qt [43]<|
 .go 0 [44]) (
 .go 0 [.k (.bool false)])))) (
 Qz [.k (.bool true)]<|
 .ret [16])))) (
 Qe [0,I 1]<|
 .ite 11 (
 Qn [5]<|
 Qg [12,I 0]<|
 .ite 13 (
 .go 0 [.k (.bool true)]) (
 Qu [0,I 1]<|
 .ite 14 (
 Qn [4]<|
 Qg [15,I 0]<|
 .ite 16 (
 .go 0 [.k (.bool true)]) (
 Qi 101 [5] 1<|
 Qt [17]<|
 .go 0 [18])) (
 Qi 101 [5] 1<|
 Qt [15]<|
 .go 0 [16]))) (
 Qu [0,I 1]<|
 .ite 12 (
 Qn [4]<|
 Qg [13,I 0]<|
 .ite 14 (
 .go 0 [.k (.bool true)]) (
 Qi 101 [5] 1<|
 Qt [15]<|
 .go 0 [16])) (
 Qi 101 [5] 1<|
 Qt [13]<|
 .go 0 [14]))))))) (
 Qi 90 [0,I 1,I 3] 1<|
 Qt [6]<|
 .ite 7 (
 .go 0 [.k (.bool true)]) (
 Qi 90 [1,I 1,I 6] 1<|
 Qt [8]<|
 .ite 9 (
 .go 0 [.k (.bool true)]) (
 Qi 90 [2,I 1,I 6] 1<|
 Qt [10]<|
 .ite 11 (
 .go 0 [.k (.bool true)]) (
 Qe [1,2]<|
 .ite 12 (
 .go 0 [.k (.bool true)]) (
 Qi 90 [3,I 0,I 2] 1<|
 Qt [13]<|
 .go 0 [14])))))
def Ig:ai:=Fs jl [(90,tl),(96,uk),(97,xM),(101,Ie),(102,CS)]
def kE:PL:=
 Q (.dA .u8) [0]<|
 Qx [1]<|
 Q (.str) [2]<|
 Qz [3]<|
 .ret [4]
def Bh:ai:=Fs kE []
def lV:PL:=
 Q (.lit 1 []) []<|
 .loop [0,1] (
 Qg [2,I 127]<|
 .ite 4 (
 Q (.bin .rem) [2,I 128]<|
 Qa [5,I 128]<|
 Q (.dA .u8) [6]<|
 Qx [7]<|
 Qp [3,8]<|
 Q (.bin .quo) [2,I 128]<|
 .go 0 [10,9]) (
 Q (.dA .u8) [2]<|
 Qx [5]<|
 Qp [3,6]<|
 Q (.str) [7]<|
 Qz [8]<|
 .ret [9]))
def pC:ai:=Fs lV []
def gX:PL:=
 Qi 103 [0,1,2,3,4,5,6,7] 1<|
 Qt [8]<|
 .ite 9 (
 Qz [.k (.bool false)]<|
 Qz [.k (.string (ByteArray.mk #[]))]<|
 .ret [11,10]) (
 Qi 76 [0] 1<|
 Qi 76 [1] 1<|
 Qa [10,11]<|
 Qi 76 [2] 1<|
 Qa [12,13]<|
 Qi 76 [3] 1<|
 Qa [14,15]<|
 Qi 77 [4] 1<|
 Qa [16,17]<|
 Qn [5]<|
 Qi 77 [19] 1<|
 Qa [18,20]<|
 .loop [21,I 0] (
 Qn [5]<|
 Ql [23,24]<|
 .ite 25 (
 Qb [5,23]<|
 Qc 2 0 [5,23]<|
 Qi 76 [27] 1<|
 Qa [22,28]<|
 Qb [5,23]<|
 Qc 2 1 [5,23]<|
 Qi 77 [31] 1<|
 Qa [29,32]<|
 Qa [23,I 1]<|
 .go 0 [33,34]) (
 Qi 77 [6] 1<|
 Qa [22,26]<|
 .ite 7 (
 Qa [27,.k (.string (ByteArray.mk #[1]))]<|
 Qz [.k (.bool true)]<|
 Qz [28]<|
 .ret [30,29]) (
 Qa [27,.k (.string (ByteArray.mk #[0]))]<|
 Qz [.k (.bool true)]<|
 Qz [28]<|
 .ret [30,29]))))
def tw:ai:=Fs gX [(76,Bh),(77,pC),(103,wb)]
def jm:PL:=
 Q (.lens) [0]<|
 Qi 77 [1] 1<|
 Qa [2,0]<|
 Qz [3]<|
 .ret [4]
def Ih:ai:=Fs jm [(77,pC)]
def kF:PL:=
 .loop [0,I 0] (
 Q (.lens) [1]<|
 Ql [3,4]<|
 .ite 5 (
 Q (.idx) [1,3]<|
 Q (.dA .u32) [6]<|
 Q (.bin .xor) [2,7]<|
 .loop [8,I 0] (
 Ql [10,I 8]<|
 .ite 11 (
 Q (.bin .rem) [9,.k (.int .u32 2)]<|
 Qe [12,.k (.int .u32 1)]<|
 Q (.bin .quo) [9,.k (.int .u32 2)]<|
 .join (
 Qa [10,I 1]<|
 .go 0 [15,16]) (
 .ite 13 (
 Q (.bin .xor) [14,.k (.int .u32 3558460437)]<|
 .go 0 [15]) (
 .go 0 [14]))) (
 Qa [3,I 1]<|
 .go 1 [9,12]))) (
 Qz [2]<|
 .ret [6]))
def Ii:ai:=Fs kF []
def np:PL:=
 Qi 105 [.k (.int .u32 4294967295),0] 1<|
 Qz [1]<|
 .ret [2]
def Bi:ai:=Fs np [(105,Ii)]
def kG:PL:=
 Q (.bin .shr) [0,.k (.int .u64 24)]<|
 Q (.dA .u8) [1]<|
 Q (.bin .shr) [0,.k (.int .u64 16)]<|
 Q (.dA .u8) [3]<|
 Q (.bin .shr) [0,.k (.int .u64 8)]<|
 Q (.dA .u8) [5]<|
 Q (.dA .u8) [0]<|
 Q (.lit 1 [true,true,true,true]) [2,4,6,7]<|
 Q (.str) [8]<|
 Qz [9]<|
 .ret [10]
def Bj:ai:=Fs kG []
def lW:PL:=
 Q (.lens) [0]<|
 Qg [1,I 20000]<|
 .ite 2 (
 Qz [.k (.bool false)]<|
 Qz [.k (.string (ByteArray.mk #[]))]<|
 .ret [4,3]) (
 Qi 85 [0] 1<|
 Qi 84 [3] 1<|
 Qa [0,4]<|
 Qz [.k (.bool true)]<|
 Qz [5]<|
 .ret [7,6])
def Bk:ai:=Fs lW [(84,Bj),(85,Bi)]
def gY:PL:=
 Qi 75 [0,1,2,3,4,5] 1<|
 Qt [6]<|
 .ite 7 (
 Qz [.k (.bool false)]<|
 Qz [.k (.string (ByteArray.mk #[]))]<|
 .ret [9,8]) (
 Qi 76 [0] 1<|
 Qi 76 [1] 1<|
 Qa [8,9]<|
 Qi 76 [2] 1<|
 Qa [10,11]<|
 Qi 76 [3] 1<|
 Qa [12,13]<|
 Qn [4]<|
 Qi 77 [15] 1<|
 Qa [14,16]<|
 Q (.aR) [17]<|
 .loop [18,I 0] (
 Qn [4]<|
 Ql [20,21]<|
 .ite 22 (
 Q1 [4,20]<|
 Q (.dA .u8) [24]<|
 Qx [25]<|
 Qp [19,26]<|
 Qa [20,I 1]<|
 .go 0 [27,28]) (
 Qn [5]<|
 Qi 77 [23] 1<|
 Q (.aR) [24]<|
 Qp [19,25]<|
 .loop [26,I 0] (
 Qn [5]<|
 Ql [28,29]<|
 .ite 30 (
 Q8 [5,28]<|
 Qi 78 [32,33,34,35,36,37,38,39] 2<|
 Qi 79 [40] 1<|
 Q (.aR) [42]<|
 Qp [27,43]<|
 Qa [28,I 1]<|
 .go 0 [44,45]) (
 Qn [27]<|
 Qa [31,I 4]<|
 Qg [32,I 20000]<|
 .ite 33 (
 Qz [.k (.bool false)]<|
 Qz [.k (.string (ByteArray.mk #[]))]<|
 .ret [35,34]) (
 Q (.str) [27]<|
 Qi 55 [34] 2<|
 Qz [36]<|
 Qz [35]<|
 .ret [38,37]))))))
def o9:ai:=Fs gY [(55,Bk),(75,Ig),(76,Bh),(77,pC),(78,tw),(79,Ih)]
def kH:PL:=
 Qg [3,I 5000]<|
 .join (
 Q (.lit 1 []) []<|
 .loop [6,I 0,0,1,2] (
 Ql [8,5]<|
 .ite 12 (
 Qi 49 [9,10,11] 4<|
 Q (.dA .u8) [13]<|
 Qx [17]<|
 Qp [7,18]<|
 Qa [8,I 1]<|
 .go 0 [19,20,14,15,16]) (
 Q (.str) [7]<|
 Qz [13]<|
 .ret [14,9,10,11]))) (
 .ite 4 (
 .go 0 [I 5000]) (
 .go 0 [3]))
def Fq:ai:=Fs kH [(49,rY)]
def iK:PL:=
 Qi 50 [0,1,2,I 12] 4<|
 Qe [4,I 0]<|
 .ite 8 (
 Qi 83 [5,6,7,I 1] 4<|
 Qa [3,9]<|
 Qz [13]<|
 .ret [14,10,11,12]) (
 Qe [4,I 1]<|
 .ite 9 (
 Q (.lens) [3]<|
 Qa [10,I 1]<|
 Qi 50 [5,6,7,11] 4<|
 Q (.fg false true) [3,12]<|
 Qz [16]<|
 .ret [17,13,14,15]) (
 Qe [4,I 2]<|
 .join (
 .join (
 Qz [3]<|
 .ret [13,5,6,7]) (
 .ite 11 (
 Q (.lens) [3]<|
 Qg [12,I 0]<|
 .ite 13 (
 Q (.lens) [3]<|
 Qi 50 [5,6,7,14] 4<|
 Q (.fg false true) [3,15]<|
 Qi 83 [16,17,18,I 1] 4<|
 Qa [19,20]<|
 Qa [15,I 1]<|
 Q (.fg true false) [3,25]<|
 Qa [24,26]<|
 Qz [27]<|
 .ret [28,21,22,23]) (
 .go 0 [11])) (
 .go 0 [11]))) (
 .ite 10 (
 .go 0 [10]) (
 Qe [4,I 3]<|
 .go 0 [11]))))
def Ij:ai:=Fs iK [(50,j8),(83,Fq)]
def jo:PL:=
 Q (.lens) [0]<|
 Qs [1,I 4]<|
 Ql [2,I 0]<|
 .ite 3 (
 Qz [.k (.bool false)]<|
 Qz [.k (.string (ByteArray.mk #[]))]<|
 .ret [5,4]) (
 Qg [2,I 20000]<|
 .ite 4 (
 Qz [.k (.bool false)]<|
 Qz [.k (.string (ByteArray.mk #[]))]<|
 .ret [6,5]) (
 Q (.fg true false) [0,2]<|
 Q (.fg false true) [0,2]<|
 Qi 85 [6] 1<|
 Qi 84 [7] 1<|
 Qu [5,8]<|
 .ite 9 (
 Qz [.k (.bool false)]<|
 Qz [.k (.string (ByteArray.mk #[]))]<|
 .ret [11,10]) (
 Q (.fg false true) [0,2]<|
 Qz [.k (.bool true)]<|
 Qz [10]<|
 .ret [12,11])))
def xN:ai:=Fs jo [(84,Bj),(85,Bi)]
def e_:PL:=
 Qn [0]<|
 Qa [I 13901,1]<|
 .loop [2,I 0] (
 Qn [0]<|
 Ql [4,5]<|
 .ite 6 (
 Ql [4,I 4000]<|
 .ite 7 (
 Q (.bin .mul) [3,I 131]<|
 Q1 [0,4]<|
 Q (.dA .i64) [10]<|
 Qa [8,11]<|
 Qa [12,I 7]<|
 Q (.bin .and) [13,I 1073741823]<|
 Qa [4,I 1]<|
 .go 0 [14,15]) (
 Qi 52 [0,I 0,3] 9<|
 Qi 51 [8,9,10,11,12,13] 2<|
 Qi 50 [14,15,16,I 6] 4<|
 Qe [19,I 0]<|
 .ite 23 (
 Qi 53 [20,21,22,17] 4<|
 Qz [24]<|
 .ret [28]) (
 Qe [19,I 1]<|
 .join (
 Qz [28]<|
 .ret [29]) (
 .ite 24 (
 Qi 54 [17] 2<|
 .join (
 .go 0 [27,28,29,30]) (
 .ite 26 (
 Qi 53 [20,21,22,25] 4<|
 Qi 55 [27] 2<|
 .go 0 [28,29,30,31]) (
 .go 0 [20,21,22,17]))) (
 .go 0 [20,21,22,17]))))) (
 Qi 52 [0,I 0,3] 9<|
 Qi 51 [7,8,9,10,11,12] 2<|
 Qi 50 [13,14,15,I 6] 4<|
 Qe [18,I 0]<|
 .ite 22 (
 Qi 53 [19,20,21,16] 4<|
 Qz [23]<|
 .ret [27]) (
 Qe [18,I 1]<|
 .join (
 Qz [27]<|
 .ret [28]) (
 .ite 23 (
 Qi 54 [16] 2<|
 .join (
 .go 0 [26,27,28,29]) (
 .ite 25 (
 Qi 53 [19,20,21,24] 4<|
 Qi 55 [26] 2<|
 .go 0 [27,28,29,30]) (
 .go 0 [19,20,21,16]))) (
 .go 0 [19,20,21,16])))))
def Ik:ai:=Fs e_ [(50,j8),(51,o9),(52,Ic),(53,Ij),(54,xN),(55,Bk)]
def kJ:PL:=
 .ite 2 (
 Qz [.k (.string (ByteArray.mk #[]))]<|
 .ret [4,0,1,.k (.bool true)]) (
 Q (.lens) [0]<|
 Qs [4,1]<|
 Qg [3,5]<|
 .ite 6 (
 Qz [.k (.string (ByteArray.mk #[]))]<|
 .ret [7,0,1,.k (.bool true)]) (
 Qa [1,3]<|
 Qs [7,3]<|
 Q (.fg true true) [0,8,7]<|
 Qz [9]<|
 .ret [10,0,7,2]))
def pD:ai:=Fs kJ []
def lX:PL:=
 Qi 59 [0,1,2,I 1] 4<|
 .ite 6 (
 Qz [I 0]<|
 .ret [7,4,5,6]) (
 Q (.idx) [3,I 0]<|
 Q (.dA .i64) [7]<|
 Qz [8]<|
 .ret [9,4,5,6])
def pE:ai:=Fs lX [(59,pD)]
def kK:PL:=
 Q (.lens) [0]<|
 Qi 90 [1,I 0,2] 1<|
 Qt [3]<|
 .ite 4 (
 Qz [.k (.bool false)]<|
 Qz [I 0]<|
 Qz [I 0]<|
 .ret [7,6,5]) (
 .loop [I 0,I 0,.k (.bool false),I 0,I 1,1] (
 Q (.lens) [0]<|
 Ql [10,11]<|
 .ite 12 (
 Qa [1,I 5]<|
 Ql [10,13]<|
 .ite 14 (
 Q (.idx) [0,10]<|
 Q (.dA .i64) [15]<|
 Q (.bin .rem) [16,I 128]<|
 Q (.bin .mul) [17,9]<|
 Qa [8,18]<|
 Q (.bin .mul) [9,I 128]<|
 Q (.idx) [0,10]<|
 Ql [21,.k (.int .u8 128)]<|
 .ite 22 (
 Qg [19,I 1000000000]<|
 .ite 23 (
 Qz [.k (.bool false)]<|
 Qz [I 0]<|
 Qz [I 0]<|
 .ret [26,25,24]) (
 Qi 77 [19] 1<|
 Qa [10,I 1]<|
 Q (.fg true true) [0,1,25]<|
 Qu [24,26]<|
 .ite 27 (
 Qz [.k (.bool false)]<|
 Qz [I 0]<|
 Qz [I 0]<|
 .ret [30,29,28]) (
 Qa [10,I 1]<|
 Qz [.k (.bool true)]<|
 Qz [28]<|
 Qz [19]<|
 .ret [31,30,29]))) (
 Qa [10,I 1]<|
 .go 0 [5,6,7,19,20,23])) (
 Qz [.k (.bool false)]<|
 Qz [I 0]<|
 Qz [I 0]<|
 .ret [17,16,15])) (
 Qz [.k (.bool false)]<|
 Qz [I 0]<|
 Qz [I 0]<|
 .ret [15,14,13])))
def Il:ai:=Fs kK [(77,pC),(90,tl)]
def lY:PL:=
 Qi 86 [0,1] 3<|
 .ite 2 (
 Qz [I 0]<|
 .ret [6,0,1,.k (.bool true)]) (
 Qt [5]<|
 .ite 6 (
 Qz [I 0]<|
 .ret [7,0,1,.k (.bool true)]) (
 Qz [3]<|
 .ret [7,0,4,2]))
def nq:ai:=Fs lY [(86,Il)]
def gZ:PL:=
 Qi 56 [0,I 0,.k (.bool false)] 4<|
 Qi 56 [2,3,4] 4<|
 Qi 56 [6,7,8] 4<|
 Qi 56 [10,11,12] 4<|
 Qi 57 [14,15,16] 4<|
 Qi 57 [18,19,20] 4<|
 .loop [I 0,22,23,24,.e] (
 .join (
 .ite 30 (
 Qi 56 [26,27,28] 4<|
 Qi 57 [32,33,34] 4<|
 Q (.lit 2 [true,true]) [31,35]<|
 Q (.app true 2) [29,39]<|
 Qa [25,I 1]<|
 .go 0 [41,36,37,38,40]) (
 Qi 57 [26,27,28] 4<|
 Qi 56 [32,33,34] 4<|
 Qe [35,I 1]<|
 Qi 78 [1,5,9,13,17,29,31,39] 2<|
 .join (
 .ite 42 (
 Qz [.k (.bool false)]<|
 Qz [.k (.bool false)]<|
 Qz [I 0]<|
 Qz [I 0]<|
 Qz [I 0]<|
 Qz [I 0]<|
 Qz [I 0]<|
 Qz [I 0]<|
 .ret [50,49,48,47,46,.e,45,44,43]) (
 Qz [.k (.bool true)]<|
 Qz [39]<|
 Qz [31]<|
 Qz [17]<|
 Qz [13]<|
 Qz [9]<|
 Qz [5]<|
 Qz [1]<|
 .ret [50,49,48,47,46,29,45,44,43])) (
 .ite 38 (
 .go 0 [.k (.bool true)]) (
 Qt [41]<|
 .ite 42 (
 .go 0 [.k (.bool true)]) (
 Qu [40,0]<|
 .go 0 [43]))))) (
 Ql [25,21]<|
 .ite 30 (
 Ql [25,I 50]<|
 .ite 31 (
 Qt [28]<|
 .go 0 [32]) (
 .go 0 [.k (.bool false)])) (
 .go 0 [.k (.bool false)])))
def qI:ai:=Fs gZ [(56,pE),(57,nq),(78,tw)]
def g_:PL:=
 Qi 54 [0] 2<|
 Qt [2]<|
 Qi 56 [1,I 0,3] 4<|
 Qi 56 [5,6,7] 4<|
 Qi 56 [9,10,11] 4<|
 Qi 56 [13,14,15] 4<|
 Qi 57 [17,18,19] 4<|
 .loop [I 0,21,22,23,.e] (
 .join (
 .ite 29 (
 Qi 56 [25,26,27] 4<|
 Qx [30]<|
 Qp [28,34]<|
 Qa [24,I 1]<|
 .go 0 [36,31,32,33,35]) (
 Qi 57 [25,26,27] 4<|
 .loop [I 0,31,32,33,.e] (
 .join (
 .ite 39 (
 Qi 57 [35,36,37] 4<|
 Qi 59 [41,42,43,40] 4<|
 Qi 58 [44] 9<|
 Q (.lit 8 [true,true,true,true,true,false,true,true]) [48,49,50,51,52,53,54,55]<|
 Qy [38,57]<|
 Qa [34,I 1]<|
 .go 0 [59,45,46,47,58]) (
 Qi 51 [4,8,12,16,28,38] 2<|
 .join (
 .ite 42 (
 Qz [.k (.bool false)]<|
 Qz [I 0]<|
 Qz [I 0]<|
 Qz [I 0]<|
 Qz [I 0]<|
 .ret [47,46,45,44,.e,.e,43]) (
 Qz [.k (.bool true)]<|
 Qz [16]<|
 Qz [12]<|
 Qz [8]<|
 Qz [4]<|
 .ret [47,46,45,44,28,38,43])) (
 .ite 37 (
 .go 0 [.k (.bool true)]) (
 Qt [41]<|
 .ite 42 (
 .go 0 [.k (.bool true)]) (
 Qu [40,0]<|
 .go 0 [43]))))) (
 Ql [34,30]<|
 .ite 39 (
 Ql [34,I 200]<|
 .ite 40 (
 Qt [37]<|
 .go 0 [41]) (
 .go 0 [.k (.bool false)])) (
 .go 0 [.k (.bool false)]))))) (
 Ql [24,20]<|
 .ite 29 (
 Ql [24,I 50]<|
 .ite 30 (
 Qt [27]<|
 .go 0 [31]) (
 .go 0 [.k (.bool false)])) (
 .go 0 [.k (.bool false)])))
def Bl:ai:=Fs g_ [(51,o9),(54,xN),(56,pE),(57,nq),(58,qI),(59,pD)]
def kL:PL:=
 .ins (.cl 5 [.a 0] 1)<|
 .ite 1 (
  .ins (.pr (.iP) [.k (.bool true)])<|
  .ret [.a 2]) (
  .ins (.cl 15 [.a 0] 6)<|
  .ins (.cl 16 [.a 2,.a 3,.a 4,.a 5,.a 6,.a 7] 2)<|
  .ins (.cl 17 [.a 8] 7)<|
  .ins (.pr (.un .not) [.a 9])<|
  .ite 17 (
  .ins (.pr (.iP) [.k (.bool false)])<|
  .ret [.a 18]) (
  .ins (.pr (.un .not) [.a 16])<|
  .ite 18 (
   .ins (.pr (.iP) [.k (.bool false)])<|
   .ret [.a 19]) (
   .ins (.cl 18 [.a 2,.a 3,.a 4,.a 5,.a 6,.a 7] 1)<|
   .ins (.pr (.un .not) [.a 19])<|
   .ite 20 (
   .ins (.pr (.iP) [.k (.bool false)])<|
   .ret [.a 21]) (
   .ins (.pr (.bin .neq) [.a 10,.a 2])<|
   .ite 21 (
    .ins (.pr (.iP) [.k (.bool false)])<|
    .ret [.a 22]) (
    .ins (.pr (.bin .neq) [.a 11,.a 3])<|
    .ite 22 (
    .ins (.pr (.iP) [.k (.bool false)])<|
    .ret [.a 23]) (
    .ins (.pr (.bin .neq) [.a 12,.a 4])<|
    .ite 23 (
     .ins (.pr (.iP) [.k (.bool false)])<|
     .ret [.a 24]) (
     .ins (.pr (.bin .neq) [.a 13,.a 5])<|
     .ite 24 (
     .ins (.pr (.iP) [.k (.bool false)])<|
     .ret [.a 25]) (
     .ins (.cl 19 [.a 14,.a 6] 1)<|
     .ins (.pr (.un .not) [.a 25])<|
     .ite 26 (
      .ins (.pr (.iP) [.k (.bool false)])<|
      .ret [.a 27]) (
      .ins (.cl 20 [.a 15,.a 7] 1)<|
      .ins (.pr (.un .not) [.a 27])<|
      .ite 28 (
      .ins (.pr (.iP) [.k (.bool false)])<|
      .ret [.a 29]) (
      .ins (.cl 21 [.a 0] 1)<|
      .ins (.pr (.aR) [.a 8])<|
      .ins (.pr (.ic) [.a 29,.k (.int .i64 0)])<|
      .ins (.pr (.de 1 0) [.a 29,.k (.int .i64 0)])<|
      .ins (.pr (.len) [.a 30])<|
      .ins (.pr (.bin .rem) [.a 32,.a 33])<|
      .ins (.pr (.ic) [.a 30,.a 34])<|
      .ins (.pr (.de 1 0) [.a 30,.a 34])<|
      .ins (.pr (.ic) [.a 29,.k (.int .i64 1)])<|
      .ins (.pr (.de 1 0) [.a 29,.k (.int .i64 1)])<|
      .ins (.pr (.bin .rem) [.a 38,.k (.int .i64 255)])<|
      .ins (.pr (.bin .add) [.k (.int .i64 1),.a 39])<|
      .ins (.pr (.dA .u8) [.a 40])<|
      .ins (.pr (.bin .xor) [.a 36,.a 41])<|
      .ins (.pr (.ic) [.a 30,.a 34])<|
      .ins (.pr (.put true 1 0 1) [.a 30,.a 34,.a 42])<|
      .ins (.pr (.str) [.a 44])<|
      .ins (.cl 17 [.a 45] 7)<|
      .ins (.cl 22 [.a 0] 1)<|
      .ins (.cl 17 [.a 53] 7)<|
      .ins (.cl 23 [.a 53] 7)<|
      .ins (.cl 16 [.a 54,.a 55,.a 56,.a 57,.a 58,.a 59] 2)<|
      .ins (.pr (.un .not) [.a 52])<|
      .ite 70 (
       .ins (.pr (.bb .eql) [.a 60,.a 67])<|
       .ite 71 (
       .ins (.pr (.un .not) [.a 60])<|
       .ite 72 (
        .ins (.pr (.iP) [.k (.bool true)])<|
        .ret [.a 73]) (
        .ins (.pr (.bin .eql) [.a 68,.a 53])<|
        .ins (.pr (.iP) [.a 73])<|
        .ret [.a 74])) (
       .ins (.pr (.iP) [.k (.bool false)])<|
       .ret [.a 72])) (
       .ins (.pr (.iP) [.k (.bool false)])<|
       .ret [.a 71])))))))))))
def YR:Nat->ai:=pick [(5,vm),(15,HR),(16,H5),(17,yZ),(18,ol),(19,H7),(20,H8),(21,H9),(22,Ik),(23,Bl)]
def RA:ai:=λts=>kL.den YR rounds [] ts
end Go.Proofs.YtbhplkilhknciaaC
