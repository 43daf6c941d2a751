/- The plain programs of the functions that are walked (printed by a program). Conditions: none. -/
import Derived.Test.YtbhplkilhknciaaKe
namespace Go.Proofs.YtbhplkilhknciaaC
def wu:PL:=
 .ins (.pr (.len) [.a 0])<|
 .ins (.pr (.bin .gtr) [.a 1,.k (.int .i64 1048576)])<|
 .ins (.pr (.pQ) [.a 2])<|
 .ret [.a 3]
def W6:Nat->ay:=pick []
def tT:ay:=λts=>wu.den W6 rounds [] ts
def jA:PL:=
 Q (.bin .mul) [2,I 6364136223846793005]<|
 Qa [3,I 1442695040888963407]<|
 Q (.bin .shr) [4,.k (.int .u64 33)]<|
 Q (.bin .shr) [4,.k (.int .u64 45)]<|
 Q (.bin .xor) [5,6]<|
 Q (.bin .and) [7,I 255]<|
 Qn [0]<|
 Ql [1,9]<|
 .join (
 Qz [12]<|
 .ret [13,0,11,4]) (
 .ite 10 (
 Q1 [0,1]<|
 Q (.wR .i64) [12]<|
 Qa [8,13]<|
 Q (.bin .and) [14,I 255]<|
 Qa [1,I 1]<|
 .go 0 [16,15]) (
 .go 0 [1,8]))
def Fw:ay:=Fs jA []
def ie:PL:=
 Qm [3,I 0]<|
 .ite 4 (
 Qz [I 0]<|
 .ret [5,0,1,2]) (
 Qm [3,I 256]<|
 .ite 5 (
 Qi 49 [0,1,2] 4<|
 Q (.bin .rem) [6,3]<|
 Qz [10]<|
 .ret [11,7,8,9]) (
 Qi 49 [0,1,2] 4<|
 Qi 49 [7,8,9] 4<|
 Qi 49 [11,12,13] 4<|
 Qi 49 [15,16,17] 4<|
 Q (.bin .mul) [6,I 16777216]<|
 Q (.bin .mul) [10,I 65536]<|
 Qa [22,23]<|
 Q (.bin .mul) [14,I 256]<|
 Qa [24,25]<|
 Qa [26,18]<|
 Q (.bin .rem) [27,3]<|
 Qz [28]<|
 .ret [29,19,20,21]))
def qQ:ay:=Fs ie [(49,Fw)]
def gj:PL:=
 Qn [3]<|
 Qi 50 [0,1,2,4] 4<|
 Q1 [3,5]<|
 Qz [10]<|
 .ret [11,6,7,8]
def Fx:ay:=Fs gj [(50,qQ)]
def ig:PL:=
 Ql [0,4]<|
 .ite 8 (
 Qz [.k (.bool true)]<|
 .ret [9]) (
 Qe [0,4]<|
 .ite 9 (
 Ql [1,5]<|
 .ite 10 (
 Qz [.k (.bool true)]<|
 .ret [11]) (
 Qe [1,5]<|
 .ite 11 (
 Ql [3,7]<|
 Qz [12]<|
 .ret [13]) (
 Qz [.k (.bool false)]<|
 .ret [12]))) (
 Qz [.k (.bool false)]<|
 .ret [10]))
def zj:ay:=Fs ig []
def kE:PL:=
 Q (.lit 4 []) []<|
 .loop [5,I 0] (
 Qn [0]<|
 Ql [7,8]<|
 .ite 9 (
 Q4 [0,7]<|
 Qi 106 [11,12,13,14,1,2,3,4] 1<|
 .join (
 Qa [7,I 1]<|
 .go 0 [16,17]) (
 .ite 15 (
 Q4 [0,7]<|
 Q (.lit 4 [true,true,true,true]) [17,18,19,20]<|
 Q (.app true 4) [6,21]<|
 .go 0 [22]) (
 .go 0 [6]))) (
 Q (.lit 4 [true,true,true,true]) [1,2,3,4]<|
 Q (.app true 4) [6,10]<|
 .loop [11,I 0] (
 Qn [0]<|
 Ql [13,14]<|
 .ite 15 (
 Q4 [0,13]<|
 Qi 106 [1,2,3,4,17,18,19,20] 1<|
 .join (
 Qa [13,I 1]<|
 .go 0 [22,23]) (
 .ite 21 (
 Q4 [0,13]<|
 Q (.lit 4 [true,true,true,true]) [23,24,25,26]<|
 Q (.app true 4) [12,27]<|
 .go 0 [28]) (
 .go 0 [12]))) (
 .ret [12]))))
def Fy:ay:=Fs kE [(106,zj)]
def jB:PL:=
 Qi 50 [0,1,2,3] 4<|
 Qe [4,I 0]<|
 Qz [8]<|
 .ret [9,5,6,7]
def tU:ay:=Fs jB [(50,qQ)]
def ij:PL:=
 Ql [1,5]<|
 .ite 8 (
 Qz [.k (.bool true)]<|
 .ret [9]) (
 Qe [1,5]<|
 .ite 9 (
 Ql [0,4]<|
 Qz [10]<|
 .ret [11]) (
 Qz [.k (.bool false)]<|
 .ret [10]))
def zk:ay:=Fs ij []
def fK:PL:=
 Q (.lit 4 []) []<|
 .loop [5,I 0] (
 Qn [0]<|
 Ql [7,8]<|
 .ite 9 (
 Q4 [0,7]<|
 Qi 107 [11,12,13,14,1,2,3,4] 1<|
 .join (
 Qa [7,I 1]<|
 .go 0 [16,17]) (
 .ite 15 (
 Q4 [0,7]<|
 Q (.lit 4 [true,true,true,true]) [17,18,19,20]<|
 Q (.app true 4) [6,21]<|
 .go 0 [22]) (
 .go 0 [6]))) (
 Q (.lit 4 [true,true,true,true]) [1,2,3,4]<|
 Q (.app true 4) [6,10]<|
 .loop [11,I 0] (
 Qn [0]<|
 Ql [13,14]<|
 .ite 15 (
 Q4 [0,13]<|
 Qi 107 [1,2,3,4,17,18,19,20] 1<|
 .join (
 Qa [13,I 1]<|
 .go 0 [22,23]) (
 .ite 21 (
 Q4 [0,13]<|
 Q (.lit 4 [true,true,true,true]) [23,24,25,26]<|
 Q (.app true 4) [12,27]<|
 .go 0 [28]) (
 .go 0 [12]))) (
 .ret [12]))))
def Fz:ay:=Fs fK [(107,zk)]
def kF:PL:=
 Qi 50 [0,1,2,I 4] 4<|
 Qa [I 2,3]<|
 .loop [I 0,4,5,6,.e] (
 Qi 50 [9,10,11,I 3] 4<|
 Qa [7,13]<|
 Ql [8,17]<|
 .ite 18 (
 Qi 50 [14,15,16,7] 4<|
 Qa [I 1,19]<|
 Qi 50 [20,21,22,7] 4<|
 Qa [I 1,24]<|
 Qa [8,I 1]<|
 Ql [29,7]<|
 .join (
 Qe [31,32]<|
 .join (
 Qg [31,34]<|
 .join (
 Qi 50 [25,26,27,I 4] 4<|
 Qa [I 1,38]<|
 Q (.lit 1 [true,true,true,true]) [I 0,I 0,I 1,I 2]<|
 Qi 81 [39,40,41,43] 4<|
 Qn [12]<|
 Ql [48,I 12]<|
 .join (
 Qa [8,I 1]<|
 .go 0 [51,45,46,47,50]) (
 .ite 49 (
 Qi 87 [12,36,37,42,44] 1<|
 .go 0 [50]) (
 .go 0 [12]))) (
 .ite 35 (
 .go 0 [34,31]) (
 .go 0 [31,34]))) (
 .ite 33 (
 Q (.bin .rem) [31,7]<|
 Qa [34,I 1]<|
 .go 0 [35]) (
 .go 0 [32]))) (
 .ite 30 (
 Qa [8,I 1]<|
 Qa [8,I 2]<|
 .go 0 [31,32]) (
 .go 0 [23,28]))) (
 .loop [I 0,14,15,16,.e] (
 Qi 50 [20,21,22,I 3] 4<|
 Ql [19,24]<|
 .ite 28 (
 Qi 50 [25,26,27,7] 4<|
 Qa [I 1,29]<|
 Qi 50 [30,31,32,I 3] 4<|
 Qa [I 1,34]<|
 Qi 50 [35,36,37,I 5] 4<|
 Qa [I 1,39]<|
 Qi 60 [40,41,42,I 2] 4<|
 Qi 88 [23,33,38,43,44] 1<|
 Qa [19,I 1]<|
 .go 0 [49,45,46,47,48]) (
 Qz [7]<|
 .ret [29,12,23,25,26,27]))))
def FA:ay:=Fs kF [(50,qQ),(60,tU),(81,Fx),(87,Fy),(88,Fz)]
def mh:PL:=
 Qh [0,1]<|
 .ite 3 (
 Qm [0,2]<|
 Qz [4]<|
 .ret [5]) (
 Qz [.k (.bool false)]<|
 .ret [4])
def np:ay:=Fs mh []
def kG:PL:=
 Qi 90 [0,I 1,I 6] 1<|
 .ite 5 (
 Qi 90 [1,I 1,0] 1<|
 .ite 6 (
 Qi 90 [2,I 1,0] 1<|
 .ite 7 (
 Ql [1,2]<|
 .ite 8 (
 Qi 90 [3,I 1,I 1000] 1<|
 .ite 9 (
 Qi 90 [4,I 0,I 2] 1<|
 Qz [10]<|
 .ret [11]) (
 Qz [.k (.bool false)]<|
 .ret [10])) (
 Qz [.k (.bool false)]<|
 .ret [9])) (
 Qz [.k (.bool false)]<|
 .ret [8])) (
 Qz [.k (.bool false)]<|
 .ret [7])) (
 Qz [.k (.bool false)]<|
 .ret [6])
def FB:ay:=Fs kG [(90,np)]
def mi:PL:=
 Qi 90 [0,I 1,I 6] 1<|
 Qt [3]<|
 .ite 4 (
 Qz [.k (.bool false)]<|
 .ret [5]) (
 Qn [1]<|
 Qg [5,I 12]<|
 .ite 6 (
 Qz [.k (.bool false)]<|
 .ret [7]) (
 Qn [2]<|
 Qg [7,I 4]<|
 .ite 8 (
 Qz [.k (.bool false)]<|
 .ret [9]) (
 .loop [.k (.bool false),I 0] (
 Qn [1]<|
 Ql [10,11]<|
 .ite 12 (
 Q4 [1,10]<|
 Qi 120 [0,14,15,16,17] 1<|
 Qt [18]<|
 .ite 19 (
 Qz [.k (.bool false)]<|
 .ret [20]) (
 Qg [10,I 0]<|
 .ite 20 (
 Qs [10,I 1]<|
 Q4 [1,21]<|
 Q4 [1,10]<|
 Qi 106 [23,24,25,26,28,29,30,31] 1<|
 Qt [32]<|
 .ite 33 (
 Qz [.k (.bool false)]<|
 .ret [34]) (
 Qa [10,I 1]<|
 .go 0 [9,34])) (
 Qa [10,I 1]<|
 .go 0 [9,21]))) (
 .loop [9,I 0] (
 Qn [2]<|
 Ql [14,15]<|
 .ite 16 (
 Q4 [2,14]<|
 Qi 90 [18,I 1,0] 1<|
 Qt [22]<|
 .ite 23 (
 Qz [.k (.bool false)]<|
 .ret [24]) (
 Qi 90 [19,I 1,I 9] 1<|
 Qt [24]<|
 .ite 25 (
 Qz [.k (.bool false)]<|
 .ret [26]) (
 Qi 90 [20,I 1,I 1000] 1<|
 Qt [26]<|
 .ite 27 (
 Qz [.k (.bool false)]<|
 .ret [28]) (
 Qg [14,I 0]<|
 .ite 28 (
 Qs [14,I 1]<|
 Q4 [2,29]<|
 Qi 107 [31,32,33,34,18,19,20,21] 1<|
 Qt [35]<|
 .ite 36 (
 Qz [.k (.bool false)]<|
 .ret [37]) (
 Qa [14,I 1]<|
 .go 0 [13,37])) (
 Qa [14,I 1]<|
 .go 0 [13,29]))))) (
 Qz [.k (.bool true)]<|
 .ret [17])))))))
def FC:ay:=Fs mi [(90,np),(106,zj),(107,zk),(120,FB)]
def kH:PL:=
 .loop [I 0,I 0] (
 Qn [1]<|
 Ql [7,8]<|
 .ite 9 (
 Q4 [1,7]<|
 Qe [14,5]<|
 .ite 15 (
 Qe [11,3]<|
 .ite 16 (
 Qe [12,4]<|
 .ite 17 (
 Qz [13]<|
 .ret [18]) (
 Qe [11,4]<|
 .ite 18 (
 Qe [12,3]<|
 .ite 19 (
 Qz [13]<|
 .ret [20]) (
 Qa [7,I 1]<|
 .go 0 [6,20])) (
 Qa [7,I 1]<|
 .go 0 [6,19]))) (
 Qe [11,4]<|
 .ite 17 (
 Qe [12,3]<|
 .ite 18 (
 Qz [13]<|
 .ret [19]) (
 Qa [7,I 1]<|
 .go 0 [6,19])) (
 Qa [7,I 1]<|
 .go 0 [6,18]))) (
 Qa [7,I 1]<|
 .go 0 [6,16])) (
 Qz [I 0]<|
 .ret [10]))
def FD:ay:=Fs kH []
def kJ:PL:=
 Q (.lit 1 []) []<|
 .loop [5,I 1] (
 Qm [7,I 6]<|
 .ite 8 (
 Qi 129 [0,1,2,3,7,4] 1<|
 Qg [9,I 0]<|
 .join (
 Qa [7,I 1]<|
 .go 0 [11,12]) (
 .ite 10 (
 Qx [7]<|
 Qp [6,11]<|
 .go 0 [12]) (
 .go 0 [6]))) (
 .ret [6]))
def FE:ay:=Fs kJ [(129,FD)]
def jC:PL:=
 Q (.lit 1 []) []<|
 .loop [4,I 0] (
 Qm [6,I 2]<|
 .ite 7 (
 Qi 115 [0,1,2,3,6] 1<|
 Qn [8]<|
 Qg [9,I 0]<|
 .join (
 Qa [6,I 1]<|
 .go 0 [11,12]) (
 .ite 10 (
 Qx [6]<|
 Qp [5,11]<|
 .go 0 [12]) (
 .go 0 [5]))) (
 .ret [5]))
def uy:ay:=Fs jC [(115,FE)]
def jD:PL:=
 .loop [I 0,I 0] (
 Qn [1]<|
 Ql [8,9]<|
 .ite 10 (
 Q4 [1,8]<|
 Q1 [3,8]<|
 .ite 17 (
 Qe [15,6]<|
 .ite 18 (
 Qe [12,4]<|
 .ite 19 (
 Qe [13,5]<|
 .ite 20 (
 Qz [14]<|
 .ret [21]) (
 Qe [12,5]<|
 .ite 21 (
 Qe [13,4]<|
 .ite 22 (
 Qz [14]<|
 .ret [23]) (
 Qa [8,I 1]<|
 .go 0 [7,23])) (
 Qa [8,I 1]<|
 .go 0 [7,22]))) (
 Qe [12,5]<|
 .ite 20 (
 Qe [13,4]<|
 .ite 21 (
 Qz [14]<|
 .ret [22]) (
 Qa [8,I 1]<|
 .go 0 [7,22])) (
 Qa [8,I 1]<|
 .go 0 [7,21]))) (
 Qa [8,I 1]<|
 .go 0 [7,19])) (
 Qa [8,I 1]<|
 .go 0 [7,18])) (
 Qz [I 0]<|
 .ret [11]))
def FF:ay:=Fs jD []
def kK:PL:=
 Qu [0,8]<|
 .ite 16 (
 Ql [0,8]<|
 Qz [17]<|
 .ret [18]) (
 Qu [1,9]<|
 .ite 17 (
 Ql [1,9]<|
 Qz [18]<|
 .ret [19]) (
 Qu [2,10]<|
 .ite 18 (
 Ql [2,10]<|
 Qz [19]<|
 .ret [20]) (
 Ql [3,11]<|
 Qz [19]<|
 .ret [20])))
def zl:ay:=Fs kK []
def kL:PL:=
 Q (.lit 8 []) []<|
 .loop [9,I 0] (
 Qn [0]<|
 Ql [11,12]<|
 .ite 13 (
 Q8 [0,11]<|
 Qi 117 [15,16,17,18,19,20,21,22,1,2,3,4,5,6,7,8] 1<|
 .join (
 Qa [11,I 1]<|
 .go 0 [24,25]) (
 .ite 23 (
 Q8 [0,11]<|
 Q (.lit 8 []) [25,26,27,28,29,30,31,32]<|
 Qy [10,33]<|
 .go 0 [34]) (
 .go 0 [10]))) (
 Q (.lit 8 []) [1,2,3,4,5,6,7,8]<|
 Qy [10,14]<|
 .loop [15,I 0] (
 Qn [0]<|
 Ql [17,18]<|
 .ite 19 (
 Q8 [0,17]<|
 Qi 117 [1,2,3,4,5,6,7,8,21,22,23,24,25,26,27,28] 1<|
 .join (
 Qa [17,I 1]<|
 .go 0 [30,31]) (
 .ite 29 (
 Q8 [0,17]<|
 Q (.lit 8 []) [31,32,33,34,35,36,37,38]<|
 Qy [16,39]<|
 .go 0 [40]) (
 .go 0 [16]))) (
 .ret [16]))))
def zm:ay:=Fs kL [(117,zl)]
def kM:PL:=
 Qi 92 [0,1,2,3] 1<|
 Qn [4]<|
 Qg [5,I 1]<|
 .ite 6 (
 Q1 [4,I 0]<|
 Qe [8,I 0]<|
 Qz [9]<|
 .ret [10]) (
 Qz [.k (.bool false)]<|
 .ret [7])
def zn:ay:=Fs kM [(92,uy)]
def jE:PL:=
 .loop [.k (.bool false),I 0] (
 Qn [5]<|
 Ql [9,10]<|
 .ite 11 (
 Q2 [5,9]<|
 Qi 90 [13,I 1,I 6] 1<|
 Qt [15]<|
 .ite 16 (
 Qz [.k (.bool false)]<|
 .ret [17]) (
 Qe [13,2]<|
 .ite 17 (
 Qz [.k (.bool false)]<|
 .ret [18]) (
 Qi 90 [14,I 1,I 1000] 1<|
 Qt [18]<|
 .ite 19 (
 Qz [.k (.bool false)]<|
 .ret [20]) (
 Qg [9,I 0]<|
 .ite 20 (
 Qs [9,I 1]<|
 Qb [5,21]<|
 Qc 2 0 [5,21]<|
 Qh [23,13]<|
 .ite 24 (
 Qz [.k (.bool false)]<|
 .ret [25]) (
 Qa [9,I 1]<|
 .go 0 [8,25])) (
 Qa [9,I 1]<|
 .go 0 [8,21]))))) (
 Qz [.k (.bool true)]<|
 .ret [12]))
def FG:ay:=Fs jE [(90,np)]
def il:PL:=
 Qi 90 [2,I 1,I 6] 1<|
 Qt [8]<|
 .ite 9 (
 Qz [.k (.bool false)]<|
 .ret [10]) (
 Qi 90 [4,I 1,I 100000] 1<|
 Qt [10]<|
 .ite 11 (
 Qz [.k (.bool false)]<|
 .ret [12]) (
 Qe [1,I 1]<|
 .ite 12 (
 Qi 90 [0,I 0,I 2] 1<|
 .ite 13 (
 Qe [3,I 0]<|
 .ite 14 (
 Qi 119 [0,1,2,3,4,5,6,7] 1<|
 .ite 15 (
 Qe [6,I 0]<|
 .ite 16 (
 Qt [7]<|
 Qz [17]<|
 .ret [18]) (
 Qz [.k (.bool false)]<|
 .ret [17])) (
 Qz [.k (.bool false)]<|
 .ret [16])) (
 Qz [.k (.bool false)]<|
 .ret [15])) (
 Qz [.k (.bool false)]<|
 .ret [14])) (
 Qe [1,I 2]<|
 .ite 13 (
 Qi 90 [0,I 0,I 2] 1<|
 .ite 14 (
 Qi 90 [3,I 1,I 6] 1<|
 .ite 15 (
 Qn [5]<|
 Qe [16,I 0]<|
 .ite 17 (
 Qi 90 [6,I 0,I 60000] 1<|
 .ite 18 (
 Qt [7]<|
 Qz [19]<|
 .ret [20]) (
 Qz [.k (.bool false)]<|
 .ret [19])) (
 Qz [.k (.bool false)]<|
 .ret [18])) (
 Qz [.k (.bool false)]<|
 .ret [16])) (
 Qz [.k (.bool false)]<|
 .ret [15])) (
 Qe [1,I 3]<|
 .ite 14 (
 Qe [0,I 9]<|
 .ite 15 (
 Qi 90 [3,I 1,I 9] 1<|
 .ite 16 (
 Qn [5]<|
 Qe [17,I 0]<|
 .ite 18 (
 Qi 90 [6,I 1,I 1000] 1<|
 .ite 19 (
 Qz [.k (.bool true)]<|
 .ret [20]) (
 Qe [6,I 60000]<|
 Qz [20]<|
 .ret [21])) (
 Qz [.k (.bool false)]<|
 .ret [19])) (
 Qz [.k (.bool false)]<|
 .ret [17])) (
 Qz [.k (.bool false)]<|
 .ret [16])) (
 Qz [.k (.bool false)]<|
 .ret [15])))))
def FH:ay:=Fs il [(90,np),(119,FG)]
def jF:PL:=
 Qn [0]<|
 Qg [1,I 150]<|
 .ite 2 (
 Qz [.k (.bool false)]<|
 .ret [3]) (
 .loop [.k (.bool false),I 0] (
 Qn [0]<|
 Ql [4,5]<|
 .ite 6 (
 Q8 [0,4]<|
 Qi 103 [8,9,10,11,12,13,14,15] 1<|
 Qt [16]<|
 .ite 17 (
 Qz [.k (.bool false)]<|
 .ret [18]) (
 Qg [4,I 0]<|
 .ite 18 (
 Qs [4,I 1]<|
 Q8 [0,19]<|
 Q8 [0,4]<|
 Qi 117 [21,22,23,24,25,26,27,28,30,31,32,33,34,35,36,37] 1<|
 Qt [38]<|
 .ite 39 (
 Qz [.k (.bool false)]<|
 .ret [40]) (
 Qa [4,I 1]<|
 .go 0 [3,40])) (
 Qa [4,I 1]<|
 .go 0 [3,19]))) (
 Qz [.k (.bool true)]<|
 .ret [7])))
def rG:ay:=Fs jF [(103,FH),(117,zl)]
def jG:PL:=
 Qe [0,8]<|
 .ite 16 (
 Qe [1,9]<|
 .ite 17 (
 Qe [2,10]<|
 .ite 18 (
 Qe [3,11]<|
 Qz [19]<|
 .ret [20]) (
 Qz [.k (.bool false)]<|
 .ret [19])) (
 Qz [.k (.bool false)]<|
 .ret [18])) (
 Qz [.k (.bool false)]<|
 .ret [17])
def FI:ay:=Fs jG []
def mj:PL:=
 .loop [I 0,I 0] (
 Qn [0]<|
 Ql [10,11]<|
 .ite 12 (
 Q8 [0,10]<|
 Qi 118 [14,15,16,17,18,19,20,21,1,2,3,4,5,6,7,8] 1<|
 .ite 22 (
 Qz [10]<|
 .ret [23]) (
 Qa [10,I 1]<|
 .go 0 [9,23])) (
 Qz [.k (.int .i64 (-1))]<|
 .ret [13]))
def FJ:ay:=Fs mj [(118,FI)]
def jH:PL:=
 Qi 116 [0,1,I 1,2,I 0,I 0,.e,I 0,.k (.bool false)] 1<|
 Ql [3,I 0]<|
 .ite 4 (
 Qz [.k (.bool false)]<|
 Qz [.k (.bool false)]<|
 Qz [I 0]<|
 Qz [I 0]<|
 Qz [I 0]<|
 Qz [I 0]<|
 Qz [I 0]<|
 Qz [I 0]<|
 .ret [12,11,10,9,8,.e,7,6,5]) (
 Q8 [0,3]<|
 Qz [.k (.bool true)]<|
 Qz [13]<|
 Qz [12]<|
 Qz [10]<|
 Qz [9]<|
 Qz [8]<|
 Qz [7]<|
 Qz [6]<|
 .ret [21,20,19,18,17,11,16,15,14])
def tV:ay:=Fs jH [(116,FJ)]
def im:PL:=
 Qi 130 [0,1,2] 9<|
 .loop [I 0,I 0] (
 Qn [9]<|
 Ql [14,15]<|
 .ite 16 (
 Qb [9,14]<|
 Qc 2 0 [9,14]<|
 Qe [18,3]<|
 .ite 19 (
 Qb [9,14]<|
 Qc 2 1 [9,14]<|
 Qz [21]<|
 .ret [22]) (
 Qa [14,I 1]<|
 .go 0 [13,20])) (
 Qz [I 0]<|
 .ret [17]))
def FK:ay:=Fs im [(130,tV)]
def iq:PL:=
 Q (.mk) [I 49,I 49,I 0]<|
 .loop [I 1,2] (
 Qm [3,I 6]<|
 .ite 5 (
 Qi 130 [0,1,3] 9<|
 .loop [I 0,4] (
 Qn [11]<|
 Ql [15,17]<|
 .ite 18 (
 Qb [11,15]<|
 Qc 2 0 [11,15]<|
 Qi 90 [20,I 1,I 6] 1<|
 .ite 21 (
 Qb [11,15]<|
 Qc 2 0 [11,15]<|
 Qi 135 [0,1,23,3] 1<|
 Qg [24,I 0]<|
 .join (
 Qa [15,I 1]<|
 .go 0 [27,26]) (
 .ite 25 (
 Q (.bin .mul) [3,I 7]<|
 Qb [11,15]<|
 Qc 2 0 [11,15]<|
 Qa [26,28]<|
 Qb [11,15]<|
 Qc 2 1 [11,15]<|
 Qb [16,29]<|
 Q (.put true 1 0 1) [16,29,31]<|
 .go 0 [33]) (
 .go 0 [16]))) (
 .join (
 Qa [15,I 1]<|
 .go 0 [23,22]) (
 .go 0 [16]))) (
 Qa [3,I 1]<|
 .go 1 [19,16]))) (
 .ret [4]))
def FL:ay:=Fs iq [(90,np),(130,tV),(135,FK)]
def ml:PL:=
 .loop [.k (.bool false),I 0] (
 Qn [0]<|
 Ql [3,4]<|
 .ite 5 (
 Q1 [0,3]<|
 Qe [7,1]<|
 .ite 8 (
 Qz [.k (.bool true)]<|
 .ret [9]) (
 Qa [3,I 1]<|
 .go 0 [2,9])) (
 Qz [.k (.bool false)]<|
 .ret [6]))
def FM:ay:=Fs ml []
def kN:PL:=
 Q (.lit 1 []) []<|
 .loop [2,I 1] (
 Qm [4,I 6]<|
 .ite 5 (
 Qi 134 [0,4] 1<|
 .ite 6 (
 .join (
 Qa [4,I 1]<|
 .go 0 [7,8]) (
 Qx [4]<|
 Qp [3,7]<|
 .go 0 [8])) (
 Qi 134 [1,4] 1<|
 .join (
 Qa [4,I 1]<|
 .go 0 [8,9]) (
 .ite 7 (
 Qx [4]<|
 Qp [3,8]<|
 .go 0 [9]) (
 .go 0 [3])))) (
 .ret [3]))
def n5:ay:=Fs kN [(134,FM)]
def kO:PL:=
 Q (.lit 3 []) []<|
 Qi 130 [0,1,2] 9<|
 Qi 101 [0] 1<|
 Qt [13]<|
 .ite 14 (
 .ret [3]) (
 Qi 90 [2,I 1,I 6] 1<|
 Qt [15]<|
 .ite 16 (
 .ret [3]) (
 Qt [12]<|
 .ite 17 (
 .ret [3]) (
 Qi 131 [0,1] 1<|
 Q (.mk) [I 7,I 7,I 0]<|
 Q (.mk) [I 7,I 7,.e]<|
 Q (.mk) [I 7,I 7,.k (.bool false)]<|
 .loop [I 1,19] (
 Qm [22,I 6]<|
 .ite 24 (
 Qb [23,22]<|
 Q (.put true 1 0 1) [23,22,.k (.int .i64 (-1))]<|
 Qa [22,I 1]<|
 .go 0 [27,26]) (
 Qb [23,2]<|
 Q (.put true 1 0 1) [23,2,I 0]<|
 .loop [I 1,20,21,26] (
 Qm [27,I 6]<|
 .ite 31 (
 .loop [I 0,I 1] (
 Qm [33,I 6]<|
 .ite 34 (
 Qq [29,33]<|
 Qt [36]<|
 .ite 37 (
 Qq [30,33]<|
 Qh [39,I 0]<|
 .ite 40 (
 Qe [32,I 0]<|
 .ite 41 (
 .join (
 Qa [33,I 1]<|
 .go 0 [42,43]) (
 .go 0 [33])) (
 Qq [30,33]<|
 Qq [30,32]<|
 Ql [43,45]<|
 .join (
 Qa [33,I 1]<|
 .go 0 [47,48]) (
 .ite 46 (
 .go 0 [33]) (
 .go 0 [32])))) (
 .join (
 Qa [33,I 1]<|
 .go 0 [41,42]) (
 .go 0 [32]))) (
 .join (
 Qa [33,I 1]<|
 .go 0 [38,39]) (
 .go 0 [32]))) (
 Qe [32,I 0]<|
 .ite 35 (
 Qa [I 6,I 1]<|
 .go 1 [36,28,29,30]) (
 Qb [29,32]<|
 Q (.put true 1 0 1) [29,32,.k (.bool true)]<|
 .loop [I 1,28,30] (
 Qm [38,I 6]<|
 .ite 41 (
 Q (.bin .mul) [32,I 7]<|
 Qa [42,38]<|
 Q1 [18,43]<|
 Qe [45,I 0]<|
 .ite 46 (
 Qa [38,I 1]<|
 .go 0 [47,39,40]) (
 Qq [37,38]<|
 .ite 48 (
 Qa [38,I 1]<|
 .go 0 [49,39,40]) (
 Q1 [39,32]<|
 Qe [32,2]<|
 .join (
 Qq [40,32]<|
 Qa [54,45]<|
 Qq [40,38]<|
 Ql [57,I 0]<|
 .ite 58 (
 .join (
 Qa [38,I 1]<|
 .go 0 [61,59,60]) (
 Qb [40,38]<|
 Q (.put true 1 0 1) [40,38,55]<|
 Q (.lit 1 []) []<|
 Qi 128 [61,52] 1<|
 Qb [39,38]<|
 Q (.put false 1 0 1) [39,38,62]<|
 .go 0 [64,60])) (
 Qq [40,38]<|
 Ql [55,60]<|
 .join (
 Qa [38,I 1]<|
 .go 0 [64,62,63]) (
 .ite 61 (
 Qb [40,38]<|
 Q (.put true 1 0 1) [40,38,55]<|
 Q (.lit 1 []) []<|
 Qi 128 [64,52] 1<|
 Qb [39,38]<|
 Q (.put false 1 0 1) [39,38,65]<|
 .go 0 [67,63]) (
 Qq [40,38]<|
 Qe [55,63]<|
 .join (
 .go 0 [65,40]) (
 .ite 64 (
 Q1 [39,38]<|
 Qi 128 [66,52] 1<|
 Qb [39,38]<|
 Q (.put false 1 0 1) [39,38,67]<|
 .go 0 [69]) (
 .go 0 [39])))))) (
 .ite 51 (
 Qx [38]<|
 .go 0 [52]) (
 .go 0 [50]))))) (
 Qa [27,I 1]<|
 .go 2 [42,39,37,40])))))) (
 .loop [3,I 1] (
 Qm [33,I 6]<|
 .ite 34 (
 Qq [29,33]<|
 .join (
 Qa [33,I 1]<|
 .go 0 [37,38]) (
 .ite 36 (
 Qq [30,33]<|
 Q (.lit 1 []) []<|
 Q1 [28,33]<|
 Qp [39,41]<|
 Q (.lit 3 [true,true,false]) [33,38,42]<|
 Qo [32,43]<|
 .go 0 [44]) (
 .go 0 [32]))) (
 .ret [32])))))))))
def uz:ay:=Fs kO [(90,np),(101,rG),(128,n5),(130,tV),(131,FL)]
def jI:PL:=
 Q (.lit 1 []) []<|
 Qp [3,2]<|
 Qz [1]<|
 Qz [0]<|
 .ret [6,5,4]
def zo:ay:=Fs jI []
def mm:PL:=
 .loop [.k (.bool false),I 0] (
 Qn [0]<|
 Ql [3,4]<|
 .ite 5 (
 Qb [0,3]<|
 Qc 3 0 [0,3]<|
 Qe [7,1]<|
 .ite 8 (
 Q3 [0,3]<|
 Qi 132 [10,11,12] 3<|
 Qz [.k (.bool true)]<|
 Qz [14]<|
 Qz [13]<|
 .ret [18,17,15,16]) (
 Qa [3,I 1]<|
 .go 0 [2,9])) (
 Qz [.k (.bool false)]<|
 Qz [I 0]<|
 Qz [I 0]<|
 .ret [8,7,.e,6]))
def pg:ay:=Fs mm [(132,zo)]
def kQ:PL:=
 Ql [1,4]<|
 Qz [6]<|
 .ret [7]
def FN:ay:=Fs kQ []
def iu:PL:=
 Qi 133 [0,1,2,3,4,5] 1<|
 .ite 6 (
 Qi 132 [0,1,2] 3<|
 Qz [8]<|
 Qz [7]<|
 .ret [11,10,9]) (
 Qi 133 [3,4,5,0,1,2] 1<|
 .ite 7 (
 Qi 132 [3,4,5] 3<|
 Qz [9]<|
 Qz [8]<|
 .ret [12,11,10]) (
 Qi 128 [2,5] 1<|
 Qz [1]<|
 Qz [0]<|
 .ret [10,9,8]))
def zp:ay:=Fs iu [(128,n5),(132,zo),(133,FN)]
def ft:PL:=
 Q (.lit 3 []) []<|
 Q (.lit 1 []) []<|
 .loop [4,I 0] (
 Qn [1]<|
 Ql [6,7]<|
 .ite 8 (
 Q1 [1,6]<|
 Qi 123 [0,10,2] 1<|
 Q (.lit 1 []) [11]<|
 Q (.app false 1) [5,12]<|
 Qa [6,I 1]<|
 .go 0 [13,14]) (
 .loop [3,I 1] (
 Qm [10,I 6]<|
 .ite 11 (
 .loop [.k (.bool false),I 0,I 0,I 0,.e] (
 Qn [1]<|
 Ql [13,17]<|
 .ite 18 (
 Q1 [5,13]<|
 Qi 124 [20,10] 4<|
 Qt [24]<|
 .ite 25 (
 Qa [13,I 1]<|
 .go 0 [12,26,14,15,16]) (
 .join (
 Qa [13,I 1]<|
 .go 0 [.k (.bool true),29,26,27,28]) (
 .ite 12 (
 Qi 125 [14,15,16,21,22,23] 3<|
 .go 0 [26,27,28]) (
 .go 0 [21,22,23])))) (
 .join (
 Qa [10,I 1]<|
 .go 1 [19,20]) (
 .ite 12 (
 Q (.lit 3 []) [14,15,16]<|
 Qo [9,19]<|
 .go 0 [20]) (
 .go 0 [9]))))) (
 .ret [9]))))
def uA:ay:=Fs ft [(123,uz),(124,pg),(125,zp)]
def gO:PL:=
 .loop [8,I 0,5,6,7] (
 Qn [0]<|
 Ql [10,14]<|
 .ite 15 (
 Q8 [0,10]<|
 Qu [18,I 2]<|
 .ite 25 (
 Qa [10,I 1]<|
 .go 0 [9,26,11,12,13]) (
 Qu [17,2]<|
 .ite 26 (
 Qa [10,I 1]<|
 .go 0 [9,27,11,12,13]) (
 Qu [20,4]<|
 .ite 27 (
 Qa [10,I 1]<|
 .go 0 [9,28,11,12,13]) (
 Qe [19,3]<|
 .ite 28 (
 Qa [10,I 1]<|
 .go 0 [9,29,11,12,13]) (
 Qh [23,I 60000]<|
 .ite 29 (
 Qa [10,I 1]<|
 .go 0 [9,30,11,12,13]) (
 Qi 124 [1,19] 4<|
 Qt [33]<|
 .ite 34 (
 Qa [10,I 1]<|
 .go 0 [9,35,11,12,13]) (
 Qa [31,23]<|
 Qh [35,I 60000]<|
 .ite 36 (
 Qa [10,I 1]<|
 .go 0 [9,37,11,12,13]) (
 Qa [31,23]<|
 .join (
 Qa [10,I 1]<|
 .go 0 [.k (.bool true),41,38,39,40]) (
 .ite 9 (
 Qi 125 [11,12,13,4,37,32] 3<|
 .go 0 [38,39,40]) (
 .go 0 [4,37,32])))))))))) (
 Qz [9]<|
 Qz [12]<|
 Qz [11]<|
 .ret [18,17,13,16]))
def FO:ay:=Fs gO [(124,pg),(125,zp)]
def fu:PL:=
 Q (.lit 3 []) []<|
 Qi 112 [0,1,3] 1<|
 Qi 101 [0] 1<|
 Qt [6]<|
 .ite 7 (
 .ret [4]) (
 Q (.lit 1 []) []<|
 .loop [8,I 0] (
 Qn [1]<|
 Ql [10,11]<|
 .ite 12 (
 Q1 [1,10]<|
 Qi 123 [0,14,3] 1<|
 Q (.lit 1 []) [15]<|
 Q (.app false 1) [9,16]<|
 Qa [10,I 1]<|
 .go 0 [17,18]) (
 .loop [4,I 1] (
 Qm [14,I 6]<|
 .ite 15 (
 Qi 124 [5,14] 4<|
 .ite 19 (
 Qa [14,I 1]<|
 .go 0 [13,20]) (
 .loop [.k (.bool false),I 0,I 0,I 0,.e] (
 Qn [1]<|
 Ql [21,25]<|
 .ite 26 (
 .ite 2 (
 Q1 [1,21]<|
 Qu [28,I 0]<|
 .ite 29 (
 Qa [21,I 1]<|
 .go 0 [20,30,22,23,24]) (
 Q1 [9,21]<|
 Q1 [1,21]<|
 Qi 126 [0,31,33,3,14,22,23,24,20] 4<|
 Qa [21,I 1]<|
 .go 0 [37,38,34,35,36])) (
 Q1 [9,21]<|
 Q1 [1,21]<|
 Qi 126 [0,28,30,3,14,22,23,24,20] 4<|
 Qa [21,I 1]<|
 .go 0 [34,35,31,32,33])) (
 .join (
 Qa [14,I 1]<|
 .go 1 [27,28]) (
 .ite 20 (
 Q (.lit 3 []) [22,23,24]<|
 Qo [13,27]<|
 .go 0 [28]) (
 .go 0 [13])))))) (
 .ret [13])))))
def zq:ay:=Fs fu [(101,rG),(112,uA),(123,uz),(124,pg),(126,FO)]
def kR:PL:=
 Q (.lit 8 []) []<|
 Qi 101 [0] 1<|
 Qt [5]<|
 .ite 6 (
 .ret [4]) (
 Q (.lit 1 []) []<|
 .loop [7,I 0] (
 Qn [1]<|
 Ql [9,10]<|
 .ite 11 (
 Q1 [1,9]<|
 Qu [13,3]<|
 .join (
 Qa [9,I 1]<|
 .go 0 [15,16]) (
 .ite 14 (
 Q1 [1,9]<|
 Qx [16]<|
 Qp [8,17]<|
 .go 0 [18]) (
 .go 0 [8]))) (
 Qi 123 [0,3,2] 1<|
 Qi 112 [0,8,2] 1<|
 Qi 113 [0,1,.k (.bool true),2] 1<|
 .loop [4,I 1] (
 Qm [16,I 6]<|
 .ite 17 (
 Qi 124 [12,16] 4<|
 .ite 21 (
 Qa [16,I 1]<|
 .go 0 [15,22]) (
 Qe [16,2]<|
 .ite 22 (
 Qa [16,I 1]<|
 .go 0 [15,23]) (
 Qi 124 [13,16] 4<|
 Qt [26]<|
 .ite 27 (
 Qu [3,I 0]<|
 .join (
 .join (
 Qa [16,I 1]<|
 .go 0 [33,34]) (
 .ite 32 (
 Q (.lit 8 [true,true,true,true,true,false,true,true]) [3,I 2,2,16,I 0,.e,30,.k (.bool false)]<|
 Qy [15,33]<|
 .go 0 [34]) (
 .go 0 [15]))) (
 .ite 28 (
 Qi 124 [14,16] 4<|
 .go 0 [29,30,31,32]) (
 .go 0 [23,24,25,26]))) (
 .join (
 .join (
 Qa [16,I 1]<|
 .go 0 [32,33]) (
 .ite 31 (
 Q (.lit 8 [true,true,true,true,true,false,true,true]) [3,I 2,2,16,I 0,.e,29,.k (.bool false)]<|
 Qy [15,32]<|
 .go 0 [33]) (
 .go 0 [15]))) (
 .go 0 [23,24,25,26]))))) (
 .ret [15])))))
def FP:ay:=Fs kR [(101,rG),(112,uA),(113,zq),(123,uz),(124,pg)]
def jJ:PL:=
 .loop [0,I 0] (
 Qn [1]<|
 Ql [3,4]<|
 .ite 5 (
 Q8 [1,3]<|
 Qe [11,I 0]<|
 .join (
 Qi 110 [2,7,8,9,10,16,12,13,14] 1<|
 Qa [3,I 1]<|
 .go 0 [17,18]) (
 .ite 15 (
 .go 0 [I 1]) (
 .go 0 [11]))) (
 .ret [2]))
def FQ:ay:=Fs jJ [(110,zm)]
def gP:PL:=
 Q (.lit 8 []) []<|
 .loop [3,I 0] (
 Qn [1]<|
 Ql [5,6]<|
 .ite 7 (
 Q1 [1,5]<|
 Qi 121 [0,1,2,9] 1<|
 Qy [4,10]<|
 Qa [5,I 1]<|
 .go 0 [11,12]) (
 Q (.lit 8 []) []<|
 .loop [8,I 0] (
 Qn [0]<|
 Ql [10,11]<|
 .ite 12 (
 Qb [0,10]<|
 Qc 8 1 [0,10]<|
 Qu [14,I 2]<|
 .ite 15 (
 .join (
 Qa [10,I 1]<|
 .go 0 [16,17]) (
 Q8 [0,10]<|
 Q (.lit 8 []) [17,18,19,20,21,22,23,24]<|
 Qy [9,25]<|
 .go 0 [26])) (
 Qb [0,10]<|
 Qc 8 2 [0,10]<|
 Qu [17,2]<|
 .join (
 Qa [10,I 1]<|
 .go 0 [19,20]) (
 .ite 18 (
 Q8 [0,10]<|
 Q (.lit 8 []) [20,21,22,23,24,25,26,27]<|
 Qy [9,28]<|
 .go 0 [29]) (
 .go 0 [9])))) (
 Qi 122 [9,4] 1<|
 .ret [13]))))
def FR:ay:=Fs gP [(121,FP),(122,FQ)]
def jK:PL:=
 Q (.lit 2 []) []<|
 Q (.app true 2) [8,5]<|
 Qz [7]<|
 Qz [6]<|
 Qz [4]<|
 Qz [3]<|
 Qz [2]<|
 Qz [1]<|
 Qz [0]<|
 .ret [16,15,14,13,12,9,11,10]
def FT:ay:=Fs jK []
def fM:PL:=
 Q (.lit 8 []) []<|
 .loop [1,I 0] (
 Qn [0]<|
 Ql [3,4]<|
 .ite 5 (
 Q8 [0,3]<|
 Qi 96 [7,8,9,10,11,12,13,14] 8<|
 Q (.lit 8 [true,true,true,true,true,false,true,true]) [15,16,17,18,19,20,21,22]<|
 Qy [2,23]<|
 Qa [3,I 1]<|
 .go 0 [24,25]) (
 .ret [2]))
def FU:ay:=Fs fM [(96,FT)]
def mo:PL:=
 Q (.lit 8 []) []<|
 Qi 108 [0,1,2] 1<|
 Qt [6]<|
 .ite 7 (
 Qz [.k (.bool false)]<|
 .ret [5,8]) (
 Qn [3]<|
 Qn [1]<|
 Qu [8,9]<|
 .ite 10 (
 Qz [.k (.bool false)]<|
 .ret [5,11]) (
 Qn [4]<|
 Qu [11,0]<|
 .ite 12 (
 Qz [.k (.bool false)]<|
 .ret [5,13]) (
 .loop [5,I 1] (
 Qm [14,0]<|
 .ite 15 (
 Qi 92 [0,1,2,14] 1<|
 .loop [13,I 0] (
 Qn [16]<|
 Ql [18,19]<|
 .ite 20 (
 Qs [14,I 1]<|
 Q1 [4,21]<|
 .ite 23 (
 Q1 [16,18]<|
 .loop [I 1,.e] (
 Qm [26,0]<|
 .ite 28 (
 Q1 [16,18]<|
 Qi 109 [0,1,2,3,14,26,30] 1<|
 Qg [31,I 0]<|
 .ite 32 (
 Qs [26,I 1]<|
 Q1 [4,33]<|
 .join (
 Qa [26,I 1]<|
 .go 0 [37,36]) (
 .ite 35 (
 Q (.lit 2 [true,true]) [26,31]<|
 Q (.app true 2) [27,36]<|
 .go 0 [37]) (
 .go 0 [27]))) (
 .join (
 Qa [26,I 1]<|
 .go 0 [34,33]) (
 .go 0 [27]))) (
 Qi 110 [17,25,I 1,14,I 0,I 1,27,I 0,.k (.bool false)] 1<|
 Qa [18,I 1]<|
 .go 1 [29,30]))) (
 Qa [14,I 1]<|
 .go 1 [17,24])) (
 Qa [14,I 1]<|
 .go 1 [17,21]))) (
 .loop [13,I 0] (
 Qn [2]<|
 Ql [17,18]<|
 .ite 19 (
 Q4 [2,17]<|
 Qs [21,I 1]<|
 Q1 [4,25]<|
 .join (
 Qa [17,I 1]<|
 .go 0 [28,29]) (
 .ite 27 (
 Qi 110 [16,I 9,I 3,21,22,I 1,.e,23,24] 1<|
 .go 0 [28]) (
 .go 0 [16]))) (
 .loop [16,I 0] (
 Ql [21,I 3]<|
 .ite 22 (
 .loop [20,I 1] (
 Qm [24,0]<|
 .ite 25 (
 Qs [24,I 1]<|
 Q1 [4,26]<|
 .ite 28 (
 Qi 93 [0,1,2,24] 1<|
 .join (
 Qa [24,I 1]<|
 .go 0 [30,31]) (
 .ite 29 (
 Qi 92 [0,1,2,24] 1<|
 Qi 111 [23,30,24] 1<|
 .go 0 [31]) (
 .go 0 [23]))) (
 .join (
 Qa [24,I 1]<|
 .go 0 [29,30]) (
 .go 0 [23]))) (
 Qa [21,I 1]<|
 .go 1 [23,26]))) (
 Qi 104 [20] 1<|
 Qz [.k (.bool true)]<|
 .ret [23,24])))))))))
def FV:ay:=Fs mo [(92,uy),(93,zn),(104,FU),(108,FC),(109,FF),(110,zm),(111,FR)]
def iv:PL:=
 Qe [2,3]<|
 .ite 4 (
 Qz [.k (.bool true)]<|
 Qz [I 0]<|
 Qz [2]<|
 .ret [7,6,.e,5]) (
 Qi 124 [0,2] 4<|
 .ite 8 (
 Qz [.k (.bool true)]<|
 Qz [6]<|
 Qz [5]<|
 .ret [11,10,7,9]) (
 Qi 124 [1,2] 4<|
 Qz [12]<|
 Qz [10]<|
 Qz [9]<|
 .ret [15,14,11,13]))
def FW:ay:=Fs iv [(124,pg)]
def iw:PL:=
 .loop [.k (.bool false),I 0,I 3,I 0,I 0,.e] (
 Qn [0]<|
 Ql [7,12]<|
 .ite 13 (
 Q8 [0,7]<|
 Qu [16,I 3]<|
 .ite 23 (
 Qa [7,I 1]<|
 .go 0 [6,24,8,9,10,11]) (
 Qu [18,3]<|
 .ite 24 (
 Qa [7,I 1]<|
 .go 0 [6,25,8,9,10,11]) (
 Q (.bb .neq) [22,5]<|
 .ite 25 (
 Qa [7,I 1]<|
 .go 0 [6,26,8,9,10,11]) (
 Qh [21,I 60000]<|
 .ite 26 (
 Qa [7,I 1]<|
 .go 0 [6,27,8,9,10,11]) (
 Qi 127 [1,2,17,4] 4<|
 Qt [30]<|
 .ite 31 (
 Qa [7,I 1]<|
 .go 0 [6,32,8,9,10,11]) (
 Qa [28,21]<|
 .join (
 Qt [6]<|
 .ite 36 (
 .join (
 Qa [7,I 1]<|
 .go 0 [.k (.bool true),40,33,37,38,39]) (
 Q (.lit 1 []) []<|
 Qi 128 [37,29] 1<|
 .go 0 [34,35,38])) (
 Ql [35,10]<|
 .ite 37 (
 .join (
 Qa [7,I 1]<|
 .go 0 [.k (.bool true),41,33,38,39,40]) (
 Q (.lit 1 []) []<|
 Qi 128 [38,29] 1<|
 .go 0 [34,35,39])) (
 Qe [35,10]<|
 .ite 38 (
 Ql [34,9]<|
 .join (
 Qa [7,I 1]<|
 .go 0 [.k (.bool true),43,33,40,41,42]) (
 .ite 39 (
 Q (.lit 1 []) []<|
 Qi 128 [40,29] 1<|
 .go 0 [34,35,41]) (
 Qe [35,10]<|
 .ite 40 (
 Qe [34,9]<|
 .join (
 .go 0 [9,10,42]) (
 .ite 41 (
 Qi 128 [11,29] 1<|
 .go 0 [42]) (
 .go 0 [11]))) (
 .join (
 .go 0 [9,10,41]) (
 .go 0 [11]))))) (
 .join (
 Qa [7,I 1]<|
 .go 0 [.k (.bool true),42,33,39,40,41]) (
 Qe [35,10]<|
 .ite 39 (
 Qe [34,9]<|
 .join (
 .go 0 [9,10,41]) (
 .ite 40 (
 Qi 128 [11,29] 1<|
 .go 0 [41]) (
 .go 0 [11]))) (
 .join (
 .go 0 [9,10,40]) (
 .go 0 [11]))))))) (
 .ite 5 (
 .go 0 [I 4,28,21]) (
 .go 0 [8,32,I 0])))))))) (
 Qz [6]<|
 Qz [10]<|
 Qz [9]<|
 Qz [8]<|
 Qz [3]<|
 Qz [.k (.bool true)]<|
 .ret [19,18,17,16,15,11,14]))
def Dl:ay:=Fs iw [(127,FW),(128,n5)]
def iy:PL:=
 Q (.lit 6 []) []<|
 Qi 112 [0,1,3] 1<|
 Qi 113 [0,1,2,3] 1<|
 Qi 101 [0] 1<|
 Qt [7]<|
 .ite 8 (
 .ret [4]) (
 .loop [4,I 0] (
 Qn [5]<|
 Ql [10,11]<|
 .ite 12 (
 Qb [5,10]<|
 Qc 3 0 [5,10]<|
 Qu [14,3]<|
 .join (
 Qa [10,I 1]<|
 .go 0 [16,17]) (
 .ite 15 (
 Qb [5,10]<|
 Qc 3 0 [5,10]<|
 Qb [5,10]<|
 Qc 3 1 [5,10]<|
 Qb [5,10]<|
 Qc 3 2 [5,10]<|
 Q (.lit 6 []) [.k (.bool false),17,I 1,19,I 0,21]<|
 Q (.app false 6) [9,22]<|
 .go 0 [23]) (
 .go 0 [9]))) (
 .loop [9,I 0] (
 Qn [6]<|
 Ql [14,15]<|
 .ite 16 (
 Qb [6,14]<|
 Qc 3 0 [6,14]<|
 Qu [18,3]<|
 .join (
 Qa [14,I 1]<|
 .go 0 [20,21]) (
 .ite 19 (
 Qb [6,14]<|
 Qc 3 0 [6,14]<|
 Qb [6,14]<|
 Qc 3 1 [6,14]<|
 Qb [6,14]<|
 Qc 3 2 [6,14]<|
 Q (.lit 6 []) [.k (.bool false),21,I 2,23,I 0,25]<|
 Q (.app false 6) [13,26]<|
 .go 0 [27]) (
 .go 0 [13]))) (
 .loop [13,I 1] (
 Qm [18,I 9]<|
 .ite 19 (
 Qi 114 [0,5,6,18,3,.k (.bool false)] 7<|
 Qt [26]<|
 .join (
 .join (
 Qa [18,I 1]<|
 .go 0 [35,36]) (
 .ite 34 (
 Q (.lit 1 []) []<|
 Qp [35,33]<|
 Q (.lit 6 [true,true,true,true,true,false]) [28,29,30,31,32,36]<|
 Q (.app false 6) [17,37]<|
 .go 0 [38]) (
 .go 0 [17]))) (
 .ite 27 (
 Qi 114 [0,5,6,18,3,.k (.bool true)] 7<|
 .go 0 [28,29,30,31,32,33,34]) (
 .go 0 [20,21,22,23,24,25,26]))) (
 .ret [17])))))))
def FX:ay:=Fs iy [(101,rG),(112,uA),(113,zq),(114,Dl)]
def gk:PL:=
 Qi 89 [0,1,2,3,4] 2<|
 Qt [7]<|
 .ite 8 (
 Q (.lit 6 []) []<|
 .ret [9]) (
 Qi 90 [5,I 1,0] 1<|
 Qt [9]<|
 .ite 10 (
 Q (.lit 6 []) []<|
 .ret [11]) (
 Qs [5,I 1]<|
 Q1 [4,11]<|
 Qt [13]<|
 .ite 14 (
 Q (.lit 6 []) []<|
 .ret [15]) (
 Qi 92 [0,1,2,5] 1<|
 Qi 93 [0,1,2,5] 1<|
 Qi 91 [6,15,16,5] 1<|
 .ret [17])))
def Dm:ay:=Fs gk [(89,FV),(90,np),(91,FX),(92,uy),(93,zn)]
def gQ:PL:=
 Qi 63 [0,1,2] 6<|
 Qn [4]<|
 Q (.mk) [9,9,.k (.bool false)]<|
 Q (.mk) [3,3,.k (.bool false)]<|
 .loop [I 0,6,7,8,10] (
 Qn [16]<|
 Ql [12,17]<|
 .ite 18 (
 Qi 60 [13,14,15,I 8] 4<|
 Qt [19]<|
 Qb [16,12]<|
 Q (.put true 1 0 1) [16,12,23]<|
 Qa [12,I 1]<|
 .go 0 [26,20,21,22,25]) (
 .loop [I 0,11] (
 Qn [20]<|
 Ql [19,21]<|
 .ite 22 (
 Qb [20,19]<|
 Q (.put true 1 0 1) [20,19,.k (.bool true)]<|
 Qa [19,I 1]<|
 .go 0 [25,24]) (
 Qi 50 [13,14,15,3] 4<|
 Qa [I 1,23]<|
 Qi 64 [3,4,5,16,20,27] 1<|
 Qn [28]<|
 Qg [29,I 0]<|
 .ite 30 (
 Qi 60 [24,25,26,I 6] 4<|
 .join (
 .ret [35,32,33,34]) (
 .ite 31 (
 Q6 [28,I 0]<|
 Q (.lit 6 []) [36,37,38,39,40,41]<|
 Q (.app false 6) [28,42]<|
 .go 0 [43]) (
 .go 0 [28]))) (
 .join (
 .ret [31,24,25,26]) (
 .go 0 [28]))))))
def zr:ay:=Fs gQ [(50,qQ),(60,tU),(63,FA),(64,Dm)]
def mq:PL:=
 .loop [I 0,I 0] (
 Qn [0]<|
 Ql [5,6]<|
 .ite 7 (
 Qb [0,5]<|
 Qc 3 0 [0,5]<|
 Q (.bb .eql) [9,1]<|
 .ite 10 (
 Qb [0,5]<|
 Qc 3 1 [0,5]<|
 Qe [12,2]<|
 .ite 13 (
 Qz [5]<|
 .ret [14]) (
 Qa [5,I 1]<|
 .go 0 [4,14])) (
 Qa [5,I 1]<|
 .go 0 [4,11])) (
 Qz [.k (.int .i64 (-1))]<|
 .ret [8]))
def rH:ay:=Fs mq []
def jL:PL:=
 Q (.lit 1 []) []<|
 Qp [3,2]<|
 Qz [1]<|
 Qz [0]<|
 .ret [6,5,4]
def uB:ay:=Fs jL []
def jM:PL:=
 Q (.lit 3 []) []<|
 .loop [1,I 0] (
 Qn [0]<|
 Ql [3,4]<|
 .ite 5 (
 Qb [0,3]<|
 Qc 6 0 [0,3]<|
 Qb [0,3]<|
 Qc 6 1 [0,3]<|
 Qb [0,3]<|
 Qc 6 5 [0,3]<|
 Qi 29 [2,7,9,11] 1<|
 Ql [12,I 0]<|
 .join (
 Qa [3,I 1]<|
 .go 0 [14,15]) (
 .ite 13 (
 Qi 33 [7,9,11] 3<|
 Q (.lit 3 [true,true,false]) [14,15,16]<|
 Qo [2,17]<|
 .go 0 [18]) (
 .go 0 [2]))) (
 .ret [2]))
def zt:ay:=Fs jM [(29,rH),(33,uB)]
def mr:PL:=
 Q (.lit 3 []) []<|
 .loop [2,I 0] (
 Qn [0]<|
 Ql [4,5]<|
 .ite 6 (
 Q3 [0,4]<|
 Qi 33 [8,9,10] 3<|
 Q (.lit 3 [true,true,false]) [11,12,13]<|
 Qo [3,14]<|
 Qa [4,I 1]<|
 .go 0 [15,16]) (
 .loop [3,I 0] (
 Qn [1]<|
 Ql [8,9]<|
 .ite 10 (
 Q4 [1,8]<|
 Qi 29 [7,13,14,15] 1<|
 .ite 12 (
 Qh [16,I 0]<|
 .join (
 Qa [8,I 1]<|
 .go 0 [18,19]) (
 .ite 17 (
 Q (.lit 3 []) []<|
 Q (.sub 3 false true) [7,16]<|
 Q (.rZ) [7,I 0,19]<|
 Qo [18,19]<|
 Qa [16,I 1]<|
 Q (.sub 3 true false) [7,22]<|
 Q (.rZ) [20,22,23]<|
 Qo [21,23]<|
 .go 0 [25]) (
 Qt [12]<|
 .ite 18 (
 Qh [16,I 0]<|
 .join (
 .go 0 [20]) (
 .ite 19 (
 Qi 33 [13,14,15] 3<|
 Qb [7,16]<|
 Q (.iX [true,true,false] 3 0) [7,16,20,21,22]<|
 .go 0 [24]) (
 Qt [12]<|
 .join (
 .go 0 [21]) (
 .ite 20 (
 Qi 33 [13,14,15] 3<|
 Q (.lit 3 [true,true,false]) [21,22,23]<|
 Qo [7,24]<|
 .go 0 [25]) (
 .go 0 [7]))))) (
 .join (
 .go 0 [19]) (
 Qt [12]<|
 .join (
 .go 0 [20]) (
 .ite 19 (
 Qi 33 [13,14,15] 3<|
 Q (.lit 3 [true,true,false]) [20,21,22]<|
 Qo [7,23]<|
 .go 0 [24]) (
 .go 0 [7]))))))) (
 .join (
 Qa [8,I 1]<|
 .go 0 [17,18]) (
 Qt [12]<|
 .ite 17 (
 Qh [16,I 0]<|
 .join (
 .go 0 [19]) (
 .ite 18 (
 Qi 33 [13,14,15] 3<|
 Qb [7,16]<|
 Q (.iX [true,true,false] 3 0) [7,16,19,20,21]<|
 .go 0 [23]) (
 Qt [12]<|
 .join (
 .go 0 [20]) (
 .ite 19 (
 Qi 33 [13,14,15] 3<|
 Q (.lit 3 [true,true,false]) [20,21,22]<|
 Qo [7,23]<|
 .go 0 [24]) (
 .go 0 [7]))))) (
 .join (
 .go 0 [18]) (
 Qt [12]<|
 .join (
 .go 0 [19]) (
 .ite 18 (
 Qi 33 [13,14,15] 3<|
 Q (.lit 3 [true,true,false]) [19,20,21]<|
 Qo [7,22]<|
 .go 0 [23]) (
 .go 0 [7]))))))) (
 .ret [7]))))
def FY:ay:=Fs mr [(29,rH),(33,uB)]
def kU:PL:=
 Qn [0]<|
 Qa [I 13901,1]<|
 .loop [2,I 0] (
 Qn [0]<|
 Ql [4,5]<|
 .ite 6 (
 Ql [4,I 4000]<|
 .ite 7 (
 Q (.bin .mul) [3,I 131]<|
 Q1 [0,4]<|
 Q (.wR .i64) [10]<|
 Qa [8,11]<|
 Qa [12,I 7]<|
 Q (.bin .and) [13,I 1073741823]<|
 Qa [4,I 1]<|
 .go 0 [14,15]) (
 Qi 31 [0,I 0,3] 4<|
 Qi 13 [8] 1<|
 Qi 31 [9,10,11] 4<|
 Qi 13 [13] 1<|
 Qi 60 [14,15,16,I 3] 4<|
 .join (
 .ret [12,22]) (
 .ite 18 (
 Q (.lit 4 []) []<|
 Qi 61 [12,22] 1<|
 Qn [23]<|
 Qg [24,I 0]<|
 .join (
 .go 0 [26]) (
 .ite 25 (
 Qb [23,I 0]<|
 Q (.jj 3 2) [23,I 0]<|
 Qx [I 6]<|
 Q (.jj 3 2) [23,I 0]<|
 Qp [29,28]<|
 Qb [23,I 0]<|
 Q (.put false 3 2 1) [23,I 0,30]<|
 .go 0 [32]) (
 .go 0 [23]))) (
 .go 0 [17])))) (
 Qi 31 [0,I 0,3] 4<|
 Qi 13 [7] 1<|
 Qi 31 [8,9,10] 4<|
 Qi 13 [12] 1<|
 Qi 60 [13,14,15,I 3] 4<|
 .join (
 .ret [11,21]) (
 .ite 17 (
 Q (.lit 4 []) []<|
 Qi 61 [11,21] 1<|
 Qn [22]<|
 Qg [23,I 0]<|
 .join (
 .go 0 [25]) (
 .ite 24 (
 Qb [22,I 0]<|
 Q (.jj 3 2) [22,I 0]<|
 Qx [I 6]<|
 Q (.jj 3 2) [22,I 0]<|
 Qp [28,27]<|
 Qb [22,I 0]<|
 Q (.put false 3 2 1) [22,I 0,29]<|
 .go 0 [31]) (
 .go 0 [22]))) (
 .go 0 [16]))))
def FZ:ay:=Fs kU [(13,zt),(31,zr),(60,tU),(61,FY)]
def gm:PL:=
 Qi 24 [0] 2<|
 .ret [1,2]
def F0:ay:=Fs gm [(24,FZ)]
def kV:PL:=
 Qn [0]<|
 .loop [I 0,I 0] (
 Ql [6,4]<|
 .ite 7 (
 Q3 [0,6]<|
 Q (.bb .eql) [9,1]<|
 .ite 12 (
 Qe [10,2]<|
 .ite 13 (
 Qz [6]<|
 .ret [14]) (
 Qa [6,I 1]<|
 .go 0 [5,14])) (
 Qa [6,I 1]<|
 .go 0 [5,13])) (
 Qz [.k (.int .i64 (-1))]<|
 .ret [8]))
def uC:ay:=Fs kV []
def iz:PL:=
 Qn [0]<|
 Qn [1]<|
 Qu [2,3]<|
 .ite 4 (
 Qz [.k (.bool false)]<|
 .ret [5]) (
 Qn [0]<|
 .loop [.k (.bool false),I 0] (
 Ql [7,5]<|
 .ite 8 (
 Q1 [0,7]<|
 Q1 [1,7]<|
 Qu [10,12]<|
 .ite 13 (
 Qz [.k (.bool false)]<|
 .ret [14]) (
 Qa [7,I 1]<|
 .go 0 [6,14])) (
 Qz [.k (.bool true)]<|
 .ret [9])))
def xi:ay:=Fs iz []
def iA:PL:=
 Qp [.e,0]<|
 .ret [1]
def F1:ay:=Fs iA []
def iB:PL:=
 Qi 62 [2] 1<|
 Qz [1]<|
 Qz [0]<|
 .ret [5,4,3]
def uD:ay:=Fs iB [(62,F1)]
def kW:PL:=
 Qn [0]<|
 .loop [.e,I 0] (
 Ql [4,2]<|
 .ite 5 (
 Q3 [0,4]<|
 Qi 25 [1,7,8,9] 1<|
 Ql [10,I 0]<|
 .join (
 Qa [4,I 1]<|
 .go 0 [12,13]) (
 .ite 11 (
 Q (.lit 4 [true,true,true,false]) [.k (.bool true),7,8,.e]<|
 Q (.app false 4) [3,12]<|
 .go 0 [13]) (
 .go 0 [3]))) (
 Qn [1]<|
 .loop [3,I 0] (
 Ql [8,6]<|
 .ite 9 (
 Q3 [1,8]<|
 Qi 25 [0,11,12,13] 1<|
 Ql [14,I 0]<|
 .ite 15 (
 .join (
 Qa [8,I 1]<|
 .go 0 [16,17]) (
 Qi 27 [11,12,13] 3<|
 Q (.lit 4 [true,true,true,false]) [.k (.bool false),16,17,18]<|
 Q (.app false 4) [7,19]<|
 .go 0 [20])) (
 Qb [0,14]<|
 Qc 3 2 [0,14]<|
 Qi 26 [17,13] 1<|
 Qt [18]<|
 .join (
 Qa [8,I 1]<|
 .go 0 [20,21]) (
 .ite 19 (
 Qi 27 [11,12,13] 3<|
 Q (.lit 4 [true,true,true,false]) [.k (.bool false),20,21,22]<|
 Q (.app false 4) [7,23]<|
 .go 0 [24]) (
 .go 0 [7])))) (
 .ret [7]))))
def F2:ay:=Fs kW [(25,uC),(26,xi),(27,uD)]
def mu:PL:=
 Qn [0]<|
 .loop [.e,I 0] (
 Ql [4,2]<|
 .ite 5 (
 Q3 [0,4]<|
 Qi 27 [7,8,9] 3<|
 Q (.lit 3 [true,true,false]) [10,11,12]<|
 Qo [3,13]<|
 Qa [4,I 1]<|
 .go 0 [14,15]) (
 Qn [1]<|
 .loop [3,I 0] (
 Ql [8,6]<|
 .ite 9 (
 Q4 [1,8]<|
 Qi 25 [7,12,13,14] 1<|
 .join (
 Qa [8,I 1]<|
 .go 0 [16,17]) (
 .ite 11 (
 Qn [7]<|
 .loop [.e,I 0] (
 Ql [18,16]<|
 .ite 19 (
 Q3 [7,18]<|
 Q (.bb .neq) [21,12]<|
 .ite 24 (
 .join (
 Qa [18,I 1]<|
 .go 0 [25,26]) (
 Q (.lit 3 []) [21,22,23]<|
 Qo [17,25]<|
 .go 0 [26])) (
 Qu [22,13]<|
 .join (
 Qa [18,I 1]<|
 .go 0 [26,27]) (
 .ite 25 (
 Q (.lit 3 []) [21,22,23]<|
 Qo [17,26]<|
 .go 0 [27]) (
 .go 0 [17])))) (
 .go 1 [17]))) (
 Qh [15,I 0]<|
 .join (
 .go 0 [17]) (
 .ite 16 (
 Qi 27 [12,13,14] 3<|
 Qb [7,15]<|
 Q (.put false 3 0 3) [7,15,17,18,19]<|
 .go 0 [21]) (
 Qi 27 [12,13,14] 3<|
 Q (.lit 3 [true,true,false]) [17,18,19]<|
 Qo [7,20]<|
 .go 0 [21]))))) (
 .ret [7]))))
def F3:ay:=Fs mu [(25,uC),(27,uD)]
def kX:PL:=
 Qn [0]<|
 .loop [.k (.bool false),I 0] (
 Ql [4,2]<|
 .ite 5 (
 Q3 [0,4]<|
 Qn [0]<|
 .loop [I 0,I 0] (
 Ql [12,10]<|
 .ite 13 (
 Q3 [0,12]<|
 Q (.bb .eql) [7,15]<|
 .ite 18 (
 Qe [8,16]<|
 .ite 19 (
 Qi 26 [9,17] 1<|
 .join (
 Qa [12,I 1]<|
 .go 0 [21,22]) (
 .ite 20 (
 Qa [11,I 1]<|
 .go 0 [21]) (
 .go 0 [11]))) (
 .join (
 Qa [12,I 1]<|
 .go 0 [20,21]) (
 .go 0 [11]))) (
 .join (
 Qa [12,I 1]<|
 .go 0 [19,20]) (
 .go 0 [11]))) (
 Qn [1]<|
 .loop [11,I 0] (
 Ql [16,14]<|
 .ite 17 (
 Q3 [1,16]<|
 Q (.bb .eql) [7,19]<|
 .ite 22 (
 Qe [8,20]<|
 .ite 23 (
 Qi 26 [9,21] 1<|
 .join (
 Qa [16,I 1]<|
 .go 0 [25,26]) (
 .ite 24 (
 Qs [15,I 1]<|
 .go 0 [25]) (
 .go 0 [15]))) (
 .join (
 Qa [16,I 1]<|
 .go 0 [24,25]) (
 .go 0 [15]))) (
 .join (
 Qa [16,I 1]<|
 .go 0 [23,24]) (
 .go 0 [15]))) (
 Qu [15,I 0]<|
 .ite 18 (
 Qz [.k (.bool false)]<|
 .ret [19]) (
 Qa [4,I 1]<|
 .go 2 [3,19])))))) (
 Qz [.k (.bool true)]<|
 .ret [6]))
def F4:ay:=Fs kX [(26,xi)]
def gR:PL:=
 Qn [0]<|
 Qn [1]<|
 Qe [2,3]<|
 .ite 4 (
 Qi 28 [0,1] 1<|
 Qz [5]<|
 .ret [6]) (
 Qz [.k (.bool false)]<|
 .ret [5])
def F5:ay:=Fs gR [(28,F4)]
def fN:PL:=
 Qn [0]<|
 Qn [1]<|
 Qu [2,3]<|
 .ite 4 (
 Qz [.k (.bool false)]<|
 .ret [5]) (
 .loop [.k (.bool false),I 0] (
 Qn [0]<|
 Ql [6,7]<|
 .ite 8 (
 Q1 [0,6]<|
 Q1 [1,6]<|
 Qu [10,12]<|
 .ite 13 (
 Qz [.k (.bool false)]<|
 .ret [14]) (
 Qa [6,I 1]<|
 .go 0 [5,14])) (
 Qz [.k (.bool true)]<|
 .ret [9])))
def zu:ay:=Fs fN []
def gS:PL:=
 Qn [0]<|
 Qn [1]<|
 Qu [2,3]<|
 .ite 4 (
 Qz [.k (.bool false)]<|
 .ret [5]) (
 .loop [.k (.bool false),I 0] (
 Qn [0]<|
 Ql [6,7]<|
 .ite 8 (
 Q3 [0,6]<|
 Qi 29 [1,10,11,12] 1<|
 Q3 [1,6]<|
 Qi 29 [0,15,16,17] 1<|
 Ql [13,I 0]<|
 .ite 19 (
 Qz [.k (.bool false)]<|
 .ret [20]) (
 Ql [18,I 0]<|
 .ite 20 (
 Qz [.k (.bool false)]<|
 .ret [21]) (
 Qb [0,6]<|
 Qc 3 2 [0,6]<|
 Qb [1,13]<|
 Qc 3 2 [1,13]<|
 Qi 30 [22,24] 1<|
 Qt [25]<|
 .ite 26 (
 Qz [.k (.bool false)]<|
 .ret [27]) (
 Qb [0,18]<|
 Qc 3 2 [0,18]<|
 Qb [1,6]<|
 Qc 3 2 [1,6]<|
 Qi 30 [28,30] 1<|
 Qt [31]<|
 .ite 32 (
 Qz [.k (.bool false)]<|
 .ret [33]) (
 Qa [6,I 1]<|
 .go 0 [5,33]))))) (
 Qz [.k (.bool true)]<|
 .ret [9])))
def F6:ay:=Fs gS [(29,rH),(30,zu)]
def fO:PL:=
 Qn [0]<|
 Qa [I 13901,1]<|
 .loop [2,I 0] (
 Qn [0]<|
 Ql [4,5]<|
 .ite 6 (
 Ql [4,I 4000]<|
 .ite 7 (
 Q (.bin .mul) [3,I 131]<|
 Q1 [0,4]<|
 Q (.wR .i64) [10]<|
 Qa [8,11]<|
 Qa [12,I 7]<|
 Q (.bin .and) [13,I 1073741823]<|
 Qa [4,I 1]<|
 .go 0 [14,15]) (
 Qi 31 [0,I 0,3] 4<|
 .ret [8])) (
 Qi 31 [0,I 0,3] 4<|
 .ret [7]))
def F7:ay:=Fs fO [(31,zr)]
def jN:PL:=
 Qn [0]<|
 .loop [.e,I 0] (
 Ql [3,1]<|
 .ite 4 (
 Q6 [0,3]<|
 Qi 25 [2,6,7,11] 1<|
 Ql [12,I 0]<|
 .join (
 Qa [3,I 1]<|
 .go 0 [14,15]) (
 .ite 13 (
 Qi 27 [6,7,11] 3<|
 Q (.lit 3 [true,true,false]) [14,15,16]<|
 Qo [2,17]<|
 .go 0 [18]) (
 .go 0 [2]))) (
 .ret [2]))
def F8:ay:=Fs jN [(25,uC),(27,uD)]
def kY:PL:=
 Q (.lit 4 []) []<|
 .loop [2,I 0] (
 Qn [0]<|
 Ql [4,5]<|
 .ite 6 (
 Q3 [0,4]<|
 Qi 29 [1,8,9,10] 1<|
 Ql [11,I 0]<|
 .join (
 Qa [4,I 1]<|
 .go 0 [13,14]) (
 .ite 12 (
 Qb [0,4]<|
 Qc 3 0 [0,4]<|
 Qb [0,4]<|
 Qc 3 1 [0,4]<|
 Q (.lit 4 [true,true,true,false]) [.k (.bool true),14,16,.e]<|
 Q (.app false 4) [3,17]<|
 .go 0 [18]) (
 .go 0 [3]))) (
 .loop [3,I 0] (
 Qn [1]<|
 Ql [8,9]<|
 .ite 10 (
 Q3 [1,8]<|
 Qi 29 [0,12,13,14] 1<|
 Ql [15,I 0]<|
 .ite 16 (
 .join (
 Qa [8,I 1]<|
 .go 0 [17,18]) (
 Q3 [1,8]<|
 Qi 33 [18,19,20] 3<|
 Q (.lit 4 [true,true,true,false]) [.k (.bool false),21,22,23]<|
 Q (.app false 4) [7,24]<|
 .go 0 [25])) (
 Qb [0,15]<|
 Qc 3 2 [0,15]<|
 Qb [1,8]<|
 Qc 3 2 [1,8]<|
 Qi 30 [18,20] 1<|
 Qt [21]<|
 .join (
 Qa [8,I 1]<|
 .go 0 [23,24]) (
 .ite 22 (
 Q3 [1,8]<|
 Qi 33 [24,25,26] 3<|
 Q (.lit 4 [true,true,true,false]) [.k (.bool false),27,28,29]<|
 Q (.app false 4) [7,30]<|
 .go 0 [31]) (
 .go 0 [7])))) (
 .ret [7]))))
def F9:ay:=Fs kY [(29,rH),(30,zu),(33,uB)]
def kZ:PL:=
 .ins (.cl 5 [.a 0] 1)<|
 .ite 1 (
  .ins (.pr (.pQ) [.k (.bool true)])<|
  .ret [.a 2]) (
  .ins (.cl 6 [.a 0] 2)<|
  .ins (.cl 7 [.a 2,.a 3] 1)<|
  .ins (.cl 8 [.a 2,.a 4] 1)<|
  .ins (.cl 9 [.a 5,.a 3] 1)<|
  .ins (.pr (.un .not) [.a 6])<|
  .ite 7 (
  .ins (.pr (.pQ) [.k (.bool false)])<|
  .ret [.a 8]) (
  .ins (.cl 10 [.a 5,.a 3] 1)<|
  .ins (.pr (.un .not) [.a 8])<|
  .ite 9 (
   .ins (.pr (.pQ) [.k (.bool false)])<|
   .ret [.a 10]) (
   .ins (.cl 7 [.a 2,.a 2] 1)<|
   .ins (.pr (.len) [.a 10])<|
   .ins (.pr (.bin .neq) [.a 11,.k (.int .i64 0)])<|
   .ite 12 (
   .ins (.pr (.pQ) [.k (.bool false)])<|
   .ret [.a 13]) (
   .ins (.cl 9 [.a 2,.a 2] 1)<|
   .ins (.pr (.un .not) [.a 13])<|
   .ite 14 (
    .ins (.pr (.pQ) [.k (.bool false)])<|
    .ret [.a 15]) (
    .ins (.cl 12 [.a 0] 1)<|
    .ins (.cl 11 [.a 15] 1)<|
    .ins (.cl 12 [.a 0] 1)<|
    .ins (.cl 13 [.a 17] 1)<|
    .ins (.pr (.len) [.a 4])<|
    .ins (.cl 14 [.a 2,.a 3] 1)<|
    .ins (.pr (.len) [.a 20])<|
    .ins (.pr (.bin .eql) [.a 19,.a 21])<|
    .ite 22 (
    .ins (.cl 10 [.a 16,.a 18] 1)<|
    .ite 23 (
     .ins (.pr (.len) [.a 16])<|
     .ins (.pr (.len) [.a 18])<|
     .ins (.pr (.bin .eql) [.a 24,.a 25])<|
     .ins (.pr (.pQ) [.a 26])<|
     .ret [.a 27]) (
     .ins (.pr (.pQ) [.k (.bool false)])<|
     .ret [.a 24])) (
    .ins (.pr (.pQ) [.k (.bool false)])<|
    .ret [.a 23]))))))
def W7:Nat->ay:=pick [(5,tT),(6,F0),(7,F2),(8,F3),(9,F5),(10,F6),(11,F8),(12,F7),(13,zt),(14,F9)]
def Ob:ay:=λts=>kZ.den W7 rounds [] ts
end Go.Proofs.YtbhplkilhknciaaC
