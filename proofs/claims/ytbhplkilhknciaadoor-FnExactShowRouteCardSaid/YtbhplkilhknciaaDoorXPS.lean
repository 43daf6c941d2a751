/- The plain programs of the functions that are walked (printed by a program). Conditions: none. -/
import Derived.Test.YtbhplkilhknciaaDoorKe
import Derived.Test.YtbhplkilhknciaaDoorXItoa
namespace Go.Proofs.YtbhplkilhknciaaDoorC
def p_szIntS:PL :=
 .ins (.pr (.len) [.a 0]) <|
 .ins (.pr (.bin .sub) [.a 1,.a 2]) <|
 .ins (.pr (.bin .lss) [.a 3,.k (.int .i64 0)]) <|
 .ite 4 (
  .ins (.pr (.scl) [.k (.int .i64 (-1))]) <|
  .ret [.a 5]) (
  .ins (.pr (.scl) [.a 3]) <|
  .ret [.a 5])
def S_szIntS:Nat→Sem1:=pick []
def F_szIntS:Sem1:=fun ts=>p_szIntS.den S_szIntS rounds [] ts
def p_szRoute:PL :=
 .ins (.cl 19 [.a 5,.a 6] 1) <|
 .ins (.pr (.bin .lss) [.a 7,.k (.int .i64 0)]) <|
 .ite 8 (
  .ins (.pr (.scl) [.k (.int .i64 (-1))]) <|
  .ret [.a 9]) (
  .ins (.pr (.scl) [.a 7]) <|
  .ret [.a 9])
def S_szRoute:Nat→Sem1:=pick [(19,F_szIntS)]
def F_szRoute:Sem1:=fun ts=>p_szRoute.den S_szRoute rounds [] ts
def p_toIntS:PL :=
 .ins (.pr (.len) [.a 0]) <|
 .ins (.pr (.mk) [.a 1,.a 1,.k (.int .i64 0)]) <|
 .loop [.k (.int .i64 0),.a 2] (
  .ins (.pr (.len) [.a 0]) <|
  .ins (.pr (.bin .lss) [.a 3,.a 5]) <|
  .ite 6 (
  .ins (.pr (.bnd) [.a 0,.a 3]) <|
  .ins (.pr (.cell 1 0) [.a 0,.a 3]) <|
  .ins (.pr (.bnd) [.a 4,.a 3]) <|
  .ins (.pr (.put true 1 0 1) [.a 4,.a 3,.a 8]) <|
  .ins (.pr (.bin .add) [.a 3,.k (.int .i64 1)]) <|
  .go 0 [.a 11,.a 10]) (
  .ret [.a 4]))
def S_toIntS:Nat→Sem1:=pick []
def F_toIntS:Sem1:=fun ts=>p_toIntS.den S_toIntS rounds [] ts
def p_toRoute:PL :=
 .ins (.cl 20 [.a 5] 1) <|
 .ins (.pr (.scl) [.a 4]) <|
 .ins (.pr (.scl) [.a 3]) <|
 .ins (.pr (.scl) [.a 2]) <|
 .ins (.pr (.scl) [.a 1]) <|
 .ins (.pr (.scl) [.a 0]) <|
 .ret [.a 11,.a 10,.a 9,.a 8,.a 7,.a 6]
def S_toRoute:Nat→Sem1:=pick [(20,F_toIntS)]
def F_toRoute:Sem1:=fun ts=>p_toRoute.den S_toRoute rounds [] ts
def p_s_l01Figure:PL :=
 Ql [0,I 10] <|
 .ite 1 (
 Qa [I 48,0] <|
 Q (.cnv .u8) [2] <|
 Qz [3] <|
 .ret [4]) (
 Qa [I 97,0] <|
 Qs [2,I 10] <|
 Q (.cnv .u8) [3] <|
 Qz [4] <|
 .ret [5])
def F_s_l01Figure:Sem1:=Fs p_s_l01Figure []
def p_s_Decimal:PL :=
 Qe [0,I 0] <|
 .ite 1 (
 Qz [.k (.string (ByteArray.mk #[48]))] <|
 .ret [2]) (
 Ql [0,I 0] <|
 .loop [0,.k (.string (ByteArray.mk #[]))] (
 Qu [3,I 0] <|
 .ite 5 (
 Q (.bin .rem) [3,I 10] <|
 Ql [6,I 0] <|
 .join (
 Qi 18 [8] 1 <|
 Qx [9] <|
 Q (.str) [10] <|
 Qa [11,4] <|
 Q (.bin .quo) [3,I 10] <|
 .go 0 [13,12]) (
 .ite 7 (
 Q (.un .neg) [6] <|
 .go 0 [8]) (
 .go 0 [6]))) (
 .ite 2 (
 Qa [.k (.string (ByteArray.mk #[45])),4] <|
 Qz [6] <|
 .ret [7]) (
 Qz [4] <|
 .ret [6]))))
def F_s_Decimal:Sem1:=Fs p_s_Decimal [(18,F_s_l01Figure)]
def p_s_ShowRoute:PL :=
 .join (
 Qi 8 [1] 1 <|
 Qa [6,7] <|
 Qa [8,.k (.string (ByteArray.mk #[32,99,111,115,116,32]))] <|
 Qi 8 [3] 1 <|
 Qa [9,10] <|
 Qe [2,I 4] <|
 .join (
 Qa [13,.k (.string (ByteArray.mk #[32,98,121]))] <|
 .loop [14,I 0] (
 Qn [5] <|
 Ql [16,17] <|
 .ite 18 (
 Qa [15,.k (.string (ByteArray.mk #[32]))] <|
 Q1 [5,16] <|
 Qi 8 [21] 1 <|
 Qa [19,22] <|
 Qa [16,I 1] <|
 .go 0 [23,24]) (
 Qz [15] <|
 .ret [19]))) (
 .ite 12 (
 Qa [11,.k (.string (ByteArray.mk #[32,102,97,114,32]))] <|
 Qi 8 [4] 1 <|
 Qa [13,14] <|
 .go 0 [15]) (
 .go 0 [11]))) (
 .ite 0 (
 .go 0 [.k (.string (ByteArray.mk #[116,104,105,110,103,32]))]) (
 .go 0 [.k (.string (ByteArray.mk #[110,111,100,101,32]))]))
def F_s_ShowRoute:Sem1:=Fs p_s_ShowRoute [(8,F_s_Decimal)]
def p_i_Decimal:PL :=
 Qi 26 [0] 1 <|
 Qz [1] <|
 .ret [2]
def F_i_Decimal:Sem1:=Fs p_i_Decimal [(26,F_strconv_Itoa)]
def p_i_ShowRoute:PL :=
 .join (
 Qi 17 [1] 1 <|
 Qa [7,.k (.string (ByteArray.mk #[32,99,111,115,116,32]))] <|
 Qi 17 [3] 1 <|
 Qa [8,9] <|
 Qa [6,10] <|
 Qe [2,I 4] <|
 .join (
 Qa [13,.k (.string (ByteArray.mk #[32,98,121]))] <|
 Qn [5] <|
 .loop [14,I 0] (
 Ql [17,15] <|
 .ite 18 (
 Q1 [5,17] <|
 Qi 17 [20] 1 <|
 Qa [.k (.string (ByteArray.mk #[32])),21] <|
 Qa [16,22] <|
 Qa [17,I 1] <|
 .go 0 [23,24]) (
 Qz [16] <|
 .ret [19]))) (
 .ite 12 (
 Qi 17 [4] 1 <|
 Qa [.k (.string (ByteArray.mk #[32,102,97,114,32])),13] <|
 Qa [11,14] <|
 .go 0 [15]) (
 .go 0 [11]))) (
 .ite 0 (
 .go 0 [.k (.string (ByteArray.mk #[116,104,105,110,103,32]))]) (
 .go 0 [.k (.string (ByteArray.mk #[110,111,100,101,32]))]))
def F_i_ShowRoute:Sem1:=Fs p_i_ShowRoute [(17,F_i_Decimal)]
def p_eqIntS:PL :=
 .ins (.pr (.len) [.a 0]) <|
 .ins (.pr (.len) [.a 1]) <|
 .ins (.pr (.bin .neq) [.a 2,.a 3]) <|
 .ite 4 (
  .ins (.pr (.scl) [.k (.bool false)]) <|
  .ret [.a 5]) (
  .loop [.k (.bool false),.k (.int .i64 0)] (
  .ins (.pr (.len) [.a 0]) <|
  .ins (.pr (.bin .lss) [.a 6,.a 7]) <|
  .ite 8 (
   .ins (.pr (.bnd) [.a 0,.a 6]) <|
   .ins (.pr (.cell 1 0) [.a 0,.a 6]) <|
   .ins (.pr (.bnd) [.a 1,.a 6]) <|
   .ins (.pr (.cell 1 0) [.a 1,.a 6]) <|
   .ins (.pr (.bin .neq) [.a 10,.a 12]) <|
   .ite 13 (
   .ins (.pr (.scl) [.k (.bool false)]) <|
   .ret [.a 14]) (
   .ins (.pr (.bin .add) [.a 6,.k (.int .i64 1)]) <|
   .go 0 [.a 5,.a 14])) (
   .ins (.pr (.scl) [.k (.bool true)]) <|
   .ret [.a 9])))
def S_eqIntS:Nat→Sem1:=pick []
def F_eqIntS:Sem1:=fun ts=>p_eqIntS.den S_eqIntS rounds [] ts
def p_eqRoute:PL :=
 .ins (.pr (.bb .neq) [.a 0,.a 6]) <|
 .ite 12 (
  .ins (.pr (.scl) [.k (.bool false)]) <|
  .ret [.a 13]) (
  .ins (.pr (.bin .neq) [.a 1,.a 7]) <|
  .ite 13 (
  .ins (.pr (.scl) [.k (.bool false)]) <|
  .ret [.a 14]) (
  .ins (.pr (.bin .neq) [.a 2,.a 8]) <|
  .ite 14 (
   .ins (.pr (.scl) [.k (.bool false)]) <|
   .ret [.a 15]) (
   .ins (.pr (.bin .neq) [.a 3,.a 9]) <|
   .ite 15 (
   .ins (.pr (.scl) [.k (.bool false)]) <|
   .ret [.a 16]) (
   .ins (.pr (.bin .neq) [.a 4,.a 10]) <|
   .ite 16 (
    .ins (.pr (.scl) [.k (.bool false)]) <|
    .ret [.a 17]) (
    .ins (.cl 21 [.a 5,.a 11] 1) <|
    .ins (.pr (.un .not) [.a 17]) <|
    .ite 18 (
    .ins (.pr (.scl) [.k (.bool false)]) <|
    .ret [.a 19]) (
    .ins (.pr (.scl) [.k (.bool true)]) <|
    .ret [.a 19]))))))
def S_eqRoute:Nat→Sem1:=pick [(21,F_eqIntS)]
def F_eqRoute:Sem1:=fun ts=>p_eqRoute.den S_eqRoute rounds [] ts
def p_FnExactShowRoute:PL :=
 .ins (.cl 10 [.a 0,.a 1,.a 2,.a 3,.a 4,.a 5,.k (.int .i64 1048576)] 1) <|
 .ins (.pr (.bin .lss) [.a 6,.k (.int .i64 0)]) <|
 .ite 7 (
  .ins (.pr (.scl) [.k (.bool true)]) <|
  .ret [.a 8]) (
  .ins (.cl 12 [.a 0,.a 1,.a 2,.a 3,.a 4,.a 5] 6) <|
  .ins (.cl 11 [.a 8,.a 9,.a 10,.a 11,.a 12,.a 13] 1) <|
  .ins (.cl 12 [.a 0,.a 1,.a 2,.a 3,.a 4,.a 5] 6) <|
  .ins (.cl 7 [.a 15,.a 16,.a 17,.a 18,.a 19,.a 20] 1) <|
  .ins (.pr (.bin .neq) [.a 21,.a 14]) <|
  .ite 22 (
  .ins (.pr (.scl) [.k (.bool false)]) <|
  .ret [.a 23]) (
  .ins (.cl 12 [.a 0,.a 1,.a 2,.a 3,.a 4,.a 5] 6) <|
  .ins (.cl 13 [.a 15,.a 16,.a 17,.a 18,.a 19,.a 20,.a 23,.a 24,.a 25,.a 26,.a 27,.a 28] 1) <|
  .ins (.pr (.un .not) [.a 29]) <|
  .ite 30 (
   .ins (.pr (.scl) [.k (.bool false)]) <|
   .ret [.a 31]) (
   .ins (.pr (.scl) [.k (.bool true)]) <|
   .ret [.a 31])))
def S_FnExactShowRoute:Nat→Sem1:=pick [(7,F_i_ShowRoute),(10,F_szRoute),(11,F_s_ShowRoute),(12,F_toRoute),(13,F_eqRoute)]
def F_FnExactShowRoute:Sem1:=fun ts=>p_FnExactShowRoute.den S_FnExactShowRoute rounds [] ts
end Go.Proofs.YtbhplkilhknciaaDoorC
