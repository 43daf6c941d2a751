/- The plain programs of the functions that are walked (printed by a program). Conditions: none. -/
import Derived.Test.YtmljdpfdpeiniaaKd
namespace Go.Proofs.YtmljdpfdpeiniaaC
def p_szLinkS : PL :=
  .ins (.pr (.len) [.a 0]) <|
  .ins (.pr (.bin .sub) [.a 1, .a 2]) <|
  .ins (.pr (.bin .lss) [.a 3, .k (.int .i64 0)]) <|
  .ite 4 (
   .ins (.pr (.scl) [.k (.int .i64 (-1))]) <|
   .ret [.a 5]) (
   .ins (.pr (.scl) [.a 3]) <|
   .ret [.a 5])
def S_szLinkS : Nat → Sem1 := pick []
def F_szLinkS : Sem1 := fun ts => p_szLinkS.den S_szLinkS rounds [] ts
def p_szThingS : PL :=
  .ins (.pr (.len) [.a 0]) <|
  .ins (.pr (.bin .sub) [.a 1, .a 2]) <|
  .ins (.pr (.bin .lss) [.a 3, .k (.int .i64 0)]) <|
  .ite 4 (
   .ins (.pr (.scl) [.k (.int .i64 (-1))]) <|
   .ret [.a 5]) (
   .ins (.pr (.scl) [.a 3]) <|
   .ret [.a 5])
def S_szThingS : Nat → Sem1 := pick []
def F_szThingS : Sem1 := fun ts => p_szThingS.den S_szThingS rounds [] ts
def p_szNet : PL :=
  .ins (.cl 46 [.a 1, .a 3] 1) <|
  .ins (.pr (.bin .lss) [.a 4, .k (.int .i64 0)]) <|
  .ite 5 (
   .ins (.pr (.scl) [.k (.int .i64 (-1))]) <|
   .ret [.a 6]) (
   .ins (.cl 47 [.a 2, .a 4] 1) <|
   .ins (.pr (.bin .lss) [.a 6, .k (.int .i64 0)]) <|
   .ite 7 (
    .ins (.pr (.scl) [.k (.int .i64 (-1))]) <|
    .ret [.a 8]) (
    .ins (.pr (.scl) [.a 6]) <|
    .ret [.a 8]))
def S_szNet : Nat → Sem1 := pick [(46, F_szLinkS), (47, F_szThingS)]
def F_szNet : Sem1 := fun ts => p_szNet.den S_szNet rounds [] ts
def p_szEvent : PL :=
  .ins (.pr (.lens) [.a 3]) <|
  .ins (.pr (.bin .sub) [.a 4, .a 5]) <|
  .ins (.pr (.bin .lss) [.a 6, .k (.int .i64 0)]) <|
  .ite 7 (
   .ins (.pr (.scl) [.k (.int .i64 (-1))]) <|
   .ret [.a 8]) (
   .ins (.pr (.scl) [.a 6]) <|
   .ret [.a 8])
def S_szEvent : Nat → Sem1 := pick []
def F_szEvent : Sem1 := fun ts => p_szEvent.den S_szEvent rounds [] ts
def p_toLink : PL :=
  .ins (.pr (.scl) [.a 3]) <|
  .ins (.pr (.scl) [.a 2]) <|
  .ins (.pr (.scl) [.a 1]) <|
  .ins (.pr (.scl) [.a 0]) <|
  .ret [.a 7, .a 6, .a 5, .a 4]
def S_toLink : Nat → Sem1 := pick []
def F_toLink : Sem1 := fun ts => p_toLink.den S_toLink rounds [] ts
def p_toLinkS : PL :=
  .ins (.pr (.len) [.a 0]) <|
  .ins (.pr (.mk) [.a 1, .a 1, .k (.int .i64 0), .k (.int .i64 0), .k (.int .i64 0), .k (.int .i64 0)]) <|
  .loop [.k (.int .i64 0), .a 2] (
   .ins (.pr (.len) [.a 0]) <|
   .ins (.pr (.bin .lss) [.a 3, .a 5]) <|
   .ite 6 (
    .ins (.pr (.bnd) [.a 0, .a 3]) <|
    .ins (.pr (.cell 4 0) [.a 0, .a 3]) <|
    .ins (.pr (.cell 4 1) [.a 0, .a 3]) <|
    .ins (.pr (.cell 4 2) [.a 0, .a 3]) <|
    .ins (.pr (.cell 4 3) [.a 0, .a 3]) <|
    .ins (.cl 72 [.a 8, .a 9, .a 10, .a 11] 4) <|
    .ins (.pr (.bnd) [.a 4, .a 3]) <|
    .ins (.pr (.put true 4 0 4) [.a 4, .a 3, .a 12, .a 13, .a 14, .a 15]) <|
    .ins (.pr (.bin .add) [.a 3, .k (.int .i64 1)]) <|
    .go 0 [.a 18, .a 17]) (
    .ret [.a 4]))
def S_toLinkS : Nat → Sem1 := pick [(72, F_toLink)]
def F_toLinkS : Sem1 := fun ts => p_toLinkS.den S_toLinkS rounds [] ts
def p_toThing : PL :=
  .ins (.pr (.scl) [.a 3]) <|
  .ins (.pr (.scl) [.a 2]) <|
  .ins (.pr (.scl) [.a 1]) <|
  .ins (.pr (.scl) [.a 0]) <|
  .ret [.a 7, .a 6, .a 5, .a 4]
def S_toThing : Nat → Sem1 := pick []
def F_toThing : Sem1 := fun ts => p_toThing.den S_toThing rounds [] ts
def p_toThingS : PL :=
  .ins (.pr (.len) [.a 0]) <|
  .ins (.pr (.mk) [.a 1, .a 1, .k (.int .i64 0), .k (.int .i64 0), .k (.int .i64 0), .k (.bool false)]) <|
  .loop [.k (.int .i64 0), .a 2] (
   .ins (.pr (.len) [.a 0]) <|
   .ins (.pr (.bin .lss) [.a 3, .a 5]) <|
   .ite 6 (
    .ins (.pr (.bnd) [.a 0, .a 3]) <|
    .ins (.pr (.cell 4 0) [.a 0, .a 3]) <|
    .ins (.pr (.cell 4 1) [.a 0, .a 3]) <|
    .ins (.pr (.cell 4 2) [.a 0, .a 3]) <|
    .ins (.pr (.cell 4 3) [.a 0, .a 3]) <|
    .ins (.cl 73 [.a 8, .a 9, .a 10, .a 11] 4) <|
    .ins (.pr (.bnd) [.a 4, .a 3]) <|
    .ins (.pr (.put true 4 0 4) [.a 4, .a 3, .a 12, .a 13, .a 14, .a 15]) <|
    .ins (.pr (.bin .add) [.a 3, .k (.int .i64 1)]) <|
    .go 0 [.a 18, .a 17]) (
    .ret [.a 4]))
def S_toThingS : Nat → Sem1 := pick [(73, F_toThing)]
def F_toThingS : Sem1 := fun ts => p_toThingS.den S_toThingS rounds [] ts
def p_toNet : PL :=
  .ins (.cl 49 [.a 1] 1) <|
  .ins (.cl 50 [.a 2] 1) <|
  .ins (.pr (.scl) [.a 0]) <|
  .ret [.a 5, .a 3, .a 4]
def S_toNet : Nat → Sem1 := pick [(49, F_toLinkS), (50, F_toThingS)]
def F_toNet : Sem1 := fun ts => p_toNet.den S_toNet rounds [] ts
def p_toEvent : PL :=
  .ins (.pr (.scl) [.a 3]) <|
  .ins (.pr (.scl) [.a 2]) <|
  .ins (.pr (.scl) [.a 1]) <|
  .ins (.pr (.scl) [.a 0]) <|
  .ret [.a 7, .a 6, .a 5, .a 4]
def S_toEvent : Nat → Sem1 := pick []
def F_toEvent : Sem1 := fun ts => p_toEvent.den S_toEvent rounds [] ts
def p_s_l01In : PL :=
  .ins (.pr (.bin .geq) [.a 0, .a 1]) <|
  .ite 3 (
   .ins (.pr (.bin .leq) [.a 0, .a 2]) <|
   .ins (.pr (.scl) [.a 4]) <|
   .ret [.a 5]) (
   .ins (.pr (.scl) [.k (.bool false)]) <|
   .ret [.a 4])
def S_s_l01In : Nat → Sem1 := pick []
def F_s_l01In : Sem1 := fun ts => p_s_l01In.den S_s_l01In rounds [] ts
def p_s_EventOk : PL :=
  .ins (.cl 48 [.a 3, .k (.int .i64 1), .k (.int .i64 9)] 1) <|
  .ite 7 (
   .ins (.pr (.bin .geq) [.a 5, .k (.int .i64 0)]) <|
   .ite 8 (
    .ins (.cl 48 [.a 4, .k (.int .i64 1), .a 0] 1) <|
    .ite 9 (
     .ins (.pr (.lens) [.a 6]) <|
     .ins (.pr (.bin .leq) [.a 10, .k (.int .i64 200)]) <|
     .ite 11 (
      .ins (.pr (.bin .eql) [.a 3, .k (.int .i64 9)]) <|
      .ite 12 (
       .ins (.pr (.scl) [.k (.bool true)]) <|
       .ret [.a 13]) (
       .ins (.pr (.bin .eql) [.a 6, .k (.string (ByteArray.mk #[]))]) <|
       .ins (.pr (.scl) [.a 13]) <|
       .ret [.a 14])) (
      .ins (.pr (.scl) [.k (.bool false)]) <|
      .ret [.a 12])) (
     .ins (.pr (.scl) [.k (.bool false)]) <|
     .ret [.a 10])) (
    .ins (.pr (.scl) [.k (.bool false)]) <|
    .ret [.a 9])) (
   .ins (.pr (.scl) [.k (.bool false)]) <|
   .ret [.a 8])
def S_s_EventOk : Nat → Sem1 := pick [(48, F_s_l01In)]
def F_s_EventOk : Sem1 := fun ts => p_s_EventOk.den S_s_EventOk rounds [] ts
def p_i_in : PL :=
  .ins (.pr (.bin .geq) [.a 0, .a 1]) <|
  .ite 3 (
   .ins (.pr (.bin .leq) [.a 0, .a 2]) <|
   .ins (.pr (.scl) [.a 4]) <|
   .ret [.a 5]) (
   .ins (.pr (.scl) [.k (.bool false)]) <|
   .ret [.a 4])
def S_i_in : Nat → Sem1 := pick []
def F_i_in : Sem1 := fun ts => p_i_in.den S_i_in rounds [] ts
def p_i_EventOk : PL :=
  .ins (.cl 51 [.a 3, .k (.int .i64 1), .k (.int .i64 9)] 1) <|
  .ite 7 (
   .ins (.pr (.bin .geq) [.a 5, .k (.int .i64 0)]) <|
   .ite 8 (
    .ins (.cl 51 [.a 4, .k (.int .i64 1), .a 0] 1) <|
    .ite 9 (
     .ins (.pr (.lens) [.a 6]) <|
     .ins (.pr (.bin .leq) [.a 10, .k (.int .i64 200)]) <|
     .ite 11 (
      .ins (.pr (.bin .eql) [.a 6, .k (.string (ByteArray.mk #[]))]) <|
      .ite 12 (
       .ins (.pr (.scl) [.k (.bool true)]) <|
       .ret [.a 13]) (
       .ins (.pr (.bin .eql) [.a 3, .k (.int .i64 9)]) <|
       .ins (.pr (.scl) [.a 13]) <|
       .ret [.a 14])) (
      .ins (.pr (.scl) [.k (.bool false)]) <|
      .ret [.a 12])) (
     .ins (.pr (.scl) [.k (.bool false)]) <|
     .ret [.a 10])) (
    .ins (.pr (.scl) [.k (.bool false)]) <|
    .ret [.a 9])) (
   .ins (.pr (.scl) [.k (.bool false)]) <|
   .ret [.a 8])
def S_i_EventOk : Nat → Sem1 := pick [(51, F_i_in)]
def F_i_EventOk : Sem1 := fun ts => p_i_EventOk.den S_i_EventOk rounds [] ts
def p_eqLink : PL :=
  .ins (.pr (.bin .neq) [.a 0, .a 4]) <|
  .ite 8 (
   .ins (.pr (.scl) [.k (.bool false)]) <|
   .ret [.a 9]) (
   .ins (.pr (.bin .neq) [.a 1, .a 5]) <|
   .ite 9 (
    .ins (.pr (.scl) [.k (.bool false)]) <|
    .ret [.a 10]) (
    .ins (.pr (.bin .neq) [.a 2, .a 6]) <|
    .ite 10 (
     .ins (.pr (.scl) [.k (.bool false)]) <|
     .ret [.a 11]) (
     .ins (.pr (.bin .neq) [.a 3, .a 7]) <|
     .ite 11 (
      .ins (.pr (.scl) [.k (.bool false)]) <|
      .ret [.a 12]) (
      .ins (.pr (.scl) [.k (.bool true)]) <|
      .ret [.a 12]))))
def S_eqLink : Nat → Sem1 := pick []
def F_eqLink : Sem1 := fun ts => p_eqLink.den S_eqLink rounds [] ts
def p_eqLinkS : PL :=
  .ins (.pr (.len) [.a 0]) <|
  .ins (.pr (.len) [.a 1]) <|
  .ins (.pr (.bin .neq) [.a 2, .a 3]) <|
  .ite 4 (
   .ins (.pr (.scl) [.k (.bool false)]) <|
   .ret [.a 5]) (
   .loop [.k (.bool false), .k (.int .i64 0)] (
    .ins (.pr (.len) [.a 0]) <|
    .ins (.pr (.bin .lss) [.a 6, .a 7]) <|
    .ite 8 (
     .ins (.pr (.bnd) [.a 0, .a 6]) <|
     .ins (.pr (.cell 4 0) [.a 0, .a 6]) <|
     .ins (.pr (.cell 4 1) [.a 0, .a 6]) <|
     .ins (.pr (.cell 4 2) [.a 0, .a 6]) <|
     .ins (.pr (.cell 4 3) [.a 0, .a 6]) <|
     .ins (.pr (.bnd) [.a 1, .a 6]) <|
     .ins (.pr (.cell 4 0) [.a 1, .a 6]) <|
     .ins (.pr (.cell 4 1) [.a 1, .a 6]) <|
     .ins (.pr (.cell 4 2) [.a 1, .a 6]) <|
     .ins (.pr (.cell 4 3) [.a 1, .a 6]) <|
     .ins (.cl 74 [.a 10, .a 11, .a 12, .a 13, .a 15, .a 16, .a 17, .a 18] 1) <|
     .ins (.pr (.un .not) [.a 19]) <|
     .ite 20 (
      .ins (.pr (.scl) [.k (.bool false)]) <|
      .ret [.a 21]) (
      .ins (.pr (.bin .add) [.a 6, .k (.int .i64 1)]) <|
      .go 0 [.a 5, .a 21])) (
     .ins (.pr (.scl) [.k (.bool true)]) <|
     .ret [.a 9])))
def S_eqLinkS : Nat → Sem1 := pick [(74, F_eqLink)]
def F_eqLinkS : Sem1 := fun ts => p_eqLinkS.den S_eqLinkS rounds [] ts
def p_eqThing : PL :=
  .ins (.pr (.bin .neq) [.a 0, .a 4]) <|
  .ite 8 (
   .ins (.pr (.scl) [.k (.bool false)]) <|
   .ret [.a 9]) (
   .ins (.pr (.bin .neq) [.a 1, .a 5]) <|
   .ite 9 (
    .ins (.pr (.scl) [.k (.bool false)]) <|
    .ret [.a 10]) (
    .ins (.pr (.bin .neq) [.a 2, .a 6]) <|
    .ite 10 (
     .ins (.pr (.scl) [.k (.bool false)]) <|
     .ret [.a 11]) (
     .ins (.pr (.bb .neq) [.a 3, .a 7]) <|
     .ite 11 (
      .ins (.pr (.scl) [.k (.bool false)]) <|
      .ret [.a 12]) (
      .ins (.pr (.scl) [.k (.bool true)]) <|
      .ret [.a 12]))))
def S_eqThing : Nat → Sem1 := pick []
def F_eqThing : Sem1 := fun ts => p_eqThing.den S_eqThing rounds [] ts
def p_eqThingS : PL :=
  .ins (.pr (.len) [.a 0]) <|
  .ins (.pr (.len) [.a 1]) <|
  .ins (.pr (.bin .neq) [.a 2, .a 3]) <|
  .ite 4 (
   .ins (.pr (.scl) [.k (.bool false)]) <|
   .ret [.a 5]) (
   .loop [.k (.bool false), .k (.int .i64 0)] (
    .ins (.pr (.len) [.a 0]) <|
    .ins (.pr (.bin .lss) [.a 6, .a 7]) <|
    .ite 8 (
     .ins (.pr (.bnd) [.a 0, .a 6]) <|
     .ins (.pr (.cell 4 0) [.a 0, .a 6]) <|
     .ins (.pr (.cell 4 1) [.a 0, .a 6]) <|
     .ins (.pr (.cell 4 2) [.a 0, .a 6]) <|
     .ins (.pr (.cell 4 3) [.a 0, .a 6]) <|
     .ins (.pr (.bnd) [.a 1, .a 6]) <|
     .ins (.pr (.cell 4 0) [.a 1, .a 6]) <|
     .ins (.pr (.cell 4 1) [.a 1, .a 6]) <|
     .ins (.pr (.cell 4 2) [.a 1, .a 6]) <|
     .ins (.pr (.cell 4 3) [.a 1, .a 6]) <|
     .ins (.cl 75 [.a 10, .a 11, .a 12, .a 13, .a 15, .a 16, .a 17, .a 18] 1) <|
     .ins (.pr (.un .not) [.a 19]) <|
     .ite 20 (
      .ins (.pr (.scl) [.k (.bool false)]) <|
      .ret [.a 21]) (
      .ins (.pr (.bin .add) [.a 6, .k (.int .i64 1)]) <|
      .go 0 [.a 5, .a 21])) (
     .ins (.pr (.scl) [.k (.bool true)]) <|
     .ret [.a 9])))
def S_eqThingS : Nat → Sem1 := pick [(75, F_eqThing)]
def F_eqThingS : Sem1 := fun ts => p_eqThingS.den S_eqThingS rounds [] ts
def p_eqNet : PL :=
  .ins (.pr (.bin .neq) [.a 0, .a 3]) <|
  .ite 6 (
   .ins (.pr (.scl) [.k (.bool false)]) <|
   .ret [.a 7]) (
   .ins (.cl 52 [.a 1, .a 4] 1) <|
   .ins (.pr (.un .not) [.a 7]) <|
   .ite 8 (
    .ins (.pr (.scl) [.k (.bool false)]) <|
    .ret [.a 9]) (
    .ins (.cl 53 [.a 2, .a 5] 1) <|
    .ins (.pr (.un .not) [.a 9]) <|
    .ite 10 (
     .ins (.pr (.scl) [.k (.bool false)]) <|
     .ret [.a 11]) (
     .ins (.pr (.scl) [.k (.bool true)]) <|
     .ret [.a 11])))
def S_eqNet : Nat → Sem1 := pick [(52, F_eqLinkS), (53, F_eqThingS)]
def F_eqNet : Sem1 := fun ts => p_eqNet.den S_eqNet rounds [] ts
def p_FnExactEventOk : PL :=
  .ins (.cl 8 [.a 0, .a 1, .a 2, .k (.int .i64 1048576)] 1) <|
  .ins (.pr (.bin .lss) [.a 7, .k (.int .i64 0)]) <|
  .ite 8 (
   .ins (.pr (.scl) [.k (.bool true)]) <|
   .ret [.a 9]) (
   .ins (.cl 9 [.a 3, .a 4, .a 5, .a 6, .a 7] 1) <|
   .ins (.pr (.bin .lss) [.a 9, .k (.int .i64 0)]) <|
   .ite 10 (
    .ins (.pr (.scl) [.k (.bool true)]) <|
    .ret [.a 11]) (
    .ins (.cl 11 [.a 0, .a 1, .a 2] 3) <|
    .ins (.cl 12 [.a 3, .a 4, .a 5, .a 6] 4) <|
    .ins (.cl 10 [.a 11, .a 12, .a 13, .a 14, .a 15, .a 16, .a 17] 1) <|
    .ins (.cl 11 [.a 0, .a 1, .a 2] 3) <|
    .ins (.cl 12 [.a 3, .a 4, .a 5, .a 6] 4) <|
    .ins (.cl 13 [.a 19, .a 20, .a 21, .a 22, .a 23, .a 24, .a 25] 1) <|
    .ins (.pr (.bb .neq) [.a 26, .a 18]) <|
    .ite 27 (
     .ins (.pr (.scl) [.k (.bool false)]) <|
     .ret [.a 28]) (
     .ins (.cl 11 [.a 0, .a 1, .a 2] 3) <|
     .ins (.cl 14 [.a 19, .a 20, .a 21, .a 28, .a 29, .a 30] 1) <|
     .ins (.pr (.un .not) [.a 31]) <|
     .ite 32 (
      .ins (.pr (.scl) [.k (.bool false)]) <|
      .ret [.a 33]) (
      .ins (.pr (.scl) [.k (.bool true)]) <|
      .ret [.a 33]))))
def S_FnExactEventOk : Nat → Sem1 := pick [(8, F_szNet), (9, F_szEvent), (10, F_s_EventOk), (11, F_toNet), (12, F_toEvent), (13, F_i_EventOk), (14, F_eqNet)]
def F_FnExactEventOk : Sem1 := fun ts => p_FnExactEventOk.den S_FnExactEventOk rounds [] ts
def p_szNearS : PL :=
  .ins (.pr (.len) [.a 0]) <|
  .ins (.pr (.bin .sub) [.a 1, .a 2]) <|
  .ins (.pr (.bin .lss) [.a 3, .k (.int .i64 0)]) <|
  .ite 4 (
   .ins (.pr (.scl) [.k (.int .i64 (-1))]) <|
   .ret [.a 5]) (
   .ins (.pr (.scl) [.a 3]) <|
   .ret [.a 5])
def S_szNearS : Nat → Sem1 := pick []
def F_szNearS : Sem1 := fun ts => p_szNearS.den S_szNearS rounds [] ts
def p_szRecord : PL :=
  .ins (.cl 76 [.a 5, .a 8] 1) <|
  .ins (.pr (.bin .lss) [.a 9, .k (.int .i64 0)]) <|
  .ite 10 (
   .ins (.pr (.scl) [.k (.int .i64 (-1))]) <|
   .ret [.a 11]) (
   .ins (.pr (.scl) [.a 9]) <|
   .ret [.a 11])
def S_szRecord : Nat → Sem1 := pick [(76, F_szNearS)]
def F_szRecord : Sem1 := fun ts => p_szRecord.den S_szRecord rounds [] ts
def p_szRecordS : PL :=
  .ins (.pr (.len) [.a 0]) <|
  .ins (.pr (.bin .sub) [.a 1, .a 2]) <|
  .ins (.pr (.bin .lss) [.a 3, .k (.int .i64 0)]) <|
  .ite 4 (
   .ins (.pr (.scl) [.k (.int .i64 (-1))]) <|
   .ret [.a 5]) (
   .loop [.a 3, .k (.int .i64 0), .k (.int .i64 0)] (
    .ins (.pr (.len) [.a 0]) <|
    .ins (.pr (.bin .lss) [.a 7, .a 8]) <|
    .ite 9 (
     .ins (.pr (.bnd) [.a 0, .a 7]) <|
     .ins (.pr (.cell 8 0) [.a 0, .a 7]) <|
     .ins (.pr (.cell 8 1) [.a 0, .a 7]) <|
     .ins (.pr (.cell 8 2) [.a 0, .a 7]) <|
     .ins (.pr (.cell 8 3) [.a 0, .a 7]) <|
     .ins (.pr (.cell 8 4) [.a 0, .a 7]) <|
     .ins (.pr (.cell 8 5) [.a 0, .a 7]) <|
     .ins (.pr (.cell 8 6) [.a 0, .a 7]) <|
     .ins (.pr (.cell 8 7) [.a 0, .a 7]) <|
     .ins (.cl 54 [.a 11, .a 12, .a 13, .a 14, .a 15, .a 16, .a 17, .a 18, .a 5] 1) <|
     .ins (.pr (.bin .lss) [.a 19, .k (.int .i64 0)]) <|
     .ite 20 (
      .ins (.pr (.scl) [.k (.int .i64 (-1))]) <|
      .ret [.a 21]) (
      .ins (.pr (.bin .add) [.a 7, .k (.int .i64 1)]) <|
      .go 0 [.a 19, .a 6, .a 21])) (
     .ins (.pr (.scl) [.a 5]) <|
     .ret [.a 10])))
def S_szRecordS : Nat → Sem1 := pick [(54, F_szRecord)]
def F_szRecordS : Sem1 := fun ts => p_szRecordS.den S_szRecordS rounds [] ts
def p_toNear : PL :=
  .ins (.pr (.scl) [.a 1]) <|
  .ins (.pr (.scl) [.a 0]) <|
  .ret [.a 3, .a 2]
def S_toNear : Nat → Sem1 := pick []
def F_toNear : Sem1 := fun ts => p_toNear.den S_toNear rounds [] ts
def p_toNearS : PL :=
  .ins (.pr (.len) [.a 0]) <|
  .ins (.pr (.mk) [.a 1, .a 1, .k (.int .i64 0), .k (.int .i64 0)]) <|
  .loop [.k (.int .i64 0), .a 2] (
   .ins (.pr (.len) [.a 0]) <|
   .ins (.pr (.bin .lss) [.a 3, .a 5]) <|
   .ite 6 (
    .ins (.pr (.bnd) [.a 0, .a 3]) <|
    .ins (.pr (.cell 2 0) [.a 0, .a 3]) <|
    .ins (.pr (.cell 2 1) [.a 0, .a 3]) <|
    .ins (.cl 83 [.a 8, .a 9] 2) <|
    .ins (.pr (.bnd) [.a 4, .a 3]) <|
    .ins (.pr (.put true 2 0 2) [.a 4, .a 3, .a 10, .a 11]) <|
    .ins (.pr (.bin .add) [.a 3, .k (.int .i64 1)]) <|
    .go 0 [.a 14, .a 13]) (
    .ret [.a 4]))
def S_toNearS : Nat → Sem1 := pick [(83, F_toNear)]
def F_toNearS : Sem1 := fun ts => p_toNearS.den S_toNearS rounds [] ts
def p_toRecord : PL :=
  .ins (.cl 78 [.a 5] 1) <|
  .ins (.pr (.scl) [.a 7]) <|
  .ins (.pr (.scl) [.a 6]) <|
  .ins (.pr (.scl) [.a 4]) <|
  .ins (.pr (.scl) [.a 3]) <|
  .ins (.pr (.scl) [.a 2]) <|
  .ins (.pr (.scl) [.a 1]) <|
  .ins (.pr (.scl) [.a 0]) <|
  .ret [.a 15, .a 14, .a 13, .a 12, .a 11, .a 8, .a 10, .a 9]
def S_toRecord : Nat → Sem1 := pick [(78, F_toNearS)]
def F_toRecord : Sem1 := fun ts => p_toRecord.den S_toRecord rounds [] ts
def p_toRecordS : PL :=
  .ins (.pr (.len) [.a 0]) <|
  .ins (.pr (.mk) [.a 1, .a 1, .k (.int .i64 0), .k (.int .i64 0), .k (.int .i64 0), .k (.int .i64 0), .k (.int .i64 0), .e, .k (.int .i64 0), .k (.bool false)]) <|
  .loop [.k (.int .i64 0), .a 2] (
   .ins (.pr (.len) [.a 0]) <|
   .ins (.pr (.bin .lss) [.a 3, .a 5]) <|
   .ite 6 (
    .ins (.pr (.bnd) [.a 0, .a 3]) <|
    .ins (.pr (.cell 8 0) [.a 0, .a 3]) <|
    .ins (.pr (.cell 8 1) [.a 0, .a 3]) <|
    .ins (.pr (.cell 8 2) [.a 0, .a 3]) <|
    .ins (.pr (.cell 8 3) [.a 0, .a 3]) <|
    .ins (.pr (.cell 8 4) [.a 0, .a 3]) <|
    .ins (.pr (.cell 8 5) [.a 0, .a 3]) <|
    .ins (.pr (.cell 8 6) [.a 0, .a 3]) <|
    .ins (.pr (.cell 8 7) [.a 0, .a 3]) <|
    .ins (.cl 56 [.a 8, .a 9, .a 10, .a 11, .a 12, .a 13, .a 14, .a 15] 8) <|
    .ins (.pr (.bnd) [.a 4, .a 3]) <|
    .ins (.pr (.putD [true, true, true, true, true, false, true, true] 8 0) [.a 4, .a 3, .a 16, .a 17, .a 18, .a 19, .a 20, .a 21, .a 22, .a 23]) <|
    .ins (.pr (.bin .add) [.a 3, .k (.int .i64 1)]) <|
    .go 0 [.a 26, .a 25]) (
    .ret [.a 4]))
def S_toRecordS : Nat → Sem1 := pick [(56, F_toRecord)]
def F_toRecordS : Sem1 := fun ts => p_toRecordS.den S_toRecordS rounds [] ts
def p_s_SameKey : PL :=
  .ins (.pr (.bin .eql) [.a 0, .a 8]) <|
  .ite 16 (
   .ins (.pr (.bin .eql) [.a 1, .a 9]) <|
   .ite 17 (
    .ins (.pr (.bin .eql) [.a 2, .a 10]) <|
    .ite 18 (
     .ins (.pr (.bin .eql) [.a 3, .a 11]) <|
     .ins (.pr (.scl) [.a 19]) <|
     .ret [.a 20]) (
     .ins (.pr (.scl) [.k (.bool false)]) <|
     .ret [.a 19])) (
    .ins (.pr (.scl) [.k (.bool false)]) <|
    .ret [.a 18])) (
   .ins (.pr (.scl) [.k (.bool false)]) <|
   .ret [.a 17])
def S_s_SameKey : Nat → Sem1 := pick []
def F_s_SameKey : Sem1 := fun ts => p_s_SameKey.den S_s_SameKey rounds [] ts
def p_s_SameBody : PL :=
  .ins (.cl 77 [.a 0, .a 1, .a 2, .a 3, .a 4, .a 5, .a 6, .a 7, .a 8, .a 9, .a 10, .a 11, .a 12, .a 13, .a 14, .a 15] 1) <|
  .ins (.pr (.un .not) [.a 16]) <|
  .ite 17 (
   .ins (.pr (.scl) [.k (.bool false)]) <|
   .ret [.a 18]) (
   .ins (.pr (.bin .neq) [.a 6, .a 14]) <|
   .ite 18 (
    .ins (.pr (.scl) [.k (.bool false)]) <|
    .ret [.a 19]) (
    .ins (.pr (.bb .neq) [.a 7, .a 15]) <|
    .ite 19 (
     .ins (.pr (.scl) [.k (.bool false)]) <|
     .ret [.a 20]) (
     .ins (.pr (.len) [.a 5]) <|
     .ins (.pr (.len) [.a 13]) <|
     .ins (.pr (.bin .neq) [.a 20, .a 21]) <|
     .ite 22 (
      .ins (.pr (.scl) [.k (.bool false)]) <|
      .ret [.a 23]) (
      .loop [.k (.bool false), .k (.int .i64 0)] (
       .ins (.pr (.len) [.a 5]) <|
       .ins (.pr (.bin .lss) [.a 24, .a 25]) <|
       .ite 26 (
        .ins (.pr (.bnd) [.a 5, .a 24]) <|
        .ins (.pr (.cell 2 0) [.a 5, .a 24]) <|
        .ins (.pr (.cell 2 1) [.a 5, .a 24]) <|
        .ins (.pr (.bnd) [.a 13, .a 24]) <|
        .ins (.pr (.cell 2 0) [.a 13, .a 24]) <|
        .ins (.pr (.cell 2 1) [.a 13, .a 24]) <|
        .ins (.pr (.eqs [1, 1]) [.a 28, .a 29, .a 31, .a 32]) <|
        .ins (.pr (.un .not) [.a 33]) <|
        .ite 34 (
         .ins (.pr (.scl) [.k (.bool false)]) <|
         .ret [.a 35]) (
         .ins (.pr (.bin .add) [.a 24, .k (.int .i64 1)]) <|
         .go 0 [.a 23, .a 35])) (
        .ins (.pr (.scl) [.k (.bool true)]) <|
        .ret [.a 27]))))))
def S_s_SameBody : Nat → Sem1 := pick [(77, F_s_SameKey)]
def F_s_SameBody : Sem1 := fun ts => p_s_SameBody.den S_s_SameBody rounds [] ts
def p_s_TrueTold : PL :=
  .loop [.k (.bool false), .k (.int .i64 0)] (
   .ins (.pr (.len) [.a 1]) <|
   .ins (.pr (.bin .lss) [.a 3, .a 4]) <|
   .ite 5 (
    .loop [.k (.bool false), .k (.int .i64 0)] (
     .ins (.pr (.len) [.a 0]) <|
     .ins (.pr (.bin .lss) [.a 7, .a 8]) <|
     .ite 9 (
      .ite 6 (
       .ins (.pr (.bin .add) [.a 7, .k (.int .i64 1)]) <|
       .go 0 [.k (.bool true), .a 10]) (
       .ins (.pr (.bnd) [.a 0, .a 7]) <|
       .ins (.pr (.cell 8 0) [.a 0, .a 7]) <|
       .ins (.pr (.cell 8 1) [.a 0, .a 7]) <|
       .ins (.pr (.cell 8 2) [.a 0, .a 7]) <|
       .ins (.pr (.cell 8 3) [.a 0, .a 7]) <|
       .ins (.pr (.cell 8 4) [.a 0, .a 7]) <|
       .ins (.pr (.cell 8 5) [.a 0, .a 7]) <|
       .ins (.pr (.cell 8 6) [.a 0, .a 7]) <|
       .ins (.pr (.cell 8 7) [.a 0, .a 7]) <|
       .ins (.pr (.bnd) [.a 1, .a 3]) <|
       .ins (.pr (.cell 8 0) [.a 1, .a 3]) <|
       .ins (.pr (.cell 8 1) [.a 1, .a 3]) <|
       .ins (.pr (.cell 8 2) [.a 1, .a 3]) <|
       .ins (.pr (.cell 8 3) [.a 1, .a 3]) <|
       .ins (.pr (.cell 8 4) [.a 1, .a 3]) <|
       .ins (.pr (.cell 8 5) [.a 1, .a 3]) <|
       .ins (.pr (.cell 8 6) [.a 1, .a 3]) <|
       .ins (.pr (.cell 8 7) [.a 1, .a 3]) <|
       .ins (.cl 55 [.a 11, .a 12, .a 13, .a 14, .a 15, .a 16, .a 17, .a 18, .a 20, .a 21, .a 22, .a 23, .a 24, .a 25, .a 26, .a 27] 1) <|
       .ite 28 (
        .ins (.pr (.bnd) [.a 0, .a 7]) <|
        .ins (.pr (.cell 8 4) [.a 0, .a 7]) <|
        .ins (.pr (.bnd) [.a 1, .a 3]) <|
        .ins (.pr (.cell 8 4) [.a 1, .a 3]) <|
        .ins (.pr (.bin .eql) [.a 30, .a 32]) <|
        .ins (.pr (.bin .add) [.a 7, .k (.int .i64 1)]) <|
        .go 0 [.a 33, .a 34]) (
        .ins (.pr (.bin .add) [.a 7, .k (.int .i64 1)]) <|
        .go 0 [.k (.bool false), .a 29]))) (
      .ins (.pr (.un .not) [.a 6]) <|
      .ite 10 (
       .ins (.pr (.scl) [.k (.bool false)]) <|
       .ret [.a 11]) (
       .ins (.pr (.bin .add) [.a 3, .k (.int .i64 1)]) <|
       .go 1 [.a 2, .a 11])))) (
    .ins (.pr (.scl) [.k (.bool true)]) <|
    .ret [.a 6]))
def S_s_TrueTold : Nat → Sem1 := pick [(55, F_s_SameBody)]
def F_s_TrueTold : Sem1 := fun ts => p_s_TrueTold.den S_s_TrueTold rounds [] ts
def p_i_SameKey : PL :=
  .ins (.pr (.bin .eql) [.a 0, .a 8]) <|
  .ite 16 (
   .ins (.pr (.bin .eql) [.a 1, .a 9]) <|
   .ite 17 (
    .ins (.pr (.bin .eql) [.a 2, .a 10]) <|
    .ite 18 (
     .ins (.pr (.bin .eql) [.a 3, .a 11]) <|
     .ins (.pr (.scl) [.a 19]) <|
     .ret [.a 20]) (
     .ins (.pr (.scl) [.k (.bool false)]) <|
     .ret [.a 19])) (
    .ins (.pr (.scl) [.k (.bool false)]) <|
    .ret [.a 18])) (
   .ins (.pr (.scl) [.k (.bool false)]) <|
   .ret [.a 17])
def S_i_SameKey : Nat → Sem1 := pick []
def F_i_SameKey : Sem1 := fun ts => p_i_SameKey.den S_i_SameKey rounds [] ts
def p_i_SameBody : PL :=
  .ins (.cl 79 [.a 0, .a 1, .a 2, .a 3, .a 4, .a 5, .a 6, .a 7, .a 8, .a 9, .a 10, .a 11, .a 12, .a 13, .a 14, .a 15] 1) <|
  .ins (.pr (.un .not) [.a 16]) <|
  .ite 17 (
   .ins (.pr (.scl) [.k (.bool false)]) <|
   .ret [.a 18]) (
   .ins (.pr (.bin .neq) [.a 6, .a 14]) <|
   .ite 18 (
    .ins (.pr (.scl) [.k (.bool false)]) <|
    .ret [.a 19]) (
    .ins (.pr (.bb .neq) [.a 7, .a 15]) <|
    .ite 19 (
     .ins (.pr (.scl) [.k (.bool false)]) <|
     .ret [.a 20]) (
     .ins (.pr (.len) [.a 5]) <|
     .ins (.pr (.len) [.a 13]) <|
     .ins (.pr (.bin .neq) [.a 20, .a 21]) <|
     .ite 22 (
      .ins (.pr (.scl) [.k (.bool false)]) <|
      .ret [.a 23]) (
      .ins (.pr (.len) [.a 5]) <|
      .loop [.k (.bool false), .k (.int .i64 0)] (
       .ins (.pr (.bin .lss) [.a 25, .a 23]) <|
       .ite 26 (
        .ins (.pr (.bnd) [.a 5, .a 25]) <|
        .ins (.pr (.cell 2 0) [.a 5, .a 25]) <|
        .ins (.pr (.cell 2 1) [.a 5, .a 25]) <|
        .ins (.pr (.bnd) [.a 13, .a 25]) <|
        .ins (.pr (.cell 2 0) [.a 13, .a 25]) <|
        .ins (.pr (.cell 2 1) [.a 13, .a 25]) <|
        .ins (.pr (.eqs [1, 1]) [.a 28, .a 29, .a 31, .a 32]) <|
        .ins (.pr (.un .not) [.a 33]) <|
        .ite 34 (
         .ins (.pr (.scl) [.k (.bool false)]) <|
         .ret [.a 35]) (
         .ins (.pr (.bin .add) [.a 25, .k (.int .i64 1)]) <|
         .go 0 [.a 24, .a 35])) (
        .ins (.pr (.scl) [.k (.bool true)]) <|
        .ret [.a 27]))))))
def S_i_SameBody : Nat → Sem1 := pick [(79, F_i_SameKey)]
def F_i_SameBody : Sem1 := fun ts => p_i_SameBody.den S_i_SameBody rounds [] ts
def p_i_TrueTold : PL :=
  .ins (.pr (.len) [.a 1]) <|
  .loop [.k (.bool false), .k (.int .i64 0)] (
   .ins (.pr (.bin .lss) [.a 4, .a 2]) <|
   .ite 5 (
    .ins (.pr (.bnd) [.a 1, .a 4]) <|
    .ins (.pr (.cell 8 0) [.a 1, .a 4]) <|
    .ins (.pr (.cell 8 1) [.a 1, .a 4]) <|
    .ins (.pr (.cell 8 2) [.a 1, .a 4]) <|
    .ins (.pr (.cell 8 3) [.a 1, .a 4]) <|
    .ins (.pr (.cell 8 4) [.a 1, .a 4]) <|
    .ins (.pr (.cell 8 5) [.a 1, .a 4]) <|
    .ins (.pr (.cell 8 6) [.a 1, .a 4]) <|
    .ins (.pr (.cell 8 7) [.a 1, .a 4]) <|
    .ins (.pr (.len) [.a 0]) <|
    .loop [.k (.bool false), .k (.int .i64 0)] (
     .ins (.pr (.bin .lss) [.a 17, .a 15]) <|
     .ite 18 (
      .ins (.pr (.bnd) [.a 0, .a 17]) <|
      .ins (.pr (.cell 8 0) [.a 0, .a 17]) <|
      .ins (.pr (.cell 8 1) [.a 0, .a 17]) <|
      .ins (.pr (.cell 8 2) [.a 0, .a 17]) <|
      .ins (.pr (.cell 8 3) [.a 0, .a 17]) <|
      .ins (.pr (.cell 8 4) [.a 0, .a 17]) <|
      .ins (.pr (.cell 8 5) [.a 0, .a 17]) <|
      .ins (.pr (.cell 8 6) [.a 0, .a 17]) <|
      .ins (.pr (.cell 8 7) [.a 0, .a 17]) <|
      .ite 16 (
       .ins (.pr (.bin .add) [.a 17, .k (.int .i64 1)]) <|
       .go 0 [.k (.bool true), .a 28]) (
       .ins (.cl 57 [.a 20, .a 21, .a 22, .a 23, .a 24, .a 25, .a 26, .a 27, .a 7, .a 8, .a 9, .a 10, .a 11, .a 12, .a 13, .a 14] 1) <|
       .ite 28 (
        .ins (.pr (.bin .eql) [.a 24, .a 11]) <|
        .ins (.pr (.bin .add) [.a 17, .k (.int .i64 1)]) <|
        .go 0 [.a 29, .a 30]) (
        .ins (.pr (.bin .add) [.a 17, .k (.int .i64 1)]) <|
        .go 0 [.k (.bool false), .a 29]))) (
      .ins (.pr (.un .not) [.a 16]) <|
      .ite 19 (
       .ins (.pr (.scl) [.k (.bool false)]) <|
       .ret [.a 20]) (
       .ins (.pr (.bin .add) [.a 4, .k (.int .i64 1)]) <|
       .go 1 [.a 3, .a 20])))) (
    .ins (.pr (.scl) [.k (.bool true)]) <|
    .ret [.a 6]))
def S_i_TrueTold : Nat → Sem1 := pick [(57, F_i_SameBody)]
def F_i_TrueTold : Sem1 := fun ts => p_i_TrueTold.den S_i_TrueTold rounds [] ts
def p_eqNear : PL :=
  .ins (.pr (.bin .neq) [.a 0, .a 2]) <|
  .ite 4 (
   .ins (.pr (.scl) [.k (.bool false)]) <|
   .ret [.a 5]) (
   .ins (.pr (.bin .neq) [.a 1, .a 3]) <|
   .ite 5 (
    .ins (.pr (.scl) [.k (.bool false)]) <|
    .ret [.a 6]) (
    .ins (.pr (.scl) [.k (.bool true)]) <|
    .ret [.a 6]))
def S_eqNear : Nat → Sem1 := pick []
def F_eqNear : Sem1 := fun ts => p_eqNear.den S_eqNear rounds [] ts
def p_eqNearS : PL :=
  .ins (.pr (.len) [.a 0]) <|
  .ins (.pr (.len) [.a 1]) <|
  .ins (.pr (.bin .neq) [.a 2, .a 3]) <|
  .ite 4 (
   .ins (.pr (.scl) [.k (.bool false)]) <|
   .ret [.a 5]) (
   .loop [.k (.bool false), .k (.int .i64 0)] (
    .ins (.pr (.len) [.a 0]) <|
    .ins (.pr (.bin .lss) [.a 6, .a 7]) <|
    .ite 8 (
     .ins (.pr (.bnd) [.a 0, .a 6]) <|
     .ins (.pr (.cell 2 0) [.a 0, .a 6]) <|
     .ins (.pr (.cell 2 1) [.a 0, .a 6]) <|
     .ins (.pr (.bnd) [.a 1, .a 6]) <|
     .ins (.pr (.cell 2 0) [.a 1, .a 6]) <|
     .ins (.pr (.cell 2 1) [.a 1, .a 6]) <|
     .ins (.cl 84 [.a 10, .a 11, .a 13, .a 14] 1) <|
     .ins (.pr (.un .not) [.a 15]) <|
     .ite 16 (
      .ins (.pr (.scl) [.k (.bool false)]) <|
      .ret [.a 17]) (
      .ins (.pr (.bin .add) [.a 6, .k (.int .i64 1)]) <|
      .go 0 [.a 5, .a 17])) (
     .ins (.pr (.scl) [.k (.bool true)]) <|
     .ret [.a 9])))
def S_eqNearS : Nat → Sem1 := pick [(84, F_eqNear)]
def F_eqNearS : Sem1 := fun ts => p_eqNearS.den S_eqNearS rounds [] ts
def p_eqRecord : PL :=
  .ins (.pr (.bin .neq) [.a 0, .a 8]) <|
  .ite 16 (
   .ins (.pr (.scl) [.k (.bool false)]) <|
   .ret [.a 17]) (
   .ins (.pr (.bin .neq) [.a 1, .a 9]) <|
   .ite 17 (
    .ins (.pr (.scl) [.k (.bool false)]) <|
    .ret [.a 18]) (
    .ins (.pr (.bin .neq) [.a 2, .a 10]) <|
    .ite 18 (
     .ins (.pr (.scl) [.k (.bool false)]) <|
     .ret [.a 19]) (
     .ins (.pr (.bin .neq) [.a 3, .a 11]) <|
     .ite 19 (
      .ins (.pr (.scl) [.k (.bool false)]) <|
      .ret [.a 20]) (
      .ins (.pr (.bin .neq) [.a 4, .a 12]) <|
      .ite 20 (
       .ins (.pr (.scl) [.k (.bool false)]) <|
       .ret [.a 21]) (
       .ins (.cl 80 [.a 5, .a 13] 1) <|
       .ins (.pr (.un .not) [.a 21]) <|
       .ite 22 (
        .ins (.pr (.scl) [.k (.bool false)]) <|
        .ret [.a 23]) (
        .ins (.pr (.bin .neq) [.a 6, .a 14]) <|
        .ite 23 (
         .ins (.pr (.scl) [.k (.bool false)]) <|
         .ret [.a 24]) (
         .ins (.pr (.bb .neq) [.a 7, .a 15]) <|
         .ite 24 (
          .ins (.pr (.scl) [.k (.bool false)]) <|
          .ret [.a 25]) (
          .ins (.pr (.scl) [.k (.bool true)]) <|
          .ret [.a 25]))))))))
def S_eqRecord : Nat → Sem1 := pick [(80, F_eqNearS)]
def F_eqRecord : Sem1 := fun ts => p_eqRecord.den S_eqRecord rounds [] ts
def p_eqRecordS : PL :=
  .ins (.pr (.len) [.a 0]) <|
  .ins (.pr (.len) [.a 1]) <|
  .ins (.pr (.bin .neq) [.a 2, .a 3]) <|
  .ite 4 (
   .ins (.pr (.scl) [.k (.bool false)]) <|
   .ret [.a 5]) (
   .loop [.k (.bool false), .k (.int .i64 0)] (
    .ins (.pr (.len) [.a 0]) <|
    .ins (.pr (.bin .lss) [.a 6, .a 7]) <|
    .ite 8 (
     .ins (.pr (.bnd) [.a 0, .a 6]) <|
     .ins (.pr (.cell 8 0) [.a 0, .a 6]) <|
     .ins (.pr (.cell 8 1) [.a 0, .a 6]) <|
     .ins (.pr (.cell 8 2) [.a 0, .a 6]) <|
     .ins (.pr (.cell 8 3) [.a 0, .a 6]) <|
     .ins (.pr (.cell 8 4) [.a 0, .a 6]) <|
     .ins (.pr (.cell 8 5) [.a 0, .a 6]) <|
     .ins (.pr (.cell 8 6) [.a 0, .a 6]) <|
     .ins (.pr (.cell 8 7) [.a 0, .a 6]) <|
     .ins (.pr (.bnd) [.a 1, .a 6]) <|
     .ins (.pr (.cell 8 0) [.a 1, .a 6]) <|
     .ins (.pr (.cell 8 1) [.a 1, .a 6]) <|
     .ins (.pr (.cell 8 2) [.a 1, .a 6]) <|
     .ins (.pr (.cell 8 3) [.a 1, .a 6]) <|
     .ins (.pr (.cell 8 4) [.a 1, .a 6]) <|
     .ins (.pr (.cell 8 5) [.a 1, .a 6]) <|
     .ins (.pr (.cell 8 6) [.a 1, .a 6]) <|
     .ins (.pr (.cell 8 7) [.a 1, .a 6]) <|
     .ins (.cl 58 [.a 10, .a 11, .a 12, .a 13, .a 14, .a 15, .a 16, .a 17, .a 19, .a 20, .a 21, .a 22, .a 23, .a 24, .a 25, .a 26] 1) <|
     .ins (.pr (.un .not) [.a 27]) <|
     .ite 28 (
      .ins (.pr (.scl) [.k (.bool false)]) <|
      .ret [.a 29]) (
      .ins (.pr (.bin .add) [.a 6, .k (.int .i64 1)]) <|
      .go 0 [.a 5, .a 29])) (
     .ins (.pr (.scl) [.k (.bool true)]) <|
     .ret [.a 9])))
def S_eqRecordS : Nat → Sem1 := pick [(58, F_eqRecord)]
def F_eqRecordS : Sem1 := fun ts => p_eqRecordS.den S_eqRecordS rounds [] ts
def p_FnExactTrueTold : PL :=
  .ins (.cl 15 [.a 0, .k (.int .i64 1048576)] 1) <|
  .ins (.pr (.bin .lss) [.a 2, .k (.int .i64 0)]) <|
  .ite 3 (
   .ins (.pr (.scl) [.k (.bool true)]) <|
   .ret [.a 4]) (
   .ins (.cl 15 [.a 1, .a 2] 1) <|
   .ins (.pr (.bin .lss) [.a 4, .k (.int .i64 0)]) <|
   .ite 5 (
    .ins (.pr (.scl) [.k (.bool true)]) <|
    .ret [.a 6]) (
    .ins (.cl 17 [.a 0] 1) <|
    .ins (.cl 17 [.a 1] 1) <|
    .ins (.cl 16 [.a 6, .a 7] 1) <|
    .ins (.cl 17 [.a 0] 1) <|
    .ins (.cl 17 [.a 1] 1) <|
    .ins (.cl 18 [.a 9, .a 10] 1) <|
    .ins (.pr (.bb .neq) [.a 11, .a 8]) <|
    .ite 12 (
     .ins (.pr (.scl) [.k (.bool false)]) <|
     .ret [.a 13]) (
     .ins (.cl 17 [.a 0] 1) <|
     .ins (.cl 19 [.a 9, .a 13] 1) <|
     .ins (.pr (.un .not) [.a 14]) <|
     .ite 15 (
      .ins (.pr (.scl) [.k (.bool false)]) <|
      .ret [.a 16]) (
      .ins (.cl 17 [.a 1] 1) <|
      .ins (.cl 19 [.a 10, .a 16] 1) <|
      .ins (.pr (.un .not) [.a 17]) <|
      .ite 18 (
       .ins (.pr (.scl) [.k (.bool false)]) <|
       .ret [.a 19]) (
       .ins (.pr (.scl) [.k (.bool true)]) <|
       .ret [.a 19])))))
def S_FnExactTrueTold : Nat → Sem1 := pick [(15, F_szRecordS), (16, F_s_TrueTold), (17, F_toRecordS), (18, F_i_TrueTold), (19, F_eqRecordS)]
def F_FnExactTrueTold : Sem1 := fun ts => p_FnExactTrueTold.den S_FnExactTrueTold rounds [] ts
def p_szIntS : PL :=
  .ins (.pr (.len) [.a 0]) <|
  .ins (.pr (.bin .sub) [.a 1, .a 2]) <|
  .ins (.pr (.bin .lss) [.a 3, .k (.int .i64 0)]) <|
  .ite 4 (
   .ins (.pr (.scl) [.k (.int .i64 (-1))]) <|
   .ret [.a 5]) (
   .ins (.pr (.scl) [.a 3]) <|
   .ret [.a 5])
def S_szIntS : Nat → Sem1 := pick []
def F_szIntS : Sem1 := fun ts => p_szIntS.den S_szIntS rounds [] ts
def p_szRoute : PL :=
  .ins (.cl 81 [.a 5, .a 6] 1) <|
  .ins (.pr (.bin .lss) [.a 7, .k (.int .i64 0)]) <|
  .ite 8 (
   .ins (.pr (.scl) [.k (.int .i64 (-1))]) <|
   .ret [.a 9]) (
   .ins (.pr (.scl) [.a 7]) <|
   .ret [.a 9])
def S_szRoute : Nat → Sem1 := pick [(81, F_szIntS)]
def F_szRoute : Sem1 := fun ts => p_szRoute.den S_szRoute rounds [] ts
def p_szRouteS : PL :=
  .ins (.pr (.len) [.a 0]) <|
  .ins (.pr (.bin .sub) [.a 1, .a 2]) <|
  .ins (.pr (.bin .lss) [.a 3, .k (.int .i64 0)]) <|
  .ite 4 (
   .ins (.pr (.scl) [.k (.int .i64 (-1))]) <|
   .ret [.a 5]) (
   .loop [.a 3, .k (.int .i64 0), .k (.int .i64 0)] (
    .ins (.pr (.len) [.a 0]) <|
    .ins (.pr (.bin .lss) [.a 7, .a 8]) <|
    .ite 9 (
     .ins (.pr (.bnd) [.a 0, .a 7]) <|
     .ins (.pr (.cell 6 0) [.a 0, .a 7]) <|
     .ins (.pr (.cell 6 1) [.a 0, .a 7]) <|
     .ins (.pr (.cell 6 2) [.a 0, .a 7]) <|
     .ins (.pr (.cell 6 3) [.a 0, .a 7]) <|
     .ins (.pr (.cell 6 4) [.a 0, .a 7]) <|
     .ins (.pr (.cell 6 5) [.a 0, .a 7]) <|
     .ins (.cl 61 [.a 11, .a 12, .a 13, .a 14, .a 15, .a 16, .a 5] 1) <|
     .ins (.pr (.bin .lss) [.a 17, .k (.int .i64 0)]) <|
     .ite 18 (
      .ins (.pr (.scl) [.k (.int .i64 (-1))]) <|
      .ret [.a 19]) (
      .ins (.pr (.bin .add) [.a 7, .k (.int .i64 1)]) <|
      .go 0 [.a 17, .a 6, .a 19])) (
     .ins (.pr (.scl) [.a 5]) <|
     .ret [.a 10])))
def S_szRouteS : Nat → Sem1 := pick [(61, F_szRoute)]
def F_szRouteS : Sem1 := fun ts => p_szRouteS.den S_szRouteS rounds [] ts
def p_toIntS : PL :=
  .ins (.pr (.len) [.a 0]) <|
  .ins (.pr (.mk) [.a 1, .a 1, .k (.int .i64 0)]) <|
  .loop [.k (.int .i64 0), .a 2] (
   .ins (.pr (.len) [.a 0]) <|
   .ins (.pr (.bin .lss) [.a 3, .a 5]) <|
   .ite 6 (
    .ins (.pr (.bnd) [.a 0, .a 3]) <|
    .ins (.pr (.cell 1 0) [.a 0, .a 3]) <|
    .ins (.pr (.bnd) [.a 4, .a 3]) <|
    .ins (.pr (.put true 1 0 1) [.a 4, .a 3, .a 8]) <|
    .ins (.pr (.bin .add) [.a 3, .k (.int .i64 1)]) <|
    .go 0 [.a 11, .a 10]) (
    .ret [.a 4]))
def S_toIntS : Nat → Sem1 := pick []
def F_toIntS : Sem1 := fun ts => p_toIntS.den S_toIntS rounds [] ts
def p_toRoute : PL :=
  .ins (.cl 23 [.a 5] 1) <|
  .ins (.pr (.scl) [.a 4]) <|
  .ins (.pr (.scl) [.a 3]) <|
  .ins (.pr (.scl) [.a 2]) <|
  .ins (.pr (.scl) [.a 1]) <|
  .ins (.pr (.scl) [.a 0]) <|
  .ret [.a 11, .a 10, .a 9, .a 8, .a 7, .a 6]
def S_toRoute : Nat → Sem1 := pick [(23, F_toIntS)]
def F_toRoute : Sem1 := fun ts => p_toRoute.den S_toRoute rounds [] ts
def p_toRouteS : PL :=
  .ins (.pr (.len) [.a 0]) <|
  .ins (.pr (.mk) [.a 1, .a 1, .k (.bool false), .k (.int .i64 0), .k (.int .i64 0), .k (.int .i64 0), .k (.int .i64 0), .e]) <|
  .loop [.k (.int .i64 0), .a 2] (
   .ins (.pr (.len) [.a 0]) <|
   .ins (.pr (.bin .lss) [.a 3, .a 5]) <|
   .ite 6 (
    .ins (.pr (.bnd) [.a 0, .a 3]) <|
    .ins (.pr (.cell 6 0) [.a 0, .a 3]) <|
    .ins (.pr (.cell 6 1) [.a 0, .a 3]) <|
    .ins (.pr (.cell 6 2) [.a 0, .a 3]) <|
    .ins (.pr (.cell 6 3) [.a 0, .a 3]) <|
    .ins (.pr (.cell 6 4) [.a 0, .a 3]) <|
    .ins (.pr (.cell 6 5) [.a 0, .a 3]) <|
    .ins (.cl 63 [.a 8, .a 9, .a 10, .a 11, .a 12, .a 13] 6) <|
    .ins (.pr (.bnd) [.a 4, .a 3]) <|
    .ins (.pr (.putD [true, true, true, true, true, false] 6 0) [.a 4, .a 3, .a 14, .a 15, .a 16, .a 17, .a 18, .a 19]) <|
    .ins (.pr (.bin .add) [.a 3, .k (.int .i64 1)]) <|
    .go 0 [.a 22, .a 21]) (
    .ret [.a 4]))
def S_toRouteS : Nat → Sem1 := pick [(63, F_toRoute)]
def F_toRouteS : Sem1 := fun ts => p_toRouteS.den S_toRouteS rounds [] ts
def p_s_l11At : PL :=
  .loop [.k (.int .i64 0), .k (.int .i64 0)] (
   .ins (.pr (.len) [.a 0]) <|
   .ins (.pr (.bin .lss) [.a 5, .a 6]) <|
   .ite 7 (
    .ins (.pr (.bnd) [.a 0, .a 5]) <|
    .ins (.pr (.cell 3 0) [.a 0, .a 5]) <|
    .ins (.pr (.bb .eql) [.a 9, .a 1]) <|
    .ite 10 (
     .ins (.pr (.bnd) [.a 0, .a 5]) <|
     .ins (.pr (.cell 3 1) [.a 0, .a 5]) <|
     .ins (.pr (.bin .eql) [.a 12, .a 2]) <|
     .ite 13 (
      .ins (.pr (.scl) [.a 5]) <|
      .ret [.a 14]) (
      .ins (.pr (.bin .add) [.a 5, .k (.int .i64 1)]) <|
      .go 0 [.a 4, .a 14])) (
     .ins (.pr (.bin .add) [.a 5, .k (.int .i64 1)]) <|
     .go 0 [.a 4, .a 11])) (
    .ins (.pr (.scl) [.k (.int .i64 (-1))]) <|
    .ret [.a 8]))
def S_s_l11At : Nat → Sem1 := pick []
def F_s_l11At : Sem1 := fun ts => p_s_l11At.den S_s_l11At rounds [] ts
def p_s_l11Copy : PL :=
  .ins (.pr (.lit 1 []) []) <|
  .ins (.pr (.app true 1) [.a 3, .a 2]) <|
  .ins (.pr (.scl) [.a 1]) <|
  .ins (.pr (.scl) [.a 0]) <|
  .ret [.a 6, .a 5, .a 4]
def S_s_l11Copy : Nat → Sem1 := pick []
def F_s_l11Copy : Sem1 := fun ts => p_s_l11Copy.den S_s_l11Copy rounds [] ts
def p_s_TableOf : PL :=
  .ins (.pr (.lit 3 []) []) <|
  .loop [.a 1, .k (.int .i64 0)] (
   .ins (.pr (.len) [.a 0]) <|
   .ins (.pr (.bin .lss) [.a 3, .a 4]) <|
   .ite 5 (
    .ins (.pr (.bnd) [.a 0, .a 3]) <|
    .ins (.pr (.cell 6 0) [.a 0, .a 3]) <|
    .ins (.pr (.bnd) [.a 0, .a 3]) <|
    .ins (.pr (.cell 6 1) [.a 0, .a 3]) <|
    .ins (.pr (.bnd) [.a 0, .a 3]) <|
    .ins (.pr (.cell 6 5) [.a 0, .a 3]) <|
    .ins (.cl 59 [.a 2, .a 7, .a 9, .a 11] 1) <|
    .ins (.pr (.bin .lss) [.a 12, .k (.int .i64 0)]) <|
    .join (
     .ins (.pr (.bin .add) [.a 3, .k (.int .i64 1)]) <|
     .go 0 [.a 14, .a 15]) (
     .ite 13 (
      .ins (.cl 62 [.a 7, .a 9, .a 11] 3) <|
      .ins (.pr (.lit 3 [true, true, false]) [.a 14, .a 15, .a 16]) <|
      .ins (.pr (.app false 3) [.a 2, .a 17]) <|
      .go 0 [.a 18]) (
      .go 0 [.a 2]))) (
    .ret [.a 2]))
def S_s_TableOf : Nat → Sem1 := pick [(59, F_s_l11At), (62, F_s_l11Copy)]
def F_s_TableOf : Sem1 := fun ts => p_s_TableOf.den S_s_TableOf rounds [] ts
def p_i_lineAt : PL :=
  .ins (.pr (.len) [.a 0]) <|
  .loop [.k (.int .i64 0), .k (.int .i64 0)] (
   .ins (.pr (.bin .lss) [.a 6, .a 4]) <|
   .ite 7 (
    .ins (.pr (.bnd) [.a 0, .a 6]) <|
    .ins (.pr (.cell 3 0) [.a 0, .a 6]) <|
    .ins (.pr (.cell 3 1) [.a 0, .a 6]) <|
    .ins (.pr (.cell 3 2) [.a 0, .a 6]) <|
    .ins (.pr (.bb .eql) [.a 9, .a 1]) <|
    .ite 12 (
     .ins (.pr (.bin .eql) [.a 10, .a 2]) <|
     .ite 13 (
      .ins (.pr (.scl) [.a 6]) <|
      .ret [.a 14]) (
      .ins (.pr (.bin .add) [.a 6, .k (.int .i64 1)]) <|
      .go 0 [.a 5, .a 14])) (
     .ins (.pr (.bin .add) [.a 6, .k (.int .i64 1)]) <|
     .go 0 [.a 5, .a 13])) (
    .ins (.pr (.scl) [.k (.int .i64 (-1))]) <|
    .ret [.a 8]))
def S_i_lineAt : Nat → Sem1 := pick []
def F_i_lineAt : Sem1 := fun ts => p_i_lineAt.den S_i_lineAt rounds [] ts
def p_i_copyInts : PL :=
  .ins (.pr (.app true 1) [.e, .a 0]) <|
  .ret [.a 1]
def S_i_copyInts : Nat → Sem1 := pick []
def F_i_copyInts : Sem1 := fun ts => p_i_copyInts.den S_i_copyInts rounds [] ts
def p_i_copyLine : PL :=
  .ins (.cl 82 [.a 2] 1) <|
  .ins (.pr (.scl) [.a 1]) <|
  .ins (.pr (.scl) [.a 0]) <|
  .ret [.a 5, .a 4, .a 3]
def S_i_copyLine : Nat → Sem1 := pick [(82, F_i_copyInts)]
def F_i_copyLine : Sem1 := fun ts => p_i_copyLine.den S_i_copyLine rounds [] ts
def p_i_TableOf : PL :=
  .ins (.pr (.len) [.a 0]) <|
  .loop [.e, .k (.int .i64 0)] (
   .ins (.pr (.bin .lss) [.a 3, .a 1]) <|
   .ite 4 (
    .ins (.pr (.bnd) [.a 0, .a 3]) <|
    .ins (.pr (.cell 6 0) [.a 0, .a 3]) <|
    .ins (.pr (.cell 6 1) [.a 0, .a 3]) <|
    .ins (.pr (.cell 6 2) [.a 0, .a 3]) <|
    .ins (.pr (.cell 6 3) [.a 0, .a 3]) <|
    .ins (.pr (.cell 6 4) [.a 0, .a 3]) <|
    .ins (.pr (.cell 6 5) [.a 0, .a 3]) <|
    .ins (.cl 60 [.a 2, .a 6, .a 7, .a 11] 1) <|
    .ins (.pr (.bin .lss) [.a 12, .k (.int .i64 0)]) <|
    .join (
     .ins (.pr (.bin .add) [.a 3, .k (.int .i64 1)]) <|
     .go 0 [.a 14, .a 15]) (
     .ite 13 (
      .ins (.cl 64 [.a 6, .a 7, .a 11] 3) <|
      .ins (.pr (.lit 3 [true, true, false]) [.a 14, .a 15, .a 16]) <|
      .ins (.pr (.app false 3) [.a 2, .a 17]) <|
      .go 0 [.a 18]) (
      .go 0 [.a 2]))) (
    .ret [.a 2]))
def S_i_TableOf : Nat → Sem1 := pick [(60, F_i_lineAt), (64, F_i_copyLine)]
def F_i_TableOf : Sem1 := fun ts => p_i_TableOf.den S_i_TableOf rounds [] ts
def p_eqIntS : PL :=
  .ins (.pr (.len) [.a 0]) <|
  .ins (.pr (.len) [.a 1]) <|
  .ins (.pr (.bin .neq) [.a 2, .a 3]) <|
  .ite 4 (
   .ins (.pr (.scl) [.k (.bool false)]) <|
   .ret [.a 5]) (
   .loop [.k (.bool false), .k (.int .i64 0)] (
    .ins (.pr (.len) [.a 0]) <|
    .ins (.pr (.bin .lss) [.a 6, .a 7]) <|
    .ite 8 (
     .ins (.pr (.bnd) [.a 0, .a 6]) <|
     .ins (.pr (.cell 1 0) [.a 0, .a 6]) <|
     .ins (.pr (.bnd) [.a 1, .a 6]) <|
     .ins (.pr (.cell 1 0) [.a 1, .a 6]) <|
     .ins (.pr (.bin .neq) [.a 10, .a 12]) <|
     .ite 13 (
      .ins (.pr (.scl) [.k (.bool false)]) <|
      .ret [.a 14]) (
      .ins (.pr (.bin .add) [.a 6, .k (.int .i64 1)]) <|
      .go 0 [.a 5, .a 14])) (
     .ins (.pr (.scl) [.k (.bool true)]) <|
     .ret [.a 9])))
def S_eqIntS : Nat → Sem1 := pick []
def F_eqIntS : Sem1 := fun ts => p_eqIntS.den S_eqIntS rounds [] ts
def p_eqLine : PL :=
  .ins (.pr (.bb .neq) [.a 0, .a 3]) <|
  .ite 6 (
   .ins (.pr (.scl) [.k (.bool false)]) <|
   .ret [.a 7]) (
   .ins (.pr (.bin .neq) [.a 1, .a 4]) <|
   .ite 7 (
    .ins (.pr (.scl) [.k (.bool false)]) <|
    .ret [.a 8]) (
    .ins (.cl 25 [.a 2, .a 5] 1) <|
    .ins (.pr (.un .not) [.a 8]) <|
    .ite 9 (
     .ins (.pr (.scl) [.k (.bool false)]) <|
     .ret [.a 10]) (
     .ins (.pr (.scl) [.k (.bool true)]) <|
     .ret [.a 10])))
def S_eqLine : Nat → Sem1 := pick [(25, F_eqIntS)]
def F_eqLine : Sem1 := fun ts => p_eqLine.den S_eqLine rounds [] ts
def p_eqLineS : PL :=
  .ins (.pr (.len) [.a 0]) <|
  .ins (.pr (.len) [.a 1]) <|
  .ins (.pr (.bin .neq) [.a 2, .a 3]) <|
  .ite 4 (
   .ins (.pr (.scl) [.k (.bool false)]) <|
   .ret [.a 5]) (
   .loop [.k (.bool false), .k (.int .i64 0)] (
    .ins (.pr (.len) [.a 0]) <|
    .ins (.pr (.bin .lss) [.a 6, .a 7]) <|
    .ite 8 (
     .ins (.pr (.bnd) [.a 0, .a 6]) <|
     .ins (.pr (.cell 3 0) [.a 0, .a 6]) <|
     .ins (.pr (.cell 3 1) [.a 0, .a 6]) <|
     .ins (.pr (.cell 3 2) [.a 0, .a 6]) <|
     .ins (.pr (.bnd) [.a 1, .a 6]) <|
     .ins (.pr (.cell 3 0) [.a 1, .a 6]) <|
     .ins (.pr (.cell 3 1) [.a 1, .a 6]) <|
     .ins (.pr (.cell 3 2) [.a 1, .a 6]) <|
     .ins (.cl 65 [.a 10, .a 11, .a 12, .a 14, .a 15, .a 16] 1) <|
     .ins (.pr (.un .not) [.a 17]) <|
     .ite 18 (
      .ins (.pr (.scl) [.k (.bool false)]) <|
      .ret [.a 19]) (
      .ins (.pr (.bin .add) [.a 6, .k (.int .i64 1)]) <|
      .go 0 [.a 5, .a 19])) (
     .ins (.pr (.scl) [.k (.bool true)]) <|
     .ret [.a 9])))
def S_eqLineS : Nat → Sem1 := pick [(65, F_eqLine)]
def F_eqLineS : Sem1 := fun ts => p_eqLineS.den S_eqLineS rounds [] ts
def p_eqRoute : PL :=
  .ins (.pr (.bb .neq) [.a 0, .a 6]) <|
  .ite 12 (
   .ins (.pr (.scl) [.k (.bool false)]) <|
   .ret [.a 13]) (
   .ins (.pr (.bin .neq) [.a 1, .a 7]) <|
   .ite 13 (
    .ins (.pr (.scl) [.k (.bool false)]) <|
    .ret [.a 14]) (
    .ins (.pr (.bin .neq) [.a 2, .a 8]) <|
    .ite 14 (
     .ins (.pr (.scl) [.k (.bool false)]) <|
     .ret [.a 15]) (
     .ins (.pr (.bin .neq) [.a 3, .a 9]) <|
     .ite 15 (
      .ins (.pr (.scl) [.k (.bool false)]) <|
      .ret [.a 16]) (
      .ins (.pr (.bin .neq) [.a 4, .a 10]) <|
      .ite 16 (
       .ins (.pr (.scl) [.k (.bool false)]) <|
       .ret [.a 17]) (
       .ins (.cl 25 [.a 5, .a 11] 1) <|
       .ins (.pr (.un .not) [.a 17]) <|
       .ite 18 (
        .ins (.pr (.scl) [.k (.bool false)]) <|
        .ret [.a 19]) (
        .ins (.pr (.scl) [.k (.bool true)]) <|
        .ret [.a 19]))))))
def S_eqRoute : Nat → Sem1 := pick [(25, F_eqIntS)]
def F_eqRoute : Sem1 := fun ts => p_eqRoute.den S_eqRoute rounds [] ts
def p_eqRouteS : PL :=
  .ins (.pr (.len) [.a 0]) <|
  .ins (.pr (.len) [.a 1]) <|
  .ins (.pr (.bin .neq) [.a 2, .a 3]) <|
  .ite 4 (
   .ins (.pr (.scl) [.k (.bool false)]) <|
   .ret [.a 5]) (
   .loop [.k (.bool false), .k (.int .i64 0)] (
    .ins (.pr (.len) [.a 0]) <|
    .ins (.pr (.bin .lss) [.a 6, .a 7]) <|
    .ite 8 (
     .ins (.pr (.bnd) [.a 0, .a 6]) <|
     .ins (.pr (.cell 6 0) [.a 0, .a 6]) <|
     .ins (.pr (.cell 6 1) [.a 0, .a 6]) <|
     .ins (.pr (.cell 6 2) [.a 0, .a 6]) <|
     .ins (.pr (.cell 6 3) [.a 0, .a 6]) <|
     .ins (.pr (.cell 6 4) [.a 0, .a 6]) <|
     .ins (.pr (.cell 6 5) [.a 0, .a 6]) <|
     .ins (.pr (.bnd) [.a 1, .a 6]) <|
     .ins (.pr (.cell 6 0) [.a 1, .a 6]) <|
     .ins (.pr (.cell 6 1) [.a 1, .a 6]) <|
     .ins (.pr (.cell 6 2) [.a 1, .a 6]) <|
     .ins (.pr (.cell 6 3) [.a 1, .a 6]) <|
     .ins (.pr (.cell 6 4) [.a 1, .a 6]) <|
     .ins (.pr (.cell 6 5) [.a 1, .a 6]) <|
     .ins (.cl 66 [.a 10, .a 11, .a 12, .a 13, .a 14, .a 15, .a 17, .a 18, .a 19, .a 20, .a 21, .a 22] 1) <|
     .ins (.pr (.un .not) [.a 23]) <|
     .ite 24 (
      .ins (.pr (.scl) [.k (.bool false)]) <|
      .ret [.a 25]) (
      .ins (.pr (.bin .add) [.a 6, .k (.int .i64 1)]) <|
      .go 0 [.a 5, .a 25])) (
     .ins (.pr (.scl) [.k (.bool true)]) <|
     .ret [.a 9])))
def S_eqRouteS : Nat → Sem1 := pick [(66, F_eqRoute)]
def F_eqRouteS : Sem1 := fun ts => p_eqRouteS.den S_eqRouteS rounds [] ts
def p_heldIntS : PL :=
  .loop [.a 1, .k (.int .i64 0), .k (.int .i64 0)] (
   .ins (.pr (.len) [.a 0]) <|
   .ins (.pr (.bin .lss) [.a 4, .a 5]) <|
   .ite 6 (
    .ins (.pr (.bnd) [.a 0, .a 4]) <|
    .ins (.pr (.cell 1 0) [.a 0, .a 4]) <|
    .ins (.pr (.bin .neq) [.a 8, .a 2]) <|
    .ite 9 (
     .ins (.pr (.scl) [.k (.int .i64 (-1))]) <|
     .ret [.a 10]) (
     .ins (.pr (.bin .add) [.a 2, .k (.int .i64 1)]) <|
     .ins (.pr (.bin .add) [.a 4, .k (.int .i64 1)]) <|
     .go 0 [.a 10, .a 3, .a 11])) (
    .ins (.pr (.scl) [.a 2]) <|
    .ret [.a 7]))
def S_heldIntS : Nat → Sem1 := pick []
def F_heldIntS : Sem1 := fun ts => p_heldIntS.den S_heldIntS rounds [] ts
def p_heldLineS : PL :=
  .loop [.a 1, .k (.int .i64 0), .k (.int .i64 0)] (
   .ins (.pr (.len) [.a 0]) <|
   .ins (.pr (.bin .lss) [.a 4, .a 5]) <|
   .ite 6 (
    .ins (.pr (.bnd) [.a 0, .a 4]) <|
    .ins (.pr (.cell 3 0) [.a 0, .a 4]) <|
    .ins (.pr (.bin .rem) [.a 2, .k (.int .i64 3)]) <|
    .ins (.pr (.bin .eql) [.a 9, .k (.int .i64 0)]) <|
    .ins (.pr (.bb .neq) [.a 8, .a 10]) <|
    .ite 11 (
     .ins (.pr (.scl) [.k (.int .i64 (-1))]) <|
     .ret [.a 12]) (
     .ins (.pr (.bin .add) [.a 2, .k (.int .i64 1)]) <|
     .ins (.pr (.bnd) [.a 0, .a 4]) <|
     .ins (.pr (.cell 3 1) [.a 0, .a 4]) <|
     .ins (.pr (.bin .neq) [.a 14, .a 12]) <|
     .ite 15 (
      .ins (.pr (.scl) [.k (.int .i64 (-1))]) <|
      .ret [.a 16]) (
      .ins (.pr (.bin .add) [.a 12, .k (.int .i64 1)]) <|
      .ins (.pr (.bnd) [.a 0, .a 4]) <|
      .ins (.pr (.cell 3 2) [.a 0, .a 4]) <|
      .ins (.cl 29 [.a 18, .a 16] 1) <|
      .ins (.pr (.bin .lss) [.a 19, .k (.int .i64 0)]) <|
      .ite 20 (
       .ins (.pr (.scl) [.k (.int .i64 (-1))]) <|
       .ret [.a 21]) (
       .ins (.pr (.bin .add) [.a 4, .k (.int .i64 1)]) <|
       .go 0 [.a 19, .a 3, .a 21])))) (
    .ins (.pr (.scl) [.a 2]) <|
    .ret [.a 7]))
def S_heldLineS : Nat → Sem1 := pick [(29, F_heldIntS)]
def F_heldLineS : Sem1 := fun ts => p_heldLineS.den S_heldLineS rounds [] ts
def p_FnExactTableOf : PL :=
  .ins (.cl 30 [.a 0, .k (.int .i64 1048576)] 1) <|
  .ins (.pr (.bin .lss) [.a 1, .k (.int .i64 0)]) <|
  .ite 2 (
   .ins (.pr (.scl) [.k (.bool true)]) <|
   .ret [.a 3]) (
   .ins (.cl 32 [.a 0] 1) <|
   .ins (.cl 31 [.a 3] 1) <|
   .ins (.cl 32 [.a 0] 1) <|
   .ins (.cl 33 [.a 5] 1) <|
   .ins (.cl 34 [.a 6, .a 4] 1) <|
   .ins (.pr (.un .not) [.a 7]) <|
   .ite 8 (
    .ins (.pr (.scl) [.k (.bool false)]) <|
    .ret [.a 9]) (
    .ins (.cl 32 [.a 0] 1) <|
    .ins (.cl 35 [.a 5, .a 9] 1) <|
    .ins (.pr (.un .not) [.a 10]) <|
    .ite 11 (
     .ins (.pr (.scl) [.k (.bool false)]) <|
     .ret [.a 12]) (
     .loop [.k (.int .i64 1), .k (.int .i64 0), .a 5] (
      .ins (.pr (.len) [.a 14]) <|
      .ins (.pr (.bin .lss) [.a 13, .a 15]) <|
      .ite 16 (
       .ins (.pr (.bin .rem) [.a 12, .k (.int .i64 3)]) <|
       .ins (.pr (.bin .eql) [.a 17, .k (.int .i64 0)]) <|
       .ins (.pr (.bnd) [.a 14, .a 13]) <|
       .ins (.pr (.put true 6 0 1) [.a 14, .a 13, .a 18]) <|
       .ins (.pr (.bin .add) [.a 12, .k (.int .i64 1)]) <|
       .ins (.pr (.bnd) [.a 20, .a 13]) <|
       .ins (.pr (.put true 6 1 1) [.a 20, .a 13, .a 21]) <|
       .ins (.pr (.bin .add) [.a 21, .k (.int .i64 1)]) <|
       .ins (.pr (.bnd) [.a 23, .a 13]) <|
       .ins (.pr (.put true 6 2 1) [.a 23, .a 13, .a 24]) <|
       .ins (.pr (.bin .add) [.a 24, .k (.int .i64 1)]) <|
       .ins (.pr (.bnd) [.a 26, .a 13]) <|
       .ins (.pr (.put true 6 3 1) [.a 26, .a 13, .a 27]) <|
       .ins (.pr (.bin .add) [.a 27, .k (.int .i64 1)]) <|
       .ins (.pr (.bnd) [.a 29, .a 13]) <|
       .ins (.pr (.put true 6 4 1) [.a 29, .a 13, .a 30]) <|
       .ins (.pr (.bin .add) [.a 30, .k (.int .i64 1)]) <|
       .ins (.pr (.bnd) [.a 32, .a 13]) <|
       .ins (.pr (.dig 6 5) [.a 32, .a 13]) <|
       .loop [.a 33, .k (.int .i64 0), .a 32] (
        .ins (.pr (.dig 6 5) [.a 38, .a 13]) <|
        .ins (.pr (.len) [.a 39]) <|
        .ins (.pr (.bin .lss) [.a 37, .a 40]) <|
        .ite 41 (
         .ins (.pr (.dig 6 5) [.a 38, .a 13]) <|
         .ins (.pr (.bnd) [.a 42, .a 37]) <|
         .ins (.pr (.dig 6 5) [.a 38, .a 13]) <|
         .ins (.pr (.put true 1 0 1) [.a 44, .a 37, .a 36]) <|
         .ins (.pr (.dig 6 5) [.a 38, .a 13]) <|
         .ins (.pr (.bury 6 5) [.a 38, .a 13, .a 45]) <|
         .ins (.pr (.bin .add) [.a 36, .k (.int .i64 1)]) <|
         .ins (.pr (.bin .add) [.a 37, .k (.int .i64 1)]) <|
         .go 0 [.a 48, .a 49, .a 47]) (
         .ins (.pr (.bin .add) [.a 13, .k (.int .i64 1)]) <|
         .go 1 [.a 36, .a 42, .a 38]))) (
       .ins (.pr (.bin .lss) [.a 12, .k (.int .i64 0)]) <|
       .ite 17 (
        .ins (.pr (.scl) [.k (.bool false)]) <|
        .ret [.a 18]) (
        .ins (.cl 34 [.a 6, .a 4] 1) <|
        .ins (.pr (.un .not) [.a 18]) <|
        .ite 19 (
         .ins (.pr (.scl) [.k (.bool false)]) <|
         .ret [.a 20]) (
         .loop [.k (.int .i64 1), .k (.int .i64 0), .a 6] (
          .ins (.pr (.len) [.a 22]) <|
          .ins (.pr (.bin .lss) [.a 21, .a 23]) <|
          .ite 24 (
           .ins (.pr (.bin .rem) [.a 20, .k (.int .i64 3)]) <|
           .ins (.pr (.bin .eql) [.a 25, .k (.int .i64 0)]) <|
           .ins (.pr (.bnd) [.a 22, .a 21]) <|
           .ins (.pr (.put true 3 0 1) [.a 22, .a 21, .a 26]) <|
           .ins (.pr (.bin .add) [.a 20, .k (.int .i64 1)]) <|
           .ins (.pr (.bnd) [.a 28, .a 21]) <|
           .ins (.pr (.put true 3 1 1) [.a 28, .a 21, .a 29]) <|
           .ins (.pr (.bin .add) [.a 29, .k (.int .i64 1)]) <|
           .ins (.pr (.bnd) [.a 31, .a 21]) <|
           .ins (.pr (.dig 3 2) [.a 31, .a 21]) <|
           .loop [.a 32, .k (.int .i64 0), .a 31] (
            .ins (.pr (.dig 3 2) [.a 37, .a 21]) <|
            .ins (.pr (.len) [.a 38]) <|
            .ins (.pr (.bin .lss) [.a 36, .a 39]) <|
            .ite 40 (
             .ins (.pr (.dig 3 2) [.a 37, .a 21]) <|
             .ins (.pr (.bnd) [.a 41, .a 36]) <|
             .ins (.pr (.dig 3 2) [.a 37, .a 21]) <|
             .ins (.pr (.put true 1 0 1) [.a 43, .a 36, .a 35]) <|
             .ins (.pr (.dig 3 2) [.a 37, .a 21]) <|
             .ins (.pr (.bury 3 2) [.a 37, .a 21, .a 44]) <|
             .ins (.pr (.bin .add) [.a 35, .k (.int .i64 1)]) <|
             .ins (.pr (.bin .add) [.a 36, .k (.int .i64 1)]) <|
             .go 0 [.a 47, .a 48, .a 46]) (
             .ins (.pr (.bin .add) [.a 21, .k (.int .i64 1)]) <|
             .go 1 [.a 35, .a 41, .a 37]))) (
           .ins (.cl 38 [.a 22, .k (.int .i64 1)] 1) <|
           .ins (.pr (.bin .lss) [.a 25, .k (.int .i64 0)]) <|
           .ite 26 (
            .ins (.pr (.scl) [.k (.bool false)]) <|
            .ret [.a 27]) (
            .ins (.pr (.bin .neq) [.a 25, .a 20]) <|
            .ite 27 (
             .ins (.pr (.scl) [.k (.bool false)]) <|
             .ret [.a 28]) (
             .ins (.cl 32 [.a 0] 1) <|
             .ins (.cl 33 [.a 28] 1) <|
             .ins (.cl 34 [.a 29, .a 4] 1) <|
             .ins (.pr (.un .not) [.a 30]) <|
             .ite 31 (
              .ins (.pr (.scl) [.k (.bool false)]) <|
              .ret [.a 32]) (
              .ins (.cl 38 [.a 22, .k (.int .i64 1)] 1) <|
              .ins (.pr (.bin .lss) [.a 32, .k (.int .i64 0)]) <|
              .ite 33 (
               .ins (.pr (.scl) [.k (.bool false)]) <|
               .ret [.a 34]) (
               .ins (.pr (.bin .neq) [.a 32, .a 20]) <|
               .ite 34 (
                .ins (.pr (.scl) [.k (.bool false)]) <|
                .ret [.a 35]) (
                .ins (.pr (.scl) [.k (.bool true)]) <|
                .ret [.a 35]))))))))))))))
def S_FnExactTableOf : Nat → Sem1 := pick [(30, F_szRouteS), (31, F_s_TableOf), (32, F_toRouteS), (33, F_i_TableOf), (34, F_eqLineS), (35, F_eqRouteS), (38, F_heldLineS)]
def F_FnExactTableOf : Sem1 := fun ts => p_FnExactTableOf.den S_FnExactTableOf rounds [] ts
def p_szLine : PL :=
  .ins (.cl 81 [.a 2, .a 3] 1) <|
  .ins (.pr (.bin .lss) [.a 4, .k (.int .i64 0)]) <|
  .ite 5 (
   .ins (.pr (.scl) [.k (.int .i64 (-1))]) <|
   .ret [.a 6]) (
   .ins (.pr (.scl) [.a 4]) <|
   .ret [.a 6])
def S_szLine : Nat → Sem1 := pick [(81, F_szIntS)]
def F_szLine : Sem1 := fun ts => p_szLine.den S_szLine rounds [] ts
def p_szLineS : PL :=
  .ins (.pr (.len) [.a 0]) <|
  .ins (.pr (.bin .sub) [.a 1, .a 2]) <|
  .ins (.pr (.bin .lss) [.a 3, .k (.int .i64 0)]) <|
  .ite 4 (
   .ins (.pr (.scl) [.k (.int .i64 (-1))]) <|
   .ret [.a 5]) (
   .loop [.a 3, .k (.int .i64 0), .k (.int .i64 0)] (
    .ins (.pr (.len) [.a 0]) <|
    .ins (.pr (.bin .lss) [.a 7, .a 8]) <|
    .ite 9 (
     .ins (.pr (.bnd) [.a 0, .a 7]) <|
     .ins (.pr (.cell 3 0) [.a 0, .a 7]) <|
     .ins (.pr (.cell 3 1) [.a 0, .a 7]) <|
     .ins (.pr (.cell 3 2) [.a 0, .a 7]) <|
     .ins (.cl 67 [.a 11, .a 12, .a 13, .a 5] 1) <|
     .ins (.pr (.bin .lss) [.a 14, .k (.int .i64 0)]) <|
     .ite 15 (
      .ins (.pr (.scl) [.k (.int .i64 (-1))]) <|
      .ret [.a 16]) (
      .ins (.pr (.bin .add) [.a 7, .k (.int .i64 1)]) <|
      .go 0 [.a 14, .a 6, .a 16])) (
     .ins (.pr (.scl) [.a 5]) <|
     .ret [.a 10])))
def S_szLineS : Nat → Sem1 := pick [(67, F_szLine)]
def F_szLineS : Sem1 := fun ts => p_szLineS.den S_szLineS rounds [] ts
def p_toLine : PL :=
  .ins (.cl 23 [.a 2] 1) <|
  .ins (.pr (.scl) [.a 1]) <|
  .ins (.pr (.scl) [.a 0]) <|
  .ret [.a 5, .a 4, .a 3]
def S_toLine : Nat → Sem1 := pick [(23, F_toIntS)]
def F_toLine : Sem1 := fun ts => p_toLine.den S_toLine rounds [] ts
def p_toLineS : PL :=
  .ins (.pr (.len) [.a 0]) <|
  .ins (.pr (.mk) [.a 1, .a 1, .k (.bool false), .k (.int .i64 0), .e]) <|
  .loop [.k (.int .i64 0), .a 2] (
   .ins (.pr (.len) [.a 0]) <|
   .ins (.pr (.bin .lss) [.a 3, .a 5]) <|
   .ite 6 (
    .ins (.pr (.bnd) [.a 0, .a 3]) <|
    .ins (.pr (.cell 3 0) [.a 0, .a 3]) <|
    .ins (.pr (.cell 3 1) [.a 0, .a 3]) <|
    .ins (.pr (.cell 3 2) [.a 0, .a 3]) <|
    .ins (.cl 69 [.a 8, .a 9, .a 10] 3) <|
    .ins (.pr (.bnd) [.a 4, .a 3]) <|
    .ins (.pr (.putD [true, true, false] 3 0) [.a 4, .a 3, .a 11, .a 12, .a 13]) <|
    .ins (.pr (.bin .add) [.a 3, .k (.int .i64 1)]) <|
    .go 0 [.a 16, .a 15]) (
    .ret [.a 4]))
def S_toLineS : Nat → Sem1 := pick [(69, F_toLine)]
def F_toLineS : Sem1 := fun ts => p_toLineS.den S_toLineS rounds [] ts
def p_s_l10SameInts : PL :=
  .ins (.pr (.len) [.a 0]) <|
  .ins (.pr (.len) [.a 1]) <|
  .ins (.pr (.bin .neq) [.a 2, .a 3]) <|
  .ite 4 (
   .ins (.pr (.scl) [.k (.bool false)]) <|
   .ret [.a 5]) (
   .loop [.k (.bool false), .k (.int .i64 0)] (
    .ins (.pr (.len) [.a 0]) <|
    .ins (.pr (.bin .lss) [.a 6, .a 7]) <|
    .ite 8 (
     .ins (.pr (.bnd) [.a 0, .a 6]) <|
     .ins (.pr (.cell 1 0) [.a 0, .a 6]) <|
     .ins (.pr (.bnd) [.a 1, .a 6]) <|
     .ins (.pr (.cell 1 0) [.a 1, .a 6]) <|
     .ins (.pr (.bin .neq) [.a 10, .a 12]) <|
     .ite 13 (
      .ins (.pr (.scl) [.k (.bool false)]) <|
      .ret [.a 14]) (
      .ins (.pr (.bin .add) [.a 6, .k (.int .i64 1)]) <|
      .go 0 [.a 5, .a 14])) (
     .ins (.pr (.scl) [.k (.bool true)]) <|
     .ret [.a 9])))
def S_s_l10SameInts : Nat → Sem1 := pick []
def F_s_l10SameInts : Sem1 := fun ts => p_s_l10SameInts.den S_s_l10SameInts rounds [] ts
def p_s_Differ : PL :=
  .ins (.pr (.lit 4 []) []) <|
  .loop [.a 2, .k (.int .i64 0)] (
   .ins (.pr (.len) [.a 0]) <|
   .ins (.pr (.bin .lss) [.a 4, .a 5]) <|
   .ite 6 (
    .ins (.pr (.bnd) [.a 0, .a 4]) <|
    .ins (.pr (.cell 3 0) [.a 0, .a 4]) <|
    .ins (.pr (.cell 3 1) [.a 0, .a 4]) <|
    .ins (.pr (.cell 3 2) [.a 0, .a 4]) <|
    .ins (.cl 59 [.a 1, .a 8, .a 9, .a 10] 1) <|
    .ins (.pr (.bin .lss) [.a 11, .k (.int .i64 0)]) <|
    .join (
     .ins (.pr (.bin .add) [.a 4, .k (.int .i64 1)]) <|
     .go 0 [.a 13, .a 14]) (
     .ite 12 (
      .ins (.pr (.bnd) [.a 0, .a 4]) <|
      .ins (.pr (.cell 3 0) [.a 0, .a 4]) <|
      .ins (.pr (.bnd) [.a 0, .a 4]) <|
      .ins (.pr (.cell 3 1) [.a 0, .a 4]) <|
      .ins (.pr (.lit 4 [true, true, true, false]) [.k (.bool true), .a 14, .a 16, .e]) <|
      .ins (.pr (.app false 4) [.a 3, .a 17]) <|
      .go 0 [.a 18]) (
      .go 0 [.a 3]))) (
    .loop [.a 3, .k (.int .i64 0)] (
     .ins (.pr (.len) [.a 1]) <|
     .ins (.pr (.bin .lss) [.a 8, .a 9]) <|
     .ite 10 (
      .ins (.pr (.bnd) [.a 1, .a 8]) <|
      .ins (.pr (.cell 3 0) [.a 1, .a 8]) <|
      .ins (.pr (.cell 3 1) [.a 1, .a 8]) <|
      .ins (.pr (.cell 3 2) [.a 1, .a 8]) <|
      .ins (.cl 59 [.a 0, .a 12, .a 13, .a 14] 1) <|
      .ins (.pr (.bin .lss) [.a 15, .k (.int .i64 0)]) <|
      .ite 16 (
       .join (
        .ins (.pr (.bin .add) [.a 8, .k (.int .i64 1)]) <|
        .go 0 [.a 17, .a 18]) (
        .ins (.pr (.bnd) [.a 1, .a 8]) <|
        .ins (.pr (.cell 3 0) [.a 1, .a 8]) <|
        .ins (.pr (.cell 3 1) [.a 1, .a 8]) <|
        .ins (.pr (.cell 3 2) [.a 1, .a 8]) <|
        .ins (.cl 62 [.a 18, .a 19, .a 20] 3) <|
        .ins (.pr (.lit 4 [true, true, true, false]) [.k (.bool false), .a 21, .a 22, .a 23]) <|
        .ins (.pr (.app false 4) [.a 7, .a 24]) <|
        .go 0 [.a 25])) (
       .ins (.pr (.bnd) [.a 0, .a 15]) <|
       .ins (.pr (.cell 3 2) [.a 0, .a 15]) <|
       .ins (.pr (.bnd) [.a 1, .a 8]) <|
       .ins (.pr (.cell 3 2) [.a 1, .a 8]) <|
       .ins (.cl 68 [.a 18, .a 20] 1) <|
       .ins (.pr (.un .not) [.a 21]) <|
       .join (
        .ins (.pr (.bin .add) [.a 8, .k (.int .i64 1)]) <|
        .go 0 [.a 23, .a 24]) (
        .ite 22 (
         .ins (.pr (.bnd) [.a 1, .a 8]) <|
         .ins (.pr (.cell 3 0) [.a 1, .a 8]) <|
         .ins (.pr (.cell 3 1) [.a 1, .a 8]) <|
         .ins (.pr (.cell 3 2) [.a 1, .a 8]) <|
         .ins (.cl 62 [.a 24, .a 25, .a 26] 3) <|
         .ins (.pr (.lit 4 [true, true, true, false]) [.k (.bool false), .a 27, .a 28, .a 29]) <|
         .ins (.pr (.app false 4) [.a 7, .a 30]) <|
         .go 0 [.a 31]) (
         .go 0 [.a 7])))) (
      .ret [.a 7]))))
def S_s_Differ : Nat → Sem1 := pick [(59, F_s_l11At), (62, F_s_l11Copy), (68, F_s_l10SameInts)]
def F_s_Differ : Sem1 := fun ts => p_s_Differ.den S_s_Differ rounds [] ts
def p_i_sameInts : PL :=
  .ins (.pr (.len) [.a 0]) <|
  .ins (.pr (.len) [.a 1]) <|
  .ins (.pr (.bin .neq) [.a 2, .a 3]) <|
  .ite 4 (
   .ins (.pr (.scl) [.k (.bool false)]) <|
   .ret [.a 5]) (
   .ins (.pr (.len) [.a 0]) <|
   .loop [.k (.bool false), .k (.int .i64 0)] (
    .ins (.pr (.bin .lss) [.a 7, .a 5]) <|
    .ite 8 (
     .ins (.pr (.bnd) [.a 0, .a 7]) <|
     .ins (.pr (.cell 1 0) [.a 0, .a 7]) <|
     .ins (.pr (.bnd) [.a 1, .a 7]) <|
     .ins (.pr (.cell 1 0) [.a 1, .a 7]) <|
     .ins (.pr (.bin .neq) [.a 10, .a 12]) <|
     .ite 13 (
      .ins (.pr (.scl) [.k (.bool false)]) <|
      .ret [.a 14]) (
      .ins (.pr (.bin .add) [.a 7, .k (.int .i64 1)]) <|
      .go 0 [.a 6, .a 14])) (
     .ins (.pr (.scl) [.k (.bool true)]) <|
     .ret [.a 9])))
def S_i_sameInts : Nat → Sem1 := pick []
def F_i_sameInts : Sem1 := fun ts => p_i_sameInts.den S_i_sameInts rounds [] ts
def p_i_Differ : PL :=
  .ins (.pr (.len) [.a 0]) <|
  .loop [.e, .k (.int .i64 0)] (
   .ins (.pr (.bin .lss) [.a 4, .a 2]) <|
   .ite 5 (
    .ins (.pr (.bnd) [.a 0, .a 4]) <|
    .ins (.pr (.cell 3 0) [.a 0, .a 4]) <|
    .ins (.pr (.cell 3 1) [.a 0, .a 4]) <|
    .ins (.pr (.cell 3 2) [.a 0, .a 4]) <|
    .ins (.cl 60 [.a 1, .a 7, .a 8, .a 9] 1) <|
    .ins (.pr (.bin .lss) [.a 10, .k (.int .i64 0)]) <|
    .join (
     .ins (.pr (.bin .add) [.a 4, .k (.int .i64 1)]) <|
     .go 0 [.a 12, .a 13]) (
     .ite 11 (
      .ins (.pr (.lit 4 [true, true, true, false]) [.k (.bool true), .a 7, .a 8, .e]) <|
      .ins (.pr (.app false 4) [.a 3, .a 12]) <|
      .go 0 [.a 13]) (
      .go 0 [.a 3]))) (
    .ins (.pr (.len) [.a 1]) <|
    .loop [.a 3, .k (.int .i64 0)] (
     .ins (.pr (.bin .lss) [.a 8, .a 6]) <|
     .ite 9 (
      .ins (.pr (.bnd) [.a 1, .a 8]) <|
      .ins (.pr (.cell 3 0) [.a 1, .a 8]) <|
      .ins (.pr (.cell 3 1) [.a 1, .a 8]) <|
      .ins (.pr (.cell 3 2) [.a 1, .a 8]) <|
      .ins (.cl 60 [.a 0, .a 11, .a 12, .a 13] 1) <|
      .ins (.pr (.bin .lss) [.a 14, .k (.int .i64 0)]) <|
      .ite 15 (
       .join (
        .ins (.pr (.bin .add) [.a 8, .k (.int .i64 1)]) <|
        .go 0 [.a 16, .a 17]) (
        .ins (.cl 64 [.a 11, .a 12, .a 13] 3) <|
        .ins (.pr (.lit 4 [true, true, true, false]) [.k (.bool false), .a 16, .a 17, .a 18]) <|
        .ins (.pr (.app false 4) [.a 7, .a 19]) <|
        .go 0 [.a 20])) (
       .ins (.pr (.bnd) [.a 0, .a 14]) <|
       .ins (.pr (.cell 3 2) [.a 0, .a 14]) <|
       .ins (.cl 70 [.a 17, .a 13] 1) <|
       .ins (.pr (.un .not) [.a 18]) <|
       .join (
        .ins (.pr (.bin .add) [.a 8, .k (.int .i64 1)]) <|
        .go 0 [.a 20, .a 21]) (
        .ite 19 (
         .ins (.cl 64 [.a 11, .a 12, .a 13] 3) <|
         .ins (.pr (.lit 4 [true, true, true, false]) [.k (.bool false), .a 20, .a 21, .a 22]) <|
         .ins (.pr (.app false 4) [.a 7, .a 23]) <|
         .go 0 [.a 24]) (
         .go 0 [.a 7])))) (
      .ret [.a 7]))))
def S_i_Differ : Nat → Sem1 := pick [(60, F_i_lineAt), (64, F_i_copyLine), (70, F_i_sameInts)]
def F_i_Differ : Sem1 := fun ts => p_i_Differ.den S_i_Differ rounds [] ts
def p_eqTurn : PL :=
  .ins (.pr (.bb .neq) [.a 0, .a 4]) <|
  .ite 8 (
   .ins (.pr (.scl) [.k (.bool false)]) <|
   .ret [.a 9]) (
   .ins (.cl 65 [.a 1, .a 2, .a 3, .a 5, .a 6, .a 7] 1) <|
   .ins (.pr (.un .not) [.a 9]) <|
   .ite 10 (
    .ins (.pr (.scl) [.k (.bool false)]) <|
    .ret [.a 11]) (
    .ins (.pr (.scl) [.k (.bool true)]) <|
    .ret [.a 11]))
def S_eqTurn : Nat → Sem1 := pick [(65, F_eqLine)]
def F_eqTurn : Sem1 := fun ts => p_eqTurn.den S_eqTurn rounds [] ts
def p_eqTurnS : PL :=
  .ins (.pr (.len) [.a 0]) <|
  .ins (.pr (.len) [.a 1]) <|
  .ins (.pr (.bin .neq) [.a 2, .a 3]) <|
  .ite 4 (
   .ins (.pr (.scl) [.k (.bool false)]) <|
   .ret [.a 5]) (
   .loop [.k (.bool false), .k (.int .i64 0)] (
    .ins (.pr (.len) [.a 0]) <|
    .ins (.pr (.bin .lss) [.a 6, .a 7]) <|
    .ite 8 (
     .ins (.pr (.bnd) [.a 0, .a 6]) <|
     .ins (.pr (.cell 4 0) [.a 0, .a 6]) <|
     .ins (.pr (.cell 4 1) [.a 0, .a 6]) <|
     .ins (.pr (.cell 4 2) [.a 0, .a 6]) <|
     .ins (.pr (.cell 4 3) [.a 0, .a 6]) <|
     .ins (.pr (.bnd) [.a 1, .a 6]) <|
     .ins (.pr (.cell 4 0) [.a 1, .a 6]) <|
     .ins (.pr (.cell 4 1) [.a 1, .a 6]) <|
     .ins (.pr (.cell 4 2) [.a 1, .a 6]) <|
     .ins (.pr (.cell 4 3) [.a 1, .a 6]) <|
     .ins (.cl 71 [.a 10, .a 11, .a 12, .a 13, .a 15, .a 16, .a 17, .a 18] 1) <|
     .ins (.pr (.un .not) [.a 19]) <|
     .ite 20 (
      .ins (.pr (.scl) [.k (.bool false)]) <|
      .ret [.a 21]) (
      .ins (.pr (.bin .add) [.a 6, .k (.int .i64 1)]) <|
      .go 0 [.a 5, .a 21])) (
     .ins (.pr (.scl) [.k (.bool true)]) <|
     .ret [.a 9])))
def S_eqTurnS : Nat → Sem1 := pick [(71, F_eqTurn)]
def F_eqTurnS : Sem1 := fun ts => p_eqTurnS.den S_eqTurnS rounds [] ts
def p_heldTurnS : PL :=
  .loop [.a 1, .k (.int .i64 0), .k (.int .i64 0)] (
   .ins (.pr (.len) [.a 0]) <|
   .ins (.pr (.bin .lss) [.a 4, .a 5]) <|
   .ite 6 (
    .ins (.pr (.bnd) [.a 0, .a 4]) <|
    .ins (.pr (.cell 4 0) [.a 0, .a 4]) <|
    .ins (.pr (.bin .rem) [.a 2, .k (.int .i64 3)]) <|
    .ins (.pr (.bin .eql) [.a 9, .k (.int .i64 0)]) <|
    .ins (.pr (.bb .neq) [.a 8, .a 10]) <|
    .ite 11 (
     .ins (.pr (.scl) [.k (.int .i64 (-1))]) <|
     .ret [.a 12]) (
     .ins (.pr (.bin .add) [.a 2, .k (.int .i64 1)]) <|
     .ins (.pr (.bnd) [.a 0, .a 4]) <|
     .ins (.pr (.cell 4 1) [.a 0, .a 4]) <|
     .ins (.pr (.bin .rem) [.a 12, .k (.int .i64 3)]) <|
     .ins (.pr (.bin .eql) [.a 15, .k (.int .i64 0)]) <|
     .ins (.pr (.bb .neq) [.a 14, .a 16]) <|
     .ite 17 (
      .ins (.pr (.scl) [.k (.int .i64 (-1))]) <|
      .ret [.a 18]) (
      .ins (.pr (.bin .add) [.a 12, .k (.int .i64 1)]) <|
      .ins (.pr (.bnd) [.a 0, .a 4]) <|
      .ins (.pr (.cell 4 2) [.a 0, .a 4]) <|
      .ins (.pr (.bin .neq) [.a 20, .a 18]) <|
      .ite 21 (
       .ins (.pr (.scl) [.k (.int .i64 (-1))]) <|
       .ret [.a 22]) (
       .ins (.pr (.bin .add) [.a 18, .k (.int .i64 1)]) <|
       .ins (.pr (.bnd) [.a 0, .a 4]) <|
       .ins (.pr (.cell 4 3) [.a 0, .a 4]) <|
       .ins (.cl 29 [.a 24, .a 22] 1) <|
       .ins (.pr (.bin .lss) [.a 25, .k (.int .i64 0)]) <|
       .ite 26 (
        .ins (.pr (.scl) [.k (.int .i64 (-1))]) <|
        .ret [.a 27]) (
        .ins (.pr (.bin .add) [.a 4, .k (.int .i64 1)]) <|
        .go 0 [.a 25, .a 3, .a 27]))))) (
    .ins (.pr (.scl) [.a 2]) <|
    .ret [.a 7]))
def S_heldTurnS : Nat → Sem1 := pick [(29, F_heldIntS)]
def F_heldTurnS : Sem1 := fun ts => p_heldTurnS.den S_heldTurnS rounds [] ts
def p_FnExactDiffer : PL :=
  .ins (.cl 39 [.a 0, .k (.int .i64 1048576)] 1) <|
  .ins (.pr (.bin .lss) [.a 2, .k (.int .i64 0)]) <|
  .ite 3 (
   .ins (.pr (.scl) [.k (.bool true)]) <|
   .ret [.a 4]) (
   .ins (.cl 39 [.a 1, .a 2] 1) <|
   .ins (.pr (.bin .lss) [.a 4, .k (.int .i64 0)]) <|
   .ite 5 (
    .ins (.pr (.scl) [.k (.bool true)]) <|
    .ret [.a 6]) (
    .ins (.cl 41 [.a 0] 1) <|
    .ins (.cl 41 [.a 1] 1) <|
    .ins (.cl 40 [.a 6, .a 7] 1) <|
    .ins (.cl 41 [.a 0] 1) <|
    .ins (.cl 41 [.a 1] 1) <|
    .ins (.cl 42 [.a 9, .a 10] 1) <|
    .ins (.cl 43 [.a 11, .a 8] 1) <|
    .ins (.pr (.un .not) [.a 12]) <|
    .ite 13 (
     .ins (.pr (.scl) [.k (.bool false)]) <|
     .ret [.a 14]) (
     .ins (.cl 41 [.a 0] 1) <|
     .ins (.cl 34 [.a 9, .a 14] 1) <|
     .ins (.pr (.un .not) [.a 15]) <|
     .ite 16 (
      .ins (.pr (.scl) [.k (.bool false)]) <|
      .ret [.a 17]) (
      .ins (.cl 41 [.a 1] 1) <|
      .ins (.cl 34 [.a 10, .a 17] 1) <|
      .ins (.pr (.un .not) [.a 18]) <|
      .ite 19 (
       .ins (.pr (.scl) [.k (.bool false)]) <|
       .ret [.a 20]) (
       .loop [.k (.int .i64 1), .k (.int .i64 0), .a 9] (
        .ins (.pr (.len) [.a 22]) <|
        .ins (.pr (.bin .lss) [.a 21, .a 23]) <|
        .ite 24 (
         .ins (.pr (.bin .rem) [.a 20, .k (.int .i64 3)]) <|
         .ins (.pr (.bin .eql) [.a 25, .k (.int .i64 0)]) <|
         .ins (.pr (.bnd) [.a 22, .a 21]) <|
         .ins (.pr (.put true 3 0 1) [.a 22, .a 21, .a 26]) <|
         .ins (.pr (.bin .add) [.a 20, .k (.int .i64 1)]) <|
         .ins (.pr (.bnd) [.a 28, .a 21]) <|
         .ins (.pr (.put true 3 1 1) [.a 28, .a 21, .a 29]) <|
         .ins (.pr (.bin .add) [.a 29, .k (.int .i64 1)]) <|
         .ins (.pr (.bnd) [.a 31, .a 21]) <|
         .ins (.pr (.dig 3 2) [.a 31, .a 21]) <|
         .loop [.a 32, .k (.int .i64 0), .a 31] (
          .ins (.pr (.dig 3 2) [.a 37, .a 21]) <|
          .ins (.pr (.len) [.a 38]) <|
          .ins (.pr (.bin .lss) [.a 36, .a 39]) <|
          .ite 40 (
           .ins (.pr (.dig 3 2) [.a 37, .a 21]) <|
           .ins (.pr (.bnd) [.a 41, .a 36]) <|
           .ins (.pr (.dig 3 2) [.a 37, .a 21]) <|
           .ins (.pr (.put true 1 0 1) [.a 43, .a 36, .a 35]) <|
           .ins (.pr (.dig 3 2) [.a 37, .a 21]) <|
           .ins (.pr (.bury 3 2) [.a 37, .a 21, .a 44]) <|
           .ins (.pr (.bin .add) [.a 35, .k (.int .i64 1)]) <|
           .ins (.pr (.bin .add) [.a 36, .k (.int .i64 1)]) <|
           .go 0 [.a 47, .a 48, .a 46]) (
           .ins (.pr (.bin .add) [.a 21, .k (.int .i64 1)]) <|
           .go 1 [.a 35, .a 41, .a 37]))) (
         .loop [.a 20, .k (.int .i64 0), .a 10] (
          .ins (.pr (.len) [.a 27]) <|
          .ins (.pr (.bin .lss) [.a 26, .a 28]) <|
          .ite 29 (
           .ins (.pr (.bin .rem) [.a 25, .k (.int .i64 3)]) <|
           .ins (.pr (.bin .eql) [.a 30, .k (.int .i64 0)]) <|
           .ins (.pr (.bnd) [.a 27, .a 26]) <|
           .ins (.pr (.put true 3 0 1) [.a 27, .a 26, .a 31]) <|
           .ins (.pr (.bin .add) [.a 25, .k (.int .i64 1)]) <|
           .ins (.pr (.bnd) [.a 33, .a 26]) <|
           .ins (.pr (.put true 3 1 1) [.a 33, .a 26, .a 34]) <|
           .ins (.pr (.bin .add) [.a 34, .k (.int .i64 1)]) <|
           .ins (.pr (.bnd) [.a 36, .a 26]) <|
           .ins (.pr (.dig 3 2) [.a 36, .a 26]) <|
           .loop [.a 37, .k (.int .i64 0), .a 36] (
            .ins (.pr (.dig 3 2) [.a 42, .a 26]) <|
            .ins (.pr (.len) [.a 43]) <|
            .ins (.pr (.bin .lss) [.a 41, .a 44]) <|
            .ite 45 (
             .ins (.pr (.dig 3 2) [.a 42, .a 26]) <|
             .ins (.pr (.bnd) [.a 46, .a 41]) <|
             .ins (.pr (.dig 3 2) [.a 42, .a 26]) <|
             .ins (.pr (.put true 1 0 1) [.a 48, .a 41, .a 40]) <|
             .ins (.pr (.dig 3 2) [.a 42, .a 26]) <|
             .ins (.pr (.bury 3 2) [.a 42, .a 26, .a 49]) <|
             .ins (.pr (.bin .add) [.a 40, .k (.int .i64 1)]) <|
             .ins (.pr (.bin .add) [.a 41, .k (.int .i64 1)]) <|
             .go 0 [.a 52, .a 53, .a 51]) (
             .ins (.pr (.bin .add) [.a 26, .k (.int .i64 1)]) <|
             .go 1 [.a 40, .a 46, .a 42]))) (
           .ins (.pr (.bin .lss) [.a 25, .k (.int .i64 0)]) <|
           .ite 30 (
            .ins (.pr (.scl) [.k (.bool false)]) <|
            .ret [.a 31]) (
            .ins (.cl 43 [.a 11, .a 8] 1) <|
            .ins (.pr (.un .not) [.a 31]) <|
            .ite 32 (
             .ins (.pr (.scl) [.k (.bool false)]) <|
             .ret [.a 33]) (
             .loop [.k (.int .i64 1), .k (.int .i64 0), .a 11] (
              .ins (.pr (.len) [.a 35]) <|
              .ins (.pr (.bin .lss) [.a 34, .a 36]) <|
              .ite 37 (
               .ins (.pr (.bin .rem) [.a 33, .k (.int .i64 3)]) <|
               .ins (.pr (.bin .eql) [.a 38, .k (.int .i64 0)]) <|
               .ins (.pr (.bnd) [.a 35, .a 34]) <|
               .ins (.pr (.put true 4 0 1) [.a 35, .a 34, .a 39]) <|
               .ins (.pr (.bin .add) [.a 33, .k (.int .i64 1)]) <|
               .ins (.pr (.bin .rem) [.a 42, .k (.int .i64 3)]) <|
               .ins (.pr (.bin .eql) [.a 43, .k (.int .i64 0)]) <|
               .ins (.pr (.bnd) [.a 41, .a 34]) <|
               .ins (.pr (.put true 4 1 1) [.a 41, .a 34, .a 44]) <|
               .ins (.pr (.bin .add) [.a 42, .k (.int .i64 1)]) <|
               .ins (.pr (.bnd) [.a 46, .a 34]) <|
               .ins (.pr (.put true 4 2 1) [.a 46, .a 34, .a 47]) <|
               .ins (.pr (.bin .add) [.a 47, .k (.int .i64 1)]) <|
               .ins (.pr (.bnd) [.a 49, .a 34]) <|
               .ins (.pr (.dig 4 3) [.a 49, .a 34]) <|
               .loop [.a 50, .k (.int .i64 0), .a 49] (
                .ins (.pr (.dig 4 3) [.a 55, .a 34]) <|
                .ins (.pr (.len) [.a 56]) <|
                .ins (.pr (.bin .lss) [.a 54, .a 57]) <|
                .ite 58 (
                 .ins (.pr (.dig 4 3) [.a 55, .a 34]) <|
                 .ins (.pr (.bnd) [.a 59, .a 54]) <|
                 .ins (.pr (.dig 4 3) [.a 55, .a 34]) <|
                 .ins (.pr (.put true 1 0 1) [.a 61, .a 54, .a 53]) <|
                 .ins (.pr (.dig 4 3) [.a 55, .a 34]) <|
                 .ins (.pr (.bury 4 3) [.a 55, .a 34, .a 62]) <|
                 .ins (.pr (.bin .add) [.a 53, .k (.int .i64 1)]) <|
                 .ins (.pr (.bin .add) [.a 54, .k (.int .i64 1)]) <|
                 .go 0 [.a 65, .a 66, .a 64]) (
                 .ins (.pr (.bin .add) [.a 34, .k (.int .i64 1)]) <|
                 .go 1 [.a 53, .a 59, .a 55]))) (
               .ins (.cl 45 [.a 35, .k (.int .i64 1)] 1) <|
               .ins (.pr (.bin .lss) [.a 38, .k (.int .i64 0)]) <|
               .ite 39 (
                .ins (.pr (.scl) [.k (.bool false)]) <|
                .ret [.a 40]) (
                .ins (.pr (.bin .neq) [.a 38, .a 33]) <|
                .ite 40 (
                 .ins (.pr (.scl) [.k (.bool false)]) <|
                 .ret [.a 41]) (
                 .ins (.cl 41 [.a 0] 1) <|
                 .ins (.cl 41 [.a 1] 1) <|
                 .ins (.cl 42 [.a 41, .a 42] 1) <|
                 .ins (.cl 43 [.a 43, .a 8] 1) <|
                 .ins (.pr (.un .not) [.a 44]) <|
                 .ite 45 (
                  .ins (.pr (.scl) [.k (.bool false)]) <|
                  .ret [.a 46]) (
                  .ins (.cl 45 [.a 35, .k (.int .i64 1)] 1) <|
                  .ins (.pr (.bin .lss) [.a 46, .k (.int .i64 0)]) <|
                  .ite 47 (
                   .ins (.pr (.scl) [.k (.bool false)]) <|
                   .ret [.a 48]) (
                   .ins (.pr (.bin .neq) [.a 46, .a 33]) <|
                   .ite 48 (
                    .ins (.pr (.scl) [.k (.bool false)]) <|
                    .ret [.a 49]) (
                    .ins (.pr (.scl) [.k (.bool true)]) <|
                    .ret [.a 49]))))))))))))))))))
def S_FnExactDiffer : Nat → Sem1 := pick [(34, F_eqLineS), (39, F_szLineS), (40, F_s_Differ), (41, F_toLineS), (42, F_i_Differ), (43, F_eqTurnS), (45, F_heldTurnS)]
def F_FnExactDiffer : Sem1 := fun ts => p_FnExactDiffer.den S_FnExactDiffer rounds [] ts
def p_szLineSS : PL :=
  .ins (.pr (.len) [.a 0]) <|
  .ins (.pr (.bin .sub) [.a 1, .a 2]) <|
  .ins (.pr (.bin .lss) [.a 3, .k (.int .i64 0)]) <|
  .ite 4 (
   .ins (.pr (.scl) [.k (.int .i64 (-1))]) <|
   .ret [.a 5]) (
   .loop [.a 3, .k (.int .i64 0), .k (.int .i64 0)] (
    .ins (.pr (.len) [.a 0]) <|
    .ins (.pr (.bin .lss) [.a 7, .a 8]) <|
    .ite 9 (
     .ins (.pr (.bnd) [.a 0, .a 7]) <|
     .ins (.pr (.cell 1 0) [.a 0, .a 7]) <|
     .ins (.cl 39 [.a 11, .a 5] 1) <|
     .ins (.pr (.bin .lss) [.a 12, .k (.int .i64 0)]) <|
     .ite 13 (
      .ins (.pr (.scl) [.k (.int .i64 (-1))]) <|
      .ret [.a 14]) (
      .ins (.pr (.bin .add) [.a 7, .k (.int .i64 1)]) <|
      .go 0 [.a 12, .a 6, .a 14])) (
     .ins (.pr (.scl) [.a 5]) <|
     .ret [.a 10])))
def S_szLineSS : Nat → Sem1 := pick [(39, F_szLineS)]
def F_szLineSS : Sem1 := fun ts => p_szLineSS.den S_szLineSS rounds [] ts
def p_toLineSS : PL :=
  .ins (.pr (.len) [.a 0]) <|
  .ins (.pr (.mk) [.a 1, .a 1, .e]) <|
  .loop [.k (.int .i64 0), .a 2] (
   .ins (.pr (.len) [.a 0]) <|
   .ins (.pr (.bin .lss) [.a 3, .a 5]) <|
   .ite 6 (
    .ins (.pr (.bnd) [.a 0, .a 3]) <|
    .ins (.pr (.cell 1 0) [.a 0, .a 3]) <|
    .ins (.cl 41 [.a 8] 1) <|
    .ins (.pr (.bnd) [.a 4, .a 3]) <|
    .ins (.pr (.putD [false] 1 0) [.a 4, .a 3, .a 9]) <|
    .ins (.pr (.bin .add) [.a 3, .k (.int .i64 1)]) <|
    .go 0 [.a 12, .a 11]) (
    .ret [.a 4]))
def S_toLineSS : Nat → Sem1 := pick [(41, F_toLineS)]
def F_toLineSS : Sem1 := fun ts => p_toLineSS.den S_toLineSS rounds [] ts
def p_s_Walk : PL :=
  .ins (.pr (.lit 1 [true]) [.a 1]) <|
  .loop [.e, .k (.bool false), .a 4, .a 1, .k (.int .i64 0)] (
   .ins (.pr (.bin .neq) [.a 8, .a 2]) <|
   .ite 10 (
    .ins (.pr (.len) [.a 0]) <|
    .ins (.cl 48 [.a 8, .k (.int .i64 1), .a 11] 1) <|
    .ins (.pr (.un .not) [.a 12]) <|
    .ite 13 (
     .ins (.pr (.lit 1 []) []) <|
     .ins (.pr (.scl) [.k (.bool false)]) <|
     .ret [.a 14, .a 15]) (
     .ins (.pr (.bin .geq) [.a 9, .k (.int .i64 12)]) <|
     .ite 14 (
      .ins (.pr (.lit 1 []) []) <|
      .ins (.pr (.scl) [.k (.bool false)]) <|
      .ret [.a 15, .a 16]) (
      .ins (.pr (.bin .sub) [.a 8, .k (.int .i64 1)]) <|
      .ins (.pr (.bnd) [.a 0, .a 15]) <|
      .ins (.pr (.cell 1 0) [.a 0, .a 15]) <|
      .ins (.cl 59 [.a 17, .k (.bool false), .a 2, .e] 1) <|
      .ins (.pr (.bin .lss) [.a 18, .k (.int .i64 0)]) <|
      .ite 19 (
       .ins (.pr (.lit 1 []) []) <|
       .ins (.pr (.scl) [.k (.bool false)]) <|
       .ret [.a 20, .a 21]) (
       .ins (.pr (.bin .sub) [.a 8, .k (.int .i64 1)]) <|
       .ins (.pr (.bnd) [.a 0, .a 20]) <|
       .ins (.pr (.cell 1 0) [.a 0, .a 20]) <|
       .ins (.pr (.bnd) [.a 22, .a 18]) <|
       .ins (.pr (.cell 3 2) [.a 22, .a 18]) <|
       .ins (.pr (.len) [.a 24]) <|
       .ins (.pr (.bin .eql) [.a 25, .k (.int .i64 0)]) <|
       .ite 26 (
        .ins (.pr (.lit 1 []) []) <|
        .ins (.pr (.scl) [.k (.bool false)]) <|
        .ret [.a 27, .a 28]) (
        .ins (.pr (.len) [.a 3]) <|
        .ins (.pr (.bin .lss) [.a 9, .a 27]) <|
        .ite 28 (
         .ins (.pr (.bnd) [.a 3, .a 9]) <|
         .ins (.pr (.cell 1 0) [.a 3, .a 9]) <|
         .ins (.pr (.bin .gtr) [.a 30, .k (.int .i64 0)]) <|
         .join (
          .ins (.pr (.bin .sub) [.a 8, .k (.int .i64 1)]) <|
          .ins (.pr (.bnd) [.a 0, .a 33]) <|
          .ins (.pr (.cell 1 0) [.a 0, .a 33]) <|
          .ins (.pr (.bnd) [.a 35, .a 18]) <|
          .ins (.pr (.cell 3 2) [.a 35, .a 18]) <|
          .ins (.pr (.len) [.a 37]) <|
          .ins (.pr (.bin .rem) [.a 32, .a 38]) <|
          .ins (.pr (.bnd) [.a 37, .a 39]) <|
          .ins (.pr (.cell 1 0) [.a 37, .a 39]) <|
          .ins (.pr (.lit 1 [true]) [.a 41]) <|
          .ins (.pr (.app true 1) [.a 7, .a 42]) <|
          .ins (.pr (.bin .add) [.a 9, .k (.int .i64 1)]) <|
          .go 0 [.a 5, .a 6, .a 43, .a 41, .a 44]) (
          .ite 31 (
           .ins (.pr (.bnd) [.a 3, .a 9]) <|
           .ins (.pr (.cell 1 0) [.a 3, .a 9]) <|
           .go 0 [.a 33]) (
           .go 0 [.k (.int .i64 0)]))) (
         .join (
          .ins (.pr (.bin .sub) [.a 8, .k (.int .i64 1)]) <|
          .ins (.pr (.bnd) [.a 0, .a 30]) <|
          .ins (.pr (.cell 1 0) [.a 0, .a 30]) <|
          .ins (.pr (.bnd) [.a 32, .a 18]) <|
          .ins (.pr (.cell 3 2) [.a 32, .a 18]) <|
          .ins (.pr (.len) [.a 34]) <|
          .ins (.pr (.bin .rem) [.a 29, .a 35]) <|
          .ins (.pr (.bnd) [.a 34, .a 36]) <|
          .ins (.pr (.cell 1 0) [.a 34, .a 36]) <|
          .ins (.pr (.lit 1 [true]) [.a 38]) <|
          .ins (.pr (.app true 1) [.a 7, .a 39]) <|
          .ins (.pr (.bin .add) [.a 9, .k (.int .i64 1)]) <|
          .go 0 [.a 5, .a 6, .a 40, .a 38, .a 41]) (
          .go 0 [.k (.int .i64 0)]))))))) (
    .ins (.pr (.scl) [.k (.bool true)]) <|
    .ret [.a 7, .a 11]))
def S_s_Walk : Nat → Sem1 := pick [(48, F_s_l01In), (59, F_s_l11At)]
def F_s_Walk : Sem1 := fun ts => p_s_Walk.den S_s_Walk rounds [] ts
def p_i_Walk : PL :=
  .ins (.pr (.lit 1 [true]) [.a 1]) <|
  .loop [.e, .k (.bool false), .a 4, .a 1] (
   .ins (.pr (.bin .neq) [.a 8, .a 2]) <|
   .ite 9 (
    .ins (.pr (.len) [.a 7]) <|
    .ins (.pr (.bin .gtr) [.a 10, .k (.int .i64 12)]) <|
    .ite 11 (
     .ins (.pr (.scl) [.k (.bool false)]) <|
     .ret [.e, .a 12]) (
     .ins (.pr (.len) [.a 0]) <|
     .ins (.cl 51 [.a 8, .k (.int .i64 1), .a 12] 1) <|
     .ins (.pr (.un .not) [.a 13]) <|
     .ite 14 (
      .ins (.pr (.scl) [.k (.bool false)]) <|
      .ret [.e, .a 15]) (
      .ins (.pr (.bin .sub) [.a 8, .k (.int .i64 1)]) <|
      .ins (.pr (.bnd) [.a 0, .a 15]) <|
      .ins (.pr (.cell 1 0) [.a 0, .a 15]) <|
      .ins (.cl 60 [.a 17, .k (.bool false), .a 2, .e] 1) <|
      .ins (.pr (.bin .lss) [.a 18, .k (.int .i64 0)]) <|
      .ite 19 (
       .ins (.pr (.scl) [.k (.bool false)]) <|
       .ret [.e, .a 20]) (
       .ins (.pr (.bin .sub) [.a 8, .k (.int .i64 1)]) <|
       .ins (.pr (.bnd) [.a 0, .a 20]) <|
       .ins (.pr (.cell 1 0) [.a 0, .a 20]) <|
       .ins (.pr (.bnd) [.a 22, .a 18]) <|
       .ins (.pr (.cell 3 2) [.a 22, .a 18]) <|
       .ins (.pr (.len) [.a 24]) <|
       .ins (.pr (.bin .eql) [.a 25, .k (.int .i64 0)]) <|
       .ite 26 (
        .ins (.pr (.scl) [.k (.bool false)]) <|
        .ret [.e, .a 27]) (
        .ins (.pr (.bin .sub) [.a 8, .k (.int .i64 1)]) <|
        .ins (.pr (.bnd) [.a 0, .a 27]) <|
        .ins (.pr (.cell 1 0) [.a 0, .a 27]) <|
        .ins (.pr (.bnd) [.a 29, .a 18]) <|
        .ins (.pr (.cell 3 2) [.a 29, .a 18]) <|
        .ins (.pr (.len) [.a 7]) <|
        .ins (.pr (.bin .sub) [.a 32, .k (.int .i64 1)]) <|
        .ins (.pr (.len) [.a 3]) <|
        .ins (.pr (.bin .lss) [.a 33, .a 34]) <|
        .join (
         .ins (.pr (.len) [.a 31]) <|
         .ins (.pr (.bin .rem) [.a 36, .a 37]) <|
         .ins (.pr (.bnd) [.a 31, .a 38]) <|
         .ins (.pr (.cell 1 0) [.a 31, .a 38]) <|
         .ins (.pr (.lit 1 [true]) [.a 40]) <|
         .ins (.pr (.app true 1) [.a 7, .a 41]) <|
         .go 0 [.a 5, .a 6, .a 42, .a 40]) (
         .ite 35 (
          .ins (.pr (.bnd) [.a 3, .a 33]) <|
          .ins (.pr (.cell 1 0) [.a 3, .a 33]) <|
          .ins (.pr (.mx) [.a 37, .k (.int .i64 0)]) <|
          .go 0 [.a 38]) (
          .go 0 [.k (.int .i64 0)]))))))) (
    .ins (.pr (.scl) [.k (.bool true)]) <|
    .ret [.a 7, .a 10]))
def S_i_Walk : Nat → Sem1 := pick [(51, F_i_in), (60, F_i_lineAt)]
def F_i_Walk : Sem1 := fun ts => p_i_Walk.den S_i_Walk rounds [] ts
def p_eqLineSS : PL :=
  .ins (.pr (.len) [.a 0]) <|
  .ins (.pr (.len) [.a 1]) <|
  .ins (.pr (.bin .neq) [.a 2, .a 3]) <|
  .ite 4 (
   .ins (.pr (.scl) [.k (.bool false)]) <|
   .ret [.a 5]) (
   .loop [.k (.bool false), .k (.int .i64 0)] (
    .ins (.pr (.len) [.a 0]) <|
    .ins (.pr (.bin .lss) [.a 6, .a 7]) <|
    .ite 8 (
     .ins (.pr (.bnd) [.a 0, .a 6]) <|
     .ins (.pr (.cell 1 0) [.a 0, .a 6]) <|
     .ins (.pr (.bnd) [.a 1, .a 6]) <|
     .ins (.pr (.cell 1 0) [.a 1, .a 6]) <|
     .ins (.cl 34 [.a 10, .a 12] 1) <|
     .ins (.pr (.un .not) [.a 13]) <|
     .ite 14 (
      .ins (.pr (.scl) [.k (.bool false)]) <|
      .ret [.a 15]) (
      .ins (.pr (.bin .add) [.a 6, .k (.int .i64 1)]) <|
      .go 0 [.a 5, .a 15])) (
     .ins (.pr (.scl) [.k (.bool true)]) <|
     .ret [.a 9])))
def S_eqLineSS : Nat → Sem1 := pick [(34, F_eqLineS)]
def F_eqLineSS : Sem1 := fun ts => p_eqLineSS.den S_eqLineSS rounds [] ts
def p_FnExactWalk : PL :=
  .ins (.pr (.len) [.a 3]) <|
  .ins (.pr (.bin .gtr) [.a 4, .k (.int .i64 1048576)]) <|
  .ite 5 (
   .ins (.pr (.scl) [.k (.bool true)]) <|
   .ret [.a 6]) (
   .ins (.cl 20 [.a 0, .k (.int .i64 1048576)] 1) <|
   .ins (.pr (.bin .lss) [.a 6, .k (.int .i64 0)]) <|
   .ite 7 (
    .ins (.pr (.scl) [.k (.bool true)]) <|
    .ret [.a 8]) (
    .ins (.cl 22 [.a 0] 1) <|
    .ins (.cl 23 [.a 3] 1) <|
    .ins (.cl 21 [.a 8, .a 1, .a 2, .a 9] 2) <|
    .ins (.cl 22 [.a 0] 1) <|
    .ins (.cl 23 [.a 3] 1) <|
    .ins (.cl 24 [.a 12, .a 1, .a 2, .a 13] 2) <|
    .ins (.cl 25 [.a 14, .a 10] 1) <|
    .ins (.pr (.un .not) [.a 16]) <|
    .ite 17 (
     .ins (.pr (.scl) [.k (.bool false)]) <|
     .ret [.a 18]) (
     .ins (.pr (.bb .neq) [.a 15, .a 11]) <|
     .ite 18 (
      .ins (.pr (.scl) [.k (.bool false)]) <|
      .ret [.a 19]) (
      .ins (.cl 22 [.a 0] 1) <|
      .ins (.cl 26 [.a 12, .a 19] 1) <|
      .ins (.pr (.un .not) [.a 20]) <|
      .ite 21 (
       .ins (.pr (.scl) [.k (.bool false)]) <|
       .ret [.a 22]) (
       .ins (.cl 23 [.a 3] 1) <|
       .ins (.cl 25 [.a 13, .a 22] 1) <|
       .ins (.pr (.un .not) [.a 23]) <|
       .ite 24 (
        .ins (.pr (.scl) [.k (.bool false)]) <|
        .ret [.a 25]) (
        .loop [.k (.int .i64 1), .k (.int .i64 0), .a 12] (
         .ins (.pr (.len) [.a 27]) <|
         .ins (.pr (.bin .lss) [.a 26, .a 28]) <|
         .ite 29 (
          .ins (.pr (.bnd) [.a 27, .a 26]) <|
          .ins (.pr (.dig 1 0) [.a 27, .a 26]) <|
          .loop [.a 25, .k (.int .i64 0), .a 27] (
           .ins (.pr (.dig 1 0) [.a 34, .a 26]) <|
           .ins (.pr (.len) [.a 35]) <|
           .ins (.pr (.bin .lss) [.a 33, .a 36]) <|
           .ite 37 (
            .ins (.pr (.bin .rem) [.a 32, .k (.int .i64 3)]) <|
            .ins (.pr (.bin .eql) [.a 38, .k (.int .i64 0)]) <|
            .ins (.pr (.dig 1 0) [.a 34, .a 26]) <|
            .ins (.pr (.bnd) [.a 40, .a 33]) <|
            .ins (.pr (.dig 1 0) [.a 34, .a 26]) <|
            .ins (.pr (.put true 3 0 1) [.a 42, .a 33, .a 39]) <|
            .ins (.pr (.dig 1 0) [.a 34, .a 26]) <|
            .ins (.pr (.bury 1 0) [.a 34, .a 26, .a 43]) <|
            .ins (.pr (.bin .add) [.a 32, .k (.int .i64 1)]) <|
            .ins (.pr (.dig 1 0) [.a 45, .a 26]) <|
            .ins (.pr (.bnd) [.a 47, .a 33]) <|
            .ins (.pr (.dig 1 0) [.a 45, .a 26]) <|
            .ins (.pr (.put true 3 1 1) [.a 49, .a 33, .a 46]) <|
            .ins (.pr (.dig 1 0) [.a 45, .a 26]) <|
            .ins (.pr (.bury 1 0) [.a 45, .a 26, .a 50]) <|
            .ins (.pr (.bin .add) [.a 46, .k (.int .i64 1)]) <|
            .ins (.pr (.dig 1 0) [.a 52, .a 26]) <|
            .ins (.pr (.bnd) [.a 54, .a 33]) <|
            .ins (.pr (.dig 1 0) [.a 52, .a 26]) <|
            .ins (.pr (.dig 3 2) [.a 56, .a 33]) <|
            .loop [.a 53, .k (.int .i64 0), .a 52] (
             .ins (.pr (.dig 1 0) [.a 60, .a 26]) <|
             .ins (.pr (.dig 3 2) [.a 61, .a 33]) <|
             .ins (.pr (.len) [.a 62]) <|
             .ins (.pr (.bin .lss) [.a 59, .a 63]) <|
             .ite 64 (
              .ins (.pr (.dig 1 0) [.a 60, .a 26]) <|
              .ins (.pr (.dig 3 2) [.a 65, .a 33]) <|
              .ins (.pr (.bnd) [.a 66, .a 59]) <|
              .ins (.pr (.dig 1 0) [.a 60, .a 26]) <|
              .ins (.pr (.dig 3 2) [.a 68, .a 33]) <|
              .ins (.pr (.put true 1 0 1) [.a 69, .a 59, .a 58]) <|
              .ins (.pr (.dig 1 0) [.a 60, .a 26]) <|
              .ins (.pr (.dig 3 2) [.a 71, .a 33]) <|
              .ins (.pr (.bury 3 2) [.a 71, .a 33, .a 70]) <|
              .ins (.pr (.bury 1 0) [.a 60, .a 26, .a 73]) <|
              .ins (.pr (.bin .add) [.a 58, .k (.int .i64 1)]) <|
              .ins (.pr (.bin .add) [.a 59, .k (.int .i64 1)]) <|
              .go 0 [.a 75, .a 76, .a 74]) (
              .ins (.pr (.bin .add) [.a 33, .k (.int .i64 1)]) <|
              .go 1 [.a 58, .a 65, .a 60]))) (
            .ins (.pr (.bin .add) [.a 26, .k (.int .i64 1)]) <|
            .go 1 [.a 32, .a 38, .a 34]))) (
          .loop [.a 25, .k (.int .i64 0), .a 13] (
           .ins (.pr (.len) [.a 32]) <|
           .ins (.pr (.bin .lss) [.a 31, .a 33]) <|
           .ite 34 (
            .ins (.pr (.bnd) [.a 32, .a 31]) <|
            .ins (.pr (.put true 1 0 1) [.a 32, .a 31, .a 30]) <|
            .ins (.pr (.bin .add) [.a 30, .k (.int .i64 1)]) <|
            .ins (.pr (.bin .add) [.a 31, .k (.int .i64 1)]) <|
            .go 0 [.a 37, .a 38, .a 36]) (
            .ins (.pr (.bin .lss) [.a 30, .k (.int .i64 0)]) <|
            .ite 35 (
             .ins (.pr (.scl) [.k (.bool false)]) <|
             .ret [.a 36]) (
             .ins (.cl 25 [.a 14, .a 10] 1) <|
             .ins (.pr (.un .not) [.a 36]) <|
             .ite 37 (
              .ins (.pr (.scl) [.k (.bool false)]) <|
              .ret [.a 38]) (
              .ins (.pr (.bb .neq) [.a 15, .a 11]) <|
              .ite 38 (
               .ins (.pr (.scl) [.k (.bool false)]) <|
               .ret [.a 39]) (
               .loop [.k (.int .i64 1), .k (.int .i64 0), .a 14] (
                .ins (.pr (.len) [.a 41]) <|
                .ins (.pr (.bin .lss) [.a 40, .a 42]) <|
                .ite 43 (
                 .ins (.pr (.bnd) [.a 41, .a 40]) <|
                 .ins (.pr (.put true 1 0 1) [.a 41, .a 40, .a 39]) <|
                 .ins (.pr (.bin .add) [.a 39, .k (.int .i64 1)]) <|
                 .ins (.pr (.bin .add) [.a 40, .k (.int .i64 1)]) <|
                 .go 0 [.a 46, .a 47, .a 45]) (
                 .ins (.cl 29 [.a 41, .k (.int .i64 1)] 1) <|
                 .ins (.pr (.bin .lss) [.a 44, .k (.int .i64 0)]) <|
                 .ite 45 (
                  .ins (.pr (.scl) [.k (.bool false)]) <|
                  .ret [.a 46]) (
                  .ins (.pr (.bin .neq) [.a 44, .a 39]) <|
                  .ite 46 (
                   .ins (.pr (.scl) [.k (.bool false)]) <|
                   .ret [.a 47]) (
                   .ins (.cl 22 [.a 0] 1) <|
                   .ins (.cl 23 [.a 3] 1) <|
                   .ins (.cl 24 [.a 47, .a 1, .a 2, .a 48] 2) <|
                   .ins (.cl 25 [.a 49, .a 10] 1) <|
                   .ins (.pr (.un .not) [.a 51]) <|
                   .ite 52 (
                    .ins (.pr (.scl) [.k (.bool false)]) <|
                    .ret [.a 53]) (
                    .ins (.pr (.bb .neq) [.a 50, .a 11]) <|
                    .ite 53 (
                     .ins (.pr (.scl) [.k (.bool false)]) <|
                     .ret [.a 54]) (
                     .ins (.cl 29 [.a 41, .k (.int .i64 1)] 1) <|
                     .ins (.pr (.bin .lss) [.a 54, .k (.int .i64 0)]) <|
                     .ite 55 (
                      .ins (.pr (.scl) [.k (.bool false)]) <|
                      .ret [.a 56]) (
                      .ins (.pr (.bin .neq) [.a 54, .a 39]) <|
                      .ite 56 (
                       .ins (.pr (.scl) [.k (.bool false)]) <|
                       .ret [.a 57]) (
                       .ins (.pr (.scl) [.k (.bool true)]) <|
                       .ret [.a 57])))))))))))))))))))))
def S_FnExactWalk : Nat → Sem1 := pick [(20, F_szLineSS), (21, F_s_Walk), (22, F_toLineSS), (23, F_toIntS), (24, F_i_Walk), (25, F_eqIntS), (26, F_eqLineSS), (29, F_heldIntS)]
def F_FnExactWalk : Sem1 := fun ts => p_FnExactWalk.den S_FnExactWalk rounds [] ts
end Go.Proofs.YtmljdpfdpeiniaaC
