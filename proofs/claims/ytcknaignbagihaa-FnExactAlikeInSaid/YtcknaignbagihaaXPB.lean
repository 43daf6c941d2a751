/- The plain programs of the functions that are walked (printed by a program). Conditions: none. -/
import Derived.Test.YtcknaignbagihaaKd
namespace Go.Proofs.YtcknaignbagihaaC
def p_szLinkS : PL :=
  .ins (.pr (.len) [.a 0]) <|
  .ins (.pr (.bin .sub) [.a 1, .a 2]) <|
  .ins (.pr (.bin .lss) [.a 3, .k (.int .i64 0)]) <|
  .ite 4 (
   .ins (.pr (.scl) [.k (.int .i64 (-1))]) <|
   .ret [.a 5]) (
   .ins (.pr (.scl) [.a 3]) <|
   .ret [.a 5])
def S_szLinkS : Nat → Sem1 := pick []
def F_szLinkS : Sem1 := fun ts => p_szLinkS.den S_szLinkS rounds [] ts
def p_szThingS : PL :=
  .ins (.pr (.len) [.a 0]) <|
  .ins (.pr (.bin .sub) [.a 1, .a 2]) <|
  .ins (.pr (.bin .lss) [.a 3, .k (.int .i64 0)]) <|
  .ite 4 (
   .ins (.pr (.scl) [.k (.int .i64 (-1))]) <|
   .ret [.a 5]) (
   .ins (.pr (.scl) [.a 3]) <|
   .ret [.a 5])
def S_szThingS : Nat → Sem1 := pick []
def F_szThingS : Sem1 := fun ts => p_szThingS.den S_szThingS rounds [] ts
def p_szNet : PL :=
  .ins (.cl 111 [.a 1, .a 3] 1) <|
  .ins (.pr (.bin .lss) [.a 4, .k (.int .i64 0)]) <|
  .ite 5 (
   .ins (.pr (.scl) [.k (.int .i64 (-1))]) <|
   .ret [.a 6]) (
   .ins (.cl 112 [.a 2, .a 4] 1) <|
   .ins (.pr (.bin .lss) [.a 6, .k (.int .i64 0)]) <|
   .ite 7 (
    .ins (.pr (.scl) [.k (.int .i64 (-1))]) <|
    .ret [.a 8]) (
    .ins (.pr (.scl) [.a 6]) <|
    .ret [.a 8]))
def S_szNet : Nat → Sem1 := pick [(111, F_szLinkS), (112, F_szThingS)]
def F_szNet : Sem1 := fun ts => p_szNet.den S_szNet rounds [] ts
def p_szBoolS : PL :=
  .ins (.pr (.len) [.a 0]) <|
  .ins (.pr (.bin .sub) [.a 1, .a 2]) <|
  .ins (.pr (.bin .lss) [.a 3, .k (.int .i64 0)]) <|
  .ite 4 (
   .ins (.pr (.scl) [.k (.int .i64 (-1))]) <|
   .ret [.a 5]) (
   .ins (.pr (.scl) [.a 3]) <|
   .ret [.a 5])
def S_szBoolS : Nat → Sem1 := pick []
def F_szBoolS : Sem1 := fun ts => p_szBoolS.den S_szBoolS rounds [] ts
def p_szIntS : PL :=
  .ins (.pr (.len) [.a 0]) <|
  .ins (.pr (.bin .sub) [.a 1, .a 2]) <|
  .ins (.pr (.bin .lss) [.a 3, .k (.int .i64 0)]) <|
  .ite 4 (
   .ins (.pr (.scl) [.k (.int .i64 (-1))]) <|
   .ret [.a 5]) (
   .ins (.pr (.scl) [.a 3]) <|
   .ret [.a 5])
def S_szIntS : Nat → Sem1 := pick []
def F_szIntS : Sem1 := fun ts => p_szIntS.den S_szIntS rounds [] ts
def p_szNearS : PL :=
  .ins (.pr (.len) [.a 0]) <|
  .ins (.pr (.bin .sub) [.a 1, .a 2]) <|
  .ins (.pr (.bin .lss) [.a 3, .k (.int .i64 0)]) <|
  .ite 4 (
   .ins (.pr (.scl) [.k (.int .i64 (-1))]) <|
   .ret [.a 5]) (
   .ins (.pr (.scl) [.a 3]) <|
   .ret [.a 5])
def S_szNearS : Nat → Sem1 := pick []
def F_szNearS : Sem1 := fun ts => p_szNearS.den S_szNearS rounds [] ts
def p_szRecord : PL :=
  .ins (.cl 94 [.a 5, .a 8] 1) <|
  .ins (.pr (.bin .lss) [.a 9, .k (.int .i64 0)]) <|
  .ite 10 (
   .ins (.pr (.scl) [.k (.int .i64 (-1))]) <|
   .ret [.a 11]) (
   .ins (.pr (.scl) [.a 9]) <|
   .ret [.a 11])
def S_szRecord : Nat → Sem1 := pick [(94, F_szNearS)]
def F_szRecord : Sem1 := fun ts => p_szRecord.den S_szRecord rounds [] ts
def p_szRecordS : PL :=
  .ins (.pr (.len) [.a 0]) <|
  .ins (.pr (.bin .sub) [.a 1, .a 2]) <|
  .ins (.pr (.bin .lss) [.a 3, .k (.int .i64 0)]) <|
  .ite 4 (
   .ins (.pr (.scl) [.k (.int .i64 (-1))]) <|
   .ret [.a 5]) (
   .loop [.a 3, .k (.int .i64 0), .k (.int .i64 0)] (
    .ins (.pr (.len) [.a 0]) <|
    .ins (.pr (.bin .lss) [.a 7, .a 8]) <|
    .ite 9 (
     .ins (.pr (.bnd) [.a 0, .a 7]) <|
     .ins (.pr (.cell 8 0) [.a 0, .a 7]) <|
     .ins (.pr (.cell 8 1) [.a 0, .a 7]) <|
     .ins (.pr (.cell 8 2) [.a 0, .a 7]) <|
     .ins (.pr (.cell 8 3) [.a 0, .a 7]) <|
     .ins (.pr (.cell 8 4) [.a 0, .a 7]) <|
     .ins (.pr (.cell 8 5) [.a 0, .a 7]) <|
     .ins (.pr (.cell 8 6) [.a 0, .a 7]) <|
     .ins (.pr (.cell 8 7) [.a 0, .a 7]) <|
     .ins (.cl 37 [.a 11, .a 12, .a 13, .a 14, .a 15, .a 16, .a 17, .a 18, .a 5] 1) <|
     .ins (.pr (.bin .lss) [.a 19, .k (.int .i64 0)]) <|
     .ite 20 (
      .ins (.pr (.scl) [.k (.int .i64 (-1))]) <|
      .ret [.a 21]) (
      .ins (.pr (.bin .add) [.a 7, .k (.int .i64 1)]) <|
      .go 0 [.a 19, .a 6, .a 21])) (
     .ins (.pr (.scl) [.a 5]) <|
     .ret [.a 10])))
def S_szRecordS : Nat → Sem1 := pick [(37, F_szRecord)]
def F_szRecordS : Sem1 := fun ts => p_szRecordS.den S_szRecordS rounds [] ts
def p_szSelf : PL :=
  .ins (.cl 56 [.a 2, .a 3, .a 4, .a 7] 1) <|
  .ins (.pr (.bin .lss) [.a 8, .k (.int .i64 0)]) <|
  .ite 9 (
   .ins (.pr (.scl) [.k (.int .i64 (-1))]) <|
   .ret [.a 10]) (
   .ins (.cl 58 [.a 5, .a 8] 1) <|
   .ins (.pr (.bin .lss) [.a 10, .k (.int .i64 0)]) <|
   .ite 11 (
    .ins (.pr (.scl) [.k (.int .i64 (-1))]) <|
    .ret [.a 12]) (
    .ins (.cl 9 [.a 6, .a 10] 1) <|
    .ins (.pr (.bin .lss) [.a 12, .k (.int .i64 0)]) <|
    .ite 13 (
     .ins (.pr (.scl) [.k (.int .i64 (-1))]) <|
     .ret [.a 14]) (
     .ins (.pr (.scl) [.a 12]) <|
     .ret [.a 14])))
def S_szSelf : Nat → Sem1 := pick [(9, F_szRecordS), (56, F_szNet), (58, F_szIntS)]
def F_szSelf : Sem1 := fun ts => p_szSelf.den S_szSelf rounds [] ts
def p_szEarS : PL :=
  .ins (.pr (.len) [.a 0]) <|
  .ins (.pr (.bin .sub) [.a 1, .a 2]) <|
  .ins (.pr (.bin .lss) [.a 3, .k (.int .i64 0)]) <|
  .ite 4 (
   .ins (.pr (.scl) [.k (.int .i64 (-1))]) <|
   .ret [.a 5]) (
   .ins (.pr (.scl) [.a 3]) <|
   .ret [.a 5])
def S_szEarS : Nat → Sem1 := pick []
def F_szEarS : Sem1 := fun ts => p_szEarS.den S_szEarS rounds [] ts
def p_szNode : PL :=
  .ins (.cl 72 [.a 0, .a 1, .a 2, .a 3, .a 4, .a 5, .a 6, .a 8] 1) <|
  .ins (.pr (.bin .lss) [.a 9, .k (.int .i64 0)]) <|
  .ite 10 (
   .ins (.pr (.scl) [.k (.int .i64 (-1))]) <|
   .ret [.a 11]) (
   .ins (.cl 73 [.a 7, .a 9] 1) <|
   .ins (.pr (.bin .lss) [.a 11, .k (.int .i64 0)]) <|
   .ite 12 (
    .ins (.pr (.scl) [.k (.int .i64 (-1))]) <|
    .ret [.a 13]) (
    .ins (.pr (.scl) [.a 11]) <|
    .ret [.a 13]))
def S_szNode : Nat → Sem1 := pick [(72, F_szSelf), (73, F_szEarS)]
def F_szNode : Sem1 := fun ts => p_szNode.den S_szNode rounds [] ts
def p_szNodeS : PL :=
  .ins (.pr (.len) [.a 0]) <|
  .ins (.pr (.bin .sub) [.a 1, .a 2]) <|
  .ins (.pr (.bin .lss) [.a 3, .k (.int .i64 0)]) <|
  .ite 4 (
   .ins (.pr (.scl) [.k (.int .i64 (-1))]) <|
   .ret [.a 5]) (
   .loop [.a 3, .k (.int .i64 0), .k (.int .i64 0)] (
    .ins (.pr (.len) [.a 0]) <|
    .ins (.pr (.bin .lss) [.a 7, .a 8]) <|
    .ite 9 (
     .ins (.pr (.bnd) [.a 0, .a 7]) <|
     .ins (.pr (.cell 8 0) [.a 0, .a 7]) <|
     .ins (.pr (.cell 8 1) [.a 0, .a 7]) <|
     .ins (.pr (.cell 8 2) [.a 0, .a 7]) <|
     .ins (.pr (.cell 8 3) [.a 0, .a 7]) <|
     .ins (.pr (.cell 8 4) [.a 0, .a 7]) <|
     .ins (.pr (.cell 8 5) [.a 0, .a 7]) <|
     .ins (.pr (.cell 8 6) [.a 0, .a 7]) <|
     .ins (.pr (.cell 8 7) [.a 0, .a 7]) <|
     .ins (.cl 28 [.a 11, .a 12, .a 13, .a 14, .a 15, .a 16, .a 17, .a 18, .a 5] 1) <|
     .ins (.pr (.bin .lss) [.a 19, .k (.int .i64 0)]) <|
     .ite 20 (
      .ins (.pr (.scl) [.k (.int .i64 (-1))]) <|
      .ret [.a 21]) (
      .ins (.pr (.bin .add) [.a 7, .k (.int .i64 1)]) <|
      .go 0 [.a 19, .a 6, .a 21])) (
     .ins (.pr (.scl) [.a 5]) <|
     .ret [.a 10])))
def S_szNodeS : Nat → Sem1 := pick [(28, F_szNode)]
def F_szNodeS : Sem1 := fun ts => p_szNodeS.den S_szNodeS rounds [] ts
def p_szPacket : PL :=
  .ins (.cl 58 [.a 4, .a 6] 1) <|
  .ins (.pr (.bin .lss) [.a 7, .k (.int .i64 0)]) <|
  .ite 8 (
   .ins (.pr (.scl) [.k (.int .i64 (-1))]) <|
   .ret [.a 9]) (
   .ins (.cl 9 [.a 5, .a 7] 1) <|
   .ins (.pr (.bin .lss) [.a 9, .k (.int .i64 0)]) <|
   .ite 10 (
    .ins (.pr (.scl) [.k (.int .i64 (-1))]) <|
    .ret [.a 11]) (
    .ins (.pr (.scl) [.a 9]) <|
    .ret [.a 11]))
def S_szPacket : Nat → Sem1 := pick [(9, F_szRecordS), (58, F_szIntS)]
def F_szPacket : Sem1 := fun ts => p_szPacket.den S_szPacket rounds [] ts
def p_szPacketS : PL :=
  .ins (.pr (.len) [.a 0]) <|
  .ins (.pr (.bin .sub) [.a 1, .a 2]) <|
  .ins (.pr (.bin .lss) [.a 3, .k (.int .i64 0)]) <|
  .ite 4 (
   .ins (.pr (.scl) [.k (.int .i64 (-1))]) <|
   .ret [.a 5]) (
   .loop [.a 3, .k (.int .i64 0), .k (.int .i64 0)] (
    .ins (.pr (.len) [.a 0]) <|
    .ins (.pr (.bin .lss) [.a 7, .a 8]) <|
    .ite 9 (
     .ins (.pr (.bnd) [.a 0, .a 7]) <|
     .ins (.pr (.cell 6 0) [.a 0, .a 7]) <|
     .ins (.pr (.cell 6 1) [.a 0, .a 7]) <|
     .ins (.pr (.cell 6 2) [.a 0, .a 7]) <|
     .ins (.pr (.cell 6 3) [.a 0, .a 7]) <|
     .ins (.pr (.cell 6 4) [.a 0, .a 7]) <|
     .ins (.pr (.cell 6 5) [.a 0, .a 7]) <|
     .ins (.cl 113 [.a 11, .a 12, .a 13, .a 14, .a 15, .a 16, .a 5] 1) <|
     .ins (.pr (.bin .lss) [.a 17, .k (.int .i64 0)]) <|
     .ite 18 (
      .ins (.pr (.scl) [.k (.int .i64 (-1))]) <|
      .ret [.a 19]) (
      .ins (.pr (.bin .add) [.a 7, .k (.int .i64 1)]) <|
      .go 0 [.a 17, .a 6, .a 19])) (
     .ins (.pr (.scl) [.a 5]) <|
     .ret [.a 10])))
def S_szPacketS : Nat → Sem1 := pick [(113, F_szPacket)]
def F_szPacketS : Sem1 := fun ts => p_szPacketS.den S_szPacketS rounds [] ts
def p_szWorld : PL :=
  .ins (.cl 56 [.a 0, .a 1, .a 2, .a 10] 1) <|
  .ins (.pr (.bin .lss) [.a 11, .k (.int .i64 0)]) <|
  .ite 12 (
   .ins (.pr (.scl) [.k (.int .i64 (-1))]) <|
   .ret [.a 13]) (
   .ins (.cl 57 [.a 3, .a 11] 1) <|
   .ins (.pr (.bin .lss) [.a 13, .k (.int .i64 0)]) <|
   .ite 14 (
    .ins (.pr (.scl) [.k (.int .i64 (-1))]) <|
    .ret [.a 15]) (
    .ins (.cl 57 [.a 4, .a 13] 1) <|
    .ins (.pr (.bin .lss) [.a 15, .k (.int .i64 0)]) <|
    .ite 16 (
     .ins (.pr (.scl) [.k (.int .i64 (-1))]) <|
     .ret [.a 17]) (
     .ins (.cl 58 [.a 5, .a 15] 1) <|
     .ins (.pr (.bin .lss) [.a 17, .k (.int .i64 0)]) <|
     .ite 18 (
      .ins (.pr (.scl) [.k (.int .i64 (-1))]) <|
      .ret [.a 19]) (
      .ins (.cl 59 [.a 6, .a 17] 1) <|
      .ins (.pr (.bin .lss) [.a 19, .k (.int .i64 0)]) <|
      .ite 20 (
       .ins (.pr (.scl) [.k (.int .i64 (-1))]) <|
       .ret [.a 21]) (
       .ins (.cl 60 [.a 7, .a 19] 1) <|
       .ins (.pr (.bin .lss) [.a 21, .k (.int .i64 0)]) <|
       .ite 22 (
        .ins (.pr (.scl) [.k (.int .i64 (-1))]) <|
        .ret [.a 23]) (
        .ins (.cl 9 [.a 8, .a 21] 1) <|
        .ins (.pr (.bin .lss) [.a 23, .k (.int .i64 0)]) <|
        .ite 24 (
         .ins (.pr (.scl) [.k (.int .i64 (-1))]) <|
         .ret [.a 25]) (
         .ins (.pr (.scl) [.a 23]) <|
         .ret [.a 25])))))))
def S_szWorld : Nat → Sem1 := pick [(9, F_szRecordS), (56, F_szNet), (57, F_szBoolS), (58, F_szIntS), (59, F_szNodeS), (60, F_szPacketS)]
def F_szWorld : Sem1 := fun ts => p_szWorld.den S_szWorld rounds [] ts
def p_toLink : PL :=
  .ins (.pr (.scl) [.a 3]) <|
  .ins (.pr (.scl) [.a 2]) <|
  .ins (.pr (.scl) [.a 1]) <|
  .ins (.pr (.scl) [.a 0]) <|
  .ret [.a 7, .a 6, .a 5, .a 4]
def S_toLink : Nat → Sem1 := pick []
def F_toLink : Sem1 := fun ts => p_toLink.den S_toLink rounds [] ts
def p_toLinkS : PL :=
  .ins (.pr (.len) [.a 0]) <|
  .ins (.pr (.mk) [.a 1, .a 1, .k (.int .i64 0), .k (.int .i64 0), .k (.int .i64 0), .k (.int .i64 0)]) <|
  .loop [.k (.int .i64 0), .a 2] (
   .ins (.pr (.len) [.a 0]) <|
   .ins (.pr (.bin .lss) [.a 3, .a 5]) <|
   .ite 6 (
    .ins (.pr (.bnd) [.a 0, .a 3]) <|
    .ins (.pr (.cell 4 0) [.a 0, .a 3]) <|
    .ins (.pr (.cell 4 1) [.a 0, .a 3]) <|
    .ins (.pr (.cell 4 2) [.a 0, .a 3]) <|
    .ins (.pr (.cell 4 3) [.a 0, .a 3]) <|
    .ins (.cl 138 [.a 8, .a 9, .a 10, .a 11] 4) <|
    .ins (.pr (.bnd) [.a 4, .a 3]) <|
    .ins (.pr (.put true 4 0 4) [.a 4, .a 3, .a 12, .a 13, .a 14, .a 15]) <|
    .ins (.pr (.bin .add) [.a 3, .k (.int .i64 1)]) <|
    .go 0 [.a 18, .a 17]) (
    .ret [.a 4]))
def S_toLinkS : Nat → Sem1 := pick [(138, F_toLink)]
def F_toLinkS : Sem1 := fun ts => p_toLinkS.den S_toLinkS rounds [] ts
def p_toThing : PL :=
  .ins (.pr (.scl) [.a 3]) <|
  .ins (.pr (.scl) [.a 2]) <|
  .ins (.pr (.scl) [.a 1]) <|
  .ins (.pr (.scl) [.a 0]) <|
  .ret [.a 7, .a 6, .a 5, .a 4]
def S_toThing : Nat → Sem1 := pick []
def F_toThing : Sem1 := fun ts => p_toThing.den S_toThing rounds [] ts
def p_toThingS : PL :=
  .ins (.pr (.len) [.a 0]) <|
  .ins (.pr (.mk) [.a 1, .a 1, .k (.int .i64 0), .k (.int .i64 0), .k (.int .i64 0), .k (.bool false)]) <|
  .loop [.k (.int .i64 0), .a 2] (
   .ins (.pr (.len) [.a 0]) <|
   .ins (.pr (.bin .lss) [.a 3, .a 5]) <|
   .ite 6 (
    .ins (.pr (.bnd) [.a 0, .a 3]) <|
    .ins (.pr (.cell 4 0) [.a 0, .a 3]) <|
    .ins (.pr (.cell 4 1) [.a 0, .a 3]) <|
    .ins (.pr (.cell 4 2) [.a 0, .a 3]) <|
    .ins (.pr (.cell 4 3) [.a 0, .a 3]) <|
    .ins (.cl 139 [.a 8, .a 9, .a 10, .a 11] 4) <|
    .ins (.pr (.bnd) [.a 4, .a 3]) <|
    .ins (.pr (.put true 4 0 4) [.a 4, .a 3, .a 12, .a 13, .a 14, .a 15]) <|
    .ins (.pr (.bin .add) [.a 3, .k (.int .i64 1)]) <|
    .go 0 [.a 18, .a 17]) (
    .ret [.a 4]))
def S_toThingS : Nat → Sem1 := pick [(139, F_toThing)]
def F_toThingS : Sem1 := fun ts => p_toThingS.den S_toThingS rounds [] ts
def p_toNet : PL :=
  .ins (.cl 115 [.a 1] 1) <|
  .ins (.cl 116 [.a 2] 1) <|
  .ins (.pr (.scl) [.a 0]) <|
  .ret [.a 5, .a 3, .a 4]
def S_toNet : Nat → Sem1 := pick [(115, F_toLinkS), (116, F_toThingS)]
def F_toNet : Sem1 := fun ts => p_toNet.den S_toNet rounds [] ts
def p_toBoolS : PL :=
  .ins (.pr (.len) [.a 0]) <|
  .ins (.pr (.mk) [.a 1, .a 1, .k (.bool false)]) <|
  .loop [.k (.int .i64 0), .a 2] (
   .ins (.pr (.len) [.a 0]) <|
   .ins (.pr (.bin .lss) [.a 3, .a 5]) <|
   .ite 6 (
    .ins (.pr (.bnd) [.a 0, .a 3]) <|
    .ins (.pr (.cell 1 0) [.a 0, .a 3]) <|
    .ins (.pr (.bnd) [.a 4, .a 3]) <|
    .ins (.pr (.put true 1 0 1) [.a 4, .a 3, .a 8]) <|
    .ins (.pr (.bin .add) [.a 3, .k (.int .i64 1)]) <|
    .go 0 [.a 11, .a 10]) (
    .ret [.a 4]))
def S_toBoolS : Nat → Sem1 := pick []
def F_toBoolS : Sem1 := fun ts => p_toBoolS.den S_toBoolS rounds [] ts
def p_toIntS : PL :=
  .ins (.pr (.len) [.a 0]) <|
  .ins (.pr (.mk) [.a 1, .a 1, .k (.int .i64 0)]) <|
  .loop [.k (.int .i64 0), .a 2] (
   .ins (.pr (.len) [.a 0]) <|
   .ins (.pr (.bin .lss) [.a 3, .a 5]) <|
   .ite 6 (
    .ins (.pr (.bnd) [.a 0, .a 3]) <|
    .ins (.pr (.cell 1 0) [.a 0, .a 3]) <|
    .ins (.pr (.bnd) [.a 4, .a 3]) <|
    .ins (.pr (.put true 1 0 1) [.a 4, .a 3, .a 8]) <|
    .ins (.pr (.bin .add) [.a 3, .k (.int .i64 1)]) <|
    .go 0 [.a 11, .a 10]) (
    .ret [.a 4]))
def S_toIntS : Nat → Sem1 := pick []
def F_toIntS : Sem1 := fun ts => p_toIntS.den S_toIntS rounds [] ts
def p_toNear : PL :=
  .ins (.pr (.scl) [.a 1]) <|
  .ins (.pr (.scl) [.a 0]) <|
  .ret [.a 3, .a 2]
def S_toNear : Nat → Sem1 := pick []
def F_toNear : Sem1 := fun ts => p_toNear.den S_toNear rounds [] ts
def p_toNearS : PL :=
  .ins (.pr (.len) [.a 0]) <|
  .ins (.pr (.mk) [.a 1, .a 1, .k (.int .i64 0), .k (.int .i64 0)]) <|
  .loop [.k (.int .i64 0), .a 2] (
   .ins (.pr (.len) [.a 0]) <|
   .ins (.pr (.bin .lss) [.a 3, .a 5]) <|
   .ite 6 (
    .ins (.pr (.bnd) [.a 0, .a 3]) <|
    .ins (.pr (.cell 2 0) [.a 0, .a 3]) <|
    .ins (.pr (.cell 2 1) [.a 0, .a 3]) <|
    .ins (.cl 133 [.a 8, .a 9] 2) <|
    .ins (.pr (.bnd) [.a 4, .a 3]) <|
    .ins (.pr (.put true 2 0 2) [.a 4, .a 3, .a 10, .a 11]) <|
    .ins (.pr (.bin .add) [.a 3, .k (.int .i64 1)]) <|
    .go 0 [.a 14, .a 13]) (
    .ret [.a 4]))
def S_toNearS : Nat → Sem1 := pick [(133, F_toNear)]
def F_toNearS : Sem1 := fun ts => p_toNearS.den S_toNearS rounds [] ts
def p_toRecord : PL :=
  .ins (.cl 100 [.a 5] 1) <|
  .ins (.pr (.scl) [.a 7]) <|
  .ins (.pr (.scl) [.a 6]) <|
  .ins (.pr (.scl) [.a 4]) <|
  .ins (.pr (.scl) [.a 3]) <|
  .ins (.pr (.scl) [.a 2]) <|
  .ins (.pr (.scl) [.a 1]) <|
  .ins (.pr (.scl) [.a 0]) <|
  .ret [.a 15, .a 14, .a 13, .a 12, .a 11, .a 8, .a 10, .a 9]
def S_toRecord : Nat → Sem1 := pick [(100, F_toNearS)]
def F_toRecord : Sem1 := fun ts => p_toRecord.den S_toRecord rounds [] ts
def p_toRecordS : PL :=
  .ins (.pr (.len) [.a 0]) <|
  .ins (.pr (.mk) [.a 1, .a 1, .k (.int .i64 0), .k (.int .i64 0), .k (.int .i64 0), .k (.int .i64 0), .k (.int .i64 0), .e, .k (.int .i64 0), .k (.bool false)]) <|
  .loop [.k (.int .i64 0), .a 2] (
   .ins (.pr (.len) [.a 0]) <|
   .ins (.pr (.bin .lss) [.a 3, .a 5]) <|
   .ite 6 (
    .ins (.pr (.bnd) [.a 0, .a 3]) <|
    .ins (.pr (.cell 8 0) [.a 0, .a 3]) <|
    .ins (.pr (.cell 8 1) [.a 0, .a 3]) <|
    .ins (.pr (.cell 8 2) [.a 0, .a 3]) <|
    .ins (.pr (.cell 8 3) [.a 0, .a 3]) <|
    .ins (.pr (.cell 8 4) [.a 0, .a 3]) <|
    .ins (.pr (.cell 8 5) [.a 0, .a 3]) <|
    .ins (.pr (.cell 8 6) [.a 0, .a 3]) <|
    .ins (.pr (.cell 8 7) [.a 0, .a 3]) <|
    .ins (.cl 43 [.a 8, .a 9, .a 10, .a 11, .a 12, .a 13, .a 14, .a 15] 8) <|
    .ins (.pr (.bnd) [.a 4, .a 3]) <|
    .ins (.pr (.putD [true, true, true, true, true, false, true, true] 8 0) [.a 4, .a 3, .a 16, .a 17, .a 18, .a 19, .a 20, .a 21, .a 22, .a 23]) <|
    .ins (.pr (.bin .add) [.a 3, .k (.int .i64 1)]) <|
    .go 0 [.a 26, .a 25]) (
    .ret [.a 4]))
def S_toRecordS : Nat → Sem1 := pick [(43, F_toRecord)]
def F_toRecordS : Sem1 := fun ts => p_toRecordS.den S_toRecordS rounds [] ts
def p_toSelf : PL :=
  .ins (.cl 62 [.a 2, .a 3, .a 4] 3) <|
  .ins (.cl 19 [.a 5] 1) <|
  .ins (.cl 11 [.a 6] 1) <|
  .ins (.pr (.scl) [.a 7]) <|
  .ins (.pr (.scl) [.a 1]) <|
  .ins (.pr (.scl) [.a 0]) <|
  .ret [.a 14, .a 13, .a 12, .a 8, .a 9, .a 10, .a 11]
def S_toSelf : Nat → Sem1 := pick [(11, F_toRecordS), (19, F_toIntS), (62, F_toNet)]
def F_toSelf : Sem1 := fun ts => p_toSelf.den S_toSelf rounds [] ts
def p_toEar : PL :=
  .ins (.pr (.scl) [.a 3]) <|
  .ins (.pr (.scl) [.a 2]) <|
  .ins (.pr (.scl) [.a 1]) <|
  .ins (.pr (.scl) [.a 0]) <|
  .ret [.a 7, .a 6, .a 5, .a 4]
def S_toEar : Nat → Sem1 := pick []
def F_toEar : Sem1 := fun ts => p_toEar.den S_toEar rounds [] ts
def p_toEarS : PL :=
  .ins (.pr (.len) [.a 0]) <|
  .ins (.pr (.mk) [.a 1, .a 1, .k (.int .i64 0), .k (.int .i64 0), .k (.int .i64 0), .k (.bool false)]) <|
  .loop [.k (.int .i64 0), .a 2] (
   .ins (.pr (.len) [.a 0]) <|
   .ins (.pr (.bin .lss) [.a 3, .a 5]) <|
   .ite 6 (
    .ins (.pr (.bnd) [.a 0, .a 3]) <|
    .ins (.pr (.cell 4 0) [.a 0, .a 3]) <|
    .ins (.pr (.cell 4 1) [.a 0, .a 3]) <|
    .ins (.pr (.cell 4 2) [.a 0, .a 3]) <|
    .ins (.pr (.cell 4 3) [.a 0, .a 3]) <|
    .ins (.cl 124 [.a 8, .a 9, .a 10, .a 11] 4) <|
    .ins (.pr (.bnd) [.a 4, .a 3]) <|
    .ins (.pr (.put true 4 0 4) [.a 4, .a 3, .a 12, .a 13, .a 14, .a 15]) <|
    .ins (.pr (.bin .add) [.a 3, .k (.int .i64 1)]) <|
    .go 0 [.a 18, .a 17]) (
    .ret [.a 4]))
def S_toEarS : Nat → Sem1 := pick [(124, F_toEar)]
def F_toEarS : Sem1 := fun ts => p_toEarS.den S_toEarS rounds [] ts
def p_toNode : PL :=
  .ins (.cl 78 [.a 0, .a 1, .a 2, .a 3, .a 4, .a 5, .a 6] 7) <|
  .ins (.cl 79 [.a 7] 1) <|
  .ins (.pr (.scl) [.a 10]) <|
  .ins (.pr (.scl) [.a 9]) <|
  .ins (.pr (.scl) [.a 8]) <|
  .ret [.a 18, .a 17, .a 16, .a 11, .a 12, .a 13, .a 14, .a 15]
def S_toNode : Nat → Sem1 := pick [(78, F_toSelf), (79, F_toEarS)]
def F_toNode : Sem1 := fun ts => p_toNode.den S_toNode rounds [] ts
def p_toNodeS : PL :=
  .ins (.pr (.len) [.a 0]) <|
  .ins (.pr (.mk) [.a 1, .a 1, .k (.int .i64 0), .k (.int .i64 0), .k (.int .i64 0), .e, .e, .e, .e, .e]) <|
  .loop [.k (.int .i64 0), .a 2] (
   .ins (.pr (.len) [.a 0]) <|
   .ins (.pr (.bin .lss) [.a 3, .a 5]) <|
   .ite 6 (
    .ins (.pr (.bnd) [.a 0, .a 3]) <|
    .ins (.pr (.cell 8 0) [.a 0, .a 3]) <|
    .ins (.pr (.cell 8 1) [.a 0, .a 3]) <|
    .ins (.pr (.cell 8 2) [.a 0, .a 3]) <|
    .ins (.pr (.cell 8 3) [.a 0, .a 3]) <|
    .ins (.pr (.cell 8 4) [.a 0, .a 3]) <|
    .ins (.pr (.cell 8 5) [.a 0, .a 3]) <|
    .ins (.pr (.cell 8 6) [.a 0, .a 3]) <|
    .ins (.pr (.cell 8 7) [.a 0, .a 3]) <|
    .ins (.cl 30 [.a 8, .a 9, .a 10, .a 11, .a 12, .a 13, .a 14, .a 15] 8) <|
    .ins (.pr (.bnd) [.a 4, .a 3]) <|
    .ins (.pr (.putD [true, true, true, false, false, false, false, false] 8 0) [.a 4, .a 3, .a 16, .a 17, .a 18, .a 19, .a 20, .a 21, .a 22, .a 23]) <|
    .ins (.pr (.bin .add) [.a 3, .k (.int .i64 1)]) <|
    .go 0 [.a 26, .a 25]) (
    .ret [.a 4]))
def S_toNodeS : Nat → Sem1 := pick [(30, F_toNode)]
def F_toNodeS : Sem1 := fun ts => p_toNodeS.den S_toNodeS rounds [] ts
def p_toPacket : PL :=
  .ins (.cl 19 [.a 4] 1) <|
  .ins (.cl 11 [.a 5] 1) <|
  .ins (.pr (.scl) [.a 3]) <|
  .ins (.pr (.scl) [.a 2]) <|
  .ins (.pr (.scl) [.a 1]) <|
  .ins (.pr (.scl) [.a 0]) <|
  .ret [.a 11, .a 10, .a 9, .a 8, .a 6, .a 7]
def S_toPacket : Nat → Sem1 := pick [(11, F_toRecordS), (19, F_toIntS)]
def F_toPacket : Sem1 := fun ts => p_toPacket.den S_toPacket rounds [] ts
def p_toPacketS : PL :=
  .ins (.pr (.len) [.a 0]) <|
  .ins (.pr (.mk) [.a 1, .a 1, .k (.int .i64 0), .k (.int .i64 0), .k (.int .i64 0), .k (.int .i64 0), .e, .e]) <|
  .loop [.k (.int .i64 0), .a 2] (
   .ins (.pr (.len) [.a 0]) <|
   .ins (.pr (.bin .lss) [.a 3, .a 5]) <|
   .ite 6 (
    .ins (.pr (.bnd) [.a 0, .a 3]) <|
    .ins (.pr (.cell 6 0) [.a 0, .a 3]) <|
    .ins (.pr (.cell 6 1) [.a 0, .a 3]) <|
    .ins (.pr (.cell 6 2) [.a 0, .a 3]) <|
    .ins (.pr (.cell 6 3) [.a 0, .a 3]) <|
    .ins (.pr (.cell 6 4) [.a 0, .a 3]) <|
    .ins (.pr (.cell 6 5) [.a 0, .a 3]) <|
    .ins (.cl 117 [.a 8, .a 9, .a 10, .a 11, .a 12, .a 13] 6) <|
    .ins (.pr (.bnd) [.a 4, .a 3]) <|
    .ins (.pr (.putD [true, true, true, true, false, false] 6 0) [.a 4, .a 3, .a 14, .a 15, .a 16, .a 17, .a 18, .a 19]) <|
    .ins (.pr (.bin .add) [.a 3, .k (.int .i64 1)]) <|
    .go 0 [.a 22, .a 21]) (
    .ret [.a 4]))
def S_toPacketS : Nat → Sem1 := pick [(117, F_toPacket)]
def F_toPacketS : Sem1 := fun ts => p_toPacketS.den S_toPacketS rounds [] ts
def p_toWorld : PL :=
  .ins (.cl 62 [.a 0, .a 1, .a 2] 3) <|
  .ins (.cl 63 [.a 3] 1) <|
  .ins (.cl 63 [.a 4] 1) <|
  .ins (.cl 19 [.a 5] 1) <|
  .ins (.cl 64 [.a 6] 1) <|
  .ins (.cl 65 [.a 7] 1) <|
  .ins (.cl 11 [.a 8] 1) <|
  .ins (.pr (.scl) [.a 9]) <|
  .ins (.pr (.scl) [.a 10]) <|
  .ret [.a 20, .a 11, .a 12, .a 13, .a 14, .a 15, .a 16, .a 17, .a 18, .a 19]
def S_toWorld : Nat → Sem1 := pick [(11, F_toRecordS), (19, F_toIntS), (62, F_toNet), (63, F_toBoolS), (64, F_toNodeS), (65, F_toPacketS)]
def F_toWorld : Sem1 := fun ts => p_toWorld.den S_toWorld rounds [] ts
def p_s_SameKey : PL :=
  .ins (.pr (.bin .eql) [.a 0, .a 8]) <|
  .ite 16 (
   .ins (.pr (.bin .eql) [.a 1, .a 9]) <|
   .ite 17 (
    .ins (.pr (.bin .eql) [.a 2, .a 10]) <|
    .ite 18 (
     .ins (.pr (.bin .eql) [.a 3, .a 11]) <|
     .ins (.pr (.scl) [.a 19]) <|
     .ret [.a 20]) (
     .ins (.pr (.scl) [.k (.bool false)]) <|
     .ret [.a 19])) (
    .ins (.pr (.scl) [.k (.bool false)]) <|
    .ret [.a 18])) (
   .ins (.pr (.scl) [.k (.bool false)]) <|
   .ret [.a 17])
def S_s_SameKey : Nat → Sem1 := pick []
def F_s_SameKey : Sem1 := fun ts => p_s_SameKey.den S_s_SameKey rounds [] ts
def p_s_SameBody : PL :=
  .ins (.cl 131 [.a 0, .a 1, .a 2, .a 3, .a 4, .a 5, .a 6, .a 7, .a 8, .a 9, .a 10, .a 11, .a 12, .a 13, .a 14, .a 15] 1) <|
  .ins (.pr (.un .not) [.a 16]) <|
  .ite 17 (
   .ins (.pr (.scl) [.k (.bool false)]) <|
   .ret [.a 18]) (
   .ins (.pr (.bin .neq) [.a 6, .a 14]) <|
   .ite 18 (
    .ins (.pr (.scl) [.k (.bool false)]) <|
    .ret [.a 19]) (
    .ins (.pr (.bb .neq) [.a 7, .a 15]) <|
    .ite 19 (
     .ins (.pr (.scl) [.k (.bool false)]) <|
     .ret [.a 20]) (
     .ins (.pr (.len) [.a 5]) <|
     .ins (.pr (.len) [.a 13]) <|
     .ins (.pr (.bin .neq) [.a 20, .a 21]) <|
     .ite 22 (
      .ins (.pr (.scl) [.k (.bool false)]) <|
      .ret [.a 23]) (
      .loop [.k (.bool false), .k (.int .i64 0)] (
       .ins (.pr (.len) [.a 5]) <|
       .ins (.pr (.bin .lss) [.a 24, .a 25]) <|
       .ite 26 (
        .ins (.pr (.bnd) [.a 5, .a 24]) <|
        .ins (.pr (.cell 2 0) [.a 5, .a 24]) <|
        .ins (.pr (.cell 2 1) [.a 5, .a 24]) <|
        .ins (.pr (.bnd) [.a 13, .a 24]) <|
        .ins (.pr (.cell 2 0) [.a 13, .a 24]) <|
        .ins (.pr (.cell 2 1) [.a 13, .a 24]) <|
        .ins (.pr (.eqs [1, 1]) [.a 28, .a 29, .a 31, .a 32]) <|
        .ins (.pr (.un .not) [.a 33]) <|
        .ite 34 (
         .ins (.pr (.scl) [.k (.bool false)]) <|
         .ret [.a 35]) (
         .ins (.pr (.bin .add) [.a 24, .k (.int .i64 1)]) <|
         .go 0 [.a 23, .a 35])) (
        .ins (.pr (.scl) [.k (.bool true)]) <|
        .ret [.a 27]))))))
def S_s_SameBody : Nat → Sem1 := pick [(131, F_s_SameKey)]
def F_s_SameBody : Sem1 := fun ts => p_s_SameBody.den S_s_SameBody rounds [] ts
def p_s_TrueTold : PL :=
  .loop [.k (.bool false), .k (.int .i64 0)] (
   .ins (.pr (.len) [.a 1]) <|
   .ins (.pr (.bin .lss) [.a 3, .a 4]) <|
   .ite 5 (
    .loop [.k (.bool false), .k (.int .i64 0)] (
     .ins (.pr (.len) [.a 0]) <|
     .ins (.pr (.bin .lss) [.a 7, .a 8]) <|
     .ite 9 (
      .ite 6 (
       .ins (.pr (.bin .add) [.a 7, .k (.int .i64 1)]) <|
       .go 0 [.k (.bool true), .a 10]) (
       .ins (.pr (.bnd) [.a 0, .a 7]) <|
       .ins (.pr (.cell 8 0) [.a 0, .a 7]) <|
       .ins (.pr (.cell 8 1) [.a 0, .a 7]) <|
       .ins (.pr (.cell 8 2) [.a 0, .a 7]) <|
       .ins (.pr (.cell 8 3) [.a 0, .a 7]) <|
       .ins (.pr (.cell 8 4) [.a 0, .a 7]) <|
       .ins (.pr (.cell 8 5) [.a 0, .a 7]) <|
       .ins (.pr (.cell 8 6) [.a 0, .a 7]) <|
       .ins (.pr (.cell 8 7) [.a 0, .a 7]) <|
       .ins (.pr (.bnd) [.a 1, .a 3]) <|
       .ins (.pr (.cell 8 0) [.a 1, .a 3]) <|
       .ins (.pr (.cell 8 1) [.a 1, .a 3]) <|
       .ins (.pr (.cell 8 2) [.a 1, .a 3]) <|
       .ins (.pr (.cell 8 3) [.a 1, .a 3]) <|
       .ins (.pr (.cell 8 4) [.a 1, .a 3]) <|
       .ins (.pr (.cell 8 5) [.a 1, .a 3]) <|
       .ins (.pr (.cell 8 6) [.a 1, .a 3]) <|
       .ins (.pr (.cell 8 7) [.a 1, .a 3]) <|
       .ins (.cl 114 [.a 11, .a 12, .a 13, .a 14, .a 15, .a 16, .a 17, .a 18, .a 20, .a 21, .a 22, .a 23, .a 24, .a 25, .a 26, .a 27] 1) <|
       .ite 28 (
        .ins (.pr (.bnd) [.a 0, .a 7]) <|
        .ins (.pr (.cell 8 4) [.a 0, .a 7]) <|
        .ins (.pr (.bnd) [.a 1, .a 3]) <|
        .ins (.pr (.cell 8 4) [.a 1, .a 3]) <|
        .ins (.pr (.bin .eql) [.a 30, .a 32]) <|
        .ins (.pr (.bin .add) [.a 7, .k (.int .i64 1)]) <|
        .go 0 [.a 33, .a 34]) (
        .ins (.pr (.bin .add) [.a 7, .k (.int .i64 1)]) <|
        .go 0 [.k (.bool false), .a 29]))) (
      .ins (.pr (.un .not) [.a 6]) <|
      .ite 10 (
       .ins (.pr (.scl) [.k (.bool false)]) <|
       .ret [.a 11]) (
       .ins (.pr (.bin .add) [.a 3, .k (.int .i64 1)]) <|
       .go 1 [.a 2, .a 11])))) (
    .ins (.pr (.scl) [.k (.bool true)]) <|
    .ret [.a 6]))
def S_s_TrueTold : Nat → Sem1 := pick [(114, F_s_SameBody)]
def F_s_TrueTold : Sem1 := fun ts => p_s_TrueTold.den S_s_TrueTold rounds [] ts
def p_s_AllTrue : PL :=
  .loop [.k (.bool false), .k (.int .i64 0)] (
   .ins (.pr (.len) [.a 6]) <|
   .ins (.pr (.bin .lss) [.a 11, .a 12]) <|
   .ite 13 (
    .ins (.pr (.len) [.a 4]) <|
    .ins (.pr (.bin .lss) [.a 11, .a 14]) <|
    .ite 15 (
     .ins (.pr (.bnd) [.a 4, .a 11]) <|
     .ins (.pr (.cell 1 0) [.a 4, .a 11]) <|
     .ite 17 (
      .ins (.pr (.bnd) [.a 6, .a 11]) <|
      .ins (.pr (.cell 8 6) [.a 6, .a 11]) <|
      .ins (.cl 61 [.a 8, .a 19] 1) <|
      .ins (.pr (.un .not) [.a 20]) <|
      .ite 21 (
       .ins (.pr (.scl) [.k (.bool false)]) <|
       .ret [.a 22]) (
       .ins (.pr (.bin .add) [.a 11, .k (.int .i64 1)]) <|
       .go 0 [.a 10, .a 22])) (
      .ins (.pr (.bin .add) [.a 11, .k (.int .i64 1)]) <|
      .go 0 [.a 10, .a 18])) (
     .ins (.pr (.scl) [.k (.bool true)]) <|
     .ret [.a 16])) (
    .ins (.pr (.scl) [.k (.bool true)]) <|
    .ret [.a 14]))
def S_s_AllTrue : Nat → Sem1 := pick [(61, F_s_TrueTold)]
def F_s_AllTrue : Sem1 := fun ts => p_s_AllTrue.den S_s_AllTrue rounds [] ts
def p_i_in : PL :=
  .ins (.pr (.bin .geq) [.a 0, .a 1]) <|
  .ite 3 (
   .ins (.pr (.bin .leq) [.a 0, .a 2]) <|
   .ins (.pr (.scl) [.a 4]) <|
   .ret [.a 5]) (
   .ins (.pr (.scl) [.k (.bool false)]) <|
   .ret [.a 4])
def S_i_in : Nat → Sem1 := pick []
def F_i_in : Sem1 := fun ts => p_i_in.den S_i_in rounds [] ts
def p_i_World_up : PL :=
  .ins (.pr (.len) [.a 4]) <|
  .ins (.cl 45 [.a 10, .k (.int .i64 1), .a 11] 1) <|
  .ite 12 (
   .ins (.pr (.len) [.a 6]) <|
   .ins (.pr (.bin .leq) [.a 10, .a 13]) <|
   .ite 14 (
    .ins (.pr (.bin .sub) [.a 10, .k (.int .i64 1)]) <|
    .ins (.pr (.bnd) [.a 4, .a 15]) <|
    .ins (.pr (.cell 1 0) [.a 4, .a 15]) <|
    .ins (.pr (.scl) [.a 17]) <|
    .ret [.a 18, .a 0, .a 1, .a 2, .a 3, .a 4, .a 5, .a 6, .a 7, .a 8, .a 9]) (
    .ins (.pr (.scl) [.k (.bool false)]) <|
    .ret [.a 15, .a 0, .a 1, .a 2, .a 3, .a 4, .a 5, .a 6, .a 7, .a 8, .a 9])) (
   .ins (.pr (.scl) [.k (.bool false)]) <|
   .ret [.a 13, .a 0, .a 1, .a 2, .a 3, .a 4, .a 5, .a 6, .a 7, .a 8, .a 9])
def S_i_World_up : Nat → Sem1 := pick [(45, F_i_in)]
def F_i_World_up : Sem1 := fun ts => p_i_World_up.den S_i_World_up rounds [] ts
def p_i_SameKey : PL :=
  .ins (.pr (.bin .eql) [.a 0, .a 8]) <|
  .ite 16 (
   .ins (.pr (.bin .eql) [.a 1, .a 9]) <|
   .ite 17 (
    .ins (.pr (.bin .eql) [.a 2, .a 10]) <|
    .ite 18 (
     .ins (.pr (.bin .eql) [.a 3, .a 11]) <|
     .ins (.pr (.scl) [.a 19]) <|
     .ret [.a 20]) (
     .ins (.pr (.scl) [.k (.bool false)]) <|
     .ret [.a 19])) (
    .ins (.pr (.scl) [.k (.bool false)]) <|
    .ret [.a 18])) (
   .ins (.pr (.scl) [.k (.bool false)]) <|
   .ret [.a 17])
def S_i_SameKey : Nat → Sem1 := pick []
def F_i_SameKey : Sem1 := fun ts => p_i_SameKey.den S_i_SameKey rounds [] ts
def p_i_SameBody : PL :=
  .ins (.cl 103 [.a 0, .a 1, .a 2, .a 3, .a 4, .a 5, .a 6, .a 7, .a 8, .a 9, .a 10, .a 11, .a 12, .a 13, .a 14, .a 15] 1) <|
  .ins (.pr (.un .not) [.a 16]) <|
  .ite 17 (
   .ins (.pr (.scl) [.k (.bool false)]) <|
   .ret [.a 18]) (
   .ins (.pr (.bin .neq) [.a 6, .a 14]) <|
   .ite 18 (
    .ins (.pr (.scl) [.k (.bool false)]) <|
    .ret [.a 19]) (
    .ins (.pr (.bb .neq) [.a 7, .a 15]) <|
    .ite 19 (
     .ins (.pr (.scl) [.k (.bool false)]) <|
     .ret [.a 20]) (
     .ins (.pr (.len) [.a 5]) <|
     .ins (.pr (.len) [.a 13]) <|
     .ins (.pr (.bin .neq) [.a 20, .a 21]) <|
     .ite 22 (
      .ins (.pr (.scl) [.k (.bool false)]) <|
      .ret [.a 23]) (
      .ins (.pr (.len) [.a 5]) <|
      .loop [.k (.bool false), .k (.int .i64 0)] (
       .ins (.pr (.bin .lss) [.a 25, .a 23]) <|
       .ite 26 (
        .ins (.pr (.bnd) [.a 5, .a 25]) <|
        .ins (.pr (.cell 2 0) [.a 5, .a 25]) <|
        .ins (.pr (.cell 2 1) [.a 5, .a 25]) <|
        .ins (.pr (.bnd) [.a 13, .a 25]) <|
        .ins (.pr (.cell 2 0) [.a 13, .a 25]) <|
        .ins (.pr (.cell 2 1) [.a 13, .a 25]) <|
        .ins (.pr (.eqs [1, 1]) [.a 28, .a 29, .a 31, .a 32]) <|
        .ins (.pr (.un .not) [.a 33]) <|
        .ite 34 (
         .ins (.pr (.scl) [.k (.bool false)]) <|
         .ret [.a 35]) (
         .ins (.pr (.bin .add) [.a 25, .k (.int .i64 1)]) <|
         .go 0 [.a 24, .a 35])) (
        .ins (.pr (.scl) [.k (.bool true)]) <|
        .ret [.a 27]))))))
def S_i_SameBody : Nat → Sem1 := pick [(103, F_i_SameKey)]
def F_i_SameBody : Sem1 := fun ts => p_i_SameBody.den S_i_SameBody rounds [] ts
def p_i_TrueTold : PL :=
  .ins (.pr (.len) [.a 1]) <|
  .loop [.k (.bool false), .k (.int .i64 0)] (
   .ins (.pr (.bin .lss) [.a 4, .a 2]) <|
   .ite 5 (
    .ins (.pr (.bnd) [.a 1, .a 4]) <|
    .ins (.pr (.cell 8 0) [.a 1, .a 4]) <|
    .ins (.pr (.cell 8 1) [.a 1, .a 4]) <|
    .ins (.pr (.cell 8 2) [.a 1, .a 4]) <|
    .ins (.pr (.cell 8 3) [.a 1, .a 4]) <|
    .ins (.pr (.cell 8 4) [.a 1, .a 4]) <|
    .ins (.pr (.cell 8 5) [.a 1, .a 4]) <|
    .ins (.pr (.cell 8 6) [.a 1, .a 4]) <|
    .ins (.pr (.cell 8 7) [.a 1, .a 4]) <|
    .ins (.pr (.len) [.a 0]) <|
    .loop [.k (.bool false), .k (.int .i64 0)] (
     .ins (.pr (.bin .lss) [.a 17, .a 15]) <|
     .ite 18 (
      .ins (.pr (.bnd) [.a 0, .a 17]) <|
      .ins (.pr (.cell 8 0) [.a 0, .a 17]) <|
      .ins (.pr (.cell 8 1) [.a 0, .a 17]) <|
      .ins (.pr (.cell 8 2) [.a 0, .a 17]) <|
      .ins (.pr (.cell 8 3) [.a 0, .a 17]) <|
      .ins (.pr (.cell 8 4) [.a 0, .a 17]) <|
      .ins (.pr (.cell 8 5) [.a 0, .a 17]) <|
      .ins (.pr (.cell 8 6) [.a 0, .a 17]) <|
      .ins (.pr (.cell 8 7) [.a 0, .a 17]) <|
      .ite 16 (
       .ins (.pr (.bin .add) [.a 17, .k (.int .i64 1)]) <|
       .go 0 [.k (.bool true), .a 28]) (
       .ins (.cl 118 [.a 20, .a 21, .a 22, .a 23, .a 24, .a 25, .a 26, .a 27, .a 7, .a 8, .a 9, .a 10, .a 11, .a 12, .a 13, .a 14] 1) <|
       .ite 28 (
        .ins (.pr (.bin .eql) [.a 24, .a 11]) <|
        .ins (.pr (.bin .add) [.a 17, .k (.int .i64 1)]) <|
        .go 0 [.a 29, .a 30]) (
        .ins (.pr (.bin .add) [.a 17, .k (.int .i64 1)]) <|
        .go 0 [.k (.bool false), .a 29]))) (
      .ins (.pr (.un .not) [.a 16]) <|
      .ite 19 (
       .ins (.pr (.scl) [.k (.bool false)]) <|
       .ret [.a 20]) (
       .ins (.pr (.bin .add) [.a 4, .k (.int .i64 1)]) <|
       .go 1 [.a 3, .a 20])))) (
    .ins (.pr (.scl) [.k (.bool true)]) <|
    .ret [.a 6]))
def S_i_TrueTold : Nat → Sem1 := pick [(118, F_i_SameBody)]
def F_i_TrueTold : Sem1 := fun ts => p_i_TrueTold.den S_i_TrueTold rounds [] ts
def p_i_AllTrue : PL :=
  .ins (.pr (.len) [.a 6]) <|
  .loop [.k (.bool false), .k (.int .i64 0), .a 0, .a 1, .a 2, .a 3, .a 4, .a 5, .a 6, .a 7, .a 8, .a 9] (
   .ins (.pr (.bin .lss) [.a 12, .a 10]) <|
   .ite 23 (
    .ins (.pr (.bnd) [.a 6, .a 12]) <|
    .ins (.pr (.cell 8 0) [.a 6, .a 12]) <|
    .ins (.pr (.cell 8 1) [.a 6, .a 12]) <|
    .ins (.pr (.cell 8 2) [.a 6, .a 12]) <|
    .ins (.pr (.cell 8 3) [.a 6, .a 12]) <|
    .ins (.pr (.cell 8 4) [.a 6, .a 12]) <|
    .ins (.pr (.cell 8 5) [.a 6, .a 12]) <|
    .ins (.pr (.cell 8 6) [.a 6, .a 12]) <|
    .ins (.pr (.cell 8 7) [.a 6, .a 12]) <|
    .ins (.pr (.bin .add) [.a 12, .k (.int .i64 1)]) <|
    .ins (.cl 66 [.a 13, .a 14, .a 15, .a 16, .a 17, .a 18, .a 19, .a 20, .a 21, .a 22, .a 33] 11) <|
    .ite 34 (
     .ins (.cl 67 [.a 43, .a 31] 1) <|
     .ins (.pr (.un .not) [.a 45]) <|
     .ite 46 (
      .ins (.pr (.scl) [.k (.bool false)]) <|
      .ret [.a 47]) (
      .ins (.pr (.bin .add) [.a 12, .k (.int .i64 1)]) <|
      .go 0 [.a 11, .a 47, .a 35, .a 36, .a 37, .a 38, .a 39, .a 40, .a 41, .a 42, .a 43, .a 44])) (
     .ins (.pr (.bin .add) [.a 12, .k (.int .i64 1)]) <|
     .go 0 [.a 11, .a 45, .a 35, .a 36, .a 37, .a 38, .a 39, .a 40, .a 41, .a 42, .a 43, .a 44])) (
    .ins (.pr (.scl) [.k (.bool true)]) <|
    .ret [.a 24]))
def S_i_AllTrue : Nat → Sem1 := pick [(66, F_i_World_up), (67, F_i_TrueTold)]
def F_i_AllTrue : Sem1 := fun ts => p_i_AllTrue.den S_i_AllTrue rounds [] ts
def p_eqLink : PL :=
  .ins (.pr (.bin .neq) [.a 0, .a 4]) <|
  .ite 8 (
   .ins (.pr (.scl) [.k (.bool false)]) <|
   .ret [.a 9]) (
   .ins (.pr (.bin .neq) [.a 1, .a 5]) <|
   .ite 9 (
    .ins (.pr (.scl) [.k (.bool false)]) <|
    .ret [.a 10]) (
    .ins (.pr (.bin .neq) [.a 2, .a 6]) <|
    .ite 10 (
     .ins (.pr (.scl) [.k (.bool false)]) <|
     .ret [.a 11]) (
     .ins (.pr (.bin .neq) [.a 3, .a 7]) <|
     .ite 11 (
      .ins (.pr (.scl) [.k (.bool false)]) <|
      .ret [.a 12]) (
      .ins (.pr (.scl) [.k (.bool true)]) <|
      .ret [.a 12]))))
def S_eqLink : Nat → Sem1 := pick []
def F_eqLink : Sem1 := fun ts => p_eqLink.den S_eqLink rounds [] ts
def p_eqLinkS : PL :=
  .ins (.pr (.len) [.a 0]) <|
  .ins (.pr (.len) [.a 1]) <|
  .ins (.pr (.bin .neq) [.a 2, .a 3]) <|
  .ite 4 (
   .ins (.pr (.scl) [.k (.bool false)]) <|
   .ret [.a 5]) (
   .loop [.k (.bool false), .k (.int .i64 0)] (
    .ins (.pr (.len) [.a 0]) <|
    .ins (.pr (.bin .lss) [.a 6, .a 7]) <|
    .ite 8 (
     .ins (.pr (.bnd) [.a 0, .a 6]) <|
     .ins (.pr (.cell 4 0) [.a 0, .a 6]) <|
     .ins (.pr (.cell 4 1) [.a 0, .a 6]) <|
     .ins (.pr (.cell 4 2) [.a 0, .a 6]) <|
     .ins (.pr (.cell 4 3) [.a 0, .a 6]) <|
     .ins (.pr (.bnd) [.a 1, .a 6]) <|
     .ins (.pr (.cell 4 0) [.a 1, .a 6]) <|
     .ins (.pr (.cell 4 1) [.a 1, .a 6]) <|
     .ins (.pr (.cell 4 2) [.a 1, .a 6]) <|
     .ins (.pr (.cell 4 3) [.a 1, .a 6]) <|
     .ins (.cl 140 [.a 10, .a 11, .a 12, .a 13, .a 15, .a 16, .a 17, .a 18] 1) <|
     .ins (.pr (.un .not) [.a 19]) <|
     .ite 20 (
      .ins (.pr (.scl) [.k (.bool false)]) <|
      .ret [.a 21]) (
      .ins (.pr (.bin .add) [.a 6, .k (.int .i64 1)]) <|
      .go 0 [.a 5, .a 21])) (
     .ins (.pr (.scl) [.k (.bool true)]) <|
     .ret [.a 9])))
def S_eqLinkS : Nat → Sem1 := pick [(140, F_eqLink)]
def F_eqLinkS : Sem1 := fun ts => p_eqLinkS.den S_eqLinkS rounds [] ts
def p_eqThing : PL :=
  .ins (.pr (.bin .neq) [.a 0, .a 4]) <|
  .ite 8 (
   .ins (.pr (.scl) [.k (.bool false)]) <|
   .ret [.a 9]) (
   .ins (.pr (.bin .neq) [.a 1, .a 5]) <|
   .ite 9 (
    .ins (.pr (.scl) [.k (.bool false)]) <|
    .ret [.a 10]) (
    .ins (.pr (.bin .neq) [.a 2, .a 6]) <|
    .ite 10 (
     .ins (.pr (.scl) [.k (.bool false)]) <|
     .ret [.a 11]) (
     .ins (.pr (.bb .neq) [.a 3, .a 7]) <|
     .ite 11 (
      .ins (.pr (.scl) [.k (.bool false)]) <|
      .ret [.a 12]) (
      .ins (.pr (.scl) [.k (.bool true)]) <|
      .ret [.a 12]))))
def S_eqThing : Nat → Sem1 := pick []
def F_eqThing : Sem1 := fun ts => p_eqThing.den S_eqThing rounds [] ts
def p_eqThingS : PL :=
  .ins (.pr (.len) [.a 0]) <|
  .ins (.pr (.len) [.a 1]) <|
  .ins (.pr (.bin .neq) [.a 2, .a 3]) <|
  .ite 4 (
   .ins (.pr (.scl) [.k (.bool false)]) <|
   .ret [.a 5]) (
   .loop [.k (.bool false), .k (.int .i64 0)] (
    .ins (.pr (.len) [.a 0]) <|
    .ins (.pr (.bin .lss) [.a 6, .a 7]) <|
    .ite 8 (
     .ins (.pr (.bnd) [.a 0, .a 6]) <|
     .ins (.pr (.cell 4 0) [.a 0, .a 6]) <|
     .ins (.pr (.cell 4 1) [.a 0, .a 6]) <|
     .ins (.pr (.cell 4 2) [.a 0, .a 6]) <|
     .ins (.pr (.cell 4 3) [.a 0, .a 6]) <|
     .ins (.pr (.bnd) [.a 1, .a 6]) <|
     .ins (.pr (.cell 4 0) [.a 1, .a 6]) <|
     .ins (.pr (.cell 4 1) [.a 1, .a 6]) <|
     .ins (.pr (.cell 4 2) [.a 1, .a 6]) <|
     .ins (.pr (.cell 4 3) [.a 1, .a 6]) <|
     .ins (.cl 141 [.a 10, .a 11, .a 12, .a 13, .a 15, .a 16, .a 17, .a 18] 1) <|
     .ins (.pr (.un .not) [.a 19]) <|
     .ite 20 (
      .ins (.pr (.scl) [.k (.bool false)]) <|
      .ret [.a 21]) (
      .ins (.pr (.bin .add) [.a 6, .k (.int .i64 1)]) <|
      .go 0 [.a 5, .a 21])) (
     .ins (.pr (.scl) [.k (.bool true)]) <|
     .ret [.a 9])))
def S_eqThingS : Nat → Sem1 := pick [(141, F_eqThing)]
def F_eqThingS : Sem1 := fun ts => p_eqThingS.den S_eqThingS rounds [] ts
def p_eqNet : PL :=
  .ins (.pr (.bin .neq) [.a 0, .a 3]) <|
  .ite 6 (
   .ins (.pr (.scl) [.k (.bool false)]) <|
   .ret [.a 7]) (
   .ins (.cl 119 [.a 1, .a 4] 1) <|
   .ins (.pr (.un .not) [.a 7]) <|
   .ite 8 (
    .ins (.pr (.scl) [.k (.bool false)]) <|
    .ret [.a 9]) (
    .ins (.cl 120 [.a 2, .a 5] 1) <|
    .ins (.pr (.un .not) [.a 9]) <|
    .ite 10 (
     .ins (.pr (.scl) [.k (.bool false)]) <|
     .ret [.a 11]) (
     .ins (.pr (.scl) [.k (.bool true)]) <|
     .ret [.a 11])))
def S_eqNet : Nat → Sem1 := pick [(119, F_eqLinkS), (120, F_eqThingS)]
def F_eqNet : Sem1 := fun ts => p_eqNet.den S_eqNet rounds [] ts
def p_eqBoolS : PL :=
  .ins (.pr (.len) [.a 0]) <|
  .ins (.pr (.len) [.a 1]) <|
  .ins (.pr (.bin .neq) [.a 2, .a 3]) <|
  .ite 4 (
   .ins (.pr (.scl) [.k (.bool false)]) <|
   .ret [.a 5]) (
   .loop [.k (.bool false), .k (.int .i64 0)] (
    .ins (.pr (.len) [.a 0]) <|
    .ins (.pr (.bin .lss) [.a 6, .a 7]) <|
    .ite 8 (
     .ins (.pr (.bnd) [.a 0, .a 6]) <|
     .ins (.pr (.cell 1 0) [.a 0, .a 6]) <|
     .ins (.pr (.bnd) [.a 1, .a 6]) <|
     .ins (.pr (.cell 1 0) [.a 1, .a 6]) <|
     .ins (.pr (.bb .neq) [.a 10, .a 12]) <|
     .ite 13 (
      .ins (.pr (.scl) [.k (.bool false)]) <|
      .ret [.a 14]) (
      .ins (.pr (.bin .add) [.a 6, .k (.int .i64 1)]) <|
      .go 0 [.a 5, .a 14])) (
     .ins (.pr (.scl) [.k (.bool true)]) <|
     .ret [.a 9])))
def S_eqBoolS : Nat → Sem1 := pick []
def F_eqBoolS : Sem1 := fun ts => p_eqBoolS.den S_eqBoolS rounds [] ts
def p_eqIntS : PL :=
  .ins (.pr (.len) [.a 0]) <|
  .ins (.pr (.len) [.a 1]) <|
  .ins (.pr (.bin .neq) [.a 2, .a 3]) <|
  .ite 4 (
   .ins (.pr (.scl) [.k (.bool false)]) <|
   .ret [.a 5]) (
   .loop [.k (.bool false), .k (.int .i64 0)] (
    .ins (.pr (.len) [.a 0]) <|
    .ins (.pr (.bin .lss) [.a 6, .a 7]) <|
    .ite 8 (
     .ins (.pr (.bnd) [.a 0, .a 6]) <|
     .ins (.pr (.cell 1 0) [.a 0, .a 6]) <|
     .ins (.pr (.bnd) [.a 1, .a 6]) <|
     .ins (.pr (.cell 1 0) [.a 1, .a 6]) <|
     .ins (.pr (.bin .neq) [.a 10, .a 12]) <|
     .ite 13 (
      .ins (.pr (.scl) [.k (.bool false)]) <|
      .ret [.a 14]) (
      .ins (.pr (.bin .add) [.a 6, .k (.int .i64 1)]) <|
      .go 0 [.a 5, .a 14])) (
     .ins (.pr (.scl) [.k (.bool true)]) <|
     .ret [.a 9])))
def S_eqIntS : Nat → Sem1 := pick []
def F_eqIntS : Sem1 := fun ts => p_eqIntS.den S_eqIntS rounds [] ts
def p_eqNear : PL :=
  .ins (.pr (.bin .neq) [.a 0, .a 2]) <|
  .ite 4 (
   .ins (.pr (.scl) [.k (.bool false)]) <|
   .ret [.a 5]) (
   .ins (.pr (.bin .neq) [.a 1, .a 3]) <|
   .ite 5 (
    .ins (.pr (.scl) [.k (.bool false)]) <|
    .ret [.a 6]) (
    .ins (.pr (.scl) [.k (.bool true)]) <|
    .ret [.a 6]))
def S_eqNear : Nat → Sem1 := pick []
def F_eqNear : Sem1 := fun ts => p_eqNear.den S_eqNear rounds [] ts
def p_eqNearS : PL :=
  .ins (.pr (.len) [.a 0]) <|
  .ins (.pr (.len) [.a 1]) <|
  .ins (.pr (.bin .neq) [.a 2, .a 3]) <|
  .ite 4 (
   .ins (.pr (.scl) [.k (.bool false)]) <|
   .ret [.a 5]) (
   .loop [.k (.bool false), .k (.int .i64 0)] (
    .ins (.pr (.len) [.a 0]) <|
    .ins (.pr (.bin .lss) [.a 6, .a 7]) <|
    .ite 8 (
     .ins (.pr (.bnd) [.a 0, .a 6]) <|
     .ins (.pr (.cell 2 0) [.a 0, .a 6]) <|
     .ins (.pr (.cell 2 1) [.a 0, .a 6]) <|
     .ins (.pr (.bnd) [.a 1, .a 6]) <|
     .ins (.pr (.cell 2 0) [.a 1, .a 6]) <|
     .ins (.pr (.cell 2 1) [.a 1, .a 6]) <|
     .ins (.cl 137 [.a 10, .a 11, .a 13, .a 14] 1) <|
     .ins (.pr (.un .not) [.a 15]) <|
     .ite 16 (
      .ins (.pr (.scl) [.k (.bool false)]) <|
      .ret [.a 17]) (
      .ins (.pr (.bin .add) [.a 6, .k (.int .i64 1)]) <|
      .go 0 [.a 5, .a 17])) (
     .ins (.pr (.scl) [.k (.bool true)]) <|
     .ret [.a 9])))
def S_eqNearS : Nat → Sem1 := pick [(137, F_eqNear)]
def F_eqNearS : Sem1 := fun ts => p_eqNearS.den S_eqNearS rounds [] ts
def p_eqRecord : PL :=
  .ins (.pr (.bin .neq) [.a 0, .a 8]) <|
  .ite 16 (
   .ins (.pr (.scl) [.k (.bool false)]) <|
   .ret [.a 17]) (
   .ins (.pr (.bin .neq) [.a 1, .a 9]) <|
   .ite 17 (
    .ins (.pr (.scl) [.k (.bool false)]) <|
    .ret [.a 18]) (
    .ins (.pr (.bin .neq) [.a 2, .a 10]) <|
    .ite 18 (
     .ins (.pr (.scl) [.k (.bool false)]) <|
     .ret [.a 19]) (
     .ins (.pr (.bin .neq) [.a 3, .a 11]) <|
     .ite 19 (
      .ins (.pr (.scl) [.k (.bool false)]) <|
      .ret [.a 20]) (
      .ins (.pr (.bin .neq) [.a 4, .a 12]) <|
      .ite 20 (
       .ins (.pr (.scl) [.k (.bool false)]) <|
       .ret [.a 21]) (
       .ins (.cl 107 [.a 5, .a 13] 1) <|
       .ins (.pr (.un .not) [.a 21]) <|
       .ite 22 (
        .ins (.pr (.scl) [.k (.bool false)]) <|
        .ret [.a 23]) (
        .ins (.pr (.bin .neq) [.a 6, .a 14]) <|
        .ite 23 (
         .ins (.pr (.scl) [.k (.bool false)]) <|
         .ret [.a 24]) (
         .ins (.pr (.bb .neq) [.a 7, .a 15]) <|
         .ite 24 (
          .ins (.pr (.scl) [.k (.bool false)]) <|
          .ret [.a 25]) (
          .ins (.pr (.scl) [.k (.bool true)]) <|
          .ret [.a 25]))))))))
def S_eqRecord : Nat → Sem1 := pick [(107, F_eqNearS)]
def F_eqRecord : Sem1 := fun ts => p_eqRecord.den S_eqRecord rounds [] ts
def p_eqRecordS : PL :=
  .ins (.pr (.len) [.a 0]) <|
  .ins (.pr (.len) [.a 1]) <|
  .ins (.pr (.bin .neq) [.a 2, .a 3]) <|
  .ite 4 (
   .ins (.pr (.scl) [.k (.bool false)]) <|
   .ret [.a 5]) (
   .loop [.k (.bool false), .k (.int .i64 0)] (
    .ins (.pr (.len) [.a 0]) <|
    .ins (.pr (.bin .lss) [.a 6, .a 7]) <|
    .ite 8 (
     .ins (.pr (.bnd) [.a 0, .a 6]) <|
     .ins (.pr (.cell 8 0) [.a 0, .a 6]) <|
     .ins (.pr (.cell 8 1) [.a 0, .a 6]) <|
     .ins (.pr (.cell 8 2) [.a 0, .a 6]) <|
     .ins (.pr (.cell 8 3) [.a 0, .a 6]) <|
     .ins (.pr (.cell 8 4) [.a 0, .a 6]) <|
     .ins (.pr (.cell 8 5) [.a 0, .a 6]) <|
     .ins (.pr (.cell 8 6) [.a 0, .a 6]) <|
     .ins (.pr (.cell 8 7) [.a 0, .a 6]) <|
     .ins (.pr (.bnd) [.a 1, .a 6]) <|
     .ins (.pr (.cell 8 0) [.a 1, .a 6]) <|
     .ins (.pr (.cell 8 1) [.a 1, .a 6]) <|
     .ins (.pr (.cell 8 2) [.a 1, .a 6]) <|
     .ins (.pr (.cell 8 3) [.a 1, .a 6]) <|
     .ins (.pr (.cell 8 4) [.a 1, .a 6]) <|
     .ins (.pr (.cell 8 5) [.a 1, .a 6]) <|
     .ins (.pr (.cell 8 6) [.a 1, .a 6]) <|
     .ins (.pr (.cell 8 7) [.a 1, .a 6]) <|
     .ins (.cl 50 [.a 10, .a 11, .a 12, .a 13, .a 14, .a 15, .a 16, .a 17, .a 19, .a 20, .a 21, .a 22, .a 23, .a 24, .a 25, .a 26] 1) <|
     .ins (.pr (.un .not) [.a 27]) <|
     .ite 28 (
      .ins (.pr (.scl) [.k (.bool false)]) <|
      .ret [.a 29]) (
      .ins (.pr (.bin .add) [.a 6, .k (.int .i64 1)]) <|
      .go 0 [.a 5, .a 29])) (
     .ins (.pr (.scl) [.k (.bool true)]) <|
     .ret [.a 9])))
def S_eqRecordS : Nat → Sem1 := pick [(50, F_eqRecord)]
def F_eqRecordS : Sem1 := fun ts => p_eqRecordS.den S_eqRecordS rounds [] ts
def p_eqSelf : PL :=
  .ins (.pr (.bin .neq) [.a 0, .a 7]) <|
  .ite 14 (
   .ins (.pr (.scl) [.k (.bool false)]) <|
   .ret [.a 15]) (
   .ins (.pr (.bin .neq) [.a 1, .a 8]) <|
   .ite 15 (
    .ins (.pr (.scl) [.k (.bool false)]) <|
    .ret [.a 16]) (
    .ins (.cl 68 [.a 2, .a 3, .a 4, .a 9, .a 10, .a 11] 1) <|
    .ins (.pr (.un .not) [.a 16]) <|
    .ite 17 (
     .ins (.pr (.scl) [.k (.bool false)]) <|
     .ret [.a 18]) (
     .ins (.cl 21 [.a 5, .a 12] 1) <|
     .ins (.pr (.un .not) [.a 18]) <|
     .ite 19 (
      .ins (.pr (.scl) [.k (.bool false)]) <|
      .ret [.a 20]) (
      .ins (.cl 14 [.a 6, .a 13] 1) <|
      .ins (.pr (.un .not) [.a 20]) <|
      .ite 21 (
       .ins (.pr (.scl) [.k (.bool false)]) <|
       .ret [.a 22]) (
       .ins (.pr (.scl) [.k (.bool true)]) <|
       .ret [.a 22])))))
def S_eqSelf : Nat → Sem1 := pick [(14, F_eqRecordS), (21, F_eqIntS), (68, F_eqNet)]
def F_eqSelf : Sem1 := fun ts => p_eqSelf.den S_eqSelf rounds [] ts
def p_eqEar : PL :=
  .ins (.pr (.bin .neq) [.a 0, .a 4]) <|
  .ite 8 (
   .ins (.pr (.scl) [.k (.bool false)]) <|
   .ret [.a 9]) (
   .ins (.pr (.bin .neq) [.a 1, .a 5]) <|
   .ite 9 (
    .ins (.pr (.scl) [.k (.bool false)]) <|
    .ret [.a 10]) (
    .ins (.pr (.bin .neq) [.a 2, .a 6]) <|
    .ite 10 (
     .ins (.pr (.scl) [.k (.bool false)]) <|
     .ret [.a 11]) (
     .ins (.pr (.bb .neq) [.a 3, .a 7]) <|
     .ite 11 (
      .ins (.pr (.scl) [.k (.bool false)]) <|
      .ret [.a 12]) (
      .ins (.pr (.scl) [.k (.bool true)]) <|
      .ret [.a 12]))))
def S_eqEar : Nat → Sem1 := pick []
def F_eqEar : Sem1 := fun ts => p_eqEar.den S_eqEar rounds [] ts
def p_eqEarS : PL :=
  .ins (.pr (.len) [.a 0]) <|
  .ins (.pr (.len) [.a 1]) <|
  .ins (.pr (.bin .neq) [.a 2, .a 3]) <|
  .ite 4 (
   .ins (.pr (.scl) [.k (.bool false)]) <|
   .ret [.a 5]) (
   .loop [.k (.bool false), .k (.int .i64 0)] (
    .ins (.pr (.len) [.a 0]) <|
    .ins (.pr (.bin .lss) [.a 6, .a 7]) <|
    .ite 8 (
     .ins (.pr (.bnd) [.a 0, .a 6]) <|
     .ins (.pr (.cell 4 0) [.a 0, .a 6]) <|
     .ins (.pr (.cell 4 1) [.a 0, .a 6]) <|
     .ins (.pr (.cell 4 2) [.a 0, .a 6]) <|
     .ins (.pr (.cell 4 3) [.a 0, .a 6]) <|
     .ins (.pr (.bnd) [.a 1, .a 6]) <|
     .ins (.pr (.cell 4 0) [.a 1, .a 6]) <|
     .ins (.pr (.cell 4 1) [.a 1, .a 6]) <|
     .ins (.pr (.cell 4 2) [.a 1, .a 6]) <|
     .ins (.pr (.cell 4 3) [.a 1, .a 6]) <|
     .ins (.cl 128 [.a 10, .a 11, .a 12, .a 13, .a 15, .a 16, .a 17, .a 18] 1) <|
     .ins (.pr (.un .not) [.a 19]) <|
     .ite 20 (
      .ins (.pr (.scl) [.k (.bool false)]) <|
      .ret [.a 21]) (
      .ins (.pr (.bin .add) [.a 6, .k (.int .i64 1)]) <|
      .go 0 [.a 5, .a 21])) (
     .ins (.pr (.scl) [.k (.bool true)]) <|
     .ret [.a 9])))
def S_eqEarS : Nat → Sem1 := pick [(128, F_eqEar)]
def F_eqEarS : Sem1 := fun ts => p_eqEarS.den S_eqEarS rounds [] ts
def p_eqNode : PL :=
  .ins (.cl 84 [.a 0, .a 1, .a 2, .a 3, .a 4, .a 5, .a 6, .a 8, .a 9, .a 10, .a 11, .a 12, .a 13, .a 14] 1) <|
  .ins (.pr (.un .not) [.a 16]) <|
  .ite 17 (
   .ins (.pr (.scl) [.k (.bool false)]) <|
   .ret [.a 18]) (
   .ins (.cl 85 [.a 7, .a 15] 1) <|
   .ins (.pr (.un .not) [.a 18]) <|
   .ite 19 (
    .ins (.pr (.scl) [.k (.bool false)]) <|
    .ret [.a 20]) (
    .ins (.pr (.scl) [.k (.bool true)]) <|
    .ret [.a 20]))
def S_eqNode : Nat → Sem1 := pick [(84, F_eqSelf), (85, F_eqEarS)]
def F_eqNode : Sem1 := fun ts => p_eqNode.den S_eqNode rounds [] ts
def p_eqNodeS : PL :=
  .ins (.pr (.len) [.a 0]) <|
  .ins (.pr (.len) [.a 1]) <|
  .ins (.pr (.bin .neq) [.a 2, .a 3]) <|
  .ite 4 (
   .ins (.pr (.scl) [.k (.bool false)]) <|
   .ret [.a 5]) (
   .loop [.k (.bool false), .k (.int .i64 0)] (
    .ins (.pr (.len) [.a 0]) <|
    .ins (.pr (.bin .lss) [.a 6, .a 7]) <|
    .ite 8 (
     .ins (.pr (.bnd) [.a 0, .a 6]) <|
     .ins (.pr (.cell 8 0) [.a 0, .a 6]) <|
     .ins (.pr (.cell 8 1) [.a 0, .a 6]) <|
     .ins (.pr (.cell 8 2) [.a 0, .a 6]) <|
     .ins (.pr (.cell 8 3) [.a 0, .a 6]) <|
     .ins (.pr (.cell 8 4) [.a 0, .a 6]) <|
     .ins (.pr (.cell 8 5) [.a 0, .a 6]) <|
     .ins (.pr (.cell 8 6) [.a 0, .a 6]) <|
     .ins (.pr (.cell 8 7) [.a 0, .a 6]) <|
     .ins (.pr (.bnd) [.a 1, .a 6]) <|
     .ins (.pr (.cell 8 0) [.a 1, .a 6]) <|
     .ins (.pr (.cell 8 1) [.a 1, .a 6]) <|
     .ins (.pr (.cell 8 2) [.a 1, .a 6]) <|
     .ins (.pr (.cell 8 3) [.a 1, .a 6]) <|
     .ins (.pr (.cell 8 4) [.a 1, .a 6]) <|
     .ins (.pr (.cell 8 5) [.a 1, .a 6]) <|
     .ins (.pr (.cell 8 6) [.a 1, .a 6]) <|
     .ins (.pr (.cell 8 7) [.a 1, .a 6]) <|
     .ins (.cl 32 [.a 10, .a 11, .a 12, .a 13, .a 14, .a 15, .a 16, .a 17, .a 19, .a 20, .a 21, .a 22, .a 23, .a 24, .a 25, .a 26] 1) <|
     .ins (.pr (.un .not) [.a 27]) <|
     .ite 28 (
      .ins (.pr (.scl) [.k (.bool false)]) <|
      .ret [.a 29]) (
      .ins (.pr (.bin .add) [.a 6, .k (.int .i64 1)]) <|
      .go 0 [.a 5, .a 29])) (
     .ins (.pr (.scl) [.k (.bool true)]) <|
     .ret [.a 9])))
def S_eqNodeS : Nat → Sem1 := pick [(32, F_eqNode)]
def F_eqNodeS : Sem1 := fun ts => p_eqNodeS.den S_eqNodeS rounds [] ts
def p_eqPacket : PL :=
  .ins (.pr (.bin .neq) [.a 0, .a 6]) <|
  .ite 12 (
   .ins (.pr (.scl) [.k (.bool false)]) <|
   .ret [.a 13]) (
   .ins (.pr (.bin .neq) [.a 1, .a 7]) <|
   .ite 13 (
    .ins (.pr (.scl) [.k (.bool false)]) <|
    .ret [.a 14]) (
    .ins (.pr (.bin .neq) [.a 2, .a 8]) <|
    .ite 14 (
     .ins (.pr (.scl) [.k (.bool false)]) <|
     .ret [.a 15]) (
     .ins (.pr (.bin .neq) [.a 3, .a 9]) <|
     .ite 15 (
      .ins (.pr (.scl) [.k (.bool false)]) <|
      .ret [.a 16]) (
      .ins (.cl 21 [.a 4, .a 10] 1) <|
      .ins (.pr (.un .not) [.a 16]) <|
      .ite 17 (
       .ins (.pr (.scl) [.k (.bool false)]) <|
       .ret [.a 18]) (
       .ins (.cl 14 [.a 5, .a 11] 1) <|
       .ins (.pr (.un .not) [.a 18]) <|
       .ite 19 (
        .ins (.pr (.scl) [.k (.bool false)]) <|
        .ret [.a 20]) (
        .ins (.pr (.scl) [.k (.bool true)]) <|
        .ret [.a 20]))))))
def S_eqPacket : Nat → Sem1 := pick [(14, F_eqRecordS), (21, F_eqIntS)]
def F_eqPacket : Sem1 := fun ts => p_eqPacket.den S_eqPacket rounds [] ts
def p_eqPacketS : PL :=
  .ins (.pr (.len) [.a 0]) <|
  .ins (.pr (.len) [.a 1]) <|
  .ins (.pr (.bin .neq) [.a 2, .a 3]) <|
  .ite 4 (
   .ins (.pr (.scl) [.k (.bool false)]) <|
   .ret [.a 5]) (
   .loop [.k (.bool false), .k (.int .i64 0)] (
    .ins (.pr (.len) [.a 0]) <|
    .ins (.pr (.bin .lss) [.a 6, .a 7]) <|
    .ite 8 (
     .ins (.pr (.bnd) [.a 0, .a 6]) <|
     .ins (.pr (.cell 6 0) [.a 0, .a 6]) <|
     .ins (.pr (.cell 6 1) [.a 0, .a 6]) <|
     .ins (.pr (.cell 6 2) [.a 0, .a 6]) <|
     .ins (.pr (.cell 6 3) [.a 0, .a 6]) <|
     .ins (.pr (.cell 6 4) [.a 0, .a 6]) <|
     .ins (.pr (.cell 6 5) [.a 0, .a 6]) <|
     .ins (.pr (.bnd) [.a 1, .a 6]) <|
     .ins (.pr (.cell 6 0) [.a 1, .a 6]) <|
     .ins (.pr (.cell 6 1) [.a 1, .a 6]) <|
     .ins (.pr (.cell 6 2) [.a 1, .a 6]) <|
     .ins (.pr (.cell 6 3) [.a 1, .a 6]) <|
     .ins (.pr (.cell 6 4) [.a 1, .a 6]) <|
     .ins (.pr (.cell 6 5) [.a 1, .a 6]) <|
     .ins (.cl 121 [.a 10, .a 11, .a 12, .a 13, .a 14, .a 15, .a 17, .a 18, .a 19, .a 20, .a 21, .a 22] 1) <|
     .ins (.pr (.un .not) [.a 23]) <|
     .ite 24 (
      .ins (.pr (.scl) [.k (.bool false)]) <|
      .ret [.a 25]) (
      .ins (.pr (.bin .add) [.a 6, .k (.int .i64 1)]) <|
      .go 0 [.a 5, .a 25])) (
     .ins (.pr (.scl) [.k (.bool true)]) <|
     .ret [.a 9])))
def S_eqPacketS : Nat → Sem1 := pick [(121, F_eqPacket)]
def F_eqPacketS : Sem1 := fun ts => p_eqPacketS.den S_eqPacketS rounds [] ts
def p_eqWorld : PL :=
  .ins (.cl 68 [.a 0, .a 1, .a 2, .a 10, .a 11, .a 12] 1) <|
  .ins (.pr (.un .not) [.a 20]) <|
  .ite 21 (
   .ins (.pr (.scl) [.k (.bool false)]) <|
   .ret [.a 22]) (
   .ins (.cl 69 [.a 3, .a 13] 1) <|
   .ins (.pr (.un .not) [.a 22]) <|
   .ite 23 (
    .ins (.pr (.scl) [.k (.bool false)]) <|
    .ret [.a 24]) (
    .ins (.cl 69 [.a 4, .a 14] 1) <|
    .ins (.pr (.un .not) [.a 24]) <|
    .ite 25 (
     .ins (.pr (.scl) [.k (.bool false)]) <|
     .ret [.a 26]) (
     .ins (.cl 21 [.a 5, .a 15] 1) <|
     .ins (.pr (.un .not) [.a 26]) <|
     .ite 27 (
      .ins (.pr (.scl) [.k (.bool false)]) <|
      .ret [.a 28]) (
      .ins (.cl 70 [.a 6, .a 16] 1) <|
      .ins (.pr (.un .not) [.a 28]) <|
      .ite 29 (
       .ins (.pr (.scl) [.k (.bool false)]) <|
       .ret [.a 30]) (
       .ins (.cl 71 [.a 7, .a 17] 1) <|
       .ins (.pr (.un .not) [.a 30]) <|
       .ite 31 (
        .ins (.pr (.scl) [.k (.bool false)]) <|
        .ret [.a 32]) (
        .ins (.cl 14 [.a 8, .a 18] 1) <|
        .ins (.pr (.un .not) [.a 32]) <|
        .ite 33 (
         .ins (.pr (.scl) [.k (.bool false)]) <|
         .ret [.a 34]) (
         .ins (.pr (.bin .neq) [.a 9, .a 19]) <|
         .ite 34 (
          .ins (.pr (.scl) [.k (.bool false)]) <|
          .ret [.a 35]) (
          .ins (.pr (.scl) [.k (.bool true)]) <|
          .ret [.a 35]))))))))
def S_eqWorld : Nat → Sem1 := pick [(14, F_eqRecordS), (21, F_eqIntS), (68, F_eqNet), (69, F_eqBoolS), (70, F_eqNodeS), (71, F_eqPacketS)]
def F_eqWorld : Sem1 := fun ts => p_eqWorld.den S_eqWorld rounds [] ts
def p_FnExactAllTrue : PL :=
  .ins (.cl 23 [.a 0, .a 1, .a 2, .a 3, .a 4, .a 5, .a 6, .a 7, .a 8, .a 9, .k (.int .i64 1048576)] 1) <|
  .ins (.pr (.bin .lss) [.a 10, .k (.int .i64 0)]) <|
  .ite 11 (
   .ins (.pr (.scl) [.k (.bool true)]) <|
   .ret [.a 12]) (
   .ins (.cl 25 [.a 0, .a 1, .a 2, .a 3, .a 4, .a 5, .a 6, .a 7, .a 8, .a 9] 10) <|
   .ins (.cl 24 [.a 12, .a 13, .a 14, .a 15, .a 16, .a 17, .a 18, .a 19, .a 20, .a 21] 1) <|
   .ins (.cl 25 [.a 0, .a 1, .a 2, .a 3, .a 4, .a 5, .a 6, .a 7, .a 8, .a 9] 10) <|
   .ins (.cl 26 [.a 23, .a 24, .a 25, .a 26, .a 27, .a 28, .a 29, .a 30, .a 31, .a 32] 1) <|
   .ins (.pr (.bb .neq) [.a 33, .a 22]) <|
   .ite 34 (
    .ins (.pr (.scl) [.k (.bool false)]) <|
    .ret [.a 35]) (
    .ins (.cl 25 [.a 0, .a 1, .a 2, .a 3, .a 4, .a 5, .a 6, .a 7, .a 8, .a 9] 10) <|
    .ins (.cl 27 [.a 23, .a 24, .a 25, .a 26, .a 27, .a 28, .a 29, .a 30, .a 31, .a 32, .a 35, .a 36, .a 37, .a 38, .a 39, .a 40, .a 41, .a 42, .a 43, .a 44] 1) <|
    .ins (.pr (.un .not) [.a 45]) <|
    .ite 46 (
     .ins (.pr (.scl) [.k (.bool false)]) <|
     .ret [.a 47]) (
     .ins (.pr (.scl) [.k (.bool true)]) <|
     .ret [.a 47])))
def S_FnExactAllTrue : Nat → Sem1 := pick [(23, F_szWorld), (24, F_s_AllTrue), (25, F_toWorld), (26, F_i_AllTrue), (27, F_eqWorld)]
def F_FnExactAllTrue : Sem1 := fun ts => p_FnExactAllTrue.den S_FnExactAllTrue rounds [] ts
def p_s_l01In : PL :=
  .ins (.pr (.bin .geq) [.a 0, .a 1]) <|
  .ite 3 (
   .ins (.pr (.bin .leq) [.a 0, .a 2]) <|
   .ins (.pr (.scl) [.a 4]) <|
   .ret [.a 5]) (
   .ins (.pr (.scl) [.k (.bool false)]) <|
   .ret [.a 4])
def S_s_l01In : Nat → Sem1 := pick []
def F_s_l01In : Sem1 := fun ts => p_s_l01In.den S_s_l01In rounds [] ts
def p_s_LinkOk : PL :=
  .ins (.cl 40 [.a 0, .k (.int .i64 1), .k (.int .i64 6)] 1) <|
  .ite 5 (
   .ins (.cl 40 [.a 1, .k (.int .i64 1), .a 0] 1) <|
   .ite 6 (
    .ins (.cl 40 [.a 2, .k (.int .i64 1), .a 0] 1) <|
    .ite 7 (
     .ins (.pr (.bin .lss) [.a 1, .a 2]) <|
     .ite 8 (
      .ins (.cl 40 [.a 3, .k (.int .i64 1), .k (.int .i64 1000)] 1) <|
      .ite 9 (
       .ins (.cl 40 [.a 4, .k (.int .i64 0), .k (.int .i64 2)] 1) <|
       .ins (.pr (.scl) [.a 10]) <|
       .ret [.a 11]) (
       .ins (.pr (.scl) [.k (.bool false)]) <|
       .ret [.a 10])) (
      .ins (.pr (.scl) [.k (.bool false)]) <|
      .ret [.a 9])) (
     .ins (.pr (.scl) [.k (.bool false)]) <|
     .ret [.a 8])) (
    .ins (.pr (.scl) [.k (.bool false)]) <|
    .ret [.a 7])) (
   .ins (.pr (.scl) [.k (.bool false)]) <|
   .ret [.a 6])
def S_s_LinkOk : Nat → Sem1 := pick [(40, F_s_l01In)]
def F_s_LinkOk : Sem1 := fun ts => p_s_LinkOk.den S_s_LinkOk rounds [] ts
def p_s_l03Ahead : PL :=
  .ins (.pr (.bin .lss) [.a 0, .a 4]) <|
  .ite 8 (
   .ins (.pr (.scl) [.k (.bool true)]) <|
   .ret [.a 9]) (
   .ins (.pr (.bin .eql) [.a 0, .a 4]) <|
   .ite 9 (
    .ins (.pr (.bin .lss) [.a 1, .a 5]) <|
    .ite 10 (
     .ins (.pr (.scl) [.k (.bool true)]) <|
     .ret [.a 11]) (
     .ins (.pr (.bin .eql) [.a 1, .a 5]) <|
     .ite 11 (
      .ins (.pr (.bin .lss) [.a 3, .a 7]) <|
      .ins (.pr (.scl) [.a 12]) <|
      .ret [.a 13]) (
      .ins (.pr (.scl) [.k (.bool false)]) <|
      .ret [.a 12]))) (
    .ins (.pr (.scl) [.k (.bool false)]) <|
    .ret [.a 10]))
def S_s_l03Ahead : Nat → Sem1 := pick []
def F_s_l03Ahead : Sem1 := fun ts => p_s_l03Ahead.den S_s_l03Ahead rounds [] ts
def p_s_l03Thing : PL :=
  .ins (.pr (.bin .lss) [.a 1, .a 5]) <|
  .ite 8 (
   .ins (.pr (.scl) [.k (.bool true)]) <|
   .ret [.a 9]) (
   .ins (.pr (.bin .eql) [.a 1, .a 5]) <|
   .ite 9 (
    .ins (.pr (.bin .lss) [.a 0, .a 4]) <|
    .ins (.pr (.scl) [.a 10]) <|
    .ret [.a 11]) (
    .ins (.pr (.scl) [.k (.bool false)]) <|
    .ret [.a 10]))
def S_s_l03Thing : Nat → Sem1 := pick []
def F_s_l03Thing : Sem1 := fun ts => p_s_l03Thing.den S_s_l03Thing rounds [] ts
def p_s_NetOk : PL :=
  .ins (.cl 40 [.a 0, .k (.int .i64 1), .k (.int .i64 6)] 1) <|
  .ins (.pr (.un .not) [.a 3]) <|
  .ite 4 (
   .ins (.pr (.scl) [.k (.bool false)]) <|
   .ret [.a 5]) (
   .ins (.pr (.len) [.a 1]) <|
   .ins (.pr (.bin .gtr) [.a 5, .k (.int .i64 12)]) <|
   .ite 6 (
    .ins (.pr (.scl) [.k (.bool false)]) <|
    .ret [.a 7]) (
    .ins (.pr (.len) [.a 2]) <|
    .ins (.pr (.bin .gtr) [.a 7, .k (.int .i64 4)]) <|
    .ite 8 (
     .ins (.pr (.scl) [.k (.bool false)]) <|
     .ret [.a 9]) (
     .loop [.k (.bool false), .k (.int .i64 0)] (
      .ins (.pr (.len) [.a 1]) <|
      .ins (.pr (.bin .lss) [.a 10, .a 11]) <|
      .ite 12 (
       .ins (.pr (.bnd) [.a 1, .a 10]) <|
       .ins (.pr (.cell 4 0) [.a 1, .a 10]) <|
       .ins (.pr (.cell 4 1) [.a 1, .a 10]) <|
       .ins (.pr (.cell 4 2) [.a 1, .a 10]) <|
       .ins (.pr (.cell 4 3) [.a 1, .a 10]) <|
       .ins (.cl 142 [.a 0, .a 14, .a 15, .a 16, .a 17] 1) <|
       .ins (.pr (.un .not) [.a 18]) <|
       .ite 19 (
        .ins (.pr (.scl) [.k (.bool false)]) <|
        .ret [.a 20]) (
        .ins (.pr (.bin .gtr) [.a 10, .k (.int .i64 0)]) <|
        .ite 20 (
         .ins (.pr (.bin .sub) [.a 10, .k (.int .i64 1)]) <|
         .ins (.pr (.bnd) [.a 1, .a 21]) <|
         .ins (.pr (.cell 4 0) [.a 1, .a 21]) <|
         .ins (.pr (.cell 4 1) [.a 1, .a 21]) <|
         .ins (.pr (.cell 4 2) [.a 1, .a 21]) <|
         .ins (.pr (.cell 4 3) [.a 1, .a 21]) <|
         .ins (.pr (.bnd) [.a 1, .a 10]) <|
         .ins (.pr (.cell 4 0) [.a 1, .a 10]) <|
         .ins (.pr (.cell 4 1) [.a 1, .a 10]) <|
         .ins (.pr (.cell 4 2) [.a 1, .a 10]) <|
         .ins (.pr (.cell 4 3) [.a 1, .a 10]) <|
         .ins (.cl 143 [.a 23, .a 24, .a 25, .a 26, .a 28, .a 29, .a 30, .a 31] 1) <|
         .ins (.pr (.un .not) [.a 32]) <|
         .ite 33 (
          .ins (.pr (.scl) [.k (.bool false)]) <|
          .ret [.a 34]) (
          .ins (.pr (.bin .add) [.a 10, .k (.int .i64 1)]) <|
          .go 0 [.a 9, .a 34])) (
         .ins (.pr (.bin .add) [.a 10, .k (.int .i64 1)]) <|
         .go 0 [.a 9, .a 21]))) (
       .loop [.a 9, .k (.int .i64 0)] (
        .ins (.pr (.len) [.a 2]) <|
        .ins (.pr (.bin .lss) [.a 14, .a 15]) <|
        .ite 16 (
         .ins (.pr (.bnd) [.a 2, .a 14]) <|
         .ins (.pr (.cell 4 0) [.a 2, .a 14]) <|
         .ins (.pr (.cell 4 1) [.a 2, .a 14]) <|
         .ins (.pr (.cell 4 2) [.a 2, .a 14]) <|
         .ins (.pr (.cell 4 3) [.a 2, .a 14]) <|
         .ins (.cl 40 [.a 18, .k (.int .i64 1), .a 0] 1) <|
         .ins (.pr (.un .not) [.a 22]) <|
         .ite 23 (
          .ins (.pr (.scl) [.k (.bool false)]) <|
          .ret [.a 24]) (
          .ins (.cl 40 [.a 19, .k (.int .i64 1), .k (.int .i64 9)] 1) <|
          .ins (.pr (.un .not) [.a 24]) <|
          .ite 25 (
           .ins (.pr (.scl) [.k (.bool false)]) <|
           .ret [.a 26]) (
           .ins (.cl 40 [.a 20, .k (.int .i64 1), .k (.int .i64 1000)] 1) <|
           .ins (.pr (.un .not) [.a 26]) <|
           .ite 27 (
            .ins (.pr (.scl) [.k (.bool false)]) <|
            .ret [.a 28]) (
            .ins (.pr (.bin .gtr) [.a 14, .k (.int .i64 0)]) <|
            .ite 28 (
             .ins (.pr (.bin .sub) [.a 14, .k (.int .i64 1)]) <|
             .ins (.pr (.bnd) [.a 2, .a 29]) <|
             .ins (.pr (.cell 4 0) [.a 2, .a 29]) <|
             .ins (.pr (.cell 4 1) [.a 2, .a 29]) <|
             .ins (.pr (.cell 4 2) [.a 2, .a 29]) <|
             .ins (.pr (.cell 4 3) [.a 2, .a 29]) <|
             .ins (.cl 144 [.a 31, .a 32, .a 33, .a 34, .a 18, .a 19, .a 20, .a 21] 1) <|
             .ins (.pr (.un .not) [.a 35]) <|
             .ite 36 (
              .ins (.pr (.scl) [.k (.bool false)]) <|
              .ret [.a 37]) (
              .ins (.pr (.bin .add) [.a 14, .k (.int .i64 1)]) <|
              .go 0 [.a 13, .a 37])) (
             .ins (.pr (.bin .add) [.a 14, .k (.int .i64 1)]) <|
             .go 0 [.a 13, .a 29]))))) (
         .ins (.pr (.scl) [.k (.bool true)]) <|
         .ret [.a 17])))))))
def S_s_NetOk : Nat → Sem1 := pick [(40, F_s_l01In), (142, F_s_LinkOk), (143, F_s_l03Ahead), (144, F_s_l03Thing)]
def F_s_NetOk : Sem1 := fun ts => p_s_NetOk.den S_s_NetOk rounds [] ts
def p_s_CostTo : PL :=
  .loop [.k (.int .i64 0), .k (.int .i64 0)] (
   .ins (.pr (.len) [.a 1]) <|
   .ins (.pr (.bin .lss) [.a 7, .a 8]) <|
   .ite 9 (
    .ins (.pr (.bnd) [.a 1, .a 7]) <|
    .ins (.pr (.cell 4 0) [.a 1, .a 7]) <|
    .ins (.pr (.cell 4 1) [.a 1, .a 7]) <|
    .ins (.pr (.cell 4 2) [.a 1, .a 7]) <|
    .ins (.pr (.cell 4 3) [.a 1, .a 7]) <|
    .ins (.pr (.bin .eql) [.a 14, .a 5]) <|
    .ite 15 (
     .ins (.pr (.bin .eql) [.a 11, .a 3]) <|
     .ite 16 (
      .ins (.pr (.bin .eql) [.a 12, .a 4]) <|
      .ite 17 (
       .ins (.pr (.scl) [.a 13]) <|
       .ret [.a 18]) (
       .ins (.pr (.bin .eql) [.a 11, .a 4]) <|
       .ite 18 (
        .ins (.pr (.bin .eql) [.a 12, .a 3]) <|
        .ite 19 (
         .ins (.pr (.scl) [.a 13]) <|
         .ret [.a 20]) (
         .ins (.pr (.bin .add) [.a 7, .k (.int .i64 1)]) <|
         .go 0 [.a 6, .a 20])) (
        .ins (.pr (.bin .add) [.a 7, .k (.int .i64 1)]) <|
        .go 0 [.a 6, .a 19]))) (
      .ins (.pr (.bin .eql) [.a 11, .a 4]) <|
      .ite 17 (
       .ins (.pr (.bin .eql) [.a 12, .a 3]) <|
       .ite 18 (
        .ins (.pr (.scl) [.a 13]) <|
        .ret [.a 19]) (
        .ins (.pr (.bin .add) [.a 7, .k (.int .i64 1)]) <|
        .go 0 [.a 6, .a 19])) (
       .ins (.pr (.bin .add) [.a 7, .k (.int .i64 1)]) <|
       .go 0 [.a 6, .a 18]))) (
     .ins (.pr (.bin .add) [.a 7, .k (.int .i64 1)]) <|
     .go 0 [.a 6, .a 16])) (
    .ins (.pr (.scl) [.k (.int .i64 0)]) <|
    .ret [.a 10]))
def S_s_CostTo : Nat → Sem1 := pick []
def F_s_CostTo : Sem1 := fun ts => p_s_CostTo.den S_s_CostTo rounds [] ts
def p_s_l08Heard : PL :=
  .ins (.pr (.len) [.a 5]) <|
  .ins (.pr (.bin .rem) [.a 7, .k (.int .i64 2)]) <|
  .ins (.pr (.bin .eql) [.a 8, .k (.int .i64 1)]) <|
  .ite 9 (
   .ins (.pr (.scl) [.k (.bool false)]) <|
   .ret [.a 10]) (
   .ins (.pr (.len) [.a 5]) <|
   .ins (.pr (.bin .gtr) [.a 10, .k (.int .i64 60)]) <|
   .ite 11 (
    .ins (.pr (.scl) [.k (.bool false)]) <|
    .ret [.a 12]) (
    .loop [.k (.bool false), .k (.int .i64 0)] (
     .ins (.pr (.len) [.a 5]) <|
     .ins (.pr (.bin .lss) [.a 13, .a 14]) <|
     .ite 15 (
      .ins (.pr (.bnd) [.a 5, .a 13]) <|
      .ins (.pr (.cell 1 0) [.a 5, .a 13]) <|
      .ins (.pr (.bin .add) [.a 13, .k (.int .i64 1)]) <|
      .ins (.pr (.bnd) [.a 5, .a 18]) <|
      .ins (.pr (.cell 1 0) [.a 5, .a 18]) <|
      .ins (.cl 75 [.a 2, .a 3, .a 4, .a 0, .a 17, .a 20] 1) <|
      .ins (.pr (.bin .eql) [.a 21, .k (.int .i64 0)]) <|
      .ite 22 (
       .ins (.pr (.scl) [.k (.bool false)]) <|
       .ret [.a 23]) (
       .ins (.pr (.bin .gtr) [.a 13, .k (.int .i64 0)]) <|
       .ite 23 (
        .ins (.pr (.bin .sub) [.a 13, .k (.int .i64 2)]) <|
        .ins (.pr (.bnd) [.a 5, .a 24]) <|
        .ins (.pr (.cell 1 0) [.a 5, .a 24]) <|
        .ins (.pr (.bin .gtr) [.a 26, .a 17]) <|
        .ite 27 (
         .ins (.pr (.scl) [.k (.bool false)]) <|
         .ret [.a 28]) (
         .ins (.pr (.bin .sub) [.a 13, .k (.int .i64 2)]) <|
         .ins (.pr (.bnd) [.a 5, .a 28]) <|
         .ins (.pr (.cell 1 0) [.a 5, .a 28]) <|
         .ins (.pr (.bin .eql) [.a 30, .a 17]) <|
         .ite 31 (
          .ins (.pr (.bin .sub) [.a 13, .k (.int .i64 1)]) <|
          .ins (.pr (.bnd) [.a 5, .a 32]) <|
          .ins (.pr (.cell 1 0) [.a 5, .a 32]) <|
          .ins (.pr (.bin .geq) [.a 34, .a 20]) <|
          .ite 35 (
           .ins (.pr (.scl) [.k (.bool false)]) <|
           .ret [.a 36]) (
           .ins (.pr (.bin .add) [.a 13, .k (.int .i64 2)]) <|
           .go 0 [.a 12, .a 36])) (
          .ins (.pr (.bin .add) [.a 13, .k (.int .i64 2)]) <|
          .go 0 [.a 12, .a 32]))) (
        .ins (.pr (.bin .add) [.a 13, .k (.int .i64 2)]) <|
        .go 0 [.a 12, .a 24]))) (
      .ins (.pr (.scl) [.k (.bool true)]) <|
      .ret [.a 16]))))
def S_s_l08Heard : Nat → Sem1 := pick [(75, F_s_CostTo)]
def F_s_l08Heard : Sem1 := fun ts => p_s_l08Heard.den S_s_l08Heard rounds [] ts
def p_s_l04Near : PL :=
  .loop [.k (.bool false), .k (.int .i64 0)] (
   .ins (.pr (.len) [.a 5]) <|
   .ins (.pr (.bin .lss) [.a 9, .a 10]) <|
   .ite 11 (
    .ins (.pr (.bnd) [.a 5, .a 9]) <|
    .ins (.pr (.cell 2 0) [.a 5, .a 9]) <|
    .ins (.pr (.cell 2 1) [.a 5, .a 9]) <|
    .ins (.cl 40 [.a 13, .k (.int .i64 1), .k (.int .i64 6)] 1) <|
    .ins (.pr (.un .not) [.a 15]) <|
    .ite 16 (
     .ins (.pr (.scl) [.k (.bool false)]) <|
     .ret [.a 17]) (
     .ins (.pr (.bin .eql) [.a 13, .a 2]) <|
     .ite 17 (
      .ins (.pr (.scl) [.k (.bool false)]) <|
      .ret [.a 18]) (
      .ins (.cl 40 [.a 14, .k (.int .i64 1), .k (.int .i64 1000)] 1) <|
      .ins (.pr (.un .not) [.a 18]) <|
      .ite 19 (
       .ins (.pr (.scl) [.k (.bool false)]) <|
       .ret [.a 20]) (
       .ins (.pr (.bin .gtr) [.a 9, .k (.int .i64 0)]) <|
       .ite 20 (
        .ins (.pr (.bin .sub) [.a 9, .k (.int .i64 1)]) <|
        .ins (.pr (.bnd) [.a 5, .a 21]) <|
        .ins (.pr (.cell 2 0) [.a 5, .a 21]) <|
        .ins (.pr (.bin .geq) [.a 23, .a 13]) <|
        .ite 24 (
         .ins (.pr (.scl) [.k (.bool false)]) <|
         .ret [.a 25]) (
         .ins (.pr (.bin .add) [.a 9, .k (.int .i64 1)]) <|
         .go 0 [.a 8, .a 25])) (
        .ins (.pr (.bin .add) [.a 9, .k (.int .i64 1)]) <|
        .go 0 [.a 8, .a 21]))))) (
    .ins (.pr (.scl) [.k (.bool true)]) <|
    .ret [.a 12]))
def S_s_l04Near : Nat → Sem1 := pick [(40, F_s_l01In)]
def F_s_l04Near : Sem1 := fun ts => p_s_l04Near.den S_s_l04Near rounds [] ts
def p_s_RecordOk : PL :=
  .ins (.cl 40 [.a 2, .k (.int .i64 1), .k (.int .i64 6)] 1) <|
  .ins (.pr (.un .not) [.a 8]) <|
  .ite 9 (
   .ins (.pr (.scl) [.k (.bool false)]) <|
   .ret [.a 10]) (
   .ins (.cl 40 [.a 4, .k (.int .i64 1), .k (.int .i64 100000)] 1) <|
   .ins (.pr (.un .not) [.a 10]) <|
   .ite 11 (
    .ins (.pr (.scl) [.k (.bool false)]) <|
    .ret [.a 12]) (
    .ins (.pr (.bin .eql) [.a 1, .k (.int .i64 1)]) <|
    .ite 12 (
     .ins (.cl 40 [.a 0, .k (.int .i64 0), .k (.int .i64 2)] 1) <|
     .ite 13 (
      .ins (.pr (.bin .eql) [.a 3, .k (.int .i64 0)]) <|
      .ite 14 (
       .ins (.cl 132 [.a 0, .a 1, .a 2, .a 3, .a 4, .a 5, .a 6, .a 7] 1) <|
       .ite 15 (
        .ins (.pr (.bin .eql) [.a 6, .k (.int .i64 0)]) <|
        .ite 16 (
         .ins (.pr (.un .not) [.a 7]) <|
         .ins (.pr (.scl) [.a 17]) <|
         .ret [.a 18]) (
         .ins (.pr (.scl) [.k (.bool false)]) <|
         .ret [.a 17])) (
        .ins (.pr (.scl) [.k (.bool false)]) <|
        .ret [.a 16])) (
       .ins (.pr (.scl) [.k (.bool false)]) <|
       .ret [.a 15])) (
      .ins (.pr (.scl) [.k (.bool false)]) <|
      .ret [.a 14])) (
     .ins (.pr (.bin .eql) [.a 1, .k (.int .i64 2)]) <|
     .ite 13 (
      .ins (.cl 40 [.a 0, .k (.int .i64 0), .k (.int .i64 2)] 1) <|
      .ite 14 (
       .ins (.cl 40 [.a 3, .k (.int .i64 1), .k (.int .i64 6)] 1) <|
       .ite 15 (
        .ins (.pr (.len) [.a 5]) <|
        .ins (.pr (.bin .eql) [.a 16, .k (.int .i64 0)]) <|
        .ite 17 (
         .ins (.cl 40 [.a 6, .k (.int .i64 0), .k (.int .i64 60000)] 1) <|
         .ite 18 (
          .ins (.pr (.un .not) [.a 7]) <|
          .ins (.pr (.scl) [.a 19]) <|
          .ret [.a 20]) (
          .ins (.pr (.scl) [.k (.bool false)]) <|
          .ret [.a 19])) (
         .ins (.pr (.scl) [.k (.bool false)]) <|
         .ret [.a 18])) (
        .ins (.pr (.scl) [.k (.bool false)]) <|
        .ret [.a 16])) (
       .ins (.pr (.scl) [.k (.bool false)]) <|
       .ret [.a 15])) (
      .ins (.pr (.bin .eql) [.a 1, .k (.int .i64 3)]) <|
      .ite 14 (
       .ins (.pr (.bin .eql) [.a 0, .k (.int .i64 9)]) <|
       .ite 15 (
        .ins (.cl 40 [.a 3, .k (.int .i64 1), .k (.int .i64 9)] 1) <|
        .ite 16 (
         .ins (.pr (.len) [.a 5]) <|
         .ins (.pr (.bin .eql) [.a 17, .k (.int .i64 0)]) <|
         .ite 18 (
          .ins (.cl 40 [.a 6, .k (.int .i64 1), .k (.int .i64 1000)] 1) <|
          .ite 19 (
           .ins (.pr (.scl) [.k (.bool true)]) <|
           .ret [.a 20]) (
           .ins (.pr (.bin .eql) [.a 6, .k (.int .i64 60000)]) <|
           .ins (.pr (.scl) [.a 20]) <|
           .ret [.a 21])) (
          .ins (.pr (.scl) [.k (.bool false)]) <|
          .ret [.a 19])) (
         .ins (.pr (.scl) [.k (.bool false)]) <|
         .ret [.a 17])) (
        .ins (.pr (.scl) [.k (.bool false)]) <|
        .ret [.a 16])) (
       .ins (.pr (.scl) [.k (.bool false)]) <|
       .ret [.a 15])))))
def S_s_RecordOk : Nat → Sem1 := pick [(40, F_s_l01In), (132, F_s_l04Near)]
def F_s_RecordOk : Sem1 := fun ts => p_s_RecordOk.den S_s_RecordOk rounds [] ts
def p_s_Before : PL :=
  .ins (.pr (.bin .neq) [.a 0, .a 8]) <|
  .ite 16 (
   .ins (.pr (.bin .lss) [.a 0, .a 8]) <|
   .ins (.pr (.scl) [.a 17]) <|
   .ret [.a 18]) (
   .ins (.pr (.bin .neq) [.a 1, .a 9]) <|
   .ite 17 (
    .ins (.pr (.bin .lss) [.a 1, .a 9]) <|
    .ins (.pr (.scl) [.a 18]) <|
    .ret [.a 19]) (
    .ins (.pr (.bin .neq) [.a 2, .a 10]) <|
    .ite 18 (
     .ins (.pr (.bin .lss) [.a 2, .a 10]) <|
     .ins (.pr (.scl) [.a 19]) <|
     .ret [.a 20]) (
     .ins (.pr (.bin .lss) [.a 3, .a 11]) <|
     .ins (.pr (.scl) [.a 19]) <|
     .ret [.a 20])))
def S_s_Before : Nat → Sem1 := pick []
def F_s_Before : Sem1 := fun ts => p_s_Before.den S_s_Before rounds [] ts
def p_s_StoreOk : PL :=
  .ins (.pr (.len) [.a 0]) <|
  .ins (.pr (.bin .gtr) [.a 1, .k (.int .i64 150)]) <|
  .ite 2 (
   .ins (.pr (.scl) [.k (.bool false)]) <|
   .ret [.a 3]) (
   .loop [.k (.bool false), .k (.int .i64 0)] (
    .ins (.pr (.len) [.a 0]) <|
    .ins (.pr (.bin .lss) [.a 4, .a 5]) <|
    .ite 6 (
     .ins (.pr (.bnd) [.a 0, .a 4]) <|
     .ins (.pr (.cell 8 0) [.a 0, .a 4]) <|
     .ins (.pr (.cell 8 1) [.a 0, .a 4]) <|
     .ins (.pr (.cell 8 2) [.a 0, .a 4]) <|
     .ins (.pr (.cell 8 3) [.a 0, .a 4]) <|
     .ins (.pr (.cell 8 4) [.a 0, .a 4]) <|
     .ins (.pr (.cell 8 5) [.a 0, .a 4]) <|
     .ins (.pr (.cell 8 6) [.a 0, .a 4]) <|
     .ins (.pr (.cell 8 7) [.a 0, .a 4]) <|
     .ins (.cl 96 [.a 8, .a 9, .a 10, .a 11, .a 12, .a 13, .a 14, .a 15] 1) <|
     .ins (.pr (.un .not) [.a 16]) <|
     .ite 17 (
      .ins (.pr (.scl) [.k (.bool false)]) <|
      .ret [.a 18]) (
      .ins (.pr (.bin .gtr) [.a 4, .k (.int .i64 0)]) <|
      .ite 18 (
       .ins (.pr (.bin .sub) [.a 4, .k (.int .i64 1)]) <|
       .ins (.pr (.bnd) [.a 0, .a 19]) <|
       .ins (.pr (.cell 8 0) [.a 0, .a 19]) <|
       .ins (.pr (.cell 8 1) [.a 0, .a 19]) <|
       .ins (.pr (.cell 8 2) [.a 0, .a 19]) <|
       .ins (.pr (.cell 8 3) [.a 0, .a 19]) <|
       .ins (.pr (.cell 8 4) [.a 0, .a 19]) <|
       .ins (.pr (.cell 8 5) [.a 0, .a 19]) <|
       .ins (.pr (.cell 8 6) [.a 0, .a 19]) <|
       .ins (.pr (.cell 8 7) [.a 0, .a 19]) <|
       .ins (.pr (.bnd) [.a 0, .a 4]) <|
       .ins (.pr (.cell 8 0) [.a 0, .a 4]) <|
       .ins (.pr (.cell 8 1) [.a 0, .a 4]) <|
       .ins (.pr (.cell 8 2) [.a 0, .a 4]) <|
       .ins (.pr (.cell 8 3) [.a 0, .a 4]) <|
       .ins (.pr (.cell 8 4) [.a 0, .a 4]) <|
       .ins (.pr (.cell 8 5) [.a 0, .a 4]) <|
       .ins (.pr (.cell 8 6) [.a 0, .a 4]) <|
       .ins (.pr (.cell 8 7) [.a 0, .a 4]) <|
       .ins (.cl 97 [.a 21, .a 22, .a 23, .a 24, .a 25, .a 26, .a 27, .a 28, .a 30, .a 31, .a 32, .a 33, .a 34, .a 35, .a 36, .a 37] 1) <|
       .ins (.pr (.un .not) [.a 38]) <|
       .ite 39 (
        .ins (.pr (.scl) [.k (.bool false)]) <|
        .ret [.a 40]) (
        .ins (.pr (.bin .add) [.a 4, .k (.int .i64 1)]) <|
        .go 0 [.a 3, .a 40])) (
       .ins (.pr (.bin .add) [.a 4, .k (.int .i64 1)]) <|
       .go 0 [.a 3, .a 19]))) (
     .ins (.pr (.scl) [.k (.bool true)]) <|
     .ret [.a 7])))
def S_s_StoreOk : Nat → Sem1 := pick [(96, F_s_RecordOk), (97, F_s_Before)]
def F_s_StoreOk : Sem1 := fun ts => p_s_StoreOk.den S_s_StoreOk rounds [] ts
def p_s_SelfOk : PL :=
  .ins (.cl 122 [.a 2, .a 3, .a 4] 1) <|
  .ite 7 (
   .ins (.cl 40 [.a 0, .k (.int .i64 1), .a 2] 1) <|
   .ite 8 (
    .ins (.cl 40 [.a 1, .k (.int .i64 0), .k (.int .i64 90)] 1) <|
    .ite 9 (
     .ins (.cl 123 [.a 0, .a 1, .a 2, .a 3, .a 4, .a 5, .a 6] 1) <|
     .ite 10 (
      .ins (.cl 39 [.a 6] 1) <|
      .ins (.pr (.scl) [.a 11]) <|
      .ret [.a 12]) (
      .ins (.pr (.scl) [.k (.bool false)]) <|
      .ret [.a 11])) (
     .ins (.pr (.scl) [.k (.bool false)]) <|
     .ret [.a 10])) (
    .ins (.pr (.scl) [.k (.bool false)]) <|
    .ret [.a 9])) (
   .ins (.pr (.scl) [.k (.bool false)]) <|
   .ret [.a 8])
def S_s_SelfOk : Nat → Sem1 := pick [(39, F_s_StoreOk), (40, F_s_l01In), (122, F_s_NetOk), (123, F_s_l08Heard)]
def F_s_SelfOk : Sem1 := fun ts => p_s_SelfOk.den S_s_SelfOk rounds [] ts
def p_s_l10Heard : PL :=
  .ins (.pr (.lit 1 []) []) <|
  .loop [.a 1, .k (.int .i64 0)] (
   .ins (.pr (.len) [.a 0]) <|
   .ins (.pr (.bin .lss) [.a 3, .a 4]) <|
   .ite 5 (
    .ins (.pr (.bnd) [.a 0, .a 3]) <|
    .ins (.pr (.cell 4 3) [.a 0, .a 3]) <|
    .join (
     .ins (.pr (.bin .add) [.a 3, .k (.int .i64 1)]) <|
     .go 0 [.a 8, .a 9]) (
     .ite 7 (
      .ins (.pr (.bnd) [.a 0, .a 3]) <|
      .ins (.pr (.cell 4 0) [.a 0, .a 3]) <|
      .ins (.pr (.bnd) [.a 0, .a 3]) <|
      .ins (.pr (.cell 4 1) [.a 0, .a 3]) <|
      .ins (.pr (.lit 1 [true, true]) [.a 9, .a 11]) <|
      .ins (.pr (.app true 1) [.a 2, .a 12]) <|
      .go 0 [.a 13]) (
      .go 0 [.a 2]))) (
    .ret [.a 2]))
def S_s_l10Heard : Nat → Sem1 := pick []
def F_s_l10Heard : Sem1 := fun ts => p_s_l10Heard.den S_s_l10Heard rounds [] ts
def p_s_l10SameInts : PL :=
  .ins (.pr (.len) [.a 0]) <|
  .ins (.pr (.len) [.a 1]) <|
  .ins (.pr (.bin .neq) [.a 2, .a 3]) <|
  .ite 4 (
   .ins (.pr (.scl) [.k (.bool false)]) <|
   .ret [.a 5]) (
   .loop [.k (.bool false), .k (.int .i64 0)] (
    .ins (.pr (.len) [.a 0]) <|
    .ins (.pr (.bin .lss) [.a 6, .a 7]) <|
    .ite 8 (
     .ins (.pr (.bnd) [.a 0, .a 6]) <|
     .ins (.pr (.cell 1 0) [.a 0, .a 6]) <|
     .ins (.pr (.bnd) [.a 1, .a 6]) <|
     .ins (.pr (.cell 1 0) [.a 1, .a 6]) <|
     .ins (.pr (.bin .neq) [.a 10, .a 12]) <|
     .ite 13 (
      .ins (.pr (.scl) [.k (.bool false)]) <|
      .ret [.a 14]) (
      .ins (.pr (.bin .add) [.a 6, .k (.int .i64 1)]) <|
      .go 0 [.a 5, .a 14])) (
     .ins (.pr (.scl) [.k (.bool true)]) <|
     .ret [.a 9])))
def S_s_l10SameInts : Nat → Sem1 := pick []
def F_s_l10SameInts : Sem1 := fun ts => p_s_l10SameInts.den S_s_l10SameInts rounds [] ts
def p_s_NodeOk : PL :=
  .ins (.cl 74 [.a 0, .a 1, .a 2, .a 3, .a 4, .a 5, .a 6] 1) <|
  .ins (.pr (.un .not) [.a 8]) <|
  .ite 9 (
   .ins (.pr (.scl) [.k (.bool false)]) <|
   .ret [.a 10]) (
   .loop [.k (.bool false), .k (.int .i64 0), .k (.int .i64 1)] (
    .ins (.pr (.bin .leq) [.a 12, .a 2]) <|
    .ite 13 (
     .loop [.a 10, .a 11, .k (.int .i64 0)] (
      .ins (.pr (.bin .leq) [.a 16, .k (.int .i64 2)]) <|
      .ite 17 (
       .ins (.cl 75 [.a 2, .a 3, .a 4, .a 0, .a 12, .a 16] 1) <|
       .ins (.pr (.bin .eql) [.a 18, .k (.int .i64 0)]) <|
       .ite 19 (
        .ins (.pr (.bin .add) [.a 16, .k (.int .i64 1)]) <|
        .go 0 [.a 14, .a 15, .a 20]) (
        .ins (.pr (.len) [.a 7]) <|
        .ins (.pr (.bin .geq) [.a 15, .a 20]) <|
        .ite 21 (
         .ins (.pr (.scl) [.k (.bool false)]) <|
         .ret [.a 22]) (
         .ins (.pr (.bnd) [.a 7, .a 15]) <|
         .ins (.pr (.cell 4 0) [.a 7, .a 15]) <|
         .ins (.pr (.bin .neq) [.a 23, .a 12]) <|
         .ite 24 (
          .ins (.pr (.scl) [.k (.bool false)]) <|
          .ret [.a 25]) (
          .ins (.pr (.bnd) [.a 7, .a 15]) <|
          .ins (.pr (.cell 4 1) [.a 7, .a 15]) <|
          .ins (.pr (.bin .neq) [.a 26, .a 16]) <|
          .ite 27 (
           .ins (.pr (.scl) [.k (.bool false)]) <|
           .ret [.a 28]) (
           .ins (.pr (.bnd) [.a 7, .a 15]) <|
           .ins (.pr (.cell 4 2) [.a 7, .a 15]) <|
           .ins (.cl 40 [.a 29, .k (.int .i64 0), .k (.int .i64 3)] 1) <|
           .ins (.pr (.un .not) [.a 30]) <|
           .ite 31 (
            .ins (.pr (.scl) [.k (.bool false)]) <|
            .ret [.a 32]) (
            .ins (.pr (.bnd) [.a 7, .a 15]) <|
            .ins (.pr (.cell 4 3) [.a 7, .a 15]) <|
            .ite 33 (
             .ins (.pr (.bnd) [.a 7, .a 15]) <|
             .ins (.pr (.cell 4 2) [.a 7, .a 15]) <|
             .ins (.pr (.bin .eql) [.a 35, .k (.int .i64 0)]) <|
             .ite 36 (
              .ins (.pr (.scl) [.k (.bool false)]) <|
              .ret [.a 37]) (
              .ins (.pr (.bin .add) [.a 15, .k (.int .i64 1)]) <|
              .ins (.pr (.bin .add) [.a 16, .k (.int .i64 1)]) <|
              .go 0 [.a 14, .a 37, .a 38])) (
             .ins (.pr (.bin .add) [.a 15, .k (.int .i64 1)]) <|
             .ins (.pr (.bin .add) [.a 16, .k (.int .i64 1)]) <|
             .go 0 [.a 14, .a 34, .a 35]))))))) (
       .ins (.pr (.bin .add) [.a 12, .k (.int .i64 1)]) <|
       .go 1 [.a 14, .a 15, .a 18]))) (
     .ins (.pr (.len) [.a 7]) <|
     .ins (.pr (.bin .eql) [.a 11, .a 14]) <|
     .ite 15 (
      .ins (.cl 77 [.a 7] 1) <|
      .ins (.cl 76 [.a 5, .a 16] 1) <|
      .ins (.pr (.scl) [.a 17]) <|
      .ret [.a 18]) (
      .ins (.pr (.scl) [.k (.bool false)]) <|
      .ret [.a 16]))))
def S_s_NodeOk : Nat → Sem1 := pick [(40, F_s_l01In), (74, F_s_SelfOk), (75, F_s_CostTo), (76, F_s_l10SameInts), (77, F_s_l10Heard)]
def F_s_NodeOk : Sem1 := fun ts => p_s_NodeOk.den S_s_NodeOk rounds [] ts
def p_i_LinkOk : PL :=
  .ins (.cl 45 [.a 0, .k (.int .i64 1), .k (.int .i64 6)] 1) <|
  .ite 5 (
   .ins (.cl 45 [.a 1, .k (.int .i64 1), .a 0] 1) <|
   .ite 6 (
    .ins (.cl 45 [.a 2, .k (.int .i64 1), .a 0] 1) <|
    .ite 7 (
     .ins (.pr (.bin .lss) [.a 1, .a 2]) <|
     .ite 8 (
      .ins (.cl 45 [.a 3, .k (.int .i64 1), .k (.int .i64 1000)] 1) <|
      .ite 9 (
       .ins (.cl 45 [.a 4, .k (.int .i64 0), .k (.int .i64 2)] 1) <|
       .ins (.pr (.scl) [.a 10]) <|
       .ret [.a 11]) (
       .ins (.pr (.scl) [.k (.bool false)]) <|
       .ret [.a 10])) (
      .ins (.pr (.scl) [.k (.bool false)]) <|
      .ret [.a 9])) (
     .ins (.pr (.scl) [.k (.bool false)]) <|
     .ret [.a 8])) (
    .ins (.pr (.scl) [.k (.bool false)]) <|
    .ret [.a 7])) (
   .ins (.pr (.scl) [.k (.bool false)]) <|
   .ret [.a 6])
def S_i_LinkOk : Nat → Sem1 := pick [(45, F_i_in)]
def F_i_LinkOk : Sem1 := fun ts => p_i_LinkOk.den S_i_LinkOk rounds [] ts
def p_i_ahead : PL :=
  .ins (.pr (.bin .neq) [.a 0, .a 4]) <|
  .ite 8 (
   .ins (.pr (.bin .lss) [.a 0, .a 4]) <|
   .ins (.pr (.scl) [.a 9]) <|
   .ret [.a 10]) (
   .ins (.pr (.bin .neq) [.a 1, .a 5]) <|
   .ite 9 (
    .ins (.pr (.bin .lss) [.a 1, .a 5]) <|
    .ins (.pr (.scl) [.a 10]) <|
    .ret [.a 11]) (
    .ins (.pr (.bin .lss) [.a 3, .a 7]) <|
    .ins (.pr (.scl) [.a 10]) <|
    .ret [.a 11]))
def S_i_ahead : Nat → Sem1 := pick []
def F_i_ahead : Sem1 := fun ts => p_i_ahead.den S_i_ahead rounds [] ts
def p_i_less : PL :=
  .ins (.pr (.bin .lss) [.a 1, .a 5]) <|
  .ite 8 (
   .ins (.pr (.scl) [.k (.bool true)]) <|
   .ret [.a 9]) (
   .ins (.pr (.bin .eql) [.a 1, .a 5]) <|
   .ite 9 (
    .ins (.pr (.bin .lss) [.a 0, .a 4]) <|
    .ins (.pr (.scl) [.a 10]) <|
    .ret [.a 11]) (
    .ins (.pr (.scl) [.k (.bool false)]) <|
    .ret [.a 10]))
def S_i_less : Nat → Sem1 := pick []
def F_i_less : Sem1 := fun ts => p_i_less.den S_i_less rounds [] ts
def p_i_NetOk : PL :=
  .ins (.cl 45 [.a 0, .k (.int .i64 1), .k (.int .i64 6)] 1) <|
  .ins (.pr (.un .not) [.a 3]) <|
  .ite 4 (
   .ins (.pr (.scl) [.k (.bool false)]) <|
   .ret [.a 5]) (
   .ins (.pr (.len) [.a 1]) <|
   .ins (.pr (.bin .gtr) [.a 5, .k (.int .i64 12)]) <|
   .ite 6 (
    .ins (.pr (.scl) [.k (.bool false)]) <|
    .ret [.a 7]) (
    .ins (.pr (.len) [.a 2]) <|
    .ins (.pr (.bin .gtr) [.a 7, .k (.int .i64 4)]) <|
    .ite 8 (
     .ins (.pr (.scl) [.k (.bool false)]) <|
     .ret [.a 9]) (
     .ins (.pr (.len) [.a 1]) <|
     .loop [.k (.bool false), .k (.int .i64 0)] (
      .ins (.pr (.bin .lss) [.a 11, .a 9]) <|
      .ite 12 (
       .ins (.pr (.bnd) [.a 1, .a 11]) <|
       .ins (.pr (.cell 4 0) [.a 1, .a 11]) <|
       .ins (.pr (.cell 4 1) [.a 1, .a 11]) <|
       .ins (.pr (.cell 4 2) [.a 1, .a 11]) <|
       .ins (.pr (.cell 4 3) [.a 1, .a 11]) <|
       .ins (.cl 145 [.a 0, .a 14, .a 15, .a 16, .a 17] 1) <|
       .ins (.pr (.un .not) [.a 18]) <|
       .ite 19 (
        .ins (.pr (.scl) [.k (.bool false)]) <|
        .ret [.a 20]) (
        .ins (.pr (.bin .gtr) [.a 11, .k (.int .i64 0)]) <|
        .ite 20 (
         .ins (.pr (.bin .sub) [.a 11, .k (.int .i64 1)]) <|
         .ins (.pr (.bnd) [.a 1, .a 21]) <|
         .ins (.pr (.cell 4 0) [.a 1, .a 21]) <|
         .ins (.pr (.cell 4 1) [.a 1, .a 21]) <|
         .ins (.pr (.cell 4 2) [.a 1, .a 21]) <|
         .ins (.pr (.cell 4 3) [.a 1, .a 21]) <|
         .ins (.cl 146 [.a 23, .a 24, .a 25, .a 26, .a 14, .a 15, .a 16, .a 17] 1) <|
         .ins (.pr (.un .not) [.a 27]) <|
         .ite 28 (
          .ins (.pr (.scl) [.k (.bool false)]) <|
          .ret [.a 29]) (
          .ins (.pr (.bin .add) [.a 11, .k (.int .i64 1)]) <|
          .go 0 [.a 10, .a 29])) (
         .ins (.pr (.bin .add) [.a 11, .k (.int .i64 1)]) <|
         .go 0 [.a 10, .a 21]))) (
       .ins (.pr (.len) [.a 2]) <|
       .loop [.a 10, .k (.int .i64 0)] (
        .ins (.pr (.bin .lss) [.a 15, .a 13]) <|
        .ite 16 (
         .ins (.pr (.bnd) [.a 2, .a 15]) <|
         .ins (.pr (.cell 4 0) [.a 2, .a 15]) <|
         .ins (.pr (.cell 4 1) [.a 2, .a 15]) <|
         .ins (.pr (.cell 4 2) [.a 2, .a 15]) <|
         .ins (.pr (.cell 4 3) [.a 2, .a 15]) <|
         .ins (.cl 45 [.a 19, .k (.int .i64 1), .k (.int .i64 9)] 1) <|
         .ins (.pr (.un .not) [.a 22]) <|
         .ite 23 (
          .ins (.pr (.scl) [.k (.bool false)]) <|
          .ret [.a 24]) (
          .ins (.cl 45 [.a 18, .k (.int .i64 1), .a 0] 1) <|
          .ins (.pr (.un .not) [.a 24]) <|
          .ite 25 (
           .ins (.pr (.scl) [.k (.bool false)]) <|
           .ret [.a 26]) (
           .ins (.cl 45 [.a 20, .k (.int .i64 1), .k (.int .i64 1000)] 1) <|
           .ins (.pr (.un .not) [.a 26]) <|
           .ite 27 (
            .ins (.pr (.scl) [.k (.bool false)]) <|
            .ret [.a 28]) (
            .ins (.pr (.bin .gtr) [.a 15, .k (.int .i64 0)]) <|
            .ite 28 (
             .ins (.pr (.bin .sub) [.a 15, .k (.int .i64 1)]) <|
             .ins (.pr (.bnd) [.a 2, .a 29]) <|
             .ins (.pr (.cell 4 0) [.a 2, .a 29]) <|
             .ins (.pr (.cell 4 1) [.a 2, .a 29]) <|
             .ins (.pr (.cell 4 2) [.a 2, .a 29]) <|
             .ins (.pr (.cell 4 3) [.a 2, .a 29]) <|
             .ins (.cl 147 [.a 31, .a 32, .a 33, .a 34, .a 18, .a 19, .a 20, .a 21] 1) <|
             .ins (.pr (.un .not) [.a 35]) <|
             .ite 36 (
              .ins (.pr (.scl) [.k (.bool false)]) <|
              .ret [.a 37]) (
              .ins (.pr (.bin .add) [.a 15, .k (.int .i64 1)]) <|
              .go 0 [.a 14, .a 37])) (
             .ins (.pr (.bin .add) [.a 15, .k (.int .i64 1)]) <|
             .go 0 [.a 14, .a 29]))))) (
         .ins (.pr (.scl) [.k (.bool true)]) <|
         .ret [.a 17])))))))
def S_i_NetOk : Nat → Sem1 := pick [(45, F_i_in), (145, F_i_LinkOk), (146, F_i_ahead), (147, F_i_less)]
def F_i_NetOk : Sem1 := fun ts => p_i_NetOk.den S_i_NetOk rounds [] ts
def p_i_linkAt : PL :=
  .ins (.pr (.len) [.a 1]) <|
  .loop [.k (.int .i64 0), .k (.int .i64 0)] (
   .ins (.pr (.bin .lss) [.a 8, .a 6]) <|
   .ite 9 (
    .ins (.pr (.bnd) [.a 1, .a 8]) <|
    .ins (.pr (.cell 4 0) [.a 1, .a 8]) <|
    .ins (.pr (.cell 4 1) [.a 1, .a 8]) <|
    .ins (.pr (.cell 4 2) [.a 1, .a 8]) <|
    .ins (.pr (.cell 4 3) [.a 1, .a 8]) <|
    .ins (.pr (.bin .eql) [.a 14, .a 5]) <|
    .ite 15 (
     .ins (.pr (.bin .eql) [.a 11, .a 3]) <|
     .ite 16 (
      .ins (.pr (.bin .eql) [.a 12, .a 4]) <|
      .ite 17 (
       .ins (.pr (.scl) [.a 8]) <|
       .ret [.a 18]) (
       .ins (.pr (.bin .eql) [.a 11, .a 4]) <|
       .ite 18 (
        .ins (.pr (.bin .eql) [.a 12, .a 3]) <|
        .ite 19 (
         .ins (.pr (.scl) [.a 8]) <|
         .ret [.a 20]) (
         .ins (.pr (.bin .add) [.a 8, .k (.int .i64 1)]) <|
         .go 0 [.a 7, .a 20])) (
        .ins (.pr (.bin .add) [.a 8, .k (.int .i64 1)]) <|
        .go 0 [.a 7, .a 19]))) (
      .ins (.pr (.bin .eql) [.a 11, .a 4]) <|
      .ite 17 (
       .ins (.pr (.bin .eql) [.a 12, .a 3]) <|
       .ite 18 (
        .ins (.pr (.scl) [.a 8]) <|
        .ret [.a 19]) (
        .ins (.pr (.bin .add) [.a 8, .k (.int .i64 1)]) <|
        .go 0 [.a 7, .a 19])) (
       .ins (.pr (.bin .add) [.a 8, .k (.int .i64 1)]) <|
       .go 0 [.a 7, .a 18]))) (
     .ins (.pr (.bin .add) [.a 8, .k (.int .i64 1)]) <|
     .go 0 [.a 7, .a 16])) (
    .ins (.pr (.scl) [.k (.int .i64 (-1))]) <|
    .ret [.a 10]))
def S_i_linkAt : Nat → Sem1 := pick []
def F_i_linkAt : Sem1 := fun ts => p_i_linkAt.den S_i_linkAt rounds [] ts
def p_i_heardOk : PL :=
  .ins (.pr (.len) [.a 5]) <|
  .ins (.pr (.bin .rem) [.a 7, .k (.int .i64 2)]) <|
  .ins (.pr (.bin .neq) [.a 8, .k (.int .i64 0)]) <|
  .ite 9 (
   .ins (.pr (.scl) [.k (.bool false)]) <|
   .ret [.a 10]) (
   .loop [.k (.bool false), .k (.int .i64 0)] (
    .ins (.pr (.len) [.a 5]) <|
    .ins (.pr (.bin .lss) [.a 11, .a 12]) <|
    .ite 13 (
     .ins (.pr (.bnd) [.a 5, .a 11]) <|
     .ins (.pr (.cell 1 0) [.a 5, .a 11]) <|
     .ins (.pr (.bin .add) [.a 11, .k (.int .i64 1)]) <|
     .ins (.pr (.bnd) [.a 5, .a 16]) <|
     .ins (.pr (.cell 1 0) [.a 5, .a 16]) <|
     .ins (.cl 127 [.a 2, .a 3, .a 4, .a 0, .a 15, .a 18] 1) <|
     .ins (.pr (.bin .lss) [.a 19, .k (.int .i64 0)]) <|
     .ite 20 (
      .ins (.pr (.scl) [.k (.bool false)]) <|
      .ret [.a 21]) (
      .ins (.pr (.bin .gtr) [.a 11, .k (.int .i64 0)]) <|
      .ite 21 (
       .ins (.pr (.bin .sub) [.a 11, .k (.int .i64 2)]) <|
       .ins (.pr (.bnd) [.a 5, .a 22]) <|
       .ins (.pr (.cell 1 0) [.a 5, .a 22]) <|
       .ins (.pr (.bin .gtr) [.a 24, .a 15]) <|
       .ite 25 (
        .ins (.pr (.scl) [.k (.bool false)]) <|
        .ret [.a 26]) (
        .ins (.pr (.bin .sub) [.a 11, .k (.int .i64 2)]) <|
        .ins (.pr (.bnd) [.a 5, .a 26]) <|
        .ins (.pr (.cell 1 0) [.a 5, .a 26]) <|
        .ins (.pr (.bin .eql) [.a 28, .a 15]) <|
        .ite 29 (
         .ins (.pr (.bin .sub) [.a 11, .k (.int .i64 1)]) <|
         .ins (.pr (.bnd) [.a 5, .a 30]) <|
         .ins (.pr (.cell 1 0) [.a 5, .a 30]) <|
         .ins (.pr (.bin .geq) [.a 32, .a 18]) <|
         .ite 33 (
          .ins (.pr (.scl) [.k (.bool false)]) <|
          .ret [.a 34]) (
          .ins (.pr (.bin .add) [.a 11, .k (.int .i64 2)]) <|
          .go 0 [.a 10, .a 34])) (
         .ins (.pr (.bin .add) [.a 11, .k (.int .i64 2)]) <|
         .go 0 [.a 10, .a 30]))) (
       .ins (.pr (.bin .add) [.a 11, .k (.int .i64 2)]) <|
       .go 0 [.a 10, .a 22]))) (
     .ins (.pr (.scl) [.k (.bool true)]) <|
     .ret [.a 14])))
def S_i_heardOk : Nat → Sem1 := pick [(127, F_i_linkAt)]
def F_i_heardOk : Sem1 := fun ts => p_i_heardOk.den S_i_heardOk rounds [] ts
def p_i_nearOk : PL :=
  .ins (.pr (.len) [.a 5]) <|
  .loop [.k (.bool false), .k (.int .i64 0)] (
   .ins (.pr (.bin .lss) [.a 10, .a 8]) <|
   .ite 11 (
    .ins (.pr (.bnd) [.a 5, .a 10]) <|
    .ins (.pr (.cell 2 0) [.a 5, .a 10]) <|
    .ins (.pr (.cell 2 1) [.a 5, .a 10]) <|
    .ins (.cl 45 [.a 13, .k (.int .i64 1), .k (.int .i64 6)] 1) <|
    .ins (.pr (.un .not) [.a 15]) <|
    .ite 16 (
     .ins (.pr (.scl) [.k (.bool false)]) <|
     .ret [.a 17]) (
     .ins (.pr (.bin .eql) [.a 13, .a 2]) <|
     .ite 17 (
      .ins (.pr (.scl) [.k (.bool false)]) <|
      .ret [.a 18]) (
      .ins (.cl 45 [.a 14, .k (.int .i64 1), .k (.int .i64 1000)] 1) <|
      .ins (.pr (.un .not) [.a 18]) <|
      .ite 19 (
       .ins (.pr (.scl) [.k (.bool false)]) <|
       .ret [.a 20]) (
       .ins (.pr (.bin .gtr) [.a 10, .k (.int .i64 0)]) <|
       .ite 20 (
        .ins (.pr (.bin .sub) [.a 10, .k (.int .i64 1)]) <|
        .ins (.pr (.bnd) [.a 5, .a 21]) <|
        .ins (.pr (.cell 2 0) [.a 5, .a 21]) <|
        .ins (.pr (.bin .geq) [.a 23, .a 13]) <|
        .ite 24 (
         .ins (.pr (.scl) [.k (.bool false)]) <|
         .ret [.a 25]) (
         .ins (.pr (.bin .add) [.a 10, .k (.int .i64 1)]) <|
         .go 0 [.a 9, .a 25])) (
        .ins (.pr (.bin .add) [.a 10, .k (.int .i64 1)]) <|
        .go 0 [.a 9, .a 21]))))) (
    .ins (.pr (.scl) [.k (.bool true)]) <|
    .ret [.a 12]))
def S_i_nearOk : Nat → Sem1 := pick [(45, F_i_in)]
def F_i_nearOk : Sem1 := fun ts => p_i_nearOk.den S_i_nearOk rounds [] ts
def p_i_RecordOk : PL :=
  .ins (.cl 45 [.a 2, .k (.int .i64 1), .k (.int .i64 6)] 1) <|
  .ins (.pr (.un .not) [.a 8]) <|
  .ite 9 (
   .ins (.pr (.scl) [.k (.bool false)]) <|
   .ret [.a 10]) (
   .ins (.cl 45 [.a 4, .k (.int .i64 1), .k (.int .i64 100000)] 1) <|
   .ins (.pr (.un .not) [.a 10]) <|
   .ite 11 (
    .ins (.pr (.scl) [.k (.bool false)]) <|
    .ret [.a 12]) (
    .ins (.pr (.bin .eql) [.a 1, .k (.int .i64 1)]) <|
    .ite 12 (
     .ins (.cl 45 [.a 0, .k (.int .i64 0), .k (.int .i64 2)] 1) <|
     .ite 13 (
      .ins (.pr (.bin .eql) [.a 3, .k (.int .i64 0)]) <|
      .ite 14 (
       .ins (.cl 134 [.a 0, .a 1, .a 2, .a 3, .a 4, .a 5, .a 6, .a 7] 1) <|
       .ite 15 (
        .ins (.pr (.bin .eql) [.a 6, .k (.int .i64 0)]) <|
        .ite 16 (
         .ins (.pr (.un .not) [.a 7]) <|
         .ins (.pr (.scl) [.a 17]) <|
         .ret [.a 18]) (
         .ins (.pr (.scl) [.k (.bool false)]) <|
         .ret [.a 17])) (
        .ins (.pr (.scl) [.k (.bool false)]) <|
        .ret [.a 16])) (
       .ins (.pr (.scl) [.k (.bool false)]) <|
       .ret [.a 15])) (
      .ins (.pr (.scl) [.k (.bool false)]) <|
      .ret [.a 14])) (
     .ins (.pr (.bin .eql) [.a 1, .k (.int .i64 2)]) <|
     .ite 13 (
      .ins (.cl 45 [.a 0, .k (.int .i64 0), .k (.int .i64 2)] 1) <|
      .ite 14 (
       .ins (.cl 45 [.a 3, .k (.int .i64 1), .k (.int .i64 6)] 1) <|
       .ite 15 (
        .ins (.pr (.len) [.a 5]) <|
        .ins (.pr (.bin .eql) [.a 16, .k (.int .i64 0)]) <|
        .ite 17 (
         .ins (.cl 45 [.a 6, .k (.int .i64 0), .k (.int .i64 60000)] 1) <|
         .ite 18 (
          .ins (.pr (.un .not) [.a 7]) <|
          .ins (.pr (.scl) [.a 19]) <|
          .ret [.a 20]) (
          .ins (.pr (.scl) [.k (.bool false)]) <|
          .ret [.a 19])) (
         .ins (.pr (.scl) [.k (.bool false)]) <|
         .ret [.a 18])) (
        .ins (.pr (.scl) [.k (.bool false)]) <|
        .ret [.a 16])) (
       .ins (.pr (.scl) [.k (.bool false)]) <|
       .ret [.a 15])) (
      .ins (.pr (.bin .eql) [.a 1, .k (.int .i64 3)]) <|
      .ite 14 (
       .ins (.pr (.bin .eql) [.a 0, .k (.int .i64 9)]) <|
       .ite 15 (
        .ins (.cl 45 [.a 3, .k (.int .i64 1), .k (.int .i64 9)] 1) <|
        .ite 16 (
         .ins (.pr (.len) [.a 5]) <|
         .ins (.pr (.bin .eql) [.a 17, .k (.int .i64 0)]) <|
         .ite 18 (
          .ins (.cl 45 [.a 6, .k (.int .i64 1), .k (.int .i64 1000)] 1) <|
          .ite 19 (
           .ins (.pr (.scl) [.k (.bool true)]) <|
           .ret [.a 20]) (
           .ins (.pr (.bin .eql) [.a 6, .k (.int .i64 60000)]) <|
           .ins (.pr (.scl) [.a 20]) <|
           .ret [.a 21])) (
          .ins (.pr (.scl) [.k (.bool false)]) <|
          .ret [.a 19])) (
         .ins (.pr (.scl) [.k (.bool false)]) <|
         .ret [.a 17])) (
        .ins (.pr (.scl) [.k (.bool false)]) <|
        .ret [.a 16])) (
       .ins (.pr (.scl) [.k (.bool false)]) <|
       .ret [.a 15])))))
def S_i_RecordOk : Nat → Sem1 := pick [(45, F_i_in), (134, F_i_nearOk)]
def F_i_RecordOk : Sem1 := fun ts => p_i_RecordOk.den S_i_RecordOk rounds [] ts
def p_i_Before : PL :=
  .ins (.pr (.bin .neq) [.a 0, .a 8]) <|
  .ite 16 (
   .ins (.pr (.bin .lss) [.a 0, .a 8]) <|
   .ins (.pr (.scl) [.a 17]) <|
   .ret [.a 18]) (
   .ins (.pr (.bin .neq) [.a 1, .a 9]) <|
   .ite 17 (
    .ins (.pr (.bin .lss) [.a 1, .a 9]) <|
    .ins (.pr (.scl) [.a 18]) <|
    .ret [.a 19]) (
    .ins (.pr (.bin .neq) [.a 2, .a 10]) <|
    .ite 18 (
     .ins (.pr (.bin .lss) [.a 2, .a 10]) <|
     .ins (.pr (.scl) [.a 19]) <|
     .ret [.a 20]) (
     .ins (.pr (.bin .lss) [.a 3, .a 11]) <|
     .ins (.pr (.scl) [.a 19]) <|
     .ret [.a 20])))
def S_i_Before : Nat → Sem1 := pick []
def F_i_Before : Sem1 := fun ts => p_i_Before.den S_i_Before rounds [] ts
def p_i_StoreOk : PL :=
  .ins (.pr (.len) [.a 0]) <|
  .loop [.k (.bool false), .k (.int .i64 0)] (
   .ins (.pr (.bin .lss) [.a 3, .a 1]) <|
   .ite 4 (
    .ins (.pr (.bnd) [.a 0, .a 3]) <|
    .ins (.pr (.cell 8 0) [.a 0, .a 3]) <|
    .ins (.pr (.cell 8 1) [.a 0, .a 3]) <|
    .ins (.pr (.cell 8 2) [.a 0, .a 3]) <|
    .ins (.pr (.cell 8 3) [.a 0, .a 3]) <|
    .ins (.pr (.cell 8 4) [.a 0, .a 3]) <|
    .ins (.pr (.cell 8 5) [.a 0, .a 3]) <|
    .ins (.pr (.cell 8 6) [.a 0, .a 3]) <|
    .ins (.pr (.cell 8 7) [.a 0, .a 3]) <|
    .ins (.cl 101 [.a 6, .a 7, .a 8, .a 9, .a 10, .a 11, .a 12, .a 13] 1) <|
    .ins (.pr (.un .not) [.a 14]) <|
    .ite 15 (
     .ins (.pr (.scl) [.k (.bool false)]) <|
     .ret [.a 16]) (
     .ins (.pr (.bin .gtr) [.a 3, .k (.int .i64 0)]) <|
     .ite 16 (
      .ins (.pr (.bin .sub) [.a 3, .k (.int .i64 1)]) <|
      .ins (.pr (.bnd) [.a 0, .a 17]) <|
      .ins (.pr (.cell 8 0) [.a 0, .a 17]) <|
      .ins (.pr (.cell 8 1) [.a 0, .a 17]) <|
      .ins (.pr (.cell 8 2) [.a 0, .a 17]) <|
      .ins (.pr (.cell 8 3) [.a 0, .a 17]) <|
      .ins (.pr (.cell 8 4) [.a 0, .a 17]) <|
      .ins (.pr (.cell 8 5) [.a 0, .a 17]) <|
      .ins (.pr (.cell 8 6) [.a 0, .a 17]) <|
      .ins (.pr (.cell 8 7) [.a 0, .a 17]) <|
      .ins (.cl 102 [.a 19, .a 20, .a 21, .a 22, .a 23, .a 24, .a 25, .a 26, .a 6, .a 7, .a 8, .a 9, .a 10, .a 11, .a 12, .a 13] 1) <|
      .ins (.pr (.un .not) [.a 27]) <|
      .ite 28 (
       .ins (.pr (.scl) [.k (.bool false)]) <|
       .ret [.a 29]) (
       .ins (.pr (.bin .add) [.a 3, .k (.int .i64 1)]) <|
       .go 0 [.a 2, .a 29])) (
      .ins (.pr (.bin .add) [.a 3, .k (.int .i64 1)]) <|
      .go 0 [.a 2, .a 17]))) (
    .ins (.pr (.len) [.a 0]) <|
    .ins (.pr (.bin .leq) [.a 5, .k (.int .i64 150)]) <|
    .ins (.pr (.scl) [.a 6]) <|
    .ret [.a 7]))
def S_i_StoreOk : Nat → Sem1 := pick [(101, F_i_RecordOk), (102, F_i_Before)]
def F_i_StoreOk : Sem1 := fun ts => p_i_StoreOk.den S_i_StoreOk rounds [] ts
def p_i_SelfOk : PL :=
  .ins (.cl 125 [.a 2, .a 3, .a 4] 1) <|
  .ite 7 (
   .ins (.cl 45 [.a 0, .k (.int .i64 1), .a 2] 1) <|
   .ite 8 (
    .ins (.cl 45 [.a 1, .k (.int .i64 0), .k (.int .i64 90)] 1) <|
    .ite 9 (
     .ins (.cl 126 [.a 0, .a 1, .a 2, .a 3, .a 4, .a 5, .a 6] 1) <|
     .ite 10 (
      .ins (.cl 44 [.a 6] 1) <|
      .ins (.pr (.scl) [.a 11]) <|
      .ret [.a 12]) (
      .ins (.pr (.scl) [.k (.bool false)]) <|
      .ret [.a 11])) (
     .ins (.pr (.scl) [.k (.bool false)]) <|
     .ret [.a 10])) (
    .ins (.pr (.scl) [.k (.bool false)]) <|
    .ret [.a 9])) (
   .ins (.pr (.scl) [.k (.bool false)]) <|
   .ret [.a 8])
def S_i_SelfOk : Nat → Sem1 := pick [(44, F_i_StoreOk), (45, F_i_in), (125, F_i_NetOk), (126, F_i_heardOk)]
def F_i_SelfOk : Sem1 := fun ts => p_i_SelfOk.den S_i_SelfOk rounds [] ts
def p_i_earsOf : PL :=
  .loop [.e, .k (.int .i64 1)] (
   .ins (.pr (.bin .leq) [.a 5, .a 0]) <|
   .ite 6 (
    .loop [.a 4, .k (.int .i64 0)] (
     .ins (.pr (.bin .leq) [.a 8, .k (.int .i64 2)]) <|
     .ite 9 (
      .ins (.cl 127 [.a 0, .a 1, .a 2, .a 3, .a 5, .a 8] 1) <|
      .ins (.pr (.bin .geq) [.a 10, .k (.int .i64 0)]) <|
      .join (
       .ins (.pr (.bin .add) [.a 8, .k (.int .i64 1)]) <|
       .go 0 [.a 12, .a 13]) (
       .ite 11 (
        .ins (.pr (.lit 4 [true, true, true, true]) [.a 5, .a 8, .k (.int .i64 0), .k (.bool false)]) <|
        .ins (.pr (.app true 4) [.a 7, .a 12]) <|
        .go 0 [.a 13]) (
        .go 0 [.a 7]))) (
      .ins (.pr (.bin .add) [.a 5, .k (.int .i64 1)]) <|
      .go 1 [.a 7, .a 10]))) (
    .ret [.a 4]))
def S_i_earsOf : Nat → Sem1 := pick [(127, F_i_linkAt)]
def F_i_earsOf : Sem1 := fun ts => p_i_earsOf.den S_i_earsOf rounds [] ts
def p_i_heardBy : PL :=
  .ins (.pr (.len) [.a 0]) <|
  .loop [.e, .k (.int .i64 0)] (
   .ins (.pr (.bin .lss) [.a 3, .a 1]) <|
   .ite 4 (
    .ins (.pr (.bnd) [.a 0, .a 3]) <|
    .ins (.pr (.cell 4 0) [.a 0, .a 3]) <|
    .ins (.pr (.cell 4 1) [.a 0, .a 3]) <|
    .ins (.pr (.cell 4 2) [.a 0, .a 3]) <|
    .ins (.pr (.cell 4 3) [.a 0, .a 3]) <|
    .join (
     .ins (.pr (.bin .add) [.a 3, .k (.int .i64 1)]) <|
     .go 0 [.a 10, .a 11]) (
     .ite 9 (
      .ins (.pr (.lit 1 [true, true]) [.a 6, .a 7]) <|
      .ins (.pr (.app true 1) [.a 2, .a 10]) <|
      .go 0 [.a 11]) (
      .go 0 [.a 2]))) (
    .ret [.a 2]))
def S_i_heardBy : Nat → Sem1 := pick []
def F_i_heardBy : Sem1 := fun ts => p_i_heardBy.den S_i_heardBy rounds [] ts
def p_i_sameInts : PL :=
  .ins (.pr (.len) [.a 0]) <|
  .ins (.pr (.len) [.a 1]) <|
  .ins (.pr (.bin .neq) [.a 2, .a 3]) <|
  .ite 4 (
   .ins (.pr (.scl) [.k (.bool false)]) <|
   .ret [.a 5]) (
   .ins (.pr (.len) [.a 0]) <|
   .loop [.k (.bool false), .k (.int .i64 0)] (
    .ins (.pr (.bin .lss) [.a 7, .a 5]) <|
    .ite 8 (
     .ins (.pr (.bnd) [.a 0, .a 7]) <|
     .ins (.pr (.cell 1 0) [.a 0, .a 7]) <|
     .ins (.pr (.bnd) [.a 1, .a 7]) <|
     .ins (.pr (.cell 1 0) [.a 1, .a 7]) <|
     .ins (.pr (.bin .neq) [.a 10, .a 12]) <|
     .ite 13 (
      .ins (.pr (.scl) [.k (.bool false)]) <|
      .ret [.a 14]) (
      .ins (.pr (.bin .add) [.a 7, .k (.int .i64 1)]) <|
      .go 0 [.a 6, .a 14])) (
     .ins (.pr (.scl) [.k (.bool true)]) <|
     .ret [.a 9])))
def S_i_sameInts : Nat → Sem1 := pick []
def F_i_sameInts : Sem1 := fun ts => p_i_sameInts.den S_i_sameInts rounds [] ts
def p_i_NodeOk : PL :=
  .ins (.cl 80 [.a 0, .a 1, .a 2, .a 3, .a 4, .a 5, .a 6] 1) <|
  .ins (.pr (.un .not) [.a 8]) <|
  .ite 9 (
   .ins (.pr (.scl) [.k (.bool false)]) <|
   .ret [.a 10]) (
   .ins (.cl 81 [.a 2, .a 3, .a 4, .a 0] 1) <|
   .ins (.pr (.len) [.a 10]) <|
   .ins (.pr (.len) [.a 7]) <|
   .ins (.pr (.bin .neq) [.a 11, .a 12]) <|
   .ite 13 (
    .ins (.pr (.scl) [.k (.bool false)]) <|
    .ret [.a 14]) (
    .ins (.pr (.len) [.a 7]) <|
    .loop [.k (.bool false), .k (.int .i64 0)] (
     .ins (.pr (.bin .lss) [.a 16, .a 14]) <|
     .ite 17 (
      .ins (.pr (.bnd) [.a 7, .a 16]) <|
      .ins (.pr (.cell 4 0) [.a 7, .a 16]) <|
      .ins (.pr (.cell 4 1) [.a 7, .a 16]) <|
      .ins (.pr (.cell 4 2) [.a 7, .a 16]) <|
      .ins (.pr (.cell 4 3) [.a 7, .a 16]) <|
      .ins (.pr (.bnd) [.a 10, .a 16]) <|
      .ins (.pr (.scell 4 0) [.a 10, .a 16]) <|
      .ins (.pr (.bin .neq) [.a 19, .a 24]) <|
      .ite 25 (
       .ins (.pr (.scl) [.k (.bool false)]) <|
       .ret [.a 26]) (
       .ins (.pr (.bnd) [.a 10, .a 16]) <|
       .ins (.pr (.scell 4 1) [.a 10, .a 16]) <|
       .ins (.pr (.bin .neq) [.a 20, .a 27]) <|
       .ite 28 (
        .ins (.pr (.scl) [.k (.bool false)]) <|
        .ret [.a 29]) (
        .ins (.cl 45 [.a 21, .k (.int .i64 0), .k (.int .i64 3)] 1) <|
        .ins (.pr (.un .not) [.a 29]) <|
        .ite 30 (
         .ins (.pr (.scl) [.k (.bool false)]) <|
         .ret [.a 31]) (
         .ite 22 (
          .ins (.pr (.bin .eql) [.a 21, .k (.int .i64 0)]) <|
          .ite 31 (
           .ins (.pr (.scl) [.k (.bool false)]) <|
           .ret [.a 32]) (
           .ins (.pr (.bin .add) [.a 16, .k (.int .i64 1)]) <|
           .go 0 [.a 15, .a 32])) (
          .ins (.pr (.bin .add) [.a 16, .k (.int .i64 1)]) <|
          .go 0 [.a 15, .a 31]))))) (
      .ins (.cl 83 [.a 7] 1) <|
      .ins (.cl 82 [.a 18, .a 5] 1) <|
      .ins (.pr (.scl) [.a 19]) <|
      .ret [.a 20]))))
def S_i_NodeOk : Nat → Sem1 := pick [(45, F_i_in), (80, F_i_SelfOk), (81, F_i_earsOf), (82, F_i_sameInts), (83, F_i_heardBy)]
def F_i_NodeOk : Sem1 := fun ts => p_i_NodeOk.den S_i_NodeOk rounds [] ts
def p_FnExactNodeOk : PL :=
  .ins (.cl 28 [.a 0, .a 1, .a 2, .a 3, .a 4, .a 5, .a 6, .a 7, .k (.int .i64 1048576)] 1) <|
  .ins (.pr (.bin .lss) [.a 8, .k (.int .i64 0)]) <|
  .ite 9 (
   .ins (.pr (.scl) [.k (.bool true)]) <|
   .ret [.a 10]) (
   .ins (.cl 30 [.a 0, .a 1, .a 2, .a 3, .a 4, .a 5, .a 6, .a 7] 8) <|
   .ins (.cl 29 [.a 10, .a 11, .a 12, .a 13, .a 14, .a 15, .a 16, .a 17] 1) <|
   .ins (.cl 30 [.a 0, .a 1, .a 2, .a 3, .a 4, .a 5, .a 6, .a 7] 8) <|
   .ins (.cl 31 [.a 19, .a 20, .a 21, .a 22, .a 23, .a 24, .a 25, .a 26] 1) <|
   .ins (.pr (.bb .neq) [.a 27, .a 18]) <|
   .ite 28 (
    .ins (.pr (.scl) [.k (.bool false)]) <|
    .ret [.a 29]) (
    .ins (.cl 30 [.a 0, .a 1, .a 2, .a 3, .a 4, .a 5, .a 6, .a 7] 8) <|
    .ins (.cl 32 [.a 19, .a 20, .a 21, .a 22, .a 23, .a 24, .a 25, .a 26, .a 29, .a 30, .a 31, .a 32, .a 33, .a 34, .a 35, .a 36] 1) <|
    .ins (.pr (.un .not) [.a 37]) <|
    .ite 38 (
     .ins (.pr (.scl) [.k (.bool false)]) <|
     .ret [.a 39]) (
     .ins (.pr (.scl) [.k (.bool true)]) <|
     .ret [.a 39])))
def S_FnExactNodeOk : Nat → Sem1 := pick [(28, F_szNode), (29, F_s_NodeOk), (30, F_toNode), (31, F_i_NodeOk), (32, F_eqNode)]
def F_FnExactNodeOk : Sem1 := fun ts => p_FnExactNodeOk.den S_FnExactNodeOk rounds [] ts
def p_s_l13Hears : PL :=
  .loop [.k (.bool false), .k (.int .i64 0)] (
   .ins (.pr (.bin .add) [.a 11, .k (.int .i64 1)]) <|
   .ins (.pr (.len) [.a 5]) <|
   .ins (.pr (.bin .lss) [.a 12, .a 13]) <|
   .ite 14 (
    .ins (.pr (.bnd) [.a 5, .a 11]) <|
    .ins (.pr (.cell 1 0) [.a 5, .a 11]) <|
    .ins (.pr (.bin .eql) [.a 16, .a 8]) <|
    .ite 17 (
     .ins (.pr (.bin .add) [.a 11, .k (.int .i64 1)]) <|
     .ins (.pr (.bnd) [.a 5, .a 18]) <|
     .ins (.pr (.cell 1 0) [.a 5, .a 18]) <|
     .ins (.pr (.bin .eql) [.a 20, .a 9]) <|
     .ite 21 (
      .ins (.pr (.scl) [.k (.bool true)]) <|
      .ret [.a 22]) (
      .ins (.pr (.bin .add) [.a 11, .k (.int .i64 2)]) <|
      .go 0 [.a 10, .a 22])) (
     .ins (.pr (.bin .add) [.a 11, .k (.int .i64 2)]) <|
     .go 0 [.a 10, .a 18])) (
    .ins (.pr (.scl) [.k (.bool false)]) <|
    .ret [.a 15]))
def S_s_l13Hears : Nat → Sem1 := pick []
def F_s_l13Hears : Sem1 := fun ts => p_s_l13Hears.den S_s_l13Hears rounds [] ts
def p_s_l04Copy : PL :=
  .ins (.pr (.lit 2 []) []) <|
  .ins (.pr (.app true 2) [.a 8, .a 5]) <|
  .ins (.pr (.scl) [.a 7]) <|
  .ins (.pr (.scl) [.a 6]) <|
  .ins (.pr (.scl) [.a 4]) <|
  .ins (.pr (.scl) [.a 3]) <|
  .ins (.pr (.scl) [.a 2]) <|
  .ins (.pr (.scl) [.a 1]) <|
  .ins (.pr (.scl) [.a 0]) <|
  .ret [.a 16, .a 15, .a 14, .a 13, .a 12, .a 9, .a 11, .a 10]
def S_s_l04Copy : Nat → Sem1 := pick []
def F_s_l04Copy : Sem1 := fun ts => p_s_l04Copy.den S_s_l04Copy rounds [] ts
def p_s_Scope : PL :=
  .ins (.pr (.lit 8 []) []) <|
  .loop [.a 2, .k (.int .i64 0)] (
   .ins (.pr (.len) [.a 0]) <|
   .ins (.pr (.bin .lss) [.a 4, .a 5]) <|
   .ite 6 (
    .ins (.pr (.bnd) [.a 0, .a 4]) <|
    .ins (.pr (.cell 8 0) [.a 0, .a 4]) <|
    .ins (.pr (.bin .eql) [.a 8, .a 1]) <|
    .ite 9 (
     .join (
      .ins (.pr (.bin .add) [.a 4, .k (.int .i64 1)]) <|
      .go 0 [.a 10, .a 11]) (
      .ins (.pr (.bnd) [.a 0, .a 4]) <|
      .ins (.pr (.cell 8 0) [.a 0, .a 4]) <|
      .ins (.pr (.cell 8 1) [.a 0, .a 4]) <|
      .ins (.pr (.cell 8 2) [.a 0, .a 4]) <|
      .ins (.pr (.cell 8 3) [.a 0, .a 4]) <|
      .ins (.pr (.cell 8 4) [.a 0, .a 4]) <|
      .ins (.pr (.cell 8 5) [.a 0, .a 4]) <|
      .ins (.pr (.cell 8 6) [.a 0, .a 4]) <|
      .ins (.pr (.cell 8 7) [.a 0, .a 4]) <|
      .ins (.cl 129 [.a 11, .a 12, .a 13, .a 14, .a 15, .a 16, .a 17, .a 18] 8) <|
      .ins (.pr (.lit 8 [true, true, true, true, true, false, true, true]) [.a 19, .a 20, .a 21, .a 22, .a 23, .a 24, .a 25, .a 26]) <|
      .ins (.pr (.app false 8) [.a 3, .a 27]) <|
      .go 0 [.a 28])) (
     .ins (.pr (.bnd) [.a 0, .a 4]) <|
     .ins (.pr (.cell 8 0) [.a 0, .a 4]) <|
     .ins (.pr (.bin .eql) [.a 11, .k (.int .i64 9)]) <|
     .join (
      .ins (.pr (.bin .add) [.a 4, .k (.int .i64 1)]) <|
      .go 0 [.a 13, .a 14]) (
      .ite 12 (
       .ins (.pr (.bnd) [.a 0, .a 4]) <|
       .ins (.pr (.cell 8 0) [.a 0, .a 4]) <|
       .ins (.pr (.cell 8 1) [.a 0, .a 4]) <|
       .ins (.pr (.cell 8 2) [.a 0, .a 4]) <|
       .ins (.pr (.cell 8 3) [.a 0, .a 4]) <|
       .ins (.pr (.cell 8 4) [.a 0, .a 4]) <|
       .ins (.pr (.cell 8 5) [.a 0, .a 4]) <|
       .ins (.pr (.cell 8 6) [.a 0, .a 4]) <|
       .ins (.pr (.cell 8 7) [.a 0, .a 4]) <|
       .ins (.cl 129 [.a 14, .a 15, .a 16, .a 17, .a 18, .a 19, .a 20, .a 21] 8) <|
       .ins (.pr (.lit 8 [true, true, true, true, true, false, true, true]) [.a 22, .a 23, .a 24, .a 25, .a 26, .a 27, .a 28, .a 29]) <|
       .ins (.pr (.app false 8) [.a 3, .a 30]) <|
       .go 0 [.a 31]) (
       .go 0 [.a 3])))) (
    .ret [.a 3]))
def S_s_Scope : Nat → Sem1 := pick [(129, F_s_l04Copy)]
def F_s_Scope : Sem1 := fun ts => p_s_Scope.den S_s_Scope rounds [] ts
def p_s_l13SameStore : PL :=
  .ins (.pr (.len) [.a 0]) <|
  .ins (.pr (.len) [.a 1]) <|
  .ins (.pr (.bin .neq) [.a 2, .a 3]) <|
  .ite 4 (
   .ins (.pr (.scl) [.k (.bool false)]) <|
   .ret [.a 5]) (
   .loop [.k (.bool false), .k (.int .i64 0)] (
    .ins (.pr (.len) [.a 0]) <|
    .ins (.pr (.bin .lss) [.a 6, .a 7]) <|
    .ite 8 (
     .ins (.pr (.bnd) [.a 0, .a 6]) <|
     .ins (.pr (.cell 8 0) [.a 0, .a 6]) <|
     .ins (.pr (.cell 8 1) [.a 0, .a 6]) <|
     .ins (.pr (.cell 8 2) [.a 0, .a 6]) <|
     .ins (.pr (.cell 8 3) [.a 0, .a 6]) <|
     .ins (.pr (.cell 8 4) [.a 0, .a 6]) <|
     .ins (.pr (.cell 8 5) [.a 0, .a 6]) <|
     .ins (.pr (.cell 8 6) [.a 0, .a 6]) <|
     .ins (.pr (.cell 8 7) [.a 0, .a 6]) <|
     .ins (.pr (.bnd) [.a 1, .a 6]) <|
     .ins (.pr (.cell 8 0) [.a 1, .a 6]) <|
     .ins (.pr (.cell 8 1) [.a 1, .a 6]) <|
     .ins (.pr (.cell 8 2) [.a 1, .a 6]) <|
     .ins (.pr (.cell 8 3) [.a 1, .a 6]) <|
     .ins (.pr (.cell 8 4) [.a 1, .a 6]) <|
     .ins (.pr (.cell 8 5) [.a 1, .a 6]) <|
     .ins (.pr (.cell 8 6) [.a 1, .a 6]) <|
     .ins (.pr (.cell 8 7) [.a 1, .a 6]) <|
     .ins (.cl 114 [.a 10, .a 11, .a 12, .a 13, .a 14, .a 15, .a 16, .a 17, .a 19, .a 20, .a 21, .a 22, .a 23, .a 24, .a 25, .a 26] 1) <|
     .ins (.pr (.un .not) [.a 27]) <|
     .ite 28 (
      .ins (.pr (.scl) [.k (.bool false)]) <|
      .ret [.a 29]) (
      .ins (.pr (.bnd) [.a 0, .a 6]) <|
      .ins (.pr (.cell 8 4) [.a 0, .a 6]) <|
      .ins (.pr (.bnd) [.a 1, .a 6]) <|
      .ins (.pr (.cell 8 4) [.a 1, .a 6]) <|
      .ins (.pr (.bin .neq) [.a 30, .a 32]) <|
      .ite 33 (
       .ins (.pr (.scl) [.k (.bool false)]) <|
       .ret [.a 34]) (
       .ins (.pr (.bin .add) [.a 6, .k (.int .i64 1)]) <|
       .go 0 [.a 5, .a 34]))) (
     .ins (.pr (.scl) [.k (.bool true)]) <|
     .ret [.a 9])))
def S_s_l13SameStore : Nat → Sem1 := pick [(114, F_s_SameBody)]
def F_s_l13SameStore : Sem1 := fun ts => p_s_l13SameStore.den S_s_l13SameStore rounds [] ts
def p_s_AlikeIn : PL :=
  .loop [.k (.bool false), .k (.int .i64 0)] (
   .ins (.pr (.len) [.a 6]) <|
   .ins (.pr (.bin .lss) [.a 12, .a 13]) <|
   .ite 14 (
    .ins (.pr (.len) [.a 4]) <|
    .ins (.pr (.bin .lss) [.a 12, .a 15]) <|
    .ite 16 (
     .loop [.a 11, .k (.int .i64 0)] (
      .ins (.pr (.bin .lss) [.a 18, .a 12]) <|
      .ite 19 (
       .ins (.pr (.bnd) [.a 4, .a 12]) <|
       .ins (.pr (.cell 1 0) [.a 4, .a 12]) <|
       .ite 21 (
        .ins (.pr (.bnd) [.a 4, .a 18]) <|
        .ins (.pr (.cell 1 0) [.a 4, .a 18]) <|
        .ite 23 (
         .ins (.pr (.bnd) [.a 6, .a 12]) <|
         .ins (.pr (.cell 8 0) [.a 6, .a 12]) <|
         .ins (.pr (.cell 8 1) [.a 6, .a 12]) <|
         .ins (.pr (.cell 8 2) [.a 6, .a 12]) <|
         .ins (.pr (.cell 8 3) [.a 6, .a 12]) <|
         .ins (.pr (.cell 8 4) [.a 6, .a 12]) <|
         .ins (.pr (.cell 8 5) [.a 6, .a 12]) <|
         .ins (.pr (.cell 8 6) [.a 6, .a 12]) <|
         .ins (.pr (.cell 8 7) [.a 6, .a 12]) <|
         .ins (.pr (.bin .add) [.a 18, .k (.int .i64 1)]) <|
         .ins (.cl 88 [.a 25, .a 26, .a 27, .a 28, .a 29, .a 30, .a 31, .a 32, .a 33, .a 10] 1) <|
         .ite 34 (
          .ins (.pr (.bnd) [.a 6, .a 18]) <|
          .ins (.pr (.cell 8 0) [.a 6, .a 18]) <|
          .ins (.pr (.cell 8 1) [.a 6, .a 18]) <|
          .ins (.pr (.cell 8 2) [.a 6, .a 18]) <|
          .ins (.pr (.cell 8 3) [.a 6, .a 18]) <|
          .ins (.pr (.cell 8 4) [.a 6, .a 18]) <|
          .ins (.pr (.cell 8 5) [.a 6, .a 18]) <|
          .ins (.pr (.cell 8 6) [.a 6, .a 18]) <|
          .ins (.pr (.cell 8 7) [.a 6, .a 18]) <|
          .ins (.pr (.bin .add) [.a 12, .k (.int .i64 1)]) <|
          .ins (.cl 88 [.a 36, .a 37, .a 38, .a 39, .a 40, .a 41, .a 42, .a 43, .a 44, .a 10] 1) <|
          .ite 45 (
           .ins (.pr (.bnd) [.a 6, .a 12]) <|
           .ins (.pr (.cell 8 6) [.a 6, .a 12]) <|
           .ins (.cl 90 [.a 47, .a 10] 1) <|
           .ins (.pr (.bnd) [.a 6, .a 18]) <|
           .ins (.pr (.cell 8 6) [.a 6, .a 18]) <|
           .ins (.cl 90 [.a 50, .a 10] 1) <|
           .ins (.cl 89 [.a 48, .a 51] 1) <|
           .ins (.pr (.un .not) [.a 52]) <|
           .ite 53 (
            .ins (.pr (.scl) [.k (.bool false)]) <|
            .ret [.a 54]) (
            .ins (.pr (.bin .add) [.a 18, .k (.int .i64 1)]) <|
            .go 0 [.a 17, .a 54])) (
           .ins (.pr (.bin .add) [.a 18, .k (.int .i64 1)]) <|
           .go 0 [.a 17, .a 46])) (
          .ins (.pr (.bin .add) [.a 18, .k (.int .i64 1)]) <|
          .go 0 [.a 17, .a 35])) (
         .ins (.pr (.bin .add) [.a 18, .k (.int .i64 1)]) <|
         .go 0 [.a 17, .a 24])) (
        .ins (.pr (.bin .add) [.a 18, .k (.int .i64 1)]) <|
        .go 0 [.a 17, .a 22])) (
       .ins (.pr (.bin .add) [.a 12, .k (.int .i64 1)]) <|
       .go 1 [.a 17, .a 20]))) (
     .ins (.pr (.scl) [.k (.bool true)]) <|
     .ret [.a 17])) (
    .ins (.pr (.scl) [.k (.bool true)]) <|
    .ret [.a 15]))
def S_s_AlikeIn : Nat → Sem1 := pick [(88, F_s_l13Hears), (89, F_s_l13SameStore), (90, F_s_Scope)]
def F_s_AlikeIn : Sem1 := fun ts => p_s_AlikeIn.den S_s_AlikeIn rounds [] ts
def p_i_hears : PL :=
  .loop [.k (.bool false), .k (.int .i64 0)] (
   .ins (.pr (.bin .add) [.a 11, .k (.int .i64 1)]) <|
   .ins (.pr (.len) [.a 5]) <|
   .ins (.pr (.bin .lss) [.a 12, .a 13]) <|
   .ite 14 (
    .ins (.pr (.bnd) [.a 5, .a 11]) <|
    .ins (.pr (.cell 1 0) [.a 5, .a 11]) <|
    .ins (.pr (.bin .eql) [.a 16, .a 8]) <|
    .ite 17 (
     .ins (.pr (.bin .add) [.a 11, .k (.int .i64 1)]) <|
     .ins (.pr (.bnd) [.a 5, .a 18]) <|
     .ins (.pr (.cell 1 0) [.a 5, .a 18]) <|
     .ins (.pr (.bin .eql) [.a 20, .a 9]) <|
     .ite 21 (
      .ins (.pr (.scl) [.k (.bool true)]) <|
      .ret [.a 22]) (
      .ins (.pr (.bin .add) [.a 11, .k (.int .i64 2)]) <|
      .go 0 [.a 10, .a 22])) (
     .ins (.pr (.bin .add) [.a 11, .k (.int .i64 2)]) <|
     .go 0 [.a 10, .a 18])) (
    .ins (.pr (.scl) [.k (.bool false)]) <|
    .ret [.a 15]))
def S_i_hears : Nat → Sem1 := pick []
def F_i_hears : Sem1 := fun ts => p_i_hears.den S_i_hears rounds [] ts
def p_i_copyRecord : PL :=
  .ins (.pr (.app true 2) [.e, .a 5]) <|
  .ins (.pr (.scl) [.a 7]) <|
  .ins (.pr (.scl) [.a 6]) <|
  .ins (.pr (.scl) [.a 4]) <|
  .ins (.pr (.scl) [.a 3]) <|
  .ins (.pr (.scl) [.a 2]) <|
  .ins (.pr (.scl) [.a 1]) <|
  .ins (.pr (.scl) [.a 0]) <|
  .ret [.a 15, .a 14, .a 13, .a 12, .a 11, .a 8, .a 10, .a 9]
def S_i_copyRecord : Nat → Sem1 := pick []
def F_i_copyRecord : Sem1 := fun ts => p_i_copyRecord.den S_i_copyRecord rounds [] ts
def p_i_Scope : PL :=
  .ins (.pr (.len) [.a 0]) <|
  .loop [.e, .k (.int .i64 0)] (
   .ins (.pr (.bin .lss) [.a 4, .a 2]) <|
   .ite 5 (
    .ins (.pr (.bnd) [.a 0, .a 4]) <|
    .ins (.pr (.cell 8 0) [.a 0, .a 4]) <|
    .ins (.pr (.cell 8 1) [.a 0, .a 4]) <|
    .ins (.pr (.cell 8 2) [.a 0, .a 4]) <|
    .ins (.pr (.cell 8 3) [.a 0, .a 4]) <|
    .ins (.pr (.cell 8 4) [.a 0, .a 4]) <|
    .ins (.pr (.cell 8 5) [.a 0, .a 4]) <|
    .ins (.pr (.cell 8 6) [.a 0, .a 4]) <|
    .ins (.pr (.cell 8 7) [.a 0, .a 4]) <|
    .ins (.pr (.bin .eql) [.a 7, .a 1]) <|
    .ite 15 (
     .join (
      .ins (.pr (.bin .add) [.a 4, .k (.int .i64 1)]) <|
      .go 0 [.a 16, .a 17]) (
      .ins (.cl 130 [.a 7, .a 8, .a 9, .a 10, .a 11, .a 12, .a 13, .a 14] 8) <|
      .ins (.pr (.lit 8 [true, true, true, true, true, false, true, true]) [.a 16, .a 17, .a 18, .a 19, .a 20, .a 21, .a 22, .a 23]) <|
      .ins (.pr (.app false 8) [.a 3, .a 24]) <|
      .go 0 [.a 25])) (
     .ins (.pr (.bin .eql) [.a 7, .k (.int .i64 9)]) <|
     .join (
      .ins (.pr (.bin .add) [.a 4, .k (.int .i64 1)]) <|
      .go 0 [.a 17, .a 18]) (
      .ite 16 (
       .ins (.cl 130 [.a 7, .a 8, .a 9, .a 10, .a 11, .a 12, .a 13, .a 14] 8) <|
       .ins (.pr (.lit 8 [true, true, true, true, true, false, true, true]) [.a 17, .a 18, .a 19, .a 20, .a 21, .a 22, .a 23, .a 24]) <|
       .ins (.pr (.app false 8) [.a 3, .a 25]) <|
       .go 0 [.a 26]) (
       .go 0 [.a 3])))) (
    .ret [.a 3]))
def S_i_Scope : Nat → Sem1 := pick [(130, F_i_copyRecord)]
def F_i_Scope : Sem1 := fun ts => p_i_Scope.den S_i_Scope rounds [] ts
def p_i_sameRecords : PL :=
  .ins (.pr (.len) [.a 0]) <|
  .ins (.pr (.len) [.a 1]) <|
  .ins (.pr (.bin .neq) [.a 2, .a 3]) <|
  .ite 4 (
   .ins (.pr (.scl) [.k (.bool false)]) <|
   .ret [.a 5]) (
   .ins (.pr (.len) [.a 0]) <|
   .loop [.k (.bool false), .k (.int .i64 0)] (
    .ins (.pr (.bin .lss) [.a 7, .a 5]) <|
    .ite 8 (
     .ins (.pr (.bnd) [.a 0, .a 7]) <|
     .ins (.pr (.cell 8 0) [.a 0, .a 7]) <|
     .ins (.pr (.cell 8 1) [.a 0, .a 7]) <|
     .ins (.pr (.cell 8 2) [.a 0, .a 7]) <|
     .ins (.pr (.cell 8 3) [.a 0, .a 7]) <|
     .ins (.pr (.cell 8 4) [.a 0, .a 7]) <|
     .ins (.pr (.cell 8 5) [.a 0, .a 7]) <|
     .ins (.pr (.cell 8 6) [.a 0, .a 7]) <|
     .ins (.pr (.cell 8 7) [.a 0, .a 7]) <|
     .ins (.pr (.bnd) [.a 1, .a 7]) <|
     .ins (.pr (.cell 8 0) [.a 1, .a 7]) <|
     .ins (.pr (.cell 8 1) [.a 1, .a 7]) <|
     .ins (.pr (.cell 8 2) [.a 1, .a 7]) <|
     .ins (.pr (.cell 8 3) [.a 1, .a 7]) <|
     .ins (.pr (.cell 8 4) [.a 1, .a 7]) <|
     .ins (.pr (.cell 8 5) [.a 1, .a 7]) <|
     .ins (.pr (.cell 8 6) [.a 1, .a 7]) <|
     .ins (.pr (.cell 8 7) [.a 1, .a 7]) <|
     .ins (.cl 118 [.a 10, .a 11, .a 12, .a 13, .a 14, .a 15, .a 16, .a 17, .a 19, .a 20, .a 21, .a 22, .a 23, .a 24, .a 25, .a 26] 1) <|
     .ins (.pr (.un .not) [.a 27]) <|
     .ite 28 (
      .ins (.pr (.scl) [.k (.bool false)]) <|
      .ret [.a 29]) (
      .ins (.pr (.bnd) [.a 0, .a 7]) <|
      .ins (.pr (.cell 8 4) [.a 0, .a 7]) <|
      .ins (.pr (.bnd) [.a 1, .a 7]) <|
      .ins (.pr (.cell 8 4) [.a 1, .a 7]) <|
      .ins (.pr (.bin .neq) [.a 30, .a 32]) <|
      .ite 33 (
       .ins (.pr (.scl) [.k (.bool false)]) <|
       .ret [.a 34]) (
       .ins (.pr (.bin .add) [.a 7, .k (.int .i64 1)]) <|
       .go 0 [.a 6, .a 34]))) (
     .ins (.pr (.scl) [.k (.bool true)]) <|
     .ret [.a 9])))
def S_i_sameRecords : Nat → Sem1 := pick [(118, F_i_SameBody)]
def F_i_sameRecords : Sem1 := fun ts => p_i_sameRecords.den S_i_sameRecords rounds [] ts
def p_i_AlikeIn : PL :=
  .ins (.pr (.len) [.a 6]) <|
  .loop [.k (.bool false), .k (.int .i64 0), .a 0, .a 1, .a 2, .a 3, .a 4, .a 5, .a 6, .a 7, .a 8, .a 9] (
   .ins (.pr (.bin .lss) [.a 13, .a 11]) <|
   .ite 24 (
    .ins (.pr (.bnd) [.a 6, .a 13]) <|
    .ins (.pr (.cell 8 0) [.a 6, .a 13]) <|
    .ins (.pr (.cell 8 1) [.a 6, .a 13]) <|
    .ins (.pr (.cell 8 2) [.a 6, .a 13]) <|
    .ins (.pr (.cell 8 3) [.a 6, .a 13]) <|
    .ins (.pr (.cell 8 4) [.a 6, .a 13]) <|
    .ins (.pr (.cell 8 5) [.a 6, .a 13]) <|
    .ins (.pr (.cell 8 6) [.a 6, .a 13]) <|
    .ins (.pr (.cell 8 7) [.a 6, .a 13]) <|
    .ins (.pr (.sub 8 false true) [.a 20, .a 13]) <|
    .ins (.pr (.len) [.a 34]) <|
    .loop [.a 12, .k (.int .i64 0), .a 14, .a 15, .a 16, .a 17, .a 18, .a 19, .a 20, .a 21, .a 22, .a 23] (
     .ins (.pr (.bin .lss) [.a 37, .a 35]) <|
     .ite 48 (
      .ins (.pr (.bnd) [.a 34, .a 37]) <|
      .ins (.pr (.cell 8 0) [.a 34, .a 37]) <|
      .ins (.pr (.cell 8 1) [.a 34, .a 37]) <|
      .ins (.pr (.cell 8 2) [.a 34, .a 37]) <|
      .ins (.pr (.cell 8 3) [.a 34, .a 37]) <|
      .ins (.pr (.cell 8 4) [.a 34, .a 37]) <|
      .ins (.pr (.cell 8 5) [.a 34, .a 37]) <|
      .ins (.pr (.cell 8 6) [.a 34, .a 37]) <|
      .ins (.pr (.cell 8 7) [.a 34, .a 37]) <|
      .ins (.pr (.bin .add) [.a 13, .k (.int .i64 1)]) <|
      .ins (.cl 66 [.a 38, .a 39, .a 40, .a 41, .a 42, .a 43, .a 44, .a 45, .a 46, .a 47, .a 58] 11) <|
      .ite 59 (
       .ins (.pr (.bin .add) [.a 37, .k (.int .i64 1)]) <|
       .ins (.cl 66 [.a 60, .a 61, .a 62, .a 63, .a 64, .a 65, .a 66, .a 67, .a 68, .a 69, .a 70] 11) <|
       .ite 71 (
        .ins (.pr (.bin .add) [.a 37, .k (.int .i64 1)]) <|
        .ins (.cl 91 [.a 26, .a 27, .a 28, .a 29, .a 30, .a 31, .a 32, .a 33, .a 82, .a 10] 1) <|
        .ite 83 (
         .ins (.pr (.bin .add) [.a 13, .k (.int .i64 1)]) <|
         .ins (.cl 91 [.a 50, .a 51, .a 52, .a 53, .a 54, .a 55, .a 56, .a 57, .a 84, .a 10] 1) <|
         .ite 85 (
          .ins (.cl 93 [.a 32, .a 10] 1) <|
          .ins (.cl 93 [.a 56, .a 10] 1) <|
          .ins (.cl 92 [.a 86, .a 87] 1) <|
          .ins (.pr (.un .not) [.a 88]) <|
          .ite 89 (
           .ins (.pr (.scl) [.k (.bool false)]) <|
           .ret [.a 90]) (
           .ins (.pr (.bin .add) [.a 37, .k (.int .i64 1)]) <|
           .go 0 [.a 36, .a 90, .a 72, .a 73, .a 74, .a 75, .a 76, .a 77, .a 78, .a 79, .a 80, .a 81])) (
          .ins (.pr (.bin .add) [.a 37, .k (.int .i64 1)]) <|
          .go 0 [.a 36, .a 86, .a 72, .a 73, .a 74, .a 75, .a 76, .a 77, .a 78, .a 79, .a 80, .a 81])) (
         .ins (.pr (.bin .add) [.a 37, .k (.int .i64 1)]) <|
         .go 0 [.a 36, .a 84, .a 72, .a 73, .a 74, .a 75, .a 76, .a 77, .a 78, .a 79, .a 80, .a 81])) (
        .ins (.pr (.bin .add) [.a 37, .k (.int .i64 1)]) <|
        .go 0 [.a 36, .a 82, .a 72, .a 73, .a 74, .a 75, .a 76, .a 77, .a 78, .a 79, .a 80, .a 81])) (
       .ins (.pr (.bin .add) [.a 37, .k (.int .i64 1)]) <|
       .go 0 [.a 36, .a 70, .a 60, .a 61, .a 62, .a 63, .a 64, .a 65, .a 66, .a 67, .a 68, .a 69])) (
      .ins (.pr (.bin .add) [.a 13, .k (.int .i64 1)]) <|
      .go 1 [.a 36, .a 49, .a 38, .a 39, .a 40, .a 41, .a 42, .a 43, .a 44, .a 45, .a 46, .a 47]))) (
    .ins (.pr (.scl) [.k (.bool true)]) <|
    .ret [.a 25]))
def S_i_AlikeIn : Nat → Sem1 := pick [(66, F_i_World_up), (91, F_i_hears), (92, F_i_sameRecords), (93, F_i_Scope)]
def F_i_AlikeIn : Sem1 := fun ts => p_i_AlikeIn.den S_i_AlikeIn rounds [] ts
def p_FnExactAlikeIn : PL :=
  .ins (.cl 23 [.a 0, .a 1, .a 2, .a 3, .a 4, .a 5, .a 6, .a 7, .a 8, .a 9, .k (.int .i64 1048576)] 1) <|
  .ins (.pr (.bin .lss) [.a 11, .k (.int .i64 0)]) <|
  .ite 12 (
   .ins (.pr (.scl) [.k (.bool true)]) <|
   .ret [.a 13]) (
   .ins (.cl 25 [.a 0, .a 1, .a 2, .a 3, .a 4, .a 5, .a 6, .a 7, .a 8, .a 9] 10) <|
   .ins (.cl 35 [.a 13, .a 14, .a 15, .a 16, .a 17, .a 18, .a 19, .a 20, .a 21, .a 22, .a 10] 1) <|
   .ins (.cl 25 [.a 0, .a 1, .a 2, .a 3, .a 4, .a 5, .a 6, .a 7, .a 8, .a 9] 10) <|
   .ins (.cl 36 [.a 24, .a 25, .a 26, .a 27, .a 28, .a 29, .a 30, .a 31, .a 32, .a 33, .a 10] 1) <|
   .ins (.pr (.bb .neq) [.a 34, .a 23]) <|
   .ite 35 (
    .ins (.pr (.scl) [.k (.bool false)]) <|
    .ret [.a 36]) (
    .ins (.cl 25 [.a 0, .a 1, .a 2, .a 3, .a 4, .a 5, .a 6, .a 7, .a 8, .a 9] 10) <|
    .ins (.cl 27 [.a 24, .a 25, .a 26, .a 27, .a 28, .a 29, .a 30, .a 31, .a 32, .a 33, .a 36, .a 37, .a 38, .a 39, .a 40, .a 41, .a 42, .a 43, .a 44, .a 45] 1) <|
    .ins (.pr (.un .not) [.a 46]) <|
    .ite 47 (
     .ins (.pr (.scl) [.k (.bool false)]) <|
     .ret [.a 48]) (
     .ins (.pr (.scl) [.k (.bool true)]) <|
     .ret [.a 48])))
def S_FnExactAlikeIn : Nat → Sem1 := pick [(23, F_szWorld), (25, F_toWorld), (27, F_eqWorld), (35, F_s_AlikeIn), (36, F_i_AlikeIn)]
def F_FnExactAlikeIn : Sem1 := fun ts => p_FnExactAlikeIn.den S_FnExactAlikeIn rounds [] ts
end Go.Proofs.YtcknaignbagihaaC
