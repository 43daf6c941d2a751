/- The plain programs as native functions (printed by a program). Conditions: none. -/
import Derived.Test.YtcknaignbagihaaXPB
import Derived.Test.YtcknaignbagihaaKd
namespace Go.Proofs.YtcknaignbagihaaC
set_option linter.unusedVariables false
def G_s_SameKey (R : Nat) (a0 a1 a2 a3 a4 a5 a6 a7 a8 a9 a10 a11 a12 a13 a14 a15 : T) : Option (List T) :=
  (Prim.ev (.bin .eql) [a0, a8]).bind fun a16 =>
  ifT a16 (
   (Prim.ev (.bin .eql) [a1, a9]).bind fun a17 =>
   ifT a17 (
    (Prim.ev (.bin .eql) [a2, a10]).bind fun a18 =>
    ifT a18 (
     (Prim.ev (.bin .eql) [a3, a11]).bind fun a19 =>
     (Prim.ev (.scl) [a19]).bind fun a20 =>
     some [a20]) (
     (Prim.ev (.scl) [bb false]).bind fun a19 =>
     some [a19])) (
    (Prim.ev (.scl) [bb false]).bind fun a18 =>
    some [a18])) (
   (Prim.ev (.scl) [bb false]).bind fun a17 =>
   some [a17])
theorem gr_s_SameKey (R : Nat) (a0 a1 a2 a3 a4 a5 a6 a7 a8 a9 a10 a11 a12 a13 a14 a15 : T) : p_s_SameKey.den (pick []) R [] [a0, a1, a2, a3, a4, a5, a6, a7, a8, a9, a10, a11, a12, a13, a14, a15] = G_s_SameKey R a0 a1 a2 a3 a4 a5 a6 a7 a8 a9 a10 a11 a12 a13 a14 a15 := (den2_of (by kernel_rfl)).trans (by kernel_rfl)
theorem g_s_SameKey (a0 a1 a2 a3 a4 a5 a6 a7 a8 a9 a10 a11 a12 a13 a14 a15 : T) : F_s_SameKey [a0, a1, a2, a3, a4, a5, a6, a7, a8, a9, a10, a11, a12, a13, a14, a15] = G_s_SameKey rounds a0 a1 a2 a3 a4 a5 a6 a7 a8 a9 a10 a11 a12 a13 a14 a15 := gr_s_SameKey rounds a0 a1 a2 a3 a4 a5 a6 a7 a8 a9 a10 a11 a12 a13 a14 a15
def G_s_SameBody (R : Nat) (f_s_SameKey : Sem1) (a0 a1 a2 a3 a4 a5 a6 a7 a8 a9 a10 a11 a12 a13 a14 a15 : T) : Option (List T) :=
  cl1 (f_s_SameKey [a0, a1, a2, a3, a4, a5, a6, a7, a8, a9, a10, a11, a12, a13, a14, a15]) fun a16 =>
  (Prim.ev (.un .not) [a16]).bind fun a17 =>
  ifT a17 (
   (Prim.ev (.scl) [bb false]).bind fun a18 =>
   some [a18]) (
   (Prim.ev (.bin .neq) [a6, a14]).bind fun a18 =>
   ifT a18 (
    (Prim.ev (.scl) [bb false]).bind fun a19 =>
    some [a19]) (
    (Prim.ev (.bb .neq) [a7, a15]).bind fun a19 =>
    ifT a19 (
     (Prim.ev (.scl) [bb false]).bind fun a20 =>
     some [a20]) (
     (Prim.ev (.len) [a5]).bind fun a20 =>
     (Prim.ev (.len) [a13]).bind fun a21 =>
     (Prim.ev (.bin .neq) [a20, a21]).bind fun a22 =>
     ifT a22 (
      (Prim.ev (.scl) [bb false]).bind fun a23 =>
      some [a23]) (
      iter (fun k0 => ar2 fun a23 a24 =>
       (Prim.ev (.len) [a5]).bind fun a25 =>
       (Prim.ev (.bin .lss) [a24, a25]).bind fun a26 =>
       ifT a26 (
        (Prim.ev (.bnd) [a5, a24]).bind fun a27 =>
        (Prim.ev (.cell 2 0) [a5, a24]).bind fun a28 =>
        (Prim.ev (.cell 2 1) [a5, a24]).bind fun a29 =>
        (Prim.ev (.bnd) [a13, a24]).bind fun a30 =>
        (Prim.ev (.cell 2 0) [a13, a24]).bind fun a31 =>
        (Prim.ev (.cell 2 1) [a13, a24]).bind fun a32 =>
        (Prim.ev (.eqs [1, 1]) [a28, a29, a31, a32]).bind fun a33 =>
        (Prim.ev (.un .not) [a33]).bind fun a34 =>
        ifT a34 (
         (Prim.ev (.scl) [bb false]).bind fun a35 =>
         some [a35]) (
         (Prim.ev (.bin .add) [a24, ii 1]).bind fun a35 =>
         k0 [a23, a35])) (
        (Prim.ev (.scl) [bb true]).bind fun a27 =>
        some [a27])) R [bb false, ii 0]))))
theorem gr_s_SameBody (R : Nat) (f_s_SameKey : Sem1) (a0 a1 a2 a3 a4 a5 a6 a7 a8 a9 a10 a11 a12 a13 a14 a15 : T) : p_s_SameBody.den (pick [(131, f_s_SameKey)]) R [] [a0, a1, a2, a3, a4, a5, a6, a7, a8, a9, a10, a11, a12, a13, a14, a15] = G_s_SameBody R f_s_SameKey a0 a1 a2 a3 a4 a5 a6 a7 a8 a9 a10 a11 a12 a13 a14 a15 := (den2_of (by kernel_rfl)).trans (by kernel_rfl)
theorem g_s_SameBody (a0 a1 a2 a3 a4 a5 a6 a7 a8 a9 a10 a11 a12 a13 a14 a15 : T) : F_s_SameBody [a0, a1, a2, a3, a4, a5, a6, a7, a8, a9, a10, a11, a12, a13, a14, a15] = G_s_SameBody rounds F_s_SameKey a0 a1 a2 a3 a4 a5 a6 a7 a8 a9 a10 a11 a12 a13 a14 a15 := gr_s_SameBody rounds F_s_SameKey a0 a1 a2 a3 a4 a5 a6 a7 a8 a9 a10 a11 a12 a13 a14 a15
def G_s_TrueTold (R : Nat) (f_s_SameBody : Sem1) (a0 a1 : T) : Option (List T) :=
  iter (fun k0 => ar2 fun a2 a3 =>
   (Prim.ev (.len) [a1]).bind fun a4 =>
   (Prim.ev (.bin .lss) [a3, a4]).bind fun a5 =>
   ifT a5 (
    iter (fun k1 => ar2 fun a6 a7 =>
     (Prim.ev (.len) [a0]).bind fun a8 =>
     (Prim.ev (.bin .lss) [a7, a8]).bind fun a9 =>
     ifT a9 (
      ifT a6 (
       (Prim.ev (.bin .add) [a7, ii 1]).bind fun a10 =>
       k1 [bb true, a10]) (
       (Prim.ev (.bnd) [a0, a7]).bind fun a10 =>
       (Prim.ev (.cell 8 0) [a0, a7]).bind fun a11 =>
       (Prim.ev (.cell 8 1) [a0, a7]).bind fun a12 =>
       (Prim.ev (.cell 8 2) [a0, a7]).bind fun a13 =>
       (Prim.ev (.cell 8 3) [a0, a7]).bind fun a14 =>
       (Prim.ev (.cell 8 4) [a0, a7]).bind fun a15 =>
       (Prim.ev (.cell 8 5) [a0, a7]).bind fun a16 =>
       (Prim.ev (.cell 8 6) [a0, a7]).bind fun a17 =>
       (Prim.ev (.cell 8 7) [a0, a7]).bind fun a18 =>
       (Prim.ev (.bnd) [a1, a3]).bind fun a19 =>
       (Prim.ev (.cell 8 0) [a1, a3]).bind fun a20 =>
       (Prim.ev (.cell 8 1) [a1, a3]).bind fun a21 =>
       (Prim.ev (.cell 8 2) [a1, a3]).bind fun a22 =>
       (Prim.ev (.cell 8 3) [a1, a3]).bind fun a23 =>
       (Prim.ev (.cell 8 4) [a1, a3]).bind fun a24 =>
       (Prim.ev (.cell 8 5) [a1, a3]).bind fun a25 =>
       (Prim.ev (.cell 8 6) [a1, a3]).bind fun a26 =>
       (Prim.ev (.cell 8 7) [a1, a3]).bind fun a27 =>
       cl1 (f_s_SameBody [a11, a12, a13, a14, a15, a16, a17, a18, a20, a21, a22, a23, a24, a25, a26, a27]) fun a28 =>
       ifT a28 (
        (Prim.ev (.bnd) [a0, a7]).bind fun a29 =>
        (Prim.ev (.cell 8 4) [a0, a7]).bind fun a30 =>
        (Prim.ev (.bnd) [a1, a3]).bind fun a31 =>
        (Prim.ev (.cell 8 4) [a1, a3]).bind fun a32 =>
        (Prim.ev (.bin .eql) [a30, a32]).bind fun a33 =>
        (Prim.ev (.bin .add) [a7, ii 1]).bind fun a34 =>
        k1 [a33, a34]) (
        (Prim.ev (.bin .add) [a7, ii 1]).bind fun a29 =>
        k1 [bb false, a29]))) (
      (Prim.ev (.un .not) [a6]).bind fun a10 =>
      ifT a10 (
       (Prim.ev (.scl) [bb false]).bind fun a11 =>
       some [a11]) (
       (Prim.ev (.bin .add) [a3, ii 1]).bind fun a11 =>
       k0 [a2, a11]))) R [bb false, ii 0]) (
    (Prim.ev (.scl) [bb true]).bind fun a6 =>
    some [a6])) R [bb false, ii 0]
theorem gr_s_TrueTold (R : Nat) (f_s_SameBody : Sem1) (a0 a1 : T) : p_s_TrueTold.den (pick [(114, f_s_SameBody)]) R [] [a0, a1] = G_s_TrueTold R f_s_SameBody a0 a1 := (den2_of (by kernel_rfl)).trans (by kernel_rfl)
theorem g_s_TrueTold (a0 a1 : T) : F_s_TrueTold [a0, a1] = G_s_TrueTold rounds F_s_SameBody a0 a1 := gr_s_TrueTold rounds F_s_SameBody a0 a1
def G_s_AllTrue (R : Nat) (f_s_TrueTold : Sem1) (a0 a1 a2 a3 a4 a5 a6 a7 a8 a9 : T) : Option (List T) :=
  iter (fun k0 => ar2 fun a10 a11 =>
   (Prim.ev (.len) [a6]).bind fun a12 =>
   (Prim.ev (.bin .lss) [a11, a12]).bind fun a13 =>
   ifT a13 (
    (Prim.ev (.len) [a4]).bind fun a14 =>
    (Prim.ev (.bin .lss) [a11, a14]).bind fun a15 =>
    ifT a15 (
     (Prim.ev (.bnd) [a4, a11]).bind fun a16 =>
     (Prim.ev (.cell 1 0) [a4, a11]).bind fun a17 =>
     ifT a17 (
      (Prim.ev (.bnd) [a6, a11]).bind fun a18 =>
      (Prim.ev (.cell 8 6) [a6, a11]).bind fun a19 =>
      cl1 (f_s_TrueTold [a8, a19]) fun a20 =>
      (Prim.ev (.un .not) [a20]).bind fun a21 =>
      ifT a21 (
       (Prim.ev (.scl) [bb false]).bind fun a22 =>
       some [a22]) (
       (Prim.ev (.bin .add) [a11, ii 1]).bind fun a22 =>
       k0 [a10, a22])) (
      (Prim.ev (.bin .add) [a11, ii 1]).bind fun a18 =>
      k0 [a10, a18])) (
     (Prim.ev (.scl) [bb true]).bind fun a16 =>
     some [a16])) (
    (Prim.ev (.scl) [bb true]).bind fun a14 =>
    some [a14])) R [bb false, ii 0]
theorem gr_s_AllTrue (R : Nat) (f_s_TrueTold : Sem1) (a0 a1 a2 a3 a4 a5 a6 a7 a8 a9 : T) : p_s_AllTrue.den (pick [(61, f_s_TrueTold)]) R [] [a0, a1, a2, a3, a4, a5, a6, a7, a8, a9] = G_s_AllTrue R f_s_TrueTold a0 a1 a2 a3 a4 a5 a6 a7 a8 a9 := (den2_of (by kernel_rfl)).trans (by kernel_rfl)
theorem g_s_AllTrue (a0 a1 a2 a3 a4 a5 a6 a7 a8 a9 : T) : F_s_AllTrue [a0, a1, a2, a3, a4, a5, a6, a7, a8, a9] = G_s_AllTrue rounds F_s_TrueTold a0 a1 a2 a3 a4 a5 a6 a7 a8 a9 := gr_s_AllTrue rounds F_s_TrueTold a0 a1 a2 a3 a4 a5 a6 a7 a8 a9
def G_i_in (R : Nat) (a0 a1 a2 : T) : Option (List T) :=
  (Prim.ev (.bin .geq) [a0, a1]).bind fun a3 =>
  ifT a3 (
   (Prim.ev (.bin .leq) [a0, a2]).bind fun a4 =>
   (Prim.ev (.scl) [a4]).bind fun a5 =>
   some [a5]) (
   (Prim.ev (.scl) [bb false]).bind fun a4 =>
   some [a4])
theorem gr_i_in (R : Nat) (a0 a1 a2 : T) : p_i_in.den (pick []) R [] [a0, a1, a2] = G_i_in R a0 a1 a2 := (den2_of (by kernel_rfl)).trans (by kernel_rfl)
theorem g_i_in (a0 a1 a2 : T) : F_i_in [a0, a1, a2] = G_i_in rounds a0 a1 a2 := gr_i_in rounds a0 a1 a2
def G_i_World_up (R : Nat) (f_i_in : Sem1) (a0 a1 a2 a3 a4 a5 a6 a7 a8 a9 a10 : T) : Option (List T) :=
  (Prim.ev (.len) [a4]).bind fun a11 =>
  cl1 (f_i_in [a10, ii 1, a11]) fun a12 =>
  ifT a12 (
   (Prim.ev (.len) [a6]).bind fun a13 =>
   (Prim.ev (.bin .leq) [a10, a13]).bind fun a14 =>
   ifT a14 (
    (Prim.ev (.bin .sub) [a10, ii 1]).bind fun a15 =>
    (Prim.ev (.bnd) [a4, a15]).bind fun a16 =>
    (Prim.ev (.cell 1 0) [a4, a15]).bind fun a17 =>
    (Prim.ev (.scl) [a17]).bind fun a18 =>
    some [a18, a0, a1, a2, a3, a4, a5, a6, a7, a8, a9]) (
    (Prim.ev (.scl) [bb false]).bind fun a15 =>
    some [a15, a0, a1, a2, a3, a4, a5, a6, a7, a8, a9])) (
   (Prim.ev (.scl) [bb false]).bind fun a13 =>
   some [a13, a0, a1, a2, a3, a4, a5, a6, a7, a8, a9])
theorem gr_i_World_up (R : Nat) (f_i_in : Sem1) (a0 a1 a2 a3 a4 a5 a6 a7 a8 a9 a10 : T) : p_i_World_up.den (pick [(45, f_i_in)]) R [] [a0, a1, a2, a3, a4, a5, a6, a7, a8, a9, a10] = G_i_World_up R f_i_in a0 a1 a2 a3 a4 a5 a6 a7 a8 a9 a10 := (den2_of (by kernel_rfl)).trans (by kernel_rfl)
theorem g_i_World_up (a0 a1 a2 a3 a4 a5 a6 a7 a8 a9 a10 : T) : F_i_World_up [a0, a1, a2, a3, a4, a5, a6, a7, a8, a9, a10] = G_i_World_up rounds F_i_in a0 a1 a2 a3 a4 a5 a6 a7 a8 a9 a10 := gr_i_World_up rounds F_i_in a0 a1 a2 a3 a4 a5 a6 a7 a8 a9 a10
def G_i_SameKey (R : Nat) (a0 a1 a2 a3 a4 a5 a6 a7 a8 a9 a10 a11 a12 a13 a14 a15 : T) : Option (List T) :=
  (Prim.ev (.bin .eql) [a0, a8]).bind fun a16 =>
  ifT a16 (
   (Prim.ev (.bin .eql) [a1, a9]).bind fun a17 =>
   ifT a17 (
    (Prim.ev (.bin .eql) [a2, a10]).bind fun a18 =>
    ifT a18 (
     (Prim.ev (.bin .eql) [a3, a11]).bind fun a19 =>
     (Prim.ev (.scl) [a19]).bind fun a20 =>
     some [a20]) (
     (Prim.ev (.scl) [bb false]).bind fun a19 =>
     some [a19])) (
    (Prim.ev (.scl) [bb false]).bind fun a18 =>
    some [a18])) (
   (Prim.ev (.scl) [bb false]).bind fun a17 =>
   some [a17])
theorem gr_i_SameKey (R : Nat) (a0 a1 a2 a3 a4 a5 a6 a7 a8 a9 a10 a11 a12 a13 a14 a15 : T) : p_i_SameKey.den (pick []) R [] [a0, a1, a2, a3, a4, a5, a6, a7, a8, a9, a10, a11, a12, a13, a14, a15] = G_i_SameKey R a0 a1 a2 a3 a4 a5 a6 a7 a8 a9 a10 a11 a12 a13 a14 a15 := (den2_of (by kernel_rfl)).trans (by kernel_rfl)
theorem g_i_SameKey (a0 a1 a2 a3 a4 a5 a6 a7 a8 a9 a10 a11 a12 a13 a14 a15 : T) : F_i_SameKey [a0, a1, a2, a3, a4, a5, a6, a7, a8, a9, a10, a11, a12, a13, a14, a15] = G_i_SameKey rounds a0 a1 a2 a3 a4 a5 a6 a7 a8 a9 a10 a11 a12 a13 a14 a15 := gr_i_SameKey rounds a0 a1 a2 a3 a4 a5 a6 a7 a8 a9 a10 a11 a12 a13 a14 a15
def G_i_SameBody (R : Nat) (f_i_SameKey : Sem1) (a0 a1 a2 a3 a4 a5 a6 a7 a8 a9 a10 a11 a12 a13 a14 a15 : T) : Option (List T) :=
  cl1 (f_i_SameKey [a0, a1, a2, a3, a4, a5, a6, a7, a8, a9, a10, a11, a12, a13, a14, a15]) fun a16 =>
  (Prim.ev (.un .not) [a16]).bind fun a17 =>
  ifT a17 (
   (Prim.ev (.scl) [bb false]).bind fun a18 =>
   some [a18]) (
   (Prim.ev (.bin .neq) [a6, a14]).bind fun a18 =>
   ifT a18 (
    (Prim.ev (.scl) [bb false]).bind fun a19 =>
    some [a19]) (
    (Prim.ev (.bb .neq) [a7, a15]).bind fun a19 =>
    ifT a19 (
     (Prim.ev (.scl) [bb false]).bind fun a20 =>
     some [a20]) (
     (Prim.ev (.len) [a5]).bind fun a20 =>
     (Prim.ev (.len) [a13]).bind fun a21 =>
     (Prim.ev (.bin .neq) [a20, a21]).bind fun a22 =>
     ifT a22 (
      (Prim.ev (.scl) [bb false]).bind fun a23 =>
      some [a23]) (
      (Prim.ev (.len) [a5]).bind fun a23 =>
      iter (fun k0 => ar2 fun a24 a25 =>
       (Prim.ev (.bin .lss) [a25, a23]).bind fun a26 =>
       ifT a26 (
        (Prim.ev (.bnd) [a5, a25]).bind fun a27 =>
        (Prim.ev (.cell 2 0) [a5, a25]).bind fun a28 =>
        (Prim.ev (.cell 2 1) [a5, a25]).bind fun a29 =>
        (Prim.ev (.bnd) [a13, a25]).bind fun a30 =>
        (Prim.ev (.cell 2 0) [a13, a25]).bind fun a31 =>
        (Prim.ev (.cell 2 1) [a13, a25]).bind fun a32 =>
        (Prim.ev (.eqs [1, 1]) [a28, a29, a31, a32]).bind fun a33 =>
        (Prim.ev (.un .not) [a33]).bind fun a34 =>
        ifT a34 (
         (Prim.ev (.scl) [bb false]).bind fun a35 =>
         some [a35]) (
         (Prim.ev (.bin .add) [a25, ii 1]).bind fun a35 =>
         k0 [a24, a35])) (
        (Prim.ev (.scl) [bb true]).bind fun a27 =>
        some [a27])) R [bb false, ii 0]))))
theorem gr_i_SameBody (R : Nat) (f_i_SameKey : Sem1) (a0 a1 a2 a3 a4 a5 a6 a7 a8 a9 a10 a11 a12 a13 a14 a15 : T) : p_i_SameBody.den (pick [(103, f_i_SameKey)]) R [] [a0, a1, a2, a3, a4, a5, a6, a7, a8, a9, a10, a11, a12, a13, a14, a15] = G_i_SameBody R f_i_SameKey a0 a1 a2 a3 a4 a5 a6 a7 a8 a9 a10 a11 a12 a13 a14 a15 := (den2_of (by kernel_rfl)).trans (by kernel_rfl)
theorem g_i_SameBody (a0 a1 a2 a3 a4 a5 a6 a7 a8 a9 a10 a11 a12 a13 a14 a15 : T) : F_i_SameBody [a0, a1, a2, a3, a4, a5, a6, a7, a8, a9, a10, a11, a12, a13, a14, a15] = G_i_SameBody rounds F_i_SameKey a0 a1 a2 a3 a4 a5 a6 a7 a8 a9 a10 a11 a12 a13 a14 a15 := gr_i_SameBody rounds F_i_SameKey a0 a1 a2 a3 a4 a5 a6 a7 a8 a9 a10 a11 a12 a13 a14 a15
def G_i_TrueTold (R : Nat) (f_i_SameBody : Sem1) (a0 a1 : T) : Option (List T) :=
  (Prim.ev (.len) [a1]).bind fun a2 =>
  iter (fun k0 => ar2 fun a3 a4 =>
   (Prim.ev (.bin .lss) [a4, a2]).bind fun a5 =>
   ifT a5 (
    (Prim.ev (.bnd) [a1, a4]).bind fun a6 =>
    (Prim.ev (.cell 8 0) [a1, a4]).bind fun a7 =>
    (Prim.ev (.cell 8 1) [a1, a4]).bind fun a8 =>
    (Prim.ev (.cell 8 2) [a1, a4]).bind fun a9 =>
    (Prim.ev (.cell 8 3) [a1, a4]).bind fun a10 =>
    (Prim.ev (.cell 8 4) [a1, a4]).bind fun a11 =>
    (Prim.ev (.cell 8 5) [a1, a4]).bind fun a12 =>
    (Prim.ev (.cell 8 6) [a1, a4]).bind fun a13 =>
    (Prim.ev (.cell 8 7) [a1, a4]).bind fun a14 =>
    (Prim.ev (.len) [a0]).bind fun a15 =>
    iter (fun k1 => ar2 fun a16 a17 =>
     (Prim.ev (.bin .lss) [a17, a15]).bind fun a18 =>
     ifT a18 (
      (Prim.ev (.bnd) [a0, a17]).bind fun a19 =>
      (Prim.ev (.cell 8 0) [a0, a17]).bind fun a20 =>
      (Prim.ev (.cell 8 1) [a0, a17]).bind fun a21 =>
      (Prim.ev (.cell 8 2) [a0, a17]).bind fun a22 =>
      (Prim.ev (.cell 8 3) [a0, a17]).bind fun a23 =>
      (Prim.ev (.cell 8 4) [a0, a17]).bind fun a24 =>
      (Prim.ev (.cell 8 5) [a0, a17]).bind fun a25 =>
      (Prim.ev (.cell 8 6) [a0, a17]).bind fun a26 =>
      (Prim.ev (.cell 8 7) [a0, a17]).bind fun a27 =>
      ifT a16 (
       (Prim.ev (.bin .add) [a17, ii 1]).bind fun a28 =>
       k1 [bb true, a28]) (
       cl1 (f_i_SameBody [a20, a21, a22, a23, a24, a25, a26, a27, a7, a8, a9, a10, a11, a12, a13, a14]) fun a28 =>
       ifT a28 (
        (Prim.ev (.bin .eql) [a24, a11]).bind fun a29 =>
        (Prim.ev (.bin .add) [a17, ii 1]).bind fun a30 =>
        k1 [a29, a30]) (
        (Prim.ev (.bin .add) [a17, ii 1]).bind fun a29 =>
        k1 [bb false, a29]))) (
      (Prim.ev (.un .not) [a16]).bind fun a19 =>
      ifT a19 (
       (Prim.ev (.scl) [bb false]).bind fun a20 =>
       some [a20]) (
       (Prim.ev (.bin .add) [a4, ii 1]).bind fun a20 =>
       k0 [a3, a20]))) R [bb false, ii 0]) (
    (Prim.ev (.scl) [bb true]).bind fun a6 =>
    some [a6])) R [bb false, ii 0]
theorem gr_i_TrueTold (R : Nat) (f_i_SameBody : Sem1) (a0 a1 : T) : p_i_TrueTold.den (pick [(118, f_i_SameBody)]) R [] [a0, a1] = G_i_TrueTold R f_i_SameBody a0 a1 := (den2_of (by kernel_rfl)).trans (by kernel_rfl)
theorem g_i_TrueTold (a0 a1 : T) : F_i_TrueTold [a0, a1] = G_i_TrueTold rounds F_i_SameBody a0 a1 := gr_i_TrueTold rounds F_i_SameBody a0 a1
def G_i_AllTrue (R : Nat) (f_i_World_up f_i_TrueTold : Sem1) (a0 a1 a2 a3 a4 a5 a6 a7 a8 a9 : T) : Option (List T) :=
  (Prim.ev (.len) [a6]).bind fun a10 =>
  iter (fun k0 => ar12 fun a11 a12 a13 a14 a15 a16 a17 a18 a19 a20 a21 a22 =>
   (Prim.ev (.bin .lss) [a12, a10]).bind fun a23 =>
   ifT a23 (
    (Prim.ev (.bnd) [a6, a12]).bind fun a24 =>
    (Prim.ev (.cell 8 0) [a6, a12]).bind fun a25 =>
    (Prim.ev (.cell 8 1) [a6, a12]).bind fun a26 =>
    (Prim.ev (.cell 8 2) [a6, a12]).bind fun a27 =>
    (Prim.ev (.cell 8 3) [a6, a12]).bind fun a28 =>
    (Prim.ev (.cell 8 4) [a6, a12]).bind fun a29 =>
    (Prim.ev (.cell 8 5) [a6, a12]).bind fun a30 =>
    (Prim.ev (.cell 8 6) [a6, a12]).bind fun a31 =>
    (Prim.ev (.cell 8 7) [a6, a12]).bind fun a32 =>
    (Prim.ev (.bin .add) [a12, ii 1]).bind fun a33 =>
    cl11 (f_i_World_up [a13, a14, a15, a16, a17, a18, a19, a20, a21, a22, a33]) fun a34 a35 a36 a37 a38 a39 a40 a41 a42 a43 a44 =>
    ifT a34 (
     cl1 (f_i_TrueTold [a43, a31]) fun a45 =>
     (Prim.ev (.un .not) [a45]).bind fun a46 =>
     ifT a46 (
      (Prim.ev (.scl) [bb false]).bind fun a47 =>
      some [a47]) (
      (Prim.ev (.bin .add) [a12, ii 1]).bind fun a47 =>
      k0 [a11, a47, a35, a36, a37, a38, a39, a40, a41, a42, a43, a44])) (
     (Prim.ev (.bin .add) [a12, ii 1]).bind fun a45 =>
     k0 [a11, a45, a35, a36, a37, a38, a39, a40, a41, a42, a43, a44])) (
    (Prim.ev (.scl) [bb true]).bind fun a24 =>
    some [a24])) R [bb false, ii 0, a0, a1, a2, a3, a4, a5, a6, a7, a8, a9]
theorem gr_i_AllTrue (R : Nat) (f_i_World_up f_i_TrueTold : Sem1) (a0 a1 a2 a3 a4 a5 a6 a7 a8 a9 : T) : p_i_AllTrue.den (pick [(66, f_i_World_up), (67, f_i_TrueTold)]) R [] [a0, a1, a2, a3, a4, a5, a6, a7, a8, a9] = G_i_AllTrue R f_i_World_up f_i_TrueTold a0 a1 a2 a3 a4 a5 a6 a7 a8 a9 := (den2_of (by kernel_rfl)).trans (by kernel_rfl)
theorem g_i_AllTrue (a0 a1 a2 a3 a4 a5 a6 a7 a8 a9 : T) : F_i_AllTrue [a0, a1, a2, a3, a4, a5, a6, a7, a8, a9] = G_i_AllTrue rounds F_i_World_up F_i_TrueTold a0 a1 a2 a3 a4 a5 a6 a7 a8 a9 := gr_i_AllTrue rounds F_i_World_up F_i_TrueTold a0 a1 a2 a3 a4 a5 a6 a7 a8 a9
def G_s_l01In (R : Nat) (a0 a1 a2 : T) : Option (List T) :=
  (Prim.ev (.bin .geq) [a0, a1]).bind fun a3 =>
  ifT a3 (
   (Prim.ev (.bin .leq) [a0, a2]).bind fun a4 =>
   (Prim.ev (.scl) [a4]).bind fun a5 =>
   some [a5]) (
   (Prim.ev (.scl) [bb false]).bind fun a4 =>
   some [a4])
theorem gr_s_l01In (R : Nat) (a0 a1 a2 : T) : p_s_l01In.den (pick []) R [] [a0, a1, a2] = G_s_l01In R a0 a1 a2 := (den2_of (by kernel_rfl)).trans (by kernel_rfl)
theorem g_s_l01In (a0 a1 a2 : T) : F_s_l01In [a0, a1, a2] = G_s_l01In rounds a0 a1 a2 := gr_s_l01In rounds a0 a1 a2
def G_s_LinkOk (R : Nat) (f_s_l01In : Sem1) (a0 a1 a2 a3 a4 : T) : Option (List T) :=
  cl1 (f_s_l01In [a0, ii 1, ii 6]) fun a5 =>
  ifT a5 (
   cl1 (f_s_l01In [a1, ii 1, a0]) fun a6 =>
   ifT a6 (
    cl1 (f_s_l01In [a2, ii 1, a0]) fun a7 =>
    ifT a7 (
     (Prim.ev (.bin .lss) [a1, a2]).bind fun a8 =>
     ifT a8 (
      cl1 (f_s_l01In [a3, ii 1, ii 1000]) fun a9 =>
      ifT a9 (
       cl1 (f_s_l01In [a4, ii 0, ii 2]) fun a10 =>
       (Prim.ev (.scl) [a10]).bind fun a11 =>
       some [a11]) (
       (Prim.ev (.scl) [bb false]).bind fun a10 =>
       some [a10])) (
      (Prim.ev (.scl) [bb false]).bind fun a9 =>
      some [a9])) (
     (Prim.ev (.scl) [bb false]).bind fun a8 =>
     some [a8])) (
    (Prim.ev (.scl) [bb false]).bind fun a7 =>
    some [a7])) (
   (Prim.ev (.scl) [bb false]).bind fun a6 =>
   some [a6])
theorem gr_s_LinkOk (R : Nat) (f_s_l01In : Sem1) (a0 a1 a2 a3 a4 : T) : p_s_LinkOk.den (pick [(40, f_s_l01In)]) R [] [a0, a1, a2, a3, a4] = G_s_LinkOk R f_s_l01In a0 a1 a2 a3 a4 := (den2_of (by kernel_rfl)).trans (by kernel_rfl)
theorem g_s_LinkOk (a0 a1 a2 a3 a4 : T) : F_s_LinkOk [a0, a1, a2, a3, a4] = G_s_LinkOk rounds F_s_l01In a0 a1 a2 a3 a4 := gr_s_LinkOk rounds F_s_l01In a0 a1 a2 a3 a4
def G_s_l03Ahead (R : Nat) (a0 a1 a2 a3 a4 a5 a6 a7 : T) : Option (List T) :=
  (Prim.ev (.bin .lss) [a0, a4]).bind fun a8 =>
  ifT a8 (
   (Prim.ev (.scl) [bb true]).bind fun a9 =>
   some [a9]) (
   (Prim.ev (.bin .eql) [a0, a4]).bind fun a9 =>
   ifT a9 (
    (Prim.ev (.bin .lss) [a1, a5]).bind fun a10 =>
    ifT a10 (
     (Prim.ev (.scl) [bb true]).bind fun a11 =>
     some [a11]) (
     (Prim.ev (.bin .eql) [a1, a5]).bind fun a11 =>
     ifT a11 (
      (Prim.ev (.bin .lss) [a3, a7]).bind fun a12 =>
      (Prim.ev (.scl) [a12]).bind fun a13 =>
      some [a13]) (
      (Prim.ev (.scl) [bb false]).bind fun a12 =>
      some [a12]))) (
    (Prim.ev (.scl) [bb false]).bind fun a10 =>
    some [a10]))
theorem gr_s_l03Ahead (R : Nat) (a0 a1 a2 a3 a4 a5 a6 a7 : T) : p_s_l03Ahead.den (pick []) R [] [a0, a1, a2, a3, a4, a5, a6, a7] = G_s_l03Ahead R a0 a1 a2 a3 a4 a5 a6 a7 := (den2_of (by kernel_rfl)).trans (by kernel_rfl)
theorem g_s_l03Ahead (a0 a1 a2 a3 a4 a5 a6 a7 : T) : F_s_l03Ahead [a0, a1, a2, a3, a4, a5, a6, a7] = G_s_l03Ahead rounds a0 a1 a2 a3 a4 a5 a6 a7 := gr_s_l03Ahead rounds a0 a1 a2 a3 a4 a5 a6 a7
def G_s_l03Thing (R : Nat) (a0 a1 a2 a3 a4 a5 a6 a7 : T) : Option (List T) :=
  (Prim.ev (.bin .lss) [a1, a5]).bind fun a8 =>
  ifT a8 (
   (Prim.ev (.scl) [bb true]).bind fun a9 =>
   some [a9]) (
   (Prim.ev (.bin .eql) [a1, a5]).bind fun a9 =>
   ifT a9 (
    (Prim.ev (.bin .lss) [a0, a4]).bind fun a10 =>
    (Prim.ev (.scl) [a10]).bind fun a11 =>
    some [a11]) (
    (Prim.ev (.scl) [bb false]).bind fun a10 =>
    some [a10]))
theorem gr_s_l03Thing (R : Nat) (a0 a1 a2 a3 a4 a5 a6 a7 : T) : p_s_l03Thing.den (pick []) R [] [a0, a1, a2, a3, a4, a5, a6, a7] = G_s_l03Thing R a0 a1 a2 a3 a4 a5 a6 a7 := (den2_of (by kernel_rfl)).trans (by kernel_rfl)
theorem g_s_l03Thing (a0 a1 a2 a3 a4 a5 a6 a7 : T) : F_s_l03Thing [a0, a1, a2, a3, a4, a5, a6, a7] = G_s_l03Thing rounds a0 a1 a2 a3 a4 a5 a6 a7 := gr_s_l03Thing rounds a0 a1 a2 a3 a4 a5 a6 a7
def G_s_NetOk (R : Nat) (f_s_l01In f_s_LinkOk f_s_l03Ahead f_s_l03Thing : Sem1) (a0 a1 a2 : T) : Option (List T) :=
  cl1 (f_s_l01In [a0, ii 1, ii 6]) fun a3 =>
  (Prim.ev (.un .not) [a3]).bind fun a4 =>
  ifT a4 (
   (Prim.ev (.scl) [bb false]).bind fun a5 =>
   some [a5]) (
   (Prim.ev (.len) [a1]).bind fun a5 =>
   (Prim.ev (.bin .gtr) [a5, ii 12]).bind fun a6 =>
   ifT a6 (
    (Prim.ev (.scl) [bb false]).bind fun a7 =>
    some [a7]) (
    (Prim.ev (.len) [a2]).bind fun a7 =>
    (Prim.ev (.bin .gtr) [a7, ii 4]).bind fun a8 =>
    ifT a8 (
     (Prim.ev (.scl) [bb false]).bind fun a9 =>
     some [a9]) (
     iter (fun k0 => ar2 fun a9 a10 =>
      (Prim.ev (.len) [a1]).bind fun a11 =>
      (Prim.ev (.bin .lss) [a10, a11]).bind fun a12 =>
      ifT a12 (
       (Prim.ev (.bnd) [a1, a10]).bind fun a13 =>
       (Prim.ev (.cell 4 0) [a1, a10]).bind fun a14 =>
       (Prim.ev (.cell 4 1) [a1, a10]).bind fun a15 =>
       (Prim.ev (.cell 4 2) [a1, a10]).bind fun a16 =>
       (Prim.ev (.cell 4 3) [a1, a10]).bind fun a17 =>
       cl1 (f_s_LinkOk [a0, a14, a15, a16, a17]) fun a18 =>
       (Prim.ev (.un .not) [a18]).bind fun a19 =>
       ifT a19 (
        (Prim.ev (.scl) [bb false]).bind fun a20 =>
        some [a20]) (
        (Prim.ev (.bin .gtr) [a10, ii 0]).bind fun a20 =>
        ifT a20 (
         (Prim.ev (.bin .sub) [a10, ii 1]).bind fun a21 =>
         (Prim.ev (.bnd) [a1, a21]).bind fun a22 =>
         (Prim.ev (.cell 4 0) [a1, a21]).bind fun a23 =>
         (Prim.ev (.cell 4 1) [a1, a21]).bind fun a24 =>
         (Prim.ev (.cell 4 2) [a1, a21]).bind fun a25 =>
         (Prim.ev (.cell 4 3) [a1, a21]).bind fun a26 =>
         (Prim.ev (.bnd) [a1, a10]).bind fun a27 =>
         (Prim.ev (.cell 4 0) [a1, a10]).bind fun a28 =>
         (Prim.ev (.cell 4 1) [a1, a10]).bind fun a29 =>
         (Prim.ev (.cell 4 2) [a1, a10]).bind fun a30 =>
         (Prim.ev (.cell 4 3) [a1, a10]).bind fun a31 =>
         cl1 (f_s_l03Ahead [a23, a24, a25, a26, a28, a29, a30, a31]) fun a32 =>
         (Prim.ev (.un .not) [a32]).bind fun a33 =>
         ifT a33 (
          (Prim.ev (.scl) [bb false]).bind fun a34 =>
          some [a34]) (
          (Prim.ev (.bin .add) [a10, ii 1]).bind fun a34 =>
          k0 [a9, a34])) (
         (Prim.ev (.bin .add) [a10, ii 1]).bind fun a21 =>
         k0 [a9, a21]))) (
       iter (fun k1 => ar2 fun a13 a14 =>
        (Prim.ev (.len) [a2]).bind fun a15 =>
        (Prim.ev (.bin .lss) [a14, a15]).bind fun a16 =>
        ifT a16 (
         (Prim.ev (.bnd) [a2, a14]).bind fun a17 =>
         (Prim.ev (.cell 4 0) [a2, a14]).bind fun a18 =>
         (Prim.ev (.cell 4 1) [a2, a14]).bind fun a19 =>
         (Prim.ev (.cell 4 2) [a2, a14]).bind fun a20 =>
         (Prim.ev (.cell 4 3) [a2, a14]).bind fun a21 =>
         cl1 (f_s_l01In [a18, ii 1, a0]) fun a22 =>
         (Prim.ev (.un .not) [a22]).bind fun a23 =>
         ifT a23 (
          (Prim.ev (.scl) [bb false]).bind fun a24 =>
          some [a24]) (
          cl1 (f_s_l01In [a19, ii 1, ii 9]) fun a24 =>
          (Prim.ev (.un .not) [a24]).bind fun a25 =>
          ifT a25 (
           (Prim.ev (.scl) [bb false]).bind fun a26 =>
           some [a26]) (
           cl1 (f_s_l01In [a20, ii 1, ii 1000]) fun a26 =>
           (Prim.ev (.un .not) [a26]).bind fun a27 =>
           ifT a27 (
            (Prim.ev (.scl) [bb false]).bind fun a28 =>
            some [a28]) (
            (Prim.ev (.bin .gtr) [a14, ii 0]).bind fun a28 =>
            ifT a28 (
             (Prim.ev (.bin .sub) [a14, ii 1]).bind fun a29 =>
             (Prim.ev (.bnd) [a2, a29]).bind fun a30 =>
             (Prim.ev (.cell 4 0) [a2, a29]).bind fun a31 =>
             (Prim.ev (.cell 4 1) [a2, a29]).bind fun a32 =>
             (Prim.ev (.cell 4 2) [a2, a29]).bind fun a33 =>
             (Prim.ev (.cell 4 3) [a2, a29]).bind fun a34 =>
             cl1 (f_s_l03Thing [a31, a32, a33, a34, a18, a19, a20, a21]) fun a35 =>
             (Prim.ev (.un .not) [a35]).bind fun a36 =>
             ifT a36 (
              (Prim.ev (.scl) [bb false]).bind fun a37 =>
              some [a37]) (
              (Prim.ev (.bin .add) [a14, ii 1]).bind fun a37 =>
              k1 [a13, a37])) (
             (Prim.ev (.bin .add) [a14, ii 1]).bind fun a29 =>
             k1 [a13, a29]))))) (
         (Prim.ev (.scl) [bb true]).bind fun a17 =>
         some [a17])) R [a9, ii 0])) R [bb false, ii 0])))
theorem gr_s_NetOk (R : Nat) (f_s_l01In f_s_LinkOk f_s_l03Ahead f_s_l03Thing : Sem1) (a0 a1 a2 : T) : p_s_NetOk.den (pick [(40, f_s_l01In), (142, f_s_LinkOk), (143, f_s_l03Ahead), (144, f_s_l03Thing)]) R [] [a0, a1, a2] = G_s_NetOk R f_s_l01In f_s_LinkOk f_s_l03Ahead f_s_l03Thing a0 a1 a2 := (den2_of (by kernel_rfl)).trans (by kernel_rfl)
theorem g_s_NetOk (a0 a1 a2 : T) : F_s_NetOk [a0, a1, a2] = G_s_NetOk rounds F_s_l01In F_s_LinkOk F_s_l03Ahead F_s_l03Thing a0 a1 a2 := gr_s_NetOk rounds F_s_l01In F_s_LinkOk F_s_l03Ahead F_s_l03Thing a0 a1 a2
def G_s_CostTo (R : Nat) (a0 a1 a2 a3 a4 a5 : T) : Option (List T) :=
  iter (fun k0 => ar2 fun a6 a7 =>
   (Prim.ev (.len) [a1]).bind fun a8 =>
   (Prim.ev (.bin .lss) [a7, a8]).bind fun a9 =>
   ifT a9 (
    (Prim.ev (.bnd) [a1, a7]).bind fun a10 =>
    (Prim.ev (.cell 4 0) [a1, a7]).bind fun a11 =>
    (Prim.ev (.cell 4 1) [a1, a7]).bind fun a12 =>
    (Prim.ev (.cell 4 2) [a1, a7]).bind fun a13 =>
    (Prim.ev (.cell 4 3) [a1, a7]).bind fun a14 =>
    (Prim.ev (.bin .eql) [a14, a5]).bind fun a15 =>
    ifT a15 (
     (Prim.ev (.bin .eql) [a11, a3]).bind fun a16 =>
     ifT a16 (
      (Prim.ev (.bin .eql) [a12, a4]).bind fun a17 =>
      ifT a17 (
       (Prim.ev (.scl) [a13]).bind fun a18 =>
       some [a18]) (
       (Prim.ev (.bin .eql) [a11, a4]).bind fun a18 =>
       ifT a18 (
        (Prim.ev (.bin .eql) [a12, a3]).bind fun a19 =>
        ifT a19 (
         (Prim.ev (.scl) [a13]).bind fun a20 =>
         some [a20]) (
         (Prim.ev (.bin .add) [a7, ii 1]).bind fun a20 =>
         k0 [a6, a20])) (
        (Prim.ev (.bin .add) [a7, ii 1]).bind fun a19 =>
        k0 [a6, a19]))) (
      (Prim.ev (.bin .eql) [a11, a4]).bind fun a17 =>
      ifT a17 (
       (Prim.ev (.bin .eql) [a12, a3]).bind fun a18 =>
       ifT a18 (
        (Prim.ev (.scl) [a13]).bind fun a19 =>
        some [a19]) (
        (Prim.ev (.bin .add) [a7, ii 1]).bind fun a19 =>
        k0 [a6, a19])) (
       (Prim.ev (.bin .add) [a7, ii 1]).bind fun a18 =>
       k0 [a6, a18]))) (
     (Prim.ev (.bin .add) [a7, ii 1]).bind fun a16 =>
     k0 [a6, a16])) (
    (Prim.ev (.scl) [ii 0]).bind fun a10 =>
    some [a10])) R [ii 0, ii 0]
theorem gr_s_CostTo (R : Nat) (a0 a1 a2 a3 a4 a5 : T) : p_s_CostTo.den (pick []) R [] [a0, a1, a2, a3, a4, a5] = G_s_CostTo R a0 a1 a2 a3 a4 a5 := (den2_of (by kernel_rfl)).trans (by kernel_rfl)
theorem g_s_CostTo (a0 a1 a2 a3 a4 a5 : T) : F_s_CostTo [a0, a1, a2, a3, a4, a5] = G_s_CostTo rounds a0 a1 a2 a3 a4 a5 := gr_s_CostTo rounds a0 a1 a2 a3 a4 a5
def G_s_l08Heard (R : Nat) (f_s_CostTo : Sem1) (a0 a1 a2 a3 a4 a5 a6 : T) : Option (List T) :=
  (Prim.ev (.len) [a5]).bind fun a7 =>
  (Prim.ev (.bin .rem) [a7, ii 2]).bind fun a8 =>
  (Prim.ev (.bin .eql) [a8, ii 1]).bind fun a9 =>
  ifT a9 (
   (Prim.ev (.scl) [bb false]).bind fun a10 =>
   some [a10]) (
   (Prim.ev (.len) [a5]).bind fun a10 =>
   (Prim.ev (.bin .gtr) [a10, ii 60]).bind fun a11 =>
   ifT a11 (
    (Prim.ev (.scl) [bb false]).bind fun a12 =>
    some [a12]) (
    iter (fun k0 => ar2 fun a12 a13 =>
     (Prim.ev (.len) [a5]).bind fun a14 =>
     (Prim.ev (.bin .lss) [a13, a14]).bind fun a15 =>
     ifT a15 (
      (Prim.ev (.bnd) [a5, a13]).bind fun a16 =>
      (Prim.ev (.cell 1 0) [a5, a13]).bind fun a17 =>
      (Prim.ev (.bin .add) [a13, ii 1]).bind fun a18 =>
      (Prim.ev (.bnd) [a5, a18]).bind fun a19 =>
      (Prim.ev (.cell 1 0) [a5, a18]).bind fun a20 =>
      cl1 (f_s_CostTo [a2, a3, a4, a0, a17, a20]) fun a21 =>
      (Prim.ev (.bin .eql) [a21, ii 0]).bind fun a22 =>
      ifT a22 (
       (Prim.ev (.scl) [bb false]).bind fun a23 =>
       some [a23]) (
       (Prim.ev (.bin .gtr) [a13, ii 0]).bind fun a23 =>
       ifT a23 (
        (Prim.ev (.bin .sub) [a13, ii 2]).bind fun a24 =>
        (Prim.ev (.bnd) [a5, a24]).bind fun a25 =>
        (Prim.ev (.cell 1 0) [a5, a24]).bind fun a26 =>
        (Prim.ev (.bin .gtr) [a26, a17]).bind fun a27 =>
        ifT a27 (
         (Prim.ev (.scl) [bb false]).bind fun a28 =>
         some [a28]) (
         (Prim.ev (.bin .sub) [a13, ii 2]).bind fun a28 =>
         (Prim.ev (.bnd) [a5, a28]).bind fun a29 =>
         (Prim.ev (.cell 1 0) [a5, a28]).bind fun a30 =>
         (Prim.ev (.bin .eql) [a30, a17]).bind fun a31 =>
         ifT a31 (
          (Prim.ev (.bin .sub) [a13, ii 1]).bind fun a32 =>
          (Prim.ev (.bnd) [a5, a32]).bind fun a33 =>
          (Prim.ev (.cell 1 0) [a5, a32]).bind fun a34 =>
          (Prim.ev (.bin .geq) [a34, a20]).bind fun a35 =>
          ifT a35 (
           (Prim.ev (.scl) [bb false]).bind fun a36 =>
           some [a36]) (
           (Prim.ev (.bin .add) [a13, ii 2]).bind fun a36 =>
           k0 [a12, a36])) (
          (Prim.ev (.bin .add) [a13, ii 2]).bind fun a32 =>
          k0 [a12, a32]))) (
        (Prim.ev (.bin .add) [a13, ii 2]).bind fun a24 =>
        k0 [a12, a24]))) (
      (Prim.ev (.scl) [bb true]).bind fun a16 =>
      some [a16])) R [bb false, ii 0]))
theorem gr_s_l08Heard (R : Nat) (f_s_CostTo : Sem1) (a0 a1 a2 a3 a4 a5 a6 : T) : p_s_l08Heard.den (pick [(75, f_s_CostTo)]) R [] [a0, a1, a2, a3, a4, a5, a6] = G_s_l08Heard R f_s_CostTo a0 a1 a2 a3 a4 a5 a6 := (den2_of (by kernel_rfl)).trans (by kernel_rfl)
theorem g_s_l08Heard (a0 a1 a2 a3 a4 a5 a6 : T) : F_s_l08Heard [a0, a1, a2, a3, a4, a5, a6] = G_s_l08Heard rounds F_s_CostTo a0 a1 a2 a3 a4 a5 a6 := gr_s_l08Heard rounds F_s_CostTo a0 a1 a2 a3 a4 a5 a6
def G_s_l04Near (R : Nat) (f_s_l01In : Sem1) (a0 a1 a2 a3 a4 a5 a6 a7 : T) : Option (List T) :=
  iter (fun k0 => ar2 fun a8 a9 =>
   (Prim.ev (.len) [a5]).bind fun a10 =>
   (Prim.ev (.bin .lss) [a9, a10]).bind fun a11 =>
   ifT a11 (
    (Prim.ev (.bnd) [a5, a9]).bind fun a12 =>
    (Prim.ev (.cell 2 0) [a5, a9]).bind fun a13 =>
    (Prim.ev (.cell 2 1) [a5, a9]).bind fun a14 =>
    cl1 (f_s_l01In [a13, ii 1, ii 6]) fun a15 =>
    (Prim.ev (.un .not) [a15]).bind fun a16 =>
    ifT a16 (
     (Prim.ev (.scl) [bb false]).bind fun a17 =>
     some [a17]) (
     (Prim.ev (.bin .eql) [a13, a2]).bind fun a17 =>
     ifT a17 (
      (Prim.ev (.scl) [bb false]).bind fun a18 =>
      some [a18]) (
      cl1 (f_s_l01In [a14, ii 1, ii 1000]) fun a18 =>
      (Prim.ev (.un .not) [a18]).bind fun a19 =>
      ifT a19 (
       (Prim.ev (.scl) [bb false]).bind fun a20 =>
       some [a20]) (
       (Prim.ev (.bin .gtr) [a9, ii 0]).bind fun a20 =>
       ifT a20 (
        (Prim.ev (.bin .sub) [a9, ii 1]).bind fun a21 =>
        (Prim.ev (.bnd) [a5, a21]).bind fun a22 =>
        (Prim.ev (.cell 2 0) [a5, a21]).bind fun a23 =>
        (Prim.ev (.bin .geq) [a23, a13]).bind fun a24 =>
        ifT a24 (
         (Prim.ev (.scl) [bb false]).bind fun a25 =>
         some [a25]) (
         (Prim.ev (.bin .add) [a9, ii 1]).bind fun a25 =>
         k0 [a8, a25])) (
        (Prim.ev (.bin .add) [a9, ii 1]).bind fun a21 =>
        k0 [a8, a21]))))) (
    (Prim.ev (.scl) [bb true]).bind fun a12 =>
    some [a12])) R [bb false, ii 0]
theorem gr_s_l04Near (R : Nat) (f_s_l01In : Sem1) (a0 a1 a2 a3 a4 a5 a6 a7 : T) : p_s_l04Near.den (pick [(40, f_s_l01In)]) R [] [a0, a1, a2, a3, a4, a5, a6, a7] = G_s_l04Near R f_s_l01In a0 a1 a2 a3 a4 a5 a6 a7 := (den2_of (by kernel_rfl)).trans (by kernel_rfl)
theorem g_s_l04Near (a0 a1 a2 a3 a4 a5 a6 a7 : T) : F_s_l04Near [a0, a1, a2, a3, a4, a5, a6, a7] = G_s_l04Near rounds F_s_l01In a0 a1 a2 a3 a4 a5 a6 a7 := gr_s_l04Near rounds F_s_l01In a0 a1 a2 a3 a4 a5 a6 a7
def G_s_RecordOk (R : Nat) (f_s_l01In f_s_l04Near : Sem1) (a0 a1 a2 a3 a4 a5 a6 a7 : T) : Option (List T) :=
  cl1 (f_s_l01In [a2, ii 1, ii 6]) fun a8 =>
  (Prim.ev (.un .not) [a8]).bind fun a9 =>
  ifT a9 (
   (Prim.ev (.scl) [bb false]).bind fun a10 =>
   some [a10]) (
   cl1 (f_s_l01In [a4, ii 1, ii 100000]) fun a10 =>
   (Prim.ev (.un .not) [a10]).bind fun a11 =>
   ifT a11 (
    (Prim.ev (.scl) [bb false]).bind fun a12 =>
    some [a12]) (
    (Prim.ev (.bin .eql) [a1, ii 1]).bind fun a12 =>
    ifT a12 (
     cl1 (f_s_l01In [a0, ii 0, ii 2]) fun a13 =>
     ifT a13 (
      (Prim.ev (.bin .eql) [a3, ii 0]).bind fun a14 =>
      ifT a14 (
       cl1 (f_s_l04Near [a0, a1, a2, a3, a4, a5, a6, a7]) fun a15 =>
       ifT a15 (
        (Prim.ev (.bin .eql) [a6, ii 0]).bind fun a16 =>
        ifT a16 (
         (Prim.ev (.un .not) [a7]).bind fun a17 =>
         (Prim.ev (.scl) [a17]).bind fun a18 =>
         some [a18]) (
         (Prim.ev (.scl) [bb false]).bind fun a17 =>
         some [a17])) (
        (Prim.ev (.scl) [bb false]).bind fun a16 =>
        some [a16])) (
       (Prim.ev (.scl) [bb false]).bind fun a15 =>
       some [a15])) (
      (Prim.ev (.scl) [bb false]).bind fun a14 =>
      some [a14])) (
     (Prim.ev (.bin .eql) [a1, ii 2]).bind fun a13 =>
     ifT a13 (
      cl1 (f_s_l01In [a0, ii 0, ii 2]) fun a14 =>
      ifT a14 (
       cl1 (f_s_l01In [a3, ii 1, ii 6]) fun a15 =>
       ifT a15 (
        (Prim.ev (.len) [a5]).bind fun a16 =>
        (Prim.ev (.bin .eql) [a16, ii 0]).bind fun a17 =>
        ifT a17 (
         cl1 (f_s_l01In [a6, ii 0, ii 60000]) fun a18 =>
         ifT a18 (
          (Prim.ev (.un .not) [a7]).bind fun a19 =>
          (Prim.ev (.scl) [a19]).bind fun a20 =>
          some [a20]) (
          (Prim.ev (.scl) [bb false]).bind fun a19 =>
          some [a19])) (
         (Prim.ev (.scl) [bb false]).bind fun a18 =>
         some [a18])) (
        (Prim.ev (.scl) [bb false]).bind fun a16 =>
        some [a16])) (
       (Prim.ev (.scl) [bb false]).bind fun a15 =>
       some [a15])) (
      (Prim.ev (.bin .eql) [a1, ii 3]).bind fun a14 =>
      ifT a14 (
       (Prim.ev (.bin .eql) [a0, ii 9]).bind fun a15 =>
       ifT a15 (
        cl1 (f_s_l01In [a3, ii 1, ii 9]) fun a16 =>
        ifT a16 (
         (Prim.ev (.len) [a5]).bind fun a17 =>
         (Prim.ev (.bin .eql) [a17, ii 0]).bind fun a18 =>
         ifT a18 (
          cl1 (f_s_l01In [a6, ii 1, ii 1000]) fun a19 =>
          ifT a19 (
           (Prim.ev (.scl) [bb true]).bind fun a20 =>
           some [a20]) (
           (Prim.ev (.bin .eql) [a6, ii 60000]).bind fun a20 =>
           (Prim.ev (.scl) [a20]).bind fun a21 =>
           some [a21])) (
          (Prim.ev (.scl) [bb false]).bind fun a19 =>
          some [a19])) (
         (Prim.ev (.scl) [bb false]).bind fun a17 =>
         some [a17])) (
        (Prim.ev (.scl) [bb false]).bind fun a16 =>
        some [a16])) (
       (Prim.ev (.scl) [bb false]).bind fun a15 =>
       some [a15])))))
theorem gr_s_RecordOk (R : Nat) (f_s_l01In f_s_l04Near : Sem1) (a0 a1 a2 a3 a4 a5 a6 a7 : T) : p_s_RecordOk.den (pick [(40, f_s_l01In), (132, f_s_l04Near)]) R [] [a0, a1, a2, a3, a4, a5, a6, a7] = G_s_RecordOk R f_s_l01In f_s_l04Near a0 a1 a2 a3 a4 a5 a6 a7 := (den2_of (by kernel_rfl)).trans (by kernel_rfl)
theorem g_s_RecordOk (a0 a1 a2 a3 a4 a5 a6 a7 : T) : F_s_RecordOk [a0, a1, a2, a3, a4, a5, a6, a7] = G_s_RecordOk rounds F_s_l01In F_s_l04Near a0 a1 a2 a3 a4 a5 a6 a7 := gr_s_RecordOk rounds F_s_l01In F_s_l04Near a0 a1 a2 a3 a4 a5 a6 a7
def G_s_Before (R : Nat) (a0 a1 a2 a3 a4 a5 a6 a7 a8 a9 a10 a11 a12 a13 a14 a15 : T) : Option (List T) :=
  (Prim.ev (.bin .neq) [a0, a8]).bind fun a16 =>
  ifT a16 (
   (Prim.ev (.bin .lss) [a0, a8]).bind fun a17 =>
   (Prim.ev (.scl) [a17]).bind fun a18 =>
   some [a18]) (
   (Prim.ev (.bin .neq) [a1, a9]).bind fun a17 =>
   ifT a17 (
    (Prim.ev (.bin .lss) [a1, a9]).bind fun a18 =>
    (Prim.ev (.scl) [a18]).bind fun a19 =>
    some [a19]) (
    (Prim.ev (.bin .neq) [a2, a10]).bind fun a18 =>
    ifT a18 (
     (Prim.ev (.bin .lss) [a2, a10]).bind fun a19 =>
     (Prim.ev (.scl) [a19]).bind fun a20 =>
     some [a20]) (
     (Prim.ev (.bin .lss) [a3, a11]).bind fun a19 =>
     (Prim.ev (.scl) [a19]).bind fun a20 =>
     some [a20])))
theorem gr_s_Before (R : Nat) (a0 a1 a2 a3 a4 a5 a6 a7 a8 a9 a10 a11 a12 a13 a14 a15 : T) : p_s_Before.den (pick []) R [] [a0, a1, a2, a3, a4, a5, a6, a7, a8, a9, a10, a11, a12, a13, a14, a15] = G_s_Before R a0 a1 a2 a3 a4 a5 a6 a7 a8 a9 a10 a11 a12 a13 a14 a15 := (den2_of (by kernel_rfl)).trans (by kernel_rfl)
theorem g_s_Before (a0 a1 a2 a3 a4 a5 a6 a7 a8 a9 a10 a11 a12 a13 a14 a15 : T) : F_s_Before [a0, a1, a2, a3, a4, a5, a6, a7, a8, a9, a10, a11, a12, a13, a14, a15] = G_s_Before rounds a0 a1 a2 a3 a4 a5 a6 a7 a8 a9 a10 a11 a12 a13 a14 a15 := gr_s_Before rounds a0 a1 a2 a3 a4 a5 a6 a7 a8 a9 a10 a11 a12 a13 a14 a15
def G_s_StoreOk (R : Nat) (f_s_RecordOk f_s_Before : Sem1) (a0 : T) : Option (List T) :=
  (Prim.ev (.len) [a0]).bind fun a1 =>
  (Prim.ev (.bin .gtr) [a1, ii 150]).bind fun a2 =>
  ifT a2 (
   (Prim.ev (.scl) [bb false]).bind fun a3 =>
   some [a3]) (
   iter (fun k0 => ar2 fun a3 a4 =>
    (Prim.ev (.len) [a0]).bind fun a5 =>
    (Prim.ev (.bin .lss) [a4, a5]).bind fun a6 =>
    ifT a6 (
     (Prim.ev (.bnd) [a0, a4]).bind fun a7 =>
     (Prim.ev (.cell 8 0) [a0, a4]).bind fun a8 =>
     (Prim.ev (.cell 8 1) [a0, a4]).bind fun a9 =>
     (Prim.ev (.cell 8 2) [a0, a4]).bind fun a10 =>
     (Prim.ev (.cell 8 3) [a0, a4]).bind fun a11 =>
     (Prim.ev (.cell 8 4) [a0, a4]).bind fun a12 =>
     (Prim.ev (.cell 8 5) [a0, a4]).bind fun a13 =>
     (Prim.ev (.cell 8 6) [a0, a4]).bind fun a14 =>
     (Prim.ev (.cell 8 7) [a0, a4]).bind fun a15 =>
     cl1 (f_s_RecordOk [a8, a9, a10, a11, a12, a13, a14, a15]) fun a16 =>
     (Prim.ev (.un .not) [a16]).bind fun a17 =>
     ifT a17 (
      (Prim.ev (.scl) [bb false]).bind fun a18 =>
      some [a18]) (
      (Prim.ev (.bin .gtr) [a4, ii 0]).bind fun a18 =>
      ifT a18 (
       (Prim.ev (.bin .sub) [a4, ii 1]).bind fun a19 =>
       (Prim.ev (.bnd) [a0, a19]).bind fun a20 =>
       (Prim.ev (.cell 8 0) [a0, a19]).bind fun a21 =>
       (Prim.ev (.cell 8 1) [a0, a19]).bind fun a22 =>
       (Prim.ev (.cell 8 2) [a0, a19]).bind fun a23 =>
       (Prim.ev (.cell 8 3) [a0, a19]).bind fun a24 =>
       (Prim.ev (.cell 8 4) [a0, a19]).bind fun a25 =>
       (Prim.ev (.cell 8 5) [a0, a19]).bind fun a26 =>
       (Prim.ev (.cell 8 6) [a0, a19]).bind fun a27 =>
       (Prim.ev (.cell 8 7) [a0, a19]).bind fun a28 =>
       (Prim.ev (.bnd) [a0, a4]).bind fun a29 =>
       (Prim.ev (.cell 8 0) [a0, a4]).bind fun a30 =>
       (Prim.ev (.cell 8 1) [a0, a4]).bind fun a31 =>
       (Prim.ev (.cell 8 2) [a0, a4]).bind fun a32 =>
       (Prim.ev (.cell 8 3) [a0, a4]).bind fun a33 =>
       (Prim.ev (.cell 8 4) [a0, a4]).bind fun a34 =>
       (Prim.ev (.cell 8 5) [a0, a4]).bind fun a35 =>
       (Prim.ev (.cell 8 6) [a0, a4]).bind fun a36 =>
       (Prim.ev (.cell 8 7) [a0, a4]).bind fun a37 =>
       cl1 (f_s_Before [a21, a22, a23, a24, a25, a26, a27, a28, a30, a31, a32, a33, a34, a35, a36, a37]) fun a38 =>
       (Prim.ev (.un .not) [a38]).bind fun a39 =>
       ifT a39 (
        (Prim.ev (.scl) [bb false]).bind fun a40 =>
        some [a40]) (
        (Prim.ev (.bin .add) [a4, ii 1]).bind fun a40 =>
        k0 [a3, a40])) (
       (Prim.ev (.bin .add) [a4, ii 1]).bind fun a19 =>
       k0 [a3, a19]))) (
     (Prim.ev (.scl) [bb true]).bind fun a7 =>
     some [a7])) R [bb false, ii 0])
theorem gr_s_StoreOk (R : Nat) (f_s_RecordOk f_s_Before : Sem1) (a0 : T) : p_s_StoreOk.den (pick [(96, f_s_RecordOk), (97, f_s_Before)]) R [] [a0] = G_s_StoreOk R f_s_RecordOk f_s_Before a0 := (den2_of (by kernel_rfl)).trans (by kernel_rfl)
theorem g_s_StoreOk (a0 : T) : F_s_StoreOk [a0] = G_s_StoreOk rounds F_s_RecordOk F_s_Before a0 := gr_s_StoreOk rounds F_s_RecordOk F_s_Before a0
def G_s_SelfOk (R : Nat) (f_s_StoreOk f_s_l01In f_s_NetOk f_s_l08Heard : Sem1) (a0 a1 a2 a3 a4 a5 a6 : T) : Option (List T) :=
  cl1 (f_s_NetOk [a2, a3, a4]) fun a7 =>
  ifT a7 (
   cl1 (f_s_l01In [a0, ii 1, a2]) fun a8 =>
   ifT a8 (
    cl1 (f_s_l01In [a1, ii 0, ii 90]) fun a9 =>
    ifT a9 (
     cl1 (f_s_l08Heard [a0, a1, a2, a3, a4, a5, a6]) fun a10 =>
     ifT a10 (
      cl1 (f_s_StoreOk [a6]) fun a11 =>
      (Prim.ev (.scl) [a11]).bind fun a12 =>
      some [a12]) (
      (Prim.ev (.scl) [bb false]).bind fun a11 =>
      some [a11])) (
     (Prim.ev (.scl) [bb false]).bind fun a10 =>
     some [a10])) (
    (Prim.ev (.scl) [bb false]).bind fun a9 =>
    some [a9])) (
   (Prim.ev (.scl) [bb false]).bind fun a8 =>
   some [a8])
theorem gr_s_SelfOk (R : Nat) (f_s_StoreOk f_s_l01In f_s_NetOk f_s_l08Heard : Sem1) (a0 a1 a2 a3 a4 a5 a6 : T) : p_s_SelfOk.den (pick [(39, f_s_StoreOk), (40, f_s_l01In), (122, f_s_NetOk), (123, f_s_l08Heard)]) R [] [a0, a1, a2, a3, a4, a5, a6] = G_s_SelfOk R f_s_StoreOk f_s_l01In f_s_NetOk f_s_l08Heard a0 a1 a2 a3 a4 a5 a6 := (den2_of (by kernel_rfl)).trans (by kernel_rfl)
theorem g_s_SelfOk (a0 a1 a2 a3 a4 a5 a6 : T) : F_s_SelfOk [a0, a1, a2, a3, a4, a5, a6] = G_s_SelfOk rounds F_s_StoreOk F_s_l01In F_s_NetOk F_s_l08Heard a0 a1 a2 a3 a4 a5 a6 := gr_s_SelfOk rounds F_s_StoreOk F_s_l01In F_s_NetOk F_s_l08Heard a0 a1 a2 a3 a4 a5 a6
def G_s_l10Heard (R : Nat) (a0 : T) : Option (List T) :=
  (Prim.ev (.lit 1 []) []).bind fun a1 =>
  iter (fun k0 => ar2 fun a2 a3 =>
   (Prim.ev (.len) [a0]).bind fun a4 =>
   (Prim.ev (.bin .lss) [a3, a4]).bind fun a5 =>
   ifT a5 (
    (Prim.ev (.bnd) [a0, a3]).bind fun a6 =>
    (Prim.ev (.cell 4 3) [a0, a3]).bind fun a7 =>
    jn (ar1 fun a8 =>
     (Prim.ev (.bin .add) [a3, ii 1]).bind fun a9 =>
     k0 [a8, a9]) fun k1 =>
     ifT a7 (
      (Prim.ev (.bnd) [a0, a3]).bind fun a8 =>
      (Prim.ev (.cell 4 0) [a0, a3]).bind fun a9 =>
      (Prim.ev (.bnd) [a0, a3]).bind fun a10 =>
      (Prim.ev (.cell 4 1) [a0, a3]).bind fun a11 =>
      (Prim.ev (.lit 1 [true, true]) [a9, a11]).bind fun a12 =>
      (Prim.ev (.app true 1) [a2, a12]).bind fun a13 =>
      k1 [a13]) (
      k1 [a2])) (
    some [a2])) R [a1, ii 0]
theorem gr_s_l10Heard (R : Nat) (a0 : T) : p_s_l10Heard.den (pick []) R [] [a0] = G_s_l10Heard R a0 := (den2_of (by kernel_rfl)).trans (by kernel_rfl)
theorem g_s_l10Heard (a0 : T) : F_s_l10Heard [a0] = G_s_l10Heard rounds a0 := gr_s_l10Heard rounds a0
def G_s_l10SameInts (R : Nat) (a0 a1 : T) : Option (List T) :=
  (Prim.ev (.len) [a0]).bind fun a2 =>
  (Prim.ev (.len) [a1]).bind fun a3 =>
  (Prim.ev (.bin .neq) [a2, a3]).bind fun a4 =>
  ifT a4 (
   (Prim.ev (.scl) [bb false]).bind fun a5 =>
   some [a5]) (
   iter (fun k0 => ar2 fun a5 a6 =>
    (Prim.ev (.len) [a0]).bind fun a7 =>
    (Prim.ev (.bin .lss) [a6, a7]).bind fun a8 =>
    ifT a8 (
     (Prim.ev (.bnd) [a0, a6]).bind fun a9 =>
     (Prim.ev (.cell 1 0) [a0, a6]).bind fun a10 =>
     (Prim.ev (.bnd) [a1, a6]).bind fun a11 =>
     (Prim.ev (.cell 1 0) [a1, a6]).bind fun a12 =>
     (Prim.ev (.bin .neq) [a10, a12]).bind fun a13 =>
     ifT a13 (
      (Prim.ev (.scl) [bb false]).bind fun a14 =>
      some [a14]) (
      (Prim.ev (.bin .add) [a6, ii 1]).bind fun a14 =>
      k0 [a5, a14])) (
     (Prim.ev (.scl) [bb true]).bind fun a9 =>
     some [a9])) R [bb false, ii 0])
theorem gr_s_l10SameInts (R : Nat) (a0 a1 : T) : p_s_l10SameInts.den (pick []) R [] [a0, a1] = G_s_l10SameInts R a0 a1 := (den2_of (by kernel_rfl)).trans (by kernel_rfl)
theorem g_s_l10SameInts (a0 a1 : T) : F_s_l10SameInts [a0, a1] = G_s_l10SameInts rounds a0 a1 := gr_s_l10SameInts rounds a0 a1
def G_s_NodeOk (R : Nat) (f_s_l01In f_s_SelfOk f_s_CostTo f_s_l10SameInts f_s_l10Heard : Sem1) (a0 a1 a2 a3 a4 a5 a6 a7 : T) : Option (List T) :=
  cl1 (f_s_SelfOk [a0, a1, a2, a3, a4, a5, a6]) fun a8 =>
  (Prim.ev (.un .not) [a8]).bind fun a9 =>
  ifT a9 (
   (Prim.ev (.scl) [bb false]).bind fun a10 =>
   some [a10]) (
   iter (fun k0 => ar3 fun a10 a11 a12 =>
    (Prim.ev (.bin .leq) [a12, a2]).bind fun a13 =>
    ifT a13 (
     iter (fun k1 => ar3 fun a14 a15 a16 =>
      (Prim.ev (.bin .leq) [a16, ii 2]).bind fun a17 =>
      ifT a17 (
       cl1 (f_s_CostTo [a2, a3, a4, a0, a12, a16]) fun a18 =>
       (Prim.ev (.bin .eql) [a18, ii 0]).bind fun a19 =>
       ifT a19 (
        (Prim.ev (.bin .add) [a16, ii 1]).bind fun a20 =>
        k1 [a14, a15, a20]) (
        (Prim.ev (.len) [a7]).bind fun a20 =>
        (Prim.ev (.bin .geq) [a15, a20]).bind fun a21 =>
        ifT a21 (
         (Prim.ev (.scl) [bb false]).bind fun a22 =>
         some [a22]) (
         (Prim.ev (.bnd) [a7, a15]).bind fun a22 =>
         (Prim.ev (.cell 4 0) [a7, a15]).bind fun a23 =>
         (Prim.ev (.bin .neq) [a23, a12]).bind fun a24 =>
         ifT a24 (
          (Prim.ev (.scl) [bb false]).bind fun a25 =>
          some [a25]) (
          (Prim.ev (.bnd) [a7, a15]).bind fun a25 =>
          (Prim.ev (.cell 4 1) [a7, a15]).bind fun a26 =>
          (Prim.ev (.bin .neq) [a26, a16]).bind fun a27 =>
          ifT a27 (
           (Prim.ev (.scl) [bb false]).bind fun a28 =>
           some [a28]) (
           (Prim.ev (.bnd) [a7, a15]).bind fun a28 =>
           (Prim.ev (.cell 4 2) [a7, a15]).bind fun a29 =>
           cl1 (f_s_l01In [a29, ii 0, ii 3]) fun a30 =>
           (Prim.ev (.un .not) [a30]).bind fun a31 =>
           ifT a31 (
            (Prim.ev (.scl) [bb false]).bind fun a32 =>
            some [a32]) (
            (Prim.ev (.bnd) [a7, a15]).bind fun a32 =>
            (Prim.ev (.cell 4 3) [a7, a15]).bind fun a33 =>
            ifT a33 (
             (Prim.ev (.bnd) [a7, a15]).bind fun a34 =>
             (Prim.ev (.cell 4 2) [a7, a15]).bind fun a35 =>
             (Prim.ev (.bin .eql) [a35, ii 0]).bind fun a36 =>
             ifT a36 (
              (Prim.ev (.scl) [bb false]).bind fun a37 =>
              some [a37]) (
              (Prim.ev (.bin .add) [a15, ii 1]).bind fun a37 =>
              (Prim.ev (.bin .add) [a16, ii 1]).bind fun a38 =>
              k1 [a14, a37, a38])) (
             (Prim.ev (.bin .add) [a15, ii 1]).bind fun a34 =>
             (Prim.ev (.bin .add) [a16, ii 1]).bind fun a35 =>
             k1 [a14, a34, a35]))))))) (
       (Prim.ev (.bin .add) [a12, ii 1]).bind fun a18 =>
       k0 [a14, a15, a18])) R [a10, a11, ii 0]) (
     (Prim.ev (.len) [a7]).bind fun a14 =>
     (Prim.ev (.bin .eql) [a11, a14]).bind fun a15 =>
     ifT a15 (
      cl1 (f_s_l10Heard [a7]) fun a16 =>
      cl1 (f_s_l10SameInts [a5, a16]) fun a17 =>
      (Prim.ev (.scl) [a17]).bind fun a18 =>
      some [a18]) (
      (Prim.ev (.scl) [bb false]).bind fun a16 =>
      some [a16]))) R [bb false, ii 0, ii 1])
theorem gr_s_NodeOk (R : Nat) (f_s_l01In f_s_SelfOk f_s_CostTo f_s_l10SameInts f_s_l10Heard : Sem1) (a0 a1 a2 a3 a4 a5 a6 a7 : T) : p_s_NodeOk.den (pick [(40, f_s_l01In), (74, f_s_SelfOk), (75, f_s_CostTo), (76, f_s_l10SameInts), (77, f_s_l10Heard)]) R [] [a0, a1, a2, a3, a4, a5, a6, a7] = G_s_NodeOk R f_s_l01In f_s_SelfOk f_s_CostTo f_s_l10SameInts f_s_l10Heard a0 a1 a2 a3 a4 a5 a6 a7 := (den2_of (by kernel_rfl)).trans (by kernel_rfl)
theorem g_s_NodeOk (a0 a1 a2 a3 a4 a5 a6 a7 : T) : F_s_NodeOk [a0, a1, a2, a3, a4, a5, a6, a7] = G_s_NodeOk rounds F_s_l01In F_s_SelfOk F_s_CostTo F_s_l10SameInts F_s_l10Heard a0 a1 a2 a3 a4 a5 a6 a7 := gr_s_NodeOk rounds F_s_l01In F_s_SelfOk F_s_CostTo F_s_l10SameInts F_s_l10Heard a0 a1 a2 a3 a4 a5 a6 a7
def G_i_LinkOk (R : Nat) (f_i_in : Sem1) (a0 a1 a2 a3 a4 : T) : Option (List T) :=
  cl1 (f_i_in [a0, ii 1, ii 6]) fun a5 =>
  ifT a5 (
   cl1 (f_i_in [a1, ii 1, a0]) fun a6 =>
   ifT a6 (
    cl1 (f_i_in [a2, ii 1, a0]) fun a7 =>
    ifT a7 (
     (Prim.ev (.bin .lss) [a1, a2]).bind fun a8 =>
     ifT a8 (
      cl1 (f_i_in [a3, ii 1, ii 1000]) fun a9 =>
      ifT a9 (
       cl1 (f_i_in [a4, ii 0, ii 2]) fun a10 =>
       (Prim.ev (.scl) [a10]).bind fun a11 =>
       some [a11]) (
       (Prim.ev (.scl) [bb false]).bind fun a10 =>
       some [a10])) (
      (Prim.ev (.scl) [bb false]).bind fun a9 =>
      some [a9])) (
     (Prim.ev (.scl) [bb false]).bind fun a8 =>
     some [a8])) (
    (Prim.ev (.scl) [bb false]).bind fun a7 =>
    some [a7])) (
   (Prim.ev (.scl) [bb false]).bind fun a6 =>
   some [a6])
theorem gr_i_LinkOk (R : Nat) (f_i_in : Sem1) (a0 a1 a2 a3 a4 : T) : p_i_LinkOk.den (pick [(45, f_i_in)]) R [] [a0, a1, a2, a3, a4] = G_i_LinkOk R f_i_in a0 a1 a2 a3 a4 := (den2_of (by kernel_rfl)).trans (by kernel_rfl)
theorem g_i_LinkOk (a0 a1 a2 a3 a4 : T) : F_i_LinkOk [a0, a1, a2, a3, a4] = G_i_LinkOk rounds F_i_in a0 a1 a2 a3 a4 := gr_i_LinkOk rounds F_i_in a0 a1 a2 a3 a4
def G_i_ahead (R : Nat) (a0 a1 a2 a3 a4 a5 a6 a7 : T) : Option (List T) :=
  (Prim.ev (.bin .neq) [a0, a4]).bind fun a8 =>
  ifT a8 (
   (Prim.ev (.bin .lss) [a0, a4]).bind fun a9 =>
   (Prim.ev (.scl) [a9]).bind fun a10 =>
   some [a10]) (
   (Prim.ev (.bin .neq) [a1, a5]).bind fun a9 =>
   ifT a9 (
    (Prim.ev (.bin .lss) [a1, a5]).bind fun a10 =>
    (Prim.ev (.scl) [a10]).bind fun a11 =>
    some [a11]) (
    (Prim.ev (.bin .lss) [a3, a7]).bind fun a10 =>
    (Prim.ev (.scl) [a10]).bind fun a11 =>
    some [a11]))
theorem gr_i_ahead (R : Nat) (a0 a1 a2 a3 a4 a5 a6 a7 : T) : p_i_ahead.den (pick []) R [] [a0, a1, a2, a3, a4, a5, a6, a7] = G_i_ahead R a0 a1 a2 a3 a4 a5 a6 a7 := (den2_of (by kernel_rfl)).trans (by kernel_rfl)
theorem g_i_ahead (a0 a1 a2 a3 a4 a5 a6 a7 : T) : F_i_ahead [a0, a1, a2, a3, a4, a5, a6, a7] = G_i_ahead rounds a0 a1 a2 a3 a4 a5 a6 a7 := gr_i_ahead rounds a0 a1 a2 a3 a4 a5 a6 a7
def G_i_less (R : Nat) (a0 a1 a2 a3 a4 a5 a6 a7 : T) : Option (List T) :=
  (Prim.ev (.bin .lss) [a1, a5]).bind fun a8 =>
  ifT a8 (
   (Prim.ev (.scl) [bb true]).bind fun a9 =>
   some [a9]) (
   (Prim.ev (.bin .eql) [a1, a5]).bind fun a9 =>
   ifT a9 (
    (Prim.ev (.bin .lss) [a0, a4]).bind fun a10 =>
    (Prim.ev (.scl) [a10]).bind fun a11 =>
    some [a11]) (
    (Prim.ev (.scl) [bb false]).bind fun a10 =>
    some [a10]))
theorem gr_i_less (R : Nat) (a0 a1 a2 a3 a4 a5 a6 a7 : T) : p_i_less.den (pick []) R [] [a0, a1, a2, a3, a4, a5, a6, a7] = G_i_less R a0 a1 a2 a3 a4 a5 a6 a7 := (den2_of (by kernel_rfl)).trans (by kernel_rfl)
theorem g_i_less (a0 a1 a2 a3 a4 a5 a6 a7 : T) : F_i_less [a0, a1, a2, a3, a4, a5, a6, a7] = G_i_less rounds a0 a1 a2 a3 a4 a5 a6 a7 := gr_i_less rounds a0 a1 a2 a3 a4 a5 a6 a7
def G_i_NetOk (R : Nat) (f_i_in f_i_LinkOk f_i_ahead f_i_less : Sem1) (a0 a1 a2 : T) : Option (List T) :=
  cl1 (f_i_in [a0, ii 1, ii 6]) fun a3 =>
  (Prim.ev (.un .not) [a3]).bind fun a4 =>
  ifT a4 (
   (Prim.ev (.scl) [bb false]).bind fun a5 =>
   some [a5]) (
   (Prim.ev (.len) [a1]).bind fun a5 =>
   (Prim.ev (.bin .gtr) [a5, ii 12]).bind fun a6 =>
   ifT a6 (
    (Prim.ev (.scl) [bb false]).bind fun a7 =>
    some [a7]) (
    (Prim.ev (.len) [a2]).bind fun a7 =>
    (Prim.ev (.bin .gtr) [a7, ii 4]).bind fun a8 =>
    ifT a8 (
     (Prim.ev (.scl) [bb false]).bind fun a9 =>
     some [a9]) (
     (Prim.ev (.len) [a1]).bind fun a9 =>
     iter (fun k0 => ar2 fun a10 a11 =>
      (Prim.ev (.bin .lss) [a11, a9]).bind fun a12 =>
      ifT a12 (
       (Prim.ev (.bnd) [a1, a11]).bind fun a13 =>
       (Prim.ev (.cell 4 0) [a1, a11]).bind fun a14 =>
       (Prim.ev (.cell 4 1) [a1, a11]).bind fun a15 =>
       (Prim.ev (.cell 4 2) [a1, a11]).bind fun a16 =>
       (Prim.ev (.cell 4 3) [a1, a11]).bind fun a17 =>
       cl1 (f_i_LinkOk [a0, a14, a15, a16, a17]) fun a18 =>
       (Prim.ev (.un .not) [a18]).bind fun a19 =>
       ifT a19 (
        (Prim.ev (.scl) [bb false]).bind fun a20 =>
        some [a20]) (
        (Prim.ev (.bin .gtr) [a11, ii 0]).bind fun a20 =>
        ifT a20 (
         (Prim.ev (.bin .sub) [a11, ii 1]).bind fun a21 =>
         (Prim.ev (.bnd) [a1, a21]).bind fun a22 =>
         (Prim.ev (.cell 4 0) [a1, a21]).bind fun a23 =>
         (Prim.ev (.cell 4 1) [a1, a21]).bind fun a24 =>
         (Prim.ev (.cell 4 2) [a1, a21]).bind fun a25 =>
         (Prim.ev (.cell 4 3) [a1, a21]).bind fun a26 =>
         cl1 (f_i_ahead [a23, a24, a25, a26, a14, a15, a16, a17]) fun a27 =>
         (Prim.ev (.un .not) [a27]).bind fun a28 =>
         ifT a28 (
          (Prim.ev (.scl) [bb false]).bind fun a29 =>
          some [a29]) (
          (Prim.ev (.bin .add) [a11, ii 1]).bind fun a29 =>
          k0 [a10, a29])) (
         (Prim.ev (.bin .add) [a11, ii 1]).bind fun a21 =>
         k0 [a10, a21]))) (
       (Prim.ev (.len) [a2]).bind fun a13 =>
       iter (fun k1 => ar2 fun a14 a15 =>
        (Prim.ev (.bin .lss) [a15, a13]).bind fun a16 =>
        ifT a16 (
         (Prim.ev (.bnd) [a2, a15]).bind fun a17 =>
         (Prim.ev (.cell 4 0) [a2, a15]).bind fun a18 =>
         (Prim.ev (.cell 4 1) [a2, a15]).bind fun a19 =>
         (Prim.ev (.cell 4 2) [a2, a15]).bind fun a20 =>
         (Prim.ev (.cell 4 3) [a2, a15]).bind fun a21 =>
         cl1 (f_i_in [a19, ii 1, ii 9]) fun a22 =>
         (Prim.ev (.un .not) [a22]).bind fun a23 =>
         ifT a23 (
          (Prim.ev (.scl) [bb false]).bind fun a24 =>
          some [a24]) (
          cl1 (f_i_in [a18, ii 1, a0]) fun a24 =>
          (Prim.ev (.un .not) [a24]).bind fun a25 =>
          ifT a25 (
           (Prim.ev (.scl) [bb false]).bind fun a26 =>
           some [a26]) (
           cl1 (f_i_in [a20, ii 1, ii 1000]) fun a26 =>
           (Prim.ev (.un .not) [a26]).bind fun a27 =>
           ifT a27 (
            (Prim.ev (.scl) [bb false]).bind fun a28 =>
            some [a28]) (
            (Prim.ev (.bin .gtr) [a15, ii 0]).bind fun a28 =>
            ifT a28 (
             (Prim.ev (.bin .sub) [a15, ii 1]).bind fun a29 =>
             (Prim.ev (.bnd) [a2, a29]).bind fun a30 =>
             (Prim.ev (.cell 4 0) [a2, a29]).bind fun a31 =>
             (Prim.ev (.cell 4 1) [a2, a29]).bind fun a32 =>
             (Prim.ev (.cell 4 2) [a2, a29]).bind fun a33 =>
             (Prim.ev (.cell 4 3) [a2, a29]).bind fun a34 =>
             cl1 (f_i_less [a31, a32, a33, a34, a18, a19, a20, a21]) fun a35 =>
             (Prim.ev (.un .not) [a35]).bind fun a36 =>
             ifT a36 (
              (Prim.ev (.scl) [bb false]).bind fun a37 =>
              some [a37]) (
              (Prim.ev (.bin .add) [a15, ii 1]).bind fun a37 =>
              k1 [a14, a37])) (
             (Prim.ev (.bin .add) [a15, ii 1]).bind fun a29 =>
             k1 [a14, a29]))))) (
         (Prim.ev (.scl) [bb true]).bind fun a17 =>
         some [a17])) R [a10, ii 0])) R [bb false, ii 0])))
theorem gr_i_NetOk (R : Nat) (f_i_in f_i_LinkOk f_i_ahead f_i_less : Sem1) (a0 a1 a2 : T) : p_i_NetOk.den (pick [(45, f_i_in), (145, f_i_LinkOk), (146, f_i_ahead), (147, f_i_less)]) R [] [a0, a1, a2] = G_i_NetOk R f_i_in f_i_LinkOk f_i_ahead f_i_less a0 a1 a2 := (den2_of (by kernel_rfl)).trans (by kernel_rfl)
theorem g_i_NetOk (a0 a1 a2 : T) : F_i_NetOk [a0, a1, a2] = G_i_NetOk rounds F_i_in F_i_LinkOk F_i_ahead F_i_less a0 a1 a2 := gr_i_NetOk rounds F_i_in F_i_LinkOk F_i_ahead F_i_less a0 a1 a2
def G_i_linkAt (R : Nat) (a0 a1 a2 a3 a4 a5 : T) : Option (List T) :=
  (Prim.ev (.len) [a1]).bind fun a6 =>
  iter (fun k0 => ar2 fun a7 a8 =>
   (Prim.ev (.bin .lss) [a8, a6]).bind fun a9 =>
   ifT a9 (
    (Prim.ev (.bnd) [a1, a8]).bind fun a10 =>
    (Prim.ev (.cell 4 0) [a1, a8]).bind fun a11 =>
    (Prim.ev (.cell 4 1) [a1, a8]).bind fun a12 =>
    (Prim.ev (.cell 4 2) [a1, a8]).bind fun a13 =>
    (Prim.ev (.cell 4 3) [a1, a8]).bind fun a14 =>
    (Prim.ev (.bin .eql) [a14, a5]).bind fun a15 =>
    ifT a15 (
     (Prim.ev (.bin .eql) [a11, a3]).bind fun a16 =>
     ifT a16 (
      (Prim.ev (.bin .eql) [a12, a4]).bind fun a17 =>
      ifT a17 (
       (Prim.ev (.scl) [a8]).bind fun a18 =>
       some [a18]) (
       (Prim.ev (.bin .eql) [a11, a4]).bind fun a18 =>
       ifT a18 (
        (Prim.ev (.bin .eql) [a12, a3]).bind fun a19 =>
        ifT a19 (
         (Prim.ev (.scl) [a8]).bind fun a20 =>
         some [a20]) (
         (Prim.ev (.bin .add) [a8, ii 1]).bind fun a20 =>
         k0 [a7, a20])) (
        (Prim.ev (.bin .add) [a8, ii 1]).bind fun a19 =>
        k0 [a7, a19]))) (
      (Prim.ev (.bin .eql) [a11, a4]).bind fun a17 =>
      ifT a17 (
       (Prim.ev (.bin .eql) [a12, a3]).bind fun a18 =>
       ifT a18 (
        (Prim.ev (.scl) [a8]).bind fun a19 =>
        some [a19]) (
        (Prim.ev (.bin .add) [a8, ii 1]).bind fun a19 =>
        k0 [a7, a19])) (
       (Prim.ev (.bin .add) [a8, ii 1]).bind fun a18 =>
       k0 [a7, a18]))) (
     (Prim.ev (.bin .add) [a8, ii 1]).bind fun a16 =>
     k0 [a7, a16])) (
    (Prim.ev (.scl) [ii (-1)]).bind fun a10 =>
    some [a10])) R [ii 0, ii 0]
theorem gr_i_linkAt (R : Nat) (a0 a1 a2 a3 a4 a5 : T) : p_i_linkAt.den (pick []) R [] [a0, a1, a2, a3, a4, a5] = G_i_linkAt R a0 a1 a2 a3 a4 a5 := (den2_of (by kernel_rfl)).trans (by kernel_rfl)
theorem g_i_linkAt (a0 a1 a2 a3 a4 a5 : T) : F_i_linkAt [a0, a1, a2, a3, a4, a5] = G_i_linkAt rounds a0 a1 a2 a3 a4 a5 := gr_i_linkAt rounds a0 a1 a2 a3 a4 a5
def G_i_heardOk (R : Nat) (f_i_linkAt : Sem1) (a0 a1 a2 a3 a4 a5 a6 : T) : Option (List T) :=
  (Prim.ev (.len) [a5]).bind fun a7 =>
  (Prim.ev (.bin .rem) [a7, ii 2]).bind fun a8 =>
  (Prim.ev (.bin .neq) [a8, ii 0]).bind fun a9 =>
  ifT a9 (
   (Prim.ev (.scl) [bb false]).bind fun a10 =>
   some [a10]) (
   iter (fun k0 => ar2 fun a10 a11 =>
    (Prim.ev (.len) [a5]).bind fun a12 =>
    (Prim.ev (.bin .lss) [a11, a12]).bind fun a13 =>
    ifT a13 (
     (Prim.ev (.bnd) [a5, a11]).bind fun a14 =>
     (Prim.ev (.cell 1 0) [a5, a11]).bind fun a15 =>
     (Prim.ev (.bin .add) [a11, ii 1]).bind fun a16 =>
     (Prim.ev (.bnd) [a5, a16]).bind fun a17 =>
     (Prim.ev (.cell 1 0) [a5, a16]).bind fun a18 =>
     cl1 (f_i_linkAt [a2, a3, a4, a0, a15, a18]) fun a19 =>
     (Prim.ev (.bin .lss) [a19, ii 0]).bind fun a20 =>
     ifT a20 (
      (Prim.ev (.scl) [bb false]).bind fun a21 =>
      some [a21]) (
      (Prim.ev (.bin .gtr) [a11, ii 0]).bind fun a21 =>
      ifT a21 (
       (Prim.ev (.bin .sub) [a11, ii 2]).bind fun a22 =>
       (Prim.ev (.bnd) [a5, a22]).bind fun a23 =>
       (Prim.ev (.cell 1 0) [a5, a22]).bind fun a24 =>
       (Prim.ev (.bin .gtr) [a24, a15]).bind fun a25 =>
       ifT a25 (
        (Prim.ev (.scl) [bb false]).bind fun a26 =>
        some [a26]) (
        (Prim.ev (.bin .sub) [a11, ii 2]).bind fun a26 =>
        (Prim.ev (.bnd) [a5, a26]).bind fun a27 =>
        (Prim.ev (.cell 1 0) [a5, a26]).bind fun a28 =>
        (Prim.ev (.bin .eql) [a28, a15]).bind fun a29 =>
        ifT a29 (
         (Prim.ev (.bin .sub) [a11, ii 1]).bind fun a30 =>
         (Prim.ev (.bnd) [a5, a30]).bind fun a31 =>
         (Prim.ev (.cell 1 0) [a5, a30]).bind fun a32 =>
         (Prim.ev (.bin .geq) [a32, a18]).bind fun a33 =>
         ifT a33 (
          (Prim.ev (.scl) [bb false]).bind fun a34 =>
          some [a34]) (
          (Prim.ev (.bin .add) [a11, ii 2]).bind fun a34 =>
          k0 [a10, a34])) (
         (Prim.ev (.bin .add) [a11, ii 2]).bind fun a30 =>
         k0 [a10, a30]))) (
       (Prim.ev (.bin .add) [a11, ii 2]).bind fun a22 =>
       k0 [a10, a22]))) (
     (Prim.ev (.scl) [bb true]).bind fun a14 =>
     some [a14])) R [bb false, ii 0])
theorem gr_i_heardOk (R : Nat) (f_i_linkAt : Sem1) (a0 a1 a2 a3 a4 a5 a6 : T) : p_i_heardOk.den (pick [(127, f_i_linkAt)]) R [] [a0, a1, a2, a3, a4, a5, a6] = G_i_heardOk R f_i_linkAt a0 a1 a2 a3 a4 a5 a6 := (den2_of (by kernel_rfl)).trans (by kernel_rfl)
theorem g_i_heardOk (a0 a1 a2 a3 a4 a5 a6 : T) : F_i_heardOk [a0, a1, a2, a3, a4, a5, a6] = G_i_heardOk rounds F_i_linkAt a0 a1 a2 a3 a4 a5 a6 := gr_i_heardOk rounds F_i_linkAt a0 a1 a2 a3 a4 a5 a6
def G_i_nearOk (R : Nat) (f_i_in : Sem1) (a0 a1 a2 a3 a4 a5 a6 a7 : T) : Option (List T) :=
  (Prim.ev (.len) [a5]).bind fun a8 =>
  iter (fun k0 => ar2 fun a9 a10 =>
   (Prim.ev (.bin .lss) [a10, a8]).bind fun a11 =>
   ifT a11 (
    (Prim.ev (.bnd) [a5, a10]).bind fun a12 =>
    (Prim.ev (.cell 2 0) [a5, a10]).bind fun a13 =>
    (Prim.ev (.cell 2 1) [a5, a10]).bind fun a14 =>
    cl1 (f_i_in [a13, ii 1, ii 6]) fun a15 =>
    (Prim.ev (.un .not) [a15]).bind fun a16 =>
    ifT a16 (
     (Prim.ev (.scl) [bb false]).bind fun a17 =>
     some [a17]) (
     (Prim.ev (.bin .eql) [a13, a2]).bind fun a17 =>
     ifT a17 (
      (Prim.ev (.scl) [bb false]).bind fun a18 =>
      some [a18]) (
      cl1 (f_i_in [a14, ii 1, ii 1000]) fun a18 =>
      (Prim.ev (.un .not) [a18]).bind fun a19 =>
      ifT a19 (
       (Prim.ev (.scl) [bb false]).bind fun a20 =>
       some [a20]) (
       (Prim.ev (.bin .gtr) [a10, ii 0]).bind fun a20 =>
       ifT a20 (
        (Prim.ev (.bin .sub) [a10, ii 1]).bind fun a21 =>
        (Prim.ev (.bnd) [a5, a21]).bind fun a22 =>
        (Prim.ev (.cell 2 0) [a5, a21]).bind fun a23 =>
        (Prim.ev (.bin .geq) [a23, a13]).bind fun a24 =>
        ifT a24 (
         (Prim.ev (.scl) [bb false]).bind fun a25 =>
         some [a25]) (
         (Prim.ev (.bin .add) [a10, ii 1]).bind fun a25 =>
         k0 [a9, a25])) (
        (Prim.ev (.bin .add) [a10, ii 1]).bind fun a21 =>
        k0 [a9, a21]))))) (
    (Prim.ev (.scl) [bb true]).bind fun a12 =>
    some [a12])) R [bb false, ii 0]
theorem gr_i_nearOk (R : Nat) (f_i_in : Sem1) (a0 a1 a2 a3 a4 a5 a6 a7 : T) : p_i_nearOk.den (pick [(45, f_i_in)]) R [] [a0, a1, a2, a3, a4, a5, a6, a7] = G_i_nearOk R f_i_in a0 a1 a2 a3 a4 a5 a6 a7 := (den2_of (by kernel_rfl)).trans (by kernel_rfl)
theorem g_i_nearOk (a0 a1 a2 a3 a4 a5 a6 a7 : T) : F_i_nearOk [a0, a1, a2, a3, a4, a5, a6, a7] = G_i_nearOk rounds F_i_in a0 a1 a2 a3 a4 a5 a6 a7 := gr_i_nearOk rounds F_i_in a0 a1 a2 a3 a4 a5 a6 a7
def G_i_RecordOk (R : Nat) (f_i_in f_i_nearOk : Sem1) (a0 a1 a2 a3 a4 a5 a6 a7 : T) : Option (List T) :=
  cl1 (f_i_in [a2, ii 1, ii 6]) fun a8 =>
  (Prim.ev (.un .not) [a8]).bind fun a9 =>
  ifT a9 (
   (Prim.ev (.scl) [bb false]).bind fun a10 =>
   some [a10]) (
   cl1 (f_i_in [a4, ii 1, ii 100000]) fun a10 =>
   (Prim.ev (.un .not) [a10]).bind fun a11 =>
   ifT a11 (
    (Prim.ev (.scl) [bb false]).bind fun a12 =>
    some [a12]) (
    (Prim.ev (.bin .eql) [a1, ii 1]).bind fun a12 =>
    ifT a12 (
     cl1 (f_i_in [a0, ii 0, ii 2]) fun a13 =>
     ifT a13 (
      (Prim.ev (.bin .eql) [a3, ii 0]).bind fun a14 =>
      ifT a14 (
       cl1 (f_i_nearOk [a0, a1, a2, a3, a4, a5, a6, a7]) fun a15 =>
       ifT a15 (
        (Prim.ev (.bin .eql) [a6, ii 0]).bind fun a16 =>
        ifT a16 (
         (Prim.ev (.un .not) [a7]).bind fun a17 =>
         (Prim.ev (.scl) [a17]).bind fun a18 =>
         some [a18]) (
         (Prim.ev (.scl) [bb false]).bind fun a17 =>
         some [a17])) (
        (Prim.ev (.scl) [bb false]).bind fun a16 =>
        some [a16])) (
       (Prim.ev (.scl) [bb false]).bind fun a15 =>
       some [a15])) (
      (Prim.ev (.scl) [bb false]).bind fun a14 =>
      some [a14])) (
     (Prim.ev (.bin .eql) [a1, ii 2]).bind fun a13 =>
     ifT a13 (
      cl1 (f_i_in [a0, ii 0, ii 2]) fun a14 =>
      ifT a14 (
       cl1 (f_i_in [a3, ii 1, ii 6]) fun a15 =>
       ifT a15 (
        (Prim.ev (.len) [a5]).bind fun a16 =>
        (Prim.ev (.bin .eql) [a16, ii 0]).bind fun a17 =>
        ifT a17 (
         cl1 (f_i_in [a6, ii 0, ii 60000]) fun a18 =>
         ifT a18 (
          (Prim.ev (.un .not) [a7]).bind fun a19 =>
          (Prim.ev (.scl) [a19]).bind fun a20 =>
          some [a20]) (
          (Prim.ev (.scl) [bb false]).bind fun a19 =>
          some [a19])) (
         (Prim.ev (.scl) [bb false]).bind fun a18 =>
         some [a18])) (
        (Prim.ev (.scl) [bb false]).bind fun a16 =>
        some [a16])) (
       (Prim.ev (.scl) [bb false]).bind fun a15 =>
       some [a15])) (
      (Prim.ev (.bin .eql) [a1, ii 3]).bind fun a14 =>
      ifT a14 (
       (Prim.ev (.bin .eql) [a0, ii 9]).bind fun a15 =>
       ifT a15 (
        cl1 (f_i_in [a3, ii 1, ii 9]) fun a16 =>
        ifT a16 (
         (Prim.ev (.len) [a5]).bind fun a17 =>
         (Prim.ev (.bin .eql) [a17, ii 0]).bind fun a18 =>
         ifT a18 (
          cl1 (f_i_in [a6, ii 1, ii 1000]) fun a19 =>
          ifT a19 (
           (Prim.ev (.scl) [bb true]).bind fun a20 =>
           some [a20]) (
           (Prim.ev (.bin .eql) [a6, ii 60000]).bind fun a20 =>
           (Prim.ev (.scl) [a20]).bind fun a21 =>
           some [a21])) (
          (Prim.ev (.scl) [bb false]).bind fun a19 =>
          some [a19])) (
         (Prim.ev (.scl) [bb false]).bind fun a17 =>
         some [a17])) (
        (Prim.ev (.scl) [bb false]).bind fun a16 =>
        some [a16])) (
       (Prim.ev (.scl) [bb false]).bind fun a15 =>
       some [a15])))))
theorem gr_i_RecordOk (R : Nat) (f_i_in f_i_nearOk : Sem1) (a0 a1 a2 a3 a4 a5 a6 a7 : T) : p_i_RecordOk.den (pick [(45, f_i_in), (134, f_i_nearOk)]) R [] [a0, a1, a2, a3, a4, a5, a6, a7] = G_i_RecordOk R f_i_in f_i_nearOk a0 a1 a2 a3 a4 a5 a6 a7 := (den2_of (by kernel_rfl)).trans (by kernel_rfl)
theorem g_i_RecordOk (a0 a1 a2 a3 a4 a5 a6 a7 : T) : F_i_RecordOk [a0, a1, a2, a3, a4, a5, a6, a7] = G_i_RecordOk rounds F_i_in F_i_nearOk a0 a1 a2 a3 a4 a5 a6 a7 := gr_i_RecordOk rounds F_i_in F_i_nearOk a0 a1 a2 a3 a4 a5 a6 a7
def G_i_Before (R : Nat) (a0 a1 a2 a3 a4 a5 a6 a7 a8 a9 a10 a11 a12 a13 a14 a15 : T) : Option (List T) :=
  (Prim.ev (.bin .neq) [a0, a8]).bind fun a16 =>
  ifT a16 (
   (Prim.ev (.bin .lss) [a0, a8]).bind fun a17 =>
   (Prim.ev (.scl) [a17]).bind fun a18 =>
   some [a18]) (
   (Prim.ev (.bin .neq) [a1, a9]).bind fun a17 =>
   ifT a17 (
    (Prim.ev (.bin .lss) [a1, a9]).bind fun a18 =>
    (Prim.ev (.scl) [a18]).bind fun a19 =>
    some [a19]) (
    (Prim.ev (.bin .neq) [a2, a10]).bind fun a18 =>
    ifT a18 (
     (Prim.ev (.bin .lss) [a2, a10]).bind fun a19 =>
     (Prim.ev (.scl) [a19]).bind fun a20 =>
     some [a20]) (
     (Prim.ev (.bin .lss) [a3, a11]).bind fun a19 =>
     (Prim.ev (.scl) [a19]).bind fun a20 =>
     some [a20])))
theorem gr_i_Before (R : Nat) (a0 a1 a2 a3 a4 a5 a6 a7 a8 a9 a10 a11 a12 a13 a14 a15 : T) : p_i_Before.den (pick []) R [] [a0, a1, a2, a3, a4, a5, a6, a7, a8, a9, a10, a11, a12, a13, a14, a15] = G_i_Before R a0 a1 a2 a3 a4 a5 a6 a7 a8 a9 a10 a11 a12 a13 a14 a15 := (den2_of (by kernel_rfl)).trans (by kernel_rfl)
theorem g_i_Before (a0 a1 a2 a3 a4 a5 a6 a7 a8 a9 a10 a11 a12 a13 a14 a15 : T) : F_i_Before [a0, a1, a2, a3, a4, a5, a6, a7, a8, a9, a10, a11, a12, a13, a14, a15] = G_i_Before rounds a0 a1 a2 a3 a4 a5 a6 a7 a8 a9 a10 a11 a12 a13 a14 a15 := gr_i_Before rounds a0 a1 a2 a3 a4 a5 a6 a7 a8 a9 a10 a11 a12 a13 a14 a15
def G_i_StoreOk (R : Nat) (f_i_RecordOk f_i_Before : Sem1) (a0 : T) : Option (List T) :=
  (Prim.ev (.len) [a0]).bind fun a1 =>
  iter (fun k0 => ar2 fun a2 a3 =>
   (Prim.ev (.bin .lss) [a3, a1]).bind fun a4 =>
   ifT a4 (
    (Prim.ev (.bnd) [a0, a3]).bind fun a5 =>
    (Prim.ev (.cell 8 0) [a0, a3]).bind fun a6 =>
    (Prim.ev (.cell 8 1) [a0, a3]).bind fun a7 =>
    (Prim.ev (.cell 8 2) [a0, a3]).bind fun a8 =>
    (Prim.ev (.cell 8 3) [a0, a3]).bind fun a9 =>
    (Prim.ev (.cell 8 4) [a0, a3]).bind fun a10 =>
    (Prim.ev (.cell 8 5) [a0, a3]).bind fun a11 =>
    (Prim.ev (.cell 8 6) [a0, a3]).bind fun a12 =>
    (Prim.ev (.cell 8 7) [a0, a3]).bind fun a13 =>
    cl1 (f_i_RecordOk [a6, a7, a8, a9, a10, a11, a12, a13]) fun a14 =>
    (Prim.ev (.un .not) [a14]).bind fun a15 =>
    ifT a15 (
     (Prim.ev (.scl) [bb false]).bind fun a16 =>
     some [a16]) (
     (Prim.ev (.bin .gtr) [a3, ii 0]).bind fun a16 =>
     ifT a16 (
      (Prim.ev (.bin .sub) [a3, ii 1]).bind fun a17 =>
      (Prim.ev (.bnd) [a0, a17]).bind fun a18 =>
      (Prim.ev (.cell 8 0) [a0, a17]).bind fun a19 =>
      (Prim.ev (.cell 8 1) [a0, a17]).bind fun a20 =>
      (Prim.ev (.cell 8 2) [a0, a17]).bind fun a21 =>
      (Prim.ev (.cell 8 3) [a0, a17]).bind fun a22 =>
      (Prim.ev (.cell 8 4) [a0, a17]).bind fun a23 =>
      (Prim.ev (.cell 8 5) [a0, a17]).bind fun a24 =>
      (Prim.ev (.cell 8 6) [a0, a17]).bind fun a25 =>
      (Prim.ev (.cell 8 7) [a0, a17]).bind fun a26 =>
      cl1 (f_i_Before [a19, a20, a21, a22, a23, a24, a25, a26, a6, a7, a8, a9, a10, a11, a12, a13]) fun a27 =>
      (Prim.ev (.un .not) [a27]).bind fun a28 =>
      ifT a28 (
       (Prim.ev (.scl) [bb false]).bind fun a29 =>
       some [a29]) (
       (Prim.ev (.bin .add) [a3, ii 1]).bind fun a29 =>
       k0 [a2, a29])) (
      (Prim.ev (.bin .add) [a3, ii 1]).bind fun a17 =>
      k0 [a2, a17]))) (
    (Prim.ev (.len) [a0]).bind fun a5 =>
    (Prim.ev (.bin .leq) [a5, ii 150]).bind fun a6 =>
    (Prim.ev (.scl) [a6]).bind fun a7 =>
    some [a7])) R [bb false, ii 0]
theorem gr_i_StoreOk (R : Nat) (f_i_RecordOk f_i_Before : Sem1) (a0 : T) : p_i_StoreOk.den (pick [(101, f_i_RecordOk), (102, f_i_Before)]) R [] [a0] = G_i_StoreOk R f_i_RecordOk f_i_Before a0 := (den2_of (by kernel_rfl)).trans (by kernel_rfl)
theorem g_i_StoreOk (a0 : T) : F_i_StoreOk [a0] = G_i_StoreOk rounds F_i_RecordOk F_i_Before a0 := gr_i_StoreOk rounds F_i_RecordOk F_i_Before a0
def G_i_SelfOk (R : Nat) (f_i_StoreOk f_i_in f_i_NetOk f_i_heardOk : Sem1) (a0 a1 a2 a3 a4 a5 a6 : T) : Option (List T) :=
  cl1 (f_i_NetOk [a2, a3, a4]) fun a7 =>
  ifT a7 (
   cl1 (f_i_in [a0, ii 1, a2]) fun a8 =>
   ifT a8 (
    cl1 (f_i_in [a1, ii 0, ii 90]) fun a9 =>
    ifT a9 (
     cl1 (f_i_heardOk [a0, a1, a2, a3, a4, a5, a6]) fun a10 =>
     ifT a10 (
      cl1 (f_i_StoreOk [a6]) fun a11 =>
      (Prim.ev (.scl) [a11]).bind fun a12 =>
      some [a12]) (
      (Prim.ev (.scl) [bb false]).bind fun a11 =>
      some [a11])) (
     (Prim.ev (.scl) [bb false]).bind fun a10 =>
     some [a10])) (
    (Prim.ev (.scl) [bb false]).bind fun a9 =>
    some [a9])) (
   (Prim.ev (.scl) [bb false]).bind fun a8 =>
   some [a8])
theorem gr_i_SelfOk (R : Nat) (f_i_StoreOk f_i_in f_i_NetOk f_i_heardOk : Sem1) (a0 a1 a2 a3 a4 a5 a6 : T) : p_i_SelfOk.den (pick [(44, f_i_StoreOk), (45, f_i_in), (125, f_i_NetOk), (126, f_i_heardOk)]) R [] [a0, a1, a2, a3, a4, a5, a6] = G_i_SelfOk R f_i_StoreOk f_i_in f_i_NetOk f_i_heardOk a0 a1 a2 a3 a4 a5 a6 := (den2_of (by kernel_rfl)).trans (by kernel_rfl)
theorem g_i_SelfOk (a0 a1 a2 a3 a4 a5 a6 : T) : F_i_SelfOk [a0, a1, a2, a3, a4, a5, a6] = G_i_SelfOk rounds F_i_StoreOk F_i_in F_i_NetOk F_i_heardOk a0 a1 a2 a3 a4 a5 a6 := gr_i_SelfOk rounds F_i_StoreOk F_i_in F_i_NetOk F_i_heardOk a0 a1 a2 a3 a4 a5 a6
def G_i_earsOf (R : Nat) (f_i_linkAt : Sem1) (a0 a1 a2 a3 : T) : Option (List T) :=
  iter (fun k0 => ar2 fun a4 a5 =>
   (Prim.ev (.bin .leq) [a5, a0]).bind fun a6 =>
   ifT a6 (
    iter (fun k1 => ar2 fun a7 a8 =>
     (Prim.ev (.bin .leq) [a8, ii 2]).bind fun a9 =>
     ifT a9 (
      cl1 (f_i_linkAt [a0, a1, a2, a3, a5, a8]) fun a10 =>
      (Prim.ev (.bin .geq) [a10, ii 0]).bind fun a11 =>
      jn (ar1 fun a12 =>
       (Prim.ev (.bin .add) [a8, ii 1]).bind fun a13 =>
       k1 [a12, a13]) fun k2 =>
       ifT a11 (
        (Prim.ev (.lit 4 [true, true, true, true]) [a5, a8, ii 0, bb false]).bind fun a12 =>
        (Prim.ev (.app true 4) [a7, a12]).bind fun a13 =>
        k2 [a13]) (
        k2 [a7])) (
      (Prim.ev (.bin .add) [a5, ii 1]).bind fun a10 =>
      k0 [a7, a10])) R [a4, ii 0]) (
    some [a4])) R [.l [], ii 1]
theorem gr_i_earsOf (R : Nat) (f_i_linkAt : Sem1) (a0 a1 a2 a3 : T) : p_i_earsOf.den (pick [(127, f_i_linkAt)]) R [] [a0, a1, a2, a3] = G_i_earsOf R f_i_linkAt a0 a1 a2 a3 := (den2_of (by kernel_rfl)).trans (by kernel_rfl)
theorem g_i_earsOf (a0 a1 a2 a3 : T) : F_i_earsOf [a0, a1, a2, a3] = G_i_earsOf rounds F_i_linkAt a0 a1 a2 a3 := gr_i_earsOf rounds F_i_linkAt a0 a1 a2 a3
def G_i_heardBy (R : Nat) (a0 : T) : Option (List T) :=
  (Prim.ev (.len) [a0]).bind fun a1 =>
  iter (fun k0 => ar2 fun a2 a3 =>
   (Prim.ev (.bin .lss) [a3, a1]).bind fun a4 =>
   ifT a4 (
    (Prim.ev (.bnd) [a0, a3]).bind fun a5 =>
    (Prim.ev (.cell 4 0) [a0, a3]).bind fun a6 =>
    (Prim.ev (.cell 4 1) [a0, a3]).bind fun a7 =>
    (Prim.ev (.cell 4 2) [a0, a3]).bind fun a8 =>
    (Prim.ev (.cell 4 3) [a0, a3]).bind fun a9 =>
    jn (ar1 fun a10 =>
     (Prim.ev (.bin .add) [a3, ii 1]).bind fun a11 =>
     k0 [a10, a11]) fun k1 =>
     ifT a9 (
      (Prim.ev (.lit 1 [true, true]) [a6, a7]).bind fun a10 =>
      (Prim.ev (.app true 1) [a2, a10]).bind fun a11 =>
      k1 [a11]) (
      k1 [a2])) (
    some [a2])) R [.l [], ii 0]
theorem gr_i_heardBy (R : Nat) (a0 : T) : p_i_heardBy.den (pick []) R [] [a0] = G_i_heardBy R a0 := (den2_of (by kernel_rfl)).trans (by kernel_rfl)
theorem g_i_heardBy (a0 : T) : F_i_heardBy [a0] = G_i_heardBy rounds a0 := gr_i_heardBy rounds a0
def G_i_sameInts (R : Nat) (a0 a1 : T) : Option (List T) :=
  (Prim.ev (.len) [a0]).bind fun a2 =>
  (Prim.ev (.len) [a1]).bind fun a3 =>
  (Prim.ev (.bin .neq) [a2, a3]).bind fun a4 =>
  ifT a4 (
   (Prim.ev (.scl) [bb false]).bind fun a5 =>
   some [a5]) (
   (Prim.ev (.len) [a0]).bind fun a5 =>
   iter (fun k0 => ar2 fun a6 a7 =>
    (Prim.ev (.bin .lss) [a7, a5]).bind fun a8 =>
    ifT a8 (
     (Prim.ev (.bnd) [a0, a7]).bind fun a9 =>
     (Prim.ev (.cell 1 0) [a0, a7]).bind fun a10 =>
     (Prim.ev (.bnd) [a1, a7]).bind fun a11 =>
     (Prim.ev (.cell 1 0) [a1, a7]).bind fun a12 =>
     (Prim.ev (.bin .neq) [a10, a12]).bind fun a13 =>
     ifT a13 (
      (Prim.ev (.scl) [bb false]).bind fun a14 =>
      some [a14]) (
      (Prim.ev (.bin .add) [a7, ii 1]).bind fun a14 =>
      k0 [a6, a14])) (
     (Prim.ev (.scl) [bb true]).bind fun a9 =>
     some [a9])) R [bb false, ii 0])
theorem gr_i_sameInts (R : Nat) (a0 a1 : T) : p_i_sameInts.den (pick []) R [] [a0, a1] = G_i_sameInts R a0 a1 := (den2_of (by kernel_rfl)).trans (by kernel_rfl)
theorem g_i_sameInts (a0 a1 : T) : F_i_sameInts [a0, a1] = G_i_sameInts rounds a0 a1 := gr_i_sameInts rounds a0 a1
def G_i_NodeOk (R : Nat) (f_i_in f_i_SelfOk f_i_earsOf f_i_sameInts f_i_heardBy : Sem1) (a0 a1 a2 a3 a4 a5 a6 a7 : T) : Option (List T) :=
  cl1 (f_i_SelfOk [a0, a1, a2, a3, a4, a5, a6]) fun a8 =>
  (Prim.ev (.un .not) [a8]).bind fun a9 =>
  ifT a9 (
   (Prim.ev (.scl) [bb false]).bind fun a10 =>
   some [a10]) (
   cl1 (f_i_earsOf [a2, a3, a4, a0]) fun a10 =>
   (Prim.ev (.len) [a10]).bind fun a11 =>
   (Prim.ev (.len) [a7]).bind fun a12 =>
   (Prim.ev (.bin .neq) [a11, a12]).bind fun a13 =>
   ifT a13 (
    (Prim.ev (.scl) [bb false]).bind fun a14 =>
    some [a14]) (
    (Prim.ev (.len) [a7]).bind fun a14 =>
    iter (fun k0 => ar2 fun a15 a16 =>
     (Prim.ev (.bin .lss) [a16, a14]).bind fun a17 =>
     ifT a17 (
      (Prim.ev (.bnd) [a7, a16]).bind fun a18 =>
      (Prim.ev (.cell 4 0) [a7, a16]).bind fun a19 =>
      (Prim.ev (.cell 4 1) [a7, a16]).bind fun a20 =>
      (Prim.ev (.cell 4 2) [a7, a16]).bind fun a21 =>
      (Prim.ev (.cell 4 3) [a7, a16]).bind fun a22 =>
      (Prim.ev (.bnd) [a10, a16]).bind fun a23 =>
      (Prim.ev (.scell 4 0) [a10, a16]).bind fun a24 =>
      (Prim.ev (.bin .neq) [a19, a24]).bind fun a25 =>
      ifT a25 (
       (Prim.ev (.scl) [bb false]).bind fun a26 =>
       some [a26]) (
       (Prim.ev (.bnd) [a10, a16]).bind fun a26 =>
       (Prim.ev (.scell 4 1) [a10, a16]).bind fun a27 =>
       (Prim.ev (.bin .neq) [a20, a27]).bind fun a28 =>
       ifT a28 (
        (Prim.ev (.scl) [bb false]).bind fun a29 =>
        some [a29]) (
        cl1 (f_i_in [a21, ii 0, ii 3]) fun a29 =>
        (Prim.ev (.un .not) [a29]).bind fun a30 =>
        ifT a30 (
         (Prim.ev (.scl) [bb false]).bind fun a31 =>
         some [a31]) (
         ifT a22 (
          (Prim.ev (.bin .eql) [a21, ii 0]).bind fun a31 =>
          ifT a31 (
           (Prim.ev (.scl) [bb false]).bind fun a32 =>
           some [a32]) (
           (Prim.ev (.bin .add) [a16, ii 1]).bind fun a32 =>
           k0 [a15, a32])) (
          (Prim.ev (.bin .add) [a16, ii 1]).bind fun a31 =>
          k0 [a15, a31]))))) (
      cl1 (f_i_heardBy [a7]) fun a18 =>
      cl1 (f_i_sameInts [a18, a5]) fun a19 =>
      (Prim.ev (.scl) [a19]).bind fun a20 =>
      some [a20])) R [bb false, ii 0]))
theorem gr_i_NodeOk (R : Nat) (f_i_in f_i_SelfOk f_i_earsOf f_i_sameInts f_i_heardBy : Sem1) (a0 a1 a2 a3 a4 a5 a6 a7 : T) : p_i_NodeOk.den (pick [(45, f_i_in), (80, f_i_SelfOk), (81, f_i_earsOf), (82, f_i_sameInts), (83, f_i_heardBy)]) R [] [a0, a1, a2, a3, a4, a5, a6, a7] = G_i_NodeOk R f_i_in f_i_SelfOk f_i_earsOf f_i_sameInts f_i_heardBy a0 a1 a2 a3 a4 a5 a6 a7 := (den2_of (by kernel_rfl)).trans (by kernel_rfl)
theorem g_i_NodeOk (a0 a1 a2 a3 a4 a5 a6 a7 : T) : F_i_NodeOk [a0, a1, a2, a3, a4, a5, a6, a7] = G_i_NodeOk rounds F_i_in F_i_SelfOk F_i_earsOf F_i_sameInts F_i_heardBy a0 a1 a2 a3 a4 a5 a6 a7 := gr_i_NodeOk rounds F_i_in F_i_SelfOk F_i_earsOf F_i_sameInts F_i_heardBy a0 a1 a2 a3 a4 a5 a6 a7
def G_s_l13Hears (R : Nat) (a0 a1 a2 a3 a4 a5 a6 a7 a8 a9 : T) : Option (List T) :=
  iter (fun k0 => ar2 fun a10 a11 =>
   (Prim.ev (.bin .add) [a11, ii 1]).bind fun a12 =>
   (Prim.ev (.len) [a5]).bind fun a13 =>
   (Prim.ev (.bin .lss) [a12, a13]).bind fun a14 =>
   ifT a14 (
    (Prim.ev (.bnd) [a5, a11]).bind fun a15 =>
    (Prim.ev (.cell 1 0) [a5, a11]).bind fun a16 =>
    (Prim.ev (.bin .eql) [a16, a8]).bind fun a17 =>
    ifT a17 (
     (Prim.ev (.bin .add) [a11, ii 1]).bind fun a18 =>
     (Prim.ev (.bnd) [a5, a18]).bind fun a19 =>
     (Prim.ev (.cell 1 0) [a5, a18]).bind fun a20 =>
     (Prim.ev (.bin .eql) [a20, a9]).bind fun a21 =>
     ifT a21 (
      (Prim.ev (.scl) [bb true]).bind fun a22 =>
      some [a22]) (
      (Prim.ev (.bin .add) [a11, ii 2]).bind fun a22 =>
      k0 [a10, a22])) (
     (Prim.ev (.bin .add) [a11, ii 2]).bind fun a18 =>
     k0 [a10, a18])) (
    (Prim.ev (.scl) [bb false]).bind fun a15 =>
    some [a15])) R [bb false, ii 0]
theorem gr_s_l13Hears (R : Nat) (a0 a1 a2 a3 a4 a5 a6 a7 a8 a9 : T) : p_s_l13Hears.den (pick []) R [] [a0, a1, a2, a3, a4, a5, a6, a7, a8, a9] = G_s_l13Hears R a0 a1 a2 a3 a4 a5 a6 a7 a8 a9 := (den2_of (by kernel_rfl)).trans (by kernel_rfl)
theorem g_s_l13Hears (a0 a1 a2 a3 a4 a5 a6 a7 a8 a9 : T) : F_s_l13Hears [a0, a1, a2, a3, a4, a5, a6, a7, a8, a9] = G_s_l13Hears rounds a0 a1 a2 a3 a4 a5 a6 a7 a8 a9 := gr_s_l13Hears rounds a0 a1 a2 a3 a4 a5 a6 a7 a8 a9
def G_s_l04Copy (R : Nat) (a0 a1 a2 a3 a4 a5 a6 a7 : T) : Option (List T) :=
  (Prim.ev (.lit 2 []) []).bind fun a8 =>
  (Prim.ev (.app true 2) [a8, a5]).bind fun a9 =>
  (Prim.ev (.scl) [a7]).bind fun a10 =>
  (Prim.ev (.scl) [a6]).bind fun a11 =>
  (Prim.ev (.scl) [a4]).bind fun a12 =>
  (Prim.ev (.scl) [a3]).bind fun a13 =>
  (Prim.ev (.scl) [a2]).bind fun a14 =>
  (Prim.ev (.scl) [a1]).bind fun a15 =>
  (Prim.ev (.scl) [a0]).bind fun a16 =>
  some [a16, a15, a14, a13, a12, a9, a11, a10]
theorem gr_s_l04Copy (R : Nat) (a0 a1 a2 a3 a4 a5 a6 a7 : T) : p_s_l04Copy.den (pick []) R [] [a0, a1, a2, a3, a4, a5, a6, a7] = G_s_l04Copy R a0 a1 a2 a3 a4 a5 a6 a7 := (den2_of (by kernel_rfl)).trans (by kernel_rfl)
theorem g_s_l04Copy (a0 a1 a2 a3 a4 a5 a6 a7 : T) : F_s_l04Copy [a0, a1, a2, a3, a4, a5, a6, a7] = G_s_l04Copy rounds a0 a1 a2 a3 a4 a5 a6 a7 := gr_s_l04Copy rounds a0 a1 a2 a3 a4 a5 a6 a7
def G_s_Scope (R : Nat) (f_s_l04Copy : Sem1) (a0 a1 : T) : Option (List T) :=
  (Prim.ev (.lit 8 []) []).bind fun a2 =>
  iter (fun k0 => ar2 fun a3 a4 =>
   (Prim.ev (.len) [a0]).bind fun a5 =>
   (Prim.ev (.bin .lss) [a4, a5]).bind fun a6 =>
   ifT a6 (
    (Prim.ev (.bnd) [a0, a4]).bind fun a7 =>
    (Prim.ev (.cell 8 0) [a0, a4]).bind fun a8 =>
    (Prim.ev (.bin .eql) [a8, a1]).bind fun a9 =>
    ifT a9 (
     jn (ar1 fun a10 =>
      (Prim.ev (.bin .add) [a4, ii 1]).bind fun a11 =>
      k0 [a10, a11]) fun k1 =>
      (Prim.ev (.bnd) [a0, a4]).bind fun a10 =>
      (Prim.ev (.cell 8 0) [a0, a4]).bind fun a11 =>
      (Prim.ev (.cell 8 1) [a0, a4]).bind fun a12 =>
      (Prim.ev (.cell 8 2) [a0, a4]).bind fun a13 =>
      (Prim.ev (.cell 8 3) [a0, a4]).bind fun a14 =>
      (Prim.ev (.cell 8 4) [a0, a4]).bind fun a15 =>
      (Prim.ev (.cell 8 5) [a0, a4]).bind fun a16 =>
      (Prim.ev (.cell 8 6) [a0, a4]).bind fun a17 =>
      (Prim.ev (.cell 8 7) [a0, a4]).bind fun a18 =>
      cl8 (f_s_l04Copy [a11, a12, a13, a14, a15, a16, a17, a18]) fun a19 a20 a21 a22 a23 a24 a25 a26 =>
      (Prim.ev (.lit 8 [true, true, true, true, true, false, true, true]) [a19, a20, a21, a22, a23, a24, a25, a26]).bind fun a27 =>
      (Prim.ev (.app false 8) [a3, a27]).bind fun a28 =>
      k1 [a28]) (
     (Prim.ev (.bnd) [a0, a4]).bind fun a10 =>
     (Prim.ev (.cell 8 0) [a0, a4]).bind fun a11 =>
     (Prim.ev (.bin .eql) [a11, ii 9]).bind fun a12 =>
     jn (ar1 fun a13 =>
      (Prim.ev (.bin .add) [a4, ii 1]).bind fun a14 =>
      k0 [a13, a14]) fun k1 =>
      ifT a12 (
       (Prim.ev (.bnd) [a0, a4]).bind fun a13 =>
       (Prim.ev (.cell 8 0) [a0, a4]).bind fun a14 =>
       (Prim.ev (.cell 8 1) [a0, a4]).bind fun a15 =>
       (Prim.ev (.cell 8 2) [a0, a4]).bind fun a16 =>
       (Prim.ev (.cell 8 3) [a0, a4]).bind fun a17 =>
       (Prim.ev (.cell 8 4) [a0, a4]).bind fun a18 =>
       (Prim.ev (.cell 8 5) [a0, a4]).bind fun a19 =>
       (Prim.ev (.cell 8 6) [a0, a4]).bind fun a20 =>
       (Prim.ev (.cell 8 7) [a0, a4]).bind fun a21 =>
       cl8 (f_s_l04Copy [a14, a15, a16, a17, a18, a19, a20, a21]) fun a22 a23 a24 a25 a26 a27 a28 a29 =>
       (Prim.ev (.lit 8 [true, true, true, true, true, false, true, true]) [a22, a23, a24, a25, a26, a27, a28, a29]).bind fun a30 =>
       (Prim.ev (.app false 8) [a3, a30]).bind fun a31 =>
       k1 [a31]) (
       k1 [a3]))) (
    some [a3])) R [a2, ii 0]
theorem gr_s_Scope (R : Nat) (f_s_l04Copy : Sem1) (a0 a1 : T) : p_s_Scope.den (pick [(129, f_s_l04Copy)]) R [] [a0, a1] = G_s_Scope R f_s_l04Copy a0 a1 := (den2_of (by kernel_rfl)).trans (by kernel_rfl)
theorem g_s_Scope (a0 a1 : T) : F_s_Scope [a0, a1] = G_s_Scope rounds F_s_l04Copy a0 a1 := gr_s_Scope rounds F_s_l04Copy a0 a1
def G_s_l13SameStore (R : Nat) (f_s_SameBody : Sem1) (a0 a1 : T) : Option (List T) :=
  (Prim.ev (.len) [a0]).bind fun a2 =>
  (Prim.ev (.len) [a1]).bind fun a3 =>
  (Prim.ev (.bin .neq) [a2, a3]).bind fun a4 =>
  ifT a4 (
   (Prim.ev (.scl) [bb false]).bind fun a5 =>
   some [a5]) (
   iter (fun k0 => ar2 fun a5 a6 =>
    (Prim.ev (.len) [a0]).bind fun a7 =>
    (Prim.ev (.bin .lss) [a6, a7]).bind fun a8 =>
    ifT a8 (
     (Prim.ev (.bnd) [a0, a6]).bind fun a9 =>
     (Prim.ev (.cell 8 0) [a0, a6]).bind fun a10 =>
     (Prim.ev (.cell 8 1) [a0, a6]).bind fun a11 =>
     (Prim.ev (.cell 8 2) [a0, a6]).bind fun a12 =>
     (Prim.ev (.cell 8 3) [a0, a6]).bind fun a13 =>
     (Prim.ev (.cell 8 4) [a0, a6]).bind fun a14 =>
     (Prim.ev (.cell 8 5) [a0, a6]).bind fun a15 =>
     (Prim.ev (.cell 8 6) [a0, a6]).bind fun a16 =>
     (Prim.ev (.cell 8 7) [a0, a6]).bind fun a17 =>
     (Prim.ev (.bnd) [a1, a6]).bind fun a18 =>
     (Prim.ev (.cell 8 0) [a1, a6]).bind fun a19 =>
     (Prim.ev (.cell 8 1) [a1, a6]).bind fun a20 =>
     (Prim.ev (.cell 8 2) [a1, a6]).bind fun a21 =>
     (Prim.ev (.cell 8 3) [a1, a6]).bind fun a22 =>
     (Prim.ev (.cell 8 4) [a1, a6]).bind fun a23 =>
     (Prim.ev (.cell 8 5) [a1, a6]).bind fun a24 =>
     (Prim.ev (.cell 8 6) [a1, a6]).bind fun a25 =>
     (Prim.ev (.cell 8 7) [a1, a6]).bind fun a26 =>
     cl1 (f_s_SameBody [a10, a11, a12, a13, a14, a15, a16, a17, a19, a20, a21, a22, a23, a24, a25, a26]) fun a27 =>
     (Prim.ev (.un .not) [a27]).bind fun a28 =>
     ifT a28 (
      (Prim.ev (.scl) [bb false]).bind fun a29 =>
      some [a29]) (
      (Prim.ev (.bnd) [a0, a6]).bind fun a29 =>
      (Prim.ev (.cell 8 4) [a0, a6]).bind fun a30 =>
      (Prim.ev (.bnd) [a1, a6]).bind fun a31 =>
      (Prim.ev (.cell 8 4) [a1, a6]).bind fun a32 =>
      (Prim.ev (.bin .neq) [a30, a32]).bind fun a33 =>
      ifT a33 (
       (Prim.ev (.scl) [bb false]).bind fun a34 =>
       some [a34]) (
       (Prim.ev (.bin .add) [a6, ii 1]).bind fun a34 =>
       k0 [a5, a34]))) (
     (Prim.ev (.scl) [bb true]).bind fun a9 =>
     some [a9])) R [bb false, ii 0])
theorem gr_s_l13SameStore (R : Nat) (f_s_SameBody : Sem1) (a0 a1 : T) : p_s_l13SameStore.den (pick [(114, f_s_SameBody)]) R [] [a0, a1] = G_s_l13SameStore R f_s_SameBody a0 a1 := (den2_of (by kernel_rfl)).trans (by kernel_rfl)
theorem g_s_l13SameStore (a0 a1 : T) : F_s_l13SameStore [a0, a1] = G_s_l13SameStore rounds F_s_SameBody a0 a1 := gr_s_l13SameStore rounds F_s_SameBody a0 a1
def G_s_AlikeIn (R : Nat) (f_s_l13Hears f_s_l13SameStore f_s_Scope : Sem1) (a0 a1 a2 a3 a4 a5 a6 a7 a8 a9 a10 : T) : Option (List T) :=
  iter (fun k0 => ar2 fun a11 a12 =>
   (Prim.ev (.len) [a6]).bind fun a13 =>
   (Prim.ev (.bin .lss) [a12, a13]).bind fun a14 =>
   ifT a14 (
    (Prim.ev (.len) [a4]).bind fun a15 =>
    (Prim.ev (.bin .lss) [a12, a15]).bind fun a16 =>
    ifT a16 (
     iter (fun k1 => ar2 fun a17 a18 =>
      (Prim.ev (.bin .lss) [a18, a12]).bind fun a19 =>
      ifT a19 (
       (Prim.ev (.bnd) [a4, a12]).bind fun a20 =>
       (Prim.ev (.cell 1 0) [a4, a12]).bind fun a21 =>
       ifT a21 (
        (Prim.ev (.bnd) [a4, a18]).bind fun a22 =>
        (Prim.ev (.cell 1 0) [a4, a18]).bind fun a23 =>
        ifT a23 (
         (Prim.ev (.bnd) [a6, a12]).bind fun a24 =>
         (Prim.ev (.cell 8 0) [a6, a12]).bind fun a25 =>
         (Prim.ev (.cell 8 1) [a6, a12]).bind fun a26 =>
         (Prim.ev (.cell 8 2) [a6, a12]).bind fun a27 =>
         (Prim.ev (.cell 8 3) [a6, a12]).bind fun a28 =>
         (Prim.ev (.cell 8 4) [a6, a12]).bind fun a29 =>
         (Prim.ev (.cell 8 5) [a6, a12]).bind fun a30 =>
         (Prim.ev (.cell 8 6) [a6, a12]).bind fun a31 =>
         (Prim.ev (.cell 8 7) [a6, a12]).bind fun a32 =>
         (Prim.ev (.bin .add) [a18, ii 1]).bind fun a33 =>
         cl1 (f_s_l13Hears [a25, a26, a27, a28, a29, a30, a31, a32, a33, a10]) fun a34 =>
         ifT a34 (
          (Prim.ev (.bnd) [a6, a18]).bind fun a35 =>
          (Prim.ev (.cell 8 0) [a6, a18]).bind fun a36 =>
          (Prim.ev (.cell 8 1) [a6, a18]).bind fun a37 =>
          (Prim.ev (.cell 8 2) [a6, a18]).bind fun a38 =>
          (Prim.ev (.cell 8 3) [a6, a18]).bind fun a39 =>
          (Prim.ev (.cell 8 4) [a6, a18]).bind fun a40 =>
          (Prim.ev (.cell 8 5) [a6, a18]).bind fun a41 =>
          (Prim.ev (.cell 8 6) [a6, a18]).bind fun a42 =>
          (Prim.ev (.cell 8 7) [a6, a18]).bind fun a43 =>
          (Prim.ev (.bin .add) [a12, ii 1]).bind fun a44 =>
          cl1 (f_s_l13Hears [a36, a37, a38, a39, a40, a41, a42, a43, a44, a10]) fun a45 =>
          ifT a45 (
           (Prim.ev (.bnd) [a6, a12]).bind fun a46 =>
           (Prim.ev (.cell 8 6) [a6, a12]).bind fun a47 =>
           cl1 (f_s_Scope [a47, a10]) fun a48 =>
           (Prim.ev (.bnd) [a6, a18]).bind fun a49 =>
           (Prim.ev (.cell 8 6) [a6, a18]).bind fun a50 =>
           cl1 (f_s_Scope [a50, a10]) fun a51 =>
           cl1 (f_s_l13SameStore [a48, a51]) fun a52 =>
           (Prim.ev (.un .not) [a52]).bind fun a53 =>
           ifT a53 (
            (Prim.ev (.scl) [bb false]).bind fun a54 =>
            some [a54]) (
            (Prim.ev (.bin .add) [a18, ii 1]).bind fun a54 =>
            k1 [a17, a54])) (
           (Prim.ev (.bin .add) [a18, ii 1]).bind fun a46 =>
           k1 [a17, a46])) (
          (Prim.ev (.bin .add) [a18, ii 1]).bind fun a35 =>
          k1 [a17, a35])) (
         (Prim.ev (.bin .add) [a18, ii 1]).bind fun a24 =>
         k1 [a17, a24])) (
        (Prim.ev (.bin .add) [a18, ii 1]).bind fun a22 =>
        k1 [a17, a22])) (
       (Prim.ev (.bin .add) [a12, ii 1]).bind fun a20 =>
       k0 [a17, a20])) R [a11, ii 0]) (
     (Prim.ev (.scl) [bb true]).bind fun a17 =>
     some [a17])) (
    (Prim.ev (.scl) [bb true]).bind fun a15 =>
    some [a15])) R [bb false, ii 0]
theorem gr_s_AlikeIn (R : Nat) (f_s_l13Hears f_s_l13SameStore f_s_Scope : Sem1) (a0 a1 a2 a3 a4 a5 a6 a7 a8 a9 a10 : T) : p_s_AlikeIn.den (pick [(88, f_s_l13Hears), (89, f_s_l13SameStore), (90, f_s_Scope)]) R [] [a0, a1, a2, a3, a4, a5, a6, a7, a8, a9, a10] = G_s_AlikeIn R f_s_l13Hears f_s_l13SameStore f_s_Scope a0 a1 a2 a3 a4 a5 a6 a7 a8 a9 a10 := (den2_of (by kernel_rfl)).trans (by kernel_rfl)
theorem g_s_AlikeIn (a0 a1 a2 a3 a4 a5 a6 a7 a8 a9 a10 : T) : F_s_AlikeIn [a0, a1, a2, a3, a4, a5, a6, a7, a8, a9, a10] = G_s_AlikeIn rounds F_s_l13Hears F_s_l13SameStore F_s_Scope a0 a1 a2 a3 a4 a5 a6 a7 a8 a9 a10 := gr_s_AlikeIn rounds F_s_l13Hears F_s_l13SameStore F_s_Scope a0 a1 a2 a3 a4 a5 a6 a7 a8 a9 a10
def G_i_hears (R : Nat) (a0 a1 a2 a3 a4 a5 a6 a7 a8 a9 : T) : Option (List T) :=
  iter (fun k0 => ar2 fun a10 a11 =>
   (Prim.ev (.bin .add) [a11, ii 1]).bind fun a12 =>
   (Prim.ev (.len) [a5]).bind fun a13 =>
   (Prim.ev (.bin .lss) [a12, a13]).bind fun a14 =>
   ifT a14 (
    (Prim.ev (.bnd) [a5, a11]).bind fun a15 =>
    (Prim.ev (.cell 1 0) [a5, a11]).bind fun a16 =>
    (Prim.ev (.bin .eql) [a16, a8]).bind fun a17 =>
    ifT a17 (
     (Prim.ev (.bin .add) [a11, ii 1]).bind fun a18 =>
     (Prim.ev (.bnd) [a5, a18]).bind fun a19 =>
     (Prim.ev (.cell 1 0) [a5, a18]).bind fun a20 =>
     (Prim.ev (.bin .eql) [a20, a9]).bind fun a21 =>
     ifT a21 (
      (Prim.ev (.scl) [bb true]).bind fun a22 =>
      some [a22]) (
      (Prim.ev (.bin .add) [a11, ii 2]).bind fun a22 =>
      k0 [a10, a22])) (
     (Prim.ev (.bin .add) [a11, ii 2]).bind fun a18 =>
     k0 [a10, a18])) (
    (Prim.ev (.scl) [bb false]).bind fun a15 =>
    some [a15])) R [bb false, ii 0]
theorem gr_i_hears (R : Nat) (a0 a1 a2 a3 a4 a5 a6 a7 a8 a9 : T) : p_i_hears.den (pick []) R [] [a0, a1, a2, a3, a4, a5, a6, a7, a8, a9] = G_i_hears R a0 a1 a2 a3 a4 a5 a6 a7 a8 a9 := (den2_of (by kernel_rfl)).trans (by kernel_rfl)
theorem g_i_hears (a0 a1 a2 a3 a4 a5 a6 a7 a8 a9 : T) : F_i_hears [a0, a1, a2, a3, a4, a5, a6, a7, a8, a9] = G_i_hears rounds a0 a1 a2 a3 a4 a5 a6 a7 a8 a9 := gr_i_hears rounds a0 a1 a2 a3 a4 a5 a6 a7 a8 a9
def G_i_copyRecord (R : Nat) (a0 a1 a2 a3 a4 a5 a6 a7 : T) : Option (List T) :=
  (Prim.ev (.app true 2) [.l [], a5]).bind fun a8 =>
  (Prim.ev (.scl) [a7]).bind fun a9 =>
  (Prim.ev (.scl) [a6]).bind fun a10 =>
  (Prim.ev (.scl) [a4]).bind fun a11 =>
  (Prim.ev (.scl) [a3]).bind fun a12 =>
  (Prim.ev (.scl) [a2]).bind fun a13 =>
  (Prim.ev (.scl) [a1]).bind fun a14 =>
  (Prim.ev (.scl) [a0]).bind fun a15 =>
  some [a15, a14, a13, a12, a11, a8, a10, a9]
theorem gr_i_copyRecord (R : Nat) (a0 a1 a2 a3 a4 a5 a6 a7 : T) : p_i_copyRecord.den (pick []) R [] [a0, a1, a2, a3, a4, a5, a6, a7] = G_i_copyRecord R a0 a1 a2 a3 a4 a5 a6 a7 := (den2_of (by kernel_rfl)).trans (by kernel_rfl)
theorem g_i_copyRecord (a0 a1 a2 a3 a4 a5 a6 a7 : T) : F_i_copyRecord [a0, a1, a2, a3, a4, a5, a6, a7] = G_i_copyRecord rounds a0 a1 a2 a3 a4 a5 a6 a7 := gr_i_copyRecord rounds a0 a1 a2 a3 a4 a5 a6 a7
def G_i_Scope (R : Nat) (f_i_copyRecord : Sem1) (a0 a1 : T) : Option (List T) :=
  (Prim.ev (.len) [a0]).bind fun a2 =>
  iter (fun k0 => ar2 fun a3 a4 =>
   (Prim.ev (.bin .lss) [a4, a2]).bind fun a5 =>
   ifT a5 (
    (Prim.ev (.bnd) [a0, a4]).bind fun a6 =>
    (Prim.ev (.cell 8 0) [a0, a4]).bind fun a7 =>
    (Prim.ev (.cell 8 1) [a0, a4]).bind fun a8 =>
    (Prim.ev (.cell 8 2) [a0, a4]).bind fun a9 =>
    (Prim.ev (.cell 8 3) [a0, a4]).bind fun a10 =>
    (Prim.ev (.cell 8 4) [a0, a4]).bind fun a11 =>
    (Prim.ev (.cell 8 5) [a0, a4]).bind fun a12 =>
    (Prim.ev (.cell 8 6) [a0, a4]).bind fun a13 =>
    (Prim.ev (.cell 8 7) [a0, a4]).bind fun a14 =>
    (Prim.ev (.bin .eql) [a7, a1]).bind fun a15 =>
    ifT a15 (
     jn (ar1 fun a16 =>
      (Prim.ev (.bin .add) [a4, ii 1]).bind fun a17 =>
      k0 [a16, a17]) fun k1 =>
      cl8 (f_i_copyRecord [a7, a8, a9, a10, a11, a12, a13, a14]) fun a16 a17 a18 a19 a20 a21 a22 a23 =>
      (Prim.ev (.lit 8 [true, true, true, true, true, false, true, true]) [a16, a17, a18, a19, a20, a21, a22, a23]).bind fun a24 =>
      (Prim.ev (.app false 8) [a3, a24]).bind fun a25 =>
      k1 [a25]) (
     (Prim.ev (.bin .eql) [a7, ii 9]).bind fun a16 =>
     jn (ar1 fun a17 =>
      (Prim.ev (.bin .add) [a4, ii 1]).bind fun a18 =>
      k0 [a17, a18]) fun k1 =>
      ifT a16 (
       cl8 (f_i_copyRecord [a7, a8, a9, a10, a11, a12, a13, a14]) fun a17 a18 a19 a20 a21 a22 a23 a24 =>
       (Prim.ev (.lit 8 [true, true, true, true, true, false, true, true]) [a17, a18, a19, a20, a21, a22, a23, a24]).bind fun a25 =>
       (Prim.ev (.app false 8) [a3, a25]).bind fun a26 =>
       k1 [a26]) (
       k1 [a3]))) (
    some [a3])) R [.l [], ii 0]
theorem gr_i_Scope (R : Nat) (f_i_copyRecord : Sem1) (a0 a1 : T) : p_i_Scope.den (pick [(130, f_i_copyRecord)]) R [] [a0, a1] = G_i_Scope R f_i_copyRecord a0 a1 := (den2_of (by kernel_rfl)).trans (by kernel_rfl)
theorem g_i_Scope (a0 a1 : T) : F_i_Scope [a0, a1] = G_i_Scope rounds F_i_copyRecord a0 a1 := gr_i_Scope rounds F_i_copyRecord a0 a1
def G_i_sameRecords (R : Nat) (f_i_SameBody : Sem1) (a0 a1 : T) : Option (List T) :=
  (Prim.ev (.len) [a0]).bind fun a2 =>
  (Prim.ev (.len) [a1]).bind fun a3 =>
  (Prim.ev (.bin .neq) [a2, a3]).bind fun a4 =>
  ifT a4 (
   (Prim.ev (.scl) [bb false]).bind fun a5 =>
   some [a5]) (
   (Prim.ev (.len) [a0]).bind fun a5 =>
   iter (fun k0 => ar2 fun a6 a7 =>
    (Prim.ev (.bin .lss) [a7, a5]).bind fun a8 =>
    ifT a8 (
     (Prim.ev (.bnd) [a0, a7]).bind fun a9 =>
     (Prim.ev (.cell 8 0) [a0, a7]).bind fun a10 =>
     (Prim.ev (.cell 8 1) [a0, a7]).bind fun a11 =>
     (Prim.ev (.cell 8 2) [a0, a7]).bind fun a12 =>
     (Prim.ev (.cell 8 3) [a0, a7]).bind fun a13 =>
     (Prim.ev (.cell 8 4) [a0, a7]).bind fun a14 =>
     (Prim.ev (.cell 8 5) [a0, a7]).bind fun a15 =>
     (Prim.ev (.cell 8 6) [a0, a7]).bind fun a16 =>
     (Prim.ev (.cell 8 7) [a0, a7]).bind fun a17 =>
     (Prim.ev (.bnd) [a1, a7]).bind fun a18 =>
     (Prim.ev (.cell 8 0) [a1, a7]).bind fun a19 =>
     (Prim.ev (.cell 8 1) [a1, a7]).bind fun a20 =>
     (Prim.ev (.cell 8 2) [a1, a7]).bind fun a21 =>
     (Prim.ev (.cell 8 3) [a1, a7]).bind fun a22 =>
     (Prim.ev (.cell 8 4) [a1, a7]).bind fun a23 =>
     (Prim.ev (.cell 8 5) [a1, a7]).bind fun a24 =>
     (Prim.ev (.cell 8 6) [a1, a7]).bind fun a25 =>
     (Prim.ev (.cell 8 7) [a1, a7]).bind fun a26 =>
     cl1 (f_i_SameBody [a10, a11, a12, a13, a14, a15, a16, a17, a19, a20, a21, a22, a23, a24, a25, a26]) fun a27 =>
     (Prim.ev (.un .not) [a27]).bind fun a28 =>
     ifT a28 (
      (Prim.ev (.scl) [bb false]).bind fun a29 =>
      some [a29]) (
      (Prim.ev (.bnd) [a0, a7]).bind fun a29 =>
      (Prim.ev (.cell 8 4) [a0, a7]).bind fun a30 =>
      (Prim.ev (.bnd) [a1, a7]).bind fun a31 =>
      (Prim.ev (.cell 8 4) [a1, a7]).bind fun a32 =>
      (Prim.ev (.bin .neq) [a30, a32]).bind fun a33 =>
      ifT a33 (
       (Prim.ev (.scl) [bb false]).bind fun a34 =>
       some [a34]) (
       (Prim.ev (.bin .add) [a7, ii 1]).bind fun a34 =>
       k0 [a6, a34]))) (
     (Prim.ev (.scl) [bb true]).bind fun a9 =>
     some [a9])) R [bb false, ii 0])
theorem gr_i_sameRecords (R : Nat) (f_i_SameBody : Sem1) (a0 a1 : T) : p_i_sameRecords.den (pick [(118, f_i_SameBody)]) R [] [a0, a1] = G_i_sameRecords R f_i_SameBody a0 a1 := (den2_of (by kernel_rfl)).trans (by kernel_rfl)
theorem g_i_sameRecords (a0 a1 : T) : F_i_sameRecords [a0, a1] = G_i_sameRecords rounds F_i_SameBody a0 a1 := gr_i_sameRecords rounds F_i_SameBody a0 a1
def G_i_AlikeIn (R : Nat) (f_i_World_up f_i_hears f_i_sameRecords f_i_Scope : Sem1) (a0 a1 a2 a3 a4 a5 a6 a7 a8 a9 a10 : T) : Option (List T) :=
  (Prim.ev (.len) [a6]).bind fun a11 =>
  iter (fun k0 => ar12 fun a12 a13 a14 a15 a16 a17 a18 a19 a20 a21 a22 a23 =>
   (Prim.ev (.bin .lss) [a13, a11]).bind fun a24 =>
   ifT a24 (
    (Prim.ev (.bnd) [a6, a13]).bind fun a25 =>
    (Prim.ev (.cell 8 0) [a6, a13]).bind fun a26 =>
    (Prim.ev (.cell 8 1) [a6, a13]).bind fun a27 =>
    (Prim.ev (.cell 8 2) [a6, a13]).bind fun a28 =>
    (Prim.ev (.cell 8 3) [a6, a13]).bind fun a29 =>
    (Prim.ev (.cell 8 4) [a6, a13]).bind fun a30 =>
    (Prim.ev (.cell 8 5) [a6, a13]).bind fun a31 =>
    (Prim.ev (.cell 8 6) [a6, a13]).bind fun a32 =>
    (Prim.ev (.cell 8 7) [a6, a13]).bind fun a33 =>
    (Prim.ev (.sub 8 false true) [a20, a13]).bind fun a34 =>
    (Prim.ev (.len) [a34]).bind fun a35 =>
    iter (fun k1 => ar12 fun a36 a37 a38 a39 a40 a41 a42 a43 a44 a45 a46 a47 =>
     (Prim.ev (.bin .lss) [a37, a35]).bind fun a48 =>
     ifT a48 (
      (Prim.ev (.bnd) [a34, a37]).bind fun a49 =>
      (Prim.ev (.cell 8 0) [a34, a37]).bind fun a50 =>
      (Prim.ev (.cell 8 1) [a34, a37]).bind fun a51 =>
      (Prim.ev (.cell 8 2) [a34, a37]).bind fun a52 =>
      (Prim.ev (.cell 8 3) [a34, a37]).bind fun a53 =>
      (Prim.ev (.cell 8 4) [a34, a37]).bind fun a54 =>
      (Prim.ev (.cell 8 5) [a34, a37]).bind fun a55 =>
      (Prim.ev (.cell 8 6) [a34, a37]).bind fun a56 =>
      (Prim.ev (.cell 8 7) [a34, a37]).bind fun a57 =>
      (Prim.ev (.bin .add) [a13, ii 1]).bind fun a58 =>
      cl11 (f_i_World_up [a38, a39, a40, a41, a42, a43, a44, a45, a46, a47, a58]) fun a59 a60 a61 a62 a63 a64 a65 a66 a67 a68 a69 =>
      ifT a59 (
       (Prim.ev (.bin .add) [a37, ii 1]).bind fun a70 =>
       cl11 (f_i_World_up [a60, a61, a62, a63, a64, a65, a66, a67, a68, a69, a70]) fun a71 a72 a73 a74 a75 a76 a77 a78 a79 a80 a81 =>
       ifT a71 (
        (Prim.ev (.bin .add) [a37, ii 1]).bind fun a82 =>
        cl1 (f_i_hears [a26, a27, a28, a29, a30, a31, a32, a33, a82, a10]) fun a83 =>
        ifT a83 (
         (Prim.ev (.bin .add) [a13, ii 1]).bind fun a84 =>
         cl1 (f_i_hears [a50, a51, a52, a53, a54, a55, a56, a57, a84, a10]) fun a85 =>
         ifT a85 (
          cl1 (f_i_Scope [a32, a10]) fun a86 =>
          cl1 (f_i_Scope [a56, a10]) fun a87 =>
          cl1 (f_i_sameRecords [a86, a87]) fun a88 =>
          (Prim.ev (.un .not) [a88]).bind fun a89 =>
          ifT a89 (
           (Prim.ev (.scl) [bb false]).bind fun a90 =>
           some [a90]) (
           (Prim.ev (.bin .add) [a37, ii 1]).bind fun a90 =>
           k1 [a36, a90, a72, a73, a74, a75, a76, a77, a78, a79, a80, a81])) (
          (Prim.ev (.bin .add) [a37, ii 1]).bind fun a86 =>
          k1 [a36, a86, a72, a73, a74, a75, a76, a77, a78, a79, a80, a81])) (
         (Prim.ev (.bin .add) [a37, ii 1]).bind fun a84 =>
         k1 [a36, a84, a72, a73, a74, a75, a76, a77, a78, a79, a80, a81])) (
        (Prim.ev (.bin .add) [a37, ii 1]).bind fun a82 =>
        k1 [a36, a82, a72, a73, a74, a75, a76, a77, a78, a79, a80, a81])) (
       (Prim.ev (.bin .add) [a37, ii 1]).bind fun a70 =>
       k1 [a36, a70, a60, a61, a62, a63, a64, a65, a66, a67, a68, a69])) (
      (Prim.ev (.bin .add) [a13, ii 1]).bind fun a49 =>
      k0 [a36, a49, a38, a39, a40, a41, a42, a43, a44, a45, a46, a47])) R [a12, ii 0, a14, a15, a16, a17, a18, a19, a20, a21, a22, a23]) (
    (Prim.ev (.scl) [bb true]).bind fun a25 =>
    some [a25])) R [bb false, ii 0, a0, a1, a2, a3, a4, a5, a6, a7, a8, a9]
theorem gr_i_AlikeIn (R : Nat) (f_i_World_up f_i_hears f_i_sameRecords f_i_Scope : Sem1) (a0 a1 a2 a3 a4 a5 a6 a7 a8 a9 a10 : T) : p_i_AlikeIn.den (pick [(66, f_i_World_up), (91, f_i_hears), (92, f_i_sameRecords), (93, f_i_Scope)]) R [] [a0, a1, a2, a3, a4, a5, a6, a7, a8, a9, a10] = G_i_AlikeIn R f_i_World_up f_i_hears f_i_sameRecords f_i_Scope a0 a1 a2 a3 a4 a5 a6 a7 a8 a9 a10 := (den2_of (by kernel_rfl)).trans (by kernel_rfl)
theorem g_i_AlikeIn (a0 a1 a2 a3 a4 a5 a6 a7 a8 a9 a10 : T) : F_i_AlikeIn [a0, a1, a2, a3, a4, a5, a6, a7, a8, a9, a10] = G_i_AlikeIn rounds F_i_World_up F_i_hears F_i_sameRecords F_i_Scope a0 a1 a2 a3 a4 a5 a6 a7 a8 a9 a10 := gr_i_AlikeIn rounds F_i_World_up F_i_hears F_i_sameRecords F_i_Scope a0 a1 a2 a3 a4 a5 a6 a7 a8 a9 a10
def G_FnExactAlikeIn (R : Nat) (f_szWorld f_toWorld f_eqWorld f_s_AlikeIn f_i_AlikeIn : Sem1) (a0 a1 a2 a3 a4 a5 a6 a7 a8 a9 a10 : T) : Option (List T) :=
  cl1 (f_szWorld [a0, a1, a2, a3, a4, a5, a6, a7, a8, a9, ii 1048576]) fun a11 =>
  (Prim.ev (.bin .lss) [a11, ii 0]).bind fun a12 =>
  ifT a12 (
   (Prim.ev (.scl) [bb true]).bind fun a13 =>
   some [a13]) (
   cl10 (f_toWorld [a0, a1, a2, a3, a4, a5, a6, a7, a8, a9]) fun a13 a14 a15 a16 a17 a18 a19 a20 a21 a22 =>
   cl1 (f_s_AlikeIn [a13, a14, a15, a16, a17, a18, a19, a20, a21, a22, a10]) fun a23 =>
   cl10 (f_toWorld [a0, a1, a2, a3, a4, a5, a6, a7, a8, a9]) fun a24 a25 a26 a27 a28 a29 a30 a31 a32 a33 =>
   cl1 (f_i_AlikeIn [a24, a25, a26, a27, a28, a29, a30, a31, a32, a33, a10]) fun a34 =>
   (Prim.ev (.bb .neq) [a34, a23]).bind fun a35 =>
   ifT a35 (
    (Prim.ev (.scl) [bb false]).bind fun a36 =>
    some [a36]) (
    cl10 (f_toWorld [a0, a1, a2, a3, a4, a5, a6, a7, a8, a9]) fun a36 a37 a38 a39 a40 a41 a42 a43 a44 a45 =>
    cl1 (f_eqWorld [a24, a25, a26, a27, a28, a29, a30, a31, a32, a33, a36, a37, a38, a39, a40, a41, a42, a43, a44, a45]) fun a46 =>
    (Prim.ev (.un .not) [a46]).bind fun a47 =>
    ifT a47 (
     (Prim.ev (.scl) [bb false]).bind fun a48 =>
     some [a48]) (
     (Prim.ev (.scl) [bb true]).bind fun a48 =>
     some [a48])))
theorem gr_FnExactAlikeIn (R : Nat) (f_szWorld f_toWorld f_eqWorld f_s_AlikeIn f_i_AlikeIn : Sem1) (a0 a1 a2 a3 a4 a5 a6 a7 a8 a9 a10 : T) : p_FnExactAlikeIn.den (pick [(23, f_szWorld), (25, f_toWorld), (27, f_eqWorld), (35, f_s_AlikeIn), (36, f_i_AlikeIn)]) R [] [a0, a1, a2, a3, a4, a5, a6, a7, a8, a9, a10] = G_FnExactAlikeIn R f_szWorld f_toWorld f_eqWorld f_s_AlikeIn f_i_AlikeIn a0 a1 a2 a3 a4 a5 a6 a7 a8 a9 a10 := (den2_of (by kernel_rfl)).trans (by kernel_rfl)
theorem g_FnExactAlikeIn (a0 a1 a2 a3 a4 a5 a6 a7 a8 a9 a10 : T) : F_FnExactAlikeIn [a0, a1, a2, a3, a4, a5, a6, a7, a8, a9, a10] = G_FnExactAlikeIn rounds F_szWorld F_toWorld F_eqWorld F_s_AlikeIn F_i_AlikeIn a0 a1 a2 a3 a4 a5 a6 a7 a8 a9 a10 := gr_FnExactAlikeIn rounds F_szWorld F_toWorld F_eqWorld F_s_AlikeIn F_i_AlikeIn a0 a1 a2 a3 a4 a5 a6 a7 a8 a9 a10
end Go.Proofs.YtcknaignbagihaaC
