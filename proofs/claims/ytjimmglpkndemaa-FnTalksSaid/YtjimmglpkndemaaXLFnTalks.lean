/- FnTalks: what the plain programs say. Conditions: none. -/
import Derived.Test.YtjimmglpkndemaaXET
import Derived.KernelRfl
namespace Go.Proofs.YtjimmglpkndemaaC
set_option linter.unusedVariables false
set_option linter.unusedSimpArgs false
def ys_FnTalks:List Ty:=[.sl [.i .u8]]
theorem rem_nat (n k:Nat) (hk:0 < k):Prim.ev (.bin .rem) [ii (n:Int),ii (k:Int)]=some (ii ((n % k:Nat):Int)):=by
 rw [ev_rem64 _ _ (by omega),Int.ofNat_tmod]
theorem Yn_l (xs:List (List T)) (k:T→Option (List T)):Yn (.l xs) k=k (ii (xs.length:Int)):=rfl
theorem rem9 (n:Nat) (k:T→Option (List T)):pv (.bin .rem) [ii (n:Int),ii 9] k=k (ii ((n % 9:Nat):Int)):=by
 unfold pv;rw [show (9:Int)=((9:Nat):Int) from rfl,rem_nat n 9 (by decide)];rfl
theorem rem3 (n:Nat) (k:T→Option (List T)):pv (.bin .rem) [ii (n:Int),ii 3] k=k (ii ((n % 3:Nat):Int)):=by
 unfold pv;rw [show (3:Int)=((3:Nat):Int) from rfl,rem_nat n 3 (by decide)];rfl
theorem rem5 (n:Nat) (k:T→Option (List T)):pv (.bin .rem) [ii (n:Int),ii 5] k=k (ii ((n % 5:Nat):Int)):=by
 unfold pv;rw [show (5:Int)=((5:Nat):Int) from rfl,rem_nat n 5 (by decide)];rfl
theorem big_run (xs:List (List T)):F_big [.l xs]=some [bb (decide ((xs.length:Int) > 1048576))]:=by
 rw [g_big];simp only [G_big,Yn_l,Yg,Yz,ev_gtr,bind_some',ev_scl_b]
theorem l1_same (f1 f2 f3 f4 f5:Sem1) (xs ys:List (List T)) (h9:xs.length % 9=ys.length % 9):G_FnTalks_l1 rounds f1 f2 f3 f4 f5 (.l xs)=G_FnTalks_l1 rounds f1 f2 f3 f4 f5 (.l ys):=by
 funext a19 a28 k0 ts
 simp (implicitDefEqProofs:=false) only [G_FnTalks_l1,Yn_l,rem9,h9]
theorem same_len (xs ys:List (List T)) (h:xs.length % 45=ys.length % 45) (h1:xs.length≤1048576) (h2:ys.length≤1048576):F_FnTalks [.l xs]=F_FnTalks [.l ys]:=by
 have h9:xs.length % 9=ys.length % 9:=by omega
 have h3:xs.length % 3=ys.length % 3:=by omega
 have h5:xs.length % 5=ys.length % 5:=by omega
 have b1:¬ ((xs.length:Int) > 1048576):=by omega
 have b2:¬ ((ys.length:Int) > 1048576):=by omega
 rw [g_FnTalks,g_FnTalks]
 unfold G_FnTalks
 rw [big_run,big_run,decide_eq_false b1,decide_eq_false b2]
 simp (implicitDefEqProofs:=false) only [Yn_l,rem9,rem3,rem5,h9,h3,h5,l1_same _ _ _ _ _ xs ys h9]
def inp (n:Nat):List T:=[.l (List.replicate n [.c (.int .u8 0)])]
set_option maxHeartbeats 4000000 in
theorem c0:H_FnTalks (inp 0)=some [.c (.bool true)]:=by kernel_rfl
set_option maxHeartbeats 4000000 in
theorem c1:H_FnTalks (inp 1)=some [.c (.bool true)]:=by kernel_rfl
set_option maxHeartbeats 4000000 in
theorem c2:H_FnTalks (inp 2)=some [.c (.bool true)]:=by kernel_rfl
set_option maxHeartbeats 4000000 in
theorem c3:H_FnTalks (inp 3)=some [.c (.bool true)]:=by kernel_rfl
set_option maxHeartbeats 4000000 in
theorem c4:H_FnTalks (inp 4)=some [.c (.bool true)]:=by kernel_rfl
set_option maxHeartbeats 4000000 in
theorem c5:H_FnTalks (inp 5)=some [.c (.bool true)]:=by kernel_rfl
set_option maxHeartbeats 4000000 in
theorem c6:H_FnTalks (inp 6)=some [.c (.bool true)]:=by kernel_rfl
set_option maxHeartbeats 4000000 in
theorem c7:H_FnTalks (inp 7)=some [.c (.bool true)]:=by kernel_rfl
set_option maxHeartbeats 4000000 in
theorem c8:H_FnTalks (inp 8)=some [.c (.bool true)]:=by kernel_rfl
set_option maxHeartbeats 4000000 in
theorem c9:H_FnTalks (inp 9)=some [.c (.bool true)]:=by kernel_rfl
set_option maxHeartbeats 4000000 in
theorem c10:H_FnTalks (inp 10)=some [.c (.bool true)]:=by kernel_rfl
set_option maxHeartbeats 4000000 in
theorem c11:H_FnTalks (inp 11)=some [.c (.bool true)]:=by kernel_rfl
set_option maxHeartbeats 4000000 in
theorem c12:H_FnTalks (inp 12)=some [.c (.bool true)]:=by kernel_rfl
set_option maxHeartbeats 4000000 in
theorem c13:H_FnTalks (inp 13)=some [.c (.bool true)]:=by kernel_rfl
set_option maxHeartbeats 4000000 in
theorem c14:H_FnTalks (inp 14)=some [.c (.bool true)]:=by kernel_rfl
set_option maxHeartbeats 4000000 in
theorem c15:H_FnTalks (inp 15)=some [.c (.bool true)]:=by kernel_rfl
set_option maxHeartbeats 4000000 in
theorem c16:H_FnTalks (inp 16)=some [.c (.bool true)]:=by kernel_rfl
set_option maxHeartbeats 4000000 in
theorem c17:H_FnTalks (inp 17)=some [.c (.bool true)]:=by kernel_rfl
set_option maxHeartbeats 4000000 in
theorem c18:H_FnTalks (inp 18)=some [.c (.bool true)]:=by kernel_rfl
set_option maxHeartbeats 4000000 in
theorem c19:H_FnTalks (inp 19)=some [.c (.bool true)]:=by kernel_rfl
set_option maxHeartbeats 4000000 in
theorem c20:H_FnTalks (inp 20)=some [.c (.bool true)]:=by kernel_rfl
set_option maxHeartbeats 4000000 in
theorem c21:H_FnTalks (inp 21)=some [.c (.bool true)]:=by kernel_rfl
set_option maxHeartbeats 4000000 in
theorem c22:H_FnTalks (inp 22)=some [.c (.bool true)]:=by kernel_rfl
set_option maxHeartbeats 4000000 in
theorem c23:H_FnTalks (inp 23)=some [.c (.bool true)]:=by kernel_rfl
set_option maxHeartbeats 4000000 in
theorem c24:H_FnTalks (inp 24)=some [.c (.bool true)]:=by kernel_rfl
set_option maxHeartbeats 4000000 in
theorem c25:H_FnTalks (inp 25)=some [.c (.bool true)]:=by kernel_rfl
set_option maxHeartbeats 4000000 in
theorem c26:H_FnTalks (inp 26)=some [.c (.bool true)]:=by kernel_rfl
set_option maxHeartbeats 4000000 in
theorem c27:H_FnTalks (inp 27)=some [.c (.bool true)]:=by kernel_rfl
set_option maxHeartbeats 4000000 in
theorem c28:H_FnTalks (inp 28)=some [.c (.bool true)]:=by kernel_rfl
set_option maxHeartbeats 4000000 in
theorem c29:H_FnTalks (inp 29)=some [.c (.bool true)]:=by kernel_rfl
set_option maxHeartbeats 4000000 in
theorem c30:H_FnTalks (inp 30)=some [.c (.bool true)]:=by kernel_rfl
set_option maxHeartbeats 4000000 in
theorem c31:H_FnTalks (inp 31)=some [.c (.bool true)]:=by kernel_rfl
set_option maxHeartbeats 4000000 in
theorem c32:H_FnTalks (inp 32)=some [.c (.bool true)]:=by kernel_rfl
set_option maxHeartbeats 4000000 in
theorem c33:H_FnTalks (inp 33)=some [.c (.bool true)]:=by kernel_rfl
set_option maxHeartbeats 4000000 in
theorem c34:H_FnTalks (inp 34)=some [.c (.bool true)]:=by kernel_rfl
set_option maxHeartbeats 4000000 in
theorem c35:H_FnTalks (inp 35)=some [.c (.bool true)]:=by kernel_rfl
set_option maxHeartbeats 4000000 in
theorem c36:H_FnTalks (inp 36)=some [.c (.bool true)]:=by kernel_rfl
set_option maxHeartbeats 4000000 in
theorem c37:H_FnTalks (inp 37)=some [.c (.bool true)]:=by kernel_rfl
set_option maxHeartbeats 4000000 in
theorem c38:H_FnTalks (inp 38)=some [.c (.bool true)]:=by kernel_rfl
set_option maxHeartbeats 4000000 in
theorem c39:H_FnTalks (inp 39)=some [.c (.bool true)]:=by kernel_rfl
set_option maxHeartbeats 4000000 in
theorem c40:H_FnTalks (inp 40)=some [.c (.bool true)]:=by kernel_rfl
set_option maxHeartbeats 4000000 in
theorem c41:H_FnTalks (inp 41)=some [.c (.bool true)]:=by kernel_rfl
set_option maxHeartbeats 4000000 in
theorem c42:H_FnTalks (inp 42)=some [.c (.bool true)]:=by kernel_rfl
set_option maxHeartbeats 4000000 in
theorem c43:H_FnTalks (inp 43)=some [.c (.bool true)]:=by kernel_rfl
set_option maxHeartbeats 4000000 in
theorem c44:H_FnTalks (inp 44)=some [.c (.bool true)]:=by kernel_rfl
theorem all45:∀ n,n < 45→H_FnTalks (inp n)=some [.c (.bool true)]
 | 0,_=>c0
 | 1,_=>c1
 | 2,_=>c2
 | 3,_=>c3
 | 4,_=>c4
 | 5,_=>c5
 | 6,_=>c6
 | 7,_=>c7
 | 8,_=>c8
 | 9,_=>c9
 | 10,_=>c10
 | 11,_=>c11
 | 12,_=>c12
 | 13,_=>c13
 | 14,_=>c14
 | 15,_=>c15
 | 16,_=>c16
 | 17,_=>c17
 | 18,_=>c18
 | 19,_=>c19
 | 20,_=>c20
 | 21,_=>c21
 | 22,_=>c22
 | 23,_=>c23
 | 24,_=>c24
 | 25,_=>c25
 | 26,_=>c26
 | 27,_=>c27
 | 28,_=>c28
 | 29,_=>c29
 | 30,_=>c30
 | 31,_=>c31
 | 32,_=>c32
 | 33,_=>c33
 | 34,_=>c34
 | 35,_=>c35
 | 36,_=>c36
 | 37,_=>c37
 | 38,_=>c38
 | 39,_=>c39
 | 40,_=>c40
 | 41,_=>c41
 | 42,_=>c42
 | 43,_=>c43
 | 44,_=>c44
 | n+45,h=>absurd h (by omega)
theorem true_FnTalks (ts:List T) (h:WTs ys_FnTalks ts):F_FnTalks ts=some [.c (.bool true)]:=by
 obtain ⟨t1,_,rfl,q1,rfl⟩:=WTsU_of h
 unfold WT at q1
 obtain ⟨xs,rfl,m1,g1⟩:=q1
 by_cases hb:(xs.length:Int) > 1048576
 ·rw [g_FnTalks]
  unfold G_FnTalks
  rw [big_run,decide_eq_true hb]
  rfl
 ·have hl:(List.replicate (xs.length % 45) ([.c (.int .u8 0)]:List T)).length=xs.length % 45:=List.length_replicate ..
  rw [same_len xs (List.replicate (xs.length % 45) [.c (.int .u8 0)]) (by rw [hl];omega) (by omega) (by rw [hl];omega)]
  have:=all45 (xs.length % 45) (Nat.mod_lt _ (by decide))
  rw [h_FnTalks] at this
  exact this
end Go.Proofs.YtjimmglpkndemaaC
