/- The native functions, with what is handed over worked out at each call (printed by a program). Conditions: none. -/
import Derived.Test.YtjimmglpkndemaaXGT
namespace Go.Proofs.YtjimmglpkndemaaC
set_option linter.unusedVariables false
section
variable {α:Type}
def fN (m:Nat) (k:Nat→α):α:=match m with
 | 0=>k 0
 | m+1=>k (m+1)
theorem fN_eq (m:Nat) (k:Nat→α):fN m k=k m:=by cases m <;> rfl
def fI (n:Int) (k:Int→α):α:=match n with
 | .ofNat m=>fN m fun m=>k (.ofNat m)
 | .negSucc m=>fN m fun m=>k (.negSucc m)
theorem fI_eq (n:Int) (k:Int→α):fI n k=k n:=by cases n <;> simp [fI,fN_eq]
def fV (v:Value) (k:Value→α):α:=match v with
 | .int .i64 n=>fI n fun n=>k (.int .i64 n)
 | .bool true=>k (.bool true)
 | .bool false=>k (.bool false)
 | v=>k v
theorem fV_eq (v:Value) (k:Value→α):fV v k=k v:=by
 unfold fV
 split
 ·rw [fI_eq]
 all_goals rfl
def fRow (f:T→(T→α)→α):List T→(List T→α)→α
 | [],k=>k []
 | t :: l,k=>f t fun t=>fRow f l fun l=>k (t :: l)
theorem fRow_eq {f:T→(T→α)→α} (hf:∀ t k,f t k=k t):∀ (l:List T) (k:List T→α),fRow f l k=k l
 | [],k=>rfl
 | t :: l,k=>by rw [fRow,hf,fRow_eq hf l]
def fRows (f:T→(T→α)→α):List (List T)→(List (List T)→α)→α
 | [],k=>k []
 | t :: l,k=>fRow f t fun t=>fRows f l fun l=>k (t :: l)
theorem fRows_eq {f:T→(T→α)→α} (hf:∀ t k,f t k=k t):∀ (l:List (List T)) (k:List (List T)→α),fRows f l k=k l
 | [],k=>rfl
 | t :: l,k=>by rw [fRows,fRow_eq hf,fRows_eq hf l]
def fT:Nat→T→(T→α)→α
 | 0,t,k=>k t
 | n+1,t,k=>match t with
  | .c v=>fV v fun v=>k (.c v)
  | .l xs=>fRows (fT n) xs fun xs=>k (.l xs)
theorem fT_eq:∀ (n:Nat) (t:T) (k:T→α),fT n t k=k t
 | 0,t,k=>rfl
 | n+1,.c v,k=>by rw [fT];exact fV_eq _ _
 | n+1,.l xs,k=>by rw [fT];exact fRows_eq (fT_eq n) _ _
end
def fTs (ts:List T) (k:List T→Option (List T)):Option (List T):=fRow (fT 4) ts k
theorem fTs_eq (ts:List T) (k:List T→Option (List T)):fTs ts k=k ts:=fRow_eq (fT_eq 4) ts k
def fO (x:Option (List T)):Option (List T):=match x with
 | some l=>fTs l some
 | none=>none
theorem fO_eq (x:Option (List T)):fO x=x:=by cases x <;> simp [fO,fTs_eq]
def H_big:Sem1:=fun ts=>fTs ts fun ts=>fO (match ts with
 | [a0]=>G_big a0
 | ts=>F_big ts)
theorem h_big:H_big=F_big:=by
 funext ts
 unfold H_big
 rw [fTs_eq,fO_eq]
 split
 ·rw [g_big]
 ·rfl
def H_i_copyNet:Sem1:=fun ts=>fTs ts fun ts=>fO (match ts with
 | [a0,a1,a2]=>G_i_copyNet a0 a1 a2
 | ts=>F_i_copyNet ts)
theorem h_i_copyNet:H_i_copyNet=F_i_copyNet:=by
 funext ts
 unfold H_i_copyNet
 rw [fTs_eq,fO_eq]
 split
 ·rw [g_i_copyNet]
 ·rfl
def H_i_in:Sem1:=fun ts=>fTs ts fun ts=>fO (match ts with
 | [a0,a1,a2]=>G_i_in a0 a1 a2
 | ts=>F_i_in ts)
theorem h_i_in:H_i_in=F_i_in:=by
 funext ts
 unfold H_i_in
 rw [fTs_eq,fO_eq]
 split
 ·rw [g_i_in]
 ·rfl
def H_i_LinkOk:Sem1:=fun ts=>fTs ts fun ts=>fO (match ts with
 | [a0,a1,a2,a3,a4]=>G_i_LinkOk H_i_in a0 a1 a2 a3 a4
 | ts=>F_i_LinkOk ts)
theorem h_i_LinkOk:H_i_LinkOk=F_i_LinkOk:=by
 funext ts
 unfold H_i_LinkOk
 rw [fTs_eq,fO_eq]
 split
 ·rw [h_i_in,g_i_LinkOk]
 ·rfl
def H_i_ahead:Sem1:=fun ts=>fTs ts fun ts=>fO (match ts with
 | [a0,a1,a2,a3,a4,a5,a6,a7]=>G_i_ahead a0 a1 a3 a4 a5 a7
 | ts=>F_i_ahead ts)
theorem h_i_ahead:H_i_ahead=F_i_ahead:=by
 funext ts
 unfold H_i_ahead
 rw [fTs_eq,fO_eq]
 split
 ·rw [g_i_ahead]
 ·rfl
def H_i_less:Sem1:=fun ts=>fTs ts fun ts=>fO (match ts with
 | [a0,a1,a2,a3,a4,a5,a6,a7]=>G_i_less a0 a1 a4 a5
 | ts=>F_i_less ts)
theorem h_i_less:H_i_less=F_i_less:=by
 funext ts
 unfold H_i_less
 rw [fTs_eq,fO_eq]
 split
 ·rw [g_i_less]
 ·rfl
def H_i_NetOk:Sem1:=fun ts=>fTs ts fun ts=>fO (match ts with
 | [a0,a1,a2]=>G_i_NetOk rounds H_i_LinkOk H_i_ahead H_i_in H_i_less a0 a1 a2
 | ts=>F_i_NetOk ts)
theorem h_i_NetOk:H_i_NetOk=F_i_NetOk:=by
 funext ts
 unfold H_i_NetOk
 rw [fTs_eq,fO_eq]
 split
 ·rw [h_i_LinkOk,h_i_ahead,h_i_in,h_i_less,g_i_NetOk]
 ·rfl
def H_i_linkAt:Sem1:=fun ts=>fTs ts fun ts=>fO (match ts with
 | [a0,a1,a2,a3,a4,a5]=>G_i_linkAt rounds a1 a3 a4 a5
 | ts=>F_i_linkAt ts)
theorem h_i_linkAt:H_i_linkAt=F_i_linkAt:=by
 funext ts
 unfold H_i_linkAt
 rw [fTs_eq,fO_eq]
 split
 ·rw [g_i_linkAt]
 ·rfl
def H_i_heardOk:Sem1:=fun ts=>fTs ts fun ts=>fO (match ts with
 | [a0,a1,a2,a3,a4,a5,a6]=>G_i_heardOk rounds H_i_linkAt a0 a2 a3 a4 a5
 | ts=>F_i_heardOk ts)
theorem h_i_heardOk:H_i_heardOk=F_i_heardOk:=by
 funext ts
 unfold H_i_heardOk
 rw [fTs_eq,fO_eq]
 split
 ·rw [h_i_linkAt,g_i_heardOk]
 ·rfl
def H_i_nearOk:Sem1:=fun ts=>fTs ts fun ts=>fO (match ts with
 | [a0,a1,a2,a3,a4,a5,a6,a7]=>G_i_nearOk rounds H_i_in a2 a5
 | ts=>F_i_nearOk ts)
theorem h_i_nearOk:H_i_nearOk=F_i_nearOk:=by
 funext ts
 unfold H_i_nearOk
 rw [fTs_eq,fO_eq]
 split
 ·rw [h_i_in,g_i_nearOk]
 ·rfl
def H_i_RecordOk:Sem1:=fun ts=>fTs ts fun ts=>fO (match ts with
 | [a0,a1,a2,a3,a4,a5,a6,a7]=>G_i_RecordOk H_i_in H_i_nearOk a0 a1 a2 a3 a4 a5 a6 a7
 | ts=>F_i_RecordOk ts)
theorem h_i_RecordOk:H_i_RecordOk=F_i_RecordOk:=by
 funext ts
 unfold H_i_RecordOk
 rw [fTs_eq,fO_eq]
 split
 ·rw [h_i_in,h_i_nearOk,g_i_RecordOk]
 ·rfl
def H_i_Before:Sem1:=fun ts=>fTs ts fun ts=>fO (match ts with
 | [a0,a1,a2,a3,a4,a5,a6,a7,a8,a9,a10,a11,a12,a13,a14,a15]=>G_i_Before a0 a1 a2 a3 a8 a9 a10 a11
 | ts=>F_i_Before ts)
theorem h_i_Before:H_i_Before=F_i_Before:=by
 funext ts
 unfold H_i_Before
 rw [fTs_eq,fO_eq]
 split
 ·rw [g_i_Before]
 ·rfl
def H_i_StoreOk:Sem1:=fun ts=>fTs ts fun ts=>fO (match ts with
 | [a0]=>G_i_StoreOk rounds H_i_Before H_i_RecordOk a0
 | ts=>F_i_StoreOk ts)
theorem h_i_StoreOk:H_i_StoreOk=F_i_StoreOk:=by
 funext ts
 unfold H_i_StoreOk
 rw [fTs_eq,fO_eq]
 split
 ·rw [h_i_Before,h_i_RecordOk,g_i_StoreOk]
 ·rfl
def H_i_SelfOk:Sem1:=fun ts=>fTs ts fun ts=>fO (match ts with
 | [a0,a1,a2,a3,a4,a5,a6]=>G_i_SelfOk H_i_NetOk H_i_StoreOk H_i_heardOk H_i_in a0 a1 a2 a3 a4 a5 a6
 | ts=>F_i_SelfOk ts)
theorem h_i_SelfOk:H_i_SelfOk=F_i_SelfOk:=by
 funext ts
 unfold H_i_SelfOk
 rw [fTs_eq,fO_eq]
 split
 ·rw [h_i_NetOk,h_i_StoreOk,h_i_heardOk,h_i_in,g_i_SelfOk]
 ·rfl
def H_i_copyInts:Sem1:=fun ts=>fTs ts fun ts=>fO (match ts with
 | [a0]=>G_i_copyInts a0
 | ts=>F_i_copyInts ts)
theorem h_i_copyInts:H_i_copyInts=F_i_copyInts:=by
 funext ts
 unfold H_i_copyInts
 rw [fTs_eq,fO_eq]
 split
 ·rw [g_i_copyInts]
 ·rfl
def H_i_copyRecord:Sem1:=fun ts=>fTs ts fun ts=>fO (match ts with
 | [a0,a1,a2,a3,a4,a5,a6,a7]=>G_i_copyRecord a0 a1 a2 a3 a4 a5 a6 a7
 | ts=>F_i_copyRecord ts)
theorem h_i_copyRecord:H_i_copyRecord=F_i_copyRecord:=by
 funext ts
 unfold H_i_copyRecord
 rw [fTs_eq,fO_eq]
 split
 ·rw [g_i_copyRecord]
 ·rfl
def H_i_copyRecords:Sem1:=fun ts=>fTs ts fun ts=>fO (match ts with
 | [a0]=>G_i_copyRecords rounds H_i_copyRecord a0
 | ts=>F_i_copyRecords ts)
theorem h_i_copyRecords:H_i_copyRecords=F_i_copyRecords:=by
 funext ts
 unfold H_i_copyRecords
 rw [fTs_eq,fO_eq]
 split
 ·rw [h_i_copyRecord,g_i_copyRecords]
 ·rfl
def H_i_copySelf:Sem1:=fun ts=>fTs ts fun ts=>fO (match ts with
 | [a0,a1,a2,a3,a4,a5,a6]=>G_i_copySelf H_i_copyInts H_i_copyNet H_i_copyRecords a0 a1 a2 a3 a4 a5 a6
 | ts=>F_i_copySelf ts)
theorem h_i_copySelf:H_i_copySelf=F_i_copySelf:=by
 funext ts
 unfold H_i_copySelf
 rw [fTs_eq,fO_eq]
 split
 ·rw [h_i_copyInts,h_i_copyNet,h_i_copyRecords,g_i_copySelf]
 ·rfl
def H_i_AreasOf:Sem1:=fun ts=>fTs ts fun ts=>fO (match ts with
 | [a0,a1,a2,a3]=>G_i_AreasOf rounds H_i_copyInts a1 a3
 | ts=>F_i_AreasOf ts)
theorem h_i_AreasOf:H_i_AreasOf=F_i_AreasOf:=by
 funext ts
 unfold H_i_AreasOf
 rw [fTs_eq,fO_eq]
 split
 ·rw [h_i_copyInts,g_i_AreasOf]
 ·rfl
def H_i_CostTo:Sem1:=fun ts=>fTs ts fun ts=>fO (match ts with
 | [a0,a1,a2,a3,a4,a5]=>G_i_CostTo H_i_linkAt a0 a1 a2 a3 a4 a5
 | ts=>F_i_CostTo ts)
theorem h_i_CostTo:H_i_CostTo=F_i_CostTo:=by
 funext ts
 unfold H_i_CostTo
 rw [fTs_eq,fO_eq]
 split
 ·rw [h_i_linkAt,g_i_CostTo]
 ·rfl
def H_i_own:Sem1:=fun ts=>fTs ts fun ts=>fO (match ts with
 | [a0,a1,a2,a3,a4,a5,a6]=>G_i_own rounds H_i_AreasOf H_i_CostTo a0 a2 a3 a4 a5
 | ts=>F_i_own ts)
theorem h_i_own:H_i_own=F_i_own:=by
 funext ts
 unfold H_i_own
 rw [fTs_eq,fO_eq]
 split
 ·rw [h_i_AreasOf,h_i_CostTo,g_i_own]
 ·rfl
def H_i_SameKey:Sem1:=fun ts=>fTs ts fun ts=>fO (match ts with
 | [a0,a1,a2,a3,a4,a5,a6,a7,a8,a9,a10,a11,a12,a13,a14,a15]=>G_i_SameKey a0 a1 a2 a3 a8 a9 a10 a11
 | ts=>F_i_SameKey ts)
theorem h_i_SameKey:H_i_SameKey=F_i_SameKey:=by
 funext ts
 unfold H_i_SameKey
 rw [fTs_eq,fO_eq]
 split
 ·rw [g_i_SameKey]
 ·rfl
def H_i_put:Sem1:=fun ts=>fTs ts fun ts=>fO (match ts with
 | [a0,a1,a2,a3,a4,a5,a6,a7,a8]=>G_i_put rounds H_i_Before H_i_SameKey H_i_copyRecord H_i_copyRecords a0 a1 a2 a3 a4 a5 a6 a7 a8
 | ts=>F_i_put ts)
theorem h_i_put:H_i_put=F_i_put:=by
 funext ts
 unfold H_i_put
 rw [fTs_eq,fO_eq]
 split
 ·rw [h_i_Before,h_i_SameKey,h_i_copyRecord,h_i_copyRecords,g_i_put]
 ·rfl
def H_i_hasInt:Sem1:=fun ts=>fTs ts fun ts=>fO (match ts with
 | [a0,a1]=>G_i_hasInt rounds a0 a1
 | ts=>F_i_hasInt ts)
theorem h_i_hasInt:H_i_hasInt=F_i_hasInt:=by
 funext ts
 unfold H_i_hasInt
 rw [fTs_eq,fO_eq]
 split
 ·rw [g_i_hasInt]
 ·rfl
def H_i_Border:Sem1:=fun ts=>fTs ts fun ts=>fO (match ts with
 | [a0,a1,a2,a3]=>G_i_Border H_i_AreasOf H_i_hasInt a0 a1 a2 a3
 | ts=>F_i_Border ts)
theorem h_i_Border:H_i_Border=F_i_Border:=by
 funext ts
 unfold H_i_Border
 rw [fTs_eq,fO_eq]
 split
 ·rw [h_i_AreasOf,h_i_hasInt,g_i_Border]
 ·rfl
def H_i_by:Sem1:=fun ts=>fTs ts fun ts=>fO (match ts with
 | [a0,a1,a2]=>G_i_by rounds H_i_put a0 a1 a2
 | ts=>F_i_by ts)
theorem h_i_by:H_i_by=F_i_by:=by
 funext ts
 unfold H_i_by
 rw [fTs_eq,fO_eq]
 split
 ·rw [h_i_put,g_i_by]
 ·rfl
def H_i_keyAt:Sem1:=fun ts=>fTs ts fun ts=>fO (match ts with
 | [a0,a1,a2,a3,a4,a5,a6,a7,a8]=>G_i_keyAt rounds H_i_SameKey a0 a1 a2 a3 a4 a5 a6 a7 a8
 | ts=>F_i_keyAt ts)
theorem h_i_keyAt:H_i_keyAt=F_i_keyAt:=by
 funext ts
 unfold H_i_keyAt
 rw [fTs_eq,fO_eq]
 split
 ·rw [h_i_SameKey,g_i_keyAt]
 ·rfl
def H_i_told:Sem1:=fun ts=>fTs ts fun ts=>fO (match ts with
 | [a0,a1,a2,a3]=>G_i_told rounds H_i_keyAt a0 a1 a2 a3
 | ts=>F_i_told ts)
theorem h_i_told:H_i_told=F_i_told:=by
 funext ts
 unfold H_i_told
 rw [fTs_eq,fO_eq]
 split
 ·rw [h_i_keyAt,g_i_told]
 ·rfl
def H_i_Linked:Sem1:=fun ts=>fTs ts fun ts=>fO (match ts with
 | [a0,a1,a2,a3]=>G_i_Linked H_i_told a0 a1 a2 a3
 | ts=>F_i_Linked ts)
theorem h_i_Linked:H_i_Linked=F_i_Linked:=by
 funext ts
 unfold H_i_Linked
 rw [fTs_eq,fO_eq]
 split
 ·rw [h_i_told,g_i_Linked]
 ·rfl
def H_i_copyWay:Sem1:=fun ts=>fTs ts fun ts=>fO (match ts with
 | [a0,a1,a2]=>G_i_copyWay H_i_copyInts a0 a1 a2
 | ts=>F_i_copyWay ts)
theorem h_i_copyWay:H_i_copyWay=F_i_copyWay:=by
 funext ts
 unfold H_i_copyWay
 rw [fTs_eq,fO_eq]
 split
 ·rw [h_i_copyInts,g_i_copyWay]
 ·rfl
def H_i_Together:Sem1:=fun ts=>fTs ts fun ts=>fO (match ts with
 | [a0,a1,a2,a3,a4,a5]=>G_i_Together rounds H_i_copyInts H_i_copyWay a0 a1 a2 a3 a4 a5
 | ts=>F_i_Together ts)
theorem h_i_Together:H_i_Together=F_i_Together:=by
 funext ts
 unfold H_i_Together
 rw [fTs_eq,fO_eq]
 split
 ·rw [h_i_copyInts,h_i_copyWay,g_i_Together]
 ·rfl
def H_i_WaysIn:Sem1:=fun ts=>fTs ts fun ts=>fO (match ts with
 | [a0,a1,a2]=>G_i_WaysIn rounds H_i_Linked H_i_StoreOk H_i_Together H_i_copyInts H_i_hasInt H_i_in H_i_keyAt a0 a1 a2
 | ts=>F_i_WaysIn ts)
theorem h_i_WaysIn:H_i_WaysIn=F_i_WaysIn:=by
 funext ts
 unfold H_i_WaysIn
 rw [fTs_eq,fO_eq]
 split
 ·rw [h_i_Linked,h_i_StoreOk,h_i_Together,h_i_copyInts,h_i_hasInt,h_i_in,h_i_keyAt,g_i_WaysIn]
 ·rfl
def H_i_WayTo:Sem1:=fun ts=>fTs ts fun ts=>fO (match ts with
 | [a0,a1]=>G_i_WayTo rounds H_i_copyWay a0 a1
 | ts=>F_i_WayTo ts)
theorem h_i_WayTo:H_i_WayTo=F_i_WayTo:=by
 funext ts
 unfold H_i_WayTo
 rw [fTs_eq,fO_eq]
 split
 ·rw [h_i_copyWay,g_i_WayTo]
 ·rfl
def H_i_RoutesWithin:Sem1:=fun ts=>fTs ts fun ts=>fO (match ts with
 | [a0,a1,a2]=>G_i_RoutesWithin rounds H_i_Together H_i_WaysIn H_i_copyWay a0 a1 a2
 | ts=>F_i_RoutesWithin ts)
theorem h_i_RoutesWithin:H_i_RoutesWithin=F_i_RoutesWithin:=by
 funext ts
 unfold H_i_RoutesWithin
 rw [fTs_eq,fO_eq]
 split
 ·rw [h_i_Together,h_i_WaysIn,h_i_copyWay,g_i_RoutesWithin]
 ·rfl
def H_i_RoutesBeyond:Sem1:=fun ts=>fTs ts fun ts=>fO (match ts with
 | [a0,a1,a2,a3]=>G_i_RoutesBeyond rounds H_i_RoutesWithin H_i_Together H_i_WayTo H_i_WaysIn H_i_copyWay H_i_hasInt a0 a1 a2 a3
 | ts=>F_i_RoutesBeyond ts)
theorem h_i_RoutesBeyond:H_i_RoutesBeyond=F_i_RoutesBeyond:=by
 funext ts
 unfold H_i_RoutesBeyond
 rw [fTs_eq,fO_eq]
 split
 ·rw [h_i_RoutesWithin,h_i_Together,h_i_WayTo,h_i_WaysIn,h_i_copyWay,h_i_hasInt,g_i_RoutesBeyond]
 ·rfl
def H_i_Beyond:Sem1:=fun ts=>fTs ts fun ts=>fO (match ts with
 | [a0,a1,a2,a3]=>G_i_Beyond rounds H_i_RoutesBeyond H_i_RoutesWithin H_i_WayTo H_i_WaysIn H_i_keyAt H_i_put a0 a1 a2 a3
 | ts=>F_i_Beyond ts)
theorem h_i_Beyond:H_i_Beyond=F_i_Beyond:=by
 funext ts
 unfold H_i_Beyond
 rw [fTs_eq,fO_eq]
 split
 ·rw [h_i_RoutesBeyond,h_i_RoutesWithin,h_i_WayTo,h_i_WaysIn,h_i_keyAt,h_i_put,g_i_Beyond]
 ·rfl
def H_i_Wanted:Sem1:=fun ts=>fTs ts fun ts=>fO (match ts with
 | [a0,a1,a2,a3,a4,a5,a6]=>G_i_Wanted rounds H_i_AreasOf H_i_Beyond H_i_Border H_i_SelfOk H_i_by H_i_own H_i_put a0 a1 a2 a3 a4 a5 a6
 | ts=>F_i_Wanted ts)
theorem h_i_Wanted:H_i_Wanted=F_i_Wanted:=by
 funext ts
 unfold H_i_Wanted
 rw [fTs_eq,fO_eq]
 split
 ·rw [h_i_AreasOf,h_i_Beyond,h_i_Border,h_i_SelfOk,h_i_by,h_i_own,h_i_put,g_i_Wanted]
 ·rfl
def H_i_SameBody:Sem1:=fun ts=>fTs ts fun ts=>fO (match ts with
 | [a0,a1,a2,a3,a4,a5,a6,a7,a8,a9,a10,a11,a12,a13,a14,a15]=>G_i_SameBody rounds H_i_SameKey a0 a1 a2 a3 a4 a5 a6 a7 a8 a9 a10 a11 a12 a13 a14 a15
 | ts=>F_i_SameBody ts)
theorem h_i_SameBody:H_i_SameBody=F_i_SameBody:=by
 funext ts
 unfold H_i_SameBody
 rw [fTs_eq,fO_eq]
 split
 ·rw [h_i_SameKey,g_i_SameBody]
 ·rfl
def H_i_seqOf:Sem1:=fun ts=>fTs ts fun ts=>fO (match ts with
 | [a0,a1,a2,a3,a4,a5,a6,a7,a8,a9,a10,a11,a12,a13,a14]=>G_i_seqOf H_i_keyAt a1 a6 a7 a8 a9 a10 a11 a12 a13 a14
 | ts=>F_i_seqOf ts)
theorem h_i_seqOf:H_i_seqOf=F_i_seqOf:=by
 funext ts
 unfold H_i_seqOf
 rw [fTs_eq,fO_eq]
 split
 ·rw [h_i_keyAt,g_i_seqOf]
 ·rfl
def H_i_gone:Sem1:=fun ts=>fTs ts fun ts=>fO (match ts with
 | [a0,a1,a2,a3,a4,a5,a6,a7]=>G_i_gone a0 a1 a2 a3 a4 a6 a7
 | ts=>F_i_gone ts)
theorem h_i_gone:H_i_gone=F_i_gone:=by
 funext ts
 unfold H_i_gone
 rw [fTs_eq,fO_eq]
 split
 ·rw [g_i_gone]
 ·rfl
def H_i_fresh:Sem1:=fun ts=>fTs ts fun ts=>fO (match ts with
 | [a0,a1,a2,a3,a4,a5,a6]=>G_i_fresh rounds H_i_SameBody H_i_Wanted H_i_gone H_i_keyAt H_i_put H_i_seqOf a0 a1 a2 a3 a4 a5 a6
 | ts=>F_i_fresh ts)
theorem h_i_fresh:H_i_fresh=F_i_fresh:=by
 funext ts
 unfold H_i_fresh
 rw [fTs_eq,fO_eq]
 split
 ·rw [h_i_SameBody,h_i_Wanted,h_i_gone,h_i_keyAt,h_i_put,h_i_seqOf,g_i_fresh]
 ·rfl
def H_i_Renew:Sem1:=fun ts=>fTs ts fun ts=>fO (match ts with
 | [a0,a1,a2,a3,a4,a5,a6]=>G_i_Renew rounds H_i_SelfOk H_i_copyRecords H_i_copySelf H_i_fresh H_i_put a0 a1 a2 a3 a4 a5 a6
 | ts=>F_i_Renew ts)
theorem h_i_Renew:H_i_Renew=F_i_Renew:=by
 funext ts
 unfold H_i_Renew
 rw [fTs_eq,fO_eq]
 split
 ·rw [h_i_SelfOk,h_i_copyRecords,h_i_copySelf,h_i_fresh,h_i_put,g_i_Renew]
 ·rfl
def H_i_earsOf:Sem1:=fun ts=>fTs ts fun ts=>fO (match ts with
 | [a0,a1,a2,a3]=>G_i_earsOf rounds H_i_linkAt a0 a1 a2 a3
 | ts=>F_i_earsOf ts)
theorem h_i_earsOf:H_i_earsOf=F_i_earsOf:=by
 funext ts
 unfold H_i_earsOf
 rw [fTs_eq,fO_eq]
 split
 ·rw [h_i_linkAt,g_i_earsOf]
 ·rfl
def H_i_NodeNew:Sem1:=fun ts=>fTs ts fun ts=>fO (match ts with
 | [a0,a1,a2,a3,a4]=>G_i_NodeNew H_i_Renew H_i_SelfOk H_i_copyNet H_i_earsOf a0 a1 a2 a3 a4
 | ts=>F_i_NodeNew ts)
theorem h_i_NodeNew:H_i_NodeNew=F_i_NodeNew:=by
 funext ts
 unfold H_i_NodeNew
 rw [fTs_eq,fO_eq]
 split
 ·rw [h_i_Renew,h_i_SelfOk,h_i_copyNet,h_i_earsOf,g_i_NodeNew]
 ·rfl
def H_i_copyNode:Sem1:=fun ts=>fTs ts fun ts=>fO (match ts with
 | [a0,a1,a2,a3,a4,a5,a6,a7]=>G_i_copyNode H_i_copySelf a0 a1 a2 a3 a4 a5 a6 a7
 | ts=>F_i_copyNode ts)
theorem h_i_copyNode:H_i_copyNode=F_i_copyNode:=by
 funext ts
 unfold H_i_copyNode
 rw [fTs_eq,fO_eq]
 split
 ·rw [h_i_copySelf,g_i_copyNode]
 ·rfl
def H_i_heardBy:Sem1:=fun ts=>fTs ts fun ts=>fO (match ts with
 | [a0]=>G_i_heardBy rounds a0
 | ts=>F_i_heardBy ts)
theorem h_i_heardBy:H_i_heardBy=F_i_heardBy:=by
 funext ts
 unfold H_i_heardBy
 rw [fTs_eq,fO_eq]
 split
 ·rw [g_i_heardBy]
 ·rfl
def H_i_sameInts:Sem1:=fun ts=>fTs ts fun ts=>fO (match ts with
 | [a0,a1]=>G_i_sameInts rounds a0 a1
 | ts=>F_i_sameInts ts)
theorem h_i_sameInts:H_i_sameInts=F_i_sameInts:=by
 funext ts
 unfold H_i_sameInts
 rw [fTs_eq,fO_eq]
 split
 ·rw [g_i_sameInts]
 ·rfl
def H_i_NodeOk:Sem1:=fun ts=>fTs ts fun ts=>fO (match ts with
 | [a0,a1,a2,a3,a4,a5,a6,a7]=>G_i_NodeOk rounds H_i_SelfOk H_i_earsOf H_i_heardBy H_i_in H_i_sameInts a0 a1 a2 a3 a4 a5 a6 a7
 | ts=>F_i_NodeOk ts)
theorem h_i_NodeOk:H_i_NodeOk=F_i_NodeOk:=by
 funext ts
 unfold H_i_NodeOk
 rw [fTs_eq,fO_eq]
 split
 ·rw [h_i_SelfOk,h_i_earsOf,h_i_heardBy,h_i_in,h_i_sameInts,g_i_NodeOk]
 ·rfl
def H_i_Node_say:Sem1:=fun ts=>fTs ts fun ts=>fO (match ts with
 | [a0,a1,a2,a3,a4,a5,a6,a7,a8,a9,a10,a11,a12,a13,a14]=>G_i_Node_say a0 a1 a2 a3 a4 a5 a6 a7 a8 a9 a10 a13 a14
 | ts=>F_i_Node_say ts)
theorem h_i_Node_say:H_i_Node_say=F_i_Node_say:=by
 funext ts
 unfold H_i_Node_say
 rw [fTs_eq,fO_eq]
 split
 ·rw [g_i_Node_say]
 ·rfl
def H_i_Scope:Sem1:=fun ts=>fTs ts fun ts=>fO (match ts with
 | [a0,a1]=>G_i_Scope rounds H_i_copyRecord a0 a1
 | ts=>F_i_Scope ts)
theorem h_i_Scope:H_i_Scope=F_i_Scope:=by
 funext ts
 unfold H_i_Scope
 rw [fTs_eq,fO_eq]
 split
 ·rw [h_i_copyRecord,g_i_Scope]
 ·rfl
def H_i_header:Sem1:=fun ts=>fTs ts fun ts=>fO (match ts with
 | [a0,a1,a2,a3,a4,a5,a6,a7]=>G_i_header a0 a1 a2 a3 a4
 | ts=>F_i_header ts)
theorem h_i_header:H_i_header=F_i_header:=by
 funext ts
 unfold H_i_header
 rw [fTs_eq,fO_eq]
 split
 ·rw [g_i_header]
 ·rfl
def H_i_Headers:Sem1:=fun ts=>fTs ts fun ts=>fO (match ts with
 | [a0,a1]=>G_i_Headers rounds H_i_Scope H_i_header a0 a1
 | ts=>F_i_Headers ts)
theorem h_i_Headers:H_i_Headers=F_i_Headers:=by
 funext ts
 unfold H_i_Headers
 rw [fTs_eq,fO_eq]
 split
 ·rw [h_i_Scope,h_i_header,g_i_Headers]
 ·rfl
def H_i_TickNode:Sem1:=fun ts=>fTs ts fun ts=>fO (match ts with
 | [a0,a1,a2,a3,a4,a5,a6,a7]=>G_i_TickNode rounds H_i_Headers H_i_NodeOk H_i_Node_say H_i_Renew H_i_copyInts H_i_copyNode H_i_heardBy a0 a1 a2 a3 a4 a5 a6 a7
 | ts=>F_i_TickNode ts)
theorem h_i_TickNode:H_i_TickNode=F_i_TickNode:=by
 funext ts
 unfold H_i_TickNode
 rw [fTs_eq,fO_eq]
 split
 ·rw [h_i_Headers,h_i_NodeOk,h_i_Node_say,h_i_Renew,h_i_copyInts,h_i_copyNode,h_i_heardBy,g_i_TickNode]
 ·rfl
def H_i_earAt:Sem1:=fun ts=>fTs ts fun ts=>fO (match ts with
 | [a0,a1,a2,a3,a4,a5,a6,a7,a8,a9]=>G_i_earAt rounds a7 a8 a9
 | ts=>F_i_earAt ts)
theorem h_i_earAt:H_i_earAt=F_i_earAt:=by
 funext ts
 unfold H_i_earAt
 rw [fTs_eq,fO_eq]
 split
 ·rw [g_i_earAt]
 ·rfl
def H_i_heardUp:Sem1:=fun ts=>fTs ts fun ts=>fO (match ts with
 | [a0]=>G_i_heardUp rounds H_i_in a0
 | ts=>F_i_heardUp ts)
theorem h_i_heardUp:H_i_heardUp=F_i_heardUp:=by
 funext ts
 unfold H_i_heardUp
 rw [fTs_eq,fO_eq]
 split
 ·rw [h_i_in,g_i_heardUp]
 ·rfl
def H_i_sumsOk:Sem1:=fun ts=>fTs ts fun ts=>fO (match ts with
 | [a0]=>G_i_sumsOk rounds H_i_SameBody H_i_header a0
 | ts=>F_i_sumsOk ts)
theorem h_i_sumsOk:H_i_sumsOk=F_i_sumsOk:=by
 funext ts
 unfold H_i_sumsOk
 rw [fTs_eq,fO_eq]
 split
 ·rw [h_i_SameBody,h_i_header,g_i_sumsOk]
 ·rfl
def H_i_PacketOk:Sem1:=fun ts=>fTs ts fun ts=>fO (match ts with
 | [a0,a1,a2,a3,a4,a5]=>G_i_PacketOk rounds H_i_StoreOk H_i_heardUp H_i_in H_i_sumsOk a0 a1 a2 a3 a4 a5
 | ts=>F_i_PacketOk ts)
theorem h_i_PacketOk:H_i_PacketOk=F_i_PacketOk:=by
 funext ts
 unfold H_i_PacketOk
 rw [fTs_eq,fO_eq]
 split
 ·rw [h_i_StoreOk,h_i_heardUp,h_i_in,h_i_sumsOk,g_i_PacketOk]
 ·rfl
def H_i_newest:Sem1:=fun ts=>fTs ts fun ts=>fO (match ts with
 | [a0,a1]=>G_i_newest rounds H_i_keyAt H_i_put a0 a1
 | ts=>F_i_newest ts)
theorem h_i_newest:H_i_newest=F_i_newest:=by
 funext ts
 unfold H_i_newest
 rw [fTs_eq,fO_eq]
 split
 ·rw [h_i_keyAt,h_i_put,g_i_newest]
 ·rfl
def H_i_Newer:Sem1:=fun ts=>fTs ts fun ts=>fO (match ts with
 | [a0,a1]=>G_i_Newer rounds H_i_copyRecord H_i_keyAt a0 a1
 | ts=>F_i_Newer ts)
theorem h_i_Newer:H_i_Newer=F_i_Newer:=by
 funext ts
 unfold H_i_Newer
 rw [fTs_eq,fO_eq]
 split
 ·rw [h_i_copyRecord,h_i_keyAt,g_i_Newer]
 ·rfl
def H_i_Install:Sem1:=fun ts=>fTs ts fun ts=>fO (match ts with
 | [a0,a1,a2,a3,a4,a5,a6,a7,a8]=>G_i_Install H_i_RecordOk H_i_StoreOk H_i_keyAt H_i_put a0 a1 a2 a3 a4 a5 a6 a7 a8
 | ts=>F_i_Install ts)
theorem h_i_Install:H_i_Install=F_i_Install:=by
 funext ts
 unfold H_i_Install
 rw [fTs_eq,fO_eq]
 split
 ·rw [h_i_RecordOk,h_i_StoreOk,h_i_keyAt,h_i_put,g_i_Install]
 ·rfl
def H_i_learned:Sem1:=fun ts=>fTs ts fun ts=>fO (match ts with
 | [a0,a1]=>G_i_learned rounds H_i_Install H_i_copyRecord H_i_copyRecords a0 a1
 | ts=>F_i_learned ts)
theorem h_i_learned:H_i_learned=F_i_learned:=by
 funext ts
 unfold H_i_learned
 rw [fTs_eq,fO_eq]
 split
 ·rw [h_i_Install,h_i_copyRecord,h_i_copyRecords,g_i_learned]
 ·rfl
def H_i_Learn:Sem1:=fun ts=>fTs ts fun ts=>fO (match ts with
 | [a0,a1,a2,a3,a4,a5,a6,a7]=>G_i_Learn H_i_SelfOk H_i_copySelf H_i_learned a0 a1 a2 a3 a4 a5 a6 a7
 | ts=>F_i_Learn ts)
theorem h_i_Learn:H_i_Learn=F_i_Learn:=by
 funext ts
 unfold H_i_Learn
 rw [fTs_eq,fO_eq]
 split
 ·rw [h_i_SelfOk,h_i_copySelf,h_i_learned,g_i_Learn]
 ·rfl
def H_i_HearNode:Sem1:=fun ts=>fTs ts fun ts=>fO (match ts with
 | [a0,a1,a2,a3,a4,a5,a6,a7,a8,a9,a10,a11,a12,a13]=>G_i_HearNode rounds H_i_Headers H_i_Learn H_i_Newer H_i_NodeOk H_i_Node_say H_i_PacketOk H_i_Renew H_i_Scope H_i_copyNode H_i_earAt H_i_hasInt H_i_heardBy H_i_newest a0 a1 a2 a3 a4 a5 a6 a7 a8 a9 a10 a11 a12 a13
 | ts=>F_i_HearNode ts)
theorem h_i_HearNode:H_i_HearNode=F_i_HearNode:=by
 funext ts
 unfold H_i_HearNode
 rw [fTs_eq,fO_eq]
 split
 ·rw [h_i_Headers,h_i_Learn,h_i_Newer,h_i_NodeOk,h_i_Node_say,h_i_PacketOk,h_i_Renew,h_i_Scope,h_i_copyNode,h_i_earAt,h_i_hasInt,h_i_heardBy,h_i_newest,g_i_HearNode]
 ·rfl
def H_i_thing:Sem1:=fun ts=>fTs ts fun ts=>fO (match ts with
 | [a0,a1,a2,a3]=>G_i_thing rounds H_i_Together H_i_WayTo a0 a1 a2 a3
 | ts=>F_i_thing ts)
theorem h_i_thing:H_i_thing=F_i_thing:=by
 funext ts
 unfold H_i_thing
 rw [fTs_eq,fO_eq]
 split
 ·rw [h_i_Together,h_i_WayTo,g_i_thing]
 ·rfl
def H_i_RoutesOf:Sem1:=fun ts=>fTs ts fun ts=>fO (match ts with
 | [a0,a1,a2,a3]=>G_i_RoutesOf rounds H_i_RoutesBeyond H_i_RoutesWithin H_i_copyInts H_i_thing a0 a1 a2 a3
 | ts=>F_i_RoutesOf ts)
theorem h_i_RoutesOf:H_i_RoutesOf=F_i_RoutesOf:=by
 funext ts
 unfold H_i_RoutesOf
 rw [fTs_eq,fO_eq]
 split
 ·rw [h_i_RoutesBeyond,h_i_RoutesWithin,h_i_copyInts,h_i_thing,g_i_RoutesOf]
 ·rfl
def H_i_Routes:Sem1:=fun ts=>fTs ts fun ts=>fO (match ts with
 | [a0,a1,a2,a3,a4,a5,a6,a7]=>G_i_Routes H_i_AreasOf H_i_Border H_i_NodeOk H_i_RoutesOf a0 a1 a2 a3 a4 a5 a6 a7
 | ts=>F_i_Routes ts)
theorem h_i_Routes:H_i_Routes=F_i_Routes:=by
 funext ts
 unfold H_i_Routes
 rw [fTs_eq,fO_eq]
 split
 ·rw [h_i_AreasOf,h_i_Border,h_i_NodeOk,h_i_RoutesOf,g_i_Routes]
 ·rfl
def H_same:Sem1:=fun ts=>fTs ts fun ts=>fO (match ts with
 | [a0,a1,a2,a3,a4,a5,a6,a7,a8,a9,a10,a11,a12,a13,a14,a15]=>G_same rounds a0 a1 a2 a3 a4 a5 a6 a7 a8 a9 a10 a11 a12 a13 a14 a15
 | ts=>F_same ts)
theorem h_same:H_same=F_same:=by
 funext ts
 unfold H_same
 rw [fTs_eq,fO_eq]
 split
 ·rw [g_same]
 ·rfl
def H_sameStore:Sem1:=fun ts=>fTs ts fun ts=>fO (match ts with
 | [a0,a1]=>G_sameStore rounds H_same a0 a1
 | ts=>F_sameStore ts)
theorem h_sameStore:H_sameStore=F_sameStore:=by
 funext ts
 unfold H_sameStore
 rw [fTs_eq,fO_eq]
 split
 ·rw [h_same,g_sameStore]
 ·rfl
def H_sameInts:Sem1:=fun ts=>fTs ts fun ts=>fO (match ts with
 | [a0,a1]=>G_sameInts rounds a0 a1
 | ts=>F_sameInts ts)
theorem h_sameInts:H_sameInts=F_sameInts:=by
 funext ts
 unfold H_sameInts
 rw [fTs_eq,fO_eq]
 split
 ·rw [g_sameInts]
 ·rfl
def H_FnTalks:Sem1:=fun ts=>fTs ts fun ts=>fO (match ts with
 | [a0]=>G_FnTalks rounds H_big H_i_HearNode H_i_NodeNew H_i_Routes H_i_TickNode H_sameInts H_sameStore a0
 | ts=>F_FnTalks ts)
theorem h_FnTalks:H_FnTalks=F_FnTalks:=by
 funext ts
 unfold H_FnTalks
 rw [fTs_eq,fO_eq]
 split
 ·rw [h_big,h_i_HearNode,h_i_NodeNew,h_i_Routes,h_i_TickNode,h_sameInts,h_sameStore,g_FnTalks]
 ·rfl
end Go.Proofs.YtjimmglpkndemaaC
