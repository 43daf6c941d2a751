/- What the functions of the families sz, to, eq do (printed by a program). Conditions: none. -/
import Derived.Test.YtlofiplkmgmnfaaXPA
import Derived.Test.YtlofiplkmgmnfaaKe
namespace Go.Proofs.YtlofiplkmgmnfaaC
set_option linter.unusedVariables false
set_option linter.unusedSimpArgs false
theorem so_szNearS:SzOk F_szNearS [.sl [.i .i64,.i .i64]]:=szLen_ok (S:=S_szNearS) (R:=rounds) rfl
theorem so_szRecord:SzOk F_szRecord [.i .i64,.i .i64,.i .i64,.i .i64,.i .i64,.sl [.i .i64,.i .i64],.i .i64,.b]:=by
 intro ts l ht h_0 h_1
 obtain ⟨_,_,rfl,⟨x0,rfl,w0⟩,_,_,rfl,⟨x1,rfl,w1⟩,_,_,rfl,⟨x2,rfl,w2⟩,_,_,rfl,⟨x3,rfl,w3⟩,_,_,rfl,⟨x4,rfl,w4⟩,t5,_,rfl,h5,_,_,rfl,⟨x6,rfl,w6⟩,_,_,rfl,⟨x7,rfl⟩,rfl⟩:=WTsU_of ht
 have s161:S_szRecord 161=F_szNearS:=rfl
 obtain ⟨n0,e0,b0,c0⟩:=so_szNearS [t5] l (WTs_mk (show WTsU [.sl [.i .i64,.i .i64]] _ from ⟨_,_,rfl,h5,rfl⟩)) (by omega) (by omega)
 simp only [List.cons_append,List.nil_append,bulkR_cons,bulkR_nil,bulk_l,bulk_i,bulk_b,bulk_s,Nat.add_zero,Nat.zero_add] at e0 c0
 by_cases g0:n0 < 0
 ·exact ⟨-1,by simp (implicitDefEqProofs:=false) only [F_szRecord,p_szRecord,pb,pickN,s161,e0,g0],by omega,by omega⟩
 refine ⟨n0,by simp (implicitDefEqProofs:=false) only [F_szRecord,p_szRecord,pb,pickN,s161,e0,g0],by omega,fun _=>?_⟩
 simp (implicitDefEqProofs:=false) only [bulkR_cons,bulkR_nil,bulk_l,bulk_i,bulk_b,bulk_s,Nat.add_zero,Nat.zero_add]
 have:=c0 (by omega)
 omega
theorem so_szRecordS:SzOk F_szRecordS [.sl [.i .i64,.i .i64,.i .i64,.i .i64,.i .i64,.sl [.i .i64,.i .i64],.i .i64,.b]]:=szSli_ok (S:=S_szRecordS) (w:=8) (g:=82) rfl so_szRecord
theorem so_toNear:ToOk F_toNear [.i .i64,.i .i64]:=by
 intro ts ht hb
 obtain ⟨_,_,rfl,⟨x0,rfl,w0⟩,_,_,rfl,⟨x1,rfl,w1⟩,rfl⟩:=WTsU_of ht
 simp (implicitDefEqProofs:=false) only [bulkR_cons,bulkR_nil,bulk_l,bulk_i,bulk_b,bulk_s,Nat.add_zero,Nat.zero_add] at hb
 simp (implicitDefEqProofs:=false) only [F_toNear,p_toNear,pb,pickN]
theorem so_toNearS:ToOk F_toNearS [.sl [.i .i64,.i .i64]]:=toSli_ok (S:=S_toNearS) (w:=2) (g:=196) (zs:=[.k (.int .i64 0),.k (.int .i64 0)]) (st:=.put true 2 0 2) rfl so_toNear rfl rfl (fun xs i z vs=>st_put (fs:=[.i .i64,.i .i64]) (w:=2) rfl rfl xs i z vs)
theorem so_toRecord:ToOk F_toRecord [.i .i64,.i .i64,.i .i64,.i .i64,.i .i64,.sl [.i .i64,.i .i64],.i .i64,.b]:=by
 intro ts ht hb
 obtain ⟨_,_,rfl,⟨x0,rfl,w0⟩,_,_,rfl,⟨x1,rfl,w1⟩,_,_,rfl,⟨x2,rfl,w2⟩,_,_,rfl,⟨x3,rfl,w3⟩,_,_,rfl,⟨x4,rfl,w4⟩,t5,_,rfl,h5,_,_,rfl,⟨x6,rfl,w6⟩,_,_,rfl,⟨x7,rfl⟩,rfl⟩:=WTsU_of ht
 simp (implicitDefEqProofs:=false) only [bulkR_cons,bulkR_nil,bulk_l,bulk_i,bulk_b,bulk_s,Nat.add_zero,Nat.zero_add] at hb
 have s163:S_toRecord 163=F_toNearS:=rfl
 have e0:=so_toNearS [t5] (WTs_mk (show WTsU [.sl [.i .i64,.i .i64]] _ from ⟨_,_,rfl,h5,rfl⟩)) (by simp (implicitDefEqProofs:=false) only [bulkR_cons,bulkR_nil,bulk_l,bulk_i,bulk_b,bulk_s,Nat.add_zero,Nat.zero_add];omega)
 simp (implicitDefEqProofs:=false) only [F_toRecord,p_toRecord,pb,pickN,s163,e0]
theorem so_toRecordS:ToOk F_toRecordS [.sl [.i .i64,.i .i64,.i .i64,.i .i64,.i .i64,.sl [.i .i64,.i .i64],.i .i64,.b]]:=toSli_ok (S:=S_toRecordS) (w:=8) (g:=87) (zs:=[.k (.int .i64 0),.k (.int .i64 0),.k (.int .i64 0),.k (.int .i64 0),.k (.int .i64 0),.e,.k (.int .i64 0),.k (.bool false)]) (st:=.putD [true,true,true,true,true,false,true,true] 8 0) rfl so_toRecord rfl rfl (fun xs i z vs=>st_putD (fs:=[.i .i64,.i .i64,.i .i64,.i .i64,.i .i64,.sl [.i .i64,.i .i64],.i .i64,.b]) (w:=8) rfl rfl xs i z vs)
theorem so_eqIntS:EqOk F_eqIntS [.sl [.i .i64]]:=eqScl_ok (S:=S_eqIntS) (op:=.bin .neq) neq_i
theorem so_eqWay:EqOk F_eqWay [.i .i64,.i .i64,.sl [.i .i64]]:=by
 intro ts ht hb
 obtain ⟨_,_,rfl,⟨x0,rfl,w0⟩,_,_,rfl,⟨x1,rfl,w1⟩,t2,_,rfl,h2,rfl⟩:=WTsU_of ht
 simp (implicitDefEqProofs:=false) only [bulkR_cons,bulkR_nil,bulk_l,bulk_i,bulk_b,bulk_s,Nat.add_zero,Nat.zero_add] at hb
 have s27:S_eqWay 27=F_eqIntS:=rfl
 have e0:=so_eqIntS [t2] (WTs_mk (show WTsU [.sl [.i .i64]] _ from ⟨_,_,rfl,h2,rfl⟩)) (by simp (implicitDefEqProofs:=false) only [bulkR_cons,bulkR_nil,bulk_l,bulk_i,bulk_b,bulk_s,Nat.add_zero,Nat.zero_add];omega)
 simp only [List.cons_append,List.nil_append] at e0
 simp (implicitDefEqProofs:=false) only [F_eqWay,p_eqWay,pb,pickN,s27,e0]
theorem so_eqWayS:EqOk F_eqWayS [.sl [.i .i64,.i .i64,.sl [.i .i64]]]:=eqSli_ok (S:=S_eqWayS) (w:=3) (g:=93) rfl so_eqWay
theorem so_eqNear:EqOk F_eqNear [.i .i64,.i .i64]:=by
 intro ts ht hb
 obtain ⟨_,_,rfl,⟨x0,rfl,w0⟩,_,_,rfl,⟨x1,rfl,w1⟩,rfl⟩:=WTsU_of ht
 simp (implicitDefEqProofs:=false) only [bulkR_cons,bulkR_nil,bulk_l,bulk_i,bulk_b,bulk_s,Nat.add_zero,Nat.zero_add] at hb
 simp (implicitDefEqProofs:=false) only [F_eqNear,p_eqNear,pb,pickN]
theorem so_eqNearS:EqOk F_eqNearS [.sl [.i .i64,.i .i64]]:=eqSli_ok (S:=S_eqNearS) (w:=2) (g:=198) rfl so_eqNear
theorem so_eqRecord:EqOk F_eqRecord [.i .i64,.i .i64,.i .i64,.i .i64,.i .i64,.sl [.i .i64,.i .i64],.i .i64,.b]:=by
 intro ts ht hb
 obtain ⟨_,_,rfl,⟨x0,rfl,w0⟩,_,_,rfl,⟨x1,rfl,w1⟩,_,_,rfl,⟨x2,rfl,w2⟩,_,_,rfl,⟨x3,rfl,w3⟩,_,_,rfl,⟨x4,rfl,w4⟩,t5,_,rfl,h5,_,_,rfl,⟨x6,rfl,w6⟩,_,_,rfl,⟨x7,rfl⟩,rfl⟩:=WTsU_of ht
 simp (implicitDefEqProofs:=false) only [bulkR_cons,bulkR_nil,bulk_l,bulk_i,bulk_b,bulk_s,Nat.add_zero,Nat.zero_add] at hb
 have s167:S_eqRecord 167=F_eqNearS:=rfl
 have e0:=so_eqNearS [t5] (WTs_mk (show WTsU [.sl [.i .i64,.i .i64]] _ from ⟨_,_,rfl,h5,rfl⟩)) (by simp (implicitDefEqProofs:=false) only [bulkR_cons,bulkR_nil,bulk_l,bulk_i,bulk_b,bulk_s,Nat.add_zero,Nat.zero_add];omega)
 simp only [List.cons_append,List.nil_append] at e0
 simp (implicitDefEqProofs:=false) only [F_eqRecord,p_eqRecord,pb,pickN,s167,e0]
theorem so_eqRecordS:EqOk F_eqRecordS [.sl [.i .i64,.i .i64,.i .i64,.i .i64,.i .i64,.sl [.i .i64,.i .i64],.i .i64,.b]]:=eqSli_ok (S:=S_eqRecordS) (w:=8) (g:=94) rfl so_eqRecord
theorem so_heldIntS:HeldOk F_heldIntS [.sl [.i .i64]]:=held_ok (S:=S_heldIntS) (fs:=[.i .i64]) (gs:=[]) (trivial) rfl
theorem so_heldWayS:HeldOk F_heldWayS [.sl [.i .i64,.i .i64,.sl [.i .i64]]]:=held_ok (S:=S_heldWayS) (fs:=[.i .i64,.i .i64,.sl [.i .i64]]) (gs:=[96]) (And.intro so_heldIntS (trivial)) rfl
theorem so_toIntS:ToOk F_toIntS [.sl [.i .i64]]:=toScl_ok (S:=S_toIntS) (z:=.k (.int .i64 0)) rfl rfl
end Go.Proofs.YtlofiplkmgmnfaaC
