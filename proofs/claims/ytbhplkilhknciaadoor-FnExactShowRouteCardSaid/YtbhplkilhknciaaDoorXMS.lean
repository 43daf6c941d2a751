/- What the functions of the families sz, to, eq do (printed by a program). Conditions: none. -/
import Derived.Test.YtbhplkilhknciaaDoorXPS
import Derived.Test.YtbhplkilhknciaaDoorKe
namespace Go.Proofs.YtbhplkilhknciaaDoorC
set_option linter.unusedVariables false
set_option linter.unusedSimpArgs false
theorem so_szIntS:SzOk F_szIntS [.sl [.i .i64]]:=szLen_ok (S:=S_szIntS) (R:=rounds) rfl
theorem so_szRoute:SzOk F_szRoute [.b,.i .i64,.i .i64,.i .i64,.i .i64,.sl [.i .i64]]:=by
 intro ts l ht h_0 h_1
 obtain ⟨_,_,rfl,⟨x0,rfl⟩,_,_,rfl,⟨x1,rfl,w1⟩,_,_,rfl,⟨x2,rfl,w2⟩,_,_,rfl,⟨x3,rfl,w3⟩,_,_,rfl,⟨x4,rfl,w4⟩,t5,_,rfl,h5,rfl⟩:=WTsU_of ht
 have s19:S_szRoute 19=F_szIntS:=rfl
 obtain ⟨n0,e0,b0,c0⟩:=so_szIntS [t5] l (WTs_mk (show WTsU [.sl [.i .i64]] _ from ⟨_,_,rfl,h5,rfl⟩)) (by omega) (by omega)
 simp only [List.cons_append,List.nil_append,bulkR_cons,bulkR_nil,bulk_l,bulk_i,bulk_b,bulk_s,Nat.add_zero,Nat.zero_add] at e0 c0
 by_cases g0:n0 < 0
 ·exact ⟨-1,by simp (implicitDefEqProofs:=false) only [F_szRoute,p_szRoute,pb,pickN,s19,e0,g0],by omega,by omega⟩
 refine ⟨n0,by simp (implicitDefEqProofs:=false) only [F_szRoute,p_szRoute,pb,pickN,s19,e0,g0],by omega,fun _=>?_⟩
 simp (implicitDefEqProofs:=false) only [bulkR_cons,bulkR_nil,bulk_l,bulk_i,bulk_b,bulk_s,Nat.add_zero,Nat.zero_add]
 have:=c0 (by omega)
 omega
theorem so_toIntS:ToOk F_toIntS [.sl [.i .i64]]:=toScl_ok (S:=S_toIntS) (z:=.k (.int .i64 0)) rfl rfl
theorem so_toRoute:ToOk F_toRoute [.b,.i .i64,.i .i64,.i .i64,.i .i64,.sl [.i .i64]]:=by
 intro ts ht hb
 obtain ⟨_,_,rfl,⟨x0,rfl⟩,_,_,rfl,⟨x1,rfl,w1⟩,_,_,rfl,⟨x2,rfl,w2⟩,_,_,rfl,⟨x3,rfl,w3⟩,_,_,rfl,⟨x4,rfl,w4⟩,t5,_,rfl,h5,rfl⟩:=WTsU_of ht
 simp (implicitDefEqProofs:=false) only [bulkR_cons,bulkR_nil,bulk_l,bulk_i,bulk_b,bulk_s,Nat.add_zero,Nat.zero_add] at hb
 have s20:S_toRoute 20=F_toIntS:=rfl
 have e0:=so_toIntS [t5] (WTs_mk (show WTsU [.sl [.i .i64]] _ from ⟨_,_,rfl,h5,rfl⟩)) (by simp (implicitDefEqProofs:=false) only [bulkR_cons,bulkR_nil,bulk_l,bulk_i,bulk_b,bulk_s,Nat.add_zero,Nat.zero_add];omega)
 simp (implicitDefEqProofs:=false) only [F_toRoute,p_toRoute,pb,pickN,s20,e0]
theorem so_eqIntS:EqOk F_eqIntS [.sl [.i .i64]]:=eqScl_ok (S:=S_eqIntS) (op:=.bin .neq) neq_i
theorem so_eqRoute:EqOk F_eqRoute [.b,.i .i64,.i .i64,.i .i64,.i .i64,.sl [.i .i64]]:=by
 intro ts ht hb
 obtain ⟨_,_,rfl,⟨x0,rfl⟩,_,_,rfl,⟨x1,rfl,w1⟩,_,_,rfl,⟨x2,rfl,w2⟩,_,_,rfl,⟨x3,rfl,w3⟩,_,_,rfl,⟨x4,rfl,w4⟩,t5,_,rfl,h5,rfl⟩:=WTsU_of ht
 simp (implicitDefEqProofs:=false) only [bulkR_cons,bulkR_nil,bulk_l,bulk_i,bulk_b,bulk_s,Nat.add_zero,Nat.zero_add] at hb
 have s21:S_eqRoute 21=F_eqIntS:=rfl
 have e0:=so_eqIntS [t5] (WTs_mk (show WTsU [.sl [.i .i64]] _ from ⟨_,_,rfl,h5,rfl⟩)) (by simp (implicitDefEqProofs:=false) only [bulkR_cons,bulkR_nil,bulk_l,bulk_i,bulk_b,bulk_s,Nat.add_zero,Nat.zero_add];omega)
 simp only [List.cons_append,List.nil_append] at e0
 simp (implicitDefEqProofs:=false) only [F_eqRoute,p_eqRoute,pb,pickN,s21,e0]
end Go.Proofs.YtbhplkilhknciaaDoorC
