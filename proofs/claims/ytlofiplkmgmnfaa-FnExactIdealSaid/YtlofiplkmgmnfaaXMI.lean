/- What the functions of the families sz, to, eq do (printed by a program). Conditions: none. -/
import Derived.Test.YtlofiplkmgmnfaaXPI
import Derived.Test.YtlofiplkmgmnfaaKe
namespace Go.Proofs.YtlofiplkmgmnfaaC
set_option linter.unusedVariables false
set_option linter.unusedSimpArgs false
theorem so_szLinkS:SzOk F_szLinkS [.sl [.i .i64,.i .i64,.i .i64,.i .i64]]:=szLen_ok (S:=S_szLinkS) (R:=rounds) rfl
theorem so_szThingS:SzOk F_szThingS [.sl [.i .i64,.i .i64,.i .i64,.b]]:=szLen_ok (S:=S_szThingS) (R:=rounds) rfl
theorem so_szNet:SzOk F_szNet [.i .i64,.sl [.i .i64,.i .i64,.i .i64,.i .i64],.sl [.i .i64,.i .i64,.i .i64,.b]]:=by
 intro ts l ht h_0 h_1
 obtain ⟨_,_,rfl,⟨x0,rfl,w0⟩,t1,_,rfl,h1,t2,_,rfl,h2,rfl⟩:=WTsU_of ht
 have s100:S_szNet 100=F_szLinkS:=rfl
 have s101:S_szNet 101=F_szThingS:=rfl
 obtain ⟨n0,e0,b0,c0⟩:=so_szLinkS [t1] l (WTs_mk (show WTsU [.sl [.i .i64,.i .i64,.i .i64,.i .i64]] _ from ⟨_,_,rfl,h1,rfl⟩)) (by omega) (by omega)
 simp only [List.cons_append,List.nil_append,bulkR_cons,bulkR_nil,bulk_l,bulk_i,bulk_b,bulk_s,Nat.add_zero,Nat.zero_add] at e0 c0
 by_cases g0:n0 < 0
 ·exact ⟨-1,by simp (implicitDefEqProofs:=false) only [F_szNet,p_szNet,pb,pickN,s100,s101,e0,g0],by omega,by omega⟩
 obtain ⟨n1,e1,b1,c1⟩:=so_szThingS [t2] n0 (WTs_mk (show WTsU [.sl [.i .i64,.i .i64,.i .i64,.b]] _ from ⟨_,_,rfl,h2,rfl⟩)) (by omega) (by omega)
 simp only [List.cons_append,List.nil_append,bulkR_cons,bulkR_nil,bulk_l,bulk_i,bulk_b,bulk_s,Nat.add_zero,Nat.zero_add] at e1 c1
 by_cases g1:n1 < 0
 ·exact ⟨-1,by simp (implicitDefEqProofs:=false) only [F_szNet,p_szNet,pb,pickN,s100,s101,e0,e1,g0,g1],by omega,by omega⟩
 refine ⟨n1,by simp (implicitDefEqProofs:=false) only [F_szNet,p_szNet,pb,pickN,s100,s101,e0,e1,g0,g1],by omega,fun _=>?_⟩
 simp (implicitDefEqProofs:=false) only [bulkR_cons,bulkR_nil,bulk_l,bulk_i,bulk_b,bulk_s,Nat.add_zero,Nat.zero_add]
 have:=c0 (by omega)
 have:=c1 (by omega)
 omega
theorem so_toLink:ToOk F_toLink [.i .i64,.i .i64,.i .i64,.i .i64]:=by
 intro ts ht hb
 obtain ⟨_,_,rfl,⟨x0,rfl,w0⟩,_,_,rfl,⟨x1,rfl,w1⟩,_,_,rfl,⟨x2,rfl,w2⟩,_,_,rfl,⟨x3,rfl,w3⟩,rfl⟩:=WTsU_of ht
 simp (implicitDefEqProofs:=false) only [bulkR_cons,bulkR_nil,bulk_l,bulk_i,bulk_b,bulk_s,Nat.add_zero,Nat.zero_add] at hb
 simp (implicitDefEqProofs:=false) only [F_toLink,p_toLink,pb,pickN]
theorem so_toLinkS:ToOk F_toLinkS [.sl [.i .i64,.i .i64,.i .i64,.i .i64]]:=toSli_ok (S:=S_toLinkS) (w:=4) (g:=174) (zs:=[.k (.int .i64 0),.k (.int .i64 0),.k (.int .i64 0),.k (.int .i64 0)]) (st:=.put true 4 0 4) rfl so_toLink rfl rfl (fun xs i z vs=>st_put (fs:=[.i .i64,.i .i64,.i .i64,.i .i64]) (w:=4) rfl rfl xs i z vs)
theorem so_toThing:ToOk F_toThing [.i .i64,.i .i64,.i .i64,.b]:=by
 intro ts ht hb
 obtain ⟨_,_,rfl,⟨x0,rfl,w0⟩,_,_,rfl,⟨x1,rfl,w1⟩,_,_,rfl,⟨x2,rfl,w2⟩,_,_,rfl,⟨x3,rfl⟩,rfl⟩:=WTsU_of ht
 simp (implicitDefEqProofs:=false) only [bulkR_cons,bulkR_nil,bulk_l,bulk_i,bulk_b,bulk_s,Nat.add_zero,Nat.zero_add] at hb
 simp (implicitDefEqProofs:=false) only [F_toThing,p_toThing,pb,pickN]
theorem so_toThingS:ToOk F_toThingS [.sl [.i .i64,.i .i64,.i .i64,.b]]:=toSli_ok (S:=S_toThingS) (w:=4) (g:=175) (zs:=[.k (.int .i64 0),.k (.int .i64 0),.k (.int .i64 0),.k (.bool false)]) (st:=.put true 4 0 4) rfl so_toThing rfl rfl (fun xs i z vs=>st_put (fs:=[.i .i64,.i .i64,.i .i64,.b]) (w:=4) rfl rfl xs i z vs)
theorem so_toNet:ToOk F_toNet [.i .i64,.sl [.i .i64,.i .i64,.i .i64,.i .i64],.sl [.i .i64,.i .i64,.i .i64,.b]]:=by
 intro ts ht hb
 obtain ⟨_,_,rfl,⟨x0,rfl,w0⟩,t1,_,rfl,h1,t2,_,rfl,h2,rfl⟩:=WTsU_of ht
 simp (implicitDefEqProofs:=false) only [bulkR_cons,bulkR_nil,bulk_l,bulk_i,bulk_b,bulk_s,Nat.add_zero,Nat.zero_add] at hb
 have s107:S_toNet 107=F_toLinkS:=rfl
 have s108:S_toNet 108=F_toThingS:=rfl
 have e0:=so_toLinkS [t1] (WTs_mk (show WTsU [.sl [.i .i64,.i .i64,.i .i64,.i .i64]] _ from ⟨_,_,rfl,h1,rfl⟩)) (by simp (implicitDefEqProofs:=false) only [bulkR_cons,bulkR_nil,bulk_l,bulk_i,bulk_b,bulk_s,Nat.add_zero,Nat.zero_add];omega)
 have e1:=so_toThingS [t2] (WTs_mk (show WTsU [.sl [.i .i64,.i .i64,.i .i64,.b]] _ from ⟨_,_,rfl,h2,rfl⟩)) (by simp (implicitDefEqProofs:=false) only [bulkR_cons,bulkR_nil,bulk_l,bulk_i,bulk_b,bulk_s,Nat.add_zero,Nat.zero_add];omega)
 simp (implicitDefEqProofs:=false) only [F_toNet,p_toNet,pb,pickN,s107,s108,e0,e1]
theorem so_toBoolS:ToOk F_toBoolS [.sl [.b]]:=toScl_ok (S:=S_toBoolS) (z:=.k (.bool false)) rfl rfl
theorem so_eqNear:EqOk F_eqNear [.i .i64,.i .i64]:=by
 intro ts ht hb
 obtain ⟨_,_,rfl,⟨x0,rfl,w0⟩,_,_,rfl,⟨x1,rfl,w1⟩,rfl⟩:=WTsU_of ht
 simp (implicitDefEqProofs:=false) only [bulkR_cons,bulkR_nil,bulk_l,bulk_i,bulk_b,bulk_s,Nat.add_zero,Nat.zero_add] at hb
 simp (implicitDefEqProofs:=false) only [F_eqNear,p_eqNear,pb,pickN]
theorem so_eqNearS:EqOk F_eqNearS [.sl [.i .i64,.i .i64]]:=eqSli_ok (S:=S_eqNearS) (w:=2) (g:=198) rfl so_eqNear
theorem so_eqRecord:EqOk F_eqRecord [.i .i64,.i .i64,.i .i64,.i .i64,.i .i64,.sl [.i .i64,.i .i64],.i .i64,.b]:=by
 intro ts ht hb
 obtain ⟨_,_,rfl,⟨x0,rfl,w0⟩,_,_,rfl,⟨x1,rfl,w1⟩,_,_,rfl,⟨x2,rfl,w2⟩,_,_,rfl,⟨x3,rfl,w3⟩,_,_,rfl,⟨x4,rfl,w4⟩,t5,_,rfl,h5,_,_,rfl,⟨x6,rfl,w6⟩,_,_,rfl,⟨x7,rfl⟩,rfl⟩:=WTsU_of ht
 simp (implicitDefEqProofs:=false) only [bulkR_cons,bulkR_nil,bulk_l,bulk_i,bulk_b,bulk_s,Nat.add_zero,Nat.zero_add] at hb
 have s167:S_eqRecord 167=F_eqNearS:=rfl
 have e0:=so_eqNearS [t5] (WTs_mk (show WTsU [.sl [.i .i64,.i .i64]] _ from ⟨_,_,rfl,h5,rfl⟩)) (by simp (implicitDefEqProofs:=false) only [bulkR_cons,bulkR_nil,bulk_l,bulk_i,bulk_b,bulk_s,Nat.add_zero,Nat.zero_add];omega)
 simp only [List.cons_append,List.nil_append] at e0
 simp (implicitDefEqProofs:=false) only [F_eqRecord,p_eqRecord,pb,pickN,s167,e0]
theorem so_eqRecordS:EqOk F_eqRecordS [.sl [.i .i64,.i .i64,.i .i64,.i .i64,.i .i64,.sl [.i .i64,.i .i64],.i .i64,.b]]:=eqSli_ok (S:=S_eqRecordS) (w:=8) (g:=94) rfl so_eqRecord
theorem so_eqLink:EqOk F_eqLink [.i .i64,.i .i64,.i .i64,.i .i64]:=by
 intro ts ht hb
 obtain ⟨_,_,rfl,⟨x0,rfl,w0⟩,_,_,rfl,⟨x1,rfl,w1⟩,_,_,rfl,⟨x2,rfl,w2⟩,_,_,rfl,⟨x3,rfl,w3⟩,rfl⟩:=WTsU_of ht
 simp (implicitDefEqProofs:=false) only [bulkR_cons,bulkR_nil,bulk_l,bulk_i,bulk_b,bulk_s,Nat.add_zero,Nat.zero_add] at hb
 simp (implicitDefEqProofs:=false) only [F_eqLink,p_eqLink,pb,pickN]
theorem so_eqLinkS:EqOk F_eqLinkS [.sl [.i .i64,.i .i64,.i .i64,.i .i64]]:=eqSli_ok (S:=S_eqLinkS) (w:=4) (g:=183) rfl so_eqLink
theorem so_eqThing:EqOk F_eqThing [.i .i64,.i .i64,.i .i64,.b]:=by
 intro ts ht hb
 obtain ⟨_,_,rfl,⟨x0,rfl,w0⟩,_,_,rfl,⟨x1,rfl,w1⟩,_,_,rfl,⟨x2,rfl,w2⟩,_,_,rfl,⟨x3,rfl⟩,rfl⟩:=WTsU_of ht
 simp (implicitDefEqProofs:=false) only [bulkR_cons,bulkR_nil,bulk_l,bulk_i,bulk_b,bulk_s,Nat.add_zero,Nat.zero_add] at hb
 simp (implicitDefEqProofs:=false) only [F_eqThing,p_eqThing,pb,pickN]
theorem so_eqThingS:EqOk F_eqThingS [.sl [.i .i64,.i .i64,.i .i64,.b]]:=eqSli_ok (S:=S_eqThingS) (w:=4) (g:=184) rfl so_eqThing
theorem so_eqNet:EqOk F_eqNet [.i .i64,.sl [.i .i64,.i .i64,.i .i64,.i .i64],.sl [.i .i64,.i .i64,.i .i64,.b]]:=by
 intro ts ht hb
 obtain ⟨_,_,rfl,⟨x0,rfl,w0⟩,t1,_,rfl,h1,t2,_,rfl,h2,rfl⟩:=WTsU_of ht
 simp (implicitDefEqProofs:=false) only [bulkR_cons,bulkR_nil,bulk_l,bulk_i,bulk_b,bulk_s,Nat.add_zero,Nat.zero_add] at hb
 have s115:S_eqNet 115=F_eqLinkS:=rfl
 have s116:S_eqNet 116=F_eqThingS:=rfl
 have e0:=so_eqLinkS [t1] (WTs_mk (show WTsU [.sl [.i .i64,.i .i64,.i .i64,.i .i64]] _ from ⟨_,_,rfl,h1,rfl⟩)) (by simp (implicitDefEqProofs:=false) only [bulkR_cons,bulkR_nil,bulk_l,bulk_i,bulk_b,bulk_s,Nat.add_zero,Nat.zero_add];omega)
 simp only [List.cons_append,List.nil_append] at e0
 have e1:=so_eqThingS [t2] (WTs_mk (show WTsU [.sl [.i .i64,.i .i64,.i .i64,.b]] _ from ⟨_,_,rfl,h2,rfl⟩)) (by simp (implicitDefEqProofs:=false) only [bulkR_cons,bulkR_nil,bulk_l,bulk_i,bulk_b,bulk_s,Nat.add_zero,Nat.zero_add];omega)
 simp only [List.cons_append,List.nil_append] at e1
 simp (implicitDefEqProofs:=false) only [F_eqNet,p_eqNet,pb,pickN,s115,s116,e0,e1]
theorem so_eqBoolS:EqOk F_eqBoolS [.sl [.b]]:=eqScl_ok (S:=S_eqBoolS) (op:=.bb .neq) neq_b
theorem so_heldNearS:HeldOk F_heldNearS [.sl [.i .i64,.i .i64]]:=held_ok (S:=S_heldNearS) (fs:=[.i .i64,.i .i64]) (gs:=[]) (trivial) rfl
theorem so_heldRecordS:HeldOk F_heldRecordS [.sl [.i .i64,.i .i64,.i .i64,.i .i64,.i .i64,.sl [.i .i64,.i .i64],.i .i64,.b]]:=held_ok (S:=S_heldRecordS) (fs:=[.i .i64,.i .i64,.i .i64,.i .i64,.i .i64,.sl [.i .i64,.i .i64],.i .i64,.b]) (gs:=[119]) (And.intro so_heldNearS (trivial)) rfl
end Go.Proofs.YtlofiplkmgmnfaaC
