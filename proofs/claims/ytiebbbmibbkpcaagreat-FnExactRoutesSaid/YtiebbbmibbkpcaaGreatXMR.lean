/- What the functions of the families sz, to, eq do (printed by a program). Conditions: none. -/
import Derived.Test.YtiebbbmibbkpcaaGreatXPR
import Derived.Test.YtiebbbmibbkpcaaGreatKe
namespace Go.Proofs.YtiebbbmibbkpcaaGreatC
set_option linter.unusedVariables false
set_option linter.unusedSimpArgs false
theorem so_szLinkS:SzOk F_szLinkS [.sl [.i .i64,.i .i64,.i .i64,.i .i64]]:=szLen_ok (S:=S_szLinkS) (R:=rounds) rfl
theorem so_szThingS:SzOk F_szThingS [.sl [.i .i64,.i .i64,.i .i64,.b]]:=szLen_ok (S:=S_szThingS) (R:=rounds) rfl
theorem so_szNet:SzOk F_szNet [.i .i64,.sl [.i .i64,.i .i64,.i .i64,.i .i64],.sl [.i .i64,.i .i64,.i .i64,.b]]:=by
 intro ts l ht h_0 h_1
 obtain ⟨_,_,rfl,⟨x0,rfl,w0⟩,t1,_,rfl,h1,t2,_,rfl,h2,rfl⟩:=WTsU_of ht
 have s72:S_szNet 72=F_szLinkS:=rfl
 have s73:S_szNet 73=F_szThingS:=rfl
 obtain ⟨n0,e0,b0,c0⟩:=so_szLinkS [t1] l (WTs_mk (show WTsU [.sl [.i .i64,.i .i64,.i .i64,.i .i64]] _ from ⟨_,_,rfl,h1,rfl⟩)) (by omega) (by omega)
 simp only [List.cons_append,List.nil_append,bulkR_cons,bulkR_nil,bulk_l,bulk_i,bulk_b,bulk_s,Nat.add_zero,Nat.zero_add] at e0 c0
 by_cases g0:n0 < 0
 ·exact ⟨-1,by simp (implicitDefEqProofs:=false) only [F_szNet,p_szNet,pl_ret,pl_pr,pl_cl,pl_ite,pl_go0,pl_goS,List.map_cons,List.map_nil,ev_k,ev_e,ev_a,List.cons_append,List.nil_append,List.append_assoc,List.getD_cons_zero,List.getD_cons_succ,bind_some',pickN,ifT_b,cond_true,cond_false,decide_true,decide_false,ev_len,ev_lens,ev_scl_i,ev_scl_b,ev_scl_s,ev_lss,ev_leq,ev_gtr,ev_geq,ev_eql,ev_neq,ev_add,ev_sub,ev_eqlS,ev_neqS,ev_bbneq,ev_bbeql,ev_not,Bool.not_true,Bool.not_false,bne_self_eq_false,beq_self_eq_true,s72,s73,e0,g0],by omega,by omega⟩
 obtain ⟨n1,e1,b1,c1⟩:=so_szThingS [t2] n0 (WTs_mk (show WTsU [.sl [.i .i64,.i .i64,.i .i64,.b]] _ from ⟨_,_,rfl,h2,rfl⟩)) (by omega) (by omega)
 simp only [List.cons_append,List.nil_append,bulkR_cons,bulkR_nil,bulk_l,bulk_i,bulk_b,bulk_s,Nat.add_zero,Nat.zero_add] at e1 c1
 by_cases g1:n1 < 0
 ·exact ⟨-1,by simp (implicitDefEqProofs:=false) only [F_szNet,p_szNet,pl_ret,pl_pr,pl_cl,pl_ite,pl_go0,pl_goS,List.map_cons,List.map_nil,ev_k,ev_e,ev_a,List.cons_append,List.nil_append,List.append_assoc,List.getD_cons_zero,List.getD_cons_succ,bind_some',pickN,ifT_b,cond_true,cond_false,decide_true,decide_false,ev_len,ev_lens,ev_scl_i,ev_scl_b,ev_scl_s,ev_lss,ev_leq,ev_gtr,ev_geq,ev_eql,ev_neq,ev_add,ev_sub,ev_eqlS,ev_neqS,ev_bbneq,ev_bbeql,ev_not,Bool.not_true,Bool.not_false,bne_self_eq_false,beq_self_eq_true,s72,s73,e0,e1,g0,g1],by omega,by omega⟩
 refine ⟨n1,by simp (implicitDefEqProofs:=false) only [F_szNet,p_szNet,pl_ret,pl_pr,pl_cl,pl_ite,pl_go0,pl_goS,List.map_cons,List.map_nil,ev_k,ev_e,ev_a,List.cons_append,List.nil_append,List.append_assoc,List.getD_cons_zero,List.getD_cons_succ,bind_some',pickN,ifT_b,cond_true,cond_false,decide_true,decide_false,ev_len,ev_lens,ev_scl_i,ev_scl_b,ev_scl_s,ev_lss,ev_leq,ev_gtr,ev_geq,ev_eql,ev_neq,ev_add,ev_sub,ev_eqlS,ev_neqS,ev_bbneq,ev_bbeql,ev_not,Bool.not_true,Bool.not_false,bne_self_eq_false,beq_self_eq_true,s72,s73,e0,e1,g0,g1],by omega,fun _=>?_⟩
 simp (implicitDefEqProofs:=false) only [bulkR_cons,bulkR_nil,bulk_l,bulk_i,bulk_b,bulk_s,Nat.add_zero,Nat.zero_add]
 have:=c0 (by omega)
 have:=c1 (by omega)
 omega
theorem so_szIntS:SzOk F_szIntS [.sl [.i .i64]]:=szLen_ok (S:=S_szIntS) (R:=rounds) rfl
theorem so_szNearS:SzOk F_szNearS [.sl [.i .i64,.i .i64]]:=szLen_ok (S:=S_szNearS) (R:=rounds) rfl
theorem so_szRecord:SzOk F_szRecord [.i .i64,.i .i64,.i .i64,.i .i64,.i .i64,.sl [.i .i64,.i .i64],.i .i64,.b]:=by
 intro ts l ht h_0 h_1
 obtain ⟨_,_,rfl,⟨x0,rfl,w0⟩,_,_,rfl,⟨x1,rfl,w1⟩,_,_,rfl,⟨x2,rfl,w2⟩,_,_,rfl,⟨x3,rfl,w3⟩,_,_,rfl,⟨x4,rfl,w4⟩,t5,_,rfl,h5,_,_,rfl,⟨x6,rfl,w6⟩,_,_,rfl,⟨x7,rfl⟩,rfl⟩:=WTsU_of ht
 have s258:S_szRecord 258=F_szNearS:=rfl
 obtain ⟨n0,e0,b0,c0⟩:=so_szNearS [t5] l (WTs_mk (show WTsU [.sl [.i .i64,.i .i64]] _ from ⟨_,_,rfl,h5,rfl⟩)) (by omega) (by omega)
 simp only [List.cons_append,List.nil_append,bulkR_cons,bulkR_nil,bulk_l,bulk_i,bulk_b,bulk_s,Nat.add_zero,Nat.zero_add] at e0 c0
 by_cases g0:n0 < 0
 ·exact ⟨-1,by simp (implicitDefEqProofs:=false) only [F_szRecord,p_szRecord,pl_ret,pl_pr,pl_cl,pl_ite,pl_go0,pl_goS,List.map_cons,List.map_nil,ev_k,ev_e,ev_a,List.cons_append,List.nil_append,List.append_assoc,List.getD_cons_zero,List.getD_cons_succ,bind_some',pickN,ifT_b,cond_true,cond_false,decide_true,decide_false,ev_len,ev_lens,ev_scl_i,ev_scl_b,ev_scl_s,ev_lss,ev_leq,ev_gtr,ev_geq,ev_eql,ev_neq,ev_add,ev_sub,ev_eqlS,ev_neqS,ev_bbneq,ev_bbeql,ev_not,Bool.not_true,Bool.not_false,bne_self_eq_false,beq_self_eq_true,s258,e0,g0],by omega,by omega⟩
 refine ⟨n0,by simp (implicitDefEqProofs:=false) only [F_szRecord,p_szRecord,pl_ret,pl_pr,pl_cl,pl_ite,pl_go0,pl_goS,List.map_cons,List.map_nil,ev_k,ev_e,ev_a,List.cons_append,List.nil_append,List.append_assoc,List.getD_cons_zero,List.getD_cons_succ,bind_some',pickN,ifT_b,cond_true,cond_false,decide_true,decide_false,ev_len,ev_lens,ev_scl_i,ev_scl_b,ev_scl_s,ev_lss,ev_leq,ev_gtr,ev_geq,ev_eql,ev_neq,ev_add,ev_sub,ev_eqlS,ev_neqS,ev_bbneq,ev_bbeql,ev_not,Bool.not_true,Bool.not_false,bne_self_eq_false,beq_self_eq_true,s258,e0,g0],by omega,fun _=>?_⟩
 simp (implicitDefEqProofs:=false) only [bulkR_cons,bulkR_nil,bulk_l,bulk_i,bulk_b,bulk_s,Nat.add_zero,Nat.zero_add]
 have:=c0 (by omega)
 omega
theorem so_szRecordS:SzOk F_szRecordS [.sl [.i .i64,.i .i64,.i .i64,.i .i64,.i .i64,.sl [.i .i64,.i .i64],.i .i64,.b]]:=szSli_ok (S:=S_szRecordS) (w:=8) (g:=194) rfl so_szRecord
theorem so_szSelf:SzOk F_szSelf [.i .i64,.i .i64,.i .i64,.sl [.i .i64,.i .i64,.i .i64,.i .i64],.sl [.i .i64,.i .i64,.i .i64,.b],.sl [.i .i64],.sl [.i .i64,.i .i64,.i .i64,.i .i64,.i .i64,.sl [.i .i64,.i .i64],.i .i64,.b]]:=by
 intro ts l ht h_0 h_1
 obtain ⟨_,_,rfl,⟨x0,rfl,w0⟩,_,_,rfl,⟨x1,rfl,w1⟩,_,_,rfl,⟨x2,rfl,w2⟩,t3,_,rfl,h3,t4,_,rfl,h4,t5,_,rfl,h5,t6,_,rfl,h6,rfl⟩:=WTsU_of ht
 have s12:S_szSelf 12=F_szNet:=rfl
 have s97:S_szSelf 97=F_szIntS:=rfl
 have s98:S_szSelf 98=F_szRecordS:=rfl
 obtain ⟨n0,e0,b0,c0⟩:=so_szNet [.c (.int .i64 x2),t3,t4] l (WTs_mk (show WTsU [.i .i64,.sl [.i .i64,.i .i64,.i .i64,.i .i64],.sl [.i .i64,.i .i64,.i .i64,.b]] _ from ⟨_,_,rfl,⟨_,rfl,w2⟩,_,_,rfl,h3,_,_,rfl,h4,rfl⟩)) (by omega) (by omega)
 simp only [List.cons_append,List.nil_append,bulkR_cons,bulkR_nil,bulk_l,bulk_i,bulk_b,bulk_s,Nat.add_zero,Nat.zero_add] at e0 c0
 by_cases g0:n0 < 0
 ·exact ⟨-1,by simp (implicitDefEqProofs:=false) only [F_szSelf,p_szSelf,pl_ret,pl_pr,pl_cl,pl_ite,pl_go0,pl_goS,List.map_cons,List.map_nil,ev_k,ev_e,ev_a,List.cons_append,List.nil_append,List.append_assoc,List.getD_cons_zero,List.getD_cons_succ,bind_some',pickN,ifT_b,cond_true,cond_false,decide_true,decide_false,ev_len,ev_lens,ev_scl_i,ev_scl_b,ev_scl_s,ev_lss,ev_leq,ev_gtr,ev_geq,ev_eql,ev_neq,ev_add,ev_sub,ev_eqlS,ev_neqS,ev_bbneq,ev_bbeql,ev_not,Bool.not_true,Bool.not_false,bne_self_eq_false,beq_self_eq_true,s12,s97,s98,e0,g0],by omega,by omega⟩
 obtain ⟨n1,e1,b1,c1⟩:=so_szIntS [t5] n0 (WTs_mk (show WTsU [.sl [.i .i64]] _ from ⟨_,_,rfl,h5,rfl⟩)) (by omega) (by omega)
 simp only [List.cons_append,List.nil_append,bulkR_cons,bulkR_nil,bulk_l,bulk_i,bulk_b,bulk_s,Nat.add_zero,Nat.zero_add] at e1 c1
 by_cases g1:n1 < 0
 ·exact ⟨-1,by simp (implicitDefEqProofs:=false) only [F_szSelf,p_szSelf,pl_ret,pl_pr,pl_cl,pl_ite,pl_go0,pl_goS,List.map_cons,List.map_nil,ev_k,ev_e,ev_a,List.cons_append,List.nil_append,List.append_assoc,List.getD_cons_zero,List.getD_cons_succ,bind_some',pickN,ifT_b,cond_true,cond_false,decide_true,decide_false,ev_len,ev_lens,ev_scl_i,ev_scl_b,ev_scl_s,ev_lss,ev_leq,ev_gtr,ev_geq,ev_eql,ev_neq,ev_add,ev_sub,ev_eqlS,ev_neqS,ev_bbneq,ev_bbeql,ev_not,Bool.not_true,Bool.not_false,bne_self_eq_false,beq_self_eq_true,s12,s97,s98,e0,e1,g0,g1],by omega,by omega⟩
 obtain ⟨n2,e2,b2,c2⟩:=so_szRecordS [t6] n1 (WTs_mk (show WTsU [.sl [.i .i64,.i .i64,.i .i64,.i .i64,.i .i64,.sl [.i .i64,.i .i64],.i .i64,.b]] _ from ⟨_,_,rfl,h6,rfl⟩)) (by omega) (by omega)
 simp only [List.cons_append,List.nil_append,bulkR_cons,bulkR_nil,bulk_l,bulk_i,bulk_b,bulk_s,Nat.add_zero,Nat.zero_add] at e2 c2
 by_cases g2:n2 < 0
 ·exact ⟨-1,by simp (implicitDefEqProofs:=false) only [F_szSelf,p_szSelf,pl_ret,pl_pr,pl_cl,pl_ite,pl_go0,pl_goS,List.map_cons,List.map_nil,ev_k,ev_e,ev_a,List.cons_append,List.nil_append,List.append_assoc,List.getD_cons_zero,List.getD_cons_succ,bind_some',pickN,ifT_b,cond_true,cond_false,decide_true,decide_false,ev_len,ev_lens,ev_scl_i,ev_scl_b,ev_scl_s,ev_lss,ev_leq,ev_gtr,ev_geq,ev_eql,ev_neq,ev_add,ev_sub,ev_eqlS,ev_neqS,ev_bbneq,ev_bbeql,ev_not,Bool.not_true,Bool.not_false,bne_self_eq_false,beq_self_eq_true,s12,s97,s98,e0,e1,e2,g0,g1,g2],by omega,by omega⟩
 refine ⟨n2,by simp (implicitDefEqProofs:=false) only [F_szSelf,p_szSelf,pl_ret,pl_pr,pl_cl,pl_ite,pl_go0,pl_goS,List.map_cons,List.map_nil,ev_k,ev_e,ev_a,List.cons_append,List.nil_append,List.append_assoc,List.getD_cons_zero,List.getD_cons_succ,bind_some',pickN,ifT_b,cond_true,cond_false,decide_true,decide_false,ev_len,ev_lens,ev_scl_i,ev_scl_b,ev_scl_s,ev_lss,ev_leq,ev_gtr,ev_geq,ev_eql,ev_neq,ev_add,ev_sub,ev_eqlS,ev_neqS,ev_bbneq,ev_bbeql,ev_not,Bool.not_true,Bool.not_false,bne_self_eq_false,beq_self_eq_true,s12,s97,s98,e0,e1,e2,g0,g1,g2],by omega,fun _=>?_⟩
 simp (implicitDefEqProofs:=false) only [bulkR_cons,bulkR_nil,bulk_l,bulk_i,bulk_b,bulk_s,Nat.add_zero,Nat.zero_add]
 have:=c0 (by omega)
 have:=c1 (by omega)
 have:=c2 (by omega)
 omega
theorem so_szEarS:SzOk F_szEarS [.sl [.i .i64,.i .i64,.i .i64,.b]]:=szLen_ok (S:=S_szEarS) (R:=rounds) rfl
theorem so_szNode:SzOk F_szNode [.i .i64,.i .i64,.i .i64,.sl [.i .i64,.i .i64,.i .i64,.i .i64],.sl [.i .i64,.i .i64,.i .i64,.b],.sl [.i .i64],.sl [.i .i64,.i .i64,.i .i64,.i .i64,.i .i64,.sl [.i .i64,.i .i64],.i .i64,.b],.sl [.i .i64,.i .i64,.i .i64,.b]]:=by
 intro ts l ht h_0 h_1
 obtain ⟨_,_,rfl,⟨x0,rfl,w0⟩,_,_,rfl,⟨x1,rfl,w1⟩,_,_,rfl,⟨x2,rfl,w2⟩,t3,_,rfl,h3,t4,_,rfl,h4,t5,_,rfl,h5,t6,_,rfl,h6,t7,_,rfl,h7,rfl⟩:=WTsU_of ht
 have s30:S_szNode 30=F_szSelf:=rfl
 have s91:S_szNode 91=F_szEarS:=rfl
 obtain ⟨n0,e0,b0,c0⟩:=so_szSelf [.c (.int .i64 x0),.c (.int .i64 x1),.c (.int .i64 x2),t3,t4,t5,t6] l (WTs_mk (show WTsU [.i .i64,.i .i64,.i .i64,.sl [.i .i64,.i .i64,.i .i64,.i .i64],.sl [.i .i64,.i .i64,.i .i64,.b],.sl [.i .i64],.sl [.i .i64,.i .i64,.i .i64,.i .i64,.i .i64,.sl [.i .i64,.i .i64],.i .i64,.b]] _ from ⟨_,_,rfl,⟨_,rfl,w0⟩,_,_,rfl,⟨_,rfl,w1⟩,_,_,rfl,⟨_,rfl,w2⟩,_,_,rfl,h3,_,_,rfl,h4,_,_,rfl,h5,_,_,rfl,h6,rfl⟩)) (by omega) (by omega)
 simp only [List.cons_append,List.nil_append,bulkR_cons,bulkR_nil,bulk_l,bulk_i,bulk_b,bulk_s,Nat.add_zero,Nat.zero_add] at e0 c0
 by_cases g0:n0 < 0
 ·exact ⟨-1,by simp (implicitDefEqProofs:=false) only [F_szNode,p_szNode,pl_ret,pl_pr,pl_cl,pl_ite,pl_go0,pl_goS,List.map_cons,List.map_nil,ev_k,ev_e,ev_a,List.cons_append,List.nil_append,List.append_assoc,List.getD_cons_zero,List.getD_cons_succ,bind_some',pickN,ifT_b,cond_true,cond_false,decide_true,decide_false,ev_len,ev_lens,ev_scl_i,ev_scl_b,ev_scl_s,ev_lss,ev_leq,ev_gtr,ev_geq,ev_eql,ev_neq,ev_add,ev_sub,ev_eqlS,ev_neqS,ev_bbneq,ev_bbeql,ev_not,Bool.not_true,Bool.not_false,bne_self_eq_false,beq_self_eq_true,s30,s91,e0,g0],by omega,by omega⟩
 obtain ⟨n1,e1,b1,c1⟩:=so_szEarS [t7] n0 (WTs_mk (show WTsU [.sl [.i .i64,.i .i64,.i .i64,.b]] _ from ⟨_,_,rfl,h7,rfl⟩)) (by omega) (by omega)
 simp only [List.cons_append,List.nil_append,bulkR_cons,bulkR_nil,bulk_l,bulk_i,bulk_b,bulk_s,Nat.add_zero,Nat.zero_add] at e1 c1
 by_cases g1:n1 < 0
 ·exact ⟨-1,by simp (implicitDefEqProofs:=false) only [F_szNode,p_szNode,pl_ret,pl_pr,pl_cl,pl_ite,pl_go0,pl_goS,List.map_cons,List.map_nil,ev_k,ev_e,ev_a,List.cons_append,List.nil_append,List.append_assoc,List.getD_cons_zero,List.getD_cons_succ,bind_some',pickN,ifT_b,cond_true,cond_false,decide_true,decide_false,ev_len,ev_lens,ev_scl_i,ev_scl_b,ev_scl_s,ev_lss,ev_leq,ev_gtr,ev_geq,ev_eql,ev_neq,ev_add,ev_sub,ev_eqlS,ev_neqS,ev_bbneq,ev_bbeql,ev_not,Bool.not_true,Bool.not_false,bne_self_eq_false,beq_self_eq_true,s30,s91,e0,e1,g0,g1],by omega,by omega⟩
 refine ⟨n1,by simp (implicitDefEqProofs:=false) only [F_szNode,p_szNode,pl_ret,pl_pr,pl_cl,pl_ite,pl_go0,pl_goS,List.map_cons,List.map_nil,ev_k,ev_e,ev_a,List.cons_append,List.nil_append,List.append_assoc,List.getD_cons_zero,List.getD_cons_succ,bind_some',pickN,ifT_b,cond_true,cond_false,decide_true,decide_false,ev_len,ev_lens,ev_scl_i,ev_scl_b,ev_scl_s,ev_lss,ev_leq,ev_gtr,ev_geq,ev_eql,ev_neq,ev_add,ev_sub,ev_eqlS,ev_neqS,ev_bbneq,ev_bbeql,ev_not,Bool.not_true,Bool.not_false,bne_self_eq_false,beq_self_eq_true,s30,s91,e0,e1,g0,g1],by omega,fun _=>?_⟩
 simp (implicitDefEqProofs:=false) only [bulkR_cons,bulkR_nil,bulk_l,bulk_i,bulk_b,bulk_s,Nat.add_zero,Nat.zero_add]
 have:=c0 (by omega)
 have:=c1 (by omega)
 omega
theorem so_toLink:ToOk F_toLink [.i .i64,.i .i64,.i .i64,.i .i64]:=by
 intro ts ht hb
 obtain ⟨_,_,rfl,⟨x0,rfl,w0⟩,_,_,rfl,⟨x1,rfl,w1⟩,_,_,rfl,⟨x2,rfl,w2⟩,_,_,rfl,⟨x3,rfl,w3⟩,rfl⟩:=WTsU_of ht
 simp (implicitDefEqProofs:=false) only [bulkR_cons,bulkR_nil,bulk_l,bulk_i,bulk_b,bulk_s,Nat.add_zero,Nat.zero_add] at hb
 simp (implicitDefEqProofs:=false) only [F_toLink,p_toLink,pl_ret,pl_pr,pl_cl,pl_ite,pl_go0,pl_goS,List.map_cons,List.map_nil,ev_k,ev_e,ev_a,List.cons_append,List.nil_append,List.append_assoc,List.getD_cons_zero,List.getD_cons_succ,bind_some',pickN,ifT_b,cond_true,cond_false,decide_true,decide_false,ev_len,ev_lens,ev_scl_i,ev_scl_b,ev_scl_s,ev_lss,ev_leq,ev_gtr,ev_geq,ev_eql,ev_neq,ev_add,ev_sub,ev_eqlS,ev_neqS,ev_bbneq,ev_bbeql,ev_not,Bool.not_true,Bool.not_false,bne_self_eq_false,beq_self_eq_true]
theorem so_toLinkS:ToOk F_toLinkS [.sl [.i .i64,.i .i64,.i .i64,.i .i64]]:=toSli_ok (S:=S_toLinkS) (w:=4) (g:=179) (zs:=[.k (.int .i64 0),.k (.int .i64 0),.k (.int .i64 0),.k (.int .i64 0)]) (st:=.put true 4 0 4) rfl so_toLink rfl rfl (fun xs i z vs=>st_put (fs:=[.i .i64,.i .i64,.i .i64,.i .i64]) (w:=4) rfl rfl xs i z vs)
theorem so_toThing:ToOk F_toThing [.i .i64,.i .i64,.i .i64,.b]:=by
 intro ts ht hb
 obtain ⟨_,_,rfl,⟨x0,rfl,w0⟩,_,_,rfl,⟨x1,rfl,w1⟩,_,_,rfl,⟨x2,rfl,w2⟩,_,_,rfl,⟨x3,rfl⟩,rfl⟩:=WTsU_of ht
 simp (implicitDefEqProofs:=false) only [bulkR_cons,bulkR_nil,bulk_l,bulk_i,bulk_b,bulk_s,Nat.add_zero,Nat.zero_add] at hb
 simp (implicitDefEqProofs:=false) only [F_toThing,p_toThing,pl_ret,pl_pr,pl_cl,pl_ite,pl_go0,pl_goS,List.map_cons,List.map_nil,ev_k,ev_e,ev_a,List.cons_append,List.nil_append,List.append_assoc,List.getD_cons_zero,List.getD_cons_succ,bind_some',pickN,ifT_b,cond_true,cond_false,decide_true,decide_false,ev_len,ev_lens,ev_scl_i,ev_scl_b,ev_scl_s,ev_lss,ev_leq,ev_gtr,ev_geq,ev_eql,ev_neq,ev_add,ev_sub,ev_eqlS,ev_neqS,ev_bbneq,ev_bbeql,ev_not,Bool.not_true,Bool.not_false,bne_self_eq_false,beq_self_eq_true]
theorem so_toThingS:ToOk F_toThingS [.sl [.i .i64,.i .i64,.i .i64,.b]]:=toSli_ok (S:=S_toThingS) (w:=4) (g:=180) (zs:=[.k (.int .i64 0),.k (.int .i64 0),.k (.int .i64 0),.k (.bool false)]) (st:=.put true 4 0 4) rfl so_toThing rfl rfl (fun xs i z vs=>st_put (fs:=[.i .i64,.i .i64,.i .i64,.b]) (w:=4) rfl rfl xs i z vs)
theorem so_toNet:ToOk F_toNet [.i .i64,.sl [.i .i64,.i .i64,.i .i64,.i .i64],.sl [.i .i64,.i .i64,.i .i64,.b]]:=by
 intro ts ht hb
 obtain ⟨_,_,rfl,⟨x0,rfl,w0⟩,t1,_,rfl,h1,t2,_,rfl,h2,rfl⟩:=WTsU_of ht
 simp (implicitDefEqProofs:=false) only [bulkR_cons,bulkR_nil,bulk_l,bulk_i,bulk_b,bulk_s,Nat.add_zero,Nat.zero_add] at hb
 have s79:S_toNet 79=F_toLinkS:=rfl
 have s80:S_toNet 80=F_toThingS:=rfl
 have e0:=so_toLinkS [t1] (WTs_mk (show WTsU [.sl [.i .i64,.i .i64,.i .i64,.i .i64]] _ from ⟨_,_,rfl,h1,rfl⟩)) (by simp (implicitDefEqProofs:=false) only [bulkR_cons,bulkR_nil,bulk_l,bulk_i,bulk_b,bulk_s,Nat.add_zero,Nat.zero_add];omega)
 have e1:=so_toThingS [t2] (WTs_mk (show WTsU [.sl [.i .i64,.i .i64,.i .i64,.b]] _ from ⟨_,_,rfl,h2,rfl⟩)) (by simp (implicitDefEqProofs:=false) only [bulkR_cons,bulkR_nil,bulk_l,bulk_i,bulk_b,bulk_s,Nat.add_zero,Nat.zero_add];omega)
 simp (implicitDefEqProofs:=false) only [F_toNet,p_toNet,pl_ret,pl_pr,pl_cl,pl_ite,pl_go0,pl_goS,List.map_cons,List.map_nil,ev_k,ev_e,ev_a,List.cons_append,List.nil_append,List.append_assoc,List.getD_cons_zero,List.getD_cons_succ,bind_some',pickN,ifT_b,cond_true,cond_false,decide_true,decide_false,ev_len,ev_lens,ev_scl_i,ev_scl_b,ev_scl_s,ev_lss,ev_leq,ev_gtr,ev_geq,ev_eql,ev_neq,ev_add,ev_sub,ev_eqlS,ev_neqS,ev_bbneq,ev_bbeql,ev_not,Bool.not_true,Bool.not_false,bne_self_eq_false,beq_self_eq_true,s79,s80,e0,e1]
theorem so_toIntS:ToOk F_toIntS [.sl [.i .i64]]:=toScl_ok (S:=S_toIntS) (z:=.k (.int .i64 0)) rfl rfl
theorem so_toNear:ToOk F_toNear [.i .i64,.i .i64]:=by
 intro ts ht hb
 obtain ⟨_,_,rfl,⟨x0,rfl,w0⟩,_,_,rfl,⟨x1,rfl,w1⟩,rfl⟩:=WTsU_of ht
 simp (implicitDefEqProofs:=false) only [bulkR_cons,bulkR_nil,bulk_l,bulk_i,bulk_b,bulk_s,Nat.add_zero,Nat.zero_add] at hb
 simp (implicitDefEqProofs:=false) only [F_toNear,p_toNear,pl_ret,pl_pr,pl_cl,pl_ite,pl_go0,pl_goS,List.map_cons,List.map_nil,ev_k,ev_e,ev_a,List.cons_append,List.nil_append,List.append_assoc,List.getD_cons_zero,List.getD_cons_succ,bind_some',pickN,ifT_b,cond_true,cond_false,decide_true,decide_false,ev_len,ev_lens,ev_scl_i,ev_scl_b,ev_scl_s,ev_lss,ev_leq,ev_gtr,ev_geq,ev_eql,ev_neq,ev_add,ev_sub,ev_eqlS,ev_neqS,ev_bbneq,ev_bbeql,ev_not,Bool.not_true,Bool.not_false,bne_self_eq_false,beq_self_eq_true]
theorem so_toNearS:ToOk F_toNearS [.sl [.i .i64,.i .i64]]:=toSli_ok (S:=S_toNearS) (w:=2) (g:=290) (zs:=[.k (.int .i64 0),.k (.int .i64 0)]) (st:=.put true 2 0 2) rfl so_toNear rfl rfl (fun xs i z vs=>st_put (fs:=[.i .i64,.i .i64]) (w:=2) rfl rfl xs i z vs)
theorem so_toRecord:ToOk F_toRecord [.i .i64,.i .i64,.i .i64,.i .i64,.i .i64,.sl [.i .i64,.i .i64],.i .i64,.b]:=by
 intro ts ht hb
 obtain ⟨_,_,rfl,⟨x0,rfl,w0⟩,_,_,rfl,⟨x1,rfl,w1⟩,_,_,rfl,⟨x2,rfl,w2⟩,_,_,rfl,⟨x3,rfl,w3⟩,_,_,rfl,⟨x4,rfl,w4⟩,t5,_,rfl,h5,_,_,rfl,⟨x6,rfl,w6⟩,_,_,rfl,⟨x7,rfl⟩,rfl⟩:=WTsU_of ht
 simp (implicitDefEqProofs:=false) only [bulkR_cons,bulkR_nil,bulk_l,bulk_i,bulk_b,bulk_s,Nat.add_zero,Nat.zero_add] at hb
 have s259:S_toRecord 259=F_toNearS:=rfl
 have e0:=so_toNearS [t5] (WTs_mk (show WTsU [.sl [.i .i64,.i .i64]] _ from ⟨_,_,rfl,h5,rfl⟩)) (by simp (implicitDefEqProofs:=false) only [bulkR_cons,bulkR_nil,bulk_l,bulk_i,bulk_b,bulk_s,Nat.add_zero,Nat.zero_add];omega)
 simp (implicitDefEqProofs:=false) only [F_toRecord,p_toRecord,pl_ret,pl_pr,pl_cl,pl_ite,pl_go0,pl_goS,List.map_cons,List.map_nil,ev_k,ev_e,ev_a,List.cons_append,List.nil_append,List.append_assoc,List.getD_cons_zero,List.getD_cons_succ,bind_some',pickN,ifT_b,cond_true,cond_false,decide_true,decide_false,ev_len,ev_lens,ev_scl_i,ev_scl_b,ev_scl_s,ev_lss,ev_leq,ev_gtr,ev_geq,ev_eql,ev_neq,ev_add,ev_sub,ev_eqlS,ev_neqS,ev_bbneq,ev_bbeql,ev_not,Bool.not_true,Bool.not_false,bne_self_eq_false,beq_self_eq_true,s259,e0]
theorem so_toRecordS:ToOk F_toRecordS [.sl [.i .i64,.i .i64,.i .i64,.i .i64,.i .i64,.sl [.i .i64,.i .i64],.i .i64,.b]]:=toSli_ok (S:=S_toRecordS) (w:=8) (g:=200) (zs:=[.k (.int .i64 0),.k (.int .i64 0),.k (.int .i64 0),.k (.int .i64 0),.k (.int .i64 0),.e,.k (.int .i64 0),.k (.bool false)]) (st:=.putD [true,true,true,true,true,false,true,true] 8 0) rfl so_toRecord rfl rfl (fun xs i z vs=>st_putD (fs:=[.i .i64,.i .i64,.i .i64,.i .i64,.i .i64,.sl [.i .i64,.i .i64],.i .i64,.b]) (w:=8) rfl rfl xs i z vs)
theorem so_toSelf:ToOk F_toSelf [.i .i64,.i .i64,.i .i64,.sl [.i .i64,.i .i64,.i .i64,.i .i64],.sl [.i .i64,.i .i64,.i .i64,.b],.sl [.i .i64],.sl [.i .i64,.i .i64,.i .i64,.i .i64,.i .i64,.sl [.i .i64,.i .i64],.i .i64,.b]]:=by
 intro ts ht hb
 obtain ⟨_,_,rfl,⟨x0,rfl,w0⟩,_,_,rfl,⟨x1,rfl,w1⟩,_,_,rfl,⟨x2,rfl,w2⟩,t3,_,rfl,h3,t4,_,rfl,h4,t5,_,rfl,h5,t6,_,rfl,h6,rfl⟩:=WTsU_of ht
 simp (implicitDefEqProofs:=false) only [bulkR_cons,bulkR_nil,bulk_l,bulk_i,bulk_b,bulk_s,Nat.add_zero,Nat.zero_add] at hb
 have s14:S_toSelf 14=F_toNet:=rfl
 have s111:S_toSelf 111=F_toIntS:=rfl
 have s112:S_toSelf 112=F_toRecordS:=rfl
 have e0:=so_toNet [.c (.int .i64 x2),t3,t4] (WTs_mk (show WTsU [.i .i64,.sl [.i .i64,.i .i64,.i .i64,.i .i64],.sl [.i .i64,.i .i64,.i .i64,.b]] _ from ⟨_,_,rfl,⟨_,rfl,w2⟩,_,_,rfl,h3,_,_,rfl,h4,rfl⟩)) (by simp (implicitDefEqProofs:=false) only [bulkR_cons,bulkR_nil,bulk_l,bulk_i,bulk_b,bulk_s,Nat.add_zero,Nat.zero_add];omega)
 have e1:=so_toIntS [t5] (WTs_mk (show WTsU [.sl [.i .i64]] _ from ⟨_,_,rfl,h5,rfl⟩)) (by simp (implicitDefEqProofs:=false) only [bulkR_cons,bulkR_nil,bulk_l,bulk_i,bulk_b,bulk_s,Nat.add_zero,Nat.zero_add];omega)
 have e2:=so_toRecordS [t6] (WTs_mk (show WTsU [.sl [.i .i64,.i .i64,.i .i64,.i .i64,.i .i64,.sl [.i .i64,.i .i64],.i .i64,.b]] _ from ⟨_,_,rfl,h6,rfl⟩)) (by simp (implicitDefEqProofs:=false) only [bulkR_cons,bulkR_nil,bulk_l,bulk_i,bulk_b,bulk_s,Nat.add_zero,Nat.zero_add];omega)
 simp (implicitDefEqProofs:=false) only [F_toSelf,p_toSelf,pl_ret,pl_pr,pl_cl,pl_ite,pl_go0,pl_goS,List.map_cons,List.map_nil,ev_k,ev_e,ev_a,List.cons_append,List.nil_append,List.append_assoc,List.getD_cons_zero,List.getD_cons_succ,bind_some',pickN,ifT_b,cond_true,cond_false,decide_true,decide_false,ev_len,ev_lens,ev_scl_i,ev_scl_b,ev_scl_s,ev_lss,ev_leq,ev_gtr,ev_geq,ev_eql,ev_neq,ev_add,ev_sub,ev_eqlS,ev_neqS,ev_bbneq,ev_bbeql,ev_not,Bool.not_true,Bool.not_false,bne_self_eq_false,beq_self_eq_true,s14,s111,s112,e0,e1,e2]
theorem so_toEar:ToOk F_toEar [.i .i64,.i .i64,.i .i64,.b]:=by
 intro ts ht hb
 obtain ⟨_,_,rfl,⟨x0,rfl,w0⟩,_,_,rfl,⟨x1,rfl,w1⟩,_,_,rfl,⟨x2,rfl,w2⟩,_,_,rfl,⟨x3,rfl⟩,rfl⟩:=WTsU_of ht
 simp (implicitDefEqProofs:=false) only [bulkR_cons,bulkR_nil,bulk_l,bulk_i,bulk_b,bulk_s,Nat.add_zero,Nat.zero_add] at hb
 simp (implicitDefEqProofs:=false) only [F_toEar,p_toEar,pl_ret,pl_pr,pl_cl,pl_ite,pl_go0,pl_goS,List.map_cons,List.map_nil,ev_k,ev_e,ev_a,List.cons_append,List.nil_append,List.append_assoc,List.getD_cons_zero,List.getD_cons_succ,bind_some',pickN,ifT_b,cond_true,cond_false,decide_true,decide_false,ev_len,ev_lens,ev_scl_i,ev_scl_b,ev_scl_s,ev_lss,ev_leq,ev_gtr,ev_geq,ev_eql,ev_neq,ev_add,ev_sub,ev_eqlS,ev_neqS,ev_bbneq,ev_bbeql,ev_not,Bool.not_true,Bool.not_false,bne_self_eq_false,beq_self_eq_true]
theorem so_toEarS:ToOk F_toEarS [.sl [.i .i64,.i .i64,.i .i64,.b]]:=toSli_ok (S:=S_toEarS) (w:=4) (g:=191) (zs:=[.k (.int .i64 0),.k (.int .i64 0),.k (.int .i64 0),.k (.bool false)]) (st:=.put true 4 0 4) rfl so_toEar rfl rfl (fun xs i z vs=>st_put (fs:=[.i .i64,.i .i64,.i .i64,.b]) (w:=4) rfl rfl xs i z vs)
theorem so_toNode:ToOk F_toNode [.i .i64,.i .i64,.i .i64,.sl [.i .i64,.i .i64,.i .i64,.i .i64],.sl [.i .i64,.i .i64,.i .i64,.b],.sl [.i .i64],.sl [.i .i64,.i .i64,.i .i64,.i .i64,.i .i64,.sl [.i .i64,.i .i64],.i .i64,.b],.sl [.i .i64,.i .i64,.i .i64,.b]]:=by
 intro ts ht hb
 obtain ⟨_,_,rfl,⟨x0,rfl,w0⟩,_,_,rfl,⟨x1,rfl,w1⟩,_,_,rfl,⟨x2,rfl,w2⟩,t3,_,rfl,h3,t4,_,rfl,h4,t5,_,rfl,h5,t6,_,rfl,h6,t7,_,rfl,h7,rfl⟩:=WTsU_of ht
 simp (implicitDefEqProofs:=false) only [bulkR_cons,bulkR_nil,bulk_l,bulk_i,bulk_b,bulk_s,Nat.add_zero,Nat.zero_add] at hb
 have s32:S_toNode 32=F_toSelf:=rfl
 have s93:S_toNode 93=F_toEarS:=rfl
 have e0:=so_toSelf [.c (.int .i64 x0),.c (.int .i64 x1),.c (.int .i64 x2),t3,t4,t5,t6] (WTs_mk (show WTsU [.i .i64,.i .i64,.i .i64,.sl [.i .i64,.i .i64,.i .i64,.i .i64],.sl [.i .i64,.i .i64,.i .i64,.b],.sl [.i .i64],.sl [.i .i64,.i .i64,.i .i64,.i .i64,.i .i64,.sl [.i .i64,.i .i64],.i .i64,.b]] _ from ⟨_,_,rfl,⟨_,rfl,w0⟩,_,_,rfl,⟨_,rfl,w1⟩,_,_,rfl,⟨_,rfl,w2⟩,_,_,rfl,h3,_,_,rfl,h4,_,_,rfl,h5,_,_,rfl,h6,rfl⟩)) (by simp (implicitDefEqProofs:=false) only [bulkR_cons,bulkR_nil,bulk_l,bulk_i,bulk_b,bulk_s,Nat.add_zero,Nat.zero_add];omega)
 have e1:=so_toEarS [t7] (WTs_mk (show WTsU [.sl [.i .i64,.i .i64,.i .i64,.b]] _ from ⟨_,_,rfl,h7,rfl⟩)) (by simp (implicitDefEqProofs:=false) only [bulkR_cons,bulkR_nil,bulk_l,bulk_i,bulk_b,bulk_s,Nat.add_zero,Nat.zero_add];omega)
 simp (implicitDefEqProofs:=false) only [F_toNode,p_toNode,pl_ret,pl_pr,pl_cl,pl_ite,pl_go0,pl_goS,List.map_cons,List.map_nil,ev_k,ev_e,ev_a,List.cons_append,List.nil_append,List.append_assoc,List.getD_cons_zero,List.getD_cons_succ,bind_some',pickN,ifT_b,cond_true,cond_false,decide_true,decide_false,ev_len,ev_lens,ev_scl_i,ev_scl_b,ev_scl_s,ev_lss,ev_leq,ev_gtr,ev_geq,ev_eql,ev_neq,ev_add,ev_sub,ev_eqlS,ev_neqS,ev_bbneq,ev_bbeql,ev_not,Bool.not_true,Bool.not_false,bne_self_eq_false,beq_self_eq_true,s32,s93,e0,e1]
theorem so_eqIntS:EqOk F_eqIntS [.sl [.i .i64]]:=eqScl_ok (S:=S_eqIntS) (op:=.bin .neq) neq_i
theorem so_eqRoute:EqOk F_eqRoute [.b,.i .i64,.i .i64,.i .i64,.i .i64,.sl [.i .i64]]:=by
 intro ts ht hb
 obtain ⟨_,_,rfl,⟨x0,rfl⟩,_,_,rfl,⟨x1,rfl,w1⟩,_,_,rfl,⟨x2,rfl,w2⟩,_,_,rfl,⟨x3,rfl,w3⟩,_,_,rfl,⟨x4,rfl,w4⟩,t5,_,rfl,h5,rfl⟩:=WTsU_of ht
 simp (implicitDefEqProofs:=false) only [bulkR_cons,bulkR_nil,bulk_l,bulk_i,bulk_b,bulk_s,Nat.add_zero,Nat.zero_add] at hb
 have s67:S_eqRoute 67=F_eqIntS:=rfl
 have e0:=so_eqIntS [t5] (WTs_mk (show WTsU [.sl [.i .i64]] _ from ⟨_,_,rfl,h5,rfl⟩)) (by simp (implicitDefEqProofs:=false) only [bulkR_cons,bulkR_nil,bulk_l,bulk_i,bulk_b,bulk_s,Nat.add_zero,Nat.zero_add];omega)
 simp only [List.cons_append,List.nil_append] at e0
 simp (implicitDefEqProofs:=false) only [F_eqRoute,p_eqRoute,pl_ret,pl_pr,pl_cl,pl_ite,pl_go0,pl_goS,List.map_cons,List.map_nil,ev_k,ev_e,ev_a,List.cons_append,List.nil_append,List.append_assoc,List.getD_cons_zero,List.getD_cons_succ,bind_some',pickN,ifT_b,cond_true,cond_false,decide_true,decide_false,ev_len,ev_lens,ev_scl_i,ev_scl_b,ev_scl_s,ev_lss,ev_leq,ev_gtr,ev_geq,ev_eql,ev_neq,ev_add,ev_sub,ev_eqlS,ev_neqS,ev_bbneq,ev_bbeql,ev_not,Bool.not_true,Bool.not_false,bne_self_eq_false,beq_self_eq_true,s67,e0]
theorem so_eqRouteS:EqOk F_eqRouteS [.sl [.b,.i .i64,.i .i64,.i .i64,.i .i64,.sl [.i .i64]]]:=eqSli_ok (S:=S_eqRouteS) (w:=6) (g:=86) rfl so_eqRoute
theorem so_eqLink:EqOk F_eqLink [.i .i64,.i .i64,.i .i64,.i .i64]:=by
 intro ts ht hb
 obtain ⟨_,_,rfl,⟨x0,rfl,w0⟩,_,_,rfl,⟨x1,rfl,w1⟩,_,_,rfl,⟨x2,rfl,w2⟩,_,_,rfl,⟨x3,rfl,w3⟩,rfl⟩:=WTsU_of ht
 simp (implicitDefEqProofs:=false) only [bulkR_cons,bulkR_nil,bulk_l,bulk_i,bulk_b,bulk_s,Nat.add_zero,Nat.zero_add] at hb
 simp (implicitDefEqProofs:=false) only [F_eqLink,p_eqLink,pl_ret,pl_pr,pl_cl,pl_ite,pl_go0,pl_goS,List.map_cons,List.map_nil,ev_k,ev_e,ev_a,List.cons_append,List.nil_append,List.append_assoc,List.getD_cons_zero,List.getD_cons_succ,bind_some',pickN,ifT_b,cond_true,cond_false,decide_true,decide_false,ev_len,ev_lens,ev_scl_i,ev_scl_b,ev_scl_s,ev_lss,ev_leq,ev_gtr,ev_geq,ev_eql,ev_neq,ev_add,ev_sub,ev_eqlS,ev_neqS,ev_bbneq,ev_bbeql,ev_not,Bool.not_true,Bool.not_false,bne_self_eq_false,beq_self_eq_true]
theorem so_eqLinkS:EqOk F_eqLinkS [.sl [.i .i64,.i .i64,.i .i64,.i .i64]]:=eqSli_ok (S:=S_eqLinkS) (w:=4) (g:=188) rfl so_eqLink
theorem so_eqThing:EqOk F_eqThing [.i .i64,.i .i64,.i .i64,.b]:=by
 intro ts ht hb
 obtain ⟨_,_,rfl,⟨x0,rfl,w0⟩,_,_,rfl,⟨x1,rfl,w1⟩,_,_,rfl,⟨x2,rfl,w2⟩,_,_,rfl,⟨x3,rfl⟩,rfl⟩:=WTsU_of ht
 simp (implicitDefEqProofs:=false) only [bulkR_cons,bulkR_nil,bulk_l,bulk_i,bulk_b,bulk_s,Nat.add_zero,Nat.zero_add] at hb
 simp (implicitDefEqProofs:=false) only [F_eqThing,p_eqThing,pl_ret,pl_pr,pl_cl,pl_ite,pl_go0,pl_goS,List.map_cons,List.map_nil,ev_k,ev_e,ev_a,List.cons_append,List.nil_append,List.append_assoc,List.getD_cons_zero,List.getD_cons_succ,bind_some',pickN,ifT_b,cond_true,cond_false,decide_true,decide_false,ev_len,ev_lens,ev_scl_i,ev_scl_b,ev_scl_s,ev_lss,ev_leq,ev_gtr,ev_geq,ev_eql,ev_neq,ev_add,ev_sub,ev_eqlS,ev_neqS,ev_bbneq,ev_bbeql,ev_not,Bool.not_true,Bool.not_false,bne_self_eq_false,beq_self_eq_true]
theorem so_eqThingS:EqOk F_eqThingS [.sl [.i .i64,.i .i64,.i .i64,.b]]:=eqSli_ok (S:=S_eqThingS) (w:=4) (g:=189) rfl so_eqThing
theorem so_eqNet:EqOk F_eqNet [.i .i64,.sl [.i .i64,.i .i64,.i .i64,.i .i64],.sl [.i .i64,.i .i64,.i .i64,.b]]:=by
 intro ts ht hb
 obtain ⟨_,_,rfl,⟨x0,rfl,w0⟩,t1,_,rfl,h1,t2,_,rfl,h2,rfl⟩:=WTsU_of ht
 simp (implicitDefEqProofs:=false) only [bulkR_cons,bulkR_nil,bulk_l,bulk_i,bulk_b,bulk_s,Nat.add_zero,Nat.zero_add] at hb
 have s87:S_eqNet 87=F_eqLinkS:=rfl
 have s88:S_eqNet 88=F_eqThingS:=rfl
 have e0:=so_eqLinkS [t1] (WTs_mk (show WTsU [.sl [.i .i64,.i .i64,.i .i64,.i .i64]] _ from ⟨_,_,rfl,h1,rfl⟩)) (by simp (implicitDefEqProofs:=false) only [bulkR_cons,bulkR_nil,bulk_l,bulk_i,bulk_b,bulk_s,Nat.add_zero,Nat.zero_add];omega)
 simp only [List.cons_append,List.nil_append] at e0
 have e1:=so_eqThingS [t2] (WTs_mk (show WTsU [.sl [.i .i64,.i .i64,.i .i64,.b]] _ from ⟨_,_,rfl,h2,rfl⟩)) (by simp (implicitDefEqProofs:=false) only [bulkR_cons,bulkR_nil,bulk_l,bulk_i,bulk_b,bulk_s,Nat.add_zero,Nat.zero_add];omega)
 simp only [List.cons_append,List.nil_append] at e1
 simp (implicitDefEqProofs:=false) only [F_eqNet,p_eqNet,pl_ret,pl_pr,pl_cl,pl_ite,pl_go0,pl_goS,List.map_cons,List.map_nil,ev_k,ev_e,ev_a,List.cons_append,List.nil_append,List.append_assoc,List.getD_cons_zero,List.getD_cons_succ,bind_some',pickN,ifT_b,cond_true,cond_false,decide_true,decide_false,ev_len,ev_lens,ev_scl_i,ev_scl_b,ev_scl_s,ev_lss,ev_leq,ev_gtr,ev_geq,ev_eql,ev_neq,ev_add,ev_sub,ev_eqlS,ev_neqS,ev_bbneq,ev_bbeql,ev_not,Bool.not_true,Bool.not_false,bne_self_eq_false,beq_self_eq_true,s87,s88,e0,e1]
theorem so_eqNear:EqOk F_eqNear [.i .i64,.i .i64]:=by
 intro ts ht hb
 obtain ⟨_,_,rfl,⟨x0,rfl,w0⟩,_,_,rfl,⟨x1,rfl,w1⟩,rfl⟩:=WTsU_of ht
 simp (implicitDefEqProofs:=false) only [bulkR_cons,bulkR_nil,bulk_l,bulk_i,bulk_b,bulk_s,Nat.add_zero,Nat.zero_add] at hb
 simp (implicitDefEqProofs:=false) only [F_eqNear,p_eqNear,pl_ret,pl_pr,pl_cl,pl_ite,pl_go0,pl_goS,List.map_cons,List.map_nil,ev_k,ev_e,ev_a,List.cons_append,List.nil_append,List.append_assoc,List.getD_cons_zero,List.getD_cons_succ,bind_some',pickN,ifT_b,cond_true,cond_false,decide_true,decide_false,ev_len,ev_lens,ev_scl_i,ev_scl_b,ev_scl_s,ev_lss,ev_leq,ev_gtr,ev_geq,ev_eql,ev_neq,ev_add,ev_sub,ev_eqlS,ev_neqS,ev_bbneq,ev_bbeql,ev_not,Bool.not_true,Bool.not_false,bne_self_eq_false,beq_self_eq_true]
theorem so_eqNearS:EqOk F_eqNearS [.sl [.i .i64,.i .i64]]:=eqSli_ok (S:=S_eqNearS) (w:=2) (g:=263) rfl so_eqNear
theorem so_eqRecord:EqOk F_eqRecord [.i .i64,.i .i64,.i .i64,.i .i64,.i .i64,.sl [.i .i64,.i .i64],.i .i64,.b]:=by
 intro ts ht hb
 obtain ⟨_,_,rfl,⟨x0,rfl,w0⟩,_,_,rfl,⟨x1,rfl,w1⟩,_,_,rfl,⟨x2,rfl,w2⟩,_,_,rfl,⟨x3,rfl,w3⟩,_,_,rfl,⟨x4,rfl,w4⟩,t5,_,rfl,h5,_,_,rfl,⟨x6,rfl,w6⟩,_,_,rfl,⟨x7,rfl⟩,rfl⟩:=WTsU_of ht
 simp (implicitDefEqProofs:=false) only [bulkR_cons,bulkR_nil,bulk_l,bulk_i,bulk_b,bulk_s,Nat.add_zero,Nat.zero_add] at hb
 have s211:S_eqRecord 211=F_eqNearS:=rfl
 have e0:=so_eqNearS [t5] (WTs_mk (show WTsU [.sl [.i .i64,.i .i64]] _ from ⟨_,_,rfl,h5,rfl⟩)) (by simp (implicitDefEqProofs:=false) only [bulkR_cons,bulkR_nil,bulk_l,bulk_i,bulk_b,bulk_s,Nat.add_zero,Nat.zero_add];omega)
 simp only [List.cons_append,List.nil_append] at e0
 simp (implicitDefEqProofs:=false) only [F_eqRecord,p_eqRecord,pl_ret,pl_pr,pl_cl,pl_ite,pl_go0,pl_goS,List.map_cons,List.map_nil,ev_k,ev_e,ev_a,List.cons_append,List.nil_append,List.append_assoc,List.getD_cons_zero,List.getD_cons_succ,bind_some',pickN,ifT_b,cond_true,cond_false,decide_true,decide_false,ev_len,ev_lens,ev_scl_i,ev_scl_b,ev_scl_s,ev_lss,ev_leq,ev_gtr,ev_geq,ev_eql,ev_neq,ev_add,ev_sub,ev_eqlS,ev_neqS,ev_bbneq,ev_bbeql,ev_not,Bool.not_true,Bool.not_false,bne_self_eq_false,beq_self_eq_true,s211,e0]
theorem so_eqRecordS:EqOk F_eqRecordS [.sl [.i .i64,.i .i64,.i .i64,.i .i64,.i .i64,.sl [.i .i64,.i .i64],.i .i64,.b]]:=eqSli_ok (S:=S_eqRecordS) (w:=8) (g:=118) rfl so_eqRecord
theorem so_eqSelf:EqOk F_eqSelf [.i .i64,.i .i64,.i .i64,.sl [.i .i64,.i .i64,.i .i64,.i .i64],.sl [.i .i64,.i .i64,.i .i64,.b],.sl [.i .i64],.sl [.i .i64,.i .i64,.i .i64,.i .i64,.i .i64,.sl [.i .i64,.i .i64],.i .i64,.b]]:=by
 intro ts ht hb
 obtain ⟨_,_,rfl,⟨x0,rfl,w0⟩,_,_,rfl,⟨x1,rfl,w1⟩,_,_,rfl,⟨x2,rfl,w2⟩,t3,_,rfl,h3,t4,_,rfl,h4,t5,_,rfl,h5,t6,_,rfl,h6,rfl⟩:=WTsU_of ht
 simp (implicitDefEqProofs:=false) only [bulkR_cons,bulkR_nil,bulk_l,bulk_i,bulk_b,bulk_s,Nat.add_zero,Nat.zero_add] at hb
 have s18:S_eqSelf 18=F_eqNet:=rfl
 have s35:S_eqSelf 35=F_eqRecordS:=rfl
 have s67:S_eqSelf 67=F_eqIntS:=rfl
 have e0:=so_eqNet [.c (.int .i64 x2),t3,t4] (WTs_mk (show WTsU [.i .i64,.sl [.i .i64,.i .i64,.i .i64,.i .i64],.sl [.i .i64,.i .i64,.i .i64,.b]] _ from ⟨_,_,rfl,⟨_,rfl,w2⟩,_,_,rfl,h3,_,_,rfl,h4,rfl⟩)) (by simp (implicitDefEqProofs:=false) only [bulkR_cons,bulkR_nil,bulk_l,bulk_i,bulk_b,bulk_s,Nat.add_zero,Nat.zero_add];omega)
 simp only [List.cons_append,List.nil_append] at e0
 have e1:=so_eqIntS [t5] (WTs_mk (show WTsU [.sl [.i .i64]] _ from ⟨_,_,rfl,h5,rfl⟩)) (by simp (implicitDefEqProofs:=false) only [bulkR_cons,bulkR_nil,bulk_l,bulk_i,bulk_b,bulk_s,Nat.add_zero,Nat.zero_add];omega)
 simp only [List.cons_append,List.nil_append] at e1
 have e2:=so_eqRecordS [t6] (WTs_mk (show WTsU [.sl [.i .i64,.i .i64,.i .i64,.i .i64,.i .i64,.sl [.i .i64,.i .i64],.i .i64,.b]] _ from ⟨_,_,rfl,h6,rfl⟩)) (by simp (implicitDefEqProofs:=false) only [bulkR_cons,bulkR_nil,bulk_l,bulk_i,bulk_b,bulk_s,Nat.add_zero,Nat.zero_add];omega)
 simp only [List.cons_append,List.nil_append] at e2
 simp (implicitDefEqProofs:=false) only [F_eqSelf,p_eqSelf,pl_ret,pl_pr,pl_cl,pl_ite,pl_go0,pl_goS,List.map_cons,List.map_nil,ev_k,ev_e,ev_a,List.cons_append,List.nil_append,List.append_assoc,List.getD_cons_zero,List.getD_cons_succ,bind_some',pickN,ifT_b,cond_true,cond_false,decide_true,decide_false,ev_len,ev_lens,ev_scl_i,ev_scl_b,ev_scl_s,ev_lss,ev_leq,ev_gtr,ev_geq,ev_eql,ev_neq,ev_add,ev_sub,ev_eqlS,ev_neqS,ev_bbneq,ev_bbeql,ev_not,Bool.not_true,Bool.not_false,bne_self_eq_false,beq_self_eq_true,s18,s35,s67,e0,e1,e2]
theorem so_eqEar:EqOk F_eqEar [.i .i64,.i .i64,.i .i64,.b]:=by
 intro ts ht hb
 obtain ⟨_,_,rfl,⟨x0,rfl,w0⟩,_,_,rfl,⟨x1,rfl,w1⟩,_,_,rfl,⟨x2,rfl,w2⟩,_,_,rfl,⟨x3,rfl⟩,rfl⟩:=WTsU_of ht
 simp (implicitDefEqProofs:=false) only [bulkR_cons,bulkR_nil,bulk_l,bulk_i,bulk_b,bulk_s,Nat.add_zero,Nat.zero_add] at hb
 simp (implicitDefEqProofs:=false) only [F_eqEar,p_eqEar,pl_ret,pl_pr,pl_cl,pl_ite,pl_go0,pl_goS,List.map_cons,List.map_nil,ev_k,ev_e,ev_a,List.cons_append,List.nil_append,List.append_assoc,List.getD_cons_zero,List.getD_cons_succ,bind_some',pickN,ifT_b,cond_true,cond_false,decide_true,decide_false,ev_len,ev_lens,ev_scl_i,ev_scl_b,ev_scl_s,ev_lss,ev_leq,ev_gtr,ev_geq,ev_eql,ev_neq,ev_add,ev_sub,ev_eqlS,ev_neqS,ev_bbneq,ev_bbeql,ev_not,Bool.not_true,Bool.not_false,bne_self_eq_false,beq_self_eq_true]
theorem so_eqEarS:EqOk F_eqEarS [.sl [.i .i64,.i .i64,.i .i64,.b]]:=eqSli_ok (S:=S_eqEarS) (w:=4) (g:=193) rfl so_eqEar
theorem so_eqNode:EqOk F_eqNode [.i .i64,.i .i64,.i .i64,.sl [.i .i64,.i .i64,.i .i64,.i .i64],.sl [.i .i64,.i .i64,.i .i64,.b],.sl [.i .i64],.sl [.i .i64,.i .i64,.i .i64,.i .i64,.i .i64,.sl [.i .i64,.i .i64],.i .i64,.b],.sl [.i .i64,.i .i64,.i .i64,.b]]:=by
 intro ts ht hb
 obtain ⟨_,_,rfl,⟨x0,rfl,w0⟩,_,_,rfl,⟨x1,rfl,w1⟩,_,_,rfl,⟨x2,rfl,w2⟩,t3,_,rfl,h3,t4,_,rfl,h4,t5,_,rfl,h5,t6,_,rfl,h6,t7,_,rfl,h7,rfl⟩:=WTsU_of ht
 simp (implicitDefEqProofs:=false) only [bulkR_cons,bulkR_nil,bulk_l,bulk_i,bulk_b,bulk_s,Nat.add_zero,Nat.zero_add] at hb
 have s34:S_eqNode 34=F_eqSelf:=rfl
 have s95:S_eqNode 95=F_eqEarS:=rfl
 have e0:=so_eqSelf [.c (.int .i64 x0),.c (.int .i64 x1),.c (.int .i64 x2),t3,t4,t5,t6] (WTs_mk (show WTsU [.i .i64,.i .i64,.i .i64,.sl [.i .i64,.i .i64,.i .i64,.i .i64],.sl [.i .i64,.i .i64,.i .i64,.b],.sl [.i .i64],.sl [.i .i64,.i .i64,.i .i64,.i .i64,.i .i64,.sl [.i .i64,.i .i64],.i .i64,.b]] _ from ⟨_,_,rfl,⟨_,rfl,w0⟩,_,_,rfl,⟨_,rfl,w1⟩,_,_,rfl,⟨_,rfl,w2⟩,_,_,rfl,h3,_,_,rfl,h4,_,_,rfl,h5,_,_,rfl,h6,rfl⟩)) (by simp (implicitDefEqProofs:=false) only [bulkR_cons,bulkR_nil,bulk_l,bulk_i,bulk_b,bulk_s,Nat.add_zero,Nat.zero_add];omega)
 simp only [List.cons_append,List.nil_append] at e0
 have e1:=so_eqEarS [t7] (WTs_mk (show WTsU [.sl [.i .i64,.i .i64,.i .i64,.b]] _ from ⟨_,_,rfl,h7,rfl⟩)) (by simp (implicitDefEqProofs:=false) only [bulkR_cons,bulkR_nil,bulk_l,bulk_i,bulk_b,bulk_s,Nat.add_zero,Nat.zero_add];omega)
 simp only [List.cons_append,List.nil_append] at e1
 simp (implicitDefEqProofs:=false) only [F_eqNode,p_eqNode,pl_ret,pl_pr,pl_cl,pl_ite,pl_go0,pl_goS,List.map_cons,List.map_nil,ev_k,ev_e,ev_a,List.cons_append,List.nil_append,List.append_assoc,List.getD_cons_zero,List.getD_cons_succ,bind_some',pickN,ifT_b,cond_true,cond_false,decide_true,decide_false,ev_len,ev_lens,ev_scl_i,ev_scl_b,ev_scl_s,ev_lss,ev_leq,ev_gtr,ev_geq,ev_eql,ev_neq,ev_add,ev_sub,ev_eqlS,ev_neqS,ev_bbneq,ev_bbeql,ev_not,Bool.not_true,Bool.not_false,bne_self_eq_false,beq_self_eq_true,s34,s95,e0,e1]
theorem so_heldIntS:HeldOk F_heldIntS [.sl [.i .i64]]:=held_ok (S:=S_heldIntS) (fs:=[.i .i64]) (gs:=[]) (trivial) rfl
theorem so_heldRouteS:HeldOk F_heldRouteS [.sl [.b,.i .i64,.i .i64,.i .i64,.i .i64,.sl [.i .i64]]]:=held_ok (S:=S_heldRouteS) (fs:=[.b,.i .i64,.i .i64,.i .i64,.i .i64,.sl [.i .i64]]) (gs:=[71]) (And.intro so_heldIntS (trivial)) rfl
end Go.Proofs.YtiebbbmibbkpcaaGreatC
