/- What the functions of the families sz, to, eq do (printed by a program). Conditions: none. -/
import Derived.Test.YtcknaignbagihaaXPB
import Derived.Test.YtcknaignbagihaaKd
namespace Go.Proofs.YtcknaignbagihaaC
set_option linter.unusedVariables false
set_option linter.unusedSimpArgs false
theorem so_szLinkS : SzOk F_szLinkS [.sl [.i .i64, .i .i64, .i .i64, .i .i64]] := szLen_ok (S := S_szLinkS) (R := rounds) rfl
theorem so_szThingS : SzOk F_szThingS [.sl [.i .i64, .i .i64, .i .i64, .b]] := szLen_ok (S := S_szThingS) (R := rounds) rfl
theorem so_szNet : SzOk F_szNet [.i .i64, .sl [.i .i64, .i .i64, .i .i64, .i .i64], .sl [.i .i64, .i .i64, .i .i64, .b]] := by
  intro ts l ht h_0 h_1
  obtain ⟨_, _, rfl, ⟨x0, rfl, w0⟩, t1, _, rfl, h1, t2, _, rfl, h2, rfl⟩ := WTsU_of ht
  have s111 : S_szNet 111 = F_szLinkS := rfl
  have s112 : S_szNet 112 = F_szThingS := rfl
  obtain ⟨n0, e0, b0, c0⟩ := so_szLinkS [t1] l (WTs_mk (show WTsU [.sl [.i .i64, .i .i64, .i .i64, .i .i64]] _ from ⟨_, _, rfl, h1, rfl⟩)) (by omega) (by omega)
  simp only [List.cons_append, List.nil_append, bulkR_cons, bulkR_nil, bulk_l, bulk_i, bulk_b, bulk_s, Nat.add_zero, Nat.zero_add] at e0 c0
  by_cases g0 : n0 < 0
  · exact ⟨-1, by simp only [F_szNet, p_szNet, pl_ret, pl_pr, pl_cl, pl_ite, pl_go0, pl_goS, List.map_cons, List.map_nil, ev_k, ev_e, ev_a, List.cons_append, List.nil_append, List.append_assoc, List.getD_cons_zero, List.getD_cons_succ, bind_some', pickN, ifT_b, cond_true, cond_false, decide_true, decide_false, ev_len, ev_lens, ev_scl_i, ev_scl_b, ev_scl_s, ev_lss, ev_leq, ev_gtr, ev_geq, ev_eql, ev_neq, ev_add, ev_sub, ev_eqlS, ev_neqS, ev_bbneq, ev_bbeql, ev_not, Bool.not_true, Bool.not_false, bne_self_eq_false, beq_self_eq_true, s111, s112, e0, g0], by omega, by omega⟩
  obtain ⟨n1, e1, b1, c1⟩ := so_szThingS [t2] n0 (WTs_mk (show WTsU [.sl [.i .i64, .i .i64, .i .i64, .b]] _ from ⟨_, _, rfl, h2, rfl⟩)) (by omega) (by omega)
  simp only [List.cons_append, List.nil_append, bulkR_cons, bulkR_nil, bulk_l, bulk_i, bulk_b, bulk_s, Nat.add_zero, Nat.zero_add] at e1 c1
  by_cases g1 : n1 < 0
  · exact ⟨-1, by simp only [F_szNet, p_szNet, pl_ret, pl_pr, pl_cl, pl_ite, pl_go0, pl_goS, List.map_cons, List.map_nil, ev_k, ev_e, ev_a, List.cons_append, List.nil_append, List.append_assoc, List.getD_cons_zero, List.getD_cons_succ, bind_some', pickN, ifT_b, cond_true, cond_false, decide_true, decide_false, ev_len, ev_lens, ev_scl_i, ev_scl_b, ev_scl_s, ev_lss, ev_leq, ev_gtr, ev_geq, ev_eql, ev_neq, ev_add, ev_sub, ev_eqlS, ev_neqS, ev_bbneq, ev_bbeql, ev_not, Bool.not_true, Bool.not_false, bne_self_eq_false, beq_self_eq_true, s111, s112, e0, e1, g0, g1], by omega, by omega⟩
  refine ⟨n1, by simp only [F_szNet, p_szNet, pl_ret, pl_pr, pl_cl, pl_ite, pl_go0, pl_goS, List.map_cons, List.map_nil, ev_k, ev_e, ev_a, List.cons_append, List.nil_append, List.append_assoc, List.getD_cons_zero, List.getD_cons_succ, bind_some', pickN, ifT_b, cond_true, cond_false, decide_true, decide_false, ev_len, ev_lens, ev_scl_i, ev_scl_b, ev_scl_s, ev_lss, ev_leq, ev_gtr, ev_geq, ev_eql, ev_neq, ev_add, ev_sub, ev_eqlS, ev_neqS, ev_bbneq, ev_bbeql, ev_not, Bool.not_true, Bool.not_false, bne_self_eq_false, beq_self_eq_true, s111, s112, e0, e1, g0, g1], by omega, fun _ => ?_⟩
  simp only [bulkR_cons, bulkR_nil, bulk_l, bulk_i, bulk_b, bulk_s, Nat.add_zero, Nat.zero_add]
  have := c0 (by omega)
  have := c1 (by omega)
  omega
theorem so_szBoolS : SzOk F_szBoolS [.sl [.b]] := szLen_ok (S := S_szBoolS) (R := rounds) rfl
theorem so_szIntS : SzOk F_szIntS [.sl [.i .i64]] := szLen_ok (S := S_szIntS) (R := rounds) rfl
theorem so_szNearS : SzOk F_szNearS [.sl [.i .i64, .i .i64]] := szLen_ok (S := S_szNearS) (R := rounds) rfl
theorem so_szRecord : SzOk F_szRecord [.i .i64, .i .i64, .i .i64, .i .i64, .i .i64, .sl [.i .i64, .i .i64], .i .i64, .b] := by
  intro ts l ht h_0 h_1
  obtain ⟨_, _, rfl, ⟨x0, rfl, w0⟩, _, _, rfl, ⟨x1, rfl, w1⟩, _, _, rfl, ⟨x2, rfl, w2⟩, _, _, rfl, ⟨x3, rfl, w3⟩, _, _, rfl, ⟨x4, rfl, w4⟩, t5, _, rfl, h5, _, _, rfl, ⟨x6, rfl, w6⟩, _, _, rfl, ⟨x7, rfl⟩, rfl⟩ := WTsU_of ht
  have s94 : S_szRecord 94 = F_szNearS := rfl
  obtain ⟨n0, e0, b0, c0⟩ := so_szNearS [t5] l (WTs_mk (show WTsU [.sl [.i .i64, .i .i64]] _ from ⟨_, _, rfl, h5, rfl⟩)) (by omega) (by omega)
  simp only [List.cons_append, List.nil_append, bulkR_cons, bulkR_nil, bulk_l, bulk_i, bulk_b, bulk_s, Nat.add_zero, Nat.zero_add] at e0 c0
  by_cases g0 : n0 < 0
  · exact ⟨-1, by simp only [F_szRecord, p_szRecord, pl_ret, pl_pr, pl_cl, pl_ite, pl_go0, pl_goS, List.map_cons, List.map_nil, ev_k, ev_e, ev_a, List.cons_append, List.nil_append, List.append_assoc, List.getD_cons_zero, List.getD_cons_succ, bind_some', pickN, ifT_b, cond_true, cond_false, decide_true, decide_false, ev_len, ev_lens, ev_scl_i, ev_scl_b, ev_scl_s, ev_lss, ev_leq, ev_gtr, ev_geq, ev_eql, ev_neq, ev_add, ev_sub, ev_eqlS, ev_neqS, ev_bbneq, ev_bbeql, ev_not, Bool.not_true, Bool.not_false, bne_self_eq_false, beq_self_eq_true, s94, e0, g0], by omega, by omega⟩
  refine ⟨n0, by simp only [F_szRecord, p_szRecord, pl_ret, pl_pr, pl_cl, pl_ite, pl_go0, pl_goS, List.map_cons, List.map_nil, ev_k, ev_e, ev_a, List.cons_append, List.nil_append, List.append_assoc, List.getD_cons_zero, List.getD_cons_succ, bind_some', pickN, ifT_b, cond_true, cond_false, decide_true, decide_false, ev_len, ev_lens, ev_scl_i, ev_scl_b, ev_scl_s, ev_lss, ev_leq, ev_gtr, ev_geq, ev_eql, ev_neq, ev_add, ev_sub, ev_eqlS, ev_neqS, ev_bbneq, ev_bbeql, ev_not, Bool.not_true, Bool.not_false, bne_self_eq_false, beq_self_eq_true, s94, e0, g0], by omega, fun _ => ?_⟩
  simp only [bulkR_cons, bulkR_nil, bulk_l, bulk_i, bulk_b, bulk_s, Nat.add_zero, Nat.zero_add]
  have := c0 (by omega)
  omega
theorem so_szRecordS : SzOk F_szRecordS [.sl [.i .i64, .i .i64, .i .i64, .i .i64, .i .i64, .sl [.i .i64, .i .i64], .i .i64, .b]] := szSli_ok (S := S_szRecordS) (w := 8) (g := 37) rfl so_szRecord
theorem so_szSelf : SzOk F_szSelf [.i .i64, .i .i64, .i .i64, .sl [.i .i64, .i .i64, .i .i64, .i .i64], .sl [.i .i64, .i .i64, .i .i64, .b], .sl [.i .i64], .sl [.i .i64, .i .i64, .i .i64, .i .i64, .i .i64, .sl [.i .i64, .i .i64], .i .i64, .b]] := by
  intro ts l ht h_0 h_1
  obtain ⟨_, _, rfl, ⟨x0, rfl, w0⟩, _, _, rfl, ⟨x1, rfl, w1⟩, _, _, rfl, ⟨x2, rfl, w2⟩, t3, _, rfl, h3, t4, _, rfl, h4, t5, _, rfl, h5, t6, _, rfl, h6, rfl⟩ := WTsU_of ht
  have s9 : S_szSelf 9 = F_szRecordS := rfl
  have s56 : S_szSelf 56 = F_szNet := rfl
  have s58 : S_szSelf 58 = F_szIntS := rfl
  obtain ⟨n0, e0, b0, c0⟩ := so_szNet [.c (.int .i64 x2), t3, t4] l (WTs_mk (show WTsU [.i .i64, .sl [.i .i64, .i .i64, .i .i64, .i .i64], .sl [.i .i64, .i .i64, .i .i64, .b]] _ from ⟨_, _, rfl, ⟨_, rfl, w2⟩, _, _, rfl, h3, _, _, rfl, h4, rfl⟩)) (by omega) (by omega)
  simp only [List.cons_append, List.nil_append, bulkR_cons, bulkR_nil, bulk_l, bulk_i, bulk_b, bulk_s, Nat.add_zero, Nat.zero_add] at e0 c0
  by_cases g0 : n0 < 0
  · exact ⟨-1, by simp only [F_szSelf, p_szSelf, pl_ret, pl_pr, pl_cl, pl_ite, pl_go0, pl_goS, List.map_cons, List.map_nil, ev_k, ev_e, ev_a, List.cons_append, List.nil_append, List.append_assoc, List.getD_cons_zero, List.getD_cons_succ, bind_some', pickN, ifT_b, cond_true, cond_false, decide_true, decide_false, ev_len, ev_lens, ev_scl_i, ev_scl_b, ev_scl_s, ev_lss, ev_leq, ev_gtr, ev_geq, ev_eql, ev_neq, ev_add, ev_sub, ev_eqlS, ev_neqS, ev_bbneq, ev_bbeql, ev_not, Bool.not_true, Bool.not_false, bne_self_eq_false, beq_self_eq_true, s9, s56, s58, e0, g0], by omega, by omega⟩
  obtain ⟨n1, e1, b1, c1⟩ := so_szIntS [t5] n0 (WTs_mk (show WTsU [.sl [.i .i64]] _ from ⟨_, _, rfl, h5, rfl⟩)) (by omega) (by omega)
  simp only [List.cons_append, List.nil_append, bulkR_cons, bulkR_nil, bulk_l, bulk_i, bulk_b, bulk_s, Nat.add_zero, Nat.zero_add] at e1 c1
  by_cases g1 : n1 < 0
  · exact ⟨-1, by simp only [F_szSelf, p_szSelf, pl_ret, pl_pr, pl_cl, pl_ite, pl_go0, pl_goS, List.map_cons, List.map_nil, ev_k, ev_e, ev_a, List.cons_append, List.nil_append, List.append_assoc, List.getD_cons_zero, List.getD_cons_succ, bind_some', pickN, ifT_b, cond_true, cond_false, decide_true, decide_false, ev_len, ev_lens, ev_scl_i, ev_scl_b, ev_scl_s, ev_lss, ev_leq, ev_gtr, ev_geq, ev_eql, ev_neq, ev_add, ev_sub, ev_eqlS, ev_neqS, ev_bbneq, ev_bbeql, ev_not, Bool.not_true, Bool.not_false, bne_self_eq_false, beq_self_eq_true, s9, s56, s58, e0, e1, g0, g1], by omega, by omega⟩
  obtain ⟨n2, e2, b2, c2⟩ := so_szRecordS [t6] n1 (WTs_mk (show WTsU [.sl [.i .i64, .i .i64, .i .i64, .i .i64, .i .i64, .sl [.i .i64, .i .i64], .i .i64, .b]] _ from ⟨_, _, rfl, h6, rfl⟩)) (by omega) (by omega)
  simp only [List.cons_append, List.nil_append, bulkR_cons, bulkR_nil, bulk_l, bulk_i, bulk_b, bulk_s, Nat.add_zero, Nat.zero_add] at e2 c2
  by_cases g2 : n2 < 0
  · exact ⟨-1, by simp only [F_szSelf, p_szSelf, pl_ret, pl_pr, pl_cl, pl_ite, pl_go0, pl_goS, List.map_cons, List.map_nil, ev_k, ev_e, ev_a, List.cons_append, List.nil_append, List.append_assoc, List.getD_cons_zero, List.getD_cons_succ, bind_some', pickN, ifT_b, cond_true, cond_false, decide_true, decide_false, ev_len, ev_lens, ev_scl_i, ev_scl_b, ev_scl_s, ev_lss, ev_leq, ev_gtr, ev_geq, ev_eql, ev_neq, ev_add, ev_sub, ev_eqlS, ev_neqS, ev_bbneq, ev_bbeql, ev_not, Bool.not_true, Bool.not_false, bne_self_eq_false, beq_self_eq_true, s9, s56, s58, e0, e1, e2, g0, g1, g2], by omega, by omega⟩
  refine ⟨n2, by simp only [F_szSelf, p_szSelf, pl_ret, pl_pr, pl_cl, pl_ite, pl_go0, pl_goS, List.map_cons, List.map_nil, ev_k, ev_e, ev_a, List.cons_append, List.nil_append, List.append_assoc, List.getD_cons_zero, List.getD_cons_succ, bind_some', pickN, ifT_b, cond_true, cond_false, decide_true, decide_false, ev_len, ev_lens, ev_scl_i, ev_scl_b, ev_scl_s, ev_lss, ev_leq, ev_gtr, ev_geq, ev_eql, ev_neq, ev_add, ev_sub, ev_eqlS, ev_neqS, ev_bbneq, ev_bbeql, ev_not, Bool.not_true, Bool.not_false, bne_self_eq_false, beq_self_eq_true, s9, s56, s58, e0, e1, e2, g0, g1, g2], by omega, fun _ => ?_⟩
  simp only [bulkR_cons, bulkR_nil, bulk_l, bulk_i, bulk_b, bulk_s, Nat.add_zero, Nat.zero_add]
  have := c0 (by omega)
  have := c1 (by omega)
  have := c2 (by omega)
  omega
theorem so_szEarS : SzOk F_szEarS [.sl [.i .i64, .i .i64, .i .i64, .b]] := szLen_ok (S := S_szEarS) (R := rounds) rfl
theorem so_szNode : SzOk F_szNode [.i .i64, .i .i64, .i .i64, .sl [.i .i64, .i .i64, .i .i64, .i .i64], .sl [.i .i64, .i .i64, .i .i64, .b], .sl [.i .i64], .sl [.i .i64, .i .i64, .i .i64, .i .i64, .i .i64, .sl [.i .i64, .i .i64], .i .i64, .b], .sl [.i .i64, .i .i64, .i .i64, .b]] := by
  intro ts l ht h_0 h_1
  obtain ⟨_, _, rfl, ⟨x0, rfl, w0⟩, _, _, rfl, ⟨x1, rfl, w1⟩, _, _, rfl, ⟨x2, rfl, w2⟩, t3, _, rfl, h3, t4, _, rfl, h4, t5, _, rfl, h5, t6, _, rfl, h6, t7, _, rfl, h7, rfl⟩ := WTsU_of ht
  have s72 : S_szNode 72 = F_szSelf := rfl
  have s73 : S_szNode 73 = F_szEarS := rfl
  obtain ⟨n0, e0, b0, c0⟩ := so_szSelf [.c (.int .i64 x0), .c (.int .i64 x1), .c (.int .i64 x2), t3, t4, t5, t6] l (WTs_mk (show WTsU [.i .i64, .i .i64, .i .i64, .sl [.i .i64, .i .i64, .i .i64, .i .i64], .sl [.i .i64, .i .i64, .i .i64, .b], .sl [.i .i64], .sl [.i .i64, .i .i64, .i .i64, .i .i64, .i .i64, .sl [.i .i64, .i .i64], .i .i64, .b]] _ from ⟨_, _, rfl, ⟨_, rfl, w0⟩, _, _, rfl, ⟨_, rfl, w1⟩, _, _, rfl, ⟨_, rfl, w2⟩, _, _, rfl, h3, _, _, rfl, h4, _, _, rfl, h5, _, _, rfl, h6, rfl⟩)) (by omega) (by omega)
  simp only [List.cons_append, List.nil_append, bulkR_cons, bulkR_nil, bulk_l, bulk_i, bulk_b, bulk_s, Nat.add_zero, Nat.zero_add] at e0 c0
  by_cases g0 : n0 < 0
  · exact ⟨-1, by simp only [F_szNode, p_szNode, pl_ret, pl_pr, pl_cl, pl_ite, pl_go0, pl_goS, List.map_cons, List.map_nil, ev_k, ev_e, ev_a, List.cons_append, List.nil_append, List.append_assoc, List.getD_cons_zero, List.getD_cons_succ, bind_some', pickN, ifT_b, cond_true, cond_false, decide_true, decide_false, ev_len, ev_lens, ev_scl_i, ev_scl_b, ev_scl_s, ev_lss, ev_leq, ev_gtr, ev_geq, ev_eql, ev_neq, ev_add, ev_sub, ev_eqlS, ev_neqS, ev_bbneq, ev_bbeql, ev_not, Bool.not_true, Bool.not_false, bne_self_eq_false, beq_self_eq_true, s72, s73, e0, g0], by omega, by omega⟩
  obtain ⟨n1, e1, b1, c1⟩ := so_szEarS [t7] n0 (WTs_mk (show WTsU [.sl [.i .i64, .i .i64, .i .i64, .b]] _ from ⟨_, _, rfl, h7, rfl⟩)) (by omega) (by omega)
  simp only [List.cons_append, List.nil_append, bulkR_cons, bulkR_nil, bulk_l, bulk_i, bulk_b, bulk_s, Nat.add_zero, Nat.zero_add] at e1 c1
  by_cases g1 : n1 < 0
  · exact ⟨-1, by simp only [F_szNode, p_szNode, pl_ret, pl_pr, pl_cl, pl_ite, pl_go0, pl_goS, List.map_cons, List.map_nil, ev_k, ev_e, ev_a, List.cons_append, List.nil_append, List.append_assoc, List.getD_cons_zero, List.getD_cons_succ, bind_some', pickN, ifT_b, cond_true, cond_false, decide_true, decide_false, ev_len, ev_lens, ev_scl_i, ev_scl_b, ev_scl_s, ev_lss, ev_leq, ev_gtr, ev_geq, ev_eql, ev_neq, ev_add, ev_sub, ev_eqlS, ev_neqS, ev_bbneq, ev_bbeql, ev_not, Bool.not_true, Bool.not_false, bne_self_eq_false, beq_self_eq_true, s72, s73, e0, e1, g0, g1], by omega, by omega⟩
  refine ⟨n1, by simp only [F_szNode, p_szNode, pl_ret, pl_pr, pl_cl, pl_ite, pl_go0, pl_goS, List.map_cons, List.map_nil, ev_k, ev_e, ev_a, List.cons_append, List.nil_append, List.append_assoc, List.getD_cons_zero, List.getD_cons_succ, bind_some', pickN, ifT_b, cond_true, cond_false, decide_true, decide_false, ev_len, ev_lens, ev_scl_i, ev_scl_b, ev_scl_s, ev_lss, ev_leq, ev_gtr, ev_geq, ev_eql, ev_neq, ev_add, ev_sub, ev_eqlS, ev_neqS, ev_bbneq, ev_bbeql, ev_not, Bool.not_true, Bool.not_false, bne_self_eq_false, beq_self_eq_true, s72, s73, e0, e1, g0, g1], by omega, fun _ => ?_⟩
  simp only [bulkR_cons, bulkR_nil, bulk_l, bulk_i, bulk_b, bulk_s, Nat.add_zero, Nat.zero_add]
  have := c0 (by omega)
  have := c1 (by omega)
  omega
theorem so_szNodeS : SzOk F_szNodeS [.sl [.i .i64, .i .i64, .i .i64, .sl [.i .i64, .i .i64, .i .i64, .i .i64], .sl [.i .i64, .i .i64, .i .i64, .b], .sl [.i .i64], .sl [.i .i64, .i .i64, .i .i64, .i .i64, .i .i64, .sl [.i .i64, .i .i64], .i .i64, .b], .sl [.i .i64, .i .i64, .i .i64, .b]]] := szSli_ok (S := S_szNodeS) (w := 8) (g := 28) rfl so_szNode
theorem so_szPacket : SzOk F_szPacket [.i .i64, .i .i64, .i .i64, .i .i64, .sl [.i .i64], .sl [.i .i64, .i .i64, .i .i64, .i .i64, .i .i64, .sl [.i .i64, .i .i64], .i .i64, .b]] := by
  intro ts l ht h_0 h_1
  obtain ⟨_, _, rfl, ⟨x0, rfl, w0⟩, _, _, rfl, ⟨x1, rfl, w1⟩, _, _, rfl, ⟨x2, rfl, w2⟩, _, _, rfl, ⟨x3, rfl, w3⟩, t4, _, rfl, h4, t5, _, rfl, h5, rfl⟩ := WTsU_of ht
  have s9 : S_szPacket 9 = F_szRecordS := rfl
  have s58 : S_szPacket 58 = F_szIntS := rfl
  obtain ⟨n0, e0, b0, c0⟩ := so_szIntS [t4] l (WTs_mk (show WTsU [.sl [.i .i64]] _ from ⟨_, _, rfl, h4, rfl⟩)) (by omega) (by omega)
  simp only [List.cons_append, List.nil_append, bulkR_cons, bulkR_nil, bulk_l, bulk_i, bulk_b, bulk_s, Nat.add_zero, Nat.zero_add] at e0 c0
  by_cases g0 : n0 < 0
  · exact ⟨-1, by simp only [F_szPacket, p_szPacket, pl_ret, pl_pr, pl_cl, pl_ite, pl_go0, pl_goS, List.map_cons, List.map_nil, ev_k, ev_e, ev_a, List.cons_append, List.nil_append, List.append_assoc, List.getD_cons_zero, List.getD_cons_succ, bind_some', pickN, ifT_b, cond_true, cond_false, decide_true, decide_false, ev_len, ev_lens, ev_scl_i, ev_scl_b, ev_scl_s, ev_lss, ev_leq, ev_gtr, ev_geq, ev_eql, ev_neq, ev_add, ev_sub, ev_eqlS, ev_neqS, ev_bbneq, ev_bbeql, ev_not, Bool.not_true, Bool.not_false, bne_self_eq_false, beq_self_eq_true, s9, s58, e0, g0], by omega, by omega⟩
  obtain ⟨n1, e1, b1, c1⟩ := so_szRecordS [t5] n0 (WTs_mk (show WTsU [.sl [.i .i64, .i .i64, .i .i64, .i .i64, .i .i64, .sl [.i .i64, .i .i64], .i .i64, .b]] _ from ⟨_, _, rfl, h5, rfl⟩)) (by omega) (by omega)
  simp only [List.cons_append, List.nil_append, bulkR_cons, bulkR_nil, bulk_l, bulk_i, bulk_b, bulk_s, Nat.add_zero, Nat.zero_add] at e1 c1
  by_cases g1 : n1 < 0
  · exact ⟨-1, by simp only [F_szPacket, p_szPacket, pl_ret, pl_pr, pl_cl, pl_ite, pl_go0, pl_goS, List.map_cons, List.map_nil, ev_k, ev_e, ev_a, List.cons_append, List.nil_append, List.append_assoc, List.getD_cons_zero, List.getD_cons_succ, bind_some', pickN, ifT_b, cond_true, cond_false, decide_true, decide_false, ev_len, ev_lens, ev_scl_i, ev_scl_b, ev_scl_s, ev_lss, ev_leq, ev_gtr, ev_geq, ev_eql, ev_neq, ev_add, ev_sub, ev_eqlS, ev_neqS, ev_bbneq, ev_bbeql, ev_not, Bool.not_true, Bool.not_false, bne_self_eq_false, beq_self_eq_true, s9, s58, e0, e1, g0, g1], by omega, by omega⟩
  refine ⟨n1, by simp only [F_szPacket, p_szPacket, pl_ret, pl_pr, pl_cl, pl_ite, pl_go0, pl_goS, List.map_cons, List.map_nil, ev_k, ev_e, ev_a, List.cons_append, List.nil_append, List.append_assoc, List.getD_cons_zero, List.getD_cons_succ, bind_some', pickN, ifT_b, cond_true, cond_false, decide_true, decide_false, ev_len, ev_lens, ev_scl_i, ev_scl_b, ev_scl_s, ev_lss, ev_leq, ev_gtr, ev_geq, ev_eql, ev_neq, ev_add, ev_sub, ev_eqlS, ev_neqS, ev_bbneq, ev_bbeql, ev_not, Bool.not_true, Bool.not_false, bne_self_eq_false, beq_self_eq_true, s9, s58, e0, e1, g0, g1], by omega, fun _ => ?_⟩
  simp only [bulkR_cons, bulkR_nil, bulk_l, bulk_i, bulk_b, bulk_s, Nat.add_zero, Nat.zero_add]
  have := c0 (by omega)
  have := c1 (by omega)
  omega
theorem so_szPacketS : SzOk F_szPacketS [.sl [.i .i64, .i .i64, .i .i64, .i .i64, .sl [.i .i64], .sl [.i .i64, .i .i64, .i .i64, .i .i64, .i .i64, .sl [.i .i64, .i .i64], .i .i64, .b]]] := szSli_ok (S := S_szPacketS) (w := 6) (g := 113) rfl so_szPacket
theorem so_szWorld : SzOk F_szWorld [.i .i64, .sl [.i .i64, .i .i64, .i .i64, .i .i64], .sl [.i .i64, .i .i64, .i .i64, .b], .sl [.b], .sl [.b], .sl [.i .i64], .sl [.i .i64, .i .i64, .i .i64, .sl [.i .i64, .i .i64, .i .i64, .i .i64], .sl [.i .i64, .i .i64, .i .i64, .b], .sl [.i .i64], .sl [.i .i64, .i .i64, .i .i64, .i .i64, .i .i64, .sl [.i .i64, .i .i64], .i .i64, .b], .sl [.i .i64, .i .i64, .i .i64, .b]], .sl [.i .i64, .i .i64, .i .i64, .i .i64, .sl [.i .i64], .sl [.i .i64, .i .i64, .i .i64, .i .i64, .i .i64, .sl [.i .i64, .i .i64], .i .i64, .b]], .sl [.i .i64, .i .i64, .i .i64, .i .i64, .i .i64, .sl [.i .i64, .i .i64], .i .i64, .b], .i .i64] := by
  intro ts l ht h_0 h_1
  obtain ⟨_, _, rfl, ⟨x0, rfl, w0⟩, t1, _, rfl, h1, t2, _, rfl, h2, t3, _, rfl, h3, t4, _, rfl, h4, t5, _, rfl, h5, t6, _, rfl, h6, t7, _, rfl, h7, t8, _, rfl, h8, _, _, rfl, ⟨x9, rfl, w9⟩, rfl⟩ := WTsU_of ht
  have s9 : S_szWorld 9 = F_szRecordS := rfl
  have s56 : S_szWorld 56 = F_szNet := rfl
  have s57 : S_szWorld 57 = F_szBoolS := rfl
  have s58 : S_szWorld 58 = F_szIntS := rfl
  have s59 : S_szWorld 59 = F_szNodeS := rfl
  have s60 : S_szWorld 60 = F_szPacketS := rfl
  obtain ⟨n0, e0, b0, c0⟩ := so_szNet [.c (.int .i64 x0), t1, t2] l (WTs_mk (show WTsU [.i .i64, .sl [.i .i64, .i .i64, .i .i64, .i .i64], .sl [.i .i64, .i .i64, .i .i64, .b]] _ from ⟨_, _, rfl, ⟨_, rfl, w0⟩, _, _, rfl, h1, _, _, rfl, h2, rfl⟩)) (by omega) (by omega)
  simp only [List.cons_append, List.nil_append, bulkR_cons, bulkR_nil, bulk_l, bulk_i, bulk_b, bulk_s, Nat.add_zero, Nat.zero_add] at e0 c0
  by_cases g0 : n0 < 0
  · exact ⟨-1, by simp only [F_szWorld, p_szWorld, pl_ret, pl_pr, pl_cl, pl_ite, pl_go0, pl_goS, List.map_cons, List.map_nil, ev_k, ev_e, ev_a, List.cons_append, List.nil_append, List.append_assoc, List.getD_cons_zero, List.getD_cons_succ, bind_some', pickN, ifT_b, cond_true, cond_false, decide_true, decide_false, ev_len, ev_lens, ev_scl_i, ev_scl_b, ev_scl_s, ev_lss, ev_leq, ev_gtr, ev_geq, ev_eql, ev_neq, ev_add, ev_sub, ev_eqlS, ev_neqS, ev_bbneq, ev_bbeql, ev_not, Bool.not_true, Bool.not_false, bne_self_eq_false, beq_self_eq_true, s9, s56, s57, s58, s59, s60, e0, g0], by omega, by omega⟩
  obtain ⟨n1, e1, b1, c1⟩ := so_szBoolS [t3] n0 (WTs_mk (show WTsU [.sl [.b]] _ from ⟨_, _, rfl, h3, rfl⟩)) (by omega) (by omega)
  simp only [List.cons_append, List.nil_append, bulkR_cons, bulkR_nil, bulk_l, bulk_i, bulk_b, bulk_s, Nat.add_zero, Nat.zero_add] at e1 c1
  by_cases g1 : n1 < 0
  · exact ⟨-1, by simp only [F_szWorld, p_szWorld, pl_ret, pl_pr, pl_cl, pl_ite, pl_go0, pl_goS, List.map_cons, List.map_nil, ev_k, ev_e, ev_a, List.cons_append, List.nil_append, List.append_assoc, List.getD_cons_zero, List.getD_cons_succ, bind_some', pickN, ifT_b, cond_true, cond_false, decide_true, decide_false, ev_len, ev_lens, ev_scl_i, ev_scl_b, ev_scl_s, ev_lss, ev_leq, ev_gtr, ev_geq, ev_eql, ev_neq, ev_add, ev_sub, ev_eqlS, ev_neqS, ev_bbneq, ev_bbeql, ev_not, Bool.not_true, Bool.not_false, bne_self_eq_false, beq_self_eq_true, s9, s56, s57, s58, s59, s60, e0, e1, g0, g1], by omega, by omega⟩
  obtain ⟨n2, e2, b2, c2⟩ := so_szBoolS [t4] n1 (WTs_mk (show WTsU [.sl [.b]] _ from ⟨_, _, rfl, h4, rfl⟩)) (by omega) (by omega)
  simp only [List.cons_append, List.nil_append, bulkR_cons, bulkR_nil, bulk_l, bulk_i, bulk_b, bulk_s, Nat.add_zero, Nat.zero_add] at e2 c2
  by_cases g2 : n2 < 0
  · exact ⟨-1, by simp only [F_szWorld, p_szWorld, pl_ret, pl_pr, pl_cl, pl_ite, pl_go0, pl_goS, List.map_cons, List.map_nil, ev_k, ev_e, ev_a, List.cons_append, List.nil_append, List.append_assoc, List.getD_cons_zero, List.getD_cons_succ, bind_some', pickN, ifT_b, cond_true, cond_false, decide_true, decide_false, ev_len, ev_lens, ev_scl_i, ev_scl_b, ev_scl_s, ev_lss, ev_leq, ev_gtr, ev_geq, ev_eql, ev_neq, ev_add, ev_sub, ev_eqlS, ev_neqS, ev_bbneq, ev_bbeql, ev_not, Bool.not_true, Bool.not_false, bne_self_eq_false, beq_self_eq_true, s9, s56, s57, s58, s59, s60, e0, e1, e2, g0, g1, g2], by omega, by omega⟩
  obtain ⟨n3, e3, b3, c3⟩ := so_szIntS [t5] n2 (WTs_mk (show WTsU [.sl [.i .i64]] _ from ⟨_, _, rfl, h5, rfl⟩)) (by omega) (by omega)
  simp only [List.cons_append, List.nil_append, bulkR_cons, bulkR_nil, bulk_l, bulk_i, bulk_b, bulk_s, Nat.add_zero, Nat.zero_add] at e3 c3
  by_cases g3 : n3 < 0
  · exact ⟨-1, by simp only [F_szWorld, p_szWorld, pl_ret, pl_pr, pl_cl, pl_ite, pl_go0, pl_goS, List.map_cons, List.map_nil, ev_k, ev_e, ev_a, List.cons_append, List.nil_append, List.append_assoc, List.getD_cons_zero, List.getD_cons_succ, bind_some', pickN, ifT_b, cond_true, cond_false, decide_true, decide_false, ev_len, ev_lens, ev_scl_i, ev_scl_b, ev_scl_s, ev_lss, ev_leq, ev_gtr, ev_geq, ev_eql, ev_neq, ev_add, ev_sub, ev_eqlS, ev_neqS, ev_bbneq, ev_bbeql, ev_not, Bool.not_true, Bool.not_false, bne_self_eq_false, beq_self_eq_true, s9, s56, s57, s58, s59, s60, e0, e1, e2, e3, g0, g1, g2, g3], by omega, by omega⟩
  obtain ⟨n4, e4, b4, c4⟩ := so_szNodeS [t6] n3 (WTs_mk (show WTsU [.sl [.i .i64, .i .i64, .i .i64, .sl [.i .i64, .i .i64, .i .i64, .i .i64], .sl [.i .i64, .i .i64, .i .i64, .b], .sl [.i .i64], .sl [.i .i64, .i .i64, .i .i64, .i .i64, .i .i64, .sl [.i .i64, .i .i64], .i .i64, .b], .sl [.i .i64, .i .i64, .i .i64, .b]]] _ from ⟨_, _, rfl, h6, rfl⟩)) (by omega) (by omega)
  simp only [List.cons_append, List.nil_append, bulkR_cons, bulkR_nil, bulk_l, bulk_i, bulk_b, bulk_s, Nat.add_zero, Nat.zero_add] at e4 c4
  by_cases g4 : n4 < 0
  · exact ⟨-1, by simp only [F_szWorld, p_szWorld, pl_ret, pl_pr, pl_cl, pl_ite, pl_go0, pl_goS, List.map_cons, List.map_nil, ev_k, ev_e, ev_a, List.cons_append, List.nil_append, List.append_assoc, List.getD_cons_zero, List.getD_cons_succ, bind_some', pickN, ifT_b, cond_true, cond_false, decide_true, decide_false, ev_len, ev_lens, ev_scl_i, ev_scl_b, ev_scl_s, ev_lss, ev_leq, ev_gtr, ev_geq, ev_eql, ev_neq, ev_add, ev_sub, ev_eqlS, ev_neqS, ev_bbneq, ev_bbeql, ev_not, Bool.not_true, Bool.not_false, bne_self_eq_false, beq_self_eq_true, s9, s56, s57, s58, s59, s60, e0, e1, e2, e3, e4, g0, g1, g2, g3, g4], by omega, by omega⟩
  obtain ⟨n5, e5, b5, c5⟩ := so_szPacketS [t7] n4 (WTs_mk (show WTsU [.sl [.i .i64, .i .i64, .i .i64, .i .i64, .sl [.i .i64], .sl [.i .i64, .i .i64, .i .i64, .i .i64, .i .i64, .sl [.i .i64, .i .i64], .i .i64, .b]]] _ from ⟨_, _, rfl, h7, rfl⟩)) (by omega) (by omega)
  simp only [List.cons_append, List.nil_append, bulkR_cons, bulkR_nil, bulk_l, bulk_i, bulk_b, bulk_s, Nat.add_zero, Nat.zero_add] at e5 c5
  by_cases g5 : n5 < 0
  · exact ⟨-1, by simp only [F_szWorld, p_szWorld, pl_ret, pl_pr, pl_cl, pl_ite, pl_go0, pl_goS, List.map_cons, List.map_nil, ev_k, ev_e, ev_a, List.cons_append, List.nil_append, List.append_assoc, List.getD_cons_zero, List.getD_cons_succ, bind_some', pickN, ifT_b, cond_true, cond_false, decide_true, decide_false, ev_len, ev_lens, ev_scl_i, ev_scl_b, ev_scl_s, ev_lss, ev_leq, ev_gtr, ev_geq, ev_eql, ev_neq, ev_add, ev_sub, ev_eqlS, ev_neqS, ev_bbneq, ev_bbeql, ev_not, Bool.not_true, Bool.not_false, bne_self_eq_false, beq_self_eq_true, s9, s56, s57, s58, s59, s60, e0, e1, e2, e3, e4, e5, g0, g1, g2, g3, g4, g5], by omega, by omega⟩
  obtain ⟨n6, e6, b6, c6⟩ := so_szRecordS [t8] n5 (WTs_mk (show WTsU [.sl [.i .i64, .i .i64, .i .i64, .i .i64, .i .i64, .sl [.i .i64, .i .i64], .i .i64, .b]] _ from ⟨_, _, rfl, h8, rfl⟩)) (by omega) (by omega)
  simp only [List.cons_append, List.nil_append, bulkR_cons, bulkR_nil, bulk_l, bulk_i, bulk_b, bulk_s, Nat.add_zero, Nat.zero_add] at e6 c6
  by_cases g6 : n6 < 0
  · exact ⟨-1, by simp only [F_szWorld, p_szWorld, pl_ret, pl_pr, pl_cl, pl_ite, pl_go0, pl_goS, List.map_cons, List.map_nil, ev_k, ev_e, ev_a, List.cons_append, List.nil_append, List.append_assoc, List.getD_cons_zero, List.getD_cons_succ, bind_some', pickN, ifT_b, cond_true, cond_false, decide_true, decide_false, ev_len, ev_lens, ev_scl_i, ev_scl_b, ev_scl_s, ev_lss, ev_leq, ev_gtr, ev_geq, ev_eql, ev_neq, ev_add, ev_sub, ev_eqlS, ev_neqS, ev_bbneq, ev_bbeql, ev_not, Bool.not_true, Bool.not_false, bne_self_eq_false, beq_self_eq_true, s9, s56, s57, s58, s59, s60, e0, e1, e2, e3, e4, e5, e6, g0, g1, g2, g3, g4, g5, g6], by omega, by omega⟩
  refine ⟨n6, by simp only [F_szWorld, p_szWorld, pl_ret, pl_pr, pl_cl, pl_ite, pl_go0, pl_goS, List.map_cons, List.map_nil, ev_k, ev_e, ev_a, List.cons_append, List.nil_append, List.append_assoc, List.getD_cons_zero, List.getD_cons_succ, bind_some', pickN, ifT_b, cond_true, cond_false, decide_true, decide_false, ev_len, ev_lens, ev_scl_i, ev_scl_b, ev_scl_s, ev_lss, ev_leq, ev_gtr, ev_geq, ev_eql, ev_neq, ev_add, ev_sub, ev_eqlS, ev_neqS, ev_bbneq, ev_bbeql, ev_not, Bool.not_true, Bool.not_false, bne_self_eq_false, beq_self_eq_true, s9, s56, s57, s58, s59, s60, e0, e1, e2, e3, e4, e5, e6, g0, g1, g2, g3, g4, g5, g6], by omega, fun _ => ?_⟩
  simp only [bulkR_cons, bulkR_nil, bulk_l, bulk_i, bulk_b, bulk_s, Nat.add_zero, Nat.zero_add]
  have := c0 (by omega)
  have := c1 (by omega)
  have := c2 (by omega)
  have := c3 (by omega)
  have := c4 (by omega)
  have := c5 (by omega)
  have := c6 (by omega)
  omega
theorem so_toLink : ToOk F_toLink [.i .i64, .i .i64, .i .i64, .i .i64] := by
  intro ts ht hb
  obtain ⟨_, _, rfl, ⟨x0, rfl, w0⟩, _, _, rfl, ⟨x1, rfl, w1⟩, _, _, rfl, ⟨x2, rfl, w2⟩, _, _, rfl, ⟨x3, rfl, w3⟩, rfl⟩ := WTsU_of ht
  simp only [bulkR_cons, bulkR_nil, bulk_l, bulk_i, bulk_b, bulk_s, Nat.add_zero, Nat.zero_add] at hb
  simp only [F_toLink, p_toLink, pl_ret, pl_pr, pl_cl, pl_ite, pl_go0, pl_goS, List.map_cons, List.map_nil, ev_k, ev_e, ev_a, List.cons_append, List.nil_append, List.append_assoc, List.getD_cons_zero, List.getD_cons_succ, bind_some', pickN, ifT_b, cond_true, cond_false, decide_true, decide_false, ev_len, ev_lens, ev_scl_i, ev_scl_b, ev_scl_s, ev_lss, ev_leq, ev_gtr, ev_geq, ev_eql, ev_neq, ev_add, ev_sub, ev_eqlS, ev_neqS, ev_bbneq, ev_bbeql, ev_not, Bool.not_true, Bool.not_false, bne_self_eq_false, beq_self_eq_true]
theorem so_toLinkS : ToOk F_toLinkS [.sl [.i .i64, .i .i64, .i .i64, .i .i64]] := toSli_ok (S := S_toLinkS) (w := 4) (g := 138) (zs := [.k (.int .i64 0), .k (.int .i64 0), .k (.int .i64 0), .k (.int .i64 0)]) (st := .put true 4 0 4) rfl so_toLink rfl rfl (fun xs i z vs => st_put (fs := [.i .i64, .i .i64, .i .i64, .i .i64]) (w := 4) rfl rfl xs i z vs)
theorem so_toThing : ToOk F_toThing [.i .i64, .i .i64, .i .i64, .b] := by
  intro ts ht hb
  obtain ⟨_, _, rfl, ⟨x0, rfl, w0⟩, _, _, rfl, ⟨x1, rfl, w1⟩, _, _, rfl, ⟨x2, rfl, w2⟩, _, _, rfl, ⟨x3, rfl⟩, rfl⟩ := WTsU_of ht
  simp only [bulkR_cons, bulkR_nil, bulk_l, bulk_i, bulk_b, bulk_s, Nat.add_zero, Nat.zero_add] at hb
  simp only [F_toThing, p_toThing, pl_ret, pl_pr, pl_cl, pl_ite, pl_go0, pl_goS, List.map_cons, List.map_nil, ev_k, ev_e, ev_a, List.cons_append, List.nil_append, List.append_assoc, List.getD_cons_zero, List.getD_cons_succ, bind_some', pickN, ifT_b, cond_true, cond_false, decide_true, decide_false, ev_len, ev_lens, ev_scl_i, ev_scl_b, ev_scl_s, ev_lss, ev_leq, ev_gtr, ev_geq, ev_eql, ev_neq, ev_add, ev_sub, ev_eqlS, ev_neqS, ev_bbneq, ev_bbeql, ev_not, Bool.not_true, Bool.not_false, bne_self_eq_false, beq_self_eq_true]
theorem so_toThingS : ToOk F_toThingS [.sl [.i .i64, .i .i64, .i .i64, .b]] := toSli_ok (S := S_toThingS) (w := 4) (g := 139) (zs := [.k (.int .i64 0), .k (.int .i64 0), .k (.int .i64 0), .k (.bool false)]) (st := .put true 4 0 4) rfl so_toThing rfl rfl (fun xs i z vs => st_put (fs := [.i .i64, .i .i64, .i .i64, .b]) (w := 4) rfl rfl xs i z vs)
theorem so_toNet : ToOk F_toNet [.i .i64, .sl [.i .i64, .i .i64, .i .i64, .i .i64], .sl [.i .i64, .i .i64, .i .i64, .b]] := by
  intro ts ht hb
  obtain ⟨_, _, rfl, ⟨x0, rfl, w0⟩, t1, _, rfl, h1, t2, _, rfl, h2, rfl⟩ := WTsU_of ht
  simp only [bulkR_cons, bulkR_nil, bulk_l, bulk_i, bulk_b, bulk_s, Nat.add_zero, Nat.zero_add] at hb
  have s115 : S_toNet 115 = F_toLinkS := rfl
  have s116 : S_toNet 116 = F_toThingS := rfl
  have e0 := so_toLinkS [t1] (WTs_mk (show WTsU [.sl [.i .i64, .i .i64, .i .i64, .i .i64]] _ from ⟨_, _, rfl, h1, rfl⟩)) (by simp only [bulkR_cons, bulkR_nil, bulk_l, bulk_i, bulk_b, bulk_s, Nat.add_zero, Nat.zero_add]; omega)
  have e1 := so_toThingS [t2] (WTs_mk (show WTsU [.sl [.i .i64, .i .i64, .i .i64, .b]] _ from ⟨_, _, rfl, h2, rfl⟩)) (by simp only [bulkR_cons, bulkR_nil, bulk_l, bulk_i, bulk_b, bulk_s, Nat.add_zero, Nat.zero_add]; omega)
  simp only [F_toNet, p_toNet, pl_ret, pl_pr, pl_cl, pl_ite, pl_go0, pl_goS, List.map_cons, List.map_nil, ev_k, ev_e, ev_a, List.cons_append, List.nil_append, List.append_assoc, List.getD_cons_zero, List.getD_cons_succ, bind_some', pickN, ifT_b, cond_true, cond_false, decide_true, decide_false, ev_len, ev_lens, ev_scl_i, ev_scl_b, ev_scl_s, ev_lss, ev_leq, ev_gtr, ev_geq, ev_eql, ev_neq, ev_add, ev_sub, ev_eqlS, ev_neqS, ev_bbneq, ev_bbeql, ev_not, Bool.not_true, Bool.not_false, bne_self_eq_false, beq_self_eq_true, s115, s116, e0, e1]
theorem so_toBoolS : ToOk F_toBoolS [.sl [.b]] := toScl_ok (S := S_toBoolS) (z := .k (.bool false)) rfl rfl
theorem so_toIntS : ToOk F_toIntS [.sl [.i .i64]] := toScl_ok (S := S_toIntS) (z := .k (.int .i64 0)) rfl rfl
theorem so_toNear : ToOk F_toNear [.i .i64, .i .i64] := by
  intro ts ht hb
  obtain ⟨_, _, rfl, ⟨x0, rfl, w0⟩, _, _, rfl, ⟨x1, rfl, w1⟩, rfl⟩ := WTsU_of ht
  simp only [bulkR_cons, bulkR_nil, bulk_l, bulk_i, bulk_b, bulk_s, Nat.add_zero, Nat.zero_add] at hb
  simp only [F_toNear, p_toNear, pl_ret, pl_pr, pl_cl, pl_ite, pl_go0, pl_goS, List.map_cons, List.map_nil, ev_k, ev_e, ev_a, List.cons_append, List.nil_append, List.append_assoc, List.getD_cons_zero, List.getD_cons_succ, bind_some', pickN, ifT_b, cond_true, cond_false, decide_true, decide_false, ev_len, ev_lens, ev_scl_i, ev_scl_b, ev_scl_s, ev_lss, ev_leq, ev_gtr, ev_geq, ev_eql, ev_neq, ev_add, ev_sub, ev_eqlS, ev_neqS, ev_bbneq, ev_bbeql, ev_not, Bool.not_true, Bool.not_false, bne_self_eq_false, beq_self_eq_true]
theorem so_toNearS : ToOk F_toNearS [.sl [.i .i64, .i .i64]] := toSli_ok (S := S_toNearS) (w := 2) (g := 133) (zs := [.k (.int .i64 0), .k (.int .i64 0)]) (st := .put true 2 0 2) rfl so_toNear rfl rfl (fun xs i z vs => st_put (fs := [.i .i64, .i .i64]) (w := 2) rfl rfl xs i z vs)
theorem so_toRecord : ToOk F_toRecord [.i .i64, .i .i64, .i .i64, .i .i64, .i .i64, .sl [.i .i64, .i .i64], .i .i64, .b] := by
  intro ts ht hb
  obtain ⟨_, _, rfl, ⟨x0, rfl, w0⟩, _, _, rfl, ⟨x1, rfl, w1⟩, _, _, rfl, ⟨x2, rfl, w2⟩, _, _, rfl, ⟨x3, rfl, w3⟩, _, _, rfl, ⟨x4, rfl, w4⟩, t5, _, rfl, h5, _, _, rfl, ⟨x6, rfl, w6⟩, _, _, rfl, ⟨x7, rfl⟩, rfl⟩ := WTsU_of ht
  simp only [bulkR_cons, bulkR_nil, bulk_l, bulk_i, bulk_b, bulk_s, Nat.add_zero, Nat.zero_add] at hb
  have s100 : S_toRecord 100 = F_toNearS := rfl
  have e0 := so_toNearS [t5] (WTs_mk (show WTsU [.sl [.i .i64, .i .i64]] _ from ⟨_, _, rfl, h5, rfl⟩)) (by simp only [bulkR_cons, bulkR_nil, bulk_l, bulk_i, bulk_b, bulk_s, Nat.add_zero, Nat.zero_add]; omega)
  simp only [F_toRecord, p_toRecord, pl_ret, pl_pr, pl_cl, pl_ite, pl_go0, pl_goS, List.map_cons, List.map_nil, ev_k, ev_e, ev_a, List.cons_append, List.nil_append, List.append_assoc, List.getD_cons_zero, List.getD_cons_succ, bind_some', pickN, ifT_b, cond_true, cond_false, decide_true, decide_false, ev_len, ev_lens, ev_scl_i, ev_scl_b, ev_scl_s, ev_lss, ev_leq, ev_gtr, ev_geq, ev_eql, ev_neq, ev_add, ev_sub, ev_eqlS, ev_neqS, ev_bbneq, ev_bbeql, ev_not, Bool.not_true, Bool.not_false, bne_self_eq_false, beq_self_eq_true, s100, e0]
theorem so_toRecordS : ToOk F_toRecordS [.sl [.i .i64, .i .i64, .i .i64, .i .i64, .i .i64, .sl [.i .i64, .i .i64], .i .i64, .b]] := toSli_ok (S := S_toRecordS) (w := 8) (g := 43) (zs := [.k (.int .i64 0), .k (.int .i64 0), .k (.int .i64 0), .k (.int .i64 0), .k (.int .i64 0), .e, .k (.int .i64 0), .k (.bool false)]) (st := .putD [true, true, true, true, true, false, true, true] 8 0) rfl so_toRecord rfl rfl (fun xs i z vs => st_putD (fs := [.i .i64, .i .i64, .i .i64, .i .i64, .i .i64, .sl [.i .i64, .i .i64], .i .i64, .b]) (w := 8) rfl rfl xs i z vs)
theorem so_toSelf : ToOk F_toSelf [.i .i64, .i .i64, .i .i64, .sl [.i .i64, .i .i64, .i .i64, .i .i64], .sl [.i .i64, .i .i64, .i .i64, .b], .sl [.i .i64], .sl [.i .i64, .i .i64, .i .i64, .i .i64, .i .i64, .sl [.i .i64, .i .i64], .i .i64, .b]] := by
  intro ts ht hb
  obtain ⟨_, _, rfl, ⟨x0, rfl, w0⟩, _, _, rfl, ⟨x1, rfl, w1⟩, _, _, rfl, ⟨x2, rfl, w2⟩, t3, _, rfl, h3, t4, _, rfl, h4, t5, _, rfl, h5, t6, _, rfl, h6, rfl⟩ := WTsU_of ht
  simp only [bulkR_cons, bulkR_nil, bulk_l, bulk_i, bulk_b, bulk_s, Nat.add_zero, Nat.zero_add] at hb
  have s11 : S_toSelf 11 = F_toRecordS := rfl
  have s19 : S_toSelf 19 = F_toIntS := rfl
  have s62 : S_toSelf 62 = F_toNet := rfl
  have e0 := so_toNet [.c (.int .i64 x2), t3, t4] (WTs_mk (show WTsU [.i .i64, .sl [.i .i64, .i .i64, .i .i64, .i .i64], .sl [.i .i64, .i .i64, .i .i64, .b]] _ from ⟨_, _, rfl, ⟨_, rfl, w2⟩, _, _, rfl, h3, _, _, rfl, h4, rfl⟩)) (by simp only [bulkR_cons, bulkR_nil, bulk_l, bulk_i, bulk_b, bulk_s, Nat.add_zero, Nat.zero_add]; omega)
  have e1 := so_toIntS [t5] (WTs_mk (show WTsU [.sl [.i .i64]] _ from ⟨_, _, rfl, h5, rfl⟩)) (by simp only [bulkR_cons, bulkR_nil, bulk_l, bulk_i, bulk_b, bulk_s, Nat.add_zero, Nat.zero_add]; omega)
  have e2 := so_toRecordS [t6] (WTs_mk (show WTsU [.sl [.i .i64, .i .i64, .i .i64, .i .i64, .i .i64, .sl [.i .i64, .i .i64], .i .i64, .b]] _ from ⟨_, _, rfl, h6, rfl⟩)) (by simp only [bulkR_cons, bulkR_nil, bulk_l, bulk_i, bulk_b, bulk_s, Nat.add_zero, Nat.zero_add]; omega)
  simp only [F_toSelf, p_toSelf, pl_ret, pl_pr, pl_cl, pl_ite, pl_go0, pl_goS, List.map_cons, List.map_nil, ev_k, ev_e, ev_a, List.cons_append, List.nil_append, List.append_assoc, List.getD_cons_zero, List.getD_cons_succ, bind_some', pickN, ifT_b, cond_true, cond_false, decide_true, decide_false, ev_len, ev_lens, ev_scl_i, ev_scl_b, ev_scl_s, ev_lss, ev_leq, ev_gtr, ev_geq, ev_eql, ev_neq, ev_add, ev_sub, ev_eqlS, ev_neqS, ev_bbneq, ev_bbeql, ev_not, Bool.not_true, Bool.not_false, bne_self_eq_false, beq_self_eq_true, s11, s19, s62, e0, e1, e2]
theorem so_toEar : ToOk F_toEar [.i .i64, .i .i64, .i .i64, .b] := by
  intro ts ht hb
  obtain ⟨_, _, rfl, ⟨x0, rfl, w0⟩, _, _, rfl, ⟨x1, rfl, w1⟩, _, _, rfl, ⟨x2, rfl, w2⟩, _, _, rfl, ⟨x3, rfl⟩, rfl⟩ := WTsU_of ht
  simp only [bulkR_cons, bulkR_nil, bulk_l, bulk_i, bulk_b, bulk_s, Nat.add_zero, Nat.zero_add] at hb
  simp only [F_toEar, p_toEar, pl_ret, pl_pr, pl_cl, pl_ite, pl_go0, pl_goS, List.map_cons, List.map_nil, ev_k, ev_e, ev_a, List.cons_append, List.nil_append, List.append_assoc, List.getD_cons_zero, List.getD_cons_succ, bind_some', pickN, ifT_b, cond_true, cond_false, decide_true, decide_false, ev_len, ev_lens, ev_scl_i, ev_scl_b, ev_scl_s, ev_lss, ev_leq, ev_gtr, ev_geq, ev_eql, ev_neq, ev_add, ev_sub, ev_eqlS, ev_neqS, ev_bbneq, ev_bbeql, ev_not, Bool.not_true, Bool.not_false, bne_self_eq_false, beq_self_eq_true]
theorem so_toEarS : ToOk F_toEarS [.sl [.i .i64, .i .i64, .i .i64, .b]] := toSli_ok (S := S_toEarS) (w := 4) (g := 124) (zs := [.k (.int .i64 0), .k (.int .i64 0), .k (.int .i64 0), .k (.bool false)]) (st := .put true 4 0 4) rfl so_toEar rfl rfl (fun xs i z vs => st_put (fs := [.i .i64, .i .i64, .i .i64, .b]) (w := 4) rfl rfl xs i z vs)
theorem so_toNode : ToOk F_toNode [.i .i64, .i .i64, .i .i64, .sl [.i .i64, .i .i64, .i .i64, .i .i64], .sl [.i .i64, .i .i64, .i .i64, .b], .sl [.i .i64], .sl [.i .i64, .i .i64, .i .i64, .i .i64, .i .i64, .sl [.i .i64, .i .i64], .i .i64, .b], .sl [.i .i64, .i .i64, .i .i64, .b]] := by
  intro ts ht hb
  obtain ⟨_, _, rfl, ⟨x0, rfl, w0⟩, _, _, rfl, ⟨x1, rfl, w1⟩, _, _, rfl, ⟨x2, rfl, w2⟩, t3, _, rfl, h3, t4, _, rfl, h4, t5, _, rfl, h5, t6, _, rfl, h6, t7, _, rfl, h7, rfl⟩ := WTsU_of ht
  simp only [bulkR_cons, bulkR_nil, bulk_l, bulk_i, bulk_b, bulk_s, Nat.add_zero, Nat.zero_add] at hb
  have s78 : S_toNode 78 = F_toSelf := rfl
  have s79 : S_toNode 79 = F_toEarS := rfl
  have e0 := so_toSelf [.c (.int .i64 x0), .c (.int .i64 x1), .c (.int .i64 x2), t3, t4, t5, t6] (WTs_mk (show WTsU [.i .i64, .i .i64, .i .i64, .sl [.i .i64, .i .i64, .i .i64, .i .i64], .sl [.i .i64, .i .i64, .i .i64, .b], .sl [.i .i64], .sl [.i .i64, .i .i64, .i .i64, .i .i64, .i .i64, .sl [.i .i64, .i .i64], .i .i64, .b]] _ from ⟨_, _, rfl, ⟨_, rfl, w0⟩, _, _, rfl, ⟨_, rfl, w1⟩, _, _, rfl, ⟨_, rfl, w2⟩, _, _, rfl, h3, _, _, rfl, h4, _, _, rfl, h5, _, _, rfl, h6, rfl⟩)) (by simp only [bulkR_cons, bulkR_nil, bulk_l, bulk_i, bulk_b, bulk_s, Nat.add_zero, Nat.zero_add]; omega)
  have e1 := so_toEarS [t7] (WTs_mk (show WTsU [.sl [.i .i64, .i .i64, .i .i64, .b]] _ from ⟨_, _, rfl, h7, rfl⟩)) (by simp only [bulkR_cons, bulkR_nil, bulk_l, bulk_i, bulk_b, bulk_s, Nat.add_zero, Nat.zero_add]; omega)
  simp only [F_toNode, p_toNode, pl_ret, pl_pr, pl_cl, pl_ite, pl_go0, pl_goS, List.map_cons, List.map_nil, ev_k, ev_e, ev_a, List.cons_append, List.nil_append, List.append_assoc, List.getD_cons_zero, List.getD_cons_succ, bind_some', pickN, ifT_b, cond_true, cond_false, decide_true, decide_false, ev_len, ev_lens, ev_scl_i, ev_scl_b, ev_scl_s, ev_lss, ev_leq, ev_gtr, ev_geq, ev_eql, ev_neq, ev_add, ev_sub, ev_eqlS, ev_neqS, ev_bbneq, ev_bbeql, ev_not, Bool.not_true, Bool.not_false, bne_self_eq_false, beq_self_eq_true, s78, s79, e0, e1]
theorem so_toNodeS : ToOk F_toNodeS [.sl [.i .i64, .i .i64, .i .i64, .sl [.i .i64, .i .i64, .i .i64, .i .i64], .sl [.i .i64, .i .i64, .i .i64, .b], .sl [.i .i64], .sl [.i .i64, .i .i64, .i .i64, .i .i64, .i .i64, .sl [.i .i64, .i .i64], .i .i64, .b], .sl [.i .i64, .i .i64, .i .i64, .b]]] := toSli_ok (S := S_toNodeS) (w := 8) (g := 30) (zs := [.k (.int .i64 0), .k (.int .i64 0), .k (.int .i64 0), .e, .e, .e, .e, .e]) (st := .putD [true, true, true, false, false, false, false, false] 8 0) rfl so_toNode rfl rfl (fun xs i z vs => st_putD (fs := [.i .i64, .i .i64, .i .i64, .sl [.i .i64, .i .i64, .i .i64, .i .i64], .sl [.i .i64, .i .i64, .i .i64, .b], .sl [.i .i64], .sl [.i .i64, .i .i64, .i .i64, .i .i64, .i .i64, .sl [.i .i64, .i .i64], .i .i64, .b], .sl [.i .i64, .i .i64, .i .i64, .b]]) (w := 8) rfl rfl xs i z vs)
theorem so_toPacket : ToOk F_toPacket [.i .i64, .i .i64, .i .i64, .i .i64, .sl [.i .i64], .sl [.i .i64, .i .i64, .i .i64, .i .i64, .i .i64, .sl [.i .i64, .i .i64], .i .i64, .b]] := by
  intro ts ht hb
  obtain ⟨_, _, rfl, ⟨x0, rfl, w0⟩, _, _, rfl, ⟨x1, rfl, w1⟩, _, _, rfl, ⟨x2, rfl, w2⟩, _, _, rfl, ⟨x3, rfl, w3⟩, t4, _, rfl, h4, t5, _, rfl, h5, rfl⟩ := WTsU_of ht
  simp only [bulkR_cons, bulkR_nil, bulk_l, bulk_i, bulk_b, bulk_s, Nat.add_zero, Nat.zero_add] at hb
  have s11 : S_toPacket 11 = F_toRecordS := rfl
  have s19 : S_toPacket 19 = F_toIntS := rfl
  have e0 := so_toIntS [t4] (WTs_mk (show WTsU [.sl [.i .i64]] _ from ⟨_, _, rfl, h4, rfl⟩)) (by simp only [bulkR_cons, bulkR_nil, bulk_l, bulk_i, bulk_b, bulk_s, Nat.add_zero, Nat.zero_add]; omega)
  have e1 := so_toRecordS [t5] (WTs_mk (show WTsU [.sl [.i .i64, .i .i64, .i .i64, .i .i64, .i .i64, .sl [.i .i64, .i .i64], .i .i64, .b]] _ from ⟨_, _, rfl, h5, rfl⟩)) (by simp only [bulkR_cons, bulkR_nil, bulk_l, bulk_i, bulk_b, bulk_s, Nat.add_zero, Nat.zero_add]; omega)
  simp only [F_toPacket, p_toPacket, pl_ret, pl_pr, pl_cl, pl_ite, pl_go0, pl_goS, List.map_cons, List.map_nil, ev_k, ev_e, ev_a, List.cons_append, List.nil_append, List.append_assoc, List.getD_cons_zero, List.getD_cons_succ, bind_some', pickN, ifT_b, cond_true, cond_false, decide_true, decide_false, ev_len, ev_lens, ev_scl_i, ev_scl_b, ev_scl_s, ev_lss, ev_leq, ev_gtr, ev_geq, ev_eql, ev_neq, ev_add, ev_sub, ev_eqlS, ev_neqS, ev_bbneq, ev_bbeql, ev_not, Bool.not_true, Bool.not_false, bne_self_eq_false, beq_self_eq_true, s11, s19, e0, e1]
theorem so_toPacketS : ToOk F_toPacketS [.sl [.i .i64, .i .i64, .i .i64, .i .i64, .sl [.i .i64], .sl [.i .i64, .i .i64, .i .i64, .i .i64, .i .i64, .sl [.i .i64, .i .i64], .i .i64, .b]]] := toSli_ok (S := S_toPacketS) (w := 6) (g := 117) (zs := [.k (.int .i64 0), .k (.int .i64 0), .k (.int .i64 0), .k (.int .i64 0), .e, .e]) (st := .putD [true, true, true, true, false, false] 6 0) rfl so_toPacket rfl rfl (fun xs i z vs => st_putD (fs := [.i .i64, .i .i64, .i .i64, .i .i64, .sl [.i .i64], .sl [.i .i64, .i .i64, .i .i64, .i .i64, .i .i64, .sl [.i .i64, .i .i64], .i .i64, .b]]) (w := 6) rfl rfl xs i z vs)
theorem so_toWorld : ToOk F_toWorld [.i .i64, .sl [.i .i64, .i .i64, .i .i64, .i .i64], .sl [.i .i64, .i .i64, .i .i64, .b], .sl [.b], .sl [.b], .sl [.i .i64], .sl [.i .i64, .i .i64, .i .i64, .sl [.i .i64, .i .i64, .i .i64, .i .i64], .sl [.i .i64, .i .i64, .i .i64, .b], .sl [.i .i64], .sl [.i .i64, .i .i64, .i .i64, .i .i64, .i .i64, .sl [.i .i64, .i .i64], .i .i64, .b], .sl [.i .i64, .i .i64, .i .i64, .b]], .sl [.i .i64, .i .i64, .i .i64, .i .i64, .sl [.i .i64], .sl [.i .i64, .i .i64, .i .i64, .i .i64, .i .i64, .sl [.i .i64, .i .i64], .i .i64, .b]], .sl [.i .i64, .i .i64, .i .i64, .i .i64, .i .i64, .sl [.i .i64, .i .i64], .i .i64, .b], .i .i64] := by
  intro ts ht hb
  obtain ⟨_, _, rfl, ⟨x0, rfl, w0⟩, t1, _, rfl, h1, t2, _, rfl, h2, t3, _, rfl, h3, t4, _, rfl, h4, t5, _, rfl, h5, t6, _, rfl, h6, t7, _, rfl, h7, t8, _, rfl, h8, _, _, rfl, ⟨x9, rfl, w9⟩, rfl⟩ := WTsU_of ht
  simp only [bulkR_cons, bulkR_nil, bulk_l, bulk_i, bulk_b, bulk_s, Nat.add_zero, Nat.zero_add] at hb
  have s11 : S_toWorld 11 = F_toRecordS := rfl
  have s19 : S_toWorld 19 = F_toIntS := rfl
  have s62 : S_toWorld 62 = F_toNet := rfl
  have s63 : S_toWorld 63 = F_toBoolS := rfl
  have s64 : S_toWorld 64 = F_toNodeS := rfl
  have s65 : S_toWorld 65 = F_toPacketS := rfl
  have e0 := so_toNet [.c (.int .i64 x0), t1, t2] (WTs_mk (show WTsU [.i .i64, .sl [.i .i64, .i .i64, .i .i64, .i .i64], .sl [.i .i64, .i .i64, .i .i64, .b]] _ from ⟨_, _, rfl, ⟨_, rfl, w0⟩, _, _, rfl, h1, _, _, rfl, h2, rfl⟩)) (by simp only [bulkR_cons, bulkR_nil, bulk_l, bulk_i, bulk_b, bulk_s, Nat.add_zero, Nat.zero_add]; omega)
  have e1 := so_toBoolS [t3] (WTs_mk (show WTsU [.sl [.b]] _ from ⟨_, _, rfl, h3, rfl⟩)) (by simp only [bulkR_cons, bulkR_nil, bulk_l, bulk_i, bulk_b, bulk_s, Nat.add_zero, Nat.zero_add]; omega)
  have e2 := so_toBoolS [t4] (WTs_mk (show WTsU [.sl [.b]] _ from ⟨_, _, rfl, h4, rfl⟩)) (by simp only [bulkR_cons, bulkR_nil, bulk_l, bulk_i, bulk_b, bulk_s, Nat.add_zero, Nat.zero_add]; omega)
  have e3 := so_toIntS [t5] (WTs_mk (show WTsU [.sl [.i .i64]] _ from ⟨_, _, rfl, h5, rfl⟩)) (by simp only [bulkR_cons, bulkR_nil, bulk_l, bulk_i, bulk_b, bulk_s, Nat.add_zero, Nat.zero_add]; omega)
  have e4 := so_toNodeS [t6] (WTs_mk (show WTsU [.sl [.i .i64, .i .i64, .i .i64, .sl [.i .i64, .i .i64, .i .i64, .i .i64], .sl [.i .i64, .i .i64, .i .i64, .b], .sl [.i .i64], .sl [.i .i64, .i .i64, .i .i64, .i .i64, .i .i64, .sl [.i .i64, .i .i64], .i .i64, .b], .sl [.i .i64, .i .i64, .i .i64, .b]]] _ from ⟨_, _, rfl, h6, rfl⟩)) (by simp only [bulkR_cons, bulkR_nil, bulk_l, bulk_i, bulk_b, bulk_s, Nat.add_zero, Nat.zero_add]; omega)
  have e5 := so_toPacketS [t7] (WTs_mk (show WTsU [.sl [.i .i64, .i .i64, .i .i64, .i .i64, .sl [.i .i64], .sl [.i .i64, .i .i64, .i .i64, .i .i64, .i .i64, .sl [.i .i64, .i .i64], .i .i64, .b]]] _ from ⟨_, _, rfl, h7, rfl⟩)) (by simp only [bulkR_cons, bulkR_nil, bulk_l, bulk_i, bulk_b, bulk_s, Nat.add_zero, Nat.zero_add]; omega)
  have e6 := so_toRecordS [t8] (WTs_mk (show WTsU [.sl [.i .i64, .i .i64, .i .i64, .i .i64, .i .i64, .sl [.i .i64, .i .i64], .i .i64, .b]] _ from ⟨_, _, rfl, h8, rfl⟩)) (by simp only [bulkR_cons, bulkR_nil, bulk_l, bulk_i, bulk_b, bulk_s, Nat.add_zero, Nat.zero_add]; omega)
  simp only [F_toWorld, p_toWorld, pl_ret, pl_pr, pl_cl, pl_ite, pl_go0, pl_goS, List.map_cons, List.map_nil, ev_k, ev_e, ev_a, List.cons_append, List.nil_append, List.append_assoc, List.getD_cons_zero, List.getD_cons_succ, bind_some', pickN, ifT_b, cond_true, cond_false, decide_true, decide_false, ev_len, ev_lens, ev_scl_i, ev_scl_b, ev_scl_s, ev_lss, ev_leq, ev_gtr, ev_geq, ev_eql, ev_neq, ev_add, ev_sub, ev_eqlS, ev_neqS, ev_bbneq, ev_bbeql, ev_not, Bool.not_true, Bool.not_false, bne_self_eq_false, beq_self_eq_true, s11, s19, s62, s63, s64, s65, e0, e1, e2, e3, e4, e5, e6]
theorem so_eqLink : EqOk F_eqLink [.i .i64, .i .i64, .i .i64, .i .i64] := by
  intro ts ht hb
  obtain ⟨_, _, rfl, ⟨x0, rfl, w0⟩, _, _, rfl, ⟨x1, rfl, w1⟩, _, _, rfl, ⟨x2, rfl, w2⟩, _, _, rfl, ⟨x3, rfl, w3⟩, rfl⟩ := WTsU_of ht
  simp only [bulkR_cons, bulkR_nil, bulk_l, bulk_i, bulk_b, bulk_s, Nat.add_zero, Nat.zero_add] at hb
  simp only [F_eqLink, p_eqLink, pl_ret, pl_pr, pl_cl, pl_ite, pl_go0, pl_goS, List.map_cons, List.map_nil, ev_k, ev_e, ev_a, List.cons_append, List.nil_append, List.append_assoc, List.getD_cons_zero, List.getD_cons_succ, bind_some', pickN, ifT_b, cond_true, cond_false, decide_true, decide_false, ev_len, ev_lens, ev_scl_i, ev_scl_b, ev_scl_s, ev_lss, ev_leq, ev_gtr, ev_geq, ev_eql, ev_neq, ev_add, ev_sub, ev_eqlS, ev_neqS, ev_bbneq, ev_bbeql, ev_not, Bool.not_true, Bool.not_false, bne_self_eq_false, beq_self_eq_true]
theorem so_eqLinkS : EqOk F_eqLinkS [.sl [.i .i64, .i .i64, .i .i64, .i .i64]] := eqSli_ok (S := S_eqLinkS) (w := 4) (g := 140) rfl so_eqLink
theorem so_eqThing : EqOk F_eqThing [.i .i64, .i .i64, .i .i64, .b] := by
  intro ts ht hb
  obtain ⟨_, _, rfl, ⟨x0, rfl, w0⟩, _, _, rfl, ⟨x1, rfl, w1⟩, _, _, rfl, ⟨x2, rfl, w2⟩, _, _, rfl, ⟨x3, rfl⟩, rfl⟩ := WTsU_of ht
  simp only [bulkR_cons, bulkR_nil, bulk_l, bulk_i, bulk_b, bulk_s, Nat.add_zero, Nat.zero_add] at hb
  simp only [F_eqThing, p_eqThing, pl_ret, pl_pr, pl_cl, pl_ite, pl_go0, pl_goS, List.map_cons, List.map_nil, ev_k, ev_e, ev_a, List.cons_append, List.nil_append, List.append_assoc, List.getD_cons_zero, List.getD_cons_succ, bind_some', pickN, ifT_b, cond_true, cond_false, decide_true, decide_false, ev_len, ev_lens, ev_scl_i, ev_scl_b, ev_scl_s, ev_lss, ev_leq, ev_gtr, ev_geq, ev_eql, ev_neq, ev_add, ev_sub, ev_eqlS, ev_neqS, ev_bbneq, ev_bbeql, ev_not, Bool.not_true, Bool.not_false, bne_self_eq_false, beq_self_eq_true]
theorem so_eqThingS : EqOk F_eqThingS [.sl [.i .i64, .i .i64, .i .i64, .b]] := eqSli_ok (S := S_eqThingS) (w := 4) (g := 141) rfl so_eqThing
theorem so_eqNet : EqOk F_eqNet [.i .i64, .sl [.i .i64, .i .i64, .i .i64, .i .i64], .sl [.i .i64, .i .i64, .i .i64, .b]] := by
  intro ts ht hb
  obtain ⟨_, _, rfl, ⟨x0, rfl, w0⟩, t1, _, rfl, h1, t2, _, rfl, h2, rfl⟩ := WTsU_of ht
  simp only [bulkR_cons, bulkR_nil, bulk_l, bulk_i, bulk_b, bulk_s, Nat.add_zero, Nat.zero_add] at hb
  have s119 : S_eqNet 119 = F_eqLinkS := rfl
  have s120 : S_eqNet 120 = F_eqThingS := rfl
  have e0 := so_eqLinkS [t1] (WTs_mk (show WTsU [.sl [.i .i64, .i .i64, .i .i64, .i .i64]] _ from ⟨_, _, rfl, h1, rfl⟩)) (by simp only [bulkR_cons, bulkR_nil, bulk_l, bulk_i, bulk_b, bulk_s, Nat.add_zero, Nat.zero_add]; omega)
  simp only [List.cons_append, List.nil_append] at e0
  have e1 := so_eqThingS [t2] (WTs_mk (show WTsU [.sl [.i .i64, .i .i64, .i .i64, .b]] _ from ⟨_, _, rfl, h2, rfl⟩)) (by simp only [bulkR_cons, bulkR_nil, bulk_l, bulk_i, bulk_b, bulk_s, Nat.add_zero, Nat.zero_add]; omega)
  simp only [List.cons_append, List.nil_append] at e1
  simp only [F_eqNet, p_eqNet, pl_ret, pl_pr, pl_cl, pl_ite, pl_go0, pl_goS, List.map_cons, List.map_nil, ev_k, ev_e, ev_a, List.cons_append, List.nil_append, List.append_assoc, List.getD_cons_zero, List.getD_cons_succ, bind_some', pickN, ifT_b, cond_true, cond_false, decide_true, decide_false, ev_len, ev_lens, ev_scl_i, ev_scl_b, ev_scl_s, ev_lss, ev_leq, ev_gtr, ev_geq, ev_eql, ev_neq, ev_add, ev_sub, ev_eqlS, ev_neqS, ev_bbneq, ev_bbeql, ev_not, Bool.not_true, Bool.not_false, bne_self_eq_false, beq_self_eq_true, s119, s120, e0, e1]
theorem so_eqBoolS : EqOk F_eqBoolS [.sl [.b]] := eqScl_ok (S := S_eqBoolS) (op := .bb .neq) neq_b
theorem so_eqIntS : EqOk F_eqIntS [.sl [.i .i64]] := eqScl_ok (S := S_eqIntS) (op := .bin .neq) neq_i
theorem so_eqNear : EqOk F_eqNear [.i .i64, .i .i64] := by
  intro ts ht hb
  obtain ⟨_, _, rfl, ⟨x0, rfl, w0⟩, _, _, rfl, ⟨x1, rfl, w1⟩, rfl⟩ := WTsU_of ht
  simp only [bulkR_cons, bulkR_nil, bulk_l, bulk_i, bulk_b, bulk_s, Nat.add_zero, Nat.zero_add] at hb
  simp only [F_eqNear, p_eqNear, pl_ret, pl_pr, pl_cl, pl_ite, pl_go0, pl_goS, List.map_cons, List.map_nil, ev_k, ev_e, ev_a, List.cons_append, List.nil_append, List.append_assoc, List.getD_cons_zero, List.getD_cons_succ, bind_some', pickN, ifT_b, cond_true, cond_false, decide_true, decide_false, ev_len, ev_lens, ev_scl_i, ev_scl_b, ev_scl_s, ev_lss, ev_leq, ev_gtr, ev_geq, ev_eql, ev_neq, ev_add, ev_sub, ev_eqlS, ev_neqS, ev_bbneq, ev_bbeql, ev_not, Bool.not_true, Bool.not_false, bne_self_eq_false, beq_self_eq_true]
theorem so_eqNearS : EqOk F_eqNearS [.sl [.i .i64, .i .i64]] := eqSli_ok (S := S_eqNearS) (w := 2) (g := 137) rfl so_eqNear
theorem so_eqRecord : EqOk F_eqRecord [.i .i64, .i .i64, .i .i64, .i .i64, .i .i64, .sl [.i .i64, .i .i64], .i .i64, .b] := by
  intro ts ht hb
  obtain ⟨_, _, rfl, ⟨x0, rfl, w0⟩, _, _, rfl, ⟨x1, rfl, w1⟩, _, _, rfl, ⟨x2, rfl, w2⟩, _, _, rfl, ⟨x3, rfl, w3⟩, _, _, rfl, ⟨x4, rfl, w4⟩, t5, _, rfl, h5, _, _, rfl, ⟨x6, rfl, w6⟩, _, _, rfl, ⟨x7, rfl⟩, rfl⟩ := WTsU_of ht
  simp only [bulkR_cons, bulkR_nil, bulk_l, bulk_i, bulk_b, bulk_s, Nat.add_zero, Nat.zero_add] at hb
  have s107 : S_eqRecord 107 = F_eqNearS := rfl
  have e0 := so_eqNearS [t5] (WTs_mk (show WTsU [.sl [.i .i64, .i .i64]] _ from ⟨_, _, rfl, h5, rfl⟩)) (by simp only [bulkR_cons, bulkR_nil, bulk_l, bulk_i, bulk_b, bulk_s, Nat.add_zero, Nat.zero_add]; omega)
  simp only [List.cons_append, List.nil_append] at e0
  simp only [F_eqRecord, p_eqRecord, pl_ret, pl_pr, pl_cl, pl_ite, pl_go0, pl_goS, List.map_cons, List.map_nil, ev_k, ev_e, ev_a, List.cons_append, List.nil_append, List.append_assoc, List.getD_cons_zero, List.getD_cons_succ, bind_some', pickN, ifT_b, cond_true, cond_false, decide_true, decide_false, ev_len, ev_lens, ev_scl_i, ev_scl_b, ev_scl_s, ev_lss, ev_leq, ev_gtr, ev_geq, ev_eql, ev_neq, ev_add, ev_sub, ev_eqlS, ev_neqS, ev_bbneq, ev_bbeql, ev_not, Bool.not_true, Bool.not_false, bne_self_eq_false, beq_self_eq_true, s107, e0]
theorem so_eqRecordS : EqOk F_eqRecordS [.sl [.i .i64, .i .i64, .i .i64, .i .i64, .i .i64, .sl [.i .i64, .i .i64], .i .i64, .b]] := eqSli_ok (S := S_eqRecordS) (w := 8) (g := 50) rfl so_eqRecord
theorem so_eqSelf : EqOk F_eqSelf [.i .i64, .i .i64, .i .i64, .sl [.i .i64, .i .i64, .i .i64, .i .i64], .sl [.i .i64, .i .i64, .i .i64, .b], .sl [.i .i64], .sl [.i .i64, .i .i64, .i .i64, .i .i64, .i .i64, .sl [.i .i64, .i .i64], .i .i64, .b]] := by
  intro ts ht hb
  obtain ⟨_, _, rfl, ⟨x0, rfl, w0⟩, _, _, rfl, ⟨x1, rfl, w1⟩, _, _, rfl, ⟨x2, rfl, w2⟩, t3, _, rfl, h3, t4, _, rfl, h4, t5, _, rfl, h5, t6, _, rfl, h6, rfl⟩ := WTsU_of ht
  simp only [bulkR_cons, bulkR_nil, bulk_l, bulk_i, bulk_b, bulk_s, Nat.add_zero, Nat.zero_add] at hb
  have s14 : S_eqSelf 14 = F_eqRecordS := rfl
  have s21 : S_eqSelf 21 = F_eqIntS := rfl
  have s68 : S_eqSelf 68 = F_eqNet := rfl
  have e0 := so_eqNet [.c (.int .i64 x2), t3, t4] (WTs_mk (show WTsU [.i .i64, .sl [.i .i64, .i .i64, .i .i64, .i .i64], .sl [.i .i64, .i .i64, .i .i64, .b]] _ from ⟨_, _, rfl, ⟨_, rfl, w2⟩, _, _, rfl, h3, _, _, rfl, h4, rfl⟩)) (by simp only [bulkR_cons, bulkR_nil, bulk_l, bulk_i, bulk_b, bulk_s, Nat.add_zero, Nat.zero_add]; omega)
  simp only [List.cons_append, List.nil_append] at e0
  have e1 := so_eqIntS [t5] (WTs_mk (show WTsU [.sl [.i .i64]] _ from ⟨_, _, rfl, h5, rfl⟩)) (by simp only [bulkR_cons, bulkR_nil, bulk_l, bulk_i, bulk_b, bulk_s, Nat.add_zero, Nat.zero_add]; omega)
  simp only [List.cons_append, List.nil_append] at e1
  have e2 := so_eqRecordS [t6] (WTs_mk (show WTsU [.sl [.i .i64, .i .i64, .i .i64, .i .i64, .i .i64, .sl [.i .i64, .i .i64], .i .i64, .b]] _ from ⟨_, _, rfl, h6, rfl⟩)) (by simp only [bulkR_cons, bulkR_nil, bulk_l, bulk_i, bulk_b, bulk_s, Nat.add_zero, Nat.zero_add]; omega)
  simp only [List.cons_append, List.nil_append] at e2
  simp only [F_eqSelf, p_eqSelf, pl_ret, pl_pr, pl_cl, pl_ite, pl_go0, pl_goS, List.map_cons, List.map_nil, ev_k, ev_e, ev_a, List.cons_append, List.nil_append, List.append_assoc, List.getD_cons_zero, List.getD_cons_succ, bind_some', pickN, ifT_b, cond_true, cond_false, decide_true, decide_false, ev_len, ev_lens, ev_scl_i, ev_scl_b, ev_scl_s, ev_lss, ev_leq, ev_gtr, ev_geq, ev_eql, ev_neq, ev_add, ev_sub, ev_eqlS, ev_neqS, ev_bbneq, ev_bbeql, ev_not, Bool.not_true, Bool.not_false, bne_self_eq_false, beq_self_eq_true, s14, s21, s68, e0, e1, e2]
theorem so_eqEar : EqOk F_eqEar [.i .i64, .i .i64, .i .i64, .b] := by
  intro ts ht hb
  obtain ⟨_, _, rfl, ⟨x0, rfl, w0⟩, _, _, rfl, ⟨x1, rfl, w1⟩, _, _, rfl, ⟨x2, rfl, w2⟩, _, _, rfl, ⟨x3, rfl⟩, rfl⟩ := WTsU_of ht
  simp only [bulkR_cons, bulkR_nil, bulk_l, bulk_i, bulk_b, bulk_s, Nat.add_zero, Nat.zero_add] at hb
  simp only [F_eqEar, p_eqEar, pl_ret, pl_pr, pl_cl, pl_ite, pl_go0, pl_goS, List.map_cons, List.map_nil, ev_k, ev_e, ev_a, List.cons_append, List.nil_append, List.append_assoc, List.getD_cons_zero, List.getD_cons_succ, bind_some', pickN, ifT_b, cond_true, cond_false, decide_true, decide_false, ev_len, ev_lens, ev_scl_i, ev_scl_b, ev_scl_s, ev_lss, ev_leq, ev_gtr, ev_geq, ev_eql, ev_neq, ev_add, ev_sub, ev_eqlS, ev_neqS, ev_bbneq, ev_bbeql, ev_not, Bool.not_true, Bool.not_false, bne_self_eq_false, beq_self_eq_true]
theorem so_eqEarS : EqOk F_eqEarS [.sl [.i .i64, .i .i64, .i .i64, .b]] := eqSli_ok (S := S_eqEarS) (w := 4) (g := 128) rfl so_eqEar
theorem so_eqNode : EqOk F_eqNode [.i .i64, .i .i64, .i .i64, .sl [.i .i64, .i .i64, .i .i64, .i .i64], .sl [.i .i64, .i .i64, .i .i64, .b], .sl [.i .i64], .sl [.i .i64, .i .i64, .i .i64, .i .i64, .i .i64, .sl [.i .i64, .i .i64], .i .i64, .b], .sl [.i .i64, .i .i64, .i .i64, .b]] := by
  intro ts ht hb
  obtain ⟨_, _, rfl, ⟨x0, rfl, w0⟩, _, _, rfl, ⟨x1, rfl, w1⟩, _, _, rfl, ⟨x2, rfl, w2⟩, t3, _, rfl, h3, t4, _, rfl, h4, t5, _, rfl, h5, t6, _, rfl, h6, t7, _, rfl, h7, rfl⟩ := WTsU_of ht
  simp only [bulkR_cons, bulkR_nil, bulk_l, bulk_i, bulk_b, bulk_s, Nat.add_zero, Nat.zero_add] at hb
  have s84 : S_eqNode 84 = F_eqSelf := rfl
  have s85 : S_eqNode 85 = F_eqEarS := rfl
  have e0 := so_eqSelf [.c (.int .i64 x0), .c (.int .i64 x1), .c (.int .i64 x2), t3, t4, t5, t6] (WTs_mk (show WTsU [.i .i64, .i .i64, .i .i64, .sl [.i .i64, .i .i64, .i .i64, .i .i64], .sl [.i .i64, .i .i64, .i .i64, .b], .sl [.i .i64], .sl [.i .i64, .i .i64, .i .i64, .i .i64, .i .i64, .sl [.i .i64, .i .i64], .i .i64, .b]] _ from ⟨_, _, rfl, ⟨_, rfl, w0⟩, _, _, rfl, ⟨_, rfl, w1⟩, _, _, rfl, ⟨_, rfl, w2⟩, _, _, rfl, h3, _, _, rfl, h4, _, _, rfl, h5, _, _, rfl, h6, rfl⟩)) (by simp only [bulkR_cons, bulkR_nil, bulk_l, bulk_i, bulk_b, bulk_s, Nat.add_zero, Nat.zero_add]; omega)
  simp only [List.cons_append, List.nil_append] at e0
  have e1 := so_eqEarS [t7] (WTs_mk (show WTsU [.sl [.i .i64, .i .i64, .i .i64, .b]] _ from ⟨_, _, rfl, h7, rfl⟩)) (by simp only [bulkR_cons, bulkR_nil, bulk_l, bulk_i, bulk_b, bulk_s, Nat.add_zero, Nat.zero_add]; omega)
  simp only [List.cons_append, List.nil_append] at e1
  simp only [F_eqNode, p_eqNode, pl_ret, pl_pr, pl_cl, pl_ite, pl_go0, pl_goS, List.map_cons, List.map_nil, ev_k, ev_e, ev_a, List.cons_append, List.nil_append, List.append_assoc, List.getD_cons_zero, List.getD_cons_succ, bind_some', pickN, ifT_b, cond_true, cond_false, decide_true, decide_false, ev_len, ev_lens, ev_scl_i, ev_scl_b, ev_scl_s, ev_lss, ev_leq, ev_gtr, ev_geq, ev_eql, ev_neq, ev_add, ev_sub, ev_eqlS, ev_neqS, ev_bbneq, ev_bbeql, ev_not, Bool.not_true, Bool.not_false, bne_self_eq_false, beq_self_eq_true, s84, s85, e0, e1]
theorem so_eqNodeS : EqOk F_eqNodeS [.sl [.i .i64, .i .i64, .i .i64, .sl [.i .i64, .i .i64, .i .i64, .i .i64], .sl [.i .i64, .i .i64, .i .i64, .b], .sl [.i .i64], .sl [.i .i64, .i .i64, .i .i64, .i .i64, .i .i64, .sl [.i .i64, .i .i64], .i .i64, .b], .sl [.i .i64, .i .i64, .i .i64, .b]]] := eqSli_ok (S := S_eqNodeS) (w := 8) (g := 32) rfl so_eqNode
theorem so_eqPacket : EqOk F_eqPacket [.i .i64, .i .i64, .i .i64, .i .i64, .sl [.i .i64], .sl [.i .i64, .i .i64, .i .i64, .i .i64, .i .i64, .sl [.i .i64, .i .i64], .i .i64, .b]] := by
  intro ts ht hb
  obtain ⟨_, _, rfl, ⟨x0, rfl, w0⟩, _, _, rfl, ⟨x1, rfl, w1⟩, _, _, rfl, ⟨x2, rfl, w2⟩, _, _, rfl, ⟨x3, rfl, w3⟩, t4, _, rfl, h4, t5, _, rfl, h5, rfl⟩ := WTsU_of ht
  simp only [bulkR_cons, bulkR_nil, bulk_l, bulk_i, bulk_b, bulk_s, Nat.add_zero, Nat.zero_add] at hb
  have s14 : S_eqPacket 14 = F_eqRecordS := rfl
  have s21 : S_eqPacket 21 = F_eqIntS := rfl
  have e0 := so_eqIntS [t4] (WTs_mk (show WTsU [.sl [.i .i64]] _ from ⟨_, _, rfl, h4, rfl⟩)) (by simp only [bulkR_cons, bulkR_nil, bulk_l, bulk_i, bulk_b, bulk_s, Nat.add_zero, Nat.zero_add]; omega)
  simp only [List.cons_append, List.nil_append] at e0
  have e1 := so_eqRecordS [t5] (WTs_mk (show WTsU [.sl [.i .i64, .i .i64, .i .i64, .i .i64, .i .i64, .sl [.i .i64, .i .i64], .i .i64, .b]] _ from ⟨_, _, rfl, h5, rfl⟩)) (by simp only [bulkR_cons, bulkR_nil, bulk_l, bulk_i, bulk_b, bulk_s, Nat.add_zero, Nat.zero_add]; omega)
  simp only [List.cons_append, List.nil_append] at e1
  simp only [F_eqPacket, p_eqPacket, pl_ret, pl_pr, pl_cl, pl_ite, pl_go0, pl_goS, List.map_cons, List.map_nil, ev_k, ev_e, ev_a, List.cons_append, List.nil_append, List.append_assoc, List.getD_cons_zero, List.getD_cons_succ, bind_some', pickN, ifT_b, cond_true, cond_false, decide_true, decide_false, ev_len, ev_lens, ev_scl_i, ev_scl_b, ev_scl_s, ev_lss, ev_leq, ev_gtr, ev_geq, ev_eql, ev_neq, ev_add, ev_sub, ev_eqlS, ev_neqS, ev_bbneq, ev_bbeql, ev_not, Bool.not_true, Bool.not_false, bne_self_eq_false, beq_self_eq_true, s14, s21, e0, e1]
theorem so_eqPacketS : EqOk F_eqPacketS [.sl [.i .i64, .i .i64, .i .i64, .i .i64, .sl [.i .i64], .sl [.i .i64, .i .i64, .i .i64, .i .i64, .i .i64, .sl [.i .i64, .i .i64], .i .i64, .b]]] := eqSli_ok (S := S_eqPacketS) (w := 6) (g := 121) rfl so_eqPacket
theorem so_eqWorld : EqOk F_eqWorld [.i .i64, .sl [.i .i64, .i .i64, .i .i64, .i .i64], .sl [.i .i64, .i .i64, .i .i64, .b], .sl [.b], .sl [.b], .sl [.i .i64], .sl [.i .i64, .i .i64, .i .i64, .sl [.i .i64, .i .i64, .i .i64, .i .i64], .sl [.i .i64, .i .i64, .i .i64, .b], .sl [.i .i64], .sl [.i .i64, .i .i64, .i .i64, .i .i64, .i .i64, .sl [.i .i64, .i .i64], .i .i64, .b], .sl [.i .i64, .i .i64, .i .i64, .b]], .sl [.i .i64, .i .i64, .i .i64, .i .i64, .sl [.i .i64], .sl [.i .i64, .i .i64, .i .i64, .i .i64, .i .i64, .sl [.i .i64, .i .i64], .i .i64, .b]], .sl [.i .i64, .i .i64, .i .i64, .i .i64, .i .i64, .sl [.i .i64, .i .i64], .i .i64, .b], .i .i64] := by
  intro ts ht hb
  obtain ⟨_, _, rfl, ⟨x0, rfl, w0⟩, t1, _, rfl, h1, t2, _, rfl, h2, t3, _, rfl, h3, t4, _, rfl, h4, t5, _, rfl, h5, t6, _, rfl, h6, t7, _, rfl, h7, t8, _, rfl, h8, _, _, rfl, ⟨x9, rfl, w9⟩, rfl⟩ := WTsU_of ht
  simp only [bulkR_cons, bulkR_nil, bulk_l, bulk_i, bulk_b, bulk_s, Nat.add_zero, Nat.zero_add] at hb
  have s14 : S_eqWorld 14 = F_eqRecordS := rfl
  have s21 : S_eqWorld 21 = F_eqIntS := rfl
  have s68 : S_eqWorld 68 = F_eqNet := rfl
  have s69 : S_eqWorld 69 = F_eqBoolS := rfl
  have s70 : S_eqWorld 70 = F_eqNodeS := rfl
  have s71 : S_eqWorld 71 = F_eqPacketS := rfl
  have e0 := so_eqNet [.c (.int .i64 x0), t1, t2] (WTs_mk (show WTsU [.i .i64, .sl [.i .i64, .i .i64, .i .i64, .i .i64], .sl [.i .i64, .i .i64, .i .i64, .b]] _ from ⟨_, _, rfl, ⟨_, rfl, w0⟩, _, _, rfl, h1, _, _, rfl, h2, rfl⟩)) (by simp only [bulkR_cons, bulkR_nil, bulk_l, bulk_i, bulk_b, bulk_s, Nat.add_zero, Nat.zero_add]; omega)
  simp only [List.cons_append, List.nil_append] at e0
  have e1 := so_eqBoolS [t3] (WTs_mk (show WTsU [.sl [.b]] _ from ⟨_, _, rfl, h3, rfl⟩)) (by simp only [bulkR_cons, bulkR_nil, bulk_l, bulk_i, bulk_b, bulk_s, Nat.add_zero, Nat.zero_add]; omega)
  simp only [List.cons_append, List.nil_append] at e1
  have e2 := so_eqBoolS [t4] (WTs_mk (show WTsU [.sl [.b]] _ from ⟨_, _, rfl, h4, rfl⟩)) (by simp only [bulkR_cons, bulkR_nil, bulk_l, bulk_i, bulk_b, bulk_s, Nat.add_zero, Nat.zero_add]; omega)
  simp only [List.cons_append, List.nil_append] at e2
  have e3 := so_eqIntS [t5] (WTs_mk (show WTsU [.sl [.i .i64]] _ from ⟨_, _, rfl, h5, rfl⟩)) (by simp only [bulkR_cons, bulkR_nil, bulk_l, bulk_i, bulk_b, bulk_s, Nat.add_zero, Nat.zero_add]; omega)
  simp only [List.cons_append, List.nil_append] at e3
  have e4 := so_eqNodeS [t6] (WTs_mk (show WTsU [.sl [.i .i64, .i .i64, .i .i64, .sl [.i .i64, .i .i64, .i .i64, .i .i64], .sl [.i .i64, .i .i64, .i .i64, .b], .sl [.i .i64], .sl [.i .i64, .i .i64, .i .i64, .i .i64, .i .i64, .sl [.i .i64, .i .i64], .i .i64, .b], .sl [.i .i64, .i .i64, .i .i64, .b]]] _ from ⟨_, _, rfl, h6, rfl⟩)) (by simp only [bulkR_cons, bulkR_nil, bulk_l, bulk_i, bulk_b, bulk_s, Nat.add_zero, Nat.zero_add]; omega)
  simp only [List.cons_append, List.nil_append] at e4
  have e5 := so_eqPacketS [t7] (WTs_mk (show WTsU [.sl [.i .i64, .i .i64, .i .i64, .i .i64, .sl [.i .i64], .sl [.i .i64, .i .i64, .i .i64, .i .i64, .i .i64, .sl [.i .i64, .i .i64], .i .i64, .b]]] _ from ⟨_, _, rfl, h7, rfl⟩)) (by simp only [bulkR_cons, bulkR_nil, bulk_l, bulk_i, bulk_b, bulk_s, Nat.add_zero, Nat.zero_add]; omega)
  simp only [List.cons_append, List.nil_append] at e5
  have e6 := so_eqRecordS [t8] (WTs_mk (show WTsU [.sl [.i .i64, .i .i64, .i .i64, .i .i64, .i .i64, .sl [.i .i64, .i .i64], .i .i64, .b]] _ from ⟨_, _, rfl, h8, rfl⟩)) (by simp only [bulkR_cons, bulkR_nil, bulk_l, bulk_i, bulk_b, bulk_s, Nat.add_zero, Nat.zero_add]; omega)
  simp only [List.cons_append, List.nil_append] at e6
  simp only [F_eqWorld, p_eqWorld, pl_ret, pl_pr, pl_cl, pl_ite, pl_go0, pl_goS, List.map_cons, List.map_nil, ev_k, ev_e, ev_a, List.cons_append, List.nil_append, List.append_assoc, List.getD_cons_zero, List.getD_cons_succ, bind_some', pickN, ifT_b, cond_true, cond_false, decide_true, decide_false, ev_len, ev_lens, ev_scl_i, ev_scl_b, ev_scl_s, ev_lss, ev_leq, ev_gtr, ev_geq, ev_eql, ev_neq, ev_add, ev_sub, ev_eqlS, ev_neqS, ev_bbneq, ev_bbeql, ev_not, Bool.not_true, Bool.not_false, bne_self_eq_false, beq_self_eq_true, s14, s21, s68, s69, s70, s71, e0, e1, e2, e3, e4, e5, e6]
end Go.Proofs.YtcknaignbagihaaC
