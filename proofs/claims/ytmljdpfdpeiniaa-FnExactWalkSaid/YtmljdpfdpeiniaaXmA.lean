/- What the functions of the families sz, to, eq do (printed by a program). Conditions: none. -/
import Derived.Test.YtmljdpfdpeiniaaXpA
import Derived.Test.YtmljdpfdpeiniaaKd
namespace Go.Proofs.YtmljdpfdpeiniaaC
set_option linter.unusedVariables false
set_option linter.unusedSimpArgs false
theorem so_szLinkS : SzOk F_szLinkS [.sl [.i .i64, .i .i64, .i .i64, .i .i64]] := szLen_ok (S := S_szLinkS) (R := rounds) rfl
theorem so_szThingS : SzOk F_szThingS [.sl [.i .i64, .i .i64, .i .i64, .b]] := szLen_ok (S := S_szThingS) (R := rounds) rfl
theorem so_szNet : SzOk F_szNet [.i .i64, .sl [.i .i64, .i .i64, .i .i64, .i .i64], .sl [.i .i64, .i .i64, .i .i64, .b]] := by
  intro ts l ht h_0 h_1
  obtain ⟨_, _, rfl, ⟨x0, rfl, w0⟩, t1, _, rfl, h1, t2, _, rfl, h2, rfl⟩ := WTsU_of ht
  have s46 : S_szNet 46 = F_szLinkS := rfl
  have s47 : S_szNet 47 = F_szThingS := rfl
  obtain ⟨n0, e0, b0, c0⟩ := so_szLinkS [t1] l (WTs_mk (show WTsU [.sl [.i .i64, .i .i64, .i .i64, .i .i64]] _ from ⟨_, _, rfl, h1, rfl⟩)) (by omega) (by omega)
  simp only [List.cons_append, List.nil_append, bulkR_cons, bulkR_nil, bulk_l, bulk_i, bulk_b, bulk_s, Nat.add_zero, Nat.zero_add] at e0 c0
  by_cases g0 : n0 < 0
  · exact ⟨-1, by simp only [F_szNet, p_szNet, pl_ret, pl_pr, pl_cl, pl_ite, pl_go0, pl_goS, List.map_cons, List.map_nil, ev_k, ev_e, ev_a, List.cons_append, List.nil_append, List.append_assoc, List.getD_cons_zero, List.getD_cons_succ, bind_some', pickN, ifT_b, cond_true, cond_false, decide_true, decide_false, ev_len, ev_lens, ev_scl_i, ev_scl_b, ev_scl_s, ev_lss, ev_leq, ev_gtr, ev_geq, ev_eql, ev_neq, ev_add, ev_sub, ev_eqlS, ev_neqS, ev_bbneq, ev_bbeql, ev_not, Bool.not_true, Bool.not_false, bne_self_eq_false, beq_self_eq_true, s46, s47, e0, g0], by omega, by omega⟩
  obtain ⟨n1, e1, b1, c1⟩ := so_szThingS [t2] n0 (WTs_mk (show WTsU [.sl [.i .i64, .i .i64, .i .i64, .b]] _ from ⟨_, _, rfl, h2, rfl⟩)) (by omega) (by omega)
  simp only [List.cons_append, List.nil_append, bulkR_cons, bulkR_nil, bulk_l, bulk_i, bulk_b, bulk_s, Nat.add_zero, Nat.zero_add] at e1 c1
  by_cases g1 : n1 < 0
  · exact ⟨-1, by simp only [F_szNet, p_szNet, pl_ret, pl_pr, pl_cl, pl_ite, pl_go0, pl_goS, List.map_cons, List.map_nil, ev_k, ev_e, ev_a, List.cons_append, List.nil_append, List.append_assoc, List.getD_cons_zero, List.getD_cons_succ, bind_some', pickN, ifT_b, cond_true, cond_false, decide_true, decide_false, ev_len, ev_lens, ev_scl_i, ev_scl_b, ev_scl_s, ev_lss, ev_leq, ev_gtr, ev_geq, ev_eql, ev_neq, ev_add, ev_sub, ev_eqlS, ev_neqS, ev_bbneq, ev_bbeql, ev_not, Bool.not_true, Bool.not_false, bne_self_eq_false, beq_self_eq_true, s46, s47, e0, e1, g0, g1], by omega, by omega⟩
  refine ⟨n1, by simp only [F_szNet, p_szNet, pl_ret, pl_pr, pl_cl, pl_ite, pl_go0, pl_goS, List.map_cons, List.map_nil, ev_k, ev_e, ev_a, List.cons_append, List.nil_append, List.append_assoc, List.getD_cons_zero, List.getD_cons_succ, bind_some', pickN, ifT_b, cond_true, cond_false, decide_true, decide_false, ev_len, ev_lens, ev_scl_i, ev_scl_b, ev_scl_s, ev_lss, ev_leq, ev_gtr, ev_geq, ev_eql, ev_neq, ev_add, ev_sub, ev_eqlS, ev_neqS, ev_bbneq, ev_bbeql, ev_not, Bool.not_true, Bool.not_false, bne_self_eq_false, beq_self_eq_true, s46, s47, e0, e1, g0, g1], by omega, fun _ => ?_⟩
  simp only [bulkR_cons, bulkR_nil, bulk_l, bulk_i, bulk_b, bulk_s, Nat.add_zero, Nat.zero_add]
  have := c0 (by omega)
  have := c1 (by omega)
  omega
theorem so_szEvent : SzOk F_szEvent [.i .i64, .i .i64, .i .i64, .s] := by
  intro ts l ht h_0 h_1
  obtain ⟨_, _, rfl, ⟨x0, rfl, w0⟩, _, _, rfl, ⟨x1, rfl, w1⟩, _, _, rfl, ⟨x2, rfl, w2⟩, _, _, rfl, ⟨x3, rfl, w3⟩, rfl⟩ := WTsU_of ht
  obtain ⟨n0, q0⟩ : ∃ n : Int, n = l - x3.size := ⟨_, rfl⟩
  have e0 : IntKind.i64.wrap (l - x3.size) = n0 := by rw [wrap64 (by unfold maxLen at w3; omega) (by omega), q0]
  by_cases g0 : n0 < 0
  · exact ⟨-1, by simp only [F_szEvent, p_szEvent, pl_ret, pl_pr, pl_cl, pl_ite, pl_go0, pl_goS, List.map_cons, List.map_nil, ev_k, ev_e, ev_a, List.cons_append, List.nil_append, List.append_assoc, List.getD_cons_zero, List.getD_cons_succ, bind_some', pickN, ifT_b, cond_true, cond_false, decide_true, decide_false, ev_len, ev_lens, ev_scl_i, ev_scl_b, ev_scl_s, ev_lss, ev_leq, ev_gtr, ev_geq, ev_eql, ev_neq, ev_add, ev_sub, ev_eqlS, ev_neqS, ev_bbneq, ev_bbeql, ev_not, Bool.not_true, Bool.not_false, bne_self_eq_false, beq_self_eq_true, e0, g0], by omega, by omega⟩
  refine ⟨n0, by simp only [F_szEvent, p_szEvent, pl_ret, pl_pr, pl_cl, pl_ite, pl_go0, pl_goS, List.map_cons, List.map_nil, ev_k, ev_e, ev_a, List.cons_append, List.nil_append, List.append_assoc, List.getD_cons_zero, List.getD_cons_succ, bind_some', pickN, ifT_b, cond_true, cond_false, decide_true, decide_false, ev_len, ev_lens, ev_scl_i, ev_scl_b, ev_scl_s, ev_lss, ev_leq, ev_gtr, ev_geq, ev_eql, ev_neq, ev_add, ev_sub, ev_eqlS, ev_neqS, ev_bbneq, ev_bbeql, ev_not, Bool.not_true, Bool.not_false, bne_self_eq_false, beq_self_eq_true, e0, g0], by omega, fun _ => ?_⟩
  simp only [bulkR_cons, bulkR_nil, bulk_l, bulk_i, bulk_b, bulk_s, Nat.add_zero, Nat.zero_add]
  omega
theorem so_toLink : ToOk F_toLink [.i .i64, .i .i64, .i .i64, .i .i64] := by
  intro ts ht hb
  obtain ⟨_, _, rfl, ⟨x0, rfl, w0⟩, _, _, rfl, ⟨x1, rfl, w1⟩, _, _, rfl, ⟨x2, rfl, w2⟩, _, _, rfl, ⟨x3, rfl, w3⟩, rfl⟩ := WTsU_of ht
  simp only [bulkR_cons, bulkR_nil, bulk_l, bulk_i, bulk_b, bulk_s, Nat.add_zero, Nat.zero_add] at hb
  simp only [F_toLink, p_toLink, pl_ret, pl_pr, pl_cl, pl_ite, pl_go0, pl_goS, List.map_cons, List.map_nil, ev_k, ev_e, ev_a, List.cons_append, List.nil_append, List.append_assoc, List.getD_cons_zero, List.getD_cons_succ, bind_some', pickN, ifT_b, cond_true, cond_false, decide_true, decide_false, ev_len, ev_lens, ev_scl_i, ev_scl_b, ev_scl_s, ev_lss, ev_leq, ev_gtr, ev_geq, ev_eql, ev_neq, ev_add, ev_sub, ev_eqlS, ev_neqS, ev_bbneq, ev_bbeql, ev_not, Bool.not_true, Bool.not_false, bne_self_eq_false, beq_self_eq_true]
theorem so_toLinkS : ToOk F_toLinkS [.sl [.i .i64, .i .i64, .i .i64, .i .i64]] := toSli_ok (S := S_toLinkS) (w := 4) (g := 72) (zs := [.k (.int .i64 0), .k (.int .i64 0), .k (.int .i64 0), .k (.int .i64 0)]) (st := .put true 4 0 4) rfl so_toLink rfl rfl (fun xs i z vs => st_put (fs := [.i .i64, .i .i64, .i .i64, .i .i64]) (w := 4) rfl rfl xs i z vs)
theorem so_toThing : ToOk F_toThing [.i .i64, .i .i64, .i .i64, .b] := by
  intro ts ht hb
  obtain ⟨_, _, rfl, ⟨x0, rfl, w0⟩, _, _, rfl, ⟨x1, rfl, w1⟩, _, _, rfl, ⟨x2, rfl, w2⟩, _, _, rfl, ⟨x3, rfl⟩, rfl⟩ := WTsU_of ht
  simp only [bulkR_cons, bulkR_nil, bulk_l, bulk_i, bulk_b, bulk_s, Nat.add_zero, Nat.zero_add] at hb
  simp only [F_toThing, p_toThing, pl_ret, pl_pr, pl_cl, pl_ite, pl_go0, pl_goS, List.map_cons, List.map_nil, ev_k, ev_e, ev_a, List.cons_append, List.nil_append, List.append_assoc, List.getD_cons_zero, List.getD_cons_succ, bind_some', pickN, ifT_b, cond_true, cond_false, decide_true, decide_false, ev_len, ev_lens, ev_scl_i, ev_scl_b, ev_scl_s, ev_lss, ev_leq, ev_gtr, ev_geq, ev_eql, ev_neq, ev_add, ev_sub, ev_eqlS, ev_neqS, ev_bbneq, ev_bbeql, ev_not, Bool.not_true, Bool.not_false, bne_self_eq_false, beq_self_eq_true]
theorem so_toThingS : ToOk F_toThingS [.sl [.i .i64, .i .i64, .i .i64, .b]] := toSli_ok (S := S_toThingS) (w := 4) (g := 73) (zs := [.k (.int .i64 0), .k (.int .i64 0), .k (.int .i64 0), .k (.bool false)]) (st := .put true 4 0 4) rfl so_toThing rfl rfl (fun xs i z vs => st_put (fs := [.i .i64, .i .i64, .i .i64, .b]) (w := 4) rfl rfl xs i z vs)
theorem so_toNet : ToOk F_toNet [.i .i64, .sl [.i .i64, .i .i64, .i .i64, .i .i64], .sl [.i .i64, .i .i64, .i .i64, .b]] := by
  intro ts ht hb
  obtain ⟨_, _, rfl, ⟨x0, rfl, w0⟩, t1, _, rfl, h1, t2, _, rfl, h2, rfl⟩ := WTsU_of ht
  simp only [bulkR_cons, bulkR_nil, bulk_l, bulk_i, bulk_b, bulk_s, Nat.add_zero, Nat.zero_add] at hb
  have s49 : S_toNet 49 = F_toLinkS := rfl
  have s50 : S_toNet 50 = F_toThingS := rfl
  have e0 := so_toLinkS [t1] (WTs_mk (show WTsU [.sl [.i .i64, .i .i64, .i .i64, .i .i64]] _ from ⟨_, _, rfl, h1, rfl⟩)) (by simp only [bulkR_cons, bulkR_nil, bulk_l, bulk_i, bulk_b, bulk_s, Nat.add_zero, Nat.zero_add]; omega)
  have e1 := so_toThingS [t2] (WTs_mk (show WTsU [.sl [.i .i64, .i .i64, .i .i64, .b]] _ from ⟨_, _, rfl, h2, rfl⟩)) (by simp only [bulkR_cons, bulkR_nil, bulk_l, bulk_i, bulk_b, bulk_s, Nat.add_zero, Nat.zero_add]; omega)
  simp only [F_toNet, p_toNet, pl_ret, pl_pr, pl_cl, pl_ite, pl_go0, pl_goS, List.map_cons, List.map_nil, ev_k, ev_e, ev_a, List.cons_append, List.nil_append, List.append_assoc, List.getD_cons_zero, List.getD_cons_succ, bind_some', pickN, ifT_b, cond_true, cond_false, decide_true, decide_false, ev_len, ev_lens, ev_scl_i, ev_scl_b, ev_scl_s, ev_lss, ev_leq, ev_gtr, ev_geq, ev_eql, ev_neq, ev_add, ev_sub, ev_eqlS, ev_neqS, ev_bbneq, ev_bbeql, ev_not, Bool.not_true, Bool.not_false, bne_self_eq_false, beq_self_eq_true, s49, s50, e0, e1]
theorem so_toEvent : ToOk F_toEvent [.i .i64, .i .i64, .i .i64, .s] := by
  intro ts ht hb
  obtain ⟨_, _, rfl, ⟨x0, rfl, w0⟩, _, _, rfl, ⟨x1, rfl, w1⟩, _, _, rfl, ⟨x2, rfl, w2⟩, _, _, rfl, ⟨x3, rfl, w3⟩, rfl⟩ := WTsU_of ht
  simp only [bulkR_cons, bulkR_nil, bulk_l, bulk_i, bulk_b, bulk_s, Nat.add_zero, Nat.zero_add] at hb
  simp only [F_toEvent, p_toEvent, pl_ret, pl_pr, pl_cl, pl_ite, pl_go0, pl_goS, List.map_cons, List.map_nil, ev_k, ev_e, ev_a, List.cons_append, List.nil_append, List.append_assoc, List.getD_cons_zero, List.getD_cons_succ, bind_some', pickN, ifT_b, cond_true, cond_false, decide_true, decide_false, ev_len, ev_lens, ev_scl_i, ev_scl_b, ev_scl_s, ev_lss, ev_leq, ev_gtr, ev_geq, ev_eql, ev_neq, ev_add, ev_sub, ev_eqlS, ev_neqS, ev_bbneq, ev_bbeql, ev_not, Bool.not_true, Bool.not_false, bne_self_eq_false, beq_self_eq_true]
theorem so_eqLink : EqOk F_eqLink [.i .i64, .i .i64, .i .i64, .i .i64] := by
  intro ts ht hb
  obtain ⟨_, _, rfl, ⟨x0, rfl, w0⟩, _, _, rfl, ⟨x1, rfl, w1⟩, _, _, rfl, ⟨x2, rfl, w2⟩, _, _, rfl, ⟨x3, rfl, w3⟩, rfl⟩ := WTsU_of ht
  simp only [bulkR_cons, bulkR_nil, bulk_l, bulk_i, bulk_b, bulk_s, Nat.add_zero, Nat.zero_add] at hb
  simp only [F_eqLink, p_eqLink, pl_ret, pl_pr, pl_cl, pl_ite, pl_go0, pl_goS, List.map_cons, List.map_nil, ev_k, ev_e, ev_a, List.cons_append, List.nil_append, List.append_assoc, List.getD_cons_zero, List.getD_cons_succ, bind_some', pickN, ifT_b, cond_true, cond_false, decide_true, decide_false, ev_len, ev_lens, ev_scl_i, ev_scl_b, ev_scl_s, ev_lss, ev_leq, ev_gtr, ev_geq, ev_eql, ev_neq, ev_add, ev_sub, ev_eqlS, ev_neqS, ev_bbneq, ev_bbeql, ev_not, Bool.not_true, Bool.not_false, bne_self_eq_false, beq_self_eq_true]
theorem so_eqLinkS : EqOk F_eqLinkS [.sl [.i .i64, .i .i64, .i .i64, .i .i64]] := eqSli_ok (S := S_eqLinkS) (w := 4) (g := 74) rfl so_eqLink
theorem so_eqThing : EqOk F_eqThing [.i .i64, .i .i64, .i .i64, .b] := by
  intro ts ht hb
  obtain ⟨_, _, rfl, ⟨x0, rfl, w0⟩, _, _, rfl, ⟨x1, rfl, w1⟩, _, _, rfl, ⟨x2, rfl, w2⟩, _, _, rfl, ⟨x3, rfl⟩, rfl⟩ := WTsU_of ht
  simp only [bulkR_cons, bulkR_nil, bulk_l, bulk_i, bulk_b, bulk_s, Nat.add_zero, Nat.zero_add] at hb
  simp only [F_eqThing, p_eqThing, pl_ret, pl_pr, pl_cl, pl_ite, pl_go0, pl_goS, List.map_cons, List.map_nil, ev_k, ev_e, ev_a, List.cons_append, List.nil_append, List.append_assoc, List.getD_cons_zero, List.getD_cons_succ, bind_some', pickN, ifT_b, cond_true, cond_false, decide_true, decide_false, ev_len, ev_lens, ev_scl_i, ev_scl_b, ev_scl_s, ev_lss, ev_leq, ev_gtr, ev_geq, ev_eql, ev_neq, ev_add, ev_sub, ev_eqlS, ev_neqS, ev_bbneq, ev_bbeql, ev_not, Bool.not_true, Bool.not_false, bne_self_eq_false, beq_self_eq_true]
theorem so_eqThingS : EqOk F_eqThingS [.sl [.i .i64, .i .i64, .i .i64, .b]] := eqSli_ok (S := S_eqThingS) (w := 4) (g := 75) rfl so_eqThing
theorem so_eqNet : EqOk F_eqNet [.i .i64, .sl [.i .i64, .i .i64, .i .i64, .i .i64], .sl [.i .i64, .i .i64, .i .i64, .b]] := by
  intro ts ht hb
  obtain ⟨_, _, rfl, ⟨x0, rfl, w0⟩, t1, _, rfl, h1, t2, _, rfl, h2, rfl⟩ := WTsU_of ht
  simp only [bulkR_cons, bulkR_nil, bulk_l, bulk_i, bulk_b, bulk_s, Nat.add_zero, Nat.zero_add] at hb
  have s52 : S_eqNet 52 = F_eqLinkS := rfl
  have s53 : S_eqNet 53 = F_eqThingS := rfl
  have e0 := so_eqLinkS [t1] (WTs_mk (show WTsU [.sl [.i .i64, .i .i64, .i .i64, .i .i64]] _ from ⟨_, _, rfl, h1, rfl⟩)) (by simp only [bulkR_cons, bulkR_nil, bulk_l, bulk_i, bulk_b, bulk_s, Nat.add_zero, Nat.zero_add]; omega)
  simp only [List.cons_append, List.nil_append] at e0
  have e1 := so_eqThingS [t2] (WTs_mk (show WTsU [.sl [.i .i64, .i .i64, .i .i64, .b]] _ from ⟨_, _, rfl, h2, rfl⟩)) (by simp only [bulkR_cons, bulkR_nil, bulk_l, bulk_i, bulk_b, bulk_s, Nat.add_zero, Nat.zero_add]; omega)
  simp only [List.cons_append, List.nil_append] at e1
  simp only [F_eqNet, p_eqNet, pl_ret, pl_pr, pl_cl, pl_ite, pl_go0, pl_goS, List.map_cons, List.map_nil, ev_k, ev_e, ev_a, List.cons_append, List.nil_append, List.append_assoc, List.getD_cons_zero, List.getD_cons_succ, bind_some', pickN, ifT_b, cond_true, cond_false, decide_true, decide_false, ev_len, ev_lens, ev_scl_i, ev_scl_b, ev_scl_s, ev_lss, ev_leq, ev_gtr, ev_geq, ev_eql, ev_neq, ev_add, ev_sub, ev_eqlS, ev_neqS, ev_bbneq, ev_bbeql, ev_not, Bool.not_true, Bool.not_false, bne_self_eq_false, beq_self_eq_true, s52, s53, e0, e1]
theorem so_szNearS : SzOk F_szNearS [.sl [.i .i64, .i .i64]] := szLen_ok (S := S_szNearS) (R := rounds) rfl
theorem so_szRecord : SzOk F_szRecord [.i .i64, .i .i64, .i .i64, .i .i64, .i .i64, .sl [.i .i64, .i .i64], .i .i64, .b] := by
  intro ts l ht h_0 h_1
  obtain ⟨_, _, rfl, ⟨x0, rfl, w0⟩, _, _, rfl, ⟨x1, rfl, w1⟩, _, _, rfl, ⟨x2, rfl, w2⟩, _, _, rfl, ⟨x3, rfl, w3⟩, _, _, rfl, ⟨x4, rfl, w4⟩, t5, _, rfl, h5, _, _, rfl, ⟨x6, rfl, w6⟩, _, _, rfl, ⟨x7, rfl⟩, rfl⟩ := WTsU_of ht
  have s76 : S_szRecord 76 = F_szNearS := rfl
  obtain ⟨n0, e0, b0, c0⟩ := so_szNearS [t5] l (WTs_mk (show WTsU [.sl [.i .i64, .i .i64]] _ from ⟨_, _, rfl, h5, rfl⟩)) (by omega) (by omega)
  simp only [List.cons_append, List.nil_append, bulkR_cons, bulkR_nil, bulk_l, bulk_i, bulk_b, bulk_s, Nat.add_zero, Nat.zero_add] at e0 c0
  by_cases g0 : n0 < 0
  · exact ⟨-1, by simp only [F_szRecord, p_szRecord, pl_ret, pl_pr, pl_cl, pl_ite, pl_go0, pl_goS, List.map_cons, List.map_nil, ev_k, ev_e, ev_a, List.cons_append, List.nil_append, List.append_assoc, List.getD_cons_zero, List.getD_cons_succ, bind_some', pickN, ifT_b, cond_true, cond_false, decide_true, decide_false, ev_len, ev_lens, ev_scl_i, ev_scl_b, ev_scl_s, ev_lss, ev_leq, ev_gtr, ev_geq, ev_eql, ev_neq, ev_add, ev_sub, ev_eqlS, ev_neqS, ev_bbneq, ev_bbeql, ev_not, Bool.not_true, Bool.not_false, bne_self_eq_false, beq_self_eq_true, s76, e0, g0], by omega, by omega⟩
  refine ⟨n0, by simp only [F_szRecord, p_szRecord, pl_ret, pl_pr, pl_cl, pl_ite, pl_go0, pl_goS, List.map_cons, List.map_nil, ev_k, ev_e, ev_a, List.cons_append, List.nil_append, List.append_assoc, List.getD_cons_zero, List.getD_cons_succ, bind_some', pickN, ifT_b, cond_true, cond_false, decide_true, decide_false, ev_len, ev_lens, ev_scl_i, ev_scl_b, ev_scl_s, ev_lss, ev_leq, ev_gtr, ev_geq, ev_eql, ev_neq, ev_add, ev_sub, ev_eqlS, ev_neqS, ev_bbneq, ev_bbeql, ev_not, Bool.not_true, Bool.not_false, bne_self_eq_false, beq_self_eq_true, s76, e0, g0], by omega, fun _ => ?_⟩
  simp only [bulkR_cons, bulkR_nil, bulk_l, bulk_i, bulk_b, bulk_s, Nat.add_zero, Nat.zero_add]
  have := c0 (by omega)
  omega
theorem so_szRecordS : SzOk F_szRecordS [.sl [.i .i64, .i .i64, .i .i64, .i .i64, .i .i64, .sl [.i .i64, .i .i64], .i .i64, .b]] := szSli_ok (S := S_szRecordS) (w := 8) (g := 54) rfl so_szRecord
theorem so_toNear : ToOk F_toNear [.i .i64, .i .i64] := by
  intro ts ht hb
  obtain ⟨_, _, rfl, ⟨x0, rfl, w0⟩, _, _, rfl, ⟨x1, rfl, w1⟩, rfl⟩ := WTsU_of ht
  simp only [bulkR_cons, bulkR_nil, bulk_l, bulk_i, bulk_b, bulk_s, Nat.add_zero, Nat.zero_add] at hb
  simp only [F_toNear, p_toNear, pl_ret, pl_pr, pl_cl, pl_ite, pl_go0, pl_goS, List.map_cons, List.map_nil, ev_k, ev_e, ev_a, List.cons_append, List.nil_append, List.append_assoc, List.getD_cons_zero, List.getD_cons_succ, bind_some', pickN, ifT_b, cond_true, cond_false, decide_true, decide_false, ev_len, ev_lens, ev_scl_i, ev_scl_b, ev_scl_s, ev_lss, ev_leq, ev_gtr, ev_geq, ev_eql, ev_neq, ev_add, ev_sub, ev_eqlS, ev_neqS, ev_bbneq, ev_bbeql, ev_not, Bool.not_true, Bool.not_false, bne_self_eq_false, beq_self_eq_true]
theorem so_toNearS : ToOk F_toNearS [.sl [.i .i64, .i .i64]] := toSli_ok (S := S_toNearS) (w := 2) (g := 83) (zs := [.k (.int .i64 0), .k (.int .i64 0)]) (st := .put true 2 0 2) rfl so_toNear rfl rfl (fun xs i z vs => st_put (fs := [.i .i64, .i .i64]) (w := 2) rfl rfl xs i z vs)
theorem so_toRecord : ToOk F_toRecord [.i .i64, .i .i64, .i .i64, .i .i64, .i .i64, .sl [.i .i64, .i .i64], .i .i64, .b] := by
  intro ts ht hb
  obtain ⟨_, _, rfl, ⟨x0, rfl, w0⟩, _, _, rfl, ⟨x1, rfl, w1⟩, _, _, rfl, ⟨x2, rfl, w2⟩, _, _, rfl, ⟨x3, rfl, w3⟩, _, _, rfl, ⟨x4, rfl, w4⟩, t5, _, rfl, h5, _, _, rfl, ⟨x6, rfl, w6⟩, _, _, rfl, ⟨x7, rfl⟩, rfl⟩ := WTsU_of ht
  simp only [bulkR_cons, bulkR_nil, bulk_l, bulk_i, bulk_b, bulk_s, Nat.add_zero, Nat.zero_add] at hb
  have s78 : S_toRecord 78 = F_toNearS := rfl
  have e0 := so_toNearS [t5] (WTs_mk (show WTsU [.sl [.i .i64, .i .i64]] _ from ⟨_, _, rfl, h5, rfl⟩)) (by simp only [bulkR_cons, bulkR_nil, bulk_l, bulk_i, bulk_b, bulk_s, Nat.add_zero, Nat.zero_add]; omega)
  simp only [F_toRecord, p_toRecord, pl_ret, pl_pr, pl_cl, pl_ite, pl_go0, pl_goS, List.map_cons, List.map_nil, ev_k, ev_e, ev_a, List.cons_append, List.nil_append, List.append_assoc, List.getD_cons_zero, List.getD_cons_succ, bind_some', pickN, ifT_b, cond_true, cond_false, decide_true, decide_false, ev_len, ev_lens, ev_scl_i, ev_scl_b, ev_scl_s, ev_lss, ev_leq, ev_gtr, ev_geq, ev_eql, ev_neq, ev_add, ev_sub, ev_eqlS, ev_neqS, ev_bbneq, ev_bbeql, ev_not, Bool.not_true, Bool.not_false, bne_self_eq_false, beq_self_eq_true, s78, e0]
theorem so_toRecordS : ToOk F_toRecordS [.sl [.i .i64, .i .i64, .i .i64, .i .i64, .i .i64, .sl [.i .i64, .i .i64], .i .i64, .b]] := toSli_ok (S := S_toRecordS) (w := 8) (g := 56) (zs := [.k (.int .i64 0), .k (.int .i64 0), .k (.int .i64 0), .k (.int .i64 0), .k (.int .i64 0), .e, .k (.int .i64 0), .k (.bool false)]) (st := .putD [true, true, true, true, true, false, true, true] 8 0) rfl so_toRecord rfl rfl (fun xs i z vs => st_putD (fs := [.i .i64, .i .i64, .i .i64, .i .i64, .i .i64, .sl [.i .i64, .i .i64], .i .i64, .b]) (w := 8) rfl rfl xs i z vs)
theorem so_eqNear : EqOk F_eqNear [.i .i64, .i .i64] := by
  intro ts ht hb
  obtain ⟨_, _, rfl, ⟨x0, rfl, w0⟩, _, _, rfl, ⟨x1, rfl, w1⟩, rfl⟩ := WTsU_of ht
  simp only [bulkR_cons, bulkR_nil, bulk_l, bulk_i, bulk_b, bulk_s, Nat.add_zero, Nat.zero_add] at hb
  simp only [F_eqNear, p_eqNear, pl_ret, pl_pr, pl_cl, pl_ite, pl_go0, pl_goS, List.map_cons, List.map_nil, ev_k, ev_e, ev_a, List.cons_append, List.nil_append, List.append_assoc, List.getD_cons_zero, List.getD_cons_succ, bind_some', pickN, ifT_b, cond_true, cond_false, decide_true, decide_false, ev_len, ev_lens, ev_scl_i, ev_scl_b, ev_scl_s, ev_lss, ev_leq, ev_gtr, ev_geq, ev_eql, ev_neq, ev_add, ev_sub, ev_eqlS, ev_neqS, ev_bbneq, ev_bbeql, ev_not, Bool.not_true, Bool.not_false, bne_self_eq_false, beq_self_eq_true]
theorem so_eqNearS : EqOk F_eqNearS [.sl [.i .i64, .i .i64]] := eqSli_ok (S := S_eqNearS) (w := 2) (g := 84) rfl so_eqNear
theorem so_eqRecord : EqOk F_eqRecord [.i .i64, .i .i64, .i .i64, .i .i64, .i .i64, .sl [.i .i64, .i .i64], .i .i64, .b] := by
  intro ts ht hb
  obtain ⟨_, _, rfl, ⟨x0, rfl, w0⟩, _, _, rfl, ⟨x1, rfl, w1⟩, _, _, rfl, ⟨x2, rfl, w2⟩, _, _, rfl, ⟨x3, rfl, w3⟩, _, _, rfl, ⟨x4, rfl, w4⟩, t5, _, rfl, h5, _, _, rfl, ⟨x6, rfl, w6⟩, _, _, rfl, ⟨x7, rfl⟩, rfl⟩ := WTsU_of ht
  simp only [bulkR_cons, bulkR_nil, bulk_l, bulk_i, bulk_b, bulk_s, Nat.add_zero, Nat.zero_add] at hb
  have s80 : S_eqRecord 80 = F_eqNearS := rfl
  have e0 := so_eqNearS [t5] (WTs_mk (show WTsU [.sl [.i .i64, .i .i64]] _ from ⟨_, _, rfl, h5, rfl⟩)) (by simp only [bulkR_cons, bulkR_nil, bulk_l, bulk_i, bulk_b, bulk_s, Nat.add_zero, Nat.zero_add]; omega)
  simp only [List.cons_append, List.nil_append] at e0
  simp only [F_eqRecord, p_eqRecord, pl_ret, pl_pr, pl_cl, pl_ite, pl_go0, pl_goS, List.map_cons, List.map_nil, ev_k, ev_e, ev_a, List.cons_append, List.nil_append, List.append_assoc, List.getD_cons_zero, List.getD_cons_succ, bind_some', pickN, ifT_b, cond_true, cond_false, decide_true, decide_false, ev_len, ev_lens, ev_scl_i, ev_scl_b, ev_scl_s, ev_lss, ev_leq, ev_gtr, ev_geq, ev_eql, ev_neq, ev_add, ev_sub, ev_eqlS, ev_neqS, ev_bbneq, ev_bbeql, ev_not, Bool.not_true, Bool.not_false, bne_self_eq_false, beq_self_eq_true, s80, e0]
theorem so_eqRecordS : EqOk F_eqRecordS [.sl [.i .i64, .i .i64, .i .i64, .i .i64, .i .i64, .sl [.i .i64, .i .i64], .i .i64, .b]] := eqSli_ok (S := S_eqRecordS) (w := 8) (g := 58) rfl so_eqRecord
theorem so_szIntS : SzOk F_szIntS [.sl [.i .i64]] := szLen_ok (S := S_szIntS) (R := rounds) rfl
theorem so_szRoute : SzOk F_szRoute [.b, .i .i64, .i .i64, .i .i64, .i .i64, .sl [.i .i64]] := by
  intro ts l ht h_0 h_1
  obtain ⟨_, _, rfl, ⟨x0, rfl⟩, _, _, rfl, ⟨x1, rfl, w1⟩, _, _, rfl, ⟨x2, rfl, w2⟩, _, _, rfl, ⟨x3, rfl, w3⟩, _, _, rfl, ⟨x4, rfl, w4⟩, t5, _, rfl, h5, rfl⟩ := WTsU_of ht
  have s81 : S_szRoute 81 = F_szIntS := rfl
  obtain ⟨n0, e0, b0, c0⟩ := so_szIntS [t5] l (WTs_mk (show WTsU [.sl [.i .i64]] _ from ⟨_, _, rfl, h5, rfl⟩)) (by omega) (by omega)
  simp only [List.cons_append, List.nil_append, bulkR_cons, bulkR_nil, bulk_l, bulk_i, bulk_b, bulk_s, Nat.add_zero, Nat.zero_add] at e0 c0
  by_cases g0 : n0 < 0
  · exact ⟨-1, by simp only [F_szRoute, p_szRoute, pl_ret, pl_pr, pl_cl, pl_ite, pl_go0, pl_goS, List.map_cons, List.map_nil, ev_k, ev_e, ev_a, List.cons_append, List.nil_append, List.append_assoc, List.getD_cons_zero, List.getD_cons_succ, bind_some', pickN, ifT_b, cond_true, cond_false, decide_true, decide_false, ev_len, ev_lens, ev_scl_i, ev_scl_b, ev_scl_s, ev_lss, ev_leq, ev_gtr, ev_geq, ev_eql, ev_neq, ev_add, ev_sub, ev_eqlS, ev_neqS, ev_bbneq, ev_bbeql, ev_not, Bool.not_true, Bool.not_false, bne_self_eq_false, beq_self_eq_true, s81, e0, g0], by omega, by omega⟩
  refine ⟨n0, by simp only [F_szRoute, p_szRoute, pl_ret, pl_pr, pl_cl, pl_ite, pl_go0, pl_goS, List.map_cons, List.map_nil, ev_k, ev_e, ev_a, List.cons_append, List.nil_append, List.append_assoc, List.getD_cons_zero, List.getD_cons_succ, bind_some', pickN, ifT_b, cond_true, cond_false, decide_true, decide_false, ev_len, ev_lens, ev_scl_i, ev_scl_b, ev_scl_s, ev_lss, ev_leq, ev_gtr, ev_geq, ev_eql, ev_neq, ev_add, ev_sub, ev_eqlS, ev_neqS, ev_bbneq, ev_bbeql, ev_not, Bool.not_true, Bool.not_false, bne_self_eq_false, beq_self_eq_true, s81, e0, g0], by omega, fun _ => ?_⟩
  simp only [bulkR_cons, bulkR_nil, bulk_l, bulk_i, bulk_b, bulk_s, Nat.add_zero, Nat.zero_add]
  have := c0 (by omega)
  omega
theorem so_szRouteS : SzOk F_szRouteS [.sl [.b, .i .i64, .i .i64, .i .i64, .i .i64, .sl [.i .i64]]] := szSli_ok (S := S_szRouteS) (w := 6) (g := 61) rfl so_szRoute
theorem so_toIntS : ToOk F_toIntS [.sl [.i .i64]] := toScl_ok (S := S_toIntS) (z := .k (.int .i64 0)) rfl rfl
theorem so_toRoute : ToOk F_toRoute [.b, .i .i64, .i .i64, .i .i64, .i .i64, .sl [.i .i64]] := by
  intro ts ht hb
  obtain ⟨_, _, rfl, ⟨x0, rfl⟩, _, _, rfl, ⟨x1, rfl, w1⟩, _, _, rfl, ⟨x2, rfl, w2⟩, _, _, rfl, ⟨x3, rfl, w3⟩, _, _, rfl, ⟨x4, rfl, w4⟩, t5, _, rfl, h5, rfl⟩ := WTsU_of ht
  simp only [bulkR_cons, bulkR_nil, bulk_l, bulk_i, bulk_b, bulk_s, Nat.add_zero, Nat.zero_add] at hb
  have s23 : S_toRoute 23 = F_toIntS := rfl
  have e0 := so_toIntS [t5] (WTs_mk (show WTsU [.sl [.i .i64]] _ from ⟨_, _, rfl, h5, rfl⟩)) (by simp only [bulkR_cons, bulkR_nil, bulk_l, bulk_i, bulk_b, bulk_s, Nat.add_zero, Nat.zero_add]; omega)
  simp only [F_toRoute, p_toRoute, pl_ret, pl_pr, pl_cl, pl_ite, pl_go0, pl_goS, List.map_cons, List.map_nil, ev_k, ev_e, ev_a, List.cons_append, List.nil_append, List.append_assoc, List.getD_cons_zero, List.getD_cons_succ, bind_some', pickN, ifT_b, cond_true, cond_false, decide_true, decide_false, ev_len, ev_lens, ev_scl_i, ev_scl_b, ev_scl_s, ev_lss, ev_leq, ev_gtr, ev_geq, ev_eql, ev_neq, ev_add, ev_sub, ev_eqlS, ev_neqS, ev_bbneq, ev_bbeql, ev_not, Bool.not_true, Bool.not_false, bne_self_eq_false, beq_self_eq_true, s23, e0]
theorem so_toRouteS : ToOk F_toRouteS [.sl [.b, .i .i64, .i .i64, .i .i64, .i .i64, .sl [.i .i64]]] := toSli_ok (S := S_toRouteS) (w := 6) (g := 63) (zs := [.k (.bool false), .k (.int .i64 0), .k (.int .i64 0), .k (.int .i64 0), .k (.int .i64 0), .e]) (st := .putD [true, true, true, true, true, false] 6 0) rfl so_toRoute rfl rfl (fun xs i z vs => st_putD (fs := [.b, .i .i64, .i .i64, .i .i64, .i .i64, .sl [.i .i64]]) (w := 6) rfl rfl xs i z vs)
theorem so_eqIntS : EqOk F_eqIntS [.sl [.i .i64]] := eqScl_ok (S := S_eqIntS) (op := .bin .neq) neq_i
theorem so_eqLine : EqOk F_eqLine [.b, .i .i64, .sl [.i .i64]] := by
  intro ts ht hb
  obtain ⟨_, _, rfl, ⟨x0, rfl⟩, _, _, rfl, ⟨x1, rfl, w1⟩, t2, _, rfl, h2, rfl⟩ := WTsU_of ht
  simp only [bulkR_cons, bulkR_nil, bulk_l, bulk_i, bulk_b, bulk_s, Nat.add_zero, Nat.zero_add] at hb
  have s25 : S_eqLine 25 = F_eqIntS := rfl
  have e0 := so_eqIntS [t2] (WTs_mk (show WTsU [.sl [.i .i64]] _ from ⟨_, _, rfl, h2, rfl⟩)) (by simp only [bulkR_cons, bulkR_nil, bulk_l, bulk_i, bulk_b, bulk_s, Nat.add_zero, Nat.zero_add]; omega)
  simp only [List.cons_append, List.nil_append] at e0
  simp only [F_eqLine, p_eqLine, pl_ret, pl_pr, pl_cl, pl_ite, pl_go0, pl_goS, List.map_cons, List.map_nil, ev_k, ev_e, ev_a, List.cons_append, List.nil_append, List.append_assoc, List.getD_cons_zero, List.getD_cons_succ, bind_some', pickN, ifT_b, cond_true, cond_false, decide_true, decide_false, ev_len, ev_lens, ev_scl_i, ev_scl_b, ev_scl_s, ev_lss, ev_leq, ev_gtr, ev_geq, ev_eql, ev_neq, ev_add, ev_sub, ev_eqlS, ev_neqS, ev_bbneq, ev_bbeql, ev_not, Bool.not_true, Bool.not_false, bne_self_eq_false, beq_self_eq_true, s25, e0]
theorem so_eqLineS : EqOk F_eqLineS [.sl [.b, .i .i64, .sl [.i .i64]]] := eqSli_ok (S := S_eqLineS) (w := 3) (g := 65) rfl so_eqLine
theorem so_eqRoute : EqOk F_eqRoute [.b, .i .i64, .i .i64, .i .i64, .i .i64, .sl [.i .i64]] := by
  intro ts ht hb
  obtain ⟨_, _, rfl, ⟨x0, rfl⟩, _, _, rfl, ⟨x1, rfl, w1⟩, _, _, rfl, ⟨x2, rfl, w2⟩, _, _, rfl, ⟨x3, rfl, w3⟩, _, _, rfl, ⟨x4, rfl, w4⟩, t5, _, rfl, h5, rfl⟩ := WTsU_of ht
  simp only [bulkR_cons, bulkR_nil, bulk_l, bulk_i, bulk_b, bulk_s, Nat.add_zero, Nat.zero_add] at hb
  have s25 : S_eqRoute 25 = F_eqIntS := rfl
  have e0 := so_eqIntS [t5] (WTs_mk (show WTsU [.sl [.i .i64]] _ from ⟨_, _, rfl, h5, rfl⟩)) (by simp only [bulkR_cons, bulkR_nil, bulk_l, bulk_i, bulk_b, bulk_s, Nat.add_zero, Nat.zero_add]; omega)
  simp only [List.cons_append, List.nil_append] at e0
  simp only [F_eqRoute, p_eqRoute, pl_ret, pl_pr, pl_cl, pl_ite, pl_go0, pl_goS, List.map_cons, List.map_nil, ev_k, ev_e, ev_a, List.cons_append, List.nil_append, List.append_assoc, List.getD_cons_zero, List.getD_cons_succ, bind_some', pickN, ifT_b, cond_true, cond_false, decide_true, decide_false, ev_len, ev_lens, ev_scl_i, ev_scl_b, ev_scl_s, ev_lss, ev_leq, ev_gtr, ev_geq, ev_eql, ev_neq, ev_add, ev_sub, ev_eqlS, ev_neqS, ev_bbneq, ev_bbeql, ev_not, Bool.not_true, Bool.not_false, bne_self_eq_false, beq_self_eq_true, s25, e0]
theorem so_eqRouteS : EqOk F_eqRouteS [.sl [.b, .i .i64, .i .i64, .i .i64, .i .i64, .sl [.i .i64]]] := eqSli_ok (S := S_eqRouteS) (w := 6) (g := 66) rfl so_eqRoute
theorem so_heldIntS : HeldOk F_heldIntS [.sl [.i .i64]] := held_ok (S := S_heldIntS) (fs := [.i .i64]) (gs := []) (trivial) rfl
theorem so_heldLineS : HeldOk F_heldLineS [.sl [.b, .i .i64, .sl [.i .i64]]] := held_ok (S := S_heldLineS) (fs := [.b, .i .i64, .sl [.i .i64]]) (gs := [29]) (And.intro so_heldIntS (trivial)) rfl
theorem so_szLine : SzOk F_szLine [.b, .i .i64, .sl [.i .i64]] := by
  intro ts l ht h_0 h_1
  obtain ⟨_, _, rfl, ⟨x0, rfl⟩, _, _, rfl, ⟨x1, rfl, w1⟩, t2, _, rfl, h2, rfl⟩ := WTsU_of ht
  have s81 : S_szLine 81 = F_szIntS := rfl
  obtain ⟨n0, e0, b0, c0⟩ := so_szIntS [t2] l (WTs_mk (show WTsU [.sl [.i .i64]] _ from ⟨_, _, rfl, h2, rfl⟩)) (by omega) (by omega)
  simp only [List.cons_append, List.nil_append, bulkR_cons, bulkR_nil, bulk_l, bulk_i, bulk_b, bulk_s, Nat.add_zero, Nat.zero_add] at e0 c0
  by_cases g0 : n0 < 0
  · exact ⟨-1, by simp only [F_szLine, p_szLine, pl_ret, pl_pr, pl_cl, pl_ite, pl_go0, pl_goS, List.map_cons, List.map_nil, ev_k, ev_e, ev_a, List.cons_append, List.nil_append, List.append_assoc, List.getD_cons_zero, List.getD_cons_succ, bind_some', pickN, ifT_b, cond_true, cond_false, decide_true, decide_false, ev_len, ev_lens, ev_scl_i, ev_scl_b, ev_scl_s, ev_lss, ev_leq, ev_gtr, ev_geq, ev_eql, ev_neq, ev_add, ev_sub, ev_eqlS, ev_neqS, ev_bbneq, ev_bbeql, ev_not, Bool.not_true, Bool.not_false, bne_self_eq_false, beq_self_eq_true, s81, e0, g0], by omega, by omega⟩
  refine ⟨n0, by simp only [F_szLine, p_szLine, pl_ret, pl_pr, pl_cl, pl_ite, pl_go0, pl_goS, List.map_cons, List.map_nil, ev_k, ev_e, ev_a, List.cons_append, List.nil_append, List.append_assoc, List.getD_cons_zero, List.getD_cons_succ, bind_some', pickN, ifT_b, cond_true, cond_false, decide_true, decide_false, ev_len, ev_lens, ev_scl_i, ev_scl_b, ev_scl_s, ev_lss, ev_leq, ev_gtr, ev_geq, ev_eql, ev_neq, ev_add, ev_sub, ev_eqlS, ev_neqS, ev_bbneq, ev_bbeql, ev_not, Bool.not_true, Bool.not_false, bne_self_eq_false, beq_self_eq_true, s81, e0, g0], by omega, fun _ => ?_⟩
  simp only [bulkR_cons, bulkR_nil, bulk_l, bulk_i, bulk_b, bulk_s, Nat.add_zero, Nat.zero_add]
  have := c0 (by omega)
  omega
theorem so_szLineS : SzOk F_szLineS [.sl [.b, .i .i64, .sl [.i .i64]]] := szSli_ok (S := S_szLineS) (w := 3) (g := 67) rfl so_szLine
theorem so_toLine : ToOk F_toLine [.b, .i .i64, .sl [.i .i64]] := by
  intro ts ht hb
  obtain ⟨_, _, rfl, ⟨x0, rfl⟩, _, _, rfl, ⟨x1, rfl, w1⟩, t2, _, rfl, h2, rfl⟩ := WTsU_of ht
  simp only [bulkR_cons, bulkR_nil, bulk_l, bulk_i, bulk_b, bulk_s, Nat.add_zero, Nat.zero_add] at hb
  have s23 : S_toLine 23 = F_toIntS := rfl
  have e0 := so_toIntS [t2] (WTs_mk (show WTsU [.sl [.i .i64]] _ from ⟨_, _, rfl, h2, rfl⟩)) (by simp only [bulkR_cons, bulkR_nil, bulk_l, bulk_i, bulk_b, bulk_s, Nat.add_zero, Nat.zero_add]; omega)
  simp only [F_toLine, p_toLine, pl_ret, pl_pr, pl_cl, pl_ite, pl_go0, pl_goS, List.map_cons, List.map_nil, ev_k, ev_e, ev_a, List.cons_append, List.nil_append, List.append_assoc, List.getD_cons_zero, List.getD_cons_succ, bind_some', pickN, ifT_b, cond_true, cond_false, decide_true, decide_false, ev_len, ev_lens, ev_scl_i, ev_scl_b, ev_scl_s, ev_lss, ev_leq, ev_gtr, ev_geq, ev_eql, ev_neq, ev_add, ev_sub, ev_eqlS, ev_neqS, ev_bbneq, ev_bbeql, ev_not, Bool.not_true, Bool.not_false, bne_self_eq_false, beq_self_eq_true, s23, e0]
theorem so_toLineS : ToOk F_toLineS [.sl [.b, .i .i64, .sl [.i .i64]]] := toSli_ok (S := S_toLineS) (w := 3) (g := 69) (zs := [.k (.bool false), .k (.int .i64 0), .e]) (st := .putD [true, true, false] 3 0) rfl so_toLine rfl rfl (fun xs i z vs => st_putD (fs := [.b, .i .i64, .sl [.i .i64]]) (w := 3) rfl rfl xs i z vs)
theorem so_eqTurn : EqOk F_eqTurn [.b, .b, .i .i64, .sl [.i .i64]] := by
  intro ts ht hb
  obtain ⟨_, _, rfl, ⟨x0, rfl⟩, _, _, rfl, ⟨x1, rfl⟩, _, _, rfl, ⟨x2, rfl, w2⟩, t3, _, rfl, h3, rfl⟩ := WTsU_of ht
  simp only [bulkR_cons, bulkR_nil, bulk_l, bulk_i, bulk_b, bulk_s, Nat.add_zero, Nat.zero_add] at hb
  have s65 : S_eqTurn 65 = F_eqLine := rfl
  have e0 := so_eqLine [.c (.bool x1), .c (.int .i64 x2), t3] (WTs_mk (show WTsU [.b, .i .i64, .sl [.i .i64]] _ from ⟨_, _, rfl, ⟨_, rfl⟩, _, _, rfl, ⟨_, rfl, w2⟩, _, _, rfl, h3, rfl⟩)) (by simp only [bulkR_cons, bulkR_nil, bulk_l, bulk_i, bulk_b, bulk_s, Nat.add_zero, Nat.zero_add]; omega)
  simp only [List.cons_append, List.nil_append] at e0
  simp only [F_eqTurn, p_eqTurn, pl_ret, pl_pr, pl_cl, pl_ite, pl_go0, pl_goS, List.map_cons, List.map_nil, ev_k, ev_e, ev_a, List.cons_append, List.nil_append, List.append_assoc, List.getD_cons_zero, List.getD_cons_succ, bind_some', pickN, ifT_b, cond_true, cond_false, decide_true, decide_false, ev_len, ev_lens, ev_scl_i, ev_scl_b, ev_scl_s, ev_lss, ev_leq, ev_gtr, ev_geq, ev_eql, ev_neq, ev_add, ev_sub, ev_eqlS, ev_neqS, ev_bbneq, ev_bbeql, ev_not, Bool.not_true, Bool.not_false, bne_self_eq_false, beq_self_eq_true, s65, e0]
theorem so_eqTurnS : EqOk F_eqTurnS [.sl [.b, .b, .i .i64, .sl [.i .i64]]] := eqSli_ok (S := S_eqTurnS) (w := 4) (g := 71) rfl so_eqTurn
theorem so_heldTurnS : HeldOk F_heldTurnS [.sl [.b, .b, .i .i64, .sl [.i .i64]]] := held_ok (S := S_heldTurnS) (fs := [.b, .b, .i .i64, .sl [.i .i64]]) (gs := [29]) (And.intro so_heldIntS (trivial)) rfl
theorem so_szLineSS : SzOk F_szLineSS [.sl [.sl [.b, .i .i64, .sl [.i .i64]]]] := szSli_ok (S := S_szLineSS) (w := 1) (g := 39) rfl so_szLineS
theorem so_toLineSS : ToOk F_toLineSS [.sl [.sl [.b, .i .i64, .sl [.i .i64]]]] := toSli_ok (S := S_toLineSS) (w := 1) (g := 41) (zs := [.e]) (st := .putD [false] 1 0) rfl so_toLineS rfl rfl (fun xs i z vs => st_putD (fs := [.sl [.b, .i .i64, .sl [.i .i64]]]) (w := 1) rfl rfl xs i z vs)
theorem so_eqLineSS : EqOk F_eqLineSS [.sl [.sl [.b, .i .i64, .sl [.i .i64]]]] := eqSli_ok (S := S_eqLineSS) (w := 1) (g := 34) rfl so_eqLineS
end Go.Proofs.YtmljdpfdpeiniaaC
