/- FnExactEventOk: what the plain programs say. Conditions: none. -/
import Derived.Test.YtmljdpfdpeiniaaXmA
namespace Go.Proofs.YtmljdpfdpeiniaaC
set_option linter.unusedVariables false
set_option linter.unusedSimpArgs false

def ys_FnExactEventOk : List Ty := [.i .i64, .sl [.i .i64, .i .i64, .i .i64, .i .i64], .sl [.i .i64, .i .i64, .i .i64, .b], .i .i64, .i .i64, .i .i64, .s]

theorem eo_in (a b c : Int) : F_i_in [.c (.int .i64 a), .c (.int .i64 b), .c (.int .i64 c)] = some [.c (.bool (decide (a ≥ b) && decide (a ≤ c)))] := by
  by_cases h : a ≥ b <;> simp only [F_i_in, p_i_in, pl_ret, pl_pr, pl_cl, pl_ite, pl_go0, pl_goS, List.map_cons, List.map_nil, ev_k, ev_e, ev_a, List.cons_append, List.nil_append, List.append_assoc, List.getD_cons_zero, List.getD_cons_succ, bind_some', pickN, ifT_b, cond_true, cond_false, decide_true, decide_false, ev_len, ev_lens, ev_scl_i, ev_scl_b, ev_scl_s, ev_lss, ev_leq, ev_gtr, ev_geq, ev_eql, ev_neq, ev_add, ev_sub, ev_eqlS, ev_neqS, ev_bbneq, ev_bbeql, ev_not, Bool.not_true, Bool.not_false, bne_self_eq_false, beq_self_eq_true, h, Bool.true_and, Bool.false_and]

theorem eo_l01 (a b c : Int) : F_s_l01In [.c (.int .i64 a), .c (.int .i64 b), .c (.int .i64 c)] = some [.c (.bool (decide (a ≥ b) && decide (a ≤ c)))] := by
  by_cases h : a ≥ b <;> simp only [F_s_l01In, p_s_l01In, pl_ret, pl_pr, pl_cl, pl_ite, pl_go0, pl_goS, List.map_cons, List.map_nil, ev_k, ev_e, ev_a, List.cons_append, List.nil_append, List.append_assoc, List.getD_cons_zero, List.getD_cons_succ, bind_some', pickN, ifT_b, cond_true, cond_false, decide_true, decide_false, ev_len, ev_lens, ev_scl_i, ev_scl_b, ev_scl_s, ev_lss, ev_leq, ev_gtr, ev_geq, ev_eql, ev_neq, ev_add, ev_sub, ev_eqlS, ev_neqS, ev_bbneq, ev_bbeql, ev_not, Bool.not_true, Bool.not_false, bne_self_eq_false, beq_self_eq_true, h, Bool.true_and, Bool.false_and]

theorem eo_same (x : Int) (t1 t2 : T) (k n d : Int) (s : ByteArray) : ∃ b, F_i_EventOk [.c (.int .i64 x), t1, t2, .c (.int .i64 k), .c (.int .i64 n), .c (.int .i64 d), .c (.string s)] = some [.c (.bool b)] ∧
    F_s_EventOk [.c (.int .i64 x), t1, t2, .c (.int .i64 k), .c (.int .i64 n), .c (.int .i64 d), .c (.string s)] = some [.c (.bool b)] := by
  have e1 : S_i_EventOk 51 = F_i_in := rfl
  have e2 : S_s_EventOk 48 = F_s_l01In := rfl
  simp only [F_i_EventOk, F_s_EventOk, p_i_EventOk, p_s_EventOk, pl_ret, pl_pr, pl_cl, pl_ite, pl_go0, pl_goS, List.map_cons, List.map_nil, ev_k, ev_e, ev_a, List.cons_append, List.nil_append, List.append_assoc, List.getD_cons_zero, List.getD_cons_succ, bind_some', pickN, ifT_b, cond_true, cond_false, decide_true, decide_false, ev_len, ev_lens, ev_scl_i, ev_scl_b, ev_scl_s, ev_lss, ev_leq, ev_gtr, ev_geq, ev_eql, ev_neq, ev_add, ev_sub, ev_eqlS, ev_neqS, ev_bbneq, ev_bbeql, ev_not, Bool.not_true, Bool.not_false, bne_self_eq_false, beq_self_eq_true, e1, e2, eo_in, eo_l01]
  generalize (decide (k ≥ 1) && decide (k ≤ 9)) = b1
  generalize decide (d ≥ 0) = b2
  generalize (decide (n ≥ 1) && decide (n ≤ x)) = b3
  generalize decide ((s.size : Int) ≤ 200) = b4
  generalize (s.toList == (ByteArray.mk #[]).toList) = b5
  generalize (k == 9) = b6
  cases b1 <;> cases b2 <;> cases b3 <;> cases b4 <;> cases b5 <;> cases b6 <;> exact ⟨_, rfl, rfl⟩

theorem true_FnExactEventOk (ts : List T) (h : WTs ys_FnExactEventOk ts) : F_FnExactEventOk ts = some [.c (.bool true)] := by
  obtain ⟨_, _, rfl, ⟨x0, rfl, w0⟩, t1, _, rfl, h1, t2, _, rfl, h2, _, _, rfl, ⟨x3, rfl, w3⟩, _, _, rfl, ⟨x4, rfl, w4⟩, _, _, rfl, ⟨x5, rfl, w5⟩, _, _, rfl, ⟨x6, rfl, w6⟩, rfl⟩ := WTsU_of h
  have g1 : WTs [.i .i64, .sl [.i .i64, .i .i64, .i .i64, .i .i64], .sl [.i .i64, .i .i64, .i .i64, .b]] [.c (.int .i64 x0), t1, t2] := WTs_mk ⟨_, _, rfl, ⟨_, rfl, w0⟩, _, _, rfl, h1, _, _, rfl, h2, rfl⟩
  have g2 : WTs [.i .i64, .i .i64, .i .i64, .s] [.c (.int .i64 x3), .c (.int .i64 x4), .c (.int .i64 x5), .c (.string x6)] := WTs_mk ⟨_, _, rfl, ⟨_, rfl, w3⟩, _, _, rfl, ⟨_, rfl, w4⟩, _, _, rfl, ⟨_, rfl, w5⟩, _, _, rfl, ⟨_, rfl, w6⟩, rfl⟩
  obtain ⟨n1, e1, b1, c1⟩ := so_szNet _ 1048576 g1 (by omega) (by omega)
  simp only [List.cons_append, List.nil_append] at e1
  have s8 : S_FnExactEventOk 8 = F_szNet := rfl
  have s9 : S_FnExactEventOk 9 = F_szEvent := rfl
  have s10 : S_FnExactEventOk 10 = F_s_EventOk := rfl
  have s11 : S_FnExactEventOk 11 = F_toNet := rfl
  have s12 : S_FnExactEventOk 12 = F_toEvent := rfl
  have s13 : S_FnExactEventOk 13 = F_i_EventOk := rfl
  have s14 : S_FnExactEventOk 14 = F_eqNet := rfl
  by_cases q1 : n1 < 0
  · simp only [F_FnExactEventOk, p_FnExactEventOk, pl_ret, pl_pr, pl_cl, pl_ite, pl_go0, pl_goS, List.map_cons, List.map_nil, ev_k, ev_e, ev_a, List.cons_append, List.nil_append, List.append_assoc, List.getD_cons_zero, List.getD_cons_succ, bind_some', pickN, ifT_b, cond_true, cond_false, decide_true, decide_false, ev_len, ev_lens, ev_scl_i, ev_scl_b, ev_scl_s, ev_lss, ev_leq, ev_gtr, ev_geq, ev_eql, ev_neq, ev_add, ev_sub, ev_eqlS, ev_neqS, ev_bbneq, ev_bbeql, ev_not, Bool.not_true, Bool.not_false, bne_self_eq_false, beq_self_eq_true, s8, e1, q1]
  obtain ⟨n2, e2, b2, c2⟩ := so_szEvent _ n1 g2 (by omega) (by omega)
  simp only [List.cons_append, List.nil_append] at e2
  by_cases q2 : n2 < 0
  · simp only [F_FnExactEventOk, p_FnExactEventOk, pl_ret, pl_pr, pl_cl, pl_ite, pl_go0, pl_goS, List.map_cons, List.map_nil, ev_k, ev_e, ev_a, List.cons_append, List.nil_append, List.append_assoc, List.getD_cons_zero, List.getD_cons_succ, bind_some', pickN, ifT_b, cond_true, cond_false, decide_true, decide_false, ev_len, ev_lens, ev_scl_i, ev_scl_b, ev_scl_s, ev_lss, ev_leq, ev_gtr, ev_geq, ev_eql, ev_neq, ev_add, ev_sub, ev_eqlS, ev_neqS, ev_bbneq, ev_bbeql, ev_not, Bool.not_true, Bool.not_false, bne_self_eq_false, beq_self_eq_true, s8, s9, e1, e2, q1, q2]
  have c1 := c1 (by omega)
  have c2 := c2 (by omega)
  have e3 := so_toNet _ g1 (by omega)
  have e4 := so_toEvent _ g2 (by omega)
  have e5 := so_eqNet _ g1 (by omega)
  simp only [List.cons_append, List.nil_append] at e5
  obtain ⟨b, e6, e7⟩ := eo_same x0 t1 t2 x3 x4 x5 x6
  simp only [F_FnExactEventOk, p_FnExactEventOk, pl_ret, pl_pr, pl_cl, pl_ite, pl_go0, pl_goS, List.map_cons, List.map_nil, ev_k, ev_e, ev_a, List.cons_append, List.nil_append, List.append_assoc, List.getD_cons_zero, List.getD_cons_succ, bind_some', pickN, ifT_b, cond_true, cond_false, decide_true, decide_false, ev_len, ev_lens, ev_scl_i, ev_scl_b, ev_scl_s, ev_lss, ev_leq, ev_gtr, ev_geq, ev_eql, ev_neq, ev_add, ev_sub, ev_eqlS, ev_neqS, ev_bbneq, ev_bbeql, ev_not, Bool.not_true, Bool.not_false, bne_self_eq_false, beq_self_eq_true, s8, s9, s10, s11, s12, s13, s14, e1, e2, e3, e4, e5, e6, e7, q1, q2]

end Go.Proofs.YtmljdpfdpeiniaaC
