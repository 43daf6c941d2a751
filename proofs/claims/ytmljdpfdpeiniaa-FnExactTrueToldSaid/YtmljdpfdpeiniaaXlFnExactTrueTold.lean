/- FnExactTrueTold: what the plain programs say. Conditions: none. -/
import Derived.Test.YtmljdpfdpeiniaaXmA
import Derived.Test.YtmljdpfdpeiniaaKd
namespace Go.Proofs.YtmljdpfdpeiniaaC
set_option linter.unusedVariables false
set_option linter.unusedSimpArgs false

def tyNear : List Ty := [.i .i64, .i .i64]
def tyRec : List Ty := [.i .i64, .i .i64, .i .i64, .i .i64, .i .i64, .sl [.i .i64, .i .i64], .i .i64, .b]
def ys_FnExactTrueTold : List Ty := [.sl [.i .i64, .i .i64, .i .i64, .i .i64, .i .i64, .sl [.i .i64, .i .i64], .i .i64, .b], .sl [.i .i64, .i .i64, .i .i64, .i .i64, .i .i64, .sl [.i .i64, .i .i64], .i .i64, .b]]

theorem tt_key (a0 a1 a2 a3 a4 a6 b0 b1 b2 b3 b4 b6 : Int) (t u a7 b7 : T) : F_i_SameKey [.c (.int .i64 a0), .c (.int .i64 a1), .c (.int .i64 a2), .c (.int .i64 a3), .c (.int .i64 a4), t, .c (.int .i64 a6), a7,
    .c (.int .i64 b0), .c (.int .i64 b1), .c (.int .i64 b2), .c (.int .i64 b3), .c (.int .i64 b4), u, .c (.int .i64 b6), b7] = some [.c (.bool ((a0 == b0) && ((a1 == b1) && ((a2 == b2) && (a3 == b3)))))] := by
  cases h0 : a0 == b0 <;> cases h1 : a1 == b1 <;> cases h2 : a2 == b2 <;> simp only [F_i_SameKey, p_i_SameKey, pl_ret, pl_pr, pl_cl, pl_ite, pl_go0, pl_goS, List.map_cons, List.map_nil, ev_k, ev_e, ev_a, List.cons_append, List.nil_append, List.append_assoc, List.getD_cons_zero, List.getD_cons_succ, bind_some', pickN, ifT_b, cond_true, cond_false, decide_true, decide_false, ev_len, ev_lens, ev_scl_i, ev_scl_b, ev_scl_s, ev_lss, ev_leq, ev_gtr, ev_geq, ev_eql, ev_neq, ev_add, ev_sub, ev_eqlS, ev_neqS, ev_bbneq, ev_bbeql, ev_not, Bool.not_true, Bool.not_false, bne_self_eq_false, beq_self_eq_true, h0, h1, h2, Bool.true_and, Bool.false_and]

theorem tt_rows {r : List T} (h : WTs tyNear r) : ∃ a b, r = [.c (.int .i64 a), .c (.int .i64 b)] := by
  obtain ⟨_, _, rfl, ⟨a, rfl, _⟩, _, _, rfl, ⟨b, rfl, _⟩, rfl⟩ := WTsU_of h
  exact ⟨a, b, rfl⟩

theorem tt_body (r s : List T) (hr : WTs tyRec r) (hs : WTs tyRec s) (hb : bulkR r ≤ 1048576) : Both (F_i_SameBody (r ++ s)) (F_s_SameBody (r ++ s)) := by
  obtain ⟨_, _, rfl, ⟨a0, rfl, _⟩, _, _, rfl, ⟨a1, rfl, _⟩, _, _, rfl, ⟨a2, rfl, _⟩, _, _, rfl, ⟨a3, rfl, _⟩, _, _, rfl, ⟨a4, rfl, _⟩, t, _, rfl, ht, _, _, rfl, ⟨a6, rfl, _⟩, _, _, rfl, ⟨a7, rfl⟩, rfl⟩ := WTsU_of hr
  obtain ⟨_, _, rfl, ⟨b0, rfl, _⟩, _, _, rfl, ⟨b1, rfl, _⟩, _, _, rfl, ⟨b2, rfl, _⟩, _, _, rfl, ⟨b3, rfl, _⟩, _, _, rfl, ⟨b4, rfl, _⟩, u, _, rfl, hu, _, _, rfl, ⟨b6, rfl, _⟩, _, _, rfl, ⟨b7, rfl⟩, rfl⟩ := WTsU_of hs
  unfold WT at ht hu
  obtain ⟨xs, rfl, _, hx⟩ := ht
  obtain ⟨ys, rfl, _, hy⟩ := hu
  simp only [bulkR_cons, bulkR_nil, bulk_l, bulk_i, bulk_b, Nat.add_zero, Nat.zero_add] at hb
  have hlen := bulkRs_len xs
  have e1 : S_i_SameBody 79 = F_i_SameKey := rfl
  have e2 : S_s_SameBody 77 = F_i_SameKey := rfl
  simp only [F_i_SameBody, F_s_SameBody, p_i_SameBody, p_s_SameBody, pl_ret, pl_pr, pl_cl, pl_ite, pl_go0, pl_goS, List.map_cons, List.map_nil, ev_k, ev_e, ev_a, List.cons_append, List.nil_append, List.append_assoc, List.getD_cons_zero, List.getD_cons_succ, bind_some', pickN, ifT_b, cond_true, cond_false, decide_true, decide_false, ev_len, ev_lens, ev_scl_i, ev_scl_b, ev_scl_s, ev_lss, ev_leq, ev_gtr, ev_geq, ev_eql, ev_neq, ev_add, ev_sub, ev_eqlS, ev_neqS, ev_bbneq, ev_bbeql, ev_not, Bool.not_true, Bool.not_false, bne_self_eq_false, beq_self_eq_true, e1, e2, tt_key]
  generalize ((a0 == b0) && ((a1 == b1) && ((a2 == b2) && (a3 == b3)))) = q1
  generalize (a6 != b6) = q2
  generalize (a7 != b7) = q3
  cases hq : ((xs.length : Int) != (ys.length : Int)) with
  | true => cases q1 <;> cases q2 <;> cases q3 <;> exact ⟨_, rfl, rfl⟩
  | false =>
    have hl : xs.length = ys.length := by simp at hq; omega
    cases q1 <;> cases q2 <;> cases q3 <;> simp only [pl_ret, pl_pr, pl_cl, pl_ite, pl_go0, pl_goS, List.map_cons, List.map_nil, ev_k, ev_e, ev_a, List.cons_append, List.nil_append, List.append_assoc, List.getD_cons_zero, List.getD_cons_succ, bind_some', pickN, ifT_b, cond_true, cond_false, decide_true, decide_false, ev_len, ev_lens, ev_scl_i, ev_scl_b, ev_scl_s, ev_lss, ev_leq, ev_gtr, ev_geq, ev_eql, ev_neq, ev_add, ev_sub, ev_eqlS, ev_neqS, ev_bbneq, ev_bbeql, ev_not, Bool.not_true, Bool.not_false, bne_self_eq_false, beq_self_eq_true] <;> try exact ⟨_, rfl, rfl⟩
    rw [pl_loop, pl_loop]
    refine iter_two (n := xs.length) (Rel := fun i x y => x = [.c (.bool false), .c (.int .i64 (i : Int))] ∧ y = [.c (.bool false), .c (.int .i64 (i : Int))]) ?_ ?_ ⟨rfl, rfl⟩ (by unfold rounds; omega)
    · rintro i x y hi ⟨rfl, rfl⟩ s s'
      obtain ⟨r, hr⟩ := get_some hi
      obtain ⟨v, hv⟩ := get_some (xs := ys) (i := i) (by omega)
      obtain ⟨c, d, rfl⟩ := tt_rows (hx r (mem_of_get hr))
      obtain ⟨e, f, rfl⟩ := tt_rows (hy v (mem_of_get hv))
      have hlt : (i : Int) < xs.length := by omega
      have e3 : IntKind.i64.wrap ((i : Int) + 1) = ((i + 1 : Nat) : Int) := by rw [wrap64 (by omega) (by omega)]; simp
      cases hc : (c == e && d == f) with
      | true =>
        refine .inl ⟨_, _, ⟨rfl, rfl⟩, ?_, ?_⟩ <;> simp only [pl_ret, pl_pr, pl_cl, pl_ite, pl_go0, pl_goS, List.map_cons, List.map_nil, ev_k, ev_e, ev_a, List.cons_append, List.nil_append, List.append_assoc, List.getD_cons_zero, List.getD_cons_succ, bind_some', pickN, ifT_b, cond_true, cond_false, decide_true, decide_false, ev_len, ev_lens, ev_scl_i, ev_scl_b, ev_scl_s, ev_lss, ev_leq, ev_gtr, ev_geq, ev_eql, ev_neq, ev_add, ev_sub, ev_eqlS, ev_neqS, ev_bbneq, ev_bbeql, ev_not, Bool.not_true, Bool.not_false, bne_self_eq_false, beq_self_eq_true, hlt, ev_bnd hr, ev_bnd hv, ev_cell hr (w := 2) (j := 0) rfl rfl, ev_cell hr (w := 2) (j := 1) rfl rfl, ev_cell hv (w := 2) (j := 0) rfl rfl, ev_cell hv (w := 2) (j := 1) rfl rfl, ev_eqs2, hc, e3]
      | false =>
        refine .inr ⟨false, ?_, ?_⟩ <;> simp only [pl_ret, pl_pr, pl_cl, pl_ite, pl_go0, pl_goS, List.map_cons, List.map_nil, ev_k, ev_e, ev_a, List.cons_append, List.nil_append, List.append_assoc, List.getD_cons_zero, List.getD_cons_succ, bind_some', pickN, ifT_b, cond_true, cond_false, decide_true, decide_false, ev_len, ev_lens, ev_scl_i, ev_scl_b, ev_scl_s, ev_lss, ev_leq, ev_gtr, ev_geq, ev_eql, ev_neq, ev_add, ev_sub, ev_eqlS, ev_neqS, ev_bbneq, ev_bbeql, ev_not, Bool.not_true, Bool.not_false, bne_self_eq_false, beq_self_eq_true, hlt, ev_bnd hr, ev_bnd hv, ev_cell hr (w := 2) (j := 0) rfl rfl, ev_cell hr (w := 2) (j := 1) rfl rfl, ev_cell hv (w := 2) (j := 0) rfl rfl, ev_cell hv (w := 2) (j := 1) rfl rfl, ev_eqs2, hc, e3]
    · rintro x y ⟨rfl, rfl⟩ s s'
      refine ⟨true, ?_, ?_⟩ <;> simp only [pl_ret, pl_pr, pl_cl, pl_ite, pl_go0, pl_goS, List.map_cons, List.map_nil, ev_k, ev_e, ev_a, List.cons_append, List.nil_append, List.append_assoc, List.getD_cons_zero, List.getD_cons_succ, bind_some', pickN, ifT_b, cond_true, cond_false, decide_true, decide_false, ev_len, ev_lens, ev_scl_i, ev_scl_b, ev_scl_s, ev_lss, ev_leq, ev_gtr, ev_geq, ev_eql, ev_neq, ev_add, ev_sub, ev_eqlS, ev_neqS, ev_bbneq, ev_bbeql, ev_not, Bool.not_true, Bool.not_false, bne_self_eq_false, beq_self_eq_true, Int.lt_irrefl]

theorem tt_cells {r : List T} (h : WTs tyRec r) : ∃ c0 c1 c2 c3 c4 c5 c6 c7, r = [c0, c1, c2, c3, .c (.int .i64 c4), c5, c6, c7] := by
  obtain ⟨_, _, rfl, ⟨a0, rfl, _⟩, _, _, rfl, ⟨a1, rfl, _⟩, _, _, rfl, ⟨a2, rfl, _⟩, _, _, rfl, ⟨a3, rfl, _⟩, _, _, rfl, ⟨a4, rfl, _⟩, a5, _, rfl, _, _, _, rfl, ⟨a6, rfl, _⟩, _, _, rfl, ⟨a7, rfl⟩, rfl⟩ := WTsU_of h
  exact ⟨_, _, _, _, _, _, _, _, rfl⟩

theorem tt_same (xs ys : List (List T)) (hx : ∀ r ∈ xs, WTs tyRec r) (hy : ∀ r ∈ ys, WTs tyRec r) (hbx : bulkRs xs ≤ 1048576) (hby : bulkRs ys ≤ 1048576) : Both (F_i_TrueTold [.l xs, .l ys]) (F_s_TrueTold [.l xs, .l ys]) := by
  have hlx := bulkRs_len xs
  have hly := bulkRs_len ys
  have e1 : S_i_TrueTold 57 = F_i_SameBody := rfl
  have e2 : S_s_TrueTold 55 = F_s_SameBody := rfl
  simp only [F_i_TrueTold, F_s_TrueTold, p_i_TrueTold, p_s_TrueTold, pl_ret, pl_pr, pl_cl, pl_ite, pl_go0, pl_goS, List.map_cons, List.map_nil, ev_k, ev_e, ev_a, List.cons_append, List.nil_append, List.append_assoc, List.getD_cons_zero, List.getD_cons_succ, bind_some', pickN, ifT_b, cond_true, cond_false, decide_true, decide_false, ev_len, ev_lens, ev_scl_i, ev_scl_b, ev_scl_s, ev_lss, ev_leq, ev_gtr, ev_geq, ev_eql, ev_neq, ev_add, ev_sub, ev_eqlS, ev_neqS, ev_bbneq, ev_bbeql, ev_not, Bool.not_true, Bool.not_false, bne_self_eq_false, beq_self_eq_true]
  rw [pl_loop, pl_loop]
  refine iter_two (n := ys.length) (Rel := fun i x y => x = [.c (.bool false), .c (.int .i64 (i : Int))] ∧ y = [.c (.bool false), .c (.int .i64 (i : Int))]) ?_ ?_ ⟨rfl, rfl⟩ (by unfold rounds; omega)
  · rintro j x y hj ⟨rfl, rfl⟩ s s'
    obtain ⟨v, hv⟩ := get_some hj
    have hwv := hy v (mem_of_get hv)
    have hbv := bulkRs_get hv
    obtain ⟨d0, d1, d2, d3, d4, d5, d6, d7, rfl⟩ := tt_cells hwv
    have hlt : (j : Int) < ys.length := by omega
    have e3 : IntKind.i64.wrap ((j : Int) + 1) = ((j + 1 : Nat) : Int) := by rw [wrap64 (by omega) (by omega)]; simp
    simp only [pl_ret, pl_pr, pl_cl, pl_ite, pl_go0, pl_goS, List.map_cons, List.map_nil, ev_k, ev_e, ev_a, List.cons_append, List.nil_append, List.append_assoc, List.getD_cons_zero, List.getD_cons_succ, bind_some', pickN, ifT_b, cond_true, cond_false, decide_true, decide_false, ev_len, ev_lens, ev_scl_i, ev_scl_b, ev_scl_s, ev_lss, ev_leq, ev_gtr, ev_geq, ev_eql, ev_neq, ev_add, ev_sub, ev_eqlS, ev_neqS, ev_bbneq, ev_bbeql, ev_not, Bool.not_true, Bool.not_false, bne_self_eq_false, beq_self_eq_true, hlt, ev_bnd hv, ev_cell hv (w := 8) (j := 0) rfl rfl, ev_cell hv (w := 8) (j := 1) rfl rfl, ev_cell hv (w := 8) (j := 2) rfl rfl, ev_cell hv (w := 8) (j := 3) rfl rfl, ev_cell hv (w := 8) (j := 4) rfl rfl, ev_cell hv (w := 8) (j := 5) rfl rfl, ev_cell hv (w := 8) (j := 6) rfl rfl, ev_cell hv (w := 8) (j := 7) rfl rfl]
    rw [pl_loop, pl_loop]
    refine iter_two (n := xs.length) (Rel := fun i x y => ∃ fl : Bool, x = [.c (.bool fl), .c (.int .i64 (i : Int))] ∧ y = [.c (.bool fl), .c (.int .i64 (i : Int))])
      (Q := fun o o' => (∃ x' y', (x' = [T.c (.bool false), .c (.int .i64 ((j + 1 : Nat) : Int))] ∧ y' = [T.c (.bool false), .c (.int .i64 ((j + 1 : Nat) : Int))]) ∧ o = s x' ∧ o' = s' y') ∨ Both o o') ?_ ?_ ⟨false, rfl, rfl⟩ (by unfold rounds; omega)
    · rintro i x y hi ⟨fl, rfl, rfl⟩ t t'
      obtain ⟨r, hr⟩ := get_some hi
      have hwr := hx r (mem_of_get hr)
      have hbr := bulkRs_get hr
      have hB := tt_body _ _ hwr hwv (by omega)
      obtain ⟨c0, c1, c2, c3, c4, c5, c6, c7, rfl⟩ := tt_cells hwr
      have hlt' : (i : Int) < xs.length := by omega
      have e4 : IntKind.i64.wrap ((i : Int) + 1) = ((i + 1 : Nat) : Int) := by rw [wrap64 (by omega) (by omega)]; simp
      obtain ⟨b, hb1, hb2⟩ := hB
      simp only [List.cons_append, List.nil_append] at hb1 hb2
      left
      cases fl with
      | true => refine ⟨_, _, ⟨true, rfl, rfl⟩, ?_, ?_⟩ <;> simp only [pl_ret, pl_pr, pl_cl, pl_ite, pl_go0, pl_goS, List.map_cons, List.map_nil, ev_k, ev_e, ev_a, List.cons_append, List.nil_append, List.append_assoc, List.getD_cons_zero, List.getD_cons_succ, bind_some', pickN, ifT_b, cond_true, cond_false, decide_true, decide_false, ev_len, ev_lens, ev_scl_i, ev_scl_b, ev_scl_s, ev_lss, ev_leq, ev_gtr, ev_geq, ev_eql, ev_neq, ev_add, ev_sub, ev_eqlS, ev_neqS, ev_bbneq, ev_bbeql, ev_not, Bool.not_true, Bool.not_false, bne_self_eq_false, beq_self_eq_true, hlt', ev_bnd hr, ev_bnd hv, ev_cell hr (w := 8) (j := 0) rfl rfl, ev_cell hr (w := 8) (j := 1) rfl rfl, ev_cell hr (w := 8) (j := 2) rfl rfl, ev_cell hr (w := 8) (j := 3) rfl rfl, ev_cell hr (w := 8) (j := 4) rfl rfl, ev_cell hr (w := 8) (j := 5) rfl rfl, ev_cell hr (w := 8) (j := 6) rfl rfl, ev_cell hr (w := 8) (j := 7) rfl rfl, ev_cell hv (w := 8) (j := 0) rfl rfl, ev_cell hv (w := 8) (j := 1) rfl rfl, ev_cell hv (w := 8) (j := 2) rfl rfl, ev_cell hv (w := 8) (j := 3) rfl rfl, ev_cell hv (w := 8) (j := 4) rfl rfl, ev_cell hv (w := 8) (j := 5) rfl rfl, ev_cell hv (w := 8) (j := 6) rfl rfl, ev_cell hv (w := 8) (j := 7) rfl rfl, e4]
      | false =>
        cases b with
        | true => refine ⟨_, _, ⟨c4 == d4, rfl, rfl⟩, ?_, ?_⟩ <;> simp only [pl_ret, pl_pr, pl_cl, pl_ite, pl_go0, pl_goS, List.map_cons, List.map_nil, ev_k, ev_e, ev_a, List.cons_append, List.nil_append, List.append_assoc, List.getD_cons_zero, List.getD_cons_succ, bind_some', pickN, ifT_b, cond_true, cond_false, decide_true, decide_false, ev_len, ev_lens, ev_scl_i, ev_scl_b, ev_scl_s, ev_lss, ev_leq, ev_gtr, ev_geq, ev_eql, ev_neq, ev_add, ev_sub, ev_eqlS, ev_neqS, ev_bbneq, ev_bbeql, ev_not, Bool.not_true, Bool.not_false, bne_self_eq_false, beq_self_eq_true, hlt', ev_bnd hr, ev_bnd hv, ev_cell hr (w := 8) (j := 0) rfl rfl, ev_cell hr (w := 8) (j := 1) rfl rfl, ev_cell hr (w := 8) (j := 2) rfl rfl, ev_cell hr (w := 8) (j := 3) rfl rfl, ev_cell hr (w := 8) (j := 4) rfl rfl, ev_cell hr (w := 8) (j := 5) rfl rfl, ev_cell hr (w := 8) (j := 6) rfl rfl, ev_cell hr (w := 8) (j := 7) rfl rfl, ev_cell hv (w := 8) (j := 0) rfl rfl, ev_cell hv (w := 8) (j := 1) rfl rfl, ev_cell hv (w := 8) (j := 2) rfl rfl, ev_cell hv (w := 8) (j := 3) rfl rfl, ev_cell hv (w := 8) (j := 4) rfl rfl, ev_cell hv (w := 8) (j := 5) rfl rfl, ev_cell hv (w := 8) (j := 6) rfl rfl, ev_cell hv (w := 8) (j := 7) rfl rfl, e4, e1, e2, hb1, hb2]
        | false => refine ⟨_, _, ⟨false, rfl, rfl⟩, ?_, ?_⟩ <;> simp only [pl_ret, pl_pr, pl_cl, pl_ite, pl_go0, pl_goS, List.map_cons, List.map_nil, ev_k, ev_e, ev_a, List.cons_append, List.nil_append, List.append_assoc, List.getD_cons_zero, List.getD_cons_succ, bind_some', pickN, ifT_b, cond_true, cond_false, decide_true, decide_false, ev_len, ev_lens, ev_scl_i, ev_scl_b, ev_scl_s, ev_lss, ev_leq, ev_gtr, ev_geq, ev_eql, ev_neq, ev_add, ev_sub, ev_eqlS, ev_neqS, ev_bbneq, ev_bbeql, ev_not, Bool.not_true, Bool.not_false, bne_self_eq_false, beq_self_eq_true, hlt', ev_bnd hr, ev_bnd hv, ev_cell hr (w := 8) (j := 0) rfl rfl, ev_cell hr (w := 8) (j := 1) rfl rfl, ev_cell hr (w := 8) (j := 2) rfl rfl, ev_cell hr (w := 8) (j := 3) rfl rfl, ev_cell hr (w := 8) (j := 4) rfl rfl, ev_cell hr (w := 8) (j := 5) rfl rfl, ev_cell hr (w := 8) (j := 6) rfl rfl, ev_cell hr (w := 8) (j := 7) rfl rfl, ev_cell hv (w := 8) (j := 0) rfl rfl, ev_cell hv (w := 8) (j := 1) rfl rfl, ev_cell hv (w := 8) (j := 2) rfl rfl, ev_cell hv (w := 8) (j := 3) rfl rfl, ev_cell hv (w := 8) (j := 4) rfl rfl, ev_cell hv (w := 8) (j := 5) rfl rfl, ev_cell hv (w := 8) (j := 6) rfl rfl, ev_cell hv (w := 8) (j := 7) rfl rfl, e4, e1, e2, hb1, hb2]
    · rintro x y ⟨fl, rfl, rfl⟩ t t'
      cases fl with
      | true =>
        refine .inl ⟨_, _, ⟨rfl, rfl⟩, ?_, ?_⟩ <;> simp only [pl_ret, pl_pr, pl_cl, pl_ite, pl_go0, pl_goS, List.map_cons, List.map_nil, ev_k, ev_e, ev_a, List.cons_append, List.nil_append, List.append_assoc, List.getD_cons_zero, List.getD_cons_succ, bind_some', pickN, ifT_b, cond_true, cond_false, decide_true, decide_false, ev_len, ev_lens, ev_scl_i, ev_scl_b, ev_scl_s, ev_lss, ev_leq, ev_gtr, ev_geq, ev_eql, ev_neq, ev_add, ev_sub, ev_eqlS, ev_neqS, ev_bbneq, ev_bbeql, ev_not, Bool.not_true, Bool.not_false, bne_self_eq_false, beq_self_eq_true, Int.lt_irrefl, e3]
      | false =>
        refine .inr ⟨false, ?_, ?_⟩ <;> simp only [pl_ret, pl_pr, pl_cl, pl_ite, pl_go0, pl_goS, List.map_cons, List.map_nil, ev_k, ev_e, ev_a, List.cons_append, List.nil_append, List.append_assoc, List.getD_cons_zero, List.getD_cons_succ, bind_some', pickN, ifT_b, cond_true, cond_false, decide_true, decide_false, ev_len, ev_lens, ev_scl_i, ev_scl_b, ev_scl_s, ev_lss, ev_leq, ev_gtr, ev_geq, ev_eql, ev_neq, ev_add, ev_sub, ev_eqlS, ev_neqS, ev_bbneq, ev_bbeql, ev_not, Bool.not_true, Bool.not_false, bne_self_eq_false, beq_self_eq_true, Int.lt_irrefl, e3]
  · rintro x y ⟨rfl, rfl⟩ s s'
    refine ⟨true, ?_, ?_⟩ <;> simp only [pl_ret, pl_pr, pl_cl, pl_ite, pl_go0, pl_goS, List.map_cons, List.map_nil, ev_k, ev_e, ev_a, List.cons_append, List.nil_append, List.append_assoc, List.getD_cons_zero, List.getD_cons_succ, bind_some', pickN, ifT_b, cond_true, cond_false, decide_true, decide_false, ev_len, ev_lens, ev_scl_i, ev_scl_b, ev_scl_s, ev_lss, ev_leq, ev_gtr, ev_geq, ev_eql, ev_neq, ev_add, ev_sub, ev_eqlS, ev_neqS, ev_bbneq, ev_bbeql, ev_not, Bool.not_true, Bool.not_false, bne_self_eq_false, beq_self_eq_true, Int.lt_irrefl]

theorem true_FnExactTrueTold (ts : List T) (h : WTs ys_FnExactTrueTold ts) : F_FnExactTrueTold ts = some [.c (.bool true)] := by
  obtain ⟨t1, _, rfl, h1, t2, _, rfl, h2, rfl⟩ := WTsU_of h
  have g1 : WTs [.sl [.i .i64, .i .i64, .i .i64, .i .i64, .i .i64, .sl [.i .i64, .i .i64], .i .i64, .b]] [t1] := WTs_mk ⟨_, _, rfl, h1, rfl⟩
  have g2 : WTs [.sl [.i .i64, .i .i64, .i .i64, .i .i64, .i .i64, .sl [.i .i64, .i .i64], .i .i64, .b]] [t2] := WTs_mk ⟨_, _, rfl, h2, rfl⟩
  have s15 : S_FnExactTrueTold 15 = F_szRecordS := rfl
  have s16 : S_FnExactTrueTold 16 = F_s_TrueTold := rfl
  have s17 : S_FnExactTrueTold 17 = F_toRecordS := rfl
  have s18 : S_FnExactTrueTold 18 = F_i_TrueTold := rfl
  have s19 : S_FnExactTrueTold 19 = F_eqRecordS := rfl
  obtain ⟨n1, e1, b1, c1⟩ := so_szRecordS _ 1048576 g1 (by omega) (by omega)
  simp only [List.cons_append, List.nil_append] at e1
  by_cases q1 : n1 < 0
  · simp only [F_FnExactTrueTold, p_FnExactTrueTold, pl_ret, pl_pr, pl_cl, pl_ite, pl_go0, pl_goS, List.map_cons, List.map_nil, ev_k, ev_e, ev_a, List.cons_append, List.nil_append, List.append_assoc, List.getD_cons_zero, List.getD_cons_succ, bind_some', pickN, ifT_b, cond_true, cond_false, decide_true, decide_false, ev_len, ev_lens, ev_scl_i, ev_scl_b, ev_scl_s, ev_lss, ev_leq, ev_gtr, ev_geq, ev_eql, ev_neq, ev_add, ev_sub, ev_eqlS, ev_neqS, ev_bbneq, ev_bbeql, ev_not, Bool.not_true, Bool.not_false, bne_self_eq_false, beq_self_eq_true, s15, e1, q1]
  obtain ⟨n2, e2, b2, c2⟩ := so_szRecordS _ n1 g2 (by omega) (by omega)
  simp only [List.cons_append, List.nil_append] at e2
  by_cases q2 : n2 < 0
  · simp only [F_FnExactTrueTold, p_FnExactTrueTold, pl_ret, pl_pr, pl_cl, pl_ite, pl_go0, pl_goS, List.map_cons, List.map_nil, ev_k, ev_e, ev_a, List.cons_append, List.nil_append, List.append_assoc, List.getD_cons_zero, List.getD_cons_succ, bind_some', pickN, ifT_b, cond_true, cond_false, decide_true, decide_false, ev_len, ev_lens, ev_scl_i, ev_scl_b, ev_scl_s, ev_lss, ev_leq, ev_gtr, ev_geq, ev_eql, ev_neq, ev_add, ev_sub, ev_eqlS, ev_neqS, ev_bbneq, ev_bbeql, ev_not, Bool.not_true, Bool.not_false, bne_self_eq_false, beq_self_eq_true, s15, e1, e2, q1, q2]
  have c1 := c1 (by omega)
  have c2 := c2 (by omega)
  have e3 := so_toRecordS _ g1 (by omega)
  have e4 := so_toRecordS _ g2 (by omega)
  have e5 := so_eqRecordS _ g1 (by omega)
  have e6 := so_eqRecordS _ g2 (by omega)
  simp only [List.cons_append, List.nil_append] at e5 e6
  obtain ⟨xs, hxs, _, hx⟩ := g1.sl1
  obtain ⟨ys, hys, _, hy⟩ := g2.sl1
  cases hxs; cases hys
  rw [bulkR_cons, bulkR_nil, bulk_l] at c1 c2
  obtain ⟨b, e7, e8⟩ := tt_same xs ys hx hy (by omega) (by omega)
  simp only [F_FnExactTrueTold, p_FnExactTrueTold, pl_ret, pl_pr, pl_cl, pl_ite, pl_go0, pl_goS, List.map_cons, List.map_nil, ev_k, ev_e, ev_a, List.cons_append, List.nil_append, List.append_assoc, List.getD_cons_zero, List.getD_cons_succ, bind_some', pickN, ifT_b, cond_true, cond_false, decide_true, decide_false, ev_len, ev_lens, ev_scl_i, ev_scl_b, ev_scl_s, ev_lss, ev_leq, ev_gtr, ev_geq, ev_eql, ev_neq, ev_add, ev_sub, ev_eqlS, ev_neqS, ev_bbneq, ev_bbeql, ev_not, Bool.not_true, Bool.not_false, bne_self_eq_false, beq_self_eq_true, s15, s16, s17, s18, s19, e1, e2, e3, e4, e5, e6, e7, e8, q1, q2]

end Go.Proofs.YtmljdpfdpeiniaaC
