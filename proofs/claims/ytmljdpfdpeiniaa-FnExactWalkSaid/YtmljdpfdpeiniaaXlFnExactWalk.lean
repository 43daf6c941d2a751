/- FnExactWalk: what the plain programs say. Conditions: none. -/
import Derived.Test.YtmljdpfdpeiniaaXmA
import Derived.Test.YtmljdpfdpeiniaaKd
namespace Go.Proofs.YtmljdpfdpeiniaaC
set_option linter.unusedVariables false
set_option linter.unusedSimpArgs false

def tyLn : List Ty := [.b, .i .i64, .sl [.i .i64]]

theorem ta_cells {r : List T} (h : WTs tyLn r) : ∃ b n hs, r = [.c (.bool b), .c (.int .i64 n), .l hs] ∧ hs.length ≤ maxLen ∧ ∀ x ∈ hs, WTs [.i .i64] x := by
  obtain ⟨_, _, rfl, ⟨b, rfl⟩, _, _, rfl, ⟨n, rfl, _⟩, t, _, rfl, ht, rfl⟩ := WTsU_of h
  unfold WT at ht
  obtain ⟨hs, rfl, h1, h2⟩ := ht
  exact ⟨b, n, hs, rfl, h1, h2⟩

theorem ta_at (acc : List (List T)) (h : ∀ r ∈ acc, WTs tyLn r) (hb : bulkRs acc ≤ 1048576) (b : Bool) (n : Int) (hs : T) :
    ∃ m : Int, F_i_lineAt [.l acc, .c (.bool b), .c (.int .i64 n), hs] = some [.c (.int .i64 m)] ∧ F_s_l11At [.l acc, .c (.bool b), .c (.int .i64 n), hs] = some [.c (.int .i64 m)] ∧ (m < 0 ∨ ∃ i : Nat, m = i ∧ i < acc.length) := by
  have hl := bulkRs_len acc
  simp only [F_i_lineAt, F_s_l11At, p_i_lineAt, p_s_l11At, pl_ret, pl_pr, pl_cl, pl_ite, pl_go0, pl_goS, List.map_cons, List.map_nil, ev_k, ev_e, ev_a, List.cons_append, List.nil_append, List.append_assoc, List.getD_cons_zero, List.getD_cons_succ, bind_some', pickN, ifT_b, cond_true, cond_false, decide_true, decide_false, ev_len, ev_lens, ev_scl_i, ev_scl_b, ev_scl_s, ev_lss, ev_leq, ev_gtr, ev_geq, ev_eql, ev_neq, ev_add, ev_sub, ev_eqlS, ev_neqS, ev_bbneq, ev_bbeql, ev_not, Bool.not_true, Bool.not_false, bne_self_eq_false, beq_self_eq_true]
  rw [pl_loop, pl_loop]
  refine iter_two (n := acc.length) (Rel := fun (i : Nat) (x y : List T) => x = [.c (.int .i64 0), .c (.int .i64 (i : Int))] ∧ y = [.c (.int .i64 0), .c (.int .i64 (i : Int))]) (Q := fun (o o' : Option (List T)) => ∃ m : Int, o = some [.c (.int .i64 m)] ∧ o' = some [.c (.int .i64 m)] ∧ (m < 0 ∨ ∃ i : Nat, m = i ∧ i < acc.length)) ?_ ?_ ⟨rfl, rfl⟩ (by unfold rounds; omega)
  · rintro i x y hi ⟨rfl, rfl⟩ s s'
    obtain ⟨r, hr⟩ := get_some hi
    obtain ⟨rb, rn, rh, rfl, _, _⟩ := ta_cells (h r (mem_of_get hr))
    have hlt : (i : Int) < acc.length := by omega
    have e3 : IntKind.i64.wrap ((i : Int) + 1) = ((i + 1 : Nat) : Int) := by rw [wrap64 (by omega) (by omega)]; simp
    cases h1 : rb == b with
    | true =>
      cases h2 : rn == n with
      | true => refine .inr ⟨i, ?_, ?_, .inr ⟨i, rfl, hi⟩⟩ <;> simp only [pl_ret, pl_pr, pl_cl, pl_ite, pl_go0, pl_goS, List.map_cons, List.map_nil, ev_k, ev_e, ev_a, List.cons_append, List.nil_append, List.append_assoc, List.getD_cons_zero, List.getD_cons_succ, bind_some', pickN, ifT_b, cond_true, cond_false, decide_true, decide_false, ev_len, ev_lens, ev_scl_i, ev_scl_b, ev_scl_s, ev_lss, ev_leq, ev_gtr, ev_geq, ev_eql, ev_neq, ev_add, ev_sub, ev_eqlS, ev_neqS, ev_bbneq, ev_bbeql, ev_not, Bool.not_true, Bool.not_false, bne_self_eq_false, beq_self_eq_true, hlt, ev_bnd hr, ev_cell hr (w := 3) (j := 0) rfl rfl, ev_cell hr (w := 3) (j := 1) rfl rfl, ev_cell hr (w := 3) (j := 2) rfl rfl, h1, h2]
      | false => refine .inl ⟨_, _, ⟨rfl, rfl⟩, ?_, ?_⟩ <;> simp only [pl_ret, pl_pr, pl_cl, pl_ite, pl_go0, pl_goS, List.map_cons, List.map_nil, ev_k, ev_e, ev_a, List.cons_append, List.nil_append, List.append_assoc, List.getD_cons_zero, List.getD_cons_succ, bind_some', pickN, ifT_b, cond_true, cond_false, decide_true, decide_false, ev_len, ev_lens, ev_scl_i, ev_scl_b, ev_scl_s, ev_lss, ev_leq, ev_gtr, ev_geq, ev_eql, ev_neq, ev_add, ev_sub, ev_eqlS, ev_neqS, ev_bbneq, ev_bbeql, ev_not, Bool.not_true, Bool.not_false, bne_self_eq_false, beq_self_eq_true, hlt, ev_bnd hr, ev_cell hr (w := 3) (j := 0) rfl rfl, ev_cell hr (w := 3) (j := 1) rfl rfl, ev_cell hr (w := 3) (j := 2) rfl rfl, h1, h2, e3]
    | false => refine .inl ⟨_, _, ⟨rfl, rfl⟩, ?_, ?_⟩ <;> simp only [pl_ret, pl_pr, pl_cl, pl_ite, pl_go0, pl_goS, List.map_cons, List.map_nil, ev_k, ev_e, ev_a, List.cons_append, List.nil_append, List.append_assoc, List.getD_cons_zero, List.getD_cons_succ, bind_some', pickN, ifT_b, cond_true, cond_false, decide_true, decide_false, ev_len, ev_lens, ev_scl_i, ev_scl_b, ev_scl_s, ev_lss, ev_leq, ev_gtr, ev_geq, ev_eql, ev_neq, ev_add, ev_sub, ev_eqlS, ev_neqS, ev_bbneq, ev_bbeql, ev_not, Bool.not_true, Bool.not_false, bne_self_eq_false, beq_self_eq_true, hlt, ev_bnd hr, ev_cell hr (w := 3) (j := 0) rfl rfl, ev_cell hr (w := 3) (j := 1) rfl rfl, ev_cell hr (w := 3) (j := 2) rfl rfl, h1, e3]
  · rintro x y ⟨rfl, rfl⟩ s s'
    refine ⟨-1, ?_, ?_, .inl (by omega)⟩ <;> simp only [pl_ret, pl_pr, pl_cl, pl_ite, pl_go0, pl_goS, List.map_cons, List.map_nil, ev_k, ev_e, ev_a, List.cons_append, List.nil_append, List.append_assoc, List.getD_cons_zero, List.getD_cons_succ, bind_some', pickN, ifT_b, cond_true, cond_false, decide_true, decide_false, ev_len, ev_lens, ev_scl_i, ev_scl_b, ev_scl_s, ev_lss, ev_leq, ev_gtr, ev_geq, ev_eql, ev_neq, ev_add, ev_sub, ev_eqlS, ev_neqS, ev_bbneq, ev_bbeql, ev_not, Bool.not_true, Bool.not_false, bne_self_eq_false, beq_self_eq_true, Int.lt_irrefl]

theorem ta_ints (hs : List (List T)) (h : ∀ x ∈ hs, WTs [.i .i64] x) (hb : hs.length ≤ 1048576) : Prim.ev (.app true 1) [.l [], .l hs] = some (.l hs) :=
  ev_app (by unfold cap32; simp; omega) (by rw [scals_of rfl h]; rfl) rfl (okW_of rfl h)

theorem ta_copy (b : Bool) (n : Int) (hs : List (List T)) (h : ∀ x ∈ hs, WTs [.i .i64] x) (hb : hs.length ≤ 1048576) :
    F_i_copyLine [.c (.bool b), .c (.int .i64 n), .l hs] = some [.c (.bool b), .c (.int .i64 n), .l hs] ∧ F_s_l11Copy [.c (.bool b), .c (.int .i64 n), .l hs] = some [.c (.bool b), .c (.int .i64 n), .l hs] := by
  have e1 := ta_ints hs h hb
  have e2 : S_i_copyLine 82 = F_i_copyInts := rfl
  have e3 : Prim.ev (.lit 1 []) [] = some (.l []) := rfl
  have e4 : F_i_copyInts [.l hs] = some [.l hs] := by simp only [F_i_copyInts, p_i_copyInts, pl_ret, pl_pr, pl_cl, pl_ite, pl_go0, pl_goS, List.map_cons, List.map_nil, ev_k, ev_e, ev_a, List.cons_append, List.nil_append, List.append_assoc, List.getD_cons_zero, List.getD_cons_succ, bind_some', pickN, ifT_b, cond_true, cond_false, decide_true, decide_false, ev_len, ev_lens, ev_scl_i, ev_scl_b, ev_scl_s, ev_lss, ev_leq, ev_gtr, ev_geq, ev_eql, ev_neq, ev_add, ev_sub, ev_eqlS, ev_neqS, ev_bbneq, ev_bbeql, ev_not, Bool.not_true, Bool.not_false, bne_self_eq_false, beq_self_eq_true, e1]
  constructor
  · simp only [F_i_copyLine, p_i_copyLine, pl_ret, pl_pr, pl_cl, pl_ite, pl_go0, pl_goS, List.map_cons, List.map_nil, ev_k, ev_e, ev_a, List.cons_append, List.nil_append, List.append_assoc, List.getD_cons_zero, List.getD_cons_succ, bind_some', pickN, ifT_b, cond_true, cond_false, decide_true, decide_false, ev_len, ev_lens, ev_scl_i, ev_scl_b, ev_scl_s, ev_lss, ev_leq, ev_gtr, ev_geq, ev_eql, ev_neq, ev_add, ev_sub, ev_eqlS, ev_neqS, ev_bbneq, ev_bbeql, ev_not, Bool.not_true, Bool.not_false, bne_self_eq_false, beq_self_eq_true, e2, e4]
  · simp only [F_s_l11Copy, p_s_l11Copy, pl_ret, pl_pr, pl_cl, pl_ite, pl_go0, pl_goS, List.map_cons, List.map_nil, ev_k, ev_e, ev_a, List.cons_append, List.nil_append, List.append_assoc, List.getD_cons_zero, List.getD_cons_succ, bind_some', pickN, ifT_b, cond_true, cond_false, decide_true, decide_false, ev_len, ev_lens, ev_scl_i, ev_scl_b, ev_scl_s, ev_lss, ev_leq, ev_gtr, ev_geq, ev_eql, ev_neq, ev_add, ev_sub, ev_eqlS, ev_neqS, ev_bbneq, ev_bbeql, ev_not, Bool.not_true, Bool.not_false, bne_self_eq_false, beq_self_eq_true, e3, e1]


theorem eo_in (a b c : Int) : F_i_in [.c (.int .i64 a), .c (.int .i64 b), .c (.int .i64 c)] = some [.c (.bool (decide (a ≥ b) && decide (a ≤ c)))] := by
  by_cases h : a ≥ b <;> simp only [F_i_in, p_i_in, pl_ret, pl_pr, pl_cl, pl_ite, pl_go0, pl_goS, List.map_cons, List.map_nil, ev_k, ev_e, ev_a, List.cons_append, List.nil_append, List.append_assoc, List.getD_cons_zero, List.getD_cons_succ, bind_some', pickN, ifT_b, cond_true, cond_false, decide_true, decide_false, ev_len, ev_lens, ev_scl_i, ev_scl_b, ev_scl_s, ev_lss, ev_leq, ev_gtr, ev_geq, ev_eql, ev_neq, ev_add, ev_sub, ev_eqlS, ev_neqS, ev_bbneq, ev_bbeql, ev_not, Bool.not_true, Bool.not_false, bne_self_eq_false, beq_self_eq_true, h, Bool.true_and, Bool.false_and]

theorem eo_l01 (a b c : Int) : F_s_l01In [.c (.int .i64 a), .c (.int .i64 b), .c (.int .i64 c)] = some [.c (.bool (decide (a ≥ b) && decide (a ≤ c)))] := by
  by_cases h : a ≥ b <;> simp only [F_s_l01In, p_s_l01In, pl_ret, pl_pr, pl_cl, pl_ite, pl_go0, pl_goS, List.map_cons, List.map_nil, ev_k, ev_e, ev_a, List.cons_append, List.nil_append, List.append_assoc, List.getD_cons_zero, List.getD_cons_succ, bind_some', pickN, ifT_b, cond_true, cond_false, decide_true, decide_false, ev_len, ev_lens, ev_scl_i, ev_scl_b, ev_scl_s, ev_lss, ev_leq, ev_gtr, ev_geq, ev_eql, ev_neq, ev_add, ev_sub, ev_eqlS, ev_neqS, ev_bbneq, ev_bbeql, ev_not, Bool.not_true, Bool.not_false, bne_self_eq_false, beq_self_eq_true, h, Bool.true_and, Bool.false_and]


def ys_FnExactWalk : List Ty := [.sl [.sl [.b, .i .i64, .sl [.i .i64]]], .i .i64, .i .i64, .sl [.i .i64]]

theorem tw_rem (a b : Nat) (h : b ≠ 0) : Prim.ev (.bin .rem) [.c (.int .i64 (a : Int)), .c (.int .i64 (b : Int))] = some (.c (.int .i64 ((a % b : Nat) : Int))) := by
  have hb : ¬ ((b : Int) = 0) := by omega
  simp only [Prim.ev, T.val, binV, Option.bind_some, if_true, hb, if_false]
  congr 3

theorem tw_mx (p : Int) : Prim.ev .mx [.c (.int .i64 p), .c (.int .i64 0)] = some (.c (.int .i64 (p.toNat : Int))) := by
  simp only [Prim.ev]
  by_cases h : (0 : Int) > p
  · rw [if_pos h]; congr 3; omega
  · rw [if_neg h]; congr 3; omega

theorem tw_one {r : List T} (h : WTs [.i .i64] r) : ∃ n : Int, r = [.c (.int .i64 n)] ∧ (Lit.int .i64 n).wf = true := by
  obtain ⟨_, _, rfl, ⟨n, rfl, hw⟩, rfl⟩ := WTsU_of h
  exact ⟨n, rfl, hw⟩

def WalkQ (o o' : Option (List T)) : Prop := ∃ out b, o = some [.l out, .c (.bool b)] ∧ o' = some [.l out, .c (.bool b)] ∧ (∀ r ∈ out, WTs [.i .i64] r) ∧ out.length ≤ 13

theorem tw_same (tb : List (List T)) (from' to : Int) (ps : List (List T)) (ht : ∀ r ∈ tb, WTs [.sl [.b, .i .i64, .sl [.i .i64]]] r) (hp : ∀ r ∈ ps, WTs [.i .i64] r) (hf : (Lit.int .i64 from').wf = true) (hb : bulkRs tb ≤ 1048576) (hpl : ps.length ≤ 1048576) :
    WalkQ (F_i_Walk [.l tb, .c (.int .i64 from'), .c (.int .i64 to), .l ps]) (F_s_Walk [.l tb, .c (.int .i64 from'), .c (.int .i64 to), .l ps]) := by
  have hlt := bulkRs_len tb
  have e4 : ∀ n : Int, Prim.ev (.lit 1 [true]) [.c (.int .i64 n)] = some (.l [[.c (.int .i64 n)]]) := fun n => ev_lit1 (by omega) rfl rfl
  have e0 : Prim.ev (.lit 1 []) [] = some (.l []) := rfl
  have s1 : S_i_Walk 51 = F_i_in := rfl
  have s2 : S_i_Walk 60 = F_i_lineAt := rfl
  have s3 : S_s_Walk 48 = F_s_l01In := rfl
  have s4 : S_s_Walk 59 = F_s_l11At := rfl
  simp only [F_i_Walk, F_s_Walk, p_i_Walk, p_s_Walk, pl_ret, pl_pr, pl_cl, pl_ite, pl_go0, pl_goS, List.map_cons, List.map_nil, ev_k, ev_e, ev_a, List.cons_append, List.nil_append, List.append_assoc, List.getD_cons_zero, List.getD_cons_succ, bind_some', pickN, ifT_b, cond_true, cond_false, decide_true, decide_false, ev_len, ev_lens, ev_scl_i, ev_scl_b, ev_scl_s, ev_lss, ev_leq, ev_gtr, ev_geq, ev_eql, ev_neq, ev_add, ev_sub, ev_eqlS, ev_neqS, ev_bbneq, ev_bbeql, ev_not, Bool.not_true, Bool.not_false, bne_self_eq_false, beq_self_eq_true, e4]
  rw [pl_loop, pl_loop]
  refine iter_two (n := 12) (Rel := fun (i : Nat) (x y : List T) => ∃ (out : List (List T)) (at' : Int), x = [.l [], .c (.bool false), .l out, .c (.int .i64 at')] ∧ y = [.l [], .c (.bool false), .l out, .c (.int .i64 at'), .c (.int .i64 (i : Int))] ∧ out.length = i + 1 ∧ (∀ r ∈ out, WTs [.i .i64] r) ∧ (Lit.int .i64 at').wf = true) (Q := WalkQ)
    ?_ ?_ ⟨[[.c (.int .i64 from')]], from', rfl, rfl, rfl, ?_, hf⟩ (by unfold rounds; omega)
  · rintro i x y hi ⟨out, at', rfl, rfl, hol, ho, hw⟩ s s'
    cases hat : (at' != to) with
    | false => right; refine ⟨out, true, ?_, ?_, ho, by omega⟩ <;> simp only [pl_ret, pl_pr, pl_cl, pl_ite, pl_go0, pl_goS, List.map_cons, List.map_nil, ev_k, ev_e, ev_a, List.cons_append, List.nil_append, List.append_assoc, List.getD_cons_zero, List.getD_cons_succ, bind_some', pickN, ifT_b, cond_true, cond_false, decide_true, decide_false, ev_len, ev_lens, ev_scl_i, ev_scl_b, ev_scl_s, ev_lss, ev_leq, ev_gtr, ev_geq, ev_eql, ev_neq, ev_add, ev_sub, ev_eqlS, ev_neqS, ev_bbneq, ev_bbeql, ev_not, Bool.not_true, Bool.not_false, bne_self_eq_false, beq_self_eq_true, hat]
    | true =>
      have g1 : ¬ ((out.length : Int) > 12) := by omega
      have g2 : ¬ ((i : Int) ≥ 12) := by omega
      by_cases hin : at' ≥ 1 ∧ at' ≤ (tb.length : Int)
      · obtain ⟨hin1, hin2⟩ := hin
        obtain ⟨a, rfl⟩ : ∃ a : Nat, at' = (a : Int) + 1 := ⟨(at' - 1).toNat, by omega⟩
        have ha : a < tb.length := by omega
        have w1 : IntKind.i64.wrap ((a : Int) + 1 - 1) = (a : Int) := by rw [wrap64 (by omega) (by omega)]; omega
        obtain ⟨r, hr⟩ := get_some ha
        obtain ⟨ls, rfl, _, hls⟩ := (ht r (mem_of_get hr)).sl1
        have hbr := bulkRs_get hr
        rw [bulkR_cons, bulkR_nil, bulk_l] at hbr
        obtain ⟨m, m1, m2, hm'⟩ := ta_at ls hls (by omega) false to (.l [])
        by_cases hm : m < 0
        · right; refine ⟨[], false, ?_, ?_, by simp, by simp⟩ <;> simp only [pl_ret, pl_pr, pl_cl, pl_ite, pl_go0, pl_goS, List.map_cons, List.map_nil, ev_k, ev_e, ev_a, List.cons_append, List.nil_append, List.append_assoc, List.getD_cons_zero, List.getD_cons_succ, bind_some', pickN, ifT_b, cond_true, cond_false, decide_true, decide_false, ev_len, ev_lens, ev_scl_i, ev_scl_b, ev_scl_s, ev_lss, ev_leq, ev_gtr, ev_geq, ev_eql, ev_neq, ev_add, ev_sub, ev_eqlS, ev_neqS, ev_bbneq, ev_bbeql, ev_not, Bool.not_true, Bool.not_false, bne_self_eq_false, beq_self_eq_true, pl_join, hat, g1, g2, s1, s2, s3, s4, eo_in, eo_l01, hin1, hin2, Bool.true_and, w1, ev_bnd hr, ev_cell hr (w := 1) (j := 0) rfl rfl, m1, m2, hm, e0]
        · obtain ⟨k, rfl, hk⟩ : ∃ i : Nat, m = i ∧ i < ls.length := by
            rcases hm' with h | h
            · exact absurd h hm
            · exact h
          obtain ⟨v, hv⟩ := get_some hk
          obtain ⟨vb, vn, hs, rfl, _, h2⟩ := ta_cells (hls v (mem_of_get hv))
          cases hz : ((hs.length : Int) == 0) with
          | true => right; refine ⟨[], false, ?_, ?_, by simp, by simp⟩ <;> simp only [pl_ret, pl_pr, pl_cl, pl_ite, pl_go0, pl_goS, List.map_cons, List.map_nil, ev_k, ev_e, ev_a, List.cons_append, List.nil_append, List.append_assoc, List.getD_cons_zero, List.getD_cons_succ, bind_some', pickN, ifT_b, cond_true, cond_false, decide_true, decide_false, ev_len, ev_lens, ev_scl_i, ev_scl_b, ev_scl_s, ev_lss, ev_leq, ev_gtr, ev_geq, ev_eql, ev_neq, ev_add, ev_sub, ev_eqlS, ev_neqS, ev_bbneq, ev_bbeql, ev_not, Bool.not_true, Bool.not_false, bne_self_eq_false, beq_self_eq_true, pl_join, hat, g1, g2, s1, s2, s3, s4, eo_in, eo_l01, hin1, hin2, Bool.true_and, w1, ev_bnd hr, ev_cell hr (w := 1) (j := 0) rfl rfl, m1, m2, hm, ev_bnd hv, ev_cell hv (w := 3) (j := 2) rfl rfl, hz, e0]
          | false =>
            have hne : hs.length ≠ 0 := by intro h; rw [h] at hz; exact absurd hz (by decide)
            have step : ∀ pk : Nat, ∃ x : Int, hs[pk % hs.length]? = some [.c (.int .i64 x)] ∧ (Lit.int .i64 x).wf = true := by
              intro pk
              obtain ⟨u, hu⟩ := get_some (xs := hs) (i := pk % hs.length) (Nat.mod_lt _ (by omega))
              obtain ⟨x, rfl, hx⟩ := tw_one (h2 u (mem_of_get hu))
              exact ⟨x, hu, hx⟩
            have w2 : IntKind.i64.wrap ((out.length : Int) - 1) = (i : Int) := by rw [wrap64 (by omega) (by omega)]; omega
            have w3 : IntKind.i64.wrap ((i : Int) + 1) = ((i + 1 : Nat) : Int) := by rw [wrap64 (by omega) (by omega)]; simp
            have more : ∀ x : Int, (Lit.int .i64 x).wf = true → (∀ r ∈ out ++ [[.c (.int .i64 x)]], WTs [.i .i64] r) ∧ Prim.ev (.app true 1) [.l out, .l [[.c (.int .i64 x)]]] = some (.l (out ++ [[.c (.int .i64 x)]])) := by
              intro x hx
              refine ⟨?_, ev_app (by unfold cap32; simp; omega) rfl (okW_of rfl ho) rfl⟩
              intro r hr
              rcases List.mem_append.1 hr with h | h
              · exact ho r h
              · rw [List.mem_singleton] at h; subst h; exact WTs_mk ⟨_, _, rfl, ⟨_, rfl, hx⟩, rfl⟩
            left
            by_cases hip : (i : Int) < ps.length
            · obtain ⟨pr, hpr⟩ := get_some (xs := ps) (i := i) (by omega)
              obtain ⟨p, rfl, hpw⟩ := tw_one (hp pr (mem_of_get hpr))
              obtain ⟨x, hx, hxw⟩ := step p.toNat
              obtain ⟨q1, q2⟩ := more x hxw
              refine ⟨_, _, ⟨_, x, rfl, rfl, by simp [hol], q1, hxw⟩, ?_, ?_⟩
              · simp only [pl_ret, pl_pr, pl_cl, pl_ite, pl_go0, pl_goS, List.map_cons, List.map_nil, ev_k, ev_e, ev_a, List.cons_append, List.nil_append, List.append_assoc, List.getD_cons_zero, List.getD_cons_succ, bind_some', pickN, ifT_b, cond_true, cond_false, decide_true, decide_false, ev_len, ev_lens, ev_scl_i, ev_scl_b, ev_scl_s, ev_lss, ev_leq, ev_gtr, ev_geq, ev_eql, ev_neq, ev_add, ev_sub, ev_eqlS, ev_neqS, ev_bbneq, ev_bbeql, ev_not, Bool.not_true, Bool.not_false, bne_self_eq_false, beq_self_eq_true, pl_join, hat, g1, s1, s2, eo_in, hin1, hin2, Bool.true_and, w1, w2, ev_bnd hr, ev_cell hr (w := 1) (j := 0) rfl rfl, m1, hm, ev_bnd hv, ev_cell hv (w := 3) (j := 2) rfl rfl, hz, hip, ev_bnd hpr, ev_cell hpr (w := 1) (j := 0) rfl rfl, tw_mx, tw_rem _ _ hne, ev_bnd hx, ev_cell hx (w := 1) (j := 0) rfl rfl, e4, q2]
              · by_cases hpp : p > 0
                · have hpn : p = (p.toNat : Int) := by omega
                  have tr := tw_rem p.toNat hs.length hne
                  rw [← hpn] at tr
                  simp only [pl_ret, pl_pr, pl_cl, pl_ite, pl_go0, pl_goS, List.map_cons, List.map_nil, ev_k, ev_e, ev_a, List.cons_append, List.nil_append, List.append_assoc, List.getD_cons_zero, List.getD_cons_succ, bind_some', pickN, ifT_b, cond_true, cond_false, decide_true, decide_false, ev_len, ev_lens, ev_scl_i, ev_scl_b, ev_scl_s, ev_lss, ev_leq, ev_gtr, ev_geq, ev_eql, ev_neq, ev_add, ev_sub, ev_eqlS, ev_neqS, ev_bbneq, ev_bbeql, ev_not, Bool.not_true, Bool.not_false, bne_self_eq_false, beq_self_eq_true, pl_join, hat, g2, s3, s4, eo_l01, hin1, hin2, Bool.true_and, w1, ev_bnd hr, ev_cell hr (w := 1) (j := 0) rfl rfl, m2, hm, ev_bnd hv, ev_cell hv (w := 3) (j := 2) rfl rfl, hz, hip, ev_bnd hpr, ev_cell hpr (w := 1) (j := 0) rfl rfl, hpp, tr, ev_bnd hx, ev_cell hx (w := 1) (j := 0) rfl rfl, e4, q2, w3]
                · have hpn : p.toNat = 0 := by omega
                  rw [hpn] at hx
                  have tr : Prim.ev (.bin .rem) [.c (.int .i64 0), .c (.int .i64 (hs.length : Int))] = some (.c (.int .i64 ((0 % hs.length : Nat) : Int))) := tw_rem 0 hs.length hne
                  simp only [pl_ret, pl_pr, pl_cl, pl_ite, pl_go0, pl_goS, List.map_cons, List.map_nil, ev_k, ev_e, ev_a, List.cons_append, List.nil_append, List.append_assoc, List.getD_cons_zero, List.getD_cons_succ, bind_some', pickN, ifT_b, cond_true, cond_false, decide_true, decide_false, ev_len, ev_lens, ev_scl_i, ev_scl_b, ev_scl_s, ev_lss, ev_leq, ev_gtr, ev_geq, ev_eql, ev_neq, ev_add, ev_sub, ev_eqlS, ev_neqS, ev_bbneq, ev_bbeql, ev_not, Bool.not_true, Bool.not_false, bne_self_eq_false, beq_self_eq_true, pl_join, hat, g2, s3, s4, eo_l01, hin1, hin2, Bool.true_and, w1, ev_bnd hr, ev_cell hr (w := 1) (j := 0) rfl rfl, m2, hm, ev_bnd hv, ev_cell hv (w := 3) (j := 2) rfl rfl, hz, hip, ev_bnd hpr, ev_cell hpr (w := 1) (j := 0) rfl rfl, hpp, tr, ev_bnd hx, ev_cell hx (w := 1) (j := 0) rfl rfl, e4, q2, w3]
            · obtain ⟨x, hx, hxw⟩ := step 0
              obtain ⟨q1, q2⟩ := more x hxw
              have tr : Prim.ev (.bin .rem) [.c (.int .i64 0), .c (.int .i64 (hs.length : Int))] = some (.c (.int .i64 ((0 % hs.length : Nat) : Int))) := tw_rem 0 hs.length hne
              refine ⟨_, _, ⟨_, x, rfl, rfl, by simp [hol], q1, hxw⟩, ?_, ?_⟩ <;> simp only [pl_ret, pl_pr, pl_cl, pl_ite, pl_go0, pl_goS, List.map_cons, List.map_nil, ev_k, ev_e, ev_a, List.cons_append, List.nil_append, List.append_assoc, List.getD_cons_zero, List.getD_cons_succ, bind_some', pickN, ifT_b, cond_true, cond_false, decide_true, decide_false, ev_len, ev_lens, ev_scl_i, ev_scl_b, ev_scl_s, ev_lss, ev_leq, ev_gtr, ev_geq, ev_eql, ev_neq, ev_add, ev_sub, ev_eqlS, ev_neqS, ev_bbneq, ev_bbeql, ev_not, Bool.not_true, Bool.not_false, bne_self_eq_false, beq_self_eq_true, pl_join, hat, g1, g2, s1, s2, s3, s4, eo_in, eo_l01, hin1, hin2, Bool.true_and, w1, w2, ev_bnd hr, ev_cell hr (w := 1) (j := 0) rfl rfl, m1, m2, hm, ev_bnd hv, ev_cell hv (w := 3) (j := 2) rfl rfl, hz, hip, tr, ev_bnd hx, ev_cell hx (w := 1) (j := 0) rfl rfl, e4, q2, w3]
      · have hin' : (decide (at' ≥ 1) && decide (at' ≤ (tb.length : Int))) = false := by
          rw [Bool.and_eq_false_iff]
          by_cases h : at' ≥ 1
          · right; simp only [decide_eq_false_iff_not]; intro h'; exact hin ⟨h, h'⟩
          · left; simp only [decide_eq_false_iff_not]; exact h
        right; refine ⟨[], false, ?_, ?_, by simp, by simp⟩ <;> simp only [pl_ret, pl_pr, pl_cl, pl_ite, pl_go0, pl_goS, List.map_cons, List.map_nil, ev_k, ev_e, ev_a, List.cons_append, List.nil_append, List.append_assoc, List.getD_cons_zero, List.getD_cons_succ, bind_some', pickN, ifT_b, cond_true, cond_false, decide_true, decide_false, ev_len, ev_lens, ev_scl_i, ev_scl_b, ev_scl_s, ev_lss, ev_leq, ev_gtr, ev_geq, ev_eql, ev_neq, ev_add, ev_sub, ev_eqlS, ev_neqS, ev_bbneq, ev_bbeql, ev_not, Bool.not_true, Bool.not_false, bne_self_eq_false, beq_self_eq_true, hat, g1, s1, s3, eo_in, eo_l01, hin', e0]
  · rintro x y ⟨out, at', rfl, rfl, hol, ho, hw⟩ s s'
    cases hat : (at' != to) with
    | false => refine ⟨out, true, ?_, ?_, ho, by omega⟩ <;> simp only [pl_ret, pl_pr, pl_cl, pl_ite, pl_go0, pl_goS, List.map_cons, List.map_nil, ev_k, ev_e, ev_a, List.cons_append, List.nil_append, List.append_assoc, List.getD_cons_zero, List.getD_cons_succ, bind_some', pickN, ifT_b, cond_true, cond_false, decide_true, decide_false, ev_len, ev_lens, ev_scl_i, ev_scl_b, ev_scl_s, ev_lss, ev_leq, ev_gtr, ev_geq, ev_eql, ev_neq, ev_add, ev_sub, ev_eqlS, ev_neqS, ev_bbneq, ev_bbeql, ev_not, Bool.not_true, Bool.not_false, bne_self_eq_false, beq_self_eq_true, hat]
    | true =>
      have g1 : ((out.length : Int) > 12) := by omega
      have g2 : (((12 : Nat) : Int) ≥ 12) := by omega
      refine ⟨[], false, ?_, ?_, by simp, by simp⟩
      · simp only [pl_ret, pl_pr, pl_cl, pl_ite, pl_go0, pl_goS, List.map_cons, List.map_nil, ev_k, ev_e, ev_a, List.cons_append, List.nil_append, List.append_assoc, List.getD_cons_zero, List.getD_cons_succ, bind_some', pickN, ifT_b, cond_true, cond_false, decide_true, decide_false, ev_len, ev_lens, ev_scl_i, ev_scl_b, ev_scl_s, ev_lss, ev_leq, ev_gtr, ev_geq, ev_eql, ev_neq, ev_add, ev_sub, ev_eqlS, ev_neqS, ev_bbneq, ev_bbeql, ev_not, Bool.not_true, Bool.not_false, bne_self_eq_false, beq_self_eq_true, hat, g1]
      · cases hin : (decide (at' ≥ 1) && decide (at' ≤ (tb.length : Int))) <;> simp only [pl_ret, pl_pr, pl_cl, pl_ite, pl_go0, pl_goS, List.map_cons, List.map_nil, ev_k, ev_e, ev_a, List.cons_append, List.nil_append, List.append_assoc, List.getD_cons_zero, List.getD_cons_succ, bind_some', pickN, ifT_b, cond_true, cond_false, decide_true, decide_false, ev_len, ev_lens, ev_scl_i, ev_scl_b, ev_scl_s, ev_lss, ev_leq, ev_gtr, ev_geq, ev_eql, ev_neq, ev_add, ev_sub, ev_eqlS, ev_neqS, ev_bbneq, ev_bbeql, ev_not, Bool.not_true, Bool.not_false, bne_self_eq_false, beq_self_eq_true, hat, g2, s3, eo_l01, hin, e0]
  · intro r hr
    rw [List.mem_singleton] at hr
    subst hr
    exact WTs_mk ⟨_, _, rfl, ⟨_, rfl, hf⟩, rfl⟩

theorem true_FnExactWalk (ts : List T) (h : WTs ys_FnExactWalk ts) : F_FnExactWalk ts = some [.c (.bool true)] := by
  obtain ⟨t0, _, rfl, h0, _, _, rfl, ⟨fr, rfl, w1⟩, _, _, rfl, ⟨to, rfl, w2⟩, t3, _, rfl, h3, rfl⟩ := WTsU_of h
  have gx : WTs [.sl [.sl [.b, .i .i64, .sl [.i .i64]]]] [t0] := WTs_mk ⟨_, _, rfl, h0, rfl⟩
  have gp : WTs [.sl [.i .i64]] [t3] := WTs_mk ⟨_, _, rfl, h3, rfl⟩
  obtain ⟨tb, hq1, _, ht⟩ := gx.sl1
  obtain ⟨ps, hq2, hpm, hp⟩ := gp.sl1
  cases hq1; cases hq2
  have s20 : S_FnExactWalk 20 = F_szLineSS := rfl
  have s21 : S_FnExactWalk 21 = F_s_Walk := rfl
  have s22 : S_FnExactWalk 22 = F_toLineSS := rfl
  have s23 : S_FnExactWalk 23 = F_toIntS := rfl
  have s24 : S_FnExactWalk 24 = F_i_Walk := rfl
  have s25 : S_FnExactWalk 25 = F_eqIntS := rfl
  have s26 : S_FnExactWalk 26 = F_eqLineSS := rfl
  have s29 : S_FnExactWalk 29 = F_heldIntS := rfl
  by_cases q0 : (ps.length : Int) > 1048576
  · simp only [F_FnExactWalk, p_FnExactWalk, pl_ret, pl_pr, pl_cl, pl_ite, pl_go0, pl_goS, List.map_cons, List.map_nil, ev_k, ev_e, ev_a, List.cons_append, List.nil_append, List.append_assoc, List.getD_cons_zero, List.getD_cons_succ, bind_some', pickN, ifT_b, cond_true, cond_false, decide_true, decide_false, ev_len, ev_lens, ev_scl_i, ev_scl_b, ev_scl_s, ev_lss, ev_leq, ev_gtr, ev_geq, ev_eql, ev_neq, ev_add, ev_sub, ev_eqlS, ev_neqS, ev_bbneq, ev_bbeql, ev_not, Bool.not_true, Bool.not_false, bne_self_eq_false, beq_self_eq_true, q0]
  have hpf := bulkRs_flat (fs := [.i .i64]) rfl hp
  obtain ⟨n1, e1, b1, c1⟩ := so_szLineSS _ 1048576 gx (by omega) (by omega)
  simp only [List.cons_append, List.nil_append] at e1
  by_cases q1 : n1 < 0
  · simp only [F_FnExactWalk, p_FnExactWalk, pl_ret, pl_pr, pl_cl, pl_ite, pl_go0, pl_goS, List.map_cons, List.map_nil, ev_k, ev_e, ev_a, List.cons_append, List.nil_append, List.append_assoc, List.getD_cons_zero, List.getD_cons_succ, bind_some', pickN, ifT_b, cond_true, cond_false, decide_true, decide_false, ev_len, ev_lens, ev_scl_i, ev_scl_b, ev_scl_s, ev_lss, ev_leq, ev_gtr, ev_geq, ev_eql, ev_neq, ev_add, ev_sub, ev_eqlS, ev_neqS, ev_bbneq, ev_bbeql, ev_not, Bool.not_true, Bool.not_false, bne_self_eq_false, beq_self_eq_true, s20, e1, q0, q1]
  have c1 := c1 (by omega)
  have e2 := so_toLineSS _ gx (by omega)
  have e3 := so_eqLineSS _ gx (by omega)
  have hbp : bulkR [T.l ps] ≤ 1048576 := by rw [bulkR_cons, bulkR_nil, bulk_l, hpf]; omega
  have e4 := so_toIntS _ gp hbp
  have e5 := so_eqIntS _ gp hbp
  simp only [List.cons_append, List.nil_append] at e3 e5
  rw [bulkR_cons, bulkR_nil, bulk_l] at c1
  obtain ⟨out, b, e6, e7, ho, hol⟩ := tw_same tb fr to ps ht hp w1 (by omega) (by omega)
  have hof := bulkRs_flat (fs := [.i .i64]) rfl ho
  have hout : WTs [.sl [.i .i64]] [.l out] := WTs_sl (by unfold maxLen; omega) ho
  have hbo : bulkR [T.l out] ≤ 1048576 := by rw [bulkR_cons, bulkR_nil, bulk_l]; omega
  have e8 := so_eqIntS _ hout hbo
  simp only [List.cons_append, List.nil_append] at e8
  have e9 := so_heldIntS 1 _ hout hbo (by rw [bulkR_cons, bulkR_nil, bulk_l]; omega)
  rw [mkR_cons, mkR_nil, mkT_sl] at e9
  have e9 : F_heldIntS [.l (mkRows (mkR [.i .i64]) 1 out).2, .c (.int .i64 1)] = some [.c (.int .i64 ((mkRows (mkR [.i .i64]) 1 out).1 : Int))] := e9
  have hn1 := mkRows_le (g := mkR [.sl tyLn]) (xs := tb) (fun m r hr => by
    have := mkR_le [.sl tyLn] m r rfl (ht r hr)
    have h6 : [Ty.sl tyLn].length = 1 := rfl
    rw [h6] at this
    omega) 1
  simp only [F_FnExactWalk, p_FnExactWalk, pl_ret, pl_pr, pl_cl, pl_ite, pl_go0, pl_goS, List.map_cons, List.map_nil, ev_k, ev_e, ev_a, List.cons_append, List.nil_append, List.append_assoc, List.getD_cons_zero, List.getD_cons_succ, bind_some', pickN, ifT_b, cond_true, cond_false, decide_true, decide_false, ev_len, ev_lens, ev_scl_i, ev_scl_b, ev_scl_s, ev_lss, ev_leq, ev_gtr, ev_geq, ev_eql, ev_neq, ev_add, ev_sub, ev_eqlS, ev_neqS, ev_bbneq, ev_bbeql, ev_not, Bool.not_true, Bool.not_false, bne_self_eq_false, beq_self_eq_true, s20, s21, s22, s23, s24, s25, s26, s29, e1, e2, e3, e4, e5, e6, e7, e8, q0, q1]
  refine lv_top (es := [.sl tyLn]) (flds := mkFsP [.sl tyLn] 1 0) (cl := .k (.int .i64 1)) (s := 12) (p := 25) (n := 1) (mkFs_ok [.sl tyLn] 0 rfl 1) (by decide) rfl rfl (by omega) rfl rfl ht (by omega) (by omega) fun f => ?_
  refine lv_top (es := [.i .i64]) (flds := mkFsP [.i .i64] 1 0) (cl := .a 25) (s := 13) (p := 30) (n := (mkRows (mkR [.sl tyLn]) 1 tb).1) (mkFs_ok [.i .i64] 0 rfl 1) (by decide) rfl rfl (by omega) rfl rfl hp (by omega) (by omega) fun f => ?_
  have z1 : ¬ (((mkRows (mkR [.i .i64]) (mkRows (mkR [.sl tyLn]) 1 tb).1 ps).1 : Int) < 0) := by omega
  simp only [pl_ret, pl_pr, pl_cl, pl_ite, pl_go0, pl_goS, List.map_cons, List.map_nil, ev_k, ev_e, ev_a, List.cons_append, List.nil_append, List.append_assoc, List.getD_cons_zero, List.getD_cons_succ, bind_some', pickN, ifT_b, cond_true, cond_false, decide_true, decide_false, ev_len, ev_lens, ev_scl_i, ev_scl_b, ev_scl_s, ev_lss, ev_leq, ev_gtr, ev_geq, ev_eql, ev_neq, ev_add, ev_sub, ev_eqlS, ev_neqS, ev_bbneq, ev_bbeql, ev_not, Bool.not_true, Bool.not_false, bne_self_eq_false, beq_self_eq_true, s25, e8, z1]
  refine lv_top (es := [.i .i64]) (flds := mkFsP [.i .i64] 1 0) (cl := .k (.int .i64 1)) (s := 14) (p := 39) (n := 1) (mkFs_ok [.i .i64] 0 rfl 1) (by decide) rfl rfl (by omega) rfl rfl ho (by omega) (by omega) fun f' => ?_
  have z2 : ¬ (((mkRows (mkR [.i .i64]) 1 out).1 : Int) < 0) := by omega
  simp only [pl_ret, pl_pr, pl_cl, pl_ite, pl_go0, pl_goS, List.map_cons, List.map_nil, ev_k, ev_e, ev_a, List.cons_append, List.nil_append, List.append_assoc, List.getD_cons_zero, List.getD_cons_succ, bind_some', pickN, ifT_b, cond_true, cond_false, decide_true, decide_false, ev_len, ev_lens, ev_scl_i, ev_scl_b, ev_scl_s, ev_lss, ev_leq, ev_gtr, ev_geq, ev_eql, ev_neq, ev_add, ev_sub, ev_eqlS, ev_neqS, ev_bbneq, ev_bbeql, ev_not, Bool.not_true, Bool.not_false, bne_self_eq_false, beq_self_eq_true, s22, s23, s24, s25, s29, e2, e4, e6, e8, e9, z2]

end Go.Proofs.YtmljdpfdpeiniaaC
