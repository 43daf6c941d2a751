/- FnExactTableOf: what the plain programs say. Conditions: none. -/
import Derived.Test.YtmljdpfdpeiniaaXmA
import Derived.Test.YtmljdpfdpeiniaaKd
namespace Go.Proofs.YtmljdpfdpeiniaaC
set_option linter.unusedVariables false
set_option linter.unusedSimpArgs false

def tyLn : List Ty := [.b, .i .i64, .sl [.i .i64]]
def tyRt : List Ty := [.b, .i .i64, .i .i64, .i .i64, .i .i64, .sl [.i .i64]]
def ys_FnExactTableOf : List Ty := [.sl [.b, .i .i64, .i .i64, .i .i64, .i .i64, .sl [.i .i64]]]

theorem ta_cells {r : List T} (h : WTs tyLn r) : ∃ b n hs, r = [.c (.bool b), .c (.int .i64 n), .l hs] ∧ hs.length ≤ maxLen ∧ ∀ x ∈ hs, WTs [.i .i64] x := by
  obtain ⟨_, _, rfl, ⟨b, rfl⟩, _, _, rfl, ⟨n, rfl, _⟩, t, _, rfl, ht, rfl⟩ := WTsU_of h
  unfold WT at ht
  obtain ⟨hs, rfl, h1, h2⟩ := ht
  exact ⟨b, n, hs, rfl, h1, h2⟩

theorem ta_rt {r : List T} (h : WTs tyRt r) : ∃ b n x2 x3 x4 hs, r = [.c (.bool b), .c (.int .i64 n), x2, x3, x4, .l hs] ∧ (Lit.int .i64 n).wf = true ∧ hs.length ≤ maxLen ∧ (∀ x ∈ hs, WTs [.i .i64] x) ∧ bulkR r = bulkRs hs := by
  obtain ⟨_, _, rfl, ⟨b, rfl⟩, _, _, rfl, ⟨n, rfl, hn⟩, _, _, rfl, ⟨_, rfl, _⟩, _, _, rfl, ⟨_, rfl, _⟩, _, _, rfl, ⟨_, rfl, _⟩, t, _, rfl, ht, rfl⟩ := WTsU_of h
  unfold WT at ht
  obtain ⟨hs, rfl, h1, h2⟩ := ht
  exact ⟨b, n, _, _, _, hs, rfl, hn, h1, h2, by simp only [bulkR_cons, bulkR_nil, bulk_l, bulk_i, bulk_b, Nat.add_zero, Nat.zero_add]⟩

theorem ta_at (acc : List (List T)) (h : ∀ r ∈ acc, WTs tyLn r) (hb : bulkRs acc ≤ 1048576) (b : Bool) (n : Int) (hs : T) :
    ∃ m : Int, F_i_lineAt [.l acc, .c (.bool b), .c (.int .i64 n), hs] = some [.c (.int .i64 m)] ∧ F_s_l11At [.l acc, .c (.bool b), .c (.int .i64 n), hs] = some [.c (.int .i64 m)] := by
  have hl := bulkRs_len acc
  simp only [F_i_lineAt, F_s_l11At, p_i_lineAt, p_s_l11At, pl_ret, pl_pr, pl_cl, pl_ite, pl_go0, pl_goS, List.map_cons, List.map_nil, ev_k, ev_e, ev_a, List.cons_append, List.nil_append, List.append_assoc, List.getD_cons_zero, List.getD_cons_succ, bind_some', pickN, ifT_b, cond_true, cond_false, decide_true, decide_false, ev_len, ev_lens, ev_scl_i, ev_scl_b, ev_scl_s, ev_lss, ev_leq, ev_gtr, ev_geq, ev_eql, ev_neq, ev_add, ev_sub, ev_eqlS, ev_neqS, ev_bbneq, ev_bbeql, ev_not, Bool.not_true, Bool.not_false, bne_self_eq_false, beq_self_eq_true]
  rw [pl_loop, pl_loop]
  refine iter_two (n := acc.length) (Rel := fun (i : Nat) (x y : List T) => x = [.c (.int .i64 0), .c (.int .i64 (i : Int))] ∧ y = [.c (.int .i64 0), .c (.int .i64 (i : Int))]) (Q := fun (o o' : Option (List T)) => ∃ m : Int, o = some [.c (.int .i64 m)] ∧ o' = some [.c (.int .i64 m)]) ?_ ?_ ⟨rfl, rfl⟩ (by unfold rounds; omega)
  · rintro i x y hi ⟨rfl, rfl⟩ s s'
    obtain ⟨r, hr⟩ := get_some hi
    obtain ⟨rb, rn, rh, rfl, _, _⟩ := ta_cells (h r (mem_of_get hr))
    have hlt : (i : Int) < acc.length := by omega
    have e3 : IntKind.i64.wrap ((i : Int) + 1) = ((i + 1 : Nat) : Int) := by rw [wrap64 (by omega) (by omega)]; simp
    cases h1 : rb == b with
    | true =>
      cases h2 : rn == n with
      | true => refine .inr ⟨i, ?_, ?_⟩ <;> simp only [pl_ret, pl_pr, pl_cl, pl_ite, pl_go0, pl_goS, List.map_cons, List.map_nil, ev_k, ev_e, ev_a, List.cons_append, List.nil_append, List.append_assoc, List.getD_cons_zero, List.getD_cons_succ, bind_some', pickN, ifT_b, cond_true, cond_false, decide_true, decide_false, ev_len, ev_lens, ev_scl_i, ev_scl_b, ev_scl_s, ev_lss, ev_leq, ev_gtr, ev_geq, ev_eql, ev_neq, ev_add, ev_sub, ev_eqlS, ev_neqS, ev_bbneq, ev_bbeql, ev_not, Bool.not_true, Bool.not_false, bne_self_eq_false, beq_self_eq_true, hlt, ev_bnd hr, ev_cell hr (w := 3) (j := 0) rfl rfl, ev_cell hr (w := 3) (j := 1) rfl rfl, ev_cell hr (w := 3) (j := 2) rfl rfl, h1, h2]
      | false => refine .inl ⟨_, _, ⟨rfl, rfl⟩, ?_, ?_⟩ <;> simp only [pl_ret, pl_pr, pl_cl, pl_ite, pl_go0, pl_goS, List.map_cons, List.map_nil, ev_k, ev_e, ev_a, List.cons_append, List.nil_append, List.append_assoc, List.getD_cons_zero, List.getD_cons_succ, bind_some', pickN, ifT_b, cond_true, cond_false, decide_true, decide_false, ev_len, ev_lens, ev_scl_i, ev_scl_b, ev_scl_s, ev_lss, ev_leq, ev_gtr, ev_geq, ev_eql, ev_neq, ev_add, ev_sub, ev_eqlS, ev_neqS, ev_bbneq, ev_bbeql, ev_not, Bool.not_true, Bool.not_false, bne_self_eq_false, beq_self_eq_true, hlt, ev_bnd hr, ev_cell hr (w := 3) (j := 0) rfl rfl, ev_cell hr (w := 3) (j := 1) rfl rfl, ev_cell hr (w := 3) (j := 2) rfl rfl, h1, h2, e3]
    | false => refine .inl ⟨_, _, ⟨rfl, rfl⟩, ?_, ?_⟩ <;> simp only [pl_ret, pl_pr, pl_cl, pl_ite, pl_go0, pl_goS, List.map_cons, List.map_nil, ev_k, ev_e, ev_a, List.cons_append, List.nil_append, List.append_assoc, List.getD_cons_zero, List.getD_cons_succ, bind_some', pickN, ifT_b, cond_true, cond_false, decide_true, decide_false, ev_len, ev_lens, ev_scl_i, ev_scl_b, ev_scl_s, ev_lss, ev_leq, ev_gtr, ev_geq, ev_eql, ev_neq, ev_add, ev_sub, ev_eqlS, ev_neqS, ev_bbneq, ev_bbeql, ev_not, Bool.not_true, Bool.not_false, bne_self_eq_false, beq_self_eq_true, hlt, ev_bnd hr, ev_cell hr (w := 3) (j := 0) rfl rfl, ev_cell hr (w := 3) (j := 1) rfl rfl, ev_cell hr (w := 3) (j := 2) rfl rfl, h1, e3]
  · rintro x y ⟨rfl, rfl⟩ s s'
    refine ⟨-1, ?_, ?_⟩ <;> simp only [pl_ret, pl_pr, pl_cl, pl_ite, pl_go0, pl_goS, List.map_cons, List.map_nil, ev_k, ev_e, ev_a, List.cons_append, List.nil_append, List.append_assoc, List.getD_cons_zero, List.getD_cons_succ, bind_some', pickN, ifT_b, cond_true, cond_false, decide_true, decide_false, ev_len, ev_lens, ev_scl_i, ev_scl_b, ev_scl_s, ev_lss, ev_leq, ev_gtr, ev_geq, ev_eql, ev_neq, ev_add, ev_sub, ev_eqlS, ev_neqS, ev_bbneq, ev_bbeql, ev_not, Bool.not_true, Bool.not_false, bne_self_eq_false, beq_self_eq_true, Int.lt_irrefl]

theorem ta_ints (hs : List (List T)) (h : ∀ x ∈ hs, WTs [.i .i64] x) (hb : hs.length ≤ 1048576) : Prim.ev (.app true 1) [.l [], .l hs] = some (.l hs) :=
  ev_app (by unfold cap32; simp; omega) (by rw [scals_of rfl h]; rfl) rfl (okW_of rfl h)

theorem ta_copy (b : Bool) (n : Int) (hs : List (List T)) (h : ∀ x ∈ hs, WTs [.i .i64] x) (hb : hs.length ≤ 1048576) :
    F_i_copyLine [.c (.bool b), .c (.int .i64 n), .l hs] = some [.c (.bool b), .c (.int .i64 n), .l hs] ∧ F_s_l11Copy [.c (.bool b), .c (.int .i64 n), .l hs] = some [.c (.bool b), .c (.int .i64 n), .l hs] := by
  have e1 := ta_ints hs h hb
  have e2 : S_i_copyLine 82 = F_i_copyInts := rfl
  have e3 : Prim.ev (.lit 1 []) [] = some (.l []) := rfl
  have e4 : F_i_copyInts [.l hs] = some [.l hs] := by simp only [F_i_copyInts, p_i_copyInts, pl_ret, pl_pr, pl_cl, pl_ite, pl_go0, pl_goS, List.map_cons, List.map_nil, ev_k, ev_e, ev_a, List.cons_append, List.nil_append, List.append_assoc, List.getD_cons_zero, List.getD_cons_succ, bind_some', pickN, ifT_b, cond_true, cond_false, decide_true, decide_false, ev_len, ev_lens, ev_scl_i, ev_scl_b, ev_scl_s, ev_lss, ev_leq, ev_gtr, ev_geq, ev_eql, ev_neq, ev_add, ev_sub, ev_eqlS, ev_neqS, ev_bbneq, ev_bbeql, ev_not, Bool.not_true, Bool.not_false, bne_self_eq_false, beq_self_eq_true, e1]
  constructor
  · simp only [F_i_copyLine, p_i_copyLine, pl_ret, pl_pr, pl_cl, pl_ite, pl_go0, pl_goS, List.map_cons, List.map_nil, ev_k, ev_e, ev_a, List.cons_append, List.nil_append, List.append_assoc, List.getD_cons_zero, List.getD_cons_succ, bind_some', pickN, ifT_b, cond_true, cond_false, decide_true, decide_false, ev_len, ev_lens, ev_scl_i, ev_scl_b, ev_scl_s, ev_lss, ev_leq, ev_gtr, ev_geq, ev_eql, ev_neq, ev_add, ev_sub, ev_eqlS, ev_neqS, ev_bbneq, ev_bbeql, ev_not, Bool.not_true, Bool.not_false, bne_self_eq_false, beq_self_eq_true, e2, e4]
  · simp only [F_s_l11Copy, p_s_l11Copy, pl_ret, pl_pr, pl_cl, pl_ite, pl_go0, pl_goS, List.map_cons, List.map_nil, ev_k, ev_e, ev_a, List.cons_append, List.nil_append, List.append_assoc, List.getD_cons_zero, List.getD_cons_succ, bind_some', pickN, ifT_b, cond_true, cond_false, decide_true, decide_false, ev_len, ev_lens, ev_scl_i, ev_scl_b, ev_scl_s, ev_lss, ev_leq, ev_gtr, ev_geq, ev_eql, ev_neq, ev_add, ev_sub, ev_eqlS, ev_neqS, ev_bbneq, ev_bbeql, ev_not, Bool.not_true, Bool.not_false, bne_self_eq_false, beq_self_eq_true, e3, e1]

theorem ta_same (xs : List (List T)) (hx : ∀ r ∈ xs, WTs tyRt r) (hb : bulkRs xs ≤ 1048576) :
    ∃ acc, F_i_TableOf [.l xs] = some [.l acc] ∧ F_s_TableOf [.l xs] = some [.l acc] ∧ (∀ r ∈ acc, WTs tyLn r) ∧ bulkRs acc ≤ bulkRs xs := by
  have hl := bulkRs_len xs
  have e0 : Prim.ev (.lit 3 []) [] = some (.l []) := rfl
  simp only [F_i_TableOf, F_s_TableOf, p_i_TableOf, p_s_TableOf, pl_ret, pl_pr, pl_cl, pl_ite, pl_go0, pl_goS, List.map_cons, List.map_nil, ev_k, ev_e, ev_a, List.cons_append, List.nil_append, List.append_assoc, List.getD_cons_zero, List.getD_cons_succ, bind_some', pickN, ifT_b, cond_true, cond_false, decide_true, decide_false, ev_len, ev_lens, ev_scl_i, ev_scl_b, ev_scl_s, ev_lss, ev_leq, ev_gtr, ev_geq, ev_eql, ev_neq, ev_add, ev_sub, ev_eqlS, ev_neqS, ev_bbneq, ev_bbeql, ev_not, Bool.not_true, Bool.not_false, bne_self_eq_false, beq_self_eq_true, e0]
  rw [pl_loop, pl_loop]
  refine iter_two (n := xs.length) (Rel := fun (i : Nat) (x y : List T) => ∃ acc, x = [.l acc, .c (.int .i64 (i : Int))] ∧ y = [.l acc, .c (.int .i64 (i : Int))] ∧ (∀ r ∈ acc, WTs tyLn r) ∧ bulkRs acc ≤ bulkRs (xs.take i))
    (Q := fun (o o' : Option (List T)) => ∃ acc, o = some [.l acc] ∧ o' = some [.l acc] ∧ (∀ r ∈ acc, WTs tyLn r) ∧ bulkRs acc ≤ bulkRs xs) ?_ ?_ ⟨[], rfl, rfl, by simp, by simp [bulkRs]⟩ (by unfold rounds; omega)
  · rintro i x y hi ⟨acc, rfl, rfl, ha, hab⟩ s s'
    obtain ⟨r, hr⟩ := get_some hi
    have hb2 := bulkRs_take_succ hr
    have hb1 : bulkRs (xs.take (i + 1)) ≤ bulkRs xs := by
      have := bulkRs_append (xs.take (i + 1)) (xs.drop (i + 1))
      rw [List.take_append_drop] at this
      omega
    obtain ⟨b, n, x2, x3, x4, hs, rfl, hwf, h1, h2, h3⟩ := ta_rt (hx r (mem_of_get hr))
    have hsl := bulkRs_len hs
    have hal := bulkRs_len acc
    have hlt : (i : Int) < xs.length := by omega
    have e3 : IntKind.i64.wrap ((i : Int) + 1) = ((i + 1 : Nat) : Int) := by rw [wrap64 (by omega) (by omega)]; simp
    obtain ⟨m, m1, m2⟩ := ta_at acc ha (by omega) b n (.l hs)
    obtain ⟨c1, c2⟩ := ta_copy b n hs h2 (by omega)
    have s1 : S_i_TableOf 60 = F_i_lineAt := rfl
    have s2 : S_i_TableOf 64 = F_i_copyLine := rfl
    have s3 : S_s_TableOf 59 = F_s_l11At := rfl
    have s4 : S_s_TableOf 62 = F_s_l11Copy := rfl
    have e4 : Prim.ev (.lit 3 [true, true, false]) [.c (.bool b), .c (.int .i64 n), .l hs] = some (.l [[.c (.bool b), .c (.int .i64 n), .l hs]]) := ev_lit1 (by omega) rfl rfl
    have hnew : WTs tyLn [.c (.bool b), .c (.int .i64 n), .l hs] := WTs_mk ⟨_, _, rfl, ⟨_, rfl⟩, _, _, rfl, ⟨_, rfl, hwf⟩, _, _, rfl, WT_sl h1 h2, rfl⟩
    have e5 : Prim.ev (.app false 3) [.l acc, .l [[.c (.bool b), .c (.int .i64 n), .l hs]]] = some (.l (acc ++ [[.c (.bool b), .c (.int .i64 n), .l hs]])) :=
      ev_app (by unfold cap32; simp; omega) rfl (okW_of rfl ha) rfl
    have hbn : bulkRs (acc ++ [[.c (.bool b), .c (.int .i64 n), .l hs]]) ≤ bulkRs (xs.take (i + 1)) := by
      rw [bulkRs_append]
      simp only [bulkRs, bulkR_cons, bulkR_nil, bulk_l, bulk_i, bulk_b] at h3 hb2 ⊢
      omega
    have hwn : ∀ r ∈ acc ++ [[.c (.bool b), .c (.int .i64 n), .l hs]], WTs tyLn r := by
      intro r hr
      rcases List.mem_append.1 hr with h | h
      · exact ha r h
      · rw [List.mem_singleton] at h; subst h; exact hnew
    left
    by_cases hm : m < 0
    · refine ⟨_, _, ⟨_, rfl, rfl, hwn, hbn⟩, ?_, ?_⟩ <;> simp only [pl_ret, pl_pr, pl_cl, pl_ite, pl_go0, pl_goS, List.map_cons, List.map_nil, ev_k, ev_e, ev_a, List.cons_append, List.nil_append, List.append_assoc, List.getD_cons_zero, List.getD_cons_succ, bind_some', pickN, ifT_b, cond_true, cond_false, decide_true, decide_false, ev_len, ev_lens, ev_scl_i, ev_scl_b, ev_scl_s, ev_lss, ev_leq, ev_gtr, ev_geq, ev_eql, ev_neq, ev_add, ev_sub, ev_eqlS, ev_neqS, ev_bbneq, ev_bbeql, ev_not, Bool.not_true, Bool.not_false, bne_self_eq_false, beq_self_eq_true, pl_join, hlt, ev_bnd hr, ev_cell hr (w := 6) (j := 0) rfl rfl, ev_cell hr (w := 6) (j := 1) rfl rfl, ev_cell hr (w := 6) (j := 2) rfl rfl, ev_cell hr (w := 6) (j := 3) rfl rfl, ev_cell hr (w := 6) (j := 4) rfl rfl, ev_cell hr (w := 6) (j := 5) rfl rfl, s1, s2, s3, s4, m1, m2, hm, c1, c2, e4, e5, e3]
    · refine ⟨_, _, ⟨_, rfl, rfl, ha, by omega⟩, ?_, ?_⟩ <;> simp only [pl_ret, pl_pr, pl_cl, pl_ite, pl_go0, pl_goS, List.map_cons, List.map_nil, ev_k, ev_e, ev_a, List.cons_append, List.nil_append, List.append_assoc, List.getD_cons_zero, List.getD_cons_succ, bind_some', pickN, ifT_b, cond_true, cond_false, decide_true, decide_false, ev_len, ev_lens, ev_scl_i, ev_scl_b, ev_scl_s, ev_lss, ev_leq, ev_gtr, ev_geq, ev_eql, ev_neq, ev_add, ev_sub, ev_eqlS, ev_neqS, ev_bbneq, ev_bbeql, ev_not, Bool.not_true, Bool.not_false, bne_self_eq_false, beq_self_eq_true, pl_join, hlt, ev_bnd hr, ev_cell hr (w := 6) (j := 0) rfl rfl, ev_cell hr (w := 6) (j := 1) rfl rfl, ev_cell hr (w := 6) (j := 2) rfl rfl, ev_cell hr (w := 6) (j := 3) rfl rfl, ev_cell hr (w := 6) (j := 4) rfl rfl, ev_cell hr (w := 6) (j := 5) rfl rfl, s1, s2, s3, s4, m1, m2, hm, e3]
  · rintro x y ⟨acc, rfl, rfl, ha, hab⟩ s s'
    rw [List.take_length] at hab
    refine ⟨acc, ?_, ?_, ha, hab⟩ <;> simp only [pl_ret, pl_pr, pl_cl, pl_ite, pl_go0, pl_goS, List.map_cons, List.map_nil, ev_k, ev_e, ev_a, List.cons_append, List.nil_append, List.append_assoc, List.getD_cons_zero, List.getD_cons_succ, bind_some', pickN, ifT_b, cond_true, cond_false, decide_true, decide_false, ev_len, ev_lens, ev_scl_i, ev_scl_b, ev_scl_s, ev_lss, ev_leq, ev_gtr, ev_geq, ev_eql, ev_neq, ev_add, ev_sub, ev_eqlS, ev_neqS, ev_bbneq, ev_bbeql, ev_not, Bool.not_true, Bool.not_false, bne_self_eq_false, beq_self_eq_true, Int.lt_irrefl]


theorem true_FnExactTableOf (ts : List T) (h : WTs ys_FnExactTableOf ts) : F_FnExactTableOf ts = some [.c (.bool true)] := by
  obtain ⟨xs, rfl, _, hx⟩ := h.sl1
  have s30 : S_FnExactTableOf 30 = F_szRouteS := rfl
  have s31 : S_FnExactTableOf 31 = F_s_TableOf := rfl
  have s32 : S_FnExactTableOf 32 = F_toRouteS := rfl
  have s33 : S_FnExactTableOf 33 = F_i_TableOf := rfl
  have s34 : S_FnExactTableOf 34 = F_eqLineS := rfl
  have s35 : S_FnExactTableOf 35 = F_eqRouteS := rfl
  have s38 : S_FnExactTableOf 38 = F_heldLineS := rfl
  obtain ⟨n1, e1, b1, c1⟩ := so_szRouteS _ 1048576 h (by omega) (by omega)
  simp only [List.cons_append, List.nil_append] at e1
  by_cases q1 : n1 < 0
  · simp only [F_FnExactTableOf, p_FnExactTableOf, pl_ret, pl_pr, pl_cl, pl_ite, pl_go0, pl_goS, List.map_cons, List.map_nil, ev_k, ev_e, ev_a, List.cons_append, List.nil_append, List.append_assoc, List.getD_cons_zero, List.getD_cons_succ, bind_some', pickN, ifT_b, cond_true, cond_false, decide_true, decide_false, ev_len, ev_lens, ev_scl_i, ev_scl_b, ev_scl_s, ev_lss, ev_leq, ev_gtr, ev_geq, ev_eql, ev_neq, ev_add, ev_sub, ev_eqlS, ev_neqS, ev_bbneq, ev_bbeql, ev_not, Bool.not_true, Bool.not_false, bne_self_eq_false, beq_self_eq_true, s30, e1, q1]
  have c1 := c1 (by omega)
  have e2 := so_toRouteS _ h (by omega)
  have e3 := so_eqRouteS _ h (by omega)
  simp only [List.cons_append, List.nil_append] at e3
  rw [bulkR_cons, bulkR_nil, bulk_l] at c1
  obtain ⟨acc, e4, e5, ha, hab⟩ := ta_same xs hx (by omega)
  have hal := bulkRs_len acc
  have hacc : WTs [.sl [.b, .i .i64, .sl [.i .i64]]] [.l acc] := WTs_sl (by unfold maxLen; omega) ha
  have hba : bulkR [T.l acc] ≤ 1048576 := by rw [bulkR_cons, bulkR_nil, bulk_l]; omega
  have e6 := so_eqLineS _ hacc hba
  simp only [List.cons_append, List.nil_append] at e6
  have e7 := so_heldLineS 1 _ hacc hba (by rw [bulkR_cons, bulkR_nil, bulk_l]; omega)
  rw [mkR_cons, mkR_nil, mkT_sl] at e7
  have e7 : F_heldLineS [.l (mkRows (mkR tyLn) 1 acc).2, .c (.int .i64 1)] = some [.c (.int .i64 ((mkRows (mkR tyLn) 1 acc).1 : Int))] := e7
  have hn1 := mkRows_le (g := mkR tyRt) (xs := xs) (fun m r hr => by
    have := mkR_le tyRt m r rfl (hx r hr)
    have h6 : tyRt.length = 6 := rfl
    rw [h6] at this
    omega) 1
  simp only [F_FnExactTableOf, p_FnExactTableOf, pl_ret, pl_pr, pl_cl, pl_ite, pl_go0, pl_goS, List.map_cons, List.map_nil, ev_k, ev_e, ev_a, List.cons_append, List.nil_append, List.append_assoc, List.getD_cons_zero, List.getD_cons_succ, bind_some', pickN, ifT_b, cond_true, cond_false, decide_true, decide_false, ev_len, ev_lens, ev_scl_i, ev_scl_b, ev_scl_s, ev_lss, ev_leq, ev_gtr, ev_geq, ev_eql, ev_neq, ev_add, ev_sub, ev_eqlS, ev_neqS, ev_bbneq, ev_bbeql, ev_not, Bool.not_true, Bool.not_false, bne_self_eq_false, beq_self_eq_true, s30, s31, s32, s33, s34, s35, s38, e1, e2, e3, e4, e5, e6, q1]
  refine lv_top (es := tyRt) (flds := mkFsP tyRt 6 0) (cl := .k (.int .i64 1)) (s := 5) (p := 12) (n := 1) (mkFs_ok tyRt 0 rfl 6) (by decide) rfl rfl (by omega) rfl rfl hx (by omega) (by omega) fun f => ?_
  have z1 : ¬ (((mkRows (mkR tyRt) 1 xs).1 : Int) < 0) := by omega
  simp only [pl_ret, pl_pr, pl_cl, pl_ite, pl_go0, pl_goS, List.map_cons, List.map_nil, ev_k, ev_e, ev_a, List.cons_append, List.nil_append, List.append_assoc, List.getD_cons_zero, List.getD_cons_succ, bind_some', pickN, ifT_b, cond_true, cond_false, decide_true, decide_false, ev_len, ev_lens, ev_scl_i, ev_scl_b, ev_scl_s, ev_lss, ev_leq, ev_gtr, ev_geq, ev_eql, ev_neq, ev_add, ev_sub, ev_eqlS, ev_neqS, ev_bbneq, ev_bbeql, ev_not, Bool.not_true, Bool.not_false, bne_self_eq_false, beq_self_eq_true, s34, e6, z1]
  refine lv_top (es := tyLn) (flds := mkFsP tyLn 3 0) (cl := .k (.int .i64 1)) (s := 6) (p := 20) (n := 1) (mkFs_ok tyLn 0 rfl 3) (by decide) rfl rfl (by omega) rfl rfl ha (by omega) (by omega) fun f' => ?_
  have z2 : ¬ (((mkRows (mkR tyLn) 1 acc).1 : Int) < 0) := by omega
  simp only [pl_ret, pl_pr, pl_cl, pl_ite, pl_go0, pl_goS, List.map_cons, List.map_nil, ev_k, ev_e, ev_a, List.cons_append, List.nil_append, List.append_assoc, List.getD_cons_zero, List.getD_cons_succ, bind_some', pickN, ifT_b, cond_true, cond_false, decide_true, decide_false, ev_len, ev_lens, ev_scl_i, ev_scl_b, ev_scl_s, ev_lss, ev_leq, ev_gtr, ev_geq, ev_eql, ev_neq, ev_add, ev_sub, ev_eqlS, ev_neqS, ev_bbneq, ev_bbeql, ev_not, Bool.not_true, Bool.not_false, bne_self_eq_false, beq_self_eq_true, s32, s33, s34, s38, e2, e5, e4, e6, e7, z2]

end Go.Proofs.YtmljdpfdpeiniaaC
