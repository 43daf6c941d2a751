/- FnExactDiffer: what the plain programs say. Conditions: none. -/
import Derived.Test.YtmljdpfdpeiniaaXmA
import Derived.Test.YtmljdpfdpeiniaaKd
namespace Go.Proofs.YtmljdpfdpeiniaaC
set_option linter.unusedVariables false
set_option linter.unusedSimpArgs false

def tyLn : List Ty := [.b, .i .i64, .sl [.i .i64]]

theorem ta_cells {r : List T} (h : WTs tyLn r) : ∃ b n hs, r = [.c (.bool b), .c (.int .i64 n), .l hs] ∧ hs.length ≤ maxLen ∧ ∀ x ∈ hs, WTs [.i .i64] x := by
  obtain ⟨_, _, rfl, ⟨b, rfl⟩, _, _, rfl, ⟨n, rfl, _⟩, t, _, rfl, ht, rfl⟩ := WTsU_of h
  unfold WT at ht
  obtain ⟨hs, rfl, h1, h2⟩ := ht
  exact ⟨b, n, hs, rfl, h1, h2⟩

theorem ta_at (acc : List (List T)) (h : ∀ r ∈ acc, WTs tyLn r) (hb : bulkRs acc ≤ 1048576) (b : Bool) (n : Int) (hs : T) :
    ∃ m : Int, F_i_lineAt [.l acc, .c (.bool b), .c (.int .i64 n), hs] = some [.c (.int .i64 m)] ∧ F_s_l11At [.l acc, .c (.bool b), .c (.int .i64 n), hs] = some [.c (.int .i64 m)] ∧ (m < 0 ∨ ∃ i : Nat, m = i ∧ i < acc.length) := by
  have hl := bulkRs_len acc
  simp only [F_i_lineAt, F_s_l11At, p_i_lineAt, p_s_l11At, pl_ret, pl_pr, pl_cl, pl_ite, pl_go0, pl_goS, List.map_cons, List.map_nil, ev_k, ev_e, ev_a, List.cons_append, List.nil_append, List.append_assoc, List.getD_cons_zero, List.getD_cons_succ, bind_some', pickN, ifT_b, cond_true, cond_false, decide_true, decide_false, ev_len, ev_lens, ev_scl_i, ev_scl_b, ev_scl_s, ev_lss, ev_leq, ev_gtr, ev_geq, ev_eql, ev_neq, ev_add, ev_sub, ev_eqlS, ev_neqS, ev_bbneq, ev_bbeql, ev_not, Bool.not_true, Bool.not_false, bne_self_eq_false, beq_self_eq_true]
  rw [pl_loop, pl_loop]
  refine iter_two (n := acc.length) (Rel := fun (i : Nat) (x y : List T) => x = [.c (.int .i64 0), .c (.int .i64 (i : Int))] ∧ y = [.c (.int .i64 0), .c (.int .i64 (i : Int))]) (Q := fun (o o' : Option (List T)) => ∃ m : Int, o = some [.c (.int .i64 m)] ∧ o' = some [.c (.int .i64 m)] ∧ (m < 0 ∨ ∃ i : Nat, m = i ∧ i < acc.length)) ?_ ?_ ⟨rfl, rfl⟩ (by unfold rounds; omega)
  · rintro i x y hi ⟨rfl, rfl⟩ s s'
    obtain ⟨r, hr⟩ := get_some hi
    obtain ⟨rb, rn, rh, rfl, _, _⟩ := ta_cells (h r (mem_of_get hr))
    have hlt : (i : Int) < acc.length := by omega
    have e3 : IntKind.i64.wrap ((i : Int) + 1) = ((i + 1 : Nat) : Int) := by rw [wrap64 (by omega) (by omega)]; simp
    cases h1 : rb == b with
    | true =>
      cases h2 : rn == n with
      | true => refine .inr ⟨i, ?_, ?_, .inr ⟨i, rfl, hi⟩⟩ <;> simp only [pl_ret, pl_pr, pl_cl, pl_ite, pl_go0, pl_goS, List.map_cons, List.map_nil, ev_k, ev_e, ev_a, List.cons_append, List.nil_append, List.append_assoc, List.getD_cons_zero, List.getD_cons_succ, bind_some', pickN, ifT_b, cond_true, cond_false, decide_true, decide_false, ev_len, ev_lens, ev_scl_i, ev_scl_b, ev_scl_s, ev_lss, ev_leq, ev_gtr, ev_geq, ev_eql, ev_neq, ev_add, ev_sub, ev_eqlS, ev_neqS, ev_bbneq, ev_bbeql, ev_not, Bool.not_true, Bool.not_false, bne_self_eq_false, beq_self_eq_true, hlt, ev_bnd hr, ev_cell hr (w := 3) (j := 0) rfl rfl, ev_cell hr (w := 3) (j := 1) rfl rfl, ev_cell hr (w := 3) (j := 2) rfl rfl, h1, h2]
      | false => refine .inl ⟨_, _, ⟨rfl, rfl⟩, ?_, ?_⟩ <;> simp only [pl_ret, pl_pr, pl_cl, pl_ite, pl_go0, pl_goS, List.map_cons, List.map_nil, ev_k, ev_e, ev_a, List.cons_append, List.nil_append, List.append_assoc, List.getD_cons_zero, List.getD_cons_succ, bind_some', pickN, ifT_b, cond_true, cond_false, decide_true, decide_false, ev_len, ev_lens, ev_scl_i, ev_scl_b, ev_scl_s, ev_lss, ev_leq, ev_gtr, ev_geq, ev_eql, ev_neq, ev_add, ev_sub, ev_eqlS, ev_neqS, ev_bbneq, ev_bbeql, ev_not, Bool.not_true, Bool.not_false, bne_self_eq_false, beq_self_eq_true, hlt, ev_bnd hr, ev_cell hr (w := 3) (j := 0) rfl rfl, ev_cell hr (w := 3) (j := 1) rfl rfl, ev_cell hr (w := 3) (j := 2) rfl rfl, h1, h2, e3]
    | false => refine .inl ⟨_, _, ⟨rfl, rfl⟩, ?_, ?_⟩ <;> simp only [pl_ret, pl_pr, pl_cl, pl_ite, pl_go0, pl_goS, List.map_cons, List.map_nil, ev_k, ev_e, ev_a, List.cons_append, List.nil_append, List.append_assoc, List.getD_cons_zero, List.getD_cons_succ, bind_some', pickN, ifT_b, cond_true, cond_false, decide_true, decide_false, ev_len, ev_lens, ev_scl_i, ev_scl_b, ev_scl_s, ev_lss, ev_leq, ev_gtr, ev_geq, ev_eql, ev_neq, ev_add, ev_sub, ev_eqlS, ev_neqS, ev_bbneq, ev_bbeql, ev_not, Bool.not_true, Bool.not_false, bne_self_eq_false, beq_self_eq_true, hlt, ev_bnd hr, ev_cell hr (w := 3) (j := 0) rfl rfl, ev_cell hr (w := 3) (j := 1) rfl rfl, ev_cell hr (w := 3) (j := 2) rfl rfl, h1, e3]
  · rintro x y ⟨rfl, rfl⟩ s s'
    refine ⟨-1, ?_, ?_, .inl (by omega)⟩ <;> simp only [pl_ret, pl_pr, pl_cl, pl_ite, pl_go0, pl_goS, List.map_cons, List.map_nil, ev_k, ev_e, ev_a, List.cons_append, List.nil_append, List.append_assoc, List.getD_cons_zero, List.getD_cons_succ, bind_some', pickN, ifT_b, cond_true, cond_false, decide_true, decide_false, ev_len, ev_lens, ev_scl_i, ev_scl_b, ev_scl_s, ev_lss, ev_leq, ev_gtr, ev_geq, ev_eql, ev_neq, ev_add, ev_sub, ev_eqlS, ev_neqS, ev_bbneq, ev_bbeql, ev_not, Bool.not_true, Bool.not_false, bne_self_eq_false, beq_self_eq_true, Int.lt_irrefl]

theorem ta_ints (hs : List (List T)) (h : ∀ x ∈ hs, WTs [.i .i64] x) (hb : hs.length ≤ 1048576) : Prim.ev (.app true 1) [.l [], .l hs] = some (.l hs) :=
  ev_app (by unfold cap32; simp; omega) (by rw [scals_of rfl h]; rfl) rfl (okW_of rfl h)

theorem ta_copy (b : Bool) (n : Int) (hs : List (List T)) (h : ∀ x ∈ hs, WTs [.i .i64] x) (hb : hs.length ≤ 1048576) :
    F_i_copyLine [.c (.bool b), .c (.int .i64 n), .l hs] = some [.c (.bool b), .c (.int .i64 n), .l hs] ∧ F_s_l11Copy [.c (.bool b), .c (.int .i64 n), .l hs] = some [.c (.bool b), .c (.int .i64 n), .l hs] := by
  have e1 := ta_ints hs h hb
  have e2 : S_i_copyLine 82 = F_i_copyInts := rfl
  have e3 : Prim.ev (.lit 1 []) [] = some (.l []) := rfl
  have e4 : F_i_copyInts [.l hs] = some [.l hs] := by simp only [F_i_copyInts, p_i_copyInts, pl_ret, pl_pr, pl_cl, pl_ite, pl_go0, pl_goS, List.map_cons, List.map_nil, ev_k, ev_e, ev_a, List.cons_append, List.nil_append, List.append_assoc, List.getD_cons_zero, List.getD_cons_succ, bind_some', pickN, ifT_b, cond_true, cond_false, decide_true, decide_false, ev_len, ev_lens, ev_scl_i, ev_scl_b, ev_scl_s, ev_lss, ev_leq, ev_gtr, ev_geq, ev_eql, ev_neq, ev_add, ev_sub, ev_eqlS, ev_neqS, ev_bbneq, ev_bbeql, ev_not, Bool.not_true, Bool.not_false, bne_self_eq_false, beq_self_eq_true, e1]
  constructor
  · simp only [F_i_copyLine, p_i_copyLine, pl_ret, pl_pr, pl_cl, pl_ite, pl_go0, pl_goS, List.map_cons, List.map_nil, ev_k, ev_e, ev_a, List.cons_append, List.nil_append, List.append_assoc, List.getD_cons_zero, List.getD_cons_succ, bind_some', pickN, ifT_b, cond_true, cond_false, decide_true, decide_false, ev_len, ev_lens, ev_scl_i, ev_scl_b, ev_scl_s, ev_lss, ev_leq, ev_gtr, ev_geq, ev_eql, ev_neq, ev_add, ev_sub, ev_eqlS, ev_neqS, ev_bbneq, ev_bbeql, ev_not, Bool.not_true, Bool.not_false, bne_self_eq_false, beq_self_eq_true, e2, e4]
  · simp only [F_s_l11Copy, p_s_l11Copy, pl_ret, pl_pr, pl_cl, pl_ite, pl_go0, pl_goS, List.map_cons, List.map_nil, ev_k, ev_e, ev_a, List.cons_append, List.nil_append, List.append_assoc, List.getD_cons_zero, List.getD_cons_succ, bind_some', pickN, ifT_b, cond_true, cond_false, decide_true, decide_false, ev_len, ev_lens, ev_scl_i, ev_scl_b, ev_scl_s, ev_lss, ev_leq, ev_gtr, ev_geq, ev_eql, ev_neq, ev_add, ev_sub, ev_eqlS, ev_neqS, ev_bbneq, ev_bbeql, ev_not, Bool.not_true, Bool.not_false, bne_self_eq_false, beq_self_eq_true, e3, e1]


def tyTn : List Ty := [.b, .b, .i .i64, .sl [.i .i64]]
def ys_FnExactDiffer : List Ty := [.sl [.b, .i .i64, .sl [.i .i64]], .sl [.b, .i .i64, .sl [.i .i64]]]

theorem td_ints (xs ys : List (List T)) (hx : ∀ r ∈ xs, WTs [.i .i64] r) (hy : ∀ r ∈ ys, WTs [.i .i64] r) (hb : xs.length ≤ 1048576) : Both (F_i_sameInts [.l xs, .l ys]) (F_s_l10SameInts [.l xs, .l ys]) := by
  cases hq : ((xs.length : Int) != (ys.length : Int)) with
  | true => refine ⟨false, ?_, ?_⟩ <;> simp only [F_i_sameInts, F_s_l10SameInts, p_i_sameInts, p_s_l10SameInts, pl_ret, pl_pr, pl_cl, pl_ite, pl_go0, pl_goS, List.map_cons, List.map_nil, ev_k, ev_e, ev_a, List.cons_append, List.nil_append, List.append_assoc, List.getD_cons_zero, List.getD_cons_succ, bind_some', pickN, ifT_b, cond_true, cond_false, decide_true, decide_false, ev_len, ev_lens, ev_scl_i, ev_scl_b, ev_scl_s, ev_lss, ev_leq, ev_gtr, ev_geq, ev_eql, ev_neq, ev_add, ev_sub, ev_eqlS, ev_neqS, ev_bbneq, ev_bbeql, ev_not, Bool.not_true, Bool.not_false, bne_self_eq_false, beq_self_eq_true, hq]
  | false =>
    have hl : xs.length = ys.length := by simp at hq; omega
    simp only [F_i_sameInts, F_s_l10SameInts, p_i_sameInts, p_s_l10SameInts, pl_ret, pl_pr, pl_cl, pl_ite, pl_go0, pl_goS, List.map_cons, List.map_nil, ev_k, ev_e, ev_a, List.cons_append, List.nil_append, List.append_assoc, List.getD_cons_zero, List.getD_cons_succ, bind_some', pickN, ifT_b, cond_true, cond_false, decide_true, decide_false, ev_len, ev_lens, ev_scl_i, ev_scl_b, ev_scl_s, ev_lss, ev_leq, ev_gtr, ev_geq, ev_eql, ev_neq, ev_add, ev_sub, ev_eqlS, ev_neqS, ev_bbneq, ev_bbeql, ev_not, Bool.not_true, Bool.not_false, bne_self_eq_false, beq_self_eq_true, hq]
    rw [pl_loop, pl_loop]
    refine iter_two (n := xs.length) (Rel := fun (i : Nat) (x y : List T) => x = [.c (.bool false), .c (.int .i64 (i : Int))] ∧ y = [.c (.bool false), .c (.int .i64 (i : Int))]) ?_ ?_ ⟨rfl, rfl⟩ (by unfold rounds; omega)
    · rintro i x y hi ⟨rfl, rfl⟩ s s'
      obtain ⟨r, hr⟩ := get_some hi
      obtain ⟨v, hv⟩ := get_some (xs := ys) (i := i) (by omega)
      obtain ⟨_, _, rfl, ⟨c, rfl, _⟩, rfl⟩ := WTsU_of (hx r (mem_of_get hr))
      obtain ⟨_, _, rfl, ⟨e, rfl, _⟩, rfl⟩ := WTsU_of (hy v (mem_of_get hv))
      have hlt : (i : Int) < xs.length := by omega
      have e3 : IntKind.i64.wrap ((i : Int) + 1) = ((i + 1 : Nat) : Int) := by rw [wrap64 (by omega) (by omega)]; simp
      cases hc : (c != e) with
      | false => refine .inl ⟨_, _, ⟨rfl, rfl⟩, ?_, ?_⟩ <;> simp only [pl_ret, pl_pr, pl_cl, pl_ite, pl_go0, pl_goS, List.map_cons, List.map_nil, ev_k, ev_e, ev_a, List.cons_append, List.nil_append, List.append_assoc, List.getD_cons_zero, List.getD_cons_succ, bind_some', pickN, ifT_b, cond_true, cond_false, decide_true, decide_false, ev_len, ev_lens, ev_scl_i, ev_scl_b, ev_scl_s, ev_lss, ev_leq, ev_gtr, ev_geq, ev_eql, ev_neq, ev_add, ev_sub, ev_eqlS, ev_neqS, ev_bbneq, ev_bbeql, ev_not, Bool.not_true, Bool.not_false, bne_self_eq_false, beq_self_eq_true, hlt, ev_bnd hr, ev_bnd hv, ev_cell hr (w := 1) (j := 0) rfl rfl, ev_cell hv (w := 1) (j := 0) rfl rfl, hc, e3]
      | true => refine .inr ⟨false, ?_, ?_⟩ <;> simp only [pl_ret, pl_pr, pl_cl, pl_ite, pl_go0, pl_goS, List.map_cons, List.map_nil, ev_k, ev_e, ev_a, List.cons_append, List.nil_append, List.append_assoc, List.getD_cons_zero, List.getD_cons_succ, bind_some', pickN, ifT_b, cond_true, cond_false, decide_true, decide_false, ev_len, ev_lens, ev_scl_i, ev_scl_b, ev_scl_s, ev_lss, ev_leq, ev_gtr, ev_geq, ev_eql, ev_neq, ev_add, ev_sub, ev_eqlS, ev_neqS, ev_bbneq, ev_bbeql, ev_not, Bool.not_true, Bool.not_false, bne_self_eq_false, beq_self_eq_true, hlt, ev_bnd hr, ev_bnd hv, ev_cell hr (w := 1) (j := 0) rfl rfl, ev_cell hv (w := 1) (j := 0) rfl rfl, hc, e3]
    · rintro x y ⟨rfl, rfl⟩ s s'
      refine ⟨true, ?_, ?_⟩ <;> simp only [pl_ret, pl_pr, pl_cl, pl_ite, pl_go0, pl_goS, List.map_cons, List.map_nil, ev_k, ev_e, ev_a, List.cons_append, List.nil_append, List.append_assoc, List.getD_cons_zero, List.getD_cons_succ, bind_some', pickN, ifT_b, cond_true, cond_false, decide_true, decide_false, ev_len, ev_lens, ev_scl_i, ev_scl_b, ev_scl_s, ev_lss, ev_leq, ev_gtr, ev_geq, ev_eql, ev_neq, ev_add, ev_sub, ev_eqlS, ev_neqS, ev_bbneq, ev_bbeql, ev_not, Bool.not_true, Bool.not_false, bne_self_eq_false, beq_self_eq_true, Int.lt_irrefl]

theorem td_wf {r : List T} (h : WTs tyLn r) : ∃ b n hs, r = [.c (.bool b), .c (.int .i64 n), .l hs] ∧ (Lit.int .i64 n).wf = true ∧ hs.length ≤ maxLen ∧ (∀ x ∈ hs, WTs [.i .i64] x) ∧ bulkR r = bulkRs hs := by
  obtain ⟨_, _, rfl, ⟨b, rfl⟩, _, _, rfl, ⟨n, rfl, hw⟩, t, _, rfl, ht, rfl⟩ := WTsU_of h
  unfold WT at ht
  obtain ⟨hs, rfl, h1, h2⟩ := ht
  exact ⟨b, n, hs, rfl, hw, h1, h2, by simp only [bulkR_cons, bulkR_nil, bulk_l, bulk_i, bulk_b, Nat.add_zero, Nat.zero_add]⟩

theorem td_turn (g b : Bool) (n : Int) (hs : List (List T)) (hw : (Lit.int .i64 n).wf = true) (h1 : hs.length ≤ maxLen) (h2 : ∀ x ∈ hs, WTs [.i .i64] x) : WTs tyTn [.c (.bool g), .c (.bool b), .c (.int .i64 n), .l hs] :=
  WTs_mk ⟨_, _, rfl, ⟨_, rfl⟩, _, _, rfl, ⟨_, rfl⟩, _, _, rfl, ⟨_, rfl, hw⟩, _, _, rfl, WT_sl h1 h2, rfl⟩

theorem td_more {acc : List (List T)} {r : List T} {m k : Nat} (ha : ∀ r ∈ acc, WTs tyTn r) (hr : WTs tyTn r) (hb : bulkRs acc ≤ m) (hk : bulkR r ≤ k) (hm : m ≤ 1048576) :
    (∀ x ∈ acc ++ [r], WTs tyTn x) ∧ bulkRs (acc ++ [r]) ≤ m + (k + 1) ∧ Prim.ev (.app false 4) [.l acc, .l [r]] = some (.l (acc ++ [r])) := by
  have hl := bulkRs_len acc
  refine ⟨?_, ?_, ev_app (by unfold cap32; simp; omega) rfl (okW_of rfl ha) (by simp only [okW]; rw [hr.length]; rfl)⟩
  · intro x hx
    rcases List.mem_append.1 hx with h | h
    · exact ha x h
    · rw [List.mem_singleton] at h; subst h; exact hr
  · rw [bulkRs_append]
    simp only [bulkRs]
    omega

theorem td_same (xs ys : List (List T)) (hx : ∀ r ∈ xs, WTs tyLn r) (hy : ∀ r ∈ ys, WTs tyLn r) (hb : bulkRs xs + bulkRs ys ≤ 1048576) :
    ∃ acc, F_i_Differ [.l xs, .l ys] = some [.l acc] ∧ F_s_Differ [.l xs, .l ys] = some [.l acc] ∧ (∀ r ∈ acc, WTs tyTn r) ∧ bulkRs acc ≤ bulkRs xs + bulkRs ys := by
  have hlx := bulkRs_len xs
  have hly := bulkRs_len ys
  have e0 : Prim.ev (.lit 4 []) [] = some (.l []) := rfl
  have s1 : S_i_Differ 60 = F_i_lineAt := rfl
  have s2 : S_i_Differ 64 = F_i_copyLine := rfl
  have s3 : S_s_Differ 59 = F_s_l11At := rfl
  have s4 : S_s_Differ 62 = F_s_l11Copy := rfl
  have s5 : S_i_Differ 70 = F_i_sameInts := rfl
  have s6 : S_s_Differ 68 = F_s_l10SameInts := rfl
  have e4 : ∀ (g b : Bool) (n : Int) (hs : List (List T)), Prim.ev (.lit 4 [true, true, true, false]) [.c (.bool g), .c (.bool b), .c (.int .i64 n), .l hs] = some (.l [[.c (.bool g), .c (.bool b), .c (.int .i64 n), .l hs]]) := fun g b n hs => ev_lit1 (by omega) rfl rfl
  simp only [F_i_Differ, F_s_Differ, p_i_Differ, p_s_Differ, pl_ret, pl_pr, pl_cl, pl_ite, pl_go0, pl_goS, List.map_cons, List.map_nil, ev_k, ev_e, ev_a, List.cons_append, List.nil_append, List.append_assoc, List.getD_cons_zero, List.getD_cons_succ, bind_some', pickN, ifT_b, cond_true, cond_false, decide_true, decide_false, ev_len, ev_lens, ev_scl_i, ev_scl_b, ev_scl_s, ev_lss, ev_leq, ev_gtr, ev_geq, ev_eql, ev_neq, ev_add, ev_sub, ev_eqlS, ev_neqS, ev_bbneq, ev_bbeql, ev_not, Bool.not_true, Bool.not_false, bne_self_eq_false, beq_self_eq_true, e0]
  rw [pl_loop, pl_loop]
  refine iter_two (n := xs.length) (Rel := fun (i : Nat) (x y : List T) => ∃ acc, x = [.l acc, .c (.int .i64 (i : Int))] ∧ y = [.l acc, .c (.int .i64 (i : Int))] ∧ (∀ r ∈ acc, WTs tyTn r) ∧ bulkRs acc ≤ bulkRs (xs.take i))
    (Q := fun (o o' : Option (List T)) => ∃ acc, o = some [.l acc] ∧ o' = some [.l acc] ∧ (∀ r ∈ acc, WTs tyTn r) ∧ bulkRs acc ≤ bulkRs xs + bulkRs ys) ?_ ?_ ⟨[], rfl, rfl, by simp, by simp [bulkRs]⟩ (by unfold rounds; omega)
  · rintro i x y hi ⟨acc, rfl, rfl, ha, hab⟩ s s'
    obtain ⟨r, hr⟩ := get_some hi
    have hb2 := bulkRs_take_succ hr
    have hb1 : bulkRs (xs.take (i + 1)) ≤ bulkRs xs := by
      have := bulkRs_append (xs.take (i + 1)) (xs.drop (i + 1))
      rw [List.take_append_drop] at this
      omega
    obtain ⟨b, n, hs, rfl, hwf, h1, h2, h3⟩ := td_wf (hx r (mem_of_get hr))
    have hlt : (i : Int) < xs.length := by omega
    have e3 : IntKind.i64.wrap ((i : Int) + 1) = ((i + 1 : Nat) : Int) := by rw [wrap64 (by omega) (by omega)]; simp
    obtain ⟨m, m1, m2, _⟩ := ta_at ys hy (by omega) b n (.l hs)
    obtain ⟨g1, g2, e5⟩ := td_more (k := 0) ha (td_turn true b n [] hwf (by simp) (by simp)) hab (by simp [bulkR_cons, bulkR_nil, bulk_l, bulk_i, bulk_b, bulkRs]) (by omega)
    left
    by_cases hm : m < 0
    · refine ⟨_, _, ⟨_, rfl, rfl, g1, by omega⟩, ?_, ?_⟩ <;> simp only [pl_ret, pl_pr, pl_cl, pl_ite, pl_go0, pl_goS, List.map_cons, List.map_nil, ev_k, ev_e, ev_a, List.cons_append, List.nil_append, List.append_assoc, List.getD_cons_zero, List.getD_cons_succ, bind_some', pickN, ifT_b, cond_true, cond_false, decide_true, decide_false, ev_len, ev_lens, ev_scl_i, ev_scl_b, ev_scl_s, ev_lss, ev_leq, ev_gtr, ev_geq, ev_eql, ev_neq, ev_add, ev_sub, ev_eqlS, ev_neqS, ev_bbneq, ev_bbeql, ev_not, Bool.not_true, Bool.not_false, bne_self_eq_false, beq_self_eq_true, pl_join, hlt, ev_bnd hr, ev_cell hr (w := 3) (j := 0) rfl rfl, ev_cell hr (w := 3) (j := 1) rfl rfl, ev_cell hr (w := 3) (j := 2) rfl rfl, s1, s3, m1, m2, hm, e4, e5, e3]
    · refine ⟨_, _, ⟨_, rfl, rfl, ha, by omega⟩, ?_, ?_⟩ <;> simp only [pl_ret, pl_pr, pl_cl, pl_ite, pl_go0, pl_goS, List.map_cons, List.map_nil, ev_k, ev_e, ev_a, List.cons_append, List.nil_append, List.append_assoc, List.getD_cons_zero, List.getD_cons_succ, bind_some', pickN, ifT_b, cond_true, cond_false, decide_true, decide_false, ev_len, ev_lens, ev_scl_i, ev_scl_b, ev_scl_s, ev_lss, ev_leq, ev_gtr, ev_geq, ev_eql, ev_neq, ev_add, ev_sub, ev_eqlS, ev_neqS, ev_bbneq, ev_bbeql, ev_not, Bool.not_true, Bool.not_false, bne_self_eq_false, beq_self_eq_true, pl_join, hlt, ev_bnd hr, ev_cell hr (w := 3) (j := 0) rfl rfl, ev_cell hr (w := 3) (j := 1) rfl rfl, ev_cell hr (w := 3) (j := 2) rfl rfl, s1, s3, m1, m2, hm, e3]
  · rintro x y ⟨acc0, rfl, rfl, ha0, hab0⟩ s s'
    rw [List.take_length] at hab0
    simp only [pl_ret, pl_pr, pl_cl, pl_ite, pl_go0, pl_goS, List.map_cons, List.map_nil, ev_k, ev_e, ev_a, List.cons_append, List.nil_append, List.append_assoc, List.getD_cons_zero, List.getD_cons_succ, bind_some', pickN, ifT_b, cond_true, cond_false, decide_true, decide_false, ev_len, ev_lens, ev_scl_i, ev_scl_b, ev_scl_s, ev_lss, ev_leq, ev_gtr, ev_geq, ev_eql, ev_neq, ev_add, ev_sub, ev_eqlS, ev_neqS, ev_bbneq, ev_bbeql, ev_not, Bool.not_true, Bool.not_false, bne_self_eq_false, beq_self_eq_true, Int.lt_irrefl]
    rw [pl_loop, pl_loop]
    refine iter_two (n := ys.length) (Rel := fun (i : Nat) (x y : List T) => ∃ acc, x = [.l acc, .c (.int .i64 (i : Int))] ∧ y = [.l acc, .c (.int .i64 (i : Int))] ∧ (∀ r ∈ acc, WTs tyTn r) ∧ bulkRs acc ≤ bulkRs xs + bulkRs (ys.take i))
      (Q := fun (o o' : Option (List T)) => ∃ acc, o = some [.l acc] ∧ o' = some [.l acc] ∧ (∀ r ∈ acc, WTs tyTn r) ∧ bulkRs acc ≤ bulkRs xs + bulkRs ys) ?_ ?_ ⟨acc0, rfl, rfl, ha0, by simp [bulkRs]; omega⟩ (by unfold rounds; omega)
    · rintro i x y hi ⟨acc, rfl, rfl, ha, hab⟩ t t'
      obtain ⟨r, hr⟩ := get_some hi
      have hb2 := bulkRs_take_succ hr
      have hb1 : bulkRs (ys.take (i + 1)) ≤ bulkRs ys := by
        have := bulkRs_append (ys.take (i + 1)) (ys.drop (i + 1))
        rw [List.take_append_drop] at this
        omega
      obtain ⟨b, n, hs, rfl, hwf, h1, h2, h3⟩ := td_wf (hy r (mem_of_get hr))
      have hsl := bulkRs_len hs
      have hlt : (i : Int) < ys.length := by omega
      have e3 : IntKind.i64.wrap ((i : Int) + 1) = ((i + 1 : Nat) : Int) := by rw [wrap64 (by omega) (by omega)]; simp
      obtain ⟨m, m1, m2, hm'⟩ := ta_at xs hx (by omega) b n (.l hs)
      obtain ⟨c1, c2⟩ := ta_copy b n hs h2 (by omega)
      obtain ⟨g1, g2, e5⟩ := td_more (k := bulkRs hs) ha (td_turn false b n hs hwf h1 h2) hab (by simp [bulkR_cons, bulkR_nil, bulk_l, bulk_i, bulk_b]) (by omega)
      left
      by_cases hm : m < 0
      · refine ⟨_, _, ⟨_, rfl, rfl, g1, by omega⟩, ?_, ?_⟩ <;> simp only [pl_ret, pl_pr, pl_cl, pl_ite, pl_go0, pl_goS, List.map_cons, List.map_nil, ev_k, ev_e, ev_a, List.cons_append, List.nil_append, List.append_assoc, List.getD_cons_zero, List.getD_cons_succ, bind_some', pickN, ifT_b, cond_true, cond_false, decide_true, decide_false, ev_len, ev_lens, ev_scl_i, ev_scl_b, ev_scl_s, ev_lss, ev_leq, ev_gtr, ev_geq, ev_eql, ev_neq, ev_add, ev_sub, ev_eqlS, ev_neqS, ev_bbneq, ev_bbeql, ev_not, Bool.not_true, Bool.not_false, bne_self_eq_false, beq_self_eq_true, pl_join, hlt, ev_bnd hr, ev_cell hr (w := 3) (j := 0) rfl rfl, ev_cell hr (w := 3) (j := 1) rfl rfl, ev_cell hr (w := 3) (j := 2) rfl rfl, s1, s2, s3, s4, m1, m2, hm, c1, c2, e4, e5, e3]
      · obtain ⟨mi, rfl, hmi⟩ : ∃ i : Nat, m = i ∧ i < xs.length := by
          rcases hm' with h | h
          · exact absurd h hm
          · exact h
        obtain ⟨v, hv⟩ := get_some hmi
        obtain ⟨vb, vn, vh, rfl, _, _, v2, _⟩ := td_wf (hx v (mem_of_get hv))
        have hbv := bulkRs_get hv
        have hvl := bulkRs_len vh
        obtain ⟨bb, k1, k2⟩ := td_ints vh hs v2 h2 (by simp only [bulkR_cons, bulkR_nil, bulk_l, bulk_i, bulk_b] at hbv; omega)
        cases bb with
        | false => refine ⟨_, _, ⟨_, rfl, rfl, g1, by omega⟩, ?_, ?_⟩ <;> simp only [pl_ret, pl_pr, pl_cl, pl_ite, pl_go0, pl_goS, List.map_cons, List.map_nil, ev_k, ev_e, ev_a, List.cons_append, List.nil_append, List.append_assoc, List.getD_cons_zero, List.getD_cons_succ, bind_some', pickN, ifT_b, cond_true, cond_false, decide_true, decide_false, ev_len, ev_lens, ev_scl_i, ev_scl_b, ev_scl_s, ev_lss, ev_leq, ev_gtr, ev_geq, ev_eql, ev_neq, ev_add, ev_sub, ev_eqlS, ev_neqS, ev_bbneq, ev_bbeql, ev_not, Bool.not_true, Bool.not_false, bne_self_eq_false, beq_self_eq_true, pl_join, hlt, ev_bnd hr, ev_bnd hv, ev_cell hr (w := 3) (j := 0) rfl rfl, ev_cell hr (w := 3) (j := 1) rfl rfl, ev_cell hr (w := 3) (j := 2) rfl rfl, ev_cell hv (w := 3) (j := 2) rfl rfl, s1, s2, s3, s4, s5, s6, m1, m2, hm, c1, c2, k1, k2, e4, e5, e3]
        | true => refine ⟨_, _, ⟨_, rfl, rfl, ha, by omega⟩, ?_, ?_⟩ <;> simp only [pl_ret, pl_pr, pl_cl, pl_ite, pl_go0, pl_goS, List.map_cons, List.map_nil, ev_k, ev_e, ev_a, List.cons_append, List.nil_append, List.append_assoc, List.getD_cons_zero, List.getD_cons_succ, bind_some', pickN, ifT_b, cond_true, cond_false, decide_true, decide_false, ev_len, ev_lens, ev_scl_i, ev_scl_b, ev_scl_s, ev_lss, ev_leq, ev_gtr, ev_geq, ev_eql, ev_neq, ev_add, ev_sub, ev_eqlS, ev_neqS, ev_bbneq, ev_bbeql, ev_not, Bool.not_true, Bool.not_false, bne_self_eq_false, beq_self_eq_true, pl_join, hlt, ev_bnd hr, ev_bnd hv, ev_cell hr (w := 3) (j := 0) rfl rfl, ev_cell hr (w := 3) (j := 1) rfl rfl, ev_cell hr (w := 3) (j := 2) rfl rfl, ev_cell hv (w := 3) (j := 2) rfl rfl, s1, s2, s3, s4, s5, s6, m1, m2, hm, c1, c2, k1, k2, e4, e5, e3]
    · rintro x y ⟨acc, rfl, rfl, ha, hab⟩ t t'
      rw [List.take_length] at hab
      refine ⟨acc, ?_, ?_, ha, hab⟩ <;> simp only [pl_ret, pl_pr, pl_cl, pl_ite, pl_go0, pl_goS, List.map_cons, List.map_nil, ev_k, ev_e, ev_a, List.cons_append, List.nil_append, List.append_assoc, List.getD_cons_zero, List.getD_cons_succ, bind_some', pickN, ifT_b, cond_true, cond_false, decide_true, decide_false, ev_len, ev_lens, ev_scl_i, ev_scl_b, ev_scl_s, ev_lss, ev_leq, ev_gtr, ev_geq, ev_eql, ev_neq, ev_add, ev_sub, ev_eqlS, ev_neqS, ev_bbneq, ev_bbeql, ev_not, Bool.not_true, Bool.not_false, bne_self_eq_false, beq_self_eq_true, Int.lt_irrefl]

theorem true_FnExactDiffer (ts : List T) (h : WTs ys_FnExactDiffer ts) : F_FnExactDiffer ts = some [.c (.bool true)] := by
  obtain ⟨t1, _, rfl, h1, t2, _, rfl, h2, rfl⟩ := WTsU_of h
  have gx : WTs [.sl [.b, .i .i64, .sl [.i .i64]]] [t1] := WTs_mk ⟨_, _, rfl, h1, rfl⟩
  have gy : WTs [.sl [.b, .i .i64, .sl [.i .i64]]] [t2] := WTs_mk ⟨_, _, rfl, h2, rfl⟩
  obtain ⟨xs, hxs, _, hx⟩ := gx.sl1
  obtain ⟨ys, hys, _, hy⟩ := gy.sl1
  cases hxs; cases hys
  have s34 : S_FnExactDiffer 34 = F_eqLineS := rfl
  have s39 : S_FnExactDiffer 39 = F_szLineS := rfl
  have s40 : S_FnExactDiffer 40 = F_s_Differ := rfl
  have s41 : S_FnExactDiffer 41 = F_toLineS := rfl
  have s42 : S_FnExactDiffer 42 = F_i_Differ := rfl
  have s43 : S_FnExactDiffer 43 = F_eqTurnS := rfl
  have s45 : S_FnExactDiffer 45 = F_heldTurnS := rfl
  obtain ⟨n1, e1, b1, c1⟩ := so_szLineS _ 1048576 gx (by omega) (by omega)
  simp only [List.cons_append, List.nil_append] at e1
  by_cases q1 : n1 < 0
  · simp only [F_FnExactDiffer, p_FnExactDiffer, pl_ret, pl_pr, pl_cl, pl_ite, pl_go0, pl_goS, List.map_cons, List.map_nil, ev_k, ev_e, ev_a, List.cons_append, List.nil_append, List.append_assoc, List.getD_cons_zero, List.getD_cons_succ, bind_some', pickN, ifT_b, cond_true, cond_false, decide_true, decide_false, ev_len, ev_lens, ev_scl_i, ev_scl_b, ev_scl_s, ev_lss, ev_leq, ev_gtr, ev_geq, ev_eql, ev_neq, ev_add, ev_sub, ev_eqlS, ev_neqS, ev_bbneq, ev_bbeql, ev_not, Bool.not_true, Bool.not_false, bne_self_eq_false, beq_self_eq_true, s39, e1, q1]
  obtain ⟨n2, e2, b2, c2⟩ := so_szLineS _ n1 gy (by omega) (by omega)
  simp only [List.cons_append, List.nil_append] at e2
  by_cases q2 : n2 < 0
  · simp only [F_FnExactDiffer, p_FnExactDiffer, pl_ret, pl_pr, pl_cl, pl_ite, pl_go0, pl_goS, List.map_cons, List.map_nil, ev_k, ev_e, ev_a, List.cons_append, List.nil_append, List.append_assoc, List.getD_cons_zero, List.getD_cons_succ, bind_some', pickN, ifT_b, cond_true, cond_false, decide_true, decide_false, ev_len, ev_lens, ev_scl_i, ev_scl_b, ev_scl_s, ev_lss, ev_leq, ev_gtr, ev_geq, ev_eql, ev_neq, ev_add, ev_sub, ev_eqlS, ev_neqS, ev_bbneq, ev_bbeql, ev_not, Bool.not_true, Bool.not_false, bne_self_eq_false, beq_self_eq_true, s39, e1, e2, q1, q2]
  have c1 := c1 (by omega)
  have c2 := c2 (by omega)
  have e3 := so_toLineS _ gx (by omega)
  have e4 := so_toLineS _ gy (by omega)
  have e5 := so_eqLineS _ gx (by omega)
  have e6 := so_eqLineS _ gy (by omega)
  simp only [List.cons_append, List.nil_append] at e5 e6
  rw [bulkR_cons, bulkR_nil, bulk_l] at c1 c2
  obtain ⟨acc, e7, e8, ha, hab⟩ := td_same xs ys hx hy (by omega)
  have hal := bulkRs_len acc
  have hacc : WTs [.sl [.b, .b, .i .i64, .sl [.i .i64]]] [.l acc] := WTs_sl (by unfold maxLen; omega) ha
  have hba : bulkR [T.l acc] ≤ 1048576 := by rw [bulkR_cons, bulkR_nil, bulk_l]; omega
  have e9 := so_eqTurnS _ hacc hba
  simp only [List.cons_append, List.nil_append] at e9
  have e10 := so_heldTurnS 1 _ hacc hba (by rw [bulkR_cons, bulkR_nil, bulk_l]; omega)
  rw [mkR_cons, mkR_nil, mkT_sl] at e10
  have e10 : F_heldTurnS [.l (mkRows (mkR tyTn) 1 acc).2, .c (.int .i64 1)] = some [.c (.int .i64 ((mkRows (mkR tyTn) 1 acc).1 : Int))] := e10
  have hn1 := mkRows_le (g := mkR tyLn) (xs := xs) (fun m r hr => by
    have := mkR_le tyLn m r rfl (hx r hr)
    have h6 : tyLn.length = 3 := rfl
    rw [h6] at this
    omega) 1
  simp only [F_FnExactDiffer, p_FnExactDiffer, pl_ret, pl_pr, pl_cl, pl_ite, pl_go0, pl_goS, List.map_cons, List.map_nil, ev_k, ev_e, ev_a, List.cons_append, List.nil_append, List.append_assoc, List.getD_cons_zero, List.getD_cons_succ, bind_some', pickN, ifT_b, cond_true, cond_false, decide_true, decide_false, ev_len, ev_lens, ev_scl_i, ev_scl_b, ev_scl_s, ev_lss, ev_leq, ev_gtr, ev_geq, ev_eql, ev_neq, ev_add, ev_sub, ev_eqlS, ev_neqS, ev_bbneq, ev_bbeql, ev_not, Bool.not_true, Bool.not_false, bne_self_eq_false, beq_self_eq_true, s34, s39, s40, s41, s42, s43, s45, e1, e2, e3, e4, e5, e6, e7, e8, e9, q1, q2]
  refine lv_top (es := tyLn) (flds := mkFsP tyLn 3 0) (cl := .k (.int .i64 1)) (s := 9) (p := 20) (n := 1) (mkFs_ok tyLn 0 rfl 3) (by decide) rfl rfl (by omega) rfl rfl hx (by omega) (by omega) fun f => ?_
  refine lv_top (es := tyLn) (flds := mkFsP tyLn 3 0) (cl := .a 20) (s := 10) (p := 25) (n := (mkRows (mkR tyLn) 1 xs).1) (mkFs_ok tyLn 0 rfl 3) (by decide) rfl rfl (by omega) rfl rfl hy (by omega) (by omega) fun f => ?_
  have z1 : ¬ (((mkRows (mkR tyLn) (mkRows (mkR tyLn) 1 xs).1 ys).1 : Int) < 0) := by omega
  simp only [pl_ret, pl_pr, pl_cl, pl_ite, pl_go0, pl_goS, List.map_cons, List.map_nil, ev_k, ev_e, ev_a, List.cons_append, List.nil_append, List.append_assoc, List.getD_cons_zero, List.getD_cons_succ, bind_some', pickN, ifT_b, cond_true, cond_false, decide_true, decide_false, ev_len, ev_lens, ev_scl_i, ev_scl_b, ev_scl_s, ev_lss, ev_leq, ev_gtr, ev_geq, ev_eql, ev_neq, ev_add, ev_sub, ev_eqlS, ev_neqS, ev_bbneq, ev_bbeql, ev_not, Bool.not_true, Bool.not_false, bne_self_eq_false, beq_self_eq_true, s43, e9, z1]
  refine lv_top (es := tyTn) (flds := mkFsP tyTn 4 0) (cl := .k (.int .i64 1)) (s := 11) (p := 33) (n := 1) (mkFs_ok tyTn 0 rfl 4) (by decide) rfl rfl (by omega) rfl rfl ha (by omega) (by omega) fun f' => ?_
  have z2 : ¬ (((mkRows (mkR tyTn) 1 acc).1 : Int) < 0) := by omega
  simp only [pl_ret, pl_pr, pl_cl, pl_ite, pl_go0, pl_goS, List.map_cons, List.map_nil, ev_k, ev_e, ev_a, List.cons_append, List.nil_append, List.append_assoc, List.getD_cons_zero, List.getD_cons_succ, bind_some', pickN, ifT_b, cond_true, cond_false, decide_true, decide_false, ev_len, ev_lens, ev_scl_i, ev_scl_b, ev_scl_s, ev_lss, ev_leq, ev_gtr, ev_geq, ev_eql, ev_neq, ev_add, ev_sub, ev_eqlS, ev_neqS, ev_bbneq, ev_bbeql, ev_not, Bool.not_true, Bool.not_false, bne_self_eq_false, beq_self_eq_true, s41, s42, s43, s45, e3, e4, e7, e9, e10, z2]

end Go.Proofs.YtmljdpfdpeiniaaC
