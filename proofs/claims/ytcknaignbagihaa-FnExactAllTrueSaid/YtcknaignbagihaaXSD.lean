/- What the tests of worlds compute: what was told, who knows the same. Conditions: none. -/
import Derived.Test.YtcknaignbagihaaXSC
namespace Go.Proofs.YtcknaignbagihaaC
set_option linter.unusedVariables false
set_option linter.unusedSimpArgs false

def told1 (l : List Rcd) (r : Rcd) : Bool := l.foldl (fun c x => c || sameBody x r && (x.seq == r.seq)) false
def trueTold (l s : List Rcd) : Bool := allB s.length fun i => told1 l (gt s i)

theorem e_i_TrueTold (l s : List Rcd) (h1 : l.length ≤ 1048576) (h2 : s.length ≤ 1048576) (hn : NearL l) : F_i_TrueTold [.l (l.map eRcd), .l (s.map eRcd)] = some [bb (trueTold l s)] := by
  rw [g_i_TrueTold]; simp (disch := omega) only [ps, if_true, if_false, Int.lt_irrefl, Int.reduceLE, Int.reduceLT, Int.reduceEq, Int.reduceGT, Int.reduceGE, G_i_TrueTold]
  refine (iter_allx s.length (fun i => [bb false, ii i]) (fun i => told1 l (gt s i)) (outF := some [bb false]) (outT := some [bb true]) rfl (rounds_lt h2) ?_ ?_).trans (ite_bb _ _ _ |>.trans (by unfold trueTold; simp))
  · intro i hi k
    simp (disch := omega) only [ps, if_true, if_false, Int.lt_irrefl, Int.reduceLE, Int.reduceLT, Int.reduceEq, Int.reduceGT, Int.reduceGE, hi]
    refine (iter_foldlx l (fun j c => [bb c, ii j]) (fun c x => c || sameBody x (gt s i) && (x.seq == (gt s i).seq)) (fun c => if c = true then k [bb false, ii ((i + 1 : Nat))] else some [bb false]) false (fun _ _ => True) rfl (rounds_lt h1) trivial ?_ ?_).trans ?_
    · intro j c hj _
      refine ⟨trivial, fun k => ?_⟩
      have := hn.gt (n := j) (by omega) hj
      simp (disch := omega) only [ps, if_true, if_false, Int.lt_irrefl, Int.reduceLE, Int.reduceLT, Int.reduceEq, Int.reduceGT, Int.reduceGE, hj, e_i_SameBody]
      cases c <;> cases sameBody (gt l j) (gt s i) <;> simp
    · intro c k' _
      simp (disch := omega) only [ps, if_true, if_false, Int.lt_irrefl, Int.reduceLE, Int.reduceLT, Int.reduceEq, Int.reduceGT, Int.reduceGE, ]
      cases c <;> simp
    · unfold told1; simp (disch := omega) only [ps, if_true, if_false, Int.lt_irrefl, Int.reduceLE, Int.reduceLT, Int.reduceEq, Int.reduceGT, Int.reduceGE, ]
  · intro k
    simp (disch := omega) only [ps, if_true, if_false, Int.lt_irrefl, Int.reduceLE, Int.reduceLT, Int.reduceEq, Int.reduceGT, Int.reduceGE, ]

theorem e_s_TrueTold (l s : List Rcd) (h1 : l.length ≤ 1048576) (h2 : s.length ≤ 1048576) (hn : NearL l) : F_s_TrueTold [.l (l.map eRcd), .l (s.map eRcd)] = some [bb (trueTold l s)] := by
  rw [g_s_TrueTold]; simp (disch := omega) only [ps, if_true, if_false, Int.lt_irrefl, Int.reduceLE, Int.reduceLT, Int.reduceEq, Int.reduceGT, Int.reduceGE, G_s_TrueTold]
  refine (iter_allx s.length (fun i => [bb false, ii i]) (fun i => told1 l (gt s i)) (outF := some [bb false]) (outT := some [bb true]) rfl (rounds_lt h2) ?_ ?_).trans (ite_bb _ _ _ |>.trans (by unfold trueTold; simp))
  · intro i hi k
    simp (disch := omega) only [ps, if_true, if_false, Int.lt_irrefl, Int.reduceLE, Int.reduceLT, Int.reduceEq, Int.reduceGT, Int.reduceGE, hi]
    refine (iter_foldlx l (fun j c => [bb c, ii j]) (fun c x => c || sameBody x (gt s i) && (x.seq == (gt s i).seq)) (fun c => if c = true then k [bb false, ii ((i + 1 : Nat))] else some [bb false]) false (fun _ _ => True) rfl (rounds_lt h1) trivial ?_ ?_).trans ?_
    · intro j c hj _
      refine ⟨trivial, fun k => ?_⟩
      have := hn.gt (n := j) (by omega) hj
      simp (disch := omega) only [ps, if_true, if_false, Int.lt_irrefl, Int.reduceLE, Int.reduceLT, Int.reduceEq, Int.reduceGT, Int.reduceGE, hj, e_s_SameBody]
      cases c <;> cases sameBody (gt l j) (gt s i) <;> simp
    · intro c k' _
      simp (disch := omega) only [ps, if_true, if_false, Int.lt_irrefl, Int.reduceLE, Int.reduceLT, Int.reduceEq, Int.reduceGT, Int.reduceGE, ]
      cases c <;> simp
    · unfold told1; simp (disch := omega) only [ps, if_true, if_false, Int.lt_irrefl, Int.reduceLE, Int.reduceLT, Int.reduceEq, Int.reduceGT, Int.reduceGE, ]
  · intro k
    simp (disch := omega) only [ps, if_true, if_false, Int.lt_irrefl, Int.reduceLE, Int.reduceLT, Int.reduceEq, Int.reduceGT, Int.reduceGE, ]

def upB (u : List Bool) (k : Nat) (n : Int) : Bool := inB n 1 u.length && (decide (n ≤ k) && gt u (n - 1))

theorem e_i_World_up (t0 t1 t2 t3 : T) (u : List Bool) (t5 : T) (ns : List Node) (t7 t8 t9 : T) (n : Int) (h : u.length ≤ 1048576) :
    F_i_World_up [t0, t1, t2, t3, .l (u.map eBool), t5, .l (ns.map eNode), t7, t8, t9, ii n] = some [bb (upB u ns.length n), t0, t1, t2, t3, .l (u.map eBool), t5, .l (ns.map eNode), t7, t8, t9] := by
  rw [g_i_World_up]; simp (disch := omega) only [ps, if_true, if_false, Int.lt_irrefl, Int.reduceLE, Int.reduceLT, Int.reduceEq, Int.reduceGT, Int.reduceGE, G_i_World_up, e_i_in]
  unfold upB
  cases hi : inB n 1 u.length with
  | false => simp
  | true =>
    have := inB_iff.1 hi
    simp (disch := omega) only [ps, if_true, if_false, Int.lt_irrefl, Int.reduceLE, Int.reduceLT, Int.reduceEq, Int.reduceGT, Int.reduceGE, Bool.true_and]
    by_cases hk : n ≤ ns.length <;> simp [hk]

/-- Of each node that is up. -/
def allUp (u : List Bool) (ns : List Node) (p : Node → Bool) : Bool := allB ns.length fun i => !upB u ns.length (i + 1) || p (gt ns i)

theorem upB_lt {u : List Bool} {k i : Nat} (hi : i < k) : upB u k (i + 1) = (decide (i < u.length) && gt u i) := by
  unfold upB inB
  have h1 : ((1 : Int) ≤ i + 1) := by omega
  have h2 : ((i : Int) + 1 ≤ k) := by omega
  have h3 : (i : Int) + 1 - 1 = i := by omega
  have h4 : ((i : Int) + 1 ≤ u.length) = (i < u.length) := by simp only [eq_iff_iff]; omega
  simp [h1, h2, h3, h4]

structure OkStores (ns : List Node) : Prop where
  len : ∀ n ∈ ns, n.self.store.length ≤ 1048576
  near : ∀ n ∈ ns, NearL n.self.store
  heard : ∀ n ∈ ns, n.self.heard.length ≤ 1048576

theorem okStores_of {ns : List Node} (h : blks blkNode ns ≤ 1048576) : OkStores ns := by
  have key : ∀ n ∈ ns, blks blkRcd n.self.store ≤ 1048576 ∧ n.self.heard.length ≤ 1048576 := by
    intro n hn
    have h1 := blks_mem (f := blkNode) hn
    have h2 := blks_len (f := blkInt) n.self.heard
    have h3 : blkNode n = blks blkLink n.self.net.links + blks blkThing n.self.net.things + blks blkInt n.self.heard + blks blkRcd n.self.store + blks blkEar n.ears := rfl
    omega
  exact ⟨fun n hn => by have := blks_len (f := blkRcd) n.self.store; have := (key n hn).1; omega, fun n hn => nearL_of (key n hn).1, fun n hn => (key n hn).2⟩

theorem e_i_AllTrue (t0 t1 t2 t3 : T) (u : List Bool) (t5 : T) (ns : List Node) (t7 : T) (told : List Rcd) (t9 : T) (h : u.length ≤ 1048576) (h1 : ns.length ≤ 1048576) (h2 : told.length ≤ 1048576) (hn : NearL told) (hs : OkStores ns) :
    F_i_AllTrue [t0, t1, t2, t3, .l (u.map eBool), t5, .l (ns.map eNode), t7, .l (told.map eRcd), t9] = some [bb (allUp u ns fun n => trueTold told n.self.store)] := by
  rw [g_i_AllTrue]; simp (disch := omega) only [ps, if_true, if_false, Int.lt_irrefl, Int.reduceLE, Int.reduceLT, Int.reduceEq, Int.reduceGT, Int.reduceGE, G_i_AllTrue]
  refine (iter_allx ns.length (fun i => [bb false, ii i, t0, t1, t2, t3, .l (u.map eBool), t5, .l (ns.map eNode), t7, .l (told.map eRcd), t9]) (fun i => !upB u ns.length (i + 1) || trueTold told (gt ns i).self.store) (outF := some [bb false]) (outT := some [bb true]) rfl (rounds_lt h1) ?_ ?_).trans (ite_bb _ _ _ |>.trans (by unfold allUp; simp))
  · intro i hi k
    have := hs.len _ (gt_mem (n := i) (by omega) hi)
    simp (disch := omega) only [ps, if_true, if_false, Int.lt_irrefl, Int.reduceLE, Int.reduceLT, Int.reduceEq, Int.reduceGT, Int.reduceGE, hi, e_i_World_up, e_i_TrueTold _ _ h2 this hn]
    cases upB u ns.length (i + 1) <;> cases trueTold told (gt ns i).self.store <;> simp
  · intro k
    simp (disch := omega) only [ps, if_true, if_false, Int.lt_irrefl, Int.reduceLE, Int.reduceLT, Int.reduceEq, Int.reduceGT, Int.reduceGE, ]

theorem e_s_AllTrue (t0 t1 t2 t3 : T) (u : List Bool) (t5 : T) (ns : List Node) (t7 : T) (told : List Rcd) (t9 : T) (h : u.length ≤ 1048576) (h1 : ns.length ≤ 1048576) (h2 : told.length ≤ 1048576) (hn : NearL told) (hs : OkStores ns) :
    F_s_AllTrue [t0, t1, t2, t3, .l (u.map eBool), t5, .l (ns.map eNode), t7, .l (told.map eRcd), t9] = some [bb (allUp u ns fun n => trueTold told n.self.store)] := by
  rw [g_s_AllTrue]; simp (disch := omega) only [ps, if_true, if_false, Int.lt_irrefl, Int.reduceLE, Int.reduceLT, Int.reduceEq, Int.reduceGT, Int.reduceGE, G_s_AllTrue]
  obtain ⟨m, hm⟩ : ∃ m, m = min ns.length u.length := ⟨_, rfl⟩
  refine (iter_allx m (fun i => [bb false, ii i]) (fun i => !gt u i || trueTold told (gt ns i).self.store) (outF := some [bb false]) (outT := some [bb true]) rfl (rounds_lt (by omega)) ?_ ?_).trans (ite_bb _ _ _ |>.trans ?_)
  · intro i hi k
    have hi1 : (i : Int) < ns.length := by omega
    have hi2 : (i : Int) < u.length := by omega
    have := hs.len _ (gt_mem (n := i) (by omega) hi1)
    simp (disch := omega) only [ps, if_true, if_false, Int.lt_irrefl, Int.reduceLE, Int.reduceLT, Int.reduceEq, Int.reduceGT, Int.reduceGE, hi1, hi2, e_s_TrueTold _ _ h2 this hn]
    cases gt u (i : Int) <;> cases trueTold told (gt ns i).self.store <;> simp
  · intro k
    by_cases h5 : ns.length ≤ u.length
    · have : ¬ ((m : Int) < ns.length) := by omega
      simp (disch := omega) only [ps, if_true, if_false, Int.lt_irrefl, Int.reduceLE, Int.reduceLT, Int.reduceEq, Int.reduceGT, Int.reduceGE, this]
    · have h6 : ((m : Int) < ns.length) := by omega
      have : ¬ ((m : Int) < u.length) := by omega
      simp (disch := omega) only [ps, if_true, if_false, Int.lt_irrefl, Int.reduceLE, Int.reduceLT, Int.reduceEq, Int.reduceGT, Int.reduceGE, h6, this]
  · rw [if_tf]
    congr 3
    rw [Bool.eq_iff_iff]
    unfold allUp
    rw [allB_iff, allB_iff]
    refine ⟨fun h i hi => ?_, fun h i hi => ?_⟩
    · rw [upB_lt hi]
      by_cases h7 : i < u.length
      · simpa [h7] using h i (by omega)
      · simp [h7]
    · have := h i (by omega)
      rw [upB_lt (by omega)] at this
      simpa [show i < u.length by omega] using this

def hearsB (l : List Int) (v a : Int) : Bool := !allB (l.length / 2) fun k => !(gt l (2 * k : Int) == v && gt l (2 * k + 1 : Int) == a)

theorem e_i_hears (t0 t1 t2 t3 t4 : T) (l : List Int) (t6 t7 : T) (v a : Int) (h : l.length ≤ 1048576) : F_i_hears [t0, t1, t2, t3, t4, .l (l.map eInt), t6, t7, ii v, ii a] = some [bb (hearsB l v a)] := by
  rw [g_i_hears]; simp (disch := omega) only [ps, if_true, if_false, Int.lt_irrefl, Int.reduceLE, Int.reduceLT, Int.reduceEq, Int.reduceGT, Int.reduceGE, G_i_hears]
  refine (iter_allx (l.length / 2) (fun k => [bb false, ii (2 * k)]) (fun k => !(gt l (2 * k : Int) == v && gt l (2 * k + 1 : Int) == a)) (outF := some [bb true]) (outT := some [bb false]) rfl (rounds_lt (by omega)) ?_ ?_).trans (by rw [ite_bb, if_ft, ← hearsB])
  · intro i hi s
    have hlt : 2 * (i : Int) + 1 < l.length := by omega
    simp (disch := omega) only [ps, if_true, if_false, Int.lt_irrefl, Int.reduceLE, Int.reduceLT, Int.reduceEq, Int.reduceGT, Int.reduceGE, hlt, Int.mul_add]
    grind
  · intro s
    have hlt : ¬ (2 * ((l.length / 2 : Nat) : Int) + 1 < l.length) := by omega
    simp (disch := omega) only [ps, if_true, if_false, Int.lt_irrefl, Int.reduceLE, Int.reduceLT, Int.reduceEq, Int.reduceGT, Int.reduceGE, hlt]

theorem e_s_l13Hears (t0 t1 t2 t3 t4 : T) (l : List Int) (t6 t7 : T) (v a : Int) (h : l.length ≤ 1048576) : F_s_l13Hears [t0, t1, t2, t3, t4, .l (l.map eInt), t6, t7, ii v, ii a] = some [bb (hearsB l v a)] := by
  rw [g_s_l13Hears]; simp (disch := omega) only [ps, if_true, if_false, Int.lt_irrefl, Int.reduceLE, Int.reduceLT, Int.reduceEq, Int.reduceGT, Int.reduceGE, G_s_l13Hears]
  refine (iter_allx (l.length / 2) (fun k => [bb false, ii (2 * k)]) (fun k => !(gt l (2 * k : Int) == v && gt l (2 * k + 1 : Int) == a)) (outF := some [bb true]) (outT := some [bb false]) rfl (rounds_lt (by omega)) ?_ ?_).trans (by rw [ite_bb, if_ft, ← hearsB])
  · intro i hi s
    have hlt : 2 * (i : Int) + 1 < l.length := by omega
    simp (disch := omega) only [ps, if_true, if_false, Int.lt_irrefl, Int.reduceLE, Int.reduceLT, Int.reduceEq, Int.reduceGT, Int.reduceGE, hlt, Int.mul_add]
    grind
  · intro s
    have hlt : ¬ (2 * ((l.length / 2 : Nat) : Int) + 1 < l.length) := by omega
    simp (disch := omega) only [ps, if_true, if_false, Int.lt_irrefl, Int.reduceLE, Int.reduceLT, Int.reduceEq, Int.reduceGT, Int.reduceGE, hlt]

theorem e_i_copyRecord (a k o y s : Int) (l : List Near) (c : Int) (f : Bool) (h : l.length ≤ 1048576) : F_i_copyRecord [ii a, ii k, ii o, ii y, ii s, .l (l.map eNear), ii c, bb f] = some [ii a, ii k, ii o, ii y, ii s, .l (l.map eNear), ii c, bb f] := by
  rw [g_i_copyRecord]; simp (disch := omega) only [ps, if_true, if_false, Int.lt_irrefl, Int.reduceLE, Int.reduceLT, Int.reduceEq, Int.reduceGT, Int.reduceGE, G_i_copyRecord]

theorem e_s_l04Copy (a k o y s : Int) (l : List Near) (c : Int) (f : Bool) (h : l.length ≤ 1048576) : F_s_l04Copy [ii a, ii k, ii o, ii y, ii s, .l (l.map eNear), ii c, bb f] = some [ii a, ii k, ii o, ii y, ii s, .l (l.map eNear), ii c, bb f] := by
  rw [g_s_l04Copy]; simp (disch := omega) only [ps, if_true, if_false, Int.lt_irrefl, Int.reduceLE, Int.reduceLT, Int.reduceEq, Int.reduceGT, Int.reduceGE, G_s_l04Copy]

def inScope (ar : Int) (r : Rcd) : Bool := r.area == ar || r.area == 9
def scope (s : List Rcd) (ar : Int) : List Rcd := s.filter (inScope ar)

theorem e_i_Scope (s : List Rcd) (ar : Int) (h : s.length ≤ 1048576) (hn : NearL s) : F_i_Scope [.l (s.map eRcd), ii ar] = some [.l ((scope s ar).map eRcd)] := by
  rw [g_i_Scope]; simp (disch := omega) only [ps, if_true, if_false, Int.lt_irrefl, Int.reduceLE, Int.reduceLT, Int.reduceEq, Int.reduceGT, Int.reduceGE, G_i_Scope]
  refine (iter_foldlx s (fun i c => [.l (c.map eRcd), ii i]) (fun c a => if inScope ar a = true then c ++ [a] else c) (fun c => some [T.l (c.map eRcd)]) [] (fun i c => c.length ≤ i) rfl (rounds_lt h) (by simp) ?_ ?_).trans (by rw [foldl_filter, List.nil_append, ← scope])
  · intro i c hi hc
    refine ⟨by split <;> (try simp) <;> omega, fun k => ?_⟩
    have := hn.gt (n := i) (by omega) hi
    simp (disch := omega) only [ps, if_true, if_false, Int.lt_irrefl, Int.reduceLE, Int.reduceLT, Int.reduceEq, Int.reduceGT, Int.reduceGE, hi, e_i_copyRecord]
    unfold inScope
    grind
  · intro c k hc
    simp (disch := omega) only [ps, if_true, if_false, Int.lt_irrefl, Int.reduceLE, Int.reduceLT, Int.reduceEq, Int.reduceGT, Int.reduceGE, ]

theorem e_s_Scope (s : List Rcd) (ar : Int) (h : s.length ≤ 1048576) (hn : NearL s) : F_s_Scope [.l (s.map eRcd), ii ar] = some [.l ((scope s ar).map eRcd)] := by
  rw [g_s_Scope]; simp (disch := omega) only [ps, if_true, if_false, Int.lt_irrefl, Int.reduceLE, Int.reduceLT, Int.reduceEq, Int.reduceGT, Int.reduceGE, G_s_Scope]
  refine (iter_foldlx s (fun i c => [.l (c.map eRcd), ii i]) (fun c a => if inScope ar a = true then c ++ [a] else c) (fun c => some [T.l (c.map eRcd)]) [] (fun i c => c.length ≤ i) rfl (rounds_lt h) (by simp) ?_ ?_).trans (by rw [foldl_filter, List.nil_append, ← scope])
  · intro i c hi hc
    refine ⟨by split <;> (try simp) <;> omega, fun k => ?_⟩
    have := hn.gt (n := i) (by omega) hi
    simp (disch := omega) only [ps, if_true, if_false, Int.lt_irrefl, Int.reduceLE, Int.reduceLT, Int.reduceEq, Int.reduceGT, Int.reduceGE, hi, e_s_l04Copy]
    unfold inScope
    grind
  · intro c k hc
    simp (disch := omega) only [ps, if_true, if_false, Int.lt_irrefl, Int.reduceLE, Int.reduceLT, Int.reduceEq, Int.reduceGT, Int.reduceGE, ]

theorem scope_len (s : List Rcd) (ar : Int) : (scope s ar).length ≤ s.length := List.length_filter_le _ _
theorem scope_near {s : List Rcd} (h : NearL s) (ar : Int) : NearL (scope s ar) := fun r hr => h r ((List.mem_filter.1 hr).1)

def recsEq (a b : List Rcd) : Bool := decide ((a.length : Int) = b.length) && allB a.length fun i => sameBody (gt a i) (gt b i) && decide ((gt a i).seq = (gt b i).seq)

theorem e_i_sameRecords (a b : List Rcd) (h : a.length ≤ 1048576) (hn : NearL a) : F_i_sameRecords [.l (a.map eRcd), .l (b.map eRcd)] = some [bb (recsEq a b)] := by
  rw [g_i_sameRecords]; simp (disch := omega) only [ps, if_true, if_false, Int.lt_irrefl, Int.reduceLE, Int.reduceLT, Int.reduceEq, Int.reduceGT, Int.reduceGE, G_i_sameRecords]
  by_cases hl : (a.length : Int) = b.length
  · simp only [hl, not_true_eq_false, if_false]
    refine (iter_allx a.length (fun i => [bb false, ii i]) (fun i => sameBody (gt a i) (gt b i) && decide ((gt a i).seq = (gt b i).seq)) (outF := some [bb false]) (outT := some [bb true]) rfl (rounds_lt h) ?_ ?_).trans (ite_bb _ _ _ |>.trans (by unfold recsEq; simp [hl]))
    · intro i hi s
      have hi' := hl ▸ hi
      have := hn.gt (n := i) (by omega) hi
      simp (disch := omega) only [ps, if_true, if_false, Int.lt_irrefl, Int.reduceLE, Int.reduceLT, Int.reduceEq, Int.reduceGT, Int.reduceGE, hi, hi', e_i_SameBody]
      grind
    · intro s
      simp (disch := omega) only [ps, if_true, if_false, Int.lt_irrefl, Int.reduceLE, Int.reduceLT, Int.reduceEq, Int.reduceGT, Int.reduceGE, hl]
  · unfold recsEq; simp [hl]

theorem e_s_l13SameStore (a b : List Rcd) (h : a.length ≤ 1048576) (hn : NearL a) : F_s_l13SameStore [.l (a.map eRcd), .l (b.map eRcd)] = some [bb (recsEq a b)] := by
  rw [g_s_l13SameStore]; simp (disch := omega) only [ps, if_true, if_false, Int.lt_irrefl, Int.reduceLE, Int.reduceLT, Int.reduceEq, Int.reduceGT, Int.reduceGE, G_s_l13SameStore]
  by_cases hl : (a.length : Int) = b.length
  · simp only [hl, not_true_eq_false, if_false]
    refine (iter_allx a.length (fun i => [bb false, ii i]) (fun i => sameBody (gt a i) (gt b i) && decide ((gt a i).seq = (gt b i).seq)) (outF := some [bb false]) (outT := some [bb true]) rfl (rounds_lt h) ?_ ?_).trans (ite_bb _ _ _ |>.trans (by unfold recsEq; simp [hl]))
    · intro i hi s
      have hi' := hl ▸ hi
      have := hn.gt (n := i) (by omega) hi
      simp (disch := omega) only [ps, if_true, if_false, Int.lt_irrefl, Int.reduceLE, Int.reduceLT, Int.reduceEq, Int.reduceGT, Int.reduceGE, hi, hi', e_s_SameBody]
      grind
    · intro s
      simp (disch := omega) only [ps, if_true, if_false, Int.lt_irrefl, Int.reduceLE, Int.reduceLT, Int.reduceEq, Int.reduceGT, Int.reduceGE, hl]
  · unfold recsEq; simp [hl]

def alike2 (ns : List Node) (ar : Int) (i k : Nat) : Bool := !(hearsB (gt ns i).self.heard (k + 1) ar && hearsB (gt ns k).self.heard (i + 1) ar) || recsEq (scope (gt ns i).self.store ar) (scope (gt ns k).self.store ar)

def alikeIn (u : List Bool) (ns : List Node) (ar : Int) : Bool := allB ns.length fun i => allB i fun k => !(upB u ns.length (i + 1) && upB u ns.length (k + 1)) || alike2 ns ar i k

theorem gt_take {α : Type} [Inhabited α] {l : List α} {n : Nat} {k : Int} (h0 : 0 ≤ k) (h : k < n) (h' : n ≤ l.length) : gt (l.take n) k = gt l k := by
  obtain ⟨j, rfl⟩ : ∃ j : Nat, k = j := ⟨k.toNat, by omega⟩
  rw [gt_elem (by simp; omega), gt_elem (by omega), List.getElem_take]

theorem e_i_AlikeIn (t0 t1 t2 t3 : T) (u : List Bool) (t5 : T) (ns : List Node) (t7 t8 t9 : T) (ar : Int) (h : u.length ≤ 1048576) (h1 : ns.length ≤ 1048576) (hs : OkStores ns) :
    F_i_AlikeIn [t0, t1, t2, t3, .l (u.map eBool), t5, .l (ns.map eNode), t7, t8, t9, ii ar] = some [bb (alikeIn u ns ar)] := by
  rw [g_i_AlikeIn]; simp (disch := omega) only [ps, if_true, if_false, Int.lt_irrefl, Int.reduceLE, Int.reduceLT, Int.reduceEq, Int.reduceGT, Int.reduceGE, G_i_AlikeIn]
  refine (iter_allx ns.length (fun i => [bb false, ii i, t0, t1, t2, t3, .l (u.map eBool), t5, .l (ns.map eNode), t7, t8, t9]) (fun i => allB i fun k => !(upB u ns.length (i + 1) && upB u ns.length (k + 1)) || alike2 ns ar i k) (outF := some [bb false]) (outT := some [bb true]) rfl (rounds_lt h1) ?_ ?_).trans (ite_bb _ _ _ |>.trans (by unfold alikeIn; simp))
  · intro i hi s
    have hm := gt_mem (l := ns) (n := i) (by omega) hi
    have h3 := hs.len _ hm
    have h4 := hs.heard _ hm
    have hl : ((ns.take i).length : Int) = i := by simp; omega
    simp (disch := omega) only [ps, if_true, if_false, Int.lt_irrefl, Int.reduceLE, Int.reduceLT, Int.reduceEq, Int.reduceGT, Int.reduceGE, hi, hl]
    refine (iter_allx i (fun k => [bb false, ii k, t0, t1, t2, t3, .l (u.map eBool), t5, .l (ns.map eNode), t7, t8, t9]) (fun k => !(upB u ns.length (i + 1) && upB u ns.length (k + 1)) || alike2 ns ar i k) (outF := some [bb false]) (outT := s [bb false, ii (i + 1), t0, t1, t2, t3, .l (u.map eBool), t5, .l (ns.map eNode), t7, t8, t9]) rfl (rounds_lt (by omega)) ?_ ?_).trans rfl
    · intro k hk s
      have hm' := gt_mem (l := ns) (n := k) (by omega) (by omega)
      have h5 := hs.len _ hm'
      have h6 := hs.heard _ hm'
      have h7 := scope_len (gt ns i).self.store ar
      have hk' : (k : Int) < (ns.take i).length := by omega
      simp (disch := omega) only [ps, if_true, if_false, Int.lt_irrefl, Int.reduceLE, Int.reduceLT, Int.reduceEq, Int.reduceGT, Int.reduceGE, hk, hk', gt_take (l := ns) (n := i) (k := k) (by omega) hk (by omega), e_i_World_up, e_i_hears, e_i_Scope _ _ h3 (hs.near _ hm), e_i_Scope _ _ h5 (hs.near _ hm'), e_i_sameRecords _ _ (show (scope (gt ns i).self.store ar).length ≤ 1048576 by omega) (scope_near (hs.near _ hm) ar)]
      unfold alike2
      grind
    · intro s
      simp (disch := omega) only [ps, if_true, if_false, Int.lt_irrefl, Int.reduceLE, Int.reduceLT, Int.reduceEq, Int.reduceGT, Int.reduceGE, ]
  · intro s
    simp (disch := omega) only [ps, if_true, if_false, Int.lt_irrefl, Int.reduceLE, Int.reduceLT, Int.reduceEq, Int.reduceGT, Int.reduceGE, ]

theorem e_s_AlikeIn (t0 t1 t2 t3 : T) (u : List Bool) (t5 : T) (ns : List Node) (t7 t8 t9 : T) (ar : Int) (h : u.length ≤ 1048576) (h1 : ns.length ≤ 1048576) (hs : OkStores ns) :
    F_s_AlikeIn [t0, t1, t2, t3, .l (u.map eBool), t5, .l (ns.map eNode), t7, t8, t9, ii ar] = some [bb (alikeIn u ns ar)] := by
  rw [g_s_AlikeIn]; simp (disch := omega) only [ps, if_true, if_false, Int.lt_irrefl, Int.reduceLE, Int.reduceLT, Int.reduceEq, Int.reduceGT, Int.reduceGE, G_s_AlikeIn]
  obtain ⟨m, hm⟩ : ∃ m, m = min ns.length u.length := ⟨_, rfl⟩
  refine (iter_allx m (fun i => [bb false, ii i]) (fun i => allB i fun k => !(gt u i && gt u k) || alike2 ns ar i k) (outF := some [bb false]) (outT := some [bb true]) rfl (rounds_lt (by omega)) ?_ ?_).trans (ite_bb _ _ _ |>.trans ?_)
  · intro i hi s
    have hi1 : (i : Int) < ns.length := by omega
    have hi2 : (i : Int) < u.length := by omega
    have hm := gt_mem (l := ns) (n := i) (by omega) hi1
    have h3 := hs.len _ hm
    have h4 := hs.heard _ hm
    simp (disch := omega) only [ps, if_true, if_false, Int.lt_irrefl, Int.reduceLE, Int.reduceLT, Int.reduceEq, Int.reduceGT, Int.reduceGE, hi1, hi2]
    refine (iter_allx i (fun k => [bb false, ii k]) (fun k => !(gt u i && gt u k) || alike2 ns ar i k) (outF := some [bb false]) (outT := s [bb false, ii (i + 1)]) rfl (rounds_lt (by omega)) ?_ ?_).trans rfl
    · intro k hk s
      have hm' := gt_mem (l := ns) (n := k) (by omega) (by omega)
      have h5 := hs.len _ hm'
      have h6 := hs.heard _ hm'
      have h7 := scope_len (gt ns i).self.store ar
      simp (disch := omega) only [ps, if_true, if_false, Int.lt_irrefl, Int.reduceLE, Int.reduceLT, Int.reduceEq, Int.reduceGT, Int.reduceGE, hk, e_s_l13Hears, e_s_Scope _ _ h3 (hs.near _ hm), e_s_Scope _ _ h5 (hs.near _ hm'), e_s_l13SameStore _ _ (show (scope (gt ns i).self.store ar).length ≤ 1048576 by omega) (scope_near (hs.near _ hm) ar)]
      unfold alike2
      grind
    · intro s
      simp (disch := omega) only [ps, if_true, if_false, Int.lt_irrefl, Int.reduceLE, Int.reduceLT, Int.reduceEq, Int.reduceGT, Int.reduceGE, ]
  · intro k
    by_cases h5 : ns.length ≤ u.length
    · have : ¬ ((m : Int) < ns.length) := by omega
      simp (disch := omega) only [ps, if_true, if_false, Int.lt_irrefl, Int.reduceLE, Int.reduceLT, Int.reduceEq, Int.reduceGT, Int.reduceGE, this]
    · have h6 : ((m : Int) < ns.length) := by omega
      have : ¬ ((m : Int) < u.length) := by omega
      simp (disch := omega) only [ps, if_true, if_false, Int.lt_irrefl, Int.reduceLE, Int.reduceLT, Int.reduceEq, Int.reduceGT, Int.reduceGE, h6, this]
  · rw [if_tf]
    congr 3
    rw [Bool.eq_iff_iff]
    unfold alikeIn
    rw [allB_iff, allB_iff]
    refine ⟨fun h i hi => allB_iff.2 fun k hk => ?_, fun h i hi => allB_iff.2 fun k hk => ?_⟩
    · rw [upB_lt hi, upB_lt (by omega)]
      by_cases h7 : i < u.length
      · have := allB_iff.1 (h i (by omega)) k hk
        simpa [h7, show k < u.length by omega] using this
      · simp [h7]
    · have := allB_iff.1 (h i (by omega)) k hk
      rw [upB_lt (by omega), upB_lt (by omega)] at this
      simpa [show i < u.length by omega, show k < u.length by omega] using this

end Go.Proofs.YtcknaignbagihaaC
