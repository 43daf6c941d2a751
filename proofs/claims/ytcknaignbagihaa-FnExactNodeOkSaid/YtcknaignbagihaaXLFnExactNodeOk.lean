/- FnExactNodeOk: what the plain programs say. Conditions: none. -/
import Derived.Test.YtcknaignbagihaaXMB
import Derived.Test.YtcknaignbagihaaXSC
namespace Go.Proofs.YtcknaignbagihaaC
set_option linter.unusedVariables false
set_option linter.unusedSimpArgs false

def ys_FnExactNodeOk : List Ty := yNode

theorem true_FnExactNodeOk (ts : List T) (h : WTs ys_FnExactNodeOk ts) : F_FnExactNodeOk ts = some [.c (.bool true)] := by
  obtain ⟨x, rfl, hx⟩ := dNode ts h
  obtain ⟨n, e1, b1, c1⟩ := so_szNode _ 1048576 h (by omega) (by omega)
  rw [bNode] at c1
  rw [show F_FnExactNodeOk (eNode x) = _ from g_FnExactNodeOk ..]
  simp only [eNode, List.cons_append, List.nil_append] at e1
  by_cases q : n < 0
  · simp (disch := omega) only [ps, if_true, if_false, Int.lt_irrefl, Int.reduceLE, Int.reduceLT, Int.reduceEq, Int.reduceGT, Int.reduceGE, G_FnExactNodeOk, e1, q]
  have c2 := c1 (by omega)
  have hb : blkNode x ≤ 1048576 := by omega
  have e2 := so_toNode _ h (by rw [bNode]; exact hb)
  have e3 := so_eqNode _ h (by rw [bNode]; exact hb)
  simp only [eNode, List.cons_append, List.nil_append] at e2 e3
  unfold blkNode at hb
  have h1 := blks_len (f := blkLink) x.self.net.links
  have h2 := blks_len (f := blkThing) x.self.net.things
  have h3 := blks_len (f := blkInt) x.self.heard
  have h4 := blks_len (f := blkRcd) x.self.store
  have h5 := blks_len (f := blkEar) x.ears
  have a1 := e_i_NodeOk x.self.id x.self.boot x.self.net.n x.self.net.links x.self.net.things x.self.heard x.self.store x.ears (by omega) (by omega) (by omega) (by omega) (nearL_of (by omega)) (by omega)
  have a2 := e_s_NodeOk x.self.id x.self.boot x.self.net.n x.self.net.links x.self.net.things x.self.heard x.self.store x.ears (by omega) (by omega) (by omega) (by omega) (nearL_of (by omega)) (by omega)
  simp (disch := omega) only [ps, if_true, if_false, Int.lt_irrefl, Int.reduceLE, Int.reduceLT, Int.reduceEq, Int.reduceGT, Int.reduceGE, G_FnExactNodeOk, e1, e2, e3, a1, a2, q, not_true_eq_false]

end Go.Proofs.YtcknaignbagihaaC
