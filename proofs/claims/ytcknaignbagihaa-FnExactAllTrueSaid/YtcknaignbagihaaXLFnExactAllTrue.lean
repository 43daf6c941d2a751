/- FnExactAllTrue: what the plain programs say. Conditions: none. -/
import Derived.Test.YtcknaignbagihaaXMB
import Derived.Test.YtcknaignbagihaaXSD
namespace Go.Proofs.YtcknaignbagihaaC
set_option linter.unusedVariables false
set_option linter.unusedSimpArgs false

def ys_FnExactAllTrue : List Ty := yWorld

theorem true_FnExactAllTrue (ts : List T) (h : WTs ys_FnExactAllTrue ts) : F_FnExactAllTrue ts = some [.c (.bool true)] := by
  obtain ⟨x, rfl, hx⟩ := dWorld ts h
  obtain ⟨n, e1, b1, c1⟩ := so_szWorld _ 1048576 h (by omega) (by omega)
  rw [bWorld] at c1
  rw [show F_FnExactAllTrue (eWorld x) = _ from g_FnExactAllTrue ..]
  simp only [eWorld, List.cons_append, List.nil_append] at e1
  by_cases q : n < 0
  · simp (disch := omega) only [ps, if_true, if_false, Int.lt_irrefl, Int.reduceLE, Int.reduceLT, Int.reduceEq, Int.reduceGT, Int.reduceGE, G_FnExactAllTrue, e1, q]
  have c2 := c1 (by omega)
  have hb : blkWorld x ≤ 1048576 := by omega
  have e2 := so_toWorld _ h (by rw [bWorld]; exact hb)
  have e3 := so_eqWorld _ h (by rw [bWorld]; exact hb)
  simp only [eWorld, List.cons_append, List.nil_append] at e2 e3
  unfold blkWorld at hb
  have h1 := blks_len (f := blkBool) x.up
  have h2 := blks_len (f := blkNode) x.nodes
  have h3 := blks_len (f := blkRcd) x.told
  have a1 := e_i_AllTrue (ii x.net.n) (.l (x.net.links.map eLink)) (.l (x.net.things.map eThing)) (.l (x.links.map eBool)) x.up (.l (x.boots.map eInt)) x.nodes (.l (x.flying.map ePacket)) x.told (ii x.errors) (by omega) (by omega) (by omega) (nearL_of (by omega)) (okStores_of (by omega))
  have a2 := e_s_AllTrue (ii x.net.n) (.l (x.net.links.map eLink)) (.l (x.net.things.map eThing)) (.l (x.links.map eBool)) x.up (.l (x.boots.map eInt)) x.nodes (.l (x.flying.map ePacket)) x.told (ii x.errors) (by omega) (by omega) (by omega) (nearL_of (by omega)) (okStores_of (by omega))
  simp (disch := omega) only [ps, if_true, if_false, Int.lt_irrefl, Int.reduceLE, Int.reduceLT, Int.reduceEq, Int.reduceGT, Int.reduceGE, G_FnExactAllTrue, e1, e2, e3, a1, a2, q, not_true_eq_false]

end Go.Proofs.YtcknaignbagihaaC
