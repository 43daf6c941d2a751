/- FnExactAlikeIn: what the plain programs say. Conditions: none. -/
import Derived.Test.YtcknaignbagihaaXMB
import Derived.Test.YtcknaignbagihaaXSD
namespace Go.Proofs.YtcknaignbagihaaC
set_option linter.unusedVariables false
set_option linter.unusedSimpArgs false

def ys_FnExactAlikeIn : List Ty := yWorld ++ [.i .i64]

theorem true_FnExactAlikeIn (ts : List T) (h0 : WTs ys_FnExactAlikeIn ts) : F_FnExactAlikeIn ts = some [.c (.bool true)] := by
  obtain ⟨ws, us, rfl, h, hu⟩ := WTs_split (fs := yWorld) h0
  obtain ⟨_, _, rfl, ⟨ar, rfl, _⟩, rfl⟩ := WTsU_of hu
  obtain ⟨x, rfl, hx⟩ := dWorld ws h
  obtain ⟨n, e1, b1, c1⟩ := so_szWorld _ 1048576 h (by omega) (by omega)
  rw [bWorld] at c1
  rw [show F_FnExactAlikeIn (eWorld x ++ [ii ar]) = _ from g_FnExactAlikeIn ..]
  simp only [eWorld, List.cons_append, List.nil_append] at e1
  by_cases q : n < 0
  · simp (disch := omega) only [ps, if_true, if_false, Int.lt_irrefl, Int.reduceLE, Int.reduceLT, Int.reduceEq, Int.reduceGT, Int.reduceGE, G_FnExactAlikeIn, e1, q]
  have c2 := c1 (by omega)
  have hb : blkWorld x ≤ 1048576 := by omega
  have e2 := so_toWorld _ h (by rw [bWorld]; exact hb)
  have e3 := so_eqWorld _ h (by rw [bWorld]; exact hb)
  simp only [eWorld, List.cons_append, List.nil_append] at e2 e3
  unfold blkWorld at hb
  have h1 := blks_len (f := blkBool) x.up
  have h2 := blks_len (f := blkNode) x.nodes
  have a1 := e_i_AlikeIn (ii x.net.n) (.l (x.net.links.map eLink)) (.l (x.net.things.map eThing)) (.l (x.links.map eBool)) x.up (.l (x.boots.map eInt)) x.nodes (.l (x.flying.map ePacket)) (.l (x.told.map eRcd)) (ii x.errors) ar (by omega) (by omega) (okStores_of (by omega))
  have a2 := e_s_AlikeIn (ii x.net.n) (.l (x.net.links.map eLink)) (.l (x.net.things.map eThing)) (.l (x.links.map eBool)) x.up (.l (x.boots.map eInt)) x.nodes (.l (x.flying.map ePacket)) (.l (x.told.map eRcd)) (ii x.errors) ar (by omega) (by omega) (okStores_of (by omega))
  simp (disch := omega) only [ps, if_true, if_false, Int.lt_irrefl, Int.reduceLE, Int.reduceLT, Int.reduceEq, Int.reduceGT, Int.reduceGE, G_FnExactAlikeIn, e1, e2, e3, a1, a2, q, not_true_eq_false]

end Go.Proofs.YtcknaignbagihaaC
