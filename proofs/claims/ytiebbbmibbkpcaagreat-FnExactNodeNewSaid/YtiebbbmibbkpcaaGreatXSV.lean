/- Are all settled? Conditions: none. -/
import Derived.Test.YtiebbbmibbkpcaaGreatXSU
namespace Go.Proofs.YtiebbbmibbkpcaaGreatC
open Int (reduceLE reduceLT reduceEq reduceGT reduceGE reduceAdd reduceSub reduceMul reduceNeg)
set_option linter.unusedVariables false
set_option linter.unusedSimpArgs false
structure FitNode (n:Node):Prop where
 links:n.self.net.links.length≤1048576
 things:n.self.net.things.length≤1048576
 heard:n.self.heard.length≤1048576
 store:n.self.store.length≤1048576
 near:NearL n.self.store
 ears:n.ears.length≤1048576
theorem FitNode.i {x:Node} (h:FitNode x):ain_ [ii x.self.id,ii x.self.boot,ii x.self.net.n,.l (x.self.net.links.map zn_),.l (x.self.net.things.map zl_),.l (x.self.heard.map eInt),.l (x.self.store.map eRcd),.l (x.ears.map eEar)]=some [.l ((q6_ x).map zJ_)] :=
 aHt_ x.self.id x.self.boot x.self.net.n x.self.net.links x.self.net.things x.self.heard x.self.store x.ears h.links h.things h.heard h.store h.near h.ears
theorem FitNode.s {x:Node} (h:FitNode x):agu_ [ii x.self.id,ii x.self.boot,ii x.self.net.n,.l (x.self.net.links.map zn_),.l (x.self.net.things.map zl_),.l (x.self.heard.map eInt),.l (x.self.store.map eRcd),.l (x.ears.map eEar)]=some [.l ((q6_ x).map zJ_)] :=
 aF7_ x.self.id x.self.boot x.self.net.n x.self.net.links x.self.net.things x.self.heard x.self.store x.ears h.links h.things h.heard h.store h.near h.ears
end Go.Proofs.YtiebbbmibbkpcaaGreatC
