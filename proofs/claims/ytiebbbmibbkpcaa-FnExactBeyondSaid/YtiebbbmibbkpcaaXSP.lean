/- Areas and borders of a node. Conditions: none. -/
import Derived.Test.YtiebbbmibbkpcaaXSO
namespace Go.Proofs.YtiebbbmibbkpcaaC
set_option linter.unusedVariables false
set_option linter.unusedSimpArgs false
def three:List Int:=[0,1,2]
def touch (node a:Int) (l:Link):Bool:=l.area == a && (l.a == node || l.b == node)
def areasOf (ls:List Link) (node:Int):List Int:=three.filter fun a=>ls.any (touch node a)
def border (ls:List Link) (node:Int):Bool:=(areasOf ls node).contains 0 && decide ((areasOf ls node).length > 1)
end Go.Proofs.YtiebbbmibbkpcaaC
