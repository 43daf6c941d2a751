/- Ways put together: of each node the best. Conditions: none. -/
import Derived.Test.YtlofiplkmgmnfaaXSJ
namespace Go.Proofs.YtlofiplkmgmnfaaC
set_option linter.unusedVariables false
set_option linter.unusedSimpArgs false
def tog1 (o:Option Way) (w:Way):Option Way:=match o with | none=>some w | some b=>some (tog b w)
def togs (l:List Way):Option Way:=l.foldl tog1 none
def wlst (C:List Way):List Way:=six.filterMap fun v=>togs (C.filter fun w=>w.to == v)
end Go.Proofs.YtlofiplkmgmnfaaC
