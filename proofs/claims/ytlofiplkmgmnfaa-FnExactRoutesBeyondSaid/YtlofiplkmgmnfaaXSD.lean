/- What the tests of worlds compute: what was told, who knows the same. Conditions: none. -/
import Derived.Test.YtlofiplkmgmnfaaXSC
namespace Go.Proofs.YtlofiplkmgmnfaaC
set_option linter.unusedVariables false
set_option linter.unusedSimpArgs false
structure OkStores (ns:List Node):Prop where
 len:∀ n∈ns,n.self.store.length≤1048576
 near:∀ n∈ns,NearL n.self.store
 heard:∀ n∈ns,n.self.heard.length≤1048576
def inScope (ar:Int) (r:Rcd):Bool:=r.area == ar || r.area == 9
def scope (s:List Rcd) (ar:Int):List Rcd:=s.filter (inScope ar)
end Go.Proofs.YtlofiplkmgmnfaaC
