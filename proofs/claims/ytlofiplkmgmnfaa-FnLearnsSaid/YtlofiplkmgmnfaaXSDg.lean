/- What the routes of a node are: the order they have. Conditions: none. -/
import Derived.Test.YtlofiplkmgmnfaaXSDf
namespace Go.Proofs.YtlofiplkmgmnfaaC
open Int (reduceLE reduceLT reduceEq reduceGT reduceGE reduceAdd reduceSub reduceMul reduceNeg)
set_option linter.unusedVariables false
set_option linter.unusedSimpArgs false
section
variable {s:List Rcd} {A:List Int} {z:Bool} {fr:Int}
end
end Go.Proofs.YtlofiplkmgmnfaaC
