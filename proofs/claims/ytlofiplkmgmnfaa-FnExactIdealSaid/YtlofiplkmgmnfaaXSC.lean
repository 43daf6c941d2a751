/- What the functions of nodes and worlds' tests compute. Conditions: none. -/
import Derived.Test.YtlofiplkmgmnfaaXSB
namespace Go.Proofs.YtlofiplkmgmnfaaC
set_option linter.unusedVariables false
set_option linter.unusedSimpArgs false
end Go.Proofs.YtlofiplkmgmnfaaC
