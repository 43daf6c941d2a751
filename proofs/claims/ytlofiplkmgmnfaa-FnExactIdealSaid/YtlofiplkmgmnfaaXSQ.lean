/- The routes of a node. Conditions: none. -/
import Derived.Test.YtlofiplkmgmnfaaXSP
namespace Go.Proofs.YtlofiplkmgmnfaaC
set_option linter.unusedVariables false
set_option linter.unusedSimpArgs false
end Go.Proofs.YtlofiplkmgmnfaaC
