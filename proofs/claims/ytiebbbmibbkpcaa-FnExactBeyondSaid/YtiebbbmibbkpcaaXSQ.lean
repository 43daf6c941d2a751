/- The routes of a node. Conditions: none. -/
import Derived.Test.YtiebbbmibbkpcaaXSP
namespace Go.Proofs.YtiebbbmibbkpcaaC
set_option linter.unusedVariables false
set_option linter.unusedSimpArgs false
end Go.Proofs.YtiebbbmibbkpcaaC
