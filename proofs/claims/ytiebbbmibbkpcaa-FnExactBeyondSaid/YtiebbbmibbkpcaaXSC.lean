/- What the functions of nodes and worlds' tests compute. Conditions: none. -/
import Derived.Test.YtiebbbmibbkpcaaXSB
namespace Go.Proofs.YtiebbbmibbkpcaaC
set_option linter.unusedVariables false
set_option linter.unusedSimpArgs false
end Go.Proofs.YtiebbbmibbkpcaaC
