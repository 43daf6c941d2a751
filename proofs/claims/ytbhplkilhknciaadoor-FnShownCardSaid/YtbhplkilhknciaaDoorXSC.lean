/- What the functions of nodes and worlds' tests compute. Conditions: none. -/
import Derived.Test.YtbhplkilhknciaaDoorXSB
namespace Go.Proofs.YtbhplkilhknciaaDoorC
set_option linter.unusedVariables false
set_option linter.unusedSimpArgs false
end Go.Proofs.YtbhplkilhknciaaDoorC
