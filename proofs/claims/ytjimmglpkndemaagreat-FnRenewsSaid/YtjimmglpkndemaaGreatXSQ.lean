/- The routes of a node. Conditions: none. -/
import Derived.Test.YtjimmglpkndemaaGreatXSP
namespace Go.Proofs.YtjimmglpkndemaaGreatC
set_option linter.unusedVariables false
set_option linter.unusedSimpArgs false
end Go.Proofs.YtjimmglpkndemaaGreatC
