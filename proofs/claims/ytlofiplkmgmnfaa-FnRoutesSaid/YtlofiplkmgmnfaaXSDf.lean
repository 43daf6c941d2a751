/- What the records are that there would be; links are seen from both ends. Conditions: none. -/
import Derived.Test.YtlofiplkmgmnfaaXSDe
namespace Go.Proofs.YtlofiplkmgmnfaaC
set_option linter.unusedVariables false
set_option linter.unusedSimpArgs false
section
variable {x:Net} {L U:List Bool}
end
end Go.Proofs.YtlofiplkmgmnfaaC
