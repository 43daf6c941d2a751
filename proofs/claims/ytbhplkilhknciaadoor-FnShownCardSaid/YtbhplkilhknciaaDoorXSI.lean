/- Both programs find the shortest ways. Conditions: none. -/
import Derived.Test.YtbhplkilhknciaaDoorXSH
namespace Go.Proofs.YtbhplkilhknciaaDoorC
set_option linter.unusedVariables false
set_option linter.unusedSimpArgs false
theorem known_len (W:List Way):(known W).length≤W.length:=List.length_filter_le _ _
end Go.Proofs.YtbhplkilhknciaaDoorC
