/- The library's numeral, as a plain function. Conditions: none. -/
import Derived.Test.YtbhplkilhknciaaDoorKe
import Derived.Lib.ItoaNum
namespace Go.Proofs.YtbhplkilhknciaaDoorC
def F_strconv_Itoa:Sem1:=fun ts =>
 match ts with
 | [.c (.int .i64 n)]=>if -9223372036854775808≤n∧n≤9223372036854775807 then some [.c (.string ⟨(Go.Lib.itoa n).toArray⟩)] else none
 | _=>none
end Go.Proofs.YtbhplkilhknciaaDoorC
