/- What the laws look at: numbers in lists, records by their keys, ways by where they lead. Conditions: none. -/
import Derived.Test.YtlofiplkmgmnfaaXSDd
namespace Go.Proofs.YtlofiplkmgmnfaaC
open Int (reduceLE reduceLT reduceEq reduceGT reduceGE reduceAdd reduceSub reduceMul reduceNeg)
set_option linter.unusedVariables false
set_option linter.unusedSimpArgs false
theorem wayP_some {W:List Way} {v:Int} (h:¬ wayP W v < 0):gt W (wayP W v)∈W∧(gt W (wayP W v)).to=v:=by
 have hlt:=wayP_lt W v
 refine ⟨gt_mem (by omega) hlt,?_⟩
 have:=findP_spec (fun w:Way=>w.to == v) W (by unfold wayP at h;omega)
 unfold wayP
 simpa using this
theorem waysIn_none {s:List Rcd} {ar fr:Int} (h:nodeP s ar fr < 0):waysIn s ar fr=[]:=by
 unfold waysIn
 rw [if_neg]
 rintro ⟨_,_,h'⟩
 omega
end Go.Proofs.YtlofiplkmgmnfaaC
