/- The routes of a node. Conditions: none. -/
import Derived.Test.YtlofiplkmgmnfaaXSP
namespace Go.Proofs.YtlofiplkmgmnfaaC
set_option linter.unusedVariables false
set_option linter.unusedSimpArgs false
theorem routesOf_len (s:List Rcd) (A:List Int) (z:Bool) (fr:Int):(routesOf s A z fr).length≤21:=by
 unfold routesOf
 have h1:=List.length_filter_le (fun w:Way=>!(w.to == fr)) (within s A fr)
 have h2:=within_len (s:=s) (A:=A) (fr:=fr)
 have h3:=beyond_len (s:=s) (A:=A) (z:=z) (fr:=fr)
 have h4:=List.length_filterMap_le (fun k=>thingR s (within s A fr++beyond s A z fr) k fr) (upto 9)
 have h5:(upto 9).length=9:=rfl
 simp only [List.length_append,List.length_map]
 omega
end Go.Proofs.YtlofiplkmgmnfaaC
