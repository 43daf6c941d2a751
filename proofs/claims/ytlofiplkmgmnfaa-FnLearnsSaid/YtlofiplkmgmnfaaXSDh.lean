/- Ways within areas: of all areas the best; from both ends they cost the same. Conditions: none. -/
import Derived.Test.YtlofiplkmgmnfaaXSDg
namespace Go.Proofs.YtlofiplkmgmnfaaC
set_option linter.unusedVariables false
set_option linter.unusedSimpArgs false
section
variable {s:List Rcd} {A:List Int} {v:Int}
end
section
variable {x:Net} {L U:List Bool}
end
theorem Pa.first {s:List Rcd} {ar a v n:Int} (h:Pa s ar a v n):(a=v∧n=0)∨∃ p m,linkC s ar a p≠0∧Pa s ar p v m∧linkC s ar a p+m=n:=by
 cases h with
 | nil=>exact .inl ⟨rfl,rfl⟩
 | cons h hc p=>exact .inr ⟨_,_,hc,p,rfl⟩
end Go.Proofs.YtlofiplkmgmnfaaC
