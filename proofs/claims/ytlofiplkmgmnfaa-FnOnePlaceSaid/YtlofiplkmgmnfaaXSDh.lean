/- Ways within areas: of all areas the best; from both ends they cost the same. Conditions: none. -/
import Derived.Test.YtlofiplkmgmnfaaXSDg
namespace Go.Proofs.YtlofiplkmgmnfaaC
set_option linter.unusedVariables false
set_option linter.unusedSimpArgs false
section
variable {s:List Rcd} {A:List Int} {v:Int}
theorem within_best {w:Way} (h:w∈within s A v):Best ((cand s A v).filter fun y=>y.to == w.to) w:=by
 have hm:=(wlst_mem (fun x hx=>(cand_ok x hx).2.1)).1 h
 rcases togs_best (v:=w.to) _ ((cand s A v).filter fun y=>y.to == w.to) rfl (fun y hy=>by have:=List.mem_filter.1 hy;exact ⟨by simpa using this.2,(cand_ok y this.1).2.1⟩) with ⟨_,e1⟩ | ⟨b,e1,hb,B⟩
 ·rw [e1] at hm;cases hm.2
 ·rw [e1] at hm;cases hm.2;exact B
theorem within_get {y:Way} (h:y∈cand s A v):∃ w∈within s A v,w.to=y.to:=by
 obtain ⟨h2,h3⟩:=wayP_some (within_has h)
 exact ⟨_,h2,h3⟩
theorem mem_cand {y:Way}:y∈cand s A v↔∃ a∈A,y∈waysIn s a v:=by unfold cand;exact List.mem_flatMap
theorem waysIn_node {a:Int} {y:Way} (h:y∈waysIn s a v):0≤nodeP s a v:=by
 rcases Int.lt_or_le (nodeP s a v) 0 with h0 | h0
 ·rw [waysIn_none h0] at h;cases h
 ·exact h0
end
section
variable {x:Net} {L U:List Bool}
end
theorem Pa.first {s:List Rcd} {ar a v n:Int} (h:Pa s ar a v n):(a=v∧n=0)∨∃ p m,linkC s ar a p≠0∧Pa s ar p v m∧linkC s ar a p+m=n:=by
 cases h with
 | nil=>exact .inl ⟨rfl,rfl⟩
 | cons h hc p=>exact .inr ⟨_,_,hc,p,rfl⟩
end Go.Proofs.YtlofiplkmgmnfaaC
