/- Ways within areas: of all areas the best; from both ends they cost the same. Conditions: none. -/
import Derived.Test.YtlofiplkmgmnfaaXSDg
namespace Go.Proofs.YtlofiplkmgmnfaaC
set_option linter.unusedVariables false
set_option linter.unusedSimpArgs false
section
variable {s:List Rcd} {A:List Int} {v:Int}
theorem within_best {w:Way} (h:w∈within s A v):Best ((cand s A v).filter fun y=>y.to == w.to) w:=by
 have hm:=(wlst_mem (fun x hx=>(cand_ok x hx).2.1)).1 h
 rcases togs_best (v:=w.to) _ ((cand s A v).filter fun y=>y.to == w.to) rfl (fun y hy=>by have:=List.mem_filter.1 hy;exact ⟨by simpa using this.2,(cand_ok y this.1).2.1⟩) with ⟨_,e1⟩ | ⟨b,e1,hb,B⟩
 ·rw [e1] at hm;cases hm.2
 ·rw [e1] at hm;cases hm.2;exact B
theorem within_get {y:Way} (h:y∈cand s A v):∃ w∈within s A v,w.to=y.to:=by
 obtain ⟨h2,h3⟩:=wayP_some (within_has h)
 exact ⟨_,h2,h3⟩
theorem mem_cand {y:Way}:y∈cand s A v↔∃ a∈A,y∈waysIn s a v:=by unfold cand;exact List.mem_flatMap
theorem waysIn_node {a:Int} {y:Way} (h:y∈waysIn s a v):0≤nodeP s a v:=by
 rcases Int.lt_or_le (nodeP s a v) 0 with h0 | h0
 ·rw [waysIn_none h0] at h;cases h
 ·exact h0
theorem within_cost (hs:storeOk s=true) (hv:In6 v) {w:Way} (h:w∈within s A v) :
  (∃ a∈A,Pa s a v w.to w.cost)∧∀ a∈A,0≤nodeP s a v→∀ n,Pa s a v w.to n→w.cost≤n:=by
 obtain ⟨b1,⟨y,hy,e⟩,b3,_⟩:=within_best h
 obtain ⟨hy1,hy2⟩:=List.mem_filter.1 hy
 have hy2:y.to=w.to:=by simpa using hy2
 obtain ⟨a,ha,hya⟩:=mem_cand.1 hy1
 refine ⟨⟨a,ha,?_⟩,fun a ha hp n hn=>?_⟩
 ·have:=((waysIn_spec hs hv (waysIn_node hya)).1 y hya).2.1
  rwa [hy2,e] at this
 ·obtain ⟨z,hz,ez⟩:=(waysIn_spec hs hv hp).2 _ _ hn
  have h1:=((waysIn_spec hs hv hp).1 z hz).2.2.1 n (by rw [ez];exact hn)
  have h2:=b3 z (List.mem_filter.2 ⟨mem_cand.2 ⟨a,ha,hz⟩,by simpa using ez⟩)
  omega
theorem within_reach (hs:storeOk s=true) (hv:In6 v) {a:Int} (ha:a∈A) (hp:0≤nodeP s a v) {u n:Int} (hn:Pa s a v u n):∃ w∈within s A v,w.to=u:=by
 obtain ⟨z,hz,ez⟩:=(waysIn_spec hs hv hp).2 _ _ hn
 obtain ⟨w,hw,e⟩:=within_get (mem_cand.2 ⟨a,ha,hz⟩)
 exact ⟨w,hw,e.trans ez⟩
end
section
variable {x:Net} {L U:List Bool}
theorem pa_nodes {s:List Rcd} {a v u n:Int} (h:Pa s a v u n) (hne:v≠u):0≤nodeP s a v∧0≤nodeP s a u:=by
 refine ⟨?_,?_⟩
 ·cases h with
  | nil=>exact absurd rfl hne
  | cons h hc p=>exact (link_node hc).1
 ·rcases h.last with ⟨e,_⟩ | ⟨p,m,_,hc,_⟩
  ·exact absurd e hne
  ·exact (link_node hc).2
end
theorem Pa.first {s:List Rcd} {ar a v n:Int} (h:Pa s ar a v n):(a=v∧n=0)∨∃ p m,linkC s ar a p≠0∧Pa s ar p v m∧linkC s ar a p+m=n:=by
 cases h with
 | nil=>exact .inl ⟨rfl,rfl⟩
 | cons h hc p=>exact .inr ⟨_,_,hc,p,rfl⟩
end Go.Proofs.YtlofiplkmgmnfaaC
