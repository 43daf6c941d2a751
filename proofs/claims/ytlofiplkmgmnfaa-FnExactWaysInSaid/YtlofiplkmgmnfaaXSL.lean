/- Routes within areas, by both programs. Conditions: none. -/
import Derived.Test.YtlofiplkmgmnfaaXSK
namespace Go.Proofs.YtlofiplkmgmnfaaC
open Int (reduceLE reduceLT reduceEq reduceGT reduceGE reduceAdd reduceSub reduceMul reduceNeg)
set_option linter.unusedVariables false
set_option linter.unusedSimpArgs false
theorem dij_inv {s:List Rcd} (hs:storeOk s=true) (ar fr:Int):∀ k W D,DInv fr W D→∃ D',DInv fr (dij s ar fr k W D) D'
 | 0,W,D,h=>⟨D,h⟩
 | k+1,W,D,h=>by
  unfold dij
  by_cases hb:best W D=0
  ·rw [if_pos hb];exact ⟨D,h⟩
  ·rw [if_neg hb];exact dij_inv hs ar fr k _ _ (h.step hs ar hb)
theorem waysIn_ok {s:List Rcd} {ar fr:Int}:(waysIn s ar fr).Pairwise (fun a b=>a.to < b.to)∧(waysIn s ar fr).length≤7∧∀ w∈waysIn s ar fr,(1≤w.to∧w.to≤6)∧HopsOk w.hops∧0≤w.cost∧w.cost≤6000:=by
 unfold waysIn
 by_cases hc:storeOk s=true∧inB fr 1 6=true∧0≤nodeP s ar fr
 ·rw [if_pos hc]
  obtain ⟨D,hI⟩:=dij_inv hc.1 ar fr 6 (W0 fr) [] (DInv.start (inB_iff.1 hc.2.1))
  have hD:=hI.len
  have hl:=hI.ok.len
  have key:∀ i,(hi:i < (dij s ar fr 6 (W0 fr) []).length)→(dij s ar fr 6 (W0 fr) [])[i].to≠0→(dij s ar fr 6 (W0 fr) [])[i].to=(i:Int)∧1≤i:=by
   intro i hi h0
   have:=(hI.ok.to (i:Int) (by omega) (by omega))
   rw [gt_elem hi] at this
   have:=this.resolve_left h0
   exact ⟨this,by omega⟩
  refine ⟨?_,Nat.le_trans (known_len _) (by omega),fun w hw=>?_⟩
  ·have hp:(dij s ar fr 6 (W0 fr) []).Pairwise fun a b=>a.to≠0→b.to≠0→a.to < b.to:=by
    rw [List.pairwise_iff_getElem]
    intro i j hi hj hij h1 h2
    rw [(key i hi h1).1,(key j hj h2).1];omega
   unfold known
   have hp2:=hp.filter (fun w=>!(w.to == 0))
   refine hp2.imp_of_mem fun {a b} ha hb hab=>hab ?_ ?_
   ·have:=(List.mem_filter.1 ha).2;simpa using this
   ·have:=(List.mem_filter.1 hb).2;simpa using this
  ·obtain ⟨h1,h2⟩:=List.mem_filter.1 hw
   have h2:w.to≠0:=by simpa using h2
   obtain ⟨i,hi,rfl⟩:=List.mem_iff_getElem.1 h1
   obtain ⟨h3,h4⟩:=key i hi h2
   have h5:=hI.ok.hops (i:Int) (by omega) (by omega)
   have h6:=hI.ok.cost (i:Int) (by omega) (by omega)
   rw [gt_elem hi] at h5 h6
   exact ⟨by omega,h5,by omega⟩
 ·rw [if_neg hc];simp
def cand (s:List Rcd) (areas:List Int) (fr:Int):List Way:=areas.flatMap fun a=>waysIn s a fr
def within (s:List Rcd) (areas:List Int) (fr:Int):List Way:=wlst (cand s areas fr)
end Go.Proofs.YtlofiplkmgmnfaaC
