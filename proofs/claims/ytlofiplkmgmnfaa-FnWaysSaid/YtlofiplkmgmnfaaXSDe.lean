/- What the laws look at: numbers in lists, records by their keys, ways by where they lead. Conditions: none. -/
import Derived.Test.YtlofiplkmgmnfaaXSDd
namespace Go.Proofs.YtlofiplkmgmnfaaC
open Int (reduceLE reduceLT reduceEq reduceGT reduceGE reduceAdd reduceSub reduceMul reduceNeg)
set_option linter.unusedVariables false
set_option linter.unusedSimpArgs false
theorem e_in (l:List Int) (x:Int) (h:l.length≤1048576):F_in [.l (l.map eInt),ii x]=some [bb (l.contains x)]:=by
 rw [g_in];simp (disch:=omega) only [↓pq,ps,pz,↓reduceIte,reduceLE,reduceLT,reduceEq,reduceGT,reduceGE,reduceAdd,reduceSub,reduceMul,reduceNeg,G_in]
 refine (iter_allx l.length (fun i=>[bb false,ii i]) (fun i=>!(gt l i == x)) (outF:=some [bb true]) (outT:=some [bb false]) rfl (rounds_lt h) ?_ ?_).trans ?_
 ·intro i hi k
  by_cases he:gt l (i:Int)=x
  ·simp (disch:=omega) only [↓pq,ps,pz,↓reduceIte,reduceLE,reduceLT,reduceEq,reduceGT,reduceGE,reduceAdd,reduceSub,reduceMul,reduceNeg,G_in_l0,hi,he]
  ·simp (disch:=omega) only [↓pq,ps,pz,↓reduceIte,reduceLE,reduceLT,reduceEq,reduceGT,reduceGE,reduceAdd,reduceSub,reduceMul,reduceNeg,G_in_l0,hi,he]
 ·intro k
  simp (disch:=omega) only [↓pq,ps,pz,↓reduceIte,reduceLE,reduceLT,reduceEq,reduceGT,reduceGE,reduceAdd,reduceSub,reduceMul,reduceNeg,G_in_l0]
 ·cases hc:l.contains x with
  | true =>
   have hm:x∈l:=by simpa using hc
   obtain ⟨i,hi,e⟩:=List.mem_iff_getElem.1 hm
   have:allB l.length (fun i=>!(gt l i == x))=false:=by
    rw [← Bool.not_eq_true,allB_iff]
    intro h
    have:=h i hi
    rw [gt_elem hi,e] at this
    simp at this
   rw [this];rfl
  | false =>
   have hm:x ∉ l:=by simpa using hc
   have:allB l.length (fun i=>!(gt l i == x))=true:=by
    rw [allB_iff]
    intro i hi
    have:gt l (i:Int)≠x:=fun e=>hm (e ▸ gt_mem (by omega) (by omega))
    simp [this]
   rw [this];rfl
theorem find_s (s:List Rcd) (r:Rcd) (u4 u5 u6 u7:T) (h:s.length≤1048576) (hn:NearL s) :
  F_s_Find [.l (s.map eRcd),ii r.area,ii r.kind,ii r.owner,ii r.key,u4,u5,u6,u7]=if keyP s r < 0 then some [ii 0,ii 0,ii 0,ii 0,ii 0,.l [],ii 0,bb false,bb false] else some (eRcd (gt s (keyP s r))++[bb true]):=by
 have hk:=e_s_l05At s r.area r.kind r.owner r.key u4 u5 u6 u7 h
 rw [keyP_eta] at hk
 have hlt:keyP s r < s.length:=findP_lt _ _
 rw [g_s_Find]
 by_cases h0:keyP s r < 0
 ·rw [if_pos h0]
  simp (disch:=omega) only [↓pq,ps,pz,↓reduceIte,reduceLE,reduceLT,reduceEq,reduceGT,reduceGE,reduceAdd,reduceSub,reduceMul,reduceNeg,G_s_Find,hk,h0]
 ·rw [if_neg h0]
  have h1:0≤keyP s r:=by omega
  have hnr:=hn.gt h1 hlt
  simp (disch:=omega) only [↓pq,ps,pz,↓reduceIte,reduceLE,reduceLT,reduceEq,reduceGT,reduceGE,reduceAdd,reduceSub,reduceMul,reduceNeg,G_s_Find,hk,h0,h1,hlt,e_s_l04Copy]
  rfl
theorem wayP_some {W:List Way} {v:Int} (h:¬ wayP W v < 0):gt W (wayP W v)∈W∧(gt W (wayP W v)).to=v:=by
 have hlt:=wayP_lt W v
 refine ⟨gt_mem (by omega) hlt,?_⟩
 have:=findP_spec (fun w:Way=>w.to == v) W (by unfold wayP at h;omega)
 unfold wayP
 simpa using this
theorem wayP_in {W:List Way} {w:Way} {v:Int} (h:w∈W) (hv:w.to=v):¬ wayP W v < 0:=by
 subst hv;exact wayP_has h
theorem waysIn_none {s:List Rcd} {ar fr:Int} (h:nodeP s ar fr < 0):waysIn s ar fr=[]:=by
 unfold waysIn
 rw [if_neg]
 rintro ⟨_,_,h'⟩
 omega
theorem link_node {s:List Rcd} {ar a b:Int} (h:linkC s ar a b≠0):0≤nodeP s ar a∧0≤nodeP s ar b:=by
 have g:∀ v u,toldC s ar v u≠0→0≤nodeP s ar v:=by
  intro v u h
  rcases Int.lt_or_le (nodeP s ar v) 0 with h0 | h0
  ·exfalso
   apply h
   unfold toldC nearOf
   rw [if_pos h0]
   rfl
  ·exact h0
 unfold linkC at h
 split at h
 ·exact absurd rfl h
 ·rename_i h1
  exact ⟨g _ _ h,g _ _ h1⟩
theorem link_in6 {s:List Rcd} (hs:storeOk s=true) {ar a b:Int} (h:linkC s ar a b≠0):In6 b:=by
 have h1:toldC s ar a b≠0:=by
  unfold linkC at h
  split at h
  ·exact absurd rfl h
  ·exact h
 rcases Decidable.em (∃ x∈nearOf s ar a,x.to=b) with ⟨x,hx,e⟩ | hne
 ·have:=(nearOk_all (nearOf_ok hs ar a) hx).1
  rw [← e];exact this
 ·exact absurd (costIn_none fun x hx e=>hne ⟨x,hx,e⟩) h1
end Go.Proofs.YtlofiplkmgmnfaaC
