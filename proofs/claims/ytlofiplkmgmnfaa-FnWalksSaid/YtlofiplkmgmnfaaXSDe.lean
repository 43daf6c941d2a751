/- What the laws look at: numbers in lists, records by their keys, ways by where they lead. Conditions: none. -/
import Derived.Test.YtlofiplkmgmnfaaXSDd
namespace Go.Proofs.YtlofiplkmgmnfaaC
open Int (reduceLE reduceLT reduceEq reduceGT reduceGE reduceAdd reduceSub reduceMul reduceNeg)
set_option linter.unusedVariables false
set_option linter.unusedSimpArgs false
theorem wayP_some {W:List Way} {v:Int} (h:¬ wayP W v < 0):gt W (wayP W v)∈W∧(gt W (wayP W v)).to=v:=by
 have hlt:=wayP_lt W v
 refine ⟨gt_mem (by omega) hlt,?_⟩
 have:=findP_spec (fun w:Way=>w.to == v) W (by unfold wayP at h;omega)
 unfold wayP
 simpa using this
theorem waysIn_none {s:List Rcd} {ar fr:Int} (h:nodeP s ar fr < 0):waysIn s ar fr=[]:=by
 unfold waysIn
 rw [if_neg]
 rintro ⟨_,_,h'⟩
 omega
theorem link_node {s:List Rcd} {ar a b:Int} (h:linkC s ar a b≠0):0≤nodeP s ar a∧0≤nodeP s ar b:=by
 have g:∀ v u,toldC s ar v u≠0→0≤nodeP s ar v:=by
  intro v u h
  rcases Int.lt_or_le (nodeP s ar v) 0 with h0 | h0
  ·exfalso
   apply h
   unfold toldC nearOf
   rw [if_pos h0]
   rfl
  ·exact h0
 unfold linkC at h
 split at h
 ·exact absurd rfl h
 ·rename_i h1
  exact ⟨g _ _ h,g _ _ h1⟩
theorem refl_sameInts (a:List Int) (h:a.length≤1048576):F_sameInts [.l (a.map eInt),.l (a.map eInt)]=some [bb true]:=by
 rw [g_sameInts]
 have hn:Prim.ev .len [.l (a.map eInt)]=some (ii a.length):=ev_lenM
 simp (disch:=omega) only [↓pq,↓pj,ps,pz,↓reduceIte,reduceLE,reduceLT,reduceEq,reduceGT,reduceGE,reduceAdd,reduceSub,reduceMul,reduceNeg,G_sameInts,hn]
 refine iter_while (fun i=>[bb false,ii (i:Int)]) a.length rfl (rounds_lt h) ?_ ?_
 ·intro i hi q
  simp (disch:=omega) only [↓pq,↓pj,ps,pz,↓reduceIte,reduceLE,reduceLT,reduceEq,reduceGT,reduceGE,reduceAdd,reduceSub,reduceMul,reduceNeg,G_sameInts_l0,hn,hi]
 ·intro q
  have hz:¬ ((a.length:Int) < a.length):=by omega
  simp (disch:=omega) only [↓pq,↓pj,ps,pz,↓reduceIte,reduceLE,reduceLT,reduceEq,reduceGT,reduceGE,reduceAdd,reduceSub,reduceMul,reduceNeg,G_sameInts_l0,hn,hz]
end Go.Proofs.YtlofiplkmgmnfaaC
