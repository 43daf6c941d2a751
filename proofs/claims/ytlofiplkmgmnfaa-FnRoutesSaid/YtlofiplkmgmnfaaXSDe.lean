/- What the laws look at: numbers in lists, records by their keys, ways by where they lead. Conditions: none. -/
import Derived.Test.YtlofiplkmgmnfaaXSDd
namespace Go.Proofs.YtlofiplkmgmnfaaC
open Int (reduceLE reduceLT reduceEq reduceGT reduceGE reduceAdd reduceSub reduceMul reduceNeg)
set_option linter.unusedVariables false
set_option linter.unusedSimpArgs false
theorem wayP_some {W:List Way} {v:Int} (h:¬ wayP W v < 0):gt W (wayP W v)∈W∧(gt W (wayP W v)).to=v:=by
 have hlt:=wayP_lt W v
 refine ⟨gt_mem (by omega) hlt,?_⟩
 have:=findP_spec (fun w:Way=>w.to == v) W (by unfold wayP at h;omega)
 unfold wayP
 simpa using this
theorem ways_one {W:List Way} (hW:W.Pairwise fun a b=>a.to < b.to) {a b:Way} (ha:a∈W) (hb:b∈W) (h:a.to=b.to):a=b:=by
 have h1:=(wayO_mem hW).2 ⟨ha,rfl⟩
 have h2:=(wayO_mem hW).2 ⟨hb,rfl⟩
 rw [h] at h1
 rw [h1] at h2
 exact Option.some.inj h2
theorem refl_sameInts (a:List Int) (h:a.length≤1048576):F_sameInts [.l (a.map eInt),.l (a.map eInt)]=some [bb true]:=by
 rw [g_sameInts]
 have hn:Prim.ev .len [.l (a.map eInt)]=some (ii a.length):=ev_lenM
 simp (disch:=omega) only [↓pq,↓pj,ps,pz,↓reduceIte,reduceLE,reduceLT,reduceEq,reduceGT,reduceGE,reduceAdd,reduceSub,reduceMul,reduceNeg,G_sameInts,hn]
 refine iter_while (fun i=>[bb false,ii (i:Int)]) a.length rfl (rounds_lt h) ?_ ?_
 ·intro i hi q
  simp (disch:=omega) only [↓pq,↓pj,ps,pz,↓reduceIte,reduceLE,reduceLT,reduceEq,reduceGT,reduceGE,reduceAdd,reduceSub,reduceMul,reduceNeg,G_sameInts_l0,hn,hi]
 ·intro q
  have hz:¬ ((a.length:Int) < a.length):=by omega
  simp (disch:=omega) only [↓pq,↓pj,ps,pz,↓reduceIte,reduceLE,reduceLT,reduceEq,reduceGT,reduceGE,reduceAdd,reduceSub,reduceMul,reduceNeg,G_sameInts_l0,hn,hz]
theorem refl_sameRoutes (s:List Route) (h:s.length≤1048576) (hn:∀ r∈s,r.hops.length≤1048576):F_sameRoutes [.l (s.map eRoute),.l (s.map eRoute)]=some [bb true]:=by
 rw [g_sameRoutes]
 have hl:Prim.ev .len [.l (s.map eRoute)]=some (ii s.length):=ev_lenM
 simp (disch:=omega) only [↓pq,↓pj,ps,pz,↓reduceIte,reduceLE,reduceLT,reduceEq,reduceGT,reduceGE,reduceAdd,reduceSub,reduceMul,reduceNeg,G_sameRoutes,hl]
 refine iter_while (fun i=>[bb false,ii (i:Int)]) s.length rfl (rounds_lt h) ?_ ?_
 ·intro i hi q
  have:=refl_sameInts _ (hn _ (gt_mem (n:=(i:Int)) (by omega) hi))
  have hb:Prim.ev (.bb .neq) [bb (gt s (i:Int)).thing,bb (gt s (i:Int)).thing]=some (bb false):=by cases (gt s (i:Int)).thing <;> rfl
  simp (disch:=omega) only [↓pq,↓pj,ps,pz,↓reduceIte,reduceLE,reduceLT,reduceEq,reduceGT,reduceGE,reduceAdd,reduceSub,reduceMul,reduceNeg,G_sameRoutes_l0,hl,hi,this,hb,Bool.false_eq_true]
 ·intro q
  have hz:¬ ((s.length:Int) < s.length):=by omega
  simp (disch:=omega) only [↓pq,↓pj,ps,pz,↓reduceIte,reduceLE,reduceLT,reduceEq,reduceGT,reduceGE,reduceAdd,reduceSub,reduceMul,reduceNeg,G_sameRoutes_l0,hl,hz]
end Go.Proofs.YtlofiplkmgmnfaaC
