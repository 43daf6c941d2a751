/- What the functions that look into stores and put into them compute. Conditions: none. -/
import Derived.Test.YtlofiplkmgmnfaaXSD
namespace Go.Proofs.YtlofiplkmgmnfaaC
open Int (reduceLE reduceLT reduceEq reduceGT reduceGE reduceAdd reduceSub reduceMul reduceNeg)
set_option linter.unusedVariables false
set_option linter.unusedSimpArgs false
theorem e_i_keyAt (s:List Rcd) (a k o y:Int) (t4 t5 t6 t7:T) (h:s.length≤1048576):F_i_keyAt [.l (s.map eRcd),ii a,ii k,ii o,ii y,t4,t5,t6,t7]=some [ii (findP (fun x=>sameKey x ⟨a,k,o,y,0,[],0,false⟩) s)]:=by
 rw [g_i_keyAt];simp (disch:=omega) only [↓pq,ps,pz,↓reduceIte,reduceLE,reduceLT,reduceEq,reduceGT,reduceGE,reduceAdd,reduceSub,reduceMul,reduceNeg,G_i_keyAt_l0,G_i_keyAt]
 refine (iter_findPx s (fun i=>[ii 0,ii i]) (fun x=>sameKey x ⟨a,k,o,y,0,[],0,false⟩) (fun i=>some [ii i]) (outN:=some [ii (-1)]) rfl (rounds_lt h) ?_ ?_).trans (findP_ite _ _)
 ·intro i hi q
  simp (disch:=omega) only [↓pq,ps,pz,↓reduceIte,reduceLE,reduceLT,reduceEq,reduceGT,reduceGE,reduceAdd,reduceSub,reduceMul,reduceNeg,G_i_keyAt_l0,hi,e_i_SameKey]
  rfl
 ·intro q
  simp (disch:=omega) only [↓pq,ps,pz,↓reduceIte,reduceLE,reduceLT,reduceEq,reduceGT,reduceGE,reduceAdd,reduceSub,reduceMul,reduceNeg,G_i_keyAt_l0,]
theorem e_s_l05At (s:List Rcd) (a k o y:Int) (t4 t5 t6 t7:T) (h:s.length≤1048576):F_s_l05At [.l (s.map eRcd),ii a,ii k,ii o,ii y,t4,t5,t6,t7]=some [ii (findP (fun x=>sameKey x ⟨a,k,o,y,0,[],0,false⟩) s)]:=by
 rw [g_s_l05At];simp (disch:=omega) only [↓pq,ps,pz,↓reduceIte,reduceLE,reduceLT,reduceEq,reduceGT,reduceGE,reduceAdd,reduceSub,reduceMul,reduceNeg,G_s_l05At_l0,G_s_l05At]
 refine (iter_findPx s (fun i=>[ii 0,ii i]) (fun x=>sameKey x ⟨a,k,o,y,0,[],0,false⟩) (fun i=>some [ii i]) (outN:=some [ii (-1)]) rfl (rounds_lt h) ?_ ?_).trans (findP_ite _ _)
 ·intro i hi q
  simp (disch:=omega) only [↓pq,ps,pz,↓reduceIte,reduceLE,reduceLT,reduceEq,reduceGT,reduceGE,reduceAdd,reduceSub,reduceMul,reduceNeg,G_s_l05At_l0,hi,e_s_SameKey]
  rfl
 ·intro q
  simp (disch:=omega) only [↓pq,ps,pz,↓reduceIte,reduceLE,reduceLT,reduceEq,reduceGT,reduceGE,reduceAdd,reduceSub,reduceMul,reduceNeg,G_s_l05At_l0,]
def ahead (s:List Rcd) (r:Rcd):Nat:=(s.filter (fun x=>recLt x r)).length
theorem NearL.take {s:List Rcd} (h:NearL s) (n:Nat):NearL (s.take n):=fun r hr=>h r (List.mem_of_mem_take hr)
theorem NearL.drop {s:List Rcd} (h:NearL s) (n:Nat):NearL (s.drop n):=fun r hr=>h r (List.mem_of_mem_drop hr)
theorem iter_while {β σ:Type} {F:(σ→Option β)→σ→Option β} {R:Nat} {x:σ} (st:Nat→σ) (n:Nat) {out:Option β} (hx:x=st 0) (hR:n < R) (step:∀ i:Nat,(i:Int) < (n:Int)→∀ s,F s (st i)=s (st (i+1))) (fin:∀ s,F s (st n)=out):iter F R x=out:=by
 have:=iter_allx (F:=F) (R:=R) (x:=x) n st (fun _=>true) (outT:=out) (outF:=out) hx hR (fun i hi s=>by simpa using step i hi s) fin
 rw [this];simp
end Go.Proofs.YtlofiplkmgmnfaaC
