/- What the laws look at: numbers in lists, records by their keys, ways by where they lead. Conditions: none. -/
import Derived.Test.YtlofiplkmgmnfaaXSDd
namespace Go.Proofs.YtlofiplkmgmnfaaC
open Int (reduceLE reduceLT reduceEq reduceGT reduceGE reduceAdd reduceSub reduceMul reduceNeg)
set_option linter.unusedVariables false
set_option linter.unusedSimpArgs false
theorem refl_same (r:Rcd) (h:r.near.length≤1048576):F_same (eRcd r++eRcd r)=some [bb true]:=by
 simp only [eRcd,List.cons_append,List.nil_append]
 rw [g_same]
 have hn:Prim.ev .len [.l (r.near.map eNear)]=some (ii r.near.length):=ev_lenM
 have hb:Prim.ev (.bb .neq) [bb r.far,bb r.far]=some (bb false):=by cases r.far <;> rfl
 have he:∀ a b:Int,Prim.ev (.eqs [1,1]) [ii a,ii b,ii a,ii b]=some (bb true):=fun a b=>by simp [Prim.ev,eqT,eqV]
 simp (disch:=omega) only [↓pq,↓pj,ps,pz,↓reduceIte,reduceLE,reduceLT,reduceEq,reduceGT,reduceGE,reduceAdd,reduceSub,reduceMul,reduceNeg,G_same,hn,hb]
 refine iter_while (fun i=>[bb false,ii (i:Int)]) r.near.length rfl (rounds_lt h) ?_ ?_
 ·intro i hi q
  simp (disch:=omega) only [↓pq,↓pj,ps,pz,↓reduceIte,reduceLE,reduceLT,reduceEq,reduceGT,reduceGE,reduceAdd,reduceSub,reduceMul,reduceNeg,G_same_l0,hn,hi,he]
 ·intro q
  have hz:¬ ((r.near.length:Int) < r.near.length):=by omega
  simp (disch:=omega) only [↓pq,↓pj,ps,pz,↓reduceIte,reduceLE,reduceLT,reduceEq,reduceGT,reduceGE,reduceAdd,reduceSub,reduceMul,reduceNeg,G_same_l0,hn,hz]
theorem refl_sameStore (s:List Rcd) (h:s.length≤1048576) (hn:NearL s):F_sameStore [.l (s.map eRcd),.l (s.map eRcd)]=some [bb true]:=by
 rw [g_sameStore]
 have hl:Prim.ev .len [.l (s.map eRcd)]=some (ii s.length):=ev_lenM
 simp (disch:=omega) only [↓pq,↓pj,ps,pz,↓reduceIte,reduceLE,reduceLT,reduceEq,reduceGT,reduceGE,reduceAdd,reduceSub,reduceMul,reduceNeg,G_sameStore,hl]
 refine iter_while (fun i=>[bb false,ii (i:Int)]) s.length rfl (rounds_lt h) ?_ ?_
 ·intro i hi q
  have:=refl_same (gt s (i:Int)) (hn.gt (by omega) hi)
  simp only [eRcd,List.cons_append,List.nil_append] at this
  simp (disch:=omega) only [↓pq,↓pj,ps,pz,↓reduceIte,reduceLE,reduceLT,reduceEq,reduceGT,reduceGE,reduceAdd,reduceSub,reduceMul,reduceNeg,G_sameStore_l0,hl,hi,this]
 ·intro q
  have hz:¬ ((s.length:Int) < s.length):=by omega
  simp (disch:=omega) only [↓pq,↓pj,ps,pz,↓reduceIte,reduceLE,reduceLT,reduceEq,reduceGT,reduceGE,reduceAdd,reduceSub,reduceMul,reduceNeg,G_sameStore_l0,hl,hz]
end Go.Proofs.YtlofiplkmgmnfaaC
