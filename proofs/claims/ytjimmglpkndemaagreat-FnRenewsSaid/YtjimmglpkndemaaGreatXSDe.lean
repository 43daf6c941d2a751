/- What the laws look at: numbers in lists, records by their keys, ways by where they lead. Conditions: none. -/
import Derived.Test.YtjimmglpkndemaaGreatXSDd
namespace Go.Proofs.YtjimmglpkndemaaGreatC
open Int renaming reduceLE → Q0_, reduceLT → Q1_, reduceEq → Q2_, reduceGT → Q3_, reduceGE → Q4_, reduceAdd → Q5_, reduceSub → Q6_, reduceMul → Q7_, reduceNeg → Q8_
set_option linter.unusedVariables false
set_option linter.unusedSimpArgs false
theorem aOr_ (s:List Rcd) (r:Rcd) (u4 u5 u6 u7:T) (h:s.length≤1048576) (hn:NearL s) :
  vF_ [.l (s.map eRcd),ii r.area,ii r.kind,ii r.owner,ii r.key,u4,u5,u6,u7]=if keyP s r < 0 then some [ii 0,ii 0,ii 0,ii 0,ii 0,.l [],ii 0,bb false,bb false] else some (eRcd (gt s (keyP s r))++[bb true]):=by
 have hk:=k2_ s r.area r.kind r.owner r.key u4 u5 u6 u7 h
 rw [jw_] at hk
 have hlt:keyP s r < s.length:=y9_ _ _
 rw [aw9_]
 by_cases h0:keyP s r < 0
 ·rw [if_pos h0]
  simp (disch:=omega) only [↓pq,↓pj,ps,pz,↓reduceIte,Q0_,Q1_,Q2_,Q3_,Q4_,Q5_,Q6_,Q7_,Q8_,kF_,hk,h0]
 ·rw [if_neg h0]
  have h1:0≤keyP s r:=by omega
  have hnr:=hn.gt h1 hlt
  simp (disch:=omega) only [↓pq,↓pj,ps,pz,↓reduceIte,Q0_,Q1_,Q2_,Q3_,Q4_,Q5_,Q6_,Q7_,Q8_,kF_,hk,h0,h1,hlt,kQ_]
  rfl
theorem aru_ (r:Rcd) (h:r.near.length≤1048576):jb_ (eRcd r++eRcd r)=some [bb true]:=by
 simp only [eRcd,List.cons_append,List.nil_append]
 rw [aOa_]
 have hn:Prim.ev .len [.l (r.near.map zu_)]=some (ii r.near.length):=ky_
 have hb:Prim.ev (.bb .neq) [bb r.far,bb r.far]=some (bb false):=by cases r.far <;> rfl
 have he:∀ a b:Int,Prim.ev (.eqs [1,1]) [ii a,ii b,ii a,ii b]=some (bb true):=fun a b=>by simp [Prim.ev,eqT,eqV]
 simp (disch:=omega) only [↓pq,↓pj,ps,pz,↓reduceIte,Q0_,Q1_,Q2_,Q3_,Q4_,Q5_,Q6_,Q7_,Q8_,awi_,hn,hb]
 refine wi_ (fun i=>[bb false,ii (i:Int)]) r.near.length rfl (za_ h) ?_ ?_
 ·intro i hi q
  simp (disch:=omega) only [↓pq,↓pj,ps,pz,↓reduceIte,Q0_,Q1_,Q2_,Q3_,Q4_,Q5_,Q6_,Q7_,Q8_,ajq_,hn,hi,he]
 ·intro q
  have hz:¬ ((r.near.length:Int) < r.near.length):=by omega
  simp (disch:=omega) only [↓pq,↓pj,ps,pz,↓reduceIte,Q0_,Q1_,Q2_,Q3_,Q4_,Q5_,Q6_,Q7_,Q8_,ajq_,hn,hz]
theorem afi_ (s:List Rcd) (h:s.length≤1048576) (hn:NearL s):u4_ [.l (s.map eRcd),.l (s.map eRcd)]=some [bb true]:=by
 rw [aAc_]
 have hl:Prim.ev .len [.l (s.map eRcd)]=some (ii s.length):=ky_
 simp (disch:=omega) only [↓pq,↓pj,ps,pz,↓reduceIte,Q0_,Q1_,Q2_,Q3_,Q4_,Q5_,Q6_,Q7_,Q8_,aet_,hl]
 refine wi_ (fun i=>[bb false,ii (i:Int)]) s.length rfl (za_ h) ?_ ?_
 ·intro i hi q
  have:=aru_ (gt s (i:Int)) (hn.gt (by omega) hi)
  simp only [eRcd,List.cons_append,List.nil_append] at this
  simp (disch:=omega) only [↓pq,↓pj,ps,pz,↓reduceIte,Q0_,Q1_,Q2_,Q3_,Q4_,Q5_,Q6_,Q7_,Q8_,kC_,hl,hi,this]
 ·intro q
  have hz:¬ ((s.length:Int) < s.length):=by omega
  simp (disch:=omega) only [↓pq,↓pj,ps,pz,↓reduceIte,Q0_,Q1_,Q2_,Q3_,Q4_,Q5_,Q6_,Q7_,Q8_,kC_,hl,hz]
end Go.Proofs.YtjimmglpkndemaaGreatC
