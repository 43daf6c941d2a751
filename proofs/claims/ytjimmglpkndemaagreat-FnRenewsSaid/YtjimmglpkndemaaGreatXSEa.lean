/- What is learnt: records that are newer are put into a store. Conditions: none. -/
import Derived.Test.YtjimmglpkndemaaGreatXSDf
namespace Go.Proofs.YtjimmglpkndemaaGreatC
open Int renaming reduceLE → Q0_, reduceLT → Q1_, reduceEq → Q2_, reduceGT → Q3_, reduceGE → Q4_, reduceAdd → Q5_, reduceSub → Q6_, reduceMul → Q7_, reduceNeg → Q8_
set_option linter.unusedVariables false
set_option linter.unusedSimpArgs false
theorem aGq_ (s:List Rcd) (r:Rcd):keyP s r < s.length:=y9_ _ _
theorem aB8_ {s:List Rcd} (h:zG_ s) {a b:Rcd} (ha:a∈s) (hb:b∈s) (hk:zb_ a b=true):a=b:=by
 obtain ⟨i,hi,e1⟩:=List.mem_iff_getElem.1 ha
 obtain ⟨j,hj,e2⟩:=List.mem_iff_getElem.1 hb
 have hp:=List.pairwise_iff_getElem.1 h
 rw [sameKey_iff] at hk
 rcases Nat.lt_trichotomy i j with hij | hij | hij
 ·have:=hp i j hi hj hij
  rw [e1,e2] at this
  rw [yp_] at this
  omega
 ·subst hij;rw [← e1,← e2]
 ·have:=hp j i hj hi hij
  rw [e1,e2] at this
  rw [yp_] at this
  omega
theorem ac2_ {s:List Rcd} {r:Rcd} (h:0≤keyP s r):gt s (keyP s r)∈s∧zb_ (gt s (keyP s r)) r=true :=
 ⟨zS_ h (aGq_ s r),yE_ (fun x:Rcd=>zb_ x r) s h⟩
theorem al3_ {s:List Rcd} {r:Rcd} (h:keyP s r < 0):∀ x∈s,zb_ x r=false:=(wX_ _ _).1 h
theorem agu_ {s:List Rcd} {r x:Rcd} (hx:x∈s) (hk:zb_ x r=true):0≤keyP s r:=jP_ hx hk
theorem ait_ {s:List Rcd} (hs:zG_ s) {r x:Rcd} (hx:x∈s) (hk:zb_ x r=true):gt s (keyP s r)=x:=by
 obtain ⟨h1,h2⟩:=ac2_ (agu_ hx hk)
 refine aB8_ hs h1 hx ?_
 rw [sameKey_iff] at *
 omega
def insB (s:List Rcd) (r:Rcd):Bool:=zE_ r && (if 0≤keyP s r then decide ((gt s (keyP s r)).seq < r.seq) else decide (s.length < 150))
def insR (s:List Rcd) (r:Rcd):List Rcd:=if insB s r=true then putR s r else s
theorem ayy_ {s:List Rcd} (h:ze_ s=true):s.length≤150:=by
 unfold ze_ at h
 simp only [bA_,decide_eq_true_eq] at h
 exact h.1
theorem aEf_ {s:List Rcd} (h1:zG_ s) (h2:∀ r∈s,zE_ r=true) (h3:s.length≤150):ze_ s=true:=by
 unfold ze_
 simp only [bA_,decide_eq_true_eq]
 exact ⟨h3,ajb_ h2 h1⟩
theorem j4_ {s:List Rcd} (h:ze_ s=true):NearL s:=fun r hr=>by
 have:=ahk_ (xI_ h hr)
 omega
theorem ale_ {α:Type} {p q:α→Bool} (hpq:∀ a,p a=true→q a=false):∀ {l:List α} {x:α},x∈l→p x=false→q x=false→(l.filter p).length+(l.filter q).length+1≤l.length
 | a :: l,x,hx,hp,hq=>by
  have gen:∀ l:List α,(l.filter p).length+(l.filter q).length≤l.length:=by
   intro l
   induction l with
   | nil=>simp
   | cons a l ih =>
    have:=hpq a
    cases h1:p a <;> cases h2:q a <;> simp_all <;> omega
  rcases List.mem_cons.1 hx with rfl | hx
  ·have:=gen l
   simp only [List.filter_cons,hp,hq,bF_,if_false,List.length_cons]
   omega
  ·have ih:=ale_ hpq hx hp hq
   have:=hpq a
   cases h1:p a <;> cases h2:q a <;> simp_all <;> omega
theorem asx_ {s:List Rcd} {r:Rcd} (h:0≤keyP s r):(putR s r).length≤s.length:=by
 obtain ⟨h1,h2⟩:=ac2_ h
 rw [sameKey_iff] at h2
 have:=ale_ (p:=fun x=>zx_ x r) (q:=fun x=>zx_ r x) (fun a ha=>by
  rw [← Bool.not_eq_true]
  intro hb
  rw [yp_] at ha hb
  omega) h1 (by rw [← Bool.not_eq_true,yp_];omega) (by rw [← Bool.not_eq_true,yp_];omega)
 unfold putR
 simp only [List.length_append,List.length_singleton]
 omega
theorem aM6_ {s:List Rcd} (h:ze_ s=true) {r:Rcd} (hr:zE_ r=true) (hk:0≤keyP s r∨s.length < 150):ze_ (putR s r)=true:=by
 have hl:=ayy_ h
 refine aEf_ (vt_ (yD_ h) r) (fun x hx=>?_) ?_
 ·rcases wA_ hx with rfl | hx
  ·exact hr
  ·exact xI_ h hx
 ·rcases hk with hk | hk
  ·have:=asx_ hk;omega
  ·have:=agv_ s r;omega
theorem aMq_ {s:List Rcd} (h:ze_ s=true) (r:Rcd):ze_ (insR s r)=true:=by
 unfold insR
 split
 ·rename_i hi
  unfold insB at hi
  simp only [bA_] at hi
  refine aM6_ h hi.1 ?_
  split at hi
  ·rename_i h0;exact .inl h0
  ·exact .inr (by simpa using hi.2)
 ·exact h
theorem jc_ (s:List Rcd) (r:Rcd) (hl:s.length≤1048570) (hn:NearL s) (hso:zG_ s) (hr:r.near.length≤1048576) :
  xa_ [.l (s.map eRcd),ii r.area,ii r.kind,ii r.owner,ii r.key,ii r.seq,.l (r.near.map zu_),ii r.cost,bb r.far]=some [.l ((insR s r).map eRcd),bb (insB s r)]:=by
 have e2:=aiu_ r.area r.kind r.owner r.key r.seq r.near r.cost r.far hr
 have e3:=k2_ s r.area r.kind r.owner r.key (ii r.seq) (.l (r.near.map zu_)) (ii r.cost) (bb r.far) (by omega)
 have e4:=uL_ s r.area r.kind r.owner r.key r.seq r.near r.cost r.far (by omega) hn hr
 rw [jw_] at e3
 have hlt:=aGq_ s r
 rw [aqi_]
 unfold insR
 have hB:insB s r=(zE_ r && (if 0≤keyP s r then decide ((gt s (keyP s r)).seq < r.seq) else decide (s.length < 150))):=rfl
 cases hk:zE_ r with
 | false =>
  rw [show zE_ ⟨r.area,r.kind,r.owner,r.key,r.seq,r.near,r.cost,r.far⟩=zE_ r from rfl,hk] at e2
  rw [hB,hk]
  simp (disch:=omega) only [↓pq,↓pj,ps,pz,↓reduceIte,Q0_,Q1_,Q2_,Q3_,Q4_,Q5_,Q6_,Q7_,Q8_,wO_,e2,e3,bF_]
  simp
 | true =>
  rw [show zE_ ⟨r.area,r.kind,r.owner,r.key,r.seq,r.near,r.cost,r.far⟩=zE_ r from rfl,hk] at e2
  by_cases h0:0≤keyP s r
  ·rw [hB,hk,if_pos h0]
   have h1:keyP s r ≥ 0:=h0
   have h2:¬ keyP s r < 0:=by omega
   by_cases hq:(gt s (keyP s r)).seq < r.seq
   ·have hq':¬ (gt s (keyP s r)).seq ≥ r.seq:=by omega
    simp (disch:=omega) only [↓pq,↓pj,ps,pz,↓reduceIte,Q0_,Q1_,Q2_,Q3_,Q4_,Q5_,Q6_,Q7_,Q8_,wO_,e2,e3,h1,h2,hlt,hq',e4]
    simp [hq]
   ·have hq':(gt s (keyP s r)).seq ≥ r.seq:=by omega
    simp (disch:=omega) only [↓pq,↓pj,ps,pz,↓reduceIte,Q0_,Q1_,Q2_,Q3_,Q4_,Q5_,Q6_,Q7_,Q8_,wO_,e2,e3,h1,h2,hlt,hq']
    simp [hq]
  ·rw [hB,hk,if_neg h0]
   have h1:¬ keyP s r ≥ 0:=h0
   have h2:keyP s r < 0:=by omega
   by_cases hq:s.length < 150
   ·have hq':¬ (s.length:Int) ≥ 150:=by omega
    simp (disch:=omega) only [↓pq,↓pj,ps,pz,↓reduceIte,Q0_,Q1_,Q2_,Q3_,Q4_,Q5_,Q6_,Q7_,Q8_,wO_,e2,e3,h1,h2,hq',e4]
    simp [hq]
   ·have hq':(s.length:Int) ≥ 150:=by omega
    simp (disch:=omega) only [↓pq,↓pj,ps,pz,↓reduceIte,Q0_,Q1_,Q2_,Q3_,Q4_,Q5_,Q6_,Q7_,Q8_,wO_,e2,e3,h1,h2,hq']
    simp [hq]
theorem alg_ {x:Self} (h:xu_ x=true) {s:List Rcd} (hs:ze_ s=true):xu_ { x with store:=s }=true:=by
 unfold xu_ at *
 simp only [bA_] at *
 exact ⟨h.1,h.2.1,h.2.2.1,h.2.2.2.1,hs⟩
end Go.Proofs.YtjimmglpkndemaaGreatC
