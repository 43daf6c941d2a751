/- What a node renews, by both programs. Conditions: none. -/
import Derived.Test.YtjimmglpkndemaaGreatXSZa
namespace Go.Proofs.YtjimmglpkndemaaGreatC
open Int renaming reduceLE → Q0_, reduceLT → Q1_, reduceEq → Q2_, reduceGT → Q3_, reduceGE → Q4_, reduceAdd → Q5_, reduceSub → Q6_, reduceMul → Q7_, reduceNeg → Q8_
set_option linter.unusedVariables false
set_option linter.unusedSimpArgs false
theorem aa9_ (s:List Rcd) (r:Rcd):keyP s r < s.length:=y9_ _ _
theorem aBk_ {r:Rcd} (h:zE_ r=true):1≤r.seq∧r.seq≤100000:=by
 unfold zE_ at h
 simp only [bA_,inB_iff] at h
 exact h.1.2
theorem kk_ {s:List Rcd} (h:ze_ s=true) (r:Rcd):0≤xV_ s r∧xV_ s r≤100000:=by
 unfold xV_
 split
 ·omega
 ·have:=aBk_ (xI_ h (zS_ (l:=s) (n:=keyP s r) (by omega) (aa9_ s r)))
  omega
theorem aa8_ {x:Self} (h:ze_ x.store=true) (hb:0≤x.boot∧x.boot≤90) (r:Rcd):1≤wr_ x r∧wr_ x r≤100001:=by
 have:=kk_ h r
 unfold wr_
 split <;> omega
theorem aI0_ (t0 t2 t3 t4 t5 u4 u5 u6 u7:T) (x:Self) (r:Rcd) (h:ze_ x.store=true) (hb:0≤x.boot∧x.boot≤90) (hl:x.store.length≤1048576) :
  jG_ [t0,ii x.boot,t2,t3,t4,t5,.l (x.store.map eRcd),ii r.area,ii r.kind,ii r.owner,ii r.key,u4,u5,u6,u7]=some [ii (wr_ x r)]:=by
 have hk:=qu_ x.store r.area r.kind r.owner r.key u4 u5 u6 u7 hl
 rw [jw_] at hk
 have ho:=kk_ h r
 rw [aHm_]
 unfold wr_
 unfold xV_ at ho ⊢
 have hlt:=aa9_ x.store r
 by_cases h0:keyP x.store r < 0
 ·have h1:¬ keyP x.store r ≥ 0:=by omega
  rw [if_pos h0] at ho ⊢
  simp (disch:=omega) only [↓pq,↓pj,ps,pz,↓reduceIte,Q0_,Q1_,Q2_,Q3_,Q4_,Q5_,Q6_,Q7_,Q8_,adc_,hk,h1]
 ·have h1:keyP x.store r ≥ 0:=by omega
  have h2:0≤keyP x.store r:=by omega
  rw [if_neg h0] at ho ⊢
  simp (disch:=omega) only [↓pq,↓pj,ps,pz,↓reduceIte,Q0_,Q1_,Q2_,Q3_,Q4_,Q5_,Q6_,Q7_,Q8_,adc_,hk,h1,h2,hlt]
theorem aor_ (t0 t2 t3 t4 t5 t6:T) (x:Self) (r:Rcd) (h:ze_ x.store=true) (hb:0≤x.boot∧x.boot≤90) :
  qH_ [t0,ii x.boot,t2,t3,t4,t5,t6,ii (xV_ x.store r)]=some [ii (wr_ x r)]:=by
 have ho:=kk_ h r
 rw [aE2_]
 unfold wr_
 by_cases h1:xV_ x.store r < 1000 * x.boot
 ·have h2:1000 * x.boot+1 > xV_ x.store r+1:=by omega
  rw [if_pos h2]
  simp (disch:=omega) only [↓pq,↓pj,ps,pz,↓reduceIte,Q0_,Q1_,Q2_,Q3_,Q4_,Q5_,Q6_,Q7_,Q8_,aay_,h1]
 ·have h2:¬ 1000 * x.boot+1 > xV_ x.store r+1:=by omega
  rw [if_neg h2]
  simp (disch:=omega) only [↓pq,↓pj,ps,pz,↓reduceIte,Q0_,Q1_,Q2_,Q3_,Q4_,Q5_,Q6_,Q7_,Q8_,aay_,h1]
theorem aJr_ (r:Rcd) (t:T):kE_ [ii r.area,ii r.kind,ii r.owner,ii r.key,ii r.seq,t,ii r.cost,bb r.far]=some (eRcd (zF_ r)):=by
 rw [aJ8_]
 unfold zF_
 by_cases h:r.kind=1
 ·rw [if_pos h]
  simp (disch:=omega) only [↓pq,↓pj,ps,pz,↓reduceIte,Q0_,Q1_,Q2_,Q3_,Q4_,Q5_,Q6_,Q7_,Q8_,ahh_,h]
  rfl
 ·rw [if_neg h]
  simp (disch:=omega) only [↓pq,↓pj,ps,pz,↓reduceIte,Q0_,Q1_,Q2_,Q3_,Q4_,Q5_,Q6_,Q7_,Q8_,ahh_,h]
  rfl
theorem aAo_ (r:Rcd) (h:r.kind≠1→r.near=[]):uY_ [ii r.area,ii r.kind,ii r.owner,ii r.key,ii r.seq,.l (r.near.map zu_),ii r.cost,bb r.far]=some (eRcd (zF_ r)):=by
 rw [ayr_]
 unfold zF_
 by_cases hk:r.kind=1
 ·rw [if_pos hk]
  simp (disch:=omega) only [↓pq,↓pj,ps,pz,↓reduceIte,Q0_,Q1_,Q2_,Q3_,Q4_,Q5_,Q6_,Q7_,Q8_,kH_,hk]
  rfl
 ·rw [if_neg hk]
  simp (disch:=omega) only [↓pq,↓pj,ps,pz,↓reduceIte,Q0_,Q1_,Q2_,Q3_,Q4_,Q5_,Q6_,Q7_,Q8_,kH_,hk]
  rw [h hk]
  rfl
theorem aK0_ {r:Rcd} (h:zE_ r=true):r.kind≠1→r.near=[]:=by
 intro hk
 unfold zE_ at h
 simp only [bA_] at h
 have h:=h.2
 rw [if_neg hk] at h
 split at h
 ·simp only [bA_,decide_eq_true_eq] at h
  exact List.eq_nil_of_length_eq_zero (by omega)
 ·split at h
  ·simp only [bA_,decide_eq_true_eq] at h
   exact List.eq_nil_of_length_eq_zero (by omega)
  ·cases h
theorem qN_ (r:Rcd):(zF_ r).near=[]:=by unfold zF_;split <;> rfl
theorem ao6_ {x:Self} {k:Nat} {c:List Rcd} (h:Fit k c) {r:Rcd} (hr:r.near.length≤1048576):Fit (k+1) (xQ_ x c r):=by
 unfold xQ_
 split
 ·exact h.put hr
 ·exact h.mono (by omega)
theorem amv_ {x:Self} {W:List Rcd} {k:Nat} {c:List Rcd} (h:Fit k c) (r:Rcd):Fit (k+1) (wy_ x W c r):=by
 unfold wy_
 split
 ·exact h.put (by show (zF_ r).near.length≤_;rw [qN_];simp)
 ·exact h.mono (by omega)
section
variable (x:Self) (W:List Rcd) (t2 t3 t4:T)
theorem aIk_ (h:ze_ x.store=true) (hb:0≤x.boot∧x.boot≤90) (hs:NearL x.store) (hW:W.length≤25) (hn:NearL W) (th:T)
  (hw:wZ_ [ii x.id,ii x.boot,t2,t3,t4,th,.l (x.store.map eRcd)]=some [.l (W.map eRcd)]) :
  jR_ [ii x.id,ii x.boot,t2,t3,t4,th,.l (x.store.map eRcd)]=some [.l ((y7_ x W).map eRcd)]:=by
 have hf:=q7_ h hs
 have hfl:=hf.len
 have hq:=fun r:Rcd=>fun u4 u5 u6 u7=>aI0_ (ii x.id) t2 t3 t4 th u4 u5 u6 u7 x r h hb (by omega)
 rw [aHx_];simp (disch:=omega) only [↓pq,↓pj,ps,pz,↓reduceIte,Q0_,Q1_,Q2_,Q3_,Q4_,Q5_,Q6_,Q7_,Q8_,xT_,xS_,aj4_,hw]
 refine zj_ W (fun i c=>[.l (c.map eRcd),ii i,.l (W.map eRcd)]) (xQ_ x) (fun c=>some [T.l ((x.store.foldl (wy_ x W) c).map eRcd)]) [] (fun i c=>Fit i c) rfl (za_ (by omega)) Fit.nil ?_ ?_
 ·intro i c hi hc
  have hnr:=hn.gt (n:=i) (by omega) hi
  refine ⟨ao6_ hc hnr,fun q=>?_⟩
  have hcl:=hc.len
  have hk:=qu_ x.store (gt W (i:Int)).area (gt W (i:Int)).kind (gt W (i:Int)).owner (gt W (i:Int)).key (ii (gt W (i:Int)).seq) (.l ((gt W (i:Int)).near.map zu_)) (ii (gt W (i:Int)).cost) (bb (gt W (i:Int)).far) (by omega)
  rw [jw_] at hk
  have hq:=hq (gt W (i:Int)) (ii (gt W (i:Int)).seq) (.l ((gt W (i:Int)).near.map zu_)) (ii (gt W (i:Int)).cost) (bb (gt W (i:Int)).far)
  have hp:=qL_ c (gt W (i:Int)).area (gt W (i:Int)).kind (gt W (i:Int)).owner (gt W (i:Int)).key (wr_ x (gt W (i:Int))) (gt W (i:Int)).near (gt W (i:Int)).cost (gt W (i:Int)).far (by omega) hc.near hc.so hnr
  have hlt:=aa9_ x.store (gt W (i:Int))
  unfold xQ_ newB
  by_cases h0:keyP x.store (gt W (i:Int)) < 0
  ·simp (disch:=omega) only [↓pq,↓pj,ps,pz,↓reduceIte,Q0_,Q1_,Q2_,Q3_,Q4_,Q5_,Q6_,Q7_,Q8_,xT_,xS_,hi,hk,h0,hq,hp,decide_true,Bool.true_or]
   rfl
  ·have h1:0≤keyP x.store (gt W (i:Int)):=by omega
   have hsb:=aje_ (gt x.store (keyP x.store (gt W (i:Int)))).area (gt x.store (keyP x.store (gt W (i:Int)))).kind (gt x.store (keyP x.store (gt W (i:Int)))).owner (gt x.store (keyP x.store (gt W (i:Int)))).key (gt x.store (keyP x.store (gt W (i:Int)))).seq (gt x.store (keyP x.store (gt W (i:Int)))).near (gt x.store (keyP x.store (gt W (i:Int)))).cost (gt x.store (keyP x.store (gt W (i:Int)))).far (gt W (i:Int)).area (gt W (i:Int)).kind (gt W (i:Int)).owner (gt W (i:Int)).key (gt W (i:Int)).seq (gt W (i:Int)).near (gt W (i:Int)).cost (gt W (i:Int)).far (hs.gt h1 hlt)
   rw [show (⟨(gt x.store (keyP x.store (gt W (i:Int)))).area,(gt x.store (keyP x.store (gt W (i:Int)))).kind,(gt x.store (keyP x.store (gt W (i:Int)))).owner,(gt x.store (keyP x.store (gt W (i:Int)))).key,(gt x.store (keyP x.store (gt W (i:Int)))).seq,(gt x.store (keyP x.store (gt W (i:Int)))).near,(gt x.store (keyP x.store (gt W (i:Int)))).cost,(gt x.store (keyP x.store (gt W (i:Int)))).far⟩:Rcd)=gt x.store (keyP x.store (gt W (i:Int))) from rfl,show (⟨(gt W (i:Int)).area,(gt W (i:Int)).kind,(gt W (i:Int)).owner,(gt W (i:Int)).key,(gt W (i:Int)).seq,(gt W (i:Int)).near,(gt W (i:Int)).cost,(gt W (i:Int)).far⟩:Rcd)=gt W (i:Int) from rfl] at hsb
   cases hc2:xD_ (gt x.store (keyP x.store (gt W (i:Int)))) (gt W (i:Int)) with
   | true =>
    rw [hc2] at hsb
    simp (disch:=omega) only [↓pq,↓pj,ps,pz,↓reduceIte,Q0_,Q1_,Q2_,Q3_,Q4_,Q5_,Q6_,Q7_,Q8_,xT_,xS_,hi,hk,h0,h1,hlt,hsb,decide_false,Bool.false_or,Bool.not_true,bF_]
   | false =>
    rw [hc2] at hsb
    simp (disch:=omega) only [↓pq,↓pj,ps,pz,↓reduceIte,Q0_,Q1_,Q2_,Q3_,Q4_,Q5_,Q6_,Q7_,Q8_,xT_,xS_,hi,hk,h0,h1,hlt,hsb,hq,hp,decide_false,Bool.false_or,Bool.not_false,bF_]
    rfl
 ·intro c q hc
  simp (disch:=omega) only [↓pq,↓pj,ps,pz,↓reduceIte,Q0_,Q1_,Q2_,Q3_,Q4_,Q5_,Q6_,Q7_,Q8_,xT_,xS_,]
  refine zj_ x.store (fun i c=>[.l (c.map eRcd),ii i]) (wy_ x W) (fun c=>some [T.l (c.map eRcd)]) c (fun i c=>Fit (25+i) c) rfl (za_ (by omega)) (hc.mono (by omega)) ?_ ?_
  ·intro i c hi hc
   refine ⟨amv_ hc _,fun q=>?_⟩
   have hcl:=hc.len
   generalize hr:gt x.store (i:Int)=r
   have hk:=qu_ W r.area r.kind r.owner r.key (ii r.seq) (.l (r.near.map zu_)) (ii r.cost) (bb r.far) (by omega)
   rw [jw_] at hk
   have hq:=hq r (ii r.seq) (.l (r.near.map zu_)) (ii r.cost) (bb r.far)
   have hg:=aJr_ r (.l (r.near.map zu_))
   have hsb:=aje_ (zF_ r).area (zF_ r).kind (zF_ r).owner (zF_ r).key (zF_ r).seq (zF_ r).near (zF_ r).cost (zF_ r).far r.area r.kind r.owner r.key r.seq r.near r.cost r.far (by rw [qN_];simp)
   have hp:=qL_ c (zF_ r).area (zF_ r).kind (zF_ r).owner (zF_ r).key (wr_ x r) (zF_ r).near (zF_ r).cost (zF_ r).far (by omega) hc.near hc.so (by rw [qN_];simp)
   rw [show (⟨(zF_ r).area,(zF_ r).kind,(zF_ r).owner,(zF_ r).key,(zF_ r).seq,(zF_ r).near,(zF_ r).cost,(zF_ r).far⟩:Rcd)=zF_ r from rfl,show (⟨r.area,r.kind,r.owner,r.key,r.seq,r.near,r.cost,r.far⟩:Rcd)=r from rfl] at hsb
   unfold wy_ qi_
   simp only [eRcd] at hg
   by_cases h0:r.owner=x.id
   ·rw [h0] at hk hq hg hsb
    by_cases h1:keyP W r < 0
    ·have h2:¬ keyP W r ≥ 0:=by omega
     cases hc2:xD_ (zF_ r) r with
     | true =>
      rw [hc2] at hsb
      simp (disch:=omega) only [↓pq,↓pj,ps,pz,↓reduceIte,Q0_,Q1_,Q2_,Q3_,Q4_,Q5_,Q6_,Q7_,Q8_,xT_,xS_,hi,hr,h0,hk,h1,h2,hg,hsb,Bool.not_true,Bool.and_false,bF_]
     | false =>
      have e0:(r.owner == x.id)=true:=by simpa using h0
      rw [hc2] at hsb
      simp (disch:=omega) only [↓pq,↓pj,ps,pz,↓reduceIte,Q0_,Q1_,Q2_,Q3_,Q4_,Q5_,Q6_,Q7_,Q8_,xT_,xS_,hi,hr,h0,hk,h1,h2,hg,hsb,hq,hp,Bool.not_false,Bool.and_true,beq_self_eq_true,decide_true]
      rfl
    ·have h2:keyP W r ≥ 0:=by omega
     simp (disch:=omega) only [↓pq,↓pj,ps,pz,↓reduceIte,Q0_,Q1_,Q2_,Q3_,Q4_,Q5_,Q6_,Q7_,Q8_,xT_,xS_,hi,hr,h0,hk,h1,h2,decide_false,Bool.false_and,Bool.and_false,bF_]
   ·have e0:(r.owner == x.id)=false:=by simpa using h0
    simp (disch:=omega) only [↓pq,↓pj,ps,pz,↓reduceIte,Q0_,Q1_,Q2_,Q3_,Q4_,Q5_,Q6_,Q7_,Q8_,xT_,xS_,hi,hr,h0,e0,Bool.false_and,bF_]
  ·intro c q hc
   simp (disch:=omega) only [↓pq,↓pj,ps,pz,↓reduceIte,Q0_,Q1_,Q2_,Q3_,Q4_,Q5_,Q6_,Q7_,Q8_,xT_,xS_,]
end
end Go.Proofs.YtjimmglpkndemaaGreatC
