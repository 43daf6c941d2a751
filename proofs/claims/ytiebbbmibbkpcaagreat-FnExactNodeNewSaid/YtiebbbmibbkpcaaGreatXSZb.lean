/- What a node renews, by both programs. Conditions: none. -/
import Derived.Test.YtiebbbmibbkpcaaGreatXSZa
namespace Go.Proofs.YtiebbbmibbkpcaaGreatC
open Int (reduceLE reduceLT reduceEq reduceGT reduceGE reduceAdd reduceSub reduceMul reduceNeg)
set_option linter.unusedVariables false
set_option linter.unusedSimpArgs false
theorem abs_ (s:List Rcd) (r:Rcd):keyP s r < s.length:=x7_ _ _
theorem aDt_ {r:Rcd} (h:zR_ r=true):1≤r.seq∧r.seq≤100000:=by
 unfold zR_ at h
 simp only [Bool.and_eq_true,inB_iff] at h
 exact h.1.2
theorem aii_ {s:List Rcd} (h:zk_ s=true) (r:Rcd):0≤uh_ s r∧uh_ s r≤100000:=by
 unfold uh_
 split
 ·omega
 ·have:=aDt_ (wv_ h (zX_ (l:=s) (n:=keyP s r) (by omega) (abs_ s r)))
  omega
theorem aa9_ {x:Self} (h:zk_ x.store=true) (hb:0≤x.boot∧x.boot≤90) (r:Rcd):1≤ub_ x r∧ub_ x r≤100001:=by
 have:=aii_ h r
 unfold ub_
 split <;> omega
theorem aIg_ (t0 t2 t3 t4 t5 u4 u5 u6 u7:T) (x:Self) (r:Rcd) (h:zk_ x.store=true) (hb:0≤x.boot∧x.boot≤90) (hl:x.store.length≤1048576) :
  j6_ [t0,ii x.boot,t2,t3,t4,t5,.l (x.store.map eRcd),ii r.area,ii r.kind,ii r.owner,ii r.key,u4,u5,u6,u7]=some [ii (ub_ x r)]:=by
 have hk:=qm_ x.store r.area r.kind r.owner r.key u4 u5 u6 u7 hl
 rw [abz_] at hk
 have ho:=aii_ h r
 rw [aH7_]
 unfold ub_
 unfold uh_ at ho ⊢
 have hlt:=abs_ x.store r
 by_cases h0:keyP x.store r < 0
 ·have h1:¬ keyP x.store r ≥ 0:=by omega
  rw [if_pos h0] at ho ⊢
  simp (disch:=omega) only [↓pq,ps,pz,↓reduceIte,reduceLE,reduceLT,reduceEq,reduceGT,reduceGE,reduceAdd,reduceSub,reduceMul,reduceNeg,aec_,hk,h1]
 ·have h1:keyP x.store r ≥ 0:=by omega
  have h2:0≤keyP x.store r:=by omega
  rw [if_neg h0] at ho ⊢
  simp (disch:=omega) only [↓pq,ps,pz,↓reduceIte,reduceLE,reduceLT,reduceEq,reduceGT,reduceGE,reduceAdd,reduceSub,reduceMul,reduceNeg,aec_,hk,h1,h2,hlt]
theorem aqm_ (t0 t2 t3 t4 t5 t6:T) (x:Self) (r:Rcd) (h:zk_ x.store=true) (hb:0≤x.boot∧x.boot≤90) :
  q1_ [t0,ii x.boot,t2,t3,t4,t5,t6,ii (uh_ x.store r)]=some [ii (ub_ x r)]:=by
 have ho:=aii_ h r
 rw [aD5_]
 unfold ub_
 by_cases h1:uh_ x.store r < 1000 * x.boot
 ·have h2:1000 * x.boot+1 > uh_ x.store r+1:=by omega
  rw [if_pos h2]
  simp (disch:=omega) only [↓pq,ps,pz,↓reduceIte,reduceLE,reduceLT,reduceEq,reduceGT,reduceGE,reduceAdd,reduceSub,reduceMul,reduceNeg,aa2_,h1]
 ·have h2:¬ 1000 * x.boot+1 > uh_ x.store r+1:=by omega
  rw [if_neg h2]
  simp (disch:=omega) only [↓pq,ps,pz,↓reduceIte,reduceLE,reduceLT,reduceEq,reduceGT,reduceGE,reduceAdd,reduceSub,reduceMul,reduceNeg,aa2_,h1]
theorem aOk_ (r:Rcd) (t:T):kT_ [ii r.area,ii r.kind,ii r.owner,ii r.key,ii r.seq,t,ii r.cost,bb r.far]=some (eRcd (zI_ r)):=by
 rw [aMq_]
 unfold zI_
 by_cases h:r.kind=1
 ·rw [if_pos h]
  simp (disch:=omega) only [↓pq,ps,pz,↓reduceIte,reduceLE,reduceLT,reduceEq,reduceGT,reduceGE,reduceAdd,reduceSub,reduceMul,reduceNeg,ahr_,h]
  rfl
 ·rw [if_neg h]
  simp (disch:=omega) only [↓pq,ps,pz,↓reduceIte,reduceLE,reduceLT,reduceEq,reduceGT,reduceGE,reduceAdd,reduceSub,reduceMul,reduceNeg,ahr_,h]
  rfl
theorem azy_ (r:Rcd) (h:r.kind≠1→r.near=[]):u7_ [ii r.area,ii r.kind,ii r.owner,ii r.key,ii r.seq,.l (r.near.map zF_),ii r.cost,bb r.far]=some (eRcd (zI_ r)):=by
 rw [aCm_]
 unfold zI_
 by_cases hk:r.kind=1
 ·rw [if_pos hk]
  simp (disch:=omega) only [↓pq,ps,pz,↓reduceIte,reduceLE,reduceLT,reduceEq,reduceGT,reduceGE,reduceAdd,reduceSub,reduceMul,reduceNeg,k0_,hk]
  rfl
 ·rw [if_neg hk]
  simp (disch:=omega) only [↓pq,ps,pz,↓reduceIte,reduceLE,reduceLT,reduceEq,reduceGT,reduceGE,reduceAdd,reduceSub,reduceMul,reduceNeg,k0_,hk]
  rw [h hk]
  rfl
theorem aNb_ {r:Rcd} (h:zR_ r=true):r.kind≠1→r.near=[]:=by
 intro hk
 unfold zR_ at h
 simp only [Bool.and_eq_true] at h
 have h:=h.2
 rw [if_neg hk] at h
 split at h
 ·simp only [Bool.and_eq_true,decide_eq_true_eq] at h
  exact List.eq_nil_of_length_eq_zero (by omega)
 ·split at h
  ·simp only [Bool.and_eq_true,decide_eq_true_eq] at h
   exact List.eq_nil_of_length_eq_zero (by omega)
  ·cases h
theorem jc_ (r:Rcd):(zI_ r).near=[]:=by unfold zI_;split <;> rfl
theorem ap1_ {x:Self} {k:Nat} {c:List Rcd} (h:Fit k c) {r:Rcd} (hr:r.near.length≤1048576):Fit (k+1) (wz_ x c r):=by
 unfold wz_
 split
 ·exact h.put hr
 ·exact h.mono (by omega)
theorem ao9_ {x:Self} {W:List Rcd} {k:Nat} {c:List Rcd} (h:Fit k c) (r:Rcd):Fit (k+1) (wy_ x W c r):=by
 unfold wy_
 split
 ·exact h.put (by show (zI_ r).near.length≤_;rw [jc_];simp)
 ·exact h.mono (by omega)
section
variable (x:Self) (W:List Rcd) (t2 t3 t4:T)
theorem aH9_ (h:zk_ x.store=true) (hb:0≤x.boot∧x.boot≤90) (hs:NearL x.store) (hW:W.length≤25) (hn:NearL W) (th:T)
  (hw:uz_ [ii x.id,ii x.boot,t2,t3,t4,th,.l (x.store.map eRcd)]=some [.l (W.map eRcd)]) :
  jY_ [ii x.id,ii x.boot,t2,t3,t4,th,.l (x.store.map eRcd)]=some [.l ((wa_ x W).map eRcd)]:=by
 have hf:=jp_ h hs
 have hfl:=hf.len
 have hq:=fun r:Rcd=>fun u4 u5 u6 u7=>aIg_ (ii x.id) t2 t3 t4 th u4 u5 u6 u7 x r h hb (by omega)
 rw [aKv_];simp (disch:=omega) only [↓pq,ps,pz,↓reduceIte,reduceLE,reduceLT,reduceEq,reduceGT,reduceGE,reduceAdd,reduceSub,reduceMul,reduceNeg,xQ_,xT_,akp_,hw]
 refine zg_ W (fun i c=>[.l (c.map eRcd),ii i,.l (W.map eRcd)]) (wz_ x) (fun c=>some [T.l ((x.store.foldl (wy_ x W) c).map eRcd)]) [] (fun i c=>Fit i c) rfl (zb_ (by omega)) Fit.nil ?_ ?_
 ·intro i c hi hc
  have hnr:=hn.gt (n:=i) (by omega) hi
  refine ⟨ap1_ hc hnr,fun q=>?_⟩
  have hcl:=hc.len
  have hk:=qm_ x.store (gt W (i:Int)).area (gt W (i:Int)).kind (gt W (i:Int)).owner (gt W (i:Int)).key (ii (gt W (i:Int)).seq) (.l ((gt W (i:Int)).near.map zF_)) (ii (gt W (i:Int)).cost) (bb (gt W (i:Int)).far) (by omega)
  rw [abz_] at hk
  have hq:=hq (gt W (i:Int)) (ii (gt W (i:Int)).seq) (.l ((gt W (i:Int)).near.map zF_)) (ii (gt W (i:Int)).cost) (bb (gt W (i:Int)).far)
  have hp:=qJ_ c (gt W (i:Int)).area (gt W (i:Int)).kind (gt W (i:Int)).owner (gt W (i:Int)).key (ub_ x (gt W (i:Int))) (gt W (i:Int)).near (gt W (i:Int)).cost (gt W (i:Int)).far (by omega) hc.near hc.so hnr
  have hlt:=abs_ x.store (gt W (i:Int))
  unfold wz_ newB
  by_cases h0:keyP x.store (gt W (i:Int)) < 0
  ·simp (disch:=omega) only [↓pq,ps,pz,↓reduceIte,reduceLE,reduceLT,reduceEq,reduceGT,reduceGE,reduceAdd,reduceSub,reduceMul,reduceNeg,xQ_,xT_,hi,hk,h0,hq,hp,decide_true,Bool.true_or]
   rfl
  ·have h1:0≤keyP x.store (gt W (i:Int)):=by omega
   have hsb:=akx_ (gt x.store (keyP x.store (gt W (i:Int)))).area (gt x.store (keyP x.store (gt W (i:Int)))).kind (gt x.store (keyP x.store (gt W (i:Int)))).owner (gt x.store (keyP x.store (gt W (i:Int)))).key (gt x.store (keyP x.store (gt W (i:Int)))).seq (gt x.store (keyP x.store (gt W (i:Int)))).near (gt x.store (keyP x.store (gt W (i:Int)))).cost (gt x.store (keyP x.store (gt W (i:Int)))).far (gt W (i:Int)).area (gt W (i:Int)).kind (gt W (i:Int)).owner (gt W (i:Int)).key (gt W (i:Int)).seq (gt W (i:Int)).near (gt W (i:Int)).cost (gt W (i:Int)).far (hs.gt h1 hlt)
   rw [show (⟨(gt x.store (keyP x.store (gt W (i:Int)))).area,(gt x.store (keyP x.store (gt W (i:Int)))).kind,(gt x.store (keyP x.store (gt W (i:Int)))).owner,(gt x.store (keyP x.store (gt W (i:Int)))).key,(gt x.store (keyP x.store (gt W (i:Int)))).seq,(gt x.store (keyP x.store (gt W (i:Int)))).near,(gt x.store (keyP x.store (gt W (i:Int)))).cost,(gt x.store (keyP x.store (gt W (i:Int)))).far⟩:Rcd)=gt x.store (keyP x.store (gt W (i:Int))) from rfl,show (⟨(gt W (i:Int)).area,(gt W (i:Int)).kind,(gt W (i:Int)).owner,(gt W (i:Int)).key,(gt W (i:Int)).seq,(gt W (i:Int)).near,(gt W (i:Int)).cost,(gt W (i:Int)).far⟩:Rcd)=gt W (i:Int) from rfl] at hsb
   cases hc2:w0_ (gt x.store (keyP x.store (gt W (i:Int)))) (gt W (i:Int)) with
   | true =>
    rw [hc2] at hsb
    simp (disch:=omega) only [↓pq,ps,pz,↓reduceIte,reduceLE,reduceLT,reduceEq,reduceGT,reduceGE,reduceAdd,reduceSub,reduceMul,reduceNeg,xQ_,xT_,hi,hk,h0,h1,hlt,hsb,decide_false,Bool.false_or,Bool.not_true,Bool.false_eq_true]
   | false =>
    rw [hc2] at hsb
    simp (disch:=omega) only [↓pq,ps,pz,↓reduceIte,reduceLE,reduceLT,reduceEq,reduceGT,reduceGE,reduceAdd,reduceSub,reduceMul,reduceNeg,xQ_,xT_,hi,hk,h0,h1,hlt,hsb,hq,hp,decide_false,Bool.false_or,Bool.not_false,Bool.false_eq_true]
    rfl
 ·intro c q hc
  simp (disch:=omega) only [↓pq,ps,pz,↓reduceIte,reduceLE,reduceLT,reduceEq,reduceGT,reduceGE,reduceAdd,reduceSub,reduceMul,reduceNeg,xQ_,xT_,]
  refine zg_ x.store (fun i c=>[.l (c.map eRcd),ii i]) (wy_ x W) (fun c=>some [T.l (c.map eRcd)]) c (fun i c=>Fit (25+i) c) rfl (zb_ (by omega)) (hc.mono (by omega)) ?_ ?_
  ·intro i c hi hc
   refine ⟨ao9_ hc _,fun q=>?_⟩
   have hcl:=hc.len
   generalize hr:gt x.store (i:Int)=r
   have hk:=qm_ W r.area r.kind r.owner r.key (ii r.seq) (.l (r.near.map zF_)) (ii r.cost) (bb r.far) (by omega)
   rw [abz_] at hk
   have hq:=hq r (ii r.seq) (.l (r.near.map zF_)) (ii r.cost) (bb r.far)
   have hg:=aOk_ r (.l (r.near.map zF_))
   have hsb:=akx_ (zI_ r).area (zI_ r).kind (zI_ r).owner (zI_ r).key (zI_ r).seq (zI_ r).near (zI_ r).cost (zI_ r).far r.area r.kind r.owner r.key r.seq r.near r.cost r.far (by rw [jc_];simp)
   have hp:=qJ_ c (zI_ r).area (zI_ r).kind (zI_ r).owner (zI_ r).key (ub_ x r) (zI_ r).near (zI_ r).cost (zI_ r).far (by omega) hc.near hc.so (by rw [jc_];simp)
   rw [show (⟨(zI_ r).area,(zI_ r).kind,(zI_ r).owner,(zI_ r).key,(zI_ r).seq,(zI_ r).near,(zI_ r).cost,(zI_ r).far⟩:Rcd)=zI_ r from rfl,show (⟨r.area,r.kind,r.owner,r.key,r.seq,r.near,r.cost,r.far⟩:Rcd)=r from rfl] at hsb
   unfold wy_ aGm_
   simp only [eRcd] at hg
   by_cases h0:r.owner=x.id
   ·rw [h0] at hk hq hg hsb
    by_cases h1:keyP W r < 0
    ·have h2:¬ keyP W r ≥ 0:=by omega
     cases hc2:w0_ (zI_ r) r with
     | true =>
      rw [hc2] at hsb
      simp (disch:=omega) only [↓pq,ps,pz,↓reduceIte,reduceLE,reduceLT,reduceEq,reduceGT,reduceGE,reduceAdd,reduceSub,reduceMul,reduceNeg,xQ_,xT_,hi,hr,h0,hk,h1,h2,hg,hsb,Bool.not_true,Bool.and_false,Bool.false_eq_true]
     | false =>
      have e0:(r.owner == x.id)=true:=by simpa using h0
      rw [hc2] at hsb
      simp (disch:=omega) only [↓pq,ps,pz,↓reduceIte,reduceLE,reduceLT,reduceEq,reduceGT,reduceGE,reduceAdd,reduceSub,reduceMul,reduceNeg,xQ_,xT_,hi,hr,h0,hk,h1,h2,hg,hsb,hq,hp,Bool.not_false,Bool.and_true,beq_self_eq_true,decide_true]
      rfl
    ·have h2:keyP W r ≥ 0:=by omega
     simp (disch:=omega) only [↓pq,ps,pz,↓reduceIte,reduceLE,reduceLT,reduceEq,reduceGT,reduceGE,reduceAdd,reduceSub,reduceMul,reduceNeg,xQ_,xT_,hi,hr,h0,hk,h1,h2,decide_false,Bool.false_and,Bool.and_false,Bool.false_eq_true]
   ·have e0:(r.owner == x.id)=false:=by simpa using h0
    simp (disch:=omega) only [↓pq,ps,pz,↓reduceIte,reduceLE,reduceLT,reduceEq,reduceGT,reduceGE,reduceAdd,reduceSub,reduceMul,reduceNeg,xQ_,xT_,hi,hr,h0,e0,Bool.false_and,Bool.false_eq_true]
  ·intro c q hc
   simp (disch:=omega) only [↓pq,ps,pz,↓reduceIte,reduceLE,reduceLT,reduceEq,reduceGT,reduceGE,reduceAdd,reduceSub,reduceMul,reduceNeg,xQ_,xT_,]
end
end Go.Proofs.YtiebbbmibbkpcaaGreatC
