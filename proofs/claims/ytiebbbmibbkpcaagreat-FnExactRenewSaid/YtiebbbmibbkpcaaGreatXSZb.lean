/- What a node renews, by both programs. Conditions: none. -/
import Derived.Test.YtiebbbmibbkpcaaGreatXSZa
namespace Go.Proofs.YtiebbbmibbkpcaaGreatC
open Int (reduceLE reduceLT reduceEq reduceGT reduceGE reduceAdd reduceSub reduceMul reduceNeg)
set_option linter.unusedVariables false
set_option linter.unusedSimpArgs false
theorem abo_ (s:List Rcd) (r:Rcd):keyP s r < s.length:=wi_ _ _
theorem aCl_ {r:Rcd} (h:zV_ r=true):1≤r.seq∧r.seq≤100000:=by
 unfold zV_ at h
 simp only [Bool.and_eq_true,inB_iff] at h
 exact h.1.2
theorem agx_ {s:List Rcd} (h:zk_ s=true) (r:Rcd):0≤ul_ s r∧ul_ s r≤100000:=by
 unfold ul_
 split
 ·omega
 ·have:=aCl_ (wq_ h (z2_ (l:=s) (n:=keyP s r) (by omega) (abo_ s r)))
  omega
theorem abb_ {x:Self} (h:zk_ x.store=true) (hb:0≤x.boot∧x.boot≤90) (r:Rcd):1≤v7_ x r∧v7_ x r≤100001:=by
 have:=agx_ h r
 unfold v7_
 split <;> omega
theorem aHe_ (t0 t2 t3 t4 t5 u4 u5 u6 u7:T) (x:Self) (r:Rcd) (h:zk_ x.store=true) (hb:0≤x.boot∧x.boot≤90) (hl:x.store.length≤1048576) :
  jW_ [t0,ii x.boot,t2,t3,t4,t5,.l (x.store.map eRcd),ii r.area,ii r.kind,ii r.owner,ii r.key,u4,u5,u6,u7]=some [ii (v7_ x r)]:=by
 have hk:=qf_ x.store r.area r.kind r.owner r.key u4 u5 u6 u7 hl
 rw [acj_] at hk
 have ho:=agx_ h r
 rw [aHo_]
 unfold v7_
 unfold ul_ at ho ⊢
 have hlt:=abo_ x.store r
 by_cases h0:keyP x.store r < 0
 ·have h1:¬ keyP x.store r ≥ 0:=by omega
  rw [if_pos h0] at ho ⊢
  simp (disch:=omega) only [↓pq,ps,pz,↓reduceIte,reduceLE,reduceLT,reduceEq,reduceGT,reduceGE,reduceAdd,reduceSub,reduceMul,reduceNeg,adn_,hk,h1]
 ·have h1:keyP x.store r ≥ 0:=by omega
  have h2:0≤keyP x.store r:=by omega
  rw [if_neg h0] at ho ⊢
  simp (disch:=omega) only [↓pq,ps,pz,↓reduceIte,reduceLE,reduceLT,reduceEq,reduceGT,reduceGE,reduceAdd,reduceSub,reduceMul,reduceNeg,adn_,hk,h1,h2,hlt]
theorem apg_ (t0 t2 t3 t4 t5 t6:T) (x:Self) (r:Rcd) (h:zk_ x.store=true) (hb:0≤x.boot∧x.boot≤90) :
  q7_ [t0,ii x.boot,t2,t3,t4,t5,t6,ii (ul_ x.store r)]=some [ii (v7_ x r)]:=by
 have ho:=agx_ h r
 rw [aDq_]
 unfold v7_
 by_cases h1:ul_ x.store r < 1000 * x.boot
 ·have h2:1000 * x.boot+1 > ul_ x.store r+1:=by omega
  rw [if_pos h2]
  simp (disch:=omega) only [↓pq,ps,pz,↓reduceIte,reduceLE,reduceLT,reduceEq,reduceGT,reduceGE,reduceAdd,reduceSub,reduceMul,reduceNeg,abd_,h1]
 ·have h2:¬ 1000 * x.boot+1 > ul_ x.store r+1:=by omega
  rw [if_neg h2]
  simp (disch:=omega) only [↓pq,ps,pz,↓reduceIte,reduceLE,reduceLT,reduceEq,reduceGT,reduceGE,reduceAdd,reduceSub,reduceMul,reduceNeg,abd_,h1]
theorem aLn_ (r:Rcd) (t:T):kG_ [ii r.area,ii r.kind,ii r.owner,ii r.key,ii r.seq,t,ii r.cost,bb r.far]=some (eRcd (zG_ r)):=by
 rw [aN5_]
 unfold zG_
 by_cases h:r.kind=1
 ·rw [if_pos h]
  simp (disch:=omega) only [↓pq,ps,pz,↓reduceIte,reduceLE,reduceLT,reduceEq,reduceGT,reduceGE,reduceAdd,reduceSub,reduceMul,reduceNeg,aiy_,h]
  rfl
 ·rw [if_neg h]
  simp (disch:=omega) only [↓pq,ps,pz,↓reduceIte,reduceLE,reduceLT,reduceEq,reduceGT,reduceGE,reduceAdd,reduceSub,reduceMul,reduceNeg,aiy_,h]
  rfl
theorem aB6_ (r:Rcd) (h:r.kind≠1→r.near=[]):u2_ [ii r.area,ii r.kind,ii r.owner,ii r.key,ii r.seq,.l (r.near.map zE_),ii r.cost,bb r.far]=some (eRcd (zG_ r)):=by
 rw [aBu_]
 unfold zG_
 by_cases hk:r.kind=1
 ·rw [if_pos hk]
  simp (disch:=omega) only [↓pq,ps,pz,↓reduceIte,reduceLE,reduceLT,reduceEq,reduceGT,reduceGE,reduceAdd,reduceSub,reduceMul,reduceNeg,k0_,hk]
  rfl
 ·rw [if_neg hk]
  simp (disch:=omega) only [↓pq,ps,pz,↓reduceIte,reduceLE,reduceLT,reduceEq,reduceGT,reduceGE,reduceAdd,reduceSub,reduceMul,reduceNeg,k0_,hk]
  rw [h hk]
  rfl
theorem aLb_ {r:Rcd} (h:zV_ r=true):r.kind≠1→r.near=[]:=by
 intro hk
 unfold zV_ at h
 simp only [Bool.and_eq_true] at h
 have h:=h.2
 rw [if_neg hk] at h
 split at h
 ·simp only [Bool.and_eq_true,decide_eq_true_eq] at h
  exact List.eq_nil_of_length_eq_zero (by omega)
 ·split at h
  ·simp only [Bool.and_eq_true,decide_eq_true_eq] at h
   exact List.eq_nil_of_length_eq_zero (by omega)
  ·cases h
theorem qP_ (r:Rcd):(zG_ r).near=[]:=by unfold zG_;split <;> rfl
theorem aoe_ {x:Self} {k:Nat} {c:List Rcd} (h:Fit k c) {r:Rcd} (hr:r.near.length≤1048576):Fit (k+1) (ww_ x c r):=by
 unfold ww_
 split
 ·exact h.put hr
 ·exact h.mono (by omega)
theorem apj_ {x:Self} {W:List Rcd} {k:Nat} {c:List Rcd} (h:Fit k c) (r:Rcd):Fit (k+1) (wx_ x W c r):=by
 unfold wx_
 split
 ·exact h.put (by show (zG_ r).near.length≤_;rw [qP_];simp)
 ·exact h.mono (by omega)
section
variable (x:Self) (W:List Rcd) (t2 t3 t4:T)
theorem aJy_ (h:zk_ x.store=true) (hb:0≤x.boot∧x.boot≤90) (hs:NearL x.store) (hW:W.length≤25) (hn:NearL W) (th:T)
  (hw:uH_ [ii x.id,ii x.boot,t2,t3,t4,th,.l (x.store.map eRcd)]=some [.l (W.map eRcd)]) :
  jT_ [ii x.id,ii x.boot,t2,t3,t4,th,.l (x.store.map eRcd)]=some [.l ((wl_ x W).map eRcd)]:=by
 have hf:=jc_ h hs
 have hfl:=hf.len
 have hq:=fun r:Rcd=>fun u4 u5 u6 u7=>aHe_ (ii x.id) t2 t3 t4 th u4 u5 u6 u7 x r h hb (by omega)
 rw [aK7_];simp (disch:=omega) only [↓pq,ps,pz,↓reduceIte,reduceLE,reduceLT,reduceEq,reduceGT,reduceGE,reduceAdd,reduceSub,reduceMul,reduceNeg,xO_,xP_,ak9_,hw]
 refine zg_ W (fun i c=>[.l (c.map eRcd),ii i,.l (W.map eRcd)]) (ww_ x) (fun c=>some [T.l ((x.store.foldl (wx_ x W) c).map eRcd)]) [] (fun i c=>Fit i c) rfl (zb_ (by omega)) Fit.nil ?_ ?_
 ·intro i c hi hc
  have hnr:=hn.gt (n:=i) (by omega) hi
  refine ⟨aoe_ hc hnr,fun q=>?_⟩
  have hcl:=hc.len
  have hk:=qf_ x.store (gt W (i:Int)).area (gt W (i:Int)).kind (gt W (i:Int)).owner (gt W (i:Int)).key (ii (gt W (i:Int)).seq) (.l ((gt W (i:Int)).near.map zE_)) (ii (gt W (i:Int)).cost) (bb (gt W (i:Int)).far) (by omega)
  rw [acj_] at hk
  have hq:=hq (gt W (i:Int)) (ii (gt W (i:Int)).seq) (.l ((gt W (i:Int)).near.map zE_)) (ii (gt W (i:Int)).cost) (bb (gt W (i:Int)).far)
  have hp:=qE_ c (gt W (i:Int)).area (gt W (i:Int)).kind (gt W (i:Int)).owner (gt W (i:Int)).key (v7_ x (gt W (i:Int))) (gt W (i:Int)).near (gt W (i:Int)).cost (gt W (i:Int)).far (by omega) hc.near hc.so hnr
  have hlt:=abo_ x.store (gt W (i:Int))
  unfold ww_ newB
  by_cases h0:keyP x.store (gt W (i:Int)) < 0
  ·simp (disch:=omega) only [↓pq,ps,pz,↓reduceIte,reduceLE,reduceLT,reduceEq,reduceGT,reduceGE,reduceAdd,reduceSub,reduceMul,reduceNeg,xO_,xP_,hi,hk,h0,hq,hp,decide_true,Bool.true_or]
   rfl
  ·have h1:0≤keyP x.store (gt W (i:Int)):=by omega
   have hsb:=aj7_ (gt x.store (keyP x.store (gt W (i:Int)))).area (gt x.store (keyP x.store (gt W (i:Int)))).kind (gt x.store (keyP x.store (gt W (i:Int)))).owner (gt x.store (keyP x.store (gt W (i:Int)))).key (gt x.store (keyP x.store (gt W (i:Int)))).seq (gt x.store (keyP x.store (gt W (i:Int)))).near (gt x.store (keyP x.store (gt W (i:Int)))).cost (gt x.store (keyP x.store (gt W (i:Int)))).far (gt W (i:Int)).area (gt W (i:Int)).kind (gt W (i:Int)).owner (gt W (i:Int)).key (gt W (i:Int)).seq (gt W (i:Int)).near (gt W (i:Int)).cost (gt W (i:Int)).far (hs.gt h1 hlt)
   rw [show (⟨(gt x.store (keyP x.store (gt W (i:Int)))).area,(gt x.store (keyP x.store (gt W (i:Int)))).kind,(gt x.store (keyP x.store (gt W (i:Int)))).owner,(gt x.store (keyP x.store (gt W (i:Int)))).key,(gt x.store (keyP x.store (gt W (i:Int)))).seq,(gt x.store (keyP x.store (gt W (i:Int)))).near,(gt x.store (keyP x.store (gt W (i:Int)))).cost,(gt x.store (keyP x.store (gt W (i:Int)))).far⟩:Rcd)=gt x.store (keyP x.store (gt W (i:Int))) from rfl,show (⟨(gt W (i:Int)).area,(gt W (i:Int)).kind,(gt W (i:Int)).owner,(gt W (i:Int)).key,(gt W (i:Int)).seq,(gt W (i:Int)).near,(gt W (i:Int)).cost,(gt W (i:Int)).far⟩:Rcd)=gt W (i:Int) from rfl] at hsb
   cases hc2:wU_ (gt x.store (keyP x.store (gt W (i:Int)))) (gt W (i:Int)) with
   | true =>
    rw [hc2] at hsb
    simp (disch:=omega) only [↓pq,ps,pz,↓reduceIte,reduceLE,reduceLT,reduceEq,reduceGT,reduceGE,reduceAdd,reduceSub,reduceMul,reduceNeg,xO_,xP_,hi,hk,h0,h1,hlt,hsb,decide_false,Bool.false_or,Bool.not_true,Bool.false_eq_true]
   | false =>
    rw [hc2] at hsb
    simp (disch:=omega) only [↓pq,ps,pz,↓reduceIte,reduceLE,reduceLT,reduceEq,reduceGT,reduceGE,reduceAdd,reduceSub,reduceMul,reduceNeg,xO_,xP_,hi,hk,h0,h1,hlt,hsb,hq,hp,decide_false,Bool.false_or,Bool.not_false,Bool.false_eq_true]
    rfl
 ·intro c q hc
  simp (disch:=omega) only [↓pq,ps,pz,↓reduceIte,reduceLE,reduceLT,reduceEq,reduceGT,reduceGE,reduceAdd,reduceSub,reduceMul,reduceNeg,xO_,xP_,]
  refine zg_ x.store (fun i c=>[.l (c.map eRcd),ii i]) (wx_ x W) (fun c=>some [T.l (c.map eRcd)]) c (fun i c=>Fit (25+i) c) rfl (zb_ (by omega)) (hc.mono (by omega)) ?_ ?_
  ·intro i c hi hc
   refine ⟨apj_ hc _,fun q=>?_⟩
   have hcl:=hc.len
   generalize hr:gt x.store (i:Int)=r
   have hk:=qf_ W r.area r.kind r.owner r.key (ii r.seq) (.l (r.near.map zE_)) (ii r.cost) (bb r.far) (by omega)
   rw [acj_] at hk
   have hq:=hq r (ii r.seq) (.l (r.near.map zE_)) (ii r.cost) (bb r.far)
   have hg:=aLn_ r (.l (r.near.map zE_))
   have hsb:=aj7_ (zG_ r).area (zG_ r).kind (zG_ r).owner (zG_ r).key (zG_ r).seq (zG_ r).near (zG_ r).cost (zG_ r).far r.area r.kind r.owner r.key r.seq r.near r.cost r.far (by rw [qP_];simp)
   have hp:=qE_ c (zG_ r).area (zG_ r).kind (zG_ r).owner (zG_ r).key (v7_ x r) (zG_ r).near (zG_ r).cost (zG_ r).far (by omega) hc.near hc.so (by rw [qP_];simp)
   rw [show (⟨(zG_ r).area,(zG_ r).kind,(zG_ r).owner,(zG_ r).key,(zG_ r).seq,(zG_ r).near,(zG_ r).cost,(zG_ r).far⟩:Rcd)=zG_ r from rfl,show (⟨r.area,r.kind,r.owner,r.key,r.seq,r.near,r.cost,r.far⟩:Rcd)=r from rfl] at hsb
   unfold wx_ aFr_
   simp only [eRcd] at hg
   by_cases h0:r.owner=x.id
   ·rw [h0] at hk hq hg hsb
    by_cases h1:keyP W r < 0
    ·have h2:¬ keyP W r ≥ 0:=by omega
     cases hc2:wU_ (zG_ r) r with
     | true =>
      rw [hc2] at hsb
      simp (disch:=omega) only [↓pq,ps,pz,↓reduceIte,reduceLE,reduceLT,reduceEq,reduceGT,reduceGE,reduceAdd,reduceSub,reduceMul,reduceNeg,xO_,xP_,hi,hr,h0,hk,h1,h2,hg,hsb,Bool.not_true,Bool.and_false,Bool.false_eq_true]
     | false =>
      have e0:(r.owner == x.id)=true:=by simpa using h0
      rw [hc2] at hsb
      simp (disch:=omega) only [↓pq,ps,pz,↓reduceIte,reduceLE,reduceLT,reduceEq,reduceGT,reduceGE,reduceAdd,reduceSub,reduceMul,reduceNeg,xO_,xP_,hi,hr,h0,hk,h1,h2,hg,hsb,hq,hp,Bool.not_false,Bool.and_true,beq_self_eq_true,decide_true]
      rfl
    ·have h2:keyP W r ≥ 0:=by omega
     simp (disch:=omega) only [↓pq,ps,pz,↓reduceIte,reduceLE,reduceLT,reduceEq,reduceGT,reduceGE,reduceAdd,reduceSub,reduceMul,reduceNeg,xO_,xP_,hi,hr,h0,hk,h1,h2,decide_false,Bool.false_and,Bool.and_false,Bool.false_eq_true]
   ·have e0:(r.owner == x.id)=false:=by simpa using h0
    simp (disch:=omega) only [↓pq,ps,pz,↓reduceIte,reduceLE,reduceLT,reduceEq,reduceGT,reduceGE,reduceAdd,reduceSub,reduceMul,reduceNeg,xO_,xP_,hi,hr,h0,e0,Bool.false_and,Bool.false_eq_true]
  ·intro c q hc
   simp (disch:=omega) only [↓pq,ps,pz,↓reduceIte,reduceLE,reduceLT,reduceEq,reduceGT,reduceGE,reduceAdd,reduceSub,reduceMul,reduceNeg,xO_,xP_,]
end
end Go.Proofs.YtiebbbmibbkpcaaGreatC
