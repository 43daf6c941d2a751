/- FnRenews: what the plain programs say. Conditions: none. -/
import Derived.Test.YtjimmglpkndemaaGreatXSGb
namespace Go.Proofs.YtjimmglpkndemaaGreatC
open Int renaming reduceLE → Q0_, reduceLT → Q1_, reduceEq → Q2_, reduceGT → Q3_, reduceGE → Q4_, reduceAdd → Q5_, reduceSub → Q6_, reduceMul → Q7_, reduceNeg → Q8_
set_option linter.unusedVariables false
set_option linter.unusedSimpArgs false
def alf_:List Ty:=[.sl aE9_]
def kq_ (l:List Rcd) (r:Rcd):Int:=l.foldl (fun c x=>if zb_ x r=true then (if x.seq > c then x.seq else c) else c) 0
theorem alq_ (l:List Rcd) (a k o y:Int) (t4 t5 t6 t7:T) (h:l.length≤1048576):kt_ [.l (l.map eRcd),ii a,ii k,ii o,ii y,t4,t5,t6,t7]=some [ii (kq_ l ⟨a,k,o,y,0,[],0,false⟩)]:=by
 rw [aLa_];simp (disch:=omega) only [↓pq,↓pj,ps,pz,↓reduceIte,Q0_,Q1_,Q2_,Q3_,Q4_,Q5_,Q6_,Q7_,Q8_,al0_]
 refine zj_ l (fun i c=>[ii c,ii i]) (fun c x=>if zb_ x ⟨a,k,o,y,0,[],0,false⟩=true then (if x.seq > c then x.seq else c) else c) (fun c=>some [ii c]) 0 (fun _ _=>True) rfl (za_ h) trivial ?_ ?_
 ·intro i c hi _
  refine ⟨trivial,fun q=>?_⟩
  have e:=aep_ (gt l (i:Int)).area (gt l (i:Int)).kind (gt l (i:Int)).owner (gt l (i:Int)).key (ii (gt l (i:Int)).seq) (.l ((gt l (i:Int)).near.map zu_)) (ii (gt l (i:Int)).cost) (bb (gt l (i:Int)).far) a k o y t4 t5 t6 t7
  rw [show zb_ ⟨(gt l (i:Int)).area,(gt l (i:Int)).kind,(gt l (i:Int)).owner,(gt l (i:Int)).key,0,[],0,false⟩ ⟨a,k,o,y,0,[],0,false⟩=zb_ (gt l (i:Int)) ⟨a,k,o,y,0,[],0,false⟩ from rfl] at e
  cases hk:zb_ (gt l (i:Int)) ⟨a,k,o,y,0,[],0,false⟩ with
  | true =>
   rw [hk] at e
   by_cases hc:(gt l (i:Int)).seq > c
   ·simp (disch:=omega) only [↓pq,↓pj,ps,pz,↓reduceIte,Q0_,Q1_,Q2_,Q3_,Q4_,Q5_,Q6_,Q7_,Q8_,ja_,hi,e,hc]
   ·simp (disch:=omega) only [↓pq,↓pj,ps,pz,↓reduceIte,Q0_,Q1_,Q2_,Q3_,Q4_,Q5_,Q6_,Q7_,Q8_,ja_,hi,e,hc]
  | false =>
   rw [hk] at e
   simp (disch:=omega) only [↓pq,↓pj,ps,pz,↓reduceIte,Q0_,Q1_,Q2_,Q3_,Q4_,Q5_,Q6_,Q7_,Q8_,ja_,hi,e,bF_]
 ·intro c q _
  simp (disch:=omega) only [↓pq,↓pj,ps,pz,↓reduceIte,Q0_,Q1_,Q2_,Q3_,Q4_,Q5_,Q6_,Q7_,Q8_,ja_]
theorem aF0_ {l:List Rcd} {r:Rcd} {n:Int} (hn:0≤n) (h:∀ x∈l,zb_ x r=true→x.seq≤n):kq_ l r≤n:=by
 unfold kq_
 refine qA_ (P:=fun c:Int=>c≤n) (fun x hx c hc=>?_) hn
 by_cases hk:zb_ x r=true
 ·rw [if_pos hk]
  have:=h x hx hk
  split <;> omega
 ·rw [if_neg hk];exact hc
theorem arm_ {r:Rcd}:∀ (l:List Rcd) (c:Int),c≤l.foldl (fun c x=>if zb_ x r=true then (if x.seq > c then x.seq else c) else c) c∧∀ x∈l,zb_ x r=true→x.seq≤l.foldl (fun c x=>if zb_ x r=true then (if x.seq > c then x.seq else c) else c) c
 | [],c=>⟨by simp,by simp⟩
 | a :: l,c=>by
  rw [List.foldl_cons]
  obtain ⟨h1,h2⟩:=arm_ (r:=r) l (if zb_ a r=true then (if a.seq > c then a.seq else c) else c)
  refine ⟨Int.le_trans ?_ h1,fun x hx hk=>?_⟩
  ·split
   ·split <;> omega
   ·omega
  ·rcases List.mem_cons.1 hx with rfl | hx
   ·refine Int.le_trans ?_ h1
    rw [if_pos hk]
    split <;> omega
   ·exact h2 x hx hk
theorem as3_ {s:List Rcd} (hs:zG_ s) (hl:s.length≤1048576) (hn:NearL s) {z r:Rcd} (hz:z∈s) (hk:zb_ z r=true) (u4 u5 u6 u7:T) :
  vF_ [.l (s.map eRcd),ii r.area,ii r.kind,ii r.owner,ii r.key,u4,u5,u6,u7]=some [ii z.area,ii z.kind,ii z.owner,ii z.key,ii z.seq,.l (z.near.map zu_),ii z.cost,bb z.far,bb true]:=by
 have h0:=agu_ hz hk
 rw [aOr_ s r u4 u5 u6 u7 hl hn,if_neg (by omega),ait_ hs hz hk]
 rfl
theorem aqu_ (r:Rcd) (h:r.near.length≤1048576):jb_ [ii r.area,ii r.kind,ii r.owner,ii r.key,ii r.seq,.l (r.near.map zu_),ii r.cost,bb r.far,ii r.area,ii r.kind,ii r.owner,ii r.key,ii r.seq,.l (r.near.map zu_),ii r.cost,bb r.far]=some [bb true]:=aru_ r h
theorem asg_ (ts:List T) (h:WTs alf_ ts):aaq_ ts=some [.c (.bool true)]:=by
 obtain ⟨B,rfl,hB⟩:=aKr_ ts h
 rw [aDk_]
 by_cases hb:(B.length:Int) > 1048576
 ·simp (disch:=omega) only [↓pq,↓pj,ps,pz,↓reduceIte,Q0_,Q1_,Q2_,Q3_,Q4_,Q5_,Q6_,Q7_,Q8_,y3_,yX_,xd_,aas_,aLy_,hb,decide_true]
 obtain ⟨x,e,hx,hbt,⟨hs,hsl,hsq,hs3⟩,ht,hn2⟩:=ak0_ hB (by omega)
 have h3:(x.store.filter wz_).length≤13:=by rw [if_neg (by decide)] at hs3;omega
 obtain ⟨hN,hid,hbt2,hev,hpr,_⟩:=yU_ hx
 obtain ⟨n1,hlk,htk,hA,hT⟩:=w0_ hN
 have hxa:x.heard.length≤60:=by
  unfold xu_ at hx
  simp only [bA_] at hx
  have hp:=arr_ (kO_ hx.1).1 hx.2.2.2.1.2
  have he:x.heard.length % 2=0:=by simpa using hx.2.2.2.1.1
  omega
 have hso:=yD_ hs
 have hsn:=j4_ hs
 have hY:=af1_ hx hbt hsq h3 ht
 have hYok:=hY.ok (by decide)
 have hYl:=hY.len
 have hYn:=hY.near
 have hyx:=alg_ hx hYok
 have a1:=aqs_ x (by omega) (by omega) (by omega) (by omega) hsn
 have a2:=aHn_ x (by omega) (by omega) (by omega) (by omega) hsn
 rw [axk_ hx hbt hsq h3 ht] at a1 a2
 have a3:=aqs_ { x with store:=newY x } (by show x.net.links.length≤_;omega) (by show x.net.things.length≤_;omega) (by show x.heard.length≤_;omega) (by show (newY x).length≤_;omega) hYn
 rw [azn_ hx hbt hsq h3 ht] at a3
 have a4:=aa3_ x.id x.boot x.net.n x.net.links x.net.things x.heard x.store (by omega) (by omega) (by omega) (by omega) hsn
 rw [show (⟨x.id,x.boot,⟨x.net.n,x.net.links,x.net.things⟩,x.heard,x.store⟩:Self)=x from rfl,hx] at a4
 have a5:=aa3_ x.id x.boot x.net.n x.net.links x.net.things x.heard (newY x) (by omega) (by omega) (by omega) (by omega) hYn
 rw [show (⟨x.id,x.boot,⟨x.net.n,x.net.links,x.net.things⟩,x.heard,newY x⟩:Self)={ x with store:=newY x } from rfl,hyx] at a5
 have a6:=am3_ x.id x.boot x.net.n x.net.links x.net.things x.heard (newY x) (by omega) (by omega) (by omega) (by omega) hYn hyx
 rw [show (⟨x.id,x.boot,⟨x.net.n,x.net.links,x.net.things⟩,x.heard,newY x⟩:Self)={ x with store:=newY x } from rfl] at a6
 rw [show ownL { x with store:=newY x }=ownL x from rfl,ans_ hx hbt hsq h3 ht] at a6
 have a7:=jd_ (ii x.net.n) (.l (x.net.things.map zo_)) x.net.links x.id x.net.n hA hlk
 have hWf:=ai0_ (x:=x) (byR x.store x.id (ownL x)) (by omega) (by omega)
 have hWl:=hWf.len
 have hWn:=hWf.near
 have hNf:=aot_ (x:=x) hWf (by omega)
 have hNl:(newS x).length≤175:=hNf.len
 have hNn:NearL (newS x):=hNf.near
 have hNs:zG_ (newS x):=hNf.so
 have s1:=afi_ (newS x) (by omega) hNn
 have s2:=afi_ (newY x) (by omega) hYn
 have there:=fun (w:Rcd) hw=>aoc_ (x:=x) (W:=y8_ x (byR x.store x.id (ownL x))) (q5_ _ _) hso (w:=w) hw
 have full:(zP_ x.net.links x.id).length≠0→¬ (y8_ x (byR x.store x.id (ownL x))).length=0:=by
  intro hne h0
  have:ownL x≠[]:=by
   intro h1
   have:(ownL x).length=0:=by rw [h1];rfl
   unfold ownL at this
   rw [List.length_map] at this
   exact hne this
  obtain ⟨o,ho⟩:=List.exists_mem_of_ne_nil _ this
  obtain ⟨z,hz,_⟩:=auw_ (S:=byR x.store x.id (ownL x)) ho
  rw [List.length_eq_zero_iff.1 h0] at hz
  cases hz
 simp only [yk_,List.cons_append,List.nil_append] at a1 a2 a3
 have hYS:∀ r,r∈newY x↔r∈newS x∨(r∈x.store∧∀ o∈newS x,zb_ r o=false):=fun r=>jN_ hNs
 have hSq:=fun r hr=>at3_ hx hbt hsq (r:=r) hr
 have hSo:=fun r hr=>ag6_ hx (r:=r) hr
 have hst0:=fun r hr=>aBk_ (xI_ hs hr:zE_ r=true)
 change ∀ w,w∈y8_ x (byR x.store x.id (ownL x))→∃ r∈newY x,zb_ r w=true∧xD_ r w=true at there
 generalize y8_ x (byR x.store x.id (ownL x))=W at a6 there full hWl hWn
 generalize newY x=Y at *
 generalize newS x=K at *
 have hYs:=hY.1
 simp (disch:=omega) only [↓pq,↓pj,ps,pz,↓reduceIte,Q0_,Q1_,Q2_,Q3_,Q4_,Q5_,Q6_,Q7_,Q8_,y3_,yX_,xd_,aas_,aLy_,hb,decide_false,bF_,e,a1,a2,a3,a4,a5,s1]
 refine wi_ (fun i=>[bb false,ii (i:Int)]) K.length rfl (za_ (by omega)) ?_ ?_
 ·intro i hi q
  have hm:=zS_ (l:=K) (n:=(i:Int)) (by omega) hi
  have ho:=hSo _ hm
  obtain ⟨_,q2,q3⟩:=hSq _ hm
  have hne:=hNn _ hm
  have eF:=fun u4 u5 u6 u7=>as3_ hYs (by omega) hYn ((hYS _).2 (.inl hm)) (wc_ _) u4 u5 u6 u7
  have eS:=aqu_ (gt K (i:Int)) hne
  have hnew:kq_ x.store ⟨(gt K (i:Int)).area,(gt K (i:Int)).kind,(gt K (i:Int)).owner,(gt K (i:Int)).key,0,[],0,false⟩≤xV_ x.store (gt K (i:Int)):=by
   refine aF0_ (kk_ hs _).1 fun y hy hk=>?_
   have hk':zb_ y (gt K (i:Int))=true:=by rw [sameKey_iff] at *;exact hk
   have h0:=agu_ hy hk'
   unfold xV_
   rw [if_neg (by omega),ait_ hso hy hk']
   exact Int.le_refl _
  have c1:¬ (gt K (i:Int)).seq≤kq_ x.store ⟨(gt K (i:Int)).area,(gt K (i:Int)).kind,(gt K (i:Int)).owner,(gt K (i:Int)).key,0,[],0,false⟩:=by omega
  have c2:¬ (gt K (i:Int)).seq≤1000 * x.boot:=by omega
  rw [ho] at eF eS c1
  simp (disch:=omega) only [↓pq,↓pj,ps,pz,↓reduceIte,Q0_,Q1_,Q2_,Q3_,Q4_,Q5_,Q6_,Q7_,Q8_,y3_,yX_,xd_,xd_,hi,eF,eS,ho,alq_ _ _ _ _ _ _ _ _ _ (show x.store.length≤1048576 by omega),c1,c2]
 ·intro q
  have hz:¬ ((K.length:Int) < K.length):=by omega
  simp (disch:=omega) only [↓pq,↓pj,ps,pz,↓reduceIte,Q0_,Q1_,Q2_,Q3_,Q4_,Q5_,Q6_,Q7_,Q8_,y3_,yX_,xd_,xd_,hz]
  refine wi_ (fun i=>[bb false,ii (i:Int)]) x.store.length rfl (za_ (by omega)) ?_ ?_
  ·intro i hi q
   have hm:=zS_ (l:=x.store) (n:=(i:Int)) (by omega) hi
   by_cases c:kq_ K ⟨(gt x.store (i:Int)).area,(gt x.store (i:Int)).kind,(gt x.store (i:Int)).owner,(gt x.store (i:Int)).key,0,[],0,false⟩=0
   ·have hno:∀ o∈K,zb_ (gt x.store (i:Int)) o=false:=by
     intro o ho
     refine afd_ fun hc=>?_
     have h1:=(arm_ (r:=⟨(gt x.store (i:Int)).area,(gt x.store (i:Int)).kind,(gt x.store (i:Int)).owner,(gt x.store (i:Int)).key,0,[],0,false⟩) K 0).2 o ho (by rw [sameKey_iff] at *;exact ⟨hc.1.symm,hc.2.1.symm,hc.2.2.1.symm,hc.2.2.2.symm⟩)
     have h2:=(hSq o ho).2.1
     have h4:o.seq≤kq_ K ⟨(gt x.store (i:Int)).area,(gt x.store (i:Int)).kind,(gt x.store (i:Int)).owner,(gt x.store (i:Int)).key,0,[],0,false⟩:=h1
     omega
    have eF:=fun u4 u5 u6 u7=>as3_ hYs (by omega) hYn ((hYS _).2 (.inr ⟨hm,hno⟩)) (wc_ _) u4 u5 u6 u7
    have eS:=aqu_ (gt x.store (i:Int)) (hsn _ hm)
    simp (disch:=omega) only [↓pq,↓pj,ps,pz,↓reduceIte,Q0_,Q1_,Q2_,Q3_,Q4_,Q5_,Q6_,Q7_,Q8_,y3_,yX_,xd_,yX_,hi,alq_ _ _ _ _ _ _ _ _ _ (show K.length≤1048576 by omega),c,eF,eS]
   ·simp (disch:=omega) only [↓pq,↓pj,ps,pz,↓reduceIte,Q0_,Q1_,Q2_,Q3_,Q4_,Q5_,Q6_,Q7_,Q8_,y3_,yX_,xd_,yX_,hi,alq_ _ _ _ _ _ _ _ _ _ (show K.length≤1048576 by omega),c]
  ·intro q
   have hz:¬ ((x.store.length:Int) < x.store.length):=by omega
   simp (disch:=omega) only [↓pq,↓pj,ps,pz,↓reduceIte,Q0_,Q1_,Q2_,Q3_,Q4_,Q5_,Q6_,Q7_,Q8_,y3_,yX_,xd_,yX_,hz,a6]
   refine wi_ (fun i=>[bb false,ii (i:Int)]) W.length rfl (za_ (by omega)) ?_ ?_
   ·intro i hi q
    have hm:=zS_ (l:=W) (n:=(i:Int)) (by omega) hi
    obtain ⟨r,hr,hk,hbd⟩:=there _ hm
    have eF:=fun u4 u5 u6 u7=>as3_ hYs (by omega) hYn hr hk u4 u5 u6 u7
    have eB:=ab1_ r.area r.kind r.owner r.key r.seq r.near r.cost r.far (gt W (i:Int)).area (gt W (i:Int)).kind (gt W (i:Int)).owner (gt W (i:Int)).key (gt W (i:Int)).seq (gt W (i:Int)).near (gt W (i:Int)).cost (gt W (i:Int)).far (hYn _ hr)
    rw [show xD_ ⟨r.area,r.kind,r.owner,r.key,r.seq,r.near,r.cost,r.far⟩ ⟨(gt W (i:Int)).area,(gt W (i:Int)).kind,(gt W (i:Int)).owner,(gt W (i:Int)).key,(gt W (i:Int)).seq,(gt W (i:Int)).near,(gt W (i:Int)).cost,(gt W (i:Int)).far⟩=xD_ r (gt W (i:Int)) from rfl,hbd] at eB
    simp (disch:=omega) only [↓pq,↓pj,ps,pz,↓reduceIte,Q0_,Q1_,Q2_,Q3_,Q4_,Q5_,Q6_,Q7_,Q8_,y3_,yX_,xd_,y3_,hi,eF,eB]
   ·intro q
    have hz:¬ ((W.length:Int) < W.length):=by omega
    have hn0:Prim.ev .len [.l ([]:List (List T))]=some (ii 0):=rfl
    by_cases c:((zP_ x.net.links x.id).length:Int)=0
    ·simp (disch:=omega) only [↓pq,↓pj,ps,pz,↓reduceIte,Q0_,Q1_,Q2_,Q3_,Q4_,Q5_,Q6_,Q7_,Q8_,y3_,yX_,xd_,y3_,hz,hn0,List.map_nil,s2,a7,c]
    ·have c2:((W.length:Int) > 0):=by
      have:=full (by omega)
      omega
     simp (disch:=omega) only [↓pq,↓pj,ps,pz,↓reduceIte,Q0_,Q1_,Q2_,Q3_,Q4_,Q5_,Q6_,Q7_,Q8_,y3_,yX_,xd_,y3_,hz,hn0,List.map_nil,s2,a7,c,c2,decide_true]
end Go.Proofs.YtjimmglpkndemaaGreatC
