/- The ah0_ store and the routes out of it, by both programs. Conditions: none. -/
import Derived.Test.YtjimmglpkndemaaGreatXST
namespace Go.Proofs.YtjimmglpkndemaaGreatC
open Int renaming reduceLE → Q0_, reduceLT → Q1_, reduceEq → Q2_, reduceGT → Q3_, reduceGE → Q4_, reduceAdd → Q5_, reduceSub → Q6_, reduceMul → Q7_, reduceNeg → Q8_
set_option linter.unusedVariables false
set_option linter.unusedSimpArgs false
def akh_ (ls:List Link) (L U:List Bool) (v a:Int):Rcd:=⟨a,1,v,0,1,akz_ ls L U v a,0,false⟩
def aol_ (t:Thing):Rcd:=⟨9,3,t.owner,t.key,1,[],t.cost,t.far⟩
theorem av0_ {n:Int} {ls:List Link} (h:ascB (yo_ n) zI_ ls=true) {L U:List Bool} {v a:Int} (hv:1≤v∧v≤6) (ha:0≤a∧a≤2):zE_ (akh_ ls L U v a)=true:=by
 unfold zE_
 simp only [akh_,bA_,inB_iff]
 refine ⟨⟨hv,by omega⟩,?_⟩
 simp [inB_iff,ha,aK5_ h]
theorem ag7_ {n:Int} {ts:List Thing} (h:ascB (vc_ n) yR_ ts=true) {t:Thing} (ht:t∈ts):(1≤t.owner∧t.owner≤n)∧(1≤t.key∧t.key≤9)∧(1≤t.cost∧t.cost≤1000):=by
 obtain ⟨i,hi,rfl⟩:=List.mem_iff_getElem.1 ht
 have:=allB_iff.1 h i hi
 rw [zm_ hi] at this
 simp only [bA_,vc_,inB_iff] at this
 omega
theorem aHb_ {n:Int} (hn:n≤6) {t:Thing} (h:(1≤t.owner∧t.owner≤n)∧(1≤t.key∧t.key≤9)∧(1≤t.cost∧t.cost≤1000)):zE_ (aol_ t)=true:=by
 unfold zE_
 simp only [aol_,bA_,inB_iff]
 refine ⟨⟨by omega,by omega⟩,?_⟩
 simp [inB_iff,h]
def aa6_ (ls:List Link) (L U:List Bool) (c:List Rcd) (i:Nat):List Rcd :=
 if gt U ((i:Int)+1 - 1)=true then (zP_ ls ((i:Int)+1)).foldl (fun c a=>putR c (akh_ ls L U ((i:Int)+1) a)) c else c
def kY_ (U:List Bool) (c:List Rcd) (t:Thing):List Rcd:=if gt U (t.owner - 1)=true then putR c (aol_ t) else c
def akq_ (ls:List Link) (U:List Bool) (c:List Rcd) (i:Nat):List Rcd :=
 if gt U ((i:Int)+1 - 1)=true then (if v1_ ls ((i:Int)+1)=true then kx_ c (zP_ ls ((i:Int)+1)) ((i:Int)+1) else c) else c
def aca_ (n:Int) (ls:List Link) (U:List Bool) (c:List Rcd) (_:Nat):List Rcd:=(List.range n.toNat).foldl (akq_ ls U) c
def ah0_ (x:Net) (L U:List Bool):List Rcd:=(List.range 3).foldl (aca_ x.n x.links U) (x.things.foldl (kY_ U) ((List.range x.n.toNat).foldl (aa6_ x.links L U) []))
def acs_ (x:Net) (L U:List Bool):Bool:=wn_ x && (decide ((L.length:Int)=x.links.length) && decide ((U.length:Int)=x.n))
theorem aCa_ {x:Net} {L U:List Bool} (h:acs_ x L U=true):wn_ x=true∧(L.length:Int)=x.links.length∧(U.length:Int)=x.n:=by
 unfold acs_ at h
 simpa only [bA_,decide_eq_true_eq] using h
theorem w0_ {x:Net} (h:wn_ x=true):(1≤x.n∧x.n≤6)∧x.links.length≤12∧x.things.length≤4∧ascB (yo_ x.n) zI_ x.links=true∧ascB (vc_ x.n) yR_ x.things=true:=by
 unfold wn_ at h
 simp only [bA_,decide_eq_true_eq,inB_iff] at h
 exact ⟨h.1.1.1.1,h.1.1.1.2,h.1.1.2,h.1.2,h.2⟩
theorem aak_ {α:Type} {k:Nat} {g:List Rcd→α→List Rcd}:∀ {l:List α} {c:List Rcd},(∀ a∈l,∀ c,Sto k c→Sto k (g c a))→Sto k c→Sto k (l.foldl g c)
 | [],c,_,h=>h
 | a :: l,c,hg,h=>by
  rw [List.foldl_cons]
  exact aak_ (fun b hb=>hg b (.tail _ hb)) (hg a (.head _) c h)
section
variable {n:Int} {ls:List Link} {L U:List Bool} (h:ascB (yo_ n) zI_ ls=true) (hn:n≤6)
include h hn
theorem are_ {c:List Rcd} {i:Nat} (hi:(i:Int) < n) (hc:Sto 0 c):Sto 0 (aa6_ ls L U c i):=by
 unfold aa6_
 split
 ·refine aak_ (fun a ha c hc=>?_) hc
  exact hc.put' (av0_ h (by omega) (je_ ha)) (by show (1:Int)≠3;decide)
 ·exact hc
omit h in
theorem anm_ {k:Nat} {c:List Rcd} {t:Thing} (ht:(1≤t.owner∧t.owner≤n)∧(1≤t.key∧t.key≤9)∧(1≤t.cost∧t.cost≤1000)) (hc:Sto k c):Sto (k+1) (kY_ U c t):=by
 unfold kY_
 split
 ·exact hc.put (aHb_ hn ht)
 ·exact hc.mono (by omega)
omit h in
theorem aqn_ {k:Nat} {c:List Rcd} {i:Nat} (hi:(i:Int) < n) (hc:Sto k c):Sto k (akq_ ls U c i):=by
 unfold akq_
 split
 ·split
  ·exact hc.instead (fun a ha=>je_ ha) (by omega)
  ·exact hc
 ·exact hc
omit h in
theorem am1_ {k:Nat} {c:List Rcd} {r:Nat} (hc:Sto k c):Sto k (aca_ n ls U c r) :=
 aak_ (fun i hi c hc=>aqn_ hn (by have:=List.mem_range.1 hi;omega) hc) hc
omit h in
theorem an0_:∀ {ts:List Thing} {k:Nat} {c:List Rcd},(∀ t∈ts,(1≤t.owner∧t.owner≤n)∧(1≤t.key∧t.key≤9)∧(1≤t.cost∧t.cost≤1000))→Sto k c→Sto (k+ts.length) (ts.foldl (kY_ U) c)
 | [],k,c,_,hc=>hc
 | t :: ts,k,c,ht,hc=>by
  rw [List.foldl_cons,List.length_cons]
  exact (an0_ (fun x hx=>ht x (.tail _ hx)) (anm_ hn (ht t (.head _)) hc)).mono (by omega)
end
theorem aF3_ {x:Net} {L U:List Bool} (h:wn_ x=true):Sto 4 (ah0_ x L U):=by
 obtain ⟨h1,h2,h3,h4,h5⟩:=w0_ h
 unfold ah0_
 refine aak_ (fun r _ c hc=>am1_ h1.2 hc) ?_
 refine (an0_ (k:=0) h1.2 (fun t ht=>ag7_ h5 ht) ?_).mono (by omega)
 exact aak_ (fun i hi c hc=>are_ h4 h1.2 (by have:=List.mem_range.1 hi;omega) hc) Sto.nil
theorem azl_ {n:Int} {ls:List Link} (h:ascB (yo_ n) zI_ ls=true) (hn:n≤6) (L U:List Bool) (v a:Int) :
  ((List.range n.toNat).filter fun u:Nat=>decide (w9_ ls L v ((u:Int)+1) a > 0) && gt U ((u:Int)+1 - 1)).map (fun u:Nat=>(⟨(u:Int)+1,w9_ ls L v ((u:Int)+1) a⟩:Near))=akz_ ls L U v a:=by
 have e:(upto n.toNat).filter (fun x=>decide (w9_ ls L v x a > 0) && gt U (x - 1))=six.filter (fun x=>decide (w9_ ls L v x a > 0) && gt U (x - 1)):=by
  refine qD_ ((avu_ _).filter _) (six_asc.filter _) fun x=>?_
  rw [List.mem_filter,List.mem_filter,avg_,mem_six]
  constructor
  ·rintro ⟨h1,h2⟩
   exact ⟨by omega,h2⟩
  ·rintro ⟨h1,h2⟩
   refine ⟨?_,h2⟩
   rw [bA_,decide_eq_true_eq] at h2
   obtain ⟨y,hy,e⟩:=(an5_ h v x a).1 (art_ h h2.1).1
   have:=vy_ h hy
   rw [joins_iff] at e
   omega
 unfold akz_
 rw [← e]
 unfold upto
 rw [List.filter_map,List.map_map]
 rfl
theorem aEi_ {n:Int} {ls:List Link} (h:ascB (yo_ n) zI_ ls=true) (hn:n≤6) (L U:List Bool) (v a:Int) :
  (List.range n.toNat).foldl (fun (e:List Near) (u:Nat)=>if (decide (w9_ ls L v ((u:Int)+1) a > 0) && gt U ((u:Int)+1 - 1))=true then e++[(⟨(u:Int)+1,w9_ ls L v ((u:Int)+1) a⟩:Near)] else e) []=akz_ ls L U v a:=by
 rw [vR_ (fun u:Nat=>decide (w9_ ls L v ((u:Int)+1) a > 0) && gt U ((u:Int)+1 - 1)) (fun u:Nat=>(⟨(u:Int)+1,w9_ ls L v ((u:Int)+1) a⟩:Near)),List.nil_append]
 exact azl_ h hn L U v a
theorem aIn_ (n:Int) (ls:List Link) (ts:List Thing) (L U:List Bool) (h1:ls.length≤1048576) (h2:ts.length≤1048576):uz_ [ii n,.l (ls.map zr_),.l (ts.map zo_),.l (L.map z3_),.l (U.map z3_)]=some (if acs_ ⟨n,ls,ts⟩ L U=true then [.l ((ah0_ ⟨n,ls,ts⟩ L U).map eRcd),bb true] else [.l [],bb false]):=by
 by_cases hi:acs_ ⟨n,ls,ts⟩ L U=true
 ·rw [if_pos hi]
  obtain ⟨hN,hL,hU⟩:=aCa_ hi
  obtain ⟨n1,hl,ht,hA,hT⟩:=w0_ hN
  simp only at hL hU n1 hl ht hA hT
  have hL':L.length=ls.length:=by omega
  have hfin:¬ ((n.toNat:Int)+1≤n):=by omega
  rw [aqz_];simp (disch:=omega) only [↓pq,↓pj,ps,pz,↓reduceIte,Q0_,Q1_,Q2_,Q3_,Q4_,Q5_,Q6_,Q7_,Q8_,zL_,zN_,zJ_,zK_,zO_,zM_,ac4_,aif_ _ _ _ h1 h2,hN,hL,hU]
  refine yV_ n.toNat (fun i c=>[.l (c.map eRcd),ii (i+1)]) (aa6_ ls L U) (fun c=>some [T.l (((List.range 3).foldl (aca_ n ls U) (ts.foldl (kY_ U) c)).map eRcd),bb true]) [] (fun _ c=>Sto 0 c) rfl (za_ (by omega)) Sto.nil ?_ ?_
  ·intro i c hi hc
   have hi':(i:Int)+1≤n:=by omega
   refine ⟨are_ hA n1.2 (by omega) hc,fun q=>?_⟩
   have hal:=wY_ ls ((i:Int)+1)
   have ham:=fun a ha=>je_ (ls:=ls) (v:=(i:Int)+1) (a:=a) ha
   simp (disch:=omega) only [↓pq,↓pj,ps,pz,↓reduceIte,Q0_,Q1_,Q2_,Q3_,Q4_,Q5_,Q6_,Q7_,Q8_,zL_,zN_,zJ_,zK_,zO_,zM_,hi',jd_ _ _ _ _ _ hA hl]
   unfold aa6_
   generalize zP_ ls ((i:Int)+1)=A at hal ham
   by_cases hu:gt U ((i:Int)+1 - 1)=true
   ·rw [if_pos hu]
    refine zj_ A (fun j c=>[.l (c.map eRcd),ii j]) (fun c a=>putR c (akh_ ls L U ((i:Int)+1) a)) (fun c=>q [.l (c.map eRcd),ii ((i:Int)+1+1)]) c (fun _ c=>Sto 0 c) rfl (za_ (by omega)) hc ?_ ?_
    ·intro j d hj hd
     have hr:=av0_ hA (L:=L) (U:=U) (v:=(i:Int)+1) (by omega) (ham _ (zS_ (l:=A) (n:=(j:Int)) (by omega) hj))
     refine ⟨hd.put' hr (by show (1:Int)≠3;decide),fun q'=>?_⟩
     have hdl:=hd.len
     simp (disch:=omega) only [↓pq,↓pj,ps,pz,↓reduceIte,Q0_,Q1_,Q2_,Q3_,Q4_,Q5_,Q6_,Q7_,Q8_,zL_,zN_,zJ_,zK_,zO_,zM_,hj,hu,hU]
     unfold akh_
     rw [← aEi_ hA n1.2]
     refine yV_ n.toNat (fun u e=>[ii (u+1),.l (e.map zu_)]) (fun e u=>if (decide (w9_ ls L ((i:Int)+1) ((u:Int)+1) (gt A (j:Int)) > 0) && gt U ((u:Int)+1 - 1))=true then e++[(⟨(u:Int)+1,w9_ ls L ((i:Int)+1) ((u:Int)+1) (gt A (j:Int))⟩:Near)] else e) (fun e=>q' [.l ((putR d ⟨gt A (j:Int),1,(i:Int)+1,0,1,e,0,false⟩).map eRcd),ii ((j:Int)+1)]) [] (fun u e=>e.length≤u) rfl (za_ (by omega)) (by simp) ?_ ?_
     ·intro u e hu he
      have hu':(u:Int)+1≤n:=by omega
      refine ⟨by split;(· simp;omega);(· omega),fun s=>?_⟩
      have ho:=axx_ (ii n) (.l (ts.map zo_)) ls L ((i:Int)+1) ((u:Int)+1) (gt A (j:Int)) n hA hl hL'
      generalize w9_ ls L ((i:Int)+1) ((u:Int)+1) (gt A (j:Int))=z at ho
      by_cases k1:z > 0
      ·cases k2:gt U ((u:Int)+1 - 1) with
       | true=>simp (disch:=omega) only [↓pq,↓pj,ps,pz,↓reduceIte,Q0_,Q1_,Q2_,Q3_,Q4_,Q5_,Q6_,Q7_,Q8_,zL_,zN_,zJ_,zK_,zO_,zM_,hu',hj,hU,ho,k1,k2,decide_true,Bool.true_and]
       | false=>simp (disch:=omega) only [↓pq,↓pj,ps,pz,↓reduceIte,Q0_,Q1_,Q2_,Q3_,Q4_,Q5_,Q6_,Q7_,Q8_,zL_,zN_,zJ_,zK_,zO_,zM_,hu',hj,hU,ho,k1,k2,decide_true,Bool.true_and,bF_]
      ·simp (disch:=omega) only [↓pq,↓pj,ps,pz,↓reduceIte,Q0_,Q1_,Q2_,Q3_,Q4_,Q5_,Q6_,Q7_,Q8_,zL_,zN_,zJ_,zK_,zO_,zM_,hu',hj,hU,ho,k1,decide_false,Bool.false_and,bF_]
     ·intro e s he
      have hp:=uL_ d (gt A (j:Int)) 1 ((i:Int)+1) 0 1 e 0 false (by omega) hd.near (by omega)
      simp (disch:=omega) only [↓pq,↓pj,ps,pz,↓reduceIte,Q0_,Q1_,Q2_,Q3_,Q4_,Q5_,Q6_,Q7_,Q8_,zL_,zN_,zJ_,zK_,zO_,zM_,hfin,hp]
    ·intro d q' hd
     simp (disch:=omega) only [↓pq,↓pj,ps,pz,↓reduceIte,Q0_,Q1_,Q2_,Q3_,Q4_,Q5_,Q6_,Q7_,Q8_,zL_,zN_,zJ_,zK_,zO_,zM_,]
   ·rw [if_neg hu]
    refine wi_ (fun k=>[.l (c.map eRcd),ii k]) 0 rfl (za_ (by omega)) ?_ ?_
    ·intro k hk;omega
    ·intro s
     by_cases h0:(0:Int) < A.length
     ·simp (disch:=omega) only [↓pq,↓pj,ps,pz,↓reduceIte,Q0_,Q1_,Q2_,Q3_,Q4_,Q5_,Q6_,Q7_,Q8_,zL_,zN_,zJ_,zK_,zO_,zM_,h0,hu,hU,bF_]
     ·simp (disch:=omega) only [↓pq,↓pj,ps,pz,↓reduceIte,Q0_,Q1_,Q2_,Q3_,Q4_,Q5_,Q6_,Q7_,Q8_,zL_,zN_,zJ_,zK_,zO_,zM_,h0]
  ·intro c q hc
   simp (disch:=omega) only [↓pq,↓pj,ps,pz,↓reduceIte,Q0_,Q1_,Q2_,Q3_,Q4_,Q5_,Q6_,Q7_,Q8_,zL_,zN_,zJ_,zK_,zO_,zM_,hfin]
   refine zj_ ts (fun j c=>[.l (c.map eRcd),ii j]) (kY_ U) (fun c=>some [T.l (((List.range 3).foldl (aca_ n ls U) c).map eRcd),bb true]) c (fun j c=>Sto j c) rfl (za_ (by omega)) hc ?_ ?_
   ·intro j d hj hd
    have hto:=ag7_ hT (zS_ (l:=ts) (n:=(j:Int)) (by omega) hj)
    refine ⟨anm_ n1.2 hto hd,fun q=>?_⟩
    have hdl:=hd.len
    have hp:=uL_ d 9 3 (gt ts (j:Int)).owner (gt ts (j:Int)).key 1 [] (gt ts (j:Int)).cost (gt ts (j:Int)).far (by omega) hd.near (by simp)
    rw [List.map_nil] at hp
    unfold kY_
    by_cases hu:gt U ((gt ts (j:Int)).owner - 1)=true
    ·rw [if_pos hu]
     simp (disch:=omega) only [↓pq,↓pj,ps,pz,↓reduceIte,Q0_,Q1_,Q2_,Q3_,Q4_,Q5_,Q6_,Q7_,Q8_,zL_,zN_,zJ_,zK_,zO_,zM_,hj,hu,hU,hp]
     rfl
    ·rw [if_neg hu]
     simp (disch:=omega) only [↓pq,↓pj,ps,pz,↓reduceIte,Q0_,Q1_,Q2_,Q3_,Q4_,Q5_,Q6_,Q7_,Q8_,zL_,zN_,zJ_,zK_,zO_,zM_,hj,hu,hU,bF_]
   ·intro d q hd
    simp (disch:=omega) only [↓pq,↓pj,ps,pz,↓reduceIte,Q0_,Q1_,Q2_,Q3_,Q4_,Q5_,Q6_,Q7_,Q8_,zL_,zN_,zJ_,zK_,zO_,zM_,]
    refine yV_ 3 (fun i c=>[.l (c.map eRcd),ii i]) (aca_ n ls U) (fun c=>some [T.l (c.map eRcd),bb true]) d (fun _ c=>Sto 4 c) rfl (za_ (by omega)) (hd.mono (by omega)) ?_ ?_
    ·intro r d hr hd
     have hr':(r:Int) < 3:=by omega
     refine ⟨am1_ n1.2 hd,fun q=>?_⟩
     simp (disch:=omega) only [↓pq,↓pj,ps,pz,↓reduceIte,Q0_,Q1_,Q2_,Q3_,Q4_,Q5_,Q6_,Q7_,Q8_,zL_,zN_,zJ_,zK_,zO_,zM_,hr']
     unfold aca_
     refine yV_ n.toNat (fun i c=>[.l (c.map eRcd),ii (i+1)]) (akq_ ls U) (fun c=>q [.l (c.map eRcd),ii ((r:Int)+1)]) d (fun _ c=>Sto 4 c) rfl (za_ (by omega)) hd ?_ ?_
     ·intro i e hi he
      have hi':(i:Int)+1≤n:=by omega
      refine ⟨aqn_ n1.2 (by omega) he,fun q'=>?_⟩
      have hin:=asz_ e (zP_ ls ((i:Int)+1)) ((i:Int)+1) (he.mono (by omega)) (wY_ ls _)
      unfold akq_
      by_cases hu:gt U ((i:Int)+1 - 1)=true
      ·rw [if_pos hu]
       cases hb:v1_ ls ((i:Int)+1) with
       | true=>simp (disch:=omega) only [↓pq,↓pj,ps,pz,↓reduceIte,Q0_,Q1_,Q2_,Q3_,Q4_,Q5_,Q6_,Q7_,Q8_,zL_,zN_,zJ_,zK_,zO_,zM_,hi',hu,hU,aa0_ _ _ _ _ _ hA hl,jd_ _ _ _ _ _ hA hl,hb,hin]
       | false=>simp (disch:=omega) only [↓pq,↓pj,ps,pz,↓reduceIte,Q0_,Q1_,Q2_,Q3_,Q4_,Q5_,Q6_,Q7_,Q8_,zL_,zN_,zJ_,zK_,zO_,zM_,hi',hu,hU,aa0_ _ _ _ _ _ hA hl,hb,bF_]
      ·rw [if_neg hu]
       simp (disch:=omega) only [↓pq,↓pj,ps,pz,↓reduceIte,Q0_,Q1_,Q2_,Q3_,Q4_,Q5_,Q6_,Q7_,Q8_,zL_,zN_,zJ_,zK_,zO_,zM_,hi',hu,hU,bF_]
     ·intro e q' he
      simp (disch:=omega) only [↓pq,↓pj,ps,pz,↓reduceIte,Q0_,Q1_,Q2_,Q3_,Q4_,Q5_,Q6_,Q7_,Q8_,zL_,zN_,zJ_,zK_,zO_,zM_,hfin]
    ·intro d q hd
     have hdl:=hd.len
     simp (disch:=omega) only [↓pq,↓pj,ps,pz,↓reduceIte,Q0_,Q1_,Q2_,Q3_,Q4_,Q5_,Q6_,Q7_,Q8_,zL_,zN_,zJ_,zK_,zO_,zM_,va_ d (by omega) hd.near]
 ·rw [if_neg hi]
  rw [aqz_];simp (disch:=omega) only [↓pq,↓pj,ps,pz,↓reduceIte,Q0_,Q1_,Q2_,Q3_,Q4_,Q5_,Q6_,Q7_,Q8_,zL_,zN_,zJ_,zK_,zO_,zM_,ac4_,aif_ _ _ _ h1 h2]
  cases hN:wn_ ⟨n,ls,ts⟩ with
  | false=>simp (disch:=omega) only [↓pq,↓pj,ps,pz,↓reduceIte,Q0_,Q1_,Q2_,Q3_,Q4_,Q5_,Q6_,Q7_,Q8_,zL_,zN_,zJ_,zK_,zO_,zM_,bF_]
  | true =>
   by_cases hL:(L.length:Int)=ls.length
   ·by_cases hU:(U.length:Int)=n
    ·exact absurd (by unfold acs_;rw [hN];simp [hL,hU]) hi
    ·simp (disch:=omega) only [↓pq,↓pj,ps,pz,↓reduceIte,Q0_,Q1_,Q2_,Q3_,Q4_,Q5_,Q6_,Q7_,Q8_,zL_,zN_,zJ_,zK_,zO_,zM_,hL,hU]
   ·simp (disch:=omega) only [↓pq,↓pj,ps,pz,↓reduceIte,Q0_,Q1_,Q2_,Q3_,Q4_,Q5_,Q6_,Q7_,Q8_,zL_,zN_,zJ_,zK_,zO_,zM_,hL]
end Go.Proofs.YtjimmglpkndemaaGreatC
