/- The adj_ store and the routes out of it, by both programs. Conditions: none. -/
import Derived.Test.YtiebbbmibbkpcaaGreatXST
namespace Go.Proofs.YtiebbbmibbkpcaaGreatC
open Int (reduceLE reduceLT reduceEq reduceGT reduceGE reduceAdd reduceSub reduceMul reduceNeg)
set_option linter.unusedVariables false
set_option linter.unusedSimpArgs false
def alt_ (ls:List Link) (L U:List Bool) (v a:Int):Rcd:=⟨a,1,v,0,1,ky_ ls L U v a,0,false⟩
def azq_ (t:Thing):Rcd:=⟨9,3,t.owner,t.key,1,[],t.cost,t.far⟩
theorem an5_ {n:Int} {ls:List Link} (h:ascB (yo_ n) yn_ ls=true) {L U:List Bool} {v a:Int} (hv:1≤v∧v≤6) (ha:0≤a∧a≤2):x0_ (alt_ ls L U v a)=true:=by
 unfold x0_
 simp only [alt_,Bool.and_eq_true,inB_iff]
 refine ⟨⟨hv,by omega⟩,?_⟩
 simp [inB_iff,ha,aQc_ h]
theorem anq_ {n:Int} {ts:List Thing} (h:ascB (vC_ n) vi_ ts=true) {t:Thing} (ht:t∈ts):(1≤t.owner∧t.owner≤n)∧(1≤t.key∧t.key≤9)∧(1≤t.cost∧t.cost≤1000):=by
 obtain ⟨i,hi,rfl⟩:=List.mem_iff_getElem.1 ht
 have:=allB_iff.1 h i hi
 rw [zr_ hi] at this
 simp only [Bool.and_eq_true,vC_,inB_iff] at this
 omega
theorem aL7_ {n:Int} (hn:n≤6) {t:Thing} (h:(1≤t.owner∧t.owner≤n)∧(1≤t.key∧t.key≤9)∧(1≤t.cost∧t.cost≤1000)):x0_ (azq_ t)=true:=by
 unfold x0_
 simp only [azq_,Bool.and_eq_true,inB_iff]
 refine ⟨⟨by omega,by omega⟩,?_⟩
 simp [inB_iff,h]
def agr_ (ls:List Link) (L U:List Bool) (c:List Rcd) (i:Nat):List Rcd :=
 if gt U ((i:Int)+1 - 1)=true then (yP_ ls ((i:Int)+1)).foldl (fun c a=>putR c (alt_ ls L U ((i:Int)+1) a)) c else c
def ju_ (U:List Bool) (c:List Rcd) (t:Thing):List Rcd:=if gt U (t.owner - 1)=true then putR c (azq_ t) else c
def aik_ (ls:List Link) (U:List Bool) (c:List Rcd) (i:Nat):List Rcd :=
 if gt U ((i:Int)+1 - 1)=true then (if w0_ ls ((i:Int)+1)=true then kP_ c (yP_ ls ((i:Int)+1)) ((i:Int)+1) else c) else c
def jv_ (n:Int) (ls:List Link) (U:List Bool) (c:List Rcd) (_:Nat):List Rcd:=(List.range n.toNat).foldl (aik_ ls U) c
def adj_ (x:Net) (L U:List Bool):List Rcd:=(List.range 3).foldl (jv_ x.n x.links U) (x.things.foldl (ju_ U) ((List.range x.n.toNat).foldl (agr_ x.links L U) []))
def qn_ (x:Net) (L U:List Bool):Bool:=w8_ x && (decide ((L.length:Int)=x.links.length) && decide ((U.length:Int)=x.n))
theorem aa2_ {x:Net} {L U:List Bool} (h:qn_ x L U=true):w8_ x=true∧(L.length:Int)=x.links.length∧(U.length:Int)=x.n:=by
 unfold qn_ at h
 simpa only [Bool.and_eq_true,decide_eq_true_eq] using h
theorem aap_ {x:Net} (h:w8_ x=true):(1≤x.n∧x.n≤6)∧x.links.length≤12∧x.things.length≤4∧ascB (yo_ x.n) yn_ x.links=true∧ascB (vC_ x.n) vi_ x.things=true:=by
 unfold w8_ at h
 simp only [Bool.and_eq_true,decide_eq_true_eq,inB_iff] at h
 exact ⟨h.1.1.1.1,h.1.1.1.2,h.1.1.2,h.1.2,h.2⟩
theorem k9_ {α:Type} {k:Nat} {g:List Rcd→α→List Rcd}:∀ {l:List α} {c:List Rcd},(∀ a∈l,∀ c,Sto k c→Sto k (g c a))→Sto k c→Sto k (l.foldl g c)
 | [],c,_,h=>h
 | a :: l,c,hg,h=>by
  rw [List.foldl_cons]
  exact k9_ (fun b hb=>hg b (.tail _ hb)) (hg a (.head _) c h)
section
variable {n:Int} {ls:List Link} {L U:List Bool} (h:ascB (yo_ n) yn_ ls=true) (hn:n≤6)
include h hn
theorem aj6_ {c:List Rcd} {i:Nat} (hi:(i:Int) < n) (hc:Sto 0 c):Sto 0 (agr_ ls L U c i):=by
 unfold agr_
 split
 ·refine k9_ (fun a ha c hc=>?_) hc
  exact hc.put' (an5_ h (by omega) (js_ ha)) (by show (1:Int)≠3;decide)
 ·exact hc
omit h in
theorem ai1_ {k:Nat} {c:List Rcd} {t:Thing} (ht:(1≤t.owner∧t.owner≤n)∧(1≤t.key∧t.key≤9)∧(1≤t.cost∧t.cost≤1000)) (hc:Sto k c):Sto (k+1) (ju_ U c t):=by
 unfold ju_
 split
 ·exact hc.put (aL7_ hn ht)
 ·exact hc.mono (by omega)
omit h in
theorem akt_ {k:Nat} {c:List Rcd} {i:Nat} (hi:(i:Int) < n) (hc:Sto k c):Sto k (aik_ ls U c i):=by
 unfold aik_
 split
 ·split
  ·exact hc.instead (fun a ha=>js_ ha) (by omega)
  ·exact hc
 ·exact hc
omit h in
theorem aij_ {k:Nat} {c:List Rcd} {r:Nat} (hc:Sto k c):Sto k (jv_ n ls U c r) :=
 k9_ (fun i hi c hc=>akt_ hn (by have:=List.mem_range.1 hi;omega) hc) hc
omit h in
theorem ao2_:∀ {ts:List Thing} {k:Nat} {c:List Rcd},(∀ t∈ts,(1≤t.owner∧t.owner≤n)∧(1≤t.key∧t.key≤9)∧(1≤t.cost∧t.cost≤1000))→Sto k c→Sto (k+ts.length) (ts.foldl (ju_ U) c)
 | [],k,c,_,hc=>hc
 | t :: ts,k,c,ht,hc=>by
  rw [List.foldl_cons,List.length_cons]
  exact (ao2_ (fun x hx=>ht x (.tail _ hx)) (ai1_ hn (ht t (.head _)) hc)).mono (by omega)
end
theorem at2_ {x:Net} {L U:List Bool} (h:w8_ x=true):Sto 4 (adj_ x L U):=by
 obtain ⟨h1,h2,h3,h4,h5⟩:=aap_ h
 unfold adj_
 refine k9_ (fun r _ c hc=>aij_ h1.2 hc) ?_
 refine (ao2_ (k:=0) h1.2 (fun t ht=>anq_ h5 ht) ?_).mono (by omega)
 exact k9_ (fun i hi c hc=>aj6_ h4 h1.2 (by have:=List.mem_range.1 hi;omega) hc) Sto.nil
theorem aMt_ (n:Int) (ls:List Link) (ts:List Thing) (L U:List Bool) (h1:ls.length≤1048576) (h2:ts.length≤1048576):jT_ [ii n,.l (ls.map zu_),.l (ts.map zt_),.l (L.map zC_),.l (U.map zC_)]=some (if qn_ ⟨n,ls,ts⟩ L U=true then [.l ((adj_ ⟨n,ls,ts⟩ L U).map eRcd),bb true] else [.l [],bb false]):=by
 by_cases hi:qn_ ⟨n,ls,ts⟩ L U=true
 ·rw [if_pos hi]
  obtain ⟨hN,hL,hU⟩:=aa2_ hi
  obtain ⟨n1,hl,ht,hA,hT⟩:=aap_ hN
  simp only at hL hU n1 hl ht hA hT
  have hL':L.length=ls.length:=by omega
  have hfin:¬ ((n.toNat:Int)+1≤n):=by omega
  rw [atz_];simp (disch:=omega) only [↓pq,ps,pz,↓reduceIte,reduceLE,reduceLT,reduceEq,reduceGT,reduceGE,reduceAdd,reduceSub,reduceMul,reduceNeg,yk_,ym_,yh_,yl_,yi_,aea_,ak8_ _ _ _ h1 h2,hN,hL,hU]
  refine yE_ n.toNat (fun i c=>[.l (c.map eRcd),ii (i+1)]) (agr_ ls L U) (fun c=>some [T.l (((List.range 3).foldl (jv_ n ls U) (ts.foldl (ju_ U) c)).map eRcd),bb true]) [] (fun _ c=>Sto 0 c) rfl (zc_ (by omega)) Sto.nil ?_ ?_
  ·intro i c hi hc
   have hi':(i:Int)+1≤n:=by omega
   refine ⟨aj6_ hA n1.2 (by omega) hc,fun q=>?_⟩
   have hal:=wo_ ls ((i:Int)+1)
   have ham:=fun a ha=>js_ (ls:=ls) (v:=(i:Int)+1) (a:=a) ha
   simp (disch:=omega) only [↓pq,ps,pz,↓reduceIte,reduceLE,reduceLT,reduceEq,reduceGT,reduceGE,reduceAdd,reduceSub,reduceMul,reduceNeg,yk_,ym_,yh_,yl_,yi_,hi',jl_ _ _ _ _ _ hA hl]
   unfold agr_
   generalize yP_ ls ((i:Int)+1)=A at hal ham
   by_cases hu:gt U ((i:Int)+1 - 1)=true
   ·rw [if_pos hu]
    refine zp_ A (fun j c=>[.l (c.map eRcd),ii j]) (fun c a=>putR c (alt_ ls L U ((i:Int)+1) a)) (fun c=>q [.l (c.map eRcd),ii ((i:Int)+1+1)]) c (fun _ c=>Sto 0 c) rfl (zc_ (by omega)) hc ?_ ?_
    ·intro j d hj hd
     have hr:=an5_ hA (L:=L) (U:=U) (v:=(i:Int)+1) (by omega) (ham _ (z1_ (l:=A) (n:=(j:Int)) (by omega) hj))
     refine ⟨hd.put' hr (by show (1:Int)≠3;decide),fun q'=>?_⟩
     have hdl:=hd.len
     have hnl:=aKy_ ls L U ((i:Int)+1) (gt A (j:Int))
     have hp:=af0_ d (gt A (j:Int)) 1 ((i:Int)+1) 0 1 (ky_ ls L U ((i:Int)+1) (gt A (j:Int))) 0 false (by omega) hd.near hd.1 (by omega)
     simp (disch:=omega) only [↓pq,ps,pz,↓reduceIte,reduceLE,reduceLT,reduceEq,reduceGT,reduceGE,reduceAdd,reduceSub,reduceMul,reduceNeg,yk_,ym_,yh_,yl_,yi_,hj,hu,hU,aJd_ _ _ _ _ _ _ _ hA hl hL' hU,hp]
     rfl
    ·intro d q' hd
     simp (disch:=omega) only [↓pq,ps,pz,↓reduceIte,reduceLE,reduceLT,reduceEq,reduceGT,reduceGE,reduceAdd,reduceSub,reduceMul,reduceNeg,yk_,ym_,yh_,yl_,yi_,]
   ·rw [if_neg hu]
    refine (zp_ A (fun j c=>[.l (c.map eRcd),ii j]) (fun c _=>c) (fun c=>q [.l (c.map eRcd),ii ((i:Int)+1+1)]) c (fun _ c=>Sto 0 c) rfl (zc_ (by omega)) hc ?_ ?_).trans (by rw [aI6_])
    ·intro j d hj hd
     refine ⟨hd,fun q'=>?_⟩
     simp (disch:=omega) only [↓pq,ps,pz,↓reduceIte,reduceLE,reduceLT,reduceEq,reduceGT,reduceGE,reduceAdd,reduceSub,reduceMul,reduceNeg,yk_,ym_,yh_,yl_,yi_,hj,hu,hU,Bool.false_eq_true]
    ·intro d q' hd
     simp (disch:=omega) only [↓pq,ps,pz,↓reduceIte,reduceLE,reduceLT,reduceEq,reduceGT,reduceGE,reduceAdd,reduceSub,reduceMul,reduceNeg,yk_,ym_,yh_,yl_,yi_,]
  ·intro c q hc
   simp (disch:=omega) only [↓pq,ps,pz,↓reduceIte,reduceLE,reduceLT,reduceEq,reduceGT,reduceGE,reduceAdd,reduceSub,reduceMul,reduceNeg,yk_,ym_,yh_,yl_,yi_,hfin]
   refine zp_ ts (fun j c=>[.l (c.map eRcd),ii j]) (ju_ U) (fun c=>some [T.l (((List.range 3).foldl (jv_ n ls U) c).map eRcd),bb true]) c (fun j c=>Sto j c) rfl (zc_ (by omega)) hc ?_ ?_
   ·intro j d hj hd
    have hto:=anq_ hT (z1_ (l:=ts) (n:=(j:Int)) (by omega) hj)
    refine ⟨ai1_ n1.2 hto hd,fun q=>?_⟩
    have hdl:=hd.len
    have hp:=af0_ d 9 3 (gt ts (j:Int)).owner (gt ts (j:Int)).key 1 [] (gt ts (j:Int)).cost (gt ts (j:Int)).far (by omega) hd.near hd.1 (by simp)
    rw [List.map_nil] at hp
    unfold ju_
    by_cases hu:gt U ((gt ts (j:Int)).owner - 1)=true
    ·rw [if_pos hu]
     simp (disch:=omega) only [↓pq,ps,pz,↓reduceIte,reduceLE,reduceLT,reduceEq,reduceGT,reduceGE,reduceAdd,reduceSub,reduceMul,reduceNeg,yk_,ym_,yh_,yl_,yi_,hj,hu,hU,hp]
     rfl
    ·rw [if_neg hu]
     simp (disch:=omega) only [↓pq,ps,pz,↓reduceIte,reduceLE,reduceLT,reduceEq,reduceGT,reduceGE,reduceAdd,reduceSub,reduceMul,reduceNeg,yk_,ym_,yh_,yl_,yi_,hj,hu,hU,Bool.false_eq_true]
   ·intro d q hd
    simp (disch:=omega) only [↓pq,ps,pz,↓reduceIte,reduceLE,reduceLT,reduceEq,reduceGT,reduceGE,reduceAdd,reduceSub,reduceMul,reduceNeg,yk_,ym_,yh_,yl_,yi_,]
    refine yE_ 3 (fun i c=>[.l (c.map eRcd),ii i]) (jv_ n ls U) (fun c=>some [T.l (c.map eRcd),bb true]) d (fun _ c=>Sto 4 c) rfl (zc_ (by omega)) (hd.mono (by omega)) ?_ ?_
    ·intro r d hr hd
     have hr':(r:Int) < 3:=by omega
     refine ⟨aij_ n1.2 hd,fun q=>?_⟩
     simp (disch:=omega) only [↓pq,ps,pz,↓reduceIte,reduceLE,reduceLT,reduceEq,reduceGT,reduceGE,reduceAdd,reduceSub,reduceMul,reduceNeg,yk_,ym_,yh_,yl_,yi_,hr']
     unfold jv_
     refine yE_ n.toNat (fun i c=>[.l (c.map eRcd),ii (i+1)]) (aik_ ls U) (fun c=>q [.l (c.map eRcd),ii ((r:Int)+1)]) d (fun _ c=>Sto 4 c) rfl (zc_ (by omega)) hd ?_ ?_
     ·intro i e hi he
      have hi':(i:Int)+1≤n:=by omega
      refine ⟨akt_ n1.2 (by omega) he,fun q'=>?_⟩
      have hin:=aCj_ (.l (ts.map zt_)) e n ls ((i:Int)+1) hA hl (he.mono (by omega)) (by omega)
      unfold aik_
      by_cases hu:gt U ((i:Int)+1 - 1)=true
      ·rw [if_pos hu]
       cases hb:w0_ ls ((i:Int)+1) with
       | true=>simp (disch:=omega) only [↓pq,ps,pz,↓reduceIte,reduceLE,reduceLT,reduceEq,reduceGT,reduceGE,reduceAdd,reduceSub,reduceMul,reduceNeg,yk_,ym_,yh_,yl_,yi_,hi',hu,hU,aaz_ _ _ _ _ _ hA hl,hb,hin]
       | false=>simp (disch:=omega) only [↓pq,ps,pz,↓reduceIte,reduceLE,reduceLT,reduceEq,reduceGT,reduceGE,reduceAdd,reduceSub,reduceMul,reduceNeg,yk_,ym_,yh_,yl_,yi_,hi',hu,hU,aaz_ _ _ _ _ _ hA hl,hb,Bool.false_eq_true]
      ·rw [if_neg hu]
       simp (disch:=omega) only [↓pq,ps,pz,↓reduceIte,reduceLE,reduceLT,reduceEq,reduceGT,reduceGE,reduceAdd,reduceSub,reduceMul,reduceNeg,yk_,ym_,yh_,yl_,yi_,hi',hu,hU,Bool.false_eq_true]
     ·intro e q' he
      simp (disch:=omega) only [↓pq,ps,pz,↓reduceIte,reduceLE,reduceLT,reduceEq,reduceGT,reduceGE,reduceAdd,reduceSub,reduceMul,reduceNeg,yk_,ym_,yh_,yl_,yi_,hfin]
    ·intro d q hd
     simp (disch:=omega) only [↓pq,ps,pz,↓reduceIte,reduceLE,reduceLT,reduceEq,reduceGT,reduceGE,reduceAdd,reduceSub,reduceMul,reduceNeg,yk_,ym_,yh_,yl_,yi_,]
 ·rw [if_neg hi]
  rw [atz_];simp (disch:=omega) only [↓pq,ps,pz,↓reduceIte,reduceLE,reduceLT,reduceEq,reduceGT,reduceGE,reduceAdd,reduceSub,reduceMul,reduceNeg,yk_,ym_,yh_,yl_,yi_,aea_,ak8_ _ _ _ h1 h2]
  cases hN:w8_ ⟨n,ls,ts⟩ with
  | false=>simp (disch:=omega) only [↓pq,ps,pz,↓reduceIte,reduceLE,reduceLT,reduceEq,reduceGT,reduceGE,reduceAdd,reduceSub,reduceMul,reduceNeg,yk_,ym_,yh_,yl_,yi_,Bool.false_eq_true]
  | true =>
   by_cases hL:(L.length:Int)=ls.length
   ·by_cases hU:(U.length:Int)=n
    ·exact absurd (by unfold qn_;rw [hN];simp [hL,hU]) hi
    ·simp (disch:=omega) only [↓pq,ps,pz,↓reduceIte,reduceLE,reduceLT,reduceEq,reduceGT,reduceGE,reduceAdd,reduceSub,reduceMul,reduceNeg,yk_,ym_,yh_,yl_,yi_,hL,hU]
   ·simp (disch:=omega) only [↓pq,ps,pz,↓reduceIte,reduceLE,reduceLT,reduceEq,reduceGT,reduceGE,reduceAdd,reduceSub,reduceMul,reduceNeg,yk_,ym_,yh_,yl_,yi_,hL]
theorem aBe_ {n:Int} {ls:List Link} (h:ascB (yo_ n) yn_ ls=true) (hn:n≤6) (L U:List Bool) (v a:Int) :
  ((List.range n.toNat).filter fun u:Nat=>decide (wn_ ls L v ((u:Int)+1) a > 0) && gt U ((u:Int)+1 - 1)).map (fun u:Nat=>(⟨(u:Int)+1,wn_ ls L v ((u:Int)+1) a⟩:Near))=ky_ ls L U v a:=by
 have e:(upto n.toNat).filter (fun x=>decide (wn_ ls L v x a > 0) && gt U (x - 1))=six.filter (fun x=>decide (wn_ ls L v x a > 0) && gt U (x - 1)):=by
  refine u6_ ((azd_ _).filter _) (six_asc.filter _) fun x=>?_
  rw [List.mem_filter,List.mem_filter,mem_upto,mem_six]
  constructor
  ·rintro ⟨h1,h2⟩
   exact ⟨by omega,h2⟩
  ·rintro ⟨h1,h2⟩
   refine ⟨?_,h2⟩
   rw [Bool.and_eq_true,decide_eq_true_eq] at h2
   obtain ⟨y,hy,e⟩:=(ait_ h v x a).1 (adn_ h h2.1).1
   have:=wX_ h hy
   rw [joins_iff] at e
   omega
 unfold ky_
 rw [← e]
 unfold upto
 rw [List.filter_map,List.map_map]
 rfl
theorem aJ1_ {n:Int} {ls:List Link} (h:ascB (yo_ n) yn_ ls=true) (hn:n≤6) (L U:List Bool) (v a:Int) :
  (List.range n.toNat).foldl (fun (e:List Near) (u:Nat)=>if (decide (wn_ ls L v ((u:Int)+1) a > 0) && gt U ((u:Int)+1 - 1))=true then e++[(⟨(u:Int)+1,wn_ ls L v ((u:Int)+1) a⟩:Near)] else e) []=ky_ ls L U v a:=by
 rw [v2_ (fun u:Nat=>decide (wn_ ls L v ((u:Int)+1) a > 0) && gt U ((u:Int)+1 - 1)) (fun u:Nat=>(⟨(u:Int)+1,wn_ ls L v ((u:Int)+1) a⟩:Near)),List.nil_append]
 exact aBe_ h hn L U v a
theorem aNo_ (n:Int) (ls:List Link) (ts:List Thing) (L U:List Bool) (h1:ls.length≤1048576) (h2:ts.length≤1048576):jU_ [ii n,.l (ls.map zu_),.l (ts.map zt_),.l (L.map zC_),.l (U.map zC_)]=some (if qn_ ⟨n,ls,ts⟩ L U=true then [.l ((adj_ ⟨n,ls,ts⟩ L U).map eRcd),bb true] else [.l [],bb false]):=by
 by_cases hi:qn_ ⟨n,ls,ts⟩ L U=true
 ·rw [if_pos hi]
  obtain ⟨hN,hL,hU⟩:=aa2_ hi
  obtain ⟨n1,hl,ht,hA,hT⟩:=aap_ hN
  simp only at hL hU n1 hl ht hA hT
  have hL':L.length=ls.length:=by omega
  have hfin:¬ ((n.toNat:Int)+1≤n):=by omega
  rw [ass_];simp (disch:=omega) only [↓pq,ps,pz,↓reduceIte,reduceLE,reduceLT,reduceEq,reduceGT,reduceGE,reduceAdd,reduceSub,reduceMul,reduceNeg,zY_,zR_,zX_,zV_,zU_,zW_,aeg_,ak0_ _ _ _ h1 h2,hN,hL,hU]
  refine yE_ n.toNat (fun i c=>[.l (c.map eRcd),ii (i+1)]) (agr_ ls L U) (fun c=>some [T.l (((List.range 3).foldl (jv_ n ls U) (ts.foldl (ju_ U) c)).map eRcd),bb true]) [] (fun _ c=>Sto 0 c) rfl (zc_ (by omega)) Sto.nil ?_ ?_
  ·intro i c hi hc
   have hi':(i:Int)+1≤n:=by omega
   refine ⟨aj6_ hA n1.2 (by omega) hc,fun q=>?_⟩
   have hal:=wo_ ls ((i:Int)+1)
   have ham:=fun a ha=>js_ (ls:=ls) (v:=(i:Int)+1) (a:=a) ha
   simp (disch:=omega) only [↓pq,ps,pz,↓reduceIte,reduceLE,reduceLT,reduceEq,reduceGT,reduceGE,reduceAdd,reduceSub,reduceMul,reduceNeg,zY_,zR_,zX_,zV_,zU_,zW_,hi',jn_ _ _ _ _ _ hA hl]
   unfold agr_
   generalize yP_ ls ((i:Int)+1)=A at hal ham
   by_cases hu:gt U ((i:Int)+1 - 1)=true
   ·rw [if_pos hu]
    refine zp_ A (fun j c=>[.l (c.map eRcd),ii j]) (fun c a=>putR c (alt_ ls L U ((i:Int)+1) a)) (fun c=>q [.l (c.map eRcd),ii ((i:Int)+1+1)]) c (fun _ c=>Sto 0 c) rfl (zc_ (by omega)) hc ?_ ?_
    ·intro j d hj hd
     have hr:=an5_ hA (L:=L) (U:=U) (v:=(i:Int)+1) (by omega) (ham _ (z1_ (l:=A) (n:=(j:Int)) (by omega) hj))
     refine ⟨hd.put' hr (by show (1:Int)≠3;decide),fun q'=>?_⟩
     have hdl:=hd.len
     simp (disch:=omega) only [↓pq,ps,pz,↓reduceIte,reduceLE,reduceLT,reduceEq,reduceGT,reduceGE,reduceAdd,reduceSub,reduceMul,reduceNeg,zY_,zR_,zX_,zV_,zU_,zW_,hj,hu,hU]
     unfold alt_
     rw [← aJ1_ hA n1.2]
     refine yE_ n.toNat (fun u e=>[ii (u+1),.l (e.map z8_)]) (fun e u=>if (decide (wn_ ls L ((i:Int)+1) ((u:Int)+1) (gt A (j:Int)) > 0) && gt U ((u:Int)+1 - 1))=true then e++[(⟨(u:Int)+1,wn_ ls L ((i:Int)+1) ((u:Int)+1) (gt A (j:Int))⟩:Near)] else e) (fun e=>q' [.l ((putR d ⟨gt A (j:Int),1,(i:Int)+1,0,1,e,0,false⟩).map eRcd),ii ((j:Int)+1)]) [] (fun u e=>e.length≤u) rfl (zc_ (by omega)) (by simp) ?_ ?_
     ·intro u e hu he
      have hu':(u:Int)+1≤n:=by omega
      refine ⟨by split;(· simp;omega);(· omega),fun s=>?_⟩
      have ho:=aCe_ (ii n) (.l (ts.map zt_)) ls L ((i:Int)+1) ((u:Int)+1) (gt A (j:Int)) n hA hl hL'
      generalize wn_ ls L ((i:Int)+1) ((u:Int)+1) (gt A (j:Int))=z at ho
      by_cases k1:z > 0
      ·cases k2:gt U ((u:Int)+1 - 1) with
       | true=>simp (disch:=omega) only [↓pq,ps,pz,↓reduceIte,reduceLE,reduceLT,reduceEq,reduceGT,reduceGE,reduceAdd,reduceSub,reduceMul,reduceNeg,zY_,zR_,zX_,zV_,zU_,zW_,hu',hj,hU,ho,k1,k2,decide_true,Bool.true_and]
       | false=>simp (disch:=omega) only [↓pq,ps,pz,↓reduceIte,reduceLE,reduceLT,reduceEq,reduceGT,reduceGE,reduceAdd,reduceSub,reduceMul,reduceNeg,zY_,zR_,zX_,zV_,zU_,zW_,hu',hj,hU,ho,k1,k2,decide_true,Bool.true_and,Bool.false_eq_true]
      ·simp (disch:=omega) only [↓pq,ps,pz,↓reduceIte,reduceLE,reduceLT,reduceEq,reduceGT,reduceGE,reduceAdd,reduceSub,reduceMul,reduceNeg,zY_,zR_,zX_,zV_,zU_,zW_,hu',hj,hU,ho,k1,decide_false,Bool.false_and,Bool.false_eq_true]
     ·intro e s he
      have hp:=aiw_ d (gt A (j:Int)) 1 ((i:Int)+1) 0 1 e 0 false (by omega) hd.near (by omega)
      simp (disch:=omega) only [↓pq,ps,pz,↓reduceIte,reduceLE,reduceLT,reduceEq,reduceGT,reduceGE,reduceAdd,reduceSub,reduceMul,reduceNeg,zY_,zR_,zX_,zV_,zU_,zW_,hfin,hp]
    ·intro d q' hd
     simp (disch:=omega) only [↓pq,ps,pz,↓reduceIte,reduceLE,reduceLT,reduceEq,reduceGT,reduceGE,reduceAdd,reduceSub,reduceMul,reduceNeg,zY_,zR_,zX_,zV_,zU_,zW_,]
   ·rw [if_neg hu]
    refine uF_ (fun k=>[.l (c.map eRcd),ii k]) 0 rfl (zc_ (by omega)) ?_ ?_
    ·intro k hk;omega
    ·intro s
     by_cases h0:(0:Int) < A.length
     ·simp (disch:=omega) only [↓pq,ps,pz,↓reduceIte,reduceLE,reduceLT,reduceEq,reduceGT,reduceGE,reduceAdd,reduceSub,reduceMul,reduceNeg,zY_,zR_,zX_,zV_,zU_,zW_,h0,hu,hU,Bool.false_eq_true]
     ·simp (disch:=omega) only [↓pq,ps,pz,↓reduceIte,reduceLE,reduceLT,reduceEq,reduceGT,reduceGE,reduceAdd,reduceSub,reduceMul,reduceNeg,zY_,zR_,zX_,zV_,zU_,zW_,h0]
  ·intro c q hc
   simp (disch:=omega) only [↓pq,ps,pz,↓reduceIte,reduceLE,reduceLT,reduceEq,reduceGT,reduceGE,reduceAdd,reduceSub,reduceMul,reduceNeg,zY_,zR_,zX_,zV_,zU_,zW_,hfin]
   refine zp_ ts (fun j c=>[.l (c.map eRcd),ii j]) (ju_ U) (fun c=>some [T.l (((List.range 3).foldl (jv_ n ls U) c).map eRcd),bb true]) c (fun j c=>Sto j c) rfl (zc_ (by omega)) hc ?_ ?_
   ·intro j d hj hd
    have hto:=anq_ hT (z1_ (l:=ts) (n:=(j:Int)) (by omega) hj)
    refine ⟨ai1_ n1.2 hto hd,fun q=>?_⟩
    have hdl:=hd.len
    have hp:=aiw_ d 9 3 (gt ts (j:Int)).owner (gt ts (j:Int)).key 1 [] (gt ts (j:Int)).cost (gt ts (j:Int)).far (by omega) hd.near (by simp)
    rw [List.map_nil] at hp
    unfold ju_
    by_cases hu:gt U ((gt ts (j:Int)).owner - 1)=true
    ·rw [if_pos hu]
     simp (disch:=omega) only [↓pq,ps,pz,↓reduceIte,reduceLE,reduceLT,reduceEq,reduceGT,reduceGE,reduceAdd,reduceSub,reduceMul,reduceNeg,zY_,zR_,zX_,zV_,zU_,zW_,hj,hu,hU,hp]
     rfl
    ·rw [if_neg hu]
     simp (disch:=omega) only [↓pq,ps,pz,↓reduceIte,reduceLE,reduceLT,reduceEq,reduceGT,reduceGE,reduceAdd,reduceSub,reduceMul,reduceNeg,zY_,zR_,zX_,zV_,zU_,zW_,hj,hu,hU,Bool.false_eq_true]
   ·intro d q hd
    simp (disch:=omega) only [↓pq,ps,pz,↓reduceIte,reduceLE,reduceLT,reduceEq,reduceGT,reduceGE,reduceAdd,reduceSub,reduceMul,reduceNeg,zY_,zR_,zX_,zV_,zU_,zW_,]
    refine yE_ 3 (fun i c=>[.l (c.map eRcd),ii i]) (jv_ n ls U) (fun c=>some [T.l (c.map eRcd),bb true]) d (fun _ c=>Sto 4 c) rfl (zc_ (by omega)) (hd.mono (by omega)) ?_ ?_
    ·intro r d hr hd
     have hr':(r:Int) < 3:=by omega
     refine ⟨aij_ n1.2 hd,fun q=>?_⟩
     simp (disch:=omega) only [↓pq,ps,pz,↓reduceIte,reduceLE,reduceLT,reduceEq,reduceGT,reduceGE,reduceAdd,reduceSub,reduceMul,reduceNeg,zY_,zR_,zX_,zV_,zU_,zW_,hr']
     unfold jv_
     refine yE_ n.toNat (fun i c=>[.l (c.map eRcd),ii (i+1)]) (aik_ ls U) (fun c=>q [.l (c.map eRcd),ii ((r:Int)+1)]) d (fun _ c=>Sto 4 c) rfl (zc_ (by omega)) hd ?_ ?_
     ·intro i e hi he
      have hi':(i:Int)+1≤n:=by omega
      refine ⟨akt_ n1.2 (by omega) he,fun q'=>?_⟩
      have hin:=ave_ e (yP_ ls ((i:Int)+1)) ((i:Int)+1) (he.mono (by omega)) (wo_ ls _)
      unfold aik_
      by_cases hu:gt U ((i:Int)+1 - 1)=true
      ·rw [if_pos hu]
       cases hb:w0_ ls ((i:Int)+1) with
       | true=>simp (disch:=omega) only [↓pq,ps,pz,↓reduceIte,reduceLE,reduceLT,reduceEq,reduceGT,reduceGE,reduceAdd,reduceSub,reduceMul,reduceNeg,zY_,zR_,zX_,zV_,zU_,zW_,hi',hu,hU,abh_ _ _ _ _ _ hA hl,jn_ _ _ _ _ _ hA hl,hb,hin]
       | false=>simp (disch:=omega) only [↓pq,ps,pz,↓reduceIte,reduceLE,reduceLT,reduceEq,reduceGT,reduceGE,reduceAdd,reduceSub,reduceMul,reduceNeg,zY_,zR_,zX_,zV_,zU_,zW_,hi',hu,hU,abh_ _ _ _ _ _ hA hl,hb,Bool.false_eq_true]
      ·rw [if_neg hu]
       simp (disch:=omega) only [↓pq,ps,pz,↓reduceIte,reduceLE,reduceLT,reduceEq,reduceGT,reduceGE,reduceAdd,reduceSub,reduceMul,reduceNeg,zY_,zR_,zX_,zV_,zU_,zW_,hi',hu,hU,Bool.false_eq_true]
     ·intro e q' he
      simp (disch:=omega) only [↓pq,ps,pz,↓reduceIte,reduceLE,reduceLT,reduceEq,reduceGT,reduceGE,reduceAdd,reduceSub,reduceMul,reduceNeg,zY_,zR_,zX_,zV_,zU_,zW_,hfin]
    ·intro d q hd
     have hdl:=hd.len
     simp (disch:=omega) only [↓pq,ps,pz,↓reduceIte,reduceLE,reduceLT,reduceEq,reduceGT,reduceGE,reduceAdd,reduceSub,reduceMul,reduceNeg,zY_,zR_,zX_,zV_,zU_,zW_,aqy_ d (by omega) hd.near]
 ·rw [if_neg hi]
  rw [ass_];simp (disch:=omega) only [↓pq,ps,pz,↓reduceIte,reduceLE,reduceLT,reduceEq,reduceGT,reduceGE,reduceAdd,reduceSub,reduceMul,reduceNeg,zY_,zR_,zX_,zV_,zU_,zW_,aeg_,ak0_ _ _ _ h1 h2]
  cases hN:w8_ ⟨n,ls,ts⟩ with
  | false=>simp (disch:=omega) only [↓pq,ps,pz,↓reduceIte,reduceLE,reduceLT,reduceEq,reduceGT,reduceGE,reduceAdd,reduceSub,reduceMul,reduceNeg,zY_,zR_,zX_,zV_,zU_,zW_,Bool.false_eq_true]
  | true =>
   by_cases hL:(L.length:Int)=ls.length
   ·by_cases hU:(U.length:Int)=n
    ·exact absurd (by unfold qn_;rw [hN];simp [hL,hU]) hi
    ·simp (disch:=omega) only [↓pq,ps,pz,↓reduceIte,reduceLE,reduceLT,reduceEq,reduceGT,reduceGE,reduceAdd,reduceSub,reduceMul,reduceNeg,zY_,zR_,zX_,zV_,zU_,zW_,hL,hU]
   ·simp (disch:=omega) only [↓pq,ps,pz,↓reduceIte,reduceLE,reduceLT,reduceEq,reduceGT,reduceGE,reduceAdd,reduceSub,reduceMul,reduceNeg,zY_,zR_,zX_,zV_,zU_,zW_,hL]
def xy_ (x:Net) (L U:List Bool) (v:Int):List Route :=
 if qn_ x L U=true∧(1≤v∧v≤x.n)∧gt U (v - 1)=true then qp_ (adj_ x L U) (yP_ x.links v) (w0_ x.links v) v else []
theorem ard_ (n:Int) (ls:List Link) (ts:List Thing) (L U:List Bool) (v:Int) (h1:ls.length≤1048576) (h2:ts.length≤1048576):vk_ [ii n,.l (ls.map zu_),.l (ts.map zt_),.l (L.map zC_),.l (U.map zC_),ii v]=some [.l ((xy_ ⟨n,ls,ts⟩ L U v).map zI_)]:=by
 have hI:=aMt_ n ls ts L U h1 h2
 by_cases hi:qn_ ⟨n,ls,ts⟩ L U=true
 ·rw [if_pos hi] at hI
  obtain ⟨hN,hL,hU⟩:=aa2_ hi
  obtain ⟨n1,hl,ht,hA,hT⟩:=aap_ hN
  have hs:=at2_ (L:=L) (U:=U) hN
  simp only at hL hU n1 hl ht hA hT
  have hsl:=hs.len
  have hal:=wo_ ls v
  rw [af6_];simp (disch:=omega) only [↓pq,ps,pz,↓reduceIte,reduceLE,reduceLT,reduceEq,reduceGT,reduceGE,reduceAdd,reduceSub,reduceMul,reduceNeg,qF_,hI,hU,jk_]
  by_cases hv:1≤v∧v≤n
  ·rw [show inB v 1 n=true from inB_iff.2 hv]
   by_cases hu:gt U (v - 1)=true
   ·rw [show xy_ ⟨n,ls,ts⟩ L U v=_ from if_pos ⟨hi,hv,hu⟩]
    simp (disch:=omega) only [↓pq,ps,pz,↓reduceIte,reduceLE,reduceLT,reduceEq,reduceGT,reduceGE,reduceAdd,reduceSub,reduceMul,reduceNeg,hU,hu,jl_ _ _ _ _ _ hA hl,aaz_ _ _ _ _ _ hA hl,ale_ (adj_ ⟨n,ls,ts⟩ L U) (yP_ ls v) (w0_ ls v) v (by omega) hs.near (hs.ok (by omega)) (by omega)]
   ·rw [show xy_ ⟨n,ls,ts⟩ L U v=_ from if_neg fun h=>hu h.2.2]
    simp (disch:=omega) only [↓pq,ps,pz,↓reduceIte,reduceLE,reduceLT,reduceEq,reduceGT,reduceGE,reduceAdd,reduceSub,reduceMul,reduceNeg,hU,hu,Bool.false_eq_true]
    rfl
  ·rw [show xy_ ⟨n,ls,ts⟩ L U v=_ from if_neg fun h=>hv h.2.1,show inB v 1 n=false from by cases hb:inB v 1 n with | false=>rfl | true=>exact absurd (inB_iff.1 hb) hv]
   simp (disch:=omega) only [↓pq,ps,pz,↓reduceIte,reduceLE,reduceLT,reduceEq,reduceGT,reduceGE,reduceAdd,reduceSub,reduceMul,reduceNeg,Bool.false_eq_true]
   rfl
 ·rw [if_neg hi] at hI
  rw [show xy_ ⟨n,ls,ts⟩ L U v=_ from if_neg fun h=>hi h.1]
  rw [af6_];simp (disch:=omega) only [↓pq,ps,pz,↓reduceIte,reduceLE,reduceLT,reduceEq,reduceGT,reduceGE,reduceAdd,reduceSub,reduceMul,reduceNeg,qF_,hI,Bool.false_eq_true]
  rfl
theorem arf_ (n:Int) (ls:List Link) (ts:List Thing) (L U:List Bool) (v:Int) (h1:ls.length≤1048576) (h2:ts.length≤1048576):vj_ [ii n,.l (ls.map zu_),.l (ts.map zt_),.l (L.map zC_),.l (U.map zC_),ii v]=some [.l ((xy_ ⟨n,ls,ts⟩ L U v).map zI_)]:=by
 have hI:=aNo_ n ls ts L U h1 h2
 by_cases hi:qn_ ⟨n,ls,ts⟩ L U=true
 ·rw [if_pos hi] at hI
  obtain ⟨hN,hL,hU⟩:=aa2_ hi
  obtain ⟨n1,hl,ht,hA,hT⟩:=aap_ hN
  have hs:=at2_ (L:=L) (U:=U) hN
  simp only at hL hU n1 hl ht hA hT
  have hsl:=hs.len
  have hal:=wo_ ls v
  rw [afu_];simp (disch:=omega) only [↓pq,ps,pz,↓reduceIte,reduceLE,reduceLT,reduceEq,reduceGT,reduceGE,reduceAdd,reduceSub,reduceMul,reduceNeg,q9_,hI,hU,vf_]
  by_cases hv:1≤v∧v≤n
  ·rw [show inB v 1 n=true from inB_iff.2 hv]
   by_cases hu:gt U (v - 1)=true
   ·rw [show xy_ ⟨n,ls,ts⟩ L U v=_ from if_pos ⟨hi,hv,hu⟩]
    simp (disch:=omega) only [↓pq,ps,pz,↓reduceIte,reduceLE,reduceLT,reduceEq,reduceGT,reduceGE,reduceAdd,reduceSub,reduceMul,reduceNeg,hU,hu,jn_ _ _ _ _ _ hA hl,abh_ _ _ _ _ _ hA hl,aj2_ (adj_ ⟨n,ls,ts⟩ L U) (yP_ ls v) (w0_ ls v) v (by omega) hs.near (hs.ok (by omega)) (by omega)]
   ·rw [show xy_ ⟨n,ls,ts⟩ L U v=_ from if_neg fun h=>hu h.2.2]
    simp (disch:=omega) only [↓pq,ps,pz,↓reduceIte,reduceLE,reduceLT,reduceEq,reduceGT,reduceGE,reduceAdd,reduceSub,reduceMul,reduceNeg,hU,hu,Bool.false_eq_true]
    rfl
  ·rw [show xy_ ⟨n,ls,ts⟩ L U v=_ from if_neg fun h=>hv h.2.1,show inB v 1 n=false from by cases hb:inB v 1 n with | false=>rfl | true=>exact absurd (inB_iff.1 hb) hv]
   simp (disch:=omega) only [↓pq,ps,pz,↓reduceIte,reduceLE,reduceLT,reduceEq,reduceGT,reduceGE,reduceAdd,reduceSub,reduceMul,reduceNeg,Bool.false_eq_true]
   rfl
 ·rw [if_neg hi] at hI
  rw [show xy_ ⟨n,ls,ts⟩ L U v=_ from if_neg fun h=>hi h.1]
  rw [afu_];simp (disch:=omega) only [↓pq,ps,pz,↓reduceIte,reduceLE,reduceLT,reduceEq,reduceGT,reduceGE,reduceAdd,reduceSub,reduceMul,reduceNeg,q9_,hI,Bool.false_eq_true]
  rfl
end Go.Proofs.YtiebbbmibbkpcaaGreatC
