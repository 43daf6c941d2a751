/- Routes within areas, by both programs. Conditions: none. -/
import Derived.Test.YtjimmglpkndemaaGreatXSK
namespace Go.Proofs.YtjimmglpkndemaaGreatC
open Int renaming reduceLE → Q0_, reduceLT → Q1_, reduceEq → Q2_, reduceGT → Q3_, reduceGE → Q4_, reduceAdd → Q5_, reduceSub → Q6_, reduceMul → Q7_, reduceNeg → Q8_
set_option linter.unusedVariables false
set_option linter.unusedSimpArgs false
theorem apw_ {s:List Rcd} (hs:ze_ s=true) (ar fr:Int):∀ k W D,DInv fr W D→∃ D',DInv fr (dij s ar fr k W D) D'
 | 0,W,D,h=>⟨D,h⟩
 | k+1,W,D,h=>by
  unfold dij
  by_cases hb:best W D=0
  ·rw [if_pos hb];exact ⟨D,h⟩
  ·rw [if_neg hb];exact apw_ hs ar fr k _ _ (h.step hs ar hb)
theorem waysIn_ok {s:List Rcd} {ar fr:Int}:(waysIn s ar fr).Pairwise (fun a b=>a.to < b.to)∧(waysIn s ar fr).length≤7∧∀ w∈waysIn s ar fr,(1≤w.to∧w.to≤6)∧zs_ w.hops∧0≤w.cost∧w.cost≤6000:=by
 unfold waysIn
 by_cases hc:ze_ s=true∧inB fr 1 6=true∧0≤zT_ s ar fr
 ·rw [if_pos hc]
  obtain ⟨D,hI⟩:=apw_ hc.1 ar fr 6 (W0 fr) [] (DInv.start (inB_iff.1 hc.2.1))
  have hD:=hI.len
  have hl:=hI.ok.len
  have key:∀ i,(hi:i < (dij s ar fr 6 (W0 fr) []).length)→(dij s ar fr 6 (W0 fr) [])[i].to≠0→(dij s ar fr 6 (W0 fr) [])[i].to=(i:Int)∧1≤i:=by
   intro i hi h0
   have:=(hI.ok.to (i:Int) (by omega) (by omega))
   rw [zm_ hi] at this
   have:=this.resolve_left h0
   exact ⟨this,by omega⟩
  refine ⟨?_,Nat.le_trans (aFi_ _) (by omega),fun w hw=>?_⟩
  ·have hp:(dij s ar fr 6 (W0 fr) []).Pairwise fun a b=>a.to≠0→b.to≠0→a.to < b.to:=by
    rw [List.pairwise_iff_getElem]
    intro i j hi hj hij h1 h2
    rw [(key i hi h1).1,(key j hj h2).1];omega
   unfold qV_
   have hp2:=hp.filter (fun w=>!(w.to == 0))
   refine hp2.imp_of_mem fun {a b} ha hb hab=>hab ?_ ?_
   ·have:=(List.mem_filter.1 ha).2;simpa using this
   ·have:=(List.mem_filter.1 hb).2;simpa using this
  ·obtain ⟨h1,h2⟩:=List.mem_filter.1 hw
   have h2:w.to≠0:=by simpa using h2
   obtain ⟨i,hi,rfl⟩:=List.mem_iff_getElem.1 h1
   obtain ⟨h3,h4⟩:=key i hi h2
   have h5:=hI.ok.hops (i:Int) (by omega) (by omega)
   have h6:=hI.ok.cost (i:Int) (by omega) (by omega)
   rw [zm_ hi] at h5 h6
   exact ⟨by omega,h5,by omega⟩
 ·rw [if_neg hc];simp
theorem aNi_ (l:List Way) (w:Way) (i:Nat) (q:Sem1) (hasc:l.Pairwise fun a b=>a.to < b.to) (hlen:l.length≤6) (hl:∀ x∈l,zs_ x.hops) (hw:zs_ w.hops) (hi:i≤1048576) (x:T) :
  iter (yr_ yN_ yF_ (.l (l.map eWay)) (ii i) x (ii w.to) (ii w.cost) (.l (w.hops.map eInt)) q) rounds [ii 0]=q [.l ((aax_ l w).map eWay),ii (i+1),x]:=by
 have hle:=akw_ l w.to
 have hsp:=aau_ hasc w.to
 have hwl:=xC_ hw
 refine wi_ (fun k=>[ii k]) (cntW l w.to) rfl (za_ (by omega)) ?_ ?_
 ·intro k hk q'
  have hk1:(k:Int) < l.length:=by omega
  have hk2:(gt l (k:Int)).to < w.to:=by rw [zm_ (by omega)];exact (hsp k (by omega)).2 (by omega)
  simp (disch:=omega) only [↓pq,↓pj,ps,pz,↓reduceIte,Q0_,Q1_,Q2_,Q3_,Q4_,Q5_,Q6_,Q7_,Q8_,yr_,yH_,yG_,hk1,hk2]
 ·intro q'
  have ht:((cntW l w.to:Nat):Int).toNat=cntW l w.to:=Int.toNat_natCast _
  have hcp:=u6_ w.to w.cost w.hops (by omega)
  have hk3:=apl_ (enc:=eWay) (fun _=>rfl) hle
  have hk4:=ap8_ (enc:=eWay) (fun _=>rfl) hle
  unfold aax_
  by_cases hlt:cntW l w.to < l.length
  ·have hk1:((cntW l w.to:Nat):Int) < l.length:=by omega
   have hk2:¬ ((gt l ((cntW l w.to:Nat):Int)).to < w.to):=by rw [zm_ hlt];intro hc;have:=(hsp _ hlt).1 hc;omega
   have hho:=hl _ (zS_ (l:=l) (n:=((cntW l w.to:Nat):Int)) (by omega) hk1)
   by_cases he:(gt l ((cntW l w.to:Nat):Int)).to=w.to
   ·rw [if_pos ⟨hlt,he⟩]
    have hT:=qv_ (gt l ((cntW l w.to:Nat):Int)).to (gt l ((cntW l w.to:Nat):Int)).cost (gt l ((cntW l w.to:Nat):Int)).hops w.to w.cost w.hops hho hw
    rw [he] at hT
    have hw2:∀ (x:Way) (n:Int),x.to=n→(⟨n,x.cost,x.hops⟩:Way)=x:=by intro x n h;subst h;rfl
    rw [hw2 _ _ he] at hT
    simp (disch:=omega) only [↓pq,↓pj,ps,pz,↓reduceIte,Q0_,Q1_,Q2_,Q3_,Q4_,Q5_,Q6_,Q7_,Q8_,yr_,yH_,yG_,hk1,hk2,he,hT,eWay,uK_,ht]
   ·rw [if_neg (fun h=>he h.2)]
    simp (disch:=omega) only [↓pq,↓pj,ps,pz,↓reduceIte,Q0_,Q1_,Q2_,Q3_,Q4_,Q5_,Q6_,Q7_,Q8_,yr_,yH_,yG_,hk1,hk2,he,hcp,ht,hk3,hk4]
    simp only [wl_ (show (l.take (cntW l w.to)).length < 4294967296 by simp;omega),wN_ (show (l.take (cntW l w.to)).length < 4294967295 by simp;omega),zd_,hk4]
    rw [wG_ (by simp;omega),zd_,List.append_assoc]
  ·have hk1:¬ (((cntW l w.to:Nat):Int) < l.length):=by omega
   rw [if_neg (fun h=>hlt h.1)]
   simp (disch:=omega) only [↓pq,↓pj,ps,pz,↓reduceIte,Q0_,Q1_,Q2_,Q3_,Q4_,Q5_,Q6_,Q7_,Q8_,yr_,yH_,yG_,hk1,hcp,ht,hk3,hk4]
   simp only [wl_ (show (l.take (cntW l w.to)).length < 4294967296 by simp;omega),wN_ (show (l.take (cntW l w.to)).length < 4294967295 by simp;omega),zd_,hk4]
   rw [wG_ (by simp;omega),zd_,List.append_assoc]
theorem aKq_ (l:List Way) (w:Way) (i:Nat) (q:Sem1) (hasc:l.Pairwise fun a b=>a.to < b.to) (hlen:l.length≤6) (hl:∀ x∈l,zs_ x.hops) (hw:zs_ w.hops) (hi:i≤1048576) :
  iter (zg_ yN_ yF_ (.l (l.map eWay)) (ii i) (ii w.to) (.l (w.hops.map eInt)) (ii w.cost) q) rounds [ii 0]=q [.l ((aax_ l w).map eWay),ii (i+1)]:=by
 have hle:=akw_ l w.to
 have hsp:=aau_ hasc w.to
 have hwl:=xC_ hw
 refine wi_ (fun k=>[ii k]) (cntW l w.to) rfl (za_ (by omega)) ?_ ?_
 ·intro k hk q'
  have hk1:(k:Int) < l.length:=by omega
  have hk2:(gt l (k:Int)).to < w.to:=by rw [zm_ (by omega)];exact (hsp k (by omega)).2 (by omega)
  simp (disch:=omega) only [↓pq,↓pj,ps,pz,↓reduceIte,Q0_,Q1_,Q2_,Q3_,Q4_,Q5_,Q6_,Q7_,Q8_,zg_,zh_,zi_,hk1,hk2]
 ·intro q'
  have ht:((cntW l w.to:Nat):Int).toNat=cntW l w.to:=Int.toNat_natCast _
  have hcp:=u6_ w.to w.cost w.hops (by omega)
  have hk3:=apl_ (enc:=eWay) (fun _=>rfl) hle
  have hk4:=ap8_ (enc:=eWay) (fun _=>rfl) hle
  unfold aax_
  by_cases hlt:cntW l w.to < l.length
  ·have hk1:((cntW l w.to:Nat):Int) < l.length:=by omega
   have hk2:¬ ((gt l ((cntW l w.to:Nat):Int)).to < w.to):=by rw [zm_ hlt];intro hc;have:=(hsp _ hlt).1 hc;omega
   have hho:=hl _ (zS_ (l:=l) (n:=((cntW l w.to:Nat):Int)) (by omega) hk1)
   by_cases he:(gt l ((cntW l w.to:Nat):Int)).to=w.to
   ·rw [if_pos ⟨hlt,he⟩]
    have hT:=qv_ (gt l ((cntW l w.to:Nat):Int)).to (gt l ((cntW l w.to:Nat):Int)).cost (gt l ((cntW l w.to:Nat):Int)).hops w.to w.cost w.hops hho hw
    rw [he] at hT
    have hw2:∀ (x:Way) (n:Int),x.to=n→(⟨n,x.cost,x.hops⟩:Way)=x:=by intro x n h;subst h;rfl
    rw [hw2 _ _ he] at hT
    simp (disch:=omega) only [↓pq,↓pj,ps,pz,↓reduceIte,Q0_,Q1_,Q2_,Q3_,Q4_,Q5_,Q6_,Q7_,Q8_,zg_,zh_,zi_,hk1,hk2,he,hT,eWay,uK_,ht]
   ·rw [if_neg (fun h=>he h.2)]
    simp (disch:=omega) only [↓pq,↓pj,ps,pz,↓reduceIte,Q0_,Q1_,Q2_,Q3_,Q4_,Q5_,Q6_,Q7_,Q8_,zg_,zh_,zi_,hk1,hk2,he,hcp,ht,hk3,hk4]
    simp only [wl_ (show (l.take (cntW l w.to)).length < 4294967296 by simp;omega),wN_ (show (l.take (cntW l w.to)).length < 4294967295 by simp;omega),zd_,hk4]
    rw [wG_ (by simp;omega),zd_,List.append_assoc]
  ·have hk1:¬ (((cntW l w.to:Nat):Int) < l.length):=by omega
   rw [if_neg (fun h=>hlt h.1)]
   simp (disch:=omega) only [↓pq,↓pj,ps,pz,↓reduceIte,Q0_,Q1_,Q2_,Q3_,Q4_,Q5_,Q6_,Q7_,Q8_,zg_,zh_,zi_,hk1,hcp,ht,hk3,hk4]
   simp only [wl_ (show (l.take (cntW l w.to)).length < 4294967296 by simp;omega),wN_ (show (l.take (cntW l w.to)).length < 4294967295 by simp;omega),zd_,hk4]
   rw [wG_ (by simp;omega),zd_,List.append_assoc]
theorem aJ7_ (l:List Way) (w:Way) (i:Nat) (q:Sem1) (hasc:l.Pairwise fun a b=>a.to < b.to) (hlen:l.length≤6) (hl:∀ x∈l,zs_ x.hops) (hw:zs_ w.hops) (hi:i≤1048576) :
  iter (zh_ yN_ yF_ (.l (l.map eWay)) (ii i) (ii w.to) (.l (w.hops.map eInt)) (ii w.cost) q) rounds [ii 0]=q [.l ((aax_ l w).map eWay),ii (i+1)]:=by
 have hle:=akw_ l w.to
 have hsp:=aau_ hasc w.to
 have hwl:=xC_ hw
 refine wi_ (fun k=>[ii k]) (cntW l w.to) rfl (za_ (by omega)) ?_ ?_
 ·intro k hk q'
  have hk1:(k:Int) < l.length:=by omega
  have hk2:(gt l (k:Int)).to < w.to:=by rw [zm_ (by omega)];exact (hsp k (by omega)).2 (by omega)
  simp (disch:=omega) only [↓pq,↓pj,ps,pz,↓reduceIte,Q0_,Q1_,Q2_,Q3_,Q4_,Q5_,Q6_,Q7_,Q8_,zg_,zh_,zi_,hk1,hk2]
 ·intro q'
  have ht:((cntW l w.to:Nat):Int).toNat=cntW l w.to:=Int.toNat_natCast _
  have hcp:=u6_ w.to w.cost w.hops (by omega)
  have hk3:=apl_ (enc:=eWay) (fun _=>rfl) hle
  have hk4:=ap8_ (enc:=eWay) (fun _=>rfl) hle
  unfold aax_
  by_cases hlt:cntW l w.to < l.length
  ·have hk1:((cntW l w.to:Nat):Int) < l.length:=by omega
   have hk2:¬ ((gt l ((cntW l w.to:Nat):Int)).to < w.to):=by rw [zm_ hlt];intro hc;have:=(hsp _ hlt).1 hc;omega
   have hho:=hl _ (zS_ (l:=l) (n:=((cntW l w.to:Nat):Int)) (by omega) hk1)
   by_cases he:(gt l ((cntW l w.to:Nat):Int)).to=w.to
   ·rw [if_pos ⟨hlt,he⟩]
    have hT:=qv_ (gt l ((cntW l w.to:Nat):Int)).to (gt l ((cntW l w.to:Nat):Int)).cost (gt l ((cntW l w.to:Nat):Int)).hops w.to w.cost w.hops hho hw
    rw [he] at hT
    have hw2:∀ (x:Way) (n:Int),x.to=n→(⟨n,x.cost,x.hops⟩:Way)=x:=by intro x n h;subst h;rfl
    rw [hw2 _ _ he] at hT
    simp (disch:=omega) only [↓pq,↓pj,ps,pz,↓reduceIte,Q0_,Q1_,Q2_,Q3_,Q4_,Q5_,Q6_,Q7_,Q8_,zg_,zh_,zi_,hk1,hk2,he,hT,eWay,uK_,ht]
   ·rw [if_neg (fun h=>he h.2)]
    simp (disch:=omega) only [↓pq,↓pj,ps,pz,↓reduceIte,Q0_,Q1_,Q2_,Q3_,Q4_,Q5_,Q6_,Q7_,Q8_,zg_,zh_,zi_,hk1,hk2,he,hcp,ht,hk3,hk4]
    simp only [wl_ (show (l.take (cntW l w.to)).length < 4294967296 by simp;omega),wN_ (show (l.take (cntW l w.to)).length < 4294967295 by simp;omega),zd_,hk4]
    rw [wG_ (by simp;omega),zd_,List.append_assoc]
  ·have hk1:¬ (((cntW l w.to:Nat):Int) < l.length):=by omega
   rw [if_neg (fun h=>hlt h.1)]
   simp (disch:=omega) only [↓pq,↓pj,ps,pz,↓reduceIte,Q0_,Q1_,Q2_,Q3_,Q4_,Q5_,Q6_,Q7_,Q8_,zg_,zh_,zi_,hk1,hcp,ht,hk3,hk4]
   simp only [wl_ (show (l.take (cntW l w.to)).length < 4294967296 by simp;omega),wN_ (show (l.take (cntW l w.to)).length < 4294967295 by simp;omega),zd_,hk4]
   rw [wG_ (by simp;omega),zd_,List.append_assoc]
def cand (s:List Rcd) (areas:List Int) (fr:Int):List Way:=areas.flatMap fun a=>waysIn s a fr
theorem abb_ {s:List Rcd} {areas:List Int} {fr:Int}:∀ w∈cand s areas fr,(1≤w.to∧w.to≤6)∧zs_ w.hops∧0≤w.cost∧w.cost≤6000:=by
 intro w hw
 unfold cand at hw
 obtain ⟨a,_,h⟩:=List.mem_flatMap.1 hw
 exact waysIn_ok.2.2 w h
theorem kb_ {α β:Type} (f:α→List β) (l:List α) (c:List β):l.foldl (fun c a=>c++f a) c=c++l.flatMap f:=by
 induction l generalizing c with
 | nil=>simp
 | cons a l ih=>rw [List.foldl_cons,ih];simp
theorem af9_ {α:Type} (l c:List α):l.foldl (fun c a=>c++[a]) c=c++l:=by
 induction l generalizing c with
 | nil=>simp
 | cons a l ih=>rw [List.foldl_cons,ih];simp
theorem ako_ {α β:Type} (f:α→Option β) (l:List α):l.flatMap (fun a=>(f a).toList)=l.filterMap f:=by
 induction l with
 | nil=>rfl
 | cons a l ih=>rw [List.flatMap_cons,List.filterMap_cons,ih];cases f a <;> rfl
def within (s:List Rcd) (areas:List Int) (fr:Int):List Way:=wlst (cand s areas fr)
theorem abz_ (s:List Rcd) (areas:List Int) (fr:Int) (h:s.length≤1048576) (hn:NearL s) (ha:areas.length≤1048576):xB_ [.l (s.map eRcd),.l (areas.map eInt),ii fr]=some [.l ((within s areas fr).map eWay)]:=by
 rw [amh_];simp (disch:=omega) only [↓pq,↓pj,ps,pz,↓reduceIte,Q0_,Q1_,Q2_,Q3_,Q4_,Q5_,Q6_,Q7_,Q8_,yr_,yH_,yG_,js_]
 refine (zj_ areas (fun j C=>[.l ((wlst C).map eWay),ii j]) (fun C a=>C++waysIn s a fr) (fun C=>some [T.l ((wlst C).map eWay)]) [] (fun _ C=>∀ x∈C,zs_ x.hops) rfl (za_ ha) (by simp) ?_ ?_).trans (by rw [kb_,List.nil_append];rfl)
 ·intro j C hj hC
  obtain ⟨w1,w2,w3⟩:=waysIn_ok (s:=s) (ar:=gt areas j) (fr:=fr)
  refine ⟨fun x hx=>(List.mem_append.1 hx).elim (hC x) fun hx=>(w3 x hx).2.1,fun q=>?_⟩
  simp (disch:=omega) only [↓pq,↓pj,ps,pz,↓reduceIte,Q0_,Q1_,Q2_,Q3_,Q4_,Q5_,Q6_,Q7_,Q8_,yr_,yH_,yG_,hj,ag0_ _ _ _ h hn]
  refine (zj_ (waysIn s (gt areas j) fr) (fun i C=>[.l ((wlst C).map eWay),ii i,.l ((waysIn s (gt areas j) fr).map eWay)]) (fun C w=>C++[w]) (fun C=>q [T.l ((wlst C).map eWay),ii (j+1)]) C (fun _ C=>∀ x∈C,zs_ x.hops) rfl (za_ (by omega)) hC ?_ ?_).trans (by rw [af9_])
  ·intro i C hi hC
   have hw:=w3 _ (zS_ (n:=i) (by omega) hi)
   refine ⟨fun x hx=>(List.mem_append.1 hx).elim (hC x) fun hx=>by rw [List.mem_singleton] at hx;subst hx;exact hw.2.1,fun q'=>?_⟩
   simp (disch:=omega) only [↓pq,↓pj,ps,pz,↓reduceIte,Q0_,Q1_,Q2_,Q3_,Q4_,Q5_,Q6_,Q7_,Q8_,yr_,yH_,yG_,hi]
   rw [aNi_ (wlst C) (gt (waysIn s (gt areas j) fr) i) i q' (abt_ C hC) (abm_ C) (fun x hx=>(jI_ hC hx).1) hw.2.1 (by omega) _,ang_ hC hw.1 hw.2.1]
  ·intro C q' hC
   simp (disch:=omega) only [↓pq,↓pj,ps,pz,↓reduceIte,Q0_,Q1_,Q2_,Q3_,Q4_,Q5_,Q6_,Q7_,Q8_,yr_,yH_,yG_,]
 ·intro C q hC
  simp (disch:=omega) only [↓pq,↓pj,ps,pz,↓reduceIte,Q0_,Q1_,Q2_,Q3_,Q4_,Q5_,Q6_,Q7_,Q8_,yr_,yH_,yG_,]
def ahv_ (l:List Way):List T:=[.l (l.map eWay)]
theorem jL_ {l:List (List Way)} {n:Int} (h:0≤n) (h':n < l.length):Prim.ev (.cell 1 0) [.l (l.map ahv_),ii n]=some (.l ((gt l n).map eWay)):=zQ_ h (zp_ h h') rfl rfl
theorem awd_ (x:List Way):Prim.ev (.lit 1 []) [.l (x.map eWay)]=some (.l ([x].map ahv_)):=wb_ (by decide) rfl rfl
theorem aq4_ {l:List (List Way)} {x:List Way} (h:l.length < 4294967295):Prim.ev (.app false 1) [.l (l.map ahv_),.l ([x].map ahv_)]=some (.l ((l++[x]).map ahv_)):=wm_ (w:=1) (fun _=>rfl) (.inl rfl) (by unfold v9_;simp;omega)
def wayO (l:List Way) (v:Int):Option Way:=if wayP l v < 0 then none else some (gt l (wayP l v))
theorem aBv_ (l:List Way) (v:Int):wayP l v < l.length:=y9_ _ _
theorem wa_ {l:List Way} {v:Int} {w:Way} (h:wayO l v=some w):w∈l∧w.to=v:=by
 unfold wayO at h
 split at h
 ·cases h
 ·rename_i hf
  cases h
  have:=yE_ (fun w:Way=>w.to == v) l (by unfold wayP at hf;omega)
  exact ⟨zS_ (by omega) (aBv_ _ _),by simpa [wayP] using this⟩
theorem aIr_ {l:List Way} {v:Int} (h:wayO l v=none):∀ w∈l,w.to≠v:=by
 unfold wayO at h
 split at h
 ·rename_i hf
  intro w hw
  have:=(wX_ _ _).1 hf w hw
  simpa using this
 ·cases h
theorem aI7_ {l:List Way} (h:l.Pairwise fun a b=>a.to < b.to) {x y:Way} (hx:x∈l) (hy:y∈l) (e:x.to=y.to):x=y:=by
 obtain ⟨i,hi,rfl⟩:=List.mem_iff_getElem.1 hx
 obtain ⟨j,hj,rfl⟩:=List.mem_iff_getElem.1 hy
 rw [List.pairwise_iff_getElem] at h
 rcases Nat.lt_trichotomy i j with h1 | h1 | h1
 ·have:=h i j hi hj h1;omega
 ·subst h1;rfl
 ·have:=h j i hj hi h1;omega
theorem aJb_ {l:List Way} (h:l.Pairwise fun a b=>a.to < b.to) {v:Int} {w:Way}:wayO l v=some w↔w∈l∧w.to=v:=by
 refine ⟨wa_,fun ⟨h1,h2⟩=>?_⟩
 cases e:wayO l v with
 | none=>exact absurd h2 (aIr_ e w h1)
 | some w' =>
  have:=wa_ e
  rw [aI7_ h this.1 h1 (by omega)]
def stO (o:Option Way) (i:Int):List T:=match o with | none=>[bb false,ii i,ii 0,ii 0,.l []] | some b=>[bb true,ii i,ii b.to,ii b.cost,.l (b.hops.map eInt)]
theorem ab6_ (s:List Rcd) (areas:List Int) (fr:Int) (h:s.length≤1048576) (hn:NearL s) (ha:areas.length≤1048576):xA_ [.l (s.map eRcd),.l (areas.map eInt),ii fr]=some [.l ((within s areas fr).map eWay)]:=by
 have hW:=fun a=>waysIn_ok (s:=s) (ar:=a) (fr:=fr)
 rw [amj_];simp (disch:=omega) only [↓pq,↓pj,ps,pz,↓reduceIte,Q0_,Q1_,Q2_,Q3_,Q4_,Q5_,Q6_,Q7_,Q8_,yg_,yf_,ye_,jy_]
 refine zj_ areas (fun j C=>[.l (C.map ahv_),ii j]) (fun C a=>C++[waysIn s a fr]) (fun _=>some [T.l ((within s areas fr).map eWay)]) [] (fun j C=>C=(areas.take j).map (fun a=>waysIn s a fr)) rfl (za_ ha) rfl ?_ ?_
 ·intro j C hj hC
  have hl:C.length≤j:=by rw [hC];simp;omega
  refine ⟨by rw [List.take_add_one,hC,List.map_append,List.getElem?_eq_getElem (by omega),zm_ (by omega)];rfl,fun q=>?_⟩
  simp (disch:=omega) only [↓pq,↓pj,ps,pz,↓reduceIte,Q0_,Q1_,Q2_,Q3_,Q4_,Q5_,Q6_,Q7_,Q8_,yg_,yf_,ye_,hj,agf_ _ _ _ h hn,awd_,aq4_]
 ·intro C q hC
  have hC:C=areas.map (fun a=>waysIn s a fr):=by rw [hC,List.take_length]
  have hCl:C.length=areas.length:=by rw [hC,List.length_map]
  have hCg:∀ j:Nat,(j:Int) < areas.length→gt C (j:Int)=waysIn s (gt areas j) fr:=by
   intro j hj
   rw [zm_ (by omega),zm_ (by omega)]
   simp only [hC,List.getElem_map]
  simp (disch:=omega) only [↓pq,↓pj,ps,pz,↓reduceIte,Q0_,Q1_,Q2_,Q3_,Q4_,Q5_,Q6_,Q7_,Q8_,yg_,yf_,ye_,]
  refine (yV_ 6 (fun i c=>[.l (c.map eWay),ii (i+1)]) (fun c i=>c++(togs (areas.filterMap fun a=>wayO (waysIn s a fr) ((i:Int)+1))).toList) (fun c=>some [T.l (c.map eWay)]) [] (fun i c=>c.length≤i) rfl (za_ (by omega)) (by simp) ?_ ?_).trans ?_
  ·intro i c hi hc
   refine ⟨by cases togs (areas.filterMap fun a=>wayO (waysIn s a fr) ((i:Int)+1)) <;> simp <;> omega,fun q'=>?_⟩
   have hi':(i:Int)+1≤6:=by omega
   simp (disch:=omega) only [↓pq,↓pj,ps,pz,↓reduceIte,Q0_,Q1_,Q2_,Q3_,Q4_,Q5_,Q6_,Q7_,Q8_,yg_,yf_,ye_,hi']
   have hfm:∀ (l:List Int) (o:Option Way),l.foldl (fun o a=>match wayO (waysIn s a fr) ((i:Int)+1) with | none=>o | some w=>tog1 o w) o=(l.filterMap fun a=>wayO (waysIn s a fr) ((i:Int)+1)).foldl tog1 o:=by
    intro l
    induction l with
    | nil=>intro o;rfl
    | cons a l ih =>
     intro o
     rw [List.foldl_cons,List.filterMap_cons]
     cases wayO (waysIn s a fr) ((i:Int)+1) with
     | none=>exact ih o
     | some w=>exact ih _
   refine (zj_ areas (fun j o=>stO o j) (fun o a=>match wayO (waysIn s a fr) ((i:Int)+1) with | none=>o | some w=>tog1 o w) (fun o=>q' [T.l ((c++o.toList).map eWay),ii ((i:Int)+1+1)]) none (fun _ o=>∀ b,o=some b→zs_ b.hops) rfl (za_ ha) (by simp) ?_ ?_).trans (by rw [hfm];rfl)
   ·intro j o hj ho
    obtain ⟨w1,w2,w3⟩:=hW (gt areas j)
    have hlC:(j:Int) < C.length:=by omega
    have hT:=adq_ (waysIn s (gt areas j) fr) ((i:Int)+1) (by omega) (fun w hw=>by have:=xC_ (w3 w hw).2.1;omega)
    constructor
    ·intro b hb
     cases hw:wayO (waysIn s (gt areas j) fr) ((i:Int)+1) with
     | none=>rw [hw] at hb;exact ho b hb
     | some w =>
      rw [hw] at hb
      have hh:=(w3 w (wa_ hw).1).2.1
      cases o with
      | none=>simp only [tog1] at hb;cases hb;exact hh
      | some b0=>simp only [tog1] at hb;cases hb;exact awt_ (ho b0 rfl) hh
    ·intro q2
     unfold wayO
     by_cases hp:wayP (waysIn s (gt areas j) fr) ((i:Int)+1) < 0
     ·rw [if_pos hp] at hT
      cases o with
      | none=>simp only [stO];simp (disch:=omega) only [↓pq,↓pj,ps,pz,↓reduceIte,Q0_,Q1_,Q2_,Q3_,Q4_,Q5_,Q6_,Q7_,Q8_,yg_,yf_,ye_,hj,jL_,hCg j hj,hT,hp,bF_]
      | some b=>simp only [stO];simp (disch:=omega) only [↓pq,↓pj,ps,pz,↓reduceIte,Q0_,Q1_,Q2_,Q3_,Q4_,Q5_,Q6_,Q7_,Q8_,yg_,yf_,ye_,hj,jL_,hCg j hj,hT,hp,bF_]
     ·rw [if_neg hp] at hT
      have hm:=w3 _ (zS_ (l:=waysIn s (gt areas j) fr) (n:=wayP (waysIn s (gt areas j) fr) ((i:Int)+1)) (by omega) (aBv_ _ _))
      have hl1:=xC_ hm.2.1
      simp only [eWay,List.cons_append,List.nil_append] at hT
      cases o with
      | none=>simp only [stO];simp (disch:=omega) only [↓pq,↓pj,ps,pz,↓reduceIte,Q0_,Q1_,Q2_,Q3_,Q4_,Q5_,Q6_,Q7_,Q8_,yg_,yf_,ye_,hj,jL_,hCg j hj,hT,hp,bF_];rfl
      | some b =>
       have hl2:=xC_ (ho b rfl)
       simp only [stO]
       simp (disch:=omega) only [↓pq,↓pj,ps,pz,↓reduceIte,Q0_,Q1_,Q2_,Q3_,Q4_,Q5_,Q6_,Q7_,Q8_,yg_,yf_,ye_,hj,jL_,hCg j hj,hT,hp,bF_,aj1_ _ _ _ _ _ _ (show b.hops.length≤1048576 by omega) (show (gt (waysIn s (gt areas j) fr) (wayP (waysIn s (gt areas j) fr) ((i:Int)+1))).hops.length≤1048576 by omega),eWay]
       rfl
   ·intro o q2 ho
    cases o with
    | none=>simp only [stO];simp (disch:=omega) only [↓pq,↓pj,ps,pz,↓reduceIte,Q0_,Q1_,Q2_,Q3_,Q4_,Q5_,Q6_,Q7_,Q8_,yg_,yf_,ye_,bF_];simp
    | some b=>simp only [stO];simp (disch:=omega) only [↓pq,↓pj,ps,pz,↓reduceIte,Q0_,Q1_,Q2_,Q3_,Q4_,Q5_,Q6_,Q7_,Q8_,yg_,yf_,ye_,];simp
  ·intro c q' hc
   simp (disch:=omega) only [↓pq,↓pj,ps,pz,↓reduceIte,Q0_,Q1_,Q2_,Q3_,Q4_,Q5_,Q6_,Q7_,Q8_,yg_,yf_,ye_,]
  ·rw [kb_ (fun i:Nat=>(togs (areas.filterMap fun a=>wayO (waysIn s a fr) ((i:Int)+1))).toList),List.nil_append]
   congr 3
   unfold within wlst
   rw [aew_,List.filterMap_map,ako_]
   refine congrArg (fun f=>List.map eWay (List.filterMap f (List.range 6))) (funext fun i=>?_)
   show _=togs _
   refine atw_ (v:=(i:Int)+1) (fun x hx=>?_) fun x=>?_
   ·obtain ⟨a,_,hx⟩:=List.mem_filterMap.1 hx
    have:=wa_ hx
    exact ⟨this.2,((hW a).2.2 x this.1).2.1⟩
   ·rw [List.mem_filterMap,List.mem_filter]
    unfold cand
    rw [List.mem_flatMap]
    constructor
    ·rintro ⟨a,ha',hx⟩
     have:=wa_ hx
     exact ⟨⟨a,ha',this.1⟩,by simpa using this.2⟩
    ·rintro ⟨⟨a,ha',hx⟩,e⟩
     exact ⟨a,ha',(aJb_ (hW a).1).2 ⟨hx,by simpa using e⟩⟩
end Go.Proofs.YtjimmglpkndemaaGreatC
