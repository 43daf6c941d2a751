/- What a node at a w0_ tells, by both programs. Conditions: none. -/
import Derived.Test.YtiebbbmibbkpcaaGreatXSQ
namespace Go.Proofs.YtiebbbmibbkpcaaGreatC
open Int (reduceLE reduceLT reduceEq reduceGT reduceGE reduceAdd reduceSub reduceMul reduceNeg)
set_option linter.unusedVariables false
set_option linter.unusedSimpArgs false
def wq_ (area fr:Int) (w:Way):Rcd:=⟨area,2,fr,w.to,0,[],w.cost,false⟩
def vY_ (here:List Way) (fr:Int) (k:Int):Bool:=decide (wayP here k < 0) && decide (k≠fr)
def q4_ (here:List Way) (area fr:Int) (W:List Way) (k:Int):Option Rcd:=if vY_ here fr k=true then (wayO W k).map (wq_ area fr) else none
def y8_ (here:List Way) (area fr:Int) (W:List Way):List Rcd:=six.filterMap (q4_ here area fr W)
theorem jX_ {here:List Way} {area fr:Int} {W:List Way} {k:Int} {r:Rcd} (h:q4_ here area fr W k=some r):r.key=k∧r.area=area∧r.kind=2∧r.owner=fr∧r.near=[]∧r.seq=0∧r.far=false∧vY_ here fr k=true∧∃ w,wayO W k=some w∧r=wq_ area fr w:=by
 unfold q4_ at h
 split at h
 ·rename_i hc
  obtain ⟨w,hw,e⟩:=Option.map_eq_some_iff.1 h
  subst e
  exact ⟨(xQ_ hw).2,rfl,rfl,rfl,rfl,rfl,rfl,hc,w,hw,rfl⟩
 ·cases h
theorem toldB_mem {here:List Way} {area fr:Int} {W:List Way} {r:Rcd}:r∈y8_ here area fr W↔(1≤r.key∧r.key≤6)∧q4_ here area fr W r.key=some r:=by
 unfold y8_
 rw [List.mem_filterMap]
 constructor
 ·rintro ⟨k,hk,h⟩
  have:=(jX_ h).1
  subst this
  exact ⟨mem_six.1 hk,h⟩
 ·rintro ⟨h1,h2⟩
  exact ⟨r.key,mem_six.2 h1,h2⟩
theorem atf_ (here:List Way) (area fr:Int) (W:List Way):(y8_ here area fr W).Pairwise fun a b=>a.key < b.key:=by
 unfold y8_
 rw [List.pairwise_filterMap]
 refine six_asc.imp fun {a b} hab x hx y hy=>?_
 rw [(jX_ hx).1,(jX_ hy).1]
 exact hab
theorem ajs_ (here:List Way) (area fr:Int) (W:List Way):(y8_ here area fr W).length≤6:=List.length_filterMap_le _ _
theorem uI_ {here:List Way} {area fr:Int} {W:List Way} {r:Rcd} (h:r∈y8_ here area fr W):r.area=area∧r.kind=2∧r.owner=fr∧r.near=[]:=by
 have:=jX_ (toldB_mem.1 h).2
 exact ⟨this.2.1,this.2.2.1,this.2.2.2.1,this.2.2.2.2.1⟩
theorem ac6_ (here:List Way) (area fr:Int) (W:List Way):jh_ (y8_ here area fr W):=by
 unfold jh_
 refine (atf_ here area fr W).imp_of_mem fun {a b} ha hb hab=>?_
 have h1:=uI_ ha
 have h2:=uI_ hb
 rw [xE_]
 omega
theorem apr_ (here:List Way) (area fr:Int) (W:List Way):NearL (y8_ here area fr W):=fun r hr=>by
 rw [(uI_ hr).2.2.2];simp
theorem adg_ (W:List Way) (w:Way) (k:Int):wayO (W++[w]) k=(wayO W k).or (if w.to=k then some w else none):=by
 rw [aeq_]
 congr 1
 rw [aaq_]
 simp only [List.find?_cons,List.find?_nil]
 by_cases h:w.to=k
 ·simp [h]
 ·have:(w.to == k)=false:=by simpa using h
  rw [this,if_neg h]
theorem qE_ {here:List Way} {area fr:Int} {W:List Way} {w:Way} (h:vY_ here fr w.to=false∨(wayO W w.to).isSome=true):y8_ here area fr (W++[w])=y8_ here area fr W:=by
 unfold y8_
 refine congrArg (fun f=>List.filterMap f six) (funext fun k=>?_)
 unfold q4_
 by_cases hk:vY_ here fr k=true
 ·rw [if_pos hk,if_pos hk,adg_]
  by_cases e:w.to=k
  ·subst e
   rcases h with h | h
   ·rw [h] at hk;cases hk
   ·rw [Option.or_of_isSome h]
  ·rw [if_neg e,Option.or_none]
 ·rw [if_neg hk,if_neg hk]
theorem asv_ {here:List Way} {area fr:Int} {W:List Way} {w:Way} (hw:1≤w.to∧w.to≤6) (h1:vY_ here fr w.to=true) (h2:wayO W w.to=none):y8_ here area fr (W++[w])=putR (y8_ here area fr W) (wq_ area fr w):=by
 have hs:=anc_ (ac6_ here area fr W) (wq_ area fr w)
 refine aot_ Rcd.key (atf_ _ _ _ _) ?_ fun r=>?_
 ·refine hs.imp_of_mem fun {a b} ha hb hab=>?_
  have hm:∀ x,x∈putR (y8_ here area fr W) (wq_ area fr w)→x.area=area∧x.kind=2∧x.owner=fr:=by
   intro x hx
   rcases anz_ hx with rfl | hx
   ·exact ⟨rfl,rfl,rfl⟩
   ·have:=uI_ hx;exact ⟨this.1,this.2.1,this.2.2.1⟩
  have h1:=hm a ha
  have h2:=hm b hb
  rw [xE_] at hab
  omega
 ·have hp:r∈putR (y8_ here area fr W) (wq_ area fr w)↔r=wq_ area fr w∨(r∈y8_ here area fr W∧r.key≠w.to):=by
   unfold putR
   simp only [List.mem_append,List.mem_filter,List.mem_singleton]
   constructor
   ·rintro (⟨h,q⟩ | h | ⟨h,q⟩)
    ·have hx:=uI_ h
     rw [xE_] at q
     simp only [wq_] at q
     exact .inr ⟨h,by omega⟩
    ·exact .inl h
    ·have hx:=uI_ h
     rw [xE_] at q
     simp only [wq_] at q
     exact .inr ⟨h,by omega⟩
   ·rintro (h | ⟨h,q⟩)
    ·exact .inr (.inl h)
    ·have hx:=uI_ h
     rcases Int.lt_or_gt_of_ne q with q | q
     ·exact .inl ⟨h,by rw [xE_];simp only [wq_];omega⟩
     ·exact .inr (.inr ⟨h,by rw [xE_];simp only [wq_];omega⟩)
  rw [hp,toldB_mem,toldB_mem]
  unfold q4_
  constructor
  ·rintro ⟨hk,h⟩
   split at h
   ·rename_i hc
    rw [adg_] at h
    by_cases e:w.to=r.key
    ·rw [if_pos e,← e,h2,Option.none_or] at h
     simp only [Option.map_some,Option.some.injEq] at h
     exact .inl h.symm
    ·rw [if_neg e,Option.or_none] at h
     exact .inr ⟨⟨hk,by rw [if_pos hc];exact h⟩,fun e'=>e e'.symm⟩
   ·cases h
  ·rintro (rfl | ⟨⟨hk,h⟩,hne⟩)
   ·refine ⟨hw,?_⟩
    show (if vY_ here fr w.to=true then _ else none)=_
    rw [if_pos h1]
    show (wayO (W++[w]) w.to).map _=_
    rw [adg_,h2,if_pos rfl]
    rfl
   ·refine ⟨hk,?_⟩
    have e1:wayO (W++[w]) r.key=wayO W r.key:=by rw [adg_,if_neg (fun e:w.to=r.key=>hne e.symm),Option.or_none]
    rw [e1]
    exact h
def aQa_ (A:List Int) (area:Int):List Int:=A.filter fun a=>!(a == area)
def aJl_ (s:List Rcd) (A:List Int) (fr area:Int):List Way:=zx_ s (aQa_ A area) fr++if area=0 then [] else zT_ s A true fr
def wC_ (s:List Rcd) (A:List Int) (fr area:Int):List Rcd:=y8_ (zj_ s area fr) area fr (aJl_ s A fr area)
theorem atv_ (here:List Way) (area fr:Int):y8_ here area fr []=[]:=by
 unfold y8_
 rw [List.filterMap_eq_nil_iff]
 intro k _
 unfold q4_
 have:wayO [] k=none:=rfl
 rw [this]
 split <;> rfl
theorem aO8_ (W:List Way) (k:Int):(wayO W k).isSome=true↔¬ wayP W k < 0:=by
 unfold wayO
 split <;> simp_all
theorem atm_ {here:List Way} {area fr:Int} {W:List Way} {w:Way} (hw:1≤w.to∧w.to≤6) (h1:vY_ here fr w.to=true):keyP (y8_ here area fr W) (wq_ area fr w) < 0↔wayO W w.to=none:=by
 unfold keyP
 rw [w5_]
 constructor
 ·intro h
  cases e:wayO W w.to with
  | none=>rfl
  | some v =>
   have hv:=(xQ_ e).2
   have hm:wq_ area fr v∈y8_ here area fr W:=toldB_mem.2 ⟨by show 1≤v.to∧v.to≤6;omega,by
    show q4_ here area fr W v.to=_
    unfold q4_
    rw [hv,if_pos h1,e];rfl⟩
   have:=h _ hm
   simp [xd_,wq_,hv] at this
 ·intro h x hx
  have h2:=toldB_mem.1 hx
  obtain ⟨h3,_,_,_,_,_,_,_,v,h4,h5⟩:=jX_ h2.2
  cases hs:xd_ x (wq_ area fr w) with
  | false=>rfl
  | true =>
   have:x.key=w.to:=by simp only [xd_,Bool.and_eq_true,decide_eq_true_eq] at hs;exact hs.2.2.2
   rw [this,h] at h4;cases h4
theorem aJs_ (s:List Rcd) (A:List Int) (fr area:Int) (h:s.length≤1048576) (hn:NearL s) (ha:A.length≤1048576):qH_ [.l (s.map eRcd),.l (A.map eInt),ii fr,ii area]=some [.l ((wC_ s A fr area).map eRcd)]:=by
 rw [aIp_];simp (disch:=omega) only [↓pq,ps,pz,↓reduceIte,reduceLE,reduceLT,reduceEq,reduceGT,reduceGE,reduceAdd,reduceSub,reduceMul,reduceNeg,yQ_,yS_,yR_,agm_]
 refine (zp_ A (fun j c=>[.l (c.map eInt),ii j]) (fun c a=>if (!(a == area))=true then c++[a] else c) (fun c=>if c.length≤1048576 then some [T.l ((y8_ (zj_ s area fr) area fr (zx_ s c fr++if area=0 then [] else zT_ s A true fr)).map eRcd)] else none) [] (fun j c=>c.length≤j) rfl (zc_ ha) (by simp) ?_ ?_).trans ?_
 ·intro j c hj hc
  refine ⟨by split;(· simp;omega);(· omega),fun q=>?_⟩
  by_cases k:gt A j=area
  ·have:(!(gt A j == area))=false:=by simpa using k
   rw [this]
   simp (disch:=omega) only [↓pq,ps,pz,↓reduceIte,reduceLE,reduceLT,reduceEq,reduceGT,reduceGE,reduceAdd,reduceSub,reduceMul,reduceNeg,yQ_,yS_,yR_,hj,k,Bool.false_eq_true]
  ·have:(!(gt A j == area))=true:=by simpa using k
   rw [this]
   simp (disch:=omega) only [↓pq,ps,pz,↓reduceIte,reduceLE,reduceLT,reduceEq,reduceGT,reduceGE,reduceAdd,reduceSub,reduceMul,reduceNeg,yQ_,yS_,yR_,hj,k]
 ·intro c q hc
  rw [if_pos (by omega)]
  have hH:=aiv_ s area fr h hn
  have hWl:=w2_ (s:=s) (A:=c) (fr:=fr)
  have hBl:=uC_ (s:=s) (A:=A) (z:=true) (fr:=fr)
  have hT:=fun k:Int=>ad6_ (zj_ s area fr) k (by have:=aht_ (s:=s) (a:=area) (fr:=fr);omega) afb_
  simp (disch:=omega) only [↓pq,ps,pz,↓reduceIte,reduceLE,reduceLT,reduceEq,reduceGT,reduceGE,reduceAdd,reduceSub,reduceMul,reduceNeg,yQ_,yS_,yR_,hH,jI_ s c fr h hn (by omega)]
  refine (zp_ (zx_ s c fr) (fun j P=>[ii j,.l ((y8_ (zj_ s area fr) area fr P).map eRcd)]) (fun P w=>P++[w]) (fun P=>some [T.l ((y8_ (zj_ s area fr) area fr (P++if area=0 then [] else zT_ s A true fr)).map eRcd)]) [] (fun _ _=>True) (by rw [atv_];rfl) (zc_ (by omega)) trivial ?_ ?_).trans (by rw [ai5_,List.nil_append])
  ·intro j P hj _
   refine ⟨trivial,fun q=>?_⟩
   have hm:=(jZ_ (z1_ (l:=zx_ s c fr) (n:=(j:Int)) (by omega) hj)).1
   generalize hw:gt (zx_ s c fr) (j:Int)=w at hm
   have hTl:=ajs_ (zj_ s area fr) area fr P
   have hk:=ad0_ (y8_ (zj_ s area fr) area fr P) area 2 fr w.to (ii 0) (.l []) (ii w.cost) (bb false) (by omega)
   rw [show zq_ (fun x=>xd_ x ⟨area,2,fr,w.to,0,[],0,false⟩) (y8_ (zj_ s area fr) area fr P)=keyP (y8_ (zj_ s area fr) area fr P) (wq_ area fr w) from rfl] at hk
   have hp:=af0_ (y8_ (zj_ s area fr) area fr P) area 2 fr w.to 0 [] w.cost false (by omega) (apr_ _ _ _ _) (ac6_ _ _ _ _) (by simp)
   rw [show (⟨area,2,fr,w.to,0,[],w.cost,false⟩:Rcd)=wq_ area fr w from rfl] at hp
   rw [List.map_nil] at hp
   have hT:=hT w.to
   by_cases k1:wayP (zj_ s area fr) w.to < 0
   ·rw [if_pos k1] at hT
    by_cases k2:w.to=fr
    ·rw [qE_ (.inl (by unfold vY_;simp [k2]))]
     rw [k2] at hT
     simp (disch:=omega) only [↓pq,ps,pz,↓reduceIte,reduceLE,reduceLT,reduceEq,reduceGT,reduceGE,reduceAdd,reduceSub,reduceMul,reduceNeg,yQ_,yS_,yR_,hj,hw,hT,k2,Bool.false_eq_true]
    ·have ht:vY_ (zj_ s area fr) fr w.to=true:=by unfold vY_;simp [k1,k2]
     have hkey:=atm_ (area:=area) (W:=P) hm ht
     cases ho:wayO P w.to with
     | none =>
      rw [asv_ hm ht ho]
      have hkey:=hkey.2 ho
      simp (disch:=omega) only [↓pq,ps,pz,↓reduceIte,reduceLE,reduceLT,reduceEq,reduceGT,reduceGE,reduceAdd,reduceSub,reduceMul,reduceNeg,yQ_,yS_,yR_,hj,hw,hT,k2,Bool.false_eq_true,hk,hkey,hp]
     | some v =>
      rw [qE_ (.inr (by rw [ho];rfl))]
      have hkey:¬ keyP (y8_ (zj_ s area fr) area fr P) (wq_ area fr w) < 0:=fun h=>by rw [hkey.1 h] at ho;cases ho
      simp (disch:=omega) only [↓pq,ps,pz,↓reduceIte,reduceLE,reduceLT,reduceEq,reduceGT,reduceGE,reduceAdd,reduceSub,reduceMul,reduceNeg,yQ_,yS_,yR_,hj,hw,hT,k2,Bool.false_eq_true,hk,hkey]
   ·rw [if_neg k1] at hT
    simp only [eWay,List.cons_append,List.nil_append] at hT
    rw [qE_ (.inl (by unfold vY_;simp [k1]))]
    simp (disch:=omega) only [↓pq,ps,pz,↓reduceIte,reduceLE,reduceLT,reduceEq,reduceGT,reduceGE,reduceAdd,reduceSub,reduceMul,reduceNeg,yQ_,yS_,yR_,hj,hw,hT]
  ·intro P q _
   by_cases k0:area=0
   ·rw [if_pos k0,List.append_nil]
    simp (disch:=omega) only [↓pq,ps,pz,↓reduceIte,reduceLE,reduceLT,reduceEq,reduceGT,reduceGE,reduceAdd,reduceSub,reduceMul,reduceNeg,yQ_,yS_,yR_,k0]
   ·rw [if_neg k0]
    simp (disch:=omega) only [↓pq,ps,pz,↓reduceIte,reduceLE,reduceLT,reduceEq,reduceGT,reduceGE,reduceAdd,reduceSub,reduceMul,reduceNeg,yQ_,yS_,yR_,k0,ab7_ s A true fr h hn ha]
    refine (zp_ (zT_ s A true fr) (fun j P=>[ii j,.l ((y8_ (zj_ s area fr) area fr P).map eRcd)]) (fun P w=>P++[w]) (fun P=>some [T.l ((y8_ (zj_ s area fr) area fr P).map eRcd)]) P (fun _ _=>True) rfl (zc_ (by omega)) trivial ?_ ?_).trans (by rw [ai5_])
    ·intro j P hj _
     refine ⟨trivial,fun q=>?_⟩
     have hm:=(qj_ (z1_ (l:=zT_ s A true fr) (n:=(j:Int)) (by omega) hj)).1
     generalize hw:gt (zT_ s A true fr) (j:Int)=w at hm
     have hTl:=ajs_ (zj_ s area fr) area fr P
     have hk:=ad0_ (y8_ (zj_ s area fr) area fr P) area 2 fr w.to (ii 0) (.l []) (ii w.cost) (bb false) (by omega)
     rw [show zq_ (fun x=>xd_ x ⟨area,2,fr,w.to,0,[],0,false⟩) (y8_ (zj_ s area fr) area fr P)=keyP (y8_ (zj_ s area fr) area fr P) (wq_ area fr w) from rfl] at hk
     have hp:=af0_ (y8_ (zj_ s area fr) area fr P) area 2 fr w.to 0 [] w.cost false (by omega) (apr_ _ _ _ _) (ac6_ _ _ _ _) (by simp)
     rw [show (⟨area,2,fr,w.to,0,[],w.cost,false⟩:Rcd)=wq_ area fr w from rfl] at hp
     rw [List.map_nil] at hp
     have hT:=hT w.to
     by_cases k1:wayP (zj_ s area fr) w.to < 0
     ·rw [if_pos k1] at hT
      by_cases k2:w.to=fr
      ·rw [qE_ (.inl (by unfold vY_;simp [k2]))]
       rw [k2] at hT
       simp (disch:=omega) only [↓pq,ps,pz,↓reduceIte,reduceLE,reduceLT,reduceEq,reduceGT,reduceGE,reduceAdd,reduceSub,reduceMul,reduceNeg,yQ_,yS_,yR_,hj,hw,hT,k2,Bool.false_eq_true]
      ·have ht:vY_ (zj_ s area fr) fr w.to=true:=by unfold vY_;simp [k1,k2]
       have hkey:=atm_ (area:=area) (W:=P) hm ht
       cases ho:wayO P w.to with
       | none =>
        rw [asv_ hm ht ho]
        have hkey:=hkey.2 ho
        simp (disch:=omega) only [↓pq,ps,pz,↓reduceIte,reduceLE,reduceLT,reduceEq,reduceGT,reduceGE,reduceAdd,reduceSub,reduceMul,reduceNeg,yQ_,yS_,yR_,hj,hw,hT,k2,Bool.false_eq_true,hk,hkey,hp]
       | some v =>
        rw [qE_ (.inr (by rw [ho];rfl))]
        have hkey:¬ keyP (y8_ (zj_ s area fr) area fr P) (wq_ area fr w) < 0:=fun h=>by rw [hkey.1 h] at ho;cases ho
        simp (disch:=omega) only [↓pq,ps,pz,↓reduceIte,reduceLE,reduceLT,reduceEq,reduceGT,reduceGE,reduceAdd,reduceSub,reduceMul,reduceNeg,yQ_,yS_,yR_,hj,hw,hT,k2,Bool.false_eq_true,hk,hkey]
     ·rw [if_neg k1] at hT
      simp only [eWay,List.cons_append,List.nil_append] at hT
      rw [qE_ (.inl (by unfold vY_;simp [k1]))]
      simp (disch:=omega) only [↓pq,ps,pz,↓reduceIte,reduceLE,reduceLT,reduceEq,reduceGT,reduceGE,reduceAdd,reduceSub,reduceMul,reduceNeg,yQ_,yS_,yR_,hj,hw,hT]
    ·intro P q _
     simp (disch:=omega) only [↓pq,ps,pz,↓reduceIte,reduceLE,reduceLT,reduceEq,reduceGT,reduceGE,reduceAdd,reduceSub,reduceMul,reduceNeg,yQ_,yS_,yR_,]
 ·rw [qu_,List.nil_append,if_pos (by have:=List.length_filter_le (fun a=>!(a == area)) A;omega)]
  rfl
theorem aBl_ {s:List Rcd} (hs:zJ_ s=false) (A:List Int) (fr area:Int):wC_ s A fr area=[]:=by
 have hw:∀ a,zj_ s a fr=[]:=fun a=>by unfold zj_;rw [if_neg (by rw [hs];simp)]
 have h1:∀ A,cand s A fr=[]:=fun A=>by unfold cand;rw [List.flatMap_eq_nil_iff];intro a _;exact hw a
 have h2:∀ A,zx_ s A fr=[]:=fun A=>by unfold zx_;rw [h1];rfl
 have h3:zT_ s A true fr=[]:=by
  unfold zT_
  have:qV_ s A true fr=[]:=by
   unfold qV_
   rw [List.filterMap_eq_nil_iff]
   intro x hx
   cases e:recB s A true fr x with
   | none=>rfl
   | some w =>
    obtain ⟨_,y,hy,_⟩:=jW_ e
    have:=(al4_ hy).2.2.2.2
    rw [hs] at this;cases this
  rw [this];rfl
 unfold wC_ aJl_
 rw [h2,h3]
 have:(if area=0 then ([]:List Way) else [])=[]:=by split <;> rfl
 rw [this]
 exact atv_ _ _ _
theorem ar7_ {W:List Way} (hl:W.length≤1048576) (hW:∀ w∈W,w.hops.length≤1048576) (k:Int):xj_ [.l (W.map eWay),ii k]=some (match wayO W k with | none=>[ii 0,ii 0,.l [],bb false] | some w=>eWay w++[bb true]):=by
 rw [j6_ W k hl hW]
 unfold wayO
 split <;> rfl
theorem aH2_ (s:List Rcd) (A:List Int) (fr area:Int) (h:s.length≤1048576) (hn:NearL s) (ha:A.length≤1048576):qI_ [.l (s.map eRcd),.l (A.map eInt),ii fr,ii area]=some [.l ((wC_ s A fr area).map eRcd)]:=by
 rw [aH7_];simp (disch:=omega) only [↓pq,ps,pz,↓reduceIte,reduceLE,reduceLT,reduceEq,reduceGT,reduceGE,reduceAdd,reduceSub,reduceMul,reduceNeg,xa_,xb_,ahw_,ji_ _ h hn]
 cases hs:zJ_ s with
 | false=>rw [aBl_ hs];simp (disch:=omega) only [↓pq,ps,pz,↓reduceIte,reduceLE,reduceLT,reduceEq,reduceGT,reduceGE,reduceAdd,reduceSub,reduceMul,reduceNeg,xa_,xb_,Bool.false_eq_true];rfl
 | true =>
 simp (disch:=omega) only [↓pq,ps,pz,↓reduceIte,reduceLE,reduceLT,reduceEq,reduceGT,reduceGE,reduceAdd,reduceSub,reduceMul,reduceNeg,xa_,xb_,]
 refine (zp_ A (fun j c=>[.l (c.map eInt),ii j]) (fun c a=>if (!(a == area))=true then c++[a] else c) (fun c=>if c.length≤1048576 then some [T.l ((y8_ (zj_ s area fr) area fr (zx_ s c fr++if area=0 then [] else zT_ s A true fr)).map eRcd)] else none) [] (fun j c=>c.length≤j) rfl (zc_ ha) (by simp) ?_ ?_).trans ?_
 ·intro j c hj hc
  refine ⟨by split;(· simp;omega);(· omega),fun q=>?_⟩
  by_cases k:gt A j=area
  ·have:(!(gt A j == area))=false:=by simpa using k
   rw [this]
   simp (disch:=omega) only [↓pq,ps,pz,↓reduceIte,reduceLE,reduceLT,reduceEq,reduceGT,reduceGE,reduceAdd,reduceSub,reduceMul,reduceNeg,xa_,xb_,hj,k,Bool.false_eq_true]
  ·have:(!(gt A j == area))=true:=by simpa using k
   rw [this]
   simp (disch:=omega) only [↓pq,ps,pz,↓reduceIte,reduceLE,reduceLT,reduceEq,reduceGT,reduceGE,reduceAdd,reduceSub,reduceMul,reduceNeg,xa_,xb_,hj,k]
 ·intro c q hc
  rw [if_pos (by omega)]
  have hWl:=w2_ (s:=s) (A:=c) (fr:=fr)
  have hBl:=uC_ (s:=s) (A:=A) (z:=true) (fr:=fr)
  have hT:=fun k:Int=>ar7_ (W:=zj_ s area fr) (by have:=aht_ (s:=s) (a:=area) (fr:=fr);omega) afb_ k
  have hU:=fun k:Int=>ar7_ (W:=zx_ s c fr) (by omega) ae0_ k
  have hV:=fun k:Int=>ar7_ (W:=zT_ s A true fr) (by omega) (fun w hw=>by have:=zL_ (qj_ hw).2.1;omega) k
  simp (disch:=omega) only [↓pq,ps,pz,↓reduceIte,reduceLE,reduceLT,reduceEq,reduceGT,reduceGE,reduceAdd,reduceSub,reduceMul,reduceNeg,xa_,xb_,agq_ s area fr h hn,jS_ s c fr h hn (by omega),aci_ s A true fr h hn ha]
  refine (yE_ 6 (fun i D=>[.l (D.map eRcd),ii (i+1)]) (fun D i=>D++(q4_ (zj_ s area fr) area fr (zx_ s c fr++if area=0 then [] else zT_ s A true fr) ((i:Int)+1)).toList) (fun D=>some [T.l (D.map eRcd)]) [] (fun i D=>D.length≤i) rfl (zc_ (by omega)) (by simp) ?_ ?_).trans ?_
  ·intro i D hi hD
   have hi':(i:Int)+1≤6:=by omega
   have hT:=hT ((i:Int)+1)
   have hU:=hU ((i:Int)+1)
   have hV:=hV ((i:Int)+1)
   refine ⟨by cases q4_ (zj_ s area fr) area fr (zx_ s c fr++if area=0 then [] else zT_ s A true fr) ((i:Int)+1) <;> simp <;> omega,fun q=>?_⟩
   have hlit:∀ c:Int,Prim.ev (.lit 8 [true,true,true,true,true,false,true,true]) [ii area,ii 2,ii fr,ii ((i:Int)+1),ii 0,.l [],ii c,bb false]=some (.l ([(⟨area,2,fr,(i:Int)+1,0,[],c,false⟩:Rcd)].map eRcd)):=fun c=>aFs_ area 2 fr ((i:Int)+1) 0 [] c false
   unfold q4_ vY_
   have hz:(wayO (zj_ s area fr) ((i:Int)+1)).isSome=true↔¬ wayP (zj_ s area fr) ((i:Int)+1) < 0:=aO8_ _ _
   cases hh:wayO (zj_ s area fr) ((i:Int)+1) with
   | some w =>
    rw [hh] at hT hz
    have k1:¬ wayP (zj_ s area fr) ((i:Int)+1) < 0:=hz.1 rfl
    simp only [eWay,List.cons_append,List.nil_append] at hT
    rw [if_neg (by simp [k1])]
    simp (disch:=omega) only [↓pq,ps,pz,↓reduceIte,reduceLE,reduceLT,reduceEq,reduceGT,reduceGE,reduceAdd,reduceSub,reduceMul,reduceNeg,xa_,xb_,hi',hT,Option.toList_none,List.append_nil]
   | none =>
    rw [hh] at hT hz
    have k1:wayP (zj_ s area fr) ((i:Int)+1) < 0:=by
     rcases Int.lt_or_le (wayP (zj_ s area fr) ((i:Int)+1)) 0 with h | h
     ·exact h
     ·have:=hz.2 (by omega);cases this
    simp only [] at hT
    by_cases k2:(i:Int)+1=fr
    ·rw [if_neg (by simp [k2])]
     subst k2
     simp (disch:=omega) only [↓pq,ps,pz,↓reduceIte,reduceLE,reduceLT,reduceEq,reduceGT,reduceGE,reduceAdd,reduceSub,reduceMul,reduceNeg,xa_,xb_,hi',hT,eq_self,Option.toList_none,List.append_nil,Bool.false_eq_true]
    rw [if_pos (by simp [k1,k2]),aeq_]
    cases hu:wayO (zx_ s c fr) ((i:Int)+1) with
    | some w =>
     rw [hu] at hU
     have hwt:=(xQ_ hu).2
     simp only [eWay,List.cons_append,List.nil_append] at hU
     rw [Option.some_or]
     simp only [Option.map_some,Option.toList_some,wq_,hwt]
     simp (disch:=omega) only [↓pq,ps,pz,↓reduceIte,reduceLE,reduceLT,reduceEq,reduceGT,reduceGE,reduceAdd,reduceSub,reduceMul,reduceNeg,xa_,xb_,hi',hT,hU,k2,Bool.false_eq_true,hlit]
    | none =>
     rw [hu] at hU
     simp only [] at hU
     rw [Option.none_or]
     by_cases k3:area=0
     ·rw [if_pos k3]
      subst k3
      rw [show wayO [] ((i:Int)+1)=none from rfl]
      simp (disch:=omega) only [↓pq,ps,pz,↓reduceIte,reduceLE,reduceLT,reduceEq,reduceGT,reduceGE,reduceAdd,reduceSub,reduceMul,reduceNeg,xa_,xb_,hi',hT,hU,k2,eq_self,Bool.false_eq_true,Option.map_none,Option.toList_none,List.append_nil]
     ·rw [if_neg k3]
      cases hv:wayO (zT_ s A true fr) ((i:Int)+1) with
      | none =>
       rw [hv] at hV
       simp only [] at hV
       simp (disch:=omega) only [↓pq,ps,pz,↓reduceIte,reduceLE,reduceLT,reduceEq,reduceGT,reduceGE,reduceAdd,reduceSub,reduceMul,reduceNeg,xa_,xb_,hi',hT,hU,hV,k2,k3,Bool.false_eq_true,Option.map_none,Option.toList_none,List.append_nil]
      | some w =>
       rw [hv] at hV
       have hwt:=(xQ_ hv).2
       simp only [eWay,List.cons_append,List.nil_append] at hV
       simp only [Option.map_some,Option.toList_some,wq_,hwt]
       simp (disch:=omega) only [↓pq,ps,pz,↓reduceIte,reduceLE,reduceLT,reduceEq,reduceGT,reduceGE,reduceAdd,reduceSub,reduceMul,reduceNeg,xa_,xb_,hi',hT,hU,hV,k2,k3,Bool.false_eq_true,hlit]
  ·intro D q hD
   simp (disch:=omega) only [↓pq,ps,pz,↓reduceIte,reduceLE,reduceLT,reduceEq,reduceGT,reduceGE,reduceAdd,reduceSub,reduceMul,reduceNeg,xa_,xb_,]
  ·rw [uA_ (fun i:Nat=>(q4_ (zj_ s area fr) area fr (zx_ s c fr++if area=0 then [] else zT_ s A true fr) ((i:Int)+1)).toList),List.nil_append,abm_]
   unfold y8_
   rw [afn_,List.filterMap_map]
   rfl
 ·rw [qu_,List.nil_append,if_pos (by have:=List.length_filter_le (fun a=>!(a == area)) A;omega)]
  rfl
end Go.Proofs.YtiebbbmibbkpcaaGreatC
