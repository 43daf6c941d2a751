/- What a node at a vO_ tells, by both programs. Conditions: none. -/
import Derived.Test.YtiebbbmibbkpcaaGreatXSQ
namespace Go.Proofs.YtiebbbmibbkpcaaGreatC
open Int (reduceLE reduceLT reduceEq reduceGT reduceGE reduceAdd reduceSub reduceMul reduceNeg)
set_option linter.unusedVariables false
set_option linter.unusedSimpArgs false
def ww_ (area fr:Int) (w:Way):Rcd:=⟨area,2,fr,w.to,0,[],w.cost,false⟩
def vN_ (here:List Way) (fr:Int) (k:Int):Bool:=decide (wayP here k < 0) && decide (k≠fr)
def qF_ (here:List Way) (area fr:Int) (W:List Way) (k:Int):Option Rcd:=if vN_ here fr k=true then (wayO W k).map (ww_ area fr) else none
def yT_ (here:List Way) (area fr:Int) (W:List Way):List Rcd:=six.filterMap (qF_ here area fr W)
theorem jZ_ {here:List Way} {area fr:Int} {W:List Way} {k:Int} {r:Rcd} (h:qF_ here area fr W k=some r):r.key=k∧r.area=area∧r.kind=2∧r.owner=fr∧r.near=[]∧r.seq=0∧r.far=false∧vN_ here fr k=true∧∃ w,wayO W k=some w∧r=ww_ area fr w:=by
 unfold qF_ at h
 split at h
 ·rename_i hc
  obtain ⟨w,hw,e⟩:=Option.map_eq_some_iff.1 h
  subst e
  exact ⟨(xU_ hw).2,rfl,rfl,rfl,rfl,rfl,rfl,hc,w,hw,rfl⟩
 ·cases h
theorem toldB_mem {here:List Way} {area fr:Int} {W:List Way} {r:Rcd}:r∈yT_ here area fr W↔(1≤r.key∧r.key≤6)∧qF_ here area fr W r.key=some r:=by
 unfold yT_
 rw [List.mem_filterMap]
 constructor
 ·rintro ⟨k,hk,h⟩
  have:=(jZ_ h).1
  subst this
  exact ⟨mem_six.1 hk,h⟩
 ·rintro ⟨h1,h2⟩
  exact ⟨r.key,mem_six.2 h1,h2⟩
theorem asc_ (here:List Way) (area fr:Int) (W:List Way):(yT_ here area fr W).Pairwise fun a b=>a.key < b.key:=by
 unfold yT_
 rw [List.pairwise_filterMap]
 refine six_asc.imp fun {a b} hab x hx y hy=>?_
 rw [(jZ_ hx).1,(jZ_ hy).1]
 exact hab
theorem ale_ (here:List Way) (area fr:Int) (W:List Way):(yT_ here area fr W).length≤6:=List.length_filterMap_le _ _
theorem uD_ {here:List Way} {area fr:Int} {W:List Way} {r:Rcd} (h:r∈yT_ here area fr W):r.area=area∧r.kind=2∧r.owner=fr∧r.near=[]:=by
 have:=jZ_ (toldB_mem.1 h).2
 exact ⟨this.2.1,this.2.2.1,this.2.2.2.1,this.2.2.2.2.1⟩
theorem ac3_ (here:List Way) (area fr:Int) (W:List Way):yR_ (yT_ here area fr W):=by
 unfold yR_
 refine (asc_ here area fr W).imp_of_mem fun {a b} ha hb hab=>?_
 have h1:=uD_ ha
 have h2:=uD_ hb
 rw [y0_]
 omega
theorem apx_ (here:List Way) (area fr:Int) (W:List Way):NearL (yT_ here area fr W):=fun r hr=>by
 rw [(uD_ hr).2.2.2];simp
theorem ad4_ (W:List Way) (w:Way) (k:Int):wayO (W++[w]) k=(wayO W k).or (if w.to=k then some w else none):=by
 rw [aer_]
 congr 1
 rw [aak_]
 simp only [List.find?_cons,List.find?_nil]
 by_cases h:w.to=k
 ·simp [h]
 ·have:(w.to == k)=false:=by simpa using h
  rw [this,if_neg h]
theorem qW_ {here:List Way} {area fr:Int} {W:List Way} {w:Way} (h:vN_ here fr w.to=false∨(wayO W w.to).isSome=true):yT_ here area fr (W++[w])=yT_ here area fr W:=by
 unfold yT_
 refine congrArg (fun f=>List.filterMap f six) (funext fun k=>?_)
 unfold qF_
 by_cases hk:vN_ here fr k=true
 ·rw [if_pos hk,if_pos hk,ad4_]
  by_cases e:w.to=k
  ·subst e
   rcases h with h | h
   ·rw [h] at hk;cases hk
   ·rw [Option.or_of_isSome h]
  ·rw [if_neg e,Option.or_none]
 ·rw [if_neg hk,if_neg hk]
theorem ary_ {here:List Way} {area fr:Int} {W:List Way} {w:Way} (hw:1≤w.to∧w.to≤6) (h1:vN_ here fr w.to=true) (h2:wayO W w.to=none):yT_ here area fr (W++[w])=putR (yT_ here area fr W) (ww_ area fr w):=by
 have hs:=uY_ (ac3_ here area fr W) (ww_ area fr w)
 refine anj_ Rcd.key (asc_ _ _ _ _) ?_ fun r=>?_
 ·refine hs.imp_of_mem fun {a b} ha hb hab=>?_
  have hm:∀ x,x∈putR (yT_ here area fr W) (ww_ area fr w)→x.area=area∧x.kind=2∧x.owner=fr:=by
   intro x hx
   rcases v1_ hx with rfl | hx
   ·exact ⟨rfl,rfl,rfl⟩
   ·have:=uD_ hx;exact ⟨this.1,this.2.1,this.2.2.1⟩
  have h1:=hm a ha
  have h2:=hm b hb
  rw [y0_] at hab
  omega
 ·have hp:r∈putR (yT_ here area fr W) (ww_ area fr w)↔r=ww_ area fr w∨(r∈yT_ here area fr W∧r.key≠w.to):=by
   unfold putR
   simp only [List.mem_append,List.mem_filter,List.mem_singleton]
   constructor
   ·rintro (⟨h,q⟩ | h | ⟨h,q⟩)
    ·have hx:=uD_ h
     rw [y0_] at q
     simp only [ww_] at q
     exact .inr ⟨h,by omega⟩
    ·exact .inl h
    ·have hx:=uD_ h
     rw [y0_] at q
     simp only [ww_] at q
     exact .inr ⟨h,by omega⟩
   ·rintro (h | ⟨h,q⟩)
    ·exact .inr (.inl h)
    ·have hx:=uD_ h
     rcases Int.lt_or_gt_of_ne q with q | q
     ·exact .inl ⟨h,by rw [y0_];simp only [ww_];omega⟩
     ·exact .inr (.inr ⟨h,by rw [y0_];simp only [ww_];omega⟩)
  rw [hp,toldB_mem,toldB_mem]
  unfold qF_
  constructor
  ·rintro ⟨hk,h⟩
   split at h
   ·rename_i hc
    rw [ad4_] at h
    by_cases e:w.to=r.key
    ·rw [if_pos e,← e,h2,Option.none_or] at h
     simp only [Option.map_some,Option.some.injEq] at h
     exact .inl h.symm
    ·rw [if_neg e,Option.or_none] at h
     exact .inr ⟨⟨hk,by rw [if_pos hc];exact h⟩,fun e'=>e e'.symm⟩
   ·cases h
  ·rintro (rfl | ⟨⟨hk,h⟩,hne⟩)
   ·refine ⟨hw,?_⟩
    show (if vN_ here fr w.to=true then _ else none)=_
    rw [if_pos h1]
    show (wayO (W++[w]) w.to).map _=_
    rw [ad4_,h2,if_pos rfl]
    rfl
   ·refine ⟨hk,?_⟩
    have e1:wayO (W++[w]) r.key=wayO W r.key:=by rw [ad4_,if_neg (fun e:w.to=r.key=>hne e.symm),Option.or_none]
    rw [e1]
    exact h
def auv_ (A:List Int) (area:Int):List Int:=A.filter fun a=>!(a == area)
def at6_ (s:List Rcd) (A:List Int) (fr area:Int):List Way:=within s (auv_ A area) fr++if area=0 then [] else beyond s A true fr
def beyondR (s:List Rcd) (A:List Int) (fr area:Int):List Rcd:=yT_ (waysIn s area fr) area fr (at6_ s A fr area)
theorem asj_ (here:List Way) (area fr:Int):yT_ here area fr []=[]:=by
 unfold yT_
 rw [List.filterMap_eq_nil_iff]
 intro k _
 unfold qF_
 have:wayO [] k=none:=rfl
 rw [this]
 split <;> rfl
theorem aOj_ (W:List Way) (k:Int):(wayO W k).isSome=true↔¬ wayP W k < 0:=by
 unfold wayO
 split <;> simp_all
theorem ar3_ {here:List Way} {area fr:Int} {W:List Way} {w:Way} (hw:1≤w.to∧w.to≤6) (h1:vN_ here fr w.to=true):keyP (yT_ here area fr W) (ww_ area fr w) < 0↔wayO W w.to=none:=by
 unfold keyP
 rw [w5_]
 constructor
 ·intro h
  cases e:wayO W w.to with
  | none=>rfl
  | some v =>
   have hv:=(xU_ e).2
   have hm:ww_ area fr v∈yT_ here area fr W:=toldB_mem.2 ⟨by show 1≤v.to∧v.to≤6;omega,by
    show qF_ here area fr W v.to=_
    unfold qF_
    rw [hv,if_pos h1,e];rfl⟩
   have:=h _ hm
   simp [zp_,ww_,hv] at this
 ·intro h x hx
  have h2:=toldB_mem.1 hx
  obtain ⟨h3,_,_,_,_,_,_,_,v,h4,h5⟩:=jZ_ h2.2
  cases hs:zp_ x (ww_ area fr w) with
  | false=>rfl
  | true =>
   have:x.key=w.to:=by simp only [zp_,Bool.and_eq_true,decide_eq_true_eq] at hs;exact hs.2.2.2
   rw [this,h] at h4;cases h4
theorem aEg_ (s:List Rcd) (A:List Int) (fr area:Int) (h:s.length≤1048576) (hn:NearL s) (ha:A.length≤1048576):q2_ [.l (s.map eRcd),.l (A.map eInt),ii fr,ii area]=some [.l ((beyondR s A fr area).map eRcd)]:=by
 rw [aEr_];simp (disch:=omega) only [↓pq,ps,pz,↓reduceIte,reduceLE,reduceLT,reduceEq,reduceGT,reduceGE,reduceAdd,reduceSub,reduceMul,reduceNeg,yu_,yt_,yv_,ahg_]
 refine (zg_ A (fun j c=>[.l (c.map eInt),ii j]) (fun c a=>if (!(a == area))=true then c++[a] else c) (fun c=>if c.length≤1048576 then some [T.l ((yT_ (waysIn s area fr) area fr (within s c fr++if area=0 then [] else beyond s A true fr)).map eRcd)] else none) [] (fun j c=>c.length≤j) rfl (zb_ ha) (by simp) ?_ ?_).trans ?_
 ·intro j c hj hc
  refine ⟨by split;(· simp;omega);(· omega),fun q=>?_⟩
  by_cases k:gt A j=area
  ·have:(!(gt A j == area))=false:=by simpa using k
   rw [this]
   simp (disch:=omega) only [↓pq,ps,pz,↓reduceIte,reduceLE,reduceLT,reduceEq,reduceGT,reduceGE,reduceAdd,reduceSub,reduceMul,reduceNeg,yu_,yt_,yv_,hj,k,Bool.false_eq_true]
  ·have:(!(gt A j == area))=true:=by simpa using k
   rw [this]
   simp (disch:=omega) only [↓pq,ps,pz,↓reduceIte,reduceLE,reduceLT,reduceEq,reduceGT,reduceGE,reduceAdd,reduceSub,reduceMul,reduceNeg,yu_,yt_,yv_,hj,k]
 ·intro c q hc
  rw [if_pos (by omega)]
  have hH:=ah1_ s area fr h hn
  have hWl:=uK_ (s:=s) (A:=c) (fr:=fr)
  have hBl:=kE_ (s:=s) (A:=A) (z:=true) (fr:=fr)
  have hT:=fun k:Int=>ad8_ (waysIn s area fr) k (by have:=ahx_ (s:=s) (a:=area) (fr:=fr);omega) aen_
  simp (disch:=omega) only [↓pq,ps,pz,↓reduceIte,reduceLE,reduceLT,reduceEq,reduceGT,reduceGE,reduceAdd,reduceSub,reduceMul,reduceNeg,yu_,yt_,yv_,hH,jB_ s c fr h hn (by omega)]
  refine (zg_ (within s c fr) (fun j P=>[ii j,.l ((yT_ (waysIn s area fr) area fr P).map eRcd)]) (fun P w=>P++[w]) (fun P=>some [T.l ((yT_ (waysIn s area fr) area fr (P++if area=0 then [] else beyond s A true fr)).map eRcd)]) [] (fun _ _=>True) (by rw [asj_];rfl) (zb_ (by omega)) trivial ?_ ?_).trans (by rw [ahy_,List.nil_append])
  ·intro j P hj _
   refine ⟨trivial,fun q=>?_⟩
   have hm:=(aab_ (zX_ (l:=within s c fr) (n:=(j:Int)) (by omega) hj)).1
   generalize hw:gt (within s c fr) (j:Int)=w at hm
   have hTl:=ale_ (waysIn s area fr) area fr P
   have hk:=qm_ (yT_ (waysIn s area fr) area fr P) area 2 fr w.to (ii 0) (.l []) (ii w.cost) (bb false) (by omega)
   rw [show zu_ (fun x=>zp_ x ⟨area,2,fr,w.to,0,[],0,false⟩) (yT_ (waysIn s area fr) area fr P)=keyP (yT_ (waysIn s area fr) area fr P) (ww_ area fr w) from rfl] at hk
   have hp:=qJ_ (yT_ (waysIn s area fr) area fr P) area 2 fr w.to 0 [] w.cost false (by omega) (apx_ _ _ _ _) (ac3_ _ _ _ _) (by simp)
   rw [show (⟨area,2,fr,w.to,0,[],w.cost,false⟩:Rcd)=ww_ area fr w from rfl] at hp
   rw [List.map_nil] at hp
   have hT:=hT w.to
   by_cases k1:wayP (waysIn s area fr) w.to < 0
   ·rw [if_pos k1] at hT
    by_cases k2:w.to=fr
    ·rw [qW_ (.inl (by unfold vN_;simp [k2]))]
     rw [k2] at hT
     simp (disch:=omega) only [↓pq,ps,pz,↓reduceIte,reduceLE,reduceLT,reduceEq,reduceGT,reduceGE,reduceAdd,reduceSub,reduceMul,reduceNeg,yu_,yt_,yv_,hj,hw,hT,k2,Bool.false_eq_true]
    ·have ht:vN_ (waysIn s area fr) fr w.to=true:=by unfold vN_;simp [k1,k2]
     have hkey:=ar3_ (area:=area) (W:=P) hm ht
     cases ho:wayO P w.to with
     | none =>
      rw [ary_ hm ht ho]
      have hkey:=hkey.2 ho
      simp (disch:=omega) only [↓pq,ps,pz,↓reduceIte,reduceLE,reduceLT,reduceEq,reduceGT,reduceGE,reduceAdd,reduceSub,reduceMul,reduceNeg,yu_,yt_,yv_,hj,hw,hT,k2,Bool.false_eq_true,hk,hkey,hp]
     | some v =>
      rw [qW_ (.inr (by rw [ho];rfl))]
      have hkey:¬ keyP (yT_ (waysIn s area fr) area fr P) (ww_ area fr w) < 0:=fun h=>by rw [hkey.1 h] at ho;cases ho
      simp (disch:=omega) only [↓pq,ps,pz,↓reduceIte,reduceLE,reduceLT,reduceEq,reduceGT,reduceGE,reduceAdd,reduceSub,reduceMul,reduceNeg,yu_,yt_,yv_,hj,hw,hT,k2,Bool.false_eq_true,hk,hkey]
   ·rw [if_neg k1] at hT
    simp only [eWay,List.cons_append,List.nil_append] at hT
    rw [qW_ (.inl (by unfold vN_;simp [k1]))]
    simp (disch:=omega) only [↓pq,ps,pz,↓reduceIte,reduceLE,reduceLT,reduceEq,reduceGT,reduceGE,reduceAdd,reduceSub,reduceMul,reduceNeg,yu_,yt_,yv_,hj,hw,hT]
  ·intro P q _
   by_cases k0:area=0
   ·rw [if_pos k0,List.append_nil]
    simp (disch:=omega) only [↓pq,ps,pz,↓reduceIte,reduceLE,reduceLT,reduceEq,reduceGT,reduceGE,reduceAdd,reduceSub,reduceMul,reduceNeg,yu_,yt_,yv_,k0]
   ·rw [if_neg k0]
    simp (disch:=omega) only [↓pq,ps,pz,↓reduceIte,reduceLE,reduceLT,reduceEq,reduceGT,reduceGE,reduceAdd,reduceSub,reduceMul,reduceNeg,yu_,yt_,yv_,k0,ab7_ s A true fr h hn ha]
    refine (zg_ (beyond s A true fr) (fun j P=>[ii j,.l ((yT_ (waysIn s area fr) area fr P).map eRcd)]) (fun P w=>P++[w]) (fun P=>some [T.l ((yT_ (waysIn s area fr) area fr P).map eRcd)]) P (fun _ _=>True) rfl (zb_ (by omega)) trivial ?_ ?_).trans (by rw [ahy_])
    ·intro j P hj _
     refine ⟨trivial,fun q=>?_⟩
     have hm:=(j5_ (zX_ (l:=beyond s A true fr) (n:=(j:Int)) (by omega) hj)).1
     generalize hw:gt (beyond s A true fr) (j:Int)=w at hm
     have hTl:=ale_ (waysIn s area fr) area fr P
     have hk:=qm_ (yT_ (waysIn s area fr) area fr P) area 2 fr w.to (ii 0) (.l []) (ii w.cost) (bb false) (by omega)
     rw [show zu_ (fun x=>zp_ x ⟨area,2,fr,w.to,0,[],0,false⟩) (yT_ (waysIn s area fr) area fr P)=keyP (yT_ (waysIn s area fr) area fr P) (ww_ area fr w) from rfl] at hk
     have hp:=qJ_ (yT_ (waysIn s area fr) area fr P) area 2 fr w.to 0 [] w.cost false (by omega) (apx_ _ _ _ _) (ac3_ _ _ _ _) (by simp)
     rw [show (⟨area,2,fr,w.to,0,[],w.cost,false⟩:Rcd)=ww_ area fr w from rfl] at hp
     rw [List.map_nil] at hp
     have hT:=hT w.to
     by_cases k1:wayP (waysIn s area fr) w.to < 0
     ·rw [if_pos k1] at hT
      by_cases k2:w.to=fr
      ·rw [qW_ (.inl (by unfold vN_;simp [k2]))]
       rw [k2] at hT
       simp (disch:=omega) only [↓pq,ps,pz,↓reduceIte,reduceLE,reduceLT,reduceEq,reduceGT,reduceGE,reduceAdd,reduceSub,reduceMul,reduceNeg,yu_,yt_,yv_,hj,hw,hT,k2,Bool.false_eq_true]
      ·have ht:vN_ (waysIn s area fr) fr w.to=true:=by unfold vN_;simp [k1,k2]
       have hkey:=ar3_ (area:=area) (W:=P) hm ht
       cases ho:wayO P w.to with
       | none =>
        rw [ary_ hm ht ho]
        have hkey:=hkey.2 ho
        simp (disch:=omega) only [↓pq,ps,pz,↓reduceIte,reduceLE,reduceLT,reduceEq,reduceGT,reduceGE,reduceAdd,reduceSub,reduceMul,reduceNeg,yu_,yt_,yv_,hj,hw,hT,k2,Bool.false_eq_true,hk,hkey,hp]
       | some v =>
        rw [qW_ (.inr (by rw [ho];rfl))]
        have hkey:¬ keyP (yT_ (waysIn s area fr) area fr P) (ww_ area fr w) < 0:=fun h=>by rw [hkey.1 h] at ho;cases ho
        simp (disch:=omega) only [↓pq,ps,pz,↓reduceIte,reduceLE,reduceLT,reduceEq,reduceGT,reduceGE,reduceAdd,reduceSub,reduceMul,reduceNeg,yu_,yt_,yv_,hj,hw,hT,k2,Bool.false_eq_true,hk,hkey]
     ·rw [if_neg k1] at hT
      simp only [eWay,List.cons_append,List.nil_append] at hT
      rw [qW_ (.inl (by unfold vN_;simp [k1]))]
      simp (disch:=omega) only [↓pq,ps,pz,↓reduceIte,reduceLE,reduceLT,reduceEq,reduceGT,reduceGE,reduceAdd,reduceSub,reduceMul,reduceNeg,yu_,yt_,yv_,hj,hw,hT]
    ·intro P q _
     simp (disch:=omega) only [↓pq,ps,pz,↓reduceIte,reduceLE,reduceLT,reduceEq,reduceGT,reduceGE,reduceAdd,reduceSub,reduceMul,reduceNeg,yu_,yt_,yv_,]
 ·rw [qs_,List.nil_append,if_pos (by have:=List.length_filter_le (fun a=>!(a == area)) A;omega)]
  rfl
theorem azw_ {s:List Rcd} (hs:zk_ s=false) (A:List Int) (fr area:Int):beyondR s A fr area=[]:=by
 have hw:∀ a,waysIn s a fr=[]:=fun a=>by unfold waysIn;rw [if_neg (by rw [hs];simp)]
 have h1:∀ A,cand s A fr=[]:=fun A=>by unfold cand;rw [List.flatMap_eq_nil_iff];intro a _;exact hw a
 have h2:∀ A,within s A fr=[]:=fun A=>by unfold within;rw [h1];rfl
 have h3:beyond s A true fr=[]:=by
  unfold beyond
  have:u4_ s A true fr=[]:=by
   unfold u4_
   rw [List.filterMap_eq_nil_iff]
   intro x hx
   cases e:recB s A true fr x with
   | none=>rfl
   | some w =>
    obtain ⟨_,y,hy,_⟩:=j7_ e
    have:=(alw_ hy).2.2.2.2
    rw [hs] at this;cases this
  rw [this];rfl
 unfold beyondR at6_
 rw [h2,h3]
 have:(if area=0 then ([]:List Way) else [])=[]:=by split <;> rfl
 rw [this]
 exact asj_ _ _ _
theorem arl_ {W:List Way} (hl:W.length≤1048576) (hW:∀ w∈W,w.hops.length≤1048576) (k:Int):y7_ [.l (W.map eWay),ii k]=some (match wayO W k with | none=>[ii 0,ii 0,.l [],bb false] | some w=>eWay w++[bb true]):=by
 rw [jP_ W k hl hW]
 unfold wayO
 split <;> rfl
theorem aHz_ (s:List Rcd) (A:List Int) (fr area:Int) (h:s.length≤1048576) (hn:NearL s) (ha:A.length≤1048576):qU_ [.l (s.map eRcd),.l (A.map eInt),ii fr,ii area]=some [.l ((beyondR s A fr area).map eRcd)]:=by
 rw [aEy_];simp (disch:=omega) only [↓pq,ps,pz,↓reduceIte,reduceLE,reduceLT,reduceEq,reduceGT,reduceGE,reduceAdd,reduceSub,reduceMul,reduceNeg,yX_,yV_,aib_,jl_ _ h hn]
 cases hs:zk_ s with
 | false=>rw [azw_ hs];simp (disch:=omega) only [↓pq,ps,pz,↓reduceIte,reduceLE,reduceLT,reduceEq,reduceGT,reduceGE,reduceAdd,reduceSub,reduceMul,reduceNeg,yX_,yV_,Bool.false_eq_true];rfl
 | true =>
 simp (disch:=omega) only [↓pq,ps,pz,↓reduceIte,reduceLE,reduceLT,reduceEq,reduceGT,reduceGE,reduceAdd,reduceSub,reduceMul,reduceNeg,yX_,yV_,]
 refine (zg_ A (fun j c=>[.l (c.map eInt),ii j]) (fun c a=>if (!(a == area))=true then c++[a] else c) (fun c=>if c.length≤1048576 then some [T.l ((yT_ (waysIn s area fr) area fr (within s c fr++if area=0 then [] else beyond s A true fr)).map eRcd)] else none) [] (fun j c=>c.length≤j) rfl (zb_ ha) (by simp) ?_ ?_).trans ?_
 ·intro j c hj hc
  refine ⟨by split;(· simp;omega);(· omega),fun q=>?_⟩
  by_cases k:gt A j=area
  ·have:(!(gt A j == area))=false:=by simpa using k
   rw [this]
   simp (disch:=omega) only [↓pq,ps,pz,↓reduceIte,reduceLE,reduceLT,reduceEq,reduceGT,reduceGE,reduceAdd,reduceSub,reduceMul,reduceNeg,yX_,yV_,hj,k,Bool.false_eq_true]
  ·have:(!(gt A j == area))=true:=by simpa using k
   rw [this]
   simp (disch:=omega) only [↓pq,ps,pz,↓reduceIte,reduceLE,reduceLT,reduceEq,reduceGT,reduceGE,reduceAdd,reduceSub,reduceMul,reduceNeg,yX_,yV_,hj,k]
 ·intro c q hc
  rw [if_pos (by omega)]
  have hWl:=uK_ (s:=s) (A:=c) (fr:=fr)
  have hBl:=kE_ (s:=s) (A:=A) (z:=true) (fr:=fr)
  have hT:=fun k:Int=>arl_ (W:=waysIn s area fr) (by have:=ahx_ (s:=s) (a:=area) (fr:=fr);omega) aen_ k
  have hU:=fun k:Int=>arl_ (W:=within s c fr) (by omega) aez_ k
  have hV:=fun k:Int=>arl_ (W:=beyond s A true fr) (by omega) (fun w hw=>by have:=zG_ (j5_ hw).2.1;omega) k
  simp (disch:=omega) only [↓pq,ps,pz,↓reduceIte,reduceLE,reduceLT,reduceEq,reduceGT,reduceGE,reduceAdd,reduceSub,reduceMul,reduceNeg,yX_,yV_,aig_ s area fr h hn,jG_ s c fr h hn (by omega),acp_ s A true fr h hn ha]
  refine (yy_ 6 (fun i D=>[.l (D.map eRcd),ii (i+1)]) (fun D i=>D++(qF_ (waysIn s area fr) area fr (within s c fr++if area=0 then [] else beyond s A true fr) ((i:Int)+1)).toList) (fun D=>some [T.l (D.map eRcd)]) [] (fun i D=>D.length≤i) rfl (zb_ (by omega)) (by simp) ?_ ?_).trans ?_
  ·intro i D hi hD
   have hi':(i:Int)+1≤6:=by omega
   have hT:=hT ((i:Int)+1)
   have hU:=hU ((i:Int)+1)
   have hV:=hV ((i:Int)+1)
   refine ⟨by cases qF_ (waysIn s area fr) area fr (within s c fr++if area=0 then [] else beyond s A true fr) ((i:Int)+1) <;> simp <;> omega,fun q=>?_⟩
   have hlit:∀ c:Int,Prim.ev (.lit 8 [true,true,true,true,true,false,true,true]) [ii area,ii 2,ii fr,ii ((i:Int)+1),ii 0,.l [],ii c,bb false]=some (.l ([(⟨area,2,fr,(i:Int)+1,0,[],c,false⟩:Rcd)].map eRcd)):=fun c=>aCz_ area 2 fr ((i:Int)+1) 0 [] c false
   unfold qF_ vN_
   have hz:(wayO (waysIn s area fr) ((i:Int)+1)).isSome=true↔¬ wayP (waysIn s area fr) ((i:Int)+1) < 0:=aOj_ _ _
   cases hh:wayO (waysIn s area fr) ((i:Int)+1) with
   | some w =>
    rw [hh] at hT hz
    have k1:¬ wayP (waysIn s area fr) ((i:Int)+1) < 0:=hz.1 rfl
    simp only [eWay,List.cons_append,List.nil_append] at hT
    rw [if_neg (by simp [k1])]
    simp (disch:=omega) only [↓pq,ps,pz,↓reduceIte,reduceLE,reduceLT,reduceEq,reduceGT,reduceGE,reduceAdd,reduceSub,reduceMul,reduceNeg,yX_,yV_,hi',hT,Option.toList_none,List.append_nil]
   | none =>
    rw [hh] at hT hz
    have k1:wayP (waysIn s area fr) ((i:Int)+1) < 0:=by
     rcases Int.lt_or_le (wayP (waysIn s area fr) ((i:Int)+1)) 0 with h | h
     ·exact h
     ·have:=hz.2 (by omega);cases this
    simp only [] at hT
    by_cases k2:(i:Int)+1=fr
    ·rw [if_neg (by simp [k2])]
     subst k2
     simp (disch:=omega) only [↓pq,ps,pz,↓reduceIte,reduceLE,reduceLT,reduceEq,reduceGT,reduceGE,reduceAdd,reduceSub,reduceMul,reduceNeg,yX_,yV_,hi',hT,eq_self,Option.toList_none,List.append_nil,Bool.false_eq_true]
    rw [if_pos (by simp [k1,k2]),aer_]
    cases hu:wayO (within s c fr) ((i:Int)+1) with
    | some w =>
     rw [hu] at hU
     have hwt:=(xU_ hu).2
     simp only [eWay,List.cons_append,List.nil_append] at hU
     rw [Option.some_or]
     simp only [Option.map_some,Option.toList_some,ww_,hwt]
     simp (disch:=omega) only [↓pq,ps,pz,↓reduceIte,reduceLE,reduceLT,reduceEq,reduceGT,reduceGE,reduceAdd,reduceSub,reduceMul,reduceNeg,yX_,yV_,hi',hT,hU,k2,Bool.false_eq_true,hlit]
    | none =>
     rw [hu] at hU
     simp only [] at hU
     rw [Option.none_or]
     by_cases k3:area=0
     ·rw [if_pos k3]
      subst k3
      rw [show wayO [] ((i:Int)+1)=none from rfl]
      simp (disch:=omega) only [↓pq,ps,pz,↓reduceIte,reduceLE,reduceLT,reduceEq,reduceGT,reduceGE,reduceAdd,reduceSub,reduceMul,reduceNeg,yX_,yV_,hi',hT,hU,k2,eq_self,Bool.false_eq_true,Option.map_none,Option.toList_none,List.append_nil]
     ·rw [if_neg k3]
      cases hv:wayO (beyond s A true fr) ((i:Int)+1) with
      | none =>
       rw [hv] at hV
       simp only [] at hV
       simp (disch:=omega) only [↓pq,ps,pz,↓reduceIte,reduceLE,reduceLT,reduceEq,reduceGT,reduceGE,reduceAdd,reduceSub,reduceMul,reduceNeg,yX_,yV_,hi',hT,hU,hV,k2,k3,Bool.false_eq_true,Option.map_none,Option.toList_none,List.append_nil]
      | some w =>
       rw [hv] at hV
       have hwt:=(xU_ hv).2
       simp only [eWay,List.cons_append,List.nil_append] at hV
       simp only [Option.map_some,Option.toList_some,ww_,hwt]
       simp (disch:=omega) only [↓pq,ps,pz,↓reduceIte,reduceLE,reduceLT,reduceEq,reduceGT,reduceGE,reduceAdd,reduceSub,reduceMul,reduceNeg,yX_,yV_,hi',hT,hU,hV,k2,k3,Bool.false_eq_true,hlit]
  ·intro D q hD
   simp (disch:=omega) only [↓pq,ps,pz,↓reduceIte,reduceLE,reduceLT,reduceEq,reduceGT,reduceGE,reduceAdd,reduceSub,reduceMul,reduceNeg,yX_,yV_,]
  ·rw [uI_ (fun i:Nat=>(qF_ (waysIn s area fr) area fr (within s c fr++if area=0 then [] else beyond s A true fr) ((i:Int)+1)).toList),List.nil_append,abo_]
   unfold yT_
   rw [afi_,List.filterMap_map]
   rfl
 ·rw [qs_,List.nil_append,if_pos (by have:=List.length_filter_le (fun a=>!(a == area)) A;omega)]
  rfl
end Go.Proofs.YtiebbbmibbkpcaaGreatC
