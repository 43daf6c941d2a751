/- What a node at a v1_ tells, by both programs. Conditions: none. -/
import Derived.Test.YtjimmglpkndemaaGreatXSQ
namespace Go.Proofs.YtjimmglpkndemaaGreatC
open Int renaming reduceLE → Q0_, reduceLT → Q1_, reduceEq → Q2_, reduceGT → Q3_, reduceGE → Q4_, reduceAdd → Q5_, reduceSub → Q6_, reduceMul → Q7_, reduceNeg → Q8_
set_option linter.unusedVariables false
set_option linter.unusedSimpArgs false
def wx_ (area fr:Int) (w:Way):Rcd:=⟨area,2,fr,w.to,0,[],w.cost,false⟩
def vY_ (here:List Way) (fr:Int) (k:Int):Bool:=decide (wayP here k < 0) && decide (k≠fr)
def qY_ (here:List Way) (area fr:Int) (W:List Way) (k:Int):Option Rcd:=if vY_ here fr k=true then (wayO W k).map (wx_ area fr) else none
def y1_ (here:List Way) (area fr:Int) (W:List Way):List Rcd:=six.filterMap (qY_ here area fr W)
theorem jX_ {here:List Way} {area fr:Int} {W:List Way} {k:Int} {r:Rcd} (h:qY_ here area fr W k=some r):r.key=k∧r.area=area∧r.kind=2∧r.owner=fr∧r.near=[]∧r.seq=0∧r.far=false∧vY_ here fr k=true∧∃ w,wayO W k=some w∧r=wx_ area fr w:=by
 unfold qY_ at h
 split at h
 ·rename_i hc
  obtain ⟨w,hw,e⟩:=Option.map_eq_some_iff.1 h
  subst e
  exact ⟨(wa_ hw).2,rfl,rfl,rfl,rfl,rfl,rfl,hc,w,hw,rfl⟩
 ·cases h
theorem toldB_mem {here:List Way} {area fr:Int} {W:List Way} {r:Rcd}:r∈y1_ here area fr W↔(1≤r.key∧r.key≤6)∧qY_ here area fr W r.key=some r:=by
 unfold y1_
 rw [List.mem_filterMap]
 constructor
 ·rintro ⟨k,hk,h⟩
  have:=(jX_ h).1
  subst this
  exact ⟨mem_six.1 hk,h⟩
 ·rintro ⟨h1,h2⟩
  exact ⟨r.key,mem_six.2 h1,h2⟩
theorem aqp_ (here:List Way) (area fr:Int) (W:List Way):(y1_ here area fr W).Pairwise fun a b=>a.key < b.key:=by
 unfold y1_
 rw [List.pairwise_filterMap]
 refine six_asc.imp fun {a b} hab x hx y hy=>?_
 rw [(jX_ hx).1,(jX_ hy).1]
 exact hab
theorem ai9_ (here:List Way) (area fr:Int) (W:List Way):(y1_ here area fr W).length≤6:=List.length_filterMap_le _ _
theorem uE_ {here:List Way} {area fr:Int} {W:List Way} {r:Rcd} (h:r∈y1_ here area fr W):r.area=area∧r.kind=2∧r.owner=fr∧r.near=[]:=by
 have:=jX_ (toldB_mem.1 h).2
 exact ⟨this.2.1,this.2.2.1,this.2.2.2.1,this.2.2.2.2.1⟩
theorem abv_ (here:List Way) (area fr:Int) (W:List Way):zG_ (y1_ here area fr W):=by
 unfold zG_
 refine (aqp_ here area fr W).imp_of_mem fun {a b} ha hb hab=>?_
 have h1:=uE_ ha
 have h2:=uE_ hb
 rw [yp_]
 omega
theorem aof_ (here:List Way) (area fr:Int) (W:List Way):NearL (y1_ here area fr W):=fun r hr=>by
 rw [(uE_ hr).2.2.2];simp
theorem adi_ (W:List Way) (w:Way) (k:Int):wayO (W++[w]) k=(wayO W k).or (if w.to=k then some w else none):=by
 rw [alp_]
 congr 1
 rw [kW_]
 simp only [List.find?_cons,List.find?_nil]
 by_cases h:w.to=k
 ·simp [h]
 ·have:(w.to == k)=false:=by simpa using h
  rw [this,if_neg h]
theorem qR_ {here:List Way} {area fr:Int} {W:List Way} {w:Way} (h:vY_ here fr w.to=false∨(wayO W w.to).isSome=true):y1_ here area fr (W++[w])=y1_ here area fr W:=by
 unfold y1_
 refine congrArg (fun f=>List.filterMap f six) (funext fun k=>?_)
 unfold qY_
 by_cases hk:vY_ here fr k=true
 ·rw [if_pos hk,if_pos hk,adi_]
  by_cases e:w.to=k
  ·subst e
   rcases h with h | h
   ·rw [h] at hk;cases hk
   ·rw [Option.or_of_isSome h]
  ·rw [if_neg e,Option.or_none]
 ·rw [if_neg hk,if_neg hk]
theorem ar3_ {here:List Way} {area fr:Int} {W:List Way} {w:Way} (hw:1≤w.to∧w.to≤6) (h1:vY_ here fr w.to=true) (h2:wayO W w.to=none):y1_ here area fr (W++[w])=putR (y1_ here area fr W) (wx_ area fr w):=by
 have hs:=vt_ (abv_ here area fr W) (wx_ area fr w)
 refine alv_ Rcd.key (aqp_ _ _ _ _) ?_ fun r=>?_
 ·refine hs.imp_of_mem fun {a b} ha hb hab=>?_
  have hm:∀ x,x∈putR (y1_ here area fr W) (wx_ area fr w)→x.area=area∧x.kind=2∧x.owner=fr:=by
   intro x hx
   rcases wA_ hx with rfl | hx
   ·exact ⟨rfl,rfl,rfl⟩
   ·have:=uE_ hx;exact ⟨this.1,this.2.1,this.2.2.1⟩
  have h1:=hm a ha
  have h2:=hm b hb
  rw [yp_] at hab
  omega
 ·have hp:r∈putR (y1_ here area fr W) (wx_ area fr w)↔r=wx_ area fr w∨(r∈y1_ here area fr W∧r.key≠w.to):=by
   unfold putR
   simp only [List.mem_append,List.mem_filter,List.mem_singleton]
   constructor
   ·rintro (⟨h,q⟩ | h | ⟨h,q⟩)
    ·have hx:=uE_ h
     rw [yp_] at q
     simp only [wx_] at q
     exact .inr ⟨h,by omega⟩
    ·exact .inl h
    ·have hx:=uE_ h
     rw [yp_] at q
     simp only [wx_] at q
     exact .inr ⟨h,by omega⟩
   ·rintro (h | ⟨h,q⟩)
    ·exact .inr (.inl h)
    ·have hx:=uE_ h
     rcases Int.lt_or_gt_of_ne q with q | q
     ·exact .inl ⟨h,by rw [yp_];simp only [wx_];omega⟩
     ·exact .inr (.inr ⟨h,by rw [yp_];simp only [wx_];omega⟩)
  rw [hp,toldB_mem,toldB_mem]
  unfold qY_
  constructor
  ·rintro ⟨hk,h⟩
   split at h
   ·rename_i hc
    rw [adi_] at h
    by_cases e:w.to=r.key
    ·rw [if_pos e,← e,h2,Option.none_or] at h
     simp only [Option.map_some,oI_] at h
     exact .inl h.symm
    ·rw [if_neg e,Option.or_none] at h
     exact .inr ⟨⟨hk,by rw [if_pos hc];exact h⟩,fun e'=>e e'.symm⟩
   ·cases h
  ·rintro (rfl | ⟨⟨hk,h⟩,hne⟩)
   ·refine ⟨hw,?_⟩
    show (if vY_ here fr w.to=true then _ else none)=_
    rw [if_pos h1]
    show (wayO (W++[w]) w.to).map _=_
    rw [adi_,h2,if_pos rfl]
    rfl
   ·refine ⟨hk,?_⟩
    have e1:wayO (W++[w]) r.key=wayO W r.key:=by rw [adi_,if_neg (fun e:w.to=r.key=>hne e.symm),Option.or_none]
    rw [e1]
    exact h
def axe_ (A:List Int) (area:Int):List Int:=A.filter fun a=>!(a == area)
def an9_ (s:List Rcd) (A:List Int) (fr area:Int):List Way:=within s (axe_ A area) fr++if area=0 then [] else beyond s A true fr
def beyondR (s:List Rcd) (A:List Int) (fr area:Int):List Rcd:=y1_ (waysIn s area fr) area fr (an9_ s A fr area)
theorem aq8_ (here:List Way) (area fr:Int):y1_ here area fr []=[]:=by
 unfold y1_
 rw [List.filterMap_eq_nil_iff]
 intro k _
 unfold qY_
 have:wayO [] k=none:=rfl
 rw [this]
 split <;> rfl
theorem aJs_ (W:List Way) (k:Int):(wayO W k).isSome=true↔¬ wayP W k < 0:=by
 unfold wayO
 split <;> simp_all
theorem ard_ {here:List Way} {area fr:Int} {W:List Way} {w:Way} (hw:1≤w.to∧w.to≤6) (h1:vY_ here fr w.to=true):keyP (y1_ here area fr W) (wx_ area fr w) < 0↔wayO W w.to=none:=by
 unfold keyP
 rw [wX_]
 constructor
 ·intro h
  cases e:wayO W w.to with
  | none=>rfl
  | some v =>
   have hv:=(wa_ e).2
   have hm:wx_ area fr v∈y1_ here area fr W:=toldB_mem.2 ⟨by show 1≤v.to∧v.to≤6;omega,by
    show qY_ here area fr W v.to=_
    unfold qY_
    rw [hv,if_pos h1,e];rfl⟩
   have:=h _ hm
   simp [zb_,wx_,hv] at this
 ·intro h x hx
  have h2:=toldB_mem.1 hx
  obtain ⟨h3,_,_,_,_,_,_,_,v,h4,h5⟩:=jX_ h2.2
  cases hs:zb_ x (wx_ area fr w) with
  | false=>rfl
  | true =>
   have:x.key=w.to:=by simp only [zb_,bA_,decide_eq_true_eq] at hs;exact hs.2.2.2
   rw [this,h] at h4;cases h4
theorem aC9_ (s:List Rcd) (A:List Int) (fr area:Int) (h:s.length≤1048576) (hn:NearL s) (ha:A.length≤1048576):q1_ [.l (s.map eRcd),.l (A.map eInt),ii fr,ii area]=some [.l ((beyondR s A fr area).map eRcd)]:=by
 rw [aEk_];simp (disch:=omega) only [↓pq,↓pj,ps,pz,↓reduceIte,Q0_,Q1_,Q2_,Q3_,Q4_,Q5_,Q6_,Q7_,Q8_,yy_,yz_,yB_,ahu_]
 refine (zj_ A (fun j c=>[.l (c.map eInt),ii j]) (fun c a=>if (!(a == area))=true then c++[a] else c) (fun c=>if c.length≤1048576 then some [T.l ((y1_ (waysIn s area fr) area fr (within s c fr++if area=0 then [] else beyond s A true fr)).map eRcd)] else none) [] (fun j c=>c.length≤j) rfl (za_ ha) (by simp) ?_ ?_).trans ?_
 ·intro j c hj hc
  refine ⟨by split;(· simp;omega);(· omega),fun q=>?_⟩
  by_cases k:gt A j=area
  ·have:(!(gt A j == area))=false:=by simpa using k
   rw [this]
   simp (disch:=omega) only [↓pq,↓pj,ps,pz,↓reduceIte,Q0_,Q1_,Q2_,Q3_,Q4_,Q5_,Q6_,Q7_,Q8_,yy_,yz_,yB_,hj,k,bF_]
  ·have:(!(gt A j == area))=true:=by simpa using k
   rw [this]
   simp (disch:=omega) only [↓pq,↓pj,ps,pz,↓reduceIte,Q0_,Q1_,Q2_,Q3_,Q4_,Q5_,Q6_,Q7_,Q8_,yy_,yz_,yB_,hj,k]
 ·intro c q hc
  rw [if_pos (by omega)]
  have hH:=ag0_ s area fr h hn
  have hWl:=aa4_ (s:=s) (A:=c) (fr:=fr)
  have hBl:=anw_ (s:=s) (A:=A) (z:=true) (fr:=fr)
  have hT:=fun k:Int=>ajy_ (waysIn s area fr) k (by have:=ag2_ (s:=s) (a:=area) (fr:=fr);omega) aec_
  simp (disch:=omega) only [↓pq,↓pj,ps,pz,↓reduceIte,Q0_,Q1_,Q2_,Q3_,Q4_,Q5_,Q6_,Q7_,Q8_,yy_,yz_,yB_,hH,abz_ s c fr h hn (by omega)]
  refine (zj_ (within s c fr) (fun j P=>[ii j,.l ((y1_ (waysIn s area fr) area fr P).map eRcd),.l ((within s c fr).map eWay)]) (fun P w=>P++[w]) (fun P=>some [T.l ((y1_ (waysIn s area fr) area fr (P++if area=0 then [] else beyond s A true fr)).map eRcd)]) [] (fun _ _=>True) (by rw [aq8_];rfl) (za_ (by omega)) trivial ?_ ?_).trans (by rw [af9_,List.nil_append])
  ·intro j P hj _
   refine ⟨trivial,fun q=>?_⟩
   have hm:=(ar2_ (zS_ (l:=within s c fr) (n:=(j:Int)) (by omega) hj)).1
   generalize hw:gt (within s c fr) (j:Int)=w at hm
   have hTl:=ai9_ (waysIn s area fr) area fr P
   have hk:=qu_ (y1_ (waysIn s area fr) area fr P) area 2 fr w.to (ii 0) (.l []) (ii w.cost) (bb false) (by omega)
   rw [show zn_ (fun x=>zb_ x ⟨area,2,fr,w.to,0,[],0,false⟩) (y1_ (waysIn s area fr) area fr P)=keyP (y1_ (waysIn s area fr) area fr P) (wx_ area fr w) from rfl] at hk
   have hp:=qL_ (y1_ (waysIn s area fr) area fr P) area 2 fr w.to 0 [] w.cost false (by omega) (aof_ _ _ _ _) (abv_ _ _ _ _) (by simp)
   rw [show (⟨area,2,fr,w.to,0,[],w.cost,false⟩:Rcd)=wx_ area fr w from rfl] at hp
   rw [List.map_nil] at hp
   have hT:=hT w.to
   by_cases k1:wayP (waysIn s area fr) w.to < 0
   ·rw [if_pos k1] at hT
    by_cases k2:w.to=fr
    ·rw [qR_ (.inl (by unfold vY_;simp [k2]))]
     rw [k2] at hT
     simp (disch:=omega) only [↓pq,↓pj,ps,pz,↓reduceIte,Q0_,Q1_,Q2_,Q3_,Q4_,Q5_,Q6_,Q7_,Q8_,yy_,yz_,yB_,hj,hw,hT,k2,bF_]
    ·have ht:vY_ (waysIn s area fr) fr w.to=true:=by unfold vY_;simp [k1,k2]
     have hkey:=ard_ (area:=area) (W:=P) hm ht
     cases ho:wayO P w.to with
     | none =>
      rw [ar3_ hm ht ho]
      have hkey:=hkey.2 ho
      simp (disch:=omega) only [↓pq,↓pj,ps,pz,↓reduceIte,Q0_,Q1_,Q2_,Q3_,Q4_,Q5_,Q6_,Q7_,Q8_,yy_,yz_,yB_,hj,hw,hT,k2,bF_,hk,hkey,hp]
     | some v =>
      rw [qR_ (.inr (by rw [ho];rfl))]
      have hkey:¬ keyP (y1_ (waysIn s area fr) area fr P) (wx_ area fr w) < 0:=fun h=>by rw [hkey.1 h] at ho;cases ho
      simp (disch:=omega) only [↓pq,↓pj,ps,pz,↓reduceIte,Q0_,Q1_,Q2_,Q3_,Q4_,Q5_,Q6_,Q7_,Q8_,yy_,yz_,yB_,hj,hw,hT,k2,bF_,hk,hkey]
   ·rw [if_neg k1] at hT
    simp only [eWay,List.cons_append,List.nil_append] at hT
    rw [qR_ (.inl (by unfold vY_;simp [k1]))]
    simp (disch:=omega) only [↓pq,↓pj,ps,pz,↓reduceIte,Q0_,Q1_,Q2_,Q3_,Q4_,Q5_,Q6_,Q7_,Q8_,yy_,yz_,yB_,hj,hw,hT]
  ·intro P q _
   by_cases k0:area=0
   ·rw [if_pos k0,List.append_nil]
    simp (disch:=omega) only [↓pq,↓pj,ps,pz,↓reduceIte,Q0_,Q1_,Q2_,Q3_,Q4_,Q5_,Q6_,Q7_,Q8_,yy_,yz_,yB_,k0]
   ·rw [if_neg k0]
    simp (disch:=omega) only [↓pq,↓pj,ps,pz,↓reduceIte,Q0_,Q1_,Q2_,Q3_,Q4_,Q5_,Q6_,Q7_,Q8_,yy_,yz_,yB_,k0,al2_ s A true fr h hn ha]
    refine (zj_ (beyond s A true fr) (fun j P=>[ii j,.l ((y1_ (waysIn s area fr) area fr P).map eRcd),.l ((beyond s A true fr).map eWay)]) (fun P w=>P++[w]) (fun P=>some [T.l ((y1_ (waysIn s area fr) area fr P).map eRcd)]) P (fun _ _=>True) rfl (za_ (by omega)) trivial ?_ ?_).trans (by rw [af9_])
    ·intro j P hj _
     refine ⟨trivial,fun q=>?_⟩
     have hm:=(ajx_ (zS_ (l:=beyond s A true fr) (n:=(j:Int)) (by omega) hj)).1
     generalize hw:gt (beyond s A true fr) (j:Int)=w at hm
     have hTl:=ai9_ (waysIn s area fr) area fr P
     have hk:=qu_ (y1_ (waysIn s area fr) area fr P) area 2 fr w.to (ii 0) (.l []) (ii w.cost) (bb false) (by omega)
     rw [show zn_ (fun x=>zb_ x ⟨area,2,fr,w.to,0,[],0,false⟩) (y1_ (waysIn s area fr) area fr P)=keyP (y1_ (waysIn s area fr) area fr P) (wx_ area fr w) from rfl] at hk
     have hp:=qL_ (y1_ (waysIn s area fr) area fr P) area 2 fr w.to 0 [] w.cost false (by omega) (aof_ _ _ _ _) (abv_ _ _ _ _) (by simp)
     rw [show (⟨area,2,fr,w.to,0,[],w.cost,false⟩:Rcd)=wx_ area fr w from rfl] at hp
     rw [List.map_nil] at hp
     have hT:=hT w.to
     by_cases k1:wayP (waysIn s area fr) w.to < 0
     ·rw [if_pos k1] at hT
      by_cases k2:w.to=fr
      ·rw [qR_ (.inl (by unfold vY_;simp [k2]))]
       rw [k2] at hT
       simp (disch:=omega) only [↓pq,↓pj,ps,pz,↓reduceIte,Q0_,Q1_,Q2_,Q3_,Q4_,Q5_,Q6_,Q7_,Q8_,yy_,yz_,yB_,hj,hw,hT,k2,bF_]
      ·have ht:vY_ (waysIn s area fr) fr w.to=true:=by unfold vY_;simp [k1,k2]
       have hkey:=ard_ (area:=area) (W:=P) hm ht
       cases ho:wayO P w.to with
       | none =>
        rw [ar3_ hm ht ho]
        have hkey:=hkey.2 ho
        simp (disch:=omega) only [↓pq,↓pj,ps,pz,↓reduceIte,Q0_,Q1_,Q2_,Q3_,Q4_,Q5_,Q6_,Q7_,Q8_,yy_,yz_,yB_,hj,hw,hT,k2,bF_,hk,hkey,hp]
       | some v =>
        rw [qR_ (.inr (by rw [ho];rfl))]
        have hkey:¬ keyP (y1_ (waysIn s area fr) area fr P) (wx_ area fr w) < 0:=fun h=>by rw [hkey.1 h] at ho;cases ho
        simp (disch:=omega) only [↓pq,↓pj,ps,pz,↓reduceIte,Q0_,Q1_,Q2_,Q3_,Q4_,Q5_,Q6_,Q7_,Q8_,yy_,yz_,yB_,hj,hw,hT,k2,bF_,hk,hkey]
     ·rw [if_neg k1] at hT
      simp only [eWay,List.cons_append,List.nil_append] at hT
      rw [qR_ (.inl (by unfold vY_;simp [k1]))]
      simp (disch:=omega) only [↓pq,↓pj,ps,pz,↓reduceIte,Q0_,Q1_,Q2_,Q3_,Q4_,Q5_,Q6_,Q7_,Q8_,yy_,yz_,yB_,hj,hw,hT]
    ·intro P q _
     simp (disch:=omega) only [↓pq,↓pj,ps,pz,↓reduceIte,Q0_,Q1_,Q2_,Q3_,Q4_,Q5_,Q6_,Q7_,Q8_,yy_,yz_,yB_,]
 ·rw [ww_,List.nil_append,if_pos (by have:=List.length_filter_le (fun a=>!(a == area)) A;omega)]
  rfl
theorem aym_ {s:List Rcd} (hs:ze_ s=false) (A:List Int) (fr area:Int):beyondR s A fr area=[]:=by
 have hw:∀ a,waysIn s a fr=[]:=fun a=>by unfold waysIn;rw [if_neg (by rw [hs];simp)]
 have h1:∀ A,cand s A fr=[]:=fun A=>by unfold cand;rw [List.flatMap_eq_nil_iff];intro a _;exact hw a
 have h2:∀ A,within s A fr=[]:=fun A=>by unfold within;rw [h1];rfl
 have h3:beyond s A true fr=[]:=by
  unfold beyond
  have:uq_ s A true fr=[]:=by
   unfold uq_
   rw [List.filterMap_eq_nil_iff]
   intro x hx
   cases e:recB s A true fr x with
   | none=>rfl
   | some w =>
    obtain ⟨_,y,hy,_⟩:=jH_ e
    have:=(aj8_ hy).2.2.2.2
    rw [hs] at this;cases this
  rw [this];rfl
 unfold beyondR an9_
 rw [h2,h3]
 have:(if area=0 then ([]:List Way) else [])=[]:=by split <;> rfl
 rw [this]
 exact aq8_ _ _ _
theorem aqd_ {W:List Way} (hl:W.length≤1048576) (hW:∀ w∈W,w.hops.length≤1048576) (k:Int):xJ_ [.l (W.map eWay),ii k]=some (match wayO W k with | none=>[ii 0,ii 0,.l [],bb false] | some w=>eWay w++[bb true]):=by
 rw [adq_ W k hl hW]
 unfold wayO
 split <;> rfl
theorem aoq_ (s:List Rcd) (A:List Int) (fr area:Int) (h:s.length≤1048576) (hn:NearL s) (ha:A.length≤1048576):vh_ [.l (s.map eRcd),.l (A.map eInt),ii fr,ii area]=some [.l ((beyondR s A fr area).map eRcd)]:=by
 rw [aB7_];simp (disch:=omega) only [↓pq,↓pj,ps,pz,↓reduceIte,Q0_,Q1_,Q2_,Q3_,Q4_,Q5_,Q6_,Q7_,Q8_,yY_,y0_,ahc_,kV_ _ h hn]
 cases hs:ze_ s with
 | false=>rw [aym_ hs];simp (disch:=omega) only [↓pq,↓pj,ps,pz,↓reduceIte,Q0_,Q1_,Q2_,Q3_,Q4_,Q5_,Q6_,Q7_,Q8_,yY_,y0_,bF_];rfl
 | true =>
 simp (disch:=omega) only [↓pq,↓pj,ps,pz,↓reduceIte,Q0_,Q1_,Q2_,Q3_,Q4_,Q5_,Q6_,Q7_,Q8_,yY_,y0_,]
 refine (zj_ A (fun j c=>[.l (c.map eInt),ii j]) (fun c a=>if (!(a == area))=true then c++[a] else c) (fun c=>if c.length≤1048576 then some [T.l ((y1_ (waysIn s area fr) area fr (within s c fr++if area=0 then [] else beyond s A true fr)).map eRcd)] else none) [] (fun j c=>c.length≤j) rfl (za_ ha) (by simp) ?_ ?_).trans ?_
 ·intro j c hj hc
  refine ⟨by split;(· simp;omega);(· omega),fun q=>?_⟩
  by_cases k:gt A j=area
  ·have:(!(gt A j == area))=false:=by simpa using k
   rw [this]
   simp (disch:=omega) only [↓pq,↓pj,ps,pz,↓reduceIte,Q0_,Q1_,Q2_,Q3_,Q4_,Q5_,Q6_,Q7_,Q8_,yY_,y0_,hj,k,bF_]
  ·have:(!(gt A j == area))=true:=by simpa using k
   rw [this]
   simp (disch:=omega) only [↓pq,↓pj,ps,pz,↓reduceIte,Q0_,Q1_,Q2_,Q3_,Q4_,Q5_,Q6_,Q7_,Q8_,yY_,y0_,hj,k]
 ·intro c q hc
  rw [if_pos (by omega)]
  have hWl:=aa4_ (s:=s) (A:=c) (fr:=fr)
  have hBl:=anw_ (s:=s) (A:=A) (z:=true) (fr:=fr)
  have hT:=fun k:Int=>aqd_ (W:=waysIn s area fr) (by have:=ag2_ (s:=s) (a:=area) (fr:=fr);omega) aec_ k
  have hU:=fun k:Int=>aqd_ (W:=within s c fr) (by omega) aej_ k
  have hV:=fun k:Int=>aqd_ (W:=beyond s A true fr) (by omega) (fun w hw=>by have:=xC_ (ajx_ hw).2.1;omega) k
  simp (disch:=omega) only [↓pq,↓pj,ps,pz,↓reduceIte,Q0_,Q1_,Q2_,Q3_,Q4_,Q5_,Q6_,Q7_,Q8_,yY_,y0_,agf_ s area fr h hn,ab6_ s c fr h hn (by omega),amm_ s A true fr h hn ha]
  refine (yV_ 6 (fun i D=>[.l (D.map eRcd),ii (i+1)]) (fun D i=>D++(qY_ (waysIn s area fr) area fr (within s c fr++if area=0 then [] else beyond s A true fr) ((i:Int)+1)).toList) (fun D=>some [T.l (D.map eRcd)]) [] (fun i D=>D.length≤i) rfl (za_ (by omega)) (by simp) ?_ ?_).trans ?_
  ·intro i D hi hD
   have hi':(i:Int)+1≤6:=by omega
   have hT:=hT ((i:Int)+1)
   have hU:=hU ((i:Int)+1)
   have hV:=hV ((i:Int)+1)
   refine ⟨by cases qY_ (waysIn s area fr) area fr (within s c fr++if area=0 then [] else beyond s A true fr) ((i:Int)+1) <;> simp <;> omega,fun q=>?_⟩
   have hlit:∀ c:Int,Prim.ev (.lit 8 [true,true,true,true,true,false,true,true]) [ii area,ii 2,ii fr,ii ((i:Int)+1),ii 0,.l [],ii c,bb false]=some (.l ([(⟨area,2,fr,(i:Int)+1,0,[],c,false⟩:Rcd)].map eRcd)):=fun c=>aBj_ area 2 fr ((i:Int)+1) 0 [] c false
   unfold qY_ vY_
   have hz:(wayO (waysIn s area fr) ((i:Int)+1)).isSome=true↔¬ wayP (waysIn s area fr) ((i:Int)+1) < 0:=aJs_ _ _
   cases hh:wayO (waysIn s area fr) ((i:Int)+1) with
   | some w =>
    rw [hh] at hT hz
    have k1:¬ wayP (waysIn s area fr) ((i:Int)+1) < 0:=hz.1 rfl
    simp only [eWay,List.cons_append,List.nil_append] at hT
    rw [if_neg (by simp [k1])]
    simp (disch:=omega) only [↓pq,↓pj,ps,pz,↓reduceIte,Q0_,Q1_,Q2_,Q3_,Q4_,Q5_,Q6_,Q7_,Q8_,yY_,y0_,hi',hT,Option.toList_none,List.append_nil]
   | none =>
    rw [hh] at hT hz
    have k1:wayP (waysIn s area fr) ((i:Int)+1) < 0:=by
     rcases Int.lt_or_le (wayP (waysIn s area fr) ((i:Int)+1)) 0 with h | h
     ·exact h
     ·have:=hz.2 (by omega);cases this
    simp only [] at hT
    by_cases k2:(i:Int)+1=fr
    ·rw [if_neg (by simp [k2])]
     subst k2
     simp (disch:=omega) only [↓pq,↓pj,ps,pz,↓reduceIte,Q0_,Q1_,Q2_,Q3_,Q4_,Q5_,Q6_,Q7_,Q8_,yY_,y0_,hi',hT,eq_self,Option.toList_none,List.append_nil,bF_]
    rw [if_pos (by simp [k1,k2]),alp_]
    cases hu:wayO (within s c fr) ((i:Int)+1) with
    | some w =>
     rw [hu] at hU
     have hwt:=(wa_ hu).2
     simp only [eWay,List.cons_append,List.nil_append] at hU
     rw [Option.some_or]
     simp only [Option.map_some,Option.toList_some,wx_,hwt]
     simp (disch:=omega) only [↓pq,↓pj,ps,pz,↓reduceIte,Q0_,Q1_,Q2_,Q3_,Q4_,Q5_,Q6_,Q7_,Q8_,yY_,y0_,hi',hT,hU,k2,bF_,hlit]
    | none =>
     rw [hu] at hU
     simp only [] at hU
     rw [Option.none_or]
     by_cases k3:area=0
     ·rw [if_pos k3]
      subst k3
      rw [show wayO [] ((i:Int)+1)=none from rfl]
      simp (disch:=omega) only [↓pq,↓pj,ps,pz,↓reduceIte,Q0_,Q1_,Q2_,Q3_,Q4_,Q5_,Q6_,Q7_,Q8_,yY_,y0_,hi',hT,hU,k2,eq_self,bF_,Option.map_none,Option.toList_none,List.append_nil]
     ·rw [if_neg k3]
      cases hv:wayO (beyond s A true fr) ((i:Int)+1) with
      | none =>
       rw [hv] at hV
       simp only [] at hV
       simp (disch:=omega) only [↓pq,↓pj,ps,pz,↓reduceIte,Q0_,Q1_,Q2_,Q3_,Q4_,Q5_,Q6_,Q7_,Q8_,yY_,y0_,hi',hT,hU,hV,k2,k3,bF_,Option.map_none,Option.toList_none,List.append_nil]
      | some w =>
       rw [hv] at hV
       have hwt:=(wa_ hv).2
       simp only [eWay,List.cons_append,List.nil_append] at hV
       simp only [Option.map_some,Option.toList_some,wx_,hwt]
       simp (disch:=omega) only [↓pq,↓pj,ps,pz,↓reduceIte,Q0_,Q1_,Q2_,Q3_,Q4_,Q5_,Q6_,Q7_,Q8_,yY_,y0_,hi',hT,hU,hV,k2,k3,bF_,hlit]
  ·intro D q hD
   simp (disch:=omega) only [↓pq,↓pj,ps,pz,↓reduceIte,Q0_,Q1_,Q2_,Q3_,Q4_,Q5_,Q6_,Q7_,Q8_,yY_,y0_,]
  ·rw [kb_ (fun i:Nat=>(qY_ (waysIn s area fr) area fr (within s c fr++if area=0 then [] else beyond s A true fr) ((i:Int)+1)).toList),List.nil_append,ako_]
   unfold y1_
   rw [aew_,List.filterMap_map]
   rfl
 ·rw [ww_,List.nil_append,if_pos (by have:=List.length_filter_le (fun a=>!(a == area)) A;omega)]
  rfl
end Go.Proofs.YtjimmglpkndemaaGreatC
