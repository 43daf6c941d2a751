/- What a node at a v4_ tells, by both programs. Conditions: none. -/
import Derived.Test.YtjimmglpkndemaaGreatXSJ
namespace Go.Proofs.YtjimmglpkndemaaGreatC
open Int renaming reduceLE -> af, reduceLT -> ah, reduceEq -> ai, reduceGT -> aj, reduceGE -> ak, reduceAdd -> ap, reduceSub -> aq, reduceMul -> au, reduceNeg -> av
set_option linter.unusedVariables false
set_option linter.unusedSimpArgs false
def sr(ae fr:Int)(w:Way):ay:=⟨ae,2,fr,w.to,0,[],w.cost,false⟩
def wx(here:List Way)(fr:Int)(k:Int):Bool:=decide (dY here k<0)&&decide (k≠fr)
def A7(here:List Way)(ae fr:Int)(W:List Way)(k:Int):Option ay:=if wx here fr k=true then(cY W k).map (sr ae fr)else none
def lI(here:List Way)(ae fr:Int)(W:List Way):List ay:=xd.filterMap (A7 here ae fr W)
theorem RD{here:List Way}{ae fr:Int}{W:List Way}{k:Int}{r:ay}(h:A7 here ae fr W k=some r):r.key=k∧r.ae=ae∧r.kind=2∧r.owner=fr∧r.bf=[]∧r.seq=0∧r.eY=false∧wx here fr k=true∧∃w,cY W k=some w∧r=sr ae fr w:=by
 unfold A7 at h
 split at h
 ·rename_i hc
  obtain⟨w,hw,e⟩:=Option.map_eq_some_iff.1 h
  subst e
  exact⟨(xf hw).2,rfl,rfl,rfl,rfl,rfl,rfl,hc,w,hw,rfl⟩
 ·cases h
theorem jt{here:List Way}{ae fr:Int}{W:List Way}{r:ay}:r∈lI here ae fr W↔(1<=r.key∧r.key<=6)∧A7 here ae fr W r.key=some r:=by
 unfold lI
 rw[List.mem_filterMap]
 constructor
 ·rintro⟨k,hk,h⟩
  have:=(RD h).1
  subst this
  exact⟨iy.1 hk,h⟩
 ·rintro⟨h1,h2⟩
  exact⟨r.key,iy.2 h1,h2⟩
theorem X8(here:List Way)(ae fr:Int)(W:List Way):(lI here ae fr W).Pairwise λa b=>a.key<b.key:=by
 unfold lI
 rw[List.pairwise_filterMap]
 refine pc.imp λ{a b} nE x hx y hy=>?_
 rw[(RD hx).1,(RD hy).1]
 exact nE
theorem O3(here:List Way)(ae fr:Int)(W:List Way):(lI here ae fr W).length<=6:=List.length_filterMap_le _ _
theorem O4{here:List Way}{ae fr:Int}{W:List Way}{r:ay}(h:r∈lI here ae fr W):r.ae=ae∧r.kind=2∧r.owner=fr∧r.bf=[]:=by
 have:=RD (jt.1 h).2
 exact⟨this.2.1,this.2.2.1,this.2.2.2.1,this.2.2.2.2.1⟩
theorem O5(here:List Way)(ae fr:Int)(W:List Way):jk (lI here ae fr W):=by
 unfold jk
 refine(X8 here ae fr W).imp_of_mem λ{a b} ha hb nE=>?_
 have h1:=O4 ha
 have h2:=O4 hb
 rw[rf]
 omega
theorem X9(here:List Way)(ae fr:Int)(W:List Way):bh (lI here ae fr W):=λr hr=>by
 rw[(O4 hr).2.2.2];simp
theorem Io(W:List Way)(w:Way)(k:Int):cY (W++[w]) k=(cY W k).or (if w.to=k then some w else none):=by
 rw[XX]
 congr 1
 rw[D6]
 simp only[List.find?_cons,List.find?_nil]
 by_cases h:w.to=k
 ·simp[h]
 ·have:(w.to==k)=false:=by simpa using h
  rw[this,if_neg h]
theorem RE{here:List Way}{ae fr:Int}{W:List Way}{w:Way}(h:wx here fr w.to=false∨(cY W w.to).isSome=true):lI here ae fr (W++[w])=lI here ae fr W:=by
 unfold lI
 refine congrArg (λf=>List.filterMap f xd) (funext λk=>?_)
 unfold A7
 by_cases hk:wx here fr k=true
 ·rw[if_pos hk,if_pos hk,Io]
  by_cases e:w.to=k
  ·subst e
   rcases h with h|h
   ·rw[h]at hk;cases hk
   ·rw[Option.or_of_isSome h]
  ·rw[if_neg e,Option.or_none]
 ·rw[if_neg hk,if_neg hk]
theorem X_{here:List Way}{ae fr:Int}{W:List Way}{w:Way}(hw:1<=w.to∧w.to<=6)(h1:wx here fr w.to=true)(h2:cY W w.to=none):lI here ae fr (W++[w])=dx (lI here ae fr W) (sr ae fr w):=by
 have hs:=Jq (O5 here ae fr W) (sr ae fr w)
 refine OL ay.key (X8 _ _ _ _) ?_ λr=>?_
 ·refine hs.imp_of_mem λ{a b} ha hb nE=>?_
  have hm:∀x,x∈dx (lI here ae fr W) (sr ae fr w)->x.ae=ae∧x.kind=2∧x.owner=fr:=by
   intro x hx
   rcases zt hx with rfl|hx
   ·exact⟨rfl,rfl,rfl⟩
   ·have:=O4 hx;exact⟨this.1,this.2.1,this.2.2.1⟩
  have h1:=hm a ha
  have h2:=hm b hb
  rw[rf]at nE
  omega
 ·have hp:r∈dx (lI here ae fr W) (sr ae fr w)↔r=sr ae fr w∨(r∈lI here ae fr W∧r.key≠w.to):=by
   unfold dx
   simp only[List.mem_append,List.mem_filter,List.mem_singleton]
   constructor
   ·rintro(⟨h,q⟩|h|⟨h,q⟩)
    ·have hx:=O4 h
     rw[rf]at q
     simp only[sr]at q
     exact .inr ⟨h,by omega⟩
    ·exact .inl h
    ·have hx:=O4 h
     rw[rf]at q
     simp only[sr]at q
     exact .inr ⟨h,by omega⟩
   ·rintro(h|⟨h,q⟩)
    ·exact .inr (.inl h)
    ·have hx:=O4 h
     rcases Int.lt_or_gt_of_ne q with q|q
     ·exact .inl ⟨h,by rw[rf];simp only[sr];omega⟩
     ·exact .inr (.inr ⟨h,by rw[rf];simp only[sr];omega⟩)
  rw[hp,jt,jt]
  unfold A7
  constructor
  ·rintro⟨hk,h⟩
   split at h
   ·rename_i hc
    rw[Io]at h
    by_cases e:w.to=r.key
    ·rw[if_pos e,<-e,h2,Option.none_or]at h
     simp only[Option.map_some,bF]at h
     exact .inl h.symm
    ·rw[if_neg e,Option.or_none]at h
     exact .inr ⟨⟨hk,by rw[if_pos hc];exact h⟩,λe'=>e e'.symm⟩
   ·cases h
  ·rintro(rfl|⟨⟨hk,h⟩,dI⟩)
   ·refine⟨hw,?_⟩
    show(if wx here fr w.to=true then _ else none)=_
    rw[if_pos h1]
    show(cY (W++[w]) w.to).map _=_
    rw[Io,h2,if_pos rfl]
    rfl
   ·refine⟨hk,?_⟩
    have e1:cY (W++[w]) r.key=cY W r.key:=by rw[Io,if_neg (λe:w.to=r.key=>dI e.symm),Option.or_none]
    rw[e1]
    exact h
def X'(A:List Int)(ae:Int):List Int:=A.filter λa=>!(a==ae)
def Ip(s:List ay)(A:List Int)(fr ae:Int):List Way:=within s (X' A ae) fr++if ae=0 then []else beyond s A true fr
def cr(s:List ay)(A:List Int)(fr ae:Int):List ay:=lI (aH s ae fr) ae fr (Ip s A fr ae)
theorem Yd(here:List Way)(ae fr:Int):lI here ae fr []=[]:=by
 unfold lI
 rw[List.filterMap_eq_nil_iff]
 intro k _
 unfold A7
 have:cY [] k=none:=rfl
 rw[this]
 split<;>rfl
theorem ao'(W:List Way)(k:Int):(cY W k).isSome=true↔¬dY W k<0:=by
 unfold cY
 split<;>simp_all
theorem Yf{here:List Way}{ae fr:Int}{W:List Way}{w:Way}(hw:1<=w.to∧w.to<=6)(h1:wx here fr w.to=true):bG (lI here ae fr W) (sr ae fr w)<0↔cY W w.to=none:=by
 unfold bG
 rw[EN]
 constructor
 ·intro h
  cases e:cY W w.to with
  |none=>rfl
  |some v=>
   have hv:=(xf e).2
   have hm:sr ae fr v∈lI here ae fr W:=jt.2 ⟨by show 1<=v.to∧v.to<=6;omega,by
    show A7 here ae fr W v.to=_
    unfold A7
    rw[hv,if_pos h1,e];rfl⟩
   have:=h _ hm
   simp[dZ,sr,hv]at this
 ·intro h x hx
  have h2:=jt.1 hx
  obtain⟨h3,_,_,_,_,_,_,_,v,h4,h5⟩:=RD h2.2
  cases hs:dZ x (sr ae fr w)with
  |false=>rfl
  |true=>
   have:x.key=w.to:=by simp only[dZ,bI,decide_eq_true_eq]at hs;exact hs.2.2.2
   rw[this,h]at h4;cases h4
theorem apa(s:List ay)(A:List Int)(fr ae:Int)(h:s.length<=1048576)(hn:bh s)(ha:A.length<=1048576):Ri [.l (s.map aC),.l (A.map aD),ii fr,ii ae]=some [.l ((cr s A fr ae).map aC)]:=by
 rw[ana];simp(disch:=omega) only[↓pq,↓pj,ps,pz,↓reduceIte,af,ah,ai,aj,ak,ap,aq,au,av,w9,w_,xa,NW]
 refine(g_ A (λj c=>[.l (c.map aD),ii j]) (λc a=>if(!(a==ae))=true then c++[a]else c) (λc=>if c.length<=1048576 then some [T.l ((lI (aH s ae fr) ae fr (within s c fr++if ae=0 then []else beyond s A true fr)).map aC)]else none) [] (λj c=>c.length<=j) rfl (dh ha) (by simp) ?_ ?_).trans ?_
 ·intro j c hj hc
  refine⟨by split;(· simp;omega);(· omega),λq=>?_⟩
  by_cases k:gt A j=ae
  ·have:(!(gt A j==ae))=false:=by simpa using k
   rw[this]
   simp(disch:=omega) only[↓pq,↓pj,ps,pz,↓reduceIte,af,ah,ai,aj,ak,ap,aq,au,av,w9,w_,xa,hj,k,cI]
  ·have:(!(gt A j==ae))=true:=by simpa using k
   rw[this]
   simp(disch:=omega) only[↓pq,↓pj,ps,pz,↓reduceIte,af,ah,ai,aj,ak,ap,aq,au,av,w9,w_,xa,hj,k]
 ·intro c q hc
  rw[if_pos (by omega)]
  have hH:=OC s ae fr h hn
  have XI:=OT (s:=s) (A:=c) (fr:=fr)
  have hBl:=D9 (s:=s) (A:=A) (z:=true) (fr:=fr)
  have hT:=λk:Int=>HU (aH s ae fr) k (by have:=OV (s:=s) (a:=ae) (fr:=fr);omega) OU
  simp(disch:=omega) only[↓pq,↓pj,ps,pz,↓reduceIte,af,ah,ai,aj,ak,ap,aq,au,av,w9,w_,xa,hH,kX_ s c fr h hn (by omega)]
  refine(g_ (within s c fr) (λj P=>[ii j,.l ((lI (aH s ae fr) ae fr P).map aC),.l ((within s c fr).map br)]) (λP w=>P++[w]) (λP=>some [T.l ((lI (aH s ae fr) ae fr (P++if ae=0 then []else beyond s A true fr)).map aC)]) [] (λ_ _=>True) (by rw[Yd];rfl) (dh (by omega)) trivial ?_ ?_).trans (by rw[OO,List.nil_append])
  ·intro j P hj _
   refine⟨trivial,λq=>?_⟩
   have hm:=(Ii (gZ (l:=within s c fr) (n:=(j:Int)) (by omega) hj)).1
   generalize hw:gt (within s c fr) (j:Int)=w at hm
   have hTl:=O3 (aH s ae fr) ae fr P
   have hk:=Oi (lI (aH s ae fr) ae fr P) ae 2 fr w.to (ii 0) (.l []) (ii w.cost) (bb false) (by omega)
   rw[show dz (λx=>dZ x ⟨ae,2,fr,w.to,0,[],0,false⟩) (lI (aH s ae fr) ae fr P)=bG (lI (aH s ae fr) ae fr P) (sr ae fr w) from rfl]at hk
   have hp:=HQ (lI (aH s ae fr) ae fr P) ae 2 fr w.to 0 [] w.cost false (by omega) (X9 _ _ _ _) (O5 _ _ _ _) (by simp)
   rw[show(⟨ae,2,fr,w.to,0,[],w.cost,false⟩:ay)=sr ae fr w from rfl]at hp
   rw[List.map_nil]at hp
   have hT:=hT w.to
   by_cases k1:dY (aH s ae fr) w.to<0
   ·rw[if_pos k1]at hT
    by_cases k2:w.to=fr
    ·rw[RE (.inl (by unfold wx;simp[k2]))]
     rw[k2]at hT
     simp(disch:=omega) only[↓pq,↓pj,ps,pz,↓reduceIte,af,ah,ai,aj,ak,ap,aq,au,av,w9,w_,xa,hj,hw,hT,k2,cI]
    ·have ht:wx (aH s ae fr) fr w.to=true:=by unfold wx;simp[k1,k2]
     have jT:=Yf (ae:=ae) (W:=P) hm ht
     cases ho:cY P w.to with
     |none=>
      rw[X_ hm ht ho]
      have jT:=jT.2 ho
      simp(disch:=omega) only[↓pq,↓pj,ps,pz,↓reduceIte,af,ah,ai,aj,ak,ap,aq,au,av,w9,w_,xa,hj,hw,hT,k2,cI,hk,jT,hp]
     |some v=>
      rw[RE (.inr (by rw[ho];rfl))]
      have jT:¬bG (lI (aH s ae fr) ae fr P) (sr ae fr w)<0:=λh=>by rw[jT.1 h]at ho;cases ho
      simp(disch:=omega) only[↓pq,↓pj,ps,pz,↓reduceIte,af,ah,ai,aj,ak,ap,aq,au,av,w9,w_,xa,hj,hw,hT,k2,cI,hk,jT]
   ·rw[if_neg k1]at hT
    simp only[br,List.cons_append,List.nil_append]at hT
    rw[RE (.inl (by unfold wx;simp[k1]))]
    simp(disch:=omega) only[↓pq,↓pj,ps,pz,↓reduceIte,af,ah,ai,aj,ak,ap,aq,au,av,w9,w_,xa,hj,hw,hT]
  ·intro P q _
   by_cases k0:ae=0
   ·rw[if_pos k0,List.append_nil]
    simp(disch:=omega) only[↓pq,↓pj,ps,pz,↓reduceIte,af,ah,ai,aj,ak,ap,aq,au,av,w9,w_,xa,k0]
   ·rw[if_neg k0]
    simp(disch:=omega) only[↓pq,↓pj,ps,pz,↓reduceIte,af,ah,ai,aj,ak,ap,aq,au,av,w9,w_,xa,k0,XW s A true fr h hn ha]
    refine(g_ (beyond s A true fr) (λj P=>[ii j,.l ((lI (aH s ae fr) ae fr P).map aC),.l ((beyond s A true fr).map br)]) (λP w=>P++[w]) (λP=>some [T.l ((lI (aH s ae fr) ae fr P).map aC)]) P (λ_ _=>True) rfl (dh (by omega)) trivial ?_ ?_).trans (by rw[OO])
    ·intro j P hj _
     refine⟨trivial,λq=>?_⟩
     have hm:=(D8 (gZ (l:=beyond s A true fr) (n:=(j:Int)) (by omega) hj)).1
     generalize hw:gt (beyond s A true fr) (j:Int)=w at hm
     have hTl:=O3 (aH s ae fr) ae fr P
     have hk:=Oi (lI (aH s ae fr) ae fr P) ae 2 fr w.to (ii 0) (.l []) (ii w.cost) (bb false) (by omega)
     rw[show dz (λx=>dZ x ⟨ae,2,fr,w.to,0,[],0,false⟩) (lI (aH s ae fr) ae fr P)=bG (lI (aH s ae fr) ae fr P) (sr ae fr w) from rfl]at hk
     have hp:=HQ (lI (aH s ae fr) ae fr P) ae 2 fr w.to 0 [] w.cost false (by omega) (X9 _ _ _ _) (O5 _ _ _ _) (by simp)
     rw[show(⟨ae,2,fr,w.to,0,[],w.cost,false⟩:ay)=sr ae fr w from rfl]at hp
     rw[List.map_nil]at hp
     have hT:=hT w.to
     by_cases k1:dY (aH s ae fr) w.to<0
     ·rw[if_pos k1]at hT
      by_cases k2:w.to=fr
      ·rw[RE (.inl (by unfold wx;simp[k2]))]
       rw[k2]at hT
       simp(disch:=omega) only[↓pq,↓pj,ps,pz,↓reduceIte,af,ah,ai,aj,ak,ap,aq,au,av,w9,w_,xa,hj,hw,hT,k2,cI]
      ·have ht:wx (aH s ae fr) fr w.to=true:=by unfold wx;simp[k1,k2]
       have jT:=Yf (ae:=ae) (W:=P) hm ht
       cases ho:cY P w.to with
       |none=>
        rw[X_ hm ht ho]
        have jT:=jT.2 ho
        simp(disch:=omega) only[↓pq,↓pj,ps,pz,↓reduceIte,af,ah,ai,aj,ak,ap,aq,au,av,w9,w_,xa,hj,hw,hT,k2,cI,hk,jT,hp]
       |some v=>
        rw[RE (.inr (by rw[ho];rfl))]
        have jT:¬bG (lI (aH s ae fr) ae fr P) (sr ae fr w)<0:=λh=>by rw[jT.1 h]at ho;cases ho
        simp(disch:=omega) only[↓pq,↓pj,ps,pz,↓reduceIte,af,ah,ai,aj,ak,ap,aq,au,av,w9,w_,xa,hj,hw,hT,k2,cI,hk,jT]
     ·rw[if_neg k1]at hT
      simp only[br,List.cons_append,List.nil_append]at hT
      rw[RE (.inl (by unfold wx;simp[k1]))]
      simp(disch:=omega) only[↓pq,↓pj,ps,pz,↓reduceIte,af,ah,ai,aj,ak,ap,aq,au,av,w9,w_,xa,hj,hw,hT]
    ·intro P q _
     simp(disch:=omega) only[↓pq,↓pj,ps,pz,↓reduceIte,af,ah,ai,aj,ak,ap,aq,au,av,w9,w_,xa,]
 ·rw[Dx,List.nil_append,if_pos (by have:=List.length_filter_le (λa=>!(a==ae)) A;omega)]
  rfl
theorem apb{s:List ay}(hs:eA s=false)(A:List Int)(fr ae:Int):cr s A fr ae=[]:=by
 have hw:∀a,aH s a fr=[]:=λa=>by unfold aH;rw[if_neg (by rw[hs];simp)]
 have h1:∀A,mU s A fr=[]:=λA=>by unfold mU;rw[List.flatMap_eq_nil_iff];intro a _;exact hw a
 have h2:∀A,within s A fr=[]:=λA=>by unfold within;rw[h1];rfl
 have h3:beyond s A true fr=[]:=by
  unfold beyond
  have:B8 s A true fr=[]:=by
   unfold B8
   rw[List.filterMap_eq_nil_iff]
   intro x hx
   cases e:gV s A true fr x with
   |none=>rfl
   |some w=>
    obtain⟨_,y,hy,_⟩:=OR e
    have:=(Ih hy).2.2.2.2
    rw[hs]at this;cases this
  rw[this];rfl
 unfold cr Ip
 rw[h2,h3]
 have:(if ae=0 then([]:List Way)else [])=[]:=by split<;>rfl
 rw[this]
 exact Yd _ _ _
theorem O6{W:List Way}(hl:W.length<=1048576)(hW:∀w∈W,w.aF.length<=1048576)(k:Int):wZ [.l (W.map br),ii k]=some (match cY W k with|none=>[ii 0,ii 0,.l [],bb false]|some w=>br w++[bb true]):=by
 rw[HV W k hl hW]
 unfold cY
 split<;>rfl
theorem Yi(s:List ay)(A:List Int)(fr ae:Int)(h:s.length<=1048576)(hn:bh s)(ha:A.length<=1048576):GQ [.l (s.map aC),.l (A.map aD),ii fr,ii ae]=some [.l ((cr s A fr ae).map aC)]:=by
 rw[akZ];simp(disch:=omega) only[↓pq,↓pj,ps,pz,↓reduceIte,af,ah,ai,aj,ak,ap,aq,au,av,zk,zl,MV,HH _ h hn]
 cases hs:eA s with
 |false=>rw[apb hs];simp(disch:=omega) only[↓pq,↓pj,ps,pz,↓reduceIte,af,ah,ai,aj,ak,ap,aq,au,av,zk,zl,cI];rfl
 |true=>
 simp(disch:=omega) only[↓pq,↓pj,ps,pz,↓reduceIte,af,ah,ai,aj,ak,ap,aq,au,av,zk,zl,]
 refine(g_ A (λj c=>[.l (c.map aD),ii j]) (λc a=>if(!(a==ae))=true then c++[a]else c) (λc=>if c.length<=1048576 then some [T.l ((lI (aH s ae fr) ae fr (within s c fr++if ae=0 then []else beyond s A true fr)).map aC)]else none) [] (λj c=>c.length<=j) rfl (dh ha) (by simp) ?_ ?_).trans ?_
 ·intro j c hj hc
  refine⟨by split;(· simp;omega);(· omega),λq=>?_⟩
  by_cases k:gt A j=ae
  ·have:(!(gt A j==ae))=false:=by simpa using k
   rw[this]
   simp(disch:=omega) only[↓pq,↓pj,ps,pz,↓reduceIte,af,ah,ai,aj,ak,ap,aq,au,av,zk,zl,hj,k,cI]
  ·have:(!(gt A j==ae))=true:=by simpa using k
   rw[this]
   simp(disch:=omega) only[↓pq,↓pj,ps,pz,↓reduceIte,af,ah,ai,aj,ak,ap,aq,au,av,zk,zl,hj,k]
 ·intro c q hc
  rw[if_pos (by omega)]
  have XI:=OT (s:=s) (A:=c) (fr:=fr)
  have hBl:=D9 (s:=s) (A:=A) (z:=true) (fr:=fr)
  have hT:=λk:Int=>O6 (W:=aH s ae fr) (by have:=OV (s:=s) (a:=ae) (fr:=fr);omega) OU k
  have hU:=λk:Int=>O6 (W:=within s c fr) (by omega) OS k
  have hV:=λk:Int=>O6 (W:=beyond s A true fr) (by omega) (λw hw=>by have:=sf (D8 hw).2.1;omega) k
  simp(disch:=omega) only[↓pq,↓pj,ps,pz,↓reduceIte,af,ah,ai,aj,ak,ap,aq,au,av,zk,zl,OJ s ae fr h hn,XQ s c fr h hn (by omega),aoL s A true fr h hn ha]
  refine(rZ 6 (λi D=>[.l (D.map aC),ii (i+1)]) (λD i=>D++(A7 (aH s ae fr) ae fr (within s c fr++if ae=0 then []else beyond s A true fr) ((i:Int)+1)).toList) (λD=>some [T.l (D.map aC)]) [] (λi D=>D.length<=i) rfl (dh (by omega)) (by simp) ?_ ?_).trans ?_
  ·intro i D hi hD
   have aO:(i:Int)+1<=6:=by omega
   have hT:=hT ((i:Int)+1)
   have hU:=hU ((i:Int)+1)
   have hV:=hV ((i:Int)+1)
   refine⟨by cases A7 (aH s ae fr) ae fr (within s c fr++if ae=0 then []else beyond s A true fr) ((i:Int)+1)<;>simp<;>omega,λq=>?_⟩
   have oZ:∀c:Int,Prim.ev (.lit 8 [true,true,true,true,true,false,true,true]) [ii ae,ii 2,ii fr,ii ((i:Int)+1),ii 0,.l [],ii c,bb false]=some (.l ([(⟨ae,2,fr,(i:Int)+1,0,[],c,false⟩:ay)].map aC)):=λc=>V3 ae 2 fr ((i:Int)+1) 0 [] c false
   unfold A7 wx
   have hz:(cY (aH s ae fr) ((i:Int)+1)).isSome=true↔¬dY (aH s ae fr) ((i:Int)+1)<0:=ao' _ _
   cases hh:cY (aH s ae fr) ((i:Int)+1)with
   |some w=>
    rw[hh]at hT hz
    have k1:¬dY (aH s ae fr) ((i:Int)+1)<0:=hz.1 rfl
    simp only[br,List.cons_append,List.nil_append]at hT
    rw[if_neg (by simp[k1])]
    simp(disch:=omega) only[↓pq,↓pj,ps,pz,↓reduceIte,af,ah,ai,aj,ak,ap,aq,au,av,zk,zl,aO,hT,Option.toList_none,List.append_nil]
   |none=>
    rw[hh]at hT hz
    have k1:dY (aH s ae fr) ((i:Int)+1)<0:=by
     rcases Int.lt_or_le (dY (aH s ae fr) ((i:Int)+1)) 0 with h|h
     ·exact h
     ·have:=hz.2 (by omega);cases this
    simp only[]at hT
    by_cases k2:(i:Int)+1=fr
    ·rw[if_neg (by simp[k2])]
     subst k2
     simp(disch:=omega) only[↓pq,↓pj,ps,pz,↓reduceIte,af,ah,ai,aj,ak,ap,aq,au,av,zk,zl,aO,hT,eq_self,Option.toList_none,List.append_nil,cI]
    rw[if_pos (by simp[k1,k2]),XX]
    cases hu:cY (within s c fr) ((i:Int)+1)with
    |some w=>
     rw[hu]at hU
     have LH:=(xf hu).2
     simp only[br,List.cons_append,List.nil_append]at hU
     rw[Option.some_or]
     simp only[Option.map_some,Option.toList_some,sr,LH]
     simp(disch:=omega) only[↓pq,↓pj,ps,pz,↓reduceIte,af,ah,ai,aj,ak,ap,aq,au,av,zk,zl,aO,hT,hU,k2,cI,oZ]
    |none=>
     rw[hu]at hU
     simp only[]at hU
     rw[Option.none_or]
     by_cases k3:ae=0
     ·rw[if_pos k3]
      subst k3
      rw[show cY [] ((i:Int)+1)=none from rfl]
      simp(disch:=omega) only[↓pq,↓pj,ps,pz,↓reduceIte,af,ah,ai,aj,ak,ap,aq,au,av,zk,zl,aO,hT,hU,k2,eq_self,cI,Option.map_none,Option.toList_none,List.append_nil]
     ·rw[if_neg k3]
      cases hv:cY (beyond s A true fr) ((i:Int)+1)with
      |none=>
       rw[hv]at hV
       simp only[]at hV
       simp(disch:=omega) only[↓pq,↓pj,ps,pz,↓reduceIte,af,ah,ai,aj,ak,ap,aq,au,av,zk,zl,aO,hT,hU,hV,k2,k3,cI,Option.map_none,Option.toList_none,List.append_nil]
      |some w=>
       rw[hv]at hV
       have LH:=(xf hv).2
       simp only[br,List.cons_append,List.nil_append]at hV
       simp only[Option.map_some,Option.toList_some,sr,LH]
       simp(disch:=omega) only[↓pq,↓pj,ps,pz,↓reduceIte,af,ah,ai,aj,ak,ap,aq,au,av,zk,zl,aO,hT,hU,hV,k2,k3,cI,oZ]
  ·intro D q hD
   simp(disch:=omega) only[↓pq,↓pj,ps,pz,↓reduceIte,af,ah,ai,aj,ak,ap,aq,au,av,zk,zl,]
  ·rw[ON (λi:Nat=>(A7 (aH s ae fr) ae fr (within s c fr++if ae=0 then []else beyond s A true fr) ((i:Int)+1)).toList),List.nil_append,D4]
   unfold lI
   rw[DY,List.filterMap_map]
   rfl
 ·rw[Dx,List.nil_append,if_pos (by have:=List.length_filter_le (λa=>!(a==ae)) A;omega)]
  rfl
theorem Yj{α:Type} [Inhabited α]{ok:α->Bool}{lt:α->α->Bool}(tr:∀a b c,lt a b=true->lt b c=true->lt a c=true){l:List α}(h:dK ok lt l=true):l.Pairwise λa b=>lt a b=true:=by
 have h:=ca.1 h
 rw[List.pairwise_iff_getElem]
 have step:∀i,(hi:i+1<l.length)->lt l[i] l[i+1]=true:=by
  intro i hi
  have:=h (i+1) hi
  simp only[bI,Bool.or_eq_true,Bool.not_eq_true',decide_eq_false_iff_not]at this
  have h2:=this.2.resolve_left (by omega)
  rwa[show(((i+1:Nat):Int)-1)=(i:Int) by omega,ed (by omega),ed hi]at h2
 intro i j hi hj qu
 obtain⟨d,rfl⟩:∃d,j=i+1+d:=⟨j-i-1,by omega⟩
 clear qu
 induction d with
 |zero=>exact step i (by omega)
 |succ d ih=>exact tr _ _ _ (ih (by omega)) (step (i+1+d) (by omega))
theorem Ea{α:Type} [Inhabited α]{ok:α->Bool}{lt:α->α->Bool}{l:List α}(h1:∀x∈l,ok x=true)(h2:l.Pairwise λa b=>lt a b=true):dK ok lt l=true:=by
 unfold dK
 rw[ca]
 intro i hi
 rw[ed hi]
 simp only[bI,Bool.or_eq_true,Bool.not_eq_true',decide_eq_false_iff_not]
 refine⟨h1 _ (List.getElem_mem hi),?_⟩
 rcases Nat.eq_zero_or_pos i with h0|h0
 ·exact .inl (by omega)
 ·right
  rw[show((i:Int)-1)=((i-1:Nat):Int) by omega,ed (by omega)]
  exact List.pairwise_iff_getElem.1 h2 (i-1) i (by omega) hi (by omega)
theorem apc{n:Int}{ls:List bC}(h:dK (lH n) iH ls=true):ls.Pairwise λa b=>iH a b=true:=
 Yj (λa b c h1 h2=>by simp only[iH,decide_eq_true_eq]at *;omega) h
theorem gx{a b ar:Int}{l:bC}:eh a b ar l=true↔l.ae=ar∧(l.a=a∧l.b=b∨l.a=b∧l.b=a):=by
 unfold eh
 simp only[bI,Bool.or_eq_true,beq_iff_eq]
theorem apd{n:Int}{ls:List bC}(h:dK (lH n) iH ls=true){a b ar:Int}{i j:Nat}(hi:i<ls.length)(hj:j<ls.length)(h1:eh a b ar ls[i]=true)(h2:eh a b ar ls[j]=true):i=j:=by
 have hp:=List.pairwise_iff_getElem.1 (apc h)
 have q1:=yw h (List.getElem_mem hi)
 have q2:=yw h (List.getElem_mem hj)
 rw[gx]at h1 h2
 rcases Nat.lt_trichotomy i j with qu|qu|qu
 ·have:=hp i j hi hj qu
  simp only[iH,decide_eq_true_eq]at this
  omega
 ·exact qu
 ·have:=hp j i hj hi qu
  simp only[iH,decide_eq_true_eq]at this
  omega
theorem A8{α:Type} [Inhabited α]{p:α->Bool}{l:List α}{x:α}(hx:x∈l)(h:p x=true):0<=dz p l:=by
 rcases Int.lt_or_le (dz p l) 0 with h1|h1
 ·have:=(EN _ _).1 h1 x hx
  rw[h]at this;cases this
 ·exact h1
theorem Yk{n:Int}{ls:List bC}(h:dK (lH n) iH ls=true)(node v a:Int):lT ls node v a>0↔∃x∈ls,eh node v a x=true:=by
 have hz:=Xf h node v a
 constructor
 ·intro hc
  have h0:0<=dz (eh node v a) ls:=by
   rcases Int.lt_or_le (dz (eh node v a) ls) 0 with h1|h1
   ·have:=hz.2 h1;omega
   ·exact h1
  exact⟨_,gZ h0 (rz _ _),tE _ _ h0⟩
 ·rintro⟨x,hx,e⟩
  have h0:=A8 hx e
  have h1:=yw h (gZ (l:=ls) (n:=dz (eh node v a) ls) (by omega) (rz _ _))
  unfold lT
  rw[if_neg (by omega)]
  omega
def tI(ls:List bC)(L:List Bool)(a b ar:Int):Int:=
 if dz (eh a b ar) ls<0 then 0 else if gt L (dz (eh a b ar) ls)=true then(gt ls (dz (eh a b ar) ls)).cost else 0
theorem Yr{n:Int}{ls:List bC}(h:dK (lH n) iH ls=true){L:List Bool}{a b ar:Int}(h0:tI ls L a b ar>0):lT ls a b ar>0∧tI ls L a b ar=lT ls a b ar∧lT ls a b ar<=1000∧gt L (dz (eh a b ar) ls)=true∧0<=dz (eh a b ar) ls:=by
 unfold tI at h0⊢
 unfold lT
 by_cases h1:dz (eh a b ar) ls<0
 ·rw[if_pos h1]at h0;omega
 ·rw[if_neg h1]at h0⊢
  rw[if_neg h1]
  by_cases h2:gt L (dz (eh a b ar) ls)=true
  ·rw[if_pos h2]at h0⊢
   have:=yw h (gZ (l:=ls) (n:=dz (eh a b ar) ls) (by omega) (rz _ _))
   exact⟨by omega,rfl,by omega,h2,by omega⟩
  ·rw[if_neg h2]at h0;omega
def A9(ls:List bC)(L U:List Bool)(node a:Int):List cw:=(xd.filter λv=>decide (tI ls L node v a>0)&&gt U (v-1)).map λv=>⟨v,tI ls L node v a⟩
theorem O7{o:Int}{l:List cw}(h1:∀x∈l,(1<=x.to∧x.to<=6)∧x.to≠o∧1<=x.cost∧x.cost<=1000)(h2:l.Pairwise λa b=>a.to<b.to):wm o l=true:=by
 unfold wm
 rw[ca]
 intro i hi
 have h3:=h1 _ (List.getElem_mem hi)
 rw[ed hi]
 simp only[bI,Bool.or_eq_true,Bool.not_eq_true',decide_eq_false_iff_not,aZ,decide_eq_true_eq]
 refine⟨⟨⟨h3.1,h3.2.1⟩,h3.2.2⟩,?_⟩
 rcases Nat.eq_zero_or_pos i with h0|h0
 ·exact .inl (by omega)
 ·right
  rw[show((i:Int)-1)=((i-1:Nat):Int) by omega,ed (by omega)]
  exact List.pairwise_iff_getElem.1 h2 (i-1) i (by omega) hi (by omega)
theorem ape{n:Int}{ls:List bC}(h:dK (lH n) iH ls=true)(L U:List Bool)(node a:Int):wm node (A9 ls L U node a)=true:=by
 unfold A9
 refine O7 ?_ ?_
 ·intro x hx
  obtain⟨v,hv,rfl⟩:=List.mem_map.1 hx
  obtain⟨h1,h2⟩:=List.mem_filter.1 hv
  rw[iy]at h1
  simp only[bI,decide_eq_true_eq]at h2
  have h3:=Yr h h2.1
  obtain⟨y,hy,e⟩:=(Yk h node v a).1 h3.1
  have h4:=yw h hy
  rw[gx]at e
  refine⟨h1,?_,?_,?_⟩
  ·show v≠node
   omega
  ·show 1<=tI ls L node v a
   omega
  ·show tI ls L node v a<=1000
   omega
 ·rw[List.pairwise_map]
  exact pc.filter _
def rE(r:ay):Bool:=r.kind==3
def iU(k:Nat)(s:List ay):Prop:=jk s∧(∀r∈s,fu r=true)∧(s.filter rE).length<=k
theorem apf{o:Int}{l:List cw}(h:wm o l=true):l.length<=6:=by
 rw[<-List.length_map (f:=cw.to)]
 refine A4 (n:=6) ?_ ?_
 ·rw[List.pairwise_map]
  exact XD h
 ·intro x hx
  obtain⟨y,hy,rfl⟩:=List.mem_map.1 hx
  exact(DS h hy).1
theorem Eb{r:ay}(h:fu r=true):r.bf.length<=6:=by
 unfold fu at h
 simp only[bI]at h
 have h:=h.2
 split at h
 ·simp only[bI]at h
  exact apf h.1.1.2
 ·split at h
  ·simp only[bI,decide_eq_true_eq]at h
   omega
  ·split at h
   ·simp only[bI,decide_eq_true_eq]at h
    omega
   ·cases h
theorem O8{r:ay}(h:fu r=true):(1<=r.owner∧r.owner<=6)∧(r.kind=1∧r.key=0∧0<=r.ae∧r.ae<=2∨r.kind=2∧(1<=r.key∧r.key<=6)∧0<=r.ae∧r.ae<=2∨r.kind=3):=by
 unfold fu at h
 simp only[bI,aZ]at h
 refine⟨h.1.1,?_⟩
 have h:=h.2
 split at h
 ·simp only[bI,aZ,decide_eq_true_eq]at h
  omega
 ·split at h
  ·simp only[bI,aZ,decide_eq_true_eq]at h
   omega
  ·split at h
   ·omega
   ·cases h
theorem iU.bf{k:Nat}{s:List ay}(h:iU k s):bh s:=λr hr=>by
 have:=Eb (h.2.1 r hr);omega
theorem apg(s:List ay)(h:∀r∈s,r.kind=1∨r.kind=2∨r.kind=3):s.length=(s.filter λr=>r.kind==1).length+(s.filter λr=>r.kind==2).length+(s.filter rE).length:=by
 induction s with
 |nil=>rfl
 |cons x s ih=>
  have ih:=ih λr hr=>h r (.tail _ hr)
  have hx:=h x (.head _)
  simp only[List.filter_cons,List.length_cons,rE]
  rw[ih]
  rcases hx with hx|hx|hx<;>simp[hx,rE]<;>omega
theorem iU.len{k:Nat}{s:List ay}(h:iU k s):s.length<=126+k:=by
 obtain⟨h1,h2,h3⟩:=h
 have hk:=λr hr=>O8 (h2 r hr)
 rw[apg s λr hr=>by have:=hk r hr;omega]
 have a1:(s.filter λr=>r.kind==1).length<=18:=by
  rw[<-List.length_map (f:=λr:ay=>r.ae*6+r.owner)]
  refine A4 (n:=18) ?_ ?_
  ·rw[List.pairwise_map]
   refine(h1.filter _).imp_of_mem λ{a b} ha hb nE=>?_
   obtain⟨ha1,ha2⟩:=List.mem_filter.1 ha
   obtain⟨lR,qS⟩:=List.mem_filter.1 hb
   simp only[beq_iff_eq]at ha2 qS
   have:=hk a ha1
   have:=hk b lR
   rw[rf]at nE
   omega
  ·intro x hx
   obtain⟨r,hr,rfl⟩:=List.mem_map.1 hx
   obtain⟨qF,sC⟩:=List.mem_filter.1 hr
   simp only[beq_iff_eq]at sC
   have:=hk r qF
   omega
 have a2:(s.filter λr=>r.kind==2).length<=108:=by
  rw[<-List.length_map (f:=λr:ay=>(r.ae*6+r.owner-1)*6+r.key)]
  refine A4 (n:=108) ?_ ?_
  ·rw[List.pairwise_map]
   refine(h1.filter _).imp_of_mem λ{a b} ha hb nE=>?_
   obtain⟨ha1,ha2⟩:=List.mem_filter.1 ha
   obtain⟨lR,qS⟩:=List.mem_filter.1 hb
   simp only[beq_iff_eq]at ha2 qS
   have:=hk a ha1
   have:=hk b lR
   rw[rf]at nE
   omega
  ·intro x hx
   obtain⟨r,hr,rfl⟩:=List.mem_map.1 hx
   obtain⟨qF,sC⟩:=List.mem_filter.1 hr
   simp only[beq_iff_eq]at sC
   have:=hk r qF
   omega
 omega
theorem iU.ok{k:Nat}{s:List ay}(h:iU k s)(hk:k<=24):eA s=true:=by
 have:=h.len
 unfold eA
 rw[bI,decide_eq_true_eq]
 exact⟨by omega,Ea h.2.1 h.1⟩
theorem YA(s:List ay)(r:ay)(p:ay->Bool):((dx s r).filter p).length<=(s.filter p).length+(if p r=true then 1 else 0):=by
 have h1:((s.filter λx=>ff x r).filter p).length+((s.filter λx=>ff r x).filter p).length<=(s.filter p).length:=by
  induction s with
  |nil=>simp
  |cons x s ih=>
   simp only[List.filter_cons]
   cases h:ff x r with
   |true=>
    rw[DO h]
    cases hp:p x<;>simp[hp]<;>simp at ih<;>omega
   |false=>cases h':ff r x<;>cases hp:p x<;>simp[hp]<;>simp at ih<;>omega
 have h2:([r].filter p).length=if p r=true then 1 else 0:=by
  rw[List.filter_cons]
  split<;>rfl
 unfold dx
 rw[List.filter_append,List.filter_append,List.length_append,List.length_append,h2]
 omega
theorem iU.put{k:Nat}{s:List ay}(h:iU k s){r:ay}(hr:fu r=true):iU (k+if r.kind=3 then 1 else 0) (dx s r):=by
 refine⟨Jq h.1 r,λx hx=>?_,?_⟩
 ·rcases zt hx with rfl|hx
  ·exact hr
  ·exact h.2.1 x hx
 ·have h1:=YA s r rE
  have h2:=h.2.2
  have h3:(rE r=true)=(r.kind=3):=by unfold rE;simp
  simp only[h3]at h1
  omega
theorem iU.O9{k:Nat}{s:List ay}(h:iU k s){r:ay}(hr:fu r=true)(h3:r.kind≠3):iU k (dx s r):=by
 have:=h.put hr
 rwa[if_neg h3]at this
theorem iU.filter{k:Nat}{s:List ay}(h:iU k s)(p:ay->Bool):iU k (s.filter p):=by
 refine⟨h.1.filter _,λx hx=>h.2.1 x (List.mem_filter.1 hx).1,?_⟩
 rw[List.filter_filter]
 refine Nat.le_trans ?_ h.2.2
 rw[<-List.countP_eq_length_filter,<-List.countP_eq_length_filter]
 exact List.countP_mono_left λx _ hx=>(bI _ _▸hx).1
theorem iU.nil:iU 0 []:=⟨.nil,by simp,by simp⟩
theorem iU.mono{k k':Nat}{s:List ay}(h:iU k s)(hk:k<=k'):iU k' s:=⟨h.1,h.2.1,Nat.le_trans h.2.2 hk⟩
theorem YB{α β σ:Type} [Inhabited α]{F:(σ->Option β)->σ->Option β}{R:Nat}{x:σ}(l:List α)(st:Nat->List α->σ)(p:α->Bool){out:Option β}(hx:x=st 0 [])(hR:l.length<R)
  (step:∀(i:Nat) c,(i:Int)<(l.length:Int)->c.length<=i->∀s,F s (st i c)=s (st (i+1) (if p (gt l i)=true then c++[gt l i]else c)))(fin:∀s,F s (st l.length (l.filter p))=out):
  iter F R x=out:=by
 refine g_ l st (λc a=>if p a=true then c++[a]else c) (λ_=>out) [] (λi c=>c=(l.take i).filter p) hx hR rfl ?_ ?_
 ·intro i c hi hc
  have aO:i<l.length:=by omega
  refine⟨?_,λs=>step i c hi (by rw[hc];refine Nat.le_trans (List.length_filter_le _ _) ?_;simp;omega) s⟩
  rw[hc,List.take_add_one,List.filter_append,List.getElem?_eq_getElem aO,ed aO]
  cases hp:p l[i]<;>simp[hp]
 ·intro c s hc
  rw[hc,List.take_length]
  exact fin s
theorem YC{n:Int}{ls:List bC}(h:dK (lH n) iH ls=true){a b ar:Int}{i:Nat}(hi:i<ls.length)(hj:eh a b ar (gt ls (i:Int))=true):dz (eh a b ar) ls=i:=by
 have h0:=A8 (gZ (l:=ls) (n:=(i:Int)) (by omega) (by omega)) hj
 have h1:=rz (eh a b ar) ls
 have h2:=tE _ _ h0
 obtain⟨k,hk⟩:∃k:Nat,dz (eh a b ar) ls=k:=⟨(dz (eh a b ar) ls).toNat,by omega⟩
 rw[hk]at h1 h2⊢
 rw[ed (by omega)]at h2
 rw[ed hi]at hj
 have:=apd h (by omega) hi h2 hj
 omega
theorem apj(t0 t2:T)(ls:List bC)(L:List Bool)(a b ar n:Int)(h:dK (lH n) iH ls=true)(hl:ls.length<=12)(hL:L.length=ls.length):QG [t0,.l (ls.map dm),t2,.l (L.map iF),ii a,ii b,ii ar]=some [ii (tI ls L a b ar)]:=by
 rw[akf];simp(disch:=omega) only[↓pq,↓pj,ps,pz,↓reduceIte,af,ah,ai,aj,ak,ap,aq,au,av,WR,MA]
 refine(Au ls.length (λi=>[ii 0,ii i]) (λi=>!(gt L i&&eh a b ar (gt ls i))) (gT:=some [ii (gt ls (dz (eh a b ar) ls)).cost]) (jx:=some [ii 0]) rfl (dh (by omega)) ?_ ?_).trans ?_
 ·intro i hi s
  have l_:(i:Int)<L.length:=by omega
  by_cases hj:eh a b ar (gt ls i)=true
  ·rw[YC h (by omega) hj,hj]
   rw[gx]at hj
   simp(disch:=omega) only[↓pq,↓pj,ps,pz,↓reduceIte,af,ah,ai,aj,ak,ap,aq,au,av,WR,hi,l_]
   grind
  ·have sR:eh a b ar (gt ls i)=false:=by simpa using hj
   rw[sR]
   rw[gx]at hj
   simp(disch:=omega) only[↓pq,↓pj,ps,pz,↓reduceIte,af,ah,ai,aj,ak,ap,aq,au,av,WR,hi,l_]
   grind
 ·intro s
  simp(disch:=omega) only[↓pq,↓pj,ps,pz,↓reduceIte,af,ah,ai,aj,ak,ap,aq,au,av,WR,]
 ·unfold tI
  have h1:=rz (eh a b ar) ls
  have nL:o7 ls.length (λi=>!(gt L i&&eh a b ar (gt ls i)))=true↔¬(0<=dz (eh a b ar) ls∧gt L (dz (eh a b ar) ls)=true):=by
   rw[ca]
   constructor
   ·rintro hA ⟨h0,h2⟩
    have h3:=hA (dz (eh a b ar) ls).toNat (by omega)
    rw[show(((dz (eh a b ar) ls).toNat:Nat):Int)=dz (eh a b ar) ls by omega,h2,tE _ _ h0]at h3
    cases h3
   ·intro hn i hi
    cases hg:gt L (i:Int)&&eh a b ar (gt ls (i:Int))with
    |false=>rfl
    |true=>
     rw[bI]at hg
     have hu:=YC h hi hg.2
     exact absurd ⟨by omega,by rw[hu];exact hg.1⟩ hn
  by_cases h0:dz (eh a b ar) ls<0
  ·rw[if_pos (nL.2 λhc=>by omega),if_pos h0]
  ·by_cases h2:gt L (dz (eh a b ar) ls)=true
   ·rw[if_neg (λhc=>nL.1 hc ⟨by omega,h2⟩),if_neg h0,if_pos h2]
   ·rw[if_pos (nL.2 λhc=>h2 hc.2),if_neg h0,if_neg h2]
def gM(r:ay):ay:={r with seq:=1}
def fS(f:ay->ay)(s l:List ay):List ay:=l.foldl (λc r=>dx c (f r)) s
def Ec(v:Int)(r:ay):Bool:=!(r.kind==2&&r.owner==v)
def A_(s:List ay)(A:List Int)(v:Int):List ay:=fS gM (s.filter (Ec v)) (A.flatMap λa=>cr s A v a)
theorem Jx(s:List ay)(A:List Int)(fr ae:Int):(cr s A fr ae).length<=6:=O3 _ _ _ _
theorem apk{W:List Way}{k:Int}{w:Way}(h:cY W k=some w):w∈W:=by
 rw[D6]at h
 exact List.mem_of_find?_eq_some h
theorem O_{s:List ay}{A:List Int}{fr ae:Int}{r:ay}(h:r∈cr s A fr ae):r.ae=ae∧r.kind=2∧r.owner=fr∧(1<=r.key∧r.key<=6)∧r.bf=[]∧r.seq=0∧(0<=r.cost∧r.cost<=60000)∧r.eY=false∧r.key≠fr:=by
 unfold cr at h
 obtain⟨h1,h2⟩:=jt.1 h
 obtain⟨_,h3,h4,h5,h6,h7,h8,h9,w,hw,rfl⟩:=RD h2
 refine⟨h3,h4,h5,h1,h6,h7,?_,h8,?_⟩
 ·have hm:=apk hw
  unfold Ip at hm
  rcases List.mem_append.1 hm with hm|hm
  ·have:=(Ii hm).2.2
   show 0<=w.cost∧w.cost<=60000
   omega
  ·split at hm
   ·cases hm
   ·have:=(D8 hm).2.2.1
    show 0<=w.cost∧w.cost<=60000
    omega
 ·unfold wx at h9
  simp only[bI,decide_eq_true_eq]at h9
  exact h9.2
theorem YD{s:List ay}{A:List Int}{fr ae:Int}(hf:1<=fr∧fr<=6)(ha:0<=ae∧ae<=2){r:ay}(h:r∈cr s A fr ae):fu (gM r)=true∧(gM r).kind≠3:=by
 obtain⟨h1,h2,h3,h4,h5,h6,h7,h8,_⟩:=O_ h
 refine⟨?_,by show r.kind≠3;omega⟩
 unfold fu
 simp only[gM,h1,h2,h3,h5,h8,List.length_nil,bI,aZ]
 refine⟨⟨hf,by omega⟩,?_⟩
 simp[aZ,ha,h4,h7]
theorem iU.nv{k:Nat}{f:ay->ay}{l:List ay}(hl:∀r∈l,fu (f r)=true∧(f r).kind≠3):∀{s:List ay},iU k s->iU k (fS f s l):=by
 unfold fS
 induction l with
 |nil=>intro s h;exact h
 |cons x l ih=>
  intro s h
  rw[List.foldl_cons]
  exact ih (λr hr=>hl r (.tail _ hr)) (h.O9 (hl x (.head _)).1 (hl x (.head _)).2)
theorem YE{ls:List bC}{v a:Int}(h:a∈jF ls v):0<=a∧a<=2:=nj.1 (List.mem_filter.1 h).1
theorem iU.instead{k:Nat}{s:List ay}(h:iU k s){A:List Int}(hA:∀a∈A,0<=a∧a<=2){v:Int}(hv:1<=v∧v<=6):iU k (A_ s A v):=by
 refine iU.nv ?_ (h.filter _)
 intro r hr
 obtain⟨a,ha,hr⟩:=List.mem_flatMap.1 hr
 exact YD hv (hA a ha) hr
theorem apl(f:ay->ay)(A:List Int)(g:Int->List ay):∀s,A.foldl (λc a=>fS f c (g a)) s=fS f s (A.flatMap g):=by
 induction A with
 |nil=>intro s;rfl
 |cons x A ih=>
  intro s
  rw[List.foldl_cons,ih]
  unfold fS
  rw[List.flatMap_cons,List.foldl_append]
def gW(r:ay):ay:=if r.seq=0 then {r with seq:=1}else r
theorem O'(s l:List ay)(h:s.length+l.length<=1048570)(hs:bh s)(hn:bh l):BF [.l (s.map aC),.l (l.map aC)]=some [.l ((fS gW s l).map aC)]:=by
 rw[ak1];simp(disch:=omega) only[↓pq,↓pj,ps,pz,↓reduceIte,af,ah,ai,aj,ak,ap,aq,au,av,WV,MW]
 refine g_ l (λi c=>[.l (c.map aC),ii i]) (λc r=>dx c (gW r)) (λc=>some [T.l (c.map aC)]) s (λi c=>c.length<=s.length+i∧bh c) rfl (dh (by omega)) ⟨by simp,hs⟩ ?_ ?_
 ·rintro i c hi ⟨h1,h2⟩
  have oH:=hn.gt (n:=i) (by omega) hi
  have hz:(gW (gt l (i:Int))).bf.length<=1048576:=by unfold gW;split<;>exact oH
  refine⟨⟨by have:=HP c (gW (gt l (i:Int)));omega,Xv h2 hz⟩,λq=>?_⟩
  have hp:=λz=>Om c (gt l (i:Int)).ae (gt l (i:Int)).kind (gt l (i:Int)).owner (gt l (i:Int)).key z (gt l (i:Int)).bf (gt l (i:Int)).cost (gt l (i:Int)).eY (by omega) h2 oH
  by_cases k:(gt l (i:Int)).seq=0
  ·have e:gW (gt l (i:Int))={gt l (i:Int)with seq:=1}:=by unfold gW;rw[if_pos k]
   rw[e]
   simp(disch:=omega) only[↓pq,↓pj,ps,pz,↓reduceIte,af,ah,ai,aj,ak,ap,aq,au,av,WV,hi,k,hp]
  ·have e:gW (gt l (i:Int))=gt l (i:Int):=by unfold gW;rw[if_neg k]
   rw[e]
   simp(disch:=omega) only[↓pq,↓pj,ps,pz,↓reduceIte,af,ah,ai,aj,ak,ap,aq,au,av,WV,hi,k,hp]
 ·rintro c q hc
  simp(disch:=omega) only[↓pq,↓pj,ps,pz,↓reduceIte,af,ah,ai,aj,ak,ap,aq,au,av,WV,]
theorem YF{f g:ay->ay}{l:List ay}(h:∀r∈l,f r=g r):∀s,fS f s l=fS g s l:=by
 unfold fS
 induction l with
 |nil=>intro s;rfl
 |cons x l ih=>
  intro s
  rw[List.foldl_cons,List.foldl_cons,h x (.head _)]
  exact ih (λr hr=>h r (.tail _ hr)) _
theorem Ed(A:List Int)(g:Int->List ay)(hg:∀a,(g a).length<=6):(A.flatMap g).length<=6*A.length:=by
 induction A with
 |nil=>simp
 |cons x A ih=>
  have:=hg x
  rw[List.flatMap_cons,List.length_append,List.length_cons]
  omega
theorem apm(s:List ay)(A:List Int)(v:Int)(hs:iU 24 s)(hA:A.length<=3):
  QO [.l (s.map aC),.l (A.map aD),ii v]=some [.l ((A_ s A v).map aC)]:=by
 have wW:=hs.len
 have yz:=hs.bf
 rw[ak3];simp(disch:=omega) only[↓pq,↓pj,ps,pz,↓reduceIte,af,ah,ai,aj,ak,ap,aq,au,av,Rs,Rt,MX]
 refine g_ A (λj c=>[.l (c.map aC),ii j]) (λc a=>c++cr s A v a) (λ_=>some [T.l ((A_ s A v).map aC)]) [] (λj c=>c=(A.take j).flatMap λa=>cr s A v a) rfl (dh (by omega)) rfl ?_ ?_
 ·intro j c hj hc
  have sR:j<A.length:=by omega
  refine⟨by rw[hc,List.take_add_one,List.flatMap_append,List.getElem?_eq_getElem sR,ed sR];simp,λq=>?_⟩
  have uW:=Jx s A v (gt A (j:Int))
  have uX:c.length<=18:=by
   rw[hc]
   refine Nat.le_trans (Ed _ _ λa=>Jx s A v a) ?_
   simp;omega
  simp(disch:=omega) only[↓pq,↓pj,ps,pz,↓reduceIte,af,ah,ai,aj,ak,ap,aq,au,av,Rs,Rt,hj,Yi s A v _ (show s.length<=1048576 by omega) yz (show A.length<=1048576 by omega)]
 ·intro c q hc
  rw[List.take_length]at hc
  subst hc
  have An:bh (A.flatMap λa=>cr s A v a):=λr hr=>by
   obtain⟨a,_,hr⟩:=List.mem_flatMap.1 hr
   have:=(O_ hr).2.2.2.2.1
   rw[this];simp
  have uW:=Ed A _ λa=>Jx s A v a
  have hz:∀r∈(A.flatMap λa=>cr s A v a),gW r=gM r:=λr hr=>by
   obtain⟨a,_,hr⟩:=List.mem_flatMap.1 hr
   have:=(O_ hr).2.2.2.2.2.1
   unfold gW gM
   rw[if_pos this]
  unfold A_
  generalize(A.flatMap λa=>cr s A v a)=B at An uW hz
  simp(disch:=omega) only[↓pq,↓pj,ps,pz,↓reduceIte,af,ah,ai,aj,ak,ap,aq,au,av,Rs,Rt,]
  refine YB s (λi c=>[.l (c.map aC),ii i]) (Ec v) rfl (dh (by omega)) ?_ ?_
  ·intro i c hi hc q
   have:=yz.gt (n:=i) (by omega) hi
   unfold Ec
   simp(disch:=omega) only[↓pq,↓pj,ps,pz,↓reduceIte,af,ah,ai,aj,ak,ap,aq,au,av,Rs,Rt,hi]
   by_cases k1:(gt s (i:Int)).kind=2
   ·by_cases k2:(gt s (i:Int)).owner=v
    ·simp[k1,k2]
    ·simp[k1,k2]
   ·simp[k1]
  ·intro q
   have wU:=List.length_filter_le (Ec v) s
   simp(disch:=omega) only[↓pq,↓pj,ps,pz,↓reduceIte,af,ah,ai,aj,ak,ap,aq,au,av,Rs,Rt,O' (s.filter (Ec v)) B (by omega) (hs.filter _).bf An,YF hz]
def A'(ls:List bC)(L U:List Bool)(v a:Int):ay:=⟨a,1,v,0,1,A9 ls L U v a,0,false⟩
def Iq(t:bP):ay:=⟨9,3,t.owner,t.key,1,[],t.cost,t.eY⟩
theorem YG{n:Int}{ls:List bC}(h:dK (lH n) iH ls=true){L U:List Bool}{v a:Int}(hv:1<=v∧v<=6)(ha:0<=a∧a<=2):fu (A' ls L U v a)=true:=by
 unfold fu
 simp only[A',bI,aZ]
 refine⟨⟨hv,by omega⟩,?_⟩
 simp[aZ,ha,ape h]
theorem Ir{n:Int}{ts:List bP}(h:dK (zq n) pB ts=true){t:bP}(ht:t∈ts):(1<=t.owner∧t.owner<=n)∧(1<=t.key∧t.key<=9)∧(1<=t.cost∧t.cost<=1000):=by
 obtain⟨i,hi,rfl⟩:=List.mem_iff_getElem.1 ht
 have:=ca.1 h i hi
 rw[ed hi]at this
 simp only[bI,zq,aZ]at this
 omega
theorem apn{n:Int}(hn:n<=6){t:bP}(h:(1<=t.owner∧t.owner<=n)∧(1<=t.key∧t.key<=9)∧(1<=t.cost∧t.cost<=1000)):fu (Iq t)=true:=by
 unfold fu
 simp only[Iq,bI,aZ]
 refine⟨⟨by omega,by omega⟩,?_⟩
 simp[aZ,h]
def Ba(ls:List bC)(L U:List Bool)(c:List ay)(i:Nat):List ay:=
 if gt U ((i:Int)+1-1)=true then(jF ls ((i:Int)+1)).foldl (λc a=>dx c (A' ls L U ((i:Int)+1) a)) c else c
def wy(U:List Bool)(c:List ay)(t:bP):List ay:=if gt U (t.owner-1)=true then dx c (Iq t)else c
def Bb(ls:List bC)(U:List Bool)(c:List ay)(i:Nat):List ay:=
 if gt U ((i:Int)+1-1)=true then(if yx ls ((i:Int)+1)=true then A_ c (jF ls ((i:Int)+1)) ((i:Int)+1)else c)else c
def yA(n:Int)(ls:List bC)(U:List Bool)(c:List ay)(_:Nat):List ay:=(List.range n.toNat).foldl (Bb ls U) c
def Bc(x:Net)(L U:List Bool):List ay:=(List.range 3).foldl (yA x.n x.aA U) (x.aN.foldl (wy U) ((List.range x.n.toNat).foldl (Ba x.aA L U) []))
def yB(x:Net)(L U:List Bool):Bool:=pC x&&(decide ((L.length:Int)=x.aA.length)&&decide ((U.length:Int)=x.n))
theorem apo{x:Net}{L U:List Bool}(h:yB x L U=true):pC x=true∧(L.length:Int)=x.aA.length∧(U.length:Int)=x.n:=by
 unfold yB at h
 simpa only[bI,decide_eq_true_eq]using h
theorem wC{x:Net}(h:pC x=true):(1<=x.n∧x.n<=6)∧x.aA.length<=12∧x.aN.length<=4∧dK (lH x.n) iH x.aA=true∧dK (zq x.n) pB x.aN=true:=by
 unfold pC at h
 simp only[bI,decide_eq_true_eq,aZ]at h
 exact⟨h.1.1.1.1,h.1.1.1.2,h.1.1.2,h.1.2,h.2⟩
theorem Ee{α:Type}{k:Nat}{g:List ay->α->List ay}:∀{l:List α} {c:List ay},(∀a∈l,∀c,iU k c->iU k (g c a))->iU k c->iU k (l.foldl g c)
 | [],c,_,h=>h
 |a::l,c,hg,h=>by
  rw[List.foldl_cons]
  exact Ee (λb hb=>hg b (.tail _ hb)) (hg a (.head _) c h)
section
variable {n:Int} {ls:List bC} {L U:List Bool} (h:dK (lH n) iH ls=true) (hn:n<=6)
include h hn
theorem YH{c:List ay}{i:Nat}(hi:(i:Int)<n)(hc:iU 0 c):iU 0 (Ba ls L U c i):=by
 unfold Ba
 split
 ·refine Ee (λa ha c hc=>?_) hc
  exact hc.O9 (YG h (by omega) (YE ha)) (by show(1:Int)≠3;decide)
 ·exact hc
omit h in
theorem YI{k:Nat}{c:List ay}{t:bP}(ht:(1<=t.owner∧t.owner<=n)∧(1<=t.key∧t.key<=9)∧(1<=t.cost∧t.cost<=1000))(hc:iU k c):iU (k+1) (wy U c t):=by
 unfold wy
 split
 ·exact hc.put (apn hn ht)
 ·exact hc.mono (by omega)
omit h in
theorem YJ{k:Nat}{c:List ay}{i:Nat}(hi:(i:Int)<n)(hc:iU k c):iU k (Bb ls U c i):=by
 unfold Bb
 split
 ·split
  ·exact hc.instead (λa ha=>YE ha) (by omega)
  ·exact hc
 ·exact hc
omit h in
theorem YK{k:Nat}{c:List ay}{r:Nat}(hc:iU k c):iU k (yA n ls U c r):=
 Ee (λi hi c hc=>YJ hn (by have:=List.mem_range.1 hi;omega) hc) hc
omit h in
theorem YL:∀{ts:List bP} {k:Nat} {c:List ay},(∀t∈ts,(1<=t.owner∧t.owner<=n)∧(1<=t.key∧t.key<=9)∧(1<=t.cost∧t.cost<=1000))->iU k c->iU (k+ts.length) (ts.foldl (wy U) c)
 | [],k,c,_,hc=>hc
 |t::ts,k,c,ht,hc=>by
  rw[List.foldl_cons,List.length_cons]
  exact(YL (λx hx=>ht x (.tail _ hx)) (YI hn (ht t (.head _)) hc)).mono (by omega)
end
theorem apq{x:Net}{L U:List Bool}(h:pC x=true):iU 4 (Bc x L U):=by
 obtain⟨h1,h2,h3,h4,h5⟩:=wC h
 unfold Bc
 refine Ee (λr _ c hc=>YK h1.2 hc) ?_
 refine(YL (k:=0) h1.2 (λt ht=>Ir h5 ht) ?_).mono (by omega)
 exact Ee (λi hi c hc=>YH h4 h1.2 (by have:=List.mem_range.1 hi;omega) hc) iU.nil
theorem apr{n:Int}{ls:List bC}(h:dK (lH n) iH ls=true)(hn:n<=6)(L U:List Bool)(v a:Int):
  ((List.range n.toNat).filter λu:Nat=>decide (tI ls L v ((u:Int)+1) a>0)&&gt U ((u:Int)+1-1)).map (λu:Nat=>(⟨(u:Int)+1,tI ls L v ((u:Int)+1) a⟩:cw))=A9 ls L U v a:=by
 have e:(upto n.toNat).filter (λx=>decide (tI ls L v x a>0)&&gt U (x-1))=xd.filter (λx=>decide (tI ls L v x a>0)&&gt U (x-1)):=by
  refine HR ((X2 _).filter _) (pc.filter _) λx=>?_
  rw[List.mem_filter,List.mem_filter,X1,iy]
  constructor
  ·rintro⟨h1,h2⟩
   exact⟨by omega,h2⟩
  ·rintro⟨h1,h2⟩
   refine⟨?_,h2⟩
   rw[bI,decide_eq_true_eq]at h2
   obtain⟨y,hy,e⟩:=(Yk h v x a).1 (Yr h h2.1).1
   have:=yw h hy
   rw[gx]at e
   omega
 unfold A9
 rw[<-e]
 unfold upto
 rw[List.filter_map,List.map_map]
 rfl
theorem aps{n:Int}{ls:List bC}(h:dK (lH n) iH ls=true)(hn:n<=6)(L U:List Bool)(v a:Int):
  (List.range n.toNat).foldl (λ(e:List cw) (u:Nat)=>if(decide (tI ls L v ((u:Int)+1) a>0)&&gt U ((u:Int)+1-1))=true then e++[(⟨(u:Int)+1,tI ls L v ((u:Int)+1) a⟩:cw)]else e) []=A9 ls L U v a:=by
 rw[GC (λu:Nat=>decide (tI ls L v ((u:Int)+1) a>0)&&gt U ((u:Int)+1-1)) (λu:Nat=>(⟨(u:Int)+1,tI ls L v ((u:Int)+1) a⟩:cw)),List.nil_append]
 exact apr h hn L U v a
theorem apt(n:Int)(ls:List bC)(ts:List bP)(L U:List Bool)(h1:ls.length<=1048576)(h2:ts.length<=1048576):Jd [ii n,.l (ls.map dm),.l (ts.map dM),.l (L.map iF),.l (U.map iF)]=some (if yB ⟨n,ls,ts⟩ L U=true then [.l ((Bc ⟨n,ls,ts⟩ L U).map aC),bb true]else [.l [],bb false]):=by
 by_cases hi:yB ⟨n,ls,ts⟩ L U=true
 ·rw[if_pos hi]
  obtain⟨hN,hL,hU⟩:=apo hi
  obtain⟨n1,hl,ht,hA,hT⟩:=wC hN
  simp only at hL hU n1 hl ht hA hT
  have hL':L.length=ls.length:=by omega
  have lK:¬((n.toNat:Int)+1<=n):=by omega
  rw[WW];simp(disch:=omega) only[↓pq,↓pj,ps,pz,↓reduceIte,af,ah,ai,aj,ak,ap,aq,au,av,q8,q9,q_,ra,rb,re,Hm,N7 _ _ _ h1 h2,hN,hL,hU]
  refine rZ n.toNat (λi c=>[.l (c.map aC),ii (i+1)]) (Ba ls L U) (λc=>some [T.l (((List.range 3).foldl (yA n ls U) (ts.foldl (wy U) c)).map aC),bb true]) [] (λ_ c=>iU 0 c) rfl (dh (by omega)) iU.nil ?_ ?_
  ·intro i c hi hc
   have aO:(i:Int)+1<=n:=by omega
   refine⟨YH hA n1.2 (by omega) hc,λq=>?_⟩
   have D_:=E3 ls ((i:Int)+1)
   have ham:=λa ha=>YE (ls:=ls) (v:=(i:Int)+1) (a:=a) ha
   simp(disch:=omega) only[↓pq,↓pj,ps,pz,↓reduceIte,af,ah,ai,aj,ak,ap,aq,au,av,q8,q9,q_,ra,rb,re,aO,Il _ _ _ _ _ hA hl]
   unfold Ba
   generalize jF ls ((i:Int)+1)=A at D_ ham
   by_cases hu:gt U ((i:Int)+1-1)=true
   ·rw[if_pos hu]
    refine g_ A (λj c=>[.l (c.map aC),ii j]) (λc a=>dx c (A' ls L U ((i:Int)+1) a)) (λc=>q [.l (c.map aC),ii ((i:Int)+1+1)]) c (λ_ c=>iU 0 c) rfl (dh (by omega)) hc ?_ ?_
    ·intro j d hj hd
     have hr:=YG hA (L:=L) (U:=U) (v:=(i:Int)+1) (by omega) (ham _ (gZ (l:=A) (n:=(j:Int)) (by omega) hj))
     refine⟨hd.O9 hr (by show(1:Int)≠3;decide),λq'=>?_⟩
     have Bs:=hd.len
     simp(disch:=omega) only[↓pq,↓pj,ps,pz,↓reduceIte,af,ah,ai,aj,ak,ap,aq,au,av,q8,q9,q_,ra,rb,re,hj,hu,hU]
     unfold A'
     rw[<-aps hA n1.2]
     refine rZ n.toNat (λu e=>[ii (u+1),.l (e.map eQ)]) (λe u=>if(decide (tI ls L ((i:Int)+1) ((u:Int)+1) (gt A (j:Int))>0)&&gt U ((u:Int)+1-1))=true then e++[(⟨(u:Int)+1,tI ls L ((i:Int)+1) ((u:Int)+1) (gt A (j:Int))⟩:cw)]else e) (λe=>q' [.l ((dx d ⟨gt A (j:Int),1,(i:Int)+1,0,1,e,0,false⟩).map aC),ii ((j:Int)+1)]) [] (λu e=>e.length<=u) rfl (dh (by omega)) (by simp) ?_ ?_
     ·intro u e hu he
      have xM:(u:Int)+1<=n:=by omega
      refine⟨by split;(· simp;omega);(· omega),λs=>?_⟩
      have ho:=apj (ii n) (.l (ts.map dM)) ls L ((i:Int)+1) ((u:Int)+1) (gt A (j:Int)) n hA hl hL'
      generalize tI ls L ((i:Int)+1) ((u:Int)+1) (gt A (j:Int))=z at ho
      by_cases k1:z>0
      ·cases k2:gt U ((u:Int)+1-1)with
       |true=>simp(disch:=omega) only[↓pq,↓pj,ps,pz,↓reduceIte,af,ah,ai,aj,ak,ap,aq,au,av,q8,q9,q_,ra,rb,re,xM,hj,hU,ho,k1,k2,decide_true,Bool.true_and]
       |false=>simp(disch:=omega) only[↓pq,↓pj,ps,pz,↓reduceIte,af,ah,ai,aj,ak,ap,aq,au,av,q8,q9,q_,ra,rb,re,xM,hj,hU,ho,k1,k2,decide_true,Bool.true_and,cI]
      ·simp(disch:=omega) only[↓pq,↓pj,ps,pz,↓reduceIte,af,ah,ai,aj,ak,ap,aq,au,av,q8,q9,q_,ra,rb,re,xM,hj,hU,ho,k1,decide_false,Bool.false_and,cI]
     ·intro e s he
      have hp:=Om d (gt A (j:Int)) 1 ((i:Int)+1) 0 1 e 0 false (by omega) hd.bf (by omega)
      simp(disch:=omega) only[↓pq,↓pj,ps,pz,↓reduceIte,af,ah,ai,aj,ak,ap,aq,au,av,q8,q9,q_,ra,rb,re,lK,hp]
    ·intro d q' hd
     simp(disch:=omega) only[↓pq,↓pj,ps,pz,↓reduceIte,af,ah,ai,aj,ak,ap,aq,au,av,q8,q9,q_,ra,rb,re,]
   ·rw[if_neg hu]
    refine AO (λk=>[.l (c.map aC),ii k]) 0 rfl (dh (by omega)) ?_ ?_
    ·intro k hk;omega
    ·intro s
     by_cases h0:(0:Int)<A.length
     ·simp(disch:=omega) only[↓pq,↓pj,ps,pz,↓reduceIte,af,ah,ai,aj,ak,ap,aq,au,av,q8,q9,q_,ra,rb,re,h0,hu,hU,cI]
     ·simp(disch:=omega) only[↓pq,↓pj,ps,pz,↓reduceIte,af,ah,ai,aj,ak,ap,aq,au,av,q8,q9,q_,ra,rb,re,h0]
  ·intro c q hc
   simp(disch:=omega) only[↓pq,↓pj,ps,pz,↓reduceIte,af,ah,ai,aj,ak,ap,aq,au,av,q8,q9,q_,ra,rb,re,lK]
   refine g_ ts (λj c=>[.l (c.map aC),ii j]) (wy U) (λc=>some [T.l (((List.range 3).foldl (yA n ls U) c).map aC),bb true]) c (λj c=>iU j c) rfl (dh (by omega)) hc ?_ ?_
   ·intro j d hj hd
    have nK:=Ir hT (gZ (l:=ts) (n:=(j:Int)) (by omega) hj)
    refine⟨YI n1.2 nK hd,λq=>?_⟩
    have Bs:=hd.len
    have hp:=Om d 9 3 (gt ts (j:Int)).owner (gt ts (j:Int)).key 1 [] (gt ts (j:Int)).cost (gt ts (j:Int)).eY (by omega) hd.bf (by simp)
    rw[List.map_nil]at hp
    unfold wy
    by_cases hu:gt U ((gt ts (j:Int)).owner-1)=true
    ·rw[if_pos hu]
     simp(disch:=omega) only[↓pq,↓pj,ps,pz,↓reduceIte,af,ah,ai,aj,ak,ap,aq,au,av,q8,q9,q_,ra,rb,re,hj,hu,hU,hp]
     rfl
    ·rw[if_neg hu]
     simp(disch:=omega) only[↓pq,↓pj,ps,pz,↓reduceIte,af,ah,ai,aj,ak,ap,aq,au,av,q8,q9,q_,ra,rb,re,hj,hu,hU,cI]
   ·intro d q hd
    simp(disch:=omega) only[↓pq,↓pj,ps,pz,↓reduceIte,af,ah,ai,aj,ak,ap,aq,au,av,q8,q9,q_,ra,rb,re,]
    refine rZ 3 (λi c=>[.l (c.map aC),ii i]) (yA n ls U) (λc=>some [T.l (c.map aC),bb true]) d (λ_ c=>iU 4 c) rfl (dh (by omega)) (hd.mono (by omega)) ?_ ?_
    ·intro r d hr hd
     have km:(r:Int)<3:=by omega
     refine⟨YK n1.2 hd,λq=>?_⟩
     simp(disch:=omega) only[↓pq,↓pj,ps,pz,↓reduceIte,af,ah,ai,aj,ak,ap,aq,au,av,q8,q9,q_,ra,rb,re,km]
     unfold yA
     refine rZ n.toNat (λi c=>[.l (c.map aC),ii (i+1)]) (Bb ls U) (λc=>q [.l (c.map aC),ii ((r:Int)+1)]) d (λ_ c=>iU 4 c) rfl (dh (by omega)) hd ?_ ?_
     ·intro i e hi he
      have aO:(i:Int)+1<=n:=by omega
      refine⟨YJ n1.2 (by omega) he,λq'=>?_⟩
      have jH:=apm e (jF ls ((i:Int)+1)) ((i:Int)+1) (he.mono (by omega)) (E3 ls _)
      unfold Bb
      by_cases hu:gt U ((i:Int)+1-1)=true
      ·rw[if_pos hu]
       cases hb:yx ls ((i:Int)+1)with
       |true=>simp(disch:=omega) only[↓pq,↓pj,ps,pz,↓reduceIte,af,ah,ai,aj,ak,ap,aq,au,av,q8,q9,q_,ra,rb,re,aO,hu,hU,Im _ _ _ _ _ hA hl,Il _ _ _ _ _ hA hl,hb,jH]
       |false=>simp(disch:=omega) only[↓pq,↓pj,ps,pz,↓reduceIte,af,ah,ai,aj,ak,ap,aq,au,av,q8,q9,q_,ra,rb,re,aO,hu,hU,Im _ _ _ _ _ hA hl,hb,cI]
      ·rw[if_neg hu]
       simp(disch:=omega) only[↓pq,↓pj,ps,pz,↓reduceIte,af,ah,ai,aj,ak,ap,aq,au,av,q8,q9,q_,ra,rb,re,aO,hu,hU,cI]
     ·intro e q' he
      simp(disch:=omega) only[↓pq,↓pj,ps,pz,↓reduceIte,af,ah,ai,aj,ak,ap,aq,au,av,q8,q9,q_,ra,rb,re,lK]
    ·intro d q hd
     have Bs:=hd.len
     simp(disch:=omega) only[↓pq,↓pj,ps,pz,↓reduceIte,af,ah,ai,aj,ak,ap,aq,au,av,q8,q9,q_,ra,rb,re,Jp d (by omega) hd.bf]
 ·rw[if_neg hi]
  rw[WW];simp(disch:=omega) only[↓pq,↓pj,ps,pz,↓reduceIte,af,ah,ai,aj,ak,ap,aq,au,av,q8,q9,q_,ra,rb,re,Hm,N7 _ _ _ h1 h2]
  cases hN:pC ⟨n,ls,ts⟩with
  |false=>simp(disch:=omega) only[↓pq,↓pj,ps,pz,↓reduceIte,af,ah,ai,aj,ak,ap,aq,au,av,q8,q9,q_,ra,rb,re,cI]
  |true=>
   by_cases hL:(L.length:Int)=ls.length
   ·by_cases hU:(U.length:Int)=n
    ·exact absurd (by unfold yB;rw[hN];simp[hL,hU]) hi
    ·simp(disch:=omega) only[↓pq,↓pj,ps,pz,↓reduceIte,af,ah,ai,aj,ak,ap,aq,au,av,q8,q9,q_,ra,rb,re,hL,hU]
   ·simp(disch:=omega) only[↓pq,↓pj,ps,pz,↓reduceIte,af,ah,ai,aj,ak,ap,aq,au,av,q8,q9,q_,ra,rb,re,hL]
theorem apu{s s':List ay}{ar:Int}(h:∀u v,du s ar u v=du s' ar u v)(fr a:Int):oG s ar fr a=oG s' ar fr a:=by
 funext W i
 unfold oG
 rw[h]
theorem YM{s s':List ay}{ar:Int}(h:∀u v,du s ar u v=du s' ar u v)(fr:Int):∀k W D,sj s ar fr k W D=sj s' ar fr k W D
 |0,_,_=>rfl
 |k+1,W,D=>by
  unfold sj
  have e:rD s ar fr (dT W D) W=rD s' ar fr (dT W D) W:=by unfold rD;rw[apu h]
  rw[e,YM h fr k]
theorem apv{s s':List ay}{ar fr:Int}(h:∀u v,du s ar u v=du s' ar u v)(hs:eA s=eA s')(hn:0<=iz s ar fr↔0<=iz s' ar fr):aH s ar fr=aH s' ar fr:=by
 unfold aH
 rw[hs,YM h]
 by_cases h0:0<=iz s ar fr
 ·have:=hn.1 h0
  simp[h0,this]
 ·have:¬0<=iz s' ar fr:=λhc=>h0 (hn.2 hc)
  simp[h0,this]
theorem YN{s:List ay}(hs:jk s){r:ay}(hr:r∈s){ar v:Int}(h:dZ r ⟨ar,1,v,0,0,[],0,false⟩=true):0<=iz s ar v∧gt s (iz s ar v)=r:=by
 have h0:0<=iz s ar v:=A8 hr h
 refine⟨h0,?_⟩
 have h1:=Jv s ar v
 have h2:dZ (gt s (iz s ar v)) ⟨ar,1,v,0,0,[],0,false⟩=true:=tE _ _ h0
 have hm:=gZ (l:=s) (n:=iz s ar v) h0 h1
 generalize gt s (iz s ar v)=x at h2 hm
 rw[sameKey_iff]at h h2
 obtain⟨i,hi,rfl⟩:=List.mem_iff_getElem.1 hr
 obtain⟨j,hj,rfl⟩:=List.mem_iff_getElem.1 hm
 rcases Nat.lt_trichotomy i j with qu|qu|qu
 ·have:=List.pairwise_iff_getElem.1 hs i j hi hj qu
  rw[rf]at this
  simp only at h h2
  omega
 ·subst qu;rfl
 ·have:=List.pairwise_iff_getElem.1 hs j i hj hi qu
  rw[rf]at this
  simp only at h h2
  omega
structure Ef (A:List Int) (s s':List ay):Prop where
 so:jk s
 sub:∀r∈s',r∈s
 so':jk s'
 bp:∀r∈s,r∉s'->r.kind=1∧A.contains r.ae=false
theorem Ef.node{A:List Int}{s s':List ay}(h:Ef A s s'){ar:Int}(ha:A.contains ar=true)(v:Int):(0<=iz s ar v↔0<=iz s' ar v)∧qv s ar v=qv s' ar v:=by
 by_cases h0:0<=iz s' ar v
 ·have hm:=gZ (l:=s') (n:=iz s' ar v) h0 (Jv s' ar v)
  obtain⟨h1,h2⟩:=YN h.so (h.sub _ hm) (tE _ _ h0)
  refine⟨⟨λ_=>h0,λ_=>h1⟩,?_⟩
  unfold qv
  rw[if_neg (by omega),if_neg (by omega),h2]
 ·have h1:¬0<=iz s ar v:=by
   intro hc
   have hm:=gZ (l:=s) (n:=iz s ar v) hc (Jv s ar v)
   have hk:dZ (gt s (iz s ar v)) ⟨ar,1,v,0,0,[],0,false⟩=true:=tE _ _ hc
   by_cases jH:gt s (iz s ar v)∈s'
   ·exact h0 (A8 jH hk)
   ·have:=(h.bp _ hm jH).2
    rw[sameKey_iff]at hk
    simp only at hk
    rw[hk.1,ha]at this
    cases this
  refine⟨⟨λhc=>absurd hc h1,λhc=>absurd hc h0⟩,?_⟩
  unfold qv
  rw[if_pos (by omega),if_pos (by omega)]
theorem Ef.aH{A:List Int}{s s':List ay}(h:Ef A s s')(hs:eA s=eA s'){ar:Int}(ha:A.contains ar=true)(fr:Int):Go.Proofs.YtjimmglpkndemaaGreatC.aH s ar fr=Go.Proofs.YtjimmglpkndemaaGreatC.aH s' ar fr:=by
 refine apv (λu v=>?_) hs (h.node ha fr).1
 unfold du sK
 rw[(h.node ha u).2,(h.node ha v).2]
theorem YO{α β:Type}{l:List α}{f g:α->List β}(h:∀a∈l,f a=g a):l.flatMap f=l.flatMap g:=by
 induction l with
 |nil=>rfl
 |cons x l ih=>rw[List.flatMap_cons,List.flatMap_cons,h x (.head _),ih λa ha=>h a (.tail _ ha)]
theorem apx{α β:Type}{l:List α}{f g:α->Option β}(h:∀a∈l,f a=g a):l.filterMap f=l.filterMap g:=by
 induction l with
 |nil=>rfl
 |cons x l ih=>rw[List.filterMap_cons,List.filterMap_cons,h x (.head _),ih λa ha=>h a (.tail _ ha)]
theorem Ef.within{A:List Int}{s s':List ay}(h:Ef A s s')(hs:eA s=eA s'){B:List Int}(hB:∀a∈B,A.contains a=true)(fr:Int):Go.Proofs.YtjimmglpkndemaaGreatC.within s B fr=Go.Proofs.YtjimmglpkndemaaGreatC.within s' B fr:=by
 unfold Go.Proofs.YtjimmglpkndemaaGreatC.within mU
 rw[YO λa ha=>h.aH hs (hB a ha) fr]
theorem apy{s s':List ay}(h:jk s)(h':jk s')(lY:∀r∈s',r∈s):s'=s.filter λr=>@decide (r∈s') (Classical.propDecidable _):=by
 have key:∀{a b:List ay},jk a->jk b->(∀x,x∈a↔x∈b)->a=b:=by
  intro a
  induction a with
  |nil=>
   intro b _ _ hm
   cases b with
   |nil=>rfl
   |cons y b=>exact absurd ((hm y).2 (.head _)) (by simp)
  |cons x a ih=>
   intro b ha hb hm
   cases b with
   |nil=>exact absurd ((hm x).1 (.head _)) (by simp)
   |cons y b=>
    have pa:=List.pairwise_cons.1 ha
    have pb:=List.pairwise_cons.1 hb
    have e:x=y:=by
     rcases List.mem_cons.1 ((hm x).1 (.head _))with e|hx
     ·exact e
     ·rcases List.mem_cons.1 ((hm y).2 (.head _))with e|hy
      ·exact e.symm
      ·have h1:=pb.1 x hx
       have h2:=pa.1 y hy
       rw[DO h1]at h2;cases h2
    subst e
    congr 1
    refine ih pa.2 pb.2 λz=>⟨λhz=>?_,λhz=>?_⟩
    ·rcases List.mem_cons.1 ((hm z).1 (.tail _ hz))with e|SU
     ·have:=pa.1 z hz
      rw[e,HO]at this;cases this
     ·exact SU
    ·rcases List.mem_cons.1 ((hm z).2 (.tail _ hz))with e|SU
     ·have:=pb.1 z hz
      rw[e,HO]at this;cases this
     ·exact SU
 refine key h' (h.filter _) λr=>?_
 rw[List.mem_filter,@decide_eq_true_eq _ (Classical.propDecidable _)]
 exact⟨λhr=>⟨lY r hr,hr⟩,λhr=>hr.2⟩
theorem Ef.beyond{A:List Int}{s s':List ay}(h:Ef A s s')(hs:eA s=eA s')(z:Bool)(fr:Int):Go.Proofs.YtjimmglpkndemaaGreatC.beyond s A z fr=Go.Proofs.YtjimmglpkndemaaGreatC.beyond s' A z fr:=by
 have hw:=h.within hs (B:=A) (λa ha=>List.contains_iff_mem.2 ha) fr
 have e1:∀x,gV s A z fr x=gV s' A z fr x:=by
  intro x
  unfold gV
  rw[hw]
  by_cases hc:x.kind=2∧x.cost<60000∧x.owner≠fr∧A.contains x.ae=true∧(z=true->x.ae=0)∧dY (Go.Proofs.YtjimmglpkndemaaGreatC.within s' A fr) x.key<0
  ·rw[if_pos hc,if_pos hc,h.aH hs hc.2.2.2.1]
  ·rw[if_neg hc,if_neg hc]
 unfold Go.Proofs.YtjimmglpkndemaaGreatC.beyond B8
 rw[show gV s A z fr=gV s' A z fr from funext e1]
 congr 1
 rw[apy h.so h.so' h.sub,List.filterMap_filter]
 refine apx λx hx=>?_
 by_cases jH:x∈s'
 ·rw[if_pos (by rw[@decide_eq_true_eq _ (Classical.propDecidable _)];exact jH)]
 ·rw[if_neg (by rw[@decide_eq_true_eq _ (Classical.propDecidable _)];exact jH)]
  unfold gV
  rw[if_neg λhc=>by have:=(h.bp x hx jH).1;omega]
theorem Ef.cr{A:List Int}{s s':List ay}(h:Ef A s s')(hs:eA s=eA s'){ae:Int}(ha:A.contains ae=true)(fr:Int):Go.Proofs.YtjimmglpkndemaaGreatC.cr s A fr ae=Go.Proofs.YtjimmglpkndemaaGreatC.cr s' A fr ae:=by
 unfold Go.Proofs.YtjimmglpkndemaaGreatC.cr Ip
 rw[h.aH hs ha,h.beyond hs,h.within (B:=X' A ae) hs λa ha=>List.contains_iff_mem.2 (List.mem_filter.1 ha).1]
theorem qy{x:Self}(h:jY x=true):pC x.net=true∧(1<=x.id∧x.id<=x.net.n)∧(0<=x.aV∧x.aV<=90)∧x.heard.length%2=0∧zr (λv a=>decide (0<=dz (eh x.id v a) x.net.aA)) x.heard=true∧eA x.store=true:=by
 unfold jY at h
 simp only[bI,aZ,decide_eq_true_eq]at h
 exact⟨h.1,h.2.1,h.2.2.1,h.2.2.2.1.1,h.2.2.2.1.2,h.2.2.2.2⟩
def yC(ls:List bC)(id:Int)(hd:List Int)(a:Int):List cw:=
 ((List.range (hd.length/2)).filter λk:Nat=>decide (gt hd (2*(k:Int)+1)=a)).map λk:Nat=>⟨gt hd (2*(k:Int)),lT ls id (gt hd (2*(k:Int))) a⟩
def vr(ls:List bC)(id:Int)(hd:List Int)(a:Int):ay:=⟨a,1,id,0,0,yC ls id hd a,0,false⟩
def fq(x:Self):List ay:=(jF x.net.aA x.id).map (vr x.net.aA x.id x.heard)
def yD(id:Int)(r:ay):Bool:=!(r.kind==1&&r.owner==id)
def sY(s:List ay)(id:Int)(l:List ay):List ay:=fS gM (s.filter (yD id)) l
def ss(id:Int)(t:bP):ay:=⟨9,3,id,t.key,0,[],t.cost,t.eY⟩
def Is(x:Self):List ay:=(x.net.aN.filter λt=>t.owner==x.id).map (ss x.id)
def pe(x:Self)(S:List ay):List ay:=if yx x.net.aA x.id=true then(jF x.net.aA x.id).flatMap λa=>cr S (jF x.net.aA x.id) x.id a else []
def same(r:ay):ay:=r
def oP(x:Self)(S:List ay):List ay:=fS same [] (fq x++pe x S++Is x)
theorem YP(f:ay->ay)(s a b:List ay):fS f s (a++b)=fS f (fS f s a) b:=by
 unfold fS;rw[List.foldl_append]
theorem It(x:Self):(fq x).length<=3:=by unfold fq;rw[List.length_map];exact E3 _ _
theorem apz(x:Self)(S:List ay):(pe x S).length<=18:=by
 unfold pe
 split
 ·have:=Ed (jF x.net.aA x.id) (λa=>cr S (jF x.net.aA x.id) x.id a) λa=>Jx _ _ _ _
  have:=E3 x.net.aA x.id
  omega
 ·simp
theorem YQ(x:Self):(Is x).length<=x.net.aN.length:=by unfold Is;rw[List.length_map];exact List.length_filter_le _ _
theorem apA(ls:List bC)(id:Int)(hd:List Int)(a:Int):(yC ls id hd a).length<=hd.length:=by
 unfold yC
 rw[List.length_map]
 refine Nat.le_trans (List.length_filter_le _ _) ?_
 rw[List.length_range];omega
structure Fit (k:Nat) (s:List ay):Prop where
 so:jk s
 bf:bh s
 len:s.length<=k
theorem Fit.nil:Fit 0 []:=⟨.nil,λr hr=>(by cases hr),Nat.le_refl _⟩
theorem Fit.mono{k k':Nat}{s:List ay}(h:Fit k s)(hk:k<=k'):Fit k' s:=⟨h.so,h.bf,Nat.le_trans h.len hk⟩
theorem Fit.put{k:Nat}{s:List ay}(h:Fit k s){r:ay}(hr:r.bf.length<=1048576):Fit (k+1) (dx s r):=⟨Jq h.so r,Xv h.bf hr,an0 (by have:=h.len;omega)⟩
theorem Fit.nv{f:ay->ay}{l:List ay}(hl:∀r∈l,(f r).bf.length<=1048576):∀{k:Nat} {s:List ay},Fit k s->Fit (k+l.length) (fS f s l):=by
 unfold fS
 induction l with
 |nil=>intro k s h;exact h
 |cons x l ih=>
  intro k s h
  rw[List.foldl_cons,List.length_cons]
  exact(ih (λr hr=>hl r (.tail _ hr)) (h.put (hl x (.head _)))).mono (by omega)
theorem Fit.filter{k:Nat}{s:List ay}(h:Fit k s)(p:ay->Bool):Fit k (s.filter p):=⟨h.so.filter _,λr hr=>h.bf r (List.mem_filter.1 hr).1,Nat.le_trans (List.length_filter_le _ _) h.len⟩
theorem YR(ls:List bC)(id:Int)(hd:List Int)(a:Int):
  (List.range (hd.length/2)).foldl (λ(d:List cw) (k:Nat)=>if decide (gt hd (2*(k:Int)+1)=a)=true then d++[(⟨gt hd (2*(k:Int)),lT ls id (gt hd (2*(k:Int))) a⟩:cw)]else d) []=yC ls id hd a:=by
 rw[GC (λk:Nat=>decide (gt hd (2*(k:Int)+1)=a)) (λk:Nat=>(⟨gt hd (2*(k:Int)),lT ls id (gt hd (2*(k:Int))) a⟩:cw)),List.nil_append]
 rfl
theorem apB(id aV n:Int)(ls:List bC)(ts t6:T)(hd:List Int)(hA:dK (lH n) iH ls=true)(hl:ls.length<=12)(h1:hd.length%2=0)(h2:hd.length<=1048576):
  Az [ii id,ii aV,ii n,.l (ls.map dm),ts,.l (hd.map aD),t6]=some [.l (((jF ls id).map (vr ls id hd)).map aC)]:=by
 have D_:=E3 ls id
 rw[amG];simp(disch:=omega) only[↓pq,↓pj,ps,pz,↓reduceIte,af,ah,ai,aj,ak,ap,aq,au,av,NG,NH,NI,X6 _ _ _ _ _ hA hl]
 generalize jF ls id=A at D_
 refine(g_ A (λj c=>[.l (c.map aC),ii j]) (λc a=>c++[vr ls id hd a]) (λc=>some [T.l (c.map aC)]) [] (λj c=>c.length<=j) rfl (dh (by omega)) (by simp) ?_ ?_).trans (by rw[foldl_map,List.nil_append])
 ·intro j c hj hc
  refine⟨by simp;omega,λq=>?_⟩
  simp(disch:=omega) only[↓pq,↓pj,ps,pz,↓reduceIte,af,ah,ai,aj,ak,ap,aq,au,av,NG,NH,hj]
  unfold vr
  rw[<-YR]
  refine rZ (hd.length/2) (λk d=>[ii (2*k),.l (d.map eQ)]) (λ(d:List cw) (k:Nat)=>if decide (gt hd (2*(k:Int)+1)=gt A (j:Int))=true then d++[(⟨gt hd (2*(k:Int)),lT ls id (gt hd (2*(k:Int))) (gt A (j:Int))⟩:cw)]else d) (λd=>q [.l ((c++[(⟨gt A (j:Int),1,id,0,0,d,0,false⟩:ay)]).map aC),ii ((j:Int)+1)]) [] (λk d=>d.length<=k) rfl (dh (by omega)) (by simp) ?_ ?_
  ·intro k d hk lz
   refine⟨by split;(· simp;omega);(· omega),λs=>?_⟩
   have bE:2*(k:Int)<hd.length:=by omega
   have oV:2*(k:Int)+1<hd.length:=by omega
   by_cases e:gt hd (2*(k:Int)+1)=gt A (j:Int)
   ·simp(disch:=omega) only[↓pq,↓pj,ps,pz,↓reduceIte,af,ah,ai,aj,ak,ap,aq,au,av,NG,NH,bE,oV,e,anM _ _ _ _ _ _ (show ls.length<=1048576 by omega),decide_true,Int.mul_add]
   ·simp(disch:=omega) only[↓pq,↓pj,ps,pz,↓reduceIte,af,ah,ai,aj,ak,ap,aq,au,av,NG,NH,bE,oV,e,decide_false,cI,Int.mul_add]
  ·intro d s lz
   have bE:¬(2*((hd.length/2:Nat):Int)<hd.length):=by omega
   simp(disch:=omega) only[↓pq,↓pj,ps,pz,↓reduceIte,af,ah,ai,aj,ak,ap,aq,au,av,NG,NH,bE]
 ·intro c q hc
  simp(disch:=omega) only[↓pq,↓pj,ps,pz,↓reduceIte,af,ah,ai,aj,ak,ap,aq,au,av,NG,NH,]
theorem apC(id aV n:Int)(ls:List bC)(ts t6:T)(hd:List Int)(a:Int)(hl:ls.length<=12)(h1:hd.length%2=0)(h2:hd.length<=1048576):
  QS [ii id,ii aV,ii n,.l (ls.map dm),ts,.l (hd.map aD),t6,ii a]=some (aC (vr ls id hd a)):=by
 rw[aln];simp(disch:=omega) only[↓pq,↓pj,ps,pz,↓reduceIte,af,ah,ai,aj,ak,ap,aq,au,av,WY,M6]
 unfold vr
 rw[<-YR]
 refine rZ (hd.length/2) (λk d=>[ii (2*k),.l (d.map eQ)]) (λ(d:List cw) (k:Nat)=>if decide (gt hd (2*(k:Int)+1)=a)=true then d++[(⟨gt hd (2*(k:Int)),lT ls id (gt hd (2*(k:Int))) a⟩:cw)]else d) (λd=>some (aC (⟨a,1,id,0,0,d,0,false⟩:ay))) [] (λk d=>d.length<=k) rfl (dh (by omega)) (by simp) ?_ ?_
 ·intro k d hk lz
  refine⟨by split;(· simp;omega);(· omega),λs=>?_⟩
  have bE:2*(k:Int)<hd.length:=by omega
  have oV:2*(k:Int)+1<hd.length:=by omega
  by_cases e:gt hd (2*(k:Int)+1)=a
  ·simp(disch:=omega) only[↓pq,↓pj,ps,pz,↓reduceIte,af,ah,ai,aj,ak,ap,aq,au,av,WY,bE,oV,e,N_ _ _ _ _ _ _ (show ls.length<=1048576 by omega),decide_true,Int.mul_add]
  ·simp(disch:=omega) only[↓pq,↓pj,ps,pz,↓reduceIte,af,ah,ai,aj,ak,ap,aq,au,av,WY,bE,oV,e,decide_false,cI,Int.mul_add]
 ·intro d s lz
  have bE:¬(2*((hd.length/2:Nat):Int)<hd.length):=by omega
  simp(disch:=omega) only[↓pq,↓pj,ps,pz,↓reduceIte,af,ah,ai,aj,ak,ap,aq,au,av,WY,bE]
  rfl
theorem apD(s:List ay)(id:Int)(l:List ay){k:Nat}(hs:Fit k s)(hk:k+l.length<=1048570)(hn:bh l):
  AA [.l (s.map aC),ii id,.l (l.map aC)]=some [.l ((sY s id l).map aC)]:=by
 have wW:=hs.len
 rw[amQ];simp(disch:=omega) only[↓pq,↓pj,ps,pz,↓reduceIte,af,ah,ai,aj,ak,ap,aq,au,av,Rw,AL,NO]
 refine YB s (λi c=>[.l (c.map aC),ii i]) (yD id) rfl (dh (by omega)) ?_ ?_
 ·intro i c hi hc q
  have:=hs.bf.gt (n:=i) (by omega) hi
  unfold yD
  simp(disch:=omega) only[↓pq,↓pj,ps,pz,↓reduceIte,af,ah,ai,aj,ak,ap,aq,au,av,Rw,AL,hi]
  by_cases k1:(gt s (i:Int)).kind=1
  ·by_cases k2:(gt s (i:Int)).owner=id
   ·simp[k1,k2]
   ·simp[k1,k2]
  ·simp[k1]
 ·intro q
  simp(disch:=omega) only[↓pq,↓pj,ps,pz,↓reduceIte,af,ah,ai,aj,ak,ap,aq,au,av,Rw,AL,]
  refine g_ l (λi c=>[.l (c.map aC),ii i]) (λc r=>dx c (gM r)) (λc=>some [T.l (c.map aC)]) (s.filter (yD id)) (λi c=>Fit (k+i) c) rfl (dh (by omega)) (hs.filter _) ?_ ?_
  ·intro i d hi hd
   have oH:=hn.gt (n:=i) (by omega) hi
   refine⟨hd.put oH,λq=>?_⟩
   have Bs:=hd.len
   have hp:=HQ d (gt l (i:Int)).ae (gt l (i:Int)).kind (gt l (i:Int)).owner (gt l (i:Int)).key 1 (gt l (i:Int)).bf (gt l (i:Int)).cost (gt l (i:Int)).eY (by omega) hd.bf hd.so oH
   simp(disch:=omega) only[↓pq,↓pj,ps,pz,↓reduceIte,af,ah,ai,aj,ak,ap,aq,au,av,Rw,AL,hi,hp]
   rfl
  ·intro d q' hd
   simp(disch:=omega) only[↓pq,↓pj,ps,pz,↓reduceIte,af,ah,ai,aj,ak,ap,aq,au,av,Rw,AL,]
theorem apE(id:Int)(ts:List bP):∀c:List ay,ts.foldl (λc t=>if t.owner=id then dx c (ss id t)else c) c=fS same c ((ts.filter λt=>t.owner==id).map (ss id)):=by
 induction ts with
 |nil=>intro c;rfl
 |cons t ts ih=>
  intro c
  rw[List.foldl_cons,ih]
  by_cases h:t.owner=id
  ·rw[if_pos h,List.filter_cons,if_pos (by simpa using h)]
   rfl
  ·rw[if_neg h,List.filter_cons,if_neg (by simpa using h)]
theorem YS(id:Int)(ts:List bP)(h:ts.length<=4)(c:List ay){k:Nat}(hc:Fit k c)(hk:k<=1000):
  iter (AM ux (ii id) (.l (ts.map dM)) (ii ts.length)) rounds [.l (c.map aC),ii 0]=some [.l ((fS same c ((ts.filter λt=>t.owner==id).map (ss id))).map aC)]:=by
 rw[<-apE]
 refine g_ ts (λi c=>[.l (c.map aC),ii i]) (λc t=>if t.owner=id then dx c (ss id t)else c) (λc=>some [T.l (c.map aC)]) c (λi c=>Fit (k+i) c) rfl (dh (by omega)) hc ?_ ?_
 ·intro i d hi hd
  have Bs:=hd.len
  by_cases e:(gt ts (i:Int)).owner=id
  ·rw[if_pos e]
   refine⟨hd.put (by simp[ss]),λq=>?_⟩
   have hp:=HQ d 9 3 id (gt ts (i:Int)).key 0 [] (gt ts (i:Int)).cost (gt ts (i:Int)).eY (by omega) hd.bf hd.so (by simp)
   rw[List.map_nil]at hp
   simp(disch:=omega) only[↓pq,↓pj,ps,pz,↓reduceIte,af,ah,ai,aj,ak,ap,aq,au,av,BZ,B0,AM,B1,hi,e,hp]
   rfl
  ·rw[if_neg e]
   refine⟨hd.mono (by omega),λq=>?_⟩
   simp(disch:=omega) only[↓pq,↓pj,ps,pz,↓reduceIte,af,ah,ai,aj,ak,ap,aq,au,av,BZ,B0,AM,B1,hi,e]
 ·intro d q hd
  simp(disch:=omega) only[↓pq,↓pj,ps,pz,↓reduceIte,af,ah,ai,aj,ak,ap,aq,au,av,BZ,B0,AM,B1,]
theorem Iu{x:Self}(h:x.heard.length<=1048576):bh (fq x):=λr hr=>by
 obtain⟨a,_,rfl⟩:=List.mem_map.1 hr
 exact Nat.le_trans (apA _ _ _ _) h
theorem Pb(s:List ay)(A:List Int)(fr ae:Int):bh (cr s A fr ae):=λr hr=>by
 rw[(O_ hr).2.2.2.2.1];simp
theorem apF{s:List ay}{id:Int}{l:List ay}{k:Nat}(hs:Fit k s)(hn:bh l):Fit (k+l.length) (sY s id l):=Fit.nv (f:=gM) (λr hr=>hn r hr) (hs.filter _)
theorem Pc{s:List ay}(h:eA s=true)(hn:bh s):Fit 150 s:=⟨B4 h,hn,by unfold eA at h;simp only[bI,decide_eq_true_eq]at h;exact h.1⟩
theorem apG(id aV n:Int)(ls:List bC)(ts:List bP)(hd:List Int)(st:List ay)(h1:ls.length<=1048576)(h2:ts.length<=1048576)(h3:hd.length<=1048576)(h4:st.length<=1048576)(h5:bh st)(hk:jY ⟨id,aV,⟨n,ls,ts⟩,hd,st⟩=true):
  LU [ii id,ii aV,ii n,.l (ls.map dm),.l (ts.map dM),.l (hd.map aD),.l (st.map aC)]=some [.l ((oP ⟨id,aV,⟨n,ls,ts⟩,hd,st⟩ (sY st id (fq ⟨id,aV,⟨n,ls,ts⟩,hd,st⟩))).map aC)]:=by
 obtain⟨hN,hid,jf,jS,xN,cC⟩:=qy hk
 obtain⟨n1,hl,ht,hA,hT⟩:=wC hN
 simp only at hid jf jS xN cC n1 hl ht hA hT
 have wO:=Pc cC h5
 have YT:=It ⟨id,aV,⟨n,ls,ts⟩,hd,st⟩
 have Eg:=Iu (x:=⟨id,aV,⟨n,ls,ts⟩,hd,st⟩) h3
 have hO:=apB id aV n ls (.l (ts.map dM)) (.l (st.map aC)) hd hA hl jS h3
 rw[show(jF ls id).map (vr ls id hd)=fq ⟨id,aV,⟨n,ls,ts⟩,hd,st⟩ from rfl]at hO
 unfold oP pe Is
 simp only
 generalize fq ⟨id,aV,⟨n,ls,ts⟩,hd,st⟩=O at YT Eg hO
 have hB:=apD st id O wO (by omega) Eg
 have Pf:=apF (id:=id) wO Eg
 generalize sY st id O=S at hB Pf
 have hSl:=Pf.len
 rw[anc];simp(disch:=omega) only[↓pq,↓pj,ps,pz,↓reduceIte,af,ah,ai,aj,ak,ap,aq,au,av,BZ,B0,AM,B1,NX,HI _ _ _ _ _ _ _ h1 h2 h3 h4 h5,hk,hO]
 rw[YP,YP]
 refine g_ O (λi c=>[.l (c.map aC),ii i,.l (O.map aC)]) (λc r=>dx c (same r)) (λc=>some [T.l ((fS same (fS same c (if yx ls id=true then(jF ls id).flatMap λa=>cr S (jF ls id) id a else [])) ((ts.filter λt=>t.owner==id).map (ss id))).map aC)]) [] (λi c=>Fit i c) rfl (dh (by omega)) Fit.nil ?_ ?_
 ·intro i d hi lz
  have oH:=Eg.gt (n:=i) (by omega) hi
  refine⟨lz.put oH,λq=>?_⟩
  have Bs:=lz.len
  have hp:=HQ d (gt O (i:Int)).ae (gt O (i:Int)).kind (gt O (i:Int)).owner (gt O (i:Int)).key (gt O (i:Int)).seq (gt O (i:Int)).bf (gt O (i:Int)).cost (gt O (i:Int)).eY (by omega) lz.bf lz.so oH
  simp(disch:=omega) only[↓pq,↓pj,ps,pz,↓reduceIte,af,ah,ai,aj,ak,ap,aq,au,av,BZ,B0,AM,B1,hi,hp]
  rfl
 ·intro c q hc
  have D_:=E3 ls id
  cases hb:yx ls id with
  |false=>
   simp(disch:=omega) only[↓pq,↓pj,ps,pz,↓reduceIte,af,ah,ai,aj,ak,ap,aq,au,av,BZ,B0,AM,B1,X6 _ _ _ _ _ hA hl,O1 _ _ _ _ _ hA hl,hb,cI]
   exact YS id ts ht c hc (by omega)
  |true=>
   simp only[if_true]
   simp(disch:=omega) only[↓pq,↓pj,ps,pz,↓reduceIte,af,ah,ai,aj,ak,ap,aq,au,av,BZ,B0,AM,B1,X6 _ _ _ _ _ hA hl,O1 _ _ _ _ _ hA hl,hb,hB]
   generalize jF ls id=A at D_
   rw[<-apl]
   refine g_ A (λj c=>[.l (c.map aC),ii j]) (λc a=>fS same c (cr S A id a)) (λc=>some [T.l ((fS same c ((ts.filter λt=>t.owner==id).map (ss id))).map aC)]) c (λj c=>Fit (3+6*j) c) rfl (dh (by omega)) (hc.mono (by omega)) ?_ ?_
   ·intro j c hj hc
    have uW:=Jx S A id (gt A (j:Int))
    have An:=Pb S A id (gt A (j:Int))
    refine⟨(hc.nv (f:=same) λr hr=>An r hr).mono (by omega),λq=>?_⟩
    simp(disch:=omega) only[↓pq,↓pj,ps,pz,↓reduceIte,af,ah,ai,aj,ak,ap,aq,au,av,BZ,B0,AM,B1,hj,apa S A id _ (show S.length<=1048576 by omega) Pf.bf (show A.length<=1048576 by omega)]
    generalize cr S A id (gt A (j:Int))=B at uW An
    refine g_ B (λi c=>[.l (c.map aC),ii i,.l (B.map aC)]) (λc r=>dx c (same r)) (λc=>q [.l (c.map aC),ii ((j:Int)+1)]) c (λi c=>Fit (3+6*j+i) c) rfl (dh (by omega)) hc ?_ ?_
    ·intro i d hi lz
     have oH:=An.gt (n:=i) (by omega) hi
     refine⟨lz.put oH,λq=>?_⟩
     have Bs:=lz.len
     have hp:=HQ d (gt B (i:Int)).ae (gt B (i:Int)).kind (gt B (i:Int)).owner (gt B (i:Int)).key (gt B (i:Int)).seq (gt B (i:Int)).bf (gt B (i:Int)).cost (gt B (i:Int)).eY (by omega) lz.bf lz.so oH
     simp(disch:=omega) only[↓pq,↓pj,ps,pz,↓reduceIte,af,ah,ai,aj,ak,ap,aq,au,av,BZ,B0,AM,B1,hi,hp]
     rfl
    ·intro d q' lz
     simp(disch:=omega) only[↓pq,↓pj,ps,pz,↓reduceIte,af,ah,ai,aj,ak,ap,aq,au,av,BZ,B0,AM,B1,]
   ·intro c q hc
    simp(disch:=omega) only[↓pq,↓pj,ps,pz,↓reduceIte,af,ah,ai,aj,ak,ap,aq,au,av,BZ,B0,AM,B1,]
    exact YS id ts ht c hc (by omega)
def zx(x:Self):List ay:=fS gW x.store (fq x)
theorem apH(r:ay):(gW r).bf=r.bf:=by unfold gW;split<;>rfl
theorem apI{x:Self}{k:Nat}(h:Fit k x.store)(hh:x.heard.length<=1048576):Fit (k+3) (zx x):=by
 have:=It x
 exact(Fit.nv (f:=gW) (λr hr=>by rw[apH];exact Iu hh r hr) h).mono (by omega)
theorem apJ(a k o y s c:Int)(f:Bool):Prim.ev (.lit 8 [true,true,true,true,true,false,true,true]) [ii a,ii k,ii o,ii y,ii s,.l [],ii c,bb f]=some (.l ([(⟨a,k,o,y,s,[],c,f⟩:ay)].map aC)):=q0 (by decide) rfl rfl
theorem apK(id aV n:Int)(ls:List bC)(ts:List bP)(hd:List Int)(st:List ay)(h1:ls.length<=1048576)(h2:ts.length<=1048576)(h3:hd.length<=1048576)(h4:st.length<=1048576)(h5:bh st)(hk:jY ⟨id,aV,⟨n,ls,ts⟩,hd,st⟩=true):
  QT [ii id,ii aV,ii n,.l (ls.map dm),.l (ts.map dM),.l (hd.map aD),.l (st.map aC)]=some [.l ((oP ⟨id,aV,⟨n,ls,ts⟩,hd,st⟩ (zx ⟨id,aV,⟨n,ls,ts⟩,hd,st⟩)).map aC)]:=by
 obtain⟨hN,hid,jf,jS,xN,cC⟩:=qy hk
 obtain⟨n1,hl,ht,hA,hT⟩:=wC hN
 simp only at hid jf jS xN cC n1 hl ht hA hT
 have wO:=Pc cC h5
 have YT:=It ⟨id,aV,⟨n,ls,ts⟩,hd,st⟩
 have Eg:=Iu (x:=⟨id,aV,⟨n,ls,ts⟩,hd,st⟩) h3
 have Pf:=apI (x:=⟨id,aV,⟨n,ls,ts⟩,hd,st⟩) wO h3
 have wW:=wO.len
 have hW:=O' st (fq ⟨id,aV,⟨n,ls,ts⟩,hd,st⟩) (by omega) h5 Eg
 rw[show fS gW st (fq ⟨id,aV,⟨n,ls,ts⟩,hd,st⟩)=zx ⟨id,aV,⟨n,ls,ts⟩,hd,st⟩ from rfl]at hW
 generalize zx ⟨id,aV,⟨n,ls,ts⟩,hd,st⟩=S at hW Pf
 have hSl:=Pf.len
 have D_:=E3 ls id
 rw[alp];simp(disch:=omega) only[↓pq,↓pj,ps,pz,↓reduceIte,af,ah,ai,aj,ak,ap,aq,au,av,BV,BW,AH,BX,M7,Od _ _ _ _ _ _ _ h1 h2 h3 h4 h5,hk,Il _ _ _ _ _ hA hl]
 have hT2:∀(c:List ay),c.length<=100->bh c->iter (AH rounds sJ uu (ii id) (.l (ts.map dM)) (.l [])) rounds [.l (c.map aC),ii 0]=some [.l ((fS same [] (c++(ts.filter λt=>t.owner==id).map (ss id))).map aC)]:=by
  intro c hc hcn
  have e:(ts.filter λt=>t.owner==id).map (ss id)=ts.foldl (λc t=>if(t.owner==id)=true then c++[ss id t]else c) []:=by
   rw[GC (λt:bP=>t.owner==id) (ss id),List.nil_append]
  have e2:c++(ts.filter λt=>t.owner==id).map (ss id)=ts.foldl (λc t=>if(t.owner==id)=true then c++[ss id t]else c) c:=by
   rw[GC (λt:bP=>t.owner==id) (ss id)]
  rw[e2]
  refine g_ ts (λi c=>[.l (c.map aC),ii i]) (λc t=>if(t.owner==id)=true then c++[ss id t]else c) (λc=>some [T.l ((fS same [] c).map aC)]) c (λi c=>c.length<=100+i∧bh c) rfl (dh (by omega)) ⟨by omega,hcn⟩ ?_ ?_
  ·rintro i d hi ⟨fI,qD⟩
   by_cases k:(gt ts (i:Int)).owner=id
   ·have e:((gt ts (i:Int)).owner==id)=true:=by simpa using k
    rw[if_pos e]
    refine⟨⟨by simp;omega,λr hr=>?_⟩,λq=>?_⟩
    ·rcases List.mem_append.1 hr with hr|hr
     ·exact qD r hr
     ·rw[List.mem_singleton]at hr;subst hr;simp[ss]
    ·unfold ss
     simp(disch:=omega) only[↓pq,↓pj,ps,pz,↓reduceIte,af,ah,ai,aj,ak,ap,aq,au,av,BV,BW,AH,BX,hi,k,apJ]
   ·have e:¬((gt ts (i:Int)).owner==id)=true:=by simpa using k
    rw[if_neg e]
    refine⟨⟨by omega,qD⟩,λq=>?_⟩
    simp(disch:=omega) only[↓pq,↓pj,ps,pz,↓reduceIte,af,ah,ai,aj,ak,ap,aq,au,av,BV,BW,AH,BX,hi,k]
  ·rintro d q ⟨fI,qD⟩
   simp(disch:=omega) only[↓pq,↓pj,ps,pz,↓reduceIte,af,ah,ai,aj,ak,ap,aq,au,av,BV,BW,AH,BX,]
   refine g_ d (λi c=>[.l (c.map aC),ii i]) (λc r=>dx c (same r)) (λc=>some [T.l (c.map aC)]) [] (λi c=>Fit i c) rfl (dh (by omega)) Fit.nil ?_ ?_
   ·intro i c hi hc
    have oH:=qD.gt (n:=i) (by omega) hi
    refine⟨hc.put oH,λq=>?_⟩
    have uX:=hc.len
    have hp:=Om c (gt d (i:Int)).ae (gt d (i:Int)).kind (gt d (i:Int)).owner (gt d (i:Int)).key (gt d (i:Int)).seq (gt d (i:Int)).bf (gt d (i:Int)).cost (gt d (i:Int)).eY (by omega) hc.bf oH
    simp(disch:=omega) only[↓pq,↓pj,ps,pz,↓reduceIte,af,ah,ai,aj,ak,ap,aq,au,av,BV,BW,AH,BX,hi,hp]
    rfl
   ·intro c q hc
    have uX:=hc.len
    simp(disch:=omega) only[↓pq,↓pj,ps,pz,↓reduceIte,af,ah,ai,aj,ak,ap,aq,au,av,BV,BW,AH,BX,Jp c (by omega) hc.bf]
 have hO:fq ⟨id,aV,⟨n,ls,ts⟩,hd,st⟩=(jF ls id).map (vr ls id hd):=rfl
 unfold oP pe Is
 simp only
 rw[hO]at YT Eg hW⊢
 generalize jF ls id=A at D_ YT Eg hW
 refine g_ A (λj c=>[.l (c.map aC),ii j]) (λc a=>c++[vr ls id hd a]) (λ_=>some [T.l ((fS same [] (A.map (vr ls id hd)++(if yx ls id=true then A.flatMap λa=>cr S A id a else [])++(ts.filter λt=>t.owner==id).map (ss id))).map aC)]) [] (λj c=>c=(A.take j).map (vr ls id hd)) rfl (dh (by omega)) rfl ?_ ?_
 ·intro j c hj hc
  have sR:j<A.length:=by omega
  refine⟨by rw[hc,List.take_add_one,List.map_append,List.getElem?_eq_getElem sR,ed sR];simp,λq=>?_⟩
  have uX:c.length<=j:=by rw[hc,List.length_map];simp;omega
  have hN:=apC id aV n ls (.l (ts.map dM)) (.l (st.map aC)) hd (gt A (j:Int)) hl jS h3
  simp only[aC]at hN
  simp(disch:=omega) only[↓pq,↓pj,ps,pz,↓reduceIte,af,ah,ai,aj,ak,ap,aq,au,av,BV,BW,AH,BX,hj,hN]
 ·intro c q hc
  rw[List.take_length]at hc
  rw[<-hc]at YT Eg hW⊢
  cases hb:yx ls id with
  |false=>
   simp(disch:=omega) only[↓pq,↓pj,ps,pz,↓reduceIte,af,ah,ai,aj,ak,ap,aq,au,av,BV,BW,AH,BX,Im _ _ _ _ _ hA hl,hb,cI]
   rw[List.append_nil]
   exact hT2 c (by omega) Eg
  |true=>
   simp only[if_true]
   simp(disch:=omega) only[↓pq,↓pj,ps,pz,↓reduceIte,af,ah,ai,aj,ak,ap,aq,au,av,BV,BW,AH,BX,Im _ _ _ _ _ hA hl,hb,hW]
   refine g_ A (λj d=>[.l (d.map aC),ii j]) (λd a=>d++cr S A id a) (λ_=>some [T.l ((fS same [] (c++(A.flatMap λa=>cr S A id a)++(ts.filter λt=>t.owner==id).map (ss id))).map aC)]) c (λj d=>d=c++(A.take j).flatMap λa=>cr S A id a) rfl (dh (by omega)) (by simp) ?_ ?_
   ·intro j d hj lz
    have sR:j<A.length:=by omega
    refine⟨by rw[lz,List.take_add_one,List.flatMap_append,List.getElem?_eq_getElem sR,ed sR];simp,λq=>?_⟩
    have uW:=Jx S A id (gt A (j:Int))
    have Bs:d.length<=30:=by
     rw[lz,List.length_append]
     have:=Ed (A.take j) (λa=>cr S A id a) λa=>Jx S A id a
     have:(A.take j).length<=A.length:=by simp;omega
     omega
    simp(disch:=omega) only[↓pq,↓pj,ps,pz,↓reduceIte,af,ah,ai,aj,ak,ap,aq,au,av,BV,BW,AH,BX,hj,Yi S A id _ (show S.length<=1048576 by omega) Pf.bf (show A.length<=1048576 by omega)]
   ·intro d q lz
    rw[List.take_length]at lz
    have Bs:d.length<=30:=by
     rw[lz,List.length_append]
     have:=Ed A (λa=>cr S A id a) λa=>Jx S A id a
     omega
    have qH:bh d:=λr hr=>by
     rw[lz]at hr
     rcases List.mem_append.1 hr with hr|hr
     ·exact Eg r hr
     ·obtain⟨a,_,hr⟩:=List.mem_flatMap.1 hr
      exact Pb _ _ _ _ r hr
    rw[<-lz]
    simp(disch:=omega) only[↓pq,↓pj,ps,pz,↓reduceIte,af,ah,ai,aj,ak,ap,aq,au,av,BV,BW,AH,BX,]
    exact hT2 d (by omega) qH
theorem B9{a b:ay}(h:dZ a b=true):dZ b a=true:=by rw[sameKey_iff]at *;omega
theorem wD{a b c:ay}(h:dZ a b=true)(h':dZ b c=true):dZ a c=true:=by rw[sameKey_iff]at *;omega
theorem Pg(a:ay):dZ a a=true:=by rw[sameKey_iff];omega
theorem jl{s:List ay}{r x:ay}:x∈dx s r↔x=r∨(x∈s∧dZ x r=false):=by
 unfold dx
 simp only[List.mem_append,List.mem_filter,List.mem_singleton]
 constructor
 ·rintro(⟨h,q⟩|h|⟨h,q⟩)
  ·exact .inr ⟨h,Xs q⟩
  ·exact .inl h
  ·refine .inr ⟨h,?_⟩
   cases hc:dZ x r with
   |false=>rfl
   |true=>have:=B9 hc;rw[Xs q]at this;cases this
 ·rintro(h|⟨h,q⟩)
  ·exact .inr (.inl h)
  ·cases hl:ff x r with
   |true=>exact .inl ⟨h,rfl⟩
   |false=>exact .inr (.inr ⟨h,Xt hl q⟩)
def cB(s:List ay)(r:ay):Prop:=∃x∈s,dZ r x=true
theorem cB.put{s:List ay}{y:ay}(h:cB s y)(r:ay):cB (dx s r) y:=by
 obtain⟨x,hx,hk⟩:=h
 cases hc:dZ x r with
 |true=>exact⟨r,jl.2 (.inl rfl),wD hk hc⟩
 |false=>exact⟨x,jl.2 (.inr ⟨hx,hc⟩),hk⟩
theorem cB.new{s:List ay}{y r:ay}(h:dZ y r=true):cB (dx s r) y:=⟨r,jl.2 (.inl rfl),h⟩
theorem cB.nv{f:ay->ay}{y:ay}:∀{l s:List ay},cB s y->cB (fS f s l) y
 | [],_,h=>h
 |x::l,s,h=>cB.nv (l:=l) (h.put (f x))
theorem cB.pf{f:ay->ay}{y z:ay}(hz:dZ y (f z)=true):∀{l s:List ay},z∈l->cB (fS f s l) y
 |x::l,s,h=>by
  rcases List.mem_cons.1 h with rfl|h
  ·exact cB.nv (l:=l) (cB.new hz)
  ·exact cB.pf hz (l:=l) h
theorem js_:∀{s t:List ay},jk s->jk t->(∀r∈s,cB t r)->s.length<=t.length
 | [],t,_,_,_=>by simp
 |x::s,t,hs,ht,h=>by
  have ps:=List.pairwise_cons.1 hs
  obtain⟨y,hy,hk⟩:=h x (.head _)
  obtain⟨t1,t2,rfl⟩:=List.append_of_mem hy
  have pt:=List.pairwise_append.1 ht
  have pt2:=List.pairwise_cons.1 pt.2.1
  have ih:=js_ (s:=s) (t:=t2) ps.2 pt2.2 λr hr=>by
   obtain⟨z,hz,RF⟩:=h r (.tail _ hr)
   have bE:ff y z=true:=by
    have h1:=ps.1 r hr
    rw[rf]at*
    rw[sameKey_iff]at hk RF
    omega
   rcases List.mem_append.1 hz with hz|hz
   ·have h2:=pt.2.2 z hz y (.head _)
    rw[DO bE]at h2;cases h2
   ·rcases List.mem_cons.1 hz with e|hz
    ·subst e
     rw[HO]at bE;cases bE
    ·exact⟨z,hz,RF⟩
  simp only[List.length_append,List.length_cons]
  omega
theorem Jy{f:ay->ay}{r:ay}:∀{l s:List ay},l.Pairwise (λa b=>dZ (f a) (f b)=false)->(r∈fS f s l↔(∃o∈l,r=f o)∨(r∈s∧∀o∈l,dZ r (f o)=false))
 | [],s,_=>by simp[fS]
 |x::l,s,h=>by
  have hp:=List.pairwise_cons.1 h
  rw[show fS f s (x::l)=fS f (dx s (f x)) l from rfl,Jy hp.2,jl]
  constructor
  ·rintro(⟨o,ho,e⟩|⟨e|⟨h1,h2⟩,h3⟩)
   ·exact .inl ⟨o,.tail _ ho,e⟩
   ·exact .inl ⟨x,.head _,e⟩
   ·refine .inr ⟨h1,λo ho=>?_⟩
    rcases List.mem_cons.1 ho with rfl|ho
    ·exact h2
    ·exact h3 o ho
  ·rintro(⟨o,ho,e⟩|⟨h1,h2⟩)
   ·rcases List.mem_cons.1 ho with rfl|ho
    ·exact .inr ⟨.inl e,λo' I0=>by rw[e];exact hp.1 o' I0⟩
    ·exact .inl ⟨o,ho,e⟩
   ·exact .inr ⟨.inr ⟨h1,h2 x (.head _)⟩,λo ho=>h2 o (.tail _ ho)⟩
def sZ(s:List ay)(r:ay):Int:=if bG s r<0 then 0 else(gt s (bG s r)).seq
def wE(x:Self)(r:ay):Int:=if 1000*x.aV+1>sZ x.store r+1 then 1000*x.aV+1 else sZ x.store r+1
def qz(s:List ay)(r:ay):Bool:=decide (bG s r<0)|| !xb (gt s (bG s r)) r
def wF(x:Self)(r:ay):ay:={r with seq:=wE x r}
def su(x:Self)(c:List ay)(r:ay):List ay:=if qz x.store r=true then dx c (wF x r)else c
def fT(r:ay):ay:=if r.kind=1 then {r with bf:=[]}else {r with bf:=[],cost:=60000}
def s7(x:Self)(W:List ay)(r:ay):Bool:=(r.owner==x.id)&&(decide (bG W r<0)&& !xb (fT r) r)
def yE(x:Self)(r:ay):ay:={fT r with seq:=wE x r}
def uO(x:Self)(W:List ay)(c:List ay)(r:ay):List ay:=if s7 x W r=true then dx c (yE x r)else c
def sL(x:Self)(W:List ay):List ay:=x.store.foldl (uO x W) (W.foldl (su x) [])
def Bd(x:Self)(W:List ay):Self×List ay:=
 if(sL x W).all (λr=>decide (r.seq<=100000))=true∧(fS same x.store (sL x W)).length<=150 then({x with store:=fS same x.store (sL x W)},sL x W)else(x,[])
theorem Ph{α:Type}{y:ay}{g:List ay->α->List ay}(hg:∀c a,cB c y->cB (g c a) y):∀{l:List α} {c:List ay},cB c y->cB (l.foldl g c) y
 | [],_,h=>h
 |a::l,c,h=>Ph hg (l:=l) (hg c a h)
theorem apL{x:Self}{y:ay}(c:List ay)(r:ay)(h:cB c y):cB (su x c r) y:=by
 unfold su;split
 ·exact h.put _
 ·exact h
theorem apM{x:Self}{W:List ay}{y:ay}(c:List ay)(r:ay)(h:cB c y):cB (uO x W c r) y:=by
 unfold uO;split
 ·exact h.put _
 ·exact h
theorem YU{x:Self}{w:ay}(hw:qz x.store w=true):∀{l c:List ay},w∈l->cB (l.foldl (su x) c) w
 |a::l,c,h=>by
  rcases List.mem_cons.1 h with rfl|h
  ·rw[List.foldl_cons]
   refine Ph apL ?_
   unfold su
   rw[if_pos hw]
   exact cB.new (by rw[sameKey_iff];exact⟨rfl,rfl,rfl,rfl⟩)
  ·exact YU hw (l:=l) h
theorem apN{s:List ay}{r:ay}(h:¬bG s r<0):cB s r:=by
 unfold bG at h
 have h0:0<=dz (λx=>dZ x r) s:=by omega
 exact⟨_,gZ (l:=s) h0 (rz _ _),B9 (tE (λx=>dZ x r) s h0)⟩
theorem YV(x:Self)(W:List ay){y:ay}(h:cB x.store y∨cB W y):cB (fS same x.store (sL x W)) y:=by
 rcases h with h|⟨w,hw,hk⟩
 ·exact h.nv
 ·by_cases hn:qz x.store w=true
  ·obtain⟨z,hz,RF⟩:cB (sL x W) w:=Ph apM (YU hn hw)
   exact cB.pf (z:=z) (wD hk RF) hz
  ·unfold qz at hn
   simp only[Bool.or_eq_true,decide_eq_true_eq,not_or]at hn
   obtain⟨z,hz,RF⟩:=apN hn.1
   exact cB.nv ⟨z,hz,wD hk RF⟩
theorem Iv(x:Self){f:ay->ay}(hf:∀r,dZ (f r) r=true):(fq x).Pairwise λa b=>dZ (f a) (f b)=false:=by
 unfold fq
 rw[List.pairwise_map]
 have h:(jF x.net.aA x.id).Pairwise (· < ·):=qw.filter _
 refine h.imp λ{a b} nE=>?_
 cases hc:dZ (f (vr x.net.aA x.id x.heard a)) (f (vr x.net.aA x.id x.heard b))with
 |false=>rfl
 |true=>
  have:=wD (wD (B9 (hf _)) hc) (hf _)
  rw[sameKey_iff]at this
  have e:a=b:=this.1
  omega
theorem Be{x:Self}{o:ay}(ho:o∈fq x):gW o=gM o∧o.kind=1∧o.owner=x.id∧o.key=0∧(jF x.net.aA x.id).contains o.ae=true:=by
 obtain⟨a,ha,rfl⟩:=List.mem_map.1 ho
 exact⟨rfl,rfl,rfl,rfl,List.contains_iff_mem.2 ha⟩
theorem apO{x:Self}(h:jY x=true)(a:Int):wm x.id (yC x.net.aA x.id x.heard a)=true:=by
 obtain⟨hN,hid,jf,jS,xN,cC⟩:=qy h
 obtain⟨n1,hl,ht,hA,hT⟩:=wC hN
 have hk:=λk hk=>ca.1 xN k hk
 unfold yC
 refine O7 ?_ ?_
 ·intro y hy
  obtain⟨k,eU,rfl⟩:=List.mem_map.1 hy
  obtain⟨cO,iC⟩:=List.mem_filter.1 eU
  rw[List.mem_range]at cO
  rw[decide_eq_true_eq]at iC
  have h1:=hk k cO
  simp only[bI,decide_eq_true_eq]at h1
  rw[iC]at h1
  have h2:=tE _ _ h1.1
  have hm:=gZ (l:=x.net.aA) (n:=dz (eh x.id (gt x.heard (2*(k:Int))) a) x.net.aA) h1.1 (rz _ _)
  have h3:=yw hA hm
  have h4:lT x.net.aA x.id (gt x.heard (2*(k:Int))) a=(gt x.net.aA (dz (eh x.id (gt x.heard (2*(k:Int))) a) x.net.aA)).cost:=by unfold lT;rw[if_neg (by omega)]
  rw[gx]at h2
  simp only
  rw[h4]
  omega
 ·rw[List.pairwise_map]
  have j9:∀k,k+1<x.heard.length/2->gt x.heard (2*(k:Int))*4+gt x.heard (2*(k:Int)+1)<gt x.heard (2*((k+1:Nat):Int))*4+gt x.heard (2*((k+1:Nat):Int)+1):=by
   intro k nc
   have h1:=hk (k+1) nc
   have h0:=hk k (by omega)
   simp only[bI,Bool.or_eq_true,decide_eq_true_eq,Bool.not_eq_true',decide_eq_false_iff_not]at h1 h0
   have b1:=yw hA (gZ (l:=x.net.aA) h1.1 (rz _ _))
   have c1:=gx.1 (tE _ _ h1.1)
   have b0:=yw hA (gZ (l:=x.net.aA) h0.1 (rz _ _))
   have c0:=gx.1 (tE _ _ h0.1)
   have h2:=h1.2.resolve_left (by omega)
   rw[show(2:Int)*((k+1:Nat):Int)-2=2*(k:Int) by omega,show(2:Int)*((k+1:Nat):Int)-1=2*(k:Int)+1 by omega]at h2
   omega
  have Dp:∀d k,k+1+d<x.heard.length/2->gt x.heard (2*(k:Int))*4+gt x.heard (2*(k:Int)+1)<gt x.heard (2*((k+1+d:Nat):Int))*4+gt x.heard (2*((k+1+d:Nat):Int)+1):=by
   intro d
   induction d with
   |zero=>intro k nc;exact j9 k nc
   |succ d ih=>intro k nc;exact Int.lt_trans (ih k (by omega)) (j9 (k+1+d) nc)
  refine(List.pairwise_lt_range.filter _).imp_of_mem λ{i j} hi hj qu=>?_
  obtain⟨wV,l_⟩:=List.mem_filter.1 hi
  obtain⟨hj1,zY⟩:=List.mem_filter.1 hj
  rw[List.mem_range]at wV hj1
  rw[decide_eq_true_eq]at l_ zY
  have:=Dp (j-i-1) i (by omega)
  rw[show i+1+(j-i-1)=j by omega,l_,zY]at this
  show gt x.heard (2*(i:Int))<gt x.heard (2*(j:Int))
  omega
theorem YW{x:Self}(h:jY x=true){o:ay}(ho:o∈fq x):fu (gW o)=true:=by
 have hid:=(qy h).2.1
 have hN:=(wC (qy h).1).1
 obtain⟨a,ha,rfl⟩:=List.mem_map.1 ho
 have h2:=YE ha
 have h3:=apO h a
 unfold fu
 simp only[vr,gW,if_true,bI,aZ]
 refine⟨⟨by omega,by omega⟩,?_⟩
 simp[aZ,h2,h3]
theorem Eh(r:ay):dZ (gW r) r=true:=by
 rw[sameKey_iff]
 unfold gW
 split<;>exact⟨rfl,rfl,rfl,rfl⟩
theorem apP(r:ay):dZ (gM r) r=true:=by rw[sameKey_iff];exact⟨rfl,rfl,rfl,rfl⟩
theorem apQ{x:Self}(h:jY x=true):Ef (jF x.net.aA x.id) (zx x) (sY x.store x.id (fq x)):=by
 have cC:=(qy h).2.2.2.2.2
 have xg:=B4 cC
 have p1:jk (zx x):=by
  unfold zx fS
  have:∀(l s:List ay),jk s->jk (l.foldl (λc r=>dx c (gW r)) s):=by
   intro l;induction l with
   |nil=>intro s h;exact h
   |cons a l ih=>intro s h;exact ih _ (Jq h _)
  exact this _ _ xg
 have p2:jk (sY x.store x.id (fq x)):=by
  unfold sY fS
  have:∀(l s:List ay),jk s->jk (l.foldl (λc r=>dx c (gM r)) s):=by
   intro l;induction l with
   |nil=>intro s h;exact h
   |cons a l ih=>intro s h;exact ih _ (Jq h _)
  exact this _ _ (xg.filter _)
 have m1:=λr=>Jy (f:=gW) (r:=r) (s:=x.store) (Iv x Eh)
 have m2:=λr=>Jy (f:=gM) (r:=r) (s:=x.store.filter (yD x.id)) (Iv x apP)
 refine⟨p1,λr hr=>?_,p2,λr hr hn=>?_⟩
 ·rcases(m2 r).1 hr with⟨o,ho,e⟩|⟨h1,h2⟩
  ·exact(m1 r).2 (.inl ⟨o,ho,by rw[e,(Be ho).1]⟩)
  ·exact(m1 r).2 (.inr ⟨(List.mem_filter.1 h1).1,λo ho=>by rw[(Be ho).1];exact h2 o ho⟩)
 ·rcases(m1 r).1 hr with⟨o,ho,e⟩|⟨h1,h2⟩
  ·exact absurd ((m2 r).2 (.inl ⟨o,ho,by rw[e,(Be ho).1]⟩)) hn
  ·have hm:¬yD x.id r=true:=λhm=>hn ((m2 r).2 (.inr ⟨List.mem_filter.2 ⟨h1,hm⟩,λo ho=>by rw[<-(Be ho).1];exact h2 o ho⟩))
   have hm:r.kind=1∧r.owner=x.id:=by
    unfold yD at hm
    simpa using hm
   refine⟨hm.1,?_⟩
   cases hc:(jF x.net.aA x.id).contains r.ae with
   |false=>rfl
   |true=>
    have ha:=List.contains_iff_mem.1 hc
    have h3:=h2 (vr x.net.aA x.id x.heard r.ae) (List.mem_map.2 ⟨_,ha,rfl⟩)
    have hk:=O8 (B6 cC h1)
    have:dZ r (gW (vr x.net.aA x.id x.heard r.ae))=true:=by
     refine wD ?_ (B9 (Eh _))
     rw[sameKey_iff]
     exact⟨rfl,hm.1,hm.2,by show r.key=0;omega⟩
    rw[this]at h3;cases h3
theorem YX{x:Self}{S:List ay}{o:ay}(ho:o∈fq x):cB (oP x S) o:=
 cB.pf (z:=o) (Pg o) (List.mem_append.2 (.inl (List.mem_append.2 (.inl ho))))
theorem apR{x:Self}(h:jY x=true):Bd x (oP x (zx x))=Bd x (oP x (sY x.store x.id (fq x))):=by
 have hc:=apQ h
 have cC:=(qy h).2.2.2.2.2
 have xg:=B4 cC
 by_cases hlen:(zx x).length<=150
 ·have hr:∀r∈zx x,fu r=true:=by
   intro r hr
   rcases(Jy (f:=gW) (r:=r) (s:=x.store) (Iv x Eh)).1 hr with⟨o,ho,e⟩|⟨h1,_⟩
   ·rw[e];exact YW h ho
   ·exact B6 cC h1
  have h1:eA (zx x)=true:=by unfold eA;rw[bI,decide_eq_true_eq];exact⟨hlen,Ea hr hc.so⟩
  have h2:eA (sY x.store x.id (fq x))=true:=by
   unfold eA;rw[bI,decide_eq_true_eq]
   exact⟨Nat.le_trans (js_ hc.so' hc.so λr hr=>⟨r,hc.sub r hr,Pg r⟩) hlen,Ea (λr km=>hr r (hc.sub r km)) hc.so'⟩
  have e:pe x (zx x)=pe x (sY x.store x.id (fq x)):=by
   unfold pe
   rw[YO λa ha=>hc.cr (h1.trans h2.symm) (List.contains_iff_mem.2 ha) x.id]
  unfold oP
  rw[e]
 ·have big:∀S,Bd x (oP x S)=(x,[]):=by
   intro S
   unfold Bd
   rw[if_neg]
   rintro⟨_,h2⟩
   have hsT:jk (fS same x.store (sL x (oP x S))):=by
    unfold fS
    have:∀(l s:List ay),jk s->jk (l.foldl (λc r=>dx c (same r)) s):=by
     intro l;induction l with
     |nil=>intro s h;exact h
     |cons a l ih=>intro s h;exact ih _ (Jq h _)
    exact this _ _ xg
   have:=js_ hc.so hsT λr hr=>by
    rcases(Jy (f:=gW) (r:=r) (s:=x.store) (Iv x Eh)).1 hr with⟨o,ho,e⟩|⟨h1,_⟩
    ·obtain⟨z,hz,hk⟩:=YV x (oP x S) (y:=o) (.inr (YX ho))
     exact⟨z,hz,by rw[e];exact wD (Eh o) hk⟩
    ·exact YV x (oP x S) (.inl ⟨r,h1,Pg r⟩)
   omega
  rw[big,big]
theorem Bf(s:List ay)(r:ay):bG s r<s.length:=rz _ _
theorem apS{r:ay}(h:fu r=true):1<=r.seq∧r.seq<=100000:=by
 unfold fu at h
 simp only[bI,aZ]at h
 exact h.1.2
theorem Iw{s:List ay}(h:eA s=true)(r:ay):0<=sZ s r∧sZ s r<=100000:=by
 unfold sZ
 split
 ·omega
 ·have:=apS (B6 h (gZ (l:=s) (n:=bG s r) (by omega) (Bf s r)))
  omega
theorem Ix{x:Self}(h:eA x.store=true)(hb:0<=x.aV∧x.aV<=90)(r:ay):1<=wE x r∧wE x r<=100001:=by
 have:=Iw h r
 unfold wE
 split<;>omega
theorem apT(t0 t2 t3 t4 t5 u4 u5 u6 u7:T)(x:Self)(r:ay)(h:eA x.store=true)(hb:0<=x.aV∧x.aV<=90)(hl:x.store.length<=1048576):
  Rl [t0,ii x.aV,t2,t3,t4,t5,.l (x.store.map aC),ii r.ae,ii r.kind,ii r.owner,ii r.key,u4,u5,u6,u7]=some [ii (wE x r)]:=by
 have hk:=Oi x.store r.ae r.kind r.owner r.key u4 u5 u6 u7 hl
 rw[Oj]at hk
 have ho:=Iw h r
 rw[anh]
 unfold wE
 unfold sZ at ho⊢
 have bE:=Bf x.store r
 by_cases h0:bG x.store r<0
 ·have h1:¬bG x.store r>=0:=by omega
  rw[if_pos h0]at ho⊢
  simp(disch:=omega) only[↓pq,↓pj,ps,pz,↓reduceIte,af,ah,ai,aj,ak,ap,aq,au,av,Hx,hk,h1]
 ·have h1:bG x.store r>=0:=by omega
  have h2:0<=bG x.store r:=by omega
  rw[if_neg h0]at ho⊢
  simp(disch:=omega) only[↓pq,↓pj,ps,pz,↓reduceIte,af,ah,ai,aj,ak,ap,aq,au,av,Hx,hk,h1,h2,bE]
theorem YY(t0 t2 t3 t4 t5 t6:T)(x:Self)(r:ay)(h:eA x.store=true)(hb:0<=x.aV∧x.aV<=90):
  QV [t0,ii x.aV,t2,t3,t4,t5,t6,ii (sZ x.store r)]=some [ii (wE x r)]:=by
 have ho:=Iw h r
 rw[alu]
 unfold wE
 by_cases h1:sZ x.store r<1000*x.aV
 ·have h2:1000*x.aV+1>sZ x.store r+1:=by omega
  rw[if_pos h2]
  simp(disch:=omega) only[↓pq,↓pj,ps,pz,↓reduceIte,af,ah,ai,aj,ak,ap,aq,au,av,Ho,h1]
 ·have h2:¬1000*x.aV+1>sZ x.store r+1:=by omega
  rw[if_neg h2]
  simp(disch:=omega) only[↓pq,↓pj,ps,pz,↓reduceIte,af,ah,ai,aj,ak,ap,aq,au,av,Ho,h1]
theorem apU(r:ay)(t:T):AD [ii r.ae,ii r.kind,ii r.owner,ii r.key,ii r.seq,t,ii r.cost,bb r.eY]=some (aC (fT r)):=by
 rw[anj]
 unfold fT
 by_cases h:r.kind=1
 ·rw[if_pos h]
  simp(disch:=omega) only[↓pq,↓pj,ps,pz,↓reduceIte,af,ah,ai,aj,ak,ap,aq,au,av,Hy,h]
  rfl
 ·rw[if_neg h]
  simp(disch:=omega) only[↓pq,↓pj,ps,pz,↓reduceIte,af,ah,ai,aj,ak,ap,aq,au,av,Hy,h]
  rfl
theorem apV(r:ay)(h:r.kind≠1->r.bf=[]):QW [ii r.ae,ii r.kind,ii r.owner,ii r.key,ii r.seq,.l (r.bf.map eQ),ii r.cost,bb r.eY]=some (aC (fT r)):=by
 rw[alw]
 unfold fT
 by_cases hk:r.kind=1
 ·rw[if_pos hk]
  simp(disch:=omega) only[↓pq,↓pj,ps,pz,↓reduceIte,af,ah,ai,aj,ak,ap,aq,au,av,Hp,hk]
  rfl
 ·rw[if_neg hk]
  simp(disch:=omega) only[↓pq,↓pj,ps,pz,↓reduceIte,af,ah,ai,aj,ak,ap,aq,au,av,Hp,hk]
  rw[h hk]
  rfl
theorem apW{r:ay}(h:fu r=true):r.kind≠1->r.bf=[]:=by
 intro hk
 unfold fu at h
 simp only[bI]at h
 have h:=h.2
 rw[if_neg hk]at h
 split at h
 ·simp only[bI,decide_eq_true_eq]at h
  exact List.eq_nil_of_length_eq_zero (by omega)
 ·split at h
  ·simp only[bI,decide_eq_true_eq]at h
   exact List.eq_nil_of_length_eq_zero (by omega)
  ·cases h
theorem RG(r:ay):(fT r).bf=[]:=by unfold fT;split<;>rfl
theorem YZ{x:Self}{k:Nat}{c:List ay}(h:Fit k c){r:ay}(hr:r.bf.length<=1048576):Fit (k+1) (su x c r):=by
 unfold su
 split
 ·exact h.put hr
 ·exact h.mono (by omega)
theorem Y0{x:Self}{W:List ay}{k:Nat}{c:List ay}(h:Fit k c)(r:ay):Fit (k+1) (uO x W c r):=by
 unfold uO
 split
 ·exact h.put (by show(fT r).bf.length<=_;rw[RG];simp)
 ·exact h.mono (by omega)
section
variable (x:Self) (W:List ay) (t2 t3 t4:T)
theorem apX(h:eA x.store=true)(hb:0<=x.aV∧x.aV<=90)(hs:bh x.store)(hW:W.length<=25)(hn:bh W)(th:T)
  (hw:LU [ii x.id,ii x.aV,t2,t3,t4,th,.l (x.store.map aC)]=some [.l (W.map aC)]):
  AE [ii x.id,ii x.aV,t2,t3,t4,th,.l (x.store.map aC)]=some [.l ((sL x W).map aC)]:=by
 have hf:=Pc h hs
 have wU:=hf.len
 have hq:=λr:ay=>λu4 u5 u6 u7=>apT (ii x.id) t2 t3 t4 th u4 u5 u6 u7 x r h hb (by omega)
 rw[anl];simp(disch:=omega) only[↓pq,↓pj,ps,pz,↓reduceIte,af,ah,ai,aj,ak,ap,aq,au,av,DK,DL,NZ,hw]
 refine g_ W (λi c=>[.l (c.map aC),ii i,.l (W.map aC)]) (su x) (λc=>some [T.l ((x.store.foldl (uO x W) c).map aC)]) [] (λi c=>Fit i c) rfl (dh (by omega)) Fit.nil ?_ ?_
 ·intro i c hi hc
  have oH:=hn.gt (n:=i) (by omega) hi
  refine⟨YZ hc oH,λq=>?_⟩
  have uX:=hc.len
  have hk:=Oi x.store (gt W (i:Int)).ae (gt W (i:Int)).kind (gt W (i:Int)).owner (gt W (i:Int)).key (ii (gt W (i:Int)).seq) (.l ((gt W (i:Int)).bf.map eQ)) (ii (gt W (i:Int)).cost) (bb (gt W (i:Int)).eY) (by omega)
  rw[Oj]at hk
  have hq:=hq (gt W (i:Int)) (ii (gt W (i:Int)).seq) (.l ((gt W (i:Int)).bf.map eQ)) (ii (gt W (i:Int)).cost) (bb (gt W (i:Int)).eY)
  have hp:=HQ c (gt W (i:Int)).ae (gt W (i:Int)).kind (gt W (i:Int)).owner (gt W (i:Int)).key (wE x (gt W (i:Int))) (gt W (i:Int)).bf (gt W (i:Int)).cost (gt W (i:Int)).eY (by omega) hc.bf hc.so oH
  have bE:=Bf x.store (gt W (i:Int))
  unfold su qz
  by_cases h0:bG x.store (gt W (i:Int))<0
  ·simp(disch:=omega) only[↓pq,↓pj,ps,pz,↓reduceIte,af,ah,ai,aj,ak,ap,aq,au,av,DK,DL,hi,hk,h0,hq,hp,decide_true,Bool.true_or]
   rfl
  ·have h1:0<=bG x.store (gt W (i:Int)):=by omega
   have ri:=Xj (gt x.store (bG x.store (gt W (i:Int)))).ae (gt x.store (bG x.store (gt W (i:Int)))).kind (gt x.store (bG x.store (gt W (i:Int)))).owner (gt x.store (bG x.store (gt W (i:Int)))).key (gt x.store (bG x.store (gt W (i:Int)))).seq (gt x.store (bG x.store (gt W (i:Int)))).bf (gt x.store (bG x.store (gt W (i:Int)))).cost (gt x.store (bG x.store (gt W (i:Int)))).eY (gt W (i:Int)).ae (gt W (i:Int)).kind (gt W (i:Int)).owner (gt W (i:Int)).key (gt W (i:Int)).seq (gt W (i:Int)).bf (gt W (i:Int)).cost (gt W (i:Int)).eY (hs.gt h1 bE)
   rw[show(⟨(gt x.store (bG x.store (gt W (i:Int)))).ae,(gt x.store (bG x.store (gt W (i:Int)))).kind,(gt x.store (bG x.store (gt W (i:Int)))).owner,(gt x.store (bG x.store (gt W (i:Int)))).key,(gt x.store (bG x.store (gt W (i:Int)))).seq,(gt x.store (bG x.store (gt W (i:Int)))).bf,(gt x.store (bG x.store (gt W (i:Int)))).cost,(gt x.store (bG x.store (gt W (i:Int)))).eY⟩:ay)=gt x.store (bG x.store (gt W (i:Int))) from rfl,show(⟨(gt W (i:Int)).ae,(gt W (i:Int)).kind,(gt W (i:Int)).owner,(gt W (i:Int)).key,(gt W (i:Int)).seq,(gt W (i:Int)).bf,(gt W (i:Int)).cost,(gt W (i:Int)).eY⟩:ay)=gt W (i:Int) from rfl]at ri
   cases j3:xb (gt x.store (bG x.store (gt W (i:Int)))) (gt W (i:Int))with
   |true=>
    rw[j3]at ri
    simp(disch:=omega) only[↓pq,↓pj,ps,pz,↓reduceIte,af,ah,ai,aj,ak,ap,aq,au,av,DK,DL,hi,hk,h0,h1,bE,ri,decide_false,Bool.false_or,Bool.not_true,cI]
   |false=>
    rw[j3]at ri
    simp(disch:=omega) only[↓pq,↓pj,ps,pz,↓reduceIte,af,ah,ai,aj,ak,ap,aq,au,av,DK,DL,hi,hk,h0,h1,bE,ri,hq,hp,decide_false,Bool.false_or,Bool.not_false,cI]
    rfl
 ·intro c q hc
  simp(disch:=omega) only[↓pq,↓pj,ps,pz,↓reduceIte,af,ah,ai,aj,ak,ap,aq,au,av,DK,DL,]
  refine g_ x.store (λi c=>[.l (c.map aC),ii i]) (uO x W) (λc=>some [T.l (c.map aC)]) c (λi c=>Fit (25+i) c) rfl (dh (by omega)) (hc.mono (by omega)) ?_ ?_
  ·intro i c hi hc
   refine⟨Y0 hc _,λq=>?_⟩
   have uX:=hc.len
   generalize hr:gt x.store (i:Int)=r
   have hk:=Oi W r.ae r.kind r.owner r.key (ii r.seq) (.l (r.bf.map eQ)) (ii r.cost) (bb r.eY) (by omega)
   rw[Oj]at hk
   have hq:=hq r (ii r.seq) (.l (r.bf.map eQ)) (ii r.cost) (bb r.eY)
   have hg:=apU r (.l (r.bf.map eQ))
   have ri:=Xj (fT r).ae (fT r).kind (fT r).owner (fT r).key (fT r).seq (fT r).bf (fT r).cost (fT r).eY r.ae r.kind r.owner r.key r.seq r.bf r.cost r.eY (by rw[RG];simp)
   have hp:=HQ c (fT r).ae (fT r).kind (fT r).owner (fT r).key (wE x r) (fT r).bf (fT r).cost (fT r).eY (by omega) hc.bf hc.so (by rw[RG];simp)
   rw[show(⟨(fT r).ae,(fT r).kind,(fT r).owner,(fT r).key,(fT r).seq,(fT r).bf,(fT r).cost,(fT r).eY⟩:ay)=fT r from rfl,show(⟨r.ae,r.kind,r.owner,r.key,r.seq,r.bf,r.cost,r.eY⟩:ay)=r from rfl]at ri
   unfold uO s7
   simp only[aC]at hg
   by_cases h0:r.owner=x.id
   ·rw[h0]at hk hq hg ri
    by_cases h1:bG W r<0
    ·have h2:¬bG W r>=0:=by omega
     cases j3:xb (fT r) r with
     |true=>
      rw[j3]at ri
      simp(disch:=omega) only[↓pq,↓pj,ps,pz,↓reduceIte,af,ah,ai,aj,ak,ap,aq,au,av,DK,DL,hi,hr,h0,hk,h1,h2,hg,ri,Bool.not_true,Bool.and_false,cI]
     |false=>
      have e0:(r.owner==x.id)=true:=by simpa using h0
      rw[j3]at ri
      simp(disch:=omega) only[↓pq,↓pj,ps,pz,↓reduceIte,af,ah,ai,aj,ak,ap,aq,au,av,DK,DL,hi,hr,h0,hk,h1,h2,hg,ri,hq,hp,Bool.not_false,Bool.and_true,beq_self_eq_true,decide_true]
      rfl
    ·have h2:bG W r>=0:=by omega
     simp(disch:=omega) only[↓pq,↓pj,ps,pz,↓reduceIte,af,ah,ai,aj,ak,ap,aq,au,av,DK,DL,hi,hr,h0,hk,h1,h2,decide_false,Bool.false_and,Bool.and_false,cI]
   ·have e0:(r.owner==x.id)=false:=by simpa using h0
    simp(disch:=omega) only[↓pq,↓pj,ps,pz,↓reduceIte,af,ah,ai,aj,ak,ap,aq,au,av,DK,DL,hi,hr,h0,e0,Bool.false_and,cI]
  ·intro c q hc
   simp(disch:=omega) only[↓pq,↓pj,ps,pz,↓reduceIte,af,ah,ai,aj,ak,ap,aq,au,av,DK,DL,]
end
theorem apY{α γ:Type} [Inhabited α](l:List α)(p:α->Bool)(g:γ->α->γ)(c:γ):
  LS (λi _=>p (gt l (i:Int))) (λc i=>g c (gt l (i:Int))) l.length c=if l.all p=true then some (l.foldl g c)else none:=by
 have key:∀(m:List α) (o:γ),m.foldl (λ(o:Option γ) a=>o.bind λc=>if p a=true then some (g c a)else none) (some o)=if m.all p=true then some (m.foldl g o)else none:=by
  intro m
  induction m with
  |nil=>intro o;simp
  |cons a m ih=>
   intro o
   rw[List.foldl_cons,Option.bind_some]
   cases hp:p a with
   |true=>rw[if_pos rfl,ih];simp[hp]
   |false=>
    rw[if_neg (by decide)]
    have:∀m:List α,m.foldl (λ(o:Option γ) a=>o.bind λc=>if p a=true then some (g c a)else none) none=none:=by
     intro m;induction m with
     |nil=>rfl
     |cons a m ih=>exact ih
    rw[this];simp[hp]
 have e:l=(List.range l.length).map λi:Nat=>gt l (i:Int):=by
  refine List.ext_getElem (by simp) λi h1 h2=>?_
  rw[List.getElem_map,List.getElem_range,ed h1]
 rw[<-key]
 conv=>rhs;rw[e]
 rw[List.foldl_map]
 rfl
theorem Y5(x:Self)(h1:x.net.aA.length<=1048576)(h2:x.net.aN.length<=1048576)(h3:x.heard.length<=1048576)(h4:x.store.length<=1048576)(h5:bh x.store):
  GW [ii x.id,ii x.aV,ii x.net.n,.l (x.net.aA.map dm),.l (x.net.aN.map dM),.l (x.heard.map aD),.l (x.store.map aC)]=some (iK x):=by
 have hN:EO [ii x.net.n,.l (x.net.aA.map dm),.l (x.net.aN.map dM)]=some [ii x.net.n,.l (x.net.aA.map dm),.l (x.net.aN.map dM)]:=by
  rw[W7];simp(disch:=omega) only[↓pq,↓pj,ps,pz,↓reduceIte,af,ah,ai,aj,ak,ap,aq,au,av,Hu]
 rw[al4];simp(disch:=omega) only[↓pq,↓pj,ps,pz,↓reduceIte,af,ah,ai,aj,ak,ap,aq,au,av,Ni,hN,rC _ h3,Ol _ h4 h5]
 rfl
theorem apZ(x:Self)(h1:x.net.aA.length<=1048576)(h2:x.net.aN.length<=1048576)(h3:x.heard.length<=1048576)(h4:x.store.length<=1048576)(h5:bh x.store):
  QR [ii x.id,ii x.aV,ii x.net.n,.l (x.net.aA.map dm),.l (x.net.aN.map dM),.l (x.heard.map aD),.l (x.store.map aC)]=some (iK x):=by
 rw[alk];simp(disch:=omega) only[↓pq,↓pj,ps,pz,↓reduceIte,af,ah,ai,aj,ak,ap,aq,au,av,M5,Jp _ h4 h5]
 rfl
theorem ap0(s:List ay)(r:ay)(u4 u5 u6 u7:T)(h:s.length<=1048576)(hn:bh s):
  DA [.l (s.map aC),ii r.ae,ii r.kind,ii r.owner,ii r.key,u4,u5,u6,u7]=if bG s r<0 then some [ii 0,ii 0,ii 0,ii 0,ii 0,.l [],ii 0,bb false,bb false]else some (aC (gt s (bG s r))++[bb true]):=by
 have hk:=DN s r.ae r.kind r.owner r.key u4 u5 u6 u7 h
 rw[Oj]at hk
 have bE:=Bf s r
 rw[WZ]
 by_cases h0:bG s r<0
 ·rw[if_pos h0]
  simp(disch:=omega) only[↓pq,↓pj,ps,pz,↓reduceIte,af,ah,ai,aj,ak,ap,aq,au,av,AJ,hk,h0]
 ·rw[if_neg h0]
  have h1:0<=bG s r:=by omega
  have oH:=hn.gt h1 bE
  simp(disch:=omega) only[↓pq,↓pj,ps,pz,↓reduceIte,af,ah,ai,aj,ak,ap,aq,au,av,AJ,hk,h0,h1,bE,Xr]
  rfl
theorem Pj{x:Self}(S:List ay)(ht:x.net.aN.length<=4)(hh:x.heard.length<=1048576):Fit 25 (oP x S):=by
 have h1:=It x
 have h2:=apz x S
 have h3:=YQ x
 refine(Fit.nv (f:=same) (l:=fq x++pe x S++Is x) (λr hr=>?_) Fit.nil).mono ?_
 ·show r.bf.length<=_
  rcases List.mem_append.1 hr with hr|hr
  ·rcases List.mem_append.1 hr with hr|hr
   ·exact Iu hh r hr
   ·unfold pe at hr
    split at hr
    ·obtain⟨a,_,hr⟩:=List.mem_flatMap.1 hr
     exact Pb _ _ _ _ r hr
    ·cases hr
  ·obtain⟨t,_,rfl⟩:=List.mem_map.1 hr
   simp[ss]
 ·simp only[List.length_append];omega
theorem Y7{x:Self}{W:List ay}(hW:Fit 25 W)(hs:x.store.length<=150):Fit 175 (sL x W):=by
 have h1:∀(l c:List ay) k,(∀r∈l,r.bf.length<=1048576)->Fit k c->Fit (k+l.length) (l.foldl (su x) c):=by
  intro l
  induction l with
  |nil=>intro c k _ h;exact h
  |cons a l ih=>intro c k hl h;rw[List.foldl_cons,List.length_cons];exact(ih _ _ (λr hr=>hl r (.tail _ hr)) (YZ h (hl a (.head _)))).mono (by omega)
 have h2:∀(l c:List ay) k,Fit k c->Fit (k+l.length) (l.foldl (uO x W) c):=by
  intro l
  induction l with
  |nil=>intro c k h;exact h
  |cons a l ih=>intro c k h;rw[List.foldl_cons,List.length_cons];exact(ih _ _ (Y0 h a)).mono (by omega)
 have hl:=hW.len
 exact(h2 _ _ _ (h1 W [] 0 hW.bf Fit.nil)).mono (by omega)
theorem ap1{x:Self}(h:eA x.store=true)(hb:0<=x.aV∧x.aV<=90)(W:List ay):∀r∈sL x W,1<=r.seq:=by
 have hp:∀(c:List ay) (r:ay),1<=r.seq->(∀y∈c,1<=y.seq)->∀y∈dx c r,1<=y.seq:=by
  intro c r h1 h2 y hy
  rcases zt hy with rfl|hy
  ·exact h1
  ·exact h2 y hy
 have h1:∀(l c:List ay),(∀y∈c,1<=y.seq)->∀y∈l.foldl (su x) c,1<=y.seq:=by
  intro l
  induction l with
  |nil=>intro c h;exact h
  |cons a l ih=>
   intro c hc
   rw[List.foldl_cons]
   refine ih _ ?_
   unfold su
   split
   ·exact hp _ _ (Ix h hb a).1 hc
   ·exact hc
 have h2:∀(l c:List ay),(∀y∈c,1<=y.seq)->∀y∈l.foldl (uO x W) c,1<=y.seq:=by
  intro l
  induction l with
  |nil=>intro c h;exact h
  |cons a l ih=>
   intro c hc
   rw[List.foldl_cons]
   refine ih _ ?_
   unfold uO
   split
   ·exact hp _ _ (Ix h hb a).1 hc
   ·exact hc
 exact h2 _ _ (h1 _ _ (by simp))
def pE(x:Self):Self×List ay:=if jY x=true then Bd x (oP x (sY x.store x.id (fq x)))else(x,[])
theorem Y9(x:Self)(h1:x.net.aA.length<=1048576)(h2:x.net.aN.length<=1048576)(h3:x.heard.length<=1048576)(h4:x.store.length<=1048576)(h5:bh x.store):
  G6 [ii x.id,ii x.aV,ii x.net.n,.l (x.net.aA.map dm),.l (x.net.aN.map dM),.l (x.heard.map aD),.l (x.store.map aC)]=some (iK (pE x).1++[.l ((pE x).2.map aC)]):=by
 have hS:=HI x.id x.aV x.net.n x.net.aA x.net.aN x.heard x.store h1 h2 h3 h4 h5
 rw[show(⟨x.id,x.aV,⟨x.net.n,x.net.aA,x.net.aN⟩,x.heard,x.store⟩:Self)=x from rfl]at hS
 have hC:=Y5 x h1 h2 h3 h4 h5
 simp only[iK]at hC
 cases hk:jY x with
 |false=>
  rw[hk]at hS
  rw[show pE x=(x,[]) from by unfold pE;rw[if_neg (by rw[hk];decide)]]
  rw[Xb];simp(disch:=omega) only[↓pq,↓pj,ps,pz,↓reduceIte,af,ah,ai,aj,ak,ap,aq,au,av,N0,Hz,hS,hC,cI]
  rfl
 |true=>
  rw[hk]at hS
  rw[show pE x=Bd x (oP x (sY x.store x.id (fq x))) from by unfold pE;rw[if_pos hk]]
  obtain⟨hN,hid,jf,jS,xN,cC⟩:=qy hk
  obtain⟨n1,hl,ht,hA,hT⟩:=wC hN
  have hW:=apG x.id x.aV x.net.n x.net.aA x.net.aN x.heard x.store h1 h2 h3 h4 h5 hk
  rw[show(⟨x.id,x.aV,⟨x.net.n,x.net.aA,x.net.aN⟩,x.heard,x.store⟩:Self)=x from rfl]at hW
  have Jz:=Pj (x:=x) (sY x.store x.id (fq x)) ht h3
  generalize oP x (sY x.store x.id (fq x))=W at hW Jz
  have hf:=Pc cC h5
  have hF:=apX x W _ _ _ cC jf h5 Jz.len Jz.bf _ hW
  have hlf:=Y7 (x:=x) Jz hf.len
  unfold Bd
  generalize sL x W=l at hF hlf
  have hll:=hlf.len
  rw[Xb];simp(disch:=omega) only[↓pq,↓pj,ps,pz,↓reduceIte,af,ah,ai,aj,ak,ap,aq,au,av,N0,Hz,hS,hC,hF,Ol _ h4 h5]
  refine(ait l.length (λi c=>[.l [],.l (c.map aC),ii i]) (λi _=>decide ((gt l (i:Int)).seq<=100000)) (λc i=>dx c (same (gt l (i:Int)))) (λc=>some (if c.length<=150 then iK {x with store:=c}++[.l (l.map aC)]else iK x++[.l []])) (gT:=some (iK x++[.l []])) x.store (λi c=>Fit (150+i) c) rfl (dh (by omega)) hf ?_ ?_).trans ?_
  ·intro i c hi hc
   have oH:=hlf.bf.gt (n:=i) (by omega) hi
   refine⟨λ_=>hc.put oH,λq=>?_⟩
   have uX:=hc.len
   have hp:=HQ c (gt l (i:Int)).ae (gt l (i:Int)).kind (gt l (i:Int)).owner (gt l (i:Int)).key (gt l (i:Int)).seq (gt l (i:Int)).bf (gt l (i:Int)).cost (gt l (i:Int)).eY (by omega) hc.bf hc.so oH
   by_cases hq:(gt l (i:Int)).seq<=100000
   ·have nk:¬(gt l (i:Int)).seq>100000:=by omega
    simp(disch:=omega) only[↓pq,↓pj,ps,pz,↓reduceIte,af,ah,ai,aj,ak,ap,aq,au,av,N0,hi,hq,nk,hp,decide_true]
    rfl
   ·have nk:(gt l (i:Int)).seq>100000:=by omega
    simp(disch:=omega) only[↓pq,↓pj,ps,pz,↓reduceIte,af,ah,ai,aj,ak,ap,aq,au,av,N0,hi,hq,nk,decide_false,cI]
    rfl
  ·intro c q hc
   by_cases hq:c.length<=150
   ·have nk:¬(c.length:Int)>150:=by omega
    rw[if_pos hq]
    simp(disch:=omega) only[↓pq,↓pj,ps,pz,↓reduceIte,af,ah,ai,aj,ak,ap,aq,au,av,N0,nk]
    rfl
   ·have nk:(c.length:Int)>150:=by omega
    rw[if_neg hq]
    simp(disch:=omega) only[↓pq,↓pj,ps,pz,↓reduceIte,af,ah,ai,aj,ak,ap,aq,au,av,N0,nk]
    rfl
  ·rw[apY l (λr=>decide (r.seq<=100000)) (λc r=>dx c (same r))]
   cases D_:l.all λr=>decide (r.seq<=100000)with
   |false=>
    rw[if_neg (by decide),if_neg (by rintro⟨h,_⟩;cases h)]
    rfl
   |true=>
    rw[if_pos rfl]
    show some (if(fS same x.store l).length<=150 then _ else _)=_
    by_cases hq:(fS same x.store l).length<=150
    ·rw[if_pos hq,if_pos ⟨rfl,hq⟩]
     rfl
    ·rw[if_neg hq,if_neg λh=>hq h.2]
     rfl
def wG(k:Nat)(c:List ay):Prop:=Fit k c∧∀y∈c,1<=y.seq
theorem wG.put{k:Nat}{c:List ay}(h:wG k c){r:ay}(hr:r.bf.length<=1048576)(hq:1<=r.seq):wG (k+1) (dx c r):=
 ⟨h.1.put hr,λy hy=>by
  rcases zt hy with rfl|hy
  ·exact hq
  ·exact h.2 y hy⟩
theorem wG.mono{k k':Nat}{c:List ay}(h:wG k c)(hk:k<=k'):wG k' c:=⟨h.1.mono hk,h.2⟩
def Ei(x:Self)(l:List ay):List T:=
 if l.all (λr=>decide (r.seq<=100000))=true∧(fS same x.store l).length<=150 then iK {x with store:=fS same x.store l}++[.l (l.map aC)]else iK x++[.l []]
theorem Y_(x:Self)(h1:x.net.aA.length<=1048576)(h2:x.net.aN.length<=1048576)(h3:x.heard.length<=1048576)(h4:x.store.length<=1048576)(h5:bh x.store):
  GR [ii x.id,ii x.aV,ii x.net.n,.l (x.net.aA.map dm),.l (x.net.aN.map dM),.l (x.heard.map aD),.l (x.store.map aC)]=some (iK (pE x).1++[.l ((pE x).2.map aC)]):=by
 have hS:=Od x.id x.aV x.net.n x.net.aA x.net.aN x.heard x.store h1 h2 h3 h4 h5
 rw[show(⟨x.id,x.aV,⟨x.net.n,x.net.aA,x.net.aN⟩,x.heard,x.store⟩:Self)=x from rfl]at hS
 have hC:=apZ x h1 h2 h3 h4 h5
 simp only[iK]at hC
 cases hk:jY x with
 |false=>
  rw[hk]at hS
  rw[show pE x=(x,[]) from by unfold pE;rw[if_neg (by rw[hk];decide)]]
  rw[W3];simp(disch:=omega) only[↓pq,↓pj,ps,pz,↓reduceIte,af,ah,ai,aj,ak,ap,aq,au,av,w5,w6,w7,Hq,hS,hC,cI]
  rfl
 |true=>
  rw[hk]at hS
  rw[show pE x=Bd x (oP x (sY x.store x.id (fq x))) from by unfold pE;rw[if_pos hk],<-apR hk]
  obtain⟨hN,hid,jf,jS,xN,cC⟩:=qy hk
  obtain⟨n1,hl,ht,hA,hT⟩:=wC hN
  have hW:=apK x.id x.aV x.net.n x.net.aA x.net.aN x.heard x.store h1 h2 h3 h4 h5 hk
  rw[show(⟨x.id,x.aV,⟨x.net.n,x.net.aA,x.net.aN⟩,x.heard,x.store⟩:Self)=x from rfl]at hW
  have Jz:=Pj (x:=x) (zx x) ht h3
  generalize oP x (zx x)=W at hW Jz
  have hf:=Pc cC h5
  have wU:=hf.len
  have XI:=Jz.len
  rw[show some (iK (Bd x W).1++[T.l ((Bd x W).2.map aC)])=some (Ei x (x.store.foldl (uO x W) (W.foldl (su x) []))) from by
   unfold Bd Ei
   rw[show x.store.foldl (uO x W) (W.foldl (su x) [])=sL x W from rfl]
   split<;>rfl]
  rw[W3];simp(disch:=omega) only[↓pq,↓pj,ps,pz,↓reduceIte,af,ah,ai,aj,ak,ap,aq,au,av,w5,w6,w7,Hq,hS,hW]
  refine g_ W (λi c=>[.l (c.map aC),ii i]) (su x) (λc=>some (Ei x (x.store.foldl (uO x W) c))) [] (λi c=>wG i c) rfl (dh (by omega)) ⟨Fit.nil,by simp⟩ ?_ ?_
  ·intro i c hi hc
   have oH:=Jz.bf.gt (n:=i) (by omega) hi
   generalize hw:gt W (i:Int)=w at oH
   refine⟨?_,λq=>?_⟩
   ·unfold su
    split
    ·exact hc.put oH (Ix cC jf w).1
    ·exact hc.mono (by omega)
   ·have uX:=hc.1.len
    have hF:=ap0 x.store w (ii w.seq) (.l (w.bf.map eQ)) (ii w.cost) (bb w.eY) h4 h5
    have hq:=YY (ii x.id) (ii x.net.n) (.l (x.net.aA.map dm)) (.l (x.net.aN.map dM)) (.l (x.heard.map aD)) (.l (x.store.map aC)) x w cC jf
    have hp:=Om c w.ae w.kind w.owner w.key (wE x w) w.bf w.cost w.eY (by omega) hc.1.bf oH
    have bE:=Bf x.store w
    unfold su qz
    unfold sZ at hq
    by_cases h0:bG x.store w<0
    ·rw[if_pos h0]at hF hq
     simp(disch:=omega) only[↓pq,↓pj,ps,pz,↓reduceIte,af,ah,ai,aj,ak,ap,aq,au,av,w5,w6,w7,hi,hw,hF,h0,hq,hp,decide_true,Bool.true_or,cI]
     rfl
    ·have h1:0<=bG x.store w:=by omega
     rw[if_neg h0]at hF hq
     have ri:=Xk (gt x.store (bG x.store w)).ae (gt x.store (bG x.store w)).kind (gt x.store (bG x.store w)).owner (gt x.store (bG x.store w)).key (gt x.store (bG x.store w)).seq (gt x.store (bG x.store w)).bf (gt x.store (bG x.store w)).cost (gt x.store (bG x.store w)).eY w.ae w.kind w.owner w.key w.seq w.bf w.cost w.eY (h5.gt h1 bE)
     rw[show(⟨(gt x.store (bG x.store w)).ae,(gt x.store (bG x.store w)).kind,(gt x.store (bG x.store w)).owner,(gt x.store (bG x.store w)).key,(gt x.store (bG x.store w)).seq,(gt x.store (bG x.store w)).bf,(gt x.store (bG x.store w)).cost,(gt x.store (bG x.store w)).eY⟩:ay)=gt x.store (bG x.store w) from rfl,show(⟨w.ae,w.kind,w.owner,w.key,w.seq,w.bf,w.cost,w.eY⟩:ay)=w from rfl]at ri
     simp only[aC,List.cons_append,List.nil_append]at hF
     cases j3:xb (gt x.store (bG x.store w)) w with
     |true=>
      rw[j3]at ri
      simp(disch:=omega) only[↓pq,↓pj,ps,pz,↓reduceIte,af,ah,ai,aj,ak,ap,aq,au,av,w5,w6,w7,hi,hw,hF,h0,ri,decide_false,Bool.false_or,Bool.not_true,cI]
     |false=>
      rw[j3]at ri
      simp(disch:=omega) only[↓pq,↓pj,ps,pz,↓reduceIte,af,ah,ai,aj,ak,ap,aq,au,av,w5,w6,w7,hi,hw,hF,h0,ri,hq,hp,decide_false,Bool.false_or,Bool.not_false,cI]
      rfl
  ·intro c q hc
   simp(disch:=omega) only[↓pq,↓pj,ps,pz,↓reduceIte,af,ah,ai,aj,ak,ap,aq,au,av,w5,w6,w7,]
   refine g_ x.store (λi c=>[.l (c.map aC),ii i]) (uO x W) (λl=>some (Ei x l)) c (λi c=>wG (25+i) c) rfl (dh (by omega)) (hc.mono (by omega)) ?_ ?_
   ·intro i c hi hc
    have oH:=h5.gt (n:=i) (by omega) hi
    have ul:=B6 cC (gZ (l:=x.store) (n:=(i:Int)) (by omega) hi)
    generalize hr:gt x.store (i:Int)=r at oH ul
    refine⟨?_,λq=>?_⟩
    ·unfold uO
     split
     ·exact hc.put (by show(fT r).bf.length<=_;rw[RG];simp) (Ix cC jf r).1
     ·exact hc.mono (by omega)
    ·have uX:=hc.1.len
     have hk:=DN W r.ae r.kind r.owner r.key (ii r.seq) (.l (r.bf.map eQ)) (ii r.cost) (bb r.eY) (by omega)
     rw[Oj]at hk
     have hold:sZ x.store r=r.seq:=by
      obtain⟨j,hj,e⟩:∃j:Nat,j<x.store.length∧bG x.store r=j:=by
       have h0:0<=dz (λy=>dZ y r) x.store:=A8 (hr▸gZ (l:=x.store) (n:=(i:Int)) (by omega) hi) (Pg r)
       have:=Bf x.store r
       exact⟨(bG x.store r).toNat,by unfold bG at *;omega,by unfold bG at *;omega⟩
      have qM:dZ (gt x.store (bG x.store r)) r=true:=tE (λy=>dZ y r) x.store (by unfold bG at e;omega)
      have hm:=gZ (l:=x.store) (n:=bG x.store r) (by omega) (by omega)
      have hmr:r∈x.store:=hr▸gZ (l:=x.store) (n:=(i:Int)) (by omega) hi
      have heq:gt x.store (bG x.store r)=r:=by
       generalize gt x.store (bG x.store r)=z at qM hm
       have xg:=B4 cC
       obtain⟨a,ha,rfl⟩:=List.mem_iff_getElem.1 hm
       obtain⟨b,hb,e2⟩:=List.mem_iff_getElem.1 hmr
       rcases Nat.lt_trichotomy a b with nE|nE|nE
       ·have:=List.pairwise_iff_getElem.1 xg a b ha hb nE
        rw[e2]at this
        rw[Xs this]at qM;cases qM
       ·subst nE;exact e2
       ·have:=List.pairwise_iff_getElem.1 xg b a hb ha nE
        rw[e2]at this
        have h9:=B9 qM
        rw[Xs this]at h9;cases h9
      unfold sZ
      rw[if_neg (by omega),heq]
     have hq:=YY (ii x.id) (ii x.net.n) (.l (x.net.aA.map dm)) (.l (x.net.aN.map dM)) (.l (x.heard.map aD)) (.l (x.store.map aC)) x r cC jf
     rw[hold]at hq
     have qY:=Xr r.ae r.kind r.owner r.key r.seq r.bf r.cost r.eY oH
     have hg:=apV r (apW ul)
     have ri:=Xk (fT r).ae (fT r).kind (fT r).owner (fT r).key (fT r).seq (fT r).bf (fT r).cost (fT r).eY r.ae r.kind r.owner r.key r.seq r.bf r.cost r.eY (by rw[RG];simp)
     have hp:=Om c (fT r).ae (fT r).kind (fT r).owner (fT r).key (wE x r) (fT r).bf (fT r).cost (fT r).eY (by omega) hc.1.bf (by rw[RG];simp)
     rw[show(⟨(fT r).ae,(fT r).kind,(fT r).owner,(fT r).key,(fT r).seq,(fT r).bf,(fT r).cost,(fT r).eY⟩:ay)=fT r from rfl,show(⟨r.ae,r.kind,r.owner,r.key,r.seq,r.bf,r.cost,r.eY⟩:ay)=r from rfl]at ri
     unfold uO s7
     simp only[aC]at hg
     by_cases h0:r.owner=x.id
     ·rw[h0]at hk hg ri qY
      by_cases h1:bG W r<0
      ·have h2:¬bG W r>=0:=by omega
       cases j3:xb (fT r) r with
       |true=>
        rw[j3]at ri
        simp(disch:=omega) only[↓pq,↓pj,ps,pz,↓reduceIte,af,ah,ai,aj,ak,ap,aq,au,av,w5,w6,w7,hi,hr,h0,hk,h1,h2,qY,hg,ri,Bool.not_true,Bool.and_false,cI]
       |false=>
        rw[j3]at ri
        simp(disch:=omega) only[↓pq,↓pj,ps,pz,↓reduceIte,af,ah,ai,aj,ak,ap,aq,au,av,w5,w6,w7,hi,hr,h0,hk,h1,h2,qY,hg,ri,hq,hp,Bool.not_false,Bool.and_true,beq_self_eq_true,decide_true,cI]
        rfl
      ·have h2:bG W r>=0:=by omega
       simp(disch:=omega) only[↓pq,↓pj,ps,pz,↓reduceIte,af,ah,ai,aj,ak,ap,aq,au,av,w5,w6,w7,hi,hr,h0,hk,h1,h2,decide_false,Bool.false_and,Bool.and_false,cI]
     ·have e0:(r.owner==x.id)=false:=by simpa using h0
      simp(disch:=omega) only[↓pq,↓pj,ps,pz,↓reduceIte,af,ah,ai,aj,ak,ap,aq,au,av,w5,w6,w7,hi,hr,h0,e0,Bool.false_and,cI]
   ·intro l q lu
    have hll:=lu.1.len
    simp(disch:=omega) only[↓pq,↓pj,ps,pz,↓reduceIte,af,ah,ai,aj,ak,ap,aq,au,av,w5,w6,w7,]
    have hwz:fS gW x.store l=fS same x.store l:=YF (λr hr=>by unfold gW;rw[if_neg (by have:=lu.2 r hr;omega)];rfl) _
    have hwi:=O' x.store l (by omega) h5 lu.1.bf
    rw[hwz]at hwi
    have B_:Fit 325 (fS same x.store l):=(Fit.nv (f:=same) (λr hr=>lu.1.bf r hr) hf).mono (by omega)
    unfold Ei
    generalize fS same x.store l=P at hwi B_
    have hPl:=B_.len
    refine(Au l.length (λi=>[.l [],ii i]) (λi=>decide ((gt l (i:Int)).seq<=100000)) (gT:=some (iK x++[.l []])) (jx:=some (if P.length<=150 then iK {x with store:=P}++[.l (l.map aC)]else iK x++[.l []])) rfl (dh (by omega)) ?_ ?_).trans ?_
    ·intro i hi s
     by_cases hq:(gt l (i:Int)).seq<=100000
     ·have nk:¬(gt l (i:Int)).seq>100000:=by omega
      simp(disch:=omega) only[↓pq,↓pj,ps,pz,↓reduceIte,af,ah,ai,aj,ak,ap,aq,au,av,w5,w6,w7,hi,hq,nk,decide_true]
     ·have nk:(gt l (i:Int)).seq>100000:=by omega
      simp(disch:=omega) only[↓pq,↓pj,ps,pz,↓reduceIte,af,ah,ai,aj,ak,ap,aq,au,av,w5,w6,w7,hi,hq,nk,hC,decide_false,cI]
      rfl
    ·intro s
     by_cases hq:P.length<=150
     ·have nk:¬(P.length:Int)>150:=by omega
      rw[if_pos hq]
      simp(disch:=omega) only[↓pq,↓pj,ps,pz,↓reduceIte,af,ah,ai,aj,ak,ap,aq,au,av,w5,w6,w7,hC,hwi,Jp P (by omega) B_.bf,nk,Jp l (by omega) lu.1.bf]
      rfl
     ·have nk:(P.length:Int)>150:=by omega
      rw[if_neg hq]
      simp(disch:=omega) only[↓pq,↓pj,ps,pz,↓reduceIte,af,ah,ai,aj,ak,ap,aq,au,av,w5,w6,w7,hC,hwi,Jp P (by omega) B_.bf,nk]
      rfl
    ·have e:o7 l.length (λi=>decide ((gt l (i:Int)).seq<=100000))=l.all λr=>decide (r.seq<=100000):=by
      rw[Bool.eq_iff_iff,ca,List.all_eq_true]
      constructor
      ·intro h r hr
       obtain⟨i,hi,rfl⟩:=List.mem_iff_getElem.1 hr
       have:=h i hi
       rwa[ed hi]at this
      ·intro h i hi
       rw[ed hi]
       exact h _ (List.getElem_mem hi)
     rw[e]
     cases l.all λr=>decide (r.seq<=100000)with
     |false=>rw[if_neg (by decide),if_neg (by rintro⟨h,_⟩;cases h)]
     |true=>
      rw[if_pos rfl]
      by_cases hq:P.length<=150
      ·rw[if_pos hq,if_pos ⟨rfl,hq⟩]
      ·rw[if_neg hq,if_neg λh=>hq h.2]
end Go.Proofs.YtjimmglpkndemaaGreatC
