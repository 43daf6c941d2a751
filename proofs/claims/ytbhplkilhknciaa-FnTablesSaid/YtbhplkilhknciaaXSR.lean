/- What a node at a u5_ tells, by both programs. Conditions: none. -/
import Derived.Test.YtbhplkilhknciaaXSA
namespace Go.Proofs.YtbhplkilhknciaaC
open Int renaming reduceLE -> ah, reduceLT -> ai, reduceEq -> aj, reduceGT -> ak, reduceGE -> aq, reduceAdd -> au, reduceSub -> av, reduceMul -> aw, reduceNeg -> ax
set_option linter.unusedVariables false
set_option linter.unusedSimpArgs false
def zP(aC fr:Int)(w:Way):aI:=⟨aC,2,fr,w.to,0,[],w.cost,false⟩
def zQ(here:List Way)(fr:Int)(k:Int):Bool:=decide (dQ here k<0)&&decide (k≠fr)
def zR(here:List Way)(aC fr:Int)(W:List Way)(k:Int):Option aI:=if zQ here fr k=true then(cE W k).map (zP aC fr)else none
def A1(here:List Way)(aC fr:Int)(W:List Way):List aI:=rL.filterMap (zR here aC fr W)
theorem MF{here:List Way}{aC fr:Int}{W:List Way}{k:Int}{r:aI}(h:zR here aC fr W k=some r):r.key=k∧r.aC=aC∧r.kind=2∧r.owner=fr∧r.fU=[]∧r.seq=0∧r.jX=false∧zQ here fr k=true∧∃w,cE W k=some w∧r=zP aC fr w:=by
 unfold zR at h
 split at h
 ·rename_i hc
  obtain⟨w,hw,e⟩:=Option.map_eq_some_iff.1 h
  subst e
  exact⟨(sN hw).2,rfl,rfl,rfl,rfl,rfl,rfl,hc,w,hw,rfl⟩
 ·cases h
theorem ue{here:List Way}{aC fr:Int}{W:List Way}{r:aI}:r∈A1 here aC fr W↔(1<=r.key∧r.key<=6)∧zR here aC fr W r.key=some r:=by
 unfold A1
 rw[List.mem_filterMap]
 constructor
 ·rintro⟨k,hk,h⟩
  have:=(MF h).1
  subst this
  exact⟨fA.1 hk,h⟩
 ·rintro⟨h1,h2⟩
  exact⟨r.key,fA.2 h1,h2⟩
theorem acq(here:List Way)(aC fr:Int)(W:List Way):(A1 here aC fr W).length<=6:=List.length_filterMap_le _ _
def acr(A:List Int)(aC:Int):List Int:=A.filter λa=>!(a==aC)
def EB(s:List aI)(A:List Int)(fr aC:Int):List Way:=gf s (acr A aC) fr++if aC=0 then []else j8 s A true fr
def uf(s:List aI)(A:List Int)(fr aC:Int):List aI:=A1 (eX s aC fr) aC fr (EB s A fr aC)
theorem acs(here:List Way)(aC fr:Int):A1 here aC fr []=[]:=by
 unfold A1
 rw[List.filterMap_eq_nil_iff]
 intro k _
 unfold zR
 have:cE [] k=none:=rfl
 rw[this]
 split<;>rfl
theorem acu(W:List Way)(k:Int):(cE W k).isSome=true↔¬dQ W k<0:=by
 unfold cE
 split<;>simp_all
theorem acv{s:List aI}(hs:iO s=false)(A:List Int)(fr aC:Int):uf s A fr aC=[]:=by
 have hw:∀a,eX s a fr=[]:=λa=>by unfold eX;rw[if_neg (by rw[hs];simp)]
 have h1:∀A,oh s A fr=[]:=λA=>by unfold oh;rw[List.flatMap_eq_nil_iff];intro a _;exact hw a
 have h2:∀A,gf s A fr=[]:=λA=>by unfold gf;rw[h1];rfl
 have h3:j8 s A true fr=[]:=by
  unfold j8
  have:zJ s A true fr=[]:=by
   unfold zJ
   rw[List.filterMap_eq_nil_iff]
   intro x hx
   cases e:rP s A true fr x with
   |none=>rfl
   |some w=>
    obtain⟨_,y,hy,_⟩:=Gx e
    have:=(En hy).2.2.2.2
    rw[hs]at this;cases this
  rw[this];rfl
 unfold uf EB
 rw[h2,h3]
 have:(if aC=0 then([]:List Way)else [])=[]:=by split<;>rfl
 rw[this]
 exact acs _ _ _
theorem EC{W:List Way}(hl:W.length<=1048576)(hW:∀w∈W,w.ae.length<=1048576)(k:Int):pg [.l (W.map bM),ii k]=some (match cE W k with|none=>[ii 0,ii 0,.l [],bb false]|some w=>bM w++[bb true]):=by
 rw[Gp W k hl hW]
 unfold cE
 split<;>rfl
theorem acw(s:List aI)(A:List Int)(fr aC:Int)(h:s.length<=1048576)(hn:dj s)(ha:A.length<=1048576):FP [.l (s.map bh),.l (A.map aA),ii fr,ii aC]=some [.l ((uf s A fr aC).map bh)]:=by
 rw[ZU];simp(disch:=omega) only[↓pq,↓pj,ps,pz,↓reduceIte,ah,ai,aj,ak,aq,au,av,aw,ax,sE,sF,DN,OG _ h hn]
 cases hs:iO s with
 |false=>rw[acv hs];simp(disch:=omega) only[↓pq,↓pj,ps,pz,↓reduceIte,ah,ai,aj,ak,aq,au,av,aw,ax,sE,sF,cA];rfl
 |true=>
 simp(disch:=omega) only[↓pq,↓pj,ps,pz,↓reduceIte,ah,ai,aj,ak,aq,au,av,aw,ax,sE,sF,]
 refine(jz A (λj c=>[.l (c.map aA),ii j]) (λc a=>if(!(a==aC))=true then c++[a]else c) (λc=>if c.length<=1048576 then some [T.l ((A1 (eX s aC fr) aC fr (gf s c fr++if aC=0 then []else j8 s A true fr)).map bh)]else none) [] (λj c=>c.length<=j) rfl (et ha) (by simp) ?_ ?_).trans ?_
 ·intro j c hj hc
  refine⟨by split;(· simp;omega);(· omega),λq=>?_⟩
  by_cases k:gt A j=aC
  ·have:(!(gt A j==aC))=false:=by simpa using k
   rw[this]
   simp(disch:=omega) only[↓pq,↓pj,ps,pz,↓reduceIte,ah,ai,aj,ak,aq,au,av,aw,ax,sE,sF,hj,k,cA]
  ·have:(!(gt A j==aC))=true:=by simpa using k
   rw[this]
   simp(disch:=omega) only[↓pq,↓pj,ps,pz,↓reduceIte,ah,ai,aj,ak,aq,au,av,aw,ax,sE,sF,hj,k]
 ·intro c q hc
  rw[if_pos (by omega)]
  have hWl:=Gy (s:=s) (A:=c) (fr:=fr)
  have hBl:=Mw (s:=s) (A:=A) (z:=true) (fr:=fr)
  have hT:=λk:Int=>EC (W:=eX s aC fr) (by have:=ab2 (s:=s) (a:=aC) (fr:=fr);omega) ab1 k
  have hU:=λk:Int=>EC (W:=gf s c fr) (by omega) Mm k
  have hV:=λk:Int=>EC (W:=j8 s A true fr) (by omega) (λw hw=>by have:=lM (Mu hw).2.1;omega) k
  simp(disch:=omega) only[↓pq,↓pj,ps,pz,↓reduceIte,ah,ai,aj,ak,aq,au,av,aw,ax,sE,sF,Eg s aC fr h hn,ux_ s c fr h hn (by omega),jJ_ s A true fr h hn ha]
  refine(qP 6 (λi D=>[.l (D.map bh),ii (i+1)]) (λD i=>D++(zR (eX s aC fr) aC fr (gf s c fr++if aC=0 then []else j8 s A true fr) ((i:Int)+1)).toList) (λD=>some [T.l (D.map bh)]) [] (λi D=>D.length<=i) rfl (et (by omega)) (by simp) ?_ ?_).trans ?_
  ·intro i D hi hD
   have bR:(i:Int)+1<=6:=by omega
   have hT:=hT ((i:Int)+1)
   have hU:=hU ((i:Int)+1)
   have hV:=hV ((i:Int)+1)
   refine⟨by cases zR (eX s aC fr) aC fr (gf s c fr++if aC=0 then []else j8 s A true fr) ((i:Int)+1)<;>simp<;>omega,λq=>?_⟩
   have tA:∀c:Int,Prim.ev (.lit 8 [true,true,true,true,true,false,true,true]) [ii aC,ii 2,ii fr,ii ((i:Int)+1),ii 0,.l [],ii c,bb false]=some (.l ([(⟨aC,2,fr,(i:Int)+1,0,[],c,false⟩:aI)].map bh)):=λc=>K8 aC 2 fr ((i:Int)+1) 0 [] c false
   unfold zR zQ
   have hz:(cE (eX s aC fr) ((i:Int)+1)).isSome=true↔¬dQ (eX s aC fr) ((i:Int)+1)<0:=acu _ _
   cases hh:cE (eX s aC fr) ((i:Int)+1)with
   |some w=>
    rw[hh]at hT hz
    have k1:¬dQ (eX s aC fr) ((i:Int)+1)<0:=hz.1 rfl
    simp only[bM,List.cons_append,List.nil_append]at hT
    rw[if_neg (by simp[k1])]
    simp(disch:=omega) only[↓pq,↓pj,ps,pz,↓reduceIte,ah,ai,aj,ak,aq,au,av,aw,ax,sE,sF,bR,hT,Option.toList_none,List.append_nil]
   |none=>
    rw[hh]at hT hz
    have k1:dQ (eX s aC fr) ((i:Int)+1)<0:=by
     rcases Int.lt_or_le (dQ (eX s aC fr) ((i:Int)+1)) 0 with h|h
     ·exact h
     ·have:=hz.2 (by omega);cases this
    simp only[]at hT
    by_cases k2:(i:Int)+1=fr
    ·rw[if_neg (by simp[k2])]
     subst k2
     simp(disch:=omega) only[↓pq,↓pj,ps,pz,↓reduceIte,ah,ai,aj,ak,aq,au,av,aw,ax,sE,sF,bR,hT,eq_self,Option.toList_none,List.append_nil,cA]
    rw[if_pos (by simp[k1,k2]),Mo]
    cases hu:cE (gf s c fr) ((i:Int)+1)with
    |some w=>
     rw[hu]at hU
     have Kx:=(sN hu).2
     simp only[bM,List.cons_append,List.nil_append]at hU
     rw[Option.some_or]
     simp only[Option.map_some,Option.toList_some,zP,Kx]
     simp(disch:=omega) only[↓pq,↓pj,ps,pz,↓reduceIte,ah,ai,aj,ak,aq,au,av,aw,ax,sE,sF,bR,hT,hU,k2,cA,tA]
    |none=>
     rw[hu]at hU
     simp only[]at hU
     rw[Option.none_or]
     by_cases k3:aC=0
     ·rw[if_pos k3]
      subst k3
      rw[show cE [] ((i:Int)+1)=none from rfl]
      simp(disch:=omega) only[↓pq,↓pj,ps,pz,↓reduceIte,ah,ai,aj,ak,aq,au,av,aw,ax,sE,sF,bR,hT,hU,k2,eq_self,cA,Option.map_none,Option.toList_none,List.append_nil]
     ·rw[if_neg k3]
      cases hv:cE (j8 s A true fr) ((i:Int)+1)with
      |none=>
       rw[hv]at hV
       simp only[]at hV
       simp(disch:=omega) only[↓pq,↓pj,ps,pz,↓reduceIte,ah,ai,aj,ak,aq,au,av,aw,ax,sE,sF,bR,hT,hU,hV,k2,k3,cA,Option.map_none,Option.toList_none,List.append_nil]
      |some w=>
       rw[hv]at hV
       have Kx:=(sN hv).2
       simp only[bM,List.cons_append,List.nil_append]at hV
       simp only[Option.map_some,Option.toList_some,zP,Kx]
       simp(disch:=omega) only[↓pq,↓pj,ps,pz,↓reduceIte,ah,ai,aj,ak,aq,au,av,aw,ax,sE,sF,bR,hT,hU,hV,k2,k3,cA,tA]
  ·intro D q hD
   simp(disch:=omega) only[↓pq,↓pj,ps,pz,↓reduceIte,ah,ai,aj,ak,aq,au,av,aw,ax,sE,sF,]
  ·rw[OL (λi:Nat=>(zR (eX s aC fr) aC fr (gf s c fr++if aC=0 then []else j8 s A true fr) ((i:Int)+1)).toList),List.nil_append,zI]
   unfold A1
   rw[wH,List.filterMap_map]
   rfl
 ·rw[AJ,List.nil_append,if_pos (by have:=List.length_filter_le (λa=>!(a==aC)) A;omega)]
  rfl
theorem MG{α:Type} [Inhabited α]{ok:α->Bool}{lt:α->α->Bool}(tr:∀a b c,lt a b=true->lt b c=true->lt a c=true){l:List α}(h:dJ ok lt l=true):l.Pairwise λa b=>lt a b=true:=by
 have h:=cY.1 h
 rw[List.pairwise_iff_getElem]
 have step:∀i,(hi:i+1<l.length)->lt l[i] l[i+1]=true:=by
  intro i hi
  have:=h (i+1) hi
  simp only[bB,Bool.or_eq_true,Bool.not_eq_true',decide_eq_false_iff_not]at this
  have h2:=this.2.resolve_left (by omega)
  rwa[show(((i+1:Nat):Int)-1)=(i:Int) by omega,gC (by omega),gC hi]at h2
 intro i j hi hj sJ
 obtain⟨d,rfl⟩:∃d,j=i+1+d:=⟨j-i-1,by omega⟩
 clear sJ
 induction d with
 |zero=>exact step i (by omega)
 |succ d ih=>exact tr _ _ _ (ih (by omega)) (step (i+1+d) (by omega))
theorem MH{α:Type} [Inhabited α]{ok:α->Bool}{lt:α->α->Bool}{l:List α}(h1:∀x∈l,ok x=true)(h2:l.Pairwise λa b=>lt a b=true):dJ ok lt l=true:=by
 unfold dJ
 rw[cY]
 intro i hi
 rw[gC hi]
 simp only[bB,Bool.or_eq_true,Bool.not_eq_true',decide_eq_false_iff_not]
 refine⟨h1 _ (List.getElem_mem hi),?_⟩
 rcases Nat.eq_zero_or_pos i with h0|h0
 ·exact .inl (by omega)
 ·right
  rw[show((i:Int)-1)=((i-1:Nat):Int) by omega,gC (by omega)]
  exact List.pairwise_iff_getElem.1 h2 (i-1) i (by omega) hi (by omega)
theorem acx{n:Int}{ls:List bC}(h:dJ (mF n) gT ls=true):ls.Pairwise λa b=>gT a b=true:=
 MG (λa b c h1 h2=>by simp only[gT,decide_eq_true_eq]at *;omega) h
theorem MI{a b ar:Int}{l:bC}:fE a b ar l=true↔l.aC=ar∧(l.a=a∧l.b=b∨l.a=b∧l.b=a):=by
 unfold fE
 simp only[bB,Bool.or_eq_true,beq_iff_eq]
theorem acy{n:Int}{ls:List bC}(h:dJ (mF n) gT ls=true){a b ar:Int}{i j:Nat}(hi:i<ls.length)(hj:j<ls.length)(h1:fE a b ar ls[i]=true)(h2:fE a b ar ls[j]=true):i=j:=by
 have hp:=List.pairwise_iff_getElem.1 (acx h)
 have q1:=AZ h (List.getElem_mem hi)
 have q2:=AZ h (List.getElem_mem hj)
 rw[MI]at h1 h2
 rcases Nat.lt_trichotomy i j with sJ|sJ|sJ
 ·have:=hp i j hi hj sJ
  simp only[gT,decide_eq_true_eq]at this
  omega
 ·exact sJ
 ·have:=hp j i hj hi sJ
  simp only[gT,decide_eq_true_eq]at this
  omega
theorem MJ{α:Type} [Inhabited α]{p:α->Bool}{l:List α}{x:α}(hx:x∈l)(h:p x=true):0<=eg p l:=by
 rcases Int.lt_or_le (eg p l) 0 with h1|h1
 ·have:=(AH _ _).1 h1 x hx
  rw[h]at this;cases this
 ·exact h1
theorem MK{n:Int}{ls:List bC}(h:dJ (mF n) gT ls=true)(node v a:Int):pN ls node v a>0↔∃x∈ls,fE node v a x=true:=by
 have hz:=LU h node v a
 constructor
 ·intro hc
  have h0:0<=eg (fE node v a) ls:=by
   rcases Int.lt_or_le (eg (fE node v a) ls) 0 with h1|h1
   ·have:=hz.2 h1;omega
   ·exact h1
  exact⟨_,h_ h0 (tS _ _),zi _ _ h0⟩
 ·rintro⟨x,hx,e⟩
  have h0:=MJ hx e
  have h1:=AZ h (h_ (l:=ls) (n:=eg (fE node v a) ls) (by omega) (tS _ _))
  unfold pN
  rw[if_neg (by omega)]
  omega
def oG(ls:List bC)(L:List Bool)(a b ar:Int):Int:=
 if eg (fE a b ar) ls<0 then 0 else if gt L (eg (fE a b ar) ls)=true then(gt ls (eg (fE a b ar) ls)).cost else 0
theorem ML{n:Int}{ls:List bC}(h:dJ (mF n) gT ls=true){L:List Bool}{a b ar:Int}(h0:oG ls L a b ar>0):pN ls a b ar>0∧oG ls L a b ar=pN ls a b ar∧pN ls a b ar<=1000∧gt L (eg (fE a b ar) ls)=true∧0<=eg (fE a b ar) ls:=by
 unfold oG at h0⊢
 unfold pN
 by_cases h1:eg (fE a b ar) ls<0
 ·rw[if_pos h1]at h0;omega
 ·rw[if_neg h1]at h0⊢
  rw[if_neg h1]
  by_cases h2:gt L (eg (fE a b ar) ls)=true
  ·rw[if_pos h2]at h0⊢
   have:=AZ h (h_ (l:=ls) (n:=eg (fE a b ar) ls) (by omega) (tS _ _))
   exact⟨by omega,rfl,by omega,h2,by omega⟩
  ·rw[if_neg h2]at h0;omega
def ug(ls:List bC)(L U:List Bool)(node a:Int):List cF:=(rL.filter λv=>decide (oG ls L node v a>0)&&gt U (v-1)).map λv=>⟨v,oG ls L node v a⟩
theorem acz{o:Int}{l:List cF}(h1:∀x∈l,(1<=x.to∧x.to<=6)∧x.to≠o∧1<=x.cost∧x.cost<=1000)(h2:l.Pairwise λa b=>a.to<b.to):uL o l=true:=by
 unfold uL
 rw[cY]
 intro i hi
 have h3:=h1 _ (List.getElem_mem hi)
 rw[gC hi]
 simp only[bB,Bool.or_eq_true,Bool.not_eq_true',decide_eq_false_iff_not,bU,decide_eq_true_eq]
 refine⟨⟨⟨h3.1,h3.2.1⟩,h3.2.2⟩,?_⟩
 rcases Nat.eq_zero_or_pos i with h0|h0
 ·exact .inl (by omega)
 ·right
  rw[show((i:Int)-1)=((i-1:Nat):Int) by omega,gC (by omega)]
  exact List.pairwise_iff_getElem.1 h2 (i-1) i (by omega) hi (by omega)
theorem acA{n:Int}{ls:List bC}(h:dJ (mF n) gT ls=true)(L U:List Bool)(node a:Int):uL node (ug ls L U node a)=true:=by
 unfold ug
 refine acz ?_ ?_
 ·intro x hx
  obtain⟨v,hv,rfl⟩:=List.mem_map.1 hx
  obtain⟨h1,h2⟩:=List.mem_filter.1 hv
  rw[fA]at h1
  simp only[bB,decide_eq_true_eq]at h2
  have h3:=ML h h2.1
  obtain⟨y,hy,e⟩:=(MK h node v a).1 h3.1
  have h4:=AZ h hy
  rw[MI]at e
  refine⟨h1,?_,?_,?_⟩
  ·show v≠node
   omega
  ·show 1<=oG ls L node v a
   omega
  ·show oG ls L node v a<=1000
   omega
 ·rw[List.pairwise_map]
  exact ph.filter _
def rW(r:aI):Bool:=r.kind==3
def fS(k:Nat)(s:List aI):Prop:=zB s∧(∀r∈s,n6 r=true)∧(s.filter rW).length<=k
theorem acB{o:Int}{l:List cF}(h:uL o l=true):l.length<=6:=by
 rw[<-List.length_map (f:=cF.to)]
 refine Ew (n:=6) ?_ ?_
 ·rw[List.pairwise_map]
  exact L4 h
 ·intro x hx
  obtain⟨y,hy,rfl⟩:=List.mem_map.1 hx
  exact(L3 h hy).1
theorem acC{r:aI}(h:n6 r=true):r.fU.length<=6:=by
 unfold n6 at h
 simp only[bB]at h
 have h:=h.2
 split at h
 ·simp only[bB]at h
  exact acB h.1.1.2
 ·split at h
  ·simp only[bB,decide_eq_true_eq]at h
   omega
  ·split at h
   ·simp only[bB,decide_eq_true_eq]at h
    omega
   ·cases h
theorem acD{r:aI}(h:n6 r=true):(1<=r.owner∧r.owner<=6)∧(r.kind=1∧r.key=0∧0<=r.aC∧r.aC<=2∨r.kind=2∧(1<=r.key∧r.key<=6)∧0<=r.aC∧r.aC<=2∨r.kind=3):=by
 unfold n6 at h
 simp only[bB,bU]at h
 refine⟨h.1.1,?_⟩
 have h:=h.2
 split at h
 ·simp only[bB,bU,decide_eq_true_eq]at h
  omega
 ·split at h
  ·simp only[bB,bU,decide_eq_true_eq]at h
   omega
  ·split at h
   ·omega
   ·cases h
theorem fS.fU{k:Nat}{s:List aI}(h:fS k s):dj s:=λr hr=>by
 have:=acC (h.2.1 r hr);omega
theorem acE(s:List aI)(h:∀r∈s,r.kind=1∨r.kind=2∨r.kind=3):s.length=(s.filter λr=>r.kind==1).length+(s.filter λr=>r.kind==2).length+(s.filter rW).length:=by
 induction s with
 |nil=>rfl
 |cons x s ih=>
  have ih:=ih λr hr=>h r (.tail _ hr)
  have hx:=h x (.head _)
  simp only[List.filter_cons,List.length_cons,rW]
  rw[ih]
  rcases hx with hx|hx|hx<;>simp[hx,rW]<;>omega
theorem fS.len{k:Nat}{s:List aI}(h:fS k s):s.length<=126+k:=by
 obtain⟨h1,h2,h3⟩:=h
 have hk:=λr hr=>acD (h2 r hr)
 rw[acE s λr hr=>by have:=hk r hr;omega]
 have a1:(s.filter λr=>r.kind==1).length<=18:=by
  rw[<-List.length_map (f:=λr:aI=>r.aC*6+r.owner)]
  refine Ew (n:=18) ?_ ?_
  ·rw[List.pairwise_map]
   refine(h1.filter _).imp_of_mem λ{a b} ha hb tB=>?_
   obtain⟨ha1,ha2⟩:=List.mem_filter.1 ha
   obtain⟨lC,mU⟩:=List.mem_filter.1 hb
   simp only[beq_iff_eq]at ha2 mU
   have:=hk a ha1
   have:=hk b lC
   rw[OE]at tB
   omega
  ·intro x hx
   obtain⟨r,hr,rfl⟩:=List.mem_map.1 hx
   obtain⟨mL,pE⟩:=List.mem_filter.1 hr
   simp only[beq_iff_eq]at pE
   have:=hk r mL
   omega
 have a2:(s.filter λr=>r.kind==2).length<=108:=by
  rw[<-List.length_map (f:=λr:aI=>(r.aC*6+r.owner-1)*6+r.key)]
  refine Ew (n:=108) ?_ ?_
  ·rw[List.pairwise_map]
   refine(h1.filter _).imp_of_mem λ{a b} ha hb tB=>?_
   obtain⟨ha1,ha2⟩:=List.mem_filter.1 ha
   obtain⟨lC,mU⟩:=List.mem_filter.1 hb
   simp only[beq_iff_eq]at ha2 mU
   have:=hk a ha1
   have:=hk b lC
   rw[OE]at tB
   omega
  ·intro x hx
   obtain⟨r,hr,rfl⟩:=List.mem_map.1 hx
   obtain⟨mL,pE⟩:=List.mem_filter.1 hr
   simp only[beq_iff_eq]at pE
   have:=hk r mL
   omega
 omega
theorem fS.ok{k:Nat}{s:List aI}(h:fS k s)(hk:k<=24):iO s=true:=by
 have:=h.len
 unfold iO
 rw[bB,decide_eq_true_eq]
 exact⟨by omega,MH h.2.1 h.1⟩
theorem acH(s:List aI)(r:aI)(p:aI->Bool):((iP s r).filter p).length<=(s.filter p).length+(if p r=true then 1 else 0):=by
 have h1:((s.filter λx=>j7 x r).filter p).length+((s.filter λx=>j7 r x).filter p).length<=(s.filter p).length:=by
  induction s with
  |nil=>simp
  |cons x s ih=>
   simp only[List.filter_cons]
   cases h:j7 x r with
   |true=>
    rw[LW h]
    cases hp:p x<;>simp[hp]<;>simp at ih<;>omega
   |false=>cases h':j7 r x<;>cases hp:p x<;>simp[hp]<;>simp at ih<;>omega
 have h2:([r].filter p).length=if p r=true then 1 else 0:=by
  rw[List.filter_cons]
  split<;>rfl
 unfold iP
 rw[List.filter_append,List.filter_append,List.length_append,List.length_append,h2]
 omega
theorem fS.put{k:Nat}{s:List aI}(h:fS k s){r:aI}(hr:n6 r=true):fS (k+if r.kind=3 then 1 else 0) (iP s r):=by
 refine⟨abl h.1 r,λx hx=>?_,?_⟩
 ·rcases LX hx with rfl|hx
  ·exact hr
  ·exact h.2.1 x hx
 ·have h1:=acH s r rW
  have h2:=h.2.2
  have h3:(rW r=true)=(r.kind=3):=by unfold rW;simp
  simp only[h3]at h1
  omega
theorem fS.ED{k:Nat}{s:List aI}(h:fS k s){r:aI}(hr:n6 r=true)(h3:r.kind≠3):fS k (iP s r):=by
 have:=h.put hr
 rwa[if_neg h3]at this
theorem fS.filter{k:Nat}{s:List aI}(h:fS k s)(p:aI->Bool):fS k (s.filter p):=by
 refine⟨h.1.filter _,λx hx=>h.2.1 x (List.mem_filter.1 hx).1,?_⟩
 rw[List.filter_filter]
 refine Nat.le_trans ?_ h.2.2
 rw[<-List.countP_eq_length_filter,<-List.countP_eq_length_filter]
 exact List.countP_mono_left λx _ hx=>(bB _ _▸hx).1
theorem fS.nil:fS 0 []:=⟨.nil,by simp,by simp⟩
theorem fS.mono{k k':Nat}{s:List aI}(h:fS k s)(hk:k<=k'):fS k' s:=⟨h.1,h.2.1,Nat.le_trans h.2.2 hk⟩
theorem acI{α β σ:Type} [Inhabited α]{F:(σ->Option β)->σ->Option β}{R:Nat}{x:σ}(l:List α)(st:Nat->List α->σ)(p:α->Bool){out:Option β}(hx:x=st 0 [])(hR:l.length<R)
  (step:∀(i:Nat) c,(i:Int)<(l.length:Int)->c.length<=i->∀s,F s (st i c)=s (st (i+1) (if p (gt l i)=true then c++[gt l i]else c)))(fin:∀s,F s (st l.length (l.filter p))=out):
  iter F R x=out:=by
 refine jz l st (λc a=>if p a=true then c++[a]else c) (λ_=>out) [] (λi c=>c=(l.take i).filter p) hx hR rfl ?_ ?_
 ·intro i c hi hc
  have bR:i<l.length:=by omega
  refine⟨?_,λs=>step i c hi (by rw[hc];refine Nat.le_trans (List.length_filter_le _ _) ?_;simp;omega) s⟩
  rw[hc,List.take_add_one,List.filter_append,List.getElem?_eq_getElem bR,gC bR]
  cases hp:p l[i]<;>simp[hp]
 ·intro c s hc
  rw[hc,List.take_length]
  exact fin s
theorem MM{n:Int}{ls:List bC}(h:dJ (mF n) gT ls=true){a b ar:Int}{i:Nat}(hi:i<ls.length)(hj:fE a b ar (gt ls (i:Int))=true):eg (fE a b ar) ls=i:=by
 have h0:=MJ (h_ (l:=ls) (n:=(i:Int)) (by omega) (by omega)) hj
 have h1:=tS (fE a b ar) ls
 have h2:=zi _ _ h0
 obtain⟨k,hk⟩:∃k:Nat,eg (fE a b ar) ls=k:=⟨(eg (fE a b ar) ls).toNat,by omega⟩
 rw[hk]at h1 h2⊢
 rw[gC (by omega)]at h2
 rw[gC hi]at hj
 have:=acy h (by omega) hi h2 hj
 omega
theorem acJ(t0 t2:T)(ls:List bC)(L:List Bool)(a b ar n:Int)(h:dJ (mF n) gT ls=true)(hl:ls.length<=12)(hL:L.length=ls.length):FF [t0,.l (ls.map fe),t2,.l (L.map fC),ii a,ii b,ii ar]=some [ii (oG ls L a b ar)]:=by
 rw[YV];simp(disch:=omega) only[↓pq,↓pj,ps,pz,↓reduceIte,ah,ai,aj,ak,aq,au,av,aw,ax,LC,YT]
 refine(Fu ls.length (λi=>[ii 0,ii i]) (λi=>!(gt L i&&fE a b ar (gt ls i))) (lK:=some [ii (gt ls (eg (fE a b ar) ls)).cost]) (lJ:=some [ii 0]) rfl (et (by omega)) ?_ ?_).trans ?_
 ·intro i hi s
  have l8:(i:Int)<L.length:=by omega
  by_cases hj:fE a b ar (gt ls i)=true
  ·rw[MM h (by omega) hj,hj]
   rw[MI]at hj
   simp(disch:=omega) only[↓pq,↓pj,ps,pz,↓reduceIte,ah,ai,aj,ak,aq,au,av,aw,ax,LC,hi,l8]
   grind
  ·have oX:fE a b ar (gt ls i)=false:=by simpa using hj
   rw[oX]
   rw[MI]at hj
   simp(disch:=omega) only[↓pq,↓pj,ps,pz,↓reduceIte,ah,ai,aj,ak,aq,au,av,aw,ax,LC,hi,l8]
   grind
 ·intro s
  simp(disch:=omega) only[↓pq,↓pj,ps,pz,↓reduceIte,ah,ai,aj,ak,aq,au,av,aw,ax,LC,]
 ·unfold oG
  have h1:=tS (fE a b ar) ls
  have mf:pe ls.length (λi=>!(gt L i&&fE a b ar (gt ls i)))=true↔¬(0<=eg (fE a b ar) ls∧gt L (eg (fE a b ar) ls)=true):=by
   rw[cY]
   constructor
   ·rintro hA ⟨h0,h2⟩
    have h3:=hA (eg (fE a b ar) ls).toNat (by omega)
    rw[show(((eg (fE a b ar) ls).toNat:Nat):Int)=eg (fE a b ar) ls by omega,h2,zi _ _ h0]at h3
    cases h3
   ·intro hn i hi
    cases hg:gt L (i:Int)&&fE a b ar (gt ls (i:Int))with
    |false=>rfl
    |true=>
     rw[bB]at hg
     have hu:=MM h hi hg.2
     exact absurd ⟨by omega,by rw[hu];exact hg.1⟩ hn
  by_cases h0:eg (fE a b ar) ls<0
  ·rw[if_pos (mf.2 λhc=>by omega),if_pos h0]
  ·by_cases h2:gt L (eg (fE a b ar) ls)=true
   ·rw[if_neg (λhc=>mf.1 hc ⟨by omega,h2⟩),if_neg h0,if_pos h2]
   ·rw[if_pos (mf.2 λhc=>h2 hc.2),if_neg h0,if_neg h2]
def uh(r:aI):aI:={r with seq:=1}
def EE(f:aI->aI)(s l:List aI):List aI:=l.foldl (λc r=>iP c (f r)) s
def wM(v:Int)(r:aI):Bool:=!(r.kind==2&&r.owner==v)
def MN(s:List aI)(A:List Int)(v:Int):List aI:=EE uh (s.filter (wM v)) (A.flatMap λa=>uf s A v a)
theorem k2_(s:List aI)(A:List Int)(fr aC:Int):(uf s A fr aC).length<=6:=acq _ _ _ _
theorem acL{W:List Way}{k:Int}{w:Way}(h:cE W k=some w):w∈W:=by
 rw[ON]at h
 exact List.mem_of_find?_eq_some h
theorem kO_{s:List aI}{A:List Int}{fr aC:Int}{r:aI}(h:r∈uf s A fr aC):r.aC=aC∧r.kind=2∧r.owner=fr∧(1<=r.key∧r.key<=6)∧r.fU=[]∧r.seq=0∧(0<=r.cost∧r.cost<=60000)∧r.jX=false∧r.key≠fr:=by
 unfold uf at h
 obtain⟨h1,h2⟩:=ue.1 h
 obtain⟨_,h3,h4,h5,h6,h7,h8,h9,w,hw,rfl⟩:=MF h2
 refine⟨h3,h4,h5,h1,h6,h7,?_,h8,?_⟩
 ·have hm:=acL hw
  unfold EB at hm
  rcases List.mem_append.1 hm with hm|hm
  ·have:=(OO hm).2.2
   show 0<=w.cost∧w.cost<=60000
   omega
  ·split at hm
   ·cases hm
   ·have:=(Mu hm).2.2.1
    show 0<=w.cost∧w.cost<=60000
    omega
 ·unfold zQ at h9
  simp only[bB,decide_eq_true_eq]at h9
  exact h9.2
theorem acN{s:List aI}{A:List Int}{fr aC:Int}(hf:1<=fr∧fr<=6)(ha:0<=aC∧aC<=2){r:aI}(h:r∈uf s A fr aC):n6 (uh r)=true∧(uh r).kind≠3:=by
 obtain⟨h1,h2,h3,h4,h5,h6,h7,h8,_⟩:=kO_ h
 refine⟨?_,by show r.kind≠3;omega⟩
 unfold n6
 simp only[uh,h1,h2,h3,h5,h8,List.length_nil,bB,bU]
 refine⟨⟨hf,by omega⟩,?_⟩
 simp[bU,ha,h4,h7]
theorem fS.acO{k:Nat}{f:aI->aI}{l:List aI}(hl:∀r∈l,n6 (f r)=true∧(f r).kind≠3):∀{s:List aI},fS k s->fS k (EE f s l):=by
 unfold EE
 induction l with
 |nil=>intro s h;exact h
 |cons x l ih=>
  intro s h
  rw[List.foldl_cons]
  exact ih (λr hr=>hl r (.tail _ hr)) (h.ED (hl x (.head _)).1 (hl x (.head _)).2)
theorem kY_{ls:List bC}{v a:Int}(h:a∈pn ls v):0<=a∧a<=2:=uc.1 (List.mem_filter.1 h).1
theorem fS.instead{k:Nat}{s:List aI}(h:fS k s){A:List Int}(hA:∀a∈A,0<=a∧a<=2){v:Int}(hv:1<=v∧v<=6):fS k (MN s A v):=by
 refine fS.acO ?_ (h.filter _)
 intro r hr
 obtain⟨a,ha,hr⟩:=List.mem_flatMap.1 hr
 exact acN hv (hA a ha) hr
def nU(r:aI):aI:=if r.seq=0 then {r with seq:=1}else r
theorem acQ(s l:List aI)(h:s.length+l.length<=1048570)(hs:dj s)(hn:dj l):FQ [.l (s.map bh),.l (l.map bh)]=some [.l ((EE nU s l).map bh)]:=by
 rw[ZX];simp(disch:=omega) only[↓pq,↓pj,ps,pz,↓reduceIte,ah,ai,aj,ak,aq,au,av,aw,ax,LG,ZV]
 refine jz l (λi c=>[.l (c.map bh),ii i]) (λc r=>iP c (nU r)) (λc=>some [T.l (c.map bh)]) s (λi c=>c.length<=s.length+i∧dj c) rfl (et (by omega)) ⟨by simp,hs⟩ ?_ ?_
 ·rintro i c hi ⟨h1,h2⟩
  have hnr:=hn.gt (n:=i) (by omega) hi
  have hz:(nU (gt l (i:Int))).fU.length<=1048576:=by unfold nU;split<;>exact hnr
  refine⟨⟨by have:=abm c (nU (gt l (i:Int)));omega,abn h2 hz⟩,λq=>?_⟩
  have hp:=λz=>DZ c (gt l (i:Int)).aC (gt l (i:Int)).kind (gt l (i:Int)).owner (gt l (i:Int)).key z (gt l (i:Int)).fU (gt l (i:Int)).cost (gt l (i:Int)).jX (by omega) h2 hnr
  by_cases k:(gt l (i:Int)).seq=0
  ·have e:nU (gt l (i:Int))={gt l (i:Int)with seq:=1}:=by unfold nU;rw[if_pos k]
   rw[e]
   simp(disch:=omega) only[↓pq,↓pj,ps,pz,↓reduceIte,ah,ai,aj,ak,aq,au,av,aw,ax,LG,hi,k,hp]
  ·have e:nU (gt l (i:Int))=gt l (i:Int):=by unfold nU;rw[if_neg k]
   rw[e]
   simp(disch:=omega) only[↓pq,↓pj,ps,pz,↓reduceIte,ah,ai,aj,ak,aq,au,av,aw,ax,LG,hi,k,hp]
 ·rintro c q hc
  simp(disch:=omega) only[↓pq,↓pj,ps,pz,↓reduceIte,ah,ai,aj,ak,aq,au,av,aw,ax,LG,]
theorem acR{f g:aI->aI}{l:List aI}(h:∀r∈l,f r=g r):∀s,EE f s l=EE g s l:=by
 unfold EE
 induction l with
 |nil=>intro s;rfl
 |cons x l ih=>
  intro s
  rw[List.foldl_cons,List.foldl_cons,h x (.head _)]
  exact ih (λr hr=>h r (.tail _ hr)) _
theorem MO(A:List Int)(g:Int->List aI)(hg:∀a,(g a).length<=6):(A.flatMap g).length<=6*A.length:=by
 induction A with
 |nil=>simp
 |cons x A ih=>
  have:=hg x
  rw[List.flatMap_cons,List.length_append,List.length_cons]
  omega
theorem acS(s:List aI)(A:List Int)(v:Int)(hs:fS 24 s)(hA:A.length<=3):
  FR [.l (s.map bh),.l (A.map aA),ii v]=some [.l ((MN s A v).map bh)]:=by
 have uu:=hs.len
 have hsn:=hs.fU
 rw[Z0];simp(disch:=omega) only[↓pq,↓pj,ps,pz,↓reduceIte,ah,ai,aj,ak,aq,au,av,aw,ax,Gi,Gj,ZY]
 refine jz A (λj c=>[.l (c.map bh),ii j]) (λc a=>c++uf s A v a) (λ_=>some [T.l ((MN s A v).map bh)]) [] (λj c=>c=(A.take j).flatMap λa=>uf s A v a) rfl (et (by omega)) rfl ?_ ?_
 ·intro j c hj hc
  have oX:j<A.length:=by omega
  refine⟨by rw[hc,List.take_add_one,List.flatMap_append,List.getElem?_eq_getElem oX,gC oX];simp,λq=>?_⟩
  have tH:=k2_ s A v (gt A (j:Int))
  have pK:c.length<=18:=by
   rw[hc]
   refine Nat.le_trans (MO _ _ λa=>k2_ s A v a) ?_
   simp;omega
  simp(disch:=omega) only[↓pq,↓pj,ps,pz,↓reduceIte,ah,ai,aj,ak,aq,au,av,aw,ax,Gi,Gj,hj,acw s A v _ (show s.length<=1048576 by omega) hsn (show A.length<=1048576 by omega)]
 ·intro c q hc
  rw[List.take_length]at hc
  subst hc
  have za:dj (A.flatMap λa=>uf s A v a):=λr hr=>by
   obtain⟨a,_,hr⟩:=List.mem_flatMap.1 hr
   have:=(kO_ hr).2.2.2.2.1
   rw[this];simp
  have tH:=MO A _ λa=>k2_ s A v a
  have hz:∀r∈(A.flatMap λa=>uf s A v a),nU r=uh r:=λr hr=>by
   obtain⟨a,_,hr⟩:=List.mem_flatMap.1 hr
   have:=(kO_ hr).2.2.2.2.2.1
   unfold nU uh
   rw[if_pos this]
  unfold MN
  generalize(A.flatMap λa=>uf s A v a)=B at za tH hz
  simp(disch:=omega) only[↓pq,↓pj,ps,pz,↓reduceIte,ah,ai,aj,ak,aq,au,av,aw,ax,Gi,Gj,]
  refine acI s (λi c=>[.l (c.map bh),ii i]) (wM v) rfl (et (by omega)) ?_ ?_
  ·intro i c hi hc q
   have:=hsn.gt (n:=i) (by omega) hi
   unfold wM
   simp(disch:=omega) only[↓pq,↓pj,ps,pz,↓reduceIte,ah,ai,aj,ak,aq,au,av,aw,ax,Gi,Gj,hi]
   by_cases k1:(gt s (i:Int)).kind=2
   ·by_cases k2:(gt s (i:Int)).owner=v
    ·simp[k1,k2]
    ·simp[k1,k2]
   ·simp[k1]
  ·intro q
   have tg:=List.length_filter_le (wM v) s
   simp(disch:=omega) only[↓pq,↓pj,ps,pz,↓reduceIte,ah,ai,aj,ak,aq,au,av,aw,ax,Gi,Gj,acQ (s.filter (wM v)) B (by omega) (hs.filter _).fU za,acR hz]
def wN(ls:List bC)(L U:List Bool)(v a:Int):aI:=⟨a,1,v,0,1,ug ls L U v a,0,false⟩
def EF(t:bO):aI:=⟨9,3,t.owner,t.key,1,[],t.cost,t.jX⟩
theorem MP{n:Int}{ls:List bC}(h:dJ (mF n) gT ls=true){L U:List Bool}{v a:Int}(hv:1<=v∧v<=6)(ha:0<=a∧a<=2):n6 (wN ls L U v a)=true:=by
 unfold n6
 simp only[wN,bB,bU]
 refine⟨⟨hv,by omega⟩,?_⟩
 simp[bU,ha,acA h]
theorem MQ{n:Int}{ts:List bO}(h:dJ (xl n) nO ts=true){t:bO}(ht:t∈ts):(1<=t.owner∧t.owner<=n)∧(1<=t.key∧t.key<=9)∧(1<=t.cost∧t.cost<=1000):=by
 obtain⟨i,hi,rfl⟩:=List.mem_iff_getElem.1 ht
 have:=cY.1 h i hi
 rw[gC hi]at this
 simp only[bB,xl,bU]at this
 omega
theorem acT{n:Int}(hn:n<=6){t:bO}(h:(1<=t.owner∧t.owner<=n)∧(1<=t.key∧t.key<=9)∧(1<=t.cost∧t.cost<=1000)):n6 (EF t)=true:=by
 unfold n6
 simp only[EF,bB,bU]
 refine⟨⟨by omega,by omega⟩,?_⟩
 simp[bU,h]
def wO(ls:List bC)(L U:List Bool)(c:List aI)(i:Nat):List aI:=
 if gt U ((i:Int)+1-1)=true then(pn ls ((i:Int)+1)).foldl (λc a=>iP c (wN ls L U ((i:Int)+1) a)) c else c
def EG(U:List Bool)(c:List aI)(t:bO):List aI:=if gt U (t.owner-1)=true then iP c (EF t)else c
def wP(ls:List bC)(U:List Bool)(c:List aI)(i:Nat):List aI:=
 if gt U ((i:Int)+1-1)=true then(if A0 ls ((i:Int)+1)=true then MN c (pn ls ((i:Int)+1)) ((i:Int)+1)else c)else c
def GD(n:Int)(ls:List bC)(U:List Bool)(c:List aI)(_:Nat):List aI:=(List.range n.toNat).foldl (wP ls U) c
def ui(x:Net)(L U:List Bool):List aI:=(List.range 3).foldl (GD x.n x.cX U) (x.eE.foldl (EG U) ((List.range x.n.toNat).foldl (wO x.cX L U) []))
def EH(x:Net)(L U:List Bool):Bool:=qw x&&(decide ((L.length:Int)=x.cX.length)&&decide ((U.length:Int)=x.n))
theorem EI{x:Net}{L U:List Bool}(h:EH x L U=true):qw x=true∧(L.length:Int)=x.cX.length∧(U.length:Int)=x.n:=by
 unfold EH at h
 simpa only[bB,decide_eq_true_eq]using h
theorem EJ{x:Net}(h:qw x=true):(1<=x.n∧x.n<=6)∧x.cX.length<=12∧x.eE.length<=4∧dJ (mF x.n) gT x.cX=true∧dJ (xl x.n) nO x.eE=true:=by
 unfold qw at h
 simp only[bB,decide_eq_true_eq,bU]at h
 exact⟨h.1.1.1.1,h.1.1.1.2,h.1.1.2,h.1.2,h.2⟩
theorem MR{α:Type}{k:Nat}{g:List aI->α->List aI}:∀{l:List α} {c:List aI},(∀a∈l,∀c,fS k c->fS k (g c a))->fS k c->fS k (l.foldl g c)
 | [],c,_,h=>h
 |a::l,c,hg,h=>by
  rw[List.foldl_cons]
  exact MR (λb hb=>hg b (.tail _ hb)) (hg a (.head _) c h)
section
variable {n:Int} {ls:List bC} {L U:List Bool} (h:dJ (mF n) gT ls=true) (hn:n<=6)
include h hn
theorem MS{c:List aI}{i:Nat}(hi:(i:Int)<n)(hc:fS 0 c):fS 0 (wO ls L U c i):=by
 unfold wO
 split
 ·refine MR (λa ha c hc=>?_) hc
  exact hc.ED (MP h (by omega) (kY_ ha)) (by show(1:Int)≠3;decide)
 ·exact hc
omit h in
theorem MT{k:Nat}{c:List aI}{t:bO}(ht:(1<=t.owner∧t.owner<=n)∧(1<=t.key∧t.key<=9)∧(1<=t.cost∧t.cost<=1000))(hc:fS k c):fS (k+1) (EG U c t):=by
 unfold EG
 split
 ·exact hc.put (acT hn ht)
 ·exact hc.mono (by omega)
omit h in
theorem MU{k:Nat}{c:List aI}{i:Nat}(hi:(i:Int)<n)(hc:fS k c):fS k (wP ls U c i):=by
 unfold wP
 split
 ·split
  ·exact hc.instead (λa ha=>kY_ ha) (by omega)
  ·exact hc
 ·exact hc
omit h in
theorem MV{k:Nat}{c:List aI}{r:Nat}(hc:fS k c):fS k (GD n ls U c r):=
 MR (λi hi c hc=>MU hn (by have:=List.mem_range.1 hi;omega) hc) hc
omit h in
theorem MW:∀{ts:List bO} {k:Nat} {c:List aI},(∀t∈ts,(1<=t.owner∧t.owner<=n)∧(1<=t.key∧t.key<=9)∧(1<=t.cost∧t.cost<=1000))->fS k c->fS (k+ts.length) (ts.foldl (EG U) c)
 | [],k,c,_,hc=>hc
 |t::ts,k,c,ht,hc=>by
  rw[List.foldl_cons,List.length_cons]
  exact(MW (λx hx=>ht x (.tail _ hx)) (MT hn (ht t (.head _)) hc)).mono (by omega)
end
theorem MX{x:Net}{L U:List Bool}(h:qw x=true):fS 4 (ui x L U):=by
 obtain⟨h1,h2,h3,h4,h5⟩:=EJ h
 unfold ui
 refine MR (λr _ c hc=>MV h1.2 hc) ?_
 refine(MW (k:=0) h1.2 (λt ht=>MQ h5 ht) ?_).mono (by omega)
 exact MR (λi hi c hc=>MS h4 h1.2 (by have:=List.mem_range.1 hi;omega) hc) fS.nil
theorem acU{n:Int}{ls:List bC}(h:dJ (mF n) gT ls=true)(hn:n<=6)(L U:List Bool)(v a:Int):
  ((List.range n.toNat).filter λu:Nat=>decide (oG ls L v ((u:Int)+1) a>0)&&gt U ((u:Int)+1-1)).map (λu:Nat=>(⟨(u:Int)+1,oG ls L v ((u:Int)+1) a⟩:cF))=ug ls L U v a:=by
 have e:(upto n.toNat).filter (λx=>decide (oG ls L v x a>0)&&gt U (x-1))=rL.filter (λx=>decide (oG ls L v x a>0)&&gt U (x-1)):=by
  refine wC ((Ms _).filter _) (ph.filter _) λx=>?_
  rw[List.mem_filter,List.mem_filter,nT,fA]
  constructor
  ·rintro⟨h1,h2⟩
   exact⟨by omega,h2⟩
  ·rintro⟨h1,h2⟩
   refine⟨?_,h2⟩
   rw[bB,decide_eq_true_eq]at h2
   obtain⟨y,hy,e⟩:=(MK h v x a).1 (ML h h2.1).1
   have:=AZ h hy
   rw[MI]at e
   omega
 unfold ug
 rw[<-e]
 unfold upto
 rw[List.filter_map,List.map_map]
 rfl
theorem acV{n:Int}{ls:List bC}(h:dJ (mF n) gT ls=true)(hn:n<=6)(L U:List Bool)(v a:Int):
  (List.range n.toNat).foldl (λ(e:List cF) (u:Nat)=>if(decide (oG ls L v ((u:Int)+1) a>0)&&gt U ((u:Int)+1-1))=true then e++[(⟨(u:Int)+1,oG ls L v ((u:Int)+1) a⟩:cF)]else e) []=ug ls L U v a:=by
 rw[Ft (λu:Nat=>decide (oG ls L v ((u:Int)+1) a>0)&&gt U ((u:Int)+1-1)) (λu:Nat=>(⟨(u:Int)+1,oG ls L v ((u:Int)+1) a⟩:cF)),List.nil_append]
 exact acU h hn L U v a
theorem acW(n:Int)(ls:List bC)(ts:List bO)(L U:List Bool)(h1:ls.length<=1048576)(h2:ts.length<=1048576):FV [ii n,.l (ls.map fe),.l (ts.map fR),.l (L.map fC),.l (U.map fC)]=some (if EH ⟨n,ls,ts⟩ L U=true then [.l ((ui ⟨n,ls,ts⟩ L U).map bh),bb true]else [.l [],bb false]):=by
 by_cases hi:EH ⟨n,ls,ts⟩ L U=true
 ·rw[if_pos hi]
  obtain⟨hN,hL,hU⟩:=EI hi
  obtain⟨n1,hl,ht,hA,hT⟩:=EJ hN
  simp only at hL hU n1 hl ht hA hT
  have hL':L.length=ls.length:=by omega
  have kq:¬((n.toNat:Int)+1<=n):=by omega
  rw[LH];simp(disch:=omega) only[↓pq,↓pj,ps,pz,↓reduceIte,ah,ai,aj,ak,aq,au,av,aw,ax,m0,m4,m5,m6,m7,m8,Oy,LR _ _ _ h1 h2,hN,hL,hU]
  refine qP n.toNat (λi c=>[.l (c.map bh),ii (i+1)]) (wO ls L U) (λc=>some [T.l (((List.range 3).foldl (GD n ls U) (ts.foldl (EG U) c)).map bh),bb true]) [] (λ_ c=>fS 0 c) rfl (et (by omega)) fS.nil ?_ ?_
  ·intro i c hi hc
   have bR:(i:Int)+1<=n:=by omega
   refine⟨MS hA n1.2 (by omega) hc,λq=>?_⟩
   have hal:=OP ls ((i:Int)+1)
   have ham:=λa ha=>kY_ (ls:=ls) (v:=(i:Int)+1) (a:=a) ha
   simp(disch:=omega) only[↓pq,↓pj,ps,pz,↓reduceIte,ah,ai,aj,ak,aq,au,av,aw,ax,m0,m4,m5,m6,m7,m8,bR,OQ _ _ _ _ _ hA hl]
   unfold wO
   generalize pn ls ((i:Int)+1)=A at hal ham
   by_cases hu:gt U ((i:Int)+1-1)=true
   ·rw[if_pos hu]
    refine jz A (λj c=>[.l (c.map bh),ii j]) (λc a=>iP c (wN ls L U ((i:Int)+1) a)) (λc=>q [.l (c.map bh),ii ((i:Int)+1+1)]) c (λ_ c=>fS 0 c) rfl (et (by omega)) hc ?_ ?_
    ·intro j d hj hd
     have hr:=MP hA (L:=L) (U:=U) (v:=(i:Int)+1) (by omega) (ham _ (h_ (l:=A) (n:=(j:Int)) (by omega) hj))
     refine⟨hd.ED hr (by show(1:Int)≠3;decide),λq'=>?_⟩
     have EZ:=hd.len
     simp(disch:=omega) only[↓pq,↓pj,ps,pz,↓reduceIte,ah,ai,aj,ak,aq,au,av,aw,ax,m0,m4,m5,m6,m7,m8,hj,hu,hU]
     unfold wN
     rw[<-acV hA n1.2]
     refine qP n.toNat (λu e=>[ii (u+1),.l (e.map gD)]) (λe u=>if(decide (oG ls L ((i:Int)+1) ((u:Int)+1) (gt A (j:Int))>0)&&gt U ((u:Int)+1-1))=true then e++[(⟨(u:Int)+1,oG ls L ((i:Int)+1) ((u:Int)+1) (gt A (j:Int))⟩:cF)]else e) (λe=>q' [.l ((iP d ⟨gt A (j:Int),1,(i:Int)+1,0,1,e,0,false⟩).map bh),ii ((j:Int)+1)]) [] (λu e=>e.length<=u) rfl (et (by omega)) (by simp) ?_ ?_
     ·intro u e hu he
      have rA:(u:Int)+1<=n:=by omega
      refine⟨by split;(· simp;omega);(· omega),λs=>?_⟩
      have ho:=acJ (ii n) (.l (ts.map fR)) ls L ((i:Int)+1) ((u:Int)+1) (gt A (j:Int)) n hA hl hL'
      generalize oG ls L ((i:Int)+1) ((u:Int)+1) (gt A (j:Int))=z at ho
      by_cases k1:z>0
      ·cases k2:gt U ((u:Int)+1-1)with
       |true=>simp(disch:=omega) only[↓pq,↓pj,ps,pz,↓reduceIte,ah,ai,aj,ak,aq,au,av,aw,ax,m0,m4,m5,m6,m7,m8,rA,hj,hU,ho,k1,k2,decide_true,Bool.true_and]
       |false=>simp(disch:=omega) only[↓pq,↓pj,ps,pz,↓reduceIte,ah,ai,aj,ak,aq,au,av,aw,ax,m0,m4,m5,m6,m7,m8,rA,hj,hU,ho,k1,k2,decide_true,Bool.true_and,cA]
      ·simp(disch:=omega) only[↓pq,↓pj,ps,pz,↓reduceIte,ah,ai,aj,ak,aq,au,av,aw,ax,m0,m4,m5,m6,m7,m8,rA,hj,hU,ho,k1,decide_false,Bool.false_and,cA]
     ·intro e s he
      have hp:=DZ d (gt A (j:Int)) 1 ((i:Int)+1) 0 1 e 0 false (by omega) hd.fU (by omega)
      simp(disch:=omega) only[↓pq,↓pj,ps,pz,↓reduceIte,ah,ai,aj,ak,aq,au,av,aw,ax,m0,m4,m5,m6,m7,m8,kq,hp]
    ·intro d q' hd
     simp(disch:=omega) only[↓pq,↓pj,ps,pz,↓reduceIte,ah,ai,aj,ak,aq,au,av,aw,ax,m0,m4,m5,m6,m7,m8,]
   ·rw[if_neg hu]
    refine OH (λk=>[.l (c.map bh),ii k]) 0 rfl (et (by omega)) ?_ ?_
    ·intro k hk;omega
    ·intro s
     by_cases h0:(0:Int)<A.length
     ·simp(disch:=omega) only[↓pq,↓pj,ps,pz,↓reduceIte,ah,ai,aj,ak,aq,au,av,aw,ax,m0,m4,m5,m6,m7,m8,h0,hu,hU,cA]
     ·simp(disch:=omega) only[↓pq,↓pj,ps,pz,↓reduceIte,ah,ai,aj,ak,aq,au,av,aw,ax,m0,m4,m5,m6,m7,m8,h0]
  ·intro c q hc
   simp(disch:=omega) only[↓pq,↓pj,ps,pz,↓reduceIte,ah,ai,aj,ak,aq,au,av,aw,ax,m0,m4,m5,m6,m7,m8,kq]
   refine jz ts (λj c=>[.l (c.map bh),ii j]) (EG U) (λc=>some [T.l (((List.range 3).foldl (GD n ls U) c).map bh),bb true]) c (λj c=>fS j c) rfl (et (by omega)) hc ?_ ?_
   ·intro j d hj hd
    have nc:=MQ hT (h_ (l:=ts) (n:=(j:Int)) (by omega) hj)
    refine⟨MT n1.2 nc hd,λq=>?_⟩
    have EZ:=hd.len
    have hp:=DZ d 9 3 (gt ts (j:Int)).owner (gt ts (j:Int)).key 1 [] (gt ts (j:Int)).cost (gt ts (j:Int)).jX (by omega) hd.fU (by simp)
    rw[List.map_nil]at hp
    unfold EG
    by_cases hu:gt U ((gt ts (j:Int)).owner-1)=true
    ·rw[if_pos hu]
     simp(disch:=omega) only[↓pq,↓pj,ps,pz,↓reduceIte,ah,ai,aj,ak,aq,au,av,aw,ax,m0,m4,m5,m6,m7,m8,hj,hu,hU,hp]
     rfl
    ·rw[if_neg hu]
     simp(disch:=omega) only[↓pq,↓pj,ps,pz,↓reduceIte,ah,ai,aj,ak,aq,au,av,aw,ax,m0,m4,m5,m6,m7,m8,hj,hu,hU,cA]
   ·intro d q hd
    simp(disch:=omega) only[↓pq,↓pj,ps,pz,↓reduceIte,ah,ai,aj,ak,aq,au,av,aw,ax,m0,m4,m5,m6,m7,m8,]
    refine qP 3 (λi c=>[.l (c.map bh),ii i]) (GD n ls U) (λc=>some [T.l (c.map bh),bb true]) d (λ_ c=>fS 4 c) rfl (et (by omega)) (hd.mono (by omega)) ?_ ?_
    ·intro r d hr hd
     have gJ:(r:Int)<3:=by omega
     refine⟨MV n1.2 hd,λq=>?_⟩
     simp(disch:=omega) only[↓pq,↓pj,ps,pz,↓reduceIte,ah,ai,aj,ak,aq,au,av,aw,ax,m0,m4,m5,m6,m7,m8,gJ]
     unfold GD
     refine qP n.toNat (λi c=>[.l (c.map bh),ii (i+1)]) (wP ls U) (λc=>q [.l (c.map bh),ii ((r:Int)+1)]) d (λ_ c=>fS 4 c) rfl (et (by omega)) hd ?_ ?_
     ·intro i e hi he
      have bR:(i:Int)+1<=n:=by omega
      refine⟨MU n1.2 (by omega) he,λq'=>?_⟩
      have n9:=acS e (pn ls ((i:Int)+1)) ((i:Int)+1) (he.mono (by omega)) (OP ls _)
      unfold wP
      by_cases hu:gt U ((i:Int)+1-1)=true
      ·rw[if_pos hu]
       cases hb:A0 ls ((i:Int)+1)with
       |true=>simp(disch:=omega) only[↓pq,↓pj,ps,pz,↓reduceIte,ah,ai,aj,ak,aq,au,av,aw,ax,m0,m4,m5,m6,m7,m8,bR,hu,hU,EA _ _ _ _ _ hA hl,OQ _ _ _ _ _ hA hl,hb,n9]
       |false=>simp(disch:=omega) only[↓pq,↓pj,ps,pz,↓reduceIte,ah,ai,aj,ak,aq,au,av,aw,ax,m0,m4,m5,m6,m7,m8,bR,hu,hU,EA _ _ _ _ _ hA hl,hb,cA]
      ·rw[if_neg hu]
       simp(disch:=omega) only[↓pq,↓pj,ps,pz,↓reduceIte,ah,ai,aj,ak,aq,au,av,aw,ax,m0,m4,m5,m6,m7,m8,bR,hu,hU,cA]
     ·intro e q' he
      simp(disch:=omega) only[↓pq,↓pj,ps,pz,↓reduceIte,ah,ai,aj,ak,aq,au,av,aw,ax,m0,m4,m5,m6,m7,m8,kq]
    ·intro d q hd
     have EZ:=hd.len
     simp(disch:=omega) only[↓pq,↓pj,ps,pz,↓reduceIte,ah,ai,aj,ak,aq,au,av,aw,ax,m0,m4,m5,m6,m7,m8,abj d (by omega) hd.fU]
 ·rw[if_neg hi]
  rw[LH];simp(disch:=omega) only[↓pq,↓pj,ps,pz,↓reduceIte,ah,ai,aj,ak,aq,au,av,aw,ax,m0,m4,m5,m6,m7,m8,Oy,LR _ _ _ h1 h2]
  cases hN:qw ⟨n,ls,ts⟩with
  |false=>simp(disch:=omega) only[↓pq,↓pj,ps,pz,↓reduceIte,ah,ai,aj,ak,aq,au,av,aw,ax,m0,m4,m5,m6,m7,m8,cA]
  |true=>
   by_cases hL:(L.length:Int)=ls.length
   ·by_cases hU:(U.length:Int)=n
    ·exact absurd (by unfold EH;rw[hN];simp[hL,hU]) hi
    ·simp(disch:=omega) only[↓pq,↓pj,ps,pz,↓reduceIte,ah,ai,aj,ak,aq,au,av,aw,ax,m0,m4,m5,m6,m7,m8,hL,hU]
   ·simp(disch:=omega) only[↓pq,↓pj,ps,pz,↓reduceIte,ah,ai,aj,ak,aq,au,av,aw,ax,m0,m4,m5,m6,m7,m8,hL]
def zS(x:Net)(L U:List Bool)(v:Int):List bP:=
 if EH x L U=true∧(1<=v∧v<=x.n)∧gt U (v-1)=true then GA (ui x L U) (pn x.cX v) (A0 x.cX v) v else []
theorem acX(n:Int)(ls:List bC)(ts:List bO)(L U:List Bool)(v:Int)(h1:ls.length<=1048576)(h2:ts.length<=1048576):Dm [ii n,.l (ls.map fe),.l (ts.map fR),.l (L.map fC),.l (U.map fC),ii v]=some [.l ((zS ⟨n,ls,ts⟩ L U v).map gE)]:=by
 have hI:=acW n ls ts L U h1 h2
 by_cases hi:EH ⟨n,ls,ts⟩ L U=true
 ·rw[if_pos hi]at hI
  obtain⟨hN,hL,hU⟩:=EI hi
  obtain⟨n1,hl,ht,hA,hT⟩:=EJ hN
  have hs:=MX (L:=L) (U:=U) hN
  simp only at hL hU n1 hl ht hA hT
  have uu:=hs.len
  have hal:=OP ls v
  rw[LJ];simp(disch:=omega) only[↓pq,↓pj,ps,pz,↓reduceIte,ah,ai,aj,ak,aq,au,av,aw,ax,OA,hI,hU,AU]
  by_cases hv:1<=v∧v<=n
  ·rw[show jg v 1 n=true from bU.2 hv]
   by_cases hu:gt U (v-1)=true
   ·rw[show zS ⟨n,ls,ts⟩ L U v=_ from if_pos ⟨hi,hv,hu⟩]
    simp(disch:=omega) only[↓pq,↓pj,ps,pz,↓reduceIte,ah,ai,aj,ak,aq,au,av,aw,ax,hU,hu,OQ _ _ _ _ _ hA hl,EA _ _ _ _ _ hA hl,ach (ui ⟨n,ls,ts⟩ L U) (pn ls v) (A0 ls v) v (by omega) hs.fU (hs.ok (by omega)) (by omega)]
   ·rw[show zS ⟨n,ls,ts⟩ L U v=_ from if_neg λh=>hu h.2.2]
    simp(disch:=omega) only[↓pq,↓pj,ps,pz,↓reduceIte,ah,ai,aj,ak,aq,au,av,aw,ax,hU,hu,cA]
    rfl
  ·rw[show zS ⟨n,ls,ts⟩ L U v=_ from if_neg λh=>hv h.2.1,show jg v 1 n=false from by cases hb:jg v 1 n with|false=>rfl|true=>exact absurd (bU.1 hb) hv]
   simp(disch:=omega) only[↓pq,↓pj,ps,pz,↓reduceIte,ah,ai,aj,ak,aq,au,av,aw,ax,cA]
   rfl
 ·rw[if_neg hi]at hI
  rw[show zS ⟨n,ls,ts⟩ L U v=_ from if_neg λh=>hi h.1]
  rw[LJ];simp(disch:=omega) only[↓pq,↓pj,ps,pz,↓reduceIte,ah,ai,aj,ak,aq,au,av,aw,ax,OA,hI,cA]
  rfl
abbrev u8(n:Int):T:=.c (.int .u8 n)
def j9(n:Int):List T:=[u8 n]
def EK:List Ty:=[.i .u8]
def sO(n:Int):Prop:=0<=n∧n<=255
theorem acY(r:List T)(h:fQ EK r):∃n,r=j9 n∧sO n:=by
 obtain⟨_,_,rfl,⟨n,rfl,hn⟩,rfl⟩:=CW h
 refine⟨n,rfl,?_⟩
 simp[Lit.wf,IntKind.min,IntKind.max,IntKind.signed,IntKind.bits]at hn
 unfold sO;omega
theorem MY{l:List Int}{n:Int}(h:0<=n)(h':n<l.length):Prim.ev (.cell 1 0) [.l (l.map j9),ii n]=some (u8 (gt l n)):=gN h (dq h h') rfl rfl
theorem MZ{n:Int}(h:0<=n)(h':n<=255):Prim.ev (.wR .i64) [u8 n]=some (ii n):=by
 simp only[Prim.ev,tM (n:=n) (by omega) (by omega)]
theorem M0(a:Int):∃x,Prim.ev (.bin .and) [ii a,ii 255]=some (ii x)∧0<=x∧x<=255:=by
 have h:(BitVec.ofInt 64 a&&&BitVec.ofInt 64 255).toNat<=255:=by
  rw[BitVec.toNat_and]
  exact Nat.le_trans Nat.and_le_right (by decide)
 refine⟨((BitVec.ofInt 64 a&&&BitVec.ofInt 64 255).toNat:Nat),?_,by omega,by omega⟩
 simp only[Prim.ev,T.val,gH,Option.bind_some,if_true]
 show some (ii (IntKind.i64.wrap (((BitVec.ofInt 64 a&&&BitVec.ofInt 64 255).toNat:Nat):Int)))=_
 rw[tM (by omega) (by omega)]
theorem acZ(a b:Int):∃x,Prim.ev (.bin .and) [ii a,ii b]=some (ii x):=⟨_,by simp only[Prim.ev,T.val,gH,Option.bind_some,if_true];rfl⟩
theorem ac0(a b:Int):∃x,Prim.ev (.bin .xor) [ii a,ii b]=some (ii x):=⟨_,by simp only[Prim.ev,T.val,gH,Option.bind_some,if_true];rfl⟩
theorem ac1(a:Int):∃x,Prim.ev (.bin .shr) [ii a,.c (.int .u64 33)]=some (ii x):=⟨_,by simp only[Prim.ev,T.val,gH,Option.bind_some];rfl⟩
theorem ac2(a:Int):∃x,Prim.ev (.bin .shr) [ii a,.c (.int .u64 45)]=some (ii x):=⟨_,by simp only[Prim.ev,T.val,gH,Option.bind_some];rfl⟩
theorem OS{B:List Int}(hB:∀x∈B,sO x)(hl:B.length<=1048576){i:Int}(h:Int)(hi:0<=i)(bR:i<=B.length):
  ∃x i' h',Fw [.l (B.map j9),ii i,ii h]=some [ii x,.l (B.map j9),ii i',ii h']∧(0<=x∧x<=255)∧0<=i'∧i'<=B.length:=by
 rw[X2]
 obtain⟨m,hm⟩:∃m,Prim.ev (.bin .mul) [ii h,ii 6364136223846793005]=some (ii m):=⟨_,C0 _ _ _⟩
 obtain⟨g,hg⟩:∃g,Prim.ev (.bin .add) [ii m,ii 1442695040888963407]=some (ii g):=⟨_,CZ _ _ _⟩
 obtain⟨s1,h1⟩:=ac1 g
 obtain⟨s2,h2⟩:=ac2 g
 obtain⟨x0,h3⟩:=ac0 s1 s2
 obtain⟨x1,h4,r1,r2⟩:=M0 x0
 have hn:Prim.ev .len [.l (B.map j9)]=some (ii B.length):=wj
 by_cases hc:i<B.length
 ·have hx:=hB _ (h_ hi hc)
  obtain⟨x2,h5,r3,r4⟩:=M0 (x1+gt B i)
  have hb:=Fq (enc:=j9) hi hc
  refine⟨x2,i+1,g,?_,⟨r3,r4⟩,by omega,by omega⟩
  have w1:=hx.1
  have w2:=hx.2
  simp(disch:=omega) only[↓pq,↓pj,ps,pz,↓reduceIte,ah,ai,aj,ak,aq,au,av,aw,ax,Oj,hm,hg,h1,h2,h3,h4,hn,hc,hb,MY hi hc,MZ w1 w2,h5]
 ·refine⟨x1,i,g,?_,⟨r1,r2⟩,hi,bR⟩
  simp(disch:=omega) only[↓pq,↓pj,ps,pz,↓reduceIte,ah,ai,aj,ak,aq,au,av,aw,ax,Oj,hm,hg,h1,h2,h3,h4,hn,hc]
theorem uP{B:List Int}(hB:∀x∈B,sO x)(hl:B.length<=1048576){i:Int}(h:Int)(hi:0<=i)(bR:i<=B.length)(n:Int)(hn:1<=n)(eu:n<=4294967296):
  ∃x i' h',qQ [.l (B.map j9),ii i,ii h,ii n]=some [ii x,.l (B.map j9),ii i',ii h']∧(0<=x∧x<n)∧0<=i'∧i'<=B.length:=by
 rw[X4]
 have h0:¬n<=0:=by omega
 obtain⟨x,i1,h1,e1,r1,p1,p2⟩:=OS hB hl h hi bR
 have hz:n≠0:=by omega
 by_cases hc:n<=256
 ·refine⟨x.tmod n,i1,h1,?_,⟨Int.tmod_nonneg _ r1.1,Int.tmod_lt_of_pos _ (by omega)⟩,p1,p2⟩
  simp(disch:=omega) only[↓pq,↓pj,ps,pz,↓reduceIte,ah,ai,aj,ak,aq,au,av,aw,ax,Ol,h0,hc,e1,hz]
 ·obtain⟨y,i2,h2,e2,r2,p3,p4⟩:=OS hB hl h1 p1 p2
  obtain⟨z,i3,h3,e3,r3,p5,p6⟩:=OS hB hl h2 p3 p4
  obtain⟨w,i4,h4,e4,r4,p7,p8⟩:=OS hB hl h3 p5 p6
  refine⟨(x*16777216+y*65536+z*256+w).tmod n,i4,h4,?_,⟨Int.tmod_nonneg _ (by omega),Int.tmod_lt_of_pos _ (by omega)⟩,p7,p8⟩
  simp(disch:=omega) only[↓pq,↓pj,ps,pz,↓reduceIte,ah,ai,aj,ak,aq,au,av,aw,ax,Ol,h0,hc,e1,e2,e3,e4,hz]
theorem OT{B:List Int}(hB:∀x∈B,sO x)(hl:B.length<=1048576){i:Int}(h:Int)(hi:0<=i)(bR:i<=B.length)(n:Int)(hn:1<=n)(eu:n<=4294967296):
  ∃x i' h',tU [.l (B.map j9),ii i,ii h,ii n]=some [bb x,.l (B.map j9),ii i',ii h']∧0<=i'∧i'<=B.length:=by
 rw[Yj]
 obtain⟨x,i1,h1,e1,r1,p1,p2⟩:=uP hB hl h hi bR n hn eu
 refine⟨x==0,i1,h1,?_,p1,p2⟩
 simp(disch:=omega) only[↓pq,↓pj,ps,pz,↓reduceIte,ah,ai,aj,ak,aq,au,av,aw,ax,Yf,e1]
 try rfl
theorem ac3{B:List Int}(hB:∀x∈B,sO x)(hl:B.length<=1048576){i:Int}(h:Int)(hi:0<=i)(bR:i<=B.length)(l:List Int)(hn:1<=l.length)(eu:l.length<=1048576):
  ∃x i' h',Fx [.l (B.map j9),ii i,ii h,.l (l.map aA)]=some [ii x,.l (B.map j9),ii i',ii h']∧x∈l∧0<=i'∧i'<=B.length:=by
 rw[X7]
 obtain⟨x,i1,h1,e1,r1,p1,p2⟩:=uP hB hl h hi bR l.length (by omega) (by omega)
 have:=r1.1
 have:=r1.2
 refine⟨gt l x,i1,h1,?_,h_ r1.1 r1.2,p1,p2⟩
 simp(disch:=omega) only[↓pq,↓pj,ps,pz,↓reduceIte,ah,ai,aj,ak,aq,au,av,aw,ax,X5,e1]
theorem GF{β σ:Type}{F:(σ->Option β)->σ->Option β}(mb:Option β->Prop)(Inv:Nat->σ->Prop)(step:∀m s q,Inv m s->(∀m' s',m'<m->Inv m' s'->mb (q s'))->mb (F q s)):
  ∀m s R,Inv m s->m<R->mb (iter F R s)
 |m,s,0,_,hR=>absurd hR (Nat.not_lt_zero _)
 |m,s,R+1,hI,hR=>by
  unfold iter
  exact step m s _ hI λm' s' hm hI'=>GF mb Inv step m' s' R hI' (by omega)
theorem M1{B:List Int}(hB:∀x∈B,sO x)(hl:B.length<=1048576){F:ay->ay}{mb:Option (List T)->Prop}
  (hF:∀q (h:Int) (k:Nat),(k:Int)<B.length->(k:Int)<4000->∃h',F q [ii h,ii k]=q [ii h',ii (k+1)])
  (fin:∀q (h:Int) (k:Nat),(k<=B.length∧k<=4000∧(¬(k:Int)<B.length∨¬(k:Int)<4000))->mb (F q [ii h,ii k]))(h:Int):mb (iter F rounds [ii h,ii 0]):=by
 refine GF mb (λm s=>∃(h:Int) (k:Nat),s=[ii h,ii k]∧k<=B.length∧k<=4000∧m=4000-k) ?_ 4000 _ rounds ⟨h,0,rfl,by omega,by omega,rfl⟩ (by unfold rounds;omega)
 rintro m s q ⟨h,k,rfl,h1,h2,rfl⟩ hq
 by_cases c1:(k:Int)<B.length
 ·by_cases c2:(k:Int)<4000
  ·obtain⟨h',e⟩:=hF q h k c1 c2
   rw[e]
   exact hq (4000-(k+1)) _ (by omega) ⟨h',k+1,by rw[wo],by omega,by omega,rfl⟩
  ·exact fin q h k ⟨h1,h2,.inr c2⟩
 ·exact fin q h k ⟨h1,h2,.inl c1⟩
def ol{α:Type}(lt:α->α->Bool)(L:List α)(x:α):List α:=L.filter (λy=>lt y x)++[x]++L.filter (λy=>lt x y)
theorem M2{α:Type}{lt:α->α->Bool}(asy:∀a b,lt a b=true->lt b a=false)(L:List α)(x:α):(ol lt L x).length<=L.length+1:=by
 have:∀L:List α,(L.filter (λy=>lt y x)).length+(L.filter (λy=>lt x y)).length<=L.length:=by
  intro L
  induction L with
  |nil=>simp
  |cons y L ih=>
   have:=asy y x
   cases h1:lt y x<;>cases h2:lt x y<;>simp_all<;>omega
 have:=this L
 simp only[ol,List.length_append,List.length_singleton];omega
theorem M3{α:Type} [Inhabited α]{ok:α->Bool}{lt:α->α->Bool}(tr:∀a b c,lt a b=true->lt b c=true->lt a c=true){L:List α}(h:dJ ok lt L=true)(dL:∀y∈L,ok y=true){x:α}(hx:ok x=true):dJ ok lt (ol lt L x)=true:=by
 have hp:=MG tr h
 refine MH (λy hy=>?_) ?_
 ·simp only[ol,List.mem_append,List.mem_filter,List.mem_singleton]at hy
  rcases hy with(hy|hy)|hy
  ·exact dL y hy.1
  ·rw[hy];exact hx
  ·exact dL y hy.1
 ·unfold ol
  rw[List.pairwise_append,List.pairwise_append]
  refine⟨⟨hp.filter _,List.pairwise_singleton _ _,?_⟩,hp.filter _,?_⟩
  ·intro a ha b hb
   rw[List.mem_singleton]at hb
   rw[hb];exact(List.mem_filter.1 ha).2
  ·intro a ha b hb
   have hb:=(List.mem_filter.1 hb).2
   rcases List.mem_append.1 ha with ha|ha
   ·exact tr _ _ _ (List.mem_filter.1 ha).2 hb
   ·rw[List.mem_singleton]at ha
    rw[ha];exact hb
theorem M4{α:Type} [Inhabited α]{ok:α->Bool}{lt:α->α->Bool}{l:List α}(h:dJ ok lt l=true):∀x∈l,ok x=true:=by
 intro x hx
 obtain⟨i,hi,rfl⟩:=List.mem_iff_getElem.1 hx
 have:=cY.1 h i hi
 simp only[bB]at this
 have h1:=this.1
 rwa[gC hi]at h1
theorem ac4(a b c:bC)(h1:gT a b=true)(h2:gT b c=true):gT a c=true:=by simp only[gT,decide_eq_true_eq]at *;omega
theorem ac5(a b:bC)(h1:gT a b=true):gT b a=false:=by simp only[gT,decide_eq_true_eq,decide_eq_false_iff_not]at *;omega
theorem ac6(a b c:bO)(h1:nO a b=true)(h2:nO b c=true):nO a c=true:=by simp only[nO,decide_eq_true_eq]at *;omega
theorem ac7(a b:bO)(h1:nO a b=true):nO b a=false:=by simp only[nO,decide_eq_true_eq,decide_eq_false_iff_not]at *;omega
theorem ac8(L:List bC)(a b c d:Int)(h:L.length<=1048576):Fy [.l (L.map fe),ii a,ii b,ii c,ii d]=some [.l ((ol gT L ⟨a,b,c,d⟩).map fe)]:=by
 rw[Yd];simp(disch:=omega) only[↓pq,↓pj,ps,pz,↓reduceIte,ah,ai,aj,ak,aq,au,av,aw,ax,AP,AQ,Dv]
 refine(jz L (λi K=>[.l (K.map fe),ii i]) (λK y=>if gT y (⟨a,b,c,d⟩:bC)=true then K++[y]else K) (λK=>if K.length<=L.length then some [T.l ((K++[(⟨a,b,c,d⟩:bC)]++L.filter (λy=>gT (⟨a,b,c,d⟩:bC) y)).map fe)]else none) [] (λi K=>K.length<=i) rfl (et h) (by simp) ?_ ?_).trans ?_
 ·intro i K hi hK
  refine⟨by split<;>(try simp)<;>omega,λq=>?_⟩
  cases hb:gT (gt L (i:Int)) ⟨a,b,c,d⟩with
  |true=>simp(disch:=omega) only[↓pq,↓pj,ps,pz,↓reduceIte,ah,ai,aj,ak,aq,au,av,aw,ax,AP,AQ,hi,LP,hb]
  |false=>simp(disch:=omega) only[↓pq,↓pj,ps,pz,↓reduceIte,ah,ai,aj,ak,aq,au,av,aw,ax,AP,AQ,hi,LP,hb,cA]
 ·intro K q hK
  rw[if_pos (by omega)]
  simp(disch:=omega) only[↓pq,↓pj,ps,pz,↓reduceIte,ah,ai,aj,ak,aq,au,av,aw,ax,AP,AQ,]
  refine(jz L (λi K=>[.l (K.map fe),ii i]) (λK y=>if gT (⟨a,b,c,d⟩:bC) y=true then K++[y]else K) (λK=>some [T.l (K.map fe)]) (K++[⟨a,b,c,d⟩]) (λi K=>K.length<=L.length+1+i) rfl (et h) (by simp;omega) ?_ ?_).trans (by rw[AJ])
  ·intro i K hi hK
   refine⟨by split<;>(try simp)<;>omega,λq=>?_⟩
   cases hb:gT ⟨a,b,c,d⟩ (gt L (i:Int))with
   |true=>simp(disch:=omega) only[↓pq,↓pj,ps,pz,↓reduceIte,ah,ai,aj,ak,aq,au,av,aw,ax,AP,AQ,hi,LP,hb]
   |false=>simp(disch:=omega) only[↓pq,↓pj,ps,pz,↓reduceIte,ah,ai,aj,ak,aq,au,av,aw,ax,AP,AQ,hi,LP,hb,cA]
  ·intro K q hK
   simp(disch:=omega) only[↓pq,↓pj,ps,pz,↓reduceIte,ah,ai,aj,ak,aq,au,av,aw,ax,AP,AQ,]
 ·rw[AJ,List.nil_append,if_pos (List.length_filter_le _ _)]
  rfl
theorem M5(a b c:Int)(d:Bool):List.map dH [⟨a,b,c,d⟩]=List.map fR [⟨a,b,c,d⟩]:=rfl
theorem ac9(L:List bO)(a b c:Int)(d:Bool)(h:L.length<=1048576):Fz [.l (L.map fR),ii a,ii b,ii c,bb d]=some [.l ((ol nO L ⟨a,b,c,d⟩).map fR)]:=by
 rw[YD];simp(disch:=omega) only[↓pq,↓pj,ps,pz,↓reduceIte,ah,ai,aj,ak,aq,au,av,aw,ax,AR,AS,YB]
 refine(jz L (λi K=>[.l (K.map fR),ii i]) (λK y=>if nO y (⟨a,b,c,d⟩:bO)=true then K++[y]else K) (λK=>if K.length<=L.length then some [T.l ((K++[(⟨a,b,c,d⟩:bO)]++L.filter (λy=>nO (⟨a,b,c,d⟩:bO) y)).map fR)]else none) [] (λi K=>K.length<=i) rfl (et h) (by simp) ?_ ?_).trans ?_
 ·intro i K hi hK
  refine⟨by split<;>(try simp)<;>omega,λq=>?_⟩
  cases hb:nO (gt L (i:Int)) ⟨a,b,c,d⟩with
  |true=>simp(disch:=omega) only[↓pq,↓pj,ps,pz,↓reduceIte,ah,ai,aj,ak,aq,au,av,aw,ax,AR,AS,hi,LQ,hb,M5]
  |false=>simp(disch:=omega) only[↓pq,↓pj,ps,pz,↓reduceIte,ah,ai,aj,ak,aq,au,av,aw,ax,AR,AS,hi,LQ,hb,cA,M5]
 ·intro K q hK
  rw[if_pos (by omega)]
  simp(disch:=omega) only[↓pq,↓pj,ps,pz,↓reduceIte,ah,ai,aj,ak,aq,au,av,aw,ax,AR,AS,M5]
  refine(jz L (λi K=>[.l (K.map fR),ii i]) (λK y=>if nO (⟨a,b,c,d⟩:bO) y=true then K++[y]else K) (λK=>some [T.l (K.map fR)]) (K++[⟨a,b,c,d⟩]) (λi K=>K.length<=L.length+1+i) rfl (et h) (by simp;omega) ?_ ?_).trans (by rw[AJ])
  ·intro i K hi hK
   refine⟨by split<;>(try simp)<;>omega,λq=>?_⟩
   cases hb:nO ⟨a,b,c,d⟩ (gt L (i:Int))with
   |true=>simp(disch:=omega) only[↓pq,↓pj,ps,pz,↓reduceIte,ah,ai,aj,ak,aq,au,av,aw,ax,AR,AS,hi,LQ,hb,M5]
   |false=>simp(disch:=omega) only[↓pq,↓pj,ps,pz,↓reduceIte,ah,ai,aj,ak,aq,au,av,aw,ax,AR,AS,hi,LQ,hb,cA,M5]
  ·intro K q hK
   simp(disch:=omega) only[↓pq,↓pj,ps,pz,↓reduceIte,ah,ai,aj,ak,aq,au,av,aw,ax,AR,AS,]
 ·rw[AJ,List.nil_append,if_pos (List.length_filter_le _ _)]
  rfl
def po(n:Int)(L:List bC):Prop:=dJ (mF n) gT L=true∧L.length<=12
def rX(n:Int)(L:List bO):Prop:=dJ (xl n) nO L=true
theorem po.put{n:Int}{L:List bC}(h:po n L)(hl:L.length<12){a b c d:Int}(hn:2<=n∧n<=6)(ha:1<=a)(tB:a<b)(hb:b<=n)(hc:1<=c∧c<=1000)(hd:0<=d∧d<=2):po n (ol gT L ⟨a,b,c,d⟩):=by
 refine⟨M3 ac4 h.1 (M4 h.1) ?_,?_⟩
 ·simp only[mF,jg,bB,decide_eq_true_eq];omega
 ·have:=M2 ac5 L ⟨a,b,c,d⟩
  omega
theorem rX.put{n:Int}{L:List bO}(h:rX n L){a b c:Int}{d:Bool}(ha:1<=a∧a<=n)(hb:1<=b∧b<=9)(hc:1<=c∧c<=1000):rX n (ol nO L ⟨a,b,c,d⟩):=by
 refine M3 ac6 h (M4 h) ?_
 simp only[xl,jg,bB,decide_eq_true_eq];omega
theorem po.nil{n:Int}:po n []:=⟨rfl,by simp⟩
theorem rX.nil{n:Int}:rX n []:=rfl
theorem xo(a b c d:Int):Prim.ev (.lit 1 [true,true,true,true]) [ii a,ii b,ii c,ii d]=some (.l ([a,b,c,d].map aA)):=by simp[Prim.ev,qX,nW,dr,aA]
theorem ac_{B:List Int}(hB:∀x∈B,sO x)(hl:B.length<=1048576){i:Int}(h:Int)(hi:0<=i)(bR:i<=B.length):
  ∃(x:Net) (i' h':Int),FA [.l (B.map j9),ii i,ii h]=some [ii x.n,.l (x.cX.map fe),.l (x.eE.map fR),.l (B.map j9),ii i',ii h']∧(qw x=true∧2<=x.n∧x.eE.length<=2)∧0<=i'∧i'<=B.length:=by
 rw[YF]
 obtain⟨n0,i,h,e,hn,hi,bR⟩:=uP hB hl h hi bR 4 (by omega) (by omega)
 simp(disch:=omega) only[↓pq,↓pj,ps,pz,↓reduceIte,ah,ai,aj,ak,aq,au,av,aw,ax,rI,rJ,Dw,e]
 obtain⟨n,xn⟩:∃n,n=2+n0:=⟨_,rfl⟩
 rw[<-xn]
 have hn2:2<=n∧n<=6:=by omega
 clear xn e hn
 refine GF (λo=>∃(x:Net) (i' h':Int),o=some [ii x.n,.l (x.cX.map fe),.l (x.eE.map fR),.l (B.map j9),ii i',ii h']∧(qw x=true∧2<=x.n∧x.eE.length<=2)∧0<=i'∧i'<=B.length)
  (λm s=>∃(k:Nat) (i h:Int) (L:List bC),s=[ii k,.l (B.map j9),ii i,ii h,.l (L.map fe)]∧k<=8∧(0<=i∧i<=B.length)∧po n L∧m=8-k) ?_ 8 _ rounds ⟨0,i,h,[],rfl,by omega,⟨hi,bR⟩,po.nil,rfl⟩ (by unfold rounds;omega)
 rintro m s q ⟨k,i,h,L,rfl,hk,⟨hi,bR⟩,hL,rfl⟩ hq
 obtain⟨d,i,h,e,hd,hi,bR⟩:=uP hB hl h hi bR 3 (by omega) (by omega)
 by_cases hc:(k:Int)<n+d
 ·have hq:∀(i h:Int) (L:List bC),(0<=i∧i<=B.length)->po n L->_:=λi h L hi hL=>hq (8-(k+1)) [ii (k+1),.l (B.map j9),ii i,ii h,.l (L.map fe)] (by omega) ⟨k+1,i,h,L,by rw[wo],by omega,hi,hL,rfl⟩
  obtain⟨x,i,h,e1,hx,hi,bR⟩:=uP hB hl h hi bR n (by omega) (by omega)
  obtain⟨y,i,h,e2,hy,hi,bR⟩:=uP hB hl h hi bR n (by omega) (by omega)
  obtain⟨c,i,h,e3,Ap,hi,bR⟩:=uP hB hl h hi bR 4 (by omega) (by omega)
  obtain⟨z,i,h,e4,hz,hi,bR⟩:=ac3 hB hl h hi bR [0,0,1,2] (by simp) (by simp)
  have hz:0<=z∧z<=2:=by simp at hz;omega
  have pX:=λa b=>ac8 L a b (1+c) z (by have:=hL.2;omega)
  have fin:∀a b:Int,1<=a->a<b->b<=n->∀hl:L.length<12,po n (ol gT L ⟨a,b,1+c,z⟩):=λa b h1 h2 h3 h4=>hL.put h4 hn2 h1 h2 h3 (by omega) hz
  have alG:((L.length:Nat):Int)<12↔L.length<12:=by omega
  have hr:=Int.tmod_nonneg n (show 0<=1+x by omega)
  have pE:=Int.tmod_lt_of_pos (1+x) (show 0<n by omega)
  by_cases c1:(k:Int)+1<n
  ·have g1:¬((k:Int)+1=k+2):=by omega
   have g2:¬((k:Int)+1>k+2):=by omega
   by_cases c4:(L.length:Int)<12
   ·simp(disch:=omega) only[↓pq,↓pj,ps,pz,↓reduceIte,ah,ai,aj,ak,aq,au,av,aw,ax,rI,rJ,e,hc,e1,e2,c1,g1,g2,xo,e3,e4,c4,pX]
    exact hq i h _ ⟨hi,bR⟩ (fin _ _ (by omega) (by omega) (by omega) (by omega))
   ·simp(disch:=omega) only[↓pq,↓pj,ps,pz,↓reduceIte,ah,ai,aj,ak,aq,au,av,aw,ax,rI,rJ,e,hc,e1,e2,c1,g1,g2,xo,e3,e4,c4]
    exact hq i h _ ⟨hi,bR⟩ hL
  ·by_cases c2:(1:Int)+x=1+y
   ·have yg:n≠0:=by omega
    by_cases c3:1+x=n
    ·have jk:(1+x).tmod n=0:=by rw[c3];exact Int.tmod_self
     have g3:(1:Int)+x>1:=by omega
     rw[c2]at jk g3
     by_cases c4:(L.length:Int)<12
     ·simp(disch:=omega) only[↓pq,↓pj,ps,pz,↓reduceIte,ah,ai,aj,ak,aq,au,av,aw,ax,rI,rJ,e,hc,e1,e2,c1,c2,yg,jk,g3,xo,e3,e4,c4,pX]
      exact hq i h _ ⟨hi,bR⟩ (fin _ _ (by omega) (by omega) (by omega) (by omega))
     ·simp(disch:=omega) only[↓pq,↓pj,ps,pz,↓reduceIte,ah,ai,aj,ak,aq,au,av,aw,ax,rI,rJ,e,hc,e1,e2,c1,c2,yg,jk,g3,xo,e3,e4,c4]
      exact hq i h _ ⟨hi,bR⟩ hL
    ·have jk:(1+x).tmod n=1+x:=by
      rw[Int.tmod_eq_emod_of_nonneg (by omega)]
      exact Int.emod_eq_of_lt (by omega) (by omega)
     have g3:¬((1:Int)+x>1+x+1):=by omega
     rw[c2]at jk g3
     by_cases c4:(L.length:Int)<12
     ·simp(disch:=omega) only[↓pq,↓pj,ps,pz,↓reduceIte,ah,ai,aj,ak,aq,au,av,aw,ax,rI,rJ,e,hc,e1,e2,c1,c2,yg,jk,g3,xo,e3,e4,c4,pX]
      exact hq i h _ ⟨hi,bR⟩ (fin _ _ (by omega) (by omega) (by omega) (by omega))
     ·simp(disch:=omega) only[↓pq,↓pj,ps,pz,↓reduceIte,ah,ai,aj,ak,aq,au,av,aw,ax,rI,rJ,e,hc,e1,e2,c1,c2,yg,jk,g3,xo,e3,e4,c4]
      exact hq i h _ ⟨hi,bR⟩ hL
   ·by_cases c3:(1:Int)+x>1+y
    ·by_cases c4:(L.length:Int)<12
     ·simp(disch:=omega) only[↓pq,↓pj,ps,pz,↓reduceIte,ah,ai,aj,ak,aq,au,av,aw,ax,rI,rJ,e,hc,e1,e2,c1,c2,c3,xo,e3,e4,c4,pX]
      exact hq i h _ ⟨hi,bR⟩ (fin _ _ (by omega) (by omega) (by omega) (by omega))
     ·simp(disch:=omega) only[↓pq,↓pj,ps,pz,↓reduceIte,ah,ai,aj,ak,aq,au,av,aw,ax,rI,rJ,e,hc,e1,e2,c1,c2,c3,xo,e3,e4,c4]
      exact hq i h _ ⟨hi,bR⟩ hL
    ·by_cases c4:(L.length:Int)<12
     ·simp(disch:=omega) only[↓pq,↓pj,ps,pz,↓reduceIte,ah,ai,aj,ak,aq,au,av,aw,ax,rI,rJ,e,hc,e1,e2,c1,c2,c3,xo,e3,e4,c4,pX]
      exact hq i h _ ⟨hi,bR⟩ (fin _ _ (by omega) (by omega) (by omega) (by omega))
     ·simp(disch:=omega) only[↓pq,↓pj,ps,pz,↓reduceIte,ah,ai,aj,ak,aq,au,av,aw,ax,rI,rJ,e,hc,e1,e2,c1,c2,c3,xo,e3,e4,c4]
      exact hq i h _ ⟨hi,bR⟩ hL
 ·simp(disch:=omega) only[↓pq,↓pj,ps,pz,↓reduceIte,ah,ai,aj,ak,aq,au,av,aw,ax,rI,rJ,e,hc]
  refine GF (λo=>∃(x:Net) (i' h':Int),o=some [ii x.n,.l (x.cX.map fe),.l (x.eE.map fR),.l (B.map j9),ii i',ii h']∧(qw x=true∧2<=x.n∧x.eE.length<=2)∧0<=i'∧i'<=B.length)
   (λm s=>∃(k:Nat) (i h:Int) (K:List bO),s=[ii k,.l (B.map j9),ii i,ii h,.l (K.map fR)]∧k<=2∧(0<=i∧i<=B.length)∧rX n K∧K.length<=k∧m=2-k) ?_ 2 _ rounds ⟨0,i,h,[],rfl,by omega,⟨hi,bR⟩,rX.nil,by simp,rfl⟩ (by unfold rounds;omega)
  rintro m s q ⟨k,i,h,K,rfl,hk,⟨hi,bR⟩,hK,hKl,rfl⟩ hq
  obtain⟨d,i,h,e,hd,hi,bR⟩:=uP hB hl h hi bR 3 (by omega) (by omega)
  by_cases hc:(k:Int)<d
  ·obtain⟨x,i,h,e1,hx,hi,bR⟩:=uP hB hl h hi bR n (by omega) (by omega)
   obtain⟨y,i,h,e2,hy,hi,bR⟩:=uP hB hl h hi bR 3 (by omega) (by omega)
   obtain⟨c,i,h,e3,Ap,hi,bR⟩:=uP hB hl h hi bR 5 (by omega) (by omega)
   obtain⟨f,i,h,e4,hi,bR⟩:=OT hB hl h hi bR 2 (by omega) (by omega)
   have pX:=ac9 K (1+x) (1+y) (1+c) f (by omega)
   have:=M2 ac7 K ⟨1+x,1+y,1+c,f⟩
   simp(disch:=omega) only[↓pq,↓pj,ps,pz,↓reduceIte,ah,ai,aj,ak,aq,au,av,aw,ax,rI,rJ,e,hc,e1,e2,e3,e4,pX]
   exact hq (2-(k+1)) _ (by omega) ⟨k+1,i,h,_,by rw[wo],by omega,⟨hi,bR⟩,hK.put (by omega) (by omega) (by omega),by omega,rfl⟩
  ·simp(disch:=omega) only[↓pq,↓pj,ps,pz,↓reduceIte,ah,ai,aj,ak,aq,au,av,aw,ax,rI,rJ,e,hc]
   refine⟨⟨n,L,K⟩,i,h,rfl,⟨?_,hn2.1,by show K.length<=2;omega⟩,hi,bR⟩
   unfold qw
   simp only[bB,decide_eq_true_eq]
   exact⟨⟨⟨⟨bU.2 (by omega),hL.2⟩,by show K.length<=4;omega⟩,hL.1⟩,hK⟩
theorem M6{x:Net}(h:qw x=true):1<=x.n∧x.n<=6:=by
 unfold qw at h
 simp only[bB]at h
 exact bU.1 h.1.1.1.1
theorem M7{B:List Int}(hB:∀x∈B,sO x)(hl:B.length<=1048576)(h:Int){k:Nat}(hc:(k:Int)<B.length):
  ∃m a c d,Prim.ev (.bin .mul) [ii h,ii 131]=some (ii m)∧Prim.ev .ia [.l (B.map j9),ii k]=some (bb true)∧Prim.ev (.cell 1 0) [.l (B.map j9),ii k]=some (u8 (gt B k))∧Prim.ev (.wR .i64) [u8 (gt B k)]=some (ii (gt B k))∧
   Prim.ev (.bin .add) [ii m,ii (gt B k)]=some (ii a)∧Prim.ev (.bin .add) [ii a,ii 7]=some (ii c)∧Prim.ev (.bin .and) [ii c,ii 1073741823]=some (ii d):=by
 have hx:=hB _ (h_ (l:=B) (n:=(k:Int)) (by omega) hc)
 obtain⟨m,hm⟩:∃m,Prim.ev (.bin .mul) [ii h,ii 131]=some (ii m):=⟨_,C0 _ _ _⟩
 obtain⟨a,ha⟩:∃a,Prim.ev (.bin .add) [ii m,ii (gt B k)]=some (ii a):=⟨_,CZ _ _ _⟩
 obtain⟨c,Ap⟩:∃c,Prim.ev (.bin .add) [ii a,ii 7]=some (ii c):=⟨_,CZ _ _ _⟩
 obtain⟨d,hd⟩:=acZ c 1073741823
 exact⟨m,a,c,d,hm,Fq (by omega) hc,MY (by omega) hc,MZ hx.1 hx.2,ha,Ap,hd⟩
theorem ac'(ts:List T)(h:fQ [.sl EK] ts):∃B:List Int,ts=[.l (B.map j9)]∧∀x∈B,sO x:=by
 obtain⟨t1,_,rfl,q1,rfl⟩:=CW h
 unfold WT at q1
 obtain⟨z1,rfl,m1,g1⟩:=q1
 obtain⟨B,rfl,hB⟩:=KN acY g1
 exact⟨B,rfl,hB⟩
theorem ada(B:List Int):tT [.l (B.map j9)]=some [bb (decide ((B.length:Int)>1048576))]:=by
 have hn:Prim.ev .len [.l (B.map j9)]=some (ii B.length):=wj
 rw[X0]
 simp(disch:=omega) only[↓pq,↓pj,ps,pz,↓reduceIte,ah,ai,aj,ak,aq,au,av,aw,ax,Du,hn]
 try rfl
theorem adb(x:Net)(L U:List Bool)(v:Int):(∀r∈zS x L U v,zh r∧r.ae.length<=6)∧(zS x L U v).length<=21:=by
 unfold zS
 split
 ·rename_i h
  have hs:=(MX (L:=L) (U:=U) (EI h.1).1).ok (by omega)
  exact⟨acp hs (A:=pn x.cX v) (z:=A0 x.cX v) (fr:=v),aco (ui x L U) (pn x.cX v) (A0 x.cX v) v⟩
 ·exact⟨by simp,by simp⟩
def zU(rs:List bP):Prop:=(∀r∈rs,zh r∧r.ae.length<=6)∧rs.length<=22
def zV(B:List Int)(o:Option (List T)):Prop:=
 ∃(rs:List bP) (i' h':Int),o=some [.l (rs.map gE),.l (B.map j9),ii i',ii h']∧zU rs∧0<=i'∧i'<=B.length
theorem ade{B:List Int}(hB:∀x∈B,sO x)(hl:B.length<=1048576){x:Net}(hx:qw x=true∧2<=x.n∧x.eE.length<=2){L:List Bool}{i:Int}(h:Int)(hi:0<=i)(bR:i<=B.length):
  zV B (iter (tW Dm qQ tU (ii x.n) (.l (x.cX.map fe)) (.l (x.eE.map fR)) (.l (B.map j9)) (ii i) (ii h) (.l (L.map fC))) rounds [ii 0,.l ((List.replicate x.n.toNat false).map fC)]):=by
 have hn:=M6 hx.1
 have BR:=(MA hx.1).2
 refine GF (zV B) (λm st=>∃(k:Nat) (U:List Bool),st=[ii k,.l (U.map fC)]∧(k:Int)<=x.n∧(U.length:Int)=x.n∧m=x.n.toNat-k) ?_ x.n.toNat _ rounds ⟨0,_,rfl,by omega,by simp;omega,rfl⟩ (by unfold rounds;omega)
 rintro m st q ⟨k,U,rfl,hk,hU,rfl⟩ hq
 by_cases c1:(k:Int)<U.length
 ·have e2:=D2 (l:=U) (n:=(k:Int)) (x:=true) (by omega) c1
  simp(disch:=omega) only[↓pq,↓pj,ps,pz,↓reduceIte,ah,ai,aj,ak,aq,au,av,aw,ax,tW,xj,tW,c1,e2]
  exact hq (x.n.toNat-(k+1)) _ (by omega) ⟨k+1,_,by rw[wo],by omega,by simpa using hU,rfl⟩
 ·obtain⟨d,i,h,e1,hd,hi,bR⟩:=uP hB hl h hi bR x.n (by omega) (by omega)
  have e2:=acX x.n x.cX x.eE L U (1+d) (by omega) (by have:=hx.2.2;omega)
  obtain⟨g1,g2⟩:=adb x L U (1+d)
  rw[show(⟨x.n,x.cX,x.eE⟩:Net)=x from rfl]at e2
  generalize zS x L U (1+d)=rs at e2 g1 g2
  by_cases c2:(0:Int)<rs.length
  ·obtain⟨f,i,h,e3,hi,bR⟩:=OT hB hl h hi bR 6 (by omega) (by omega)
   cases f with
   |false=>
    simp(disch:=omega) only[↓pq,↓pj,ps,pz,↓reduceIte,ah,ai,aj,ak,aq,au,av,aw,ax,tW,xj,tW,c1,e1,e2,c2,e3,cA]
    exact⟨rs,i,h,rfl,⟨g1,by omega⟩,hi,bR⟩
   |true=>
    simp(disch:=omega) only[↓pq,↓pj,ps,pz,↓reduceIte,ah,ai,aj,ak,aq,au,av,aw,ax,tW,xj,tW,c1,e1,e2,c2,e3]
    have hm:=h_ (l:=rs) (n:=0) (by omega) c2
    exact⟨rs++[gt rs 0],i,h,by simp[gE],⟨λr hr=>by
     rcases List.mem_append.1 hr with hr|hr
     ·exact g1 r hr
     ·rw[List.mem_singleton.1 hr];exact g1 _ hm,by simp;omega⟩,hi,bR⟩
  ·simp(disch:=omega) only[↓pq,↓pj,ps,pz,↓reduceIte,ah,ai,aj,ak,aq,au,av,aw,ax,tW,xj,tW,c1,e1,e2,c2]
   exact⟨rs,i,h,rfl,⟨g1,by omega⟩,hi,bR⟩
theorem q1_{B:List Int}(hB:∀x∈B,sO x)(hl:B.length<=1048576){i:Int}(h:Int)(hi:0<=i)(bR:i<=B.length):zV B (zr [.l (B.map j9),ii i,ii h]):=by
 rw[aai]
 obtain⟨x,i,h,e1,hx,hi,bR⟩:=ac_ hB hl h hi bR
 have hn:=M6 hx.1
 have BR:=(MA hx.1).2
 have m1:=tX (enc:=fC) (n:=x.cX.length) (x:=false) (vs:=[bb false]) (by omega) rfl
 have m2:=tX (enc:=fC) (n:=x.n.toNat) (x:=false) (vs:=[bb false]) (by omega) rfl
 rw[show((x.n.toNat:Nat):Int)=x.n by omega]at m2
 simp(disch:=omega) only[↓pq,↓pj,ps,pz,↓reduceIte,ah,ai,aj,ak,aq,au,av,aw,ax,tW,xj,qZ_,e1,m1,m2]
 refine GF (zV B) (λm st=>∃(k:Nat) (i h:Int) (L:List Bool),st=[ii k,.l (B.map j9),ii i,ii h,.l (L.map fC)]∧k<=x.cX.length∧(0<=i∧i<=B.length)∧L.length=x.cX.length∧m=x.cX.length-k) ?_ x.cX.length _ rounds ⟨0,i,h,_,rfl,by omega,⟨hi,bR⟩,by simp,rfl⟩ (by unfold rounds;omega)
 rintro m st q ⟨k,i,h,L,rfl,hk,⟨hi,bR⟩,hL,rfl⟩ hq
 by_cases c1:(k:Int)<L.length
 ·obtain⟨f,i,h,e1,hi,bR⟩:=OT hB hl h hi bR 8 (by omega) (by omega)
  have e2:=D2 (l:=L) (n:=(k:Int)) (x:=!f) (by omega) c1
  simp(disch:=omega) only[↓pq,↓pj,ps,pz,↓reduceIte,ah,ai,aj,ak,aq,au,av,aw,ax,tW,xj,xj,c1,e1,e2]
  exact hq (x.cX.length-(k+1)) _ (by omega) ⟨k+1,i,h,_,by rw[wo],by omega,⟨hi,bR⟩,by simpa using hL,rfl⟩
 ·simp(disch:=omega) only[↓pq,↓pj,ps,pz,↓reduceIte,ah,ai,aj,ak,aq,au,av,aw,ax,tW,xj,xj,c1]
  exact ade hB hl hx h hi bR
def f_(a b:aN):Bool:=a.aL==b.aL&&a.to==b.to
def ga(l:List aN)(x:aN):Int:=eg (λy:aN=>y.aL==x.aL&&y.to==x.to) l
def wQ(r:bP):aN:=⟨r.aL,r.to,r.ae⟩
def qA(c:List aN)(r:bP):List aN:=if ga c (wQ r)<0 then c++[wQ r]else c
def uQ(rs:List bP):List aN:=rs.foldl qA []
def qB(b:List aN)(c:List dP)(x:aN):List dP:=if ga b x<0 then c++[⟨true,⟨x.aL,x.to,[]⟩⟩]else c
def mH(a:List aN)(x:aN):Bool:=decide (ga a x<0)|| !sG (gt a (ga a x)).ae x.ae
def jR(a:List aN)(c:List dP)(x:aN):List dP:=if mH a x=true then c++[⟨false,x⟩]else c
def sP(a b:List aN):List dP:=b.foldl (jR a) (a.foldl (qB b) [])
def pu(l:List aN)(x:aN):List aN:=l.filter λy=>!(y.aL==x.aL&&y.to==x.to)
def pw(c:List aN)(t:dP):List aN:=if t.gone=true then pu c t.line else if ga c t.line<0 then c++[t.line]else c.set (ga c t.line).toNat t.line
def sQ(a:List aN)(l:List dP):List aN:=l.foldl pw a
def m9(l:List aN):Prop:=l.Pairwise λx y=>f_ y x=false
theorem cZ{a b:aN}:f_ a b=true↔a.aL=b.aL∧a.to=b.to:=by unfold f_;simp
theorem EL{a b:aN}:f_ a b=f_ b a:=by
 rw[Bool.eq_iff_iff,cZ,cZ]
 constructor<;>(rintro⟨h,h'⟩;exact⟨h.symm,h'.symm⟩)
theorem M8{a b c:aN}(h:f_ a b=true)(h':f_ b c=true):f_ a c=true:=by
 rw[cZ]at *;exact⟨h.1.trans h'.1,h.2.trans h'.2⟩
theorem M9{x y:aN}(h:f_ x y=true)(h':x.ae=y.ae):x=y:=by
 rw[cZ]at h
 obtain⟨a,b,c⟩:=x
 obtain⟨a',b',c'⟩:=y
 simp only at h h'
 rw[h.1,h.2,h']
theorem nV{l:List aN}{x:aN}:ga l x<0↔∀y∈l,f_ y x=false:=AH _ _
theorem xp{l:List aN}{x:aN}(h:¬ga l x<0):ga l x<l.length∧gt l (ga l x)∈l∧f_ (gt l (ga l x)) x=true:=by
 have h1:ga l x<l.length:=tS _ _
 have h2:0<=ga l x:=by omega
 exact⟨h1,h_ h2 h1,zi _ _ h2⟩
theorem A2{l:List aN}{x y:aN}(h:y∈l)(hk:f_ y x=true):¬ga l x<0:=λh0=>by
 have:=nV.1 h0 y h
 rw[hk]at this;cases this
theorem zW{l:List aN}(hu:m9 l){x y:aN}(hx:x∈l)(hy:y∈l)(hk:f_ x y=true):x=y:=by
 induction l with
 |nil=>cases hx
 |cons a l ih=>
  obtain⟨h1,h2⟩:=List.pairwise_cons.1 hu
  rcases List.mem_cons.1 hx with e|hx'
  ·rcases List.mem_cons.1 hy with e'|hy'
   ·rw[e,e']
   ·have:=h1 y hy';rw[<-e,EL,hk]at this;cases this
  ·rcases List.mem_cons.1 hy with e'|hy'
   ·have:=h1 x hx';rw[<-e',hk]at this;cases this
   ·exact ih h2 hx' hy'
theorem M_{l:List aN}(h:m9 l):l.Nodup:=h.imp λhh e=>by
 subst e
 have:∀a:aN,f_ a a=true:=λa=>cZ.2 ⟨rfl,rfl⟩
 rw[this]at hh;cases hh
theorem Na{l:List aN}{x:aN}(h:m9 l)(hx:ga l x<0):m9 (l++[x]):=by
 refine List.pairwise_append.2 ⟨h,List.pairwise_singleton ..,λa ha b hb=>?_⟩
 rw[List.mem_singleton.1 hb,EL]
 exact nV.1 hx a ha
theorem EM{l:List aN}{x:aN}(h:m9 l)(hx:x∈l):gt l (ga l x)=x:=by
 have:=xp (A2 hx (cZ.2 ⟨rfl,rfl⟩))
 exact zW h this.2.1 hx this.2.2
theorem adh(rs:List bP):m9 (uQ rs):=by
 have:∀(rs:List bP) (c:List aN),m9 c->m9 (rs.foldl qA c):=by
  intro rs
  induction rs with
  |nil=>intro c h;exact h
  |cons r rs ih=>
   intro c h
   rw[List.foldl_cons]
   refine ih _ ?_
   unfold qA
   split
   ·rename_i h1;exact Na h h1
   ·exact h
 exact this rs [] .nil
theorem Nb(rs:List bP):∀(c:List aN) (x:aN),x∈rs.foldl qA c->x∈c∨∃r∈rs,x=wQ r:=by
 induction rs with
 |nil=>intro c x h;exact .inl h
 |cons r rs ih=>
  intro c x h
  rw[List.foldl_cons]at h
  rcases ih _ x h with h|⟨r',h1,h2⟩
  ·unfold qA at h
   split at h
   ·rcases List.mem_append.1 h with h|h
    ·exact .inl h
    ·exact .inr ⟨r,.head _,List.mem_singleton.1 h⟩
   ·exact .inl h
  ·exact .inr ⟨r',.tail _ h1,h2⟩
theorem adi(rs:List bP):∀(c:List aN),(rs.foldl qA c).length<=c.length+rs.length:=by
 induction rs with
 |nil=>intro c;simp
 |cons r rs ih=>
  intro c
  have h1:=ih (qA c r)
  have h2:(qA c r).length<=c.length+1:=by unfold qA;split<;>simp
  rw[List.foldl_cons,List.length_cons]
  omega
theorem adj{l:List aN}{x y:aN}:y∈pu l x↔y∈l∧f_ y x=false:=by
 unfold pu f_
 rw[List.mem_filter,Bool.not_eq_true']
theorem zX{l:List aN}{n:Nat}{x y:aN}(h:n<l.length):y∈l.set n x↔y=x∨∃i,∃h:i<l.length,i≠n∧l[i]=y:=by
 constructor
 ·intro hy
  obtain⟨i,hi,e⟩:=List.mem_iff_getElem.1 hy
  rw[List.length_set]at hi
  rw[List.getElem_set]at e
  split at e
  ·exact .inl e.symm
  ·rename_i cP;exact .inr ⟨i,hi,λe'=>cP e'.symm,e⟩
 ·rintro(rfl|⟨i,hi,cP,rfl⟩)
  ·exact List.mem_iff_getElem.2 ⟨n,by simpa using h,by simp⟩
  ·exact List.mem_iff_getElem.2 ⟨i,by simpa using hi,by rw[List.getElem_set,if_neg (λe=>cP e.symm)]⟩
theorem adk{l:List aN}{x:aN}(hu:m9 l):m9 (pw l ⟨false,x⟩)∧x∈pw l ⟨false,x⟩∧(∀y∈l,f_ y x=false->y∈pw l ⟨false,x⟩)∧∀y∈pw l ⟨false,x⟩,y=x∨y∈l:=by
 unfold pw
 simp only[cA,if_false]
 split
 ·rename_i h
  exact⟨Na hu h,by simp,λy hy _=>List.mem_append_left _ hy,λy hy=>by
   rcases List.mem_append.1 hy with hy|hy
   ·exact .inr hy
   ·exact .inl (List.mem_singleton.1 hy)⟩
 ·rename_i h
  obtain⟨h1,h2,h3⟩:=xp h
  obtain⟨n,hn⟩:∃n:Nat,ga l x=n:=⟨(ga l x).toNat,by omega⟩
  rw[hn]at h1 h2 h3⊢
  rw[Int.toNat_natCast]
  have eu:n<l.length:=by omega
  rw[gC eu]at h2 h3
  refine⟨?_,(zX eu).2 (.inl rfl),λy hy hk=>?_,λy hy=>?_⟩
  ·refine List.pairwise_iff_getElem.2 λi j hi hj sJ=>?_
   rw[List.length_set]at hi hj
   have hp:=List.pairwise_iff_getElem.1 hu i j hi hj sJ
   rw[List.getElem_set,List.getElem_set]
   split
   ·rename_i e
    subst e
    split
    ·omega
    ·cases hc:f_ x l[i]with
     |false=>rfl
     |true=>rw[M8 h3 hc]at hp;cases hp
   ·split
    ·rename_i e
     subst e
     cases hc:f_ l[j] x with
     |false=>rfl
     |true=>rw[M8 hc (by rw[EL];exact h3)]at hp;cases hp
    ·exact hp
  ·obtain⟨i,hi,e⟩:=List.mem_iff_getElem.1 hy
   refine(zX eu).2 (.inr ⟨i,hi,λe'=>?_,e⟩)
   subst e'
   rw[e,hk]at h3;cases h3
  ·rcases(zX eu).1 hy with h|⟨i,hi,_,e⟩
   ·exact .inl h
   ·exact .inr (e▸List.getElem_mem hi)
theorem adl{a b:List aN}(ha:m9 a)(hb:m9 b):m9 (sQ a (sP a b))∧∀y,y∈sQ a (sP a b)↔y∈b:=by
 have h1:∀(l:List aN) (c:List dP),sQ a (l.foldl (qB b) c)=(l.filter λx=>decide (ga b x<0)).foldl pu (sQ a c):=by
  intro l
  induction l with
  |nil=>intro c;rfl
  |cons x l ih=>
   intro c
   rw[List.foldl_cons,ih,List.filter_cons]
   unfold qB
   by_cases h:ga b x<0
   ·rw[if_pos h,if_pos (by simpa using h),List.foldl_cons]
    congr 1
    unfold sQ
    rw[List.foldl_append]
    rfl
   ·rw[if_neg h,if_neg (by simpa using h)]
 have h2:∀(l:List aN) (c:List dP),sQ a (l.foldl (jR a) c)=(l.filter λx=>mH a x).foldl (λd x=>pw d ⟨false,x⟩) (sQ a c):=by
  intro l
  induction l with
  |nil=>intro c;rfl
  |cons x l ih=>
   intro c
   rw[List.foldl_cons,ih,List.filter_cons]
   unfold jR
   cases h:mH a x with
   |true=>
    rw[if_pos rfl,if_pos rfl,List.foldl_cons]
    congr 1
    unfold sQ
    rw[List.foldl_append]
    rfl
   |false=>simp
 unfold sP
 rw[h2,h1]
 have h0:sQ a []=a:=rfl
 rw[h0]
 have g:∀(l d:List aN),(m9 d->m9 (l.foldl pu d))∧∀y,y∈l.foldl pu d↔y∈d∧∀x∈l,f_ y x=false:=by
  intro l
  induction l with
  |nil=>intro d;exact⟨λh=>h,λy=>by simp⟩
  |cons x l ih=>
   intro d
   rw[List.foldl_cons]
   obtain⟨i1,i2⟩:=ih (pu d x)
   refine⟨λh=>i1 (List.Pairwise.filter _ h),λy=>?_⟩
   rw[i2,adj]
   simp[and_assoc]
 obtain⟨k1,k2⟩:=g (a.filter λx=>decide (ga b x<0)) a
 generalize hd:(a.filter λx=>decide (ga b x<0)).foldl pu a=d at k1 k2
 have k1:=k1 ha
 have k2:∀y,y∈d↔y∈a∧¬ga b y<0:=by
  intro y
  rw[k2]
  refine⟨λ⟨q1,q2⟩=>⟨q1,λh=>?_⟩,λ⟨q1,q2⟩=>⟨q1,λx hx=>?_⟩⟩
  ·have:=q2 y (List.mem_filter.2 ⟨q1,by simpa using h⟩)
   rw[cZ.2 ⟨rfl,rfl⟩]at this;cases this
  ·obtain⟨Cf,BZ⟩:=List.mem_filter.1 hx
   cases hk:f_ y x with
   |false=>rfl
   |true=>
    have:=zW ha q1 Cf hk
    subst this
    exact absurd (by simpa using BZ) q2
 have p:∀(l d:List aN),m9 d->(∀y∈d,¬ga b y<0)->(∀y∈l,y∈b)->
   m9 (l.foldl (λd x=>pw d ⟨false,x⟩) d)∧(∀y∈l.foldl (λd x=>pw d ⟨false,x⟩) d,¬ga b y<0)∧(∀y∈b,y∈d->y∈l.foldl (λd x=>pw d ⟨false,x⟩) d)∧∀y∈l,y∈l.foldl (λd x=>pw d ⟨false,x⟩) d:=by
  intro l
  induction l with
  |nil=>intro d q1 q2 _;exact⟨q1,q2,λy _ h=>h,λy h=>by cases h⟩
  |cons x l ih=>
   intro d q1 q2 q3
   obtain⟨r1,r2,r3,r4⟩:=adk (x:=x) q1
   have JC:=q3 x (.head _)
   obtain⟨s1,s2,s3,s4⟩:=ih (pw d ⟨false,x⟩) r1 (λy hy=>by
    rcases r4 y hy with rfl|hy
    ·exact A2 JC (cZ.2 ⟨rfl,rfl⟩)
    ·exact q2 y hy) λy hy=>q3 y (.tail _ hy)
   rw[List.foldl_cons]
   refine⟨s1,s2,λy hy hd=>s3 y hy ?_,λy hy=>?_⟩
   ·cases hk:f_ y x with
    |false=>exact r3 y hd hk
    |true=>rw[zW hb hy JC hk];exact r2
   ·rcases List.mem_cons.1 hy with rfl|hy
    ·exact s3 y JC r2
    ·exact s4 y hy
 obtain⟨p1,p2,p3,p4⟩:=p (b.filter λx=>mH a x) d k1 (λy hy=>((k2 y).1 hy).2) λy hy=>(List.mem_filter.1 hy).1
 refine⟨p1,λy=>⟨λhy=>?_,λhy=>?_⟩⟩
 ·obtain⟨_,q1,q2⟩:=xp (p2 y hy)
  have n9:gt b (ga b y)∈(b.filter λx=>mH a x).foldl (λd x=>pw d ⟨false,x⟩) d:=by
   generalize gt b (ga b y)=z at q1
   cases hn:mH a z with
   |true=>exact p4 z (List.mem_filter.2 ⟨q1,hn⟩)
   |false=>
    unfold mH at hn
    simp only[Bool.or_eq_false_iff,decide_eq_false_iff_not,Bool.not_eq_false']at hn
    obtain⟨_,f1,f2⟩:=xp hn.1
    have:=M9 f2 (gq.1 hn.2)
    rw[this]at f1
    exact p3 z q1 ((k2 z).2 ⟨f1,A2 q1 (cZ.2 ⟨rfl,rfl⟩)⟩)
  rw[<-zW p1 n9 hy q2]
  exact q1
 ·cases hn:mH a y with
  |true=>exact p4 y (List.mem_filter.2 ⟨hy,hn⟩)
  |false=>
   unfold mH at hn
   simp only[Bool.or_eq_false_iff,decide_eq_false_iff_not,Bool.not_eq_false']at hn
   obtain⟨_,f1,f2⟩:=xp hn.1
   have:=M9 f2 (gq.1 hn.2)
   rw[this]at f1
   exact p3 y hy ((k2 y).2 ⟨f1,A2 hy (cZ.2 ⟨rfl,rfl⟩)⟩)
theorem Nc{a b:List aN}(ha:m9 a)(hb:m9 b)(h:∀y,y∈a↔y∈b):a.Perm b:=(List.perm_ext_iff_of_nodup (M_ ha) (M_ hb)).2 h
theorem adn{a:List aN}(ha:m9 a):sP a a=[]:=by
 have h1:∀(l:List aN),(∀x∈l,x∈a)->l.foldl (qB a) []=[]:=by
  intro l
  induction l with
  |nil=>intro _;rfl
  |cons x l ih=>
   intro h
   rw[List.foldl_cons]
   unfold qB
   rw[if_neg (A2 (h x (.head _)) (cZ.2 ⟨rfl,rfl⟩))]
   exact ih λy hy=>h y (.tail _ hy)
 have h2:∀(l:List aN),(∀x∈l,x∈a)->l.foldl (jR a) []=[]:=by
  intro l
  induction l with
  |nil=>intro _;rfl
  |cons x l ih=>
   intro h
   rw[List.foldl_cons]
   have hx:=h x (.head _)
   have hn:mH a x=false:=by
    unfold mH
    rw[EM ha hx,gq.2 rfl]
    simp[A2 hx (cZ.2 ⟨rfl,rfl⟩)]
   unfold jR
   rw[hn,if_neg (by decide)]
   exact ih λy hy=>h y (.tail _ hy)
 unfold sP
 rw[h1 a λx h=>h,h2 a λx h=>h]
theorem zY(a b:Bool):Prim.ev (.bb .eql) [bb a,bb b]=some (bb (a==b)):=by cases a<;>cases b<;>rfl
theorem ado(a b:Bool):Prim.ev (.bb .neq) [bb a,bb b]=some (bb (!(a==b))):=by cases a<;>cases b<;>rfl
theorem OU(l:List aN)(th:Bool)(to:Int)(hs:List Int)(u:T)(h:l.length<=1048576):uC [.l (l.map ef),bb th,ii to,u]=some [ii (ga l ⟨th,to,hs⟩)]:=by
 rw[aaz];simp(disch:=omega) only[↓pq,↓pj,ps,pz,↓reduceIte,ah,ai,aj,ak,aq,au,av,aw,ax,Gm,DR]
 refine(Fv l (λi=>[ii 0,ii i]) (λx=>x.aL==th&&x.to==to) (λj=>some [ii j]) (lL:=some [ii (-1)]) rfl (et h) ?_ ?_).trans (DX _ _)
 ·intro i hi q
  have he:=zY (gt l (i:Int)).aL th
  cases hc:(gt l (i:Int)).aL==th with
  |true=>
   rw[hc]at he
   by_cases h2:(gt l (i:Int)).to=to
   ·simp(disch:=omega) only[↓pq,↓pj,ps,pz,↓reduceIte,ah,ai,aj,ak,aq,au,av,aw,ax,Gm,hi,he,h2]
    simp
   ·simp(disch:=omega) only[↓pq,↓pj,ps,pz,↓reduceIte,ah,ai,aj,ak,aq,au,av,aw,ax,Gm,hi,he,h2]
    simp[h2]
  |false=>
   rw[hc]at he
   simp(disch:=omega) only[↓pq,↓pj,ps,pz,↓reduceIte,ah,ai,aj,ak,aq,au,av,aw,ax,Gm,hi,he,cA]
   simp
 ·intro q
  simp(disch:=omega) only[↓pq,↓pj,ps,pz,↓reduceIte,ah,ai,aj,ak,aq,au,av,aw,ax,Gm,]
theorem Nd(l:List aN)(th:Bool)(to:Int)(hs:List Int)(u:T)(h:l.length<=1048576):rH [.l (l.map ef),bb th,ii to,u]=some [ii (ga l ⟨th,to,hs⟩)]:=by
 rw[aak];simp(disch:=omega) only[↓pq,↓pj,ps,pz,↓reduceIte,ah,ai,aj,ak,aq,au,av,aw,ax,Gl,DO]
 refine(Fv l (λi=>[ii 0,ii i]) (λx=>x.aL==th&&x.to==to) (λj=>some [ii j]) (lL:=some [ii (-1)]) rfl (et h) ?_ ?_).trans (DX _ _)
 ·intro i hi q
  have he:=zY (gt l (i:Int)).aL th
  cases hc:(gt l (i:Int)).aL==th with
  |true=>
   rw[hc]at he
   by_cases h2:(gt l (i:Int)).to=to
   ·simp(disch:=omega) only[↓pq,↓pj,ps,pz,↓reduceIte,ah,ai,aj,ak,aq,au,av,aw,ax,Gl,hi,he,h2]
    simp
   ·simp(disch:=omega) only[↓pq,↓pj,ps,pz,↓reduceIte,ah,ai,aj,ak,aq,au,av,aw,ax,Gl,hi,he,h2]
    simp[h2]
  |false=>
   rw[hc]at he
   simp(disch:=omega) only[↓pq,↓pj,ps,pz,↓reduceIte,ah,ai,aj,ak,aq,au,av,aw,ax,Gl,hi,he,cA]
   simp
 ·intro q
  simp(disch:=omega) only[↓pq,↓pj,ps,pz,↓reduceIte,ah,ai,aj,ak,aq,au,av,aw,ax,Gl,]
theorem OV(b:Bool)(n:Int)(l:List Int)(h:l.length<=1048576):uD [bb b,ii n,.l (l.map aA)]=some [bb b,ii n,.l (l.map aA)]:=by
 rw[aaI];simp(disch:=omega) only[↓pq,↓pj,ps,pz,↓reduceIte,ah,ai,aj,ak,aq,au,av,aw,ax,jC_,abo _ h]
theorem kF_(b:Bool)(n:Int)(l:List Int)(h:l.length<=1048576):uB [bb b,ii n,.l (l.map aA)]=some [bb b,ii n,.l (l.map aA)]:=by
 have h1:Prim.ev (.lit 1 []) []=some (.l []):=rfl
 rw[aan];simp(disch:=omega) only[↓pq,↓pj,ps,pz,↓reduceIte,ah,ai,aj,ak,aq,au,av,aw,ax,kM_,h1]
theorem Nf(c:List aN)(r:bP):(qA c r).length<=c.length+1:=by unfold qA;split<;>simp
theorem adq(R:List bP)(h:R.length<=1048576)(hh:∀r∈R,r.ae.length<=1048576):F8 [.l (R.map gE)]=some [.l ((uQ R).map ef)]:=by
 rw[aa3];simp(disch:=omega) only[↓pq,↓pj,ps,pz,↓reduceIte,ah,ai,aj,ak,aq,au,av,aw,ax,LO,kV_]
 refine jz R (λi c=>[.l (c.map ef),ii i]) qA (λc=>some [T.l (c.map ef)]) [] (λi c=>c.length<=i) rfl (et h) (by simp) ?_ ?_
 ·intro i c hi hc
  refine⟨by have:=Nf c (gt R i);omega,λq=>?_⟩
  have hm:=h_ (l:=R) (n:=(i:Int)) (by omega) hi
  have e1:=OU c (gt R (i:Int)).aL (gt R (i:Int)).to (gt R (i:Int)).ae (.l ((gt R (i:Int)).ae.map aA)) (by omega)
  have e2:=OV (gt R (i:Int)).aL (gt R (i:Int)).to (gt R (i:Int)).ae (hh _ hm)
  by_cases c1:ga c (wQ (gt R (i:Int)))<0
  ·rw[show qA c (gt R (i:Int))=c++[wQ (gt R (i:Int))] from if_pos c1]
   unfold wQ at c1
   simp(disch:=omega) only[↓pq,↓pj,ps,pz,↓reduceIte,ah,ai,aj,ak,aq,au,av,aw,ax,LO,hi,e1,c1,e2]
   rfl
  ·rw[show qA c (gt R (i:Int))=c from if_neg c1]
   unfold wQ at c1
   simp(disch:=omega) only[↓pq,↓pj,ps,pz,↓reduceIte,ah,ai,aj,ak,aq,au,av,aw,ax,LO,hi,e1,c1]
 ·intro c q hc
  simp(disch:=omega) only[↓pq,↓pj,ps,pz,↓reduceIte,ah,ai,aj,ak,aq,au,av,aw,ax,LO,]
theorem kR_(R:List bP)(h:R.length<=1048576)(hh:∀r∈R,r.ae.length<=1048576):zt [.l (R.map gE)]=some [.l ((uQ R).map ef)]:=by
 have h1:Prim.ev (.lit 3 []) []=some (.l []):=rfl
 rw[aaq];simp(disch:=omega) only[↓pq,↓pj,ps,pz,↓reduceIte,ah,ai,aj,ak,aq,au,av,aw,ax,LK,kH_,h1]
 refine jz R (λi c=>[.l (c.map ef),ii i]) qA (λc=>some [T.l (c.map ef)]) [] (λi c=>c.length<=i) rfl (et h) (by simp) ?_ ?_
 ·intro i c hi hc
  refine⟨by have:=Nf c (gt R i);omega,λq=>?_⟩
  have hm:=h_ (l:=R) (n:=(i:Int)) (by omega) hi
  have e1:=Nd c (gt R (i:Int)).aL (gt R (i:Int)).to (gt R (i:Int)).ae (.l ((gt R (i:Int)).ae.map aA)) (by omega)
  have e2:=kF_ (gt R (i:Int)).aL (gt R (i:Int)).to (gt R (i:Int)).ae (hh _ hm)
  by_cases c1:ga c (wQ (gt R (i:Int)))<0
  ·rw[show qA c (gt R (i:Int))=c++[wQ (gt R (i:Int))] from if_pos c1]
   unfold wQ at c1
   simp(disch:=omega) only[↓pq,↓pj,ps,pz,↓reduceIte,ah,ai,aj,ak,aq,au,av,aw,ax,LK,hi,e1,c1,e2]
   rfl
  ·rw[show qA c (gt R (i:Int))=c from if_neg c1]
   unfold wQ at c1
   simp(disch:=omega) only[↓pq,↓pj,ps,pz,↓reduceIte,ah,ai,aj,ak,aq,au,av,aw,ax,LK,hi,e1,c1]
 ·intro c q hc
  simp(disch:=omega) only[↓pq,↓pj,ps,pz,↓reduceIte,ah,ai,aj,ak,aq,au,av,aw,ax,LK,]
theorem EN(b:List aN)(c:List dP)(x:aN):(qB b c x).length<=c.length+1:=by unfold qB;split<;>simp
theorem EO(a:List aN)(c:List dP)(x:aN):(jR a c x).length<=c.length+1:=by unfold jR;split<;>simp
theorem Ng(a b:List aN)(ha:a.length<=1000)(hb:b.length<=1000)(h1:∀x∈a,x.ae.length<=1000)(h2:∀x∈b,x.ae.length<=1000):F2 [.l (a.map ef),.l (b.map ef)]=some [.l ((sP a b).map iW)]:=by
 rw[aaK];simp(disch:=omega) only[↓pq,↓pj,ps,pz,↓reduceIte,ah,ai,aj,ak,aq,au,av,aw,ax,zw,zx,DS]
 refine jz a (λi c=>[.l (c.map iW),ii i]) (qB b) (λc=>some [T.l ((b.foldl (jR a) c).map iW)]) [] (λi c=>c.length<=i) rfl (et (by omega)) (by simp) ?_ ?_
 ·intro i c hi hc
  refine⟨by have:=EN b c (gt a i);omega,λq=>?_⟩
  have e1:=OU b (gt a (i:Int)).aL (gt a (i:Int)).to (gt a (i:Int)).ae (.l ((gt a (i:Int)).ae.map aA)) (by omega)
  have el:=Di true (gt a (i:Int)).aL (gt a (i:Int)).to []
  rw[List.map_nil]at el
  by_cases c1:ga b (gt a (i:Int))<0
  ·rw[show qB b c (gt a (i:Int))=c++[⟨true,⟨(gt a (i:Int)).aL,(gt a (i:Int)).to,[]⟩⟩] from if_pos c1]
   simp(disch:=omega) only[↓pq,↓pj,ps,pz,↓reduceIte,ah,ai,aj,ak,aq,au,av,aw,ax,zw,zx,hi,e1,eq_true c1,el]
  ·rw[show qB b c (gt a (i:Int))=c from if_neg c1]
   simp(disch:=omega) only[↓pq,↓pj,ps,pz,↓reduceIte,ah,ai,aj,ak,aq,au,av,aw,ax,zw,zx,hi,e1,c1]
 ·intro c q hc
  simp(disch:=omega) only[↓pq,↓pj,ps,pz,↓reduceIte,ah,ai,aj,ak,aq,au,av,aw,ax,zw,zx,]
  refine jz b (λi d=>[.l (d.map iW),ii i]) (jR a) (λd=>some [T.l (d.map iW)]) c (λi d=>d.length<=c.length+i) rfl (et (by omega)) (by simp) ?_ ?_
  ·intro i d hi hd
   refine⟨by have:=EO a d (gt b i);omega,λq2=>?_⟩
   have hm:=h_ (l:=b) (n:=(i:Int)) (by omega) hi
   have e1:=OU a (gt b (i:Int)).aL (gt b (i:Int)).to (gt b (i:Int)).ae (.l ((gt b (i:Int)).ae.map aA)) (by omega)
   have e2:=OV (gt b (i:Int)).aL (gt b (i:Int)).to (gt b (i:Int)).ae (by have:=h2 _ hm;omega)
   rw[show(⟨(gt b (i:Int)).aL,(gt b (i:Int)).to,(gt b (i:Int)).ae⟩:aN)=gt b (i:Int) from rfl]at e1
   unfold jR mH
   by_cases c1:ga a (gt b (i:Int))<0
   ·simp(disch:=omega) only[↓pq,↓pj,ps,pz,↓reduceIte,ah,ai,aj,ak,aq,au,av,aw,ax,zw,zx,hi,e1,c1,e2]
    try simp
   ·have c2:0<=ga a (gt b (i:Int)):=by omega
    obtain⟨c3,c4,_⟩:=xp c1
    have e3:=jT_ (gt a (ga a (gt b (i:Int)))).ae (gt b (i:Int)).ae (by have:=h1 _ c4;omega)
    cases c5:sG (gt a (ga a (gt b (i:Int)))).ae (gt b (i:Int)).ae with
    |true=>rw[c5]at e3;simp(disch:=omega) only[↓pq,↓pj,ps,pz,↓reduceIte,ah,ai,aj,ak,aq,au,av,aw,ax,zw,zx,hi,e1,c1,c2,c3,e3];try simp
    |false=>rw[c5]at e3;simp(disch:=omega) only[↓pq,↓pj,ps,pz,↓reduceIte,ah,ai,aj,ak,aq,au,av,aw,ax,zw,zx,hi,e1,c1,c2,c3,e3,e2,cA];try simp
  ·intro d q2 hd
   simp(disch:=omega) only[↓pq,↓pj,ps,pz,↓reduceIte,ah,ai,aj,ak,aq,au,av,aw,ax,zw,zx,]
theorem ads(a b:List aN)(ha:a.length<=1000)(hb:b.length<=1000)(h1:∀x∈a,x.ae.length<=1000)(h2:∀x∈b,x.ae.length<=1000):F9 [.l (a.map ef),.l (b.map ef)]=some [.l ((sP a b).map iW)]:=by
 have h0:Prim.ev (.lit 4 []) []=some (.l []):=rfl
 rw[aa5];simp(disch:=omega) only[↓pq,↓pj,ps,pz,↓reduceIte,ah,ai,aj,ak,aq,au,av,aw,ax,zy,zA,DV,h0]
 refine jz a (λi c=>[.l (c.map iW),ii i]) (qB b) (λc=>some [T.l ((b.foldl (jR a) c).map iW)]) [] (λi c=>c.length<=i) rfl (et (by omega)) (by simp) ?_ ?_
 ·intro i c hi hc
  refine⟨by have:=EN b c (gt a i);omega,λq=>?_⟩
  have e1:=Nd b (gt a (i:Int)).aL (gt a (i:Int)).to (gt a (i:Int)).ae (.l ((gt a (i:Int)).ae.map aA)) (by omega)
  have el:=Di true (gt a (i:Int)).aL (gt a (i:Int)).to []
  rw[List.map_nil]at el
  by_cases c1:ga b (gt a (i:Int))<0
  ·rw[show qB b c (gt a (i:Int))=c++[⟨true,⟨(gt a (i:Int)).aL,(gt a (i:Int)).to,[]⟩⟩] from if_pos c1]
   simp(disch:=omega) only[↓pq,↓pj,ps,pz,↓reduceIte,ah,ai,aj,ak,aq,au,av,aw,ax,zy,zA,hi,e1,eq_true c1,el]
  ·rw[show qB b c (gt a (i:Int))=c from if_neg c1]
   simp(disch:=omega) only[↓pq,↓pj,ps,pz,↓reduceIte,ah,ai,aj,ak,aq,au,av,aw,ax,zy,zA,hi,e1,c1]
 ·intro c q hc
  simp(disch:=omega) only[↓pq,↓pj,ps,pz,↓reduceIte,ah,ai,aj,ak,aq,au,av,aw,ax,zy,zA,]
  refine jz b (λi d=>[.l (d.map iW),ii i]) (jR a) (λd=>some [T.l (d.map iW)]) c (λi d=>d.length<=c.length+i) rfl (et (by omega)) (by simp) ?_ ?_
  ·intro i d hi hd
   refine⟨by have:=EO a d (gt b i);omega,λq2=>?_⟩
   have hm:=h_ (l:=b) (n:=(i:Int)) (by omega) hi
   have e1:=Nd a (gt b (i:Int)).aL (gt b (i:Int)).to (gt b (i:Int)).ae (.l ((gt b (i:Int)).ae.map aA)) (by omega)
   have e2:=kF_ (gt b (i:Int)).aL (gt b (i:Int)).to (gt b (i:Int)).ae (by have:=h2 _ hm;omega)
   rw[show(⟨(gt b (i:Int)).aL,(gt b (i:Int)).to,(gt b (i:Int)).ae⟩:aN)=gt b (i:Int) from rfl]at e1
   unfold jR mH
   by_cases c1:ga a (gt b (i:Int))<0
   ·simp(disch:=omega) only[↓pq,↓pj,ps,pz,↓reduceIte,ah,ai,aj,ak,aq,au,av,aw,ax,zy,zA,hi,e1,c1,e2]
    try simp
   ·have c2:0<=ga a (gt b (i:Int)):=by omega
    obtain⟨c3,c4,_⟩:=xp c1
    have e3:=qh_ (gt a (ga a (gt b (i:Int)))).ae (gt b (i:Int)).ae (by have:=h1 _ c4;omega)
    cases c5:sG (gt a (ga a (gt b (i:Int)))).ae (gt b (i:Int)).ae with
    |true=>rw[c5]at e3;simp(disch:=omega) only[↓pq,↓pj,ps,pz,↓reduceIte,ah,ai,aj,ak,aq,au,av,aw,ax,zy,zA,hi,e1,c1,c2,c3,e3];try simp
    |false=>rw[c5]at e3;simp(disch:=omega) only[↓pq,↓pj,ps,pz,↓reduceIte,ah,ai,aj,ak,aq,au,av,aw,ax,zy,zA,hi,e1,c1,c2,c3,e3,e2,cA];try simp
  ·intro d q2 hd
   simp(disch:=omega) only[↓pq,↓pj,ps,pz,↓reduceIte,ah,ai,aj,ak,aq,au,av,aw,ax,zy,zA,]
theorem adt(c:List aN)(t:dP):(pw c t).length<=c.length+1:=by
 unfold pw
 split
 ·have:(pu c t.line).length<=c.length:=List.length_filter_le _ _
  omega
 ·split<;>simp
theorem adu(a:List aN)(l:List dP)(ha:a.length<=1000)(hl:l.length<=1000)(h1:∀x∈a,x.ae.length<=1000)(h2:∀t∈l,t.line.ae.length<=1000):F3 [.l (a.map ef),.l (l.map iW)]=some [.l ((sQ a l).map ef)]:=by
 rw[aaM];simp(disch:=omega) only[↓pq,↓pj,ps,pz,↓reduceIte,ah,ai,aj,ak,aq,au,av,aw,ax,uI,uJ,uK,DT]
 refine(jz a (λi c=>[.l (c.map ef),ii i]) (λc x=>c++[id x]) (λc=>some [T.l ((l.foldl pw c).map ef)]) [] (λi c=>c.length<=i) rfl (et (by omega)) (by simp) ?_ ?_).trans (show some [T.l ((l.foldl pw (a.foldl (λc x=>c++[id x]) [])).map ef)]=some [T.l ((sQ a l).map ef)] by rw[N_];simp[sQ])
 ·intro i c hi hc
  refine⟨by simp;omega,λq=>?_⟩
  have hm:=h_ (l:=a) (n:=(i:Int)) (by omega) hi
  have e2:=OV (gt a (i:Int)).aL (gt a (i:Int)).to (gt a (i:Int)).ae (by have:=h1 _ hm;omega)
  simp(disch:=omega) only[↓pq,↓pj,ps,pz,↓reduceIte,ah,ai,aj,ak,aq,au,av,aw,ax,uI,uJ,uK,hi,e2]
  rfl
 ·intro c q hc
  simp(disch:=omega) only[↓pq,↓pj,ps,pz,↓reduceIte,ah,ai,aj,ak,aq,au,av,aw,ax,uI,uJ,uK,]
  refine jz l (λi d=>[.l (d.map ef),ii i]) pw (λd=>some [T.l (d.map ef)]) c (λi d=>d.length<=c.length+i) rfl (et (by omega)) (by simp) ?_ ?_
  ·intro i d hi hd
   refine⟨by have:=adt d (gt l i);omega,λq2=>?_⟩
   have hm:=h_ (l:=l) (n:=(i:Int)) (by omega) hi
   have e1:=OU d (gt l (i:Int)).line.aL (gt l (i:Int)).line.to (gt l (i:Int)).line.ae (.l ((gt l (i:Int)).line.ae.map aA)) (by omega)
   have e2:=OV (gt l (i:Int)).line.aL (gt l (i:Int)).line.to (gt l (i:Int)).line.ae (by have:=h2 _ hm;omega)
   rw[show(⟨(gt l (i:Int)).line.aL,(gt l (i:Int)).line.to,(gt l (i:Int)).line.ae⟩:aN)=(gt l (i:Int)).line from rfl]at e1
   unfold pw
   cases c0:(gt l (i:Int)).gone with
   |true=>
    rw[if_pos rfl]
    simp(disch:=omega) only[↓pq,↓pj,ps,pz,↓reduceIte,ah,ai,aj,ak,aq,au,av,aw,ax,uI,uJ,uK,hi,e1,c0]
    refine(jz d (λj e=>[.l (e.map ef),ii j]) (λe y=>if(!(y.aL==(gt l (i:Int)).line.aL&&y.to==(gt l (i:Int)).line.to))=true then e++[y]else e) (λe=>q2 [.l (e.map ef),ii ((i:Int)+1)]) [] (λj e=>e.length<=j) rfl (et (by omega)) (by simp) ?_ ?_).trans (by rw[AJ];rfl)
    ·intro j e hj he
     refine⟨by split<;>(try simp only[List.length_append,List.length_cons,List.length_nil])<;>omega,λq3=>?_⟩
     have hn:=ado (gt d (j:Int)).aL (gt l (i:Int)).line.aL
     cases c1:(gt d (j:Int)).aL==(gt l (i:Int)).line.aL with
     |false=>
      rw[c1]at hn
      simp(disch:=omega) only[↓pq,↓pj,ps,pz,↓reduceIte,ah,ai,aj,ak,aq,au,av,aw,ax,uI,uJ,uK,hj,hn]
      simp
     |true=>
      rw[c1]at hn
      by_cases c2:(gt d (j:Int)).to=(gt l (i:Int)).line.to
      ·simp(disch:=omega) only[↓pq,↓pj,ps,pz,↓reduceIte,ah,ai,aj,ak,aq,au,av,aw,ax,uI,uJ,uK,hj,hn,c2,cA]
       simp[c2]
      ·simp(disch:=omega) only[↓pq,↓pj,ps,pz,↓reduceIte,ah,ai,aj,ak,aq,au,av,aw,ax,uI,uJ,uK,hj,hn,c2,cA]
       simp[c2]
    ·intro e q3 he
     simp(disch:=omega) only[↓pq,↓pj,ps,pz,↓reduceIte,ah,ai,aj,ak,aq,au,av,aw,ax,uI,uJ,uK,]
   |false=>
    rw[if_neg (by simp)]
    by_cases c1:ga d (gt l (i:Int)).line<0
    ·rw[if_pos c1]
     have c2:¬ga d (gt l (i:Int)).line>=0:=by omega
     simp(disch:=omega) only[↓pq,↓pj,ps,pz,↓reduceIte,ah,ai,aj,ak,aq,au,av,aw,ax,uI,uJ,uK,hi,e1,c0,c2,e2,cA]
    ·rw[if_neg c1]
     have c2:0<=ga d (gt l (i:Int)).line:=by omega
     obtain⟨c3,_,_⟩:=xp c1
     have p1:=Gq (enc:=ef) (sc:=false) (w:=3) (off:=0) (m:=3) (l:=d) (n:=ga d (gt l (i:Int)).line) (vs:=[bb (gt l (i:Int)).line.aL,ii (gt l (i:Int)).line.to,.l ((gt l (i:Int)).line.ae.map aA)]) (x:=(gt l (i:Int)).line) c2 c3 (λ_=>rfl) (by decide) rfl rfl rfl
     have hb:=Fq (enc:=ef) c2 c3
     simp(disch:=omega) only[↓pq,↓pj,ps,pz,↓reduceIte,ah,ai,aj,ak,aq,au,av,aw,ax,uI,uJ,uK,hi,e1,c0,c2,e2,hb,p1,cA]
  ·intro d q2 hd
   simp(disch:=omega) only[↓pq,↓pj,ps,pz,↓reduceIte,ah,ai,aj,ak,aq,au,av,aw,ax,uI,uJ,uK,]
theorem adv(a:List aN)(ha:a.length<=1000)(h1:∀x∈a,x.ae.length<=1000):FY [.l (a.map ef),.l []]=some [.l (a.map ef)]:=by
 have h0:Prim.ev (.lit 3 []) []=some (.l []):=rfl
 rw[aas];simp(disch:=omega) only[↓pq,↓pj,ps,pz,↓reduceIte,ah,ai,aj,ak,aq,au,av,aw,ax,LL,LM,DP,h0]
 refine(jz a (λi c=>[.l (c.map ef),ii i]) (λc x=>c++[id x]) (λc=>some [T.l (c.map ef)]) [] (λi c=>c.length<=i) rfl (et (by omega)) (by simp) ?_ ?_).trans (show some [T.l ((a.foldl (λc x=>c++[id x]) []).map ef)]=some [T.l (a.map ef)] by rw[N_];simp)
 ·intro i c hi hc
  refine⟨by simp;omega,λq=>?_⟩
  have hm:=h_ (l:=a) (n:=(i:Int)) (by omega) hi
  have e2:=kF_ (gt a (i:Int)).aL (gt a (i:Int)).to (gt a (i:Int)).ae (by have:=h1 _ hm;omega)
  simp(disch:=omega) only[↓pq,↓pj,ps,pz,↓reduceIte,ah,ai,aj,ak,aq,au,av,aw,ax,LL,LM,hi,e2]
  rfl
 ·intro c q hc
  simp(disch:=omega) only[↓pq,↓pj,ps,pz,↓reduceIte,ah,ai,aj,ak,aq,au,av,aw,ax,LL,LM,]
  refine OH (λi=>[.l (c.map ef),ii (i:Int)]) 0 rfl (et (by omega)) (λi hi=>by omega) ?_
  intro q2
  have hn:Prim.ev .len [.l []]=some (ii 0):=rfl
  simp(disch:=omega) only[↓pq,↓pj,ps,pz,↓reduceIte,ah,ai,aj,ak,aq,au,av,aw,ax,LL,LM,hn]
def rY(x y:aN):Bool:=x.aL==y.aL&&(x.to==y.to&&sG x.ae y.ae)
theorem Nh(p:aN->Bool):∀(l:List aN) (c:Int),l.foldl (λn y=>if p y=true then n+1 else n) c=c+(l.countP p:Int)
 | [],c=>by simp
 |a::l,c=>by
  rw[List.foldl_cons,Nh p l,List.countP_cons]
  split<;>simp<;>omega
theorem Ni(p:aN->Bool):∀(l:List aN) (c:Int),l.foldl (λn y=>if p y=true then n-1 else n) c=c-(l.countP p:Int)
 | [],c=>by simp
 |a::l,c=>by
  rw[List.foldl_cons,Ni p l,List.countP_cons]
  split<;>simp<;>omega
theorem Nj(a b:List aN)(hp:a.Perm b)(ha:a.length<=1000)(h1:∀x∈a,x.ae.length<=1000):F5 [.l (a.map ef),.l (b.map ef)]=some [bb true]:=by
 have hl:=hp.length_eq
 have hw:F4 [.l (a.map ef),.l (b.map ef)]=some [bb true]:=by
  rw[aaO];simp(disch:=omega) only[↓pq,↓pj,ps,pz,↓reduceIte,ah,ai,aj,ak,aq,au,av,aw,ax,qv,qS,qT,DU]
  refine OH (λi=>[bb false,ii (i:Int)]) a.length rfl (et (by omega)) ?_ ?_
  ·intro i hi q
   have hm:=h_ (l:=a) (n:=(i:Int)) (by omega) hi
   have hh:=h1 _ hm
   simp(disch:=omega) only[↓pq,↓pj,ps,pz,↓reduceIte,ah,ai,aj,ak,aq,au,av,aw,ax,qv,qS,qT,hi]
   generalize hx:gt a (i:Int)=x at*
   refine(jz a (λj n=>[ii n,ii j]) (λn y=>if rY x y=true then n+1 else n) (λn=>(iter (qv xi (.l (b.map ef)) (bb false) (ii (i:Int)) (bb x.aL) (ii x.to) (.l (x.ae.map aA)) (ii (b.length:Int)) q) rounds [ii n,ii 0])) 0 (λj n=>0<=n∧n<=j) rfl (et (by omega)) (by simp) ?_ ?_).trans ?_
   ·intro j n hj hn
    refine⟨by split<;>omega,λq2=>?_⟩
    have he:=zY x.aL (gt a (j:Int)).aL
    have e3:=jT_ x.ae (gt a (j:Int)).ae (by omega)
    unfold rY
    cases c1:x.aL==(gt a (j:Int)).aL with
    |false=>rw[c1]at he;simp(disch:=omega) only[↓pq,↓pj,ps,pz,↓reduceIte,ah,ai,aj,ak,aq,au,av,aw,ax,qv,qS,qT,hj,he,cA];simp
    |true=>
     rw[c1]at he
     by_cases c2:x.to=(gt a (j:Int)).to
     ·cases c3:sG x.ae (gt a (j:Int)).ae with
      |true=>rw[c3]at e3;simp(disch:=omega) only[↓pq,↓pj,ps,pz,↓reduceIte,ah,ai,aj,ak,aq,au,av,aw,ax,qv,qS,qT,hj,he,c2,e3];simp[c2]
      |false=>rw[c3]at e3;simp(disch:=omega) only[↓pq,↓pj,ps,pz,↓reduceIte,ah,ai,aj,ak,aq,au,av,aw,ax,qv,qS,qT,hj,he,c2,e3,cA];simp[c2]
     ·simp(disch:=omega) only[↓pq,↓pj,ps,pz,↓reduceIte,ah,ai,aj,ak,aq,au,av,aw,ax,qv,qS,qT,hj,he,c2];simp[c2]
   ·intro n q2 hn
    simp(disch:=omega) only[↓pq,↓pj,ps,pz,↓reduceIte,ah,ai,aj,ak,aq,au,av,aw,ax,qv,qS,qT,]
   ·rw[Nh,Int.zero_add]
    have hc:a.countP (rY x)<=a.length:=List.countP_le_length
    have hpe:=hp.countP_eq (rY x)
    generalize a.countP (rY x)=m at hc hpe⊢
    refine(jz b (λj n=>[ii n,ii j]) (λn y=>if rY x y=true then n-1 else n) (λn=>if n=0 then q [bb false,ii ((i:Int)+1)]else some [bb false]) (m:Int) (λj n=>(m:Int)-j<=n∧n<=m) rfl (et (by omega)) (by simp) ?_ ?_).trans ?_
    ·intro j n hj hn
     refine⟨by split<;>omega,λq2=>?_⟩
     have he:=zY x.aL (gt b (j:Int)).aL
     have e3:=jT_ x.ae (gt b (j:Int)).ae (by omega)
     unfold rY
     cases c1:x.aL==(gt b (j:Int)).aL with
     |false=>rw[c1]at he;simp(disch:=omega) only[↓pq,↓pj,ps,pz,↓reduceIte,ah,ai,aj,ak,aq,au,av,aw,ax,qv,qS,qT,hj,he,cA];simp
     |true=>
      rw[c1]at he
      by_cases c2:x.to=(gt b (j:Int)).to
      ·cases c3:sG x.ae (gt b (j:Int)).ae with
       |true=>rw[c3]at e3;simp(disch:=omega) only[↓pq,↓pj,ps,pz,↓reduceIte,ah,ai,aj,ak,aq,au,av,aw,ax,qv,qS,qT,hj,he,c2,e3];simp[c2]
       |false=>rw[c3]at e3;simp(disch:=omega) only[↓pq,↓pj,ps,pz,↓reduceIte,ah,ai,aj,ak,aq,au,av,aw,ax,qv,qS,qT,hj,he,c2,e3,cA];simp[c2]
      ·simp(disch:=omega) only[↓pq,↓pj,ps,pz,↓reduceIte,ah,ai,aj,ak,aq,au,av,aw,ax,qv,qS,qT,hj,he,c2];simp[c2]
    ·intro n q2 hn
     by_cases c0:n=0
     ·rw[if_pos c0];simp(disch:=omega) only[↓pq,↓pj,ps,pz,↓reduceIte,ah,ai,aj,ak,aq,au,av,aw,ax,qv,qS,qT,c0]
     ·rw[if_neg c0];simp(disch:=omega) only[↓pq,↓pj,ps,pz,↓reduceIte,ah,ai,aj,ak,aq,au,av,aw,ax,qv,qS,qT,c0]
    ·rw[Ni,<-hpe,if_pos (by omega)]
  ·intro q
   have hz:¬((a.length:Int)<a.length):=by omega
   simp(disch:=omega) only[↓pq,↓pj,ps,pz,↓reduceIte,ah,ai,aj,ak,aq,au,av,aw,ax,qv,qS,qT,hz]
 have he:(a.length:Int)=b.length:=by omega
 rw[aaR]
 simp(disch:=omega) only[↓pq,↓pj,ps,pz,↓reduceIte,ah,ai,aj,ak,aq,au,av,aw,ax,qv,qS,qT,q5_,eq_true he,hw]
theorem Nk(a b:List aN)(ua:m9 a)(ub:m9 b)(hm:∀y,y∈a↔y∈b)(ha:a.length<=1000)(h1:∀x∈a,x.ae.length<=1000):F6 [.l (a.map ef),.l (b.map ef)]=some [bb true]:=by
 have hl:=(Nc ua ub hm).length_eq
 rw[aaX]
 have cP:¬(a.length:Int)≠b.length:=by omega
 have he:(a.length:Int)=b.length:=by omega
 simp(disch:=omega) only[↓pq,↓pj,ps,pz,↓reduceIte,ah,ai,aj,ak,aq,au,av,aw,ax,OD,q6_,eq_true he]
 refine OH (λi=>[bb false,ii (i:Int)]) a.length rfl (et (by omega)) ?_ ?_
 ·intro i hi q
  have Ro:(i:Int)<b.length:=by omega
  have xa:=h_ (l:=a) (n:=(i:Int)) (by omega) hi
  have yb:=h_ (l:=b) (n:=(i:Int)) (by omega) Ro
  have xb:=(hm _).1 xa
  have ya:=(hm _).2 yb
  have e1:=Nd b (gt a (i:Int)).aL (gt a (i:Int)).to (gt a (i:Int)).ae (.l ((gt a (i:Int)).ae.map aA)) (by omega)
  have e2:=Nd a (gt b (i:Int)).aL (gt b (i:Int)).to (gt b (i:Int)).ae (.l ((gt b (i:Int)).ae.map aA)) (by omega)
  rw[show(⟨(gt a (i:Int)).aL,(gt a (i:Int)).to,(gt a (i:Int)).ae⟩:aN)=gt a (i:Int) from rfl]at e1
  rw[show(⟨(gt b (i:Int)).aL,(gt b (i:Int)).to,(gt b (i:Int)).ae⟩:aN)=gt b (i:Int) from rfl]at e2
  have k1:=A2 xb (cZ.2 ⟨rfl,rfl⟩)
  have k2:=A2 ya (cZ.2 ⟨rfl,rfl⟩)
  have s1:=EM ub xb
  have s2:=EM ua ya
  obtain⟨g1,_,_⟩:=xp k1
  obtain⟨g2,_,_⟩:=xp k2
  have k1':0<=ga b (gt a (i:Int)):=by omega
  have k2':0<=ga a (gt b (i:Int)):=by omega
  have f1:=qh_ (gt a (i:Int)).ae (gt b (ga b (gt a (i:Int)))).ae (by have:=h1 _ xa;omega)
  have f2:=qh_ (gt a (ga a (gt b (i:Int)))).ae (gt b (i:Int)).ae (by rw[s2];have:=h1 _ ya;omega)
  rw[s1,gq.2 rfl]at f1
  rw[s2,gq.2 rfl]at f2
  simp(disch:=omega) only[↓pq,↓pj,ps,pz,↓reduceIte,ah,ai,aj,ak,aq,au,av,aw,ax,OD,hi,Ro,e1,e2,k1,k2,k1',k2',g1,g2,s1,s2,f1,f2]
 ·intro q
  have hz:¬((a.length:Int)<a.length):=by omega
  have oP:¬((b.length:Int)<b.length):=by omega
  simp(disch:=omega) only[↓pq,↓pj,ps,pz,↓reduceIte,ah,ai,aj,ak,aq,au,av,aw,ax,OD,hz,<-hl]
structure oH (l:List aN):Prop where
 qC:m9 l
 len:l.length<=22
 ae:∀x∈l,x.ae.length<=7
def EP(o:Option (List T)):Prop:=∃a b:List aN,o=some [.l (a.map ef),.l (b.map ef)]∧oH a∧oH b
theorem zZ{rs:List bP}(h:zU rs):oH (uQ rs):=by
 refine⟨adh rs,?_,λx hx=>?_⟩
 ·have:=adi rs []
  have:=h.2
  unfold uQ
  simp only[List.length_nil]at*
  omega
 ·rcases Nb rs [] x hx with h'|⟨r,hr,rfl⟩
  ·cases h'
  ·have:=(h.1 r hr).2
   show r.ae.length<=7
   omega
theorem Nl{a:List aN}(h:m9 a∧a.length<=22∧∀x∈a,x.ae.length<=6)(hz:(a.length:Int)>0):oH (a.set 0 ⟨(gt a 0).aL,(gt a 0).to,(gt a 0).ae++[6]⟩):=by
 have h0:0<a.length:=by omega
 have hg:gt a 0=a[0]:=gC (i:=0) h0
 refine⟨?_,by rw[List.length_set];exact h.2.1,λx hx=>?_⟩
 ·refine List.pairwise_iff_getElem.2 λi j hi hj sJ=>?_
  rw[List.length_set]at hi hj
  have hp:=List.pairwise_iff_getElem.1 h.1 i j hi hj sJ
  rw[List.getElem_set,List.getElem_set,if_neg (show¬0=j by omega)]
  split
  ·rename_i e
   subst e
   have e:∀z:aN,f_ a[j] ⟨z.aL,z.to,z.ae++[6]⟩=f_ a[j] z:=λ_=>rfl
   rw[e,hg]
   exact hp
  ·exact hp
 ·rcases(zX h0).1 hx with e|⟨i,hi,_,e⟩
  ·rw[e]
   have:=h.2.2 _ (h_ (l:=a) (n:=0) (by omega) hz)
   show((gt a 0).ae++[6]).length<=7
   rw[List.length_append]
   simp only[List.length_cons,List.length_nil]
   omega
  ·have:=h.2.2 x (e▸List.getElem_mem hi)
   omega
theorem adw{rs:List bP}(h:zU rs):m9 (uQ rs)∧(uQ rs).length<=22∧∀x∈uQ rs,x.ae.length<=6:=by
 have t:=zZ h
 refine⟨t.qC,t.len,λx hx=>?_⟩
 rcases Nb rs [] x hx with h'|⟨r,hr,rfl⟩
 ·cases h'
 ·exact(h.1 r hr).2
theorem adx{B:List Int}(hB:∀x∈B,sO x)(hl:B.length<=1048576):EP (F0 [.l (B.map j9)]):=by
 have key:EP (FZ [.l (B.map j9)]):=by
  rw[aau]
  have hn:Prim.ev .len [.l (B.map j9)]=some (ii B.length):=wj
  simp(disch:=omega) only[↓pq,↓pj,ps,pz,↓reduceIte,ah,ai,aj,ak,aq,au,av,aw,ax,xk,DQ,hn]
  refine M1 hB hl (mb:=EP) ?_ ?_ _
  ·intro q h k c1 c2
   obtain⟨m,a,c,d,e1,e2,e3,e4,e5,e6,e7⟩:=M7 hB hl h c1
   exact⟨d,by simp(disch:=omega) only[↓pq,↓pj,ps,pz,↓reduceIte,ah,ai,aj,ak,aq,au,av,aw,ax,xk,hn,c1,c2,e1,e2,e3,e4,e5,e6,e7]⟩
  ·intro q h k hk
   obtain⟨rs,i,h',e,hx,hi,bR⟩:=q1_ hB hl h (i:=0) (by omega) (by omega)
   obtain⟨rt,i,h',e2,hy,hi,bR⟩:=q1_ hB hl h' hi bR
   obtain⟨f,i,h',e3,hi,bR⟩:=OT hB hl h' hi bR 3 (by omega) (by omega)
   have t1:=kR_ rs (by have:=hx.2;omega) (λr hr=>by have:=(hx.1 r hr).2;omega)
   have t2:=kR_ rt (by have:=hy.2;omega) (λr hr=>by have:=(hy.1 r hr).2;omega)
   have o1:=adw hx
   have o2:=zZ hy
   have o3:=zZ hx
   generalize uQ rs=a at t1 o1 o3
   generalize uQ rt=b at t2 o2
   have l0:Prim.ev (.lit 4 []) []=some (.l []):=rfl
   have ap:=adv a (by have:=o1.2.1;omega) (λx hx=>by have:=o1.2.2 x hx;omega)
   by_cases c1:(k:Int)<B.length
   ·have c2:¬(k:Int)<4000:=by omega
    cases f with
    |false=>
     simp(disch:=omega) only[↓pq,↓pj,ps,pz,↓reduceIte,ah,ai,aj,ak,aq,au,av,aw,ax,xk,hn,c1,c2,e,e2,e3,t1,t2,cA]
     exact⟨a,b,rfl,o3,o2⟩
    |true=>
     by_cases c3:(a.length:Int)>0
     ·have p1:=Gq (enc:=ef) (sc:=false) (w:=3) (off:=2) (m:=1) (l:=a) (n:=0) (vs:=[.l (((gt a 0).ae++[6]).map aA)]) (x:=⟨(gt a 0).aL,(gt a 0).to,(gt a 0).ae++[6]⟩) (by omega) c3 (λ_=>rfl) (by decide) rfl rfl rfl
      have c4:(0:Int)<a.length:=c3
      have hb:=Fq (enc:=ef) (l:=a) (n:=0) (by omega) c4
      have hd:=Dh (l:=a) (n:=0) (by omega) c4
      have ha:Prim.ev (.app true 1) [.l ((gt a 0).ae.map aA),.l ([(6:Int)].map aA)]=some (.l (((gt a 0).ae++[6]).map aA)):=KS (by have:=o1.2.2 _ (h_ (l:=a) (n:=0) (by omega) c4);simp;omega)
      simp(disch:=omega) only[↓pq,↓pj,ps,pz,↓reduceIte,ah,ai,aj,ak,aq,au,av,aw,ax,xk,hn,c1,c2,e,e2,e3,t1,t2,l0,ap,c3,hb,hd,ha,p1]
      exact⟨a,_,rfl,o3,Nl o1 c3⟩
     ·simp(disch:=omega) only[↓pq,↓pj,ps,pz,↓reduceIte,ah,ai,aj,ak,aq,au,av,aw,ax,xk,hn,c1,c2,e,e2,e3,t1,t2,l0,ap,c3]
      exact⟨a,a,rfl,o3,o3⟩
   ·cases f with
    |false=>
     simp(disch:=omega) only[↓pq,↓pj,ps,pz,↓reduceIte,ah,ai,aj,ak,aq,au,av,aw,ax,xk,hn,c1,e,e2,e3,t1,t2,cA]
     exact⟨a,b,rfl,o3,o2⟩
    |true=>
     by_cases c3:(a.length:Int)>0
     ·have p1:=Gq (enc:=ef) (sc:=false) (w:=3) (off:=2) (m:=1) (l:=a) (n:=0) (vs:=[.l (((gt a 0).ae++[6]).map aA)]) (x:=⟨(gt a 0).aL,(gt a 0).to,(gt a 0).ae++[6]⟩) (by omega) c3 (λ_=>rfl) (by decide) rfl rfl rfl
      have c4:(0:Int)<a.length:=c3
      have hb:=Fq (enc:=ef) (l:=a) (n:=0) (by omega) c4
      have hd:=Dh (l:=a) (n:=0) (by omega) c4
      have ha:Prim.ev (.app true 1) [.l ((gt a 0).ae.map aA),.l ([(6:Int)].map aA)]=some (.l (((gt a 0).ae++[6]).map aA)):=KS (by have:=o1.2.2 _ (h_ (l:=a) (n:=0) (by omega) c4);simp;omega)
      simp(disch:=omega) only[↓pq,↓pj,ps,pz,↓reduceIte,ah,ai,aj,ak,aq,au,av,aw,ax,xk,hn,c1,e,e2,e3,t1,t2,l0,ap,c3,hb,hd,ha,p1]
      exact⟨a,_,rfl,o3,Nl o1 c3⟩
     ·simp(disch:=omega) only[↓pq,↓pj,ps,pz,↓reduceIte,ah,ai,aj,ak,aq,au,av,aw,ax,xk,hn,c1,e,e2,e3,t1,t2,l0,ap,c3]
      exact⟨a,a,rfl,o3,o3⟩
 obtain⟨a,b,h,h1,h2⟩:=key
 rw[aax]
 simp(disch:=omega) only[↓pq,↓pj,ps,pz,↓reduceIte,ah,ai,aj,ak,aq,au,av,aw,ax,xk,qp_,h]
 exact⟨a,b,rfl,h1,h2⟩
def Nm(o:Option (List T)):Prop:=∃rs:List bP,o=some [.l (rs.map gE)]∧zU rs
theorem ady{B:List Int}(hB:∀x∈B,sO x)(hl:B.length<=1048576):Nm (F7 [.l (B.map j9)]):=by
 rw[aa0]
 have hn:Prim.ev .len [.l (B.map j9)]=some (ii B.length):=wj
 simp(disch:=omega) only[↓pq,↓pj,ps,pz,↓reduceIte,ah,ai,aj,ak,aq,au,av,aw,ax,LN,u1_,hn]
 refine M1 hB hl (mb:=Nm) ?_ ?_ _
 ·intro q h k c1 c2
  obtain⟨m,a,c,d,e1,e2,e3,e4,e5,e6,e7⟩:=M7 hB hl h c1
  exact⟨d,by simp(disch:=omega) only[↓pq,↓pj,ps,pz,↓reduceIte,ah,ai,aj,ak,aq,au,av,aw,ax,LN,hn,c1,c2,e1,e2,e3,e4,e5,e6,e7]⟩
 ·intro q h k hk
  obtain⟨rs,i,h',e,hx,hi,bR⟩:=q1_ hB hl h (i:=0) (by omega) (by omega)
  by_cases c1:(k:Int)<B.length
  ·have c2:¬(k:Int)<4000:=by omega
   simp(disch:=omega) only[↓pq,↓pj,ps,pz,↓reduceIte,ah,ai,aj,ak,aq,au,av,aw,ax,LN,hn,c1,c2,e]
   exact⟨rs,rfl,hx⟩
  ·simp(disch:=omega) only[↓pq,↓pj,ps,pz,↓reduceIte,ah,ai,aj,ak,aq,au,av,aw,ax,LN,hn,c1,e]
   exact⟨rs,rfl,hx⟩
def Nn:List Ty:=[.sl EK]
theorem adz{a b:List aN}(ha:oH a)(hb:oH b):(sP a b).length<=44∧∀t∈sP a b,t.line.ae.length<=7:=by
 have h1:∀(l:List aN) (c:List dP),(∀t∈c,t.line.ae.length<=7)->(l.foldl (qB b) c).length<=c.length+l.length∧∀t∈l.foldl (qB b) c,t.line.ae.length<=7:=by
  intro l
  induction l with
  |nil=>intro c h;exact⟨by simp,h⟩
  |cons x l ih=>
   intro c h
   have:=EN b c x
   obtain⟨g1,g2⟩:=ih (qB b c x) (λt ht=>by
    unfold qB at ht
    split at ht
    ·rcases List.mem_append.1 ht with ht|ht
     ·exact h t ht
     ·rw[List.mem_singleton.1 ht];simp
    ·exact h t ht)
   rw[List.foldl_cons]
   exact⟨by simp only[List.length_cons];omega,g2⟩
 have h2:∀(l:List aN) (c:List dP),(∀x∈l,x.ae.length<=7)->(∀t∈c,t.line.ae.length<=7)->(l.foldl (jR a) c).length<=c.length+l.length∧∀t∈l.foldl (jR a) c,t.line.ae.length<=7:=by
  intro l
  induction l with
  |nil=>intro c _ h;exact⟨by simp,h⟩
  |cons x l ih=>
   intro c hx h
   have:=EO a c x
   obtain⟨g1,g2⟩:=ih (jR a c x) (λy hy=>hx y (.tail _ hy)) (λt ht=>by
    unfold jR at ht
    split at ht
    ·rcases List.mem_append.1 ht with ht|ht
     ·exact h t ht
     ·rw[List.mem_singleton.1 ht];exact hx x (.head _)
    ·exact h t ht)
   rw[List.foldl_cons]
   exact⟨by simp only[List.length_cons];omega,g2⟩
 obtain⟨f1,f2⟩:=h1 a [] (by simp)
 obtain⟨f3,f4⟩:=h2 b _ hb.ae f2
 have:=ha.len
 have:=hb.len
 simp only[List.length_nil]at f1
 exact⟨by unfold sP;omega,f4⟩
theorem adA(ts:List T)(h0:fQ Nn ts):Ob ts=some [.c (.bool true)]:=by
 obtain⟨B,rfl,hB⟩:=ac' ts h0
 rw[aa7]
 unfold DW
 rw[ada,Df,Dj]
 by_cases hb:(B.length:Int)>1048576
 ·simp(disch:=omega) only[↓pq,↓pj,ps,pz,↓reduceIte,ah,ai,aj,ak,aq,au,av,aw,ax,hb]
 ·have hl:B.length<=1048576:=by omega
  obtain⟨a,b,e1,oa,ob⟩:=adx hB hl
  obtain⟨rs,e2,tG⟩:=ady hB hl
  have la:=oa.len
  have lb:=ob.len
  have GH:∀x∈a,x.ae.length<=1000:=λx hx=>by have:=oa.ae x hx;omega
  have hb7:∀x∈b,x.ae.length<=1000:=λx hx=>by have:=ob.ae x hx;omega
  have d1:=Ng a b (by omega) (by omega) GH hb7
  have d2:=ads a b (by omega) (by omega) GH hb7
  have d3:=Ng a a (by omega) (by omega) GH GH
  rw[adn oa.qC]at d3
  obtain⟨k1,k2⟩:=adz oa ob
  have p1:=adu a (sP a b) (by omega) (by omega) GH (λt ht=>by have:=k2 t ht;omega)
  obtain⟨u1,u2⟩:=adl oa.qC ob.qC
  have hp:=Nc u1 ob.qC u2
  have hlen:=hp.length_eq
  have hc7:∀x∈sQ a (sP a b),x.ae.length<=1000:=λx hx=>hb7 x ((u2 x).1 hx)
  have s1:=Nj _ b hp (by omega) hc7
  have s2:=Nk _ b u1 ob.qC u2 (by omega) hc7
  have s3:=Nj a a (.refl _) (by omega) GH
  have t1:=adq rs (by have:=tG.2;omega) (λr hr=>by have:=(tG.1 r hr).2;omega)
  have t2:=kR_ rs (by have:=tG.2;omega) (λr hr=>by have:=(tG.1 r hr).2;omega)
  have ot:=zZ tG
  have s4:=Nk (uQ rs) (uQ rs) ot.qC ot.qC (λ_=>Iff.rfl) (by have:=ot.len;omega) (λx hx=>by have:=ot.ae x hx;omega)
  have n0:Prim.ev .len [.l (([]:List dP).map iW)]=some (ii 0):=rfl
  generalize sQ a (sP a b)=c at*
  generalize sP a b=l at*
  simp(disch:=omega) only[↓pq,↓pj,ps,pz,↓reduceIte,ah,ai,aj,ak,aq,au,av,aw,ax,hb,e1,d1,p1,s1,s2,d3,n0,s3,e2,t1,t2,d2,s4]
  simp
end Go.Proofs.YtbhplkilhknciaaC
