/- Routes within areas, by both programs. Conditions: none. -/
import Derived.Test.YtjimmglpkndemaaGreatXSA
namespace Go.Proofs.YtjimmglpkndemaaGreatC
attribute [local irreducible] jp
open Int renaming reduceLE -> af, reduceLT -> ah, reduceEq -> ai, reduceGT -> aj, reduceGE -> ak, reduceAdd -> ap, reduceSub -> aq, reduceMul -> au, reduceNeg -> av
set_option linter.unusedVariables false
set_option linter.unusedSimpArgs false
theorem O6{s:List ay}(hs:dv s=true)(ar fr:Int):∀k W D,iX fr W D->∃D',iX fr (tK s ar fr k W D) D'
 |0,W,D,h=>⟨D,h⟩
 |k+1,W,D,h=>by
  unfold tK
  by_cases hb:eB W D=0
  ·rw[if_pos hb];exact⟨D,h⟩
  ·rw[if_neg hb];exact O6 hs ar fr k _ _ (h.step hs ar hb)
theorem gK{s:List ay}{ar fr:Int}:(aP s ar fr).Pairwise (λa b=>a.to<b.to)∧(aP s ar fr).length<=7∧∀w∈aP s ar fr,(1<=w.to∧w.to<=6)∧gk w.aW∧0<=w.cost∧w.cost<=6000:=by
 unfold aP
 by_cases hc:dv s=true∧gx fr 1 6=true∧0<=jl s ar fr
 ·rw[if_pos hc]
  obtain⟨D,hI⟩:=O6 hc.1 ar fr 6 (W0 fr) [] (iX.start (be.1 hc.2.1))
  have hD:=hI.len
  have hl:=hI.ok.len
  have key:∀i,(hi:i<(tK s ar fr 6 (W0 fr) []).length)->(tK s ar fr 6 (W0 fr) [])[i].to≠0->(tK s ar fr 6 (W0 fr) [])[i].to=(i:Int)∧1<=i:=by
   intro i hi h0
   have:=(hI.ok.to (i:Int) (by omega) (by omega))
   rw[eh hi]at this
   have:=this.resolve_left h0
   exact⟨this,by omega⟩
  refine⟨?_,Nat.le_trans (atc _) (by omega),λw hw=>?_⟩
  ·have hp:(tK s ar fr 6 (W0 fr) []).Pairwise λa b=>a.to≠0->b.to≠0->a.to<b.to:=by
    rw[List.pairwise_iff_getElem]
    intro i j hi hj oI h1 h2
    rw[(key i hi h1).1,(key j hj h2).1];omega
   unfold zv
   have Eo:=hp.filter (λw=>!(w.to==0))
   refine Eo.imp_of_mem λ{a b} ha hb lu=>lu ?_ ?_
   ·have:=(List.mem_filter.1 ha).2;simpa using this
   ·have:=(List.mem_filter.1 hb).2;simpa using this
  ·obtain⟨h1,h2⟩:=List.mem_filter.1 hw
   have h2:w.to≠0:=by simpa using h2
   obtain⟨i,hi,rfl⟩:=List.mem_iff_getElem.1 h1
   obtain⟨h3,h4⟩:=key i hi h2
   have h5:=hI.ok.aW (i:Int) (by omega) (by omega)
   have h6:=hI.ok.cost (i:Int) (by omega) (by omega)
   rw[eh hi]at h5 h6
   exact⟨by omega,h5,by omega⟩
 ·rw[if_neg hc];simp
theorem ato(l:List Way)(w:Way)(i:Nat)(q:aA)(rh:l.Pairwise λa b=>a.to<b.to)(hlen:l.length<=6)(hl:∀x∈l,gk x.aW)(hw:gk w.aW)(hi:i<=1048576)(x:T):
  iter (C1 zd xC (.l (l.map bB)) (ii i) x (ii w.to) (ii w.cost) (.l (w.aW.map aE)) q) rounds [ii 0]=q [.l ((sV l w).map bB),ii (i+1),x]:=by
 have hle:=HF l w.to
 have ko:=HG rh w.to
 have hwl:=sT hw
 refine C' (λk=>[ii k]) (cp l w.to) rfl (c_ (by omega)) ?_ ?_
 ·intro k hk q'
  have fV:(k:Int)<l.length:=by omega
  have dh:(gt l (k:Int)).to<w.to:=by rw[eh (by omega)];exact(ko k (by omega)).2 (by omega)
  simp(disch:=omega) only[↓pq,↓pj,ps,pz,↓reduceIte,af,ah,ai,aj,ak,ap,aq,au,av,C1,Ef,Eg,fV,dh]
 ·intro q'
  have ht:((cp l w.to:Nat):Int).toNat=cp l w.to:=Int.toNat_natCast _
  have j3:=QS w.to w.cost w.aW (by omega)
  have jj:=ON (enc:=bB) (λ_=>rfl) hle
  have o9:=OO (enc:=bB) (λ_=>rfl) hle
  unfold sV
  by_cases bC:cp l w.to<l.length
  ·have fV:((cp l w.to:Nat):Int)<l.length:=by omega
   have dh:¬((gt l ((cp l w.to:Nat):Int)).to<w.to):=by rw[eh bC];intro hc;have:=(ko _ bC).1 hc;omega
   have AE:=hl _ (iT (l:=l) (n:=((cp l w.to:Nat):Int)) (by omega) fV)
   by_cases he:(gt l ((cp l w.to:Nat):Int)).to=w.to
   ·rw[if_pos ⟨bC,he⟩]
    have hT:=j6_ (gt l ((cp l w.to:Nat):Int)).to (gt l ((cp l w.to:Nat):Int)).cost (gt l ((cp l w.to:Nat):Int)).aW w.to w.cost w.aW AE hw
    rw[he]at hT
    have xj:∀(x:Way) (n:Int),x.to=n->(⟨n,x.cost,x.aW⟩:Way)=x:=by intro x n h;subst h;rfl
    rw[xj _ _ he]at hT
    simp(disch:=omega) only[↓pq,↓pj,ps,pz,↓reduceIte,af,ah,ai,aj,ak,ap,aq,au,av,C1,Ef,Eg,fV,dh,he,hT,bB,Hu,ht]
   ·rw[if_neg (λh=>he h.2)]
    simp(disch:=omega) only[↓pq,↓pj,ps,pz,↓reduceIte,af,ah,ai,aj,ak,ap,aq,au,av,C1,Ef,Eg,fV,dh,he,j3,ht,jj,o9]
    simp only[IQ (show(l.take (cp l w.to)).length<4294967296 by simp;omega),Lt (show(l.take (cp l w.to)).length<4294967295 by simp;omega),gN,o9]
    rw[IP (by simp;omega),gN,List.append_assoc]
  ·have fV:¬(((cp l w.to:Nat):Int)<l.length):=by omega
   rw[if_neg (λh=>bC h.1)]
   simp(disch:=omega) only[↓pq,↓pj,ps,pz,↓reduceIte,af,ah,ai,aj,ak,ap,aq,au,av,C1,Ef,Eg,fV,j3,ht,jj,o9]
   simp only[IQ (show(l.take (cp l w.to)).length<4294967296 by simp;omega),Lt (show(l.take (cp l w.to)).length<4294967295 by simp;omega),gN,o9]
   rw[IP (by simp;omega),gN,List.append_assoc]
theorem atp(l:List Way)(w:Way)(i:Nat)(q:aA)(rh:l.Pairwise λa b=>a.to<b.to)(hlen:l.length<=6)(hl:∀x∈l,gk x.aW)(hw:gk w.aW)(hi:i<=1048576):
  iter (oG zd xC (.l (l.map bB)) (ii i) (ii w.to) (.l (w.aW.map aE)) (ii w.cost) q) rounds [ii 0]=q [.l ((sV l w).map bB),ii (i+1)]:=by
 have hle:=HF l w.to
 have ko:=HG rh w.to
 have hwl:=sT hw
 refine C' (λk=>[ii k]) (cp l w.to) rfl (c_ (by omega)) ?_ ?_
 ·intro k hk q'
  have fV:(k:Int)<l.length:=by omega
  have dh:(gt l (k:Int)).to<w.to:=by rw[eh (by omega)];exact(ko k (by omega)).2 (by omega)
  simp(disch:=omega) only[↓pq,↓pj,ps,pz,↓reduceIte,af,ah,ai,aj,ak,ap,aq,au,av,oG,oH,o8,fV,dh]
 ·intro q'
  have ht:((cp l w.to:Nat):Int).toNat=cp l w.to:=Int.toNat_natCast _
  have j3:=QS w.to w.cost w.aW (by omega)
  have jj:=ON (enc:=bB) (λ_=>rfl) hle
  have o9:=OO (enc:=bB) (λ_=>rfl) hle
  unfold sV
  by_cases bC:cp l w.to<l.length
  ·have fV:((cp l w.to:Nat):Int)<l.length:=by omega
   have dh:¬((gt l ((cp l w.to:Nat):Int)).to<w.to):=by rw[eh bC];intro hc;have:=(ko _ bC).1 hc;omega
   have AE:=hl _ (iT (l:=l) (n:=((cp l w.to:Nat):Int)) (by omega) fV)
   by_cases he:(gt l ((cp l w.to:Nat):Int)).to=w.to
   ·rw[if_pos ⟨bC,he⟩]
    have hT:=j6_ (gt l ((cp l w.to:Nat):Int)).to (gt l ((cp l w.to:Nat):Int)).cost (gt l ((cp l w.to:Nat):Int)).aW w.to w.cost w.aW AE hw
    rw[he]at hT
    have xj:∀(x:Way) (n:Int),x.to=n->(⟨n,x.cost,x.aW⟩:Way)=x:=by intro x n h;subst h;rfl
    rw[xj _ _ he]at hT
    simp(disch:=omega) only[↓pq,↓pj,ps,pz,↓reduceIte,af,ah,ai,aj,ak,ap,aq,au,av,oG,oH,o8,fV,dh,he,hT,bB,Hu,ht]
   ·rw[if_neg (λh=>he h.2)]
    simp(disch:=omega) only[↓pq,↓pj,ps,pz,↓reduceIte,af,ah,ai,aj,ak,ap,aq,au,av,oG,oH,o8,fV,dh,he,j3,ht,jj,o9]
    simp only[IQ (show(l.take (cp l w.to)).length<4294967296 by simp;omega),Lt (show(l.take (cp l w.to)).length<4294967295 by simp;omega),gN,o9]
    rw[IP (by simp;omega),gN,List.append_assoc]
  ·have fV:¬(((cp l w.to:Nat):Int)<l.length):=by omega
   rw[if_neg (λh=>bC h.1)]
   simp(disch:=omega) only[↓pq,↓pj,ps,pz,↓reduceIte,af,ah,ai,aj,ak,ap,aq,au,av,oG,oH,o8,fV,j3,ht,jj,o9]
   simp only[IQ (show(l.take (cp l w.to)).length<4294967296 by simp;omega),Lt (show(l.take (cp l w.to)).length<4294967295 by simp;omega),gN,o9]
   rw[IP (by simp;omega),gN,List.append_assoc]
theorem atq(l:List Way)(w:Way)(i:Nat)(q:aA)(rh:l.Pairwise λa b=>a.to<b.to)(hlen:l.length<=6)(hl:∀x∈l,gk x.aW)(hw:gk w.aW)(hi:i<=1048576):
  iter (oH zd xC (.l (l.map bB)) (ii i) (ii w.to) (.l (w.aW.map aE)) (ii w.cost) q) rounds [ii 0]=q [.l ((sV l w).map bB),ii (i+1)]:=by
 have hle:=HF l w.to
 have ko:=HG rh w.to
 have hwl:=sT hw
 refine C' (λk=>[ii k]) (cp l w.to) rfl (c_ (by omega)) ?_ ?_
 ·intro k hk q'
  have fV:(k:Int)<l.length:=by omega
  have dh:(gt l (k:Int)).to<w.to:=by rw[eh (by omega)];exact(ko k (by omega)).2 (by omega)
  simp(disch:=omega) only[↓pq,↓pj,ps,pz,↓reduceIte,af,ah,ai,aj,ak,ap,aq,au,av,oG,oH,o8,fV,dh]
 ·intro q'
  have ht:((cp l w.to:Nat):Int).toNat=cp l w.to:=Int.toNat_natCast _
  have j3:=QS w.to w.cost w.aW (by omega)
  have jj:=ON (enc:=bB) (λ_=>rfl) hle
  have o9:=OO (enc:=bB) (λ_=>rfl) hle
  unfold sV
  by_cases bC:cp l w.to<l.length
  ·have fV:((cp l w.to:Nat):Int)<l.length:=by omega
   have dh:¬((gt l ((cp l w.to:Nat):Int)).to<w.to):=by rw[eh bC];intro hc;have:=(ko _ bC).1 hc;omega
   have AE:=hl _ (iT (l:=l) (n:=((cp l w.to:Nat):Int)) (by omega) fV)
   by_cases he:(gt l ((cp l w.to:Nat):Int)).to=w.to
   ·rw[if_pos ⟨bC,he⟩]
    have hT:=j6_ (gt l ((cp l w.to:Nat):Int)).to (gt l ((cp l w.to:Nat):Int)).cost (gt l ((cp l w.to:Nat):Int)).aW w.to w.cost w.aW AE hw
    rw[he]at hT
    have xj:∀(x:Way) (n:Int),x.to=n->(⟨n,x.cost,x.aW⟩:Way)=x:=by intro x n h;subst h;rfl
    rw[xj _ _ he]at hT
    simp(disch:=omega) only[↓pq,↓pj,ps,pz,↓reduceIte,af,ah,ai,aj,ak,ap,aq,au,av,oG,oH,o8,fV,dh,he,hT,bB,Hu,ht]
   ·rw[if_neg (λh=>he h.2)]
    simp(disch:=omega) only[↓pq,↓pj,ps,pz,↓reduceIte,af,ah,ai,aj,ak,ap,aq,au,av,oG,oH,o8,fV,dh,he,j3,ht,jj,o9]
    simp only[IQ (show(l.take (cp l w.to)).length<4294967296 by simp;omega),Lt (show(l.take (cp l w.to)).length<4294967295 by simp;omega),gN,o9]
    rw[IP (by simp;omega),gN,List.append_assoc]
  ·have fV:¬(((cp l w.to:Nat):Int)<l.length):=by omega
   rw[if_neg (λh=>bC h.1)]
   simp(disch:=omega) only[↓pq,↓pj,ps,pz,↓reduceIte,af,ah,ai,aj,ak,ap,aq,au,av,oG,oH,o8,fV,j3,ht,jj,o9]
   simp only[IQ (show(l.take (cp l w.to)).length<4294967296 by simp;omega),Lt (show(l.take (cp l w.to)).length<4294967295 by simp;omega),gN,o9]
   rw[IP (by simp;omega),gN,List.append_assoc]
def qu(s:List ay)(dx:List Int)(fr:Int):List Way:=dx.flatMap λa=>aP s a fr
theorem zA{s:List ay}{dx:List Int}{fr:Int}:∀w∈qu s dx fr,(1<=w.to∧w.to<=6)∧gk w.aW∧0<=w.cost∧w.cost<=6000:=by
 intro w hw
 unfold qu at hw
 obtain⟨a,_,h⟩:=List.mem_flatMap.1 hw
 exact gK.2.2 w h
theorem QW{α β:Type}(f:α->List β)(l:List α)(c:List β):l.foldl (λc a=>c++f a) c=c++l.flatMap f:=by
 induction l generalizing c with
 |nil=>simp
 |cons a l ih=>rw[List.foldl_cons,ih];simp
theorem O7{α:Type}(l c:List α):l.foldl (λc a=>c++[a]) c=c++l:=by
 induction l generalizing c with
 |nil=>simp
 |cons a l ih=>rw[List.foldl_cons,ih];simp
theorem HH{α β:Type}(f:α->Option β)(l:List α):l.flatMap (λa=>(f a).toList)=l.filterMap f:=by
 induction l with
 |nil=>rfl
 |cons a l ih=>rw[List.flatMap_cons,List.filterMap_cons,ih];cases f a<;>rfl
def within(s:List ay)(dx:List Int)(fr:Int):List Way:=cL (qu s dx fr)
theorem acB(s:List ay)(dx:List Int)(fr:Int)(h:s.length<=1048576)(hn:aQ s)(ha:dx.length<=1048576):Mi [.l (s.map aw),.l (dx.map aE),ii fr]=some [.l ((within s dx fr).map bB)]:=by
 rw[aru];simp(disch:=omega) only[↓pq,↓pj,ps,pz,↓reduceIte,af,ah,ai,aj,ak,ap,aq,au,av,C1,Ef,Eg,N6]
 refine(gO dx (λj C=>[.l ((cL C).map bB),ii j]) (λC a=>C++aP s a fr) (λC=>some [T.l ((cL C).map bB)]) [] (λ_ C=>∀x∈C,gk x.aW) rfl (c_ ha) (by simp) ?_ ?_).trans (by rw[QW,List.nil_append];rfl)
 ·intro j C hj hC
  obtain⟨w1,w2,w3⟩:=gK (s:=s) (ar:=gt dx j) (fr:=fr)
  refine⟨λx hx=>(List.mem_append.1 hx).elim (hC x) λhx=>(w3 x hx).2.1,λq=>?_⟩
  simp(disch:=omega) only[↓pq,↓pj,ps,pz,↓reduceIte,af,ah,ai,aj,ak,ap,aq,au,av,C1,Ef,Eg,hj,OW _ _ _ h hn]
  refine(gO (aP s (gt dx j) fr) (λi C=>[.l ((cL C).map bB),ii i,.l ((aP s (gt dx j) fr).map bB)]) (λC w=>C++[w]) (λC=>q [T.l ((cL C).map bB),ii (j+1)]) C (λ_ C=>∀x∈C,gk x.aW) rfl (c_ (by omega)) hC ?_ ?_).trans (by rw[O7])
  ·intro i C hi hC
   have hw:=w3 _ (iT (n:=i) (by omega) hi)
   refine⟨λx hx=>(List.mem_append.1 hx).elim (hC x) λhx=>by rw[List.mem_singleton]at hx;subst hx;exact hw.2.1,λq'=>?_⟩
   simp(disch:=omega) only[↓pq,↓pj,ps,pz,↓reduceIte,af,ah,ai,aj,ak,ap,aq,au,av,C1,Ef,Eg,hi]
   rw[ato (cL C) (gt (aP s (gt dx j) fr) i) i q' (Dn C hC) (Dp C) (λx hx=>(zy hC hx).1) hw.2.1 (by omega) _,acA hC hw.1 hw.2.1]
  ·intro C q' hC
   simp(disch:=omega) only[↓pq,↓pj,ps,pz,↓reduceIte,af,ah,ai,aj,ak,ap,aq,au,av,C1,Ef,Eg,]
 ·intro C q hC
  simp(disch:=omega) only[↓pq,↓pj,ps,pz,↓reduceIte,af,ah,ai,aj,ak,ap,aq,au,av,C1,Ef,Eg,]
def wR(l:List Way):List T:=[.l (l.map bB)]
theorem zB{l:List (List Way)}{n:Int}(h:0<=n)(h':n<l.length):Prim.ev (.cell 1 0) [.l (l.map wR),ii n]=some (.l ((gt l n).map bB)):=iU h (dV h h') rfl rfl
theorem acC(x:List Way):Prim.ev (.lit 1 []) [.l (x.map bB)]=some (.l ([x].map wR)):=qp (by decide) rfl rfl
theorem acD{l:List (List Way)}{x:List Way}(h:l.length<4294967295):Prim.ev (.app false 1) [.l (l.map wR),.l ([x].map wR)]=some (.l ((l++[x]).map wR)):=sF (w:=1) (λ_=>rfl) (.inl rfl) (by unfold uX;simp;omega)
def dD(l:List Way)(v:Int):Option Way:=if fb l v<0 then none else some (gt l (fb l v))
theorem acE(l:List Way)(v:Int):fb l v<l.length:=o5 _ _
theorem xU{l:List Way}{v:Int}{w:Way}(h:dD l v=some w):w∈l∧w.to=v:=by
 unfold dD at h
 split at h
 ·cases h
 ·rename_i hf
  cases h
  have:=q_ (λw:Way=>w.to==v) l (by unfold fb at hf;omega)
  exact⟨iT (by omega) (acE _ _),by simpa[fb]using this⟩
theorem atr{l:List Way}{v:Int}(h:dD l v=none):∀w∈l,w.to≠v:=by
 unfold dD at h
 split at h
 ·rename_i hf
  intro w hw
  have:=(D8 _ _).1 hf w hw
  simpa using this
 ·cases h
theorem ats{l:List Way}(h:l.Pairwise λa b=>a.to<b.to){x y:Way}(hx:x∈l)(hy:y∈l)(e:x.to=y.to):x=y:=by
 obtain⟨i,hi,rfl⟩:=List.mem_iff_getElem.1 hx
 obtain⟨j,hj,rfl⟩:=List.mem_iff_getElem.1 hy
 rw[List.pairwise_iff_getElem]at h
 rcases Nat.lt_trichotomy i j with h1|h1|h1
 ·have:=h i j hi hj h1;omega
 ·subst h1;rfl
 ·have:=h j i hj hi h1;omega
theorem att{l:List Way}(h:l.Pairwise λa b=>a.to<b.to){v:Int}{w:Way}:dD l v=some w↔w∈l∧w.to=v:=by
 refine⟨xU,λ⟨h1,h2⟩=>?_⟩
 cases e:dD l v with
 |none=>exact absurd h2 (atr e w h1)
 |some w'=>
  have:=xU e
  rw[ats h this.1 h1 (by omega)]
def O8(o:Option Way)(i:Int):List T:=match o with|none=>[bb false,ii i,ii 0,ii 0,.l []]|some b=>[bb true,ii i,ii b.to,ii b.cost,.l (b.aW.map aE)]
theorem acF(s:List ay)(dx:List Int)(fr:Int)(h:s.length<=1048576)(hn:aQ s)(ha:dx.length<=1048576):LP [.l (s.map aw),.l (dx.map aE),ii fr]=some [.l ((within s dx fr).map bB)]:=by
 have hW:=λa=>gK (s:=s) (ar:=a) (fr:=fr)
 rw[ao5];simp(disch:=omega) only[↓pq,↓pj,ps,pz,↓reduceIte,af,ah,ai,aj,ak,ap,aq,au,av,Ao,Ap,Aq,M0]
 refine gO dx (λj C=>[.l (C.map wR),ii j]) (λC a=>C++[aP s a fr]) (λ_=>some [T.l ((within s dx fr).map bB)]) [] (λj C=>C=(dx.take j).map (λa=>aP s a fr)) rfl (c_ ha) rfl ?_ ?_
 ·intro j C hj hC
  have hl:C.length<=j:=by rw[hC];simp;omega
  refine⟨by rw[List.take_add_one,hC,List.map_append,List.getElem?_eq_getElem (by omega),eh (by omega)];rfl,λq=>?_⟩
  simp(disch:=omega) only[↓pq,↓pj,ps,pz,↓reduceIte,af,ah,ai,aj,ak,ap,aq,au,av,Ao,Ap,Aq,hj,O2 _ _ _ h hn,acC,acD]
 ·intro C q hC
  have hC:C=dx.map (λa=>aP s a fr):=by rw[hC,List.take_length]
  have hCl:C.length=dx.length:=by rw[hC,List.length_map]
  have O9:∀j:Nat,(j:Int)<dx.length->gt C (j:Int)=aP s (gt dx j) fr:=by
   intro j hj
   rw[eh (by omega),eh (by omega)]
   simp only[hC,List.getElem_map]
  simp(disch:=omega) only[↓pq,↓pj,ps,pz,↓reduceIte,af,ah,ai,aj,ak,ap,aq,au,av,Ao,Ap,Aq,]
  refine(o6 6 (λi c=>[.l (c.map bB),ii (i+1)]) (λc i=>c++(kg (dx.filterMap λa=>dD (aP s a fr) ((i:Int)+1))).toList) (λc=>some [T.l (c.map bB)]) [] (λi c=>c.length<=i) rfl (c_ (by omega)) (by simp) ?_ ?_).trans ?_
  ·intro i c hi hc
   refine⟨by cases kg (dx.filterMap λa=>dD (aP s a fr) ((i:Int)+1))<;>simp<;>omega,λq'=>?_⟩
   have aU:(i:Int)+1<=6:=by omega
   simp(disch:=omega) only[↓pq,↓pj,ps,pz,↓reduceIte,af,ah,ai,aj,ak,ap,aq,au,av,Ao,Ap,Aq,aU]
   have hfm:∀(l:List Int) (o:Option Way),l.foldl (λo a=>match dD (aP s a fr) ((i:Int)+1)with|none=>o|some w=>oJ o w) o=(l.filterMap λa=>dD (aP s a fr) ((i:Int)+1)).foldl oJ o:=by
    intro l
    induction l with
    |nil=>intro o;rfl
    |cons a l ih=>
     intro o
     rw[List.foldl_cons,List.filterMap_cons]
     cases dD (aP s a fr) ((i:Int)+1)with
     |none=>exact ih o
     |some w=>exact ih _
   refine(gO dx (λj o=>O8 o j) (λo a=>match dD (aP s a fr) ((i:Int)+1)with|none=>o|some w=>oJ o w) (λo=>q' [T.l ((c++o.toList).map bB),ii ((i:Int)+1+1)]) none (λ_ o=>∀b,o=some b->gk b.aW) rfl (c_ ha) (by simp) ?_ ?_).trans (by rw[hfm];rfl)
   ·intro j o hj ho
    obtain⟨w1,w2,w3⟩:=hW (gt dx j)
    have hlC:(j:Int)<C.length:=by omega
    have hT:=Hm (aP s (gt dx j) fr) ((i:Int)+1) (by omega) (λw hw=>by have:=sT (w3 w hw).2.1;omega)
    constructor
    ·intro b hb
     cases hw:dD (aP s (gt dx j) fr) ((i:Int)+1)with
     |none=>rw[hw]at hb;exact ho b hb
     |some w=>
      rw[hw]at hb
      have hh:=(w3 w (xU hw).1).2.1
      cases o with
      |none=>simp only[oJ]at hb;cases hb;exact hh
      |some b0=>simp only[oJ]at hb;cases hb;exact OV (ho b0 rfl) hh
    ·intro q2
     unfold dD
     by_cases hp:fb (aP s (gt dx j) fr) ((i:Int)+1)<0
     ·rw[if_pos hp]at hT
      cases o with
      |none=>simp only[O8];simp(disch:=omega) only[↓pq,↓pj,ps,pz,↓reduceIte,af,ah,ai,aj,ak,ap,aq,au,av,Ao,Ap,Aq,hj,zB,O9 j hj,hT,hp,cE]
      |some b=>simp only[O8];simp(disch:=omega) only[↓pq,↓pj,ps,pz,↓reduceIte,af,ah,ai,aj,ak,ap,aq,au,av,Ao,Ap,Aq,hj,zB,O9 j hj,hT,hp,cE]
     ·rw[if_neg hp]at hT
      have hm:=w3 _ (iT (l:=aP s (gt dx j) fr) (n:=fb (aP s (gt dx j) fr) ((i:Int)+1)) (by omega) (acE _ _))
      have pi:=sT hm.2.1
      simp only[bB,List.cons_append,List.nil_append]at hT
      cases o with
      |none=>simp only[O8];simp(disch:=omega) only[↓pq,↓pj,ps,pz,↓reduceIte,af,ah,ai,aj,ak,ap,aq,au,av,Ao,Ap,Aq,hj,zB,O9 j hj,hT,hp,cE];rfl
      |some b=>
       have qe:=sT (ho b rfl)
       simp only[O8]
       simp(disch:=omega) only[↓pq,↓pj,ps,pz,↓reduceIte,af,ah,ai,aj,ak,ap,aq,au,av,Ao,Ap,Aq,hj,zB,O9 j hj,hT,hp,cE,acx _ _ _ _ _ _ (show b.aW.length<=1048576 by omega) (show(gt (aP s (gt dx j) fr) (fb (aP s (gt dx j) fr) ((i:Int)+1))).aW.length<=1048576 by omega),bB]
       rfl
   ·intro o q2 ho
    cases o with
    |none=>simp only[O8];simp(disch:=omega) only[↓pq,↓pj,ps,pz,↓reduceIte,af,ah,ai,aj,ak,ap,aq,au,av,Ao,Ap,Aq,cE];simp
    |some b=>simp only[O8];simp(disch:=omega) only[↓pq,↓pj,ps,pz,↓reduceIte,af,ah,ai,aj,ak,ap,aq,au,av,Ao,Ap,Aq,];simp
  ·intro c q' hc
   simp(disch:=omega) only[↓pq,↓pj,ps,pz,↓reduceIte,af,ah,ai,aj,ak,ap,aq,au,av,Ao,Ap,Aq,]
  ·rw[QW (λi:Nat=>(kg (dx.filterMap λa=>dD (aP s a fr) ((i:Int)+1))).toList),List.nil_append]
   congr 3
   unfold within cL
   rw[Dk,List.filterMap_map,HH]
   refine congrArg (λf=>List.map bB (List.filterMap f (List.range 6))) (funext λi=>?_)
   show _=kg _
   refine acz (v:=(i:Int)+1) (λx hx=>?_) λx=>?_
   ·obtain⟨a,_,hx⟩:=List.mem_filterMap.1 hx
    have:=xU hx
    exact⟨this.2,((hW a).2.2 x this.1).2.1⟩
   ·rw[List.mem_filterMap,List.mem_filter]
    unfold qu
    rw[List.mem_flatMap]
    constructor
    ·rintro⟨a,tI,hx⟩
     have:=xU hx
     exact⟨⟨a,tI,this.1⟩,by simpa using this.2⟩
    ·rintro⟨⟨a,tI,hx⟩,e⟩
     exact⟨a,tI,(att (hW a).1).2 ⟨hx,by simpa using e⟩⟩
theorem acG{s:List ay}(hs:dv s=true){x:ay}(hx:x∈s)(h:x.kind=2):(1<=x.key∧x.key<=6)∧0<=x.cost∧x.cost<=60000:=by
 have:=Dd hs hx
 unfold eP at this
 rw[if_neg (by omega),if_pos h]at this
 simp only[bL,be]at this
 exact⟨this.2.1.1.1.2,this.2.1.2⟩
theorem atu{s:List ay}(hs:dv s=true){x:ay}(hx:x∈s):0<=x.cost∧x.cost<=60000:=by
 have:=Dd hs hx
 unfold eP at this
 grind[be]
theorem HI{s:List ay}{a fr v:Int}{w:Way}(h:dD (aP s a fr) v=some w):w.to=v∧gk w.aW∧0<=w.cost∧w.cost<=6000∧dv s=true:=by
 have h1:=xU h
 have h2:=gK.2.2 w h1.1
 refine⟨h1.2,h2.2.1,h2.2.2.1,h2.2.2.2,?_⟩
 cases e:dv s with
 |true=>rfl
 |false=>
  have:aP s a fr=[]:=by unfold aP;rw[if_neg (by rw[e];simp)]
  rw[this]at h1;cases h1.1
def iL(s:List ay)(A:List Int)(z:Bool)(fr:Int)(x:ay):Option Way:=
 if x.kind=2∧x.cost<60000∧x.owner≠fr∧A.contains x.ae=true∧(z=true->x.ae=0)∧fb (within s A fr) x.key<0 then
  match dD (aP s x.ae fr) x.owner with
  |none=>none
  |some w=>if x.cost+w.cost<60000 then some ⟨x.key,x.cost+w.cost,w.aW⟩else none
 else none
theorem zC{s:List ay}{A:List Int}{z:Bool}{fr:Int}{x:ay}{w:Way}(h:iL s A z fr x=some w):(x.kind=2∧x.cost<60000∧x.owner≠fr∧A.contains x.ae=true∧(z=true->x.ae=0)∧fb (within s A fr) x.key<0)∧∃y,dD (aP s x.ae fr) x.owner=some y∧x.cost+y.cost<60000∧w=⟨x.key,x.cost+y.cost,y.aW⟩:=by
 unfold iL at h
 split at h
 ·rename_i hc
  refine⟨hc,?_⟩
  split at h
  ·cases h
  ·rename_i y hy
   split at h
   ·rename_i hl;cases h;exact⟨y,hy,hl,rfl⟩
   ·cases h
 ·cases h
theorem acH{s:List ay}{A:List Int}{z:Bool}{fr:Int}{x:ay}(hx:x∈s){w:Way}(h:iL s A z fr x=some w):(1<=w.to∧w.to<=6)∧gk w.aW∧0<=w.cost∧w.cost<60000:=by
 obtain⟨h1,y,h2,h3,rfl⟩:=zC h
 have h4:=HI h2
 have h5:=acG h4.2.2.2.2 hx h1.1
 exact⟨h5.1,h4.2.1,by show 0<=x.cost+y.cost;omega,h3⟩
def Er(s:List ay)(A:List Int)(z:Bool)(fr:Int):List Way:=s.filterMap (iL s A z fr)
theorem acI{s:List ay}{A:List Int}{z:Bool}{fr:Int}:∀w∈Er s A z fr,(1<=w.to∧w.to<=6)∧gk w.aW∧0<=w.cost∧w.cost<60000:=by
 intro w hw
 obtain⟨x,hx,h⟩:=List.mem_filterMap.1 hw
 exact acH hx h
def beyond(s:List ay)(A:List Int)(z:Bool)(fr:Int):List Way:=cL (Er s A z fr)
theorem O_{s:List ay}{A:List Int}{fr:Int}:∀w∈within s A fr,w.aW.length<=1048576:=by
 intro w hw
 have:=sT (zy (λx hx=>(zA x hx).2.1) hw).1
 omega
theorem HJ{s:List ay}{A:List Int}{fr:Int}:(within s A fr).length<=6:=Dp _
theorem O'{s:List ay}{a fr:Int}:∀w∈aP s a fr,w.aW.length<=1048576:=by
 intro w hw
 have:=sT (gK.2.2 w hw).2.1
 omega
theorem Pb{s:List ay}{a fr:Int}:(aP s a fr).length<=7:=gK.2.1
theorem atv(s:List ay)(A:List Int)(z:Bool)(fr:Int)(h:s.length<=1048576)(hn:aQ s)(ha:A.length<=1048576):uC_ [.l (s.map aw),.l (A.map aE),bb z,ii fr]=some [.l ((beyond s A z fr).map bB)]:=by
 rw[arw];simp(disch:=omega) only[↓pq,↓pj,ps,pz,↓reduceIte,af,ah,ai,aj,ak,ap,aq,au,av,oG,oH,o8,N7,acB _ _ _ h hn ha]
 refine(gO s (λj C=>[.l ((cL C).map bB),ii j]) (λC x=>C++(iL s A z fr x).toList) (λC=>some [T.l ((cL C).map bB)]) [] (λ_ C=>∀x∈C,gk x.aW) rfl (c_ h) (by simp) ?_ ?_).trans (by rw[QW,List.nil_append,HH];rfl)
 ·intro j C hj hC
  have hm:=iT (l:=s) (n:=(j:Int)) (by omega) hj
  have j_:iL s A z fr (gt s j)=none->cL (C++(iL s A z fr (gt s j)).toList)=cL C:=by intro e;rw[e];simp
  refine⟨λx hx=>(List.mem_append.1 hx).elim (hC x) λhx=>?_,λq=>?_⟩
  ·rw[Option.mem_toList]at hx
   exact(acH hm hx).2.1
  by_cases k1:(gt s j).kind=2
  rotate_left
  ·rw[j_ (by unfold iL;rw[if_neg (λh=>k1 h.1)])]
   simp(disch:=omega) only[↓pq,↓pj,ps,pz,↓reduceIte,af,ah,ai,aj,ak,ap,aq,au,av,oG,oH,o8,cE,hj,k1]
  by_cases k2:(gt s j).cost<60000
  rotate_left
  ·rw[j_ (by unfold iL;rw[if_neg (λh=>k2 h.2.1)])]
   simp(disch:=omega) only[↓pq,↓pj,ps,pz,↓reduceIte,af,ah,ai,aj,ak,ap,aq,au,av,oG,oH,o8,cE,hj,k1,show(gt s j).cost>=60000 by omega]
  by_cases k3:(gt s j).owner=fr
  ·rw[j_ (by unfold iL;rw[if_neg (λh=>h.2.2.1 k3)])]
   simp(disch:=omega) only[↓pq,↓pj,ps,pz,↓reduceIte,af,ah,ai,aj,ak,ap,aq,au,av,oG,oH,o8,cE,hj,k1,show¬(gt s j).cost>=60000 by omega,k3]
  by_cases k4:A.contains (gt s j).ae=true
  rotate_left
  ·have k4':A.contains (gt s j).ae=false:=by simpa using k4
   rw[j_ (by unfold iL;rw[if_neg (λh=>k4 h.2.2.2.1)])]
   simp(disch:=omega) only[↓pq,↓pj,ps,pz,↓reduceIte,af,ah,ai,aj,ak,ap,aq,au,av,oG,oH,o8,cE,hj,k1,show¬(gt s j).cost>=60000 by omega,k3,wO _ _ ha,k4']
  by_cases k5:z=true->(gt s j).ae=0
  rotate_left
  ·have k5':z=true∧(gt s j).ae≠0:=by simpa using k5
   rw[j_ (by unfold iL;rw[if_neg (λh=>k5 h.2.2.2.2.1)])]
   obtain⟨rfl,k6⟩:=k5'
   simp(disch:=omega) only[↓pq,↓pj,ps,pz,↓reduceIte,af,ah,ai,aj,ak,ap,aq,au,av,oG,oH,o8,cE,hj,k1,show¬(gt s j).cost>=60000 by omega,k3,wO _ _ ha,k4,k6]
  have hW:=OK (within s A fr) (gt s j).key (by have:=HJ (s:=s) (A:=A) (fr:=fr);omega) O_
  have hV:=OK (aP s (gt s j).ae fr) (gt s j).owner (by have:=Pb (s:=s) (a:=(gt s j).ae) (fr:=fr);omega) O'
  have hI:=OW s (gt s j).ae fr h hn
  by_cases k6:fb (within s A fr) (gt s j).key<0
  rotate_left
  ·rw[j_ (by unfold iL;rw[if_neg (λh=>k6 h.2.2.2.2.2)])]
   rw[if_neg k6]at hW
   simp only[bB,List.cons_append,List.nil_append]at hW
   by_cases k7:fb (aP s (gt s j).ae fr) (gt s j).owner<0
   ·rw[if_pos k7]at hV
    cases z with
    |true=>rw[k5 rfl]at hV hI k4;simp(disch:=omega) only[↓pq,↓pj,ps,pz,↓reduceIte,af,ah,ai,aj,ak,ap,aq,au,av,oG,oH,o8,cE,hj,k1,show¬(gt s j).cost>=60000 by omega,k3,wO _ _ ha,k4,k5 rfl,hW,hV,hI]
    |false=>simp(disch:=omega) only[↓pq,↓pj,ps,pz,↓reduceIte,af,ah,ai,aj,ak,ap,aq,au,av,oG,oH,o8,cE,hj,k1,show¬(gt s j).cost>=60000 by omega,k3,wO _ _ ha,k4,hW,hV,hI]
   ·rw[if_neg k7]at hV
    simp only[bB,List.cons_append,List.nil_append]at hV
    cases z with
    |true=>rw[k5 rfl]at hV hI k4;simp(disch:=omega) only[↓pq,↓pj,ps,pz,↓reduceIte,af,ah,ai,aj,ak,ap,aq,au,av,oG,oH,o8,cE,hj,k1,show¬(gt s j).cost>=60000 by omega,k3,wO _ _ ha,k4,k5 rfl,hW,hV,hI]
    |false=>simp(disch:=omega) only[↓pq,↓pj,ps,pz,↓reduceIte,af,ah,ai,aj,ak,ap,aq,au,av,oG,oH,o8,cE,hj,k1,show¬(gt s j).cost>=60000 by omega,k3,wO _ _ ha,k4,hW,hV,hI]
  rw[if_pos k6]at hW
  by_cases k7:fb (aP s (gt s j).ae fr) (gt s j).owner<0
  ·rw[j_ (by unfold iL dD;rw[if_pos ⟨k1,k2,k3,k4,k5,k6⟩,if_pos k7])]
   rw[if_pos k7]at hV
   cases z with
   |true=>rw[k5 rfl]at hV hI k4;simp(disch:=omega) only[↓pq,↓pj,ps,pz,↓reduceIte,af,ah,ai,aj,ak,ap,aq,au,av,oG,oH,o8,cE,hj,k1,show¬(gt s j).cost>=60000 by omega,k3,wO _ _ ha,k4,k5 rfl,hW,hV,hI]
   |false=>simp(disch:=omega) only[↓pq,↓pj,ps,pz,↓reduceIte,af,ah,ai,aj,ak,ap,aq,au,av,oG,oH,o8,cE,hj,k1,show¬(gt s j).cost>=60000 by omega,k3,wO _ _ ha,k4,hW,hV,hI]
  have hO:dD (aP s (gt s j).ae fr) (gt s j).owner=some (gt (aP s (gt s j).ae fr) (fb (aP s (gt s j).ae fr) (gt s j).owner)):=by unfold dD;rw[if_neg k7]
  rw[if_neg k7]at hV
  generalize gt (aP s (gt s j).ae fr) (fb (aP s (gt s j).ae fr) (gt s j).owner)=w at hO hV
  have hw:=HI hO
  have hr:=acG hw.2.2.2.2 hm k1
  simp only[bB,List.cons_append,List.nil_append]at hV
  by_cases k8:(gt s j).cost+w.cost<60000
  rotate_left
  ·rw[j_ (by unfold iL;rw[if_pos ⟨k1,k2,k3,k4,k5,k6⟩,hO];simp only[];rw[if_neg k8])]
   cases z with
   |true=>rw[k5 rfl]at hV hI k4;simp(disch:=omega) only[↓pq,↓pj,ps,pz,↓reduceIte,af,ah,ai,aj,ak,ap,aq,au,av,oG,oH,o8,cE,hj,k1,show¬(gt s j).cost>=60000 by omega,k3,wO _ _ ha,k4,k5 rfl,hW,hV,hI,show(gt s j).cost+w.cost>=60000 by omega]
   |false=>simp(disch:=omega) only[↓pq,↓pj,ps,pz,↓reduceIte,af,ah,ai,aj,ak,ap,aq,au,av,oG,oH,o8,cE,hj,k1,show¬(gt s j).cost>=60000 by omega,k3,wO _ _ ha,k4,hW,hV,hI,show(gt s j).cost+w.cost>=60000 by omega]
  have hB:iL s A z fr (gt s j)=some ⟨(gt s j).key,(gt s j).cost+w.cost,w.aW⟩:=by unfold iL;rw[if_pos ⟨k1,k2,k3,k4,k5,k6⟩,hO];simp only[];rw[if_pos k8]
  rw[hB,Option.toList_some,<-acA (w:=⟨(gt s j).key,(gt s j).cost+w.cost,w.aW⟩) hC hr.1 hw.2.1]
  cases z with
  |true=>
   rw[k5 rfl]at hV hI k4;simp(disch:=omega) only[↓pq,↓pj,ps,pz,↓reduceIte,af,ah,ai,aj,ak,ap,aq,au,av,oG,oH,o8,cE,hj,k1,show¬(gt s j).cost>=60000 by omega,k3,wO _ _ ha,k4,k5 rfl,hW,hV,hI,show¬(gt s j).cost+w.cost>=60000 by omega]
   exact atq (cL C) ⟨(gt s j).key,(gt s j).cost+w.cost,w.aW⟩ j q (Dn C hC) (Dp C) (λx hx=>(zy hC hx).1) hw.2.1 (by omega)
  |false=>
   simp(disch:=omega) only[↓pq,↓pj,ps,pz,↓reduceIte,af,ah,ai,aj,ak,ap,aq,au,av,oG,oH,o8,cE,hj,k1,show¬(gt s j).cost>=60000 by omega,k3,wO _ _ ha,k4,hW,hV,hI,show¬(gt s j).cost+w.cost>=60000 by omega]
   exact atp (cL C) ⟨(gt s j).key,(gt s j).cost+w.cost,w.aW⟩ j q (Dn C hC) (Dp C) (λx hx=>(zy hC hx).1) hw.2.1 (by omega)
 ·intro C q hC
  simp(disch:=omega) only[↓pq,↓pj,ps,pz,↓reduceIte,af,ah,ai,aj,ak,ap,aq,au,av,oG,oH,o8,]
def wz:Way:=⟨0,0,[]⟩
def oW(o:Option Way):Way:=o.getD wz
theorem acJ(w:Way):oW (some w)=w:=rfl
def lD(W:List Way)(ae fr to:Int)(x:ay):Option Way:=
 if x.kind=2∧x.ae=ae∧x.key=to∧x.owner≠fr∧x.cost<60000 then
  match dD W x.owner with
  |none=>none
  |some w=>if w.cost+x.cost<60000 then some ⟨to,w.cost+x.cost,w.aW⟩else none
 else none
theorem Pc{W:List Way}{ae fr to:Int}{x:ay}(hW:∀w∈W,gk w.aW){w:Way}(h:lD W ae fr to x=some w):w.to=to∧gk w.aW:=by
 unfold lD at h
 split at h
 ·split at h
  ·cases h
  ·rename_i y hy
   split at h
   ·cases h;exact⟨rfl,hW y (xU hy).1⟩
   ·cases h
 ·cases h
def wS(o:Option Way)(l:List Way):Option Way:=l.foldl oJ o
theorem acK{l:List Way}{o:Option Way}(ho:∀b,o=some b->gk b.aW)(hl:∀w∈l,gk w.aW):∀b,wS o l=some b->gk b.aW:=by
 induction l generalizing o with
 |nil=>exact ho
 |cons a l ih=>
  refine ih (o:=oJ o a) (λb hb=>?_) λw hw=>hl w (.tail _ hw)
  cases o with
  |none=>simp only[oJ]at hb;cases hb;exact hl _ (.head _)
  |some b0=>simp only[oJ]at hb;cases hb;exact OV (ho b0 rfl) (hl _ (.head _))
theorem atw{α:Type}(f:α->Option Way)(l:List α)(o:Option Way):l.foldl (λo x=>match f x with|none=>o|some w=>oJ o w) o=wS o (l.filterMap f):=by
 induction l generalizing o with
 |nil=>rfl
 |cons a l ih=>
  rw[List.foldl_cons,List.filterMap_cons]
  cases f a with
  |none=>exact ih o
  |some w=>exact ih _
theorem atx(s:List ay)(W:List Way)(ae fr to:Int)(o:Option Way)(h:s.length<=1048576)(hn:aQ s)(hs:dv s=true)(hWl:W.length<=7)(hW:∀w∈W,gk w.aW∧0<=w.cost∧w.cost<=6000)(ho:∀b,o=some b->gk b.aW):
  Xc [.l (s.map aw),.l (W.map bB),ii ae,ii fr,ii to,ii (oW o).to,ii (oW o).cost,.l ((oW o).aW.map aE),bb o.isSome]=(λo':Option Way=>some [ii (oW o').to,ii (oW o').cost,.l ((oW o').aW.map aE),bb o'.isSome]) (wS o (s.filterMap (lD W ae fr to))):=by
 rw[ao7];simp(disch:=omega) only[↓pq,↓pj,ps,pz,↓reduceIte,af,ah,ai,aj,ak,ap,aq,au,av,Ar,M1]
 refine(gO s (λj o=>[bb o.isSome,ii j,ii (oW o).to,ii (oW o).cost,.l ((oW o).aW.map aE)]) (λo x=>match lD W ae fr to x with|none=>o|some w=>oJ o w) (λo':Option Way=>some [ii (oW o').to,ii (oW o').cost,.l ((oW o').aW.map aE),bb o'.isSome]) o (λ_ o=>∀b,o=some b->gk b.aW) rfl (c_ h) ho ?_ ?_).trans (by rw[atw])
 ·intro j o hj ho
  have hm:=iT (l:=s) (n:=(j:Int)) (by omega) hj
  have hc:=atu hs hm
  constructor
  ·intro b hb
   cases e:lD W ae fr to (gt s j)with
   |none=>rw[e]at hb;exact ho b hb
   |some w=>
    rw[e]at hb
    exact acK (l:=[w]) ho (by intro y hy;rw[List.mem_singleton]at hy;subst hy;exact(Pc (λw hw=>(hW w hw).1) e).2) b hb
  intro q
  have hT:=Hm W (gt s j).owner (by omega) (λw hw=>by have:=sT (hW w hw).1;omega)
  by_cases k1:(gt s j).kind=2∧(gt s j).ae=ae∧(gt s j).key=to∧(gt s j).owner≠fr∧(gt s j).cost<60000
  rotate_left
  ·have hr:lD W ae fr to (gt s j)=none:=by unfold lD;rw[if_neg k1]
   rw[hr]
   by_cases a1:(gt s j).kind=2
   ·by_cases a2:(gt s j).ae=ae
    ·by_cases a3:(gt s j).key=to
     ·by_cases a4:(gt s j).owner=fr
      ·simp(disch:=omega) only[↓pq,↓pj,ps,pz,↓reduceIte,af,ah,ai,aj,ak,ap,aq,au,av,Ar,hj,a1,a2,a3,a4]
      ·have a5:(gt s j).cost>=60000:=by
        rcases Int.lt_or_le (gt s j).cost 60000 with h|h
        ·exact absurd ⟨a1,a2,a3,a4,h⟩ k1
        ·exact h
       simp(disch:=omega) only[↓pq,↓pj,ps,pz,↓reduceIte,af,ah,ai,aj,ak,ap,aq,au,av,Ar,hj,a1,a2,a3,a4,a5]
     ·simp(disch:=omega) only[↓pq,↓pj,ps,pz,↓reduceIte,af,ah,ai,aj,ak,ap,aq,au,av,Ar,hj,a1,a2,a3]
    ·simp(disch:=omega) only[↓pq,↓pj,ps,pz,↓reduceIte,af,ah,ai,aj,ak,ap,aq,au,av,Ar,hj,a1,a2]
   ·simp(disch:=omega) only[↓pq,↓pj,ps,pz,↓reduceIte,af,ah,ai,aj,ak,ap,aq,au,av,Ar,hj,a1]
  obtain⟨a1,a2,a3,a4,a5⟩:=k1
  have a5':¬(gt s j).cost>=60000:=by omega
  by_cases hp:fb W (gt s j).owner<0
  ·have hr:lD W ae fr to (gt s j)=none:=by unfold lD dD;rw[if_pos ⟨a1,a2,a3,a4,a5⟩,if_pos hp]
   rw[hr]
   rw[if_pos hp]at hT
   simp(disch:=omega) only[↓pq,↓pj,ps,pz,↓reduceIte,af,ah,ai,aj,ak,ap,aq,au,av,Ar,hj,a1,a2,a3,a4,a5',hT,cE]
  rw[if_neg hp]at hT
  have hO:dD W (gt s j).owner=some (gt W (fb W (gt s j).owner)):=by unfold dD;rw[if_neg hp]
  generalize gt W (fb W (gt s j).owner)=w at hO hT
  have hw:=hW w (xU hO).1
  have pi:=sT hw.1
  simp only[bB,List.cons_append,List.nil_append]at hT
  by_cases hq:w.cost+(gt s j).cost<60000
  ·have hr:lD W ae fr to (gt s j)=some ⟨to,w.cost+(gt s j).cost,w.aW⟩:=by unfold lD;rw[if_pos ⟨a1,a2,a3,a4,a5⟩,hO];simp only[];rw[if_pos hq]
   rw[hr]
   cases o with
   |none=>simp(disch:=omega) only[↓pq,↓pj,ps,pz,↓reduceIte,af,ah,ai,aj,ak,ap,aq,au,av,Ar,hj,a1,a2,a3,a4,a5',hT,show¬w.cost+(gt s j).cost>=60000 by omega,Option.isSome_none,cE];rfl
   |some b=>
    have qe:=sT (ho b rfl)
    simp(disch:=omega) only[↓pq,↓pj,ps,pz,↓reduceIte,af,ah,ai,aj,ak,ap,aq,au,av,Ar,hj,a1,a2,a3,a4,a5',hT,show¬w.cost+(gt s j).cost>=60000 by omega,Option.isSome_some,acJ,acx _ _ _ _ _ _ (show b.aW.length<=1048576 by omega) (show w.aW.length<=1048576 by omega),bB];rfl
  ·have hr:lD W ae fr to (gt s j)=none:=by unfold lD;rw[if_pos ⟨a1,a2,a3,a4,a5⟩,hO];simp only[];rw[if_neg hq]
   rw[hr]
   simp(disch:=omega) only[↓pq,↓pj,ps,pz,↓reduceIte,af,ah,ai,aj,ak,ap,aq,au,av,Ar,hj,a1,a2,a3,a4,a5',hT,show w.cost+(gt s j).cost>=60000 by omega]
 ·intro o q ho
  simp(disch:=omega) only[↓pq,↓pj,ps,pz,↓reduceIte,af,ah,ai,aj,ak,ap,aq,au,av,Ar,]
def wT(s:List ay)(A:List Int)(z:Bool)(fr to:Int):List Way:=(A.filter λa=>!z||a==0).flatMap λa=>s.filterMap (lD (aP s a fr) a fr to)
theorem aty{α:Type}(p:α->Bool)(f:α->List Way)(l:List α)(o:Option Way):l.foldl (λo a=>if p a=true then wS o (f a)else o) o=wS o ((l.filter p).flatMap f):=by
 induction l generalizing o with
 |nil=>rfl
 |cons a l ih=>
  rw[List.foldl_cons,ih,List.filter_cons]
  cases p a with
  |false=>rfl
  |true=>simp[wS]
theorem atz{s:List ay}{A:List Int}{z:Bool}{fr to:Int}:∀w∈wT s A z fr to,w.to=to∧gk w.aW:=by
 intro w hw
 unfold wT at hw
 obtain⟨a,_,h⟩:=List.mem_flatMap.1 hw
 obtain⟨x,hx,h⟩:=List.mem_filterMap.1 h
 exact Pc (λy hy=>(gK.2.2 y hy).2.1) h
theorem atA{s:List ay}{A:List Int}{z:Bool}{fr to:Int}(ht:fb (within s A fr) to<0)(w:Way):w∈wT s A z fr to↔w∈(Er s A z fr).filter λw=>w.to==to:=by
 unfold wT Er
 rw[List.mem_flatMap,List.mem_filter,List.mem_filterMap]
 constructor
 ·rintro⟨a,ha,h⟩
  obtain⟨x,hx,h⟩:=List.mem_filterMap.1 h
  have ha:=List.mem_filter.1 ha
  unfold lD at h
  split at h
  ·rename_i hc
   obtain⟨c1,c2,c3,c4,c5⟩:=hc
   subst c2 c3
   split at h
   ·cases h
   ·rename_i y hy
    split at h
    ·rename_i hl
     cases h
     refine⟨⟨x,hx,?_⟩,by simp⟩
     unfold iL
     rw[if_pos ⟨c1,c5,c4,List.contains_iff_mem.2 ha.1,λhz=>by have:=ha.2;rw[hz]at this;simpa using this,ht⟩,hy]
     simp only[]
     rw[if_pos (by omega),Int.add_comm]
    ·cases h
  ·cases h
 ·rintro⟨⟨x,hx,h⟩,n3⟩
  obtain⟨⟨c1,c2,c3,c4,c5,c6⟩,y,hy,hl,rfl⟩:=zC h
  have n3:x.key=to:=by simpa using n3
  refine⟨x.ae,List.mem_filter.2 ⟨List.contains_iff_mem.1 c4,?_⟩,List.mem_filterMap.2 ⟨x,hx,?_⟩⟩
  ·cases z with
   |false=>rfl
   |true=>simp[c5 rfl]
  ·unfold lD
   rw[if_pos ⟨c1,rfl,n3,c3,c2⟩,hy]
   simp only[]
   rw[if_pos (by omega),Int.add_comm,n3]
theorem atB{s:List ay}{A:List Int}{z:Bool}{fr to:Int}(ht:¬fb (within s A fr) to<0):(Er s A z fr).filter (λw=>w.to==to)=[]:=by
 rw[List.filter_eq_nil_iff]
 intro w hw
 obtain⟨x,hx,h⟩:=List.mem_filterMap.1 hw
 obtain⟨hc,y,_,_,rfl⟩:=zC h
 intro e
 have e:x.key=to:=by simpa using e
 subst e
 exact ht hc.2.2.2.2.2
theorem atC(s:List ay)(A:List Int)(z:Bool)(fr:Int)(h:s.length<=1048576)(hn:aQ s)(ha:A.length<=1048576):Xf [.l (s.map aw),.l (A.map aE),bb z,ii fr]=some [.l ((beyond s A z fr).map bB)]:=by
 have hW:=λa=>gK (s:=s) (ar:=a) (fr:=fr)
 rw[ao9];simp(disch:=omega) only[↓pq,↓pj,ps,pz,↓reduceIte,af,ah,ai,aj,ak,ap,aq,au,av,xF,xG,xH,M2,acF _ _ _ h hn ha,k4_ _ h hn]
 cases hs:dv s with
 |false=>
  have:Er s A z fr=[]:=by
   unfold Er
   rw[List.filterMap_eq_nil_iff]
   intro x hx
   cases e:iL s A z fr x with
   |none=>rfl
   |some w=>
    obtain⟨_,y,hy,_⟩:=zC e
    have:=(HI hy).2.2.2.2
    rw[hs]at this;cases this
  simp(disch:=omega) only[↓pq,↓pj,ps,pz,↓reduceIte,af,ah,ai,aj,ak,ap,aq,au,av,xF,xG,xH,cE]
  unfold beyond
  rw[this]
  rfl
 |true=>
 simp(disch:=omega) only[↓pq,↓pj,ps,pz,↓reduceIte,af,ah,ai,aj,ak,ap,aq,au,av,xF,xG,xH,]
 refine gO A (λj C=>[.l (C.map wR),ii j]) (λC a=>C++[aP s a fr]) (λ_=>some [T.l ((beyond s A z fr).map bB)]) [] (λj C=>C=(A.take j).map (λa=>aP s a fr)) rfl (c_ ha) rfl ?_ ?_
 ·intro j C hj hC
  have hl:C.length<=j:=by rw[hC];simp;omega
  refine⟨by rw[List.take_add_one,hC,List.map_append,List.getElem?_eq_getElem (by omega),eh (by omega)];rfl,λq=>?_⟩
  simp(disch:=omega) only[↓pq,↓pj,ps,pz,↓reduceIte,af,ah,ai,aj,ak,ap,aq,au,av,xF,xG,xH,hj,O2 _ _ _ h hn,acC,acD]
 ·intro C q hC
  have hC:C=A.map (λa=>aP s a fr):=by rw[hC,List.take_length]
  have hCl:C.length=A.length:=by rw[hC,List.length_map]
  have O9:∀j:Nat,(j:Int)<A.length->gt C (j:Int)=aP s (gt A j) fr:=by
   intro j hj
   rw[eh (by omega),eh (by omega)]
   simp only[hC,List.getElem_map]
  simp(disch:=omega) only[↓pq,↓pj,ps,pz,↓reduceIte,af,ah,ai,aj,ak,ap,aq,au,av,xF,xG,xH,]
  refine(o6 6 (λi c=>[.l (c.map bB),ii (i+1)]) (λc i=>c++(if fb (within s A fr) ((i:Int)+1)<0 then kg (wT s A z fr ((i:Int)+1))else none).toList) (λc=>some [T.l (c.map bB)]) [] (λi c=>c.length<=i) rfl (c_ (by omega)) (by simp) ?_ ?_).trans ?_
  ·intro i c hi hc
   refine⟨by cases(if fb (within s A fr) ((i:Int)+1)<0 then kg (wT s A z fr ((i:Int)+1))else none)<;>simp<;>omega,λq'=>?_⟩
   have aU:(i:Int)+1<=6:=by omega
   have hT:=Hm (within s A fr) ((i:Int)+1) (by have:=HJ (s:=s) (A:=A) (fr:=fr);omega) O_
   by_cases hp:fb (within s A fr) ((i:Int)+1)<0
   rotate_left
   ·rw[if_neg hp]at hT⊢
    simp only[bB,List.cons_append,List.nil_append]at hT
    simp(disch:=omega) only[↓pq,↓pj,ps,pz,↓reduceIte,af,ah,ai,aj,ak,ap,aq,au,av,xF,xG,xH,aU,hT,Option.toList_none,List.append_nil]
   rw[if_pos hp]at hT⊢
   simp(disch:=omega) only[↓pq,↓pj,ps,pz,↓reduceIte,af,ah,ai,aj,ak,ap,aq,au,av,xF,xG,xH,aU,hT,cE]
   refine(gO A (λj o=>[bb o.isSome,ii j,ii (oW o).to,ii (oW o).cost,.l ((oW o).aW.map aE)]) (λo a=>if(!z||a==0)=true then wS o (s.filterMap (lD (aP s a fr) a fr ((i:Int)+1)))else o) (λo=>q' [T.l ((c++o.toList).map bB),ii ((i:Int)+1+1)]) none (λ_ o=>∀b,o=some b->gk b.aW) rfl (c_ ha) (by simp) ?_ ?_).trans (by rw[aty];rfl)
   ·intro j o hj ho
    obtain⟨w1,w2,w3⟩:=hW (gt A j)
    have hlC:(j:Int)<C.length:=by omega
    have hB:=atx s (aP s (gt A j) fr) (gt A j) fr ((i:Int)+1) o h hn hs w2 (λw hw=>(w3 w hw).2) ho
    have cV:=acK (o:=o) (l:=s.filterMap (lD (aP s (gt A j) fr) (gt A j) fr ((i:Int)+1))) ho (λw hw=>by
     obtain⟨x,_,e⟩:=List.mem_filterMap.1 hw
     exact(Pc (λw hw=>(w3 w hw).2.1) e).2)
    cases z with
    |false=>
     refine⟨cV,λq2=>?_⟩
     simp(disch:=omega) only[↓pq,↓pj,ps,pz,↓reduceIte,af,ah,ai,aj,ak,ap,aq,au,av,xF,xG,xH,hj,zB,O9 j hj,hB,cE,Bool.not_false,Bool.true_or]
    |true=>
     by_cases h0:gt A j=0
     ·rw[h0]at hB cV
      refine⟨by rw[h0];exact cV,λq2=>?_⟩
      have Is:=O9 j hj
      rw[h0]at Is
      simp(disch:=omega) only[↓pq,↓pj,ps,pz,↓reduceIte,af,ah,ai,aj,ak,ap,aq,au,av,xF,xG,xH,hj,zB,Is,h0,hB,beq_self_eq_true,Bool.or_true]
     ·have dU:(gt A j==0)=false:=by simpa using h0
      rw[dU]
      refine⟨ho,λq2=>?_⟩
      simp(disch:=omega) only[↓pq,↓pj,ps,pz,↓reduceIte,af,ah,ai,aj,ak,ap,aq,au,av,xF,xG,xH,hj,h0,Bool.not_true,Bool.or_false,cE]
   ·intro o q2 ho
    cases o with
    |none=>simp(disch:=omega) only[↓pq,↓pj,ps,pz,↓reduceIte,af,ah,ai,aj,ak,ap,aq,au,av,xF,xG,xH,cE,Option.isSome_none];simp
    |some b=>simp(disch:=omega) only[↓pq,↓pj,ps,pz,↓reduceIte,af,ah,ai,aj,ak,ap,aq,au,av,xF,xG,xH,Option.isSome_some,acJ];simp
  ·intro c q' hc
   simp(disch:=omega) only[↓pq,↓pj,ps,pz,↓reduceIte,af,ah,ai,aj,ak,ap,aq,au,av,xF,xG,xH,]
  ·rw[QW (λi:Nat=>(if fb (within s A fr) ((i:Int)+1)<0 then kg (wT s A z fr ((i:Int)+1))else none).toList),List.nil_append]
   congr 3
   unfold beyond cL
   rw[Dk,List.filterMap_map,HH]
   refine congrArg (λf=>List.map bB (List.filterMap f (List.range 6))) (funext λi=>?_)
   show _=kg _
   by_cases hp:fb (within s A fr) ((i:Int)+1)<0
   ·rw[if_pos hp]
    exact acz (v:=(i:Int)+1) atz (atA hp)
   ·rw[if_neg hp,atB hp]
    rfl
theorem Dq(l:List Way)(v:Int):dD l v=l.find? λw=>w.to==v:=by
 cases h:l.find? (λw=>w.to==v)with
 |none=>
  cases h':dD l v with
  |none=>rfl
  |some w=>
   have:=xU h'
   have h2:=List.find?_eq_none.1 h w this.1
   simp[this.2]at h2
 |some w=>
  unfold dD fb
  have h0:0<=dJ (λw:Way=>w.to==v) l:=by
   rcases Int.lt_or_le (dJ (λw:Way=>w.to==v) l) 0 with h1|h1
   ·have:=(D8 _ _).1 h1 w (List.mem_of_find?_eq_some h)
    have h2:=List.find?_some h
    rw[this]at h2;cases h2
   ·exact h1
  rw[if_neg (by omega)]
  unfold dJ at h0⊢
  cases h':l.findIdx? (λw:Way=>w.to==v)with
  |none=>rw[h']at h0;exact absurd h0 (by decide)
  |some i=>
   obtain⟨h1,h2,h3⟩:=List.findIdx?_eq_some_iff_getElem.1 h'
   show some (gt l (i:Int))=some w
   rw[eh h1]
   obtain⟨e,asz,bs,e1,e2⟩:=List.find?_eq_some_iff_append.1 h
   subst e1
   congr 1
   rcases Nat.lt_trichotomy i asz.length with h4|h4|h4
   ·have h5:=e2 asz[i] (List.getElem_mem h4)
    rw[List.getElem_append_left h4]at h2
    rw[h2]at h5;cases h5
   ·subst h4;simp
   ·have h5:=h3 asz.length h4
    simp at h5 e
    exact absurd e h5
theorem acL(a b:List Way)(v:Int):dD (a++b) v=(dD a v).or (dD b v):=by
 rw[Dq,Dq,Dq,List.find?_append]
def xV(W:List Way):Prop:=W.length<=1000∧∀w∈W,gk w.aW∧0<=w.cost∧w.cost<=100000
theorem xV.app{a b:List Way}(ha:a.length<=100)(hb:b.length<=100)(h:xV a)(h':xV b):xV (a++b):=
 ⟨by simp;omega,λw hw=>(List.mem_append.1 hw).elim (h.2 w) (h'.2 w)⟩
def upto(n:Nat):List Int:=(List.range n).map λi:Nat=>(i:Int)+1
theorem acM{n:Nat}{x:Int}:x∈upto n↔1<=x∧x<=n:=by
 unfold upto
 rw[List.mem_map]
 constructor
 ·rintro⟨i,hi,rfl⟩
  have:=List.mem_range.1 hi
  omega
 ·intro h
  exact⟨(x-1).toNat,List.mem_range.2 (by omega),by omega⟩
theorem acN(n:Nat):(upto n).Pairwise (· < ·):=by
 unfold upto
 rw[List.pairwise_map]
 exact List.pairwise_lt_range.imp λ{a b} h=>by omega
theorem atD{n:Nat}{l:List Int}(h:l.Pairwise (· < ·))(hm:∀x∈l,1<=x∧x<=n):l=(upto n).filter λx=>l.contains x:=
 Hj h ((acN n).filter _) λx=>by
  rw[List.mem_filter,acM,List.contains_iff_mem]
  exact⟨λhx=>⟨hm x hx,hx⟩,λhx=>hx.2⟩
theorem HK{n:Nat}{l:List Int}(h:l.Pairwise (· < ·))(hm:∀x∈l,1<=x∧x<=n):l.length<=n:=by
 rw[atD h hm]
 refine Nat.le_trans (List.length_filter_le _ _) ?_
 unfold upto
 simp
theorem acO{c:List Int}(h:c.Pairwise (· < ·))(hl:c.length<=1000)(n:Int){F:aA->aA}{s:aA}{st:List T}(cn:st=[ii 0])
  (h1:∀(k:Nat) (w:aA),(k:Int)<c.length->gt c (k:Int)<n->F w [ii k]=w [ii ((k:Int)+1)])
  (h2:∀(k:Nat) (w:aA),(k:Int)<c.length->gt c (k:Int)=n->F w [ii k]=s [.l (c.map aE)])
  (h3:∀(k:Nat) (w:aA),(k:Int)<c.length->¬gt c (k:Int)<n->gt c (k:Int)≠n->F w [ii k]=s [.l ((c.take k++([n]++c.drop k)).map aE)])
  (h4:∀(k:Nat) (w:aA),¬(k:Int)<c.length->k<=c.length->F w [ii k]=s [.l ((c.take k++([n]++c.drop k)).map aE)]):
  iter F rounds st=s [.l ((gq c n).map aE)]:=by
 have hle:=Db c n
 obtain⟨c1,c2,c3⟩:=OL h n
 refine C' (λk=>[ii k]) (ei c n) cn (c_ (by omega)) ?_ ?_
 ·intro k hk w
  exact h1 k w (by omega) (by rw[eh (by omega)];exact(c3 k (by omega)).2 (by omega))
 ·intro w
  by_cases bC:ei c n<c.length
  ·have dh:¬(gt c ((ei c n:Nat):Int)<n):=by rw[eh bC];intro rC;have:=(c3 _ bC).1 rC;omega
   have jj:=Hq h bC
   by_cases jH:n∈c
   ·rw[Hp h jH]
    exact h2 _ w (by omega) (jj.2 jH)
   ·rw[Jf h jH]
    exact h3 _ w (by omega) dh (λe=>jH (jj.1 e))
  ·rw[Jf h (Hr h bC)]
   exact h4 _ w (by omega) hle
theorem atE{c:List Int}(h:c.Pairwise (· < ·))(hl:c.length<=1000)(n:Int)(q:aA):
  iter (uF sL (.l (c.map aE)) (ii n) q) rounds [ii 0]=q [.l ((gq c n).map aE)]:=by
 refine acO h hl n rfl ?_ ?_ ?_ ?_
 ·intro k w fV dh
  simp(disch:=omega) only[↓pq,↓pj,ps,pz,↓reduceIte,af,ah,ai,aj,ak,ap,aq,au,av,uF,uG,vr,fV,dh]
 ·intro k w fV dh
  have jj:¬n<n:=by omega
  simp(disch:=omega) only[↓pq,↓pj,ps,pz,↓reduceIte,af,ah,ai,aj,ak,ap,aq,au,av,uF,uG,vr,fV,dh,jj]
 ·intro k w fV dh jj
  simp(disch:=omega) only[↓pq,↓pj,ps,pz,↓reduceIte,af,ah,ai,aj,ak,ap,aq,au,av,uF,uG,vr,fV,dh,jj,re _ (show(c.take k).length<=1048576 by simp;omega)]
  rw[B6 (by simp;omega),gN,y7 (by simp;omega),gN,List.append_assoc]
 ·intro k w fV dh
  simp(disch:=omega) only[↓pq,↓pj,ps,pz,↓reduceIte,af,ah,ai,aj,ak,ap,aq,au,av,uF,uG,vr,fV,re _ (show(c.take k).length<=1048576 by simp;omega)]
  rw[B6 (by simp;omega),gN,y7 (by simp;omega),gN,List.append_assoc]
theorem atF{c:List Int}(h:c.Pairwise (· < ·))(hl:c.length<=1000)(n:Int)(q:aA):
  iter (uG sL (.l (c.map aE)) (ii n) q) rounds [ii 0]=q [.l ((gq c n).map aE)]:=by
 refine acO h hl n rfl ?_ ?_ ?_ ?_
 ·intro k w fV dh
  simp(disch:=omega) only[↓pq,↓pj,ps,pz,↓reduceIte,af,ah,ai,aj,ak,ap,aq,au,av,uF,uG,vr,fV,dh]
 ·intro k w fV dh
  have jj:¬n<n:=by omega
  simp(disch:=omega) only[↓pq,↓pj,ps,pz,↓reduceIte,af,ah,ai,aj,ak,ap,aq,au,av,uF,uG,vr,fV,dh,jj]
 ·intro k w fV dh jj
  simp(disch:=omega) only[↓pq,↓pj,ps,pz,↓reduceIte,af,ah,ai,aj,ak,ap,aq,au,av,uF,uG,vr,fV,dh,jj,re _ (show(c.take k).length<=1048576 by simp;omega)]
  rw[B6 (by simp;omega),gN,y7 (by simp;omega),gN,List.append_assoc]
 ·intro k w fV dh
  simp(disch:=omega) only[↓pq,↓pj,ps,pz,↓reduceIte,af,ah,ai,aj,ak,ap,aq,au,av,uF,uG,vr,fV,re _ (show(c.take k).length<=1048576 by simp;omega)]
  rw[B6 (by simp;omega),gN,y7 (by simp;omega),gN,List.append_assoc]
theorem atG{s:List ay}{ar fr:Int}{w:Way}(hw:w∈aP s ar fr):∃v∈aP s ar fr,v.to=fr:=by
 unfold aP at hw⊢
 by_cases hc:dv s=true∧gx fr 1 6=true∧0<=jl s ar fr
 ·rw[if_pos hc]at hw⊢
  obtain⟨D,hI⟩:=O6 hc.1 ar fr 6 (W0 fr) [] (iX.start (be.1 hc.2.1))
  have hl:=hI.ok.len
  obtain⟨h1,h2⟩:=List.mem_filter.1 hw
  have h2:w.to≠0:=by simpa using h2
  obtain⟨i,hi,rfl⟩:=List.mem_iff_getElem.1 h1
  have n3:=hI.ok.to (i:Int) (by omega) (by omega)
  rw[eh hi]at n3
  have n3:=n3.resolve_left h2
  rcases hI.first with⟨_,hf⟩|hf
  ·have R0:=hI.fr6
   have:=hf (i:Int) (by omega) (by omega) (by rw[eh hi];exact h2)
   exact⟨_,hw,by rw[n3,this]⟩
  ·have h3:=hI.mem fr hf
   have h4:=hI.fr6
   have h5:=(hI.ok.to fr (by omega) (by omega)).resolve_left h3.2
   refine⟨_,List.mem_filter.2 ⟨iT (n:=fr) (by omega) (by omega),?_⟩,h5⟩
   simpa using h3.2
 ·rw[if_neg hc]at hw;cases hw
theorem atH{l:List Way}{w:Way}(h:w∈l):¬fb l w.to<0:=by
 intro hc
 have:=(D8 _ _).1 hc w h
 simp at this
theorem atI{s:List ay}{A:List Int}{fr:Int}{v:Way}(h:v∈qu s A fr):¬fb (within s A fr) v.to<0:=by
 rcases Jk (v:=v.to) _ ((qu s A fr).filter λw=>w.to==v.to) rfl (λy hy=>by have:=List.mem_filter.1 hy;exact⟨by simpa using this.2,(zA y this.1).2.1⟩)with⟨e,_⟩|⟨b,e,hb,_⟩
 ·have:v∈(qu s A fr).filter λw=>w.to==v.to:=List.mem_filter.2 ⟨h,by simp⟩
  rw[e]at this;cases this
 ·have hm:b∈within s A fr:=(HE (λx hx=>(zA x hx).2.1)).2 ⟨by rw[hb];exact(zA v h).1,by rw[hb];exact e⟩
  rw[<-hb]
  exact atH hm
theorem Pf{s:List ay}{A:List Int}{z:Bool}{fr:Int}{w:Way}(h:w∈beyond s A z fr):(1<=w.to∧w.to<=6)∧gk w.aW∧(0<=w.cost∧w.cost<60000)∧w.to≠fr∧fb (within s A fr) w.to<0:=by
 have h1:=zy (λx hx=>(acI x hx).2.1) h
 obtain⟨hh,y,hy,e1,e2⟩:=h1
 have h2:=acI y hy
 obtain⟨x,hx,h3⟩:=List.mem_filterMap.1 hy
 obtain⟨h4,y',h5,h6,h7⟩:=zC h3
 have hk:x.key=w.to:=by rw[<-e1,h7]
 refine⟨by rw[<-e1];exact h2.1,hh,by rw[<-e2];exact h2.2.2,?_,by rw[<-hk];exact h4.2.2.2.2.2⟩
 intro e
 obtain⟨v,hv,ev⟩:=atG (xU h5).1
 have hc:v∈qu s A fr:=List.mem_flatMap.2 ⟨x.ae,List.contains_iff_mem.1 h4.2.2.2.1,hv⟩
 have h8:=atI hc
 have he:v.to=x.key:=by omega
 rw[he]at h8
 exact h8 h4.2.2.2.2.2
theorem acP{s:List ay}{A:List Int}{fr:Int}{w:Way}(h:w∈within s A fr):(1<=w.to∧w.to<=6)∧gk w.aW∧(0<=w.cost∧w.cost<=6000):=by
 obtain⟨hh,y,hy,e1,e2⟩:=zy (λx hx=>(zA x hx).2.1) h
 have:=zA y hy
 exact⟨by rw[<-e1];exact this.1,hh,by rw[<-e2];exact this.2.2⟩
theorem acQ{s:List ay}{A:List Int}{z:Bool}{fr:Int}:(beyond s A z fr).length<=6:=Dp _
theorem Pg{x:Net}(h:n7 x=true):du (kj x.n) iC x.aB=true∧x.aB.length<=12:=by
 unfold n7 at h
 simp only[bL,decide_eq_true_eq]at h
 exact⟨h.1.2,h.1.1.1.2⟩
theorem xW{n:Int}{ls:List bH}(h:du (kj n) iC ls=true){l:bH}(hl:l∈ls):(1<=n∧n<=6)∧(1<=l.a∧l.a<=n)∧(1<=l.b∧l.b<=n)∧l.a<l.b∧(1<=l.cost∧l.cost<=1000)∧0<=l.ae∧l.ae<=2:=by
 obtain⟨i,hi,rfl⟩:=List.mem_iff_getElem.1 hl
 have:=bW.1 h i hi
 rw[eh hi]at this
 simp only[bL,kj,be,decide_eq_true_eq]at this
 omega
def three:List Int:=[0,1,2]
theorem oK{x:Int}:x∈three↔0<=x∧x<=2:=by simp[three];omega
theorem oL:three.Pairwise (· < ·):=by unfold three;simp
def sW(node a:Int)(l:bH):Bool:=l.ae==a&&(l.a==node||l.b==node)
def lh(ls:List bH)(node:Int):List Int:=three.filter λa=>ls.any (sW node a)
theorem HL(ls:List bH)(node:Int):(lh ls node).length<=3:=List.length_filter_le _ _
theorem atJ(node:Int)(ls:List bH)(c:List Int)(hc:c.Pairwise (· < ·)):let K:=ls.foldl (λc x=>if x.a=node∨x.b=node then gq c x.ae else c) c;K.Pairwise (· < ·)∧∀k,k∈K↔k∈c∨∃x∈ls,(x.a=node∨x.b=node)∧x.ae=k:=by
 induction ls generalizing c with
 |nil=>exact⟨hc,by simp⟩
 |cons x s ih=>
  rw[List.foldl_cons]
  by_cases h:x.a=node∨x.b=node
  ·rw[if_pos h]
   obtain⟨h1,h2⟩:=ih _ (Ho hc x.ae)
   refine⟨h1,λk=>?_⟩
   rw[h2,jE]
   simp only[List.mem_cons]
   constructor
   ·rintro((e|e)|⟨y,hy,e⟩)
    ·exact .inr ⟨x,.inl rfl,h,e.symm⟩
    ·exact .inl e
    ·exact .inr ⟨y,.inr hy,e⟩
   ·rintro(e|⟨y,rfl|hy,e⟩)
    ·exact .inl (.inr e)
    ·exact .inl (.inl e.2.symm)
    ·exact .inr ⟨y,hy,e⟩
  ·rw[if_neg h]
   obtain⟨h1,h2⟩:=ih _ hc
   refine⟨h1,λk=>?_⟩
   rw[h2]
   simp only[List.mem_cons]
   constructor
   ·rintro(e|⟨y,hy,e⟩)
    ·exact .inl e
    ·exact .inr ⟨y,.inr hy,e⟩
   ·rintro(e|⟨y,rfl|hy,e⟩)
    ·exact .inl e
    ·exact absurd e.1 h
    ·exact .inr ⟨y,hy,e⟩
theorem atK{n:Int}{ls:List bH}(h:du (kj n) iC ls=true)(node:Int):ls.foldl (λc x=>if x.a=node∨x.b=node then gq c x.ae else c) []=lh ls node:=by
 obtain⟨h1,h2⟩:=atJ node ls [] .nil
 refine Hj h1 (oL.filter _) λk=>?_
 unfold lh
 rw[h2,List.mem_filter,oK,List.any_eq_true]
 constructor
 ·rintro(e|⟨x,hx,e,rfl⟩)
  ·cases e
  ·have:=xW h hx
   refine⟨by omega,x,hx,?_⟩
   unfold sW
   rcases e with e|e<;>simp[e]
 ·rintro⟨_,x,hx,e⟩
  unfold sW at e
  simp only[bL,Bool.or_eq_true,beq_iff_eq]at e
  exact .inr ⟨x,hx,e.2,e.1⟩
theorem HM(t0 t2:T)(ls:List bH)(node n:Int)(h:du (kj n) iC ls=true)(hl:ls.length<=12):Gk [t0,.l (ls.map cT),t2,ii node]=some [.l ((lh ls node).map aE)]:=by
 rw[aq3];simp(disch:=omega) only[↓pq,↓pj,ps,pz,↓reduceIte,af,ah,ai,aj,ak,ap,aq,au,av,uF,uG,vr,NQ]
 refine(gO ls (λj c=>[.l (c.map aE),ii j]) (λc x=>if x.a=node∨x.b=node then gq c x.ae else c) (λc=>some [T.l (c.map aE)]) [] (λj c=>c.Pairwise (· < ·)∧∀x∈c,0<=x∧x<=2) rfl (c_ (by omega)) ⟨.nil,by simp⟩ ?_ ?_).trans (by rw[atK h])
 ·rintro j c hj ⟨c1,c2⟩
  have hm:=xW h (iT (l:=ls) (n:=(j:Int)) (by omega) hj)
  have hc3:c.length<=3:=by
   have e:c=three.filter λx=>c.contains x:=Hj c1 (oL.filter _) λx=>by
    rw[List.mem_filter,oK,List.contains_iff_mem]
    exact⟨λhx=>⟨c2 x hx,hx⟩,λhx=>hx.2⟩
   rw[e];exact List.length_filter_le _ _
  by_cases k1:(gt ls j).a=node
  ·rw[if_pos (.inl k1)]
   refine⟨⟨Ho c1 _,λx hx=>by rcases jE.1 hx with rfl|hx;omega;exact c2 x hx⟩,λq=>?_⟩
   simp(disch:=omega) only[↓pq,↓pj,ps,pz,↓reduceIte,af,ah,ai,aj,ak,ap,aq,au,av,uF,uG,vr,hj,k1]
   refine(atF c1 (by omega) _ _).trans ?_
   simp(disch:=omega) only[↓pq,↓pj,ps,pz,↓reduceIte,af,ah,ai,aj,ak,ap,aq,au,av,uF,uG,vr,]
  ·by_cases k2:(gt ls j).b=node
   ·rw[if_pos (.inr k2)]
    refine⟨⟨Ho c1 _,λx hx=>by rcases jE.1 hx with rfl|hx;omega;exact c2 x hx⟩,λq=>?_⟩
    simp(disch:=omega) only[↓pq,↓pj,ps,pz,↓reduceIte,af,ah,ai,aj,ak,ap,aq,au,av,uF,uG,vr,hj,k1,k2]
    refine(atE c1 (by omega) _ _).trans ?_
    simp(disch:=omega) only[↓pq,↓pj,ps,pz,↓reduceIte,af,ah,ai,aj,ak,ap,aq,au,av,uF,uG,vr,]
   ·rw[if_neg (by omega)]
    refine⟨⟨c1,c2⟩,λq=>?_⟩
    simp(disch:=omega) only[↓pq,↓pj,ps,pz,↓reduceIte,af,ah,ai,aj,ak,ap,aq,au,av,uF,uG,vr,hj,k1,k2]
 ·rintro c q hc
  simp(disch:=omega) only[↓pq,↓pj,ps,pz,↓reduceIte,af,ah,ai,aj,ak,ap,aq,au,av,uF,uG,vr,]
def zD(ls:List bH)(node a:Int):List Int:=vA.filter λv=>decide (lg ls node v a>0)
theorem acR(t0 t2:T)(ls:List bH)(node a:Int)(hl:ls.length<=12):Ch [t0,.l (ls.map cT),t2,ii node,ii a]=some [.l ((zD ls node a).map aE)]:=by
 rw[aop];simp(disch:=omega) only[↓pq,↓pj,ps,pz,↓reduceIte,af,ah,ai,aj,ak,ap,aq,au,av,jj_,MF]
 refine(o6 6 (λi c=>[.l (c.map aE),ii (i+1)]) (λc i=>if decide (lg ls node ((i:Int)+1) a>0)=true then c++[(i:Int)+1]else c) (λc=>some [T.l (c.map aE)]) [] (λi c=>c.length<=i) rfl (c_ (by omega)) (by simp) ?_ ?_).trans ?_
 ·intro i c hi hc
  have aU:(i:Int)+1<=6:=by omega
  refine⟨by split;(· simp;omega);(· omega),λq=>?_⟩
  by_cases k:lg ls node ((i:Int)+1) a>0
  ·simp(disch:=omega) only[↓pq,↓pj,ps,pz,↓reduceIte,af,ah,ai,aj,ak,ap,aq,au,av,jj_,aU,I_ _ _ _ _ _ _ (show ls.length<=1048576 by omega),k,decide_true]
  ·simp(disch:=omega) only[↓pq,↓pj,ps,pz,↓reduceIte,af,ah,ai,aj,ak,ap,aq,au,av,jj_,aU,I_ _ _ _ _ _ _ (show ls.length<=1048576 by omega),k,decide_false,cE]
 ·intro c q hc
  simp(disch:=omega) only[↓pq,↓pj,ps,pz,↓reduceIte,af,ah,ai,aj,ak,ap,aq,au,av,jj_,]
 ·unfold zD
  rw[IR (λi:Nat=>decide (lg ls node ((i:Int)+1) a>0)) (λi:Nat=>(i:Int)+1),Dk,List.filter_map]
  rfl
theorem atL{n:Int}{ls:List bH}(h:du (kj n) iC ls=true)(node a:Int):(zD ls node a).length>0↔ls.any (sW node a)=true:=by
 unfold zD
 rw[show((vA.filter λv=>decide (lg ls node v a>0)).length>0)↔∃v∈vA,lg ls node v a>0 by
  rw[gt_iff_lt,List.length_pos_iff_exists_mem]
  constructor
  ·rintro⟨v,hv⟩
   have:=List.mem_filter.1 hv
   exact⟨v,this.1,by simpa using this.2⟩
  ·rintro⟨v,hv,e⟩
   exact⟨v,List.mem_filter.2 ⟨hv,by simpa using e⟩⟩,List.any_eq_true]
 have key:∀v,lg ls node v a>0↔∃x∈ls,eE node v a x=true:=by
  intro v
  have hz:=QQ h node v a
  constructor
  ·intro hc
   have h0:0<=dJ (eE node v a) ls:=by
    rcases Int.lt_or_le (dJ (eE node v a) ls) 0 with h1|h1
    ·have:=hz.2 h1;omega
    ·exact h1
   exact⟨_,iT h0 (o5 _ _),q_ _ _ h0⟩
  ·rintro⟨x,hx,e⟩
   have h0:¬dJ (eE node v a) ls<0:=λhc=>by
    have:=(D8 _ _).1 hc x hx
    rw[e]at this;cases this
   have h1:=xW h (iT (l:=ls) (n:=dJ (eE node v a) ls) (by omega) (o5 _ _))
   unfold lg
   rw[if_neg h0]
   omega
 constructor
 ·rintro⟨v,hv,hc⟩
  obtain⟨x,hx,e⟩:=(key v).1 hc
  refine⟨x,hx,?_⟩
  unfold eE at e
  unfold sW
  simp only[bL,Bool.or_eq_true,beq_iff_eq]at e⊢
  rcases e with⟨e1,e2|e2⟩
  ·exact⟨e1,.inl e2.1⟩
  ·exact⟨e1,.inr e2.2⟩
 ·rintro⟨x,hx,e⟩
  have hl:=xW h hx
  unfold sW at e
  simp only[bL,Bool.or_eq_true,beq_iff_eq]at e
  rcases e with⟨e1,e2|e2⟩
  ·exact⟨x.b,iD.2 (by omega),(key _).2 ⟨x,hx,by unfold eE;simp[e1,e2]⟩⟩
  ·exact⟨x.a,iD.2 (by omega),(key _).2 ⟨x,hx,by unfold eE;simp[e1,e2]⟩⟩
theorem HN(t0 t2:T)(ls:List bH)(node n:Int)(h:du (kj n) iC ls=true)(hl:ls.length<=12):F4 [t0,.l (ls.map cT),t2,ii node]=some [.l ((lh ls node).map aE)]:=by
 rw[aor];simp(disch:=omega) only[↓pq,↓pj,ps,pz,↓reduceIte,af,ah,ai,aj,ak,ap,aq,au,av,qL_,MG]
 refine(o6 3 (λi c=>[.l (c.map aE),ii i]) (λc i=>if ls.any (sW node (i:Int))=true then c++[(i:Int)]else c) (λc=>some [T.l (c.map aE)]) [] (λi c=>c.length<=i) rfl (c_ (by omega)) (by simp) ?_ ?_).trans ?_
 ·intro i c hi hc
  have aU:(i:Int)<=2:=by omega
  refine⟨by split;(· simp;omega);(· omega),λq=>?_⟩
  have hn:=atL h node (i:Int)
  by_cases k:ls.any (sW node (i:Int))=true
  ·have h1:((zD ls node (i:Int)).length:Int)>0:=by have:=hn.2 k;omega
   simp(disch:=omega) only[↓pq,↓pj,ps,pz,↓reduceIte,af,ah,ai,aj,ak,ap,aq,au,av,qL_,aU,acR _ _ _ _ _ hl,k,h1]
  ·have h1:¬((zD ls node (i:Int)).length:Int)>0:=by
    intro hc
    exact k (hn.1 (by omega))
   simp(disch:=omega) only[↓pq,↓pj,ps,pz,↓reduceIte,af,ah,ai,aj,ak,ap,aq,au,av,qL_,aU,acR _ _ _ _ _ hl,k,h1,cE]
 ·intro c q hc
  simp(disch:=omega) only[↓pq,↓pj,ps,pz,↓reduceIte,af,ah,ai,aj,ak,ap,aq,au,av,qL_,]
 ·unfold lh
  rw[IR (λi:Nat=>ls.any (sW node (i:Int))) (λi:Nat=>(i:Int)),show three=(List.range 3).map (λi:Nat=>(i:Int)) from rfl,List.filter_map]
  rfl
def AF(ls:List bH)(node:Int):Bool:=(lh ls node).contains 0&&decide ((lh ls node).length>1)
theorem acS(t0 t2:T)(ls:List bH)(node n:Int)(h:du (kj n) iC ls=true)(hl:ls.length<=12):CK [t0,.l (ls.map cT),t2,ii node]=some [bb (AF ls node)]:=by
 have Es:=HL ls node
 rw[aq'];simp(disch:=omega) only[↓pq,↓pj,ps,pz,↓reduceIte,af,ah,ai,aj,ak,ap,aq,au,av,NX,HM _ _ _ _ _ h hl,wO _ _ (show(lh ls node).length<=1048576 by omega)]
 unfold AF
 cases(lh ls node).contains 0 with
 |true=>simp(disch:=omega) only[↓pq,↓pj,ps,pz,↓reduceIte,af,ah,ai,aj,ak,ap,aq,au,av,];simp;omega
 |false=>simp(disch:=omega) only[↓pq,↓pj,ps,pz,↓reduceIte,af,ah,ai,aj,ak,ap,aq,au,av,cE];simp
theorem HO(t0 t2:T)(ls:List bH)(node n:Int)(h:du (kj n) iC ls=true)(hl:ls.length<=12):LH [t0,.l (ls.map cT),t2,ii node]=some [bb (AF ls node)]:=by
 have Es:=HL ls node
 rw[aoz];simp(disch:=omega) only[↓pq,↓pj,ps,pz,↓reduceIte,af,ah,ai,aj,ak,ap,aq,au,av,MK,HN _ _ _ _ _ h hl]
 unfold AF
 by_cases k:((lh ls node).length:Int)>1
 ·have k':(lh ls node).length>1:=by omega
  have h0:∀(p:Int->Bool),(three.filter p).length>1->(three.filter p).contains 0=decide (gt (three.filter p) 0=0):=by
   intro p hp
   unfold three at hp⊢
   simp only[List.filter_cons,List.filter_nil]at hp⊢
   revert hp
   cases p 0<;>cases p 1<;>cases p 2<;>first|(intro _;rfl)|(intro h;exact absurd h (by decide))
  rw[show(lh ls node).contains 0=decide (gt (lh ls node) 0=0) from h0 _ k']
  simp(disch:=omega) only[↓pq,↓pj,ps,pz,↓reduceIte,af,ah,ai,aj,ak,ap,aq,au,av,k,k',decide_true,Bool.and_true]
  rfl
 ·have k':¬(lh ls node).length>1:=by omega
  simp(disch:=omega) only[↓pq,↓pj,ps,pz,↓reduceIte,af,ah,ai,aj,ak,ap,aq,au,av,k,k',decide_false,Bool.and_false]
def qv(ae fr:Int)(w:Way):ay:=⟨ae,2,fr,w.to,0,[],w.cost,false⟩
def uL(here:List Way)(fr:Int)(k:Int):Bool:=decide (fb here k<0)&&decide (k≠fr)
def zE(here:List Way)(ae fr:Int)(W:List Way)(k:Int):Option ay:=if uL here fr k=true then(dD W k).map (qv ae fr)else none
def li(here:List Way)(ae fr:Int)(W:List Way):List ay:=vA.filterMap (zE here ae fr W)
theorem zF{here:List Way}{ae fr:Int}{W:List Way}{k:Int}{r:ay}(h:zE here ae fr W k=some r):r.key=k∧r.ae=ae∧r.kind=2∧r.owner=fr∧r.aX=[]∧r.seq=0∧r.e_=false∧uL here fr k=true∧∃w,dD W k=some w∧r=qv ae fr w:=by
 unfold zE at h
 split at h
 ·rename_i hc
  obtain⟨w,hw,e⟩:=Option.map_eq_some_iff.1 h
  subst e
  exact⟨(xU hw).2,rfl,rfl,rfl,rfl,rfl,rfl,hc,w,hw,rfl⟩
 ·cases h
theorem jx{here:List Way}{ae fr:Int}{W:List Way}{r:ay}:r∈li here ae fr W↔(1<=r.key∧r.key<=6)∧zE here ae fr W r.key=some r:=by
 unfold li
 rw[List.mem_filterMap]
 constructor
 ·rintro⟨k,hk,h⟩
  have:=(zF h).1
  subst this
  exact⟨iD.1 hk,h⟩
 ·rintro⟨h1,h2⟩
  exact⟨r.key,iD.2 h1,h2⟩
theorem acT(here:List Way)(ae fr:Int)(W:List Way):(li here ae fr W).Pairwise λa b=>a.key<b.key:=by
 unfold li
 rw[List.pairwise_filterMap]
 refine nN.imp λ{a b} lu x hx y hy=>?_
 rw[(zF hx).1,(zF hy).1]
 exact lu
theorem Ph(here:List Way)(ae fr:Int)(W:List Way):(li here ae fr W).length<=6:=List.length_filterMap_le _ _
theorem Pj{here:List Way}{ae fr:Int}{W:List Way}{r:ay}(h:r∈li here ae fr W):r.ae=ae∧r.kind=2∧r.owner=fr∧r.aX=[]:=by
 have:=zF (jx.1 h).2
 exact⟨this.2.1,this.2.2.1,this.2.2.2.1,this.2.2.2.2.1⟩
theorem Pk(here:List Way)(ae fr:Int)(W:List Way):ig (li here ae fr W):=by
 unfold ig
 refine(acT here ae fr W).imp_of_mem λ{a b} ha hb lu=>?_
 have h1:=Pj ha
 have h2:=Pj hb
 rw[pG]
 omega
theorem acU(here:List Way)(ae fr:Int)(W:List Way):aQ (li here ae fr W):=λr hr=>by
 rw[(Pj hr).2.2.2];simp
theorem HP(W:List Way)(w:Way)(k:Int):dD (W++[w]) k=(dD W k).or (if w.to=k then some w else none):=by
 rw[acL]
 congr 1
 rw[Dq]
 simp only[List.find?_cons,List.find?_nil]
 by_cases h:w.to=k
 ·simp[h]
 ·have:(w.to==k)=false:=by simpa using h
  rw[this,if_neg h]
theorem QX{here:List Way}{ae fr:Int}{W:List Way}{w:Way}(h:uL here fr w.to=false∨(dD W w.to).isSome=true):li here ae fr (W++[w])=li here ae fr W:=by
 unfold li
 refine congrArg (λf=>List.filterMap f vA) (funext λk=>?_)
 unfold zE
 by_cases hk:uL here fr k=true
 ·rw[if_pos hk,if_pos hk,HP]
  by_cases e:w.to=k
  ·subst e
   rcases h with h|h
   ·rw[h]at hk;cases hk
   ·rw[Option.or_of_isSome h]
  ·rw[if_neg e,Option.or_none]
 ·rw[if_neg hk,if_neg hk]
theorem acV{here:List Way}{ae fr:Int}{W:List Way}{w:Way}(hw:1<=w.to∧w.to<=6)(h1:uL here fr w.to=true)(h2:dD W w.to=none):li here ae fr (W++[w])=cM (li here ae fr W) (qv ae fr w):=by
 have hs:=Jc (Pk here ae fr W) (qv ae fr w)
 refine O4 ay.key (acT _ _ _ _) ?_ λr=>?_
 ·refine hs.imp_of_mem λ{a b} ha hb lu=>?_
  have hm:∀x,x∈cM (li here ae fr W) (qv ae fr w)->x.ae=ae∧x.kind=2∧x.owner=fr:=by
   intro x hx
   rcases wN hx with rfl|hx
   ·exact⟨rfl,rfl,rfl⟩
   ·have:=Pj hx;exact⟨this.1,this.2.1,this.2.2.1⟩
  have h1:=hm a ha
  have h2:=hm b hb
  rw[pG]at lu
  omega
 ·have hp:r∈cM (li here ae fr W) (qv ae fr w)↔r=qv ae fr w∨(r∈li here ae fr W∧r.key≠w.to):=by
   unfold cM
   simp only[List.mem_append,List.mem_filter,List.mem_singleton]
   constructor
   ·rintro(⟨h,q⟩|h|⟨h,q⟩)
    ·have hx:=Pj h
     rw[pG]at q
     simp only[qv]at q
     exact .inr ⟨h,by omega⟩
    ·exact .inl h
    ·have hx:=Pj h
     rw[pG]at q
     simp only[qv]at q
     exact .inr ⟨h,by omega⟩
   ·rintro(h|⟨h,q⟩)
    ·exact .inr (.inl h)
    ·have hx:=Pj h
     rcases Int.lt_or_gt_of_ne q with q|q
     ·exact .inl ⟨h,by rw[pG];simp only[qv];omega⟩
     ·exact .inr (.inr ⟨h,by rw[pG];simp only[qv];omega⟩)
  rw[hp,jx,jx]
  unfold zE
  constructor
  ·rintro⟨hk,h⟩
   split at h
   ·rename_i hc
    rw[HP]at h
    by_cases e:w.to=r.key
    ·rw[if_pos e,<-e,h2,Option.none_or]at h
     simp only[Option.map_some,bP]at h
     exact .inl h.symm
    ·rw[if_neg e,Option.or_none]at h
     exact .inr ⟨⟨hk,by rw[if_pos hc];exact h⟩,λe'=>e e'.symm⟩
   ·cases h
  ·rintro(rfl|⟨⟨hk,h⟩,dU⟩)
   ·refine⟨hw,?_⟩
    show(if uL here fr w.to=true then _ else none)=_
    rw[if_pos h1]
    show(dD (W++[w]) w.to).map _=_
    rw[HP,h2,if_pos rfl]
    rfl
   ·refine⟨hk,?_⟩
    have e1:dD (W++[w]) r.key=dD W r.key:=by rw[HP,if_neg (λe:w.to=r.key=>dU e.symm),Option.or_none]
    rw[e1]
    exact h
def acW(A:List Int)(ae:Int):List Int:=A.filter λa=>!(a==ae)
def HQ(s:List ay)(A:List Int)(fr ae:Int):List Way:=within s (acW A ae) fr++if ae=0 then []else beyond s A true fr
def cA(s:List ay)(A:List Int)(fr ae:Int):List ay:=li (aP s ae fr) ae fr (HQ s A fr ae)
theorem acX(here:List Way)(ae fr:Int):li here ae fr []=[]:=by
 unfold li
 rw[List.filterMap_eq_nil_iff]
 intro k _
 unfold zE
 have:dD [] k=none:=rfl
 rw[this]
 split<;>rfl
theorem atM(W:List Way)(k:Int):(dD W k).isSome=true↔¬fb W k<0:=by
 unfold dD
 split<;>simp_all
theorem acY{here:List Way}{ae fr:Int}{W:List Way}{w:Way}(hw:1<=w.to∧w.to<=6)(h1:uL here fr w.to=true):bA (li here ae fr W) (qv ae fr w)<0↔dD W w.to=none:=by
 unfold bA
 rw[D8]
 constructor
 ·intro h
  cases e:dD W w.to with
  |none=>rfl
  |some v=>
   have hv:=(xU e).2
   have hm:qv ae fr v∈li here ae fr W:=jx.2 ⟨by show 1<=v.to∧v.to<=6;omega,by
    show zE here ae fr W v.to=_
    unfold zE
    rw[hv,if_pos h1,e];rfl⟩
   have:=h _ hm
   simp[dS,qv,hv]at this
 ·intro h x hx
  have h2:=jx.1 hx
  obtain⟨h3,_,_,_,_,_,_,_,v,h4,h5⟩:=zF h2.2
  cases hs:dS x (qv ae fr w)with
  |false=>rfl
  |true=>
   have:x.key=w.to:=by simp only[dS,bL,decide_eq_true_eq]at hs;exact hs.2.2.2
   rw[this,h]at h4;cases h4
theorem atN(s:List ay)(A:List Int)(fr ae:Int)(h:s.length<=1048576)(hn:aQ s)(ha:A.length<=1048576):CO [.l (s.map aw),.l (A.map aE),ii fr,ii ae]=some [.l ((cA s A fr ae).map aw)]:=by
 rw[ary];simp(disch:=omega) only[↓pq,↓pj,ps,pz,↓reduceIte,af,ah,ai,aj,ak,ap,aq,au,av,vt,vu,vw,N8]
 refine(gO A (λj c=>[.l (c.map aE),ii j]) (λc a=>if(!(a==ae))=true then c++[a]else c) (λc=>if c.length<=1048576 then some [T.l ((li (aP s ae fr) ae fr (within s c fr++if ae=0 then []else beyond s A true fr)).map aw)]else none) [] (λj c=>c.length<=j) rfl (c_ ha) (by simp) ?_ ?_).trans ?_
 ·intro j c hj hc
  refine⟨by split;(· simp;omega);(· omega),λq=>?_⟩
  by_cases k:gt A j=ae
  ·have:(!(gt A j==ae))=false:=by simpa using k
   rw[this]
   simp(disch:=omega) only[↓pq,↓pj,ps,pz,↓reduceIte,af,ah,ai,aj,ak,ap,aq,au,av,vt,vu,vw,hj,k,cE]
  ·have:(!(gt A j==ae))=true:=by simpa using k
   rw[this]
   simp(disch:=omega) only[↓pq,↓pj,ps,pz,↓reduceIte,af,ah,ai,aj,ak,ap,aq,au,av,vt,vu,vw,hj,k]
 ·intro c q hc
  rw[if_pos (by omega)]
  have hH:=OW s ae fr h hn
  have hWl:=HJ (s:=s) (A:=c) (fr:=fr)
  have hBl:=acQ (s:=s) (A:=A) (z:=true) (fr:=fr)
  have hT:=λk:Int=>OK (aP s ae fr) k (by have:=Pb (s:=s) (a:=ae) (fr:=fr);omega) O'
  simp(disch:=omega) only[↓pq,↓pj,ps,pz,↓reduceIte,af,ah,ai,aj,ak,ap,aq,au,av,vt,vu,vw,hH,acB s c fr h hn (by omega)]
  refine(gO (within s c fr) (λj P=>[ii j,.l ((li (aP s ae fr) ae fr P).map aw),.l ((within s c fr).map bB)]) (λP w=>P++[w]) (λP=>some [T.l ((li (aP s ae fr) ae fr (P++if ae=0 then []else beyond s A true fr)).map aw)]) [] (λ_ _=>True) (by rw[acX];rfl) (c_ (by omega)) trivial ?_ ?_).trans (by rw[O7,List.nil_append])
  ·intro j P hj _
   refine⟨trivial,λq=>?_⟩
   have hm:=(acP (iT (l:=within s c fr) (n:=(j:Int)) (by omega) hj)).1
   generalize hw:gt (within s c fr) (j:Int)=w at hm
   have hTl:=Ph (aP s ae fr) ae fr P
   have hk:=He (li (aP s ae fr) ae fr P) ae 2 fr w.to (ii 0) (.l []) (ii w.cost) (bb false) (by omega)
   rw[show dJ (λx=>dS x ⟨ae,2,fr,w.to,0,[],0,false⟩) (li (aP s ae fr) ae fr P)=bA (li (aP s ae fr) ae fr P) (qv ae fr w) from rfl]at hk
   have hp:=Da (li (aP s ae fr) ae fr P) ae 2 fr w.to 0 [] w.cost false (by omega) (acU _ _ _ _) (Pk _ _ _ _) (by simp)
   rw[show(⟨ae,2,fr,w.to,0,[],w.cost,false⟩:ay)=qv ae fr w from rfl]at hp
   rw[List.map_nil]at hp
   have hT:=hT w.to
   by_cases k1:fb (aP s ae fr) w.to<0
   ·rw[if_pos k1]at hT
    by_cases k2:w.to=fr
    ·rw[QX (.inl (by unfold uL;simp[k2]))]
     rw[k2]at hT
     simp(disch:=omega) only[↓pq,↓pj,ps,pz,↓reduceIte,af,ah,ai,aj,ak,ap,aq,au,av,vt,vu,vw,hj,hw,hT,k2,cE]
    ·have ht:uL (aP s ae fr) fr w.to=true:=by unfold uL;simp[k1,k2]
     have jW:=acY (ae:=ae) (W:=P) hm ht
     cases ho:dD P w.to with
     |none=>
      rw[acV hm ht ho]
      have jW:=jW.2 ho
      simp(disch:=omega) only[↓pq,↓pj,ps,pz,↓reduceIte,af,ah,ai,aj,ak,ap,aq,au,av,vt,vu,vw,hj,hw,hT,k2,cE,hk,jW,hp]
     |some v=>
      rw[QX (.inr (by rw[ho];rfl))]
      have jW:¬bA (li (aP s ae fr) ae fr P) (qv ae fr w)<0:=λh=>by rw[jW.1 h]at ho;cases ho
      simp(disch:=omega) only[↓pq,↓pj,ps,pz,↓reduceIte,af,ah,ai,aj,ak,ap,aq,au,av,vt,vu,vw,hj,hw,hT,k2,cE,hk,jW]
   ·rw[if_neg k1]at hT
    simp only[bB,List.cons_append,List.nil_append]at hT
    rw[QX (.inl (by unfold uL;simp[k1]))]
    simp(disch:=omega) only[↓pq,↓pj,ps,pz,↓reduceIte,af,ah,ai,aj,ak,ap,aq,au,av,vt,vu,vw,hj,hw,hT]
  ·intro P q _
   by_cases k0:ae=0
   ·rw[if_pos k0,List.append_nil]
    simp(disch:=omega) only[↓pq,↓pj,ps,pz,↓reduceIte,af,ah,ai,aj,ak,ap,aq,au,av,vt,vu,vw,k0]
   ·rw[if_neg k0]
    simp(disch:=omega) only[↓pq,↓pj,ps,pz,↓reduceIte,af,ah,ai,aj,ak,ap,aq,au,av,vt,vu,vw,k0,atv s A true fr h hn ha]
    refine(gO (beyond s A true fr) (λj P=>[ii j,.l ((li (aP s ae fr) ae fr P).map aw),.l ((beyond s A true fr).map bB)]) (λP w=>P++[w]) (λP=>some [T.l ((li (aP s ae fr) ae fr P).map aw)]) P (λ_ _=>True) rfl (c_ (by omega)) trivial ?_ ?_).trans (by rw[O7])
    ·intro j P hj _
     refine⟨trivial,λq=>?_⟩
     have hm:=(Pf (iT (l:=beyond s A true fr) (n:=(j:Int)) (by omega) hj)).1
     generalize hw:gt (beyond s A true fr) (j:Int)=w at hm
     have hTl:=Ph (aP s ae fr) ae fr P
     have hk:=He (li (aP s ae fr) ae fr P) ae 2 fr w.to (ii 0) (.l []) (ii w.cost) (bb false) (by omega)
     rw[show dJ (λx=>dS x ⟨ae,2,fr,w.to,0,[],0,false⟩) (li (aP s ae fr) ae fr P)=bA (li (aP s ae fr) ae fr P) (qv ae fr w) from rfl]at hk
     have hp:=Da (li (aP s ae fr) ae fr P) ae 2 fr w.to 0 [] w.cost false (by omega) (acU _ _ _ _) (Pk _ _ _ _) (by simp)
     rw[show(⟨ae,2,fr,w.to,0,[],w.cost,false⟩:ay)=qv ae fr w from rfl]at hp
     rw[List.map_nil]at hp
     have hT:=hT w.to
     by_cases k1:fb (aP s ae fr) w.to<0
     ·rw[if_pos k1]at hT
      by_cases k2:w.to=fr
      ·rw[QX (.inl (by unfold uL;simp[k2]))]
       rw[k2]at hT
       simp(disch:=omega) only[↓pq,↓pj,ps,pz,↓reduceIte,af,ah,ai,aj,ak,ap,aq,au,av,vt,vu,vw,hj,hw,hT,k2,cE]
      ·have ht:uL (aP s ae fr) fr w.to=true:=by unfold uL;simp[k1,k2]
       have jW:=acY (ae:=ae) (W:=P) hm ht
       cases ho:dD P w.to with
       |none=>
        rw[acV hm ht ho]
        have jW:=jW.2 ho
        simp(disch:=omega) only[↓pq,↓pj,ps,pz,↓reduceIte,af,ah,ai,aj,ak,ap,aq,au,av,vt,vu,vw,hj,hw,hT,k2,cE,hk,jW,hp]
       |some v=>
        rw[QX (.inr (by rw[ho];rfl))]
        have jW:¬bA (li (aP s ae fr) ae fr P) (qv ae fr w)<0:=λh=>by rw[jW.1 h]at ho;cases ho
        simp(disch:=omega) only[↓pq,↓pj,ps,pz,↓reduceIte,af,ah,ai,aj,ak,ap,aq,au,av,vt,vu,vw,hj,hw,hT,k2,cE,hk,jW]
     ·rw[if_neg k1]at hT
      simp only[bB,List.cons_append,List.nil_append]at hT
      rw[QX (.inl (by unfold uL;simp[k1]))]
      simp(disch:=omega) only[↓pq,↓pj,ps,pz,↓reduceIte,af,ah,ai,aj,ak,ap,aq,au,av,vt,vu,vw,hj,hw,hT]
    ·intro P q _
     simp(disch:=omega) only[↓pq,↓pj,ps,pz,↓reduceIte,af,ah,ai,aj,ak,ap,aq,au,av,vt,vu,vw,]
 ·rw[y9,List.nil_append,if_pos (by have:=List.length_filter_le (λa=>!(a==ae)) A;omega)]
  rfl
theorem atO{s:List ay}(hs:dv s=false)(A:List Int)(fr ae:Int):cA s A fr ae=[]:=by
 have hw:∀a,aP s a fr=[]:=λa=>by unfold aP;rw[if_neg (by rw[hs];simp)]
 have h1:∀A,qu s A fr=[]:=λA=>by unfold qu;rw[List.flatMap_eq_nil_iff];intro a _;exact hw a
 have h2:∀A,within s A fr=[]:=λA=>by unfold within;rw[h1];rfl
 have h3:beyond s A true fr=[]:=by
  unfold beyond
  have:Er s A true fr=[]:=by
   unfold Er
   rw[List.filterMap_eq_nil_iff]
   intro x hx
   cases e:iL s A true fr x with
   |none=>rfl
   |some w=>
    obtain⟨_,y,hy,_⟩:=zC e
    have:=(HI hy).2.2.2.2
    rw[hs]at this;cases this
  rw[this];rfl
 unfold cA HQ
 rw[h2,h3]
 have:(if ae=0 then([]:List Way)else [])=[]:=by split<;>rfl
 rw[this]
 exact acX _ _ _
theorem Pl{W:List Way}(hl:W.length<=1048576)(hW:∀w∈W,w.aW.length<=1048576)(k:Int):Al [.l (W.map bB),ii k]=some (match dD W k with|none=>[ii 0,ii 0,.l [],bb false]|some w=>bB w++[bb true]):=by
 rw[Hm W k hl hW]
 unfold dD
 split<;>rfl
theorem acZ(s:List ay)(A:List Int)(fr ae:Int)(h:s.length<=1048576)(hn:aQ s)(ha:A.length<=1048576):LQ [.l (s.map aw),.l (A.map aE),ii fr,ii ae]=some [.l ((cA s A fr ae).map aw)]:=by
 rw[ao'];simp(disch:=omega) only[↓pq,↓pj,ps,pz,↓reduceIte,af,ah,ai,aj,ak,ap,aq,au,av,xI,xJ,M3,k4_ _ h hn]
 cases hs:dv s with
 |false=>rw[atO hs];simp(disch:=omega) only[↓pq,↓pj,ps,pz,↓reduceIte,af,ah,ai,aj,ak,ap,aq,au,av,xI,xJ,cE];rfl
 |true=>
 simp(disch:=omega) only[↓pq,↓pj,ps,pz,↓reduceIte,af,ah,ai,aj,ak,ap,aq,au,av,xI,xJ,]
 refine(gO A (λj c=>[.l (c.map aE),ii j]) (λc a=>if(!(a==ae))=true then c++[a]else c) (λc=>if c.length<=1048576 then some [T.l ((li (aP s ae fr) ae fr (within s c fr++if ae=0 then []else beyond s A true fr)).map aw)]else none) [] (λj c=>c.length<=j) rfl (c_ ha) (by simp) ?_ ?_).trans ?_
 ·intro j c hj hc
  refine⟨by split;(· simp;omega);(· omega),λq=>?_⟩
  by_cases k:gt A j=ae
  ·have:(!(gt A j==ae))=false:=by simpa using k
   rw[this]
   simp(disch:=omega) only[↓pq,↓pj,ps,pz,↓reduceIte,af,ah,ai,aj,ak,ap,aq,au,av,xI,xJ,hj,k,cE]
  ·have:(!(gt A j==ae))=true:=by simpa using k
   rw[this]
   simp(disch:=omega) only[↓pq,↓pj,ps,pz,↓reduceIte,af,ah,ai,aj,ak,ap,aq,au,av,xI,xJ,hj,k]
 ·intro c q hc
  rw[if_pos (by omega)]
  have hWl:=HJ (s:=s) (A:=c) (fr:=fr)
  have hBl:=acQ (s:=s) (A:=A) (z:=true) (fr:=fr)
  have hT:=λk:Int=>Pl (W:=aP s ae fr) (by have:=Pb (s:=s) (a:=ae) (fr:=fr);omega) O' k
  have hU:=λk:Int=>Pl (W:=within s c fr) (by omega) O_ k
  have hV:=λk:Int=>Pl (W:=beyond s A true fr) (by omega) (λw hw=>by have:=sT (Pf hw).2.1;omega) k
  simp(disch:=omega) only[↓pq,↓pj,ps,pz,↓reduceIte,af,ah,ai,aj,ak,ap,aq,au,av,xI,xJ,O2 s ae fr h hn,acF s c fr h hn (by omega),atC s A true fr h hn ha]
  refine(o6 6 (λi D=>[.l (D.map aw),ii (i+1)]) (λD i=>D++(zE (aP s ae fr) ae fr (within s c fr++if ae=0 then []else beyond s A true fr) ((i:Int)+1)).toList) (λD=>some [T.l (D.map aw)]) [] (λi D=>D.length<=i) rfl (c_ (by omega)) (by simp) ?_ ?_).trans ?_
  ·intro i D hi hD
   have aU:(i:Int)+1<=6:=by omega
   have hT:=hT ((i:Int)+1)
   have hU:=hU ((i:Int)+1)
   have hV:=hV ((i:Int)+1)
   refine⟨by cases zE (aP s ae fr) ae fr (within s c fr++if ae=0 then []else beyond s A true fr) ((i:Int)+1)<;>simp<;>omega,λq=>?_⟩
   have nE:∀c:Int,Prim.ev (.lit 8 [true,true,true,true,true,false,true,true]) [ii ae,ii 2,ii fr,ii ((i:Int)+1),ii 0,.l [],ii c,bb false]=some (.l ([(⟨ae,2,fr,(i:Int)+1,0,[],c,false⟩:ay)].map aw)):=λc=>Vk ae 2 fr ((i:Int)+1) 0 [] c false
   unfold zE uL
   have hz:(dD (aP s ae fr) ((i:Int)+1)).isSome=true↔¬fb (aP s ae fr) ((i:Int)+1)<0:=atM _ _
   cases hh:dD (aP s ae fr) ((i:Int)+1)with
   |some w=>
    rw[hh]at hT hz
    have k1:¬fb (aP s ae fr) ((i:Int)+1)<0:=hz.1 rfl
    simp only[bB,List.cons_append,List.nil_append]at hT
    rw[if_neg (by simp[k1])]
    simp(disch:=omega) only[↓pq,↓pj,ps,pz,↓reduceIte,af,ah,ai,aj,ak,ap,aq,au,av,xI,xJ,aU,hT,Option.toList_none,List.append_nil]
   |none=>
    rw[hh]at hT hz
    have k1:fb (aP s ae fr) ((i:Int)+1)<0:=by
     rcases Int.lt_or_le (fb (aP s ae fr) ((i:Int)+1)) 0 with h|h
     ·exact h
     ·have:=hz.2 (by omega);cases this
    simp only[]at hT
    by_cases k2:(i:Int)+1=fr
    ·rw[if_neg (by simp[k2])]
     subst k2
     simp(disch:=omega) only[↓pq,↓pj,ps,pz,↓reduceIte,af,ah,ai,aj,ak,ap,aq,au,av,xI,xJ,aU,hT,eq_self,Option.toList_none,List.append_nil,cE]
    rw[if_pos (by simp[k1,k2]),acL]
    cases hu:dD (within s c fr) ((i:Int)+1)with
    |some w=>
     rw[hu]at hU
     have Ln:=(xU hu).2
     simp only[bB,List.cons_append,List.nil_append]at hU
     rw[Option.some_or]
     simp only[Option.map_some,Option.toList_some,qv,Ln]
     simp(disch:=omega) only[↓pq,↓pj,ps,pz,↓reduceIte,af,ah,ai,aj,ak,ap,aq,au,av,xI,xJ,aU,hT,hU,k2,cE,nE]
    |none=>
     rw[hu]at hU
     simp only[]at hU
     rw[Option.none_or]
     by_cases k3:ae=0
     ·rw[if_pos k3]
      subst k3
      rw[show dD [] ((i:Int)+1)=none from rfl]
      simp(disch:=omega) only[↓pq,↓pj,ps,pz,↓reduceIte,af,ah,ai,aj,ak,ap,aq,au,av,xI,xJ,aU,hT,hU,k2,eq_self,cE,Option.map_none,Option.toList_none,List.append_nil]
     ·rw[if_neg k3]
      cases hv:dD (beyond s A true fr) ((i:Int)+1)with
      |none=>
       rw[hv]at hV
       simp only[]at hV
       simp(disch:=omega) only[↓pq,↓pj,ps,pz,↓reduceIte,af,ah,ai,aj,ak,ap,aq,au,av,xI,xJ,aU,hT,hU,hV,k2,k3,cE,Option.map_none,Option.toList_none,List.append_nil]
      |some w=>
       rw[hv]at hV
       have Ln:=(xU hv).2
       simp only[bB,List.cons_append,List.nil_append]at hV
       simp only[Option.map_some,Option.toList_some,qv,Ln]
       simp(disch:=omega) only[↓pq,↓pj,ps,pz,↓reduceIte,af,ah,ai,aj,ak,ap,aq,au,av,xI,xJ,aU,hT,hU,hV,k2,k3,cE,nE]
  ·intro D q hD
   simp(disch:=omega) only[↓pq,↓pj,ps,pz,↓reduceIte,af,ah,ai,aj,ak,ap,aq,au,av,xI,xJ,]
  ·rw[QW (λi:Nat=>(zE (aP s ae fr) ae fr (within s c fr++if ae=0 then []else beyond s A true fr) ((i:Int)+1)).toList),List.nil_append,HH]
   unfold li
   rw[Dk,List.filterMap_map]
   rfl
 ·rw[y9,List.nil_append,if_pos (by have:=List.length_filter_le (λa=>!(a==ae)) A;omega)]
  rfl
theorem Pm{α:Type} [Inhabited α]{ok:α->Bool}{lt:α->α->Bool}(tr:∀a b c,lt a b=true->lt b c=true->lt a c=true){l:List α}(h:du ok lt l=true):l.Pairwise λa b=>lt a b=true:=by
 have h:=bW.1 h
 rw[List.pairwise_iff_getElem]
 have step:∀i,(hi:i+1<l.length)->lt l[i] l[i+1]=true:=by
  intro i hi
  have:=h (i+1) hi
  simp only[bL,Bool.or_eq_true,Bool.not_eq_true',decide_eq_false_iff_not]at this
  have h2:=this.2.resolve_left (by omega)
  rwa[show(((i+1:Nat):Int)-1)=(i:Int) by omega,eh (by omega),eh hi]at h2
 intro i j hi hj oI
 obtain⟨d,rfl⟩:∃d,j=i+1+d:=⟨j-i-1,by omega⟩
 clear oI
 induction d with
 |zero=>exact step i (by omega)
 |succ d ih=>exact tr _ _ _ (ih (by omega)) (step (i+1+d) (by omega))
theorem zG{α:Type} [Inhabited α]{ok:α->Bool}{lt:α->α->Bool}{l:List α}(h1:∀x∈l,ok x=true)(h2:l.Pairwise λa b=>lt a b=true):du ok lt l=true:=by
 unfold du
 rw[bW]
 intro i hi
 rw[eh hi]
 simp only[bL,Bool.or_eq_true,Bool.not_eq_true',decide_eq_false_iff_not]
 refine⟨h1 _ (List.getElem_mem hi),?_⟩
 rcases Nat.eq_zero_or_pos i with h0|h0
 ·exact .inl (by omega)
 ·right
  rw[show((i:Int)-1)=((i-1:Nat):Int) by omega,eh (by omega)]
  exact List.pairwise_iff_getElem.1 h2 (i-1) i (by omega) hi (by omega)
theorem atP{n:Int}{ls:List bH}(h:du (kj n) iC ls=true):ls.Pairwise λa b=>iC a b=true:=
 Pm (λa b c h1 h2=>by simp only[iC,decide_eq_true_eq]at *;omega) h
theorem gL{a b ar:Int}{l:bH}:eE a b ar l=true↔l.ae=ar∧(l.a=a∧l.b=b∨l.a=b∧l.b=a):=by
 unfold eE
 simp only[bL,Bool.or_eq_true,beq_iff_eq]
theorem atQ{n:Int}{ls:List bH}(h:du (kj n) iC ls=true){a b ar:Int}{i j:Nat}(hi:i<ls.length)(hj:j<ls.length)(h1:eE a b ar ls[i]=true)(h2:eE a b ar ls[j]=true):i=j:=by
 have hp:=List.pairwise_iff_getElem.1 (atP h)
 have q1:=xW h (List.getElem_mem hi)
 have q2:=xW h (List.getElem_mem hj)
 rw[gL]at h1 h2
 rcases Nat.lt_trichotomy i j with oI|oI|oI
 ·have:=hp i j hi hj oI
  simp only[iC,decide_eq_true_eq]at this
  omega
 ·exact oI
 ·have:=hp j i hj hi oI
  simp only[iC,decide_eq_true_eq]at this
  omega
theorem zH{α:Type} [Inhabited α]{p:α->Bool}{l:List α}{x:α}(hx:x∈l)(h:p x=true):0<=dJ p l:=by
 rcases Int.lt_or_le (dJ p l) 0 with h1|h1
 ·have:=(D8 _ _).1 h1 x hx
  rw[h]at this;cases this
 ·exact h1
theorem ac0{n:Int}{ls:List bH}(h:du (kj n) iC ls=true)(node v a:Int):lg ls node v a>0↔∃x∈ls,eE node v a x=true:=by
 have hz:=QQ h node v a
 constructor
 ·intro hc
  have h0:0<=dJ (eE node v a) ls:=by
   rcases Int.lt_or_le (dJ (eE node v a) ls) 0 with h1|h1
   ·have:=hz.2 h1;omega
   ·exact h1
  exact⟨_,iT h0 (o5 _ _),q_ _ _ h0⟩
 ·rintro⟨x,hx,e⟩
  have h0:=zH hx e
  have h1:=xW h (iT (l:=ls) (n:=dJ (eE node v a) ls) (by omega) (o5 _ _))
  unfold lg
  rw[if_neg (by omega)]
  omega
def rL(ls:List bH)(L:List Bool)(a b ar:Int):Int:=
 if dJ (eE a b ar) ls<0 then 0 else if gt L (dJ (eE a b ar) ls)=true then(gt ls (dJ (eE a b ar) ls)).cost else 0
theorem ac1{n:Int}{ls:List bH}(h:du (kj n) iC ls=true){L:List Bool}{a b ar:Int}(h0:rL ls L a b ar>0):lg ls a b ar>0∧rL ls L a b ar=lg ls a b ar∧lg ls a b ar<=1000∧gt L (dJ (eE a b ar) ls)=true∧0<=dJ (eE a b ar) ls:=by
 unfold rL at h0⊢
 unfold lg
 by_cases h1:dJ (eE a b ar) ls<0
 ·rw[if_pos h1]at h0;omega
 ·rw[if_neg h1]at h0⊢
  rw[if_neg h1]
  by_cases h2:gt L (dJ (eE a b ar) ls)=true
  ·rw[if_pos h2]at h0⊢
   have:=xW h (iT (l:=ls) (n:=dJ (eE a b ar) ls) (by omega) (o5 _ _))
   exact⟨by omega,rfl,by omega,h2,by omega⟩
  ·rw[if_neg h2]at h0;omega
def zI(ls:List bH)(L U:List Bool)(node a:Int):List cC:=(vA.filter λv=>decide (rL ls L node v a>0)&&gt U (v-1)).map λv=>⟨v,rL ls L node v a⟩
theorem Pn{o:Int}{l:List cC}(h1:∀x∈l,(1<=x.to∧x.to<=6)∧x.to≠o∧1<=x.cost∧x.cost<=1000)(h2:l.Pairwise λa b=>a.to<b.to):tH o l=true:=by
 unfold tH
 rw[bW]
 intro i hi
 have h3:=h1 _ (List.getElem_mem hi)
 rw[eh hi]
 simp only[bL,Bool.or_eq_true,Bool.not_eq_true',decide_eq_false_iff_not,be,decide_eq_true_eq]
 refine⟨⟨⟨h3.1,h3.2.1⟩,h3.2.2⟩,?_⟩
 rcases Nat.eq_zero_or_pos i with h0|h0
 ·exact .inl (by omega)
 ·right
  rw[show((i:Int)-1)=((i-1:Nat):Int) by omega,eh (by omega)]
  exact List.pairwise_iff_getElem.1 h2 (i-1) i (by omega) hi (by omega)
theorem atS{n:Int}{ls:List bH}(h:du (kj n) iC ls=true)(L U:List Bool)(node a:Int):tH node (zI ls L U node a)=true:=by
 unfold zI
 refine Pn ?_ ?_
 ·intro x hx
  obtain⟨v,hv,rfl⟩:=List.mem_map.1 hx
  obtain⟨h1,h2⟩:=List.mem_filter.1 hv
  rw[iD]at h1
  simp only[bL,decide_eq_true_eq]at h2
  have h3:=ac1 h h2.1
  obtain⟨y,hy,e⟩:=(ac0 h node v a).1 h3.1
  have h4:=xW h hy
  rw[gL]at e
  refine⟨h1,?_,?_,?_⟩
  ·show v≠node
   omega
  ·show 1<=rL ls L node v a
   omega
  ·show rL ls L node v a<=1000
   omega
 ·rw[List.pairwise_map]
  exact nN.filter _
def qw(r:ay):Bool:=r.kind==3
def iY(k:Nat)(s:List ay):Prop:=ig s∧(∀r∈s,eP r=true)∧(s.filter qw).length<=k
theorem atT{o:Int}{l:List cC}(h:tH o l=true):l.length<=6:=by
 rw[<-List.length_map (f:=cC.to)]
 refine HK (n:=6) ?_ ?_
 ·rw[List.pairwise_map]
  exact acq h
 ·intro x hx
  obtain⟨y,hy,rfl⟩:=List.mem_map.1 hx
  exact(De h hy).1
theorem Dr{r:ay}(h:eP r=true):r.aX.length<=6:=by
 unfold eP at h
 simp only[bL]at h
 have h:=h.2
 split at h
 ·simp only[bL]at h
  exact atT h.1.1.2
 ·split at h
  ·simp only[bL,decide_eq_true_eq]at h
   omega
  ·split at h
   ·simp only[bL,decide_eq_true_eq]at h
    omega
   ·cases h
theorem Po{r:ay}(h:eP r=true):(1<=r.owner∧r.owner<=6)∧(r.kind=1∧r.key=0∧0<=r.ae∧r.ae<=2∨r.kind=2∧(1<=r.key∧r.key<=6)∧0<=r.ae∧r.ae<=2∨r.kind=3):=by
 unfold eP at h
 simp only[bL,be]at h
 refine⟨h.1.1,?_⟩
 have h:=h.2
 split at h
 ·simp only[bL,be,decide_eq_true_eq]at h
  omega
 ·split at h
  ·simp only[bL,be,decide_eq_true_eq]at h
   omega
  ·split at h
   ·omega
   ·cases h
theorem iY.aX{k:Nat}{s:List ay}(h:iY k s):aQ s:=λr hr=>by
 have:=Dr (h.2.1 r hr);omega
theorem atU(s:List ay)(h:∀r∈s,r.kind=1∨r.kind=2∨r.kind=3):s.length=(s.filter λr=>r.kind==1).length+(s.filter λr=>r.kind==2).length+(s.filter qw).length:=by
 induction s with
 |nil=>rfl
 |cons x s ih=>
  have ih:=ih λr hr=>h r (.tail _ hr)
  have hx:=h x (.head _)
  simp only[List.filter_cons,List.length_cons,qw]
  rw[ih]
  rcases hx with hx|hx|hx<;>simp[hx,qw]<;>omega
theorem iY.len{k:Nat}{s:List ay}(h:iY k s):s.length<=126+k:=by
 obtain⟨h1,h2,h3⟩:=h
 have hk:=λr hr=>Po (h2 r hr)
 rw[atU s λr hr=>by have:=hk r hr;omega]
 have a1:(s.filter λr=>r.kind==1).length<=18:=by
  rw[<-List.length_map (f:=λr:ay=>r.ae*6+r.owner)]
  refine HK (n:=18) ?_ ?_
  ·rw[List.pairwise_map]
   refine(h1.filter _).imp_of_mem λ{a b} ha hb lu=>?_
   obtain⟨ha1,ha2⟩:=List.mem_filter.1 ha
   obtain⟨mM,pf⟩:=List.mem_filter.1 hb
   simp only[beq_iff_eq]at ha2 pf
   have:=hk a ha1
   have:=hk b mM
   rw[pG]at lu
   omega
  ·intro x hx
   obtain⟨r,hr,rfl⟩:=List.mem_map.1 hx
   obtain⟨oT,qI⟩:=List.mem_filter.1 hr
   simp only[beq_iff_eq]at qI
   have:=hk r oT
   omega
 have a2:(s.filter λr=>r.kind==2).length<=108:=by
  rw[<-List.length_map (f:=λr:ay=>(r.ae*6+r.owner-1)*6+r.key)]
  refine HK (n:=108) ?_ ?_
  ·rw[List.pairwise_map]
   refine(h1.filter _).imp_of_mem λ{a b} ha hb lu=>?_
   obtain⟨ha1,ha2⟩:=List.mem_filter.1 ha
   obtain⟨mM,pf⟩:=List.mem_filter.1 hb
   simp only[beq_iff_eq]at ha2 pf
   have:=hk a ha1
   have:=hk b mM
   rw[pG]at lu
   omega
  ·intro x hx
   obtain⟨r,hr,rfl⟩:=List.mem_map.1 hx
   obtain⟨oT,qI⟩:=List.mem_filter.1 hr
   simp only[beq_iff_eq]at qI
   have:=hk r oT
   omega
 omega
theorem iY.ok{k:Nat}{s:List ay}(h:iY k s)(hk:k<=24):dv s=true:=by
 have:=h.len
 unfold dv
 rw[bL,decide_eq_true_eq]
 exact⟨by omega,zG h.2.1 h.1⟩
theorem ac2(s:List ay)(r:ay)(p:ay->Bool):((cM s r).filter p).length<=(s.filter p).length+(if p r=true then 1 else 0):=by
 have h1:((s.filter λx=>fC x r).filter p).length+((s.filter λx=>fC r x).filter p).length<=(s.filter p).length:=by
  induction s with
  |nil=>simp
  |cons x s ih=>
   simp only[List.filter_cons]
   cases h:fC x r with
   |true=>
    rw[C_ h]
    cases hp:p x<;>simp[hp]<;>simp at ih<;>omega
   |false=>cases h':fC r x<;>cases hp:p x<;>simp[hp]<;>simp at ih<;>omega
 have h2:([r].filter p).length=if p r=true then 1 else 0:=by
  rw[List.filter_cons]
  split<;>rfl
 unfold cM
 rw[List.filter_append,List.filter_append,List.length_append,List.length_append,h2]
 omega
theorem iY.put{k:Nat}{s:List ay}(h:iY k s){r:ay}(hr:eP r=true):iY (k+if r.kind=3 then 1 else 0) (cM s r):=by
 refine⟨Jc h.1 r,λx hx=>?_,?_⟩
 ·rcases wN hx with rfl|hx
  ·exact hr
  ·exact h.2.1 x hx
 ·have h1:=ac2 s r qw
  have h2:=h.2.2
  have h3:(qw r=true)=(r.kind=3):=by unfold qw;simp
  simp only[h3]at h1
  omega
theorem iY.Pp{k:Nat}{s:List ay}(h:iY k s){r:ay}(hr:eP r=true)(h3:r.kind≠3):iY k (cM s r):=by
 have:=h.put hr
 rwa[if_neg h3]at this
theorem iY.filter{k:Nat}{s:List ay}(h:iY k s)(p:ay->Bool):iY k (s.filter p):=by
 refine⟨h.1.filter _,λx hx=>h.2.1 x (List.mem_filter.1 hx).1,?_⟩
 rw[List.filter_filter]
 refine Nat.le_trans ?_ h.2.2
 rw[<-List.countP_eq_length_filter,<-List.countP_eq_length_filter]
 exact List.countP_mono_left λx _ hx=>(bL _ _▸hx).1
theorem iY.nil:iY 0 []:=⟨.nil,by simp,by simp⟩
theorem iY.mono{k k':Nat}{s:List ay}(h:iY k s)(hk:k<=k'):iY k' s:=⟨h.1,h.2.1,Nat.le_trans h.2.2 hk⟩
theorem ac3{α β σ:Type} [Inhabited α]{F:(σ->Option β)->σ->Option β}{R:Nat}{x:σ}(l:List α)(st:Nat->List α->σ)(p:α->Bool){out:Option β}(hx:x=st 0 [])(hR:l.length<R)
  (step:∀(i:Nat) c,(i:Int)<(l.length:Int)->c.length<=i->∀s,F s (st i c)=s (st (i+1) (if p (gt l i)=true then c++[gt l i]else c)))(fin:∀s,F s (st l.length (l.filter p))=out):
  iter F R x=out:=by
 refine gO l st (λc a=>if p a=true then c++[a]else c) (λ_=>out) [] (λi c=>c=(l.take i).filter p) hx hR rfl ?_ ?_
 ·intro i c hi hc
  have aU:i<l.length:=by omega
  refine⟨?_,λs=>step i c hi (by rw[hc];refine Nat.le_trans (List.length_filter_le _ _) ?_;simp;omega) s⟩
  rw[hc,List.take_add_one,List.filter_append,List.getElem?_eq_getElem aU,eh aU]
  cases hp:p l[i]<;>simp[hp]
 ·intro c s hc
  rw[hc,List.take_length]
  exact fin s
theorem ac4{n:Int}{ls:List bH}(h:du (kj n) iC ls=true){a b ar:Int}{i:Nat}(hi:i<ls.length)(hj:eE a b ar (gt ls (i:Int))=true):dJ (eE a b ar) ls=i:=by
 have h0:=zH (iT (l:=ls) (n:=(i:Int)) (by omega) (by omega)) hj
 have h1:=o5 (eE a b ar) ls
 have h2:=q_ _ _ h0
 obtain⟨k,hk⟩:∃k:Nat,dJ (eE a b ar) ls=k:=⟨(dJ (eE a b ar) ls).toNat,by omega⟩
 rw[hk]at h1 h2⊢
 rw[eh (by omega)]at h2
 rw[eh hi]at hj
 have:=atQ h (by omega) hi h2 hj
 omega
theorem atX(t0 t2:T)(ls:List bH)(L:List Bool)(a b ar n:Int)(h:du (kj n) iC ls=true)(hl:ls.length<=12)(hL:L.length=ls.length):Wc [t0,.l (ls.map cT),t2,.l (L.map iI),ii a,ii b,ii ar]=some [ii (rL ls L a b ar)]:=by
 rw[aot];simp(disch:=omega) only[↓pq,↓pj,ps,pz,↓reduceIte,af,ah,ai,aj,ak,ap,aq,au,av,qH_,MH]
 refine(sH ls.length (λi=>[ii 0,ii i]) (λi=>!(gt L i&&eE a b ar (gt ls i))) (fF:=some [ii (gt ls (dJ (eE a b ar) ls)).cost]) (gV:=some [ii 0]) rfl (c_ (by omega)) ?_ ?_).trans ?_
 ·intro i hi s
  have ln:(i:Int)<L.length:=by omega
  by_cases hj:eE a b ar (gt ls i)=true
  ·rw[ac4 h (by omega) hj,hj]
   rw[gL]at hj
   simp(disch:=omega) only[↓pq,↓pj,ps,pz,↓reduceIte,af,ah,ai,aj,ak,ap,aq,au,av,qH_,hi,ln]
   grind
  ·have qY:eE a b ar (gt ls i)=false:=by simpa using hj
   rw[qY]
   rw[gL]at hj
   simp(disch:=omega) only[↓pq,↓pj,ps,pz,↓reduceIte,af,ah,ai,aj,ak,ap,aq,au,av,qH_,hi,ln]
   grind
 ·intro s
  simp(disch:=omega) only[↓pq,↓pj,ps,pz,↓reduceIte,af,ah,ai,aj,ak,ap,aq,au,av,qH_,]
 ·unfold rL
  have h1:=o5 (eE a b ar) ls
  have qZ:ke ls.length (λi=>!(gt L i&&eE a b ar (gt ls i)))=true↔¬(0<=dJ (eE a b ar) ls∧gt L (dJ (eE a b ar) ls)=true):=by
   rw[bW]
   constructor
   ·rintro hA ⟨h0,h2⟩
    have h3:=hA (dJ (eE a b ar) ls).toNat (by omega)
    rw[show(((dJ (eE a b ar) ls).toNat:Nat):Int)=dJ (eE a b ar) ls by omega,h2,q_ _ _ h0]at h3
    cases h3
   ·intro hn i hi
    cases hg:gt L (i:Int)&&eE a b ar (gt ls (i:Int))with
    |false=>rfl
    |true=>
     rw[bL]at hg
     have hu:=ac4 h hi hg.2
     exact absurd ⟨by omega,by rw[hu];exact hg.1⟩ hn
  by_cases h0:dJ (eE a b ar) ls<0
  ·rw[if_pos (qZ.2 λhc=>by omega),if_pos h0]
  ·by_cases h2:gt L (dJ (eE a b ar) ls)=true
   ·rw[if_neg (λhc=>qZ.1 hc ⟨by omega,h2⟩),if_neg h0,if_pos h2]
   ·rw[if_pos (qZ.2 λhc=>h2 hc.2),if_neg h0,if_neg h2]
def gZ(r:ay):ay:={r with seq:=1}
def eQ(f:ay->ay)(s l:List ay):List ay:=l.foldl (λc r=>cM c (f r)) s
def Ds(v:Int)(r:ay):Bool:=!(r.kind==2&&r.owner==v)
def zJ(s:List ay)(A:List Int)(v:Int):List ay:=eQ gZ (s.filter (Ds v)) (A.flatMap λa=>cA s A v a)
theorem Jl(s:List ay)(A:List Int)(fr ae:Int):(cA s A fr ae).length<=6:=Ph _ _ _ _
theorem atY{W:List Way}{k:Int}{w:Way}(h:dD W k=some w):w∈W:=by
 rw[Dq]at h
 exact List.mem_of_find?_eq_some h
theorem QY{s:List ay}{A:List Int}{fr ae:Int}{r:ay}(h:r∈cA s A fr ae):r.ae=ae∧r.kind=2∧r.owner=fr∧(1<=r.key∧r.key<=6)∧r.aX=[]∧r.seq=0∧(0<=r.cost∧r.cost<=60000)∧r.e_=false∧r.key≠fr:=by
 unfold cA at h
 obtain⟨h1,h2⟩:=jx.1 h
 obtain⟨_,h3,h4,h5,h6,h7,h8,h9,w,hw,rfl⟩:=zF h2
 refine⟨h3,h4,h5,h1,h6,h7,?_,h8,?_⟩
 ·have hm:=atY hw
  unfold HQ at hm
  rcases List.mem_append.1 hm with hm|hm
  ·have:=(acP hm).2.2
   show 0<=w.cost∧w.cost<=60000
   omega
  ·split at hm
   ·cases hm
   ·have:=(Pf hm).2.2.1
    show 0<=w.cost∧w.cost<=60000
    omega
 ·unfold uL at h9
  simp only[bL,decide_eq_true_eq]at h9
  exact h9.2
theorem ac5{s:List ay}{A:List Int}{fr ae:Int}(hf:1<=fr∧fr<=6)(ha:0<=ae∧ae<=2){r:ay}(h:r∈cA s A fr ae):eP (gZ r)=true∧(gZ r).kind≠3:=by
 obtain⟨h1,h2,h3,h4,h5,h6,h7,h8,_⟩:=QY h
 refine⟨?_,by show r.kind≠3;omega⟩
 unfold eP
 simp only[gZ,h1,h2,h3,h5,h8,List.length_nil,bL,be]
 refine⟨⟨hf,by omega⟩,?_⟩
 simp[be,ha,h4,h7]
theorem iY.lE{k:Nat}{f:ay->ay}{l:List ay}(hl:∀r∈l,eP (f r)=true∧(f r).kind≠3):∀{s:List ay},iY k s->iY k (eQ f s l):=by
 unfold eQ
 induction l with
 |nil=>intro s h;exact h
 |cons x l ih=>
  intro s h
  rw[List.foldl_cons]
  exact ih (λr hr=>hl r (.tail _ hr)) (h.Pp (hl x (.head _)).1 (hl x (.head _)).2)
theorem kR_{ls:List bH}{v a:Int}(h:a∈lh ls v):0<=a∧a<=2:=oK.1 (List.mem_filter.1 h).1
theorem iY.instead{k:Nat}{s:List ay}(h:iY k s){A:List Int}(hA:∀a∈A,0<=a∧a<=2){v:Int}(hv:1<=v∧v<=6):iY k (zJ s A v):=by
 refine iY.lE ?_ (h.filter _)
 intro r hr
 obtain⟨a,ha,hr⟩:=List.mem_flatMap.1 hr
 exact ac5 hv (hA a ha) hr
theorem atZ(f:ay->ay)(A:List Int)(g:Int->List ay):∀s,A.foldl (λc a=>eQ f c (g a)) s=eQ f s (A.flatMap g):=by
 induction A with
 |nil=>intro s;rfl
 |cons x A ih=>
  intro s
  rw[List.foldl_cons,ih]
  unfold eQ
  rw[List.flatMap_cons,List.foldl_append]
def ia(r:ay):ay:=if r.seq=0 then {r with seq:=1}else r
theorem Pq(s l:List ay)(h:s.length+l.length<=1048570)(hs:aQ s)(hn:aQ l):F8 [.l (s.map aw),.l (l.map aw)]=some [.l ((eQ ia s l).map aw)]:=by
 rw[apb];simp(disch:=omega) only[↓pq,↓pj,ps,pz,↓reduceIte,af,ah,ai,aj,ak,ap,aq,au,av,qN_,M4]
 refine gO l (λi c=>[.l (c.map aw),ii i]) (λc r=>cM c (ia r)) (λc=>some [T.l (c.map aw)]) s (λi c=>c.length<=s.length+i∧aQ c) rfl (c_ (by omega)) ⟨by simp,hs⟩ ?_ ?_
 ·rintro i c hi ⟨h1,h2⟩
  have mi:=hn.gt (n:=i) (by omega) hi
  have hz:(ia (gt l (i:Int))).aX.length<=1048576:=by unfold ia;split<;>exact mi
  refine⟨⟨by have:=Hi c (ia (gt l (i:Int)));omega,OH h2 hz⟩,λq=>?_⟩
  have hp:=λz=>Jd c (gt l (i:Int)).ae (gt l (i:Int)).kind (gt l (i:Int)).owner (gt l (i:Int)).key z (gt l (i:Int)).aX (gt l (i:Int)).cost (gt l (i:Int)).e_ (by omega) h2 mi
  by_cases k:(gt l (i:Int)).seq=0
  ·have e:ia (gt l (i:Int))={gt l (i:Int)with seq:=1}:=by unfold ia;rw[if_pos k]
   rw[e]
   simp(disch:=omega) only[↓pq,↓pj,ps,pz,↓reduceIte,af,ah,ai,aj,ak,ap,aq,au,av,qN_,hi,k,hp]
  ·have e:ia (gt l (i:Int))=gt l (i:Int):=by unfold ia;rw[if_neg k]
   rw[e]
   simp(disch:=omega) only[↓pq,↓pj,ps,pz,↓reduceIte,af,ah,ai,aj,ak,ap,aq,au,av,qN_,hi,k,hp]
 ·rintro c q hc
  simp(disch:=omega) only[↓pq,↓pj,ps,pz,↓reduceIte,af,ah,ai,aj,ak,ap,aq,au,av,qN_,]
theorem ac7{f g:ay->ay}{l:List ay}(h:∀r∈l,f r=g r):∀s,eQ f s l=eQ g s l:=by
 unfold eQ
 induction l with
 |nil=>intro s;rfl
 |cons x l ih=>
  intro s
  rw[List.foldl_cons,List.foldl_cons,h x (.head _)]
  exact ih (λr hr=>h r (.tail _ hr)) _
theorem Dt(A:List Int)(g:Int->List ay)(hg:∀a,(g a).length<=6):(A.flatMap g).length<=6*A.length:=by
 induction A with
 |nil=>simp
 |cons x A ih=>
  have:=hg x
  rw[List.flatMap_cons,List.length_append,List.length_cons]
  omega
theorem at0(s:List ay)(A:List Int)(v:Int)(hs:iY 24 s)(hA:A.length<=3):
  Xn [.l (s.map aw),.l (A.map aE),ii v]=some [.l ((zJ s A v).map aw)]:=by
 have oX:=hs.len
 have sX:=hs.aX
 rw[apd];simp(disch:=omega) only[↓pq,↓pj,ps,pz,↓reduceIte,af,ah,ai,aj,ak,ap,aq,au,av,QF,QG,M5]
 refine gO A (λj c=>[.l (c.map aw),ii j]) (λc a=>c++cA s A v a) (λ_=>some [T.l ((zJ s A v).map aw)]) [] (λj c=>c=(A.take j).flatMap λa=>cA s A v a) rfl (c_ (by omega)) rfl ?_ ?_
 ·intro j c hj hc
  have qY:j<A.length:=by omega
  refine⟨by rw[hc,List.take_add_one,List.flatMap_append,List.getElem?_eq_getElem qY,eh qY];simp,λq=>?_⟩
  have sy:=Jl s A v (gt A (j:Int))
  have tg:c.length<=18:=by
   rw[hc]
   refine Nat.le_trans (Dt _ _ λa=>Jl s A v a) ?_
   simp;omega
  simp(disch:=omega) only[↓pq,↓pj,ps,pz,↓reduceIte,af,ah,ai,aj,ak,ap,aq,au,av,QF,QG,hj,acZ s A v _ (show s.length<=1048576 by omega) sX (show A.length<=1048576 by omega)]
 ·intro c q hc
  rw[List.take_length]at hc
  subst hc
  have yW:aQ (A.flatMap λa=>cA s A v a):=λr hr=>by
   obtain⟨a,_,hr⟩:=List.mem_flatMap.1 hr
   have:=(QY hr).2.2.2.2.1
   rw[this];simp
  have sy:=Dt A _ λa=>Jl s A v a
  have hz:∀r∈(A.flatMap λa=>cA s A v a),ia r=gZ r:=λr hr=>by
   obtain⟨a,_,hr⟩:=List.mem_flatMap.1 hr
   have:=(QY hr).2.2.2.2.2.1
   unfold ia gZ
   rw[if_pos this]
  unfold zJ
  generalize(A.flatMap λa=>cA s A v a)=B at yW sy hz
  simp(disch:=omega) only[↓pq,↓pj,ps,pz,↓reduceIte,af,ah,ai,aj,ak,ap,aq,au,av,QF,QG,]
  refine ac3 s (λi c=>[.l (c.map aw),ii i]) (Ds v) rfl (c_ (by omega)) ?_ ?_
  ·intro i c hi hc q
   have:=sX.gt (n:=i) (by omega) hi
   unfold Ds
   simp(disch:=omega) only[↓pq,↓pj,ps,pz,↓reduceIte,af,ah,ai,aj,ak,ap,aq,au,av,QF,QG,hi]
   by_cases k1:(gt s (i:Int)).kind=2
   ·by_cases k2:(gt s (i:Int)).owner=v
    ·simp[k1,k2]
    ·simp[k1,k2]
   ·simp[k1]
  ·intro q
   have vj:=List.length_filter_le (Ds v) s
   simp(disch:=omega) only[↓pq,↓pj,ps,pz,↓reduceIte,af,ah,ai,aj,ak,ap,aq,au,av,QF,QG,Pq (s.filter (Ds v)) B (by omega) (hs.filter _).aX yW,ac7 hz]
def zK(ls:List bH)(L U:List Bool)(v a:Int):ay:=⟨a,1,v,0,1,zI ls L U v a,0,false⟩
def HR(t:bZ):ay:=⟨9,3,t.owner,t.key,1,[],t.cost,t.e_⟩
theorem ac8{n:Int}{ls:List bH}(h:du (kj n) iC ls=true){L U:List Bool}{v a:Int}(hv:1<=v∧v<=6)(ha:0<=a∧a<=2):eP (zK ls L U v a)=true:=by
 unfold eP
 simp only[zK,bL,be]
 refine⟨⟨hv,by omega⟩,?_⟩
 simp[be,ha,atS h]
theorem HS{n:Int}{ts:List bZ}(h:du (xP n) n6 ts=true){t:bZ}(ht:t∈ts):(1<=t.owner∧t.owner<=n)∧(1<=t.key∧t.key<=9)∧(1<=t.cost∧t.cost<=1000):=by
 obtain⟨i,hi,rfl⟩:=List.mem_iff_getElem.1 ht
 have:=bW.1 h i hi
 rw[eh hi]at this
 simp only[bL,xP,be]at this
 omega
theorem at1{n:Int}(hn:n<=6){t:bZ}(h:(1<=t.owner∧t.owner<=n)∧(1<=t.key∧t.key<=9)∧(1<=t.cost∧t.cost<=1000)):eP (HR t)=true:=by
 unfold eP
 simp only[HR,bL,be]
 refine⟨⟨by omega,by omega⟩,?_⟩
 simp[be,h]
def zL(ls:List bH)(L U:List Bool)(c:List ay)(i:Nat):List ay:=
 if gt U ((i:Int)+1-1)=true then(lh ls ((i:Int)+1)).foldl (λc a=>cM c (zK ls L U ((i:Int)+1) a)) c else c
def uM(U:List Bool)(c:List ay)(t:bZ):List ay:=if gt U (t.owner-1)=true then cM c (HR t)else c
def zM(ls:List bH)(U:List Bool)(c:List ay)(i:Nat):List ay:=
 if gt U ((i:Int)+1-1)=true then(if AF ls ((i:Int)+1)=true then zJ c (lh ls ((i:Int)+1)) ((i:Int)+1)else c)else c
def wU(n:Int)(ls:List bH)(U:List Bool)(c:List ay)(_:Nat):List ay:=(List.range n.toNat).foldl (zM ls U) c
def zN(x:Net)(L U:List Bool):List ay:=(List.range 3).foldl (wU x.n x.aB U) (x.aG.foldl (uM U) ((List.range x.n.toNat).foldl (zL x.aB L U) []))
def wV(x:Net)(L U:List Bool):Bool:=n7 x&&(decide ((L.length:Int)=x.aB.length)&&decide ((U.length:Int)=x.n))
theorem at3{x:Net}{L U:List Bool}(h:wV x L U=true):n7 x=true∧(L.length:Int)=x.aB.length∧(U.length:Int)=x.n:=by
 unfold wV at h
 simpa only[bL,decide_eq_true_eq]using h
theorem rM{x:Net}(h:n7 x=true):(1<=x.n∧x.n<=6)∧x.aB.length<=12∧x.aG.length<=4∧du (kj x.n) iC x.aB=true∧du (xP x.n) n6 x.aG=true:=by
 unfold n7 at h
 simp only[bL,decide_eq_true_eq,be]at h
 exact⟨h.1.1.1.1,h.1.1.1.2,h.1.1.2,h.1.2,h.2⟩
theorem Du{α:Type}{k:Nat}{g:List ay->α->List ay}:∀{l:List α} {c:List ay},(∀a∈l,∀c,iY k c->iY k (g c a))->iY k c->iY k (l.foldl g c)
 | [],c,_,h=>h
 |a::l,c,hg,h=>by
  rw[List.foldl_cons]
  exact Du (λb hb=>hg b (.tail _ hb)) (hg a (.head _) c h)
section
variable {n:Int} {ls:List bH} {L U:List Bool} (h:du (kj n) iC ls=true) (hn:n<=6)
include h hn
theorem ac9{c:List ay}{i:Nat}(hi:(i:Int)<n)(hc:iY 0 c):iY 0 (zL ls L U c i):=by
 unfold zL
 split
 ·refine Du (λa ha c hc=>?_) hc
  exact hc.Pp (ac8 h (by omega) (kR_ ha)) (by show(1:Int)≠3;decide)
 ·exact hc
omit h in
theorem ac_{k:Nat}{c:List ay}{t:bZ}(ht:(1<=t.owner∧t.owner<=n)∧(1<=t.key∧t.key<=9)∧(1<=t.cost∧t.cost<=1000))(hc:iY k c):iY (k+1) (uM U c t):=by
 unfold uM
 split
 ·exact hc.put (at1 hn ht)
 ·exact hc.mono (by omega)
omit h in
theorem ac'{k:Nat}{c:List ay}{i:Nat}(hi:(i:Int)<n)(hc:iY k c):iY k (zM ls U c i):=by
 unfold zM
 split
 ·split
  ·exact hc.instead (λa ha=>kR_ ha) (by omega)
  ·exact hc
 ·exact hc
omit h in
theorem ada{k:Nat}{c:List ay}{r:Nat}(hc:iY k c):iY k (wU n ls U c r):=
 Du (λi hi c hc=>ac' hn (by have:=List.mem_range.1 hi;omega) hc) hc
omit h in
theorem adb:∀{ts:List bZ} {k:Nat} {c:List ay},(∀t∈ts,(1<=t.owner∧t.owner<=n)∧(1<=t.key∧t.key<=9)∧(1<=t.cost∧t.cost<=1000))->iY k c->iY (k+ts.length) (ts.foldl (uM U) c)
 | [],k,c,_,hc=>hc
 |t::ts,k,c,ht,hc=>by
  rw[List.foldl_cons,List.length_cons]
  exact(adb (λx hx=>ht x (.tail _ hx)) (ac_ hn (ht t (.head _)) hc)).mono (by omega)
end
theorem at4{x:Net}{L U:List Bool}(h:n7 x=true):iY 4 (zN x L U):=by
 obtain⟨h1,h2,h3,h4,h5⟩:=rM h
 unfold zN
 refine Du (λr _ c hc=>ada h1.2 hc) ?_
 refine(adb (k:=0) h1.2 (λt ht=>HS h5 ht) ?_).mono (by omega)
 exact Du (λi hi c hc=>ac9 h4 h1.2 (by have:=List.mem_range.1 hi;omega) hc) iY.nil
theorem at5{n:Int}{ls:List bH}(h:du (kj n) iC ls=true)(hn:n<=6)(L U:List Bool)(v a:Int):
  ((List.range n.toNat).filter λu:Nat=>decide (rL ls L v ((u:Int)+1) a>0)&&gt U ((u:Int)+1-1)).map (λu:Nat=>(⟨(u:Int)+1,rL ls L v ((u:Int)+1) a⟩:cC))=zI ls L U v a:=by
 have e:(upto n.toNat).filter (λx=>decide (rL ls L v x a>0)&&gt U (x-1))=vA.filter (λx=>decide (rL ls L v x a>0)&&gt U (x-1)):=by
  refine Hj ((acN _).filter _) (nN.filter _) λx=>?_
  rw[List.mem_filter,List.mem_filter,acM,iD]
  constructor
  ·rintro⟨h1,h2⟩
   exact⟨by omega,h2⟩
  ·rintro⟨h1,h2⟩
   refine⟨?_,h2⟩
   rw[bL,decide_eq_true_eq]at h2
   obtain⟨y,hy,e⟩:=(ac0 h v x a).1 (ac1 h h2.1).1
   have:=xW h hy
   rw[gL]at e
   omega
 unfold zI
 rw[<-e]
 unfold upto
 rw[List.filter_map,List.map_map]
 rfl
theorem at6{n:Int}{ls:List bH}(h:du (kj n) iC ls=true)(hn:n<=6)(L U:List Bool)(v a:Int):
  (List.range n.toNat).foldl (λ(e:List cC) (u:Nat)=>if(decide (rL ls L v ((u:Int)+1) a>0)&&gt U ((u:Int)+1-1))=true then e++[(⟨(u:Int)+1,rL ls L v ((u:Int)+1) a⟩:cC)]else e) []=zI ls L U v a:=by
 rw[IR (λu:Nat=>decide (rL ls L v ((u:Int)+1) a>0)&&gt U ((u:Int)+1-1)) (λu:Nat=>(⟨(u:Int)+1,rL ls L v ((u:Int)+1) a⟩:cC)),List.nil_append]
 exact at5 h hn L U v a
theorem at7(n:Int)(ls:List bH)(ts:List bZ)(L U:List Bool)(h1:ls.length<=1048576)(h2:ts.length<=1048576):LV [ii n,.l (ls.map cT),.l (ts.map dj),.l (L.map iI),.l (U.map iI)]=some (if wV ⟨n,ls,ts⟩ L U=true then [.l ((zN ⟨n,ls,ts⟩ L U).map aw),bb true]else [.l [],bb false]):=by
 by_cases hi:wV ⟨n,ls,ts⟩ L U=true
 ·rw[if_pos hi]
  obtain⟨hN,hL,hU⟩:=at3 hi
  obtain⟨n1,hl,ht,hA,hT⟩:=rM hN
  simp only at hL hU n1 hl ht hA hT
  have hL':L.length=ls.length:=by omega
  have lp:¬((n.toNat:Int)+1<=n):=by omega
  rw[abO];simp(disch:=omega) only[↓pq,↓pj,ps,pz,↓reduceIte,af,ah,ai,aj,ak,ap,aq,au,av,pA,pB,pC,pD,pE,pF,Gy,Ot _ _ _ h1 h2,hN,hL,hU]
  refine o6 n.toNat (λi c=>[.l (c.map aw),ii (i+1)]) (zL ls L U) (λc=>some [T.l (((List.range 3).foldl (wU n ls U) (ts.foldl (uM U) c)).map aw),bb true]) [] (λ_ c=>iY 0 c) rfl (c_ (by omega)) iY.nil ?_ ?_
  ·intro i c hi hc
   have aU:(i:Int)+1<=n:=by omega
   refine⟨ac9 hA n1.2 (by omega) hc,λq=>?_⟩
   have Es:=HL ls ((i:Int)+1)
   have ham:=λa ha=>kR_ (ls:=ls) (v:=(i:Int)+1) (a:=a) ha
   simp(disch:=omega) only[↓pq,↓pj,ps,pz,↓reduceIte,af,ah,ai,aj,ak,ap,aq,au,av,pA,pB,pC,pD,pE,pF,aU,HN _ _ _ _ _ hA hl]
   unfold zL
   generalize lh ls ((i:Int)+1)=A at Es ham
   by_cases hu:gt U ((i:Int)+1-1)=true
   ·rw[if_pos hu]
    refine gO A (λj c=>[.l (c.map aw),ii j]) (λc a=>cM c (zK ls L U ((i:Int)+1) a)) (λc=>q [.l (c.map aw),ii ((i:Int)+1+1)]) c (λ_ c=>iY 0 c) rfl (c_ (by omega)) hc ?_ ?_
    ·intro j d hj hd
     have hr:=ac8 hA (L:=L) (U:=U) (v:=(i:Int)+1) (by omega) (ham _ (iT (l:=A) (n:=(j:Int)) (by omega) hj))
     refine⟨hd.Pp hr (by show(1:Int)≠3;decide),λq'=>?_⟩
     have Ae:=hd.len
     simp(disch:=omega) only[↓pq,↓pj,ps,pz,↓reduceIte,af,ah,ai,aj,ak,ap,aq,au,av,pA,pB,pC,pD,pE,pF,hj,hu,hU]
     unfold zK
     rw[<-at6 hA n1.2]
     refine o6 n.toNat (λu e=>[ii (u+1),.l (e.map eJ)]) (λe u=>if(decide (rL ls L ((i:Int)+1) ((u:Int)+1) (gt A (j:Int))>0)&&gt U ((u:Int)+1-1))=true then e++[(⟨(u:Int)+1,rL ls L ((i:Int)+1) ((u:Int)+1) (gt A (j:Int))⟩:cC)]else e) (λe=>q' [.l ((cM d ⟨gt A (j:Int),1,(i:Int)+1,0,1,e,0,false⟩).map aw),ii ((j:Int)+1)]) [] (λu e=>e.length<=u) rfl (c_ (by omega)) (by simp) ?_ ?_
     ·intro u e hu he
      have wv:(u:Int)+1<=n:=by omega
      refine⟨by split;(· simp;omega);(· omega),λs=>?_⟩
      have ho:=atX (ii n) (.l (ts.map dj)) ls L ((i:Int)+1) ((u:Int)+1) (gt A (j:Int)) n hA hl hL'
      generalize rL ls L ((i:Int)+1) ((u:Int)+1) (gt A (j:Int))=z at ho
      by_cases k1:z>0
      ·cases k2:gt U ((u:Int)+1-1)with
       |true=>simp(disch:=omega) only[↓pq,↓pj,ps,pz,↓reduceIte,af,ah,ai,aj,ak,ap,aq,au,av,pA,pB,pC,pD,pE,pF,wv,hj,hU,ho,k1,k2,decide_true,Bool.true_and]
       |false=>simp(disch:=omega) only[↓pq,↓pj,ps,pz,↓reduceIte,af,ah,ai,aj,ak,ap,aq,au,av,pA,pB,pC,pD,pE,pF,wv,hj,hU,ho,k1,k2,decide_true,Bool.true_and,cE]
      ·simp(disch:=omega) only[↓pq,↓pj,ps,pz,↓reduceIte,af,ah,ai,aj,ak,ap,aq,au,av,pA,pB,pC,pD,pE,pF,wv,hj,hU,ho,k1,decide_false,Bool.false_and,cE]
     ·intro e s he
      have hp:=Jd d (gt A (j:Int)) 1 ((i:Int)+1) 0 1 e 0 false (by omega) hd.aX (by omega)
      simp(disch:=omega) only[↓pq,↓pj,ps,pz,↓reduceIte,af,ah,ai,aj,ak,ap,aq,au,av,pA,pB,pC,pD,pE,pF,lp,hp]
    ·intro d q' hd
     simp(disch:=omega) only[↓pq,↓pj,ps,pz,↓reduceIte,af,ah,ai,aj,ak,ap,aq,au,av,pA,pB,pC,pD,pE,pF,]
   ·rw[if_neg hu]
    refine C' (λk=>[.l (c.map aw),ii k]) 0 rfl (c_ (by omega)) ?_ ?_
    ·intro k hk;omega
    ·intro s
     by_cases h0:(0:Int)<A.length
     ·simp(disch:=omega) only[↓pq,↓pj,ps,pz,↓reduceIte,af,ah,ai,aj,ak,ap,aq,au,av,pA,pB,pC,pD,pE,pF,h0,hu,hU,cE]
     ·simp(disch:=omega) only[↓pq,↓pj,ps,pz,↓reduceIte,af,ah,ai,aj,ak,ap,aq,au,av,pA,pB,pC,pD,pE,pF,h0]
  ·intro c q hc
   simp(disch:=omega) only[↓pq,↓pj,ps,pz,↓reduceIte,af,ah,ai,aj,ak,ap,aq,au,av,pA,pB,pC,pD,pE,pF,lp]
   refine gO ts (λj c=>[.l (c.map aw),ii j]) (uM U) (λc=>some [T.l (((List.range 3).foldl (wU n ls U) c).map aw),bb true]) c (λj c=>iY j c) rfl (c_ (by omega)) hc ?_ ?_
   ·intro j d hj hd
    have n3:=HS hT (iT (l:=ts) (n:=(j:Int)) (by omega) hj)
    refine⟨ac_ n1.2 n3 hd,λq=>?_⟩
    have Ae:=hd.len
    have hp:=Jd d 9 3 (gt ts (j:Int)).owner (gt ts (j:Int)).key 1 [] (gt ts (j:Int)).cost (gt ts (j:Int)).e_ (by omega) hd.aX (by simp)
    rw[List.map_nil]at hp
    unfold uM
    by_cases hu:gt U ((gt ts (j:Int)).owner-1)=true
    ·rw[if_pos hu]
     simp(disch:=omega) only[↓pq,↓pj,ps,pz,↓reduceIte,af,ah,ai,aj,ak,ap,aq,au,av,pA,pB,pC,pD,pE,pF,hj,hu,hU,hp]
     rfl
    ·rw[if_neg hu]
     simp(disch:=omega) only[↓pq,↓pj,ps,pz,↓reduceIte,af,ah,ai,aj,ak,ap,aq,au,av,pA,pB,pC,pD,pE,pF,hj,hu,hU,cE]
   ·intro d q hd
    simp(disch:=omega) only[↓pq,↓pj,ps,pz,↓reduceIte,af,ah,ai,aj,ak,ap,aq,au,av,pA,pB,pC,pD,pE,pF,]
    refine o6 3 (λi c=>[.l (c.map aw),ii i]) (wU n ls U) (λc=>some [T.l (c.map aw),bb true]) d (λ_ c=>iY 4 c) rfl (c_ (by omega)) (hd.mono (by omega)) ?_ ?_
    ·intro r d hr hd
     have jG:(r:Int)<3:=by omega
     refine⟨ada n1.2 hd,λq=>?_⟩
     simp(disch:=omega) only[↓pq,↓pj,ps,pz,↓reduceIte,af,ah,ai,aj,ak,ap,aq,au,av,pA,pB,pC,pD,pE,pF,jG]
     unfold wU
     refine o6 n.toNat (λi c=>[.l (c.map aw),ii (i+1)]) (zM ls U) (λc=>q [.l (c.map aw),ii ((r:Int)+1)]) d (λ_ c=>iY 4 c) rfl (c_ (by omega)) hd ?_ ?_
     ·intro i e hi he
      have aU:(i:Int)+1<=n:=by omega
      refine⟨ac' n1.2 (by omega) he,λq'=>?_⟩
      have jH:=at0 e (lh ls ((i:Int)+1)) ((i:Int)+1) (he.mono (by omega)) (HL ls _)
      unfold zM
      by_cases hu:gt U ((i:Int)+1-1)=true
      ·rw[if_pos hu]
       cases hb:AF ls ((i:Int)+1)with
       |true=>simp(disch:=omega) only[↓pq,↓pj,ps,pz,↓reduceIte,af,ah,ai,aj,ak,ap,aq,au,av,pA,pB,pC,pD,pE,pF,aU,hu,hU,HO _ _ _ _ _ hA hl,HN _ _ _ _ _ hA hl,hb,jH]
       |false=>simp(disch:=omega) only[↓pq,↓pj,ps,pz,↓reduceIte,af,ah,ai,aj,ak,ap,aq,au,av,pA,pB,pC,pD,pE,pF,aU,hu,hU,HO _ _ _ _ _ hA hl,hb,cE]
      ·rw[if_neg hu]
       simp(disch:=omega) only[↓pq,↓pj,ps,pz,↓reduceIte,af,ah,ai,aj,ak,ap,aq,au,av,pA,pB,pC,pD,pE,pF,aU,hu,hU,cE]
     ·intro e q' he
      simp(disch:=omega) only[↓pq,↓pj,ps,pz,↓reduceIte,af,ah,ai,aj,ak,ap,aq,au,av,pA,pB,pC,pD,pE,pF,lp]
    ·intro d q hd
     have Ae:=hd.len
     simp(disch:=omega) only[↓pq,↓pj,ps,pz,↓reduceIte,af,ah,ai,aj,ak,ap,aq,au,av,pA,pB,pC,pD,pE,pF,Ek d (by omega) hd.aX]
 ·rw[if_neg hi]
  rw[abO];simp(disch:=omega) only[↓pq,↓pj,ps,pz,↓reduceIte,af,ah,ai,aj,ak,ap,aq,au,av,pA,pB,pC,pD,pE,pF,Gy,Ot _ _ _ h1 h2]
  cases hN:n7 ⟨n,ls,ts⟩with
  |false=>simp(disch:=omega) only[↓pq,↓pj,ps,pz,↓reduceIte,af,ah,ai,aj,ak,ap,aq,au,av,pA,pB,pC,pD,pE,pF,cE]
  |true=>
   by_cases hL:(L.length:Int)=ls.length
   ·by_cases hU:(U.length:Int)=n
    ·exact absurd (by unfold wV;rw[hN];simp[hL,hU]) hi
    ·simp(disch:=omega) only[↓pq,↓pj,ps,pz,↓reduceIte,af,ah,ai,aj,ak,ap,aq,au,av,pA,pB,pC,pD,pE,pF,hL,hU]
   ·simp(disch:=omega) only[↓pq,↓pj,ps,pz,↓reduceIte,af,ah,ai,aj,ak,ap,aq,au,av,pA,pB,pC,pD,pE,pF,hL]
theorem aua{s s':List ay}{ar:Int}(h:∀u v,dY s ar u v=dY s' ar u v)(fr a:Int):nf s ar fr a=nf s' ar fr a:=by
 funext W i
 unfold nf
 rw[h]
theorem ade{s s':List ay}{ar:Int}(h:∀u v,dY s ar u v=dY s' ar u v)(fr:Int):∀k W D,tK s ar fr k W D=tK s' ar fr k W D
 |0,_,_=>rfl
 |k+1,W,D=>by
  unfold tK
  have e:pU s ar fr (eB W D) W=pU s' ar fr (eB W D) W:=by unfold pU;rw[aua h]
  rw[e,ade h fr k]
theorem aub{s s':List ay}{ar fr:Int}(h:∀u v,dY s ar u v=dY s' ar u v)(hs:dv s=dv s')(hn:0<=jl s ar fr↔0<=jl s' ar fr):aP s ar fr=aP s' ar fr:=by
 unfold aP
 rw[hs,ade h]
 by_cases h0:0<=jl s ar fr
 ·have:=hn.1 h0
  simp[h0,this]
 ·have:¬0<=jl s' ar fr:=λhc=>h0 (hn.2 hc)
  simp[h0,this]
theorem auc{s:List ay}(hs:ig s){r:ay}(hr:r∈s){ar v:Int}(h:dS r ⟨ar,1,v,0,0,[],0,false⟩=true):0<=jl s ar v∧gt s (jl s ar v)=r:=by
 have h0:0<=jl s ar v:=zH hr h
 refine⟨h0,?_⟩
 have h1:=Jh s ar v
 have h2:dS (gt s (jl s ar v)) ⟨ar,1,v,0,0,[],0,false⟩=true:=q_ _ _ h0
 have hm:=iT (l:=s) (n:=jl s ar v) h0 h1
 generalize gt s (jl s ar v)=x at h2 hm
 rw[sameKey_iff]at h h2
 obtain⟨i,hi,rfl⟩:=List.mem_iff_getElem.1 hr
 obtain⟨j,hj,rfl⟩:=List.mem_iff_getElem.1 hm
 rcases Nat.lt_trichotomy i j with oI|oI|oI
 ·have:=List.pairwise_iff_getElem.1 hs i j hi hj oI
  rw[pG]at this
  simp only at h h2
  omega
 ·subst oI;rfl
 ·have:=List.pairwise_iff_getElem.1 hs j i hj hi oI
  rw[pG]at this
  simp only at h h2
  omega
structure Dv (A:List Int) (s s':List ay):Prop where
 so:ig s
 sub:∀r∈s',r∈s
 so':ig s'
 bw:∀r∈s,r∉s'->r.kind=1∧A.contains r.ae=false
theorem Dv.node{A:List Int}{s s':List ay}(h:Dv A s s'){ar:Int}(ha:A.contains ar=true)(v:Int):(0<=jl s ar v↔0<=jl s' ar v)∧rK s ar v=rK s' ar v:=by
 by_cases h0:0<=jl s' ar v
 ·have hm:=iT (l:=s') (n:=jl s' ar v) h0 (Jh s' ar v)
  obtain⟨h1,h2⟩:=auc h.so (h.sub _ hm) (q_ _ _ h0)
  refine⟨⟨λ_=>h0,λ_=>h1⟩,?_⟩
  unfold rK
  rw[if_neg (by omega),if_neg (by omega),h2]
 ·have h1:¬0<=jl s ar v:=by
   intro hc
   have hm:=iT (l:=s) (n:=jl s ar v) hc (Jh s ar v)
   have hk:dS (gt s (jl s ar v)) ⟨ar,1,v,0,0,[],0,false⟩=true:=q_ _ _ hc
   by_cases jH:gt s (jl s ar v)∈s'
   ·exact h0 (zH jH hk)
   ·have:=(h.bw _ hm jH).2
    rw[sameKey_iff]at hk
    simp only at hk
    rw[hk.1,ha]at this
    cases this
  refine⟨⟨λhc=>absurd hc h1,λhc=>absurd hc h0⟩,?_⟩
  unfold rK
  rw[if_pos (by omega),if_pos (by omega)]
theorem Dv.aP{A:List Int}{s s':List ay}(h:Dv A s s')(hs:dv s=dv s'){ar:Int}(ha:A.contains ar=true)(fr:Int):Go.Proofs.YtjimmglpkndemaaGreatC.aP s ar fr=Go.Proofs.YtjimmglpkndemaaGreatC.aP s' ar fr:=by
 refine aub (λu v=>?_) hs (h.node ha fr).1
 unfold dY rf
 rw[(h.node ha u).2,(h.node ha v).2]
theorem adf{α β:Type}{l:List α}{f g:α->List β}(h:∀a∈l,f a=g a):l.flatMap f=l.flatMap g:=by
 induction l with
 |nil=>rfl
 |cons x l ih=>rw[List.flatMap_cons,List.flatMap_cons,h x (.head _),ih λa ha=>h a (.tail _ ha)]
theorem aue{α β:Type}{l:List α}{f g:α->Option β}(h:∀a∈l,f a=g a):l.filterMap f=l.filterMap g:=by
 induction l with
 |nil=>rfl
 |cons x l ih=>rw[List.filterMap_cons,List.filterMap_cons,h x (.head _),ih λa ha=>h a (.tail _ ha)]
theorem Dv.within{A:List Int}{s s':List ay}(h:Dv A s s')(hs:dv s=dv s'){B:List Int}(hB:∀a∈B,A.contains a=true)(fr:Int):Go.Proofs.YtjimmglpkndemaaGreatC.within s B fr=Go.Proofs.YtjimmglpkndemaaGreatC.within s' B fr:=by
 unfold Go.Proofs.YtjimmglpkndemaaGreatC.within qu
 rw[adf λa ha=>h.aP hs (hB a ha) fr]
theorem auf{s s':List ay}(h:ig s)(h':ig s')(lL:∀r∈s',r∈s):s'=s.filter λr=>@decide (r∈s') (Classical.propDecidable _):=by
 have key:∀{a b:List ay},ig a->ig b->(∀x,x∈a↔x∈b)->a=b:=by
  intro a
  induction a with
  |nil=>
   intro b _ _ hm
   cases b with
   |nil=>rfl
   |cons y b=>exact absurd ((hm y).2 (.head _)) (by simp)
  |cons x a ih=>
   intro b ha hb hm
   cases b with
   |nil=>exact absurd ((hm x).1 (.head _)) (by simp)
   |cons y b=>
    have pa:=List.pairwise_cons.1 ha
    have pb:=List.pairwise_cons.1 hb
    have e:x=y:=by
     rcases List.mem_cons.1 ((hm x).1 (.head _))with e|hx
     ·exact e
     ·rcases List.mem_cons.1 ((hm y).2 (.head _))with e|hy
      ·exact e.symm
      ·have h1:=pb.1 x hx
       have h2:=pa.1 y hy
       rw[C_ h1]at h2;cases h2
    subst e
    congr 1
    refine ih pa.2 pb.2 λz=>⟨λhz=>?_,λhz=>?_⟩
    ·rcases List.mem_cons.1 ((hm z).1 (.tail _ hz))with e|Ql
     ·have:=pa.1 z hz
      rw[e,Hh]at this;cases this
     ·exact Ql
    ·rcases List.mem_cons.1 ((hm z).2 (.tail _ hz))with e|Ql
     ·have:=pb.1 z hz
      rw[e,Hh]at this;cases this
     ·exact Ql
 refine key h' (h.filter _) λr=>?_
 rw[List.mem_filter,@decide_eq_true_eq _ (Classical.propDecidable _)]
 exact⟨λhr=>⟨lL r hr,hr⟩,λhr=>hr.2⟩
theorem Dv.beyond{A:List Int}{s s':List ay}(h:Dv A s s')(hs:dv s=dv s')(z:Bool)(fr:Int):Go.Proofs.YtjimmglpkndemaaGreatC.beyond s A z fr=Go.Proofs.YtjimmglpkndemaaGreatC.beyond s' A z fr:=by
 have hw:=h.within hs (B:=A) (λa ha=>List.contains_iff_mem.2 ha) fr
 have e1:∀x,iL s A z fr x=iL s' A z fr x:=by
  intro x
  unfold iL
  rw[hw]
  by_cases hc:x.kind=2∧x.cost<60000∧x.owner≠fr∧A.contains x.ae=true∧(z=true->x.ae=0)∧fb (Go.Proofs.YtjimmglpkndemaaGreatC.within s' A fr) x.key<0
  ·rw[if_pos hc,if_pos hc,h.aP hs hc.2.2.2.1]
  ·rw[if_neg hc,if_neg hc]
 unfold Go.Proofs.YtjimmglpkndemaaGreatC.beyond Er
 rw[show iL s A z fr=iL s' A z fr from funext e1]
 congr 1
 rw[auf h.so h.so' h.sub,List.filterMap_filter]
 refine aue λx hx=>?_
 by_cases jH:x∈s'
 ·rw[if_pos (by rw[@decide_eq_true_eq _ (Classical.propDecidable _)];exact jH)]
 ·rw[if_neg (by rw[@decide_eq_true_eq _ (Classical.propDecidable _)];exact jH)]
  unfold iL
  rw[if_neg λhc=>by have:=(h.bw x hx jH).1;omega]
theorem Dv.cA{A:List Int}{s s':List ay}(h:Dv A s s')(hs:dv s=dv s'){ae:Int}(ha:A.contains ae=true)(fr:Int):Go.Proofs.YtjimmglpkndemaaGreatC.cA s A fr ae=Go.Proofs.YtjimmglpkndemaaGreatC.cA s' A fr ae:=by
 unfold Go.Proofs.YtjimmglpkndemaaGreatC.cA HQ
 rw[h.aP hs ha,h.beyond hs,h.within (B:=acW A ae) hs λa ha=>List.contains_iff_mem.2 (List.mem_filter.1 ha).1]
theorem mJ{x:Self}(h:jf x=true):n7 x.net=true∧(1<=x.id∧x.id<=x.net.n)∧(0<=x.aV∧x.aV<=90)∧x.heard.length%2=0∧xQ (λv a=>decide (0<=dJ (eE x.id v a) x.net.aB)) x.heard=true∧dv x.store=true:=by
 unfold jf at h
 simp only[bL,be,decide_eq_true_eq]at h
 exact⟨h.1,h.2.1,h.2.2.1,h.2.2.2.1.1,h.2.2.2.1.2,h.2.2.2.2⟩
def zO(ls:List bH)(id:Int)(hd:List Int)(a:Int):List cC:=
 ((List.range (hd.length/2)).filter λk:Nat=>decide (gt hd (2*(k:Int)+1)=a)).map λk:Nat=>⟨gt hd (2*(k:Int)),lg ls id (gt hd (2*(k:Int))) a⟩
def vC(ls:List bH)(id:Int)(hd:List Int)(a:Int):ay:=⟨a,1,id,0,0,zO ls id hd a,0,false⟩
def fO(x:Self):List ay:=(lh x.net.aB x.id).map (vC x.net.aB x.id x.heard)
def wW(id:Int)(r:ay):Bool:=!(r.kind==1&&r.owner==id)
def qS(s:List ay)(id:Int)(l:List ay):List ay:=eQ gZ (s.filter (wW id)) l
def qy(id:Int)(t:bZ):ay:=⟨9,3,id,t.key,0,[],t.cost,t.e_⟩
def HT(x:Self):List ay:=(x.net.aG.filter λt=>t.owner==x.id).map (qy x.id)
def oM(x:Self)(S:List ay):List ay:=if AF x.net.aB x.id=true then(lh x.net.aB x.id).flatMap λa=>cA S (lh x.net.aB x.id) x.id a else []
def same(r:ay):ay:=r
def ng(x:Self)(S:List ay):List ay:=eQ same [] (fO x++oM x S++HT x)
theorem adg(f:ay->ay)(s a b:List ay):eQ f s (a++b)=eQ f (eQ f s a) b:=by
 unfold eQ;rw[List.foldl_append]
theorem HU(x:Self):(fO x).length<=3:=by unfold fO;rw[List.length_map];exact HL _ _
theorem aug(x:Self)(S:List ay):(oM x S).length<=18:=by
 unfold oM
 split
 ·have:=Dt (lh x.net.aB x.id) (λa=>cA S (lh x.net.aB x.id) x.id a) λa=>Jl _ _ _ _
  have:=HL x.net.aB x.id
  omega
 ·simp
theorem adh(x:Self):(HT x).length<=x.net.aG.length:=by unfold HT;rw[List.length_map];exact List.length_filter_le _ _
theorem auh(ls:List bH)(id:Int)(hd:List Int)(a:Int):(zO ls id hd a).length<=hd.length:=by
 unfold zO
 rw[List.length_map]
 refine Nat.le_trans (List.length_filter_le _ _) ?_
 rw[List.length_range];omega
structure Fit (k:Nat) (s:List ay):Prop where
 so:ig s
 aX:aQ s
 len:s.length<=k
theorem Fit.nil:Fit 0 []:=⟨.nil,λr hr=>(by cases hr),Nat.le_refl _⟩
theorem Fit.mono{k k':Nat}{s:List ay}(h:Fit k s)(hk:k<=k'):Fit k' s:=⟨h.so,h.aX,Nat.le_trans h.len hk⟩
theorem Fit.put{k:Nat}{s:List ay}(h:Fit k s){r:ay}(hr:r.aX.length<=1048576):Fit (k+1) (cM s r):=⟨Jc h.so r,OH h.aX hr,asR (by have:=h.len;omega)⟩
theorem Fit.lE{f:ay->ay}{l:List ay}(hl:∀r∈l,(f r).aX.length<=1048576):∀{k:Nat} {s:List ay},Fit k s->Fit (k+l.length) (eQ f s l):=by
 unfold eQ
 induction l with
 |nil=>intro k s h;exact h
 |cons x l ih=>
  intro k s h
  rw[List.foldl_cons,List.length_cons]
  exact(ih (λr hr=>hl r (.tail _ hr)) (h.put (hl x (.head _)))).mono (by omega)
theorem Fit.filter{k:Nat}{s:List ay}(h:Fit k s)(p:ay->Bool):Fit k (s.filter p):=⟨h.so.filter _,λr hr=>h.aX r (List.mem_filter.1 hr).1,Nat.le_trans (List.length_filter_le _ _) h.len⟩
theorem adi(ls:List bH)(id:Int)(hd:List Int)(a:Int):
  (List.range (hd.length/2)).foldl (λ(d:List cC) (k:Nat)=>if decide (gt hd (2*(k:Int)+1)=a)=true then d++[(⟨gt hd (2*(k:Int)),lg ls id (gt hd (2*(k:Int))) a⟩:cC)]else d) []=zO ls id hd a:=by
 rw[IR (λk:Nat=>decide (gt hd (2*(k:Int)+1)=a)) (λk:Nat=>(⟨gt hd (2*(k:Int)),lg ls id (gt hd (2*(k:Int))) a⟩:cC)),List.nil_append]
 rfl
theorem aui(id aV n:Int)(ls:List bH)(ts t6:T)(hd:List Int)(hA:du (kj n) iC ls=true)(hl:ls.length<=12)(h1:hd.length%2=0)(h2:hd.length<=1048576):
  CJ [ii id,ii aV,ii n,.l (ls.map cT),ts,.l (hd.map aE),t6]=some [.l (((lh ls id).map (vC ls id hd)).map aw)]:=by
 have Es:=HL ls id
 rw[aq7];simp(disch:=omega) only[↓pq,↓pj,ps,pz,↓reduceIte,af,ah,ai,aj,ak,ap,aq,au,av,NS,NT,NU,HM _ _ _ _ _ hA hl]
 generalize lh ls id=A at Es
 refine(gO A (λj c=>[.l (c.map aw),ii j]) (λc a=>c++[vC ls id hd a]) (λc=>some [T.l (c.map aw)]) [] (λj c=>c.length<=j) rfl (c_ (by omega)) (by simp) ?_ ?_).trans (by rw[foldl_map,List.nil_append])
 ·intro j c hj hc
  refine⟨by simp;omega,λq=>?_⟩
  simp(disch:=omega) only[↓pq,↓pj,ps,pz,↓reduceIte,af,ah,ai,aj,ak,ap,aq,au,av,NS,NT,hj]
  unfold vC
  rw[<-adi]
  refine o6 (hd.length/2) (λk d=>[ii (2*k),.l (d.map eJ)]) (λ(d:List cC) (k:Nat)=>if decide (gt hd (2*(k:Int)+1)=gt A (j:Int))=true then d++[(⟨gt hd (2*(k:Int)),lg ls id (gt hd (2*(k:Int))) (gt A (j:Int))⟩:cC)]else d) (λd=>q [.l ((c++[(⟨gt A (j:Int),1,id,0,0,d,0,false⟩:ay)]).map aw),ii ((j:Int)+1)]) [] (λk d=>d.length<=k) rfl (c_ (by omega)) (by simp) ?_ ?_
  ·intro k d hk kX
   refine⟨by split;(· simp;omega);(· omega),λs=>?_⟩
   have bC:2*(k:Int)<hd.length:=by omega
   have nB:2*(k:Int)+1<hd.length:=by omega
   by_cases e:gt hd (2*(k:Int)+1)=gt A (j:Int)
   ·simp(disch:=omega) only[↓pq,↓pj,ps,pz,↓reduceIte,af,ah,ai,aj,ak,ap,aq,au,av,NS,NT,bC,nB,e,asC _ _ _ _ _ _ (show ls.length<=1048576 by omega),decide_true,Int.mul_add]
   ·simp(disch:=omega) only[↓pq,↓pj,ps,pz,↓reduceIte,af,ah,ai,aj,ak,ap,aq,au,av,NS,NT,bC,nB,e,decide_false,cE,Int.mul_add]
  ·intro d s kX
   have bC:¬(2*((hd.length/2:Nat):Int)<hd.length):=by omega
   simp(disch:=omega) only[↓pq,↓pj,ps,pz,↓reduceIte,af,ah,ai,aj,ak,ap,aq,au,av,NS,NT,bC]
 ·intro c q hc
  simp(disch:=omega) only[↓pq,↓pj,ps,pz,↓reduceIte,af,ah,ai,aj,ak,ap,aq,au,av,NS,NT,]
theorem auj(id aV n:Int)(ls:List bH)(ts t6:T)(hd:List Int)(a:Int)(hl:ls.length<=12)(h1:hd.length%2=0)(h2:hd.length<=1048576):
  XM [ii id,ii aV,ii n,.l (ls.map cT),ts,.l (hd.map aE),t6,ii a]=some (aw (vC ls id hd a)):=by
 rw[apy];simp(disch:=omega) only[↓pq,↓pj,ps,pz,↓reduceIte,af,ah,ai,aj,ak,ap,aq,au,av,qG_,Nc]
 unfold vC
 rw[<-adi]
 refine o6 (hd.length/2) (λk d=>[ii (2*k),.l (d.map eJ)]) (λ(d:List cC) (k:Nat)=>if decide (gt hd (2*(k:Int)+1)=a)=true then d++[(⟨gt hd (2*(k:Int)),lg ls id (gt hd (2*(k:Int))) a⟩:cC)]else d) (λd=>some (aw (⟨a,1,id,0,0,d,0,false⟩:ay))) [] (λk d=>d.length<=k) rfl (c_ (by omega)) (by simp) ?_ ?_
 ·intro k d hk kX
  refine⟨by split;(· simp;omega);(· omega),λs=>?_⟩
  have bC:2*(k:Int)<hd.length:=by omega
  have nB:2*(k:Int)+1<hd.length:=by omega
  by_cases e:gt hd (2*(k:Int)+1)=a
  ·simp(disch:=omega) only[↓pq,↓pj,ps,pz,↓reduceIte,af,ah,ai,aj,ak,ap,aq,au,av,qG_,bC,nB,e,I_ _ _ _ _ _ _ (show ls.length<=1048576 by omega),decide_true,Int.mul_add]
  ·simp(disch:=omega) only[↓pq,↓pj,ps,pz,↓reduceIte,af,ah,ai,aj,ak,ap,aq,au,av,qG_,bC,nB,e,decide_false,cE,Int.mul_add]
 ·intro d s kX
  have bC:¬(2*((hd.length/2:Nat):Int)<hd.length):=by omega
  simp(disch:=omega) only[↓pq,↓pj,ps,pz,↓reduceIte,af,ah,ai,aj,ak,ap,aq,au,av,qG_,bC]
  rfl
theorem auk(s:List ay)(id:Int)(l:List ay){k:Nat}(hs:Fit k s)(hk:k+l.length<=1048570)(hn:aQ l):
  CL [.l (s.map aw),ii id,.l (l.map aw)]=some [.l ((qS s id l).map aw)]:=by
 have oX:=hs.len
 rw[arb];simp(disch:=omega) only[↓pq,↓pj,ps,pz,↓reduceIte,af,ah,ai,aj,ak,ap,aq,au,av,zg,zh,NY]
 refine ac3 s (λi c=>[.l (c.map aw),ii i]) (wW id) rfl (c_ (by omega)) ?_ ?_
 ·intro i c hi hc q
  have:=hs.aX.gt (n:=i) (by omega) hi
  unfold wW
  simp(disch:=omega) only[↓pq,↓pj,ps,pz,↓reduceIte,af,ah,ai,aj,ak,ap,aq,au,av,zg,zh,hi]
  by_cases k1:(gt s (i:Int)).kind=1
  ·by_cases k2:(gt s (i:Int)).owner=id
   ·simp[k1,k2]
   ·simp[k1,k2]
  ·simp[k1]
 ·intro q
  simp(disch:=omega) only[↓pq,↓pj,ps,pz,↓reduceIte,af,ah,ai,aj,ak,ap,aq,au,av,zg,zh,]
  refine gO l (λi c=>[.l (c.map aw),ii i]) (λc r=>cM c (gZ r)) (λc=>some [T.l (c.map aw)]) (s.filter (wW id)) (λi c=>Fit (k+i) c) rfl (c_ (by omega)) (hs.filter _) ?_ ?_
  ·intro i d hi hd
   have mi:=hn.gt (n:=i) (by omega) hi
   refine⟨hd.put mi,λq=>?_⟩
   have Ae:=hd.len
   have hp:=Da d (gt l (i:Int)).ae (gt l (i:Int)).kind (gt l (i:Int)).owner (gt l (i:Int)).key 1 (gt l (i:Int)).aX (gt l (i:Int)).cost (gt l (i:Int)).e_ (by omega) hd.aX hd.so mi
   simp(disch:=omega) only[↓pq,↓pj,ps,pz,↓reduceIte,af,ah,ai,aj,ak,ap,aq,au,av,zg,zh,hi,hp]
   rfl
  ·intro d q' hd
   simp(disch:=omega) only[↓pq,↓pj,ps,pz,↓reduceIte,af,ah,ai,aj,ak,ap,aq,au,av,zg,zh,]
theorem aul(id:Int)(ts:List bZ):∀c:List ay,ts.foldl (λc t=>if t.owner=id then cM c (qy id t)else c) c=eQ same c ((ts.filter λt=>t.owner==id).map (qy id)):=by
 induction ts with
 |nil=>intro c;rfl
 |cons t ts ih=>
  intro c
  rw[List.foldl_cons,ih]
  by_cases h:t.owner=id
  ·rw[if_pos h,List.filter_cons,if_pos (by simpa using h)]
   rfl
  ·rw[if_neg h,List.filter_cons,if_neg (by simpa using h)]
theorem adj(id:Int)(ts:List bZ)(h:ts.length<=4)(c:List ay){k:Nat}(hc:Fit k c)(hk:k<=1000):
  iter (zi sM (ii id) (.l (ts.map dj)) (ii ts.length)) rounds [.l (c.map aw),ii 0]=some [.l ((eQ same c ((ts.filter λt=>t.owner==id).map (qy id))).map aw)]:=by
 rw[<-aul]
 refine gO ts (λi c=>[.l (c.map aw),ii i]) (λc t=>if t.owner=id then cM c (qy id t)else c) (λc=>some [T.l (c.map aw)]) c (λi c=>Fit (k+i) c) rfl (c_ (by omega)) hc ?_ ?_
 ·intro i d hi hd
  have Ae:=hd.len
  by_cases e:(gt ts (i:Int)).owner=id
  ·rw[if_pos e]
   refine⟨hd.put (by simp[qy]),λq=>?_⟩
   have hp:=Da d 9 3 id (gt ts (i:Int)).key 0 [] (gt ts (i:Int)).cost (gt ts (i:Int)).e_ (by omega) hd.aX hd.so (by simp)
   rw[List.map_nil]at hp
   simp(disch:=omega) only[↓pq,↓pj,ps,pz,↓reduceIte,af,ah,ai,aj,ak,ap,aq,au,av,Ax,Ay,zi,Az,hi,e,hp]
   rfl
  ·rw[if_neg e]
   refine⟨hd.mono (by omega),λq=>?_⟩
   simp(disch:=omega) only[↓pq,↓pj,ps,pz,↓reduceIte,af,ah,ai,aj,ak,ap,aq,au,av,Ax,Ay,zi,Az,hi,e]
 ·intro d q hd
  simp(disch:=omega) only[↓pq,↓pj,ps,pz,↓reduceIte,af,ah,ai,aj,ak,ap,aq,au,av,Ax,Ay,zi,Az,]
theorem HV{x:Self}(h:x.heard.length<=1048576):aQ (fO x):=λr hr=>by
 obtain⟨a,_,rfl⟩:=List.mem_map.1 hr
 exact Nat.le_trans (auh _ _ _ _) h
theorem Pr(s:List ay)(A:List Int)(fr ae:Int):aQ (cA s A fr ae):=λr hr=>by
 rw[(QY hr).2.2.2.2.1];simp
theorem aum{s:List ay}{id:Int}{l:List ay}{k:Nat}(hs:Fit k s)(hn:aQ l):Fit (k+l.length) (qS s id l):=Fit.lE (f:=gZ) (λr hr=>hn r hr) (hs.filter _)
theorem Jm{s:List ay}(h:dv s=true)(hn:aQ s):Fit 150 s:=⟨qR h,hn,by unfold dv at h;simp only[bL,decide_eq_true_eq]at h;exact h.1⟩
theorem aun(id aV n:Int)(ls:List bH)(ts:List bZ)(hd:List Int)(st:List ay)(h1:ls.length<=1048576)(h2:ts.length<=1048576)(h3:hd.length<=1048576)(h4:st.length<=1048576)(h5:aQ st)(hk:jf ⟨id,aV,⟨n,ls,ts⟩,hd,st⟩=true):
  QA [ii id,ii aV,ii n,.l (ls.map cT),.l (ts.map dj),.l (hd.map aE),.l (st.map aw)]=some [.l ((ng ⟨id,aV,⟨n,ls,ts⟩,hd,st⟩ (qS st id (fO ⟨id,aV,⟨n,ls,ts⟩,hd,st⟩))).map aw)]:=by
 obtain⟨hN,hid,iS,jJ,uo,cn⟩:=mJ hk
 obtain⟨n1,hl,ht,hA,hT⟩:=rM hN
 simp only at hid iS jJ uo cn n1 hl ht hA hT
 have vd:=Jm cn h5
 have hol:=HU ⟨id,aV,⟨n,ls,ts⟩,hd,st⟩
 have Dw:=HV (x:=⟨id,aV,⟨n,ls,ts⟩,hd,st⟩) h3
 have hO:=aui id aV n ls (.l (ts.map dj)) (.l (st.map aw)) hd hA hl jJ h3
 rw[show(lh ls id).map (vC ls id hd)=fO ⟨id,aV,⟨n,ls,ts⟩,hd,st⟩ from rfl]at hO
 unfold ng oM HT
 simp only
 generalize fO ⟨id,aV,⟨n,ls,ts⟩,hd,st⟩=O at hol Dw hO
 have hB:=auk st id O vd (by omega) Dw
 have Ps:=aum (id:=id) vd Dw
 generalize qS st id O=S at hB Ps
 have hSl:=Ps.len
 rw[arA];simp(disch:=omega) only[↓pq,↓pj,ps,pz,↓reduceIte,af,ah,ai,aj,ak,ap,aq,au,av,Ax,Ay,zi,Az,N9,G9 _ _ _ _ _ _ _ h1 h2 h3 h4 h5,hk,hO]
 rw[adg,adg]
 refine gO O (λi c=>[.l (c.map aw),ii i,.l (O.map aw)]) (λc r=>cM c (same r)) (λc=>some [T.l ((eQ same (eQ same c (if AF ls id=true then(lh ls id).flatMap λa=>cA S (lh ls id) id a else [])) ((ts.filter λt=>t.owner==id).map (qy id))).map aw)]) [] (λi c=>Fit i c) rfl (c_ (by omega)) Fit.nil ?_ ?_
 ·intro i d hi kX
  have mi:=Dw.gt (n:=i) (by omega) hi
  refine⟨kX.put mi,λq=>?_⟩
  have Ae:=kX.len
  have hp:=Da d (gt O (i:Int)).ae (gt O (i:Int)).kind (gt O (i:Int)).owner (gt O (i:Int)).key (gt O (i:Int)).seq (gt O (i:Int)).aX (gt O (i:Int)).cost (gt O (i:Int)).e_ (by omega) kX.aX kX.so mi
  simp(disch:=omega) only[↓pq,↓pj,ps,pz,↓reduceIte,af,ah,ai,aj,ak,ap,aq,au,av,Ax,Ay,zi,Az,hi,hp]
  rfl
 ·intro c q hc
  have Es:=HL ls id
  cases hb:AF ls id with
  |false=>
   simp(disch:=omega) only[↓pq,↓pj,ps,pz,↓reduceIte,af,ah,ai,aj,ak,ap,aq,au,av,Ax,Ay,zi,Az,HM _ _ _ _ _ hA hl,acS _ _ _ _ _ hA hl,hb,cE]
   exact adj id ts ht c hc (by omega)
  |true=>
   simp only[if_true]
   simp(disch:=omega) only[↓pq,↓pj,ps,pz,↓reduceIte,af,ah,ai,aj,ak,ap,aq,au,av,Ax,Ay,zi,Az,HM _ _ _ _ _ hA hl,acS _ _ _ _ _ hA hl,hb,hB]
   generalize lh ls id=A at Es
   rw[<-atZ]
   refine gO A (λj c=>[.l (c.map aw),ii j]) (λc a=>eQ same c (cA S A id a)) (λc=>some [T.l ((eQ same c ((ts.filter λt=>t.owner==id).map (qy id))).map aw)]) c (λj c=>Fit (3+6*j) c) rfl (c_ (by omega)) (hc.mono (by omega)) ?_ ?_
   ·intro j c hj hc
    have sy:=Jl S A id (gt A (j:Int))
    have yW:=Pr S A id (gt A (j:Int))
    refine⟨(hc.lE (f:=same) λr hr=>yW r hr).mono (by omega),λq=>?_⟩
    simp(disch:=omega) only[↓pq,↓pj,ps,pz,↓reduceIte,af,ah,ai,aj,ak,ap,aq,au,av,Ax,Ay,zi,Az,hj,atN S A id _ (show S.length<=1048576 by omega) Ps.aX (show A.length<=1048576 by omega)]
    generalize cA S A id (gt A (j:Int))=B at sy yW
    refine gO B (λi c=>[.l (c.map aw),ii i,.l (B.map aw)]) (λc r=>cM c (same r)) (λc=>q [.l (c.map aw),ii ((j:Int)+1)]) c (λi c=>Fit (3+6*j+i) c) rfl (c_ (by omega)) hc ?_ ?_
    ·intro i d hi kX
     have mi:=yW.gt (n:=i) (by omega) hi
     refine⟨kX.put mi,λq=>?_⟩
     have Ae:=kX.len
     have hp:=Da d (gt B (i:Int)).ae (gt B (i:Int)).kind (gt B (i:Int)).owner (gt B (i:Int)).key (gt B (i:Int)).seq (gt B (i:Int)).aX (gt B (i:Int)).cost (gt B (i:Int)).e_ (by omega) kX.aX kX.so mi
     simp(disch:=omega) only[↓pq,↓pj,ps,pz,↓reduceIte,af,ah,ai,aj,ak,ap,aq,au,av,Ax,Ay,zi,Az,hi,hp]
     rfl
    ·intro d q' kX
     simp(disch:=omega) only[↓pq,↓pj,ps,pz,↓reduceIte,af,ah,ai,aj,ak,ap,aq,au,av,Ax,Ay,zi,Az,]
   ·intro c q hc
    simp(disch:=omega) only[↓pq,↓pj,ps,pz,↓reduceIte,af,ah,ai,aj,ak,ap,aq,au,av,Ax,Ay,zi,Az,]
    exact adj id ts ht c hc (by omega)
def xX(x:Self):List ay:=eQ ia x.store (fO x)
theorem aup(r:ay):(ia r).aX=r.aX:=by unfold ia;split<;>rfl
theorem auq{x:Self}{k:Nat}(h:Fit k x.store)(hh:x.heard.length<=1048576):Fit (k+3) (xX x):=by
 have:=HU x
 exact(Fit.lE (f:=ia) (λr hr=>by rw[aup];exact HV hh r hr) h).mono (by omega)
theorem aur(a k o y s c:Int)(f:Bool):Prim.ev (.lit 8 [true,true,true,true,true,false,true,true]) [ii a,ii k,ii o,ii y,ii s,.l [],ii c,bb f]=some (.l ([(⟨a,k,o,y,s,[],c,f⟩:ay)].map aw)):=qp (by decide) rfl rfl
theorem aus(id aV n:Int)(ls:List bH)(ts:List bZ)(hd:List Int)(st:List ay)(h1:ls.length<=1048576)(h2:ts.length<=1048576)(h3:hd.length<=1048576)(h4:st.length<=1048576)(h5:aQ st)(hk:jf ⟨id,aV,⟨n,ls,ts⟩,hd,st⟩=true):
  Co [ii id,ii aV,ii n,.l (ls.map cT),.l (ts.map dj),.l (hd.map aE),.l (st.map aw)]=some [.l ((ng ⟨id,aV,⟨n,ls,ts⟩,hd,st⟩ (xX ⟨id,aV,⟨n,ls,ts⟩,hd,st⟩)).map aw)]:=by
 obtain⟨hN,hid,iS,jJ,uo,cn⟩:=mJ hk
 obtain⟨n1,hl,ht,hA,hT⟩:=rM hN
 simp only at hid iS jJ uo cn n1 hl ht hA hT
 have vd:=Jm cn h5
 have hol:=HU ⟨id,aV,⟨n,ls,ts⟩,hd,st⟩
 have Dw:=HV (x:=⟨id,aV,⟨n,ls,ts⟩,hd,st⟩) h3
 have Ps:=auq (x:=⟨id,aV,⟨n,ls,ts⟩,hd,st⟩) vd h3
 have oX:=vd.len
 have hW:=Pq st (fO ⟨id,aV,⟨n,ls,ts⟩,hd,st⟩) (by omega) h5 Dw
 rw[show eQ ia st (fO ⟨id,aV,⟨n,ls,ts⟩,hd,st⟩)=xX ⟨id,aV,⟨n,ls,ts⟩,hd,st⟩ from rfl]at hW
 generalize xX ⟨id,aV,⟨n,ls,ts⟩,hd,st⟩=S at hW Ps
 have hSl:=Ps.len
 have Es:=HL ls id
 rw[apA];simp(disch:=omega) only[↓pq,↓pj,ps,pz,↓reduceIte,af,ah,ai,aj,ak,ap,aq,au,av,Au,Av,ze,Aw,Nd,C7 _ _ _ _ _ _ _ h1 h2 h3 h4 h5,hk,HN _ _ _ _ _ hA hl]
 have hT2:∀(c:List ay),c.length<=100->aQ c->iter (ze rounds tv rH (ii id) (.l (ts.map dj)) (.l [])) rounds [.l (c.map aw),ii 0]=some [.l ((eQ same [] (c++(ts.filter λt=>t.owner==id).map (qy id))).map aw)]:=by
  intro c hc hcn
  have e:(ts.filter λt=>t.owner==id).map (qy id)=ts.foldl (λc t=>if(t.owner==id)=true then c++[qy id t]else c) []:=by
   rw[IR (λt:bZ=>t.owner==id) (qy id),List.nil_append]
  have e2:c++(ts.filter λt=>t.owner==id).map (qy id)=ts.foldl (λc t=>if(t.owner==id)=true then c++[qy id t]else c) c:=by
   rw[IR (λt:bZ=>t.owner==id) (qy id)]
  rw[e2]
  refine gO ts (λi c=>[.l (c.map aw),ii i]) (λc t=>if(t.owner==id)=true then c++[qy id t]else c) (λc=>some [T.l ((eQ same [] c).map aw)]) c (λi c=>c.length<=100+i∧aQ c) rfl (c_ (by omega)) ⟨by omega,hcn⟩ ?_ ?_
  ·rintro i d hi ⟨f_,oR⟩
   by_cases k:(gt ts (i:Int)).owner=id
   ·have e:((gt ts (i:Int)).owner==id)=true:=by simpa using k
    rw[if_pos e]
    refine⟨⟨by simp;omega,λr hr=>?_⟩,λq=>?_⟩
    ·rcases List.mem_append.1 hr with hr|hr
     ·exact oR r hr
     ·rw[List.mem_singleton]at hr;subst hr;simp[qy]
    ·unfold qy
     simp(disch:=omega) only[↓pq,↓pj,ps,pz,↓reduceIte,af,ah,ai,aj,ak,ap,aq,au,av,Au,Av,ze,Aw,hi,k,aur]
   ·have e:¬((gt ts (i:Int)).owner==id)=true:=by simpa using k
    rw[if_neg e]
    refine⟨⟨by omega,oR⟩,λq=>?_⟩
    simp(disch:=omega) only[↓pq,↓pj,ps,pz,↓reduceIte,af,ah,ai,aj,ak,ap,aq,au,av,Au,Av,ze,Aw,hi,k]
  ·rintro d q ⟨f_,oR⟩
   simp(disch:=omega) only[↓pq,↓pj,ps,pz,↓reduceIte,af,ah,ai,aj,ak,ap,aq,au,av,Au,Av,ze,Aw,]
   refine gO d (λi c=>[.l (c.map aw),ii i]) (λc r=>cM c (same r)) (λc=>some [T.l (c.map aw)]) [] (λi c=>Fit i c) rfl (c_ (by omega)) Fit.nil ?_ ?_
   ·intro i c hi hc
    have mi:=oR.gt (n:=i) (by omega) hi
    refine⟨hc.put mi,λq=>?_⟩
    have tg:=hc.len
    have hp:=Jd c (gt d (i:Int)).ae (gt d (i:Int)).kind (gt d (i:Int)).owner (gt d (i:Int)).key (gt d (i:Int)).seq (gt d (i:Int)).aX (gt d (i:Int)).cost (gt d (i:Int)).e_ (by omega) hc.aX mi
    simp(disch:=omega) only[↓pq,↓pj,ps,pz,↓reduceIte,af,ah,ai,aj,ak,ap,aq,au,av,Au,Av,ze,Aw,hi,hp]
    rfl
   ·intro c q hc
    have tg:=hc.len
    simp(disch:=omega) only[↓pq,↓pj,ps,pz,↓reduceIte,af,ah,ai,aj,ak,ap,aq,au,av,Au,Av,ze,Aw,Ek c (by omega) hc.aX]
 have hO:fO ⟨id,aV,⟨n,ls,ts⟩,hd,st⟩=(lh ls id).map (vC ls id hd):=rfl
 unfold ng oM HT
 simp only
 rw[hO]at hol Dw hW⊢
 generalize lh ls id=A at Es hol Dw hW
 refine gO A (λj c=>[.l (c.map aw),ii j]) (λc a=>c++[vC ls id hd a]) (λ_=>some [T.l ((eQ same [] (A.map (vC ls id hd)++(if AF ls id=true then A.flatMap λa=>cA S A id a else [])++(ts.filter λt=>t.owner==id).map (qy id))).map aw)]) [] (λj c=>c=(A.take j).map (vC ls id hd)) rfl (c_ (by omega)) rfl ?_ ?_
 ·intro j c hj hc
  have qY:j<A.length:=by omega
  refine⟨by rw[hc,List.take_add_one,List.map_append,List.getElem?_eq_getElem qY,eh qY];simp,λq=>?_⟩
  have tg:c.length<=j:=by rw[hc,List.length_map];simp;omega
  have hN:=auj id aV n ls (.l (ts.map dj)) (.l (st.map aw)) hd (gt A (j:Int)) hl jJ h3
  simp only[aw]at hN
  simp(disch:=omega) only[↓pq,↓pj,ps,pz,↓reduceIte,af,ah,ai,aj,ak,ap,aq,au,av,Au,Av,ze,Aw,hj,hN]
 ·intro c q hc
  rw[List.take_length]at hc
  rw[<-hc]at hol Dw hW⊢
  cases hb:AF ls id with
  |false=>
   simp(disch:=omega) only[↓pq,↓pj,ps,pz,↓reduceIte,af,ah,ai,aj,ak,ap,aq,au,av,Au,Av,ze,Aw,HO _ _ _ _ _ hA hl,hb,cE]
   rw[List.append_nil]
   exact hT2 c (by omega) Dw
  |true=>
   simp only[if_true]
   simp(disch:=omega) only[↓pq,↓pj,ps,pz,↓reduceIte,af,ah,ai,aj,ak,ap,aq,au,av,Au,Av,ze,Aw,HO _ _ _ _ _ hA hl,hb,hW]
   refine gO A (λj d=>[.l (d.map aw),ii j]) (λd a=>d++cA S A id a) (λ_=>some [T.l ((eQ same [] (c++(A.flatMap λa=>cA S A id a)++(ts.filter λt=>t.owner==id).map (qy id))).map aw)]) c (λj d=>d=c++(A.take j).flatMap λa=>cA S A id a) rfl (c_ (by omega)) (by simp) ?_ ?_
   ·intro j d hj kX
    have qY:j<A.length:=by omega
    refine⟨by rw[kX,List.take_add_one,List.flatMap_append,List.getElem?_eq_getElem qY,eh qY];simp,λq=>?_⟩
    have sy:=Jl S A id (gt A (j:Int))
    have Ae:d.length<=30:=by
     rw[kX,List.length_append]
     have:=Dt (A.take j) (λa=>cA S A id a) λa=>Jl S A id a
     have:(A.take j).length<=A.length:=by simp;omega
     omega
    simp(disch:=omega) only[↓pq,↓pj,ps,pz,↓reduceIte,af,ah,ai,aj,ak,ap,aq,au,av,Au,Av,ze,Aw,hj,acZ S A id _ (show S.length<=1048576 by omega) Ps.aX (show A.length<=1048576 by omega)]
   ·intro d q kX
    rw[List.take_length]at kX
    have Ae:d.length<=30:=by
     rw[kX,List.length_append]
     have:=Dt A (λa=>cA S A id a) λa=>Jl S A id a
     omega
    have oU:aQ d:=λr hr=>by
     rw[kX]at hr
     rcases List.mem_append.1 hr with hr|hr
     ·exact Dw r hr
     ·obtain⟨a,_,hr⟩:=List.mem_flatMap.1 hr
      exact Pr _ _ _ _ r hr
    rw[<-kX]
    simp(disch:=omega) only[↓pq,↓pj,ps,pz,↓reduceIte,af,ah,ai,aj,ak,ap,aq,au,av,Au,Av,ze,Aw,]
    exact hT2 d (by omega) oU
theorem Dx{a b:ay}(h:dS a b=true):dS b a=true:=by rw[sameKey_iff]at *;omega
theorem tM{a b c:ay}(h:dS a b=true)(h':dS b c=true):dS a c=true:=by rw[sameKey_iff]at *;omega
theorem Et(a:ay):dS a a=true:=by rw[sameKey_iff];omega
theorem fm{s:List ay}{r x:ay}:x∈cM s r↔x=r∨(x∈s∧dS x r=false):=by
 unfold cM
 simp only[List.mem_append,List.mem_filter,List.mem_singleton]
 constructor
 ·rintro(⟨h,q⟩|h|⟨h,q⟩)
  ·exact .inr ⟨h,qK_ q⟩
  ·exact .inl h
  ·refine .inr ⟨h,?_⟩
   cases hc:dS x r with
   |false=>rfl
   |true=>have:=Dx hc;rw[qK_ q]at this;cases this
 ·rintro(h|⟨h,q⟩)
  ·exact .inr (.inl h)
  ·cases hl:fC x r with
   |true=>exact .inl ⟨h,rfl⟩
   |false=>exact .inr (.inr ⟨h,acf hl q⟩)
def cD(s:List ay)(r:ay):Prop:=∃x∈s,dS r x=true
theorem cD.put{s:List ay}{y:ay}(h:cD s y)(r:ay):cD (cM s r) y:=by
 obtain⟨x,hx,hk⟩:=h
 cases hc:dS x r with
 |true=>exact⟨r,fm.2 (.inl rfl),tM hk hc⟩
 |false=>exact⟨x,fm.2 (.inr ⟨hx,hc⟩),hk⟩
theorem cD.new{s:List ay}{y r:ay}(h:dS y r=true):cD (cM s r) y:=⟨r,fm.2 (.inl rfl),h⟩
theorem cD.lE{f:ay->ay}{y:ay}:∀{l s:List ay},cD s y->cD (eQ f s l) y
 | [],_,h=>h
 |x::l,s,h=>cD.lE (l:=l) (h.put (f x))
theorem cD.nP{f:ay->ay}{y z:ay}(hz:dS y (f z)=true):∀{l s:List ay},z∈l->cD (eQ f s l) y
 |x::l,s,h=>by
  rcases List.mem_cons.1 h with rfl|h
  ·exact cD.lE (l:=l) (cD.new hz)
  ·exact cD.nP hz (l:=l) h
theorem qh_:∀{s t:List ay},ig s->ig t->(∀r∈s,cD t r)->s.length<=t.length
 | [],t,_,_,_=>by simp
 |x::s,t,hs,ht,h=>by
  have ps:=List.pairwise_cons.1 hs
  obtain⟨y,hy,hk⟩:=h x (.head _)
  obtain⟨t1,t2,rfl⟩:=List.append_of_mem hy
  have pt:=List.pairwise_append.1 ht
  have pt2:=List.pairwise_cons.1 pt.2.1
  have ih:=qh_ (s:=s) (t:=t2) ps.2 pt2.2 λr hr=>by
   obtain⟨z,hz,QZ⟩:=h r (.tail _ hr)
   have bC:fC y z=true:=by
    have h1:=ps.1 r hr
    rw[pG]at*
    rw[sameKey_iff]at hk QZ
    omega
   rcases List.mem_append.1 hz with hz|hz
   ·have h2:=pt.2.2 z hz y (.head _)
    rw[C_ bC]at h2;cases h2
   ·rcases List.mem_cons.1 hz with e|hz
    ·subst e
     rw[Hh]at bC;cases bC
    ·exact⟨z,hz,QZ⟩
  simp only[List.length_append,List.length_cons]
  omega
theorem Jn{f:ay->ay}{r:ay}:∀{l s:List ay},l.Pairwise (λa b=>dS (f a) (f b)=false)->(r∈eQ f s l↔(∃o∈l,r=f o)∨(r∈s∧∀o∈l,dS r (f o)=false))
 | [],s,_=>by simp[eQ]
 |x::l,s,h=>by
  have hp:=List.pairwise_cons.1 h
  rw[show eQ f s (x::l)=eQ f (cM s (f x)) l from rfl,Jn hp.2,fm]
  constructor
  ·rintro(⟨o,ho,e⟩|⟨e|⟨h1,h2⟩,h3⟩)
   ·exact .inl ⟨o,.tail _ ho,e⟩
   ·exact .inl ⟨x,.head _,e⟩
   ·refine .inr ⟨h1,λo ho=>?_⟩
    rcases List.mem_cons.1 ho with rfl|ho
    ·exact h2
    ·exact h3 o ho
  ·rintro(⟨o,ho,e⟩|⟨h1,h2⟩)
   ·rcases List.mem_cons.1 ho with rfl|ho
    ·exact .inr ⟨.inl e,λo' ID=>by rw[e];exact hp.1 o' ID⟩
    ·exact .inl ⟨o,ho,e⟩
   ·exact .inr ⟨.inr ⟨h1,h2 x (.head _)⟩,λo ho=>h2 o (.tail _ ho)⟩
def nQ(s:List ay)(r:ay):Int:=if bA s r<0 then 0 else(gt s (bA s r)).seq
def sY(x:Self)(r:ay):Int:=if 1000*x.aV+1>nQ x.store r+1 then 1000*x.aV+1 else nQ x.store r+1
def qz(s:List ay)(r:ay):Bool:=decide (bA s r<0)|| !vy (gt s (bA s r)) r
def wX(x:Self)(r:ay):ay:={r with seq:=sY x r}
def qA(x:Self)(c:List ay)(r:ay):List ay:=if qz x.store r=true then cM c (wX x r)else c
def gu(r:ay):ay:=if r.kind=1 then {r with aX:=[]}else {r with aX:=[],cost:=60000}
def sZ(x:Self)(W:List ay)(r:ay):Bool:=(r.owner==x.id)&&(decide (bA W r<0)&& !vy (gu r) r)
def wY(x:Self)(r:ay):ay:={gu r with seq:=sY x r}
def s5(x:Self)(W:List ay)(c:List ay)(r:ay):List ay:=if sZ x W r=true then cM c (wY x r)else c
def qB(x:Self)(W:List ay):List ay:=x.store.foldl (s5 x W) (W.foldl (qA x) [])
def vD(x:Self)(W:List ay):Self×List ay:=
 if(qB x W).all (λr=>decide (r.seq<=100000))=true∧(eQ same x.store (qB x W)).length<=150 then({x with store:=eQ same x.store (qB x W)},qB x W)else(x,[])
theorem Pu{α:Type}{y:ay}{g:List ay->α->List ay}(hg:∀c a,cD c y->cD (g c a) y):∀{l:List α} {c:List ay},cD c y->cD (l.foldl g c) y
 | [],_,h=>h
 |a::l,c,h=>Pu hg (l:=l) (hg c a h)
theorem aut{x:Self}{y:ay}(c:List ay)(r:ay)(h:cD c y):cD (qA x c r) y:=by
 unfold qA;split
 ·exact h.put _
 ·exact h
theorem auu{x:Self}{W:List ay}{y:ay}(c:List ay)(r:ay)(h:cD c y):cD (s5 x W c r) y:=by
 unfold s5;split
 ·exact h.put _
 ·exact h
theorem adn{x:Self}{w:ay}(hw:qz x.store w=true):∀{l c:List ay},w∈l->cD (l.foldl (qA x) c) w
 |a::l,c,h=>by
  rcases List.mem_cons.1 h with rfl|h
  ·rw[List.foldl_cons]
   refine Pu aut ?_
   unfold qA
   rw[if_pos hw]
   exact cD.new (by rw[sameKey_iff];exact⟨rfl,rfl,rfl,rfl⟩)
  ·exact adn hw (l:=l) h
theorem auv{s:List ay}{r:ay}(h:¬bA s r<0):cD s r:=by
 unfold bA at h
 have h0:0<=dJ (λx=>dS x r) s:=by omega
 exact⟨_,iT (l:=s) h0 (o5 _ _),Dx (q_ (λx=>dS x r) s h0)⟩
theorem ado(x:Self)(W:List ay){y:ay}(h:cD x.store y∨cD W y):cD (eQ same x.store (qB x W)) y:=by
 rcases h with h|⟨w,hw,hk⟩
 ·exact h.lE
 ·by_cases hn:qz x.store w=true
  ·obtain⟨z,hz,QZ⟩:cD (qB x W) w:=Pu auu (adn hn hw)
   exact cD.nP (z:=z) (tM hk QZ) hz
  ·unfold qz at hn
   simp only[Bool.or_eq_true,decide_eq_true_eq,not_or]at hn
   obtain⟨z,hz,QZ⟩:=auv hn.1
   exact cD.lE ⟨z,hz,tM hk QZ⟩
theorem HW(x:Self){f:ay->ay}(hf:∀r,dS (f r) r=true):(fO x).Pairwise λa b=>dS (f a) (f b)=false:=by
 unfold fO
 rw[List.pairwise_map]
 have h:(lh x.net.aB x.id).Pairwise (· < ·):=oL.filter _
 refine h.imp λ{a b} lu=>?_
 cases hc:dS (f (vC x.net.aB x.id x.heard a)) (f (vC x.net.aB x.id x.heard b))with
 |false=>rfl
 |true=>
  have:=tM (tM (Dx (hf _)) hc) (hf _)
  rw[sameKey_iff]at this
  have e:a=b:=this.1
  omega
theorem zP{x:Self}{o:ay}(ho:o∈fO x):ia o=gZ o∧o.kind=1∧o.owner=x.id∧o.key=0∧(lh x.net.aB x.id).contains o.ae=true:=by
 obtain⟨a,ha,rfl⟩:=List.mem_map.1 ho
 exact⟨rfl,rfl,rfl,rfl,List.contains_iff_mem.2 ha⟩
theorem auw{x:Self}(h:jf x=true)(a:Int):tH x.id (zO x.net.aB x.id x.heard a)=true:=by
 obtain⟨hN,hid,iS,jJ,uo,cn⟩:=mJ h
 obtain⟨n1,hl,ht,hA,hT⟩:=rM hN
 have hk:=λk hk=>bW.1 uo k hk
 unfold zO
 refine Pn ?_ ?_
 ·intro y hy
  obtain⟨k,fV,rfl⟩:=List.mem_map.1 hy
  obtain⟨dh,jj⟩:=List.mem_filter.1 fV
  rw[List.mem_range]at dh
  rw[decide_eq_true_eq]at jj
  have h1:=hk k dh
  simp only[bL,decide_eq_true_eq]at h1
  rw[jj]at h1
  have h2:=q_ _ _ h1.1
  have hm:=iT (l:=x.net.aB) (n:=dJ (eE x.id (gt x.heard (2*(k:Int))) a) x.net.aB) h1.1 (o5 _ _)
  have h3:=xW hA hm
  have h4:lg x.net.aB x.id (gt x.heard (2*(k:Int))) a=(gt x.net.aB (dJ (eE x.id (gt x.heard (2*(k:Int))) a) x.net.aB)).cost:=by unfold lg;rw[if_neg (by omega)]
  rw[gL]at h2
  simp only
  rw[h4]
  omega
 ·rw[List.pairwise_map]
  have j_:∀k,k+1<x.heard.length/2->gt x.heard (2*(k:Int))*4+gt x.heard (2*(k:Int)+1)<gt x.heard (2*((k+1:Nat):Int))*4+gt x.heard (2*((k+1:Nat):Int)+1):=by
   intro k mf
   have h1:=hk (k+1) mf
   have h0:=hk k (by omega)
   simp only[bL,Bool.or_eq_true,decide_eq_true_eq,Bool.not_eq_true',decide_eq_false_iff_not]at h1 h0
   have b1:=xW hA (iT (l:=x.net.aB) h1.1 (o5 _ _))
   have c1:=gL.1 (q_ _ _ h1.1)
   have b0:=xW hA (iT (l:=x.net.aB) h0.1 (o5 _ _))
   have c0:=gL.1 (q_ _ _ h0.1)
   have h2:=h1.2.resolve_left (by omega)
   rw[show(2:Int)*((k+1:Nat):Int)-2=2*(k:Int) by omega,show(2:Int)*((k+1:Nat):Int)-1=2*(k:Int)+1 by omega]at h2
   omega
  have ux:∀d k,k+1+d<x.heard.length/2->gt x.heard (2*(k:Int))*4+gt x.heard (2*(k:Int)+1)<gt x.heard (2*((k+1+d:Nat):Int))*4+gt x.heard (2*((k+1+d:Nat):Int)+1):=by
   intro d
   induction d with
   |zero=>intro k mf;exact j_ k mf
   |succ d ih=>intro k mf;exact Int.lt_trans (ih k (by omega)) (j_ (k+1+d) mf)
  refine(List.pairwise_lt_range.filter _).imp_of_mem λ{i j} hi hj oI=>?_
  obtain⟨vl,ln⟩:=List.mem_filter.1 hi
  obtain⟨hj1,yB⟩:=List.mem_filter.1 hj
  rw[List.mem_range]at vl hj1
  rw[decide_eq_true_eq]at ln yB
  have:=ux (j-i-1) i (by omega)
  rw[show i+1+(j-i-1)=j by omega,ln,yB]at this
  show gt x.heard (2*(i:Int))<gt x.heard (2*(j:Int))
  omega
theorem adp{x:Self}(h:jf x=true){o:ay}(ho:o∈fO x):eP (ia o)=true:=by
 have hid:=(mJ h).2.1
 have hN:=(rM (mJ h).1).1
 obtain⟨a,ha,rfl⟩:=List.mem_map.1 ho
 have h2:=kR_ ha
 have h3:=auw h a
 unfold eP
 simp only[vC,ia,if_true,bL,be]
 refine⟨⟨by omega,by omega⟩,?_⟩
 simp[be,h2,h3]
theorem Dy(r:ay):dS (ia r) r=true:=by
 rw[sameKey_iff]
 unfold ia
 split<;>exact⟨rfl,rfl,rfl,rfl⟩
theorem auy(r:ay):dS (gZ r) r=true:=by rw[sameKey_iff];exact⟨rfl,rfl,rfl,rfl⟩
theorem auz{x:Self}(h:jf x=true):Dv (lh x.net.aB x.id) (xX x) (qS x.store x.id (fO x)):=by
 have cn:=(mJ h).2.2.2.2.2
 have rN:=qR cn
 have p1:ig (xX x):=by
  unfold xX eQ
  have:∀(l s:List ay),ig s->ig (l.foldl (λc r=>cM c (ia r)) s):=by
   intro l;induction l with
   |nil=>intro s h;exact h
   |cons a l ih=>intro s h;exact ih _ (Jc h _)
  exact this _ _ rN
 have p2:ig (qS x.store x.id (fO x)):=by
  unfold qS eQ
  have:∀(l s:List ay),ig s->ig (l.foldl (λc r=>cM c (gZ r)) s):=by
   intro l;induction l with
   |nil=>intro s h;exact h
   |cons a l ih=>intro s h;exact ih _ (Jc h _)
  exact this _ _ (rN.filter _)
 have m1:=λr=>Jn (f:=ia) (r:=r) (s:=x.store) (HW x Dy)
 have m2:=λr=>Jn (f:=gZ) (r:=r) (s:=x.store.filter (wW x.id)) (HW x auy)
 refine⟨p1,λr hr=>?_,p2,λr hr hn=>?_⟩
 ·rcases(m2 r).1 hr with⟨o,ho,e⟩|⟨h1,h2⟩
  ·exact(m1 r).2 (.inl ⟨o,ho,by rw[e,(zP ho).1]⟩)
  ·exact(m1 r).2 (.inr ⟨(List.mem_filter.1 h1).1,λo ho=>by rw[(zP ho).1];exact h2 o ho⟩)
 ·rcases(m1 r).1 hr with⟨o,ho,e⟩|⟨h1,h2⟩
  ·exact absurd ((m2 r).2 (.inl ⟨o,ho,by rw[e,(zP ho).1]⟩)) hn
  ·have hm:¬wW x.id r=true:=λhm=>hn ((m2 r).2 (.inr ⟨List.mem_filter.2 ⟨h1,hm⟩,λo ho=>by rw[<-(zP ho).1];exact h2 o ho⟩))
   have hm:r.kind=1∧r.owner=x.id:=by
    unfold wW at hm
    simpa using hm
   refine⟨hm.1,?_⟩
   cases hc:(lh x.net.aB x.id).contains r.ae with
   |false=>rfl
   |true=>
    have ha:=List.contains_iff_mem.1 hc
    have h3:=h2 (vC x.net.aB x.id x.heard r.ae) (List.mem_map.2 ⟨_,ha,rfl⟩)
    have hk:=Po (Dd cn h1)
    have:dS r (ia (vC x.net.aB x.id x.heard r.ae))=true:=by
     refine tM ?_ (Dx (Dy _))
     rw[sameKey_iff]
     exact⟨rfl,hm.1,hm.2,by show r.key=0;omega⟩
    rw[this]at h3;cases h3
theorem auA{x:Self}{S:List ay}{o:ay}(ho:o∈fO x):cD (ng x S) o:=
 cD.nP (z:=o) (Et o) (List.mem_append.2 (.inl (List.mem_append.2 (.inl ho))))
theorem auB{x:Self}(h:jf x=true):vD x (ng x (xX x))=vD x (ng x (qS x.store x.id (fO x))):=by
 have hc:=auz h
 have cn:=(mJ h).2.2.2.2.2
 have rN:=qR cn
 by_cases hlen:(xX x).length<=150
 ·have hr:∀r∈xX x,eP r=true:=by
   intro r hr
   rcases(Jn (f:=ia) (r:=r) (s:=x.store) (HW x Dy)).1 hr with⟨o,ho,e⟩|⟨h1,_⟩
   ·rw[e];exact adp h ho
   ·exact Dd cn h1
  have h1:dv (xX x)=true:=by unfold dv;rw[bL,decide_eq_true_eq];exact⟨hlen,zG hr hc.so⟩
  have h2:dv (qS x.store x.id (fO x))=true:=by
   unfold dv;rw[bL,decide_eq_true_eq]
   exact⟨Nat.le_trans (qh_ hc.so' hc.so λr hr=>⟨r,hc.sub r hr,Et r⟩) hlen,zG (λr jG=>hr r (hc.sub r jG)) hc.so'⟩
  have e:oM x (xX x)=oM x (qS x.store x.id (fO x)):=by
   unfold oM
   rw[adf λa ha=>hc.cA (h1.trans h2.symm) (List.contains_iff_mem.2 ha) x.id]
  unfold ng
  rw[e]
 ·have big:∀S,vD x (ng x S)=(x,[]):=by
   intro S
   unfold vD
   rw[if_neg]
   rintro⟨_,h2⟩
   have hsT:ig (eQ same x.store (qB x (ng x S))):=by
    unfold eQ
    have:∀(l s:List ay),ig s->ig (l.foldl (λc r=>cM c (same r)) s):=by
     intro l;induction l with
     |nil=>intro s h;exact h
     |cons a l ih=>intro s h;exact ih _ (Jc h _)
    exact this _ _ rN
   have:=qh_ hc.so hsT λr hr=>by
    rcases(Jn (f:=ia) (r:=r) (s:=x.store) (HW x Dy)).1 hr with⟨o,ho,e⟩|⟨h1,_⟩
    ·obtain⟨z,hz,hk⟩:=ado x (ng x S) (y:=o) (.inr (auA ho))
     exact⟨z,hz,by rw[e];exact tM (Dy o) hk⟩
    ·exact ado x (ng x S) (.inl ⟨r,h1,Et r⟩)
   omega
  rw[big,big]
end Go.Proofs.YtjimmglpkndemaaGreatC
