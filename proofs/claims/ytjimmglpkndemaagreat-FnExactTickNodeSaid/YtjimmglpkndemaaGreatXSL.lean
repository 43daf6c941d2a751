/- Routes within areas, by both programs. Conditions: none. -/
import Derived.Test.YtjimmglpkndemaaGreatXSA
namespace Go.Proofs.YtjimmglpkndemaaGreatC
attribute [local irreducible] jp
open Int renaming reduceLE -> aj, reduceLT -> ak, reduceEq -> ap, reduceGT -> aq, reduceGE -> au, reduceAdd -> av, reduceSub -> aw, reduceMul -> ax, reduceNeg -> ay
set_option linter.unusedVariables false
set_option linter.unusedSimpArgs false
theorem Oc{s:List ah}(hs:dX s=true)(ar fr:Int):∀k W D,ig fr W D->∃D',ig fr (sX s ar fr k W D) D'
 |0,W,D,h=>⟨D,h⟩
 |k+1,W,D,h=>by
  unfold sX
  by_cases hb:dW W D=0
  ·rw[if_pos hb];exact⟨D,h⟩
  ·rw[if_neg hb];exact Oc hs ar fr k _ _ (h.step hs ar hb)
theorem fZ{s:List ah}{ar fr:Int}:(aC s ar fr).Pairwise (λa b=>a.to<b.to)∧(aC s ar fr).length<=7∧∀w∈aC s ar fr,(1<=w.to∧w.to<=6)∧fI w.aG∧0<=w.cost∧w.cost<=6000:=by
 unfold aC
 by_cases hc:dX s=true∧gZ fr 1 6=true∧0<=iH s ar fr
 ·rw[if_pos hc]
  obtain⟨D,hI⟩:=Oc hc.1 ar fr 6 (W0 fr) [] (ig.start (aW.1 hc.2.1))
  have hD:=hI.len
  have hl:=hI.ok.len
  have key:∀i,(hi:i<(sX s ar fr 6 (W0 fr) []).length)->(sX s ar fr 6 (W0 fr) [])[i].to≠0->(sX s ar fr 6 (W0 fr) [])[i].to=(i:Int)∧1<=i:=by
   intro i hi h0
   have:=(hI.ok.to (i:Int) (by omega) (by omega))
   rw[d_ hi]at this
   have:=this.resolve_left h0
   exact⟨this,by omega⟩
  refine⟨?_,Nat.le_trans (asO _) (by omega),λw hw=>?_⟩
  ·have hp:(sX s ar fr 6 (W0 fr) []).Pairwise λa b=>a.to≠0->b.to≠0->a.to<b.to:=by
    rw[List.pairwise_iff_getElem]
    intro i j hi hj qM h1 h2
    rw[(key i hi h1).1,(key j hj h2).1];omega
   unfold yY
   have Dh:=hp.filter (λw=>!(w.to==0))
   refine Dh.imp_of_mem λ{a b} ha hb kE=>kE ?_ ?_
   ·have:=(List.mem_filter.1 ha).2;simpa using this
   ·have:=(List.mem_filter.1 hb).2;simpa using this
  ·obtain⟨h1,h2⟩:=List.mem_filter.1 hw
   have h2:w.to≠0:=by simpa using h2
   obtain⟨i,hi,rfl⟩:=List.mem_iff_getElem.1 h1
   obtain⟨h3,h4⟩:=key i hi h2
   have h5:=hI.ok.aG (i:Int) (by omega) (by omega)
   have h6:=hI.ok.cost (i:Int) (by omega) (by omega)
   rw[d_ hi]at h5 h6
   exact⟨by omega,h5,by omega⟩
 ·rw[if_neg hc];simp
theorem as0(l:List Way)(w:Way)(i:Nat)(q:af)(qO:l.Pairwise λa b=>a.to<b.to)(hlen:l.length<=6)(hl:∀x∈l,fI x.aG)(hw:fI w.aG)(hi:i<=1048576)(x:T):
  iter (BZ yO wY (.l (l.map aZ)) (ii i) x (ii w.to) (ii w.cost) (.l (w.aG.map aD)) q) rounds [ii 0]=q [.l ((sq l w).map aZ),ii (i+1),x]:=by
 have hle:=G5 l w.to
 have lc:=G6 qO w.to
 have hwl:=sm hw
 refine Dd (λk=>[ii k]) (b9 l w.to) rfl (dR (by omega)) ?_ ?_
 ·intro k hk q'
  have fh:(k:Int)<l.length:=by omega
  have cK:(gt l (k:Int)).to<w.to:=by rw[d_ (by omega)];exact(lc k (by omega)).2 (by omega)
  simp(disch:=omega) only[↓pq,↓pj,ps,pz,↓reduceIte,aj,ak,ap,aq,au,av,aw,ax,ay,BZ,Da,Db,fh,cK]
 ·intro q'
  have ht:((b9 l w.to:Nat):Int).toNat=b9 l w.to:=Int.toNat_natCast _
  have lU:=PX w.to w.cost w.aG (by omega)
  have iz:=NU (enc:=aZ) (λ_=>rfl) hle
  have oX:=NV (enc:=aZ) (λ_=>rfl) hle
  unfold sq
  by_cases be:b9 l w.to<l.length
  ·have fh:((b9 l w.to:Nat):Int)<l.length:=by omega
   have cK:¬((gt l ((b9 l w.to:Nat):Int)).to<w.to):=by rw[d_ be];intro hc;have:=(lc _ be).1 hc;omega
   have sJ:=hl _ (kO (l:=l) (n:=((b9 l w.to:Nat):Int)) (by omega) fh)
   by_cases he:(gt l ((b9 l w.to:Nat):Int)).to=w.to
   ·rw[if_pos ⟨be,he⟩]
    have hT:=qP_ (gt l ((b9 l w.to:Nat):Int)).to (gt l ((b9 l w.to:Nat):Int)).cost (gt l ((b9 l w.to:Nat):Int)).aG w.to w.cost w.aG sJ hw
    rw[he]at hT
    have Hz:∀(x:Way) (n:Int),x.to=n->(⟨n,x.cost,x.aG⟩:Way)=x:=by intro x n h;subst h;rfl
    rw[Hz _ _ he]at hT
    simp(disch:=omega) only[↓pq,↓pj,ps,pz,↓reduceIte,aj,ak,ap,aq,au,av,aw,ax,ay,BZ,Da,Db,fh,cK,he,hT,aZ,GQ,ht]
   ·rw[if_neg (λh=>he h.2)]
    simp(disch:=omega) only[↓pq,↓pj,ps,pz,↓reduceIte,aj,ak,ap,aq,au,av,aw,ax,ay,BZ,Da,Db,fh,cK,he,lU,ht,iz,oX]
    simp only[HZ (show(l.take (b9 l w.to)).length<4294967296 by simp;omega),KN (show(l.take (b9 l w.to)).length<4294967295 by simp;omega),dU,oX]
    rw[HY (by simp;omega),dU,List.append_assoc]
  ·have fh:¬(((b9 l w.to:Nat):Int)<l.length):=by omega
   rw[if_neg (λh=>be h.1)]
   simp(disch:=omega) only[↓pq,↓pj,ps,pz,↓reduceIte,aj,ak,ap,aq,au,av,aw,ax,ay,BZ,Da,Db,fh,lU,ht,iz,oX]
   simp only[HZ (show(l.take (b9 l w.to)).length<4294967296 by simp;omega),KN (show(l.take (b9 l w.to)).length<4294967295 by simp;omega),dU,oX]
   rw[HY (by simp;omega),dU,List.append_assoc]
theorem as1(l:List Way)(w:Way)(i:Nat)(q:af)(qO:l.Pairwise λa b=>a.to<b.to)(hlen:l.length<=6)(hl:∀x∈l,fI x.aG)(hw:fI w.aG)(hi:i<=1048576):
  iter (oe yO wY (.l (l.map aZ)) (ii i) (ii w.to) (.l (w.aG.map aD)) (ii w.cost) q) rounds [ii 0]=q [.l ((sq l w).map aZ),ii (i+1)]:=by
 have hle:=G5 l w.to
 have lc:=G6 qO w.to
 have hwl:=sm hw
 refine Dd (λk=>[ii k]) (b9 l w.to) rfl (dR (by omega)) ?_ ?_
 ·intro k hk q'
  have fh:(k:Int)<l.length:=by omega
  have cK:(gt l (k:Int)).to<w.to:=by rw[d_ (by omega)];exact(lc k (by omega)).2 (by omega)
  simp(disch:=omega) only[↓pq,↓pj,ps,pz,↓reduceIte,aj,ak,ap,aq,au,av,aw,ax,ay,oe,og,oV,fh,cK]
 ·intro q'
  have ht:((b9 l w.to:Nat):Int).toNat=b9 l w.to:=Int.toNat_natCast _
  have lU:=PX w.to w.cost w.aG (by omega)
  have iz:=NU (enc:=aZ) (λ_=>rfl) hle
  have oX:=NV (enc:=aZ) (λ_=>rfl) hle
  unfold sq
  by_cases be:b9 l w.to<l.length
  ·have fh:((b9 l w.to:Nat):Int)<l.length:=by omega
   have cK:¬((gt l ((b9 l w.to:Nat):Int)).to<w.to):=by rw[d_ be];intro hc;have:=(lc _ be).1 hc;omega
   have sJ:=hl _ (kO (l:=l) (n:=((b9 l w.to:Nat):Int)) (by omega) fh)
   by_cases he:(gt l ((b9 l w.to:Nat):Int)).to=w.to
   ·rw[if_pos ⟨be,he⟩]
    have hT:=qP_ (gt l ((b9 l w.to:Nat):Int)).to (gt l ((b9 l w.to:Nat):Int)).cost (gt l ((b9 l w.to:Nat):Int)).aG w.to w.cost w.aG sJ hw
    rw[he]at hT
    have Hz:∀(x:Way) (n:Int),x.to=n->(⟨n,x.cost,x.aG⟩:Way)=x:=by intro x n h;subst h;rfl
    rw[Hz _ _ he]at hT
    simp(disch:=omega) only[↓pq,↓pj,ps,pz,↓reduceIte,aj,ak,ap,aq,au,av,aw,ax,ay,oe,og,oV,fh,cK,he,hT,aZ,GQ,ht]
   ·rw[if_neg (λh=>he h.2)]
    simp(disch:=omega) only[↓pq,↓pj,ps,pz,↓reduceIte,aj,ak,ap,aq,au,av,aw,ax,ay,oe,og,oV,fh,cK,he,lU,ht,iz,oX]
    simp only[HZ (show(l.take (b9 l w.to)).length<4294967296 by simp;omega),KN (show(l.take (b9 l w.to)).length<4294967295 by simp;omega),dU,oX]
    rw[HY (by simp;omega),dU,List.append_assoc]
  ·have fh:¬(((b9 l w.to:Nat):Int)<l.length):=by omega
   rw[if_neg (λh=>be h.1)]
   simp(disch:=omega) only[↓pq,↓pj,ps,pz,↓reduceIte,aj,ak,ap,aq,au,av,aw,ax,ay,oe,og,oV,fh,lU,ht,iz,oX]
   simp only[HZ (show(l.take (b9 l w.to)).length<4294967296 by simp;omega),KN (show(l.take (b9 l w.to)).length<4294967295 by simp;omega),dU,oX]
   rw[HY (by simp;omega),dU,List.append_assoc]
theorem as2(l:List Way)(w:Way)(i:Nat)(q:af)(qO:l.Pairwise λa b=>a.to<b.to)(hlen:l.length<=6)(hl:∀x∈l,fI x.aG)(hw:fI w.aG)(hi:i<=1048576):
  iter (og yO wY (.l (l.map aZ)) (ii i) (ii w.to) (.l (w.aG.map aD)) (ii w.cost) q) rounds [ii 0]=q [.l ((sq l w).map aZ),ii (i+1)]:=by
 have hle:=G5 l w.to
 have lc:=G6 qO w.to
 have hwl:=sm hw
 refine Dd (λk=>[ii k]) (b9 l w.to) rfl (dR (by omega)) ?_ ?_
 ·intro k hk q'
  have fh:(k:Int)<l.length:=by omega
  have cK:(gt l (k:Int)).to<w.to:=by rw[d_ (by omega)];exact(lc k (by omega)).2 (by omega)
  simp(disch:=omega) only[↓pq,↓pj,ps,pz,↓reduceIte,aj,ak,ap,aq,au,av,aw,ax,ay,oe,og,oV,fh,cK]
 ·intro q'
  have ht:((b9 l w.to:Nat):Int).toNat=b9 l w.to:=Int.toNat_natCast _
  have lU:=PX w.to w.cost w.aG (by omega)
  have iz:=NU (enc:=aZ) (λ_=>rfl) hle
  have oX:=NV (enc:=aZ) (λ_=>rfl) hle
  unfold sq
  by_cases be:b9 l w.to<l.length
  ·have fh:((b9 l w.to:Nat):Int)<l.length:=by omega
   have cK:¬((gt l ((b9 l w.to:Nat):Int)).to<w.to):=by rw[d_ be];intro hc;have:=(lc _ be).1 hc;omega
   have sJ:=hl _ (kO (l:=l) (n:=((b9 l w.to:Nat):Int)) (by omega) fh)
   by_cases he:(gt l ((b9 l w.to:Nat):Int)).to=w.to
   ·rw[if_pos ⟨be,he⟩]
    have hT:=qP_ (gt l ((b9 l w.to:Nat):Int)).to (gt l ((b9 l w.to:Nat):Int)).cost (gt l ((b9 l w.to:Nat):Int)).aG w.to w.cost w.aG sJ hw
    rw[he]at hT
    have Hz:∀(x:Way) (n:Int),x.to=n->(⟨n,x.cost,x.aG⟩:Way)=x:=by intro x n h;subst h;rfl
    rw[Hz _ _ he]at hT
    simp(disch:=omega) only[↓pq,↓pj,ps,pz,↓reduceIte,aj,ak,ap,aq,au,av,aw,ax,ay,oe,og,oV,fh,cK,he,hT,aZ,GQ,ht]
   ·rw[if_neg (λh=>he h.2)]
    simp(disch:=omega) only[↓pq,↓pj,ps,pz,↓reduceIte,aj,ak,ap,aq,au,av,aw,ax,ay,oe,og,oV,fh,cK,he,lU,ht,iz,oX]
    simp only[HZ (show(l.take (b9 l w.to)).length<4294967296 by simp;omega),KN (show(l.take (b9 l w.to)).length<4294967295 by simp;omega),dU,oX]
    rw[HY (by simp;omega),dU,List.append_assoc]
  ·have fh:¬(((b9 l w.to:Nat):Int)<l.length):=by omega
   rw[if_neg (λh=>be h.1)]
   simp(disch:=omega) only[↓pq,↓pj,ps,pz,↓reduceIte,aj,ak,ap,aq,au,av,aw,ax,ay,oe,og,oV,fh,lU,ht,iz,oX]
   simp only[HZ (show(l.take (b9 l w.to)).length<4294967296 by simp;omega),KN (show(l.take (b9 l w.to)).length<4294967295 by simp;omega),dU,oX]
   rw[HY (by simp;omega),dU,List.append_assoc]
def qg(s:List ah)(cU:List Int)(fr:Int):List Way:=cU.flatMap λa=>aC s a fr
theorem y7{s:List ah}{cU:List Int}{fr:Int}:∀w∈qg s cU fr,(1<=w.to∧w.to<=6)∧fI w.aG∧0<=w.cost∧w.cost<=6000:=by
 intro w hw
 unfold qg at hw
 obtain⟨a,_,h⟩:=List.mem_flatMap.1 hw
 exact fZ.2.2 w h
theorem Od{α β:Type}(f:α->List β)(l:List α)(c:List β):l.foldl (λc a=>c++f a) c=c++l.flatMap f:=by
 induction l generalizing c with
 |nil=>simp
 |cons a l ih=>rw[List.foldl_cons,ih];simp
theorem Oe{α:Type}(l c:List α):l.foldl (λc a=>c++[a]) c=c++l:=by
 induction l generalizing c with
 |nil=>simp
 |cons a l ih=>rw[List.foldl_cons,ih];simp
theorem G7{α β:Type}(f:α->Option β)(l:List α):l.flatMap (λa=>(f a).toList)=l.filterMap f:=by
 induction l with
 |nil=>rfl
 |cons a l ih=>rw[List.flatMap_cons,List.filterMap_cons,ih];cases f a<;>rfl
def within(s:List ah)(cU:List Int)(fr:Int):List Way:=cw (qg s cU fr)
theorem aa_(s:List ah)(cU:List Int)(fr:Int)(h:s.length<=1048576)(hn:bm s)(ha:cU.length<=1048576):Ly [.l (s.map aB),.l (cU.map aD),ii fr]=some [.l ((within s cU fr).map aZ)]:=by
 rw[aru];simp(disch:=omega) only[↓pq,↓pj,ps,pz,↓reduceIte,aj,ak,ap,aq,au,av,aw,ax,ay,BZ,Da,Db,jY_]
 refine(jc cU (λj C=>[.l ((cw C).map aZ),ii j]) (λC a=>C++aC s a fr) (λC=>some [T.l ((cw C).map aZ)]) [] (λ_ C=>∀x∈C,fI x.aG) rfl (dR ha) (by simp) ?_ ?_).trans (by rw[Od,List.nil_append];rfl)
 ·intro j C hj hC
  obtain⟨w1,w2,w3⟩:=fZ (s:=s) (ar:=gt cU j) (fr:=fr)
  refine⟨λx hx=>(List.mem_append.1 hx).elim (hC x) λhx=>(w3 x hx).2.1,λq=>?_⟩
  simp(disch:=omega) only[↓pq,↓pj,ps,pz,↓reduceIte,aj,ak,ap,aq,au,av,aw,ax,ay,BZ,Da,Db,hj,N3 _ _ _ h hn]
  refine(jc (aC s (gt cU j) fr) (λi C=>[.l ((cw C).map aZ),ii i,.l ((aC s (gt cU j) fr).map aZ)]) (λC w=>C++[w]) (λC=>q [T.l ((cw C).map aZ),ii (j+1)]) C (λ_ C=>∀x∈C,fI x.aG) rfl (dR (by omega)) hC ?_ ?_).trans (by rw[Oe])
  ·intro i C hi hC
   have hw:=w3 _ (kO (n:=i) (by omega) hi)
   refine⟨λx hx=>(List.mem_append.1 hx).elim (hC x) λhx=>by rw[List.mem_singleton]at hx;subst hx;exact hw.2.1,λq'=>?_⟩
   simp(disch:=omega) only[↓pq,↓pj,ps,pz,↓reduceIte,aj,ak,ap,aq,au,av,aw,ax,ay,BZ,Da,Db,hi]
   rw[as0 (cw C) (gt (aC s (gt cU j) fr) i) i q' (Cq C hC) (Cr C) (λx hx=>(P3 hC hx).1) hw.2.1 (by omega) _,aa9 hC hw.1 hw.2.1]
  ·intro C q' hC
   simp(disch:=omega) only[↓pq,↓pj,ps,pz,↓reduceIte,aj,ak,ap,aq,au,av,aw,ax,ay,BZ,Da,Db,]
 ·intro C q hC
  simp(disch:=omega) only[↓pq,↓pj,ps,pz,↓reduceIte,aj,ak,ap,aq,au,av,aw,ax,ay,BZ,Da,Db,]
def wb(l:List Way):List T:=[.l (l.map aZ)]
theorem P5{l:List (List Way)}{n:Int}(h:0<=n)(h':n<l.length):Prim.ev (.cell 1 0) [.l (l.map wb),ii n]=some (.l ((gt l n).map aZ)):=im h (dz h h') rfl rfl
theorem aa'(x:List Way):Prim.ev (.lit 1 []) [.l (x.map aZ)]=some (.l ([x].map wb)):=pV (by decide) rfl rfl
theorem abb{l:List (List Way)}{x:List Way}(h:l.length<4294967295):Prim.ev (.app false 1) [.l (l.map wb),.l ([x].map wb)]=some (.l ((l++[x]).map wb)):=rW (w:=1) (λ_=>rfl) (.inl rfl) (by unfold qS;simp;omega)
def c9(l:List Way)(v:Int):Option Way:=if ez l v<0 then none else some (gt l (ez l v))
theorem abd(l:List Way)(v:Int):ez l v<l.length:=ub _ _
theorem xo{l:List Way}{v:Int}{w:Way}(h:c9 l v=some w):w∈l∧w.to=v:=by
 unfold c9 at h
 split at h
 ·cases h
 ·rename_i hf
  cases h
  have:=uc (λw:Way=>w.to==v) l (by unfold ez at hf;omega)
  exact⟨kO (by omega) (abd _ _),by simpa[ez]using this⟩
theorem as3{l:List Way}{v:Int}(h:c9 l v=none):∀w∈l,w.to≠v:=by
 unfold c9 at h
 split at h
 ·rename_i hf
  intro w hw
  have:=(C4 _ _).1 hf w hw
  simpa using this
 ·cases h
theorem as4{l:List Way}(h:l.Pairwise λa b=>a.to<b.to){x y:Way}(hx:x∈l)(hy:y∈l)(e:x.to=y.to):x=y:=by
 obtain⟨i,hi,rfl⟩:=List.mem_iff_getElem.1 hx
 obtain⟨j,hj,rfl⟩:=List.mem_iff_getElem.1 hy
 rw[List.pairwise_iff_getElem]at h
 rcases Nat.lt_trichotomy i j with h1|h1|h1
 ·have:=h i j hi hj h1;omega
 ·subst h1;rfl
 ·have:=h j i hj hi h1;omega
theorem as5{l:List Way}(h:l.Pairwise λa b=>a.to<b.to){v:Int}{w:Way}:c9 l v=some w↔w∈l∧w.to=v:=by
 refine⟨xo,λ⟨h1,h2⟩=>?_⟩
 cases e:c9 l v with
 |none=>exact absurd h2 (as3 e w h1)
 |some w'=>
  have:=xo e
  rw[as4 h this.1 h1 (by omega)]
def Og(o:Option Way)(i:Int):List T:=match o with|none=>[bb false,ii i,ii 0,ii 0,.l []]|some b=>[bb true,ii i,ii b.to,ii b.cost,.l (b.aG.map aD)]
theorem abe(s:List ah)(cU:List Int)(fr:Int)(h:s.length<=1048576)(hn:bm s)(ha:cU.length<=1048576):Lj [.l (s.map aB),.l (cU.map aD),ii fr]=some [.l ((within s cU fr).map aZ)]:=by
 have hW:=λa=>fZ (s:=s) (ar:=a) (fr:=fr)
 rw[apL];simp(disch:=omega) only[↓pq,↓pj,ps,pz,↓reduceIte,aj,ak,ap,aq,au,av,aw,ax,ay,zA,zB,zC,j3_]
 refine jc cU (λj C=>[.l (C.map wb),ii j]) (λC a=>C++[aC s a fr]) (λ_=>some [T.l ((within s cU fr).map aZ)]) [] (λj C=>C=(cU.take j).map (λa=>aC s a fr)) rfl (dR ha) rfl ?_ ?_
 ·intro j C hj hC
  have hl:C.length<=j:=by rw[hC];simp;omega
  refine⟨by rw[List.take_add_one,hC,List.map_append,List.getElem?_eq_getElem (by omega),d_ (by omega)];rfl,λq=>?_⟩
  simp(disch:=omega) only[↓pq,↓pj,ps,pz,↓reduceIte,aj,ak,ap,aq,au,av,aw,ax,ay,zA,zB,zC,hj,N9 _ _ _ h hn,aa',abb]
 ·intro C q hC
  have hC:C=cU.map (λa=>aC s a fr):=by rw[hC,List.take_length]
  have hCl:C.length=cU.length:=by rw[hC,List.length_map]
  have Oh:∀j:Nat,(j:Int)<cU.length->gt C (j:Int)=aC s (gt cU j) fr:=by
   intro j hj
   rw[d_ (by omega),d_ (by omega)]
   simp only[hC,List.getElem_map]
  simp(disch:=omega) only[↓pq,↓pj,ps,pz,↓reduceIte,aj,ak,ap,aq,au,av,aw,ax,ay,zA,zB,zC,]
  refine(ud 6 (λi c=>[.l (c.map aZ),ii (i+1)]) (λc i=>c++(jN (cU.filterMap λa=>c9 (aC s a fr) ((i:Int)+1))).toList) (λc=>some [T.l (c.map aZ)]) [] (λi c=>c.length<=i) rfl (dR (by omega)) (by simp) ?_ ?_).trans ?_
  ·intro i c hi hc
   refine⟨by cases jN (cU.filterMap λa=>c9 (aC s a fr) ((i:Int)+1))<;>simp<;>omega,λq'=>?_⟩
   have dl:(i:Int)+1<=6:=by omega
   simp(disch:=omega) only[↓pq,↓pj,ps,pz,↓reduceIte,aj,ak,ap,aq,au,av,aw,ax,ay,zA,zB,zC,dl]
   have hfm:∀(l:List Int) (o:Option Way),l.foldl (λo a=>match c9 (aC s a fr) ((i:Int)+1)with|none=>o|some w=>oh o w) o=(l.filterMap λa=>c9 (aC s a fr) ((i:Int)+1)).foldl oh o:=by
    intro l
    induction l with
    |nil=>intro o;rfl
    |cons a l ih=>
     intro o
     rw[List.foldl_cons,List.filterMap_cons]
     cases c9 (aC s a fr) ((i:Int)+1)with
     |none=>exact ih o
     |some w=>exact ih _
   refine(jc cU (λj o=>Og o j) (λo a=>match c9 (aC s a fr) ((i:Int)+1)with|none=>o|some w=>oh o w) (λo=>q' [T.l ((c++o.toList).map aZ),ii ((i:Int)+1+1)]) none (λ_ o=>∀b,o=some b->fI b.aG) rfl (dR ha) (by simp) ?_ ?_).trans (by rw[hfm];rfl)
   ·intro j o hj ho
    obtain⟨w1,w2,w3⟩:=hW (gt cU j)
    have hlC:(j:Int)<C.length:=by omega
    have hT:=GJ (aC s (gt cU j) fr) ((i:Int)+1) (by omega) (λw hw=>by have:=sm (w3 w hw).2.1;omega)
    constructor
    ·intro b hb
     cases hw:c9 (aC s (gt cU j) fr) ((i:Int)+1)with
     |none=>rw[hw]at hb;exact ho b hb
     |some w=>
      rw[hw]at hb
      have hh:=(w3 w (xo hw).1).2.1
      cases o with
      |none=>simp only[oh]at hb;cases hb;exact hh
      |some b0=>simp only[oh]at hb;cases hb;exact N2 (ho b0 rfl) hh
    ·intro q2
     unfold c9
     by_cases hp:ez (aC s (gt cU j) fr) ((i:Int)+1)<0
     ·rw[if_pos hp]at hT
      cases o with
      |none=>simp only[Og];simp(disch:=omega) only[↓pq,↓pj,ps,pz,↓reduceIte,aj,ak,ap,aq,au,av,aw,ax,ay,zA,zB,zC,hj,P5,Oh j hj,hT,hp,dS]
      |some b=>simp only[Og];simp(disch:=omega) only[↓pq,↓pj,ps,pz,↓reduceIte,aj,ak,ap,aq,au,av,aw,ax,ay,zA,zB,zC,hj,P5,Oh j hj,hT,hp,dS]
     ·rw[if_neg hp]at hT
      have hm:=w3 _ (kO (l:=aC s (gt cU j) fr) (n:=ez (aC s (gt cU j) fr) ((i:Int)+1)) (by omega) (abd _ _))
      have pi:=sm hm.2.1
      simp only[aZ,List.cons_append,List.nil_append]at hT
      cases o with
      |none=>simp only[Og];simp(disch:=omega) only[↓pq,↓pj,ps,pz,↓reduceIte,aj,ak,ap,aq,au,av,aw,ax,ay,zA,zB,zC,hj,P5,Oh j hj,hT,hp,dS];rfl
      |some b=>
       have x_:=sm (ho b rfl)
       simp only[Og]
       simp(disch:=omega) only[↓pq,↓pj,ps,pz,↓reduceIte,aj,ak,ap,aq,au,av,aw,ax,ay,zA,zB,zC,hj,P5,Oh j hj,hT,hp,dS,aa6 _ _ _ _ _ _ (show b.aG.length<=1048576 by omega) (show(gt (aC s (gt cU j) fr) (ez (aC s (gt cU j) fr) ((i:Int)+1))).aG.length<=1048576 by omega),aZ]
       rfl
   ·intro o q2 ho
    cases o with
    |none=>simp only[Og];simp(disch:=omega) only[↓pq,↓pj,ps,pz,↓reduceIte,aj,ak,ap,aq,au,av,aw,ax,ay,zA,zB,zC,dS];simp
    |some b=>simp only[Og];simp(disch:=omega) only[↓pq,↓pj,ps,pz,↓reduceIte,aj,ak,ap,aq,au,av,aw,ax,ay,zA,zB,zC,];simp
  ·intro c q' hc
   simp(disch:=omega) only[↓pq,↓pj,ps,pz,↓reduceIte,aj,ak,ap,aq,au,av,aw,ax,ay,zA,zB,zC,]
  ·rw[Od (λi:Nat=>(jN (cU.filterMap λa=>c9 (aC s a fr) ((i:Int)+1))).toList),List.nil_append]
   congr 3
   unfold within cw
   rw[Cn,List.filterMap_map,G7]
   refine congrArg (λf=>List.map aZ (List.filterMap f (List.range 6))) (funext λi=>?_)
   show _=jN _
   refine aa8 (v:=(i:Int)+1) (λx hx=>?_) λx=>?_
   ·obtain⟨a,_,hx⟩:=List.mem_filterMap.1 hx
    have:=xo hx
    exact⟨this.2,((hW a).2.2 x this.1).2.1⟩
   ·rw[List.mem_filterMap,List.mem_filter]
    unfold qg
    rw[List.mem_flatMap]
    constructor
    ·rintro⟨a,v8,hx⟩
     have:=xo hx
     exact⟨⟨a,v8,this.1⟩,by simpa using this.2⟩
    ·rintro⟨⟨a,v8,hx⟩,e⟩
     exact⟨a,v8,(as5 (hW a).1).2 ⟨hx,by simpa using e⟩⟩
theorem abf{s:List ah}(hs:dX s=true){x:ah}(hx:x∈s)(h:x.kind=2):(1<=x.key∧x.key<=6)∧0<=x.cost∧x.cost<=60000:=by
 have:=Cf hs hx
 unfold fY at this
 rw[if_neg (by omega),if_pos h]at this
 simp only[bk,aW]at this
 exact⟨this.2.1.1.1.2,this.2.1.2⟩
theorem as6{s:List ah}(hs:dX s=true){x:ah}(hx:x∈s):0<=x.cost∧x.cost<=60000:=by
 have:=Cf hs hx
 unfold fY at this
 grind[aW]
theorem G8{s:List ah}{a fr v:Int}{w:Way}(h:c9 (aC s a fr) v=some w):w.to=v∧fI w.aG∧0<=w.cost∧w.cost<=6000∧dX s=true:=by
 have h1:=xo h
 have h2:=fZ.2.2 w h1.1
 refine⟨h1.2,h2.2.1,h2.2.2.1,h2.2.2.2,?_⟩
 cases e:dX s with
 |true=>rfl
 |false=>
  have:aC s a fr=[]:=by unfold aC;rw[if_neg (by rw[e];simp)]
  rw[this]at h1;cases h1.1
def hX(s:List ah)(A:List Int)(z:Bool)(fr:Int)(x:ah):Option Way:=
 if x.kind=2∧x.cost<60000∧x.owner≠fr∧A.contains x.ae=true∧(z=true->x.ae=0)∧ez (within s A fr) x.key<0 then
  match c9 (aC s x.ae fr) x.owner with
  |none=>none
  |some w=>if x.cost+w.cost<60000 then some ⟨x.key,x.cost+w.cost,w.aG⟩else none
 else none
theorem P6{s:List ah}{A:List Int}{z:Bool}{fr:Int}{x:ah}{w:Way}(h:hX s A z fr x=some w):(x.kind=2∧x.cost<60000∧x.owner≠fr∧A.contains x.ae=true∧(z=true->x.ae=0)∧ez (within s A fr) x.key<0)∧∃y,c9 (aC s x.ae fr) x.owner=some y∧x.cost+y.cost<60000∧w=⟨x.key,x.cost+y.cost,y.aG⟩:=by
 unfold hX at h
 split at h
 ·rename_i hc
  refine⟨hc,?_⟩
  split at h
  ·cases h
  ·rename_i y hy
   split at h
   ·rename_i hl;cases h;exact⟨y,hy,hl,rfl⟩
   ·cases h
 ·cases h
theorem abg{s:List ah}{A:List Int}{z:Bool}{fr:Int}{x:ah}(hx:x∈s){w:Way}(h:hX s A z fr x=some w):(1<=w.to∧w.to<=6)∧fI w.aG∧0<=w.cost∧w.cost<60000:=by
 obtain⟨h1,y,h2,h3,rfl⟩:=P6 h
 have h4:=G8 h2
 have h5:=abf h4.2.2.2.2 hx h1.1
 exact⟨h5.1,h4.2.1,by show 0<=x.cost+y.cost;omega,h3⟩
def Di(s:List ah)(A:List Int)(z:Bool)(fr:Int):List Way:=s.filterMap (hX s A z fr)
theorem abh{s:List ah}{A:List Int}{z:Bool}{fr:Int}:∀w∈Di s A z fr,(1<=w.to∧w.to<=6)∧fI w.aG∧0<=w.cost∧w.cost<60000:=by
 intro w hw
 obtain⟨x,hx,h⟩:=List.mem_filterMap.1 hw
 exact abg hx h
def beyond(s:List ah)(A:List Int)(z:Bool)(fr:Int):List Way:=cw (Di s A z fr)
theorem Oi{s:List ah}{A:List Int}{fr:Int}:∀w∈within s A fr,w.aG.length<=1048576:=by
 intro w hw
 have:=sm (P3 (λx hx=>(y7 x hx).2.1) hw).1
 omega
theorem G9{s:List ah}{A:List Int}{fr:Int}:(within s A fr).length<=6:=Cr _
theorem Oj{s:List ah}{a fr:Int}:∀w∈aC s a fr,w.aG.length<=1048576:=by
 intro w hw
 have:=sm (fZ.2.2 w hw).2.1
 omega
theorem Ol{s:List ah}{a fr:Int}:(aC s a fr).length<=7:=fZ.2.1
theorem as7(s:List ah)(A:List Int)(z:Bool)(fr:Int)(h:s.length<=1048576)(hn:bm s)(ha:A.length<=1048576):Y' [.l (s.map aB),.l (A.map aD),bb z,ii fr]=some [.l ((beyond s A z fr).map aZ)]:=by
 rw[arx];simp(disch:=omega) only[↓pq,↓pj,ps,pz,↓reduceIte,aj,ak,ap,aq,au,av,aw,ax,ay,oe,og,oV,jX_,aa_ _ _ _ h hn ha]
 refine(jc s (λj C=>[.l ((cw C).map aZ),ii j]) (λC x=>C++(hX s A z fr x).toList) (λC=>some [T.l ((cw C).map aZ)]) [] (λ_ C=>∀x∈C,fI x.aG) rfl (dR h) (by simp) ?_ ?_).trans (by rw[Od,List.nil_append,G7];rfl)
 ·intro j C hj hC
  have hm:=kO (l:=s) (n:=(j:Int)) (by omega) hj
  have jJ:hX s A z fr (gt s j)=none->cw (C++(hX s A z fr (gt s j)).toList)=cw C:=by intro e;rw[e];simp
  refine⟨λx hx=>(List.mem_append.1 hx).elim (hC x) λhx=>?_,λq=>?_⟩
  ·rw[Option.mem_toList]at hx
   exact(abg hm hx).2.1
  by_cases k1:(gt s j).kind=2
  rotate_left
  ·rw[jJ (by unfold hX;rw[if_neg (λh=>k1 h.1)])]
   simp(disch:=omega) only[↓pq,↓pj,ps,pz,↓reduceIte,aj,ak,ap,aq,au,av,aw,ax,ay,oe,og,oV,dS,hj,k1]
  by_cases k2:(gt s j).cost<60000
  rotate_left
  ·rw[jJ (by unfold hX;rw[if_neg (λh=>k2 h.2.1)])]
   simp(disch:=omega) only[↓pq,↓pj,ps,pz,↓reduceIte,aj,ak,ap,aq,au,av,aw,ax,ay,oe,og,oV,dS,hj,k1,show(gt s j).cost>=60000 by omega]
  by_cases k3:(gt s j).owner=fr
  ·rw[jJ (by unfold hX;rw[if_neg (λh=>h.2.2.1 k3)])]
   simp(disch:=omega) only[↓pq,↓pj,ps,pz,↓reduceIte,aj,ak,ap,aq,au,av,aw,ax,ay,oe,og,oV,dS,hj,k1,show¬(gt s j).cost>=60000 by omega,k3]
  by_cases k4:A.contains (gt s j).ae=true
  rotate_left
  ·have k4':A.contains (gt s j).ae=false:=by simpa using k4
   rw[jJ (by unfold hX;rw[if_neg (λh=>k4 h.2.2.2.1)])]
   simp(disch:=omega) only[↓pq,↓pj,ps,pz,↓reduceIte,aj,ak,ap,aq,au,av,aw,ax,ay,oe,og,oV,dS,hj,k1,show¬(gt s j).cost>=60000 by omega,k3,xk _ _ ha,k4']
  by_cases k5:z=true->(gt s j).ae=0
  rotate_left
  ·have k5':z=true∧(gt s j).ae≠0:=by simpa using k5
   rw[jJ (by unfold hX;rw[if_neg (λh=>k5 h.2.2.2.2.1)])]
   obtain⟨rfl,k6⟩:=k5'
   simp(disch:=omega) only[↓pq,↓pj,ps,pz,↓reduceIte,aj,ak,ap,aq,au,av,aw,ax,ay,oe,og,oV,dS,hj,k1,show¬(gt s j).cost>=60000 by omega,k3,xk _ _ ha,k4,k6]
  have hW:=NS (within s A fr) (gt s j).key (by have:=G9 (s:=s) (A:=A) (fr:=fr);omega) Oi
  have hV:=NS (aC s (gt s j).ae fr) (gt s j).owner (by have:=Ol (s:=s) (a:=(gt s j).ae) (fr:=fr);omega) Oj
  have hI:=N3 s (gt s j).ae fr h hn
  by_cases k6:ez (within s A fr) (gt s j).key<0
  rotate_left
  ·rw[jJ (by unfold hX;rw[if_neg (λh=>k6 h.2.2.2.2.2)])]
   rw[if_neg k6]at hW
   simp only[aZ,List.cons_append,List.nil_append]at hW
   by_cases k7:ez (aC s (gt s j).ae fr) (gt s j).owner<0
   ·rw[if_pos k7]at hV
    cases z with
    |true=>rw[k5 rfl]at hV hI k4;simp(disch:=omega) only[↓pq,↓pj,ps,pz,↓reduceIte,aj,ak,ap,aq,au,av,aw,ax,ay,oe,og,oV,dS,hj,k1,show¬(gt s j).cost>=60000 by omega,k3,xk _ _ ha,k4,k5 rfl,hW,hV,hI]
    |false=>simp(disch:=omega) only[↓pq,↓pj,ps,pz,↓reduceIte,aj,ak,ap,aq,au,av,aw,ax,ay,oe,og,oV,dS,hj,k1,show¬(gt s j).cost>=60000 by omega,k3,xk _ _ ha,k4,hW,hV,hI]
   ·rw[if_neg k7]at hV
    simp only[aZ,List.cons_append,List.nil_append]at hV
    cases z with
    |true=>rw[k5 rfl]at hV hI k4;simp(disch:=omega) only[↓pq,↓pj,ps,pz,↓reduceIte,aj,ak,ap,aq,au,av,aw,ax,ay,oe,og,oV,dS,hj,k1,show¬(gt s j).cost>=60000 by omega,k3,xk _ _ ha,k4,k5 rfl,hW,hV,hI]
    |false=>simp(disch:=omega) only[↓pq,↓pj,ps,pz,↓reduceIte,aj,ak,ap,aq,au,av,aw,ax,ay,oe,og,oV,dS,hj,k1,show¬(gt s j).cost>=60000 by omega,k3,xk _ _ ha,k4,hW,hV,hI]
  rw[if_pos k6]at hW
  by_cases k7:ez (aC s (gt s j).ae fr) (gt s j).owner<0
  ·rw[jJ (by unfold hX c9;rw[if_pos ⟨k1,k2,k3,k4,k5,k6⟩,if_pos k7])]
   rw[if_pos k7]at hV
   cases z with
   |true=>rw[k5 rfl]at hV hI k4;simp(disch:=omega) only[↓pq,↓pj,ps,pz,↓reduceIte,aj,ak,ap,aq,au,av,aw,ax,ay,oe,og,oV,dS,hj,k1,show¬(gt s j).cost>=60000 by omega,k3,xk _ _ ha,k4,k5 rfl,hW,hV,hI]
   |false=>simp(disch:=omega) only[↓pq,↓pj,ps,pz,↓reduceIte,aj,ak,ap,aq,au,av,aw,ax,ay,oe,og,oV,dS,hj,k1,show¬(gt s j).cost>=60000 by omega,k3,xk _ _ ha,k4,hW,hV,hI]
  have hO:c9 (aC s (gt s j).ae fr) (gt s j).owner=some (gt (aC s (gt s j).ae fr) (ez (aC s (gt s j).ae fr) (gt s j).owner)):=by unfold c9;rw[if_neg k7]
  rw[if_neg k7]at hV
  generalize gt (aC s (gt s j).ae fr) (ez (aC s (gt s j).ae fr) (gt s j).owner)=w at hO hV
  have hw:=G8 hO
  have hr:=abf hw.2.2.2.2 hm k1
  simp only[aZ,List.cons_append,List.nil_append]at hV
  by_cases k8:(gt s j).cost+w.cost<60000
  rotate_left
  ·rw[jJ (by unfold hX;rw[if_pos ⟨k1,k2,k3,k4,k5,k6⟩,hO];simp only[];rw[if_neg k8])]
   cases z with
   |true=>rw[k5 rfl]at hV hI k4;simp(disch:=omega) only[↓pq,↓pj,ps,pz,↓reduceIte,aj,ak,ap,aq,au,av,aw,ax,ay,oe,og,oV,dS,hj,k1,show¬(gt s j).cost>=60000 by omega,k3,xk _ _ ha,k4,k5 rfl,hW,hV,hI,show(gt s j).cost+w.cost>=60000 by omega]
   |false=>simp(disch:=omega) only[↓pq,↓pj,ps,pz,↓reduceIte,aj,ak,ap,aq,au,av,aw,ax,ay,oe,og,oV,dS,hj,k1,show¬(gt s j).cost>=60000 by omega,k3,xk _ _ ha,k4,hW,hV,hI,show(gt s j).cost+w.cost>=60000 by omega]
  have hB:hX s A z fr (gt s j)=some ⟨(gt s j).key,(gt s j).cost+w.cost,w.aG⟩:=by unfold hX;rw[if_pos ⟨k1,k2,k3,k4,k5,k6⟩,hO];simp only[];rw[if_pos k8]
  rw[hB,Option.toList_some,<-aa9 (w:=⟨(gt s j).key,(gt s j).cost+w.cost,w.aG⟩) hC hr.1 hw.2.1]
  cases z with
  |true=>
   rw[k5 rfl]at hV hI k4;simp(disch:=omega) only[↓pq,↓pj,ps,pz,↓reduceIte,aj,ak,ap,aq,au,av,aw,ax,ay,oe,og,oV,dS,hj,k1,show¬(gt s j).cost>=60000 by omega,k3,xk _ _ ha,k4,k5 rfl,hW,hV,hI,show¬(gt s j).cost+w.cost>=60000 by omega]
   exact as2 (cw C) ⟨(gt s j).key,(gt s j).cost+w.cost,w.aG⟩ j q (Cq C hC) (Cr C) (λx hx=>(P3 hC hx).1) hw.2.1 (by omega)
  |false=>
   simp(disch:=omega) only[↓pq,↓pj,ps,pz,↓reduceIte,aj,ak,ap,aq,au,av,aw,ax,ay,oe,og,oV,dS,hj,k1,show¬(gt s j).cost>=60000 by omega,k3,xk _ _ ha,k4,hW,hV,hI,show¬(gt s j).cost+w.cost>=60000 by omega]
   exact as1 (cw C) ⟨(gt s j).key,(gt s j).cost+w.cost,w.aG⟩ j q (Cq C hC) (Cr C) (λx hx=>(P3 hC hx).1) hw.2.1 (by omega)
 ·intro C q hC
  simp(disch:=omega) only[↓pq,↓pj,ps,pz,↓reduceIte,aj,ak,ap,aq,au,av,aw,ax,ay,oe,og,oV,]
def wz:Way:=⟨0,0,[]⟩
def oW(o:Option Way):Way:=o.getD wz
theorem abi(w:Way):oW (some w)=w:=rfl
def kL(W:List Way)(ae fr to:Int)(x:ah):Option Way:=
 if x.kind=2∧x.ae=ae∧x.key=to∧x.owner≠fr∧x.cost<60000 then
  match c9 W x.owner with
  |none=>none
  |some w=>if w.cost+x.cost<60000 then some ⟨to,w.cost+x.cost,w.aG⟩else none
 else none
theorem Om{W:List Way}{ae fr to:Int}{x:ah}(hW:∀w∈W,fI w.aG){w:Way}(h:kL W ae fr to x=some w):w.to=to∧fI w.aG:=by
 unfold kL at h
 split at h
 ·split at h
  ·cases h
  ·rename_i y hy
   split at h
   ·cases h;exact⟨rfl,hW y (xo hy).1⟩
   ·cases h
 ·cases h
def wc(o:Option Way)(l:List Way):Option Way:=l.foldl oh o
theorem abj{l:List Way}{o:Option Way}(ho:∀b,o=some b->fI b.aG)(hl:∀w∈l,fI w.aG):∀b,wc o l=some b->fI b.aG:=by
 induction l generalizing o with
 |nil=>exact ho
 |cons a l ih=>
  refine ih (o:=oh o a) (λb hb=>?_) λw hw=>hl w (.tail _ hw)
  cases o with
  |none=>simp only[oh]at hb;cases hb;exact hl _ (.head _)
  |some b0=>simp only[oh]at hb;cases hb;exact N2 (ho b0 rfl) (hl _ (.head _))
theorem as8{α:Type}(f:α->Option Way)(l:List α)(o:Option Way):l.foldl (λo x=>match f x with|none=>o|some w=>oh o w) o=wc o (l.filterMap f):=by
 induction l generalizing o with
 |nil=>rfl
 |cons a l ih=>
  rw[List.foldl_cons,List.filterMap_cons]
  cases f a with
  |none=>exact ih o
  |some w=>exact ih _
theorem as9(s:List ah)(W:List Way)(ae fr to:Int)(o:Option Way)(h:s.length<=1048576)(hn:bm s)(hs:dX s=true)(hWl:W.length<=7)(hW:∀w∈W,fI w.aG∧0<=w.cost∧w.cost<=6000)(ho:∀b,o=some b->fI b.aG):
  Wv [.l (s.map aB),.l (W.map aZ),ii ae,ii fr,ii to,ii (oW o).to,ii (oW o).cost,.l ((oW o).aG.map aD),bb o.isSome]=(λo':Option Way=>some [ii (oW o').to,ii (oW o').cost,.l ((oW o').aG.map aD),bb o'.isSome]) (wc o (s.filterMap (kL W ae fr to))):=by
 rw[apN];simp(disch:=omega) only[↓pq,↓pj,ps,pz,↓reduceIte,aj,ak,ap,aq,au,av,aw,ax,ay,zD,MI]
 refine(jc s (λj o=>[bb o.isSome,ii j,ii (oW o).to,ii (oW o).cost,.l ((oW o).aG.map aD)]) (λo x=>match kL W ae fr to x with|none=>o|some w=>oh o w) (λo':Option Way=>some [ii (oW o').to,ii (oW o').cost,.l ((oW o').aG.map aD),bb o'.isSome]) o (λ_ o=>∀b,o=some b->fI b.aG) rfl (dR h) ho ?_ ?_).trans (by rw[as8])
 ·intro j o hj ho
  have hm:=kO (l:=s) (n:=(j:Int)) (by omega) hj
  have hc:=as6 hs hm
  constructor
  ·intro b hb
   cases e:kL W ae fr to (gt s j)with
   |none=>rw[e]at hb;exact ho b hb
   |some w=>
    rw[e]at hb
    exact abj (l:=[w]) ho (by intro y hy;rw[List.mem_singleton]at hy;subst hy;exact(Om (λw hw=>(hW w hw).1) e).2) b hb
  intro q
  have hT:=GJ W (gt s j).owner (by omega) (λw hw=>by have:=sm (hW w hw).1;omega)
  by_cases k1:(gt s j).kind=2∧(gt s j).ae=ae∧(gt s j).key=to∧(gt s j).owner≠fr∧(gt s j).cost<60000
  rotate_left
  ·have hr:kL W ae fr to (gt s j)=none:=by unfold kL;rw[if_neg k1]
   rw[hr]
   by_cases a1:(gt s j).kind=2
   ·by_cases a2:(gt s j).ae=ae
    ·by_cases a3:(gt s j).key=to
     ·by_cases a4:(gt s j).owner=fr
      ·simp(disch:=omega) only[↓pq,↓pj,ps,pz,↓reduceIte,aj,ak,ap,aq,au,av,aw,ax,ay,zD,hj,a1,a2,a3,a4]
      ·have a5:(gt s j).cost>=60000:=by
        rcases Int.lt_or_le (gt s j).cost 60000 with h|h
        ·exact absurd ⟨a1,a2,a3,a4,h⟩ k1
        ·exact h
       simp(disch:=omega) only[↓pq,↓pj,ps,pz,↓reduceIte,aj,ak,ap,aq,au,av,aw,ax,ay,zD,hj,a1,a2,a3,a4,a5]
     ·simp(disch:=omega) only[↓pq,↓pj,ps,pz,↓reduceIte,aj,ak,ap,aq,au,av,aw,ax,ay,zD,hj,a1,a2,a3]
    ·simp(disch:=omega) only[↓pq,↓pj,ps,pz,↓reduceIte,aj,ak,ap,aq,au,av,aw,ax,ay,zD,hj,a1,a2]
   ·simp(disch:=omega) only[↓pq,↓pj,ps,pz,↓reduceIte,aj,ak,ap,aq,au,av,aw,ax,ay,zD,hj,a1]
  obtain⟨a1,a2,a3,a4,a5⟩:=k1
  have a5':¬(gt s j).cost>=60000:=by omega
  by_cases hp:ez W (gt s j).owner<0
  ·have hr:kL W ae fr to (gt s j)=none:=by unfold kL c9;rw[if_pos ⟨a1,a2,a3,a4,a5⟩,if_pos hp]
   rw[hr]
   rw[if_pos hp]at hT
   simp(disch:=omega) only[↓pq,↓pj,ps,pz,↓reduceIte,aj,ak,ap,aq,au,av,aw,ax,ay,zD,hj,a1,a2,a3,a4,a5',hT,dS]
  rw[if_neg hp]at hT
  have hO:c9 W (gt s j).owner=some (gt W (ez W (gt s j).owner)):=by unfold c9;rw[if_neg hp]
  generalize gt W (ez W (gt s j).owner)=w at hO hT
  have hw:=hW w (xo hO).1
  have pi:=sm hw.1
  simp only[aZ,List.cons_append,List.nil_append]at hT
  by_cases hq:w.cost+(gt s j).cost<60000
  ·have hr:kL W ae fr to (gt s j)=some ⟨to,w.cost+(gt s j).cost,w.aG⟩:=by unfold kL;rw[if_pos ⟨a1,a2,a3,a4,a5⟩,hO];simp only[];rw[if_pos hq]
   rw[hr]
   cases o with
   |none=>simp(disch:=omega) only[↓pq,↓pj,ps,pz,↓reduceIte,aj,ak,ap,aq,au,av,aw,ax,ay,zD,hj,a1,a2,a3,a4,a5',hT,show¬w.cost+(gt s j).cost>=60000 by omega,Option.isSome_none,dS];rfl
   |some b=>
    have x_:=sm (ho b rfl)
    simp(disch:=omega) only[↓pq,↓pj,ps,pz,↓reduceIte,aj,ak,ap,aq,au,av,aw,ax,ay,zD,hj,a1,a2,a3,a4,a5',hT,show¬w.cost+(gt s j).cost>=60000 by omega,Option.isSome_some,abi,aa6 _ _ _ _ _ _ (show b.aG.length<=1048576 by omega) (show w.aG.length<=1048576 by omega),aZ];rfl
  ·have hr:kL W ae fr to (gt s j)=none:=by unfold kL;rw[if_pos ⟨a1,a2,a3,a4,a5⟩,hO];simp only[];rw[if_neg hq]
   rw[hr]
   simp(disch:=omega) only[↓pq,↓pj,ps,pz,↓reduceIte,aj,ak,ap,aq,au,av,aw,ax,ay,zD,hj,a1,a2,a3,a4,a5',hT,show w.cost+(gt s j).cost>=60000 by omega]
 ·intro o q ho
  simp(disch:=omega) only[↓pq,↓pj,ps,pz,↓reduceIte,aj,ak,ap,aq,au,av,aw,ax,ay,zD,]
def we(s:List ah)(A:List Int)(z:Bool)(fr to:Int):List Way:=(A.filter λa=>!z||a==0).flatMap λa=>s.filterMap (kL (aC s a fr) a fr to)
theorem as_{α:Type}(p:α->Bool)(f:α->List Way)(l:List α)(o:Option Way):l.foldl (λo a=>if p a=true then wc o (f a)else o) o=wc o ((l.filter p).flatMap f):=by
 induction l generalizing o with
 |nil=>rfl
 |cons a l ih=>
  rw[List.foldl_cons,ih,List.filter_cons]
  cases p a with
  |false=>rfl
  |true=>simp[wc]
theorem ata{s:List ah}{A:List Int}{z:Bool}{fr to:Int}:∀w∈we s A z fr to,w.to=to∧fI w.aG:=by
 intro w hw
 unfold we at hw
 obtain⟨a,_,h⟩:=List.mem_flatMap.1 hw
 obtain⟨x,hx,h⟩:=List.mem_filterMap.1 h
 exact Om (λy hy=>(fZ.2.2 y hy).2.1) h
theorem atb{s:List ah}{A:List Int}{z:Bool}{fr to:Int}(ht:ez (within s A fr) to<0)(w:Way):w∈we s A z fr to↔w∈(Di s A z fr).filter λw=>w.to==to:=by
 unfold we Di
 rw[List.mem_flatMap,List.mem_filter,List.mem_filterMap]
 constructor
 ·rintro⟨a,ha,h⟩
  obtain⟨x,hx,h⟩:=List.mem_filterMap.1 h
  have ha:=List.mem_filter.1 ha
  unfold kL at h
  split at h
  ·rename_i hc
   obtain⟨c1,c2,c3,c4,c5⟩:=hc
   subst c2 c3
   split at h
   ·cases h
   ·rename_i y hy
    split at h
    ·rename_i hl
     cases h
     refine⟨⟨x,hx,?_⟩,by simp⟩
     unfold hX
     rw[if_pos ⟨c1,c5,c4,List.contains_iff_mem.2 ha.1,λhz=>by have:=ha.2;rw[hz]at this;simpa using this,ht⟩,hy]
     simp only[]
     rw[if_pos (by omega),Int.add_comm]
    ·cases h
  ·cases h
 ·rintro⟨⟨x,hx,h⟩,oJ⟩
  obtain⟨⟨c1,c2,c3,c4,c5,c6⟩,y,hy,hl,rfl⟩:=P6 h
  have oJ:x.key=to:=by simpa using oJ
  refine⟨x.ae,List.mem_filter.2 ⟨List.contains_iff_mem.1 c4,?_⟩,List.mem_filterMap.2 ⟨x,hx,?_⟩⟩
  ·cases z with
   |false=>rfl
   |true=>simp[c5 rfl]
  ·unfold kL
   rw[if_pos ⟨c1,rfl,oJ,c3,c2⟩,hy]
   simp only[]
   rw[if_pos (by omega),Int.add_comm,oJ]
theorem atc{s:List ah}{A:List Int}{z:Bool}{fr to:Int}(ht:¬ez (within s A fr) to<0):(Di s A z fr).filter (λw=>w.to==to)=[]:=by
 rw[List.filter_eq_nil_iff]
 intro w hw
 obtain⟨x,hx,h⟩:=List.mem_filterMap.1 hw
 obtain⟨hc,y,_,_,rfl⟩:=P6 h
 intro e
 have e:x.key=to:=by simpa using e
 subst e
 exact ht hc.2.2.2.2.2
theorem atd(s:List ah)(A:List Int)(z:Bool)(fr:Int)(h:s.length<=1048576)(hn:bm s)(ha:A.length<=1048576):Wy [.l (s.map aB),.l (A.map aD),bb z,ii fr]=some [.l ((beyond s A z fr).map aZ)]:=by
 have hW:=λa=>fZ (s:=s) (ar:=a) (fr:=fr)
 rw[apQ];simp(disch:=omega) only[↓pq,↓pj,ps,pz,↓reduceIte,aj,ak,ap,aq,au,av,aw,ax,ay,w8,w9,w_,jZ_,abe _ _ _ h hn ha,Gv _ h hn]
 cases hs:dX s with
 |false=>
  have:Di s A z fr=[]:=by
   unfold Di
   rw[List.filterMap_eq_nil_iff]
   intro x hx
   cases e:hX s A z fr x with
   |none=>rfl
   |some w=>
    obtain⟨_,y,hy,_⟩:=P6 e
    have:=(G8 hy).2.2.2.2
    rw[hs]at this;cases this
  simp(disch:=omega) only[↓pq,↓pj,ps,pz,↓reduceIte,aj,ak,ap,aq,au,av,aw,ax,ay,w8,w9,w_,dS]
  unfold beyond
  rw[this]
  rfl
 |true=>
 simp(disch:=omega) only[↓pq,↓pj,ps,pz,↓reduceIte,aj,ak,ap,aq,au,av,aw,ax,ay,w8,w9,w_,]
 refine jc A (λj C=>[.l (C.map wb),ii j]) (λC a=>C++[aC s a fr]) (λ_=>some [T.l ((beyond s A z fr).map aZ)]) [] (λj C=>C=(A.take j).map (λa=>aC s a fr)) rfl (dR ha) rfl ?_ ?_
 ·intro j C hj hC
  have hl:C.length<=j:=by rw[hC];simp;omega
  refine⟨by rw[List.take_add_one,hC,List.map_append,List.getElem?_eq_getElem (by omega),d_ (by omega)];rfl,λq=>?_⟩
  simp(disch:=omega) only[↓pq,↓pj,ps,pz,↓reduceIte,aj,ak,ap,aq,au,av,aw,ax,ay,w8,w9,w_,hj,N9 _ _ _ h hn,aa',abb]
 ·intro C q hC
  have hC:C=A.map (λa=>aC s a fr):=by rw[hC,List.take_length]
  have hCl:C.length=A.length:=by rw[hC,List.length_map]
  have Oh:∀j:Nat,(j:Int)<A.length->gt C (j:Int)=aC s (gt A j) fr:=by
   intro j hj
   rw[d_ (by omega),d_ (by omega)]
   simp only[hC,List.getElem_map]
  simp(disch:=omega) only[↓pq,↓pj,ps,pz,↓reduceIte,aj,ak,ap,aq,au,av,aw,ax,ay,w8,w9,w_,]
  refine(ud 6 (λi c=>[.l (c.map aZ),ii (i+1)]) (λc i=>c++(if ez (within s A fr) ((i:Int)+1)<0 then jN (we s A z fr ((i:Int)+1))else none).toList) (λc=>some [T.l (c.map aZ)]) [] (λi c=>c.length<=i) rfl (dR (by omega)) (by simp) ?_ ?_).trans ?_
  ·intro i c hi hc
   refine⟨by cases(if ez (within s A fr) ((i:Int)+1)<0 then jN (we s A z fr ((i:Int)+1))else none)<;>simp<;>omega,λq'=>?_⟩
   have dl:(i:Int)+1<=6:=by omega
   have hT:=GJ (within s A fr) ((i:Int)+1) (by have:=G9 (s:=s) (A:=A) (fr:=fr);omega) Oi
   by_cases hp:ez (within s A fr) ((i:Int)+1)<0
   rotate_left
   ·rw[if_neg hp]at hT⊢
    simp only[aZ,List.cons_append,List.nil_append]at hT
    simp(disch:=omega) only[↓pq,↓pj,ps,pz,↓reduceIte,aj,ak,ap,aq,au,av,aw,ax,ay,w8,w9,w_,dl,hT,Option.toList_none,List.append_nil]
   rw[if_pos hp]at hT⊢
   simp(disch:=omega) only[↓pq,↓pj,ps,pz,↓reduceIte,aj,ak,ap,aq,au,av,aw,ax,ay,w8,w9,w_,dl,hT,dS]
   refine(jc A (λj o=>[bb o.isSome,ii j,ii (oW o).to,ii (oW o).cost,.l ((oW o).aG.map aD)]) (λo a=>if(!z||a==0)=true then wc o (s.filterMap (kL (aC s a fr) a fr ((i:Int)+1)))else o) (λo=>q' [T.l ((c++o.toList).map aZ),ii ((i:Int)+1+1)]) none (λ_ o=>∀b,o=some b->fI b.aG) rfl (dR ha) (by simp) ?_ ?_).trans (by rw[as_];rfl)
   ·intro j o hj ho
    obtain⟨w1,w2,w3⟩:=hW (gt A j)
    have hlC:(j:Int)<C.length:=by omega
    have hB:=as9 s (aC s (gt A j) fr) (gt A j) fr ((i:Int)+1) o h hn hs w2 (λw hw=>(w3 w hw).2) ho
    have dQ:=abj (o:=o) (l:=s.filterMap (kL (aC s (gt A j) fr) (gt A j) fr ((i:Int)+1))) ho (λw hw=>by
     obtain⟨x,_,e⟩:=List.mem_filterMap.1 hw
     exact(Om (λw hw=>(w3 w hw).2.1) e).2)
    cases z with
    |false=>
     refine⟨dQ,λq2=>?_⟩
     simp(disch:=omega) only[↓pq,↓pj,ps,pz,↓reduceIte,aj,ak,ap,aq,au,av,aw,ax,ay,w8,w9,w_,hj,P5,Oh j hj,hB,dS,Bool.not_false,Bool.true_or]
    |true=>
     by_cases h0:gt A j=0
     ·rw[h0]at hB dQ
      refine⟨by rw[h0];exact dQ,λq2=>?_⟩
      have Hy:=Oh j hj
      rw[h0]at Hy
      simp(disch:=omega) only[↓pq,↓pj,ps,pz,↓reduceIte,aj,ak,ap,aq,au,av,aw,ax,ay,w8,w9,w_,hj,P5,Hy,h0,hB,beq_self_eq_true,Bool.or_true]
     ·have dk:(gt A j==0)=false:=by simpa using h0
      rw[dk]
      refine⟨ho,λq2=>?_⟩
      simp(disch:=omega) only[↓pq,↓pj,ps,pz,↓reduceIte,aj,ak,ap,aq,au,av,aw,ax,ay,w8,w9,w_,hj,h0,Bool.not_true,Bool.or_false,dS]
   ·intro o q2 ho
    cases o with
    |none=>simp(disch:=omega) only[↓pq,↓pj,ps,pz,↓reduceIte,aj,ak,ap,aq,au,av,aw,ax,ay,w8,w9,w_,dS,Option.isSome_none];simp
    |some b=>simp(disch:=omega) only[↓pq,↓pj,ps,pz,↓reduceIte,aj,ak,ap,aq,au,av,aw,ax,ay,w8,w9,w_,Option.isSome_some,abi];simp
  ·intro c q' hc
   simp(disch:=omega) only[↓pq,↓pj,ps,pz,↓reduceIte,aj,ak,ap,aq,au,av,aw,ax,ay,w8,w9,w_,]
  ·rw[Od (λi:Nat=>(if ez (within s A fr) ((i:Int)+1)<0 then jN (we s A z fr ((i:Int)+1))else none).toList),List.nil_append]
   congr 3
   unfold beyond cw
   rw[Cn,List.filterMap_map,G7]
   refine congrArg (λf=>List.map aZ (List.filterMap f (List.range 6))) (funext λi=>?_)
   show _=jN _
   by_cases hp:ez (within s A fr) ((i:Int)+1)<0
   ·rw[if_pos hp]
    exact aa8 (v:=(i:Int)+1) ata (atb hp)
   ·rw[if_neg hp,atc hp]
    rfl
theorem Cs(l:List Way)(v:Int):c9 l v=l.find? λw=>w.to==v:=by
 cases h:l.find? (λw=>w.to==v)with
 |none=>
  cases h':c9 l v with
  |none=>rfl
  |some w=>
   have:=xo h'
   have h2:=List.find?_eq_none.1 h w this.1
   simp[this.2]at h2
 |some w=>
  unfold c9 ez
  have h0:0<=eF (λw:Way=>w.to==v) l:=by
   rcases Int.lt_or_le (eF (λw:Way=>w.to==v) l) 0 with h1|h1
   ·have:=(C4 _ _).1 h1 w (List.mem_of_find?_eq_some h)
    have h2:=List.find?_some h
    rw[this]at h2;cases h2
   ·exact h1
  rw[if_neg (by omega)]
  unfold eF at h0⊢
  cases h':l.findIdx? (λw:Way=>w.to==v)with
  |none=>rw[h']at h0;exact absurd h0 (by decide)
  |some i=>
   obtain⟨h1,h2,h3⟩:=List.findIdx?_eq_some_iff_getElem.1 h'
   show some (gt l (i:Int))=some w
   rw[d_ h1]
   obtain⟨e,as',bs,e1,e2⟩:=List.find?_eq_some_iff_append.1 h
   subst e1
   congr 1
   rcases Nat.lt_trichotomy i as'.length with h4|h4|h4
   ·have h5:=e2 as'[i] (List.getElem_mem h4)
    rw[List.getElem_append_left h4]at h2
    rw[h2]at h5;cases h5
   ·subst h4;simp
   ·have h5:=h3 as'.length h4
    simp at h5 e
    exact absurd e h5
theorem abk(a b:List Way)(v:Int):c9 (a++b) v=(c9 a v).or (c9 b v):=by
 rw[Cs,Cs,Cs,List.find?_append]
def xq(W:List Way):Prop:=W.length<=1000∧∀w∈W,fI w.aG∧0<=w.cost∧w.cost<=100000
theorem xq.app{a b:List Way}(ha:a.length<=100)(hb:b.length<=100)(h:xq a)(h':xq b):xq (a++b):=
 ⟨by simp;omega,λw hw=>(List.mem_append.1 hw).elim (h.2 w) (h'.2 w)⟩
def upto(n:Nat):List Int:=(List.range n).map λi:Nat=>(i:Int)+1
theorem atf{n:Nat}{x:Int}:x∈upto n↔1<=x∧x<=n:=by
 unfold upto
 rw[List.mem_map]
 constructor
 ·rintro⟨i,hi,rfl⟩
  have:=List.mem_range.1 hi
  omega
 ·intro h
  exact⟨(x-1).toNat,List.mem_range.2 (by omega),by omega⟩
theorem atg(n:Nat):(upto n).Pairwise (· < ·):=by
 unfold upto
 rw[List.pairwise_map]
 exact List.pairwise_lt_range.imp λ{a b} h=>by omega
theorem ath{n:Nat}{l:List Int}(h:l.Pairwise (· < ·))(hm:∀x∈l,1<=x∧x<=n):l=(upto n).filter λx=>l.contains x:=
 GF h ((atg n).filter _) λx=>by
  rw[List.mem_filter,atf,List.contains_iff_mem]
  exact⟨λhx=>⟨hm x hx,hx⟩,λhx=>hx.2⟩
theorem G_{n:Nat}{l:List Int}(h:l.Pairwise (· < ·))(hm:∀x∈l,1<=x∧x<=n):l.length<=n:=by
 rw[ath h hm]
 refine Nat.le_trans (List.length_filter_le _ _) ?_
 unfold upto
 simp
theorem abl{c:List Int}(h:c.Pairwise (· < ·))(hl:c.length<=1000)(n:Int){F:af->af}{s:af}{st:List T}(cm:st=[ii 0])
  (h1:∀(k:Nat) (w:af),(k:Int)<c.length->gt c (k:Int)<n->F w [ii k]=w [ii ((k:Int)+1)])
  (h2:∀(k:Nat) (w:af),(k:Int)<c.length->gt c (k:Int)=n->F w [ii k]=s [.l (c.map aD)])
  (h3:∀(k:Nat) (w:af),(k:Int)<c.length->¬gt c (k:Int)<n->gt c (k:Int)≠n->F w [ii k]=s [.l ((c.take k++([n]++c.drop k)).map aD)])
  (h4:∀(k:Nat) (w:af),¬(k:Int)<c.length->k<=c.length->F w [ii k]=s [.l ((c.take k++([n]++c.drop k)).map aD)]):
  iter F rounds st=s [.l ((fu c n).map aD)]:=by
 have hle:=B9 c n
 obtain⟨c1,c2,c3⟩:=NT h n
 refine Dd (λk=>[ii k]) (dM c n) cm (dR (by omega)) ?_ ?_
 ·intro k hk w
  exact h1 k w (by omega) (by rw[d_ (by omega)];exact(c3 k (by omega)).2 (by omega))
 ·intro w
  by_cases be:dM c n<c.length
  ·have cK:¬(gt c ((dM c n:Nat):Int)<n):=by rw[d_ be];intro tH;have:=(c3 _ be).1 tH;omega
   have iz:=GL h be
   by_cases jl:n∈c
   ·rw[GK h jl]
    exact h2 _ w (by omega) (iz.2 jl)
   ·rw[Ik h jl]
    exact h3 _ w (by omega) cK (λe=>jl (iz.1 e))
  ·rw[Ik h (GM h be)]
   exact h4 _ w (by omega) hle
theorem ati{c:List Int}(h:c.Pairwise (· < ·))(hl:c.length<=1000)(n:Int)(q:af):
  iter (um r_ (.l (c.map aD)) (ii n) q) rounds [ii 0]=q [.l ((fu c n).map aD)]:=by
 refine abl h hl n rfl ?_ ?_ ?_ ?_
 ·intro k w fh cK
  simp(disch:=omega) only[↓pq,↓pj,ps,pz,↓reduceIte,aj,ak,ap,aq,au,av,aw,ax,ay,um,uo,uW,fh,cK]
 ·intro k w fh cK
  have iz:¬n<n:=by omega
  simp(disch:=omega) only[↓pq,↓pj,ps,pz,↓reduceIte,aj,ak,ap,aq,au,av,aw,ax,ay,um,uo,uW,fh,cK,iz]
 ·intro k w fh cK iz
  simp(disch:=omega) only[↓pq,↓pj,ps,pz,↓reduceIte,aj,ak,ap,aq,au,av,aw,ax,ay,um,uo,uW,fh,cK,iz,re _ (show(c.take k).length<=1048576 by simp;omega)]
  rw[Bn (by simp;omega),dU,yF (by simp;omega),dU,List.append_assoc]
 ·intro k w fh cK
  simp(disch:=omega) only[↓pq,↓pj,ps,pz,↓reduceIte,aj,ak,ap,aq,au,av,aw,ax,ay,um,uo,uW,fh,re _ (show(c.take k).length<=1048576 by simp;omega)]
  rw[Bn (by simp;omega),dU,yF (by simp;omega),dU,List.append_assoc]
theorem atj{c:List Int}(h:c.Pairwise (· < ·))(hl:c.length<=1000)(n:Int)(q:af):
  iter (uo r_ (.l (c.map aD)) (ii n) q) rounds [ii 0]=q [.l ((fu c n).map aD)]:=by
 refine abl h hl n rfl ?_ ?_ ?_ ?_
 ·intro k w fh cK
  simp(disch:=omega) only[↓pq,↓pj,ps,pz,↓reduceIte,aj,ak,ap,aq,au,av,aw,ax,ay,um,uo,uW,fh,cK]
 ·intro k w fh cK
  have iz:¬n<n:=by omega
  simp(disch:=omega) only[↓pq,↓pj,ps,pz,↓reduceIte,aj,ak,ap,aq,au,av,aw,ax,ay,um,uo,uW,fh,cK,iz]
 ·intro k w fh cK iz
  simp(disch:=omega) only[↓pq,↓pj,ps,pz,↓reduceIte,aj,ak,ap,aq,au,av,aw,ax,ay,um,uo,uW,fh,cK,iz,re _ (show(c.take k).length<=1048576 by simp;omega)]
  rw[Bn (by simp;omega),dU,yF (by simp;omega),dU,List.append_assoc]
 ·intro k w fh cK
  simp(disch:=omega) only[↓pq,↓pj,ps,pz,↓reduceIte,aj,ak,ap,aq,au,av,aw,ax,ay,um,uo,uW,fh,re _ (show(c.take k).length<=1048576 by simp;omega)]
  rw[Bn (by simp;omega),dU,yF (by simp;omega),dU,List.append_assoc]
theorem atk{s:List ah}{ar fr:Int}{w:Way}(hw:w∈aC s ar fr):∃v∈aC s ar fr,v.to=fr:=by
 unfold aC at hw⊢
 by_cases hc:dX s=true∧gZ fr 1 6=true∧0<=iH s ar fr
 ·rw[if_pos hc]at hw⊢
  obtain⟨D,hI⟩:=Oc hc.1 ar fr 6 (W0 fr) [] (ig.start (aW.1 hc.2.1))
  have hl:=hI.ok.len
  obtain⟨h1,h2⟩:=List.mem_filter.1 hw
  have h2:w.to≠0:=by simpa using h2
  obtain⟨i,hi,rfl⟩:=List.mem_iff_getElem.1 h1
  have oJ:=hI.ok.to (i:Int) (by omega) (by omega)
  rw[d_ hi]at oJ
  have oJ:=oJ.resolve_left h2
  rcases hI.first with⟨_,hf⟩|hf
  ·have Q7:=hI.fr6
   have:=hf (i:Int) (by omega) (by omega) (by rw[d_ hi];exact h2)
   exact⟨_,hw,by rw[oJ,this]⟩
  ·have h3:=hI.mem fr hf
   have h4:=hI.fr6
   have h5:=(hI.ok.to fr (by omega) (by omega)).resolve_left h3.2
   refine⟨_,List.mem_filter.2 ⟨kO (n:=fr) (by omega) (by omega),?_⟩,h5⟩
   simpa using h3.2
 ·rw[if_neg hc]at hw;cases hw
theorem atl{l:List Way}{w:Way}(h:w∈l):¬ez l w.to<0:=by
 intro hc
 have:=(C4 _ _).1 hc w h
 simp at this
theorem atm{s:List ah}{A:List Int}{fr:Int}{v:Way}(h:v∈qg s A fr):¬ez (within s A fr) v.to<0:=by
 rcases Iq (v:=v.to) _ ((qg s A fr).filter λw=>w.to==v.to) rfl (λy hy=>by have:=List.mem_filter.1 hy;exact⟨by simpa using this.2,(y7 y this.1).2.1⟩)with⟨e,_⟩|⟨b,e,hb,_⟩
 ·have:v∈(qg s A fr).filter λw=>w.to==v.to:=List.mem_filter.2 ⟨h,by simp⟩
  rw[e]at this;cases this
 ·have hm:b∈within s A fr:=(G4 (λx hx=>(y7 x hx).2.1)).2 ⟨by rw[hb];exact(y7 v h).1,by rw[hb];exact e⟩
  rw[<-hb]
  exact atl hm
theorem On{s:List ah}{A:List Int}{z:Bool}{fr:Int}{w:Way}(h:w∈beyond s A z fr):(1<=w.to∧w.to<=6)∧fI w.aG∧(0<=w.cost∧w.cost<60000)∧w.to≠fr∧ez (within s A fr) w.to<0:=by
 have h1:=P3 (λx hx=>(abh x hx).2.1) h
 obtain⟨hh,y,hy,e1,e2⟩:=h1
 have h2:=abh y hy
 obtain⟨x,hx,h3⟩:=List.mem_filterMap.1 hy
 obtain⟨h4,y',h5,h6,h7⟩:=P6 h3
 have hk:x.key=w.to:=by rw[<-e1,h7]
 refine⟨by rw[<-e1];exact h2.1,hh,by rw[<-e2];exact h2.2.2,?_,by rw[<-hk];exact h4.2.2.2.2.2⟩
 intro e
 obtain⟨v,hv,ev⟩:=atk (xo h5).1
 have hc:v∈qg s A fr:=List.mem_flatMap.2 ⟨x.ae,List.contains_iff_mem.1 h4.2.2.2.1,hv⟩
 have h8:=atm hc
 have he:v.to=x.key:=by omega
 rw[he]at h8
 exact h8 h4.2.2.2.2.2
theorem abm{s:List ah}{A:List Int}{fr:Int}{w:Way}(h:w∈within s A fr):(1<=w.to∧w.to<=6)∧fI w.aG∧(0<=w.cost∧w.cost<=6000):=by
 obtain⟨hh,y,hy,e1,e2⟩:=P3 (λx hx=>(y7 x hx).2.1) h
 have:=y7 y hy
 exact⟨by rw[<-e1];exact this.1,hh,by rw[<-e2];exact this.2.2⟩
theorem abn{s:List ah}{A:List Int}{z:Bool}{fr:Int}:(beyond s A z fr).length<=6:=Cr _
theorem wg{n:Int}{ls:List bC}(h:eo (mT n) mf ls=true){l:bC}(hl:l∈ls):(1<=n∧n<=6)∧(1<=l.a∧l.a<=n)∧(1<=l.b∧l.b<=n)∧l.a<l.b∧(1<=l.cost∧l.cost<=1000)∧0<=l.ae∧l.ae<=2:=by
 obtain⟨i,hi,rfl⟩:=List.mem_iff_getElem.1 hl
 have:=bQ.1 h i hi
 rw[d_ hi]at this
 simp only[bk,mT,aW,decide_eq_true_eq]at this
 omega
def three:List Int:=[0,1,2]
theorem ol{x:Int}:x∈three↔0<=x∧x<=2:=by simp[three];omega
theorem om:three.Pairwise (· < ·):=by unfold three;simp
def sr(node a:Int)(l:bC):Bool:=l.ae==a&&(l.a==node||l.b==node)
def lG(ls:List bC)(node:Int):List Int:=three.filter λa=>ls.any (sr node a)
theorem Oo(ls:List bC)(node:Int):(lG ls node).length<=3:=List.length_filter_le _ _
theorem atn(node:Int)(ls:List bC)(c:List Int)(hc:c.Pairwise (· < ·)):let K:=ls.foldl (λc x=>if x.a=node∨x.b=node then fu c x.ae else c) c;K.Pairwise (· < ·)∧∀k,k∈K↔k∈c∨∃x∈ls,(x.a=node∨x.b=node)∧x.ae=k:=by
 induction ls generalizing c with
 |nil=>exact⟨hc,by simp⟩
 |cons x s ih=>
  rw[List.foldl_cons]
  by_cases h:x.a=node∨x.b=node
  ·rw[if_pos h]
   obtain⟨h1,h2⟩:=ih _ (B_ hc x.ae)
   refine⟨h1,λk=>?_⟩
   rw[h2,g_]
   simp only[List.mem_cons]
   constructor
   ·rintro((e|e)|⟨y,hy,e⟩)
    ·exact .inr ⟨x,.inl rfl,h,e.symm⟩
    ·exact .inl e
    ·exact .inr ⟨y,.inr hy,e⟩
   ·rintro(e|⟨y,rfl|hy,e⟩)
    ·exact .inl (.inr e)
    ·exact .inl (.inl e.2.symm)
    ·exact .inr ⟨y,hy,e⟩
  ·rw[if_neg h]
   obtain⟨h1,h2⟩:=ih _ hc
   refine⟨h1,λk=>?_⟩
   rw[h2]
   simp only[List.mem_cons]
   constructor
   ·rintro(e|⟨y,hy,e⟩)
    ·exact .inl e
    ·exact .inr ⟨y,.inr hy,e⟩
   ·rintro(e|⟨y,rfl|hy,e⟩)
    ·exact .inl e
    ·exact absurd e.1 h
    ·exact .inr ⟨y,hy,e⟩
theorem ato{n:Int}{ls:List bC}(h:eo (mT n) mf ls=true)(node:Int):ls.foldl (λc x=>if x.a=node∨x.b=node then fu c x.ae else c) []=lG ls node:=by
 obtain⟨h1,h2⟩:=atn node ls [] .nil
 refine GF h1 (om.filter _) λk=>?_
 unfold lG
 rw[h2,List.mem_filter,ol,List.any_eq_true]
 constructor
 ·rintro(e|⟨x,hx,e,rfl⟩)
  ·cases e
  ·have:=wg h hx
   refine⟨by omega,x,hx,?_⟩
   unfold sr
   rcases e with e|e<;>simp[e]
 ·rintro⟨_,x,hx,e⟩
  unfold sr at e
  simp only[bk,Bool.or_eq_true,beq_iff_eq]at e
  exact .inr ⟨x,hx,e.2,e.1⟩
theorem Ha(t0 t2:T)(ls:List bC)(node n:Int)(h:eo (mT n) mf ls=true)(hl:ls.length<=12):FM [t0,.l (ls.map dC),t2,ii node]=some [.l ((lG ls node).map aD)]:=by
 rw[aqY];simp(disch:=omega) only[↓pq,↓pj,ps,pz,↓reduceIte,aj,ak,ap,aq,au,av,aw,ax,ay,um,uo,uW,Nc]
 refine(jc ls (λj c=>[.l (c.map aD),ii j]) (λc x=>if x.a=node∨x.b=node then fu c x.ae else c) (λc=>some [T.l (c.map aD)]) [] (λj c=>c.Pairwise (· < ·)∧∀x∈c,0<=x∧x<=2) rfl (dR (by omega)) ⟨.nil,by simp⟩ ?_ ?_).trans (by rw[ato h])
 ·rintro j c hj ⟨c1,c2⟩
  have hm:=wg h (kO (l:=ls) (n:=(j:Int)) (by omega) hj)
  have hc3:c.length<=3:=by
   have e:c=three.filter λx=>c.contains x:=GF c1 (om.filter _) λx=>by
    rw[List.mem_filter,ol,List.contains_iff_mem]
    exact⟨λhx=>⟨c2 x hx,hx⟩,λhx=>hx.2⟩
   rw[e];exact List.length_filter_le _ _
  by_cases k1:(gt ls j).a=node
  ·rw[if_pos (.inl k1)]
   refine⟨⟨B_ c1 _,λx hx=>by rcases g_.1 hx with rfl|hx;omega;exact c2 x hx⟩,λq=>?_⟩
   simp(disch:=omega) only[↓pq,↓pj,ps,pz,↓reduceIte,aj,ak,ap,aq,au,av,aw,ax,ay,um,uo,uW,hj,k1]
   refine(atj c1 (by omega) _ _).trans ?_
   simp(disch:=omega) only[↓pq,↓pj,ps,pz,↓reduceIte,aj,ak,ap,aq,au,av,aw,ax,ay,um,uo,uW,]
  ·by_cases k2:(gt ls j).b=node
   ·rw[if_pos (.inr k2)]
    refine⟨⟨B_ c1 _,λx hx=>by rcases g_.1 hx with rfl|hx;omega;exact c2 x hx⟩,λq=>?_⟩
    simp(disch:=omega) only[↓pq,↓pj,ps,pz,↓reduceIte,aj,ak,ap,aq,au,av,aw,ax,ay,um,uo,uW,hj,k1,k2]
    refine(ati c1 (by omega) _ _).trans ?_
    simp(disch:=omega) only[↓pq,↓pj,ps,pz,↓reduceIte,aj,ak,ap,aq,au,av,aw,ax,ay,um,uo,uW,]
   ·rw[if_neg (by omega)]
    refine⟨⟨c1,c2⟩,λq=>?_⟩
    simp(disch:=omega) only[↓pq,↓pj,ps,pz,↓reduceIte,aj,ak,ap,aq,au,av,aw,ax,ay,um,uo,uW,hj,k1,k2]
 ·rintro c q hc
  simp(disch:=omega) only[↓pq,↓pj,ps,pz,↓reduceIte,aj,ak,ap,aq,au,av,aw,ax,ay,um,uo,uW,]
def y8(ls:List bC)(node a:Int):List Int:=v9.filter λv=>decide (nG ls node v a>0)
theorem abo(t0 t2:T)(ls:List bC)(node a:Int)(hl:ls.length<=12):VH [t0,.l (ls.map dC),t2,ii node,ii a]=some [.l ((y8 ls node a).map aD)]:=by
 rw[ao'];simp(disch:=omega) only[↓pq,↓pj,ps,pz,↓reduceIte,aj,ak,ap,aq,au,av,aw,ax,ay,u8_,Mm]
 refine(ud 6 (λi c=>[.l (c.map aD),ii (i+1)]) (λc i=>if decide (nG ls node ((i:Int)+1) a>0)=true then c++[(i:Int)+1]else c) (λc=>some [T.l (c.map aD)]) [] (λi c=>c.length<=i) rfl (dR (by omega)) (by simp) ?_ ?_).trans ?_
 ·intro i c hi hc
  have dl:(i:Int)+1<=6:=by omega
  refine⟨by split;(· simp;omega);(· omega),λq=>?_⟩
  by_cases k:nG ls node ((i:Int)+1) a>0
  ·simp(disch:=omega) only[↓pq,↓pj,ps,pz,↓reduceIte,aj,ak,ap,aq,au,av,aw,ax,ay,u8_,dl,kY_ _ _ _ _ _ _ (show ls.length<=1048576 by omega),k,decide_true]
  ·simp(disch:=omega) only[↓pq,↓pj,ps,pz,↓reduceIte,aj,ak,ap,aq,au,av,aw,ax,ay,u8_,dl,kY_ _ _ _ _ _ _ (show ls.length<=1048576 by omega),k,decide_false,dS]
 ·intro c q hc
  simp(disch:=omega) only[↓pq,↓pj,ps,pz,↓reduceIte,aj,ak,ap,aq,au,av,aw,ax,ay,u8_,]
 ·unfold y8
  rw[KV (λi:Nat=>decide (nG ls node ((i:Int)+1) a>0)) (λi:Nat=>(i:Int)+1),Cn,List.filter_map]
  rfl
theorem atp{n:Int}{ls:List bC}(h:eo (mT n) mf ls=true)(node a:Int):(y8 ls node a).length>0↔ls.any (sr node a)=true:=by
 unfold y8
 rw[show((v9.filter λv=>decide (nG ls node v a>0)).length>0)↔∃v∈v9,nG ls node v a>0 by
  rw[gt_iff_lt,List.length_pos_iff_exists_mem]
  constructor
  ·rintro⟨v,hv⟩
   have:=List.mem_filter.1 hv
   exact⟨v,this.1,by simpa using this.2⟩
  ·rintro⟨v,hv,e⟩
   exact⟨v,List.mem_filter.2 ⟨hv,by simpa using e⟩⟩,List.any_eq_true]
 have key:∀v,nG ls node v a>0↔∃x∈ls,hZ node v a x=true:=by
  intro v
  have hz:=NF h node v a
  constructor
  ·intro hc
   have h0:0<=eF (hZ node v a) ls:=by
    rcases Int.lt_or_le (eF (hZ node v a) ls) 0 with h1|h1
    ·have:=hz.2 h1;omega
    ·exact h1
   exact⟨_,kO h0 (ub _ _),uc _ _ h0⟩
  ·rintro⟨x,hx,e⟩
   have h0:¬eF (hZ node v a) ls<0:=λhc=>by
    have:=(C4 _ _).1 hc x hx
    rw[e]at this;cases this
   have h1:=wg h (kO (l:=ls) (n:=eF (hZ node v a) ls) (by omega) (ub _ _))
   unfold nG
   rw[if_neg h0]
   omega
 constructor
 ·rintro⟨v,hv,hc⟩
  obtain⟨x,hx,e⟩:=(key v).1 hc
  refine⟨x,hx,?_⟩
  unfold hZ at e
  unfold sr
  simp only[bk,Bool.or_eq_true,beq_iff_eq]at e⊢
  rcases e with⟨e1,e2|e2⟩
  ·exact⟨e1,.inl e2.1⟩
  ·exact⟨e1,.inr e2.2⟩
 ·rintro⟨x,hx,e⟩
  have hl:=wg h hx
  unfold sr at e
  simp only[bk,Bool.or_eq_true,beq_iff_eq]at e
  rcases e with⟨e1,e2|e2⟩
  ·exact⟨x.b,ju.2 (by omega),(key _).2 ⟨x,hx,by unfold hZ;simp[e1,e2]⟩⟩
  ·exact⟨x.a,ju.2 (by omega),(key _).2 ⟨x,hx,by unfold hZ;simp[e1,e2]⟩⟩
theorem abp(t0 t2:T)(ls:List bC)(node n:Int)(h:eo (mT n) mf ls=true)(hl:ls.length<=12):K9 [t0,.l (ls.map dC),t2,ii node]=some [.l ((lG ls node).map aD)]:=by
 rw[apb];simp(disch:=omega) only[↓pq,↓pj,ps,pz,↓reduceIte,aj,ak,ap,aq,au,av,aw,ax,ay,uE_,Mo]
 refine(ud 3 (λi c=>[.l (c.map aD),ii i]) (λc i=>if ls.any (sr node (i:Int))=true then c++[(i:Int)]else c) (λc=>some [T.l (c.map aD)]) [] (λi c=>c.length<=i) rfl (dR (by omega)) (by simp) ?_ ?_).trans ?_
 ·intro i c hi hc
  have dl:(i:Int)<=2:=by omega
  refine⟨by split;(· simp;omega);(· omega),λq=>?_⟩
  have hn:=atp h node (i:Int)
  by_cases k:ls.any (sr node (i:Int))=true
  ·have h1:((y8 ls node (i:Int)).length:Int)>0:=by have:=hn.2 k;omega
   simp(disch:=omega) only[↓pq,↓pj,ps,pz,↓reduceIte,aj,ak,ap,aq,au,av,aw,ax,ay,uE_,dl,abo _ _ _ _ _ hl,k,h1]
  ·have h1:¬((y8 ls node (i:Int)).length:Int)>0:=by
    intro hc
    exact k (hn.1 (by omega))
   simp(disch:=omega) only[↓pq,↓pj,ps,pz,↓reduceIte,aj,ak,ap,aq,au,av,aw,ax,ay,uE_,dl,abo _ _ _ _ _ hl,k,h1,dS]
 ·intro c q hc
  simp(disch:=omega) only[↓pq,↓pj,ps,pz,↓reduceIte,aj,ak,ap,aq,au,av,aw,ax,ay,uE_,]
 ·unfold lG
  rw[KV (λi:Nat=>ls.any (sr node (i:Int))) (λi:Nat=>(i:Int)),show three=(List.range 3).map (λi:Nat=>(i:Int)) from rfl,List.filter_map]
  rfl
def Dj(ls:List bC)(node:Int):Bool:=(lG ls node).contains 0&&decide ((lG ls node).length>1)
theorem abq(t0 t2:T)(ls:List bC)(node n:Int)(h:eo (mT n) mf ls=true)(hl:ls.length<=12):YH [t0,.l (ls.map dC),t2,ii node]=some [bb (Dj ls node)]:=by
 have Ir:=Oo ls node
 rw[aq_];simp(disch:=omega) only[↓pq,↓pj,ps,pz,↓reduceIte,aj,ak,ap,aq,au,av,aw,ax,ay,Nm,Ha _ _ _ _ _ h hl,xk _ _ (show(lG ls node).length<=1048576 by omega)]
 unfold Dj
 cases(lG ls node).contains 0 with
 |true=>simp(disch:=omega) only[↓pq,↓pj,ps,pz,↓reduceIte,aj,ak,ap,aq,au,av,aw,ax,ay,];simp;omega
 |false=>simp(disch:=omega) only[↓pq,↓pj,ps,pz,↓reduceIte,aj,ak,ap,aq,au,av,aw,ax,ay,dS];simp
theorem abr(t0 t2:T)(ls:List bC)(node n:Int)(h:eo (mT n) mf ls=true)(hl:ls.length<=12):VQ [t0,.l (ls.map dC),t2,ii node]=some [bb (Dj ls node)]:=by
 have Ir:=Oo ls node
 rw[apf];simp(disch:=omega) only[↓pq,↓pj,ps,pz,↓reduceIte,aj,ak,ap,aq,au,av,aw,ax,ay,Mq,abp _ _ _ _ _ h hl]
 unfold Dj
 by_cases k:((lG ls node).length:Int)>1
 ·have k':(lG ls node).length>1:=by omega
  have h0:∀(p:Int->Bool),(three.filter p).length>1->(three.filter p).contains 0=decide (gt (three.filter p) 0=0):=by
   intro p hp
   unfold three at hp⊢
   simp only[List.filter_cons,List.filter_nil]at hp⊢
   revert hp
   cases p 0<;>cases p 1<;>cases p 2<;>first|(intro _;rfl)|(intro h;exact absurd h (by decide))
  rw[show(lG ls node).contains 0=decide (gt (lG ls node) 0=0) from h0 _ k']
  simp(disch:=omega) only[↓pq,↓pj,ps,pz,↓reduceIte,aj,ak,ap,aq,au,av,aw,ax,ay,k,k',decide_true,Bool.and_true]
  rfl
 ·have k':¬(lG ls node).length>1:=by omega
  simp(disch:=omega) only[↓pq,↓pj,ps,pz,↓reduceIte,aj,ak,ap,aq,au,av,aw,ax,ay,k,k',decide_false,Bool.and_false]
def qh(ae fr:Int)(w:Way):ah:=⟨ae,2,fr,w.to,0,[],w.cost,false⟩
def uy(here:List Way)(fr:Int)(k:Int):Bool:=decide (ez here k<0)&&decide (k≠fr)
def y9(here:List Way)(ae fr:Int)(W:List Way)(k:Int):Option ah:=if uy here fr k=true then(c9 W k).map (qh ae fr)else none
def km(here:List Way)(ae fr:Int)(W:List Way):List ah:=v9.filterMap (y9 here ae fr W)
theorem P7{here:List Way}{ae fr:Int}{W:List Way}{k:Int}{r:ah}(h:y9 here ae fr W k=some r):r.key=k∧r.ae=ae∧r.kind=2∧r.owner=fr∧r.bq=[]∧r.seq=0∧r.gU=false∧uy here fr k=true∧∃w,c9 W k=some w∧r=qh ae fr w:=by
 unfold y9 at h
 split at h
 ·rename_i hc
  obtain⟨w,hw,e⟩:=Option.map_eq_some_iff.1 h
  subst e
  exact⟨(xo hw).2,rfl,rfl,rfl,rfl,rfl,rfl,hc,w,hw,rfl⟩
 ·cases h
theorem iM{here:List Way}{ae fr:Int}{W:List Way}{r:ah}:r∈km here ae fr W↔(1<=r.key∧r.key<=6)∧y9 here ae fr W r.key=some r:=by
 unfold km
 rw[List.mem_filterMap]
 constructor
 ·rintro⟨k,hk,h⟩
  have:=(P7 h).1
  subst this
  exact⟨ju.1 hk,h⟩
 ·rintro⟨h1,h2⟩
  exact⟨r.key,ju.2 h1,h2⟩
theorem abt(here:List Way)(ae fr:Int)(W:List Way):(km here ae fr W).Pairwise λa b=>a.key<b.key:=by
 unfold km
 rw[List.pairwise_filterMap]
 refine sk.imp λ{a b} kE x hx y hy=>?_
 rw[(P7 hx).1,(P7 hy).1]
 exact kE
theorem Oq(here:List Way)(ae fr:Int)(W:List Way):(km here ae fr W).length<=6:=List.length_filterMap_le _ _
theorem Ot{here:List Way}{ae fr:Int}{W:List Way}{r:ah}(h:r∈km here ae fr W):r.ae=ae∧r.kind=2∧r.owner=fr∧r.bq=[]:=by
 have:=P7 (iM.1 h).2
 exact⟨this.2.1,this.2.2.1,this.2.2.2.1,this.2.2.2.2.1⟩
theorem Ou(here:List Way)(ae fr:Int)(W:List Way):iG (km here ae fr W):=by
 unfold iG
 refine(abt here ae fr W).imp_of_mem λ{a b} ha hb kE=>?_
 have h1:=Ot ha
 have h2:=Ot hb
 rw[pg]
 omega
theorem abu(here:List Way)(ae fr:Int)(W:List Way):bm (km here ae fr W):=λr hr=>by
 rw[(Ot hr).2.2.2];simp
theorem Hb(W:List Way)(w:Way)(k:Int):c9 (W++[w]) k=(c9 W k).or (if w.to=k then some w else none):=by
 rw[abk]
 congr 1
 rw[Cs]
 simp only[List.find?_cons,List.find?_nil]
 by_cases h:w.to=k
 ·simp[h]
 ·have:(w.to==k)=false:=by simpa using h
  rw[this,if_neg h]
theorem P8{here:List Way}{ae fr:Int}{W:List Way}{w:Way}(h:uy here fr w.to=false∨(c9 W w.to).isSome=true):km here ae fr (W++[w])=km here ae fr W:=by
 unfold km
 refine congrArg (λf=>List.filterMap f v9) (funext λk=>?_)
 unfold y9
 by_cases hk:uy here fr k=true
 ·rw[if_pos hk,if_pos hk,Hb]
  by_cases e:w.to=k
  ·subst e
   rcases h with h|h
   ·rw[h]at hk;cases hk
   ·rw[Option.or_of_isSome h]
  ·rw[if_neg e,Option.or_none]
 ·rw[if_neg hk,if_neg hk]
theorem abv{here:List Way}{ae fr:Int}{W:List Way}{w:Way}(hw:1<=w.to∧w.to<=6)(h1:uy here fr w.to=true)(h2:c9 W w.to=none):km here ae fr (W++[w])=dA (km here ae fr W) (qh ae fr w):=by
 have hs:=Ii (Ou here ae fr W) (qh ae fr w)
 refine Oa ah.key (abt _ _ _ _) ?_ λr=>?_
 ·refine hs.imp_of_mem λ{a b} ha hb kE=>?_
  have hm:∀x,x∈dA (km here ae fr W) (qh ae fr w)->x.ae=ae∧x.kind=2∧x.owner=fr:=by
   intro x hx
   rcases B8 hx with rfl|hx
   ·exact⟨rfl,rfl,rfl⟩
   ·have:=Ot hx;exact⟨this.1,this.2.1,this.2.2.1⟩
  have h1:=hm a ha
  have h2:=hm b hb
  rw[pg]at kE
  omega
 ·have hp:r∈dA (km here ae fr W) (qh ae fr w)↔r=qh ae fr w∨(r∈km here ae fr W∧r.key≠w.to):=by
   unfold dA
   simp only[List.mem_append,List.mem_filter,List.mem_singleton]
   constructor
   ·rintro(⟨h,q⟩|h|⟨h,q⟩)
    ·have hx:=Ot h
     rw[pg]at q
     simp only[qh]at q
     exact .inr ⟨h,by omega⟩
    ·exact .inl h
    ·have hx:=Ot h
     rw[pg]at q
     simp only[qh]at q
     exact .inr ⟨h,by omega⟩
   ·rintro(h|⟨h,q⟩)
    ·exact .inr (.inl h)
    ·have hx:=Ot h
     rcases Int.lt_or_gt_of_ne q with q|q
     ·exact .inl ⟨h,by rw[pg];simp only[qh];omega⟩
     ·exact .inr (.inr ⟨h,by rw[pg];simp only[qh];omega⟩)
  rw[hp,iM,iM]
  unfold y9
  constructor
  ·rintro⟨hk,h⟩
   split at h
   ·rename_i hc
    rw[Hb]at h
    by_cases e:w.to=r.key
    ·rw[if_pos e,<-e,h2,Option.none_or]at h
     simp only[Option.map_some,br]at h
     exact .inl h.symm
    ·rw[if_neg e,Option.or_none]at h
     exact .inr ⟨⟨hk,by rw[if_pos hc];exact h⟩,λe'=>e e'.symm⟩
   ·cases h
  ·rintro(rfl|⟨⟨hk,h⟩,dk⟩)
   ·refine⟨hw,?_⟩
    show(if uy here fr w.to=true then _ else none)=_
    rw[if_pos h1]
    show(c9 (W++[w]) w.to).map _=_
    rw[Hb,h2,if_pos rfl]
    rfl
   ·refine⟨hk,?_⟩
    have e1:c9 (W++[w]) r.key=c9 W r.key:=by rw[Hb,if_neg (λe:w.to=r.key=>dk e.symm),Option.or_none]
    rw[e1]
    exact h
def abw(A:List Int)(ae:Int):List Int:=A.filter λa=>!(a==ae)
def Hc(s:List ah)(A:List Int)(fr ae:Int):List Way:=within s (abw A ae) fr++if ae=0 then []else beyond s A true fr
def cA(s:List ah)(A:List Int)(fr ae:Int):List ah:=km (aC s ae fr) ae fr (Hc s A fr ae)
theorem abx(here:List Way)(ae fr:Int):km here ae fr []=[]:=by
 unfold km
 rw[List.filterMap_eq_nil_iff]
 intro k _
 unfold y9
 have:c9 [] k=none:=rfl
 rw[this]
 split<;>rfl
theorem atq(W:List Way)(k:Int):(c9 W k).isSome=true↔¬ez W k<0:=by
 unfold c9
 split<;>simp_all
theorem aby{here:List Way}{ae fr:Int}{W:List Way}{w:Way}(hw:1<=w.to∧w.to<=6)(h1:uy here fr w.to=true):bG (km here ae fr W) (qh ae fr w)<0↔c9 W w.to=none:=by
 unfold bG
 rw[C4]
 constructor
 ·intro h
  cases e:c9 W w.to with
  |none=>rfl
  |some v=>
   have hv:=(xo e).2
   have hm:qh ae fr v∈km here ae fr W:=iM.2 ⟨by show 1<=v.to∧v.to<=6;omega,by
    show y9 here ae fr W v.to=_
    unfold y9
    rw[hv,if_pos h1,e];rfl⟩
   have:=h _ hm
   simp[dP,qh,hv]at this
 ·intro h x hx
  have h2:=iM.1 hx
  obtain⟨h3,_,_,_,_,_,_,_,v,h4,h5⟩:=P7 h2.2
  cases hs:dP x (qh ae fr w)with
  |false=>rfl
  |true=>
   have:x.key=w.to:=by simp only[dP,bk,decide_eq_true_eq]at hs;exact hs.2.2.2
   rw[this,h]at h4;cases h4
theorem atr(s:List ah)(A:List Int)(fr ae:Int)(h:s.length<=1048576)(hn:bm s)(ha:A.length<=1048576):Zd [.l (s.map aB),.l (A.map aD),ii fr,ii ae]=some [.l ((cA s A fr ae).map aB)]:=by
 rw[arz];simp(disch:=omega) only[↓pq,↓pj,ps,pz,↓reduceIte,aj,ak,ap,aq,au,av,aw,ax,ay,uX,uY,uZ,Nw]
 refine(jc A (λj c=>[.l (c.map aD),ii j]) (λc a=>if(!(a==ae))=true then c++[a]else c) (λc=>if c.length<=1048576 then some [T.l ((km (aC s ae fr) ae fr (within s c fr++if ae=0 then []else beyond s A true fr)).map aB)]else none) [] (λj c=>c.length<=j) rfl (dR ha) (by simp) ?_ ?_).trans ?_
 ·intro j c hj hc
  refine⟨by split;(· simp;omega);(· omega),λq=>?_⟩
  by_cases k:gt A j=ae
  ·have:(!(gt A j==ae))=false:=by simpa using k
   rw[this]
   simp(disch:=omega) only[↓pq,↓pj,ps,pz,↓reduceIte,aj,ak,ap,aq,au,av,aw,ax,ay,uX,uY,uZ,hj,k,dS]
  ·have:(!(gt A j==ae))=true:=by simpa using k
   rw[this]
   simp(disch:=omega) only[↓pq,↓pj,ps,pz,↓reduceIte,aj,ak,ap,aq,au,av,aw,ax,ay,uX,uY,uZ,hj,k]
 ·intro c q hc
  rw[if_pos (by omega)]
  have hH:=N3 s ae fr h hn
  have hWl:=G9 (s:=s) (A:=c) (fr:=fr)
  have hBl:=abn (s:=s) (A:=A) (z:=true) (fr:=fr)
  have hT:=λk:Int=>NS (aC s ae fr) k (by have:=Ol (s:=s) (a:=ae) (fr:=fr);omega) Oj
  simp(disch:=omega) only[↓pq,↓pj,ps,pz,↓reduceIte,aj,ak,ap,aq,au,av,aw,ax,ay,uX,uY,uZ,hH,aa_ s c fr h hn (by omega)]
  refine(jc (within s c fr) (λj P=>[ii j,.l ((km (aC s ae fr) ae fr P).map aB),.l ((within s c fr).map aZ)]) (λP w=>P++[w]) (λP=>some [T.l ((km (aC s ae fr) ae fr (P++if ae=0 then []else beyond s A true fr)).map aB)]) [] (λ_ _=>True) (by rw[abx];rfl) (dR (by omega)) trivial ?_ ?_).trans (by rw[Oe,List.nil_append])
  ·intro j P hj _
   refine⟨trivial,λq=>?_⟩
   have hm:=(abm (kO (l:=within s c fr) (n:=(j:Int)) (by omega) hj)).1
   generalize hw:gt (within s c fr) (j:Int)=w at hm
   have hTl:=Oq (aC s ae fr) ae fr P
   have hk:=NO (km (aC s ae fr) ae fr P) ae 2 fr w.to (ii 0) (.l []) (ii w.cost) (bb false) (by omega)
   rw[show eF (λx=>dP x ⟨ae,2,fr,w.to,0,[],0,false⟩) (km (aC s ae fr) ae fr P)=bG (km (aC s ae fr) ae fr P) (qh ae fr w) from rfl]at hk
   have hp:=GC (km (aC s ae fr) ae fr P) ae 2 fr w.to 0 [] w.cost false (by omega) (abu _ _ _ _) (Ou _ _ _ _) (by simp)
   rw[show(⟨ae,2,fr,w.to,0,[],w.cost,false⟩:ah)=qh ae fr w from rfl]at hp
   rw[List.map_nil]at hp
   have hT:=hT w.to
   by_cases k1:ez (aC s ae fr) w.to<0
   ·rw[if_pos k1]at hT
    by_cases k2:w.to=fr
    ·rw[P8 (.inl (by unfold uy;simp[k2]))]
     rw[k2]at hT
     simp(disch:=omega) only[↓pq,↓pj,ps,pz,↓reduceIte,aj,ak,ap,aq,au,av,aw,ax,ay,uX,uY,uZ,hj,hw,hT,k2,dS]
    ·have ht:uy (aC s ae fr) fr w.to=true:=by unfold uy;simp[k1,k2]
     have jx:=aby (ae:=ae) (W:=P) hm ht
     cases ho:c9 P w.to with
     |none=>
      rw[abv hm ht ho]
      have jx:=jx.2 ho
      simp(disch:=omega) only[↓pq,↓pj,ps,pz,↓reduceIte,aj,ak,ap,aq,au,av,aw,ax,ay,uX,uY,uZ,hj,hw,hT,k2,dS,hk,jx,hp]
     |some v=>
      rw[P8 (.inr (by rw[ho];rfl))]
      have jx:¬bG (km (aC s ae fr) ae fr P) (qh ae fr w)<0:=λh=>by rw[jx.1 h]at ho;cases ho
      simp(disch:=omega) only[↓pq,↓pj,ps,pz,↓reduceIte,aj,ak,ap,aq,au,av,aw,ax,ay,uX,uY,uZ,hj,hw,hT,k2,dS,hk,jx]
   ·rw[if_neg k1]at hT
    simp only[aZ,List.cons_append,List.nil_append]at hT
    rw[P8 (.inl (by unfold uy;simp[k1]))]
    simp(disch:=omega) only[↓pq,↓pj,ps,pz,↓reduceIte,aj,ak,ap,aq,au,av,aw,ax,ay,uX,uY,uZ,hj,hw,hT]
  ·intro P q _
   by_cases k0:ae=0
   ·rw[if_pos k0,List.append_nil]
    simp(disch:=omega) only[↓pq,↓pj,ps,pz,↓reduceIte,aj,ak,ap,aq,au,av,aw,ax,ay,uX,uY,uZ,k0]
   ·rw[if_neg k0]
    simp(disch:=omega) only[↓pq,↓pj,ps,pz,↓reduceIte,aj,ak,ap,aq,au,av,aw,ax,ay,uX,uY,uZ,k0,as7 s A true fr h hn ha]
    refine(jc (beyond s A true fr) (λj P=>[ii j,.l ((km (aC s ae fr) ae fr P).map aB),.l ((beyond s A true fr).map aZ)]) (λP w=>P++[w]) (λP=>some [T.l ((km (aC s ae fr) ae fr P).map aB)]) P (λ_ _=>True) rfl (dR (by omega)) trivial ?_ ?_).trans (by rw[Oe])
    ·intro j P hj _
     refine⟨trivial,λq=>?_⟩
     have hm:=(On (kO (l:=beyond s A true fr) (n:=(j:Int)) (by omega) hj)).1
     generalize hw:gt (beyond s A true fr) (j:Int)=w at hm
     have hTl:=Oq (aC s ae fr) ae fr P
     have hk:=NO (km (aC s ae fr) ae fr P) ae 2 fr w.to (ii 0) (.l []) (ii w.cost) (bb false) (by omega)
     rw[show eF (λx=>dP x ⟨ae,2,fr,w.to,0,[],0,false⟩) (km (aC s ae fr) ae fr P)=bG (km (aC s ae fr) ae fr P) (qh ae fr w) from rfl]at hk
     have hp:=GC (km (aC s ae fr) ae fr P) ae 2 fr w.to 0 [] w.cost false (by omega) (abu _ _ _ _) (Ou _ _ _ _) (by simp)
     rw[show(⟨ae,2,fr,w.to,0,[],w.cost,false⟩:ah)=qh ae fr w from rfl]at hp
     rw[List.map_nil]at hp
     have hT:=hT w.to
     by_cases k1:ez (aC s ae fr) w.to<0
     ·rw[if_pos k1]at hT
      by_cases k2:w.to=fr
      ·rw[P8 (.inl (by unfold uy;simp[k2]))]
       rw[k2]at hT
       simp(disch:=omega) only[↓pq,↓pj,ps,pz,↓reduceIte,aj,ak,ap,aq,au,av,aw,ax,ay,uX,uY,uZ,hj,hw,hT,k2,dS]
      ·have ht:uy (aC s ae fr) fr w.to=true:=by unfold uy;simp[k1,k2]
       have jx:=aby (ae:=ae) (W:=P) hm ht
       cases ho:c9 P w.to with
       |none=>
        rw[abv hm ht ho]
        have jx:=jx.2 ho
        simp(disch:=omega) only[↓pq,↓pj,ps,pz,↓reduceIte,aj,ak,ap,aq,au,av,aw,ax,ay,uX,uY,uZ,hj,hw,hT,k2,dS,hk,jx,hp]
       |some v=>
        rw[P8 (.inr (by rw[ho];rfl))]
        have jx:¬bG (km (aC s ae fr) ae fr P) (qh ae fr w)<0:=λh=>by rw[jx.1 h]at ho;cases ho
        simp(disch:=omega) only[↓pq,↓pj,ps,pz,↓reduceIte,aj,ak,ap,aq,au,av,aw,ax,ay,uX,uY,uZ,hj,hw,hT,k2,dS,hk,jx]
     ·rw[if_neg k1]at hT
      simp only[aZ,List.cons_append,List.nil_append]at hT
      rw[P8 (.inl (by unfold uy;simp[k1]))]
      simp(disch:=omega) only[↓pq,↓pj,ps,pz,↓reduceIte,aj,ak,ap,aq,au,av,aw,ax,ay,uX,uY,uZ,hj,hw,hT]
    ·intro P q _
     simp(disch:=omega) only[↓pq,↓pj,ps,pz,↓reduceIte,aj,ak,ap,aq,au,av,aw,ax,ay,uX,uY,uZ,]
 ·rw[KY,List.nil_append,if_pos (by have:=List.length_filter_le (λa=>!(a==ae)) A;omega)]
  rfl
theorem ats{s:List ah}(hs:dX s=false)(A:List Int)(fr ae:Int):cA s A fr ae=[]:=by
 have hw:∀a,aC s a fr=[]:=λa=>by unfold aC;rw[if_neg (by rw[hs];simp)]
 have h1:∀A,qg s A fr=[]:=λA=>by unfold qg;rw[List.flatMap_eq_nil_iff];intro a _;exact hw a
 have h2:∀A,within s A fr=[]:=λA=>by unfold within;rw[h1];rfl
 have h3:beyond s A true fr=[]:=by
  unfold beyond
  have:Di s A true fr=[]:=by
   unfold Di
   rw[List.filterMap_eq_nil_iff]
   intro x hx
   cases e:hX s A true fr x with
   |none=>rfl
   |some w=>
    obtain⟨_,y,hy,_⟩:=P6 e
    have:=(G8 hy).2.2.2.2
    rw[hs]at this;cases this
  rw[this];rfl
 unfold cA Hc
 rw[h2,h3]
 have:(if ae=0 then([]:List Way)else [])=[]:=by split<;>rfl
 rw[this]
 exact abx _ _ _
theorem Ov{W:List Way}(hl:W.length<=1048576)(hW:∀w∈W,w.aG.length<=1048576)(k:Int):zy [.l (W.map aZ),ii k]=some (match c9 W k with|none=>[ii 0,ii 0,.l [],bb false]|some w=>aZ w++[bb true]):=by
 rw[GJ W k hl hW]
 unfold c9
 split<;>rfl
theorem att(s:List ah)(A:List Int)(fr ae:Int)(h:s.length<=1048576)(hn:bm s)(ha:A.length<=1048576):WD [.l (s.map aB),.l (A.map aD),ii fr,ii ae]=some [.l ((cA s A fr ae).map aB)]:=by
 rw[apS];simp(disch:=omega) only[↓pq,↓pj,ps,pz,↓reduceIte,aj,ak,ap,aq,au,av,aw,ax,ay,xa,xb,MJ,Gv _ h hn]
 cases hs:dX s with
 |false=>rw[ats hs];simp(disch:=omega) only[↓pq,↓pj,ps,pz,↓reduceIte,aj,ak,ap,aq,au,av,aw,ax,ay,xa,xb,dS];rfl
 |true=>
 simp(disch:=omega) only[↓pq,↓pj,ps,pz,↓reduceIte,aj,ak,ap,aq,au,av,aw,ax,ay,xa,xb,]
 refine(jc A (λj c=>[.l (c.map aD),ii j]) (λc a=>if(!(a==ae))=true then c++[a]else c) (λc=>if c.length<=1048576 then some [T.l ((km (aC s ae fr) ae fr (within s c fr++if ae=0 then []else beyond s A true fr)).map aB)]else none) [] (λj c=>c.length<=j) rfl (dR ha) (by simp) ?_ ?_).trans ?_
 ·intro j c hj hc
  refine⟨by split;(· simp;omega);(· omega),λq=>?_⟩
  by_cases k:gt A j=ae
  ·have:(!(gt A j==ae))=false:=by simpa using k
   rw[this]
   simp(disch:=omega) only[↓pq,↓pj,ps,pz,↓reduceIte,aj,ak,ap,aq,au,av,aw,ax,ay,xa,xb,hj,k,dS]
  ·have:(!(gt A j==ae))=true:=by simpa using k
   rw[this]
   simp(disch:=omega) only[↓pq,↓pj,ps,pz,↓reduceIte,aj,ak,ap,aq,au,av,aw,ax,ay,xa,xb,hj,k]
 ·intro c q hc
  rw[if_pos (by omega)]
  have hWl:=G9 (s:=s) (A:=c) (fr:=fr)
  have hBl:=abn (s:=s) (A:=A) (z:=true) (fr:=fr)
  have hT:=λk:Int=>Ov (W:=aC s ae fr) (by have:=Ol (s:=s) (a:=ae) (fr:=fr);omega) Oj k
  have hU:=λk:Int=>Ov (W:=within s c fr) (by omega) Oi k
  have hV:=λk:Int=>Ov (W:=beyond s A true fr) (by omega) (λw hw=>by have:=sm (On hw).2.1;omega) k
  simp(disch:=omega) only[↓pq,↓pj,ps,pz,↓reduceIte,aj,ak,ap,aq,au,av,aw,ax,ay,xa,xb,N9 s ae fr h hn,abe s c fr h hn (by omega),atd s A true fr h hn ha]
  refine(ud 6 (λi D=>[.l (D.map aB),ii (i+1)]) (λD i=>D++(y9 (aC s ae fr) ae fr (within s c fr++if ae=0 then []else beyond s A true fr) ((i:Int)+1)).toList) (λD=>some [T.l (D.map aB)]) [] (λi D=>D.length<=i) rfl (dR (by omega)) (by simp) ?_ ?_).trans ?_
  ·intro i D hi hD
   have dl:(i:Int)+1<=6:=by omega
   have hT:=hT ((i:Int)+1)
   have hU:=hU ((i:Int)+1)
   have hV:=hV ((i:Int)+1)
   refine⟨by cases y9 (aC s ae fr) ae fr (within s c fr++if ae=0 then []else beyond s A true fr) ((i:Int)+1)<;>simp<;>omega,λq=>?_⟩
   have ml:∀c:Int,Prim.ev (.lit 8 [true,true,true,true,true,false,true,true]) [ii ae,ii 2,ii fr,ii ((i:Int)+1),ii 0,.l [],ii c,bb false]=some (.l ([(⟨ae,2,fr,(i:Int)+1,0,[],c,false⟩:ah)].map aB)):=λc=>Un ae 2 fr ((i:Int)+1) 0 [] c false
   unfold y9 uy
   have hz:(c9 (aC s ae fr) ((i:Int)+1)).isSome=true↔¬ez (aC s ae fr) ((i:Int)+1)<0:=atq _ _
   cases hh:c9 (aC s ae fr) ((i:Int)+1)with
   |some w=>
    rw[hh]at hT hz
    have k1:¬ez (aC s ae fr) ((i:Int)+1)<0:=hz.1 rfl
    simp only[aZ,List.cons_append,List.nil_append]at hT
    rw[if_neg (by simp[k1])]
    simp(disch:=omega) only[↓pq,↓pj,ps,pz,↓reduceIte,aj,ak,ap,aq,au,av,aw,ax,ay,xa,xb,dl,hT,Option.toList_none,List.append_nil]
   |none=>
    rw[hh]at hT hz
    have k1:ez (aC s ae fr) ((i:Int)+1)<0:=by
     rcases Int.lt_or_le (ez (aC s ae fr) ((i:Int)+1)) 0 with h|h
     ·exact h
     ·have:=hz.2 (by omega);cases this
    simp only[]at hT
    by_cases k2:(i:Int)+1=fr
    ·rw[if_neg (by simp[k2])]
     subst k2
     simp(disch:=omega) only[↓pq,↓pj,ps,pz,↓reduceIte,aj,ak,ap,aq,au,av,aw,ax,ay,xa,xb,dl,hT,eq_self,Option.toList_none,List.append_nil,dS]
    rw[if_pos (by simp[k1,k2]),abk]
    cases hu:c9 (within s c fr) ((i:Int)+1)with
    |some w=>
     rw[hu]at hU
     have KB:=(xo hu).2
     simp only[aZ,List.cons_append,List.nil_append]at hU
     rw[Option.some_or]
     simp only[Option.map_some,Option.toList_some,qh,KB]
     simp(disch:=omega) only[↓pq,↓pj,ps,pz,↓reduceIte,aj,ak,ap,aq,au,av,aw,ax,ay,xa,xb,dl,hT,hU,k2,dS,ml]
    |none=>
     rw[hu]at hU
     simp only[]at hU
     rw[Option.none_or]
     by_cases k3:ae=0
     ·rw[if_pos k3]
      subst k3
      rw[show c9 [] ((i:Int)+1)=none from rfl]
      simp(disch:=omega) only[↓pq,↓pj,ps,pz,↓reduceIte,aj,ak,ap,aq,au,av,aw,ax,ay,xa,xb,dl,hT,hU,k2,eq_self,dS,Option.map_none,Option.toList_none,List.append_nil]
     ·rw[if_neg k3]
      cases hv:c9 (beyond s A true fr) ((i:Int)+1)with
      |none=>
       rw[hv]at hV
       simp only[]at hV
       simp(disch:=omega) only[↓pq,↓pj,ps,pz,↓reduceIte,aj,ak,ap,aq,au,av,aw,ax,ay,xa,xb,dl,hT,hU,hV,k2,k3,dS,Option.map_none,Option.toList_none,List.append_nil]
      |some w=>
       rw[hv]at hV
       have KB:=(xo hv).2
       simp only[aZ,List.cons_append,List.nil_append]at hV
       simp only[Option.map_some,Option.toList_some,qh,KB]
       simp(disch:=omega) only[↓pq,↓pj,ps,pz,↓reduceIte,aj,ak,ap,aq,au,av,aw,ax,ay,xa,xb,dl,hT,hU,hV,k2,k3,dS,ml]
  ·intro D q hD
   simp(disch:=omega) only[↓pq,↓pj,ps,pz,↓reduceIte,aj,ak,ap,aq,au,av,aw,ax,ay,xa,xb,]
  ·rw[Od (λi:Nat=>(y9 (aC s ae fr) ae fr (within s c fr++if ae=0 then []else beyond s A true fr) ((i:Int)+1)).toList),List.nil_append,G7]
   unfold km
   rw[Cn,List.filterMap_map]
   rfl
 ·rw[KY,List.nil_append,if_pos (by have:=List.length_filter_le (λa=>!(a==ae)) A;omega)]
  rfl
theorem abz{α:Type} [Inhabited α]{ok:α->Bool}{lt:α->α->Bool}(tr:∀a b c,lt a b=true->lt b c=true->lt a c=true){l:List α}(h:eo ok lt l=true):l.Pairwise λa b=>lt a b=true:=by
 have h:=bQ.1 h
 rw[List.pairwise_iff_getElem]
 have step:∀i,(hi:i+1<l.length)->lt l[i] l[i+1]=true:=by
  intro i hi
  have:=h (i+1) hi
  simp only[bk,Bool.or_eq_true,Bool.not_eq_true',decide_eq_false_iff_not]at this
  have h2:=this.2.resolve_left (by omega)
  rwa[show(((i+1:Nat):Int)-1)=(i:Int) by omega,d_ (by omega),d_ hi]at h2
 intro i j hi hj qM
 obtain⟨d,rfl⟩:∃d,j=i+1+d:=⟨j-i-1,by omega⟩
 clear qM
 induction d with
 |zero=>exact step i (by omega)
 |succ d ih=>exact tr _ _ _ (ih (by omega)) (step (i+1+d) (by omega))
theorem y_{α:Type} [Inhabited α]{ok:α->Bool}{lt:α->α->Bool}{l:List α}(h1:∀x∈l,ok x=true)(h2:l.Pairwise λa b=>lt a b=true):eo ok lt l=true:=by
 unfold eo
 rw[bQ]
 intro i hi
 rw[d_ hi]
 simp only[bk,Bool.or_eq_true,Bool.not_eq_true',decide_eq_false_iff_not]
 refine⟨h1 _ (List.getElem_mem hi),?_⟩
 rcases Nat.eq_zero_or_pos i with h0|h0
 ·exact .inl (by omega)
 ·right
  rw[show((i:Int)-1)=((i-1:Nat):Int) by omega,d_ (by omega)]
  exact List.pairwise_iff_getElem.1 h2 (i-1) i (by omega) hi (by omega)
theorem oq{a b ar:Int}{l:bC}:hZ a b ar l=true↔l.ae=ar∧(l.a=a∧l.b=b∨l.a=b∧l.b=a):=by
 unfold hZ
 simp only[bk,Bool.or_eq_true,beq_iff_eq]
theorem He{α:Type} [Inhabited α]{p:α->Bool}{l:List α}{x:α}(hx:x∈l)(h:p x=true):0<=eF p l:=by
 rcases Int.lt_or_le (eF p l) 0 with h1|h1
 ·have:=(C4 _ _).1 h1 x hx
  rw[h]at this;cases this
 ·exact h1
def abA(ls:List bC)(L:List Bool)(a b ar:Int):Int:=
 if eF (hZ a b ar) ls<0 then 0 else if gt L (eF (hZ a b ar) ls)=true then(gt ls (eF (hZ a b ar) ls)).cost else 0
def atu(ls:List bC)(L U:List Bool)(node a:Int):List cu:=(v9.filter λv=>decide (abA ls L node v a>0)&&gt U (v-1)).map λv=>⟨v,abA ls L node v a⟩
theorem atv{o:Int}{l:List cu}(h1:∀x∈l,(1<=x.to∧x.to<=6)∧x.to≠o∧1<=x.cost∧x.cost<=1000)(h2:l.Pairwise λa b=>a.to<b.to):u0 o l=true:=by
 unfold u0
 rw[bQ]
 intro i hi
 have h3:=h1 _ (List.getElem_mem hi)
 rw[d_ hi]
 simp only[bk,Bool.or_eq_true,Bool.not_eq_true',decide_eq_false_iff_not,aW,decide_eq_true_eq]
 refine⟨⟨⟨h3.1,h3.2.1⟩,h3.2.2⟩,?_⟩
 rcases Nat.eq_zero_or_pos i with h0|h0
 ·exact .inl (by omega)
 ·right
  rw[show((i:Int)-1)=((i-1:Nat):Int) by omega,d_ (by omega)]
  exact List.pairwise_iff_getElem.1 h2 (i-1) i (by omega) hi (by omega)
def rh(r:ah):Bool:=r.kind==3
def pA(k:Nat)(s:List ah):Prop:=iG s∧(∀r∈s,fY r=true)∧(s.filter rh).length<=k
theorem atw{o:Int}{l:List cu}(h:u0 o l=true):l.length<=6:=by
 rw[<-List.length_map (f:=cu.to)]
 refine G_ (n:=6) ?_ ?_
 ·rw[List.pairwise_map]
  exact aa0 h
 ·intro x hx
  obtain⟨y,hy,rfl⟩:=List.mem_map.1 hx
  exact(PY h hy).1
theorem Ow{r:ah}(h:fY r=true):r.bq.length<=6:=by
 unfold fY at h
 simp only[bk]at h
 have h:=h.2
 split at h
 ·simp only[bk]at h
  exact atw h.1.1.2
 ·split at h
  ·simp only[bk,decide_eq_true_eq]at h
   omega
  ·split at h
   ·simp only[bk,decide_eq_true_eq]at h
    omega
   ·cases h
theorem Hf{r:ah}(h:fY r=true):(1<=r.owner∧r.owner<=6)∧(r.kind=1∧r.key=0∧0<=r.ae∧r.ae<=2∨r.kind=2∧(1<=r.key∧r.key<=6)∧0<=r.ae∧r.ae<=2∨r.kind=3):=by
 unfold fY at h
 simp only[bk,aW]at h
 refine⟨h.1.1,?_⟩
 have h:=h.2
 split at h
 ·simp only[bk,aW,decide_eq_true_eq]at h
  omega
 ·split at h
  ·simp only[bk,aW,decide_eq_true_eq]at h
   omega
  ·split at h
   ·omega
   ·cases h
theorem pA.bq{k:Nat}{s:List ah}(h:pA k s):bm s:=λr hr=>by
 have:=Ow (h.2.1 r hr);omega
theorem atx(s:List ah)(h:∀r∈s,r.kind=1∨r.kind=2∨r.kind=3):s.length=(s.filter λr=>r.kind==1).length+(s.filter λr=>r.kind==2).length+(s.filter rh).length:=by
 induction s with
 |nil=>rfl
 |cons x s ih=>
  have ih:=ih λr hr=>h r (.tail _ hr)
  have hx:=h x (.head _)
  simp only[List.filter_cons,List.length_cons,rh]
  rw[ih]
  rcases hx with hx|hx|hx<;>simp[hx,rh]<;>omega
theorem pA.len{k:Nat}{s:List ah}(h:pA k s):s.length<=126+k:=by
 obtain⟨h1,h2,h3⟩:=h
 have hk:=λr hr=>Hf (h2 r hr)
 rw[atx s λr hr=>by have:=hk r hr;omega]
 have a1:(s.filter λr=>r.kind==1).length<=18:=by
  rw[<-List.length_map (f:=λr:ah=>r.ae*6+r.owner)]
  refine G_ (n:=18) ?_ ?_
  ·rw[List.pairwise_map]
   refine(h1.filter _).imp_of_mem λ{a b} ha hb kE=>?_
   obtain⟨ha1,ha2⟩:=List.mem_filter.1 ha
   obtain⟨ma,oF⟩:=List.mem_filter.1 hb
   simp only[beq_iff_eq]at ha2 oF
   have:=hk a ha1
   have:=hk b ma
   rw[pg]at kE
   omega
  ·intro x hx
   obtain⟨r,hr,rfl⟩:=List.mem_map.1 hx
   obtain⟨oE,qE⟩:=List.mem_filter.1 hr
   simp only[beq_iff_eq]at qE
   have:=hk r oE
   omega
 have a2:(s.filter λr=>r.kind==2).length<=108:=by
  rw[<-List.length_map (f:=λr:ah=>(r.ae*6+r.owner-1)*6+r.key)]
  refine G_ (n:=108) ?_ ?_
  ·rw[List.pairwise_map]
   refine(h1.filter _).imp_of_mem λ{a b} ha hb kE=>?_
   obtain⟨ha1,ha2⟩:=List.mem_filter.1 ha
   obtain⟨ma,oF⟩:=List.mem_filter.1 hb
   simp only[beq_iff_eq]at ha2 oF
   have:=hk a ha1
   have:=hk b ma
   rw[pg]at kE
   omega
  ·intro x hx
   obtain⟨r,hr,rfl⟩:=List.mem_map.1 hx
   obtain⟨oE,qE⟩:=List.mem_filter.1 hr
   simp only[beq_iff_eq]at qE
   have:=hk r oE
   omega
 omega
theorem pA.ok{k:Nat}{s:List ah}(h:pA k s)(hk:k<=24):dX s=true:=by
 have:=h.len
 unfold dX
 rw[bk,decide_eq_true_eq]
 exact⟨by omega,y_ h.2.1 h.1⟩
theorem abB(s:List ah)(r:ah)(p:ah->Bool):((dA s r).filter p).length<=(s.filter p).length+(if p r=true then 1 else 0):=by
 have h1:((s.filter λx=>eQ x r).filter p).length+((s.filter λx=>eQ r x).filter p).length<=(s.filter p).length:=by
  induction s with
  |nil=>simp
  |cons x s ih=>
   simp only[List.filter_cons]
   cases h:eQ x r with
   |true=>
    rw[B6 h]
    cases hp:p x<;>simp[hp]<;>simp at ih<;>omega
   |false=>cases h':eQ r x<;>cases hp:p x<;>simp[hp]<;>simp at ih<;>omega
 have h2:([r].filter p).length=if p r=true then 1 else 0:=by
  rw[List.filter_cons]
  split<;>rfl
 unfold dA
 rw[List.filter_append,List.filter_append,List.length_append,List.length_append,h2]
 omega
theorem pA.put{k:Nat}{s:List ah}(h:pA k s){r:ah}(hr:fY r=true):pA (k+if r.kind=3 then 1 else 0) (dA s r):=by
 refine⟨Ii h.1 r,λx hx=>?_,?_⟩
 ·rcases B8 hx with rfl|hx
  ·exact hr
  ·exact h.2.1 x hx
 ·have h1:=abB s r rh
  have h2:=h.2.2
  have h3:(rh r=true)=(r.kind=3):=by unfold rh;simp
  simp only[h3]at h1
  omega
theorem pA.atA{k:Nat}{s:List ah}(h:pA k s){r:ah}(hr:fY r=true)(h3:r.kind≠3):pA k (dA s r):=by
 have:=h.put hr
 rwa[if_neg h3]at this
theorem pA.filter{k:Nat}{s:List ah}(h:pA k s)(p:ah->Bool):pA k (s.filter p):=by
 refine⟨h.1.filter _,λx hx=>h.2.1 x (List.mem_filter.1 hx).1,?_⟩
 rw[List.filter_filter]
 refine Nat.le_trans ?_ h.2.2
 rw[<-List.countP_eq_length_filter,<-List.countP_eq_length_filter]
 exact List.countP_mono_left λx _ hx=>(bk _ _▸hx).1
theorem pA.nil:pA 0 []:=⟨.nil,by simp,by simp⟩
theorem pA.mono{k k':Nat}{s:List ah}(h:pA k s)(hk:k<=k'):pA k' s:=⟨h.1,h.2.1,Nat.le_trans h.2.2 hk⟩
theorem atB{α β σ:Type} [Inhabited α]{F:(σ->Option β)->σ->Option β}{R:Nat}{x:σ}(l:List α)(st:Nat->List α->σ)(p:α->Bool){out:Option β}(hx:x=st 0 [])(hR:l.length<R)
  (step:∀(i:Nat) c,(i:Int)<(l.length:Int)->c.length<=i->∀s,F s (st i c)=s (st (i+1) (if p (gt l i)=true then c++[gt l i]else c)))(fin:∀s,F s (st l.length (l.filter p))=out):
  iter F R x=out:=by
 refine jc l st (λc a=>if p a=true then c++[a]else c) (λ_=>out) [] (λi c=>c=(l.take i).filter p) hx hR rfl ?_ ?_
 ·intro i c hi hc
  have dl:i<l.length:=by omega
  refine⟨?_,λs=>step i c hi (by rw[hc];refine Nat.le_trans (List.length_filter_le _ _) ?_;simp;omega) s⟩
  rw[hc,List.take_add_one,List.filter_append,List.getElem?_eq_getElem dl,d_ dl]
  cases hp:p l[i]<;>simp[hp]
 ·intro c s hc
  rw[hc,List.take_length]
  exact fin s
def gR(r:ah):ah:={r with seq:=1}
def f_(f:ah->ah)(s l:List ah):List ah:=l.foldl (λc r=>dA c (f r)) s
def atC(v:Int)(r:ah):Bool:=!(r.kind==2&&r.owner==v)
def atD(s:List ah)(A:List Int)(v:Int):List ah:=f_ gR (s.filter (atC v)) (A.flatMap λa=>cA s A v a)
theorem jI_(s:List ah)(A:List Int)(fr ae:Int):(cA s A fr ae).length<=6:=Oq _ _ _ _
theorem atE{W:List Way}{k:Int}{w:Way}(h:c9 W k=some w):w∈W:=by
 rw[Cs]at h
 exact List.mem_of_find?_eq_some h
theorem Ox{s:List ah}{A:List Int}{fr ae:Int}{r:ah}(h:r∈cA s A fr ae):r.ae=ae∧r.kind=2∧r.owner=fr∧(1<=r.key∧r.key<=6)∧r.bq=[]∧r.seq=0∧(0<=r.cost∧r.cost<=60000)∧r.gU=false∧r.key≠fr:=by
 unfold cA at h
 obtain⟨h1,h2⟩:=iM.1 h
 obtain⟨_,h3,h4,h5,h6,h7,h8,h9,w,hw,rfl⟩:=P7 h2
 refine⟨h3,h4,h5,h1,h6,h7,?_,h8,?_⟩
 ·have hm:=atE hw
  unfold Hc at hm
  rcases List.mem_append.1 hm with hm|hm
  ·have:=(abm hm).2.2
   show 0<=w.cost∧w.cost<=60000
   omega
  ·split at hm
   ·cases hm
   ·have:=(On hm).2.2.1
    show 0<=w.cost∧w.cost<=60000
    omega
 ·unfold uy at h9
  simp only[bk,decide_eq_true_eq]at h9
  exact h9.2
theorem atF{s:List ah}{A:List Int}{fr ae:Int}(hf:1<=fr∧fr<=6)(ha:0<=ae∧ae<=2){r:ah}(h:r∈cA s A fr ae):fY (gR r)=true∧(gR r).kind≠3:=by
 obtain⟨h1,h2,h3,h4,h5,h6,h7,h8,_⟩:=Ox h
 refine⟨?_,by show r.kind≠3;omega⟩
 unfold fY
 simp only[gR,h1,h2,h3,h5,h8,List.length_nil,bk,aW]
 refine⟨⟨hf,by omega⟩,?_⟩
 simp[aW,ha,h4,h7]
theorem pA.mG{k:Nat}{f:ah->ah}{l:List ah}(hl:∀r∈l,fY (f r)=true∧(f r).kind≠3):∀{s:List ah},pA k s->pA k (f_ f s l):=by
 unfold f_
 induction l with
 |nil=>intro s h;exact h
 |cons x l ih=>
  intro s h
  rw[List.foldl_cons]
  exact ih (λr hr=>hl r (.tail _ hr)) (h.atA (hl x (.head _)).1 (hl x (.head _)).2)
theorem abD{ls:List bC}{v a:Int}(h:a∈lG ls v):0<=a∧a<=2:=ol.1 (List.mem_filter.1 h).1
theorem atG(f:ah->ah)(A:List Int)(g:Int->List ah):∀s,A.foldl (λc a=>f_ f c (g a)) s=f_ f s (A.flatMap g):=by
 induction A with
 |nil=>intro s;rfl
 |cons x A ih=>
  intro s
  rw[List.foldl_cons,ih]
  unfold f_
  rw[List.flatMap_cons,List.foldl_append]
def hY(r:ah):ah:=if r.seq=0 then {r with seq:=1}else r
theorem abE(s l:List ah)(h:s.length+l.length<=1048570)(hs:bm s)(hn:bm l):La [.l (s.map aB),.l (l.map aB)]=some [.l ((f_ hY s l).map aB)]:=by
 rw[apj];simp(disch:=omega) only[↓pq,↓pj,ps,pz,↓reduceIte,aj,ak,ap,aq,au,av,aw,ax,ay,uq_,Ms]
 refine jc l (λi c=>[.l (c.map aB),ii i]) (λc r=>dA c (hY r)) (λc=>some [T.l (c.map aB)]) s (λi c=>c.length<=s.length+i∧bm c) rfl (dR (by omega)) ⟨by simp,hs⟩ ?_ ?_
 ·rintro i c hi ⟨h1,h2⟩
  have nJ:=hn.gt (n:=i) (by omega) hi
  have hz:(hY (gt l (i:Int))).bq.length<=1048576:=by unfold hY;split<;>exact nJ
  refine⟨⟨by have:=GA c (hY (gt l (i:Int)));omega,aaQ h2 hz⟩,λq=>?_⟩
  have hp:=λz=>GD c (gt l (i:Int)).ae (gt l (i:Int)).kind (gt l (i:Int)).owner (gt l (i:Int)).key z (gt l (i:Int)).bq (gt l (i:Int)).cost (gt l (i:Int)).gU (by omega) h2 nJ
  by_cases k:(gt l (i:Int)).seq=0
  ·have e:hY (gt l (i:Int))={gt l (i:Int)with seq:=1}:=by unfold hY;rw[if_pos k]
   rw[e]
   simp(disch:=omega) only[↓pq,↓pj,ps,pz,↓reduceIte,aj,ak,ap,aq,au,av,aw,ax,ay,uq_,hi,k,hp]
  ·have e:hY (gt l (i:Int))=gt l (i:Int):=by unfold hY;rw[if_neg k]
   rw[e]
   simp(disch:=omega) only[↓pq,↓pj,ps,pz,↓reduceIte,aj,ak,ap,aq,au,av,aw,ax,ay,uq_,hi,k,hp]
 ·rintro c q hc
  simp(disch:=omega) only[↓pq,↓pj,ps,pz,↓reduceIte,aj,ak,ap,aq,au,av,aw,ax,ay,uq_,]
theorem atH{f g:ah->ah}{l:List ah}(h:∀r∈l,f r=g r):∀s,f_ f s l=f_ g s l:=by
 unfold f_
 induction l with
 |nil=>intro s;rfl
 |cons x l ih=>
  intro s
  rw[List.foldl_cons,List.foldl_cons,h x (.head _)]
  exact ih (λr hr=>h r (.tail _ hr)) _
theorem Oy(A:List Int)(g:Int->List ah)(hg:∀a,(g a).length<=6):(A.flatMap g).length<=6*A.length:=by
 induction A with
 |nil=>simp
 |cons x A ih=>
  have:=hg x
  rw[List.flatMap_cons,List.length_append,List.length_cons]
  omega
def atI(ls:List bC)(L U:List Bool)(v a:Int):ah:=⟨a,1,v,0,1,atu ls L U v a,0,false⟩
def atJ(t:b_):ah:=⟨9,3,t.owner,t.key,1,[],t.cost,t.gU⟩
theorem atK{n:Int}{ts:List b_}(h:eo (vZ n) sj ts=true){t:b_}(ht:t∈ts):(1<=t.owner∧t.owner<=n)∧(1<=t.key∧t.key<=9)∧(1<=t.cost∧t.cost<=1000):=by
 obtain⟨i,hi,rfl⟩:=List.mem_iff_getElem.1 ht
 have:=bQ.1 h i hi
 rw[d_ hi]at this
 simp only[bk,vZ,aW]at this
 omega
def atL(ls:List bC)(L U:List Bool)(c:List ah)(i:Nat):List ah:=
 if gt U ((i:Int)+1-1)=true then(lG ls ((i:Int)+1)).foldl (λc a=>dA c (atI ls L U ((i:Int)+1) a)) c else c
def atM(U:List Bool)(c:List ah)(t:b_):List ah:=if gt U (t.owner-1)=true then dA c (atJ t)else c
def atN(ls:List bC)(U:List Bool)(c:List ah)(i:Nat):List ah:=
 if gt U ((i:Int)+1-1)=true then(if Dj ls ((i:Int)+1)=true then atD c (lG ls ((i:Int)+1)) ((i:Int)+1)else c)else c
def atO(n:Int)(ls:List bC)(U:List Bool)(c:List ah)(_:Nat):List ah:=(List.range n.toNat).foldl (atN ls U) c
def aDx(x:Net)(L U:List Bool):List ah:=(List.range 3).foldl (atO x.n x.aF U) (x.aN.foldl (atM U) ((List.range x.n.toNat).foldl (atL x.aF L U) []))
theorem wh{x:Net}(h:xh x=true):(1<=x.n∧x.n<=6)∧x.aF.length<=12∧x.aN.length<=4∧eo (mT x.n) mf x.aF=true∧eo (vZ x.n) sj x.aN=true:=by
 unfold xh at h
 simp only[bk,decide_eq_true_eq,aW]at h
 exact⟨h.1.1.1.1,h.1.1.1.2,h.1.1.2,h.1.2,h.2⟩
section
variable {n:Int} {ls:List bC} {L U:List Bool} (h:eo (mT n) mf ls=true) (hn:n<=6)
include h hn
end
theorem atP{s s':List ah}{ar:Int}(h:∀u v,dE s ar u v=dE s' ar u v)(fr a:Int):mF s ar fr a=mF s' ar fr a:=by
 funext W i
 unfold mF
 rw[h]
theorem abF{s s':List ah}{ar:Int}(h:∀u v,dE s ar u v=dE s' ar u v)(fr:Int):∀k W D,sX s ar fr k W D=sX s' ar fr k W D
 |0,_,_=>rfl
 |k+1,W,D=>by
  unfold sX
  have e:pw s ar fr (dW W D) W=pw s' ar fr (dW W D) W:=by unfold pw;rw[atP h]
  rw[e,abF h fr k]
theorem atQ{s s':List ah}{ar fr:Int}(h:∀u v,dE s ar u v=dE s' ar u v)(hs:dX s=dX s')(hn:0<=iH s ar fr↔0<=iH s' ar fr):aC s ar fr=aC s' ar fr:=by
 unfold aC
 rw[hs,abF h]
 by_cases h0:0<=iH s ar fr
 ·have:=hn.1 h0
  simp[h0,this]
 ·have:¬0<=iH s' ar fr:=λhc=>h0 (hn.2 hc)
  simp[h0,this]
theorem atR{s:List ah}(hs:iG s){r:ah}(hr:r∈s){ar v:Int}(h:dP r ⟨ar,1,v,0,0,[],0,false⟩=true):0<=iH s ar v∧gt s (iH s ar v)=r:=by
 have h0:0<=iH s ar v:=He hr h
 refine⟨h0,?_⟩
 have h1:=Im s ar v
 have h2:dP (gt s (iH s ar v)) ⟨ar,1,v,0,0,[],0,false⟩=true:=uc _ _ h0
 have hm:=kO (l:=s) (n:=iH s ar v) h0 h1
 generalize gt s (iH s ar v)=x at h2 hm
 rw[sameKey_iff]at h h2
 obtain⟨i,hi,rfl⟩:=List.mem_iff_getElem.1 hr
 obtain⟨j,hj,rfl⟩:=List.mem_iff_getElem.1 hm
 rcases Nat.lt_trichotomy i j with qM|qM|qM
 ·have:=List.pairwise_iff_getElem.1 hs i j hi hj qM
  rw[pg]at this
  simp only at h h2
  omega
 ·subst qM;rfl
 ·have:=List.pairwise_iff_getElem.1 hs j i hj hi qM
  rw[pg]at this
  simp only at h h2
  omega
structure Cu (A:List Int) (s s':List ah):Prop where
 so:iG s
 sub:∀r∈s',r∈s
 so':iG s'
 aY:∀r∈s,r∉s'->r.kind=1∧A.contains r.ae=false
theorem Cu.node{A:List Int}{s s':List ah}(h:Cu A s s'){ar:Int}(ha:A.contains ar=true)(v:Int):(0<=iH s ar v↔0<=iH s' ar v)∧rf s ar v=rf s' ar v:=by
 by_cases h0:0<=iH s' ar v
 ·have hm:=kO (l:=s') (n:=iH s' ar v) h0 (Im s' ar v)
  obtain⟨h1,h2⟩:=atR h.so (h.sub _ hm) (uc _ _ h0)
  refine⟨⟨λ_=>h0,λ_=>h1⟩,?_⟩
  unfold rf
  rw[if_neg (by omega),if_neg (by omega),h2]
 ·have h1:¬0<=iH s ar v:=by
   intro hc
   have hm:=kO (l:=s) (n:=iH s ar v) hc (Im s ar v)
   have hk:dP (gt s (iH s ar v)) ⟨ar,1,v,0,0,[],0,false⟩=true:=uc _ _ hc
   by_cases jl:gt s (iH s ar v)∈s'
   ·exact h0 (He jl hk)
   ·have:=(h.aY _ hm jl).2
    rw[sameKey_iff]at hk
    simp only at hk
    rw[hk.1,ha]at this
    cases this
  refine⟨⟨λhc=>absurd hc h1,λhc=>absurd hc h0⟩,?_⟩
  unfold rf
  rw[if_pos (by omega),if_pos (by omega)]
theorem Cu.aC{A:List Int}{s s':List ah}(h:Cu A s s')(hs:dX s=dX s'){ar:Int}(ha:A.contains ar=true)(fr:Int):Go.Proofs.YtjimmglpkndemaaGreatC.aC s ar fr=Go.Proofs.YtjimmglpkndemaaGreatC.aC s' ar fr:=by
 refine atQ (λu v=>?_) hs (h.node ha fr).1
 unfold dE qN
 rw[(h.node ha u).2,(h.node ha v).2]
theorem abG{α β:Type}{l:List α}{f g:α->List β}(h:∀a∈l,f a=g a):l.flatMap f=l.flatMap g:=by
 induction l with
 |nil=>rfl
 |cons x l ih=>rw[List.flatMap_cons,List.flatMap_cons,h x (.head _),ih λa ha=>h a (.tail _ ha)]
theorem atT{α β:Type}{l:List α}{f g:α->Option β}(h:∀a∈l,f a=g a):l.filterMap f=l.filterMap g:=by
 induction l with
 |nil=>rfl
 |cons x l ih=>rw[List.filterMap_cons,List.filterMap_cons,h x (.head _),ih λa ha=>h a (.tail _ ha)]
theorem Cu.within{A:List Int}{s s':List ah}(h:Cu A s s')(hs:dX s=dX s'){B:List Int}(hB:∀a∈B,A.contains a=true)(fr:Int):Go.Proofs.YtjimmglpkndemaaGreatC.within s B fr=Go.Proofs.YtjimmglpkndemaaGreatC.within s' B fr:=by
 unfold Go.Proofs.YtjimmglpkndemaaGreatC.within qg
 rw[abG λa ha=>h.aC hs (hB a ha) fr]
theorem atU{s s':List ah}(h:iG s)(h':iG s')(kX:∀r∈s',r∈s):s'=s.filter λr=>@decide (r∈s') (Classical.propDecidable _):=by
 have key:∀{a b:List ah},iG a->iG b->(∀x,x∈a↔x∈b)->a=b:=by
  intro a
  induction a with
  |nil=>
   intro b _ _ hm
   cases b with
   |nil=>rfl
   |cons y b=>exact absurd ((hm y).2 (.head _)) (by simp)
  |cons x a ih=>
   intro b ha hb hm
   cases b with
   |nil=>exact absurd ((hm x).1 (.head _)) (by simp)
   |cons y b=>
    have pa:=List.pairwise_cons.1 ha
    have pb:=List.pairwise_cons.1 hb
    have e:x=y:=by
     rcases List.mem_cons.1 ((hm x).1 (.head _))with e|hx
     ·exact e
     ·rcases List.mem_cons.1 ((hm y).2 (.head _))with e|hy
      ·exact e.symm
      ·have h1:=pb.1 x hx
       have h2:=pa.1 y hy
       rw[B6 h1]at h2;cases h2
    subst e
    congr 1
    refine ih pa.2 pb.2 λz=>⟨λhz=>?_,λhz=>?_⟩
    ·rcases List.mem_cons.1 ((hm z).1 (.tail _ hz))with e|O2
     ·have:=pa.1 z hz
      rw[e,Gz]at this;cases this
     ·exact O2
    ·rcases List.mem_cons.1 ((hm z).2 (.tail _ hz))with e|O2
     ·have:=pb.1 z hz
      rw[e,Gz]at this;cases this
     ·exact O2
 refine key h' (h.filter _) λr=>?_
 rw[List.mem_filter,@decide_eq_true_eq _ (Classical.propDecidable _)]
 exact⟨λhr=>⟨kX r hr,hr⟩,λhr=>hr.2⟩
theorem Cu.beyond{A:List Int}{s s':List ah}(h:Cu A s s')(hs:dX s=dX s')(z:Bool)(fr:Int):Go.Proofs.YtjimmglpkndemaaGreatC.beyond s A z fr=Go.Proofs.YtjimmglpkndemaaGreatC.beyond s' A z fr:=by
 have hw:=h.within hs (B:=A) (λa ha=>List.contains_iff_mem.2 ha) fr
 have e1:∀x,hX s A z fr x=hX s' A z fr x:=by
  intro x
  unfold hX
  rw[hw]
  by_cases hc:x.kind=2∧x.cost<60000∧x.owner≠fr∧A.contains x.ae=true∧(z=true->x.ae=0)∧ez (Go.Proofs.YtjimmglpkndemaaGreatC.within s' A fr) x.key<0
  ·rw[if_pos hc,if_pos hc,h.aC hs hc.2.2.2.1]
  ·rw[if_neg hc,if_neg hc]
 unfold Go.Proofs.YtjimmglpkndemaaGreatC.beyond Di
 rw[show hX s A z fr=hX s' A z fr from funext e1]
 congr 1
 rw[atU h.so h.so' h.sub,List.filterMap_filter]
 refine atT λx hx=>?_
 by_cases jl:x∈s'
 ·rw[if_pos (by rw[@decide_eq_true_eq _ (Classical.propDecidable _)];exact jl)]
 ·rw[if_neg (by rw[@decide_eq_true_eq _ (Classical.propDecidable _)];exact jl)]
  unfold hX
  rw[if_neg λhc=>by have:=(h.aY x hx jl).1;omega]
theorem Cu.cA{A:List Int}{s s':List ah}(h:Cu A s s')(hs:dX s=dX s'){ae:Int}(ha:A.contains ae=true)(fr:Int):Go.Proofs.YtjimmglpkndemaaGreatC.cA s A fr ae=Go.Proofs.YtjimmglpkndemaaGreatC.cA s' A fr ae:=by
 unfold Go.Proofs.YtjimmglpkndemaaGreatC.cA Hc
 rw[h.aC hs ha,h.beyond hs,h.within (B:=abw A ae) hs λa ha=>List.contains_iff_mem.2 (List.mem_filter.1 ha).1]
theorem pB{x:Self}(h:kK x=true):xh x.net=true∧(1<=x.id∧x.id<=x.net.n)∧(0<=x.bf∧x.bf<=90)∧x.heard.length%2=0∧yS (λv a=>decide (0<=eF (hZ x.id v a) x.net.aF)) x.heard=true∧dX x.store=true:=by
 unfold kK at h
 simp only[bk,aW,decide_eq_true_eq]at h
 exact⟨h.1,h.2.1,h.2.2.1,h.2.2.2.1.1,h.2.2.2.1.2,h.2.2.2.2⟩
def za(ls:List bC)(id:Int)(hd:List Int)(a:Int):List cu:=
 ((List.range (hd.length/2)).filter λk:Nat=>decide (gt hd (2*(k:Int)+1)=a)).map λk:Nat=>⟨gt hd (2*(k:Int)),nG ls id (gt hd (2*(k:Int))) a⟩
def u_(ls:List bC)(id:Int)(hd:List Int)(a:Int):ah:=⟨a,1,id,0,0,za ls id hd a,0,false⟩
def fv(x:Self):List ah:=(lG x.net.aF x.id).map (u_ x.net.aF x.id x.heard)
def wi(id:Int)(r:ah):Bool:=!(r.kind==1&&r.owner==id)
def qP(s:List ah)(id:Int)(l:List ah):List ah:=f_ gR (s.filter (wi id)) l
def qi(id:Int)(t:b_):ah:=⟨9,3,id,t.key,0,[],t.cost,t.gU⟩
def Hg(x:Self):List ah:=(x.net.aN.filter λt=>t.owner==x.id).map (qi x.id)
def ot(x:Self)(S:List ah):List ah:=if Dj x.net.aF x.id=true then(lG x.net.aF x.id).flatMap λa=>cA S (lG x.net.aF x.id) x.id a else []
def same(r:ah):ah:=r
def mH(x:Self)(S:List ah):List ah:=f_ same [] (fv x++ot x S++Hg x)
theorem abH(f:ah->ah)(s a b:List ah):f_ f s (a++b)=f_ f (f_ f s a) b:=by
 unfold f_;rw[List.foldl_append]
theorem Hh(x:Self):(fv x).length<=3:=by unfold fv;rw[List.length_map];exact Oo _ _
theorem atV(x:Self)(S:List ah):(ot x S).length<=18:=by
 unfold ot
 split
 ·have:=Oy (lG x.net.aF x.id) (λa=>cA S (lG x.net.aF x.id) x.id a) λa=>jI_ _ _ _ _
  have:=Oo x.net.aF x.id
  omega
 ·simp
theorem abI(x:Self):(Hg x).length<=x.net.aN.length:=by unfold Hg;rw[List.length_map];exact List.length_filter_le _ _
theorem atW(ls:List bC)(id:Int)(hd:List Int)(a:Int):(za ls id hd a).length<=hd.length:=by
 unfold za
 rw[List.length_map]
 refine Nat.le_trans (List.length_filter_le _ _) ?_
 rw[List.length_range];omega
structure Fit (k:Nat) (s:List ah):Prop where
 so:iG s
 bq:bm s
 len:s.length<=k
theorem Fit.nil:Fit 0 []:=⟨.nil,λr hr=>(by cases hr),Nat.le_refl _⟩
theorem Fit.mono{k k':Nat}{s:List ah}(h:Fit k s)(hk:k<=k'):Fit k' s:=⟨h.so,h.bq,Nat.le_trans h.len hk⟩
theorem Fit.put{k:Nat}{s:List ah}(h:Fit k s){r:ah}(hr:r.bq.length<=1048576):Fit (k+1) (dA s r):=⟨Ii h.so r,aaQ h.bq hr,asp (by have:=h.len;omega)⟩
theorem Fit.mG{f:ah->ah}{l:List ah}(hl:∀r∈l,(f r).bq.length<=1048576):∀{k:Nat} {s:List ah},Fit k s->Fit (k+l.length) (f_ f s l):=by
 unfold f_
 induction l with
 |nil=>intro k s h;exact h
 |cons x l ih=>
  intro k s h
  rw[List.foldl_cons,List.length_cons]
  exact(ih (λr hr=>hl r (.tail _ hr)) (h.put (hl x (.head _)))).mono (by omega)
theorem Fit.filter{k:Nat}{s:List ah}(h:Fit k s)(p:ah->Bool):Fit k (s.filter p):=⟨h.so.filter _,λr hr=>h.bq r (List.mem_filter.1 hr).1,Nat.le_trans (List.length_filter_le _ _) h.len⟩
theorem abJ(ls:List bC)(id:Int)(hd:List Int)(a:Int):
  (List.range (hd.length/2)).foldl (λ(d:List cu) (k:Nat)=>if decide (gt hd (2*(k:Int)+1)=a)=true then d++[(⟨gt hd (2*(k:Int)),nG ls id (gt hd (2*(k:Int))) a⟩:cu)]else d) []=za ls id hd a:=by
 rw[KV (λk:Nat=>decide (gt hd (2*(k:Int)+1)=a)) (λk:Nat=>(⟨gt hd (2*(k:Int)),nG ls id (gt hd (2*(k:Int))) a⟩:cu)),List.nil_append]
 rfl
theorem atX(id bf n:Int)(ls:List bC)(ts t6:T)(hd:List Int)(hA:eo (mT n) mf ls=true)(hl:ls.length<=12)(h1:hd.length%2=0)(h2:hd.length<=1048576):
  BH [ii id,ii bf,ii n,.l (ls.map dC),ts,.l (hd.map aD),t6]=some [.l (((lG ls id).map (u_ ls id hd)).map aB)]:=by
 have Ir:=Oo ls id
 rw[aq2];simp(disch:=omega) only[↓pq,↓pj,ps,pz,↓reduceIte,aj,ak,ap,aq,au,av,aw,ax,ay,Nf,Ng,Nh,Ha _ _ _ _ _ hA hl]
 generalize lG ls id=A at Ir
 refine(jc A (λj c=>[.l (c.map aB),ii j]) (λc a=>c++[u_ ls id hd a]) (λc=>some [T.l (c.map aB)]) [] (λj c=>c.length<=j) rfl (dR (by omega)) (by simp) ?_ ?_).trans (by rw[foldl_map,List.nil_append])
 ·intro j c hj hc
  refine⟨by simp;omega,λq=>?_⟩
  simp(disch:=omega) only[↓pq,↓pj,ps,pz,↓reduceIte,aj,ak,ap,aq,au,av,aw,ax,ay,Nf,Ng,hj]
  unfold u_
  rw[<-abJ]
  refine ud (hd.length/2) (λk d=>[ii (2*k),.l (d.map fH)]) (λ(d:List cu) (k:Nat)=>if decide (gt hd (2*(k:Int)+1)=gt A (j:Int))=true then d++[(⟨gt hd (2*(k:Int)),nG ls id (gt hd (2*(k:Int))) (gt A (j:Int))⟩:cu)]else d) (λd=>q [.l ((c++[(⟨gt A (j:Int),1,id,0,0,d,0,false⟩:ah)]).map aB),ii ((j:Int)+1)]) [] (λk d=>d.length<=k) rfl (dR (by omega)) (by simp) ?_ ?_
  ·intro k d hk jB
   refine⟨by split;(· simp;omega);(· omega),λs=>?_⟩
   have be:2*(k:Int)<hd.length:=by omega
   have m8:2*(k:Int)+1<hd.length:=by omega
   by_cases e:gt hd (2*(k:Int)+1)=gt A (j:Int)
   ·simp(disch:=omega) only[↓pq,↓pj,ps,pz,↓reduceIte,aj,ak,ap,aq,au,av,aw,ax,ay,Nf,Ng,be,m8,e,ar6 _ _ _ _ _ _ (show ls.length<=1048576 by omega),decide_true,Int.mul_add]
   ·simp(disch:=omega) only[↓pq,↓pj,ps,pz,↓reduceIte,aj,ak,ap,aq,au,av,aw,ax,ay,Nf,Ng,be,m8,e,decide_false,dS,Int.mul_add]
  ·intro d s jB
   have be:¬(2*((hd.length/2:Nat):Int)<hd.length):=by omega
   simp(disch:=omega) only[↓pq,↓pj,ps,pz,↓reduceIte,aj,ak,ap,aq,au,av,aw,ax,ay,Nf,Ng,be]
 ·intro c q hc
  simp(disch:=omega) only[↓pq,↓pj,ps,pz,↓reduceIte,aj,ak,ap,aq,au,av,aw,ax,ay,Nf,Ng,]
theorem atY(id bf n:Int)(ls:List bC)(ts t6:T)(hd:List Int)(a:Int)(hl:ls.length<=12)(h1:hd.length%2=0)(h2:hd.length<=1048576):
  VN [ii id,ii bf,ii n,.l (ls.map dC),ts,.l (hd.map aD),t6,ii a]=some (aB (u_ ls id hd a)):=by
 rw[apd];simp(disch:=omega) only[↓pq,↓pj,ps,pz,↓reduceIte,aj,ak,ap,aq,au,av,aw,ax,ay,ur_,Mp]
 unfold u_
 rw[<-abJ]
 refine ud (hd.length/2) (λk d=>[ii (2*k),.l (d.map fH)]) (λ(d:List cu) (k:Nat)=>if decide (gt hd (2*(k:Int)+1)=a)=true then d++[(⟨gt hd (2*(k:Int)),nG ls id (gt hd (2*(k:Int))) a⟩:cu)]else d) (λd=>some (aB (⟨a,1,id,0,0,d,0,false⟩:ah))) [] (λk d=>d.length<=k) rfl (dR (by omega)) (by simp) ?_ ?_
 ·intro k d hk jB
  refine⟨by split;(· simp;omega);(· omega),λs=>?_⟩
  have be:2*(k:Int)<hd.length:=by omega
  have m8:2*(k:Int)+1<hd.length:=by omega
  by_cases e:gt hd (2*(k:Int)+1)=a
  ·simp(disch:=omega) only[↓pq,↓pj,ps,pz,↓reduceIte,aj,ak,ap,aq,au,av,aw,ax,ay,ur_,be,m8,e,kY_ _ _ _ _ _ _ (show ls.length<=1048576 by omega),decide_true,Int.mul_add]
  ·simp(disch:=omega) only[↓pq,↓pj,ps,pz,↓reduceIte,aj,ak,ap,aq,au,av,aw,ax,ay,ur_,be,m8,e,decide_false,dS,Int.mul_add]
 ·intro d s jB
  have be:¬(2*((hd.length/2:Nat):Int)<hd.length):=by omega
  simp(disch:=omega) only[↓pq,↓pj,ps,pz,↓reduceIte,aj,ak,ap,aq,au,av,aw,ax,ay,ur_,be]
  rfl
theorem atZ(s:List ah)(id:Int)(l:List ah){k:Nat}(hs:Fit k s)(hk:k+l.length<=1048570)(hn:bm l):
  BJ [.l (s.map aB),ii id,.l (l.map aB)]=some [.l ((qP s id l).map aB)]:=by
 have zq:=hs.len
 rw[ara];simp(disch:=omega) only[↓pq,↓pj,ps,pz,↓reduceIte,aj,ak,ap,aq,au,av,aw,ax,ay,PT,PU,Nn]
 refine atB s (λi c=>[.l (c.map aB),ii i]) (wi id) rfl (dR (by omega)) ?_ ?_
 ·intro i c hi hc q
  have:=hs.bq.gt (n:=i) (by omega) hi
  unfold wi
  simp(disch:=omega) only[↓pq,↓pj,ps,pz,↓reduceIte,aj,ak,ap,aq,au,av,aw,ax,ay,PT,PU,hi]
  by_cases k1:(gt s (i:Int)).kind=1
  ·by_cases k2:(gt s (i:Int)).owner=id
   ·simp[k1,k2]
   ·simp[k1,k2]
  ·simp[k1]
 ·intro q
  simp(disch:=omega) only[↓pq,↓pj,ps,pz,↓reduceIte,aj,ak,ap,aq,au,av,aw,ax,ay,PT,PU,]
  refine jc l (λi c=>[.l (c.map aB),ii i]) (λc r=>dA c (gR r)) (λc=>some [T.l (c.map aB)]) (s.filter (wi id)) (λi c=>Fit (k+i) c) rfl (dR (by omega)) (hs.filter _) ?_ ?_
  ·intro i d hi hd
   have nJ:=hn.gt (n:=i) (by omega) hi
   refine⟨hd.put nJ,λq=>?_⟩
   have D7:=hd.len
   have hp:=GC d (gt l (i:Int)).ae (gt l (i:Int)).kind (gt l (i:Int)).owner (gt l (i:Int)).key 1 (gt l (i:Int)).bq (gt l (i:Int)).cost (gt l (i:Int)).gU (by omega) hd.bq hd.so nJ
   simp(disch:=omega) only[↓pq,↓pj,ps,pz,↓reduceIte,aj,ak,ap,aq,au,av,aw,ax,ay,PT,PU,hi,hp]
   rfl
  ·intro d q' hd
   simp(disch:=omega) only[↓pq,↓pj,ps,pz,↓reduceIte,aj,ak,ap,aq,au,av,aw,ax,ay,PT,PU,]
theorem at0(id:Int)(ts:List b_):∀c:List ah,ts.foldl (λc t=>if t.owner=id then dA c (qi id t)else c) c=f_ same c ((ts.filter λt=>t.owner==id).map (qi id)):=by
 induction ts with
 |nil=>intro c;rfl
 |cons t ts ih=>
  intro c
  rw[List.foldl_cons,ih]
  by_cases h:t.owner=id
  ·rw[if_pos h,List.filter_cons,if_pos (by simpa using h)]
   rfl
  ·rw[if_neg h,List.filter_cons,if_neg (by simpa using h)]
theorem abK(id:Int)(ts:List b_)(h:ts.length<=4)(c:List ah){k:Nat}(hc:Fit k c)(hk:k<=1000):
  iter (yR wX (ii id) (.l (ts.map ef)) (ii ts.length)) rounds [.l (c.map aB),ii 0]=some [.l ((f_ same c ((ts.filter λt=>t.owner==id).map (qi id))).map aB)]:=by
 rw[<-at0]
 refine jc ts (λi c=>[.l (c.map aB),ii i]) (λc t=>if t.owner=id then dA c (qi id t)else c) (λc=>some [T.l (c.map aB)]) c (λi c=>Fit (k+i) c) rfl (dR (by omega)) hc ?_ ?_
 ·intro i d hi hd
  have D7:=hd.len
  by_cases e:(gt ts (i:Int)).owner=id
  ·rw[if_pos e]
   refine⟨hd.put (by simp[qi]),λq=>?_⟩
   have hp:=GC d 9 3 id (gt ts (i:Int)).key 0 [] (gt ts (i:Int)).cost (gt ts (i:Int)).gU (by omega) hd.bq hd.so (by simp)
   rw[List.map_nil]at hp
   simp(disch:=omega) only[↓pq,↓pj,ps,pz,↓reduceIte,aj,ak,ap,aq,au,av,aw,ax,ay,zH,zI,yR,zJ,hi,e,hp]
   rfl
  ·rw[if_neg e]
   refine⟨hd.mono (by omega),λq=>?_⟩
   simp(disch:=omega) only[↓pq,↓pj,ps,pz,↓reduceIte,aj,ak,ap,aq,au,av,aw,ax,ay,zH,zI,yR,zJ,hi,e]
 ·intro d q hd
  simp(disch:=omega) only[↓pq,↓pj,ps,pz,↓reduceIte,aj,ak,ap,aq,au,av,aw,ax,ay,zH,zI,yR,zJ,]
theorem Hi{x:Self}(h:x.heard.length<=1048576):bm (fv x):=λr hr=>by
 obtain⟨a,_,rfl⟩:=List.mem_map.1 hr
 exact Nat.le_trans (atW _ _ _ _) h
theorem Oz(s:List ah)(A:List Int)(fr ae:Int):bm (cA s A fr ae):=λr hr=>by
 rw[(Ox hr).2.2.2.2.1];simp
theorem at1{s:List ah}{id:Int}{l:List ah}{k:Nat}(hs:Fit k s)(hn:bm l):Fit (k+l.length) (qP s id l):=Fit.mG (f:=gR) (λr hr=>hn r hr) (hs.filter _)
theorem OA{s:List ah}(h:dX s=true)(hn:bm s):Fit 150 s:=⟨B7 h,hn,by unfold dX at h;simp only[bk,decide_eq_true_eq]at h;exact h.1⟩
theorem at3(id bf n:Int)(ls:List bC)(ts:List b_)(hd:List Int)(st:List ah)(h1:ls.length<=1048576)(h2:ts.length<=1048576)(h3:hd.length<=1048576)(h4:st.length<=1048576)(h5:bm st)(hk:kK ⟨id,bf,⟨n,ls,ts⟩,hd,st⟩=true):
  Ps [ii id,ii bf,ii n,.l (ls.map dC),.l (ts.map ef),.l (hd.map aD),.l (st.map aB)]=some [.l ((mH ⟨id,bf,⟨n,ls,ts⟩,hd,st⟩ (qP st id (fv ⟨id,bf,⟨n,ls,ts⟩,hd,st⟩))).map aB)]:=by
 obtain⟨hN,gS,iK,jg,tM,cm⟩:=pB hk
 obtain⟨n1,hl,ht,hA,hT⟩:=wh hN
 simp only at gS iK jg tM cm n1 hl ht hA hT
 have uI:=OA cm h5
 have hol:=Hh ⟨id,bf,⟨n,ls,ts⟩,hd,st⟩
 have Cv:=Hi (x:=⟨id,bf,⟨n,ls,ts⟩,hd,st⟩) h3
 have hO:=atX id bf n ls (.l (ts.map ef)) (.l (st.map aB)) hd hA hl jg h3
 rw[show(lG ls id).map (u_ ls id hd)=fv ⟨id,bf,⟨n,ls,ts⟩,hd,st⟩ from rfl]at hO
 unfold mH ot Hg
 simp only
 generalize fv ⟨id,bf,⟨n,ls,ts⟩,hd,st⟩=O at hol Cv hO
 have hB:=atZ st id O uI (by omega) Cv
 have OB:=at1 (id:=id) uI Cv
 generalize qP st id O=S at hB OB
 have hSl:=OB.len
 rw[arB];simp(disch:=omega) only[↓pq,↓pj,ps,pz,↓reduceIte,aj,ak,ap,aq,au,av,aw,ax,ay,zH,zI,yR,zJ,Nx,NJ _ _ _ _ _ _ _ h1 h2 h3 h4 h5,hk,hO]
 rw[abH,abH]
 refine jc O (λi c=>[.l (c.map aB),ii i,.l (O.map aB)]) (λc r=>dA c (same r)) (λc=>some [T.l ((f_ same (f_ same c (if Dj ls id=true then(lG ls id).flatMap λa=>cA S (lG ls id) id a else [])) ((ts.filter λt=>t.owner==id).map (qi id))).map aB)]) [] (λi c=>Fit i c) rfl (dR (by omega)) Fit.nil ?_ ?_
 ·intro i d hi jB
  have nJ:=Cv.gt (n:=i) (by omega) hi
  refine⟨jB.put nJ,λq=>?_⟩
  have D7:=jB.len
  have hp:=GC d (gt O (i:Int)).ae (gt O (i:Int)).kind (gt O (i:Int)).owner (gt O (i:Int)).key (gt O (i:Int)).seq (gt O (i:Int)).bq (gt O (i:Int)).cost (gt O (i:Int)).gU (by omega) jB.bq jB.so nJ
  simp(disch:=omega) only[↓pq,↓pj,ps,pz,↓reduceIte,aj,ak,ap,aq,au,av,aw,ax,ay,zH,zI,yR,zJ,hi,hp]
  rfl
 ·intro c q hc
  have Ir:=Oo ls id
  cases hb:Dj ls id with
  |false=>
   simp(disch:=omega) only[↓pq,↓pj,ps,pz,↓reduceIte,aj,ak,ap,aq,au,av,aw,ax,ay,zH,zI,yR,zJ,Ha _ _ _ _ _ hA hl,abq _ _ _ _ _ hA hl,hb,dS]
   exact abK id ts ht c hc (by omega)
  |true=>
   simp only[if_true]
   simp(disch:=omega) only[↓pq,↓pj,ps,pz,↓reduceIte,aj,ak,ap,aq,au,av,aw,ax,ay,zH,zI,yR,zJ,Ha _ _ _ _ _ hA hl,abq _ _ _ _ _ hA hl,hb,hB]
   generalize lG ls id=A at Ir
   rw[<-atG]
   refine jc A (λj c=>[.l (c.map aB),ii j]) (λc a=>f_ same c (cA S A id a)) (λc=>some [T.l ((f_ same c ((ts.filter λt=>t.owner==id).map (qi id))).map aB)]) c (λj c=>Fit (3+6*j) c) rfl (dR (by omega)) (hc.mono (by omega)) ?_ ?_
   ·intro j c hj hc
    have uP:=jI_ S A id (gt A (j:Int))
    have zv:=Oz S A id (gt A (j:Int))
    refine⟨(hc.mG (f:=same) λr hr=>zv r hr).mono (by omega),λq=>?_⟩
    simp(disch:=omega) only[↓pq,↓pj,ps,pz,↓reduceIte,aj,ak,ap,aq,au,av,aw,ax,ay,zH,zI,yR,zJ,hj,atr S A id _ (show S.length<=1048576 by omega) OB.bq (show A.length<=1048576 by omega)]
    generalize cA S A id (gt A (j:Int))=B at uP zv
    refine jc B (λi c=>[.l (c.map aB),ii i,.l (B.map aB)]) (λc r=>dA c (same r)) (λc=>q [.l (c.map aB),ii ((j:Int)+1)]) c (λi c=>Fit (3+6*j+i) c) rfl (dR (by omega)) hc ?_ ?_
    ·intro i d hi jB
     have nJ:=zv.gt (n:=i) (by omega) hi
     refine⟨jB.put nJ,λq=>?_⟩
     have D7:=jB.len
     have hp:=GC d (gt B (i:Int)).ae (gt B (i:Int)).kind (gt B (i:Int)).owner (gt B (i:Int)).key (gt B (i:Int)).seq (gt B (i:Int)).bq (gt B (i:Int)).cost (gt B (i:Int)).gU (by omega) jB.bq jB.so nJ
     simp(disch:=omega) only[↓pq,↓pj,ps,pz,↓reduceIte,aj,ak,ap,aq,au,av,aw,ax,ay,zH,zI,yR,zJ,hi,hp]
     rfl
    ·intro d q' jB
     simp(disch:=omega) only[↓pq,↓pj,ps,pz,↓reduceIte,aj,ak,ap,aq,au,av,aw,ax,ay,zH,zI,yR,zJ,]
   ·intro c q hc
    simp(disch:=omega) only[↓pq,↓pj,ps,pz,↓reduceIte,aj,ak,ap,aq,au,av,aw,ax,ay,zH,zI,yR,zJ,]
    exact abK id ts ht c hc (by omega)
def xr(x:Self):List ah:=f_ hY x.store (fv x)
theorem at4(r:ah):(hY r).bq=r.bq:=by unfold hY;split<;>rfl
theorem at5{x:Self}{k:Nat}(h:Fit k x.store)(hh:x.heard.length<=1048576):Fit (k+3) (xr x):=by
 have:=Hh x
 exact(Fit.mG (f:=hY) (λr hr=>by rw[at4];exact Hi hh r hr) h).mono (by omega)
theorem at6(a k o y s c:Int)(f:Bool):Prim.ev (.lit 8 [true,true,true,true,true,false,true,true]) [ii a,ii k,ii o,ii y,ii s,.l [],ii c,bb f]=some (.l ([(⟨a,k,o,y,s,[],c,f⟩:ah)].map aB)):=pV (by decide) rfl rfl
theorem at7(id bf n:Int)(ls:List bC)(ts:List b_)(hd:List Int)(st:List ah)(h1:ls.length<=1048576)(h2:ts.length<=1048576)(h3:hd.length<=1048576)(h4:st.length<=1048576)(h5:bm st)(hk:kK ⟨id,bf,⟨n,ls,ts⟩,hd,st⟩=true):
  WH [ii id,ii bf,ii n,.l (ls.map dC),.l (ts.map ef),.l (hd.map aD),.l (st.map aB)]=some [.l ((mH ⟨id,bf,⟨n,ls,ts⟩,hd,st⟩ (xr ⟨id,bf,⟨n,ls,ts⟩,hd,st⟩)).map aB)]:=by
 obtain⟨hN,gS,iK,jg,tM,cm⟩:=pB hk
 obtain⟨n1,hl,ht,hA,hT⟩:=wh hN
 simp only at gS iK jg tM cm n1 hl ht hA hT
 have uI:=OA cm h5
 have hol:=Hh ⟨id,bf,⟨n,ls,ts⟩,hd,st⟩
 have Cv:=Hi (x:=⟨id,bf,⟨n,ls,ts⟩,hd,st⟩) h3
 have OB:=at5 (x:=⟨id,bf,⟨n,ls,ts⟩,hd,st⟩) uI h3
 have zq:=uI.len
 have hW:=abE st (fv ⟨id,bf,⟨n,ls,ts⟩,hd,st⟩) (by omega) h5 Cv
 rw[show f_ hY st (fv ⟨id,bf,⟨n,ls,ts⟩,hd,st⟩)=xr ⟨id,bf,⟨n,ls,ts⟩,hd,st⟩ from rfl]at hW
 generalize xr ⟨id,bf,⟨n,ls,ts⟩,hd,st⟩=S at hW OB
 have hSl:=OB.len
 have Ir:=Oo ls id
 rw[apU];simp(disch:=omega) only[↓pq,↓pj,ps,pz,↓reduceIte,aj,ak,ap,aq,au,av,aw,ax,ay,zE,zF,yQ,zG,MK,NK _ _ _ _ _ _ _ h1 h2 h3 h4 h5,hk,abp _ _ _ _ _ hA hl]
 have hT2:∀(c:List ah),c.length<=100->bm c->iter (yQ rounds C5 C6 (ii id) (.l (ts.map ef)) (.l [])) rounds [.l (c.map aB),ii 0]=some [.l ((f_ same [] (c++(ts.filter λt=>t.owner==id).map (qi id))).map aB)]:=by
  intro c hc hcn
  have e:(ts.filter λt=>t.owner==id).map (qi id)=ts.foldl (λc t=>if(t.owner==id)=true then c++[qi id t]else c) []:=by
   rw[KV (λt:b_=>t.owner==id) (qi id),List.nil_append]
  have e2:c++(ts.filter λt=>t.owner==id).map (qi id)=ts.foldl (λc t=>if(t.owner==id)=true then c++[qi id t]else c) c:=by
   rw[KV (λt:b_=>t.owner==id) (qi id)]
  rw[e2]
  refine jc ts (λi c=>[.l (c.map aB),ii i]) (λc t=>if(t.owner==id)=true then c++[qi id t]else c) (λc=>some [T.l ((f_ same [] c).map aB)]) c (λi c=>c.length<=100+i∧bm c) rfl (dR (by omega)) ⟨by omega,hcn⟩ ?_ ?_
  ·rintro i d hi ⟨fx,oB⟩
   by_cases k:(gt ts (i:Int)).owner=id
   ·have e:((gt ts (i:Int)).owner==id)=true:=by simpa using k
    rw[if_pos e]
    refine⟨⟨by simp;omega,λr hr=>?_⟩,λq=>?_⟩
    ·rcases List.mem_append.1 hr with hr|hr
     ·exact oB r hr
     ·rw[List.mem_singleton]at hr;subst hr;simp[qi]
    ·unfold qi
     simp(disch:=omega) only[↓pq,↓pj,ps,pz,↓reduceIte,aj,ak,ap,aq,au,av,aw,ax,ay,zE,zF,yQ,zG,hi,k,at6]
   ·have e:¬((gt ts (i:Int)).owner==id)=true:=by simpa using k
    rw[if_neg e]
    refine⟨⟨by omega,oB⟩,λq=>?_⟩
    simp(disch:=omega) only[↓pq,↓pj,ps,pz,↓reduceIte,aj,ak,ap,aq,au,av,aw,ax,ay,zE,zF,yQ,zG,hi,k]
  ·rintro d q ⟨fx,oB⟩
   simp(disch:=omega) only[↓pq,↓pj,ps,pz,↓reduceIte,aj,ak,ap,aq,au,av,aw,ax,ay,zE,zF,yQ,zG,]
   refine jc d (λi c=>[.l (c.map aB),ii i]) (λc r=>dA c (same r)) (λc=>some [T.l (c.map aB)]) [] (λi c=>Fit i c) rfl (dR (by omega)) Fit.nil ?_ ?_
   ·intro i c hi hc
    have nJ:=oB.gt (n:=i) (by omega) hi
    refine⟨hc.put nJ,λq=>?_⟩
    have oK:=hc.len
    have hp:=GD c (gt d (i:Int)).ae (gt d (i:Int)).kind (gt d (i:Int)).owner (gt d (i:Int)).key (gt d (i:Int)).seq (gt d (i:Int)).bq (gt d (i:Int)).cost (gt d (i:Int)).gU (by omega) hc.bq nJ
    simp(disch:=omega) only[↓pq,↓pj,ps,pz,↓reduceIte,aj,ak,ap,aq,au,av,aw,ax,ay,zE,zF,yQ,zG,hi,hp]
    rfl
   ·intro c q hc
    have oK:=hc.len
    simp(disch:=omega) only[↓pq,↓pj,ps,pz,↓reduceIte,aj,ak,ap,aq,au,av,aw,ax,ay,zE,zF,yQ,zG,PW c (by omega) hc.bq]
 have hO:fv ⟨id,bf,⟨n,ls,ts⟩,hd,st⟩=(lG ls id).map (u_ ls id hd):=rfl
 unfold mH ot Hg
 simp only
 rw[hO]at hol Cv hW⊢
 generalize lG ls id=A at Ir hol Cv hW
 refine jc A (λj c=>[.l (c.map aB),ii j]) (λc a=>c++[u_ ls id hd a]) (λ_=>some [T.l ((f_ same [] (A.map (u_ ls id hd)++(if Dj ls id=true then A.flatMap λa=>cA S A id a else [])++(ts.filter λt=>t.owner==id).map (qi id))).map aB)]) [] (λj c=>c=(A.take j).map (u_ ls id hd)) rfl (dR (by omega)) rfl ?_ ?_
 ·intro j c hj hc
  have uN:j<A.length:=by omega
  refine⟨by rw[hc,List.take_add_one,List.map_append,List.getElem?_eq_getElem uN,d_ uN];simp,λq=>?_⟩
  have oK:c.length<=j:=by rw[hc,List.length_map];simp;omega
  have hN:=atY id bf n ls (.l (ts.map ef)) (.l (st.map aB)) hd (gt A (j:Int)) hl jg h3
  simp only[aB]at hN
  simp(disch:=omega) only[↓pq,↓pj,ps,pz,↓reduceIte,aj,ak,ap,aq,au,av,aw,ax,ay,zE,zF,yQ,zG,hj,hN]
 ·intro c q hc
  rw[List.take_length]at hc
  rw[<-hc]at hol Cv hW⊢
  cases hb:Dj ls id with
  |false=>
   simp(disch:=omega) only[↓pq,↓pj,ps,pz,↓reduceIte,aj,ak,ap,aq,au,av,aw,ax,ay,zE,zF,yQ,zG,abr _ _ _ _ _ hA hl,hb,dS]
   rw[List.append_nil]
   exact hT2 c (by omega) Cv
  |true=>
   simp only[if_true]
   simp(disch:=omega) only[↓pq,↓pj,ps,pz,↓reduceIte,aj,ak,ap,aq,au,av,aw,ax,ay,zE,zF,yQ,zG,abr _ _ _ _ _ hA hl,hb,hW]
   refine jc A (λj d=>[.l (d.map aB),ii j]) (λd a=>d++cA S A id a) (λ_=>some [T.l ((f_ same [] (c++(A.flatMap λa=>cA S A id a)++(ts.filter λt=>t.owner==id).map (qi id))).map aB)]) c (λj d=>d=c++(A.take j).flatMap λa=>cA S A id a) rfl (dR (by omega)) (by simp) ?_ ?_
   ·intro j d hj jB
    have uN:j<A.length:=by omega
    refine⟨by rw[jB,List.take_add_one,List.flatMap_append,List.getElem?_eq_getElem uN,d_ uN];simp,λq=>?_⟩
    have uP:=jI_ S A id (gt A (j:Int))
    have D7:d.length<=30:=by
     rw[jB,List.length_append]
     have:=Oy (A.take j) (λa=>cA S A id a) λa=>jI_ S A id a
     have:(A.take j).length<=A.length:=by simp;omega
     omega
    simp(disch:=omega) only[↓pq,↓pj,ps,pz,↓reduceIte,aj,ak,ap,aq,au,av,aw,ax,ay,zE,zF,yQ,zG,hj,att S A id _ (show S.length<=1048576 by omega) OB.bq (show A.length<=1048576 by omega)]
   ·intro d q jB
    rw[List.take_length]at jB
    have D7:d.length<=30:=by
     rw[jB,List.length_append]
     have:=Oy A (λa=>cA S A id a) λa=>jI_ S A id a
     omega
    have oG:bm d:=λr hr=>by
     rw[jB]at hr
     rcases List.mem_append.1 hr with hr|hr
     ·exact Cv r hr
     ·obtain⟨a,_,hr⟩:=List.mem_flatMap.1 hr
      exact Oz _ _ _ _ r hr
    rw[<-jB]
    simp(disch:=omega) only[↓pq,↓pj,ps,pz,↓reduceIte,aj,ak,ap,aq,au,av,aw,ax,ay,zE,zF,yQ,zG,]
    exact hT2 d (by omega) oG
theorem Dk{a b:ah}(h:dP a b=true):dP b a=true:=by rw[sameKey_iff]at *;omega
theorem wj{a b c:ah}(h:dP a b=true)(h':dP b c=true):dP a c=true:=by rw[sameKey_iff]at *;omega
theorem OC(a:ah):dP a a=true:=by rw[sameKey_iff];omega
theorem fw{s:List ah}{r x:ah}:x∈dA s r↔x=r∨(x∈s∧dP x r=false):=by
 unfold dA
 simp only[List.mem_append,List.mem_filter,List.mem_singleton]
 constructor
 ·rintro(⟨h,q⟩|h|⟨h,q⟩)
  ·exact .inr ⟨h,ut_ q⟩
  ·exact .inl h
  ·refine .inr ⟨h,?_⟩
   cases hc:dP x r with
   |false=>rfl
   |true=>have:=Dk hc;rw[ut_ q]at this;cases this
 ·rintro(h|⟨h,q⟩)
  ·exact .inr (.inl h)
  ·cases hl:eQ x r with
   |true=>exact .inl ⟨h,rfl⟩
   |false=>exact .inr (.inr ⟨h,aaO hl q⟩)
def ci(s:List ah)(r:ah):Prop:=∃x∈s,dP r x=true
theorem ci.put{s:List ah}{y:ah}(h:ci s y)(r:ah):ci (dA s r) y:=by
 obtain⟨x,hx,hk⟩:=h
 cases hc:dP x r with
 |true=>exact⟨r,fw.2 (.inl rfl),wj hk hc⟩
 |false=>exact⟨x,fw.2 (.inr ⟨hx,hc⟩),hk⟩
theorem ci.new{s:List ah}{y r:ah}(h:dP y r=true):ci (dA s r) y:=⟨r,fw.2 (.inl rfl),h⟩
theorem ci.mG{f:ah->ah}{y:ah}:∀{l s:List ah},ci s y->ci (f_ f s l) y
 | [],_,h=>h
 |x::l,s,h=>ci.mG (l:=l) (h.put (f x))
theorem ci.nr{f:ah->ah}{y z:ah}(hz:dP y (f z)=true):∀{l s:List ah},z∈l->ci (f_ f s l) y
 |x::l,s,h=>by
  rcases List.mem_cons.1 h with rfl|h
  ·exact ci.mG (l:=l) (ci.new hz)
  ·exact ci.nr hz (l:=l) h
theorem qn_:∀{s t:List ah},iG s->iG t->(∀r∈s,ci t r)->s.length<=t.length
 | [],t,_,_,_=>by simp
 |x::s,t,hs,ht,h=>by
  have ps:=List.pairwise_cons.1 hs
  obtain⟨y,hy,hk⟩:=h x (.head _)
  obtain⟨t1,t2,rfl⟩:=List.append_of_mem hy
  have pt:=List.pairwise_append.1 ht
  have pt2:=List.pairwise_cons.1 pt.2.1
  have ih:=qn_ (s:=s) (t:=t2) ps.2 pt2.2 λr hr=>by
   obtain⟨z,hz,P9⟩:=h r (.tail _ hr)
   have be:eQ y z=true:=by
    have h1:=ps.1 r hr
    rw[pg]at*
    rw[sameKey_iff]at hk P9
    omega
   rcases List.mem_append.1 hz with hz|hz
   ·have h2:=pt.2.2 z hz y (.head _)
    rw[B6 be]at h2;cases h2
   ·rcases List.mem_cons.1 hz with e|hz
    ·subst e
     rw[Gz]at be;cases be
    ·exact⟨z,hz,P9⟩
  simp only[List.length_append,List.length_cons]
  omega
theorem Is{f:ah->ah}{r:ah}:∀{l s:List ah},l.Pairwise (λa b=>dP (f a) (f b)=false)->(r∈f_ f s l↔(∃o∈l,r=f o)∨(r∈s∧∀o∈l,dP r (f o)=false))
 | [],s,_=>by simp[f_]
 |x::l,s,h=>by
  have hp:=List.pairwise_cons.1 h
  rw[show f_ f s (x::l)=f_ f (dA s (f x)) l from rfl,Is hp.2,fw]
  constructor
  ·rintro(⟨o,ho,e⟩|⟨e|⟨h1,h2⟩,h3⟩)
   ·exact .inl ⟨o,.tail _ ho,e⟩
   ·exact .inl ⟨x,.head _,e⟩
   ·refine .inr ⟨h1,λo ho=>?_⟩
    rcases List.mem_cons.1 ho with rfl|ho
    ·exact h2
    ·exact h3 o ho
  ·rintro(⟨o,ho,e⟩|⟨h1,h2⟩)
   ·rcases List.mem_cons.1 ho with rfl|ho
    ·exact .inr ⟨.inl e,λo' HJ=>by rw[e];exact hp.1 o' HJ⟩
    ·exact .inl ⟨o,ho,e⟩
   ·exact .inr ⟨.inr ⟨h1,h2 x (.head _)⟩,λo ho=>h2 o (.tail _ ho)⟩
def nu(s:List ah)(r:ah):Int:=if bG s r<0 then 0 else(gt s (bG s r)).seq
def ss(x:Self)(r:ah):Int:=if 1000*x.bf+1>nu x.store r+1 then 1000*x.bf+1 else nu x.store r+1
def qj(s:List ah)(r:ah):Bool:=decide (bG s r<0)|| !xi (gt s (bG s r)) r
def wl(x:Self)(r:ah):ah:={r with seq:=ss x r}
def qk(x:Self)(c:List ah)(r:ah):List ah:=if qj x.store r=true then dA c (wl x r)else c
def fN(r:ah):ah:=if r.kind=1 then {r with bq:=[]}else {r with bq:=[],cost:=60000}
def su(x:Self)(W:List ah)(r:ah):Bool:=(r.owner==x.id)&&(decide (bG W r<0)&& !xi (fN r) r)
def wm(x:Self)(r:ah):ah:={fN r with seq:=ss x r}
def sw(x:Self)(W:List ah)(c:List ah)(r:ah):List ah:=if su x W r=true then dA c (wm x r)else c
def ql(x:Self)(W:List ah):List ah:=x.store.foldl (sw x W) (W.foldl (qk x) [])
def xt(x:Self)(W:List ah):Self×List ah:=
 if(ql x W).all (λr=>decide (r.seq<=100000))=true∧(f_ same x.store (ql x W)).length<=150 then({x with store:=f_ same x.store (ql x W)},ql x W)else(x,[])
theorem OD{α:Type}{y:ah}{g:List ah->α->List ah}(hg:∀c a,ci c y->ci (g c a) y):∀{l:List α} {c:List ah},ci c y->ci (l.foldl g c) y
 | [],_,h=>h
 |a::l,c,h=>OD hg (l:=l) (hg c a h)
theorem at8{x:Self}{y:ah}(c:List ah)(r:ah)(h:ci c y):ci (qk x c r) y:=by
 unfold qk;split
 ·exact h.put _
 ·exact h
theorem at9{x:Self}{W:List ah}{y:ah}(c:List ah)(r:ah)(h:ci c y):ci (sw x W c r) y:=by
 unfold sw;split
 ·exact h.put _
 ·exact h
theorem abM{x:Self}{w:ah}(hw:qj x.store w=true):∀{l c:List ah},w∈l->ci (l.foldl (qk x) c) w
 |a::l,c,h=>by
  rcases List.mem_cons.1 h with rfl|h
  ·rw[List.foldl_cons]
   refine OD at8 ?_
   unfold qk
   rw[if_pos hw]
   exact ci.new (by rw[sameKey_iff];exact⟨rfl,rfl,rfl,rfl⟩)
  ·exact abM hw (l:=l) h
theorem aua{s:List ah}{r:ah}(h:¬bG s r<0):ci s r:=by
 unfold bG at h
 have h0:0<=eF (λx=>dP x r) s:=by omega
 exact⟨_,kO (l:=s) h0 (ub _ _),Dk (uc (λx=>dP x r) s h0)⟩
theorem abN(x:Self)(W:List ah){y:ah}(h:ci x.store y∨ci W y):ci (f_ same x.store (ql x W)) y:=by
 rcases h with h|⟨w,hw,hk⟩
 ·exact h.mG
 ·by_cases hn:qj x.store w=true
  ·obtain⟨z,hz,P9⟩:ci (ql x W) w:=OD at9 (abM hn hw)
   exact ci.nr (z:=z) (wj hk P9) hz
  ·unfold qj at hn
   simp only[Bool.or_eq_true,decide_eq_true_eq,not_or]at hn
   obtain⟨z,hz,P9⟩:=aua hn.1
   exact ci.mG ⟨z,hz,wj hk P9⟩
theorem Hj(x:Self){f:ah->ah}(hf:∀r,dP (f r) r=true):(fv x).Pairwise λa b=>dP (f a) (f b)=false:=by
 unfold fv
 rw[List.pairwise_map]
 have h:(lG x.net.aF x.id).Pairwise (· < ·):=om.filter _
 refine h.imp λ{a b} kE=>?_
 cases hc:dP (f (u_ x.net.aF x.id x.heard a)) (f (u_ x.net.aF x.id x.heard b))with
 |false=>rfl
 |true=>
  have:=wj (wj (Dk (hf _)) hc) (hf _)
  rw[sameKey_iff]at this
  have e:a=b:=this.1
  omega
theorem zb{x:Self}{o:ah}(ho:o∈fv x):hY o=gR o∧o.kind=1∧o.owner=x.id∧o.key=0∧(lG x.net.aF x.id).contains o.ae=true:=by
 obtain⟨a,ha,rfl⟩:=List.mem_map.1 ho
 exact⟨rfl,rfl,rfl,rfl,List.contains_iff_mem.2 ha⟩
theorem aub{x:Self}(h:kK x=true)(a:Int):u0 x.id (za x.net.aF x.id x.heard a)=true:=by
 obtain⟨hN,gS,iK,jg,tM,cm⟩:=pB h
 obtain⟨n1,hl,ht,hA,hT⟩:=wh hN
 have hk:=λk hk=>bQ.1 tM k hk
 unfold za
 refine atv ?_ ?_
 ·intro y hy
  obtain⟨k,fh,rfl⟩:=List.mem_map.1 hy
  obtain⟨cK,iz⟩:=List.mem_filter.1 fh
  rw[List.mem_range]at cK
  rw[decide_eq_true_eq]at iz
  have h1:=hk k cK
  simp only[bk,decide_eq_true_eq]at h1
  rw[iz]at h1
  have h2:=uc _ _ h1.1
  have hm:=kO (l:=x.net.aF) (n:=eF (hZ x.id (gt x.heard (2*(k:Int))) a) x.net.aF) h1.1 (ub _ _)
  have h3:=wg hA hm
  have h4:nG x.net.aF x.id (gt x.heard (2*(k:Int))) a=(gt x.net.aF (eF (hZ x.id (gt x.heard (2*(k:Int))) a) x.net.aF)).cost:=by unfold nG;rw[if_neg (by omega)]
  rw[oq]at h2
  simp only
  rw[h4]
  omega
 ·rw[List.pairwise_map]
  have jJ:∀k,k+1<x.heard.length/2->gt x.heard (2*(k:Int))*4+gt x.heard (2*(k:Int)+1)<gt x.heard (2*((k+1:Nat):Int))*4+gt x.heard (2*((k+1:Nat):Int)+1):=by
   intro k mZ
   have h1:=hk (k+1) mZ
   have h0:=hk k (by omega)
   simp only[bk,Bool.or_eq_true,decide_eq_true_eq,Bool.not_eq_true',decide_eq_false_iff_not]at h1 h0
   have b1:=wg hA (kO (l:=x.net.aF) h1.1 (ub _ _))
   have c1:=oq.1 (uc _ _ h1.1)
   have b0:=wg hA (kO (l:=x.net.aF) h0.1 (ub _ _))
   have c0:=oq.1 (uc _ _ h0.1)
   have h2:=h1.2.resolve_left (by omega)
   rw[show(2:Int)*((k+1:Nat):Int)-2=2*(k:Int) by omega,show(2:Int)*((k+1:Nat):Int)-1=2*(k:Int)+1 by omega]at h2
   omega
  have pU:∀d k,k+1+d<x.heard.length/2->gt x.heard (2*(k:Int))*4+gt x.heard (2*(k:Int)+1)<gt x.heard (2*((k+1+d:Nat):Int))*4+gt x.heard (2*((k+1+d:Nat):Int)+1):=by
   intro d
   induction d with
   |zero=>intro k mZ;exact jJ k mZ
   |succ d ih=>intro k mZ;exact Int.lt_trans (ih k (by omega)) (jJ (k+1+d) mZ)
  refine(List.pairwise_lt_range.filter _).imp_of_mem λ{i j} hi hj qM=>?_
  obtain⟨uO,mO⟩:=List.mem_filter.1 hi
  obtain⟨hj1,xW⟩:=List.mem_filter.1 hj
  rw[List.mem_range]at uO hj1
  rw[decide_eq_true_eq]at mO xW
  have:=pU (j-i-1) i (by omega)
  rw[show i+1+(j-i-1)=j by omega,mO,xW]at this
  show gt x.heard (2*(i:Int))<gt x.heard (2*(j:Int))
  omega
theorem abO{x:Self}(h:kK x=true){o:ah}(ho:o∈fv x):fY (hY o)=true:=by
 have gS:=(pB h).2.1
 have hN:=(wh (pB h).1).1
 obtain⟨a,ha,rfl⟩:=List.mem_map.1 ho
 have h2:=abD ha
 have h3:=aub h a
 unfold fY
 simp only[u_,hY,if_true,bk,aW]
 refine⟨⟨by omega,by omega⟩,?_⟩
 simp[aW,h2,h3]
theorem Cw(r:ah):dP (hY r) r=true:=by
 rw[sameKey_iff]
 unfold hY
 split<;>exact⟨rfl,rfl,rfl,rfl⟩
theorem auc(r:ah):dP (gR r) r=true:=by rw[sameKey_iff];exact⟨rfl,rfl,rfl,rfl⟩
theorem aud{x:Self}(h:kK x=true):Cu (lG x.net.aF x.id) (xr x) (qP x.store x.id (fv x)):=by
 have cm:=(pB h).2.2.2.2.2
 have uz:=B7 cm
 have p1:iG (xr x):=by
  unfold xr f_
  have:∀(l s:List ah),iG s->iG (l.foldl (λc r=>dA c (hY r)) s):=by
   intro l;induction l with
   |nil=>intro s h;exact h
   |cons a l ih=>intro s h;exact ih _ (Ii h _)
  exact this _ _ uz
 have p2:iG (qP x.store x.id (fv x)):=by
  unfold qP f_
  have:∀(l s:List ah),iG s->iG (l.foldl (λc r=>dA c (gR r)) s):=by
   intro l;induction l with
   |nil=>intro s h;exact h
   |cons a l ih=>intro s h;exact ih _ (Ii h _)
  exact this _ _ (uz.filter _)
 have m1:=λr=>Is (f:=hY) (r:=r) (s:=x.store) (Hj x Cw)
 have m2:=λr=>Is (f:=gR) (r:=r) (s:=x.store.filter (wi x.id)) (Hj x auc)
 refine⟨p1,λr hr=>?_,p2,λr hr hn=>?_⟩
 ·rcases(m2 r).1 hr with⟨o,ho,e⟩|⟨h1,h2⟩
  ·exact(m1 r).2 (.inl ⟨o,ho,by rw[e,(zb ho).1]⟩)
  ·exact(m1 r).2 (.inr ⟨(List.mem_filter.1 h1).1,λo ho=>by rw[(zb ho).1];exact h2 o ho⟩)
 ·rcases(m1 r).1 hr with⟨o,ho,e⟩|⟨h1,h2⟩
  ·exact absurd ((m2 r).2 (.inl ⟨o,ho,by rw[e,(zb ho).1]⟩)) hn
  ·have hm:¬wi x.id r=true:=λhm=>hn ((m2 r).2 (.inr ⟨List.mem_filter.2 ⟨h1,hm⟩,λo ho=>by rw[<-(zb ho).1];exact h2 o ho⟩))
   have hm:r.kind=1∧r.owner=x.id:=by
    unfold wi at hm
    simpa using hm
   refine⟨hm.1,?_⟩
   cases hc:(lG x.net.aF x.id).contains r.ae with
   |false=>rfl
   |true=>
    have ha:=List.contains_iff_mem.1 hc
    have h3:=h2 (u_ x.net.aF x.id x.heard r.ae) (List.mem_map.2 ⟨_,ha,rfl⟩)
    have hk:=Hf (Cf cm h1)
    have:dP r (hY (u_ x.net.aF x.id x.heard r.ae))=true:=by
     refine wj ?_ (Dk (Cw _))
     rw[sameKey_iff]
     exact⟨rfl,hm.1,hm.2,by show r.key=0;omega⟩
    rw[this]at h3;cases h3
theorem aue{x:Self}{S:List ah}{o:ah}(ho:o∈fv x):ci (mH x S) o:=
 ci.nr (z:=o) (OC o) (List.mem_append.2 (.inl (List.mem_append.2 (.inl ho))))
theorem auf{x:Self}(h:kK x=true):xt x (mH x (xr x))=xt x (mH x (qP x.store x.id (fv x))):=by
 have hc:=aud h
 have cm:=(pB h).2.2.2.2.2
 have uz:=B7 cm
 by_cases hlen:(xr x).length<=150
 ·have hr:∀r∈xr x,fY r=true:=by
   intro r hr
   rcases(Is (f:=hY) (r:=r) (s:=x.store) (Hj x Cw)).1 hr with⟨o,ho,e⟩|⟨h1,_⟩
   ·rw[e];exact abO h ho
   ·exact Cf cm h1
  have h1:dX (xr x)=true:=by unfold dX;rw[bk,decide_eq_true_eq];exact⟨hlen,y_ hr hc.so⟩
  have h2:dX (qP x.store x.id (fv x))=true:=by
   unfold dX;rw[bk,decide_eq_true_eq]
   exact⟨Nat.le_trans (qn_ hc.so' hc.so λr hr=>⟨r,hc.sub r hr,OC r⟩) hlen,y_ (λr iN=>hr r (hc.sub r iN)) hc.so'⟩
  have e:ot x (xr x)=ot x (qP x.store x.id (fv x)):=by
   unfold ot
   rw[abG λa ha=>hc.cA (h1.trans h2.symm) (List.contains_iff_mem.2 ha) x.id]
  unfold mH
  rw[e]
 ·have big:∀S,xt x (mH x S)=(x,[]):=by
   intro S
   unfold xt
   rw[if_neg]
   rintro⟨_,h2⟩
   have hsT:iG (f_ same x.store (ql x (mH x S))):=by
    unfold f_
    have:∀(l s:List ah),iG s->iG (l.foldl (λc r=>dA c (same r)) s):=by
     intro l;induction l with
     |nil=>intro s h;exact h
     |cons a l ih=>intro s h;exact ih _ (Ii h _)
    exact this _ _ uz
   have:=qn_ hc.so hsT λr hr=>by
    rcases(Is (f:=hY) (r:=r) (s:=x.store) (Hj x Cw)).1 hr with⟨o,ho,e⟩|⟨h1,_⟩
    ·obtain⟨z,hz,hk⟩:=abN x (mH x S) (y:=o) (.inr (aue ho))
     exact⟨z,hz,by rw[e];exact wj (Cw o) hk⟩
    ·exact abN x (mH x S) (.inl ⟨r,h1,OC r⟩)
   omega
  rw[big,big]
theorem zd(s:List ah)(r:ah):bG s r<s.length:=ub _ _
theorem abP{r:ah}(h:fY r=true):1<=r.seq∧r.seq<=100000:=by
 unfold fY at h
 simp only[bk,aW]at h
 exact h.1.2
theorem Hk{s:List ah}(h:dX s=true)(r:ah):0<=nu s r∧nu s r<=100000:=by
 unfold nu
 split
 ·omega
 ·have:=abP (Cf h (kO (l:=s) (n:=bG s r) (by omega) (zd s r)))
  omega
theorem Hl{x:Self}(h:dX x.store=true)(hb:0<=x.bf∧x.bf<=90)(r:ah):1<=ss x r∧ss x r<=100001:=by
 have:=Hk h r
 unfold ss
 split<;>omega
theorem aug(t0 t2 t3 t4 t5 u4 u5 u6 u7:T)(x:Self)(r:ah)(h:dX x.store=true)(hb:0<=x.bf∧x.bf<=90)(hl:x.store.length<=1048576):
  BM [t0,ii x.bf,t2,t3,t4,t5,.l (x.store.map aB),ii r.ae,ii r.kind,ii r.owner,ii r.key,u4,u5,u6,u7]=some [ii (ss x r)]:=by
 have hk:=NO x.store r.ae r.kind r.owner r.key u4 u5 u6 u7 hl
 rw[B5]at hk
 have ho:=Hk h r
 rw[arF]
 unfold ss
 unfold nu at ho⊢
 have be:=zd x.store r
 by_cases h0:bG x.store r<0
 ·have h1:¬bG x.store r>=0:=by omega
  rw[if_pos h0]at ho⊢
  simp(disch:=omega) only[↓pq,↓pj,ps,pz,↓reduceIte,aj,ak,ap,aq,au,av,aw,ax,ay,Gp,hk,h1]
 ·have h1:bG x.store r>=0:=by omega
  have h2:0<=bG x.store r:=by omega
  rw[if_neg h0]at ho⊢
  simp(disch:=omega) only[↓pq,↓pj,ps,pz,↓reduceIte,aj,ak,ap,aq,au,av,aw,ax,ay,Gp,hk,h1,h2,be]
theorem abQ(t0 t2 t3 t4 t5 t6:T)(x:Self)(r:ah)(h:dX x.store=true)(hb:0<=x.bf∧x.bf<=90):
  WQ [t0,ii x.bf,t2,t3,t4,t5,t6,ii (nu x.store r)]=some [ii (ss x r)]:=by
 have ho:=Hk h r
 rw[ap0]
 unfold ss
 by_cases h1:nu x.store r<1000*x.bf
 ·have h2:1000*x.bf+1>nu x.store r+1:=by omega
  rw[if_pos h2]
  simp(disch:=omega) only[↓pq,↓pj,ps,pz,↓reduceIte,aj,ak,ap,aq,au,av,aw,ax,ay,Gk,h1]
 ·have h2:¬1000*x.bf+1>nu x.store r+1:=by omega
  rw[if_neg h2]
  simp(disch:=omega) only[↓pq,↓pj,ps,pz,↓reduceIte,aj,ak,ap,aq,au,av,aw,ax,ay,Gk,h1]
theorem auh(r:ah)(t:T):BN [ii r.ae,ii r.kind,ii r.owner,ii r.key,ii r.seq,t,ii r.cost,bb r.gU]=some (aB (fN r)):=by
 rw[arH]
 unfold fN
 by_cases h:r.kind=1
 ·rw[if_pos h]
  simp(disch:=omega) only[↓pq,↓pj,ps,pz,↓reduceIte,aj,ak,ap,aq,au,av,aw,ax,ay,Gq,h]
  rfl
 ·rw[if_neg h]
  simp(disch:=omega) only[↓pq,↓pj,ps,pz,↓reduceIte,aj,ak,ap,aq,au,av,aw,ax,ay,Gq,h]
  rfl
theorem aui(r:ah)(h:r.kind≠1->r.bq=[]):WU [ii r.ae,ii r.kind,ii r.owner,ii r.key,ii r.seq,.l (r.bq.map fH),ii r.cost,bb r.gU]=some (aB (fN r)):=by
 rw[ap2]
 unfold fN
 by_cases hk:r.kind=1
 ·rw[if_pos hk]
  simp(disch:=omega) only[↓pq,↓pj,ps,pz,↓reduceIte,aj,ak,ap,aq,au,av,aw,ax,ay,Gl,hk]
  rfl
 ·rw[if_neg hk]
  simp(disch:=omega) only[↓pq,↓pj,ps,pz,↓reduceIte,aj,ak,ap,aq,au,av,aw,ax,ay,Gl,hk]
  rw[h hk]
  rfl
theorem auj{r:ah}(h:fY r=true):r.kind≠1->r.bq=[]:=by
 intro hk
 unfold fY at h
 simp only[bk]at h
 have h:=h.2
 rw[if_neg hk]at h
 split at h
 ·simp only[bk,decide_eq_true_eq]at h
  exact List.eq_nil_of_length_eq_zero (by omega)
 ·split at h
  ·simp only[bk,decide_eq_true_eq]at h
   exact List.eq_nil_of_length_eq_zero (by omega)
  ·cases h
theorem P_(r:ah):(fN r).bq=[]:=by unfold fN;split<;>rfl
theorem abR{x:Self}{k:Nat}{c:List ah}(h:Fit k c){r:ah}(hr:r.bq.length<=1048576):Fit (k+1) (qk x c r):=by
 unfold qk
 split
 ·exact h.put hr
 ·exact h.mono (by omega)
theorem abS{x:Self}{W:List ah}{k:Nat}{c:List ah}(h:Fit k c)(r:ah):Fit (k+1) (sw x W c r):=by
 unfold sw
 split
 ·exact h.put (by show(fN r).bq.length<=_;rw[P_];simp)
 ·exact h.mono (by omega)
section
variable (x:Self) (W:List ah) (t2 t3 t4:T)
theorem auk(h:dX x.store=true)(hb:0<=x.bf∧x.bf<=90)(hs:bm x.store)(hW:W.length<=25)(hn:bm W)(th:T)
  (hw:Ps [ii x.id,ii x.bf,t2,t3,t4,th,.l (x.store.map aB)]=some [.l (W.map aB)]):
  BO [ii x.id,ii x.bf,t2,t3,t4,th,.l (x.store.map aB)]=some [.l ((ql x W).map aB)]:=by
 have hf:=OA h hs
 have wK:=hf.len
 have hq:=λr:ah=>λu4 u5 u6 u7=>aug (ii x.id) t2 t3 t4 th u4 u5 u6 u7 x r h hb (by omega)
 rw[arJ];simp(disch:=omega) only[↓pq,↓pj,ps,pz,↓reduceIte,aj,ak,ap,aq,au,av,aw,ax,ay,B0,B1,Nz,hw]
 refine jc W (λi c=>[.l (c.map aB),ii i,.l (W.map aB)]) (qk x) (λc=>some [T.l ((x.store.foldl (sw x W) c).map aB)]) [] (λi c=>Fit i c) rfl (dR (by omega)) Fit.nil ?_ ?_
 ·intro i c hi hc
  have nJ:=hn.gt (n:=i) (by omega) hi
  refine⟨abR hc nJ,λq=>?_⟩
  have oK:=hc.len
  have hk:=NO x.store (gt W (i:Int)).ae (gt W (i:Int)).kind (gt W (i:Int)).owner (gt W (i:Int)).key (ii (gt W (i:Int)).seq) (.l ((gt W (i:Int)).bq.map fH)) (ii (gt W (i:Int)).cost) (bb (gt W (i:Int)).gU) (by omega)
  rw[B5]at hk
  have hq:=hq (gt W (i:Int)) (ii (gt W (i:Int)).seq) (.l ((gt W (i:Int)).bq.map fH)) (ii (gt W (i:Int)).cost) (bb (gt W (i:Int)).gU)
  have hp:=GC c (gt W (i:Int)).ae (gt W (i:Int)).kind (gt W (i:Int)).owner (gt W (i:Int)).key (ss x (gt W (i:Int))) (gt W (i:Int)).bq (gt W (i:Int)).cost (gt W (i:Int)).gU (by omega) hc.bq hc.so nJ
  have be:=zd x.store (gt W (i:Int))
  unfold qk qj
  by_cases h0:bG x.store (gt W (i:Int))<0
  ·simp(disch:=omega) only[↓pq,↓pj,ps,pz,↓reduceIte,aj,ak,ap,aq,au,av,aw,ax,ay,B0,B1,hi,hk,h0,hq,hp,decide_true,Bool.true_or]
   rfl
  ·have h1:0<=bG x.store (gt W (i:Int)):=by omega
   have ph:=aaC (gt x.store (bG x.store (gt W (i:Int)))).ae (gt x.store (bG x.store (gt W (i:Int)))).kind (gt x.store (bG x.store (gt W (i:Int)))).owner (gt x.store (bG x.store (gt W (i:Int)))).key (gt x.store (bG x.store (gt W (i:Int)))).seq (gt x.store (bG x.store (gt W (i:Int)))).bq (gt x.store (bG x.store (gt W (i:Int)))).cost (gt x.store (bG x.store (gt W (i:Int)))).gU (gt W (i:Int)).ae (gt W (i:Int)).kind (gt W (i:Int)).owner (gt W (i:Int)).key (gt W (i:Int)).seq (gt W (i:Int)).bq (gt W (i:Int)).cost (gt W (i:Int)).gU (hs.gt h1 be)
   rw[show(⟨(gt x.store (bG x.store (gt W (i:Int)))).ae,(gt x.store (bG x.store (gt W (i:Int)))).kind,(gt x.store (bG x.store (gt W (i:Int)))).owner,(gt x.store (bG x.store (gt W (i:Int)))).key,(gt x.store (bG x.store (gt W (i:Int)))).seq,(gt x.store (bG x.store (gt W (i:Int)))).bq,(gt x.store (bG x.store (gt W (i:Int)))).cost,(gt x.store (bG x.store (gt W (i:Int)))).gU⟩:ah)=gt x.store (bG x.store (gt W (i:Int))) from rfl,show(⟨(gt W (i:Int)).ae,(gt W (i:Int)).kind,(gt W (i:Int)).owner,(gt W (i:Int)).key,(gt W (i:Int)).seq,(gt W (i:Int)).bq,(gt W (i:Int)).cost,(gt W (i:Int)).gU⟩:ah)=gt W (i:Int) from rfl]at ph
   cases jC:xi (gt x.store (bG x.store (gt W (i:Int)))) (gt W (i:Int))with
   |true=>
    rw[jC]at ph
    simp(disch:=omega) only[↓pq,↓pj,ps,pz,↓reduceIte,aj,ak,ap,aq,au,av,aw,ax,ay,B0,B1,hi,hk,h0,h1,be,ph,decide_false,Bool.false_or,Bool.not_true,dS]
   |false=>
    rw[jC]at ph
    simp(disch:=omega) only[↓pq,↓pj,ps,pz,↓reduceIte,aj,ak,ap,aq,au,av,aw,ax,ay,B0,B1,hi,hk,h0,h1,be,ph,hq,hp,decide_false,Bool.false_or,Bool.not_false,dS]
    rfl
 ·intro c q hc
  simp(disch:=omega) only[↓pq,↓pj,ps,pz,↓reduceIte,aj,ak,ap,aq,au,av,aw,ax,ay,B0,B1,]
  refine jc x.store (λi c=>[.l (c.map aB),ii i]) (sw x W) (λc=>some [T.l (c.map aB)]) c (λi c=>Fit (25+i) c) rfl (dR (by omega)) (hc.mono (by omega)) ?_ ?_
  ·intro i c hi hc
   refine⟨abS hc _,λq=>?_⟩
   have oK:=hc.len
   generalize hr:gt x.store (i:Int)=r
   have hk:=NO W r.ae r.kind r.owner r.key (ii r.seq) (.l (r.bq.map fH)) (ii r.cost) (bb r.gU) (by omega)
   rw[B5]at hk
   have hq:=hq r (ii r.seq) (.l (r.bq.map fH)) (ii r.cost) (bb r.gU)
   have hg:=auh r (.l (r.bq.map fH))
   have ph:=aaC (fN r).ae (fN r).kind (fN r).owner (fN r).key (fN r).seq (fN r).bq (fN r).cost (fN r).gU r.ae r.kind r.owner r.key r.seq r.bq r.cost r.gU (by rw[P_];simp)
   have hp:=GC c (fN r).ae (fN r).kind (fN r).owner (fN r).key (ss x r) (fN r).bq (fN r).cost (fN r).gU (by omega) hc.bq hc.so (by rw[P_];simp)
   rw[show(⟨(fN r).ae,(fN r).kind,(fN r).owner,(fN r).key,(fN r).seq,(fN r).bq,(fN r).cost,(fN r).gU⟩:ah)=fN r from rfl,show(⟨r.ae,r.kind,r.owner,r.key,r.seq,r.bq,r.cost,r.gU⟩:ah)=r from rfl]at ph
   unfold sw su
   simp only[aB]at hg
   by_cases h0:r.owner=x.id
   ·rw[h0]at hk hq hg ph
    by_cases h1:bG W r<0
    ·have h2:¬bG W r>=0:=by omega
     cases jC:xi (fN r) r with
     |true=>
      rw[jC]at ph
      simp(disch:=omega) only[↓pq,↓pj,ps,pz,↓reduceIte,aj,ak,ap,aq,au,av,aw,ax,ay,B0,B1,hi,hr,h0,hk,h1,h2,hg,ph,Bool.not_true,Bool.and_false,dS]
     |false=>
      have e0:(r.owner==x.id)=true:=by simpa using h0
      rw[jC]at ph
      simp(disch:=omega) only[↓pq,↓pj,ps,pz,↓reduceIte,aj,ak,ap,aq,au,av,aw,ax,ay,B0,B1,hi,hr,h0,hk,h1,h2,hg,ph,hq,hp,Bool.not_false,Bool.and_true,beq_self_eq_true,decide_true]
      rfl
    ·have h2:bG W r>=0:=by omega
     simp(disch:=omega) only[↓pq,↓pj,ps,pz,↓reduceIte,aj,ak,ap,aq,au,av,aw,ax,ay,B0,B1,hi,hr,h0,hk,h1,h2,decide_false,Bool.false_and,Bool.and_false,dS]
   ·have e0:(r.owner==x.id)=false:=by simpa using h0
    simp(disch:=omega) only[↓pq,↓pj,ps,pz,↓reduceIte,aj,ak,ap,aq,au,av,aw,ax,ay,B0,B1,hi,hr,h0,e0,Bool.false_and,dS]
  ·intro c q hc
   simp(disch:=omega) only[↓pq,↓pj,ps,pz,↓reduceIte,aj,ak,ap,aq,au,av,aw,ax,ay,B0,B1,]
end
theorem aul{α γ:Type} [Inhabited α](l:List α)(p:α->Bool)(g:γ->α->γ)(c:γ):
  Fc (λi _=>p (gt l (i:Int))) (λc i=>g c (gt l (i:Int))) l.length c=if l.all p=true then some (l.foldl g c)else none:=by
 have key:∀(m:List α) (o:γ),m.foldl (λ(o:Option γ) a=>o.bind λc=>if p a=true then some (g c a)else none) (some o)=if m.all p=true then some (m.foldl g o)else none:=by
  intro m
  induction m with
  |nil=>intro o;simp
  |cons a m ih=>
   intro o
   rw[List.foldl_cons,Option.bind_some]
   cases hp:p a with
   |true=>rw[if_pos rfl,ih];simp[hp]
   |false=>
    rw[if_neg (by decide)]
    have:∀m:List α,m.foldl (λ(o:Option γ) a=>o.bind λc=>if p a=true then some (g c a)else none) none=none:=by
     intro m;induction m with
     |nil=>rfl
     |cons a m ih=>exact ih
    rw[this];simp[hp]
 have e:l=(List.range l.length).map λi:Nat=>gt l (i:Int):=by
  refine List.ext_getElem (by simp) λi h1 h2=>?_
  rw[List.getElem_map,List.getElem_range,d_ h1]
 rw[<-key]
 conv=>rhs;rw[e]
 rw[List.foldl_map]
 rfl
theorem abT(x:Self)(h1:x.net.aF.length<=1048576)(h2:x.net.aN.length<=1048576)(h3:x.heard.length<=1048576)(h4:x.store.length<=1048576)(h5:bm x.store):
  Ll [ii x.id,ii x.bf,ii x.net.n,.l (x.net.aF.map dC),.l (x.net.aN.map ef),.l (x.heard.map aD),.l (x.store.map aB)]=some (ie x):=by
 have hN:Xg [ii x.net.n,.l (x.net.aF.map dC),.l (x.net.aN.map ef)]=some [ii x.net.n,.l (x.net.aF.map dC),.l (x.net.aN.map ef)]:=by
  rw[aqf];simp(disch:=omega) only[↓pq,↓pj,ps,pz,↓reduceIte,aj,ak,ap,aq,au,av,aw,ax,ay,MQ]
 rw[aqo];simp(disch:=omega) only[↓pq,↓pj,ps,pz,↓reduceIte,aj,ak,ap,aq,au,av,aw,ax,ay,MT,hN,re _ h3,NQ _ h4 h5]
 rfl
theorem aum(x:Self)(h1:x.net.aF.length<=1048576)(h2:x.net.aN.length<=1048576)(h3:x.heard.length<=1048576)(h4:x.store.length<=1048576)(h5:bm x.store):
  H3 [ii x.id,ii x.bf,ii x.net.n,.l (x.net.aF.map dC),.l (x.net.aN.map ef),.l (x.heard.map aD),.l (x.store.map aB)]=some (ie x):=by
 rw[aal];simp(disch:=omega) only[↓pq,↓pj,ps,pz,↓reduceIte,aj,ak,ap,aq,au,av,aw,ax,ay,Gi,PW _ h4 h5]
 rfl
theorem aun(s:List ah)(r:ah)(u4 u5 u6 u7:T)(h:s.length<=1048576)(hn:bm s):
  BB [.l (s.map aB),ii r.ae,ii r.kind,ii r.owner,ii r.key,u4,u5,u6,u7]=if bG s r<0 then some [ii 0,ii 0,ii 0,ii 0,ii 0,.l [],ii 0,bb false,bb false]else some (aB (gt s (bG s r))++[bb true]):=by
 have hk:=NP s r.ae r.kind r.owner r.key u4 u5 u6 u7 h
 rw[B5]at hk
 have be:=zd s r
 rw[apW]
 by_cases h0:bG s r<0
 ·rw[if_pos h0]
  simp(disch:=omega) only[↓pq,↓pj,ps,pz,↓reduceIte,aj,ak,ap,aq,au,av,aw,ax,ay,Gj,hk,h0]
 ·rw[if_neg h0]
  have h1:0<=bG s r:=by omega
  have nJ:=hn.gt h1 be
  simp(disch:=omega) only[↓pq,↓pj,ps,pz,↓reduceIte,aj,ak,ap,aq,au,av,aw,ax,ay,Gj,hk,h0,h1,be,Gx]
  rfl
theorem OE{x:Self}(S:List ah)(ht:x.net.aN.length<=4)(hh:x.heard.length<=1048576):Fit 25 (mH x S):=by
 have h1:=Hh x
 have h2:=atV x S
 have h3:=abI x
 refine(Fit.mG (f:=same) (l:=fv x++ot x S++Hg x) (λr hr=>?_) Fit.nil).mono ?_
 ·show r.bq.length<=_
  rcases List.mem_append.1 hr with hr|hr
  ·rcases List.mem_append.1 hr with hr|hr
   ·exact Hi hh r hr
   ·unfold ot at hr
    split at hr
    ·obtain⟨a,_,hr⟩:=List.mem_flatMap.1 hr
     exact Oz _ _ _ _ r hr
    ·cases hr
  ·obtain⟨t,_,rfl⟩:=List.mem_map.1 hr
   simp[qi]
 ·simp only[List.length_append];omega
theorem abU{x:Self}{W:List ah}(hW:Fit 25 W)(hs:x.store.length<=150):Fit 175 (ql x W):=by
 have h1:∀(l c:List ah) k,(∀r∈l,r.bq.length<=1048576)->Fit k c->Fit (k+l.length) (l.foldl (qk x) c):=by
  intro l
  induction l with
  |nil=>intro c k _ h;exact h
  |cons a l ih=>intro c k hl h;rw[List.foldl_cons,List.length_cons];exact(ih _ _ (λr hr=>hl r (.tail _ hr)) (abR h (hl a (.head _)))).mono (by omega)
 have h2:∀(l c:List ah) k,Fit k c->Fit (k+l.length) (l.foldl (sw x W) c):=by
  intro l
  induction l with
  |nil=>intro c k h;exact h
  |cons a l ih=>intro c k h;rw[List.foldl_cons,List.length_cons];exact(ih _ _ (abS h a)).mono (by omega)
 have hl:=hW.len
 exact(h2 _ _ _ (h1 W [] 0 hW.bq Fit.nil)).mono (by omega)
theorem auo{x:Self}(h:dX x.store=true)(hb:0<=x.bf∧x.bf<=90)(W:List ah):∀r∈ql x W,1<=r.seq:=by
 have hp:∀(c:List ah) (r:ah),1<=r.seq->(∀y∈c,1<=y.seq)->∀y∈dA c r,1<=y.seq:=by
  intro c r h1 h2 y hy
  rcases B8 hy with rfl|hy
  ·exact h1
  ·exact h2 y hy
 have h1:∀(l c:List ah),(∀y∈c,1<=y.seq)->∀y∈l.foldl (qk x) c,1<=y.seq:=by
  intro l
  induction l with
  |nil=>intro c h;exact h
  |cons a l ih=>
   intro c hc
   rw[List.foldl_cons]
   refine ih _ ?_
   unfold qk
   split
   ·exact hp _ _ (Hl h hb a).1 hc
   ·exact hc
 have h2:∀(l c:List ah),(∀y∈c,1<=y.seq)->∀y∈l.foldl (sw x W) c,1<=y.seq:=by
  intro l
  induction l with
  |nil=>intro c h;exact h
  |cons a l ih=>
   intro c hc
   rw[List.foldl_cons]
   refine ih _ ?_
   unfold sw
   split
   ·exact hp _ _ (Hl h hb a).1 hc
   ·exact hc
 exact h2 _ _ (h1 _ _ (by simp))
def nv(x:Self):Self×List ah:=if kK x=true then xt x (mH x (qP x.store x.id (fv x)))else(x,[])
theorem aup(x:Self)(h1:x.net.aF.length<=1048576)(h2:x.net.aN.length<=1048576)(h3:x.heard.length<=1048576)(h4:x.store.length<=1048576)(h5:bm x.store):
  BP [ii x.id,ii x.bf,ii x.net.n,.l (x.net.aF.map dC),.l (x.net.aN.map ef),.l (x.heard.map aD),.l (x.store.map aB)]=some (ie (nv x).1++[.l ((nv x).2.map aB)]):=by
 have hS:=NJ x.id x.bf x.net.n x.net.aF x.net.aN x.heard x.store h1 h2 h3 h4 h5
 rw[show(⟨x.id,x.bf,⟨x.net.n,x.net.aF,x.net.aN⟩,x.heard,x.store⟩:Self)=x from rfl]at hS
 have hC:=abT x h1 h2 h3 h4 h5
 simp only[ie]at hC
 cases hk:kK x with
 |false=>
  rw[hk]at hS
  rw[show nv x=(x,[]) from by unfold nv;rw[if_neg (by rw[hk];decide)]]
  rw[aay];simp(disch:=omega) only[↓pq,↓pj,ps,pz,↓reduceIte,aj,ak,ap,aq,au,av,aw,ax,ay,NA,Gr,hS,hC,dS]
  rfl
 |true=>
  rw[hk]at hS
  rw[show nv x=xt x (mH x (qP x.store x.id (fv x))) from by unfold nv;rw[if_pos hk]]
  obtain⟨hN,gS,iK,jg,tM,cm⟩:=pB hk
  obtain⟨n1,hl,ht,hA,hT⟩:=wh hN
  have hW:=at3 x.id x.bf x.net.n x.net.aF x.net.aN x.heard x.store h1 h2 h3 h4 h5 hk
  rw[show(⟨x.id,x.bf,⟨x.net.n,x.net.aF,x.net.aN⟩,x.heard,x.store⟩:Self)=x from rfl]at hW
  have It:=OE (x:=x) (qP x.store x.id (fv x)) ht h3
  generalize mH x (qP x.store x.id (fv x))=W at hW It
  have hf:=OA cm h5
  have hF:=auk x W _ _ _ cm iK h5 It.len It.bq _ hW
  have OG:=abU (x:=x) It hf.len
  unfold xt
  generalize ql x W=l at hF OG
  have hll:=OG.len
  rw[aay];simp(disch:=omega) only[↓pq,↓pj,ps,pz,↓reduceIte,aj,ak,ap,aq,au,av,aw,ax,ay,NA,Gr,hS,hC,hF,NQ _ h4 h5]
  refine(KX l.length (λi c=>[.l [],.l (c.map aB),ii i]) (λi _=>decide ((gt l (i:Int)).seq<=100000)) (λc i=>dA c (same (gt l (i:Int)))) (λc=>some (if c.length<=150 then ie {x with store:=c}++[.l (l.map aB)]else ie x++[.l []])) (gf:=some (ie x++[.l []])) x.store (λi c=>Fit (150+i) c) rfl (dR (by omega)) hf ?_ ?_).trans ?_
  ·intro i c hi hc
   have nJ:=OG.bq.gt (n:=i) (by omega) hi
   refine⟨λ_=>hc.put nJ,λq=>?_⟩
   have oK:=hc.len
   have hp:=GC c (gt l (i:Int)).ae (gt l (i:Int)).kind (gt l (i:Int)).owner (gt l (i:Int)).key (gt l (i:Int)).seq (gt l (i:Int)).bq (gt l (i:Int)).cost (gt l (i:Int)).gU (by omega) hc.bq hc.so nJ
   by_cases hq:(gt l (i:Int)).seq<=100000
   ·have sx:¬(gt l (i:Int)).seq>100000:=by omega
    simp(disch:=omega) only[↓pq,↓pj,ps,pz,↓reduceIte,aj,ak,ap,aq,au,av,aw,ax,ay,NA,hi,hq,sx,hp,decide_true]
    rfl
   ·have sx:(gt l (i:Int)).seq>100000:=by omega
    simp(disch:=omega) only[↓pq,↓pj,ps,pz,↓reduceIte,aj,ak,ap,aq,au,av,aw,ax,ay,NA,hi,hq,sx,decide_false,dS]
    rfl
  ·intro c q hc
   by_cases hq:c.length<=150
   ·have sx:¬(c.length:Int)>150:=by omega
    rw[if_pos hq]
    simp(disch:=omega) only[↓pq,↓pj,ps,pz,↓reduceIte,aj,ak,ap,aq,au,av,aw,ax,ay,NA,sx]
    rfl
   ·have sx:(c.length:Int)>150:=by omega
    rw[if_neg hq]
    simp(disch:=omega) only[↓pq,↓pj,ps,pz,↓reduceIte,aj,ak,ap,aq,au,av,aw,ax,ay,NA,sx]
    rfl
  ·rw[aul l (λr=>decide (r.seq<=100000)) (λc r=>dA c (same r))]
   cases Ir:l.all λr=>decide (r.seq<=100000)with
   |false=>
    rw[if_neg (by decide),if_neg (by rintro⟨h,_⟩;cases h)]
    rfl
   |true=>
    rw[if_pos rfl]
    show some (if(f_ same x.store l).length<=150 then _ else _)=_
    by_cases hq:(f_ same x.store l).length<=150
    ·rw[if_pos hq,if_pos ⟨rfl,hq⟩]
     rfl
    ·rw[if_neg hq,if_neg λh=>hq h.2]
     rfl
end Go.Proofs.YtjimmglpkndemaaGreatC
