/- Routes within areas, by both programs. Conditions: none. -/
import Derived.Test.YtjimmglpkndemaaGreatXSA
namespace Go.Proofs.YtjimmglpkndemaaGreatC
attribute [local irreducible] jp
open Int renaming reduceLE -> aj, reduceLT -> ak, reduceEq -> ap, reduceGT -> aq, reduceGE -> au, reduceAdd -> av, reduceSub -> aw, reduceMul -> ax, reduceNeg -> ay
set_option linter.unusedVariables false
set_option linter.unusedSimpArgs false
theorem QI{s:List ah}(hs:df s=true)(ar fr:Int):∀k W D,iK fr W D->∃D',iK fr (uo s ar fr k W D) D'
 |0,W,D,h=>⟨D,h⟩
 |k+1,W,D,h=>by
  unfold uo
  by_cases hb:et W D=0
  ·rw[if_pos hb];exact⟨D,h⟩
  ·rw[if_neg hb];exact QI hs ar fr k _ _ (h.step hs ar hb)
theorem gD{s:List ah}{ar fr:Int}:(aC s ar fr).Pairwise (λa b=>a.to<b.to)∧(aC s ar fr).length<=7∧∀w∈aC s ar fr,(1<=w.to∧w.to<=6)∧fZ w.aP∧0<=w.cost∧w.cost<=6000:=by
 unfold aC
 by_cases hc:df s=true∧gj fr 1 6=true∧0<=je s ar fr
 ·rw[if_pos hc]
  obtain⟨D,hI⟩:=QI hc.1 ar fr 6 (W0 fr) [] (iK.start (bg.1 hc.2.1))
  have hD:=hI.len
  have hl:=hI.ok.len
  have key:∀i,(hi:i<(uo s ar fr 6 (W0 fr) []).length)->(uo s ar fr 6 (W0 fr) [])[i].to≠0->(uo s ar fr 6 (W0 fr) [])[i].to=(i:Int)∧1<=i:=by
   intro i hi h0
   have:=(hI.ok.to (i:Int) (by omega) (by omega))
   rw[eC hi]at this
   have:=this.resolve_left h0
   exact⟨this,by omega⟩
  refine⟨?_,Nat.le_trans (av0 _) (by omega),λw hw=>?_⟩
  ·have hp:(uo s ar fr 6 (W0 fr) []).Pairwise λa b=>a.to≠0->b.to≠0->a.to<b.to:=by
    rw[List.pairwise_iff_getElem]
    intro i j hi hj rV h1 h2
    rw[(key i hi h1).1,(key j hj h2).1];omega
   unfold Af
   have E6:=hp.filter (λw=>!(w.to==0))
   refine E6.imp_of_mem λ{a b} ha hb ln=>ln ?_ ?_
   ·have:=(List.mem_filter.1 ha).2;simpa using this
   ·have:=(List.mem_filter.1 hb).2;simpa using this
  ·obtain⟨h1,h2⟩:=List.mem_filter.1 hw
   have h2:w.to≠0:=by simpa using h2
   obtain⟨i,hi,rfl⟩:=List.mem_iff_getElem.1 h1
   obtain⟨h3,h4⟩:=key i hi h2
   have h5:=hI.ok.aP (i:Int) (by omega) (by omega)
   have h6:=hI.ok.cost (i:Int) (by omega) (by omega)
   rw[eC hi]at h5 h6
   exact⟨by omega,h5,by omega⟩
 ·rw[if_neg hc];simp
theorem awa(l:List Way)(w:Way)(i:Nat)(q:af)(rX:l.Pairwise λa b=>a.to<b.to)(hlen:l.length<=6)(hl:∀x∈l,fZ x.aP)(hw:fZ w.aP)(hi:i<=1048576)(x:T):
  iter (DF zX yf (.l (l.map bp)) (ii i) x (ii w.to) (ii w.cost) (.l (w.aP.map aB)) q) rounds [ii 0]=q [.l ((tM l w).map bp),ii (i+1),x]:=by
 have hle:=I1 l w.to
 have kl:=I2 rX w.to
 have hwl:=tJ hw
 refine P9 (λk=>[ii k]) (cd l w.to) rfl (dG (by omega)) ?_ ?_
 ·intro k hk q'
  have gx:(k:Int)<l.length:=by omega
  have c_:(gt l (k:Int)).to<w.to:=by rw[eC (by omega)];exact(kl k (by omega)).2 (by omega)
  simp(disch:=omega) only[↓pQ,pS,↓reduceIte,aj,ak,ap,aq,au,av,aw,ax,ay,DF,EY,EZ,gx,c_]
 ·intro q'
  have ht:((cd l w.to:Nat):Int).toNat=cd l w.to:=Int.toNat_natCast _
  have jh:=Sm w.to w.cost w.aP (by omega)
  have jz:=Qj (enc:=bp) (λ_=>rfl) hle
  have rE:=Qk (enc:=bp) (λ_=>rfl) hle
  unfold tM
  by_cases bf:cd l w.to<l.length
  ·have gx:((cd l w.to:Nat):Int)<l.length:=by omega
   have c_:¬((gt l ((cd l w.to:Nat):Int)).to<w.to):=by rw[eC bf];intro hc;have:=(kl _ bf).1 hc;omega
   have ub:=hl _ (lg (l:=l) (n:=((cd l w.to:Nat):Int)) (by omega) gx)
   by_cases he:(gt l ((cd l w.to:Nat):Int)).to=w.to
   ·rw[if_pos ⟨bf,he⟩]
    have hT:=jp_ (gt l ((cd l w.to:Nat):Int)).to (gt l ((cd l w.to:Nat):Int)).cost (gt l ((cd l w.to:Nat):Int)).aP w.to w.cost w.aP ub hw
    rw[he]at hT
    have xQ:∀(x:Way) (n:Int),x.to=n->(⟨n,x.cost,x.aP⟩:Way)=x:=by intro x n h;subst h;rfl
    rw[xQ _ _ he]at hT
    simp(disch:=omega) only[↓pQ,pS,↓reduceIte,aj,ak,ap,aq,au,av,aw,ax,ay,DF,EY,EZ,gx,c_,he,hT,bp,IL,ht]
   ·rw[if_neg (λh=>he h.2)]
    simp(disch:=omega) only[↓pQ,pS,↓reduceIte,aj,ak,ap,aq,au,av,aw,ax,ay,DF,EY,EZ,gx,c_,he,jh,ht,jz,rE]
    simp only[J5 (show(l.take (cd l w.to)).length<4294967296 by simp;omega),MS (show(l.take (cd l w.to)).length<4294967295 by simp;omega),eB,rE]
    rw[J4 (by simp;omega),eB,List.append_assoc]
  ·have gx:¬(((cd l w.to:Nat):Int)<l.length):=by omega
   rw[if_neg (λh=>bf h.1)]
   simp(disch:=omega) only[↓pQ,pS,↓reduceIte,aj,ak,ap,aq,au,av,aw,ax,ay,DF,EY,EZ,gx,jh,ht,jz,rE]
   simp only[J5 (show(l.take (cd l w.to)).length<4294967296 by simp;omega),MS (show(l.take (cd l w.to)).length<4294967295 by simp;omega),eB,rE]
   rw[J4 (by simp;omega),eB,List.append_assoc]
theorem awb(l:List Way)(w:Way)(i:Nat)(q:af)(rX:l.Pairwise λa b=>a.to<b.to)(hlen:l.length<=6)(hl:∀x∈l,fZ x.aP)(hw:fZ w.aP)(hi:i<=1048576):
  iter (oZ zX yf (.l (l.map bp)) (ii i) (ii w.to) (.l (w.aP.map aB)) (ii w.cost) q) rounds [ii 0]=q [.l ((tM l w).map bp),ii (i+1)]:=by
 have hle:=I1 l w.to
 have kl:=I2 rX w.to
 have hwl:=tJ hw
 refine P9 (λk=>[ii k]) (cd l w.to) rfl (dG (by omega)) ?_ ?_
 ·intro k hk q'
  have gx:(k:Int)<l.length:=by omega
  have c_:(gt l (k:Int)).to<w.to:=by rw[eC (by omega)];exact(kl k (by omega)).2 (by omega)
  simp(disch:=omega) only[↓pQ,pS,↓reduceIte,aj,ak,ap,aq,au,av,aw,ax,ay,oZ,o8,pN,gx,c_]
 ·intro q'
  have ht:((cd l w.to:Nat):Int).toNat=cd l w.to:=Int.toNat_natCast _
  have jh:=Sm w.to w.cost w.aP (by omega)
  have jz:=Qj (enc:=bp) (λ_=>rfl) hle
  have rE:=Qk (enc:=bp) (λ_=>rfl) hle
  unfold tM
  by_cases bf:cd l w.to<l.length
  ·have gx:((cd l w.to:Nat):Int)<l.length:=by omega
   have c_:¬((gt l ((cd l w.to:Nat):Int)).to<w.to):=by rw[eC bf];intro hc;have:=(kl _ bf).1 hc;omega
   have ub:=hl _ (lg (l:=l) (n:=((cd l w.to:Nat):Int)) (by omega) gx)
   by_cases he:(gt l ((cd l w.to:Nat):Int)).to=w.to
   ·rw[if_pos ⟨bf,he⟩]
    have hT:=jp_ (gt l ((cd l w.to:Nat):Int)).to (gt l ((cd l w.to:Nat):Int)).cost (gt l ((cd l w.to:Nat):Int)).aP w.to w.cost w.aP ub hw
    rw[he]at hT
    have xQ:∀(x:Way) (n:Int),x.to=n->(⟨n,x.cost,x.aP⟩:Way)=x:=by intro x n h;subst h;rfl
    rw[xQ _ _ he]at hT
    simp(disch:=omega) only[↓pQ,pS,↓reduceIte,aj,ak,ap,aq,au,av,aw,ax,ay,oZ,o8,pN,gx,c_,he,hT,bp,IL,ht]
   ·rw[if_neg (λh=>he h.2)]
    simp(disch:=omega) only[↓pQ,pS,↓reduceIte,aj,ak,ap,aq,au,av,aw,ax,ay,oZ,o8,pN,gx,c_,he,jh,ht,jz,rE]
    simp only[J5 (show(l.take (cd l w.to)).length<4294967296 by simp;omega),MS (show(l.take (cd l w.to)).length<4294967295 by simp;omega),eB,rE]
    rw[J4 (by simp;omega),eB,List.append_assoc]
  ·have gx:¬(((cd l w.to:Nat):Int)<l.length):=by omega
   rw[if_neg (λh=>bf h.1)]
   simp(disch:=omega) only[↓pQ,pS,↓reduceIte,aj,ak,ap,aq,au,av,aw,ax,ay,oZ,o8,pN,gx,jh,ht,jz,rE]
   simp only[J5 (show(l.take (cd l w.to)).length<4294967296 by simp;omega),MS (show(l.take (cd l w.to)).length<4294967295 by simp;omega),eB,rE]
   rw[J4 (by simp;omega),eB,List.append_assoc]
theorem awc(l:List Way)(w:Way)(i:Nat)(q:af)(rX:l.Pairwise λa b=>a.to<b.to)(hlen:l.length<=6)(hl:∀x∈l,fZ x.aP)(hw:fZ w.aP)(hi:i<=1048576):
  iter (o8 zX yf (.l (l.map bp)) (ii i) (ii w.to) (.l (w.aP.map aB)) (ii w.cost) q) rounds [ii 0]=q [.l ((tM l w).map bp),ii (i+1)]:=by
 have hle:=I1 l w.to
 have kl:=I2 rX w.to
 have hwl:=tJ hw
 refine P9 (λk=>[ii k]) (cd l w.to) rfl (dG (by omega)) ?_ ?_
 ·intro k hk q'
  have gx:(k:Int)<l.length:=by omega
  have c_:(gt l (k:Int)).to<w.to:=by rw[eC (by omega)];exact(kl k (by omega)).2 (by omega)
  simp(disch:=omega) only[↓pQ,pS,↓reduceIte,aj,ak,ap,aq,au,av,aw,ax,ay,oZ,o8,pN,gx,c_]
 ·intro q'
  have ht:((cd l w.to:Nat):Int).toNat=cd l w.to:=Int.toNat_natCast _
  have jh:=Sm w.to w.cost w.aP (by omega)
  have jz:=Qj (enc:=bp) (λ_=>rfl) hle
  have rE:=Qk (enc:=bp) (λ_=>rfl) hle
  unfold tM
  by_cases bf:cd l w.to<l.length
  ·have gx:((cd l w.to:Nat):Int)<l.length:=by omega
   have c_:¬((gt l ((cd l w.to:Nat):Int)).to<w.to):=by rw[eC bf];intro hc;have:=(kl _ bf).1 hc;omega
   have ub:=hl _ (lg (l:=l) (n:=((cd l w.to:Nat):Int)) (by omega) gx)
   by_cases he:(gt l ((cd l w.to:Nat):Int)).to=w.to
   ·rw[if_pos ⟨bf,he⟩]
    have hT:=jp_ (gt l ((cd l w.to:Nat):Int)).to (gt l ((cd l w.to:Nat):Int)).cost (gt l ((cd l w.to:Nat):Int)).aP w.to w.cost w.aP ub hw
    rw[he]at hT
    have xQ:∀(x:Way) (n:Int),x.to=n->(⟨n,x.cost,x.aP⟩:Way)=x:=by intro x n h;subst h;rfl
    rw[xQ _ _ he]at hT
    simp(disch:=omega) only[↓pQ,pS,↓reduceIte,aj,ak,ap,aq,au,av,aw,ax,ay,oZ,o8,pN,gx,c_,he,hT,bp,IL,ht]
   ·rw[if_neg (λh=>he h.2)]
    simp(disch:=omega) only[↓pQ,pS,↓reduceIte,aj,ak,ap,aq,au,av,aw,ax,ay,oZ,o8,pN,gx,c_,he,jh,ht,jz,rE]
    simp only[J5 (show(l.take (cd l w.to)).length<4294967296 by simp;omega),MS (show(l.take (cd l w.to)).length<4294967295 by simp;omega),eB,rE]
    rw[J4 (by simp;omega),eB,List.append_assoc]
  ·have gx:¬(((cd l w.to:Nat):Int)<l.length):=by omega
   rw[if_neg (λh=>bf h.1)]
   simp(disch:=omega) only[↓pQ,pS,↓reduceIte,aj,ak,ap,aq,au,av,aw,ax,ay,oZ,o8,pN,gx,jh,ht,jz,rE]
   simp only[J5 (show(l.take (cd l w.to)).length<4294967296 by simp;omega),MS (show(l.take (cd l w.to)).length<4294967295 by simp;omega),eB,rE]
   rw[J4 (by simp;omega),eB,List.append_assoc]
def q_(s:List ah)(dl:List Int)(fr:Int):List Way:=dl.flatMap λa=>aC s a fr
theorem Ah{s:List ah}{dl:List Int}{fr:Int}:∀w∈q_ s dl fr,(1<=w.to∧w.to<=6)∧fZ w.aP∧0<=w.cost∧w.cost<=6000:=by
 intro w hw
 unfold q_ at hw
 obtain⟨a,_,h⟩:=List.mem_flatMap.1 hw
 exact gD.2.2 w h
theorem D4{α β:Type}(f:α->List β)(l:List α)(c:List β):l.foldl (λc a=>c++f a) c=c++l.flatMap f:=by
 induction l generalizing c with
 |nil=>simp
 |cons a l ih=>rw[List.foldl_cons,ih];simp
theorem QJ{α:Type}(l c:List α):l.foldl (λc a=>c++[a]) c=c++l:=by
 induction l generalizing c with
 |nil=>simp
 |cons a l ih=>rw[List.foldl_cons,ih];simp
theorem I3{α β:Type}(f:α->Option β)(l:List α):l.flatMap (λa=>(f a).toList)=l.filterMap f:=by
 induction l with
 |nil=>rfl
 |cons a l ih=>rw[List.flatMap_cons,List.filterMap_cons,ih];cases f a<;>rfl
def within(s:List ah)(dl:List Int)(fr:Int):List Way:=cC (q_ s dl fr)
theorem ad_(s:List ah)(dl:List Int)(fr:Int)(h:s.length<=1048576)(hn:aR s)(ha:dl.length<=1048576):Nx [.l (s.map ai),.l (dl.map aB),ii fr]=some [.l ((within s dl fr).map bp)]:=by
 rw[aui];simp(disch:=omega) only[↓pQ,pS,↓reduceIte,aj,ak,ap,aq,au,av,aw,ax,ay,DF,EY,EZ,kI_]
 refine(iP dl (λj C=>[.l ((cC C).map bp),ii j]) (λC a=>C++aC s a fr) (λC=>some [T.l ((cC C).map bp)]) [] (λ_ C=>∀x∈C,fZ x.aP) rfl (dG ha) (by simp) ?_ ?_).trans (by rw[D4,List.nil_append];rfl)
 ·intro j C hj hC
  obtain⟨w1,w2,w3⟩:=gD (s:=s) (ar:=gt dl j) (fr:=fr)
  refine⟨λx hx=>(List.mem_append.1 hx).elim (hC x) λhx=>(w3 x hx).2.1,λq=>?_⟩
  simp(disch:=omega) only[↓pQ,pS,↓reduceIte,aj,ak,ap,aq,au,av,aw,ax,ay,DF,EY,EZ,hj,Qx _ _ _ h hn]
  refine(iP (aC s (gt dl j) fr) (λi C=>[.l ((cC C).map bp),ii i,.l ((aC s (gt dl j) fr).map bp)]) (λC w=>C++[w]) (λC=>q [T.l ((cC C).map bp),ii (j+1)]) C (λ_ C=>∀x∈C,fZ x.aP) rfl (dG (by omega)) hC ?_ ?_).trans (by rw[QJ])
  ·intro i C hi hC
   have hw:=w3 _ (lg (n:=i) (by omega) hi)
   refine⟨λx hx=>(List.mem_append.1 hx).elim (hC x) λhx=>by rw[List.mem_singleton]at hx;subst hx;exact hw.2.1,λq'=>?_⟩
   simp(disch:=omega) only[↓pQ,pS,↓reduceIte,aj,ak,ap,aq,au,av,aw,ax,ay,DF,EY,EZ,hi]
   rw[awa (cC C) (gt (aC s (gt dl j) fr) i) i q' (D2 C hC) (D3 C) (λx hx=>(Ss hC hx).1) hw.2.1 (by omega) _,ad9 hC hw.1 hw.2.1]
  ·intro C q' hC
   simp(disch:=omega) only[↓pQ,pS,↓reduceIte,aj,ak,ap,aq,au,av,aw,ax,ay,DF,EY,EZ,]
 ·intro C q hC
  simp(disch:=omega) only[↓pQ,pS,↓reduceIte,aj,ak,ap,aq,au,av,aw,ax,ay,DF,EY,EZ,]
def xr(l:List Way):List T:=[.l (l.map bp)]
theorem Sv{l:List (List Way)}{n:Int}(h:0<=n)(h':n<l.length):Prim.ev (.cell 1 0) [.l (l.map xr),ii n]=some (.l ((gt l n).map bp)):=iO h (dR h h') rfl rfl
theorem ad'(x:List Way):Prim.ev (.lit 1 []) [.l (x.map bp)]=some (.l ([x].map xr)):=qN (by decide) rfl rfl
theorem aea{l:List (List Way)}{x:List Way}(h:l.length<4294967295):Prim.ev (.app false 1) [.l (l.map xr),.l ([x].map xr)]=some (.l ((l++[x]).map xr)):=td (w:=1) (λ_=>rfl) (.inl rfl) (by unfold r8;simp;omega)
def du(l:List Way)(v:Int):Option Way:=if eP l v<0 then none else some (gt l (eP l v))
theorem aeb(l:List Way)(v:Int):eP l v<l.length:=sm _ _
theorem yC{l:List Way}{v:Int}{w:Way}(h:du l v=some w):w∈l∧w.to=v:=by
 unfold du at h
 split at h
 ·cases h
 ·rename_i hf
  cases h
  have:=ue (λw:Way=>w.to==v) l (by unfold eP at hf;omega)
  exact⟨lg (by omega) (aeb _ _),by simpa[eP]using this⟩
theorem awd{l:List Way}{v:Int}(h:du l v=none):∀w∈l,w.to≠v:=by
 unfold du at h
 split at h
 ·rename_i hf
  intro w hw
  have:=(EP _ _).1 hf w hw
  simpa using this
 ·cases h
theorem awe{l:List Way}(h:l.Pairwise λa b=>a.to<b.to){x y:Way}(hx:x∈l)(hy:y∈l)(e:x.to=y.to):x=y:=by
 obtain⟨i,hi,rfl⟩:=List.mem_iff_getElem.1 hx
 obtain⟨j,hj,rfl⟩:=List.mem_iff_getElem.1 hy
 rw[List.pairwise_iff_getElem]at h
 rcases Nat.lt_trichotomy i j with h1|h1|h1
 ·have:=h i j hi hj h1;omega
 ·subst h1;rfl
 ·have:=h j i hj hi h1;omega
theorem awf{l:List Way}(h:l.Pairwise λa b=>a.to<b.to){v:Int}{w:Way}:du l v=some w↔w∈l∧w.to=v:=by
 refine⟨yC,λ⟨h1,h2⟩=>?_⟩
 cases e:du l v with
 |none=>exact absurd h2 (awd e w h1)
 |some w'=>
  have:=yC e
  rw[awe h this.1 h1 (by omega)]
def QK(o:Option Way)(i:Int):List T:=match o with|none=>[bb false,ii i,ii 0,ii 0,.l []]|some b=>[bb true,ii i,ii b.to,ii b.cost,.l (b.aP.map aB)]
theorem aec(s:List ah)(dl:List Int)(fr:Int)(h:s.length<=1048576)(hn:aR s)(ha:dl.length<=1048576):Nk [.l (s.map ai),.l (dl.map aB),ii fr]=some [.l ((within s dl fr).map bp)]:=by
 have hW:=λa=>gD (s:=s) (ar:=a) (fr:=fr)
 rw[asF];simp(disch:=omega) only[↓pQ,pS,↓reduceIte,aj,ak,ap,aq,au,av,aw,ax,ay,AJ,AK,AL,kN_]
 refine iP dl (λj C=>[.l (C.map xr),ii j]) (λC a=>C++[aC s a fr]) (λ_=>some [T.l ((within s dl fr).map bp)]) [] (λj C=>C=(dl.take j).map (λa=>aC s a fr)) rfl (dG ha) rfl ?_ ?_
 ·intro j C hj hC
  have hl:C.length<=j:=by rw[hC];simp;omega
  refine⟨by rw[List.take_add_one,hC,List.map_append,List.getElem?_eq_getElem (by omega),eC (by omega)];rfl,λq=>?_⟩
  simp(disch:=omega) only[↓pQ,pS,↓reduceIte,aj,ak,ap,aq,au,av,aw,ax,ay,AJ,AK,AL,hj,QE _ _ _ h hn,ad',aea]
 ·intro C q hC
  have hC:C=dl.map (λa=>aC s a fr):=by rw[hC,List.take_length]
  have hCl:C.length=dl.length:=by rw[hC,List.length_map]
  have QL:∀j:Nat,(j:Int)<dl.length->gt C (j:Int)=aC s (gt dl j) fr:=by
   intro j hj
   rw[eC (by omega),eC (by omega)]
   simp only[hC,List.getElem_map]
  simp(disch:=omega) only[↓pQ,pS,↓reduceIte,aj,ak,ap,aq,au,av,aw,ax,ay,AJ,AK,AL,]
  refine(sn 6 (λi c=>[.l (c.map bp),ii (i+1)]) (λc i=>c++(kh (dl.filterMap λa=>du (aC s a fr) ((i:Int)+1))).toList) (λc=>some [T.l (c.map bp)]) [] (λi c=>c.length<=i) rfl (dG (by omega)) (by simp) ?_ ?_).trans ?_
  ·intro i c hi hc
   refine⟨by cases kh (dl.filterMap λa=>du (aC s a fr) ((i:Int)+1))<;>simp<;>omega,λq'=>?_⟩
   have eg:(i:Int)+1<=6:=by omega
   simp(disch:=omega) only[↓pQ,pS,↓reduceIte,aj,ak,ap,aq,au,av,aw,ax,ay,AJ,AK,AL,eg]
   have hfm:∀(l:List Int) (o:Option Way),l.foldl (λo a=>match du (aC s a fr) ((i:Int)+1)with|none=>o|some w=>o9 o w) o=(l.filterMap λa=>du (aC s a fr) ((i:Int)+1)).foldl o9 o:=by
    intro l
    induction l with
    |nil=>intro o;rfl
    |cons a l ih=>
     intro o
     rw[List.foldl_cons,List.filterMap_cons]
     cases du (aC s a fr) ((i:Int)+1)with
     |none=>exact ih o
     |some w=>exact ih _
   refine(iP dl (λj o=>QK o j) (λo a=>match du (aC s a fr) ((i:Int)+1)with|none=>o|some w=>o9 o w) (λo=>q' [T.l ((c++o.toList).map bp),ii ((i:Int)+1+1)]) none (λ_ o=>∀b,o=some b->fZ b.aP) rfl (dG ha) (by simp) ?_ ?_).trans (by rw[hfm];rfl)
   ·intro j o hj ho
    obtain⟨w1,w2,w3⟩:=hW (gt dl j)
    have hlC:(j:Int)<C.length:=by omega
    have hT:=II (aC s (gt dl j) fr) ((i:Int)+1) (by omega) (λw hw=>by have:=tJ (w3 w hw).2.1;omega)
    constructor
    ·intro b hb
     cases hw:du (aC s (gt dl j) fr) ((i:Int)+1)with
     |none=>rw[hw]at hb;exact ho b hb
     |some w=>
      rw[hw]at hb
      have hh:=(w3 w (yC hw).1).2.1
      cases o with
      |none=>simp only[o9]at hb;cases hb;exact hh
      |some b0=>simp only[o9]at hb;cases hb;exact Qw (ho b0 rfl) hh
    ·intro q2
     unfold du
     by_cases hp:eP (aC s (gt dl j) fr) ((i:Int)+1)<0
     ·rw[if_pos hp]at hT
      cases o with
      |none=>simp only[QK];simp(disch:=omega) only[↓pQ,pS,↓reduceIte,aj,ak,ap,aq,au,av,aw,ax,ay,AJ,AK,AL,hj,Sv,QL j hj,hT,hp,dh]
      |some b=>simp only[QK];simp(disch:=omega) only[↓pQ,pS,↓reduceIte,aj,ak,ap,aq,au,av,aw,ax,ay,AJ,AK,AL,hj,Sv,QL j hj,hT,hp,dh]
     ·rw[if_neg hp]at hT
      have hm:=w3 _ (lg (l:=aC s (gt dl j) fr) (n:=eP (aC s (gt dl j) fr) ((i:Int)+1)) (by omega) (aeb _ _))
      have p_:=tJ hm.2.1
      simp only[bp,List.cons_append,List.nil_append]at hT
      cases o with
      |none=>simp only[QK];simp(disch:=omega) only[↓pQ,pS,↓reduceIte,aj,ak,ap,aq,au,av,aw,ax,ay,AJ,AK,AL,hj,Sv,QL j hj,hT,hp,dh];rfl
      |some b=>
       have uH:=tJ (ho b rfl)
       simp only[QK]
       simp(disch:=omega) only[↓pQ,pS,↓reduceIte,aj,ak,ap,aq,au,av,aw,ax,ay,AJ,AK,AL,hj,Sv,QL j hj,hT,hp,dh,ad5 _ _ _ _ _ _ (show b.aP.length<=1048576 by omega) (show(gt (aC s (gt dl j) fr) (eP (aC s (gt dl j) fr) ((i:Int)+1))).aP.length<=1048576 by omega),bp]
       rfl
   ·intro o q2 ho
    cases o with
    |none=>simp only[QK];simp(disch:=omega) only[↓pQ,pS,↓reduceIte,aj,ak,ap,aq,au,av,aw,ax,ay,AJ,AK,AL,dh];simp
    |some b=>simp only[QK];simp(disch:=omega) only[↓pQ,pS,↓reduceIte,aj,ak,ap,aq,au,av,aw,ax,ay,AJ,AK,AL,];simp
  ·intro c q' hc
   simp(disch:=omega) only[↓pQ,pS,↓reduceIte,aj,ak,ap,aq,au,av,aw,ax,ay,AJ,AK,AL,]
  ·rw[D4 (λi:Nat=>(kh (dl.filterMap λa=>du (aC s a fr) ((i:Int)+1))).toList),List.nil_append]
   congr 3
   unfold within cC
   rw[DZ,List.filterMap_map,I3]
   refine congrArg (λf=>List.map bp (List.filterMap f (List.range 6))) (funext λi=>?_)
   show _=kh _
   refine ad8 (v:=(i:Int)+1) (λx hx=>?_) λx=>?_
   ·obtain⟨a,_,hx⟩:=List.mem_filterMap.1 hx
    have:=yC hx
    exact⟨this.2,((hW a).2.2 x this.1).2.1⟩
   ·rw[List.mem_filterMap,List.mem_filter]
    unfold q_
    rw[List.mem_flatMap]
    constructor
    ·rintro⟨a,xm,hx⟩
     have:=yC hx
     exact⟨⟨a,xm,this.1⟩,by simpa using this.2⟩
    ·rintro⟨⟨a,xm,hx⟩,e⟩
     exact⟨a,xm,(awf (hW a).1).2 ⟨hx,by simpa using e⟩⟩
theorem aed{s:List ah}(hs:df s=true){x:ah}(hx:x∈s)(h:x.kind=2):(1<=x.key∧x.key<=6)∧0<=x.cost∧x.cost<=60000:=by
 have:=DT hs hx
 unfold eW at this
 rw[if_neg (by omega),if_pos h]at this
 simp only[bD,bg]at this
 exact⟨this.2.1.1.1.2,this.2.1.2⟩
theorem awg{s:List ah}(hs:df s=true){x:ah}(hx:x∈s):0<=x.cost∧x.cost<=60000:=by
 have:=DT hs hx
 unfold eW at this
 grind[bg]
theorem I4{s:List ah}{a fr v:Int}{w:Way}(h:du (aC s a fr) v=some w):w.to=v∧fZ w.aP∧0<=w.cost∧w.cost<=6000∧df s=true:=by
 have h1:=yC h
 have h2:=gD.2.2 w h1.1
 refine⟨h1.2,h2.2.1,h2.2.2.1,h2.2.2.2,?_⟩
 cases e:df s with
 |true=>rfl
 |false=>
  have:aC s a fr=[]:=by unfold aC;rw[if_neg (by rw[e];simp)]
  rw[this]at h1;cases h1.1
def iC(s:List ah)(A:List Int)(z:Bool)(fr:Int)(x:ah):Option Way:=
 if x.kind=2∧x.cost<60000∧x.owner≠fr∧A.contains x.ae=true∧(z=true->x.ae=0)∧eP (within s A fr) x.key<0 then
  match du (aC s x.ae fr) x.owner with
  |none=>none
  |some w=>if x.cost+w.cost<60000 then some ⟨x.key,x.cost+w.cost,w.aP⟩else none
 else none
theorem Sw{s:List ah}{A:List Int}{z:Bool}{fr:Int}{x:ah}{w:Way}(h:iC s A z fr x=some w):(x.kind=2∧x.cost<60000∧x.owner≠fr∧A.contains x.ae=true∧(z=true->x.ae=0)∧eP (within s A fr) x.key<0)∧∃y,du (aC s x.ae fr) x.owner=some y∧x.cost+y.cost<60000∧w=⟨x.key,x.cost+y.cost,y.aP⟩:=by
 unfold iC at h
 split at h
 ·rename_i hc
  refine⟨hc,?_⟩
  split at h
  ·cases h
  ·rename_i y hy
   split at h
   ·rename_i hl;cases h;exact⟨y,hy,hl,rfl⟩
   ·cases h
 ·cases h
theorem aee{s:List ah}{A:List Int}{z:Bool}{fr:Int}{x:ah}(hx:x∈s){w:Way}(h:iC s A z fr x=some w):(1<=w.to∧w.to<=6)∧fZ w.aP∧0<=w.cost∧w.cost<60000:=by
 obtain⟨h1,y,h2,h3,rfl⟩:=Sw h
 have h4:=I4 h2
 have h5:=aed h4.2.2.2.2 hx h1.1
 exact⟨h5.1,h4.2.1,by show 0<=x.cost+y.cost;omega,h3⟩
def E7(s:List ah)(A:List Int)(z:Bool)(fr:Int):List Way:=s.filterMap (iC s A z fr)
theorem aef{s:List ah}{A:List Int}{z:Bool}{fr:Int}:∀w∈E7 s A z fr,(1<=w.to∧w.to<=6)∧fZ w.aP∧0<=w.cost∧w.cost<60000:=by
 intro w hw
 obtain⟨x,hx,h⟩:=List.mem_filterMap.1 hw
 exact aee hx h
def beyond(s:List ah)(A:List Int)(z:Bool)(fr:Int):List Way:=cC (E7 s A z fr)
theorem QM{s:List ah}{A:List Int}{fr:Int}:∀w∈within s A fr,w.aP.length<=1048576:=by
 intro w hw
 have:=tJ (Ss (λx hx=>(Ah x hx).2.1) hw).1
 omega
theorem I5{s:List ah}{A:List Int}{fr:Int}:(within s A fr).length<=6:=D3 _
theorem QN{s:List ah}{a fr:Int}:∀w∈aC s a fr,w.aP.length<=1048576:=by
 intro w hw
 have:=tJ (gD.2.2 w hw).2.1
 omega
theorem QO{s:List ah}{a fr:Int}:(aC s a fr).length<=7:=gD.2.1
theorem awh(s:List ah)(A:List Int)(z:Bool)(fr:Int)(h:s.length<=1048576)(hn:aR s)(ha:A.length<=1048576):vQ_ [.l (s.map ai),.l (A.map aB),bb z,ii fr]=some [.l ((beyond s A z fr).map bp)]:=by
 rw[aul];simp(disch:=omega) only[↓pQ,pS,↓reduceIte,aj,ak,ap,aq,au,av,aw,ax,ay,oZ,o8,pN,kH_,ad_ _ _ _ h hn ha]
 refine(iP s (λj C=>[.l ((cC C).map bp),ii j]) (λC x=>C++(iC s A z fr x).toList) (λC=>some [T.l ((cC C).map bp)]) [] (λ_ C=>∀x∈C,fZ x.aP) rfl (dG h) (by simp) ?_ ?_).trans (by rw[D4,List.nil_append,I3];rfl)
 ·intro j C hj hC
  have hm:=lg (l:=s) (n:=(j:Int)) (by omega) hj
  have j9:iC s A z fr (gt s j)=none->cC (C++(iC s A z fr (gt s j)).toList)=cC C:=by intro e;rw[e];simp
  refine⟨λx hx=>(List.mem_append.1 hx).elim (hC x) λhx=>?_,λq=>?_⟩
  ·rw[Option.mem_toList]at hx
   exact(aee hm hx).2.1
  by_cases k1:(gt s j).kind=2
  rotate_left
  ·rw[j9 (by unfold iC;rw[if_neg (λh=>k1 h.1)])]
   simp(disch:=omega) only[↓pQ,pS,↓reduceIte,aj,ak,ap,aq,au,av,aw,ax,ay,oZ,o8,pN,dh,hj,k1]
  by_cases k2:(gt s j).cost<60000
  rotate_left
  ·rw[j9 (by unfold iC;rw[if_neg (λh=>k2 h.2.1)])]
   simp(disch:=omega) only[↓pQ,pS,↓reduceIte,aj,ak,ap,aq,au,av,aw,ax,ay,oZ,o8,pN,dh,hj,k1,show(gt s j).cost>=60000 by omega]
  by_cases k3:(gt s j).owner=fr
  ·rw[j9 (by unfold iC;rw[if_neg (λh=>h.2.2.1 k3)])]
   simp(disch:=omega) only[↓pQ,pS,↓reduceIte,aj,ak,ap,aq,au,av,aw,ax,ay,oZ,o8,pN,dh,hj,k1,show¬(gt s j).cost>=60000 by omega,k3]
  by_cases k4:A.contains (gt s j).ae=true
  rotate_left
  ·have k4':A.contains (gt s j).ae=false:=by simpa using k4
   rw[j9 (by unfold iC;rw[if_neg (λh=>k4 h.2.2.2.1)])]
   simp(disch:=omega) only[↓pQ,pS,↓reduceIte,aj,ak,ap,aq,au,av,aw,ax,ay,oZ,o8,pN,dh,hj,k1,show¬(gt s j).cost>=60000 by omega,k3,xo _ _ ha,k4']
  by_cases k5:z=true->(gt s j).ae=0
  rotate_left
  ·have k5':z=true∧(gt s j).ae≠0:=by simpa using k5
   rw[j9 (by unfold iC;rw[if_neg (λh=>k5 h.2.2.2.2.1)])]
   obtain⟨rfl,k6⟩:=k5'
   simp(disch:=omega) only[↓pQ,pS,↓reduceIte,aj,ak,ap,aq,au,av,aw,ax,ay,oZ,o8,pN,dh,hj,k1,show¬(gt s j).cost>=60000 by omega,k3,xo _ _ ha,k4,k6]
  have hW:=Qc (within s A fr) (gt s j).key (by have:=I5 (s:=s) (A:=A) (fr:=fr);omega) QM
  have hV:=Qc (aC s (gt s j).ae fr) (gt s j).owner (by have:=QO (s:=s) (a:=(gt s j).ae) (fr:=fr);omega) QN
  have hI:=Qx s (gt s j).ae fr h hn
  by_cases k6:eP (within s A fr) (gt s j).key<0
  rotate_left
  ·rw[j9 (by unfold iC;rw[if_neg (λh=>k6 h.2.2.2.2.2)])]
   rw[if_neg k6]at hW
   simp only[bp,List.cons_append,List.nil_append]at hW
   by_cases k7:eP (aC s (gt s j).ae fr) (gt s j).owner<0
   ·rw[if_pos k7]at hV
    cases z with
    |true=>rw[k5 rfl]at hV hI k4;simp(disch:=omega) only[↓pQ,pS,↓reduceIte,aj,ak,ap,aq,au,av,aw,ax,ay,oZ,o8,pN,dh,hj,k1,show¬(gt s j).cost>=60000 by omega,k3,xo _ _ ha,k4,k5 rfl,hW,hV,hI]
    |false=>simp(disch:=omega) only[↓pQ,pS,↓reduceIte,aj,ak,ap,aq,au,av,aw,ax,ay,oZ,o8,pN,dh,hj,k1,show¬(gt s j).cost>=60000 by omega,k3,xo _ _ ha,k4,hW,hV,hI]
   ·rw[if_neg k7]at hV
    simp only[bp,List.cons_append,List.nil_append]at hV
    cases z with
    |true=>rw[k5 rfl]at hV hI k4;simp(disch:=omega) only[↓pQ,pS,↓reduceIte,aj,ak,ap,aq,au,av,aw,ax,ay,oZ,o8,pN,dh,hj,k1,show¬(gt s j).cost>=60000 by omega,k3,xo _ _ ha,k4,k5 rfl,hW,hV,hI]
    |false=>simp(disch:=omega) only[↓pQ,pS,↓reduceIte,aj,ak,ap,aq,au,av,aw,ax,ay,oZ,o8,pN,dh,hj,k1,show¬(gt s j).cost>=60000 by omega,k3,xo _ _ ha,k4,hW,hV,hI]
  rw[if_pos k6]at hW
  by_cases k7:eP (aC s (gt s j).ae fr) (gt s j).owner<0
  ·rw[j9 (by unfold iC du;rw[if_pos ⟨k1,k2,k3,k4,k5,k6⟩,if_pos k7])]
   rw[if_pos k7]at hV
   cases z with
   |true=>rw[k5 rfl]at hV hI k4;simp(disch:=omega) only[↓pQ,pS,↓reduceIte,aj,ak,ap,aq,au,av,aw,ax,ay,oZ,o8,pN,dh,hj,k1,show¬(gt s j).cost>=60000 by omega,k3,xo _ _ ha,k4,k5 rfl,hW,hV,hI]
   |false=>simp(disch:=omega) only[↓pQ,pS,↓reduceIte,aj,ak,ap,aq,au,av,aw,ax,ay,oZ,o8,pN,dh,hj,k1,show¬(gt s j).cost>=60000 by omega,k3,xo _ _ ha,k4,hW,hV,hI]
  have hO:du (aC s (gt s j).ae fr) (gt s j).owner=some (gt (aC s (gt s j).ae fr) (eP (aC s (gt s j).ae fr) (gt s j).owner)):=by unfold du;rw[if_neg k7]
  rw[if_neg k7]at hV
  generalize gt (aC s (gt s j).ae fr) (eP (aC s (gt s j).ae fr) (gt s j).owner)=w at hO hV
  have hw:=I4 hO
  have hr:=aed hw.2.2.2.2 hm k1
  simp only[bp,List.cons_append,List.nil_append]at hV
  by_cases k8:(gt s j).cost+w.cost<60000
  rotate_left
  ·rw[j9 (by unfold iC;rw[if_pos ⟨k1,k2,k3,k4,k5,k6⟩,hO];simp only[];rw[if_neg k8])]
   cases z with
   |true=>rw[k5 rfl]at hV hI k4;simp(disch:=omega) only[↓pQ,pS,↓reduceIte,aj,ak,ap,aq,au,av,aw,ax,ay,oZ,o8,pN,dh,hj,k1,show¬(gt s j).cost>=60000 by omega,k3,xo _ _ ha,k4,k5 rfl,hW,hV,hI,show(gt s j).cost+w.cost>=60000 by omega]
   |false=>simp(disch:=omega) only[↓pQ,pS,↓reduceIte,aj,ak,ap,aq,au,av,aw,ax,ay,oZ,o8,pN,dh,hj,k1,show¬(gt s j).cost>=60000 by omega,k3,xo _ _ ha,k4,hW,hV,hI,show(gt s j).cost+w.cost>=60000 by omega]
  have hB:iC s A z fr (gt s j)=some ⟨(gt s j).key,(gt s j).cost+w.cost,w.aP⟩:=by unfold iC;rw[if_pos ⟨k1,k2,k3,k4,k5,k6⟩,hO];simp only[];rw[if_pos k8]
  rw[hB,Option.toList_some,<-ad9 (w:=⟨(gt s j).key,(gt s j).cost+w.cost,w.aP⟩) hC hr.1 hw.2.1]
  cases z with
  |true=>
   rw[k5 rfl]at hV hI k4;simp(disch:=omega) only[↓pQ,pS,↓reduceIte,aj,ak,ap,aq,au,av,aw,ax,ay,oZ,o8,pN,dh,hj,k1,show¬(gt s j).cost>=60000 by omega,k3,xo _ _ ha,k4,k5 rfl,hW,hV,hI,show¬(gt s j).cost+w.cost>=60000 by omega]
   exact awc (cC C) ⟨(gt s j).key,(gt s j).cost+w.cost,w.aP⟩ j q (D2 C hC) (D3 C) (λx hx=>(Ss hC hx).1) hw.2.1 (by omega)
  |false=>
   simp(disch:=omega) only[↓pQ,pS,↓reduceIte,aj,ak,ap,aq,au,av,aw,ax,ay,oZ,o8,pN,dh,hj,k1,show¬(gt s j).cost>=60000 by omega,k3,xo _ _ ha,k4,hW,hV,hI,show¬(gt s j).cost+w.cost>=60000 by omega]
   exact awb (cC C) ⟨(gt s j).key,(gt s j).cost+w.cost,w.aP⟩ j q (D2 C hC) (D3 C) (λx hx=>(Ss hC hx).1) hw.2.1 (by omega)
 ·intro C q hC
  simp(disch:=omega) only[↓pQ,pS,↓reduceIte,aj,ak,ap,aq,au,av,aw,ax,ay,oZ,o8,pN,]
def wz:Way:=⟨0,0,[]⟩
def oW(o:Option Way):Way:=o.getD wz
theorem aeg(w:Way):oW (some w)=w:=rfl
def lB(W:List Way)(ae fr to:Int)(x:ah):Option Way:=
 if x.kind=2∧x.ae=ae∧x.key=to∧x.owner≠fr∧x.cost<60000 then
  match du W x.owner with
  |none=>none
  |some w=>if w.cost+x.cost<60000 then some ⟨to,w.cost+x.cost,w.aP⟩else none
 else none
theorem QP{W:List Way}{ae fr to:Int}{x:ah}(hW:∀w∈W,fZ w.aP){w:Way}(h:lB W ae fr to x=some w):w.to=to∧fZ w.aP:=by
 unfold lB at h
 split at h
 ·split at h
  ·cases h
  ·rename_i y hy
   split at h
   ·cases h;exact⟨rfl,hW y (yC hy).1⟩
   ·cases h
 ·cases h
def xt(o:Option Way)(l:List Way):Option Way:=l.foldl o9 o
theorem aeh{l:List Way}{o:Option Way}(ho:∀b,o=some b->fZ b.aP)(hl:∀w∈l,fZ w.aP):∀b,xt o l=some b->fZ b.aP:=by
 induction l generalizing o with
 |nil=>exact ho
 |cons a l ih=>
  refine ih (o:=o9 o a) (λb hb=>?_) λw hw=>hl w (.tail _ hw)
  cases o with
  |none=>simp only[o9]at hb;cases hb;exact hl _ (.head _)
  |some b0=>simp only[o9]at hb;cases hb;exact Qw (ho b0 rfl) (hl _ (.head _))
theorem awi{α:Type}(f:α->Option Way)(l:List α)(o:Option Way):l.foldl (λo x=>match f x with|none=>o|some w=>o9 o w) o=xt o (l.filterMap f):=by
 induction l generalizing o with
 |nil=>rfl
 |cons a l ih=>
  rw[List.foldl_cons,List.filterMap_cons]
  cases f a with
  |none=>exact ih o
  |some w=>exact ih _
theorem awj(s:List ah)(W:List Way)(ae fr to:Int)(o:Option Way)(h:s.length<=1048576)(hn:aR s)(hs:df s=true)(hWl:W.length<=7)(hW:∀w∈W,fZ w.aP∧0<=w.cost∧w.cost<=6000)(ho:∀b,o=some b->fZ b.aP):
  Zr [.l (s.map ai),.l (W.map bp),ii ae,ii fr,ii to,ii (oW o).to,ii (oW o).cost,.l ((oW o).aP.map aB),bb o.isSome]=(λo':Option Way=>some [ii (oW o').to,ii (oW o').cost,.l ((oW o').aP.map aB),bb o'.isSome]) (xt o (s.filterMap (lB W ae fr to))):=by
 rw[asH];simp(disch:=omega) only[↓pQ,pS,↓reduceIte,aj,ak,ap,aq,au,av,aw,ax,ay,AM,OL]
 refine(iP s (λj o=>[bb o.isSome,ii j,ii (oW o).to,ii (oW o).cost,.l ((oW o).aP.map aB)]) (λo x=>match lB W ae fr to x with|none=>o|some w=>o9 o w) (λo':Option Way=>some [ii (oW o').to,ii (oW o').cost,.l ((oW o').aP.map aB),bb o'.isSome]) o (λ_ o=>∀b,o=some b->fZ b.aP) rfl (dG h) ho ?_ ?_).trans (by rw[awi])
 ·intro j o hj ho
  have hm:=lg (l:=s) (n:=(j:Int)) (by omega) hj
  have hc:=awg hs hm
  constructor
  ·intro b hb
   cases e:lB W ae fr to (gt s j)with
   |none=>rw[e]at hb;exact ho b hb
   |some w=>
    rw[e]at hb
    exact aeh (l:=[w]) ho (by intro y hy;rw[List.mem_singleton]at hy;subst hy;exact(QP (λw hw=>(hW w hw).1) e).2) b hb
  intro q
  have hT:=II W (gt s j).owner (by omega) (λw hw=>by have:=tJ (hW w hw).1;omega)
  by_cases k1:(gt s j).kind=2∧(gt s j).ae=ae∧(gt s j).key=to∧(gt s j).owner≠fr∧(gt s j).cost<60000
  rotate_left
  ·have hr:lB W ae fr to (gt s j)=none:=by unfold lB;rw[if_neg k1]
   rw[hr]
   by_cases a1:(gt s j).kind=2
   ·by_cases a2:(gt s j).ae=ae
    ·by_cases a3:(gt s j).key=to
     ·by_cases a4:(gt s j).owner=fr
      ·simp(disch:=omega) only[↓pQ,pS,↓reduceIte,aj,ak,ap,aq,au,av,aw,ax,ay,AM,hj,a1,a2,a3,a4]
      ·have a5:(gt s j).cost>=60000:=by
        rcases Int.lt_or_le (gt s j).cost 60000 with h|h
        ·exact absurd ⟨a1,a2,a3,a4,h⟩ k1
        ·exact h
       simp(disch:=omega) only[↓pQ,pS,↓reduceIte,aj,ak,ap,aq,au,av,aw,ax,ay,AM,hj,a1,a2,a3,a4,a5]
     ·simp(disch:=omega) only[↓pQ,pS,↓reduceIte,aj,ak,ap,aq,au,av,aw,ax,ay,AM,hj,a1,a2,a3]
    ·simp(disch:=omega) only[↓pQ,pS,↓reduceIte,aj,ak,ap,aq,au,av,aw,ax,ay,AM,hj,a1,a2]
   ·simp(disch:=omega) only[↓pQ,pS,↓reduceIte,aj,ak,ap,aq,au,av,aw,ax,ay,AM,hj,a1]
  obtain⟨a1,a2,a3,a4,a5⟩:=k1
  have a5':¬(gt s j).cost>=60000:=by omega
  by_cases hp:eP W (gt s j).owner<0
  ·have hr:lB W ae fr to (gt s j)=none:=by unfold lB du;rw[if_pos ⟨a1,a2,a3,a4,a5⟩,if_pos hp]
   rw[hr]
   rw[if_pos hp]at hT
   simp(disch:=omega) only[↓pQ,pS,↓reduceIte,aj,ak,ap,aq,au,av,aw,ax,ay,AM,hj,a1,a2,a3,a4,a5',hT,dh]
  rw[if_neg hp]at hT
  have hO:du W (gt s j).owner=some (gt W (eP W (gt s j).owner)):=by unfold du;rw[if_neg hp]
  generalize gt W (eP W (gt s j).owner)=w at hO hT
  have hw:=hW w (yC hO).1
  have p_:=tJ hw.1
  simp only[bp,List.cons_append,List.nil_append]at hT
  by_cases hq:w.cost+(gt s j).cost<60000
  ·have hr:lB W ae fr to (gt s j)=some ⟨to,w.cost+(gt s j).cost,w.aP⟩:=by unfold lB;rw[if_pos ⟨a1,a2,a3,a4,a5⟩,hO];simp only[];rw[if_pos hq]
   rw[hr]
   cases o with
   |none=>simp(disch:=omega) only[↓pQ,pS,↓reduceIte,aj,ak,ap,aq,au,av,aw,ax,ay,AM,hj,a1,a2,a3,a4,a5',hT,show¬w.cost+(gt s j).cost>=60000 by omega,Option.isSome_none,dh];rfl
   |some b=>
    have uH:=tJ (ho b rfl)
    simp(disch:=omega) only[↓pQ,pS,↓reduceIte,aj,ak,ap,aq,au,av,aw,ax,ay,AM,hj,a1,a2,a3,a4,a5',hT,show¬w.cost+(gt s j).cost>=60000 by omega,Option.isSome_some,aeg,ad5 _ _ _ _ _ _ (show b.aP.length<=1048576 by omega) (show w.aP.length<=1048576 by omega),bp];rfl
  ·have hr:lB W ae fr to (gt s j)=none:=by unfold lB;rw[if_pos ⟨a1,a2,a3,a4,a5⟩,hO];simp only[];rw[if_neg hq]
   rw[hr]
   simp(disch:=omega) only[↓pQ,pS,↓reduceIte,aj,ak,ap,aq,au,av,aw,ax,ay,AM,hj,a1,a2,a3,a4,a5',hT,show w.cost+(gt s j).cost>=60000 by omega]
 ·intro o q ho
  simp(disch:=omega) only[↓pQ,pS,↓reduceIte,aj,ak,ap,aq,au,av,aw,ax,ay,AM,]
def xu(s:List ah)(A:List Int)(z:Bool)(fr to:Int):List Way:=(A.filter λa=>!z||a==0).flatMap λa=>s.filterMap (lB (aC s a fr) a fr to)
theorem awk{α:Type}(p:α->Bool)(f:α->List Way)(l:List α)(o:Option Way):l.foldl (λo a=>if p a=true then xt o (f a)else o) o=xt o ((l.filter p).flatMap f):=by
 induction l generalizing o with
 |nil=>rfl
 |cons a l ih=>
  rw[List.foldl_cons,ih,List.filter_cons]
  cases p a with
  |false=>rfl
  |true=>simp[xt]
theorem awl{s:List ah}{A:List Int}{z:Bool}{fr to:Int}:∀w∈xu s A z fr to,w.to=to∧fZ w.aP:=by
 intro w hw
 unfold xu at hw
 obtain⟨a,_,h⟩:=List.mem_flatMap.1 hw
 obtain⟨x,hx,h⟩:=List.mem_filterMap.1 h
 exact QP (λy hy=>(gD.2.2 y hy).2.1) h
theorem awm{s:List ah}{A:List Int}{z:Bool}{fr to:Int}(ht:eP (within s A fr) to<0)(w:Way):w∈xu s A z fr to↔w∈(E7 s A z fr).filter λw=>w.to==to:=by
 unfold xu E7
 rw[List.mem_flatMap,List.mem_filter,List.mem_filterMap]
 constructor
 ·rintro⟨a,ha,h⟩
  obtain⟨x,hx,h⟩:=List.mem_filterMap.1 h
  have ha:=List.mem_filter.1 ha
  unfold lB at h
  split at h
  ·rename_i hc
   obtain⟨c1,c2,c3,c4,c5⟩:=hc
   subst c2 c3
   split at h
   ·cases h
   ·rename_i y hy
    split at h
    ·rename_i hl
     cases h
     refine⟨⟨x,hx,?_⟩,by simp⟩
     unfold iC
     rw[if_pos ⟨c1,c5,c4,List.contains_iff_mem.2 ha.1,λhz=>by have:=ha.2;rw[hz]at this;simpa using this,ht⟩,hy]
     simp only[]
     rw[if_pos (by omega),Int.add_comm]
    ·cases h
  ·cases h
 ·rintro⟨⟨x,hx,h⟩,pD⟩
  obtain⟨⟨c1,c2,c3,c4,c5,c6⟩,y,hy,hl,rfl⟩:=Sw h
  have pD:x.key=to:=by simpa using pD
  refine⟨x.ae,List.mem_filter.2 ⟨List.contains_iff_mem.1 c4,?_⟩,List.mem_filterMap.2 ⟨x,hx,?_⟩⟩
  ·cases z with
   |false=>rfl
   |true=>simp[c5 rfl]
  ·unfold lB
   rw[if_pos ⟨c1,rfl,pD,c3,c2⟩,hy]
   simp only[]
   rw[if_pos (by omega),Int.add_comm,pD]
theorem awn{s:List ah}{A:List Int}{z:Bool}{fr to:Int}(ht:¬eP (within s A fr) to<0):(E7 s A z fr).filter (λw=>w.to==to)=[]:=by
 rw[List.filter_eq_nil_iff]
 intro w hw
 obtain⟨x,hx,h⟩:=List.mem_filterMap.1 hw
 obtain⟨hc,y,_,_,rfl⟩:=Sw h
 intro e
 have e:x.key=to:=by simpa using e
 subst e
 exact ht hc.2.2.2.2.2
theorem awo(s:List ah)(A:List Int)(z:Bool)(fr:Int)(h:s.length<=1048576)(hn:aR s)(ha:A.length<=1048576):Zu [.l (s.map ai),.l (A.map aB),bb z,ii fr]=some [.l ((beyond s A z fr).map bp)]:=by
 have hW:=λa=>gD (s:=s) (ar:=a) (fr:=fr)
 rw[asK];simp(disch:=omega) only[↓pQ,pS,↓reduceIte,aj,ak,ap,aq,au,av,aw,ax,ay,yk,yl,ym,kJ_,aec _ _ _ h hn ha,kk_ _ h hn]
 cases hs:df s with
 |false=>
  have:E7 s A z fr=[]:=by
   unfold E7
   rw[List.filterMap_eq_nil_iff]
   intro x hx
   cases e:iC s A z fr x with
   |none=>rfl
   |some w=>
    obtain⟨_,y,hy,_⟩:=Sw e
    have:=(I4 hy).2.2.2.2
    rw[hs]at this;cases this
  simp(disch:=omega) only[↓pQ,pS,↓reduceIte,aj,ak,ap,aq,au,av,aw,ax,ay,yk,yl,ym,dh]
  unfold beyond
  rw[this]
  rfl
 |true=>
 simp(disch:=omega) only[↓pQ,pS,↓reduceIte,aj,ak,ap,aq,au,av,aw,ax,ay,yk,yl,ym,]
 refine iP A (λj C=>[.l (C.map xr),ii j]) (λC a=>C++[aC s a fr]) (λ_=>some [T.l ((beyond s A z fr).map bp)]) [] (λj C=>C=(A.take j).map (λa=>aC s a fr)) rfl (dG ha) rfl ?_ ?_
 ·intro j C hj hC
  have hl:C.length<=j:=by rw[hC];simp;omega
  refine⟨by rw[List.take_add_one,hC,List.map_append,List.getElem?_eq_getElem (by omega),eC (by omega)];rfl,λq=>?_⟩
  simp(disch:=omega) only[↓pQ,pS,↓reduceIte,aj,ak,ap,aq,au,av,aw,ax,ay,yk,yl,ym,hj,QE _ _ _ h hn,ad',aea]
 ·intro C q hC
  have hC:C=A.map (λa=>aC s a fr):=by rw[hC,List.take_length]
  have hCl:C.length=A.length:=by rw[hC,List.length_map]
  have QL:∀j:Nat,(j:Int)<A.length->gt C (j:Int)=aC s (gt A j) fr:=by
   intro j hj
   rw[eC (by omega),eC (by omega)]
   simp only[hC,List.getElem_map]
  simp(disch:=omega) only[↓pQ,pS,↓reduceIte,aj,ak,ap,aq,au,av,aw,ax,ay,yk,yl,ym,]
  refine(sn 6 (λi c=>[.l (c.map bp),ii (i+1)]) (λc i=>c++(if eP (within s A fr) ((i:Int)+1)<0 then kh (xu s A z fr ((i:Int)+1))else none).toList) (λc=>some [T.l (c.map bp)]) [] (λi c=>c.length<=i) rfl (dG (by omega)) (by simp) ?_ ?_).trans ?_
  ·intro i c hi hc
   refine⟨by cases(if eP (within s A fr) ((i:Int)+1)<0 then kh (xu s A z fr ((i:Int)+1))else none)<;>simp<;>omega,λq'=>?_⟩
   have eg:(i:Int)+1<=6:=by omega
   have hT:=II (within s A fr) ((i:Int)+1) (by have:=I5 (s:=s) (A:=A) (fr:=fr);omega) QM
   by_cases hp:eP (within s A fr) ((i:Int)+1)<0
   rotate_left
   ·rw[if_neg hp]at hT⊢
    simp only[bp,List.cons_append,List.nil_append]at hT
    simp(disch:=omega) only[↓pQ,pS,↓reduceIte,aj,ak,ap,aq,au,av,aw,ax,ay,yk,yl,ym,eg,hT,Option.toList_none,List.append_nil]
   rw[if_pos hp]at hT⊢
   simp(disch:=omega) only[↓pQ,pS,↓reduceIte,aj,ak,ap,aq,au,av,aw,ax,ay,yk,yl,ym,eg,hT,dh]
   refine(iP A (λj o=>[bb o.isSome,ii j,ii (oW o).to,ii (oW o).cost,.l ((oW o).aP.map aB)]) (λo a=>if(!z||a==0)=true then xt o (s.filterMap (lB (aC s a fr) a fr ((i:Int)+1)))else o) (λo=>q' [T.l ((c++o.toList).map bp),ii ((i:Int)+1+1)]) none (λ_ o=>∀b,o=some b->fZ b.aP) rfl (dG ha) (by simp) ?_ ?_).trans (by rw[awk];rfl)
   ·intro j o hj ho
    obtain⟨w1,w2,w3⟩:=hW (gt A j)
    have hlC:(j:Int)<C.length:=by omega
    have hB:=awj s (aC s (gt A j) fr) (gt A j) fr ((i:Int)+1) o h hn hs w2 (λw hw=>(w3 w hw).2) ho
    have cV:=aeh (o:=o) (l:=s.filterMap (lB (aC s (gt A j) fr) (gt A j) fr ((i:Int)+1))) ho (λw hw=>by
     obtain⟨x,_,e⟩:=List.mem_filterMap.1 hw
     exact(QP (λw hw=>(w3 w hw).2.1) e).2)
    cases z with
    |false=>
     refine⟨cV,λq2=>?_⟩
     simp(disch:=omega) only[↓pQ,pS,↓reduceIte,aj,ak,ap,aq,au,av,aw,ax,ay,yk,yl,ym,hj,Sv,QL j hj,hB,dh,Bool.not_false,Bool.true_or]
    |true=>
     by_cases h0:gt A j=0
     ·rw[h0]at hB cV
      refine⟨by rw[h0];exact cV,λq2=>?_⟩
      have JD:=QL j hj
      rw[h0]at JD
      simp(disch:=omega) only[↓pQ,pS,↓reduceIte,aj,ak,ap,aq,au,av,aw,ax,ay,yk,yl,ym,hj,Sv,JD,h0,hB,beq_self_eq_true,Bool.or_true]
     ·have dH:(gt A j==0)=false:=by simpa using h0
      rw[dH]
      refine⟨ho,λq2=>?_⟩
      simp(disch:=omega) only[↓pQ,pS,↓reduceIte,aj,ak,ap,aq,au,av,aw,ax,ay,yk,yl,ym,hj,h0,Bool.not_true,Bool.or_false,dh]
   ·intro o q2 ho
    cases o with
    |none=>simp(disch:=omega) only[↓pQ,pS,↓reduceIte,aj,ak,ap,aq,au,av,aw,ax,ay,yk,yl,ym,dh,Option.isSome_none];simp
    |some b=>simp(disch:=omega) only[↓pQ,pS,↓reduceIte,aj,ak,ap,aq,au,av,aw,ax,ay,yk,yl,ym,Option.isSome_some,aeg];simp
  ·intro c q' hc
   simp(disch:=omega) only[↓pQ,pS,↓reduceIte,aj,ak,ap,aq,au,av,aw,ax,ay,yk,yl,ym,]
  ·rw[D4 (λi:Nat=>(if eP (within s A fr) ((i:Int)+1)<0 then kh (xu s A z fr ((i:Int)+1))else none).toList),List.nil_append]
   congr 3
   unfold beyond cC
   rw[DZ,List.filterMap_map,I3]
   refine congrArg (λf=>List.map bp (List.filterMap f (List.range 6))) (funext λi=>?_)
   show _=kh _
   by_cases hp:eP (within s A fr) ((i:Int)+1)<0
   ·rw[if_pos hp]
    exact ad8 (v:=(i:Int)+1) awl (awm hp)
   ·rw[if_neg hp,awn hp]
    rfl
theorem D5(l:List Way)(v:Int):du l v=l.find? λw=>w.to==v:=by
 cases h:l.find? (λw=>w.to==v)with
 |none=>
  cases h':du l v with
  |none=>rfl
  |some w=>
   have:=yC h'
   have h2:=List.find?_eq_none.1 h w this.1
   simp[this.2]at h2
 |some w=>
  unfold du eP
  have h0:0<=eV (λw:Way=>w.to==v) l:=by
   rcases Int.lt_or_le (eV (λw:Way=>w.to==v) l) 0 with h1|h1
   ·have:=(EP _ _).1 h1 w (List.mem_of_find?_eq_some h)
    have h2:=List.find?_some h
    rw[this]at h2;cases h2
   ·exact h1
  rw[if_neg (by omega)]
  unfold eV at h0⊢
  cases h':l.findIdx? (λw:Way=>w.to==v)with
  |none=>rw[h']at h0;exact absurd h0 (by decide)
  |some i=>
   obtain⟨h1,h2,h3⟩:=List.findIdx?_eq_some_iff_getElem.1 h'
   show some (gt l (i:Int))=some w
   rw[eC h1]
   obtain⟨e,as',bs,e1,e2⟩:=List.find?_eq_some_iff_append.1 h
   subst e1
   congr 1
   rcases Nat.lt_trichotomy i as'.length with h4|h4|h4
   ·have h5:=e2 as'[i] (List.getElem_mem h4)
    rw[List.getElem_append_left h4]at h2
    rw[h2]at h5;cases h5
   ·subst h4;simp
   ·have h5:=h3 as'.length h4
    simp at h5 e
    exact absurd e h5
theorem aei(a b:List Way)(v:Int):du (a++b) v=(du a v).or (du b v):=by
 rw[D5,D5,D5,List.find?_append]
def yD(W:List Way):Prop:=W.length<=1000∧∀w∈W,fZ w.aP∧0<=w.cost∧w.cost<=100000
theorem yD.app{a b:List Way}(ha:a.length<=100)(hb:b.length<=100)(h:yD a)(h':yD b):yD (a++b):=
 ⟨by simp;omega,λw hw=>(List.mem_append.1 hw).elim (h.2 w) (h'.2 w)⟩
def upto(n:Nat):List Int:=(List.range n).map λi:Nat=>(i:Int)+1
theorem awq{n:Nat}{x:Int}:x∈upto n↔1<=x∧x<=n:=by
 unfold upto
 rw[List.mem_map]
 constructor
 ·rintro⟨i,hi,rfl⟩
  have:=List.mem_range.1 hi
  omega
 ·intro h
  exact⟨(x-1).toNat,List.mem_range.2 (by omega),by omega⟩
theorem awr(n:Nat):(upto n).Pairwise (· < ·):=by
 unfold upto
 rw[List.pairwise_map]
 exact List.pairwise_lt_range.imp λ{a b} h=>by omega
theorem aws{n:Nat}{l:List Int}(h:l.Pairwise (· < ·))(hm:∀x∈l,1<=x∧x<=n):l=(upto n).filter λx=>l.contains x:=
 Kk h ((awr n).filter _) λx=>by
  rw[List.mem_filter,awq,List.contains_iff_mem]
  exact⟨λhx=>⟨hm x hx,hx⟩,λhx=>hx.2⟩
theorem I6{n:Nat}{l:List Int}(h:l.Pairwise (· < ·))(hm:∀x∈l,1<=x∧x<=n):l.length<=n:=by
 rw[aws h hm]
 refine Nat.le_trans (List.length_filter_le _ _) ?_
 unfold upto
 simp
theorem aej{c:List Int}(h:c.Pairwise (· < ·))(hl:c.length<=1000)(n:Int){F:af->af}{s:af}{st:List T}(cf:st=[ii 0])
  (h1:∀(k:Nat) (w:af),(k:Int)<c.length->gt c (k:Int)<n->F w [ii k]=w [ii ((k:Int)+1)])
  (h2:∀(k:Nat) (w:af),(k:Int)<c.length->gt c (k:Int)=n->F w [ii k]=s [.l (c.map aB)])
  (h3:∀(k:Nat) (w:af),(k:Int)<c.length->¬gt c (k:Int)<n->gt c (k:Int)≠n->F w [ii k]=s [.l ((c.take k++([n]++c.drop k)).map aB)])
  (h4:∀(k:Nat) (w:af),¬(k:Int)<c.length->k<=c.length->F w [ii k]=s [.l ((c.take k++([n]++c.drop k)).map aB)]):
  iter F rounds st=s [.l ((iJ c n).map aB)]:=by
 have hle:=IJ c n
 obtain⟨c1,c2,c3⟩:=Sn h n
 refine P9 (λk=>[ii k]) (eX c n) cf (dG (by omega)) ?_ ?_
 ·intro k hk w
  exact h1 k w (by omega) (by rw[eC (by omega)];exact(c3 k (by omega)).2 (by omega))
 ·intro w
  by_cases bf:eX c n<c.length
  ·have c_:¬(gt c ((eX c n:Nat):Int)<n):=by rw[eC bf];intro wW;have:=(c3 _ bf).1 wW;omega
   have jz:=Qg h bf
   by_cases km:n∈c
   ·rw[Qf h km]
    exact h2 _ w (by omega) (jz.2 km)
   ·rw[Ac h km]
    exact h3 _ w (by omega) c_ (λe=>km (jz.1 e))
  ·rw[Ac h (Qh h bf)]
   exact h4 _ w (by omega) hle
theorem awt{c:List Int}(h:c.Pairwise (· < ·))(hl:c.length<=1000)(n:Int)(q:af):
  iter (vy xj (.l (c.map aB)) (ii n) q) rounds [ii 0]=q [.l ((iJ c n).map aB)]:=by
 refine aej h hl n rfl ?_ ?_ ?_ ?_
 ·intro k w gx c_
  simp(disch:=omega) only[↓pQ,pS,↓reduceIte,aj,ak,ap,aq,au,av,aw,ax,ay,vy,vz,v_,gx,c_]
 ·intro k w gx c_
  have jz:¬n<n:=by omega
  simp(disch:=omega) only[↓pQ,pS,↓reduceIte,aj,ak,ap,aq,au,av,aw,ax,ay,vy,vz,v_,gx,c_,jz]
 ·intro k w gx c_ jz
  simp(disch:=omega) only[↓pQ,pS,↓reduceIte,aj,ak,ap,aq,au,av,aw,ax,ay,vy,vz,v_,gx,c_,jz,tK _ (show(c.take k).length<=1048576 by simp;omega)]
  rw[G4 (by simp;omega),eB,CD (by simp;omega),eB,List.append_assoc]
 ·intro k w gx c_
  simp(disch:=omega) only[↓pQ,pS,↓reduceIte,aj,ak,ap,aq,au,av,aw,ax,ay,vy,vz,v_,gx,tK _ (show(c.take k).length<=1048576 by simp;omega)]
  rw[G4 (by simp;omega),eB,CD (by simp;omega),eB,List.append_assoc]
theorem awu{c:List Int}(h:c.Pairwise (· < ·))(hl:c.length<=1000)(n:Int)(q:af):
  iter (vz xj (.l (c.map aB)) (ii n) q) rounds [ii 0]=q [.l ((iJ c n).map aB)]:=by
 refine aej h hl n rfl ?_ ?_ ?_ ?_
 ·intro k w gx c_
  simp(disch:=omega) only[↓pQ,pS,↓reduceIte,aj,ak,ap,aq,au,av,aw,ax,ay,vy,vz,v_,gx,c_]
 ·intro k w gx c_
  have jz:¬n<n:=by omega
  simp(disch:=omega) only[↓pQ,pS,↓reduceIte,aj,ak,ap,aq,au,av,aw,ax,ay,vy,vz,v_,gx,c_,jz]
 ·intro k w gx c_ jz
  simp(disch:=omega) only[↓pQ,pS,↓reduceIte,aj,ak,ap,aq,au,av,aw,ax,ay,vy,vz,v_,gx,c_,jz,tK _ (show(c.take k).length<=1048576 by simp;omega)]
  rw[G4 (by simp;omega),eB,CD (by simp;omega),eB,List.append_assoc]
 ·intro k w gx c_
  simp(disch:=omega) only[↓pQ,pS,↓reduceIte,aj,ak,ap,aq,au,av,aw,ax,ay,vy,vz,v_,gx,tK _ (show(c.take k).length<=1048576 by simp;omega)]
  rw[G4 (by simp;omega),eB,CD (by simp;omega),eB,List.append_assoc]
theorem awv{s:List ah}{ar fr:Int}{w:Way}(hw:w∈aC s ar fr):∃v∈aC s ar fr,v.to=fr:=by
 unfold aC at hw⊢
 by_cases hc:df s=true∧gj fr 1 6=true∧0<=je s ar fr
 ·rw[if_pos hc]at hw⊢
  obtain⟨D,hI⟩:=QI hc.1 ar fr 6 (W0 fr) [] (iK.start (bg.1 hc.2.1))
  have hl:=hI.ok.len
  obtain⟨h1,h2⟩:=List.mem_filter.1 hw
  have h2:w.to≠0:=by simpa using h2
  obtain⟨i,hi,rfl⟩:=List.mem_iff_getElem.1 h1
  have pD:=hI.ok.to (i:Int) (by omega) (by omega)
  rw[eC hi]at pD
  have pD:=pD.resolve_left h2
  rcases hI.first with⟨_,hf⟩|hf
  ·have TA:=hI.fr6
   have:=hf (i:Int) (by omega) (by omega) (by rw[eC hi];exact h2)
   exact⟨_,hw,by rw[pD,this]⟩
  ·have h3:=hI.mem fr hf
   have h4:=hI.fr6
   have h5:=(hI.ok.to fr (by omega) (by omega)).resolve_left h3.2
   refine⟨_,List.mem_filter.2 ⟨lg (n:=fr) (by omega) (by omega),?_⟩,h5⟩
   simpa using h3.2
 ·rw[if_neg hc]at hw;cases hw
theorem aww{l:List Way}{w:Way}(h:w∈l):¬eP l w.to<0:=by
 intro hc
 have:=(EP _ _).1 hc w h
 simp at this
theorem awx{s:List ah}{A:List Int}{fr:Int}{v:Way}(h:v∈q_ s A fr):¬eP (within s A fr) v.to<0:=by
 rcases Kt (v:=v.to) _ ((q_ s A fr).filter λw=>w.to==v.to) rfl (λy hy=>by have:=List.mem_filter.1 hy;exact⟨by simpa using this.2,(Ah y this.1).2.1⟩)with⟨e,_⟩|⟨b,e,hb,_⟩
 ·have:v∈(q_ s A fr).filter λw=>w.to==v.to:=List.mem_filter.2 ⟨h,by simp⟩
  rw[e]at this;cases this
 ·have hm:b∈within s A fr:=(I0 (λx hx=>(Ah x hx).2.1)).2 ⟨by rw[hb];exact(Ah v h).1,by rw[hb];exact e⟩
  rw[<-hb]
  exact aww hm
theorem QQ{s:List ah}{A:List Int}{z:Bool}{fr:Int}{w:Way}(h:w∈beyond s A z fr):(1<=w.to∧w.to<=6)∧fZ w.aP∧(0<=w.cost∧w.cost<60000)∧w.to≠fr∧eP (within s A fr) w.to<0:=by
 have h1:=Ss (λx hx=>(aef x hx).2.1) h
 obtain⟨hh,y,hy,e1,e2⟩:=h1
 have h2:=aef y hy
 obtain⟨x,hx,h3⟩:=List.mem_filterMap.1 hy
 obtain⟨h4,y',h5,h6,h7⟩:=Sw h3
 have hk:x.key=w.to:=by rw[<-e1,h7]
 refine⟨by rw[<-e1];exact h2.1,hh,by rw[<-e2];exact h2.2.2,?_,by rw[<-hk];exact h4.2.2.2.2.2⟩
 intro e
 obtain⟨v,hv,ev⟩:=awv (yC h5).1
 have hc:v∈q_ s A fr:=List.mem_flatMap.2 ⟨x.ae,List.contains_iff_mem.1 h4.2.2.2.1,hv⟩
 have h8:=awx hc
 have he:v.to=x.key:=by omega
 rw[he]at h8
 exact h8 h4.2.2.2.2.2
theorem aek{s:List ah}{A:List Int}{fr:Int}{w:Way}(h:w∈within s A fr):(1<=w.to∧w.to<=6)∧fZ w.aP∧(0<=w.cost∧w.cost<=6000):=by
 obtain⟨hh,y,hy,e1,e2⟩:=Ss (λx hx=>(Ah x hx).2.1) h
 have:=Ah y hy
 exact⟨by rw[<-e1];exact this.1,hh,by rw[<-e2];exact this.2.2⟩
theorem ael{s:List ah}{A:List Int}{z:Bool}{fr:Int}:(beyond s A z fr).length<=6:=D3 _
theorem xv{n:Int}{ls:List bO}(h:ei (nA n) mM ls=true){l:bO}(hl:l∈ls):(1<=n∧n<=6)∧(1<=l.a∧l.a<=n)∧(1<=l.b∧l.b<=n)∧l.a<l.b∧(1<=l.cost∧l.cost<=1000)∧0<=l.ae∧l.ae<=2:=by
 obtain⟨i,hi,rfl⟩:=List.mem_iff_getElem.1 hl
 have:=bY.1 h i hi
 rw[eC hi]at this
 simp only[bD,nA,bg,decide_eq_true_eq]at this
 omega
def three:List Int:=[0,1,2]
theorem o_{x:Int}:x∈three↔0<=x∧x<=2:=by simp[three];omega
theorem pc:three.Pairwise (· < ·):=by unfold three;simp
def tN(node a:Int)(l:bO):Bool:=l.ae==a&&(l.a==node||l.b==node)
def ma(ls:List bO)(node:Int):List Int:=three.filter λa=>ls.any (tN node a)
theorem QR(ls:List bO)(node:Int):(ma ls node).length<=3:=List.length_filter_le _ _
theorem awy(node:Int)(ls:List bO)(c:List Int)(hc:c.Pairwise (· < ·)):let K:=ls.foldl (λc x=>if x.a=node∨x.b=node then iJ c x.ae else c) c;K.Pairwise (· < ·)∧∀k,k∈K↔k∈c∨∃x∈ls,(x.a=node∨x.b=node)∧x.ae=k:=by
 induction ls generalizing c with
 |nil=>exact⟨hc,by simp⟩
 |cons x s ih=>
  rw[List.foldl_cons]
  by_cases h:x.a=node∨x.b=node
  ·rw[if_pos h]
   obtain⟨h1,h2⟩:=ih _ (Qd hc x.ae)
   refine⟨h1,λk=>?_⟩
   rw[h2,kg]
   simp only[List.mem_cons]
   constructor
   ·rintro((e|e)|⟨y,hy,e⟩)
    ·exact .inr ⟨x,.inl rfl,h,e.symm⟩
    ·exact .inl e
    ·exact .inr ⟨y,.inr hy,e⟩
   ·rintro(e|⟨y,rfl|hy,e⟩)
    ·exact .inl (.inr e)
    ·exact .inl (.inl e.2.symm)
    ·exact .inr ⟨y,hy,e⟩
  ·rw[if_neg h]
   obtain⟨h1,h2⟩:=ih _ hc
   refine⟨h1,λk=>?_⟩
   rw[h2]
   simp only[List.mem_cons]
   constructor
   ·rintro(e|⟨y,hy,e⟩)
    ·exact .inl e
    ·exact .inr ⟨y,.inr hy,e⟩
   ·rintro(e|⟨y,rfl|hy,e⟩)
    ·exact .inl e
    ·exact absurd e.1 h
    ·exact .inr ⟨y,hy,e⟩
theorem awz{n:Int}{ls:List bO}(h:ei (nA n) mM ls=true)(node:Int):ls.foldl (λc x=>if x.a=node∨x.b=node then iJ c x.ae else c) []=ma ls node:=by
 obtain⟨h1,h2⟩:=awy node ls [] .nil
 refine Kk h1 (pc.filter _) λk=>?_
 unfold ma
 rw[h2,List.mem_filter,o_,List.any_eq_true]
 constructor
 ·rintro(e|⟨x,hx,e,rfl⟩)
  ·cases e
  ·have:=xv h hx
   refine⟨by omega,x,hx,?_⟩
   unfold tN
   rcases e with e|e<;>simp[e]
 ·rintro⟨_,x,hx,e⟩
  unfold tN at e
  simp only[bD,Bool.or_eq_true,beq_iff_eq]at e
  exact .inr ⟨x,hx,e.2,e.1⟩
theorem I7(t0 t2:T)(ls:List bO)(node n:Int)(h:ei (nA n) mM ls=true)(hl:ls.length<=12):HE [t0,.l (ls.map dB),t2,ii node]=some [.l ((ma ls node).map aB)]:=by
 rw[atM];simp(disch:=omega) only[↓pQ,pS,↓reduceIte,aj,ak,ap,aq,au,av,aw,ax,ay,vy,vz,v_,Pf]
 refine(iP ls (λj c=>[.l (c.map aB),ii j]) (λc x=>if x.a=node∨x.b=node then iJ c x.ae else c) (λc=>some [T.l (c.map aB)]) [] (λj c=>c.Pairwise (· < ·)∧∀x∈c,0<=x∧x<=2) rfl (dG (by omega)) ⟨.nil,by simp⟩ ?_ ?_).trans (by rw[awz h])
 ·rintro j c hj ⟨c1,c2⟩
  have hm:=xv h (lg (l:=ls) (n:=(j:Int)) (by omega) hj)
  have hc3:c.length<=3:=by
   have e:c=three.filter λx=>c.contains x:=Kk c1 (pc.filter _) λx=>by
    rw[List.mem_filter,o_,List.contains_iff_mem]
    exact⟨λhx=>⟨c2 x hx,hx⟩,λhx=>hx.2⟩
   rw[e];exact List.length_filter_le _ _
  by_cases k1:(gt ls j).a=node
  ·rw[if_pos (.inl k1)]
   refine⟨⟨Qd c1 _,λx hx=>by rcases kg.1 hx with rfl|hx;omega;exact c2 x hx⟩,λq=>?_⟩
   simp(disch:=omega) only[↓pQ,pS,↓reduceIte,aj,ak,ap,aq,au,av,aw,ax,ay,vy,vz,v_,hj,k1]
   refine(awu c1 (by omega) _ _).trans ?_
   simp(disch:=omega) only[↓pQ,pS,↓reduceIte,aj,ak,ap,aq,au,av,aw,ax,ay,vy,vz,v_,]
  ·by_cases k2:(gt ls j).b=node
   ·rw[if_pos (.inr k2)]
    refine⟨⟨Qd c1 _,λx hx=>by rcases kg.1 hx with rfl|hx;omega;exact c2 x hx⟩,λq=>?_⟩
    simp(disch:=omega) only[↓pQ,pS,↓reduceIte,aj,ak,ap,aq,au,av,aw,ax,ay,vy,vz,v_,hj,k1,k2]
    refine(awt c1 (by omega) _ _).trans ?_
    simp(disch:=omega) only[↓pQ,pS,↓reduceIte,aj,ak,ap,aq,au,av,aw,ax,ay,vy,vz,v_,]
   ·rw[if_neg (by omega)]
    refine⟨⟨c1,c2⟩,λq=>?_⟩
    simp(disch:=omega) only[↓pQ,pS,↓reduceIte,aj,ak,ap,aq,au,av,aw,ax,ay,vy,vz,v_,hj,k1,k2]
 ·rintro c q hc
  simp(disch:=omega) only[↓pQ,pS,↓reduceIte,aj,ak,ap,aq,au,av,aw,ax,ay,vy,vz,v_,]
def Ai(ls:List bO)(node a:Int):List Int:=xn.filter λv=>decide (om ls node v a>0)
theorem aem(t0 t2:T)(ls:List bO)(node a:Int)(hl:ls.length<=12):CU [t0,.l (ls.map dB),t2,ii node,ii a]=some [.l ((Ai ls node a).map aB)]:=by
 rw[arZ];simp(disch:=omega) only[↓pQ,pS,↓reduceIte,aj,ak,ap,aq,au,av,aw,ax,ay,qF_,Oq]
 refine(sn 6 (λi c=>[.l (c.map aB),ii (i+1)]) (λc i=>if decide (om ls node ((i:Int)+1) a>0)=true then c++[(i:Int)+1]else c) (λc=>some [T.l (c.map aB)]) [] (λi c=>c.length<=i) rfl (dG (by omega)) (by simp) ?_ ?_).trans ?_
 ·intro i c hi hc
  have eg:(i:Int)+1<=6:=by omega
  refine⟨by split;(· simp;omega);(· omega),λq=>?_⟩
  by_cases k:om ls node ((i:Int)+1) a>0
  ·simp(disch:=omega) only[↓pQ,pS,↓reduceIte,aj,ak,ap,aq,au,av,aw,ax,ay,qF_,eg,DK _ _ _ _ _ _ (show ls.length<=1048576 by omega),k,decide_true]
  ·simp(disch:=omega) only[↓pQ,pS,↓reduceIte,aj,ak,ap,aq,au,av,aw,ax,ay,qF_,eg,DK _ _ _ _ _ _ (show ls.length<=1048576 by omega),k,decide_false,dh]
 ·intro c q hc
  simp(disch:=omega) only[↓pQ,pS,↓reduceIte,aj,ak,ap,aq,au,av,aw,ax,ay,qF_,]
 ·unfold Ai
  rw[M0 (λi:Nat=>decide (om ls node ((i:Int)+1) a>0)) (λi:Nat=>(i:Int)+1),DZ,List.filter_map]
  rfl
theorem awA{n:Int}{ls:List bO}(h:ei (nA n) mM ls=true)(node a:Int):(Ai ls node a).length>0↔ls.any (tN node a)=true:=by
 unfold Ai
 rw[show((xn.filter λv=>decide (om ls node v a>0)).length>0)↔∃v∈xn,om ls node v a>0 by
  rw[gt_iff_lt,List.length_pos_iff_exists_mem]
  constructor
  ·rintro⟨v,hv⟩
   have:=List.mem_filter.1 hv
   exact⟨v,this.1,by simpa using this.2⟩
  ·rintro⟨v,hv,e⟩
   exact⟨v,List.mem_filter.2 ⟨hv,by simpa using e⟩⟩,List.any_eq_true]
 have key:∀v,om ls node v a>0↔∃x∈ls,iE node v a x=true:=by
  intro v
  have hz:=PW h node v a
  constructor
  ·intro hc
   have h0:0<=eV (iE node v a) ls:=by
    rcases Int.lt_or_le (eV (iE node v a) ls) 0 with h1|h1
    ·have:=hz.2 h1;omega
    ·exact h1
   exact⟨_,lg h0 (sm _ _),ue _ _ h0⟩
  ·rintro⟨x,hx,e⟩
   have h0:¬eV (iE node v a) ls<0:=λhc=>by
    have:=(EP _ _).1 hc x hx
    rw[e]at this;cases this
   have h1:=xv h (lg (l:=ls) (n:=eV (iE node v a) ls) (by omega) (sm _ _))
   unfold om
   rw[if_neg h0]
   omega
 constructor
 ·rintro⟨v,hv,hc⟩
  obtain⟨x,hx,e⟩:=(key v).1 hc
  refine⟨x,hx,?_⟩
  unfold iE at e
  unfold tN
  simp only[bD,Bool.or_eq_true,beq_iff_eq]at e⊢
  rcases e with⟨e1,e2|e2⟩
  ·exact⟨e1,.inl e2.1⟩
  ·exact⟨e1,.inr e2.2⟩
 ·rintro⟨x,hx,e⟩
  have hl:=xv h hx
  unfold tN at e
  simp only[bD,Bool.or_eq_true,beq_iff_eq]at e
  rcases e with⟨e1,e2|e2⟩
  ·exact⟨x.b,jM.2 (by omega),(key _).2 ⟨x,hx,by unfold iE;simp[e1,e2]⟩⟩
  ·exact⟨x.a,jM.2 (by omega),(key _).2 ⟨x,hx,by unfold iE;simp[e1,e2]⟩⟩
theorem aen(t0 t2:T)(ls:List bO)(node n:Int)(h:ei (nA n) mM ls=true)(hl:ls.length<=12):Nb [t0,.l (ls.map dB),t2,ii node]=some [.l ((ma ls node).map aB)]:=by
 rw[ar6];simp(disch:=omega) only[↓pQ,pS,↓reduceIte,aj,ak,ap,aq,au,av,aw,ax,ay,u7_,Ot]
 refine(sn 3 (λi c=>[.l (c.map aB),ii i]) (λc i=>if ls.any (tN node (i:Int))=true then c++[(i:Int)]else c) (λc=>some [T.l (c.map aB)]) [] (λi c=>c.length<=i) rfl (dG (by omega)) (by simp) ?_ ?_).trans ?_
 ·intro i c hi hc
  have eg:(i:Int)<=2:=by omega
  refine⟨by split;(· simp;omega);(· omega),λq=>?_⟩
  have hn:=awA h node (i:Int)
  by_cases k:ls.any (tN node (i:Int))=true
  ·have h1:((Ai ls node (i:Int)).length:Int)>0:=by have:=hn.2 k;omega
   simp(disch:=omega) only[↓pQ,pS,↓reduceIte,aj,ak,ap,aq,au,av,aw,ax,ay,u7_,eg,aem _ _ _ _ _ hl,k,h1]
  ·have h1:¬((Ai ls node (i:Int)).length:Int)>0:=by
    intro hc
    exact k (hn.1 (by omega))
   simp(disch:=omega) only[↓pQ,pS,↓reduceIte,aj,ak,ap,aq,au,av,aw,ax,ay,u7_,eg,aem _ _ _ _ _ hl,k,h1,dh]
 ·intro c q hc
  simp(disch:=omega) only[↓pQ,pS,↓reduceIte,aj,ak,ap,aq,au,av,aw,ax,ay,u7_,]
 ·unfold ma
  rw[M0 (λi:Nat=>ls.any (tN node (i:Int))) (λi:Nat=>(i:Int)),show three=(List.range 3).map (λi:Nat=>(i:Int)) from rfl,List.filter_map]
  rfl
def E8(ls:List bO)(node:Int):Bool:=(ma ls node).contains 0&&decide ((ma ls node).length>1)
theorem aeo(t0 t2:T)(ls:List bO)(node n:Int)(h:ei (nA n) mM ls=true)(hl:ls.length<=12):Dg [t0,.l (ls.map dB),t2,ii node]=some [bb (E8 ls node)]:=by
 have Ku:=QR ls node
 rw[atY];simp(disch:=omega) only[↓pQ,pS,↓reduceIte,aj,ak,ap,aq,au,av,aw,ax,ay,Pp,I7 _ _ _ _ _ h hl,xo _ _ (show(ma ls node).length<=1048576 by omega)]
 unfold E8
 cases(ma ls node).contains 0 with
 |true=>simp(disch:=omega) only[↓pQ,pS,↓reduceIte,aj,ak,ap,aq,au,av,aw,ax,ay,];simp;omega
 |false=>simp(disch:=omega) only[↓pQ,pS,↓reduceIte,aj,ak,ap,aq,au,av,aw,ax,ay,dh];simp
theorem aep(t0 t2:T)(ls:List bO)(node n:Int)(h:ei (nA n) mM ls=true)(hl:ls.length<=12):CV [t0,.l (ls.map dB),t2,ii node]=some [bb (E8 ls node)]:=by
 have Ku:=QR ls node
 rw[ar_];simp(disch:=omega) only[↓pQ,pS,↓reduceIte,aj,ak,ap,aq,au,av,aw,ax,ay,Ov,aen _ _ _ _ _ h hl]
 unfold E8
 by_cases k:((ma ls node).length:Int)>1
 ·have k':(ma ls node).length>1:=by omega
  have h0:∀(p:Int->Bool),(three.filter p).length>1->(three.filter p).contains 0=decide (gt (three.filter p) 0=0):=by
   intro p hp
   unfold three at hp⊢
   simp only[List.filter_cons,List.filter_nil]at hp⊢
   revert hp
   cases p 0<;>cases p 1<;>cases p 2<;>first|(intro _;rfl)|(intro h;exact absurd h (by decide))
  rw[show(ma ls node).contains 0=decide (gt (ma ls node) 0=0) from h0 _ k']
  simp(disch:=omega) only[↓pQ,pS,↓reduceIte,aj,ak,ap,aq,au,av,aw,ax,ay,k,k',decide_true,Bool.and_true]
  rfl
 ·have k':¬(ma ls node).length>1:=by omega
  simp(disch:=omega) only[↓pQ,pS,↓reduceIte,aj,ak,ap,aq,au,av,aw,ax,ay,k,k',decide_false,Bool.and_false]
def ra(ae fr:Int)(w:Way):ah:=⟨ae,2,fr,w.to,0,[],w.cost,false⟩
def vE(here:List Way)(fr:Int)(k:Int):Bool:=decide (eP here k<0)&&decide (k≠fr)
def Aj(here:List Way)(ae fr:Int)(W:List Way)(k:Int):Option ah:=if vE here fr k=true then(du W k).map (ra ae fr)else none
def lh(here:List Way)(ae fr:Int)(W:List Way):List ah:=xn.filterMap (Aj here ae fr W)
theorem Sx{here:List Way}{ae fr:Int}{W:List Way}{k:Int}{r:ah}(h:Aj here ae fr W k=some r):r.key=k∧r.ae=ae∧r.kind=2∧r.owner=fr∧r.aV=[]∧r.seq=0∧r.eY=false∧vE here fr k=true∧∃w,du W k=some w∧r=ra ae fr w:=by
 unfold Aj at h
 split at h
 ·rename_i hc
  obtain⟨w,hw,e⟩:=Option.map_eq_some_iff.1 h
  subst e
  exact⟨(yC hw).2,rfl,rfl,rfl,rfl,rfl,rfl,hc,w,hw,rfl⟩
 ·cases h
theorem ji{here:List Way}{ae fr:Int}{W:List Way}{r:ah}:r∈lh here ae fr W↔(1<=r.key∧r.key<=6)∧Aj here ae fr W r.key=some r:=by
 unfold lh
 rw[List.mem_filterMap]
 constructor
 ·rintro⟨k,hk,h⟩
  have:=(Sx h).1
  subst this
  exact⟨jM.1 hk,h⟩
 ·rintro⟨h1,h2⟩
  exact⟨r.key,jM.2 h1,h2⟩
theorem aeq(here:List Way)(ae fr:Int)(W:List Way):(lh here ae fr W).Pairwise λa b=>a.key<b.key:=by
 unfold lh
 rw[List.pairwise_filterMap]
 refine tI.imp λ{a b} ln x hx y hy=>?_
 rw[(Sx hx).1,(Sx hy).1]
 exact ln
theorem QS(here:List Way)(ae fr:Int)(W:List Way):(lh here ae fr W).length<=6:=List.length_filterMap_le _ _
theorem QT{here:List Way}{ae fr:Int}{W:List Way}{r:ah}(h:r∈lh here ae fr W):r.ae=ae∧r.kind=2∧r.owner=fr∧r.aV=[]:=by
 have:=Sx (ji.1 h).2
 exact⟨this.2.1,this.2.2.1,this.2.2.2.1,this.2.2.2.2.1⟩
theorem QU(here:List Way)(ae fr:Int)(W:List Way):gZ (lh here ae fr W):=by
 unfold gZ
 refine(aeq here ae fr W).imp_of_mem λ{a b} ha hb ln=>?_
 have h1:=QT ha
 have h2:=QT hb
 rw[p7]
 omega
theorem aer(here:List Way)(ae fr:Int)(W:List Way):aR (lh here ae fr W):=λr hr=>by
 rw[(QT hr).2.2.2];simp
theorem I8(W:List Way)(w:Way)(k:Int):du (W++[w]) k=(du W k).or (if w.to=k then some w else none):=by
 rw[aei]
 congr 1
 rw[D5]
 simp only[List.find?_cons,List.find?_nil]
 by_cases h:w.to=k
 ·simp[h]
 ·have:(w.to==k)=false:=by simpa using h
  rw[this,if_neg h]
theorem Sy{here:List Way}{ae fr:Int}{W:List Way}{w:Way}(h:vE here fr w.to=false∨(du W w.to).isSome=true):lh here ae fr (W++[w])=lh here ae fr W:=by
 unfold lh
 refine congrArg (λf=>List.filterMap f xn) (funext λk=>?_)
 unfold Aj
 by_cases hk:vE here fr k=true
 ·rw[if_pos hk,if_pos hk,I8]
  by_cases e:w.to=k
  ·subst e
   rcases h with h|h
   ·rw[h]at hk;cases hk
   ·rw[Option.or_of_isSome h]
  ·rw[if_neg e,Option.or_none]
 ·rw[if_neg hk,if_neg hk]
theorem aes{here:List Way}{ae fr:Int}{W:List Way}{w:Way}(hw:1<=w.to∧w.to<=6)(h1:vE here fr w.to=true)(h2:du W w.to=none):lh here ae fr (W++[w])=cM (lh here ae fr W) (ra ae fr w):=by
 have hs:=Kj (QU here ae fr W) (ra ae fr w)
 refine QG ah.key (aeq _ _ _ _) ?_ λr=>?_
 ·refine hs.imp_of_mem λ{a b} ha hb ln=>?_
  have hm:∀x,x∈cM (lh here ae fr W) (ra ae fr w)->x.ae=ae∧x.kind=2∧x.owner=fr:=by
   intro x hx
   rcases AY hx with rfl|hx
   ·exact⟨rfl,rfl,rfl⟩
   ·have:=QT hx;exact⟨this.1,this.2.1,this.2.2.1⟩
  have h1:=hm a ha
  have h2:=hm b hb
  rw[p7]at ln
  omega
 ·have hp:r∈cM (lh here ae fr W) (ra ae fr w)↔r=ra ae fr w∨(r∈lh here ae fr W∧r.key≠w.to):=by
   unfold cM
   simp only[List.mem_append,List.mem_filter,List.mem_singleton]
   constructor
   ·rintro(⟨h,q⟩|h|⟨h,q⟩)
    ·have hx:=QT h
     rw[p7]at q
     simp only[ra]at q
     exact .inr ⟨h,by omega⟩
    ·exact .inl h
    ·have hx:=QT h
     rw[p7]at q
     simp only[ra]at q
     exact .inr ⟨h,by omega⟩
   ·rintro(h|⟨h,q⟩)
    ·exact .inr (.inl h)
    ·have hx:=QT h
     rcases Int.lt_or_gt_of_ne q with q|q
     ·exact .inl ⟨h,by rw[p7];simp only[ra];omega⟩
     ·exact .inr (.inr ⟨h,by rw[p7];simp only[ra];omega⟩)
  rw[hp,ji,ji]
  unfold Aj
  constructor
  ·rintro⟨hk,h⟩
   split at h
   ·rename_i hc
    rw[I8]at h
    by_cases e:w.to=r.key
    ·rw[if_pos e,<-e,h2,Option.none_or]at h
     simp only[Option.map_some,bG]at h
     exact .inl h.symm
    ·rw[if_neg e,Option.or_none]at h
     exact .inr ⟨⟨hk,by rw[if_pos hc];exact h⟩,λe'=>e e'.symm⟩
   ·cases h
  ·rintro(rfl|⟨⟨hk,h⟩,dH⟩)
   ·refine⟨hw,?_⟩
    show(if vE here fr w.to=true then _ else none)=_
    rw[if_pos h1]
    show(du (W++[w]) w.to).map _=_
    rw[I8,h2,if_pos rfl]
    rfl
   ·refine⟨hk,?_⟩
    have e1:du (W++[w]) r.key=du W r.key:=by rw[I8,if_neg (λe:w.to=r.key=>dH e.symm),Option.or_none]
    rw[e1]
    exact h
def aet(A:List Int)(ae:Int):List Int:=A.filter λa=>!(a==ae)
def I9(s:List ah)(A:List Int)(fr ae:Int):List Way:=within s (aet A ae) fr++if ae=0 then []else beyond s A true fr
def cG(s:List ah)(A:List Int)(fr ae:Int):List ah:=lh (aC s ae fr) ae fr (I9 s A fr ae)
theorem aeu(here:List Way)(ae fr:Int):lh here ae fr []=[]:=by
 unfold lh
 rw[List.filterMap_eq_nil_iff]
 intro k _
 unfold Aj
 have:du [] k=none:=rfl
 rw[this]
 split<;>rfl
theorem awB(W:List Way)(k:Int):(du W k).isSome=true↔¬eP W k<0:=by
 unfold du
 split<;>simp_all
theorem aev{here:List Way}{ae fr:Int}{W:List Way}{w:Way}(hw:1<=w.to∧w.to<=6)(h1:vE here fr w.to=true):bn (lh here ae fr W) (ra ae fr w)<0↔du W w.to=none:=by
 unfold bn
 rw[EP]
 constructor
 ·intro h
  cases e:du W w.to with
  |none=>rfl
  |some v=>
   have hv:=(yC e).2
   have hm:ra ae fr v∈lh here ae fr W:=ji.2 ⟨by show 1<=v.to∧v.to<=6;omega,by
    show Aj here ae fr W v.to=_
    unfold Aj
    rw[hv,if_pos h1,e];rfl⟩
   have:=h _ hm
   simp[dO,ra,hv]at this
 ·intro h x hx
  have h2:=ji.1 hx
  obtain⟨h3,_,_,_,_,_,_,_,v,h4,h5⟩:=Sx h2.2
  cases hs:dO x (ra ae fr w)with
  |false=>rfl
  |true=>
   have:x.key=w.to:=by simp only[dO,bD,decide_eq_true_eq]at hs;exact hs.2.2.2
   rw[this,h]at h4;cases h4
theorem awC(s:List ah)(A:List Int)(fr ae:Int)(h:s.length<=1048576)(hn:aR s)(ha:A.length<=1048576):Dk [.l (s.map ai),.l (A.map aB),ii fr,ii ae]=some [.l ((cG s A fr ae).map ai)]:=by
 rw[aun];simp(disch:=omega) only[↓pQ,pS,↓reduceIte,aj,ak,ap,aq,au,av,aw,ax,ay,wb,wc,we,PA]
 refine(iP A (λj c=>[.l (c.map aB),ii j]) (λc a=>if(!(a==ae))=true then c++[a]else c) (λc=>if c.length<=1048576 then some [T.l ((lh (aC s ae fr) ae fr (within s c fr++if ae=0 then []else beyond s A true fr)).map ai)]else none) [] (λj c=>c.length<=j) rfl (dG ha) (by simp) ?_ ?_).trans ?_
 ·intro j c hj hc
  refine⟨by split;(· simp;omega);(· omega),λq=>?_⟩
  by_cases k:gt A j=ae
  ·have:(!(gt A j==ae))=false:=by simpa using k
   rw[this]
   simp(disch:=omega) only[↓pQ,pS,↓reduceIte,aj,ak,ap,aq,au,av,aw,ax,ay,wb,wc,we,hj,k,dh]
  ·have:(!(gt A j==ae))=true:=by simpa using k
   rw[this]
   simp(disch:=omega) only[↓pQ,pS,↓reduceIte,aj,ak,ap,aq,au,av,aw,ax,ay,wb,wc,we,hj,k]
 ·intro c q hc
  rw[if_pos (by omega)]
  have hH:=Qx s ae fr h hn
  have hWl:=I5 (s:=s) (A:=c) (fr:=fr)
  have hBl:=ael (s:=s) (A:=A) (z:=true) (fr:=fr)
  have hT:=λk:Int=>Qc (aC s ae fr) k (by have:=QO (s:=s) (a:=ae) (fr:=fr);omega) QN
  simp(disch:=omega) only[↓pQ,pS,↓reduceIte,aj,ak,ap,aq,au,av,aw,ax,ay,wb,wc,we,hH,ad_ s c fr h hn (by omega)]
  refine(iP (within s c fr) (λj P=>[ii j,.l ((lh (aC s ae fr) ae fr P).map ai),.l ((within s c fr).map bp)]) (λP w=>P++[w]) (λP=>some [T.l ((lh (aC s ae fr) ae fr (P++if ae=0 then []else beyond s A true fr)).map ai)]) [] (λ_ _=>True) (by rw[aeu];rfl) (dG (by omega)) trivial ?_ ?_).trans (by rw[QJ,List.nil_append])
  ·intro j P hj _
   refine⟨trivial,λq=>?_⟩
   have hm:=(aek (lg (l:=within s c fr) (n:=(j:Int)) (by omega) hj)).1
   generalize hw:gt (within s c fr) (j:Int)=w at hm
   have hTl:=QS (aC s ae fr) ae fr P
   have hk:=IB (lh (aC s ae fr) ae fr P) ae 2 fr w.to (ii 0) (.l []) (ii w.cost) (bb false) (by omega)
   rw[show eV (λx=>dO x ⟨ae,2,fr,w.to,0,[],0,false⟩) (lh (aC s ae fr) ae fr P)=bn (lh (aC s ae fr) ae fr P) (ra ae fr w) from rfl]at hk
   have hp:=DQ (lh (aC s ae fr) ae fr P) ae 2 fr w.to 0 [] w.cost false (by omega) (aer _ _ _ _) (QU _ _ _ _) (by simp)
   rw[show(⟨ae,2,fr,w.to,0,[],w.cost,false⟩:ah)=ra ae fr w from rfl]at hp
   rw[List.map_nil]at hp
   have hT:=hT w.to
   by_cases k1:eP (aC s ae fr) w.to<0
   ·rw[if_pos k1]at hT
    by_cases k2:w.to=fr
    ·rw[Sy (.inl (by unfold vE;simp[k2]))]
     rw[k2]at hT
     simp(disch:=omega) only[↓pQ,pS,↓reduceIte,aj,ak,ap,aq,au,av,aw,ax,ay,wb,wc,we,hj,hw,hT,k2,dh]
    ·have ht:vE (aC s ae fr) fr w.to=true:=by unfold vE;simp[k1,k2]
     have jQ:=aev (ae:=ae) (W:=P) hm ht
     cases ho:du P w.to with
     |none=>
      rw[aes hm ht ho]
      have jQ:=jQ.2 ho
      simp(disch:=omega) only[↓pQ,pS,↓reduceIte,aj,ak,ap,aq,au,av,aw,ax,ay,wb,wc,we,hj,hw,hT,k2,dh,hk,jQ,hp]
     |some v=>
      rw[Sy (.inr (by rw[ho];rfl))]
      have jQ:¬bn (lh (aC s ae fr) ae fr P) (ra ae fr w)<0:=λh=>by rw[jQ.1 h]at ho;cases ho
      simp(disch:=omega) only[↓pQ,pS,↓reduceIte,aj,ak,ap,aq,au,av,aw,ax,ay,wb,wc,we,hj,hw,hT,k2,dh,hk,jQ]
   ·rw[if_neg k1]at hT
    simp only[bp,List.cons_append,List.nil_append]at hT
    rw[Sy (.inl (by unfold vE;simp[k1]))]
    simp(disch:=omega) only[↓pQ,pS,↓reduceIte,aj,ak,ap,aq,au,av,aw,ax,ay,wb,wc,we,hj,hw,hT]
  ·intro P q _
   by_cases k0:ae=0
   ·rw[if_pos k0,List.append_nil]
    simp(disch:=omega) only[↓pQ,pS,↓reduceIte,aj,ak,ap,aq,au,av,aw,ax,ay,wb,wc,we,k0]
   ·rw[if_neg k0]
    simp(disch:=omega) only[↓pQ,pS,↓reduceIte,aj,ak,ap,aq,au,av,aw,ax,ay,wb,wc,we,k0,awh s A true fr h hn ha]
    refine(iP (beyond s A true fr) (λj P=>[ii j,.l ((lh (aC s ae fr) ae fr P).map ai),.l ((beyond s A true fr).map bp)]) (λP w=>P++[w]) (λP=>some [T.l ((lh (aC s ae fr) ae fr P).map ai)]) P (λ_ _=>True) rfl (dG (by omega)) trivial ?_ ?_).trans (by rw[QJ])
    ·intro j P hj _
     refine⟨trivial,λq=>?_⟩
     have hm:=(QQ (lg (l:=beyond s A true fr) (n:=(j:Int)) (by omega) hj)).1
     generalize hw:gt (beyond s A true fr) (j:Int)=w at hm
     have hTl:=QS (aC s ae fr) ae fr P
     have hk:=IB (lh (aC s ae fr) ae fr P) ae 2 fr w.to (ii 0) (.l []) (ii w.cost) (bb false) (by omega)
     rw[show eV (λx=>dO x ⟨ae,2,fr,w.to,0,[],0,false⟩) (lh (aC s ae fr) ae fr P)=bn (lh (aC s ae fr) ae fr P) (ra ae fr w) from rfl]at hk
     have hp:=DQ (lh (aC s ae fr) ae fr P) ae 2 fr w.to 0 [] w.cost false (by omega) (aer _ _ _ _) (QU _ _ _ _) (by simp)
     rw[show(⟨ae,2,fr,w.to,0,[],w.cost,false⟩:ah)=ra ae fr w from rfl]at hp
     rw[List.map_nil]at hp
     have hT:=hT w.to
     by_cases k1:eP (aC s ae fr) w.to<0
     ·rw[if_pos k1]at hT
      by_cases k2:w.to=fr
      ·rw[Sy (.inl (by unfold vE;simp[k2]))]
       rw[k2]at hT
       simp(disch:=omega) only[↓pQ,pS,↓reduceIte,aj,ak,ap,aq,au,av,aw,ax,ay,wb,wc,we,hj,hw,hT,k2,dh]
      ·have ht:vE (aC s ae fr) fr w.to=true:=by unfold vE;simp[k1,k2]
       have jQ:=aev (ae:=ae) (W:=P) hm ht
       cases ho:du P w.to with
       |none=>
        rw[aes hm ht ho]
        have jQ:=jQ.2 ho
        simp(disch:=omega) only[↓pQ,pS,↓reduceIte,aj,ak,ap,aq,au,av,aw,ax,ay,wb,wc,we,hj,hw,hT,k2,dh,hk,jQ,hp]
       |some v=>
        rw[Sy (.inr (by rw[ho];rfl))]
        have jQ:¬bn (lh (aC s ae fr) ae fr P) (ra ae fr w)<0:=λh=>by rw[jQ.1 h]at ho;cases ho
        simp(disch:=omega) only[↓pQ,pS,↓reduceIte,aj,ak,ap,aq,au,av,aw,ax,ay,wb,wc,we,hj,hw,hT,k2,dh,hk,jQ]
     ·rw[if_neg k1]at hT
      simp only[bp,List.cons_append,List.nil_append]at hT
      rw[Sy (.inl (by unfold vE;simp[k1]))]
      simp(disch:=omega) only[↓pQ,pS,↓reduceIte,aj,ak,ap,aq,au,av,aw,ax,ay,wb,wc,we,hj,hw,hT]
    ·intro P q _
     simp(disch:=omega) only[↓pQ,pS,↓reduceIte,aj,ak,ap,aq,au,av,aw,ax,ay,wb,wc,we,]
 ·rw[Hb,List.nil_append,if_pos (by have:=List.length_filter_le (λa=>!(a==ae)) A;omega)]
  rfl
theorem awD{s:List ah}(hs:df s=false)(A:List Int)(fr ae:Int):cG s A fr ae=[]:=by
 have hw:∀a,aC s a fr=[]:=λa=>by unfold aC;rw[if_neg (by rw[hs];simp)]
 have h1:∀A,q_ s A fr=[]:=λA=>by unfold q_;rw[List.flatMap_eq_nil_iff];intro a _;exact hw a
 have h2:∀A,within s A fr=[]:=λA=>by unfold within;rw[h1];rfl
 have h3:beyond s A true fr=[]:=by
  unfold beyond
  have:E7 s A true fr=[]:=by
   unfold E7
   rw[List.filterMap_eq_nil_iff]
   intro x hx
   cases e:iC s A true fr x with
   |none=>rfl
   |some w=>
    obtain⟨_,y,hy,_⟩:=Sw e
    have:=(I4 hy).2.2.2.2
    rw[hs]at this;cases this
  rw[this];rfl
 unfold cG I9
 rw[h2,h3]
 have:(if ae=0 then([]:List Way)else [])=[]:=by split<;>rfl
 rw[this]
 exact aeu _ _ _
theorem QV{W:List Way}(hl:W.length<=1048576)(hW:∀w∈W,w.aP.length<=1048576)(k:Int):AF [.l (W.map bp),ii k]=some (match du W k with|none=>[ii 0,ii 0,.l [],bb false]|some w=>bp w++[bb true]):=by
 rw[II W k hl hW]
 unfold du
 split<;>rfl
theorem awE(s:List ah)(A:List Int)(fr ae:Int)(h:s.length<=1048576)(hn:aR s)(ha:A.length<=1048576):CZ [.l (s.map ai),.l (A.map aB),ii fr,ii ae]=some [.l ((cG s A fr ae).map ai)]:=by
 rw[asM];simp(disch:=omega) only[↓pQ,pS,↓reduceIte,aj,ak,ap,aq,au,av,aw,ax,ay,yn,yo,OM,kk_ _ h hn]
 cases hs:df s with
 |false=>rw[awD hs];simp(disch:=omega) only[↓pQ,pS,↓reduceIte,aj,ak,ap,aq,au,av,aw,ax,ay,yn,yo,dh];rfl
 |true=>
 simp(disch:=omega) only[↓pQ,pS,↓reduceIte,aj,ak,ap,aq,au,av,aw,ax,ay,yn,yo,]
 refine(iP A (λj c=>[.l (c.map aB),ii j]) (λc a=>if(!(a==ae))=true then c++[a]else c) (λc=>if c.length<=1048576 then some [T.l ((lh (aC s ae fr) ae fr (within s c fr++if ae=0 then []else beyond s A true fr)).map ai)]else none) [] (λj c=>c.length<=j) rfl (dG ha) (by simp) ?_ ?_).trans ?_
 ·intro j c hj hc
  refine⟨by split;(· simp;omega);(· omega),λq=>?_⟩
  by_cases k:gt A j=ae
  ·have:(!(gt A j==ae))=false:=by simpa using k
   rw[this]
   simp(disch:=omega) only[↓pQ,pS,↓reduceIte,aj,ak,ap,aq,au,av,aw,ax,ay,yn,yo,hj,k,dh]
  ·have:(!(gt A j==ae))=true:=by simpa using k
   rw[this]
   simp(disch:=omega) only[↓pQ,pS,↓reduceIte,aj,ak,ap,aq,au,av,aw,ax,ay,yn,yo,hj,k]
 ·intro c q hc
  rw[if_pos (by omega)]
  have hWl:=I5 (s:=s) (A:=c) (fr:=fr)
  have hBl:=ael (s:=s) (A:=A) (z:=true) (fr:=fr)
  have hT:=λk:Int=>QV (W:=aC s ae fr) (by have:=QO (s:=s) (a:=ae) (fr:=fr);omega) QN k
  have hU:=λk:Int=>QV (W:=within s c fr) (by omega) QM k
  have hV:=λk:Int=>QV (W:=beyond s A true fr) (by omega) (λw hw=>by have:=tJ (QQ hw).2.1;omega) k
  simp(disch:=omega) only[↓pQ,pS,↓reduceIte,aj,ak,ap,aq,au,av,aw,ax,ay,yn,yo,QE s ae fr h hn,aec s c fr h hn (by omega),awo s A true fr h hn ha]
  refine(sn 6 (λi D=>[.l (D.map ai),ii (i+1)]) (λD i=>D++(Aj (aC s ae fr) ae fr (within s c fr++if ae=0 then []else beyond s A true fr) ((i:Int)+1)).toList) (λD=>some [T.l (D.map ai)]) [] (λi D=>D.length<=i) rfl (dG (by omega)) (by simp) ?_ ?_).trans ?_
  ·intro i D hi hD
   have eg:(i:Int)+1<=6:=by omega
   have hT:=hT ((i:Int)+1)
   have hU:=hU ((i:Int)+1)
   have hV:=hV ((i:Int)+1)
   refine⟨by cases Aj (aC s ae fr) ae fr (within s c fr++if ae=0 then []else beyond s A true fr) ((i:Int)+1)<;>simp<;>omega,λq=>?_⟩
   have uQ:∀c:Int,Prim.ev (.lit 8 [true,true,true,true,true,false,true,true]) [ii ae,ii 2,ii fr,ii ((i:Int)+1),ii 0,.l [],ii c,bb false]=some (.l ([(⟨ae,2,fr,(i:Int)+1,0,[],c,false⟩:ah)].map ai)):=λc=>WR ae 2 fr ((i:Int)+1) 0 [] c false
   unfold Aj vE
   have hz:(du (aC s ae fr) ((i:Int)+1)).isSome=true↔¬eP (aC s ae fr) ((i:Int)+1)<0:=awB _ _
   cases hh:du (aC s ae fr) ((i:Int)+1)with
   |some w=>
    rw[hh]at hT hz
    have k1:¬eP (aC s ae fr) ((i:Int)+1)<0:=hz.1 rfl
    simp only[bp,List.cons_append,List.nil_append]at hT
    rw[if_neg (by simp[k1])]
    simp(disch:=omega) only[↓pQ,pS,↓reduceIte,aj,ak,ap,aq,au,av,aw,ax,ay,yn,yo,eg,hT,Option.toList_none,List.append_nil]
   |none=>
    rw[hh]at hT hz
    have k1:eP (aC s ae fr) ((i:Int)+1)<0:=by
     rcases Int.lt_or_le (eP (aC s ae fr) ((i:Int)+1)) 0 with h|h
     ·exact h
     ·have:=hz.2 (by omega);cases this
    simp only[]at hT
    by_cases k2:(i:Int)+1=fr
    ·rw[if_neg (by simp[k2])]
     subst k2
     simp(disch:=omega) only[↓pQ,pS,↓reduceIte,aj,ak,ap,aq,au,av,aw,ax,ay,yn,yo,eg,hT,eq_self,Option.toList_none,List.append_nil,dh]
    rw[if_pos (by simp[k1,k2]),aei]
    cases hu:du (within s c fr) ((i:Int)+1)with
    |some w=>
     rw[hu]at hU
     have Wb:=(yC hu).2
     simp only[bp,List.cons_append,List.nil_append]at hU
     rw[Option.some_or]
     simp only[Option.map_some,Option.toList_some,ra,Wb]
     simp(disch:=omega) only[↓pQ,pS,↓reduceIte,aj,ak,ap,aq,au,av,aw,ax,ay,yn,yo,eg,hT,hU,k2,dh,uQ]
    |none=>
     rw[hu]at hU
     simp only[]at hU
     rw[Option.none_or]
     by_cases k3:ae=0
     ·rw[if_pos k3]
      subst k3
      rw[show du [] ((i:Int)+1)=none from rfl]
      simp(disch:=omega) only[↓pQ,pS,↓reduceIte,aj,ak,ap,aq,au,av,aw,ax,ay,yn,yo,eg,hT,hU,k2,eq_self,dh,Option.map_none,Option.toList_none,List.append_nil]
     ·rw[if_neg k3]
      cases hv:du (beyond s A true fr) ((i:Int)+1)with
      |none=>
       rw[hv]at hV
       simp only[]at hV
       simp(disch:=omega) only[↓pQ,pS,↓reduceIte,aj,ak,ap,aq,au,av,aw,ax,ay,yn,yo,eg,hT,hU,hV,k2,k3,dh,Option.map_none,Option.toList_none,List.append_nil]
      |some w=>
       rw[hv]at hV
       have Wb:=(yC hv).2
       simp only[bp,List.cons_append,List.nil_append]at hV
       simp only[Option.map_some,Option.toList_some,ra,Wb]
       simp(disch:=omega) only[↓pQ,pS,↓reduceIte,aj,ak,ap,aq,au,av,aw,ax,ay,yn,yo,eg,hT,hU,hV,k2,k3,dh,uQ]
  ·intro D q hD
   simp(disch:=omega) only[↓pQ,pS,↓reduceIte,aj,ak,ap,aq,au,av,aw,ax,ay,yn,yo,]
  ·rw[D4 (λi:Nat=>(Aj (aC s ae fr) ae fr (within s c fr++if ae=0 then []else beyond s A true fr) ((i:Int)+1)).toList),List.nil_append,I3]
   unfold lh
   rw[DZ,List.filterMap_map]
   rfl
 ·rw[Hb,List.nil_append,if_pos (by have:=List.length_filter_le (λa=>!(a==ae)) A;omega)]
  rfl
theorem aew{α:Type} [Inhabited α]{ok:α->Bool}{lt:α->α->Bool}(tr:∀a b c,lt a b=true->lt b c=true->lt a c=true){l:List α}(h:ei ok lt l=true):l.Pairwise λa b=>lt a b=true:=by
 have h:=bY.1 h
 rw[List.pairwise_iff_getElem]
 have step:∀i,(hi:i+1<l.length)->lt l[i] l[i+1]=true:=by
  intro i hi
  have:=h (i+1) hi
  simp only[bD,Bool.or_eq_true,Bool.not_eq_true',decide_eq_false_iff_not]at this
  have h2:=this.2.resolve_left (by omega)
  rwa[show(((i+1:Nat):Int)-1)=(i:Int) by omega,eC (by omega),eC hi]at h2
 intro i j hi hj rV
 obtain⟨d,rfl⟩:∃d,j=i+1+d:=⟨j-i-1,by omega⟩
 clear rV
 induction d with
 |zero=>exact step i (by omega)
 |succ d ih=>exact tr _ _ _ (ih (by omega)) (step (i+1+d) (by omega))
theorem D6{α:Type} [Inhabited α]{ok:α->Bool}{lt:α->α->Bool}{l:List α}(h1:∀x∈l,ok x=true)(h2:l.Pairwise λa b=>lt a b=true):ei ok lt l=true:=by
 unfold ei
 rw[bY]
 intro i hi
 rw[eC hi]
 simp only[bD,Bool.or_eq_true,Bool.not_eq_true',decide_eq_false_iff_not]
 refine⟨h1 _ (List.getElem_mem hi),?_⟩
 rcases Nat.eq_zero_or_pos i with h0|h0
 ·exact .inl (by omega)
 ·right
  rw[show((i:Int)-1)=((i-1:Nat):Int) by omega,eC (by omega)]
  exact List.pairwise_iff_getElem.1 h2 (i-1) i (by omega) hi (by omega)
theorem pd{a b ar:Int}{l:bO}:iE a b ar l=true↔l.ae=ar∧(l.a=a∧l.b=b∨l.a=b∧l.b=a):=by
 unfold iE
 simp only[bD,Bool.or_eq_true,beq_iff_eq]
theorem I_{α:Type} [Inhabited α]{p:α->Bool}{l:List α}{x:α}(hx:x∈l)(h:p x=true):0<=eV p l:=by
 rcases Int.lt_or_le (eV p l) 0 with h1|h1
 ·have:=(EP _ _).1 h1 x hx
  rw[h]at this;cases this
 ·exact h1
def aex(ls:List bO)(L:List Bool)(a b ar:Int):Int:=
 if eV (iE a b ar) ls<0 then 0 else if gt L (eV (iE a b ar) ls)=true then(gt ls (eV (iE a b ar) ls)).cost else 0
def awF(ls:List bO)(L U:List Bool)(node a:Int):List cB:=(xn.filter λv=>decide (aex ls L node v a>0)&&gt U (v-1)).map λv=>⟨v,aex ls L node v a⟩
theorem awG{o:Int}{l:List cB}(h1:∀x∈l,(1<=x.to∧x.to<=6)∧x.to≠o∧1<=x.cost∧x.cost<=1000)(h2:l.Pairwise λa b=>a.to<b.to):wh o l=true:=by
 unfold wh
 rw[bY]
 intro i hi
 have h3:=h1 _ (List.getElem_mem hi)
 rw[eC hi]
 simp only[bD,Bool.or_eq_true,Bool.not_eq_true',decide_eq_false_iff_not,bg,decide_eq_true_eq]
 refine⟨⟨⟨h3.1,h3.2.1⟩,h3.2.2⟩,?_⟩
 rcases Nat.eq_zero_or_pos i with h0|h0
 ·exact .inl (by omega)
 ·right
  rw[show((i:Int)-1)=((i-1:Nat):Int) by omega,eC (by omega)]
  exact List.pairwise_iff_getElem.1 h2 (i-1) i (by omega) hi (by omega)
def sB(r:ah):Bool:=r.kind==3
def qh(k:Nat)(s:List ah):Prop:=gZ s∧(∀r∈s,eW r=true)∧(s.filter sB).length<=k
theorem awH{o:Int}{l:List cB}(h:wh o l=true):l.length<=6:=by
 rw[<-List.length_map (f:=cB.to)]
 refine I6 (n:=6) ?_ ?_
 ·rw[List.pairwise_map]
  exact ad0 h
 ·intro x hx
  obtain⟨y,hy,rfl⟩:=List.mem_map.1 hx
  exact(So h hy).1
theorem QW{r:ah}(h:eW r=true):r.aV.length<=6:=by
 unfold eW at h
 simp only[bD]at h
 have h:=h.2
 split at h
 ·simp only[bD]at h
  exact awH h.1.1.2
 ·split at h
  ·simp only[bD,decide_eq_true_eq]at h
   omega
  ·split at h
   ·simp only[bD,decide_eq_true_eq]at h
    omega
   ·cases h
theorem Ja{r:ah}(h:eW r=true):(1<=r.owner∧r.owner<=6)∧(r.kind=1∧r.key=0∧0<=r.ae∧r.ae<=2∨r.kind=2∧(1<=r.key∧r.key<=6)∧0<=r.ae∧r.ae<=2∨r.kind=3):=by
 unfold eW at h
 simp only[bD,bg]at h
 refine⟨h.1.1,?_⟩
 have h:=h.2
 split at h
 ·simp only[bD,bg,decide_eq_true_eq]at h
  omega
 ·split at h
  ·simp only[bD,bg,decide_eq_true_eq]at h
   omega
  ·split at h
   ·omega
   ·cases h
theorem qh.aV{k:Nat}{s:List ah}(h:qh k s):aR s:=λr hr=>by
 have:=QW (h.2.1 r hr);omega
theorem awI(s:List ah)(h:∀r∈s,r.kind=1∨r.kind=2∨r.kind=3):s.length=(s.filter λr=>r.kind==1).length+(s.filter λr=>r.kind==2).length+(s.filter sB).length:=by
 induction s with
 |nil=>rfl
 |cons x s ih=>
  have ih:=ih λr hr=>h r (.tail _ hr)
  have hx:=h x (.head _)
  simp only[List.filter_cons,List.length_cons,sB]
  rw[ih]
  rcases hx with hx|hx|hx<;>simp[hx,sB]<;>omega
theorem qh.len{k:Nat}{s:List ah}(h:qh k s):s.length<=126+k:=by
 obtain⟨h1,h2,h3⟩:=h
 have hk:=λr hr=>Ja (h2 r hr)
 rw[awI s λr hr=>by have:=hk r hr;omega]
 have a1:(s.filter λr=>r.kind==1).length<=18:=by
  rw[<-List.length_map (f:=λr:ah=>r.ae*6+r.owner)]
  refine I6 (n:=18) ?_ ?_
  ·rw[List.pairwise_map]
   refine(h1.filter _).imp_of_mem λ{a b} ha hb ln=>?_
   obtain⟨ha1,ha2⟩:=List.mem_filter.1 ha
   obtain⟨mH,pw⟩:=List.mem_filter.1 hb
   simp only[beq_iff_eq]at ha2 pw
   have:=hk a ha1
   have:=hk b mH
   rw[p7]at ln
   omega
  ·intro x hx
   obtain⟨r,hr,rfl⟩:=List.mem_map.1 hx
   obtain⟨pu,rK⟩:=List.mem_filter.1 hr
   simp only[beq_iff_eq]at rK
   have:=hk r pu
   omega
 have a2:(s.filter λr=>r.kind==2).length<=108:=by
  rw[<-List.length_map (f:=λr:ah=>(r.ae*6+r.owner-1)*6+r.key)]
  refine I6 (n:=108) ?_ ?_
  ·rw[List.pairwise_map]
   refine(h1.filter _).imp_of_mem λ{a b} ha hb ln=>?_
   obtain⟨ha1,ha2⟩:=List.mem_filter.1 ha
   obtain⟨mH,pw⟩:=List.mem_filter.1 hb
   simp only[beq_iff_eq]at ha2 pw
   have:=hk a ha1
   have:=hk b mH
   rw[p7]at ln
   omega
  ·intro x hx
   obtain⟨r,hr,rfl⟩:=List.mem_map.1 hx
   obtain⟨pu,rK⟩:=List.mem_filter.1 hr
   simp only[beq_iff_eq]at rK
   have:=hk r pu
   omega
 omega
theorem qh.ok{k:Nat}{s:List ah}(h:qh k s)(hk:k<=24):df s=true:=by
 have:=h.len
 unfold df
 rw[bD,decide_eq_true_eq]
 exact⟨by omega,D6 h.2.1 h.1⟩
theorem aey(s:List ah)(r:ah)(p:ah->Bool):((cM s r).filter p).length<=(s.filter p).length+(if p r=true then 1 else 0):=by
 have h1:((s.filter λx=>fo x r).filter p).length+((s.filter λx=>fo r x).filter p).length<=(s.filter p).length:=by
  induction s with
  |nil=>simp
  |cons x s ih=>
   simp only[List.filter_cons]
   cases h:fo x r with
   |true=>
    rw[DP h]
    cases hp:p x<;>simp[hp]<;>simp at ih<;>omega
   |false=>cases h':fo r x<;>cases hp:p x<;>simp[hp]<;>simp at ih<;>omega
 have h2:([r].filter p).length=if p r=true then 1 else 0:=by
  rw[List.filter_cons]
  split<;>rfl
 unfold cM
 rw[List.filter_append,List.filter_append,List.length_append,List.length_append,h2]
 omega
theorem qh.put{k:Nat}{s:List ah}(h:qh k s){r:ah}(hr:eW r=true):qh (k+if r.kind=3 then 1 else 0) (cM s r):=by
 refine⟨Kj h.1 r,λx hx=>?_,?_⟩
 ·rcases AY hx with rfl|hx
  ·exact hr
  ·exact h.2.1 x hx
 ·have h1:=aey s r sB
  have h2:=h.2.2
  have h3:(sB r=true)=(r.kind=3):=by unfold sB;simp
  simp only[h3]at h1
  omega
theorem qh.awL{k:Nat}{s:List ah}(h:qh k s){r:ah}(hr:eW r=true)(h3:r.kind≠3):qh k (cM s r):=by
 have:=h.put hr
 rwa[if_neg h3]at this
theorem qh.filter{k:Nat}{s:List ah}(h:qh k s)(p:ah->Bool):qh k (s.filter p):=by
 refine⟨h.1.filter _,λx hx=>h.2.1 x (List.mem_filter.1 hx).1,?_⟩
 rw[List.filter_filter]
 refine Nat.le_trans ?_ h.2.2
 rw[<-List.countP_eq_length_filter,<-List.countP_eq_length_filter]
 exact List.countP_mono_left λx _ hx=>(bD _ _▸hx).1
theorem qh.nil:qh 0 []:=⟨.nil,by simp,by simp⟩
theorem qh.mono{k k':Nat}{s:List ah}(h:qh k s)(hk:k<=k'):qh k' s:=⟨h.1,h.2.1,Nat.le_trans h.2.2 hk⟩
theorem awM{α β σ:Type} [Inhabited α]{F:(σ->Option β)->σ->Option β}{R:Nat}{x:σ}(l:List α)(st:Nat->List α->σ)(p:α->Bool){out:Option β}(hx:x=st 0 [])(hR:l.length<R)
  (step:∀(i:Nat) c,(i:Int)<(l.length:Int)->c.length<=i->∀s,F s (st i c)=s (st (i+1) (if p (gt l i)=true then c++[gt l i]else c)))(fin:∀s,F s (st l.length (l.filter p))=out):
  iter F R x=out:=by
 refine iP l st (λc a=>if p a=true then c++[a]else c) (λ_=>out) [] (λi c=>c=(l.take i).filter p) hx hR rfl ?_ ?_
 ·intro i c hi hc
  have eg:i<l.length:=by omega
  refine⟨?_,λs=>step i c hi (by rw[hc];refine Nat.le_trans (List.length_filter_le _ _) ?_;simp;omega) s⟩
  rw[hc,List.take_add_one,List.filter_append,List.getElem?_eq_getElem eg,eC eg]
  cases hp:p l[i]<;>simp[hp]
 ·intro c s hc
  rw[hc,List.take_length]
  exact fin s
def il(r:ah):ah:={r with seq:=1}
def eM(f:ah->ah)(s l:List ah):List ah:=l.foldl (λc r=>cM c (f r)) s
def awN(v:Int)(r:ah):Bool:=!(r.kind==2&&r.owner==v)
def awO(s:List ah)(A:List Int)(v:Int):List ah:=eM il (s.filter (awN v)) (A.flatMap λa=>cG s A v a)
theorem kl_(s:List ah)(A:List Int)(fr ae:Int):(cG s A fr ae).length<=6:=QS _ _ _ _
theorem awP{W:List Way}{k:Int}{w:Way}(h:du W k=some w):w∈W:=by
 rw[D5]at h
 exact List.mem_of_find?_eq_some h
theorem QX{s:List ah}{A:List Int}{fr ae:Int}{r:ah}(h:r∈cG s A fr ae):r.ae=ae∧r.kind=2∧r.owner=fr∧(1<=r.key∧r.key<=6)∧r.aV=[]∧r.seq=0∧(0<=r.cost∧r.cost<=60000)∧r.eY=false∧r.key≠fr:=by
 unfold cG at h
 obtain⟨h1,h2⟩:=ji.1 h
 obtain⟨_,h3,h4,h5,h6,h7,h8,h9,w,hw,rfl⟩:=Sx h2
 refine⟨h3,h4,h5,h1,h6,h7,?_,h8,?_⟩
 ·have hm:=awP hw
  unfold I9 at hm
  rcases List.mem_append.1 hm with hm|hm
  ·have:=(aek hm).2.2
   show 0<=w.cost∧w.cost<=60000
   omega
  ·split at hm
   ·cases hm
   ·have:=(QQ hm).2.2.1
    show 0<=w.cost∧w.cost<=60000
    omega
 ·unfold vE at h9
  simp only[bD,decide_eq_true_eq]at h9
  exact h9.2
theorem awQ{s:List ah}{A:List Int}{fr ae:Int}(hf:1<=fr∧fr<=6)(ha:0<=ae∧ae<=2){r:ah}(h:r∈cG s A fr ae):eW (il r)=true∧(il r).kind≠3:=by
 obtain⟨h1,h2,h3,h4,h5,h6,h7,h8,_⟩:=QX h
 refine⟨?_,by show r.kind≠3;omega⟩
 unfold eW
 simp only[il,h1,h2,h3,h5,h8,List.length_nil,bD,bg]
 refine⟨⟨hf,by omega⟩,?_⟩
 simp[bg,ha,h4,h7]
theorem qh.mb{k:Nat}{f:ah->ah}{l:List ah}(hl:∀r∈l,eW (f r)=true∧(f r).kind≠3):∀{s:List ah},qh k s->qh k (eM f s l):=by
 unfold eM
 induction l with
 |nil=>intro s h;exact h
 |cons x l ih=>
  intro s h
  rw[List.foldl_cons]
  exact ih (λr hr=>hl r (.tail _ hr)) (h.awL (hl x (.head _)).1 (hl x (.head _)).2)
theorem aeA{ls:List bO}{v a:Int}(h:a∈ma ls v):0<=a∧a<=2:=o_.1 (List.mem_filter.1 h).1
theorem awR(f:ah->ah)(A:List Int)(g:Int->List ah):∀s,A.foldl (λc a=>eM f c (g a)) s=eM f s (A.flatMap g):=by
 induction A with
 |nil=>intro s;rfl
 |cons x A ih=>
  intro s
  rw[List.foldl_cons,ih]
  unfold eM
  rw[List.flatMap_cons,List.foldl_append]
def iD(r:ah):ah:=if r.seq=0 then {r with seq:=1}else r
theorem aeB(s l:List ah)(h:s.length+l.length<=1048570)(hs:aR s)(hn:aR l):Nc [.l (s.map ai),.l (l.map ai)]=some [.l ((eM iD s l).map ai)]:=by
 rw[asc];simp(disch:=omega) only[↓pQ,pS,↓reduceIte,aj,ak,ap,aq,au,av,aw,ax,ay,uP_,Ox]
 refine iP l (λi c=>[.l (c.map ai),ii i]) (λc r=>cM c (iD r)) (λc=>some [T.l (c.map ai)]) s (λi c=>c.length<=s.length+i∧aR c) rfl (dG (by omega)) ⟨by simp,hs⟩ ?_ ?_
 ·rintro i c hi ⟨h1,h2⟩
  have mr:=hn.gt (n:=i) (by omega) hi
  have hz:(iD (gt l (i:Int))).aV.length<=1048576:=by unfold iD;split<;>exact mr
  refine⟨⟨by have:=IF c (iD (gt l (i:Int)));omega,P8 h2 hz⟩,λq=>?_⟩
  have hp:=λz=>Sl c (gt l (i:Int)).ae (gt l (i:Int)).kind (gt l (i:Int)).owner (gt l (i:Int)).key z (gt l (i:Int)).aV (gt l (i:Int)).cost (gt l (i:Int)).eY (by omega) h2 mr
  by_cases k:(gt l (i:Int)).seq=0
  ·have e:iD (gt l (i:Int))={gt l (i:Int)with seq:=1}:=by unfold iD;rw[if_pos k]
   rw[e]
   simp(disch:=omega) only[↓pQ,pS,↓reduceIte,aj,ak,ap,aq,au,av,aw,ax,ay,uP_,hi,k,hp]
  ·have e:iD (gt l (i:Int))=gt l (i:Int):=by unfold iD;rw[if_neg k]
   rw[e]
   simp(disch:=omega) only[↓pQ,pS,↓reduceIte,aj,ak,ap,aq,au,av,aw,ax,ay,uP_,hi,k,hp]
 ·rintro c q hc
  simp(disch:=omega) only[↓pQ,pS,↓reduceIte,aj,ak,ap,aq,au,av,aw,ax,ay,uP_,]
theorem awS{f g:ah->ah}{l:List ah}(h:∀r∈l,f r=g r):∀s,eM f s l=eM g s l:=by
 unfold eM
 induction l with
 |nil=>intro s;rfl
 |cons x l ih=>
  intro s
  rw[List.foldl_cons,List.foldl_cons,h x (.head _)]
  exact ih (λr hr=>h r (.tail _ hr)) _
theorem QY(A:List Int)(g:Int->List ah)(hg:∀a,(g a).length<=6):(A.flatMap g).length<=6*A.length:=by
 induction A with
 |nil=>simp
 |cons x A ih=>
  have:=hg x
  rw[List.flatMap_cons,List.length_append,List.length_cons]
  omega
def awT(ls:List bO)(L U:List Bool)(v a:Int):ah:=⟨a,1,v,0,1,awF ls L U v a,0,false⟩
def awU(t:cg):ah:=⟨9,3,t.owner,t.key,1,[],t.cost,t.eY⟩
theorem awV{n:Int}{ts:List cg}(h:ei (xl n) tG ts=true){t:cg}(ht:t∈ts):(1<=t.owner∧t.owner<=n)∧(1<=t.key∧t.key<=9)∧(1<=t.cost∧t.cost<=1000):=by
 obtain⟨i,hi,rfl⟩:=List.mem_iff_getElem.1 ht
 have:=bY.1 h i hi
 rw[eC hi]at this
 simp only[bD,xl,bg]at this
 omega
def awW(ls:List bO)(L U:List Bool)(c:List ah)(i:Nat):List ah:=
 if gt U ((i:Int)+1-1)=true then(ma ls ((i:Int)+1)).foldl (λc a=>cM c (awT ls L U ((i:Int)+1) a)) c else c
def awX(U:List Bool)(c:List ah)(t:cg):List ah:=if gt U (t.owner-1)=true then cM c (awU t)else c
def awY(ls:List bO)(U:List Bool)(c:List ah)(i:Nat):List ah:=
 if gt U ((i:Int)+1-1)=true then(if E8 ls ((i:Int)+1)=true then awO c (ma ls ((i:Int)+1)) ((i:Int)+1)else c)else c
def awZ(n:Int)(ls:List bO)(U:List Bool)(c:List ah)(_:Nat):List ah:=(List.range n.toNat).foldl (awY ls U) c
def aGV(x:Net)(L U:List Bool):List ah:=(List.range 3).foldl (awZ x.n x.aE U) (x.aM.foldl (awX U) ((List.range x.n.toNat).foldl (awW x.aE L U) []))
theorem yE{x:Net}(h:yw x=true):(1<=x.n∧x.n<=6)∧x.aE.length<=12∧x.aM.length<=4∧ei (nA x.n) mM x.aE=true∧ei (xl x.n) tG x.aM=true:=by
 unfold yw at h
 simp only[bD,decide_eq_true_eq,bg]at h
 exact⟨h.1.1.1.1,h.1.1.1.2,h.1.1.2,h.1.2,h.2⟩
section
variable {n:Int} {ls:List bO} {L U:List Bool} (h:ei (nA n) mM ls=true) (hn:n<=6)
include h hn
end
theorem aw0{s s':List ah}{ar:Int}(h:∀u v,dU s ar u v=dU s' ar u v)(fr a:Int):nj s ar fr a=nj s' ar fr a:=by
 funext W i
 unfold nj
 rw[h]
theorem aeC{s s':List ah}{ar:Int}(h:∀u v,dU s ar u v=dU s' ar u v)(fr:Int):∀k W D,uo s ar fr k W D=uo s' ar fr k W D
 |0,_,_=>rfl
 |k+1,W,D=>by
  unfold uo
  have e:qg s ar fr (et W D) W=qg s' ar fr (et W D) W:=by unfold qg;rw[aw0 h]
  rw[e,aeC h fr k]
theorem aw1{s s':List ah}{ar fr:Int}(h:∀u v,dU s ar u v=dU s' ar u v)(hs:df s=df s')(hn:0<=je s ar fr↔0<=je s' ar fr):aC s ar fr=aC s' ar fr:=by
 unfold aC
 rw[hs,aeC h]
 by_cases h0:0<=je s ar fr
 ·have:=hn.1 h0
  simp[h0,this]
 ·have:¬0<=je s' ar fr:=λhc=>h0 (hn.2 hc)
  simp[h0,this]
theorem aw2{s:List ah}(hs:gZ s){r:ah}(hr:r∈s){ar v:Int}(h:dO r ⟨ar,1,v,0,0,[],0,false⟩=true):0<=je s ar v∧gt s (je s ar v)=r:=by
 have h0:0<=je s ar v:=I_ hr h
 refine⟨h0,?_⟩
 have h1:=Kp s ar v
 have h2:dO (gt s (je s ar v)) ⟨ar,1,v,0,0,[],0,false⟩=true:=ue _ _ h0
 have hm:=lg (l:=s) (n:=je s ar v) h0 h1
 generalize gt s (je s ar v)=x at h2 hm
 rw[sameKey_iff]at h h2
 obtain⟨i,hi,rfl⟩:=List.mem_iff_getElem.1 hr
 obtain⟨j,hj,rfl⟩:=List.mem_iff_getElem.1 hm
 rcases Nat.lt_trichotomy i j with rV|rV|rV
 ·have:=List.pairwise_iff_getElem.1 hs i j hi hj rV
  rw[p7]at this
  simp only at h h2
  omega
 ·subst rV;rfl
 ·have:=List.pairwise_iff_getElem.1 hs j i hj hi rV
  rw[p7]at this
  simp only at h h2
  omega
structure D7 (A:List Int) (s s':List ah):Prop where
 so:gZ s
 sub:∀r∈s',r∈s
 so':gZ s'
 bm:∀r∈s,r∉s'->r.kind=1∧A.contains r.ae=false
theorem D7.node{A:List Int}{s s':List ah}(h:D7 A s s'){ar:Int}(ha:A.contains ar=true)(v:Int):(0<=je s ar v↔0<=je s' ar v)∧sA s ar v=sA s' ar v:=by
 by_cases h0:0<=je s' ar v
 ·have hm:=lg (l:=s') (n:=je s' ar v) h0 (Kp s' ar v)
  obtain⟨h1,h2⟩:=aw2 h.so (h.sub _ hm) (ue _ _ h0)
  refine⟨⟨λ_=>h0,λ_=>h1⟩,?_⟩
  unfold sA
  rw[if_neg (by omega),if_neg (by omega),h2]
 ·have h1:¬0<=je s ar v:=by
   intro hc
   have hm:=lg (l:=s) (n:=je s ar v) hc (Kp s ar v)
   have hk:dO (gt s (je s ar v)) ⟨ar,1,v,0,0,[],0,false⟩=true:=ue _ _ hc
   by_cases km:gt s (je s ar v)∈s'
   ·exact h0 (I_ km hk)
   ·have:=(h.bm _ hm km).2
    rw[sameKey_iff]at hk
    simp only at hk
    rw[hk.1,ha]at this
    cases this
  refine⟨⟨λhc=>absurd hc h1,λhc=>absurd hc h0⟩,?_⟩
  unfold sA
  rw[if_pos (by omega),if_pos (by omega)]
theorem D7.aC{A:List Int}{s s':List ah}(h:D7 A s s')(hs:df s=df s'){ar:Int}(ha:A.contains ar=true)(fr:Int):Go.Proofs.YtjimmglpkndemaaGreatC.aC s ar fr=Go.Proofs.YtjimmglpkndemaaGreatC.aC s' ar fr:=by
 refine aw1 (λu v=>?_) hs (h.node ha fr).1
 unfold dU rW
 rw[(h.node ha u).2,(h.node ha v).2]
theorem aeD{α β:Type}{l:List α}{f g:α->List β}(h:∀a∈l,f a=g a):l.flatMap f=l.flatMap g:=by
 induction l with
 |nil=>rfl
 |cons x l ih=>rw[List.flatMap_cons,List.flatMap_cons,h x (.head _),ih λa ha=>h a (.tail _ ha)]
theorem aw4{α β:Type}{l:List α}{f g:α->Option β}(h:∀a∈l,f a=g a):l.filterMap f=l.filterMap g:=by
 induction l with
 |nil=>rfl
 |cons x l ih=>rw[List.filterMap_cons,List.filterMap_cons,h x (.head _),ih λa ha=>h a (.tail _ ha)]
theorem D7.within{A:List Int}{s s':List ah}(h:D7 A s s')(hs:df s=df s'){B:List Int}(hB:∀a∈B,A.contains a=true)(fr:Int):Go.Proofs.YtjimmglpkndemaaGreatC.within s B fr=Go.Proofs.YtjimmglpkndemaaGreatC.within s' B fr:=by
 unfold Go.Proofs.YtjimmglpkndemaaGreatC.within q_
 rw[aeD λa ha=>h.aC hs (hB a ha) fr]
theorem aw5{s s':List ah}(h:gZ s)(h':gZ s')(lI:∀r∈s',r∈s):s'=s.filter λr=>@decide (r∈s') (Classical.propDecidable _):=by
 have key:∀{a b:List ah},gZ a->gZ b->(∀x,x∈a↔x∈b)->a=b:=by
  intro a
  induction a with
  |nil=>
   intro b _ _ hm
   cases b with
   |nil=>rfl
   |cons y b=>exact absurd ((hm y).2 (.head _)) (by simp)
  |cons x a ih=>
   intro b ha hb hm
   cases b with
   |nil=>exact absurd ((hm x).1 (.head _)) (by simp)
   |cons y b=>
    have pa:=List.pairwise_cons.1 ha
    have pb:=List.pairwise_cons.1 hb
    have e:x=y:=by
     rcases List.mem_cons.1 ((hm x).1 (.head _))with e|hx
     ·exact e
     ·rcases List.mem_cons.1 ((hm y).2 (.head _))with e|hy
      ·exact e.symm
      ·have h1:=pb.1 x hx
       have h2:=pa.1 y hy
       rw[DP h1]at h2;cases h2
    subst e
    congr 1
    refine ih pa.2 pb.2 λz=>⟨λhz=>?_,λhz=>?_⟩
    ·rcases List.mem_cons.1 ((hm z).1 (.tail _ hz))with e|Rz
     ·have:=pa.1 z hz
      rw[e,IE]at this;cases this
     ·exact Rz
    ·rcases List.mem_cons.1 ((hm z).2 (.tail _ hz))with e|Rz
     ·have:=pb.1 z hz
      rw[e,IE]at this;cases this
     ·exact Rz
 refine key h' (h.filter _) λr=>?_
 rw[List.mem_filter,@decide_eq_true_eq _ (Classical.propDecidable _)]
 exact⟨λhr=>⟨lI r hr,hr⟩,λhr=>hr.2⟩
theorem D7.beyond{A:List Int}{s s':List ah}(h:D7 A s s')(hs:df s=df s')(z:Bool)(fr:Int):Go.Proofs.YtjimmglpkndemaaGreatC.beyond s A z fr=Go.Proofs.YtjimmglpkndemaaGreatC.beyond s' A z fr:=by
 have hw:=h.within hs (B:=A) (λa ha=>List.contains_iff_mem.2 ha) fr
 have e1:∀x,iC s A z fr x=iC s' A z fr x:=by
  intro x
  unfold iC
  rw[hw]
  by_cases hc:x.kind=2∧x.cost<60000∧x.owner≠fr∧A.contains x.ae=true∧(z=true->x.ae=0)∧eP (Go.Proofs.YtjimmglpkndemaaGreatC.within s' A fr) x.key<0
  ·rw[if_pos hc,if_pos hc,h.aC hs hc.2.2.2.1]
  ·rw[if_neg hc,if_neg hc]
 unfold Go.Proofs.YtjimmglpkndemaaGreatC.beyond E7
 rw[show iC s A z fr=iC s' A z fr from funext e1]
 congr 1
 rw[aw5 h.so h.so' h.sub,List.filterMap_filter]
 refine aw4 λx hx=>?_
 by_cases km:x∈s'
 ·rw[if_pos (by rw[@decide_eq_true_eq _ (Classical.propDecidable _)];exact km)]
 ·rw[if_neg (by rw[@decide_eq_true_eq _ (Classical.propDecidable _)];exact km)]
  unfold iC
  rw[if_neg λhc=>by have:=(h.bm x hx km).1;omega]
theorem D7.cG{A:List Int}{s s':List ah}(h:D7 A s s')(hs:df s=df s'){ae:Int}(ha:A.contains ae=true)(fr:Int):Go.Proofs.YtjimmglpkndemaaGreatC.cG s A fr ae=Go.Proofs.YtjimmglpkndemaaGreatC.cG s' A fr ae:=by
 unfold Go.Proofs.YtjimmglpkndemaaGreatC.cG I9
 rw[h.aC hs ha,h.beyond hs,h.within (B:=aet A ae) hs λa ha=>List.contains_iff_mem.2 (List.mem_filter.1 ha).1]
theorem qi{x:Self}(h:kf x=true):yw x.net=true∧(1<=x.id∧x.id<=x.net.n)∧(0<=x.bh∧x.bh<=90)∧x.heard.length%2=0∧z' (λv a=>decide (0<=eV (iE x.id v a) x.net.aE)) x.heard=true∧df x.store=true:=by
 unfold kf at h
 simp only[bD,bg,decide_eq_true_eq]at h
 exact⟨h.1,h.2.1,h.2.2.1,h.2.2.2.1.1,h.2.2.2.1.2,h.2.2.2.2⟩
def Ak(ls:List bO)(id:Int)(hd:List Int)(a:Int):List cB:=
 ((List.range (hd.length/2)).filter λk:Nat=>decide (gt hd (2*(k:Int)+1)=a)).map λk:Nat=>⟨gt hd (2*(k:Int)),om ls id (gt hd (2*(k:Int))) a⟩
def wl(ls:List bO)(id:Int)(hd:List Int)(a:Int):ah:=⟨a,1,id,0,0,Ak ls id hd a,0,false⟩
def fJ(x:Self):List ah:=(ma x.net.aE x.id).map (wl x.net.aE x.id x.heard)
def xw(id:Int)(r:ah):Bool:=!(r.kind==1&&r.owner==id)
def rF(s:List ah)(id:Int)(l:List ah):List ah:=eM il (s.filter (xw id)) l
def rb(id:Int)(t:cg):ah:=⟨9,3,id,t.key,0,[],t.cost,t.eY⟩
def Jb(x:Self):List ah:=(x.net.aM.filter λt=>t.owner==x.id).map (rb x.id)
def pe(x:Self)(S:List ah):List ah:=if E8 x.net.aE x.id=true then(ma x.net.aE x.id).flatMap λa=>cG S (ma x.net.aE x.id) x.id a else []
def same(r:ah):ah:=r
def nk(x:Self)(S:List ah):List ah:=eM same [] (fJ x++pe x S++Jb x)
theorem aeE(f:ah->ah)(s a b:List ah):eM f s (a++b)=eM f (eM f s a) b:=by
 unfold eM;rw[List.foldl_append]
theorem Jc(x:Self):(fJ x).length<=3:=by unfold fJ;rw[List.length_map];exact QR _ _
theorem aw6(x:Self)(S:List ah):(pe x S).length<=18:=by
 unfold pe
 split
 ·have:=QY (ma x.net.aE x.id) (λa=>cG S (ma x.net.aE x.id) x.id a) λa=>kl_ _ _ _ _
  have:=QR x.net.aE x.id
  omega
 ·simp
theorem aeF(x:Self):(Jb x).length<=x.net.aM.length:=by unfold Jb;rw[List.length_map];exact List.length_filter_le _ _
theorem aw7(ls:List bO)(id:Int)(hd:List Int)(a:Int):(Ak ls id hd a).length<=hd.length:=by
 unfold Ak
 rw[List.length_map]
 refine Nat.le_trans (List.length_filter_le _ _) ?_
 rw[List.length_range];omega
structure Fit (k:Nat) (s:List ah):Prop where
 so:gZ s
 aV:aR s
 len:s.length<=k
theorem Fit.nil:Fit 0 []:=⟨.nil,λr hr=>(by cases hr),Nat.le_refl _⟩
theorem Fit.mono{k k':Nat}{s:List ah}(h:Fit k s)(hk:k<=k'):Fit k' s:=⟨h.so,h.aV,Nat.le_trans h.len hk⟩
theorem Fit.put{k:Nat}{s:List ah}(h:Fit k s){r:ah}(hr:r.aV.length<=1048576):Fit (k+1) (cM s r):=⟨Kj h.so r,P8 h.aV hr,avC (by have:=h.len;omega)⟩
theorem Fit.mb{f:ah->ah}{l:List ah}(hl:∀r∈l,(f r).aV.length<=1048576):∀{k:Nat} {s:List ah},Fit k s->Fit (k+l.length) (eM f s l):=by
 unfold eM
 induction l with
 |nil=>intro k s h;exact h
 |cons x l ih=>
  intro k s h
  rw[List.foldl_cons,List.length_cons]
  exact(ih (λr hr=>hl r (.tail _ hr)) (h.put (hl x (.head _)))).mono (by omega)
theorem Fit.filter{k:Nat}{s:List ah}(h:Fit k s)(p:ah->Bool):Fit k (s.filter p):=⟨h.so.filter _,λr hr=>h.aV r (List.mem_filter.1 hr).1,Nat.le_trans (List.length_filter_le _ _) h.len⟩
theorem aeG(ls:List bO)(id:Int)(hd:List Int)(a:Int):
  (List.range (hd.length/2)).foldl (λ(d:List cB) (k:Nat)=>if decide (gt hd (2*(k:Int)+1)=a)=true then d++[(⟨gt hd (2*(k:Int)),om ls id (gt hd (2*(k:Int))) a⟩:cB)]else d) []=Ak ls id hd a:=by
 rw[M0 (λk:Nat=>decide (gt hd (2*(k:Int)+1)=a)) (λk:Nat=>(⟨gt hd (2*(k:Int)),om ls id (gt hd (2*(k:Int))) a⟩:cB)),List.nil_append]
 rfl
theorem aw8(id bh n:Int)(ls:List bO)(ts t6:T)(hd:List Int)(hA:ei (nA n) mM ls=true)(hl:ls.length<=12)(h1:hd.length%2=0)(h2:hd.length<=1048576):
  De [ii id,ii bh,ii n,.l (ls.map dB),ts,.l (hd.map aB),t6]=some [.l (((ma ls id).map (wl ls id hd)).map ai)]:=by
 have Ku:=QR ls id
 rw[atQ];simp(disch:=omega) only[↓pQ,pS,↓reduceIte,aj,ak,ap,aq,au,av,aw,ax,ay,Ph,Pj,Pk,I7 _ _ _ _ _ hA hl]
 generalize ma ls id=A at Ku
 refine(iP A (λj c=>[.l (c.map ai),ii j]) (λc a=>c++[wl ls id hd a]) (λc=>some [T.l (c.map ai)]) [] (λj c=>c.length<=j) rfl (dG (by omega)) (by simp) ?_ ?_).trans (by rw[foldl_map,List.nil_append])
 ·intro j c hj hc
  refine⟨by simp;omega,λq=>?_⟩
  simp(disch:=omega) only[↓pQ,pS,↓reduceIte,aj,ak,ap,aq,au,av,aw,ax,ay,Ph,Pj,hj]
  unfold wl
  rw[<-aeG]
  refine sn (hd.length/2) (λk d=>[ii (2*k),.l (d.map fe)]) (λ(d:List cB) (k:Nat)=>if decide (gt hd (2*(k:Int)+1)=gt A (j:Int))=true then d++[(⟨gt hd (2*(k:Int)),om ls id (gt hd (2*(k:Int))) (gt A (j:Int))⟩:cB)]else d) (λd=>q [.l ((c++[(⟨gt A (j:Int),1,id,0,0,d,0,false⟩:ah)]).map ai),ii ((j:Int)+1)]) [] (λk d=>d.length<=k) rfl (dG (by omega)) (by simp) ?_ ?_
  ·intro k d hk jW
   refine⟨by split;(· simp;omega);(· omega),λs=>?_⟩
   have bf:2*(k:Int)<hd.length:=by omega
   have nJ:2*(k:Int)+1<hd.length:=by omega
   by_cases e:gt hd (2*(k:Int)+1)=gt A (j:Int)
   ·simp(disch:=omega) only[↓pQ,pS,↓reduceIte,aj,ak,ap,aq,au,av,aw,ax,ay,Ph,Pj,bf,nJ,e,avm _ _ _ _ _ _ (show ls.length<=1048576 by omega),decide_true,Int.mul_add]
   ·simp(disch:=omega) only[↓pQ,pS,↓reduceIte,aj,ak,ap,aq,au,av,aw,ax,ay,Ph,Pj,bf,nJ,e,decide_false,dh,Int.mul_add]
  ·intro d s jW
   have bf:¬(2*((hd.length/2:Nat):Int)<hd.length):=by omega
   simp(disch:=omega) only[↓pQ,pS,↓reduceIte,aj,ak,ap,aq,au,av,aw,ax,ay,Ph,Pj,bf]
 ·intro c q hc
  simp(disch:=omega) only[↓pQ,pS,↓reduceIte,aj,ak,ap,aq,au,av,aw,ax,ay,Ph,Pj,]
theorem aw9(id bh n:Int)(ls:List bO)(ts t6:T)(hd:List Int)(a:Int)(hl:ls.length<=12)(h1:hd.length%2=0)(h2:hd.length<=1048576):
  YE [ii id,ii bh,ii n,.l (ls.map dB),ts,.l (hd.map aB),t6,ii a]=some (ai (wl ls id hd a)):=by
 rw[ar8];simp(disch:=omega) only[↓pQ,pS,↓reduceIte,aj,ak,ap,aq,au,av,aw,ax,ay,uQ_,Ou]
 unfold wl
 rw[<-aeG]
 refine sn (hd.length/2) (λk d=>[ii (2*k),.l (d.map fe)]) (λ(d:List cB) (k:Nat)=>if decide (gt hd (2*(k:Int)+1)=a)=true then d++[(⟨gt hd (2*(k:Int)),om ls id (gt hd (2*(k:Int))) a⟩:cB)]else d) (λd=>some (ai (⟨a,1,id,0,0,d,0,false⟩:ah))) [] (λk d=>d.length<=k) rfl (dG (by omega)) (by simp) ?_ ?_
 ·intro k d hk jW
  refine⟨by split;(· simp;omega);(· omega),λs=>?_⟩
  have bf:2*(k:Int)<hd.length:=by omega
  have nJ:2*(k:Int)+1<hd.length:=by omega
  by_cases e:gt hd (2*(k:Int)+1)=a
  ·simp(disch:=omega) only[↓pQ,pS,↓reduceIte,aj,ak,ap,aq,au,av,aw,ax,ay,uQ_,bf,nJ,e,DK _ _ _ _ _ _ (show ls.length<=1048576 by omega),decide_true,Int.mul_add]
  ·simp(disch:=omega) only[↓pQ,pS,↓reduceIte,aj,ak,ap,aq,au,av,aw,ax,ay,uQ_,bf,nJ,e,decide_false,dh,Int.mul_add]
 ·intro d s jW
  have bf:¬(2*((hd.length/2:Nat):Int)<hd.length):=by omega
  simp(disch:=omega) only[↓pQ,pS,↓reduceIte,aj,ak,ap,aq,au,av,aw,ax,ay,uQ_,bf]
  rfl
theorem aw_(s:List ah)(id:Int)(l:List ah){k:Nat}(hs:Fit k s)(hk:k+l.length<=1048570)(hn:aR l):
  Dh [.l (s.map ai),ii id,.l (l.map ai)]=some [.l ((rF s id l).map ai)]:=by
 have se:=hs.len
 rw[at0];simp(disch:=omega) only[↓pQ,pS,↓reduceIte,aj,ak,ap,aq,au,av,aw,ax,ay,Se,Sf,Pq]
 refine awM s (λi c=>[.l (c.map ai),ii i]) (xw id) rfl (dG (by omega)) ?_ ?_
 ·intro i c hi hc q
  have:=hs.aV.gt (n:=i) (by omega) hi
  unfold xw
  simp(disch:=omega) only[↓pQ,pS,↓reduceIte,aj,ak,ap,aq,au,av,aw,ax,ay,Se,Sf,hi]
  by_cases k1:(gt s (i:Int)).kind=1
  ·by_cases k2:(gt s (i:Int)).owner=id
   ·simp[k1,k2]
   ·simp[k1,k2]
  ·simp[k1]
 ·intro q
  simp(disch:=omega) only[↓pQ,pS,↓reduceIte,aj,ak,ap,aq,au,av,aw,ax,ay,Se,Sf,]
  refine iP l (λi c=>[.l (c.map ai),ii i]) (λc r=>cM c (il r)) (λc=>some [T.l (c.map ai)]) (s.filter (xw id)) (λi c=>Fit (k+i) c) rfl (dG (by omega)) (hs.filter _) ?_ ?_
  ·intro i d hi hd
   have mr:=hn.gt (n:=i) (by omega) hi
   refine⟨hd.put mr,λq=>?_⟩
   have FW:=hd.len
   have hp:=DQ d (gt l (i:Int)).ae (gt l (i:Int)).kind (gt l (i:Int)).owner (gt l (i:Int)).key 1 (gt l (i:Int)).aV (gt l (i:Int)).cost (gt l (i:Int)).eY (by omega) hd.aV hd.so mr
   simp(disch:=omega) only[↓pQ,pS,↓reduceIte,aj,ak,ap,aq,au,av,aw,ax,ay,Se,Sf,hi,hp]
   rfl
  ·intro d q' hd
   simp(disch:=omega) only[↓pQ,pS,↓reduceIte,aj,ak,ap,aq,au,av,aw,ax,ay,Se,Sf,]
theorem aw'(id:Int)(ts:List cg):∀c:List ah,ts.foldl (λc t=>if t.owner=id then cM c (rb id t)else c) c=eM same c ((ts.filter λt=>t.owner==id).map (rb id)):=by
 induction ts with
 |nil=>intro c;rfl
 |cons t ts ih=>
  intro c
  rw[List.foldl_cons,ih]
  by_cases h:t.owner=id
  ·rw[if_pos h,List.filter_cons,if_pos (by simpa using h)]
   rfl
  ·rw[if_neg h,List.filter_cons,if_neg (by simpa using h)]
theorem aeH(id:Int)(ts:List cg)(h:ts.length<=4)(c:List ah){k:Nat}(hc:Fit k c)(hk:k<=1000):
  iter (z8 tB (ii id) (.l (ts.map ed)) (ii ts.length)) rounds [.l (c.map ai),ii 0]=some [.l ((eM same c ((ts.filter λt=>t.owner==id).map (rb id))).map ai)]:=by
 rw[<-aw']
 refine iP ts (λi c=>[.l (c.map ai),ii i]) (λc t=>if t.owner=id then cM c (rb id t)else c) (λc=>some [T.l (c.map ai)]) c (λi c=>Fit (k+i) c) rfl (dG (by omega)) hc ?_ ?_
 ·intro i d hi hd
  have FW:=hd.len
  by_cases e:(gt ts (i:Int)).owner=id
  ·rw[if_pos e]
   refine⟨hd.put (by simp[rb]),λq=>?_⟩
   have hp:=DQ d 9 3 id (gt ts (i:Int)).key 0 [] (gt ts (i:Int)).cost (gt ts (i:Int)).eY (by omega) hd.aV hd.so (by simp)
   rw[List.map_nil]at hp
   simp(disch:=omega) only[↓pQ,pS,↓reduceIte,aj,ak,ap,aq,au,av,aw,ax,ay,AR,AS,z8,AU,hi,e,hp]
   rfl
  ·rw[if_neg e]
   refine⟨hd.mono (by omega),λq=>?_⟩
   simp(disch:=omega) only[↓pQ,pS,↓reduceIte,aj,ak,ap,aq,au,av,aw,ax,ay,AR,AS,z8,AU,hi,e]
 ·intro d q hd
  simp(disch:=omega) only[↓pQ,pS,↓reduceIte,aj,ak,ap,aq,au,av,aw,ax,ay,AR,AS,z8,AU,]
theorem Jd{x:Self}(h:x.heard.length<=1048576):aR (fJ x):=λr hr=>by
 obtain⟨a,_,rfl⟩:=List.mem_map.1 hr
 exact Nat.le_trans (aw7 _ _ _ _) h
theorem QZ(s:List ah)(A:List Int)(fr ae:Int):aR (cG s A fr ae):=λr hr=>by
 rw[(QX hr).2.2.2.2.1];simp
theorem axa{s:List ah}{id:Int}{l:List ah}{k:Nat}(hs:Fit k s)(hn:aR l):Fit (k+l.length) (rF s id l):=Fit.mb (f:=il) (λr hr=>hn r hr) (hs.filter _)
theorem Kv{s:List ah}(h:df s=true)(hn:aR s):Fit 150 s:=⟨tH h,hn,by unfold df at h;simp only[bD,decide_eq_true_eq]at h;exact h.1⟩
theorem axb(id bh n:Int)(ls:List bO)(ts:List cg)(hd:List Int)(st:List ah)(h1:ls.length<=1048576)(h2:ts.length<=1048576)(h3:hd.length<=1048576)(h4:st.length<=1048576)(h5:aR st)(hk:kf ⟨id,bh,⟨n,ls,ts⟩,hd,st⟩=true):
  RX [ii id,ii bh,ii n,.l (ls.map dB),.l (ts.map ed),.l (hd.map aB),.l (st.map ai)]=some [.l ((nk ⟨id,bh,⟨n,ls,ts⟩,hd,st⟩ (rF st id (fJ ⟨id,bh,⟨n,ls,ts⟩,hd,st⟩))).map ai)]:=by
 obtain⟨hN,gG,ki,jy,ua,cf⟩:=qi hk
 obtain⟨n1,hl,ht,hA,hT⟩:=yE hN
 simp only at gG ki jy ua cf n1 hl ht hA hT
 have vO:=Kv cf h5
 have hol:=Jc ⟨id,bh,⟨n,ls,ts⟩,hd,st⟩
 have D8:=Jd (x:=⟨id,bh,⟨n,ls,ts⟩,hd,st⟩) h3
 have hO:=aw8 id bh n ls (.l (ts.map ed)) (.l (st.map ai)) hd hA hl jy h3
 rw[show(ma ls id).map (wl ls id hd)=fJ ⟨id,bh,⟨n,ls,ts⟩,hd,st⟩ from rfl]at hO
 unfold nk pe Jb
 simp only
 generalize fJ ⟨id,bh,⟨n,ls,ts⟩,hd,st⟩=O at hol D8 hO
 have hB:=aw_ st id O vO (by omega) D8
 have Q0:=axa (id:=id) vO D8
 generalize rF st id O=S at hB Q0
 have hSl:=Q0.len
 rw[aup];simp(disch:=omega) only[↓pQ,pS,↓reduceIte,aj,ak,ap,aq,au,av,aw,ax,ay,AR,AS,z8,AU,PB,Iy _ _ _ _ _ _ _ h1 h2 h3 h4 h5,hk,hO]
 rw[aeE,aeE]
 refine iP O (λi c=>[.l (c.map ai),ii i,.l (O.map ai)]) (λc r=>cM c (same r)) (λc=>some [T.l ((eM same (eM same c (if E8 ls id=true then(ma ls id).flatMap λa=>cG S (ma ls id) id a else [])) ((ts.filter λt=>t.owner==id).map (rb id))).map ai)]) [] (λi c=>Fit i c) rfl (dG (by omega)) Fit.nil ?_ ?_
 ·intro i d hi jW
  have mr:=D8.gt (n:=i) (by omega) hi
  refine⟨jW.put mr,λq=>?_⟩
  have FW:=jW.len
  have hp:=DQ d (gt O (i:Int)).ae (gt O (i:Int)).kind (gt O (i:Int)).owner (gt O (i:Int)).key (gt O (i:Int)).seq (gt O (i:Int)).aV (gt O (i:Int)).cost (gt O (i:Int)).eY (by omega) jW.aV jW.so mr
  simp(disch:=omega) only[↓pQ,pS,↓reduceIte,aj,ak,ap,aq,au,av,aw,ax,ay,AR,AS,z8,AU,hi,hp]
  rfl
 ·intro c q hc
  have Ku:=QR ls id
  cases hb:E8 ls id with
  |false=>
   simp(disch:=omega) only[↓pQ,pS,↓reduceIte,aj,ak,ap,aq,au,av,aw,ax,ay,AR,AS,z8,AU,I7 _ _ _ _ _ hA hl,aeo _ _ _ _ _ hA hl,hb,dh]
   exact aeH id ts ht c hc (by omega)
  |true=>
   simp only[if_true]
   simp(disch:=omega) only[↓pQ,pS,↓reduceIte,aj,ak,ap,aq,au,av,aw,ax,ay,AR,AS,z8,AU,I7 _ _ _ _ _ hA hl,aeo _ _ _ _ _ hA hl,hb,hB]
   generalize ma ls id=A at Ku
   rw[<-awR]
   refine iP A (λj c=>[.l (c.map ai),ii j]) (λc a=>eM same c (cG S A id a)) (λc=>some [T.l ((eM same c ((ts.filter λt=>t.owner==id).map (rb id))).map ai)]) c (λj c=>Fit (3+6*j) c) rfl (dG (by omega)) (hc.mono (by omega)) ?_ ?_
   ·intro j c hj hc
    have vW:=kl_ S A id (gt A (j:Int))
    have AB:=QZ S A id (gt A (j:Int))
    refine⟨(hc.mb (f:=same) λr hr=>AB r hr).mono (by omega),λq=>?_⟩
    simp(disch:=omega) only[↓pQ,pS,↓reduceIte,aj,ak,ap,aq,au,av,aw,ax,ay,AR,AS,z8,AU,hj,awC S A id _ (show S.length<=1048576 by omega) Q0.aV (show A.length<=1048576 by omega)]
    generalize cG S A id (gt A (j:Int))=B at vW AB
    refine iP B (λi c=>[.l (c.map ai),ii i,.l (B.map ai)]) (λc r=>cM c (same r)) (λc=>q [.l (c.map ai),ii ((j:Int)+1)]) c (λi c=>Fit (3+6*j+i) c) rfl (dG (by omega)) hc ?_ ?_
    ·intro i d hi jW
     have mr:=AB.gt (n:=i) (by omega) hi
     refine⟨jW.put mr,λq=>?_⟩
     have FW:=jW.len
     have hp:=DQ d (gt B (i:Int)).ae (gt B (i:Int)).kind (gt B (i:Int)).owner (gt B (i:Int)).key (gt B (i:Int)).seq (gt B (i:Int)).aV (gt B (i:Int)).cost (gt B (i:Int)).eY (by omega) jW.aV jW.so mr
     simp(disch:=omega) only[↓pQ,pS,↓reduceIte,aj,ak,ap,aq,au,av,aw,ax,ay,AR,AS,z8,AU,hi,hp]
     rfl
    ·intro d q' jW
     simp(disch:=omega) only[↓pQ,pS,↓reduceIte,aj,ak,ap,aq,au,av,aw,ax,ay,AR,AS,z8,AU,]
   ·intro c q hc
    simp(disch:=omega) only[↓pQ,pS,↓reduceIte,aj,ak,ap,aq,au,av,aw,ax,ay,AR,AS,z8,AU,]
    exact aeH id ts ht c hc (by omega)
def yF(x:Self):List ah:=eM iD x.store (fJ x)
theorem axd(r:ah):(iD r).aV=r.aV:=by unfold iD;split<;>rfl
theorem axe{x:Self}{k:Nat}(h:Fit k x.store)(hh:x.heard.length<=1048576):Fit (k+3) (yF x):=by
 have:=Jc x
 exact(Fit.mb (f:=iD) (λr hr=>by rw[axd];exact Jd hh r hr) h).mono (by omega)
theorem axf(a k o y s c:Int)(f:Bool):Prim.ev (.lit 8 [true,true,true,true,true,false,true,true]) [ii a,ii k,ii o,ii y,ii s,.l [],ii c,bb f]=some (.l ([(⟨a,k,o,y,s,[],c,f⟩:ah)].map ai)):=qN (by decide) rfl rfl
theorem axg(id bh n:Int)(ls:List bO)(ts:List cg)(hd:List Int)(st:List ah)(h1:ls.length<=1048576)(h2:ts.length<=1048576)(h3:hd.length<=1048576)(h4:st.length<=1048576)(h5:aR st)(hk:kf ⟨id,bh,⟨n,ls,ts⟩,hd,st⟩=true):
  C0 [ii id,ii bh,ii n,.l (ls.map dB),.l (ts.map ed),.l (hd.map aB),.l (st.map ai)]=some [.l ((nk ⟨id,bh,⟨n,ls,ts⟩,hd,st⟩ (yF ⟨id,bh,⟨n,ls,ts⟩,hd,st⟩)).map ai)]:=by
 obtain⟨hN,gG,ki,jy,ua,cf⟩:=qi hk
 obtain⟨n1,hl,ht,hA,hT⟩:=yE hN
 simp only at gG ki jy ua cf n1 hl ht hA hT
 have vO:=Kv cf h5
 have hol:=Jc ⟨id,bh,⟨n,ls,ts⟩,hd,st⟩
 have D8:=Jd (x:=⟨id,bh,⟨n,ls,ts⟩,hd,st⟩) h3
 have Q0:=axe (x:=⟨id,bh,⟨n,ls,ts⟩,hd,st⟩) vO h3
 have se:=vO.len
 have hW:=aeB st (fJ ⟨id,bh,⟨n,ls,ts⟩,hd,st⟩) (by omega) h5 D8
 rw[show eM iD st (fJ ⟨id,bh,⟨n,ls,ts⟩,hd,st⟩)=yF ⟨id,bh,⟨n,ls,ts⟩,hd,st⟩ from rfl]at hW
 generalize yF ⟨id,bh,⟨n,ls,ts⟩,hd,st⟩=S at hW Q0
 have hSl:=Q0.len
 have Ku:=QR ls id
 rw[asO];simp(disch:=omega) only[↓pQ,pS,↓reduceIte,aj,ak,ap,aq,au,av,aw,ax,ay,AO,AP,z0,AQ,ON,Iz _ _ _ _ _ _ _ h1 h2 h3 h4 h5,hk,aen _ _ _ _ _ hA hl]
 have hT2:∀(c:List ah),c.length<=100->aR c->iter (z0 rounds AE ug (ii id) (.l (ts.map ed)) (.l [])) rounds [.l (c.map ai),ii 0]=some [.l ((eM same [] (c++(ts.filter λt=>t.owner==id).map (rb id))).map ai)]:=by
  intro c hc hcn
  have e:(ts.filter λt=>t.owner==id).map (rb id)=ts.foldl (λc t=>if(t.owner==id)=true then c++[rb id t]else c) []:=by
   rw[M0 (λt:cg=>t.owner==id) (rb id),List.nil_append]
  have e2:c++(ts.filter λt=>t.owner==id).map (rb id)=ts.foldl (λc t=>if(t.owner==id)=true then c++[rb id t]else c) c:=by
   rw[M0 (λt:cg=>t.owner==id) (rb id)]
  rw[e2]
  refine iP ts (λi c=>[.l (c.map ai),ii i]) (λc t=>if(t.owner==id)=true then c++[rb id t]else c) (λc=>some [T.l ((eM same [] c).map ai)]) c (λi c=>c.length<=100+i∧aR c) rfl (dG (by omega)) ⟨by omega,hcn⟩ ?_ ?_
  ·rintro i d hi ⟨fR,pR⟩
   by_cases k:(gt ts (i:Int)).owner=id
   ·have e:((gt ts (i:Int)).owner==id)=true:=by simpa using k
    rw[if_pos e]
    refine⟨⟨by simp;omega,λr hr=>?_⟩,λq=>?_⟩
    ·rcases List.mem_append.1 hr with hr|hr
     ·exact pR r hr
     ·rw[List.mem_singleton]at hr;subst hr;simp[rb]
    ·unfold rb
     simp(disch:=omega) only[↓pQ,pS,↓reduceIte,aj,ak,ap,aq,au,av,aw,ax,ay,AO,AP,z0,AQ,hi,k,axf]
   ·have e:¬((gt ts (i:Int)).owner==id)=true:=by simpa using k
    rw[if_neg e]
    refine⟨⟨by omega,pR⟩,λq=>?_⟩
    simp(disch:=omega) only[↓pQ,pS,↓reduceIte,aj,ak,ap,aq,au,av,aw,ax,ay,AO,AP,z0,AQ,hi,k]
  ·rintro d q ⟨fR,pR⟩
   simp(disch:=omega) only[↓pQ,pS,↓reduceIte,aj,ak,ap,aq,au,av,aw,ax,ay,AO,AP,z0,AQ,]
   refine iP d (λi c=>[.l (c.map ai),ii i]) (λc r=>cM c (same r)) (λc=>some [T.l (c.map ai)]) [] (λi c=>Fit i c) rfl (dG (by omega)) Fit.nil ?_ ?_
   ·intro i c hi hc
    have mr:=pR.gt (n:=i) (by omega) hi
    refine⟨hc.put mr,λq=>?_⟩
    have pE:=hc.len
    have hp:=Sl c (gt d (i:Int)).ae (gt d (i:Int)).kind (gt d (i:Int)).owner (gt d (i:Int)).key (gt d (i:Int)).seq (gt d (i:Int)).aV (gt d (i:Int)).cost (gt d (i:Int)).eY (by omega) hc.aV mr
    simp(disch:=omega) only[↓pQ,pS,↓reduceIte,aj,ak,ap,aq,au,av,aw,ax,ay,AO,AP,z0,AQ,hi,hp]
    rfl
   ·intro c q hc
    have pE:=hc.len
    simp(disch:=omega) only[↓pQ,pS,↓reduceIte,aj,ak,ap,aq,au,av,aw,ax,ay,AO,AP,z0,AQ,P7 c (by omega) hc.aV]
 have hO:fJ ⟨id,bh,⟨n,ls,ts⟩,hd,st⟩=(ma ls id).map (wl ls id hd):=rfl
 unfold nk pe Jb
 simp only
 rw[hO]at hol D8 hW⊢
 generalize ma ls id=A at Ku hol D8 hW
 refine iP A (λj c=>[.l (c.map ai),ii j]) (λc a=>c++[wl ls id hd a]) (λ_=>some [T.l ((eM same [] (A.map (wl ls id hd)++(if E8 ls id=true then A.flatMap λa=>cG S A id a else [])++(ts.filter λt=>t.owner==id).map (rb id))).map ai)]) [] (λj c=>c=(A.take j).map (wl ls id hd)) rfl (dG (by omega)) rfl ?_ ?_
 ·intro j c hj hc
  have vU:j<A.length:=by omega
  refine⟨by rw[hc,List.take_add_one,List.map_append,List.getElem?_eq_getElem vU,eC vU];simp,λq=>?_⟩
  have pE:c.length<=j:=by rw[hc,List.length_map];simp;omega
  have hN:=aw9 id bh n ls (.l (ts.map ed)) (.l (st.map ai)) hd (gt A (j:Int)) hl jy h3
  simp only[ai]at hN
  simp(disch:=omega) only[↓pQ,pS,↓reduceIte,aj,ak,ap,aq,au,av,aw,ax,ay,AO,AP,z0,AQ,hj,hN]
 ·intro c q hc
  rw[List.take_length]at hc
  rw[<-hc]at hol D8 hW⊢
  cases hb:E8 ls id with
  |false=>
   simp(disch:=omega) only[↓pQ,pS,↓reduceIte,aj,ak,ap,aq,au,av,aw,ax,ay,AO,AP,z0,AQ,aep _ _ _ _ _ hA hl,hb,dh]
   rw[List.append_nil]
   exact hT2 c (by omega) D8
  |true=>
   simp only[if_true]
   simp(disch:=omega) only[↓pQ,pS,↓reduceIte,aj,ak,ap,aq,au,av,aw,ax,ay,AO,AP,z0,AQ,aep _ _ _ _ _ hA hl,hb,hW]
   refine iP A (λj d=>[.l (d.map ai),ii j]) (λd a=>d++cG S A id a) (λ_=>some [T.l ((eM same [] (c++(A.flatMap λa=>cG S A id a)++(ts.filter λt=>t.owner==id).map (rb id))).map ai)]) c (λj d=>d=c++(A.take j).flatMap λa=>cG S A id a) rfl (dG (by omega)) (by simp) ?_ ?_
   ·intro j d hj jW
    have vU:j<A.length:=by omega
    refine⟨by rw[jW,List.take_add_one,List.flatMap_append,List.getElem?_eq_getElem vU,eC vU];simp,λq=>?_⟩
    have vW:=kl_ S A id (gt A (j:Int))
    have FW:d.length<=30:=by
     rw[jW,List.length_append]
     have:=QY (A.take j) (λa=>cG S A id a) λa=>kl_ S A id a
     have:(A.take j).length<=A.length:=by simp;omega
     omega
    simp(disch:=omega) only[↓pQ,pS,↓reduceIte,aj,ak,ap,aq,au,av,aw,ax,ay,AO,AP,z0,AQ,hj,awE S A id _ (show S.length<=1048576 by omega) Q0.aV (show A.length<=1048576 by omega)]
   ·intro d q jW
    rw[List.take_length]at jW
    have FW:d.length<=30:=by
     rw[jW,List.length_append]
     have:=QY A (λa=>cG S A id a) λa=>kl_ S A id a
     omega
    have pA:aR d:=λr hr=>by
     rw[jW]at hr
     rcases List.mem_append.1 hr with hr|hr
     ·exact D8 r hr
     ·obtain⟨a,_,hr⟩:=List.mem_flatMap.1 hr
      exact QZ _ _ _ _ r hr
    rw[<-jW]
    simp(disch:=omega) only[↓pQ,pS,↓reduceIte,aj,ak,ap,aq,au,av,aw,ax,ay,AO,AP,z0,AQ,]
    exact hT2 d (by omega) pA
theorem D9{a b:ah}(h:dO a b=true):dO b a=true:=by rw[sameKey_iff]at *;omega
theorem ur{a b c:ah}(h:dO a b=true)(h':dO b c=true):dO a c=true:=by rw[sameKey_iff]at *;omega
theorem E9(a:ah):dO a a=true:=by rw[sameKey_iff];omega
theorem fi{s:List ah}{r x:ah}:x∈cM s r↔x=r∨(x∈s∧dO x r=false):=by
 unfold cM
 simp only[List.mem_append,List.mem_filter,List.mem_singleton]
 constructor
 ·rintro(⟨h,q⟩|h|⟨h,q⟩)
  ·exact .inr ⟨h,uS_ q⟩
  ·exact .inl h
  ·refine .inr ⟨h,?_⟩
   cases hc:dO x r with
   |false=>rfl
   |true=>have:=D9 hc;rw[uS_ q]at this;cases this
 ·rintro(h|⟨h,q⟩)
  ·exact .inr (.inl h)
  ·cases hl:fo x r with
   |true=>exact .inl ⟨h,rfl⟩
   |false=>exact .inr (.inr ⟨h,adP hl q⟩)
def cr(s:List ah)(r:ah):Prop:=∃x∈s,dO r x=true
theorem cr.put{s:List ah}{y:ah}(h:cr s y)(r:ah):cr (cM s r) y:=by
 obtain⟨x,hx,hk⟩:=h
 cases hc:dO x r with
 |true=>exact⟨r,fi.2 (.inl rfl),ur hk hc⟩
 |false=>exact⟨x,fi.2 (.inr ⟨hx,hc⟩),hk⟩
theorem cr.new{s:List ah}{y r:ah}(h:dO y r=true):cr (cM s r) y:=⟨r,fi.2 (.inl rfl),h⟩
theorem cr.mb{f:ah->ah}{y:ah}:∀{l s:List ah},cr s y->cr (eM f s l) y
 | [],_,h=>h
 |x::l,s,h=>cr.mb (l:=l) (h.put (f x))
theorem cr.nV{f:ah->ah}{y z:ah}(hz:dO y (f z)=true):∀{l s:List ah},z∈l->cr (eM f s l) y
 |x::l,s,h=>by
  rcases List.mem_cons.1 h with rfl|h
  ·exact cr.mb (l:=l) (cr.new hz)
  ·exact cr.nV hz (l:=l) h
theorem uo_:∀{s t:List ah},gZ s->gZ t->(∀r∈s,cr t r)->s.length<=t.length
 | [],t,_,_,_=>by simp
 |x::s,t,hs,ht,h=>by
  have ps:=List.pairwise_cons.1 hs
  obtain⟨y,hy,hk⟩:=h x (.head _)
  obtain⟨t1,t2,rfl⟩:=List.append_of_mem hy
  have pt:=List.pairwise_append.1 ht
  have pt2:=List.pairwise_cons.1 pt.2.1
  have ih:=uo_ (s:=s) (t:=t2) ps.2 pt2.2 λr hr=>by
   obtain⟨z,hz,Sz⟩:=h r (.tail _ hr)
   have bf:fo y z=true:=by
    have h1:=ps.1 r hr
    rw[p7]at*
    rw[sameKey_iff]at hk Sz
    omega
   rcases List.mem_append.1 hz with hz|hz
   ·have h2:=pt.2.2 z hz y (.head _)
    rw[DP bf]at h2;cases h2
   ·rcases List.mem_cons.1 hz with e|hz
    ·subst e
     rw[IE]at bf;cases bf
    ·exact⟨z,hz,Sz⟩
  simp only[List.length_append,List.length_cons]
  omega
theorem Kw{f:ah->ah}{r:ah}:∀{l s:List ah},l.Pairwise (λa b=>dO (f a) (f b)=false)->(r∈eM f s l↔(∃o∈l,r=f o)∨(r∈s∧∀o∈l,dO r (f o)=false))
 | [],s,_=>by simp[eM]
 |x::l,s,h=>by
  have hp:=List.pairwise_cons.1 h
  rw[show eM f s (x::l)=eM f (cM s (f x)) l from rfl,Kw hp.2,fi]
  constructor
  ·rintro(⟨o,ho,e⟩|⟨e|⟨h1,h2⟩,h3⟩)
   ·exact .inl ⟨o,.tail _ ho,e⟩
   ·exact .inl ⟨x,.head _,e⟩
   ·refine .inr ⟨h1,λo ho=>?_⟩
    rcases List.mem_cons.1 ho with rfl|ho
    ·exact h2
    ·exact h3 o ho
  ·rintro(⟨o,ho,e⟩|⟨h1,h2⟩)
   ·rcases List.mem_cons.1 ho with rfl|ho
    ·exact .inr ⟨.inl e,λo' JN=>by rw[e];exact hp.1 o' JN⟩
    ·exact .inl ⟨o,ho,e⟩
   ·exact .inr ⟨.inr ⟨h1,h2 x (.head _)⟩,λo ho=>h2 o (.tail _ ho)⟩
def nW(s:List ah)(r:ah):Int:=if bn s r<0 then 0 else(gt s (bn s r)).seq
def tO(x:Self)(r:ah):Int:=if 1000*x.bh+1>nW x.store r+1 then 1000*x.bh+1 else nW x.store r+1
def re(s:List ah)(r:ah):Bool:=decide (bn s r<0)|| !wi (gt s (bn s r)) r
def xy(x:Self)(r:ah):ah:={r with seq:=tO x r}
def rf(x:Self)(c:List ah)(r:ah):List ah:=if re x.store r=true then cM c (xy x r)else c
def gd(r:ah):ah:=if r.kind=1 then {r with aV:=[]}else {r with aV:=[],cost:=60000}
def tQ(x:Self)(W:List ah)(r:ah):Bool:=(r.owner==x.id)&&(decide (bn W r<0)&& !wi (gd r) r)
def xA(x:Self)(r:ah):ah:={gd r with seq:=tO x r}
def tR(x:Self)(W:List ah)(c:List ah)(r:ah):List ah:=if tQ x W r=true then cM c (xA x r)else c
def rh(x:Self)(W:List ah):List ah:=x.store.foldl (tR x W) (W.foldl (rf x) [])
def wm(x:Self)(W:List ah):Self×List ah:=
 if(rh x W).all (λr=>decide (r.seq<=100000))=true∧(eM same x.store (rh x W)).length<=150 then({x with store:=eM same x.store (rh x W)},rh x W)else(x,[])
theorem Q1{α:Type}{y:ah}{g:List ah->α->List ah}(hg:∀c a,cr c y->cr (g c a) y):∀{l:List α} {c:List ah},cr c y->cr (l.foldl g c) y
 | [],_,h=>h
 |a::l,c,h=>Q1 hg (l:=l) (hg c a h)
theorem axh{x:Self}{y:ah}(c:List ah)(r:ah)(h:cr c y):cr (rf x c r) y:=by
 unfold rf;split
 ·exact h.put _
 ·exact h
theorem axi{x:Self}{W:List ah}{y:ah}(c:List ah)(r:ah)(h:cr c y):cr (tR x W c r) y:=by
 unfold tR;split
 ·exact h.put _
 ·exact h
theorem aeK{x:Self}{w:ah}(hw:re x.store w=true):∀{l c:List ah},w∈l->cr (l.foldl (rf x) c) w
 |a::l,c,h=>by
  rcases List.mem_cons.1 h with rfl|h
  ·rw[List.foldl_cons]
   refine Q1 axh ?_
   unfold rf
   rw[if_pos hw]
   exact cr.new (by rw[sameKey_iff];exact⟨rfl,rfl,rfl,rfl⟩)
  ·exact aeK hw (l:=l) h
theorem axj{s:List ah}{r:ah}(h:¬bn s r<0):cr s r:=by
 unfold bn at h
 have h0:0<=eV (λx=>dO x r) s:=by omega
 exact⟨_,lg (l:=s) h0 (sm _ _),D9 (ue (λx=>dO x r) s h0)⟩
theorem aeL(x:Self)(W:List ah){y:ah}(h:cr x.store y∨cr W y):cr (eM same x.store (rh x W)) y:=by
 rcases h with h|⟨w,hw,hk⟩
 ·exact h.mb
 ·by_cases hn:re x.store w=true
  ·obtain⟨z,hz,Sz⟩:cr (rh x W) w:=Q1 axi (aeK hn hw)
   exact cr.nV (z:=z) (ur hk Sz) hz
  ·unfold re at hn
   simp only[Bool.or_eq_true,decide_eq_true_eq,not_or]at hn
   obtain⟨z,hz,Sz⟩:=axj hn.1
   exact cr.mb ⟨z,hz,ur hk Sz⟩
theorem Je(x:Self){f:ah->ah}(hf:∀r,dO (f r) r=true):(fJ x).Pairwise λa b=>dO (f a) (f b)=false:=by
 unfold fJ
 rw[List.pairwise_map]
 have h:(ma x.net.aE x.id).Pairwise (· < ·):=pc.filter _
 refine h.imp λ{a b} ln=>?_
 cases hc:dO (f (wl x.net.aE x.id x.heard a)) (f (wl x.net.aE x.id x.heard b))with
 |false=>rfl
 |true=>
  have:=ur (ur (D9 (hf _)) hc) (hf _)
  rw[sameKey_iff]at this
  have e:a=b:=this.1
  omega
theorem Al{x:Self}{o:ah}(ho:o∈fJ x):iD o=il o∧o.kind=1∧o.owner=x.id∧o.key=0∧(ma x.net.aE x.id).contains o.ae=true:=by
 obtain⟨a,ha,rfl⟩:=List.mem_map.1 ho
 exact⟨rfl,rfl,rfl,rfl,List.contains_iff_mem.2 ha⟩
theorem axk{x:Self}(h:kf x=true)(a:Int):wh x.id (Ak x.net.aE x.id x.heard a)=true:=by
 obtain⟨hN,gG,ki,jy,ua,cf⟩:=qi h
 obtain⟨n1,hl,ht,hA,hT⟩:=yE hN
 have hk:=λk hk=>bY.1 ua k hk
 unfold Ak
 refine awG ?_ ?_
 ·intro y hy
  obtain⟨k,gx,rfl⟩:=List.mem_map.1 hy
  obtain⟨c_,jz⟩:=List.mem_filter.1 gx
  rw[List.mem_range]at c_
  rw[decide_eq_true_eq]at jz
  have h1:=hk k c_
  simp only[bD,decide_eq_true_eq]at h1
  rw[jz]at h1
  have h2:=ue _ _ h1.1
  have hm:=lg (l:=x.net.aE) (n:=eV (iE x.id (gt x.heard (2*(k:Int))) a) x.net.aE) h1.1 (sm _ _)
  have h3:=xv hA hm
  have h4:om x.net.aE x.id (gt x.heard (2*(k:Int))) a=(gt x.net.aE (eV (iE x.id (gt x.heard (2*(k:Int))) a) x.net.aE)).cost:=by unfold om;rw[if_neg (by omega)]
  rw[pd]at h2
  simp only
  rw[h4]
  omega
 ·rw[List.pairwise_map]
  have j9:∀k,k+1<x.heard.length/2->gt x.heard (2*(k:Int))*4+gt x.heard (2*(k:Int)+1)<gt x.heard (2*((k+1:Nat):Int))*4+gt x.heard (2*((k+1:Nat):Int)+1):=by
   intro k nI
   have h1:=hk (k+1) nI
   have h0:=hk k (by omega)
   simp only[bD,Bool.or_eq_true,decide_eq_true_eq,Bool.not_eq_true',decide_eq_false_iff_not]at h1 h0
   have b1:=xv hA (lg (l:=x.net.aE) h1.1 (sm _ _))
   have c1:=pd.1 (ue _ _ h1.1)
   have b0:=xv hA (lg (l:=x.net.aE) h0.1 (sm _ _))
   have c0:=pd.1 (ue _ _ h0.1)
   have h2:=h1.2.resolve_left (by omega)
   rw[show(2:Int)*((k+1:Nat):Int)-2=2*(k:Int) by omega,show(2:Int)*((k+1:Nat):Int)-1=2*(k:Int)+1 by omega]at h2
   omega
  have qM:∀d k,k+1+d<x.heard.length/2->gt x.heard (2*(k:Int))*4+gt x.heard (2*(k:Int)+1)<gt x.heard (2*((k+1+d:Nat):Int))*4+gt x.heard (2*((k+1+d:Nat):Int)+1):=by
   intro d
   induction d with
   |zero=>intro k nI;exact j9 k nI
   |succ d ih=>intro k nI;exact Int.lt_trans (ih k (by omega)) (j9 (k+1+d) nI)
  refine(List.pairwise_lt_range.filter _).imp_of_mem λ{i j} hi hj rV=>?_
  obtain⟨vV,nw⟩:=List.mem_filter.1 hi
  obtain⟨hj1,ze⟩:=List.mem_filter.1 hj
  rw[List.mem_range]at vV hj1
  rw[decide_eq_true_eq]at nw ze
  have:=qM (j-i-1) i (by omega)
  rw[show i+1+(j-i-1)=j by omega,nw,ze]at this
  show gt x.heard (2*(i:Int))<gt x.heard (2*(j:Int))
  omega
theorem aeM{x:Self}(h:kf x=true){o:ah}(ho:o∈fJ x):eW (iD o)=true:=by
 have gG:=(qi h).2.1
 have hN:=(yE (qi h).1).1
 obtain⟨a,ha,rfl⟩:=List.mem_map.1 ho
 have h2:=aeA ha
 have h3:=axk h a
 unfold eW
 simp only[wl,iD,if_true,bD,bg]
 refine⟨⟨by omega,by omega⟩,?_⟩
 simp[bg,h2,h3]
theorem D_(r:ah):dO (iD r) r=true:=by
 rw[sameKey_iff]
 unfold iD
 split<;>exact⟨rfl,rfl,rfl,rfl⟩
theorem axl(r:ah):dO (il r) r=true:=by rw[sameKey_iff];exact⟨rfl,rfl,rfl,rfl⟩
theorem axm{x:Self}(h:kf x=true):D7 (ma x.net.aE x.id) (yF x) (rF x.store x.id (fJ x)):=by
 have cf:=(qi h).2.2.2.2.2
 have sC:=tH cf
 have p1:gZ (yF x):=by
  unfold yF eM
  have:∀(l s:List ah),gZ s->gZ (l.foldl (λc r=>cM c (iD r)) s):=by
   intro l;induction l with
   |nil=>intro s h;exact h
   |cons a l ih=>intro s h;exact ih _ (Kj h _)
  exact this _ _ sC
 have p2:gZ (rF x.store x.id (fJ x)):=by
  unfold rF eM
  have:∀(l s:List ah),gZ s->gZ (l.foldl (λc r=>cM c (il r)) s):=by
   intro l;induction l with
   |nil=>intro s h;exact h
   |cons a l ih=>intro s h;exact ih _ (Kj h _)
  exact this _ _ (sC.filter _)
 have m1:=λr=>Kw (f:=iD) (r:=r) (s:=x.store) (Je x D_)
 have m2:=λr=>Kw (f:=il) (r:=r) (s:=x.store.filter (xw x.id)) (Je x axl)
 refine⟨p1,λr hr=>?_,p2,λr hr hn=>?_⟩
 ·rcases(m2 r).1 hr with⟨o,ho,e⟩|⟨h1,h2⟩
  ·exact(m1 r).2 (.inl ⟨o,ho,by rw[e,(Al ho).1]⟩)
  ·exact(m1 r).2 (.inr ⟨(List.mem_filter.1 h1).1,λo ho=>by rw[(Al ho).1];exact h2 o ho⟩)
 ·rcases(m1 r).1 hr with⟨o,ho,e⟩|⟨h1,h2⟩
  ·exact absurd ((m2 r).2 (.inl ⟨o,ho,by rw[e,(Al ho).1]⟩)) hn
  ·have hm:¬xw x.id r=true:=λhm=>hn ((m2 r).2 (.inr ⟨List.mem_filter.2 ⟨h1,hm⟩,λo ho=>by rw[<-(Al ho).1];exact h2 o ho⟩))
   have hm:r.kind=1∧r.owner=x.id:=by
    unfold xw at hm
    simpa using hm
   refine⟨hm.1,?_⟩
   cases hc:(ma x.net.aE x.id).contains r.ae with
   |false=>rfl
   |true=>
    have ha:=List.contains_iff_mem.1 hc
    have h3:=h2 (wl x.net.aE x.id x.heard r.ae) (List.mem_map.2 ⟨_,ha,rfl⟩)
    have hk:=Ja (DT cf h1)
    have:dO r (iD (wl x.net.aE x.id x.heard r.ae))=true:=by
     refine ur ?_ (D9 (D_ _))
     rw[sameKey_iff]
     exact⟨rfl,hm.1,hm.2,by show r.key=0;omega⟩
    rw[this]at h3;cases h3
theorem axn{x:Self}{S:List ah}{o:ah}(ho:o∈fJ x):cr (nk x S) o:=
 cr.nV (z:=o) (E9 o) (List.mem_append.2 (.inl (List.mem_append.2 (.inl ho))))
theorem axo{x:Self}(h:kf x=true):wm x (nk x (yF x))=wm x (nk x (rF x.store x.id (fJ x))):=by
 have hc:=axm h
 have cf:=(qi h).2.2.2.2.2
 have sC:=tH cf
 by_cases hlen:(yF x).length<=150
 ·have hr:∀r∈yF x,eW r=true:=by
   intro r hr
   rcases(Kw (f:=iD) (r:=r) (s:=x.store) (Je x D_)).1 hr with⟨o,ho,e⟩|⟨h1,_⟩
   ·rw[e];exact aeM h ho
   ·exact DT cf h1
  have h1:df (yF x)=true:=by unfold df;rw[bD,decide_eq_true_eq];exact⟨hlen,D6 hr hc.so⟩
  have h2:df (rF x.store x.id (fJ x))=true:=by
   unfold df;rw[bD,decide_eq_true_eq]
   exact⟨Nat.le_trans (uo_ hc.so' hc.so λr hr=>⟨r,hc.sub r hr,E9 r⟩) hlen,D6 (λr iM=>hr r (hc.sub r iM)) hc.so'⟩
  have e:pe x (yF x)=pe x (rF x.store x.id (fJ x)):=by
   unfold pe
   rw[aeD λa ha=>hc.cG (h1.trans h2.symm) (List.contains_iff_mem.2 ha) x.id]
  unfold nk
  rw[e]
 ·have big:∀S,wm x (nk x S)=(x,[]):=by
   intro S
   unfold wm
   rw[if_neg]
   rintro⟨_,h2⟩
   have hsT:gZ (eM same x.store (rh x (nk x S))):=by
    unfold eM
    have:∀(l s:List ah),gZ s->gZ (l.foldl (λc r=>cM c (same r)) s):=by
     intro l;induction l with
     |nil=>intro s h;exact h
     |cons a l ih=>intro s h;exact ih _ (Kj h _)
    exact this _ _ sC
   have:=uo_ hc.so hsT λr hr=>by
    rcases(Kw (f:=iD) (r:=r) (s:=x.store) (Je x D_)).1 hr with⟨o,ho,e⟩|⟨h1,_⟩
    ·obtain⟨z,hz,hk⟩:=aeL x (nk x S) (y:=o) (.inr (axn ho))
     exact⟨z,hz,by rw[e];exact ur (D_ o) hk⟩
    ·exact aeL x (nk x S) (.inl ⟨r,h1,E9 r⟩)
   omega
  rw[big,big]
theorem Jf(s:List ah)(r:ah):bn s r<s.length:=sm _ _
theorem aeN{r:ah}(h:eW r=true):1<=r.seq∧r.seq<=100000:=by
 unfold eW at h
 simp only[bD,bg]at h
 exact h.1.2
theorem Jg{s:List ah}(h:df s=true)(r:ah):0<=nW s r∧nW s r<=100000:=by
 unfold nW
 split
 ·omega
 ·have:=aeN (DT h (lg (l:=s) (n:=bn s r) (by omega) (Jf s r)))
  omega
theorem Jh{x:Self}(h:df x.store=true)(hb:0<=x.bh∧x.bh<=90)(r:ah):1<=tO x r∧tO x r<=100001:=by
 have:=Jg h r
 unfold tO
 split<;>omega
theorem axp(t0 t2 t3 t4 t5 u4 u5 u6 u7:T)(x:Self)(r:ah)(h:df x.store=true)(hb:0<=x.bh∧x.bh<=90)(hl:x.store.length<=1048576):
  Dl [t0,ii x.bh,t2,t3,t4,t5,.l (x.store.map ai),ii r.ae,ii r.kind,ii r.owner,ii r.key,u4,u5,u6,u7]=some [ii (tO x r)]:=by
 have hk:=IB x.store r.ae r.kind r.owner r.key u4 u5 u6 u7 hl
 rw[P6]at hk
 have ho:=Jg h r
 rw[aut]
 unfold tO
 unfold nW at ho⊢
 have bf:=Jf x.store r
 by_cases h0:bn x.store r<0
 ·have h1:¬bn x.store r>=0:=by omega
  rw[if_pos h0]at ho⊢
  simp(disch:=omega) only[↓pQ,pS,↓reduceIte,aj,ak,ap,aq,au,av,aw,ax,ay,Io,hk,h1]
 ·have h1:bn x.store r>=0:=by omega
  have h2:0<=bn x.store r:=by omega
  rw[if_neg h0]at ho⊢
  simp(disch:=omega) only[↓pQ,pS,↓reduceIte,aj,ak,ap,aq,au,av,aw,ax,ay,Io,hk,h1,h2,bf]
theorem aeO(t0 t2 t3 t4 t5 t6:T)(x:Self)(r:ah)(h:df x.store=true)(hb:0<=x.bh∧x.bh<=90):
  C2 [t0,ii x.bh,t2,t3,t4,t5,t6,ii (nW x.store r)]=some [ii (tO x r)]:=by
 have ho:=Jg h r
 rw[asU]
 unfold tO
 by_cases h1:nW x.store r<1000*x.bh
 ·have h2:1000*x.bh+1>nW x.store r+1:=by omega
  rw[if_pos h2]
  simp(disch:=omega) only[↓pQ,pS,↓reduceIte,aj,ak,ap,aq,au,av,aw,ax,ay,Ic,h1]
 ·have h2:¬1000*x.bh+1>nW x.store r+1:=by omega
  rw[if_neg h2]
  simp(disch:=omega) only[↓pQ,pS,↓reduceIte,aj,ak,ap,aq,au,av,aw,ax,ay,Ic,h1]
theorem axq(r:ah)(t:T):Dm [ii r.ae,ii r.kind,ii r.owner,ii r.key,ii r.seq,t,ii r.cost,bb r.eY]=some (ai (gd r)):=by
 rw[auv]
 unfold gd
 by_cases h:r.kind=1
 ·rw[if_pos h]
  simp(disch:=omega) only[↓pQ,pS,↓reduceIte,aj,ak,ap,aq,au,av,aw,ax,ay,Ip,h]
  rfl
 ·rw[if_neg h]
  simp(disch:=omega) only[↓pQ,pS,↓reduceIte,aj,ak,ap,aq,au,av,aw,ax,ay,Ip,h]
  rfl
theorem axr(r:ah)(h:r.kind≠1->r.aV=[]):ZI [ii r.ae,ii r.kind,ii r.owner,ii r.key,ii r.seq,.l (r.aV.map fe),ii r.cost,bb r.eY]=some (ai (gd r)):=by
 rw[asW]
 unfold gd
 by_cases hk:r.kind=1
 ·rw[if_pos hk]
  simp(disch:=omega) only[↓pQ,pS,↓reduceIte,aj,ak,ap,aq,au,av,aw,ax,ay,Ie,hk]
  rfl
 ·rw[if_neg hk]
  simp(disch:=omega) only[↓pQ,pS,↓reduceIte,aj,ak,ap,aq,au,av,aw,ax,ay,Ie,hk]
  rw[h hk]
  rfl
theorem axs{r:ah}(h:eW r=true):r.kind≠1->r.aV=[]:=by
 intro hk
 unfold eW at h
 simp only[bD]at h
 have h:=h.2
 rw[if_neg hk]at h
 split at h
 ·simp only[bD,decide_eq_true_eq]at h
  exact List.eq_nil_of_length_eq_zero (by omega)
 ·split at h
  ·simp only[bD,decide_eq_true_eq]at h
   exact List.eq_nil_of_length_eq_zero (by omega)
  ·cases h
theorem SA(r:ah):(gd r).aV=[]:=by unfold gd;split<;>rfl
theorem aeP{x:Self}{k:Nat}{c:List ah}(h:Fit k c){r:ah}(hr:r.aV.length<=1048576):Fit (k+1) (rf x c r):=by
 unfold rf
 split
 ·exact h.put hr
 ·exact h.mono (by omega)
theorem aeQ{x:Self}{W:List ah}{k:Nat}{c:List ah}(h:Fit k c)(r:ah):Fit (k+1) (tR x W c r):=by
 unfold tR
 split
 ·exact h.put (by show(gd r).aV.length<=_;rw[SA];simp)
 ·exact h.mono (by omega)
section
variable (x:Self) (W:List ah) (t2 t3 t4:T)
theorem axt(h:df x.store=true)(hb:0<=x.bh∧x.bh<=90)(hs:aR x.store)(hW:W.length<=25)(hn:aR W)(th:T)
  (hw:RX [ii x.id,ii x.bh,t2,t3,t4,th,.l (x.store.map ai)]=some [.l (W.map ai)]):
  Dn [ii x.id,ii x.bh,t2,t3,t4,th,.l (x.store.map ai)]=some [.l ((rh x W).map ai)]:=by
 have hf:=Kv h hs
 have xU:=hf.len
 have hq:=λr:ah=>λu4 u5 u6 u7=>axp (ii x.id) t2 t3 t4 th u4 u5 u6 u7 x r h hb (by omega)
 rw[auy];simp(disch:=omega) only[↓pQ,pS,↓reduceIte,aj,ak,ap,aq,au,av,aw,ax,ay,DG,DH,PD,hw]
 refine iP W (λi c=>[.l (c.map ai),ii i,.l (W.map ai)]) (rf x) (λc=>some [T.l ((x.store.foldl (tR x W) c).map ai)]) [] (λi c=>Fit i c) rfl (dG (by omega)) Fit.nil ?_ ?_
 ·intro i c hi hc
  have mr:=hn.gt (n:=i) (by omega) hi
  refine⟨aeP hc mr,λq=>?_⟩
  have pE:=hc.len
  have hk:=IB x.store (gt W (i:Int)).ae (gt W (i:Int)).kind (gt W (i:Int)).owner (gt W (i:Int)).key (ii (gt W (i:Int)).seq) (.l ((gt W (i:Int)).aV.map fe)) (ii (gt W (i:Int)).cost) (bb (gt W (i:Int)).eY) (by omega)
  rw[P6]at hk
  have hq:=hq (gt W (i:Int)) (ii (gt W (i:Int)).seq) (.l ((gt W (i:Int)).aV.map fe)) (ii (gt W (i:Int)).cost) (bb (gt W (i:Int)).eY)
  have hp:=DQ c (gt W (i:Int)).ae (gt W (i:Int)).kind (gt W (i:Int)).owner (gt W (i:Int)).key (tO x (gt W (i:Int))) (gt W (i:Int)).aV (gt W (i:Int)).cost (gt W (i:Int)).eY (by omega) hc.aV hc.so mr
  have bf:=Jf x.store (gt W (i:Int))
  unfold rf re
  by_cases h0:bn x.store (gt W (i:Int))<0
  ·simp(disch:=omega) only[↓pQ,pS,↓reduceIte,aj,ak,ap,aq,au,av,aw,ax,ay,DG,DH,hi,hk,h0,hq,hp,decide_true,Bool.true_or]
   rfl
  ·have h1:0<=bn x.store (gt W (i:Int)):=by omega
   have p8:=P0 (gt x.store (bn x.store (gt W (i:Int)))).ae (gt x.store (bn x.store (gt W (i:Int)))).kind (gt x.store (bn x.store (gt W (i:Int)))).owner (gt x.store (bn x.store (gt W (i:Int)))).key (gt x.store (bn x.store (gt W (i:Int)))).seq (gt x.store (bn x.store (gt W (i:Int)))).aV (gt x.store (bn x.store (gt W (i:Int)))).cost (gt x.store (bn x.store (gt W (i:Int)))).eY (gt W (i:Int)).ae (gt W (i:Int)).kind (gt W (i:Int)).owner (gt W (i:Int)).key (gt W (i:Int)).seq (gt W (i:Int)).aV (gt W (i:Int)).cost (gt W (i:Int)).eY (hs.gt h1 bf)
   rw[show(⟨(gt x.store (bn x.store (gt W (i:Int)))).ae,(gt x.store (bn x.store (gt W (i:Int)))).kind,(gt x.store (bn x.store (gt W (i:Int)))).owner,(gt x.store (bn x.store (gt W (i:Int)))).key,(gt x.store (bn x.store (gt W (i:Int)))).seq,(gt x.store (bn x.store (gt W (i:Int)))).aV,(gt x.store (bn x.store (gt W (i:Int)))).cost,(gt x.store (bn x.store (gt W (i:Int)))).eY⟩:ah)=gt x.store (bn x.store (gt W (i:Int))) from rfl,show(⟨(gt W (i:Int)).ae,(gt W (i:Int)).kind,(gt W (i:Int)).owner,(gt W (i:Int)).key,(gt W (i:Int)).seq,(gt W (i:Int)).aV,(gt W (i:Int)).cost,(gt W (i:Int)).eY⟩:ah)=gt W (i:Int) from rfl]at p8
   cases jX:wi (gt x.store (bn x.store (gt W (i:Int)))) (gt W (i:Int))with
   |true=>
    rw[jX]at p8
    simp(disch:=omega) only[↓pQ,pS,↓reduceIte,aj,ak,ap,aq,au,av,aw,ax,ay,DG,DH,hi,hk,h0,h1,bf,p8,decide_false,Bool.false_or,Bool.not_true,dh]
   |false=>
    rw[jX]at p8
    simp(disch:=omega) only[↓pQ,pS,↓reduceIte,aj,ak,ap,aq,au,av,aw,ax,ay,DG,DH,hi,hk,h0,h1,bf,p8,hq,hp,decide_false,Bool.false_or,Bool.not_false,dh]
    rfl
 ·intro c q hc
  simp(disch:=omega) only[↓pQ,pS,↓reduceIte,aj,ak,ap,aq,au,av,aw,ax,ay,DG,DH,]
  refine iP x.store (λi c=>[.l (c.map ai),ii i]) (tR x W) (λc=>some [T.l (c.map ai)]) c (λi c=>Fit (25+i) c) rfl (dG (by omega)) (hc.mono (by omega)) ?_ ?_
  ·intro i c hi hc
   refine⟨aeQ hc _,λq=>?_⟩
   have pE:=hc.len
   generalize hr:gt x.store (i:Int)=r
   have hk:=IB W r.ae r.kind r.owner r.key (ii r.seq) (.l (r.aV.map fe)) (ii r.cost) (bb r.eY) (by omega)
   rw[P6]at hk
   have hq:=hq r (ii r.seq) (.l (r.aV.map fe)) (ii r.cost) (bb r.eY)
   have hg:=axq r (.l (r.aV.map fe))
   have p8:=P0 (gd r).ae (gd r).kind (gd r).owner (gd r).key (gd r).seq (gd r).aV (gd r).cost (gd r).eY r.ae r.kind r.owner r.key r.seq r.aV r.cost r.eY (by rw[SA];simp)
   have hp:=DQ c (gd r).ae (gd r).kind (gd r).owner (gd r).key (tO x r) (gd r).aV (gd r).cost (gd r).eY (by omega) hc.aV hc.so (by rw[SA];simp)
   rw[show(⟨(gd r).ae,(gd r).kind,(gd r).owner,(gd r).key,(gd r).seq,(gd r).aV,(gd r).cost,(gd r).eY⟩:ah)=gd r from rfl,show(⟨r.ae,r.kind,r.owner,r.key,r.seq,r.aV,r.cost,r.eY⟩:ah)=r from rfl]at p8
   unfold tR tQ
   simp only[ai]at hg
   by_cases h0:r.owner=x.id
   ·rw[h0]at hk hq hg p8
    by_cases h1:bn W r<0
    ·have h2:¬bn W r>=0:=by omega
     cases jX:wi (gd r) r with
     |true=>
      rw[jX]at p8
      simp(disch:=omega) only[↓pQ,pS,↓reduceIte,aj,ak,ap,aq,au,av,aw,ax,ay,DG,DH,hi,hr,h0,hk,h1,h2,hg,p8,Bool.not_true,Bool.and_false,dh]
     |false=>
      have e0:(r.owner==x.id)=true:=by simpa using h0
      rw[jX]at p8
      simp(disch:=omega) only[↓pQ,pS,↓reduceIte,aj,ak,ap,aq,au,av,aw,ax,ay,DG,DH,hi,hr,h0,hk,h1,h2,hg,p8,hq,hp,Bool.not_false,Bool.and_true,beq_self_eq_true,decide_true]
      rfl
    ·have h2:bn W r>=0:=by omega
     simp(disch:=omega) only[↓pQ,pS,↓reduceIte,aj,ak,ap,aq,au,av,aw,ax,ay,DG,DH,hi,hr,h0,hk,h1,h2,decide_false,Bool.false_and,Bool.and_false,dh]
   ·have e0:(r.owner==x.id)=false:=by simpa using h0
    simp(disch:=omega) only[↓pQ,pS,↓reduceIte,aj,ak,ap,aq,au,av,aw,ax,ay,DG,DH,hi,hr,h0,e0,Bool.false_and,dh]
  ·intro c q hc
   simp(disch:=omega) only[↓pQ,pS,↓reduceIte,aj,ak,ap,aq,au,av,aw,ax,ay,DG,DH,]
end
theorem axu{α γ:Type} [Inhabited α](l:List α)(p:α->Bool)(g:γ->α->γ)(c:γ):
  Ha (λi _=>p (gt l (i:Int))) (λc i=>g c (gt l (i:Int))) l.length c=if l.all p=true then some (l.foldl g c)else none:=by
 have key:∀(m:List α) (o:γ),m.foldl (λ(o:Option γ) a=>o.bind λc=>if p a=true then some (g c a)else none) (some o)=if m.all p=true then some (m.foldl g o)else none:=by
  intro m
  induction m with
  |nil=>intro o;simp
  |cons a m ih=>
   intro o
   rw[List.foldl_cons,Option.bind_some]
   cases hp:p a with
   |true=>rw[if_pos rfl,ih];simp[hp]
   |false=>
    rw[if_neg (by decide)]
    have:∀m:List α,m.foldl (λ(o:Option γ) a=>o.bind λc=>if p a=true then some (g c a)else none) none=none:=by
     intro m;induction m with
     |nil=>rfl
     |cons a m ih=>exact ih
    rw[this];simp[hp]
 have e:l=(List.range l.length).map λi:Nat=>gt l (i:Int):=by
  refine List.ext_getElem (by simp) λi h1 h2=>?_
  rw[List.getElem_map,List.getElem_range,eC h1]
 rw[<-key]
 conv=>rhs;rw[e]
 rw[List.foldl_map]
 rfl
theorem aeR(x:Self)(h1:x.net.aE.length<=1048576)(h2:x.net.aM.length<=1048576)(h3:x.heard.length<=1048576)(h4:x.store.length<=1048576)(h5:aR x.store):
  ET [ii x.id,ii x.bh,ii x.net.n,.l (x.net.aE.map dB),.l (x.net.aM.map ed),.l (x.heard.map aB),.l (x.store.map ai)]=some (iB x):=by
 have hN:RW [ii x.net.n,.l (x.net.aE.map dB),.l (x.net.aM.map ed)]=some [ii x.net.n,.l (x.net.aE.map dB),.l (x.net.aM.map ed)]:=by
  rw[adt];simp(disch:=omega) only[↓pQ,pS,↓reduceIte,aj,ak,ap,aq,au,av,aw,ax,ay,Ij]
 rw[adu];simp(disch:=omega) only[↓pQ,pS,↓reduceIte,aj,ak,ap,aq,au,av,aw,ax,ay,Ik,hN,tK _ h3,IC _ h4 h5]
 rfl
theorem axv(x:Self)(h1:x.net.aE.length<=1048576)(h2:x.net.aM.length<=1048576)(h3:x.heard.length<=1048576)(h4:x.store.length<=1048576)(h5:aR x.store):
  ER [ii x.id,ii x.bh,ii x.net.n,.l (x.net.aE.map dB),.l (x.net.aM.map ed),.l (x.heard.map aB),.l (x.store.map ai)]=some (iB x):=by
 rw[adk];simp(disch:=omega) only[↓pQ,pS,↓reduceIte,aj,ak,ap,aq,au,av,aw,ax,ay,H8,P7 _ h4 h5]
 rfl
theorem axw(s:List ah)(r:ah)(u4 u5 u6 u7:T)(h:s.length<=1048576)(hn:aR s):
  C1 [.l (s.map ai),ii r.ae,ii r.kind,ii r.owner,ii r.key,u4,u5,u6,u7]=if bn s r<0 then some [ii 0,ii 0,ii 0,ii 0,ii 0,.l [],ii 0,bb false,bb false]else some (ai (gt s (bn s r))++[bb true]):=by
 have hk:=DO s r.ae r.kind r.owner r.key u4 u5 u6 u7 h
 rw[P6]at hk
 have bf:=Jf s r
 rw[asQ]
 by_cases h0:bn s r<0
 ·rw[if_pos h0]
  simp(disch:=omega) only[↓pQ,pS,↓reduceIte,aj,ak,ap,aq,au,av,aw,ax,ay,Ib,hk,h0]
 ·rw[if_neg h0]
  have h1:0<=bn s r:=by omega
  have mr:=hn.gt h1 bf
  simp(disch:=omega) only[↓pQ,pS,↓reduceIte,aj,ak,ap,aq,au,av,aw,ax,ay,Ib,hk,h0,h1,bf,AX]
  rfl
theorem Ji{x:Self}(S:List ah)(ht:x.net.aM.length<=4)(hh:x.heard.length<=1048576):Fit 25 (nk x S):=by
 have h1:=Jc x
 have h2:=aw6 x S
 have h3:=aeF x
 refine(Fit.mb (f:=same) (l:=fJ x++pe x S++Jb x) (λr hr=>?_) Fit.nil).mono ?_
 ·show r.aV.length<=_
  rcases List.mem_append.1 hr with hr|hr
  ·rcases List.mem_append.1 hr with hr|hr
   ·exact Jd hh r hr
   ·unfold pe at hr
    split at hr
    ·obtain⟨a,_,hr⟩:=List.mem_flatMap.1 hr
     exact QZ _ _ _ _ r hr
    ·cases hr
  ·obtain⟨t,_,rfl⟩:=List.mem_map.1 hr
   simp[rb]
 ·simp only[List.length_append];omega
theorem Q2{x:Self}{W:List ah}(hW:Fit 25 W)(hs:x.store.length<=150):Fit 175 (rh x W):=by
 have h1:∀(l c:List ah) k,(∀r∈l,r.aV.length<=1048576)->Fit k c->Fit (k+l.length) (l.foldl (rf x) c):=by
  intro l
  induction l with
  |nil=>intro c k _ h;exact h
  |cons a l ih=>intro c k hl h;rw[List.foldl_cons,List.length_cons];exact(ih _ _ (λr hr=>hl r (.tail _ hr)) (aeP h (hl a (.head _)))).mono (by omega)
 have h2:∀(l c:List ah) k,Fit k c->Fit (k+l.length) (l.foldl (tR x W) c):=by
  intro l
  induction l with
  |nil=>intro c k h;exact h
  |cons a l ih=>intro c k h;rw[List.foldl_cons,List.length_cons];exact(ih _ _ (aeQ h a)).mono (by omega)
 have hl:=hW.len
 exact(h2 _ _ _ (h1 W [] 0 hW.aV Fit.nil)).mono (by omega)
theorem axx{x:Self}(h:df x.store=true)(hb:0<=x.bh∧x.bh<=90)(W:List ah):∀r∈rh x W,1<=r.seq:=by
 have hp:∀(c:List ah) (r:ah),1<=r.seq->(∀y∈c,1<=y.seq)->∀y∈cM c r,1<=y.seq:=by
  intro c r h1 h2 y hy
  rcases AY hy with rfl|hy
  ·exact h1
  ·exact h2 y hy
 have h1:∀(l c:List ah),(∀y∈c,1<=y.seq)->∀y∈l.foldl (rf x) c,1<=y.seq:=by
  intro l
  induction l with
  |nil=>intro c h;exact h
  |cons a l ih=>
   intro c hc
   rw[List.foldl_cons]
   refine ih _ ?_
   unfold rf
   split
   ·exact hp _ _ (Jh h hb a).1 hc
   ·exact hc
 have h2:∀(l c:List ah),(∀y∈c,1<=y.seq)->∀y∈l.foldl (tR x W) c,1<=y.seq:=by
  intro l
  induction l with
  |nil=>intro c h;exact h
  |cons a l ih=>
   intro c hc
   rw[List.foldl_cons]
   refine ih _ ?_
   unfold tR
   split
   ·exact hp _ _ (Jh h hb a).1 hc
   ·exact hc
 exact h2 _ _ (h1 _ _ (by simp))
def jN(x:Self):Self×List ah:=if kf x=true then wm x (nk x (rF x.store x.id (fJ x)))else(x,[])
theorem aeS(x:Self)(h1:x.net.aE.length<=1048576)(h2:x.net.aM.length<=1048576)(h3:x.heard.length<=1048576)(h4:x.store.length<=1048576)(h5:aR x.store):
  Dp [ii x.id,ii x.bh,ii x.net.n,.l (x.net.aE.map dB),.l (x.net.aM.map ed),.l (x.heard.map aB),.l (x.store.map ai)]=some (iB (jN x).1++[.l ((jN x).2.map ai)]):=by
 have hS:=Iy x.id x.bh x.net.n x.net.aE x.net.aM x.heard x.store h1 h2 h3 h4 h5
 rw[show(⟨x.id,x.bh,⟨x.net.n,x.net.aE,x.net.aM⟩,x.heard,x.store⟩:Self)=x from rfl]at hS
 have hC:=aeR x h1 h2 h3 h4 h5
 simp only[iB]at hC
 cases hk:kf x with
 |false=>
  rw[hk]at hS
  rw[show jN x=(x,[]) from by unfold jN;rw[if_neg (by rw[hk];decide)]]
  rw[adz];simp(disch:=omega) only[↓pQ,pS,↓reduceIte,aj,ak,ap,aq,au,av,aw,ax,ay,PE,Iq,hS,hC,dh]
  rfl
 |true=>
  rw[hk]at hS
  rw[show jN x=wm x (nk x (rF x.store x.id (fJ x))) from by unfold jN;rw[if_pos hk]]
  obtain⟨hN,gG,ki,jy,ua,cf⟩:=qi hk
  obtain⟨n1,hl,ht,hA,hT⟩:=yE hN
  have hW:=axb x.id x.bh x.net.n x.net.aE x.net.aM x.heard x.store h1 h2 h3 h4 h5 hk
  rw[show(⟨x.id,x.bh,⟨x.net.n,x.net.aE,x.net.aM⟩,x.heard,x.store⟩:Self)=x from rfl]at hW
  have Kx:=Ji (x:=x) (rF x.store x.id (fJ x)) ht h3
  generalize nk x (rF x.store x.id (fJ x))=W at hW Kx
  have hf:=Kv cf h5
  have hF:=axt x W _ _ _ cf ki h5 Kx.len Kx.aV _ hW
  have hlf:=Q2 (x:=x) Kx hf.len
  unfold wm
  generalize rh x W=l at hF hlf
  have GV:=hlf.len
  rw[adz];simp(disch:=omega) only[↓pQ,pS,↓reduceIte,aj,ak,ap,aq,au,av,aw,ax,ay,PE,Iq,hS,hC,hF,IC _ h4 h5]
  refine(M1 l.length (λi c=>[.l [],.l (c.map ai),ii i]) (λi _=>decide ((gt l (i:Int)).seq<=100000)) (λc i=>cM c (same (gt l (i:Int)))) (λc=>some (if c.length<=150 then iB {x with store:=c}++[.l (l.map ai)]else iB x++[.l []])) (fE:=some (iB x++[.l []])) x.store (λi c=>Fit (150+i) c) rfl (dG (by omega)) hf ?_ ?_).trans ?_
  ·intro i c hi hc
   have mr:=hlf.aV.gt (n:=i) (by omega) hi
   refine⟨λ_=>hc.put mr,λq=>?_⟩
   have pE:=hc.len
   have hp:=DQ c (gt l (i:Int)).ae (gt l (i:Int)).kind (gt l (i:Int)).owner (gt l (i:Int)).key (gt l (i:Int)).seq (gt l (i:Int)).aV (gt l (i:Int)).cost (gt l (i:Int)).eY (by omega) hc.aV hc.so mr
   by_cases hq:(gt l (i:Int)).seq<=100000
   ·have mc:¬(gt l (i:Int)).seq>100000:=by omega
    simp(disch:=omega) only[↓pQ,pS,↓reduceIte,aj,ak,ap,aq,au,av,aw,ax,ay,PE,hi,hq,mc,hp,decide_true]
    rfl
   ·have mc:(gt l (i:Int)).seq>100000:=by omega
    simp(disch:=omega) only[↓pQ,pS,↓reduceIte,aj,ak,ap,aq,au,av,aw,ax,ay,PE,hi,hq,mc,decide_false,dh]
    rfl
  ·intro c q hc
   by_cases hq:c.length<=150
   ·have mc:¬(c.length:Int)>150:=by omega
    rw[if_pos hq]
    simp(disch:=omega) only[↓pQ,pS,↓reduceIte,aj,ak,ap,aq,au,av,aw,ax,ay,PE,mc]
    rfl
   ·have mc:(c.length:Int)>150:=by omega
    rw[if_neg hq]
    simp(disch:=omega) only[↓pQ,pS,↓reduceIte,aj,ak,ap,aq,au,av,aw,ax,ay,PE,mc]
    rfl
  ·rw[axu l (λr=>decide (r.seq<=100000)) (λc r=>cM c (same r))]
   cases Ku:l.all λr=>decide (r.seq<=100000)with
   |false=>
    rw[if_neg (by decide),if_neg (by rintro⟨h,_⟩;cases h)]
    rfl
   |true=>
    rw[if_pos rfl]
    show some (if(eM same x.store l).length<=150 then _ else _)=_
    by_cases hq:(eM same x.store l).length<=150
    ·rw[if_pos hq,if_pos ⟨rfl,hq⟩]
     rfl
    ·rw[if_neg hq,if_neg λh=>hq h.2]
     rfl
end Go.Proofs.YtjimmglpkndemaaGreatC
