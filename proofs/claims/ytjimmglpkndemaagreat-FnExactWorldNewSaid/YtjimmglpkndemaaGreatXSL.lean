/- Routes within areas, by both programs. Conditions: none. -/
import Derived.Test.YtjimmglpkndemaaGreatXSA
namespace Go.Proofs.YtjimmglpkndemaaGreatC
attribute [local irreducible] jp
open Int renaming reduceLE -> ak, reduceLT -> ap, reduceEq -> aq, reduceGT -> au, reduceGE -> av, reduceAdd -> aw, reduceSub -> ax, reduceMul -> ay, reduceNeg -> az
set_option linter.unusedVariables false
set_option linter.unusedSimpArgs false
theorem MO{s:List ah}(hs:eJ s=true)(ar fr:Int):∀k W D,hY fr W D->∃D',hY fr (sq s ar fr k W D) D'
 |0,W,D,h=>⟨D,h⟩
 |k+1,W,D,h=>by
  unfold sq
  by_cases hb:dP W D=0
  ·rw[if_pos hb];exact⟨D,h⟩
  ·rw[if_neg hb];exact MO hs ar fr k _ _ (h.step hs ar hb)
theorem fO{s:List ah}{ar fr:Int}:(aD s ar fr).Pairwise (λa b=>a.to<b.to)∧(aD s ar fr).length<=7∧∀w∈aD s ar fr,(1<=w.to∧w.to<=6)∧fv w.aH∧0<=w.cost∧w.cost<=6000:=by
 unfold aD
 by_cases hc:eJ s=true∧jr fr 1 6=true∧0<=iv s ar fr
 ·rw[if_pos hc]
  obtain⟨D,hI⟩:=MO hc.1 ar fr 6 (W0 fr) [] (hY.start (bC.1 hc.2.1))
  have hD:=hI.len
  have hl:=hI.ok.len
  have key:∀i,(hi:i<(sq s ar fr 6 (W0 fr) []).length)->(sq s ar fr 6 (W0 fr) [])[i].to≠0->(sq s ar fr 6 (W0 fr) [])[i].to=(i:Int)∧1<=i:=by
   intro i hi h0
   have:=(hI.ok.to (i:Int) (by omega) (by omega))
   rw[eS hi]at this
   have:=this.resolve_left h0
   exact⟨this,by omega⟩
  refine⟨?_,Nat.le_trans (apQ _) (by omega),λw hw=>?_⟩
  ·have hp:(sq s ar fr 6 (W0 fr) []).Pairwise λa b=>a.to≠0->b.to≠0->a.to<b.to:=by
    rw[List.pairwise_iff_getElem]
    intro i j hi hj vn h1 h2
    rw[(key i hi h1).1,(key j hj h2).1];omega
   unfold xN
   have vL:=hp.filter (λw=>!(w.to==0))
   refine vL.imp_of_mem λ{a b} ha hb lT=>lT ?_ ?_
   ·have:=(List.mem_filter.1 ha).2;simpa using this
   ·have:=(List.mem_filter.1 hb).2;simpa using this
  ·obtain⟨h1,h2⟩:=List.mem_filter.1 hw
   have h2:w.to≠0:=by simpa using h2
   obtain⟨i,hi,rfl⟩:=List.mem_iff_getElem.1 h1
   obtain⟨h3,h4⟩:=key i hi h2
   have h5:=hI.ok.aH (i:Int) (by omega) (by omega)
   have h6:=hI.ok.cost (i:Int) (by omega) (by omega)
   rw[eS hi]at h5 h6
   exact⟨by omega,h5,by omega⟩
 ·rw[if_neg hc];simp
theorem ap2(l:List Way)(w:Way)(i:Nat)(q:af)(qe:l.Pairwise λa b=>a.to<b.to)(hlen:l.length<=6)(hl:∀x∈l,fv x.aH)(hw:fv w.aH)(hi:i<=1048576)(x:T):
  iter (AZ xD vV (.l (l.map aV)) (ii i) x (ii w.to) (ii w.cost) (.l (w.aH.map aG)) q) rounds [ii 0]=q [.l ((rG l w).map aV),ii (i+1),x]:=by
 have hle:=FD l w.to
 have kR:=FE qe w.to
 have hwl:=rE hw
 refine yG (λk=>[ii k]) (bS l w.to) rfl (ek (by omega)) ?_ ?_
 ·intro k hk q'
  have fI:(k:Int)<l.length:=by omega
  have cJ:(gt l (k:Int)).to<w.to:=by rw[eS (by omega)];exact(kR k (by omega)).2 (by omega)
  simp(disch:=omega) only[↓pQ,pS,↓reduceIte,ak,ap,aq,au,av,aw,ax,ay,az,AZ,B8,B9,fI,cJ]
 ·intro q'
  have ht:((bS l w.to:Nat):Int).toNat=bS l w.to:=Int.toNat_natCast _
  have lq:=Oo w.to w.cost w.aH (by omega)
  have iz:=Mr (enc:=aV) (λ_=>rfl) hle
  have pR:=Ms (enc:=aV) (λ_=>rfl) hle
  unfold rG
  by_cases a_:bS l w.to<l.length
  ·have fI:((bS l w.to:Nat):Int)<l.length:=by omega
   have cJ:¬((gt l ((bS l w.to:Nat):Int)).to<w.to):=by rw[eS a_];intro hc;have:=(kR _ a_).1 hc;omega
   have r9:=hl _ (j_ (l:=l) (n:=((bS l w.to:Nat):Int)) (by omega) fI)
   by_cases he:(gt l ((bS l w.to:Nat):Int)).to=w.to
   ·rw[if_pos ⟨a_,he⟩]
    have hT:=YX (gt l ((bS l w.to:Nat):Int)).to (gt l ((bS l w.to:Nat):Int)).cost (gt l ((bS l w.to:Nat):Int)).aH w.to w.cost w.aH r9 hw
    rw[he]at hT
    have F4:∀(x:Way) (n:Int),x.to=n->(⟨n,x.cost,x.aH⟩:Way)=x:=by intro x n h;subst h;rfl
    rw[F4 _ _ he]at hT
    simp(disch:=omega) only[↓pQ,pS,↓reduceIte,ak,ap,aq,au,av,aw,ax,ay,az,AZ,B8,B9,fI,cJ,he,hT,aV,Fq,ht]
   ·rw[if_neg (λh=>he h.2)]
    simp(disch:=omega) only[↓pQ,pS,↓reduceIte,ak,ap,aq,au,av,aw,ax,ay,az,AZ,B8,B9,fI,cJ,he,lq,ht,iz,pR]
    simp only[GC (show(l.take (bS l w.to)).length<4294967296 by simp;omega),JB (show(l.take (bS l w.to)).length<4294967295 by simp;omega),eK,pR]
    rw[GA (by simp;omega),eK,List.append_assoc]
  ·have fI:¬(((bS l w.to:Nat):Int)<l.length):=by omega
   rw[if_neg (λh=>a_ h.1)]
   simp(disch:=omega) only[↓pQ,pS,↓reduceIte,ak,ap,aq,au,av,aw,ax,ay,az,AZ,B8,B9,fI,lq,ht,iz,pR]
   simp only[GC (show(l.take (bS l w.to)).length<4294967296 by simp;omega),JB (show(l.take (bS l w.to)).length<4294967295 by simp;omega),eK,pR]
   rw[GA (by simp;omega),eK,List.append_assoc]
theorem ap3(l:List Way)(w:Way)(i:Nat)(q:af)(qe:l.Pairwise λa b=>a.to<b.to)(hlen:l.length<=6)(hl:∀x∈l,fv x.aH)(hw:fv w.aH)(hi:i<=1048576):
  iter (nM xD vV (.l (l.map aV)) (ii i) (ii w.to) (.l (w.aH.map aG)) (ii w.cost) q) rounds [ii 0]=q [.l ((rG l w).map aV),ii (i+1)]:=by
 have hle:=FD l w.to
 have kR:=FE qe w.to
 have hwl:=rE hw
 refine yG (λk=>[ii k]) (bS l w.to) rfl (ek (by omega)) ?_ ?_
 ·intro k hk q'
  have fI:(k:Int)<l.length:=by omega
  have cJ:(gt l (k:Int)).to<w.to:=by rw[eS (by omega)];exact(kR k (by omega)).2 (by omega)
  simp(disch:=omega) only[↓pQ,pS,↓reduceIte,ak,ap,aq,au,av,aw,ax,ay,az,nM,nN,ol,fI,cJ]
 ·intro q'
  have ht:((bS l w.to:Nat):Int).toNat=bS l w.to:=Int.toNat_natCast _
  have lq:=Oo w.to w.cost w.aH (by omega)
  have iz:=Mr (enc:=aV) (λ_=>rfl) hle
  have pR:=Ms (enc:=aV) (λ_=>rfl) hle
  unfold rG
  by_cases a_:bS l w.to<l.length
  ·have fI:((bS l w.to:Nat):Int)<l.length:=by omega
   have cJ:¬((gt l ((bS l w.to:Nat):Int)).to<w.to):=by rw[eS a_];intro hc;have:=(kR _ a_).1 hc;omega
   have r9:=hl _ (j_ (l:=l) (n:=((bS l w.to:Nat):Int)) (by omega) fI)
   by_cases he:(gt l ((bS l w.to:Nat):Int)).to=w.to
   ·rw[if_pos ⟨a_,he⟩]
    have hT:=YX (gt l ((bS l w.to:Nat):Int)).to (gt l ((bS l w.to:Nat):Int)).cost (gt l ((bS l w.to:Nat):Int)).aH w.to w.cost w.aH r9 hw
    rw[he]at hT
    have F4:∀(x:Way) (n:Int),x.to=n->(⟨n,x.cost,x.aH⟩:Way)=x:=by intro x n h;subst h;rfl
    rw[F4 _ _ he]at hT
    simp(disch:=omega) only[↓pQ,pS,↓reduceIte,ak,ap,aq,au,av,aw,ax,ay,az,nM,nN,ol,fI,cJ,he,hT,aV,Fq,ht]
   ·rw[if_neg (λh=>he h.2)]
    simp(disch:=omega) only[↓pQ,pS,↓reduceIte,ak,ap,aq,au,av,aw,ax,ay,az,nM,nN,ol,fI,cJ,he,lq,ht,iz,pR]
    simp only[GC (show(l.take (bS l w.to)).length<4294967296 by simp;omega),JB (show(l.take (bS l w.to)).length<4294967295 by simp;omega),eK,pR]
    rw[GA (by simp;omega),eK,List.append_assoc]
  ·have fI:¬(((bS l w.to:Nat):Int)<l.length):=by omega
   rw[if_neg (λh=>a_ h.1)]
   simp(disch:=omega) only[↓pQ,pS,↓reduceIte,ak,ap,aq,au,av,aw,ax,ay,az,nM,nN,ol,fI,lq,ht,iz,pR]
   simp only[GC (show(l.take (bS l w.to)).length<4294967296 by simp;omega),JB (show(l.take (bS l w.to)).length<4294967295 by simp;omega),eK,pR]
   rw[GA (by simp;omega),eK,List.append_assoc]
theorem ap4(l:List Way)(w:Way)(i:Nat)(q:af)(qe:l.Pairwise λa b=>a.to<b.to)(hlen:l.length<=6)(hl:∀x∈l,fv x.aH)(hw:fv w.aH)(hi:i<=1048576):
  iter (nN xD vV (.l (l.map aV)) (ii i) (ii w.to) (.l (w.aH.map aG)) (ii w.cost) q) rounds [ii 0]=q [.l ((rG l w).map aV),ii (i+1)]:=by
 have hle:=FD l w.to
 have kR:=FE qe w.to
 have hwl:=rE hw
 refine yG (λk=>[ii k]) (bS l w.to) rfl (ek (by omega)) ?_ ?_
 ·intro k hk q'
  have fI:(k:Int)<l.length:=by omega
  have cJ:(gt l (k:Int)).to<w.to:=by rw[eS (by omega)];exact(kR k (by omega)).2 (by omega)
  simp(disch:=omega) only[↓pQ,pS,↓reduceIte,ak,ap,aq,au,av,aw,ax,ay,az,nM,nN,ol,fI,cJ]
 ·intro q'
  have ht:((bS l w.to:Nat):Int).toNat=bS l w.to:=Int.toNat_natCast _
  have lq:=Oo w.to w.cost w.aH (by omega)
  have iz:=Mr (enc:=aV) (λ_=>rfl) hle
  have pR:=Ms (enc:=aV) (λ_=>rfl) hle
  unfold rG
  by_cases a_:bS l w.to<l.length
  ·have fI:((bS l w.to:Nat):Int)<l.length:=by omega
   have cJ:¬((gt l ((bS l w.to:Nat):Int)).to<w.to):=by rw[eS a_];intro hc;have:=(kR _ a_).1 hc;omega
   have r9:=hl _ (j_ (l:=l) (n:=((bS l w.to:Nat):Int)) (by omega) fI)
   by_cases he:(gt l ((bS l w.to:Nat):Int)).to=w.to
   ·rw[if_pos ⟨a_,he⟩]
    have hT:=YX (gt l ((bS l w.to:Nat):Int)).to (gt l ((bS l w.to:Nat):Int)).cost (gt l ((bS l w.to:Nat):Int)).aH w.to w.cost w.aH r9 hw
    rw[he]at hT
    have F4:∀(x:Way) (n:Int),x.to=n->(⟨n,x.cost,x.aH⟩:Way)=x:=by intro x n h;subst h;rfl
    rw[F4 _ _ he]at hT
    simp(disch:=omega) only[↓pQ,pS,↓reduceIte,ak,ap,aq,au,av,aw,ax,ay,az,nM,nN,ol,fI,cJ,he,hT,aV,Fq,ht]
   ·rw[if_neg (λh=>he h.2)]
    simp(disch:=omega) only[↓pQ,pS,↓reduceIte,ak,ap,aq,au,av,aw,ax,ay,az,nM,nN,ol,fI,cJ,he,lq,ht,iz,pR]
    simp only[GC (show(l.take (bS l w.to)).length<4294967296 by simp;omega),JB (show(l.take (bS l w.to)).length<4294967295 by simp;omega),eK,pR]
    rw[GA (by simp;omega),eK,List.append_assoc]
  ·have fI:¬(((bS l w.to:Nat):Int)<l.length):=by omega
   rw[if_neg (λh=>a_ h.1)]
   simp(disch:=omega) only[↓pQ,pS,↓reduceIte,ak,ap,aq,au,av,aw,ax,ay,az,nM,nN,ol,fI,lq,ht,iz,pR]
   simp only[GC (show(l.take (bS l w.to)).length<4294967296 by simp;omega),JB (show(l.take (bS l w.to)).length<4294967295 by simp;omega),eK,pR]
   rw[GA (by simp;omega),eK,List.append_assoc]
def pD(s:List ah)(cS:List Int)(fr:Int):List Way:=cS.flatMap λa=>aD s a fr
theorem xO{s:List ah}{cS:List Int}{fr:Int}:∀w∈pD s cS fr,(1<=w.to∧w.to<=6)∧fv w.aH∧0<=w.cost∧w.cost<=6000:=by
 intro w hw
 unfold pD at hw
 obtain⟨a,_,h⟩:=List.mem_flatMap.1 hw
 exact fO.2.2 w h
theorem Zg{α β:Type}(f:α->List β)(l:List α)(c:List β):l.foldl (λc a=>c++f a) c=c++l.flatMap f:=by
 induction l generalizing c with
 |nil=>simp
 |cons a l ih=>rw[List.foldl_cons,ih];simp
theorem MP{α:Type}(l c:List α):l.foldl (λc a=>c++[a]) c=c++l:=by
 induction l generalizing c with
 |nil=>simp
 |cons a l ih=>rw[List.foldl_cons,ih];simp
theorem FF{α β:Type}(f:α->Option β)(l:List α):l.flatMap (λa=>(f a).toList)=l.filterMap f:=by
 induction l with
 |nil=>rfl
 |cons a l ih=>rw[List.flatMap_cons,List.filterMap_cons,ih];cases f a<;>rfl
def within(s:List ah)(cS:List Int)(fr:Int):List Way:=cp (pD s cS fr)
theorem Zh(s:List ah)(cS:List Int)(fr:Int)(h:s.length<=1048576)(hn:bI s)(ha:cS.length<=1048576):Kc [.l (s.map aC),.l (cS.map aG),ii fr]=some [.l ((within s cS fr).map aV)]:=by
 rw[aoM];simp(disch:=omega) only[↓pQ,pS,↓reduceIte,ak,ap,aq,au,av,aw,ax,ay,az,AZ,B8,B9,jK_]
 refine(kC cS (λj C=>[.l ((cp C).map aV),ii j]) (λC a=>C++aD s a fr) (λC=>some [T.l ((cp C).map aV)]) [] (λ_ C=>∀x∈C,fv x.aH) rfl (ek ha) (by simp) ?_ ?_).trans (by rw[Zg,List.nil_append];rfl)
 ·intro j C hj hC
  obtain⟨w1,w2,w3⟩:=fO (s:=s) (ar:=gt cS j) (fr:=fr)
  refine⟨λx hx=>(List.mem_append.1 hx).elim (hC x) λhx=>(w3 x hx).2.1,λq=>?_⟩
  simp(disch:=omega) only[↓pQ,pS,↓reduceIte,ak,ap,aq,au,av,aw,ax,ay,az,AZ,B8,B9,hj,ME _ _ _ h hn]
  refine(kC (aD s (gt cS j) fr) (λi C=>[.l ((cp C).map aV),ii i,.l ((aD s (gt cS j) fr).map aV)]) (λC w=>C++[w]) (λC=>q [T.l ((cp C).map aV),ii (j+1)]) C (λ_ C=>∀x∈C,fv x.aH) rfl (ek (by omega)) hC ?_ ?_).trans (by rw[MP])
  ·intro i C hi hC
   have hw:=w3 _ (j_ (n:=i) (by omega) hi)
   refine⟨λx hx=>(List.mem_append.1 hx).elim (hC x) λhx=>by rw[List.mem_singleton]at hx;subst hx;exact hw.2.1,λq'=>?_⟩
   simp(disch:=omega) only[↓pQ,pS,↓reduceIte,ak,ap,aq,au,av,aw,ax,ay,az,AZ,B8,B9,hi]
   rw[ap2 (cp C) (gt (aD s (gt cS j) fr) i) i q' (Bf C hC) (Bg C) (λx hx=>(Oz hC hx).1) hw.2.1 (by omega) _,Zf hC hw.1 hw.2.1]
  ·intro C q' hC
   simp(disch:=omega) only[↓pQ,pS,↓reduceIte,ak,ap,aq,au,av,aw,ax,ay,az,AZ,B8,B9,]
 ·intro C q hC
  simp(disch:=omega) only[↓pQ,pS,↓reduceIte,ak,ap,aq,au,av,aw,ax,ay,az,AZ,B8,B9,]
def vq(l:List Way):List T:=[.l (l.map aV)]
theorem OB{l:List (List Way)}{n:Int}(h:0<=n)(h':n<l.length):Prim.ev (.cell 1 0) [.l (l.map vq),ii n]=some (.l ((gt l n).map aV)):=fF h (cD h h') rfl rfl
theorem Zi(x:List Way):Prim.ev (.lit 1 []) [.l (x.map aV)]=some (.l ([x].map vq)):=n6 (by decide) rfl rfl
theorem Zj{l:List (List Way)}{x:List Way}(h:l.length<4294967295):Prim.ev (.app false 1) [.l (l.map vq),.l ([x].map vq)]=some (.l ((l++[x]).map vq)):=qa (w:=1) (λ_=>rfl) (.inl rfl) (by unfold rL;simp;omega)
def cZ(l:List Way)(v:Int):Option Way:=if ej l v<0 then none else some (gt l (ej l v))
theorem Zk(l:List Way)(v:Int):ej l v<l.length:=tv _ _
theorem wq{l:List Way}{v:Int}{w:Way}(h:cZ l v=some w):w∈l∧w.to=v:=by
 unfold cZ at h
 split at h
 ·cases h
 ·rename_i hf
  cases h
  have:=t_ (λw:Way=>w.to==v) l (by unfold ej at hf;omega)
  exact⟨j_ (by omega) (Zk _ _),by simpa[ej]using this⟩
theorem ap5{l:List Way}{v:Int}(h:cZ l v=none):∀w∈l,w.to≠v:=by
 unfold cZ at h
 split at h
 ·rename_i hf
  intro w hw
  have:=(BW _ _).1 hf w hw
  simpa using this
 ·cases h
theorem ap6{l:List Way}(h:l.Pairwise λa b=>a.to<b.to){x y:Way}(hx:x∈l)(hy:y∈l)(e:x.to=y.to):x=y:=by
 obtain⟨i,hi,rfl⟩:=List.mem_iff_getElem.1 hx
 obtain⟨j,hj,rfl⟩:=List.mem_iff_getElem.1 hy
 rw[List.pairwise_iff_getElem]at h
 rcases Nat.lt_trichotomy i j with h1|h1|h1
 ·have:=h i j hi hj h1;omega
 ·subst h1;rfl
 ·have:=h j i hj hi h1;omega
theorem ap7{l:List Way}(h:l.Pairwise λa b=>a.to<b.to){v:Int}{w:Way}:cZ l v=some w↔w∈l∧w.to=v:=by
 refine⟨wq,λ⟨h1,h2⟩=>?_⟩
 cases e:cZ l v with
 |none=>exact absurd h2 (ap5 e w h1)
 |some w'=>
  have:=wq e
  rw[ap6 h this.1 h1 (by omega)]
def MQ(o:Option Way)(i:Int):List T:=match o with|none=>[bb false,ii i,ii 0,ii 0,.l []]|some b=>[bb true,ii i,ii b.to,ii b.cost,.l (b.aH.map aG)]
theorem Zl(s:List ah)(cS:List Int)(fr:Int)(h:s.length<=1048576)(hn:bI s)(ha:cS.length<=1048576):J0 [.l (s.map aC),.l (cS.map aG),ii fr]=some [.l ((within s cS fr).map aV)]:=by
 have hW:=λa=>fO (s:=s) (ar:=a) (fr:=fr)
 rw[ank];simp(disch:=omega) only[↓pQ,pS,↓reduceIte,ak,ap,aq,au,av,aw,ax,ay,az,yp,yq,yr,jN_]
 refine kC cS (λj C=>[.l (C.map vq),ii j]) (λC a=>C++[aD s a fr]) (λ_=>some [T.l ((within s cS fr).map aV)]) [] (λj C=>C=(cS.take j).map (λa=>aD s a fr)) rfl (ek ha) rfl ?_ ?_
 ·intro j C hj hC
  have hl:C.length<=j:=by rw[hC];simp;omega
  refine⟨by rw[List.take_add_one,hC,List.map_append,List.getElem?_eq_getElem (by omega),eS (by omega)];rfl,λq=>?_⟩
  simp(disch:=omega) only[↓pQ,pS,↓reduceIte,ak,ap,aq,au,av,aw,ax,ay,az,yp,yq,yr,hj,MK _ _ _ h hn,Zi,Zj]
 ·intro C q hC
  have hC:C=cS.map (λa=>aD s a fr):=by rw[hC,List.take_length]
  have hCl:C.length=cS.length:=by rw[hC,List.length_map]
  have MR:∀j:Nat,(j:Int)<cS.length->gt C (j:Int)=aD s (gt cS j) fr:=by
   intro j hj
   rw[eS (by omega),eS (by omega)]
   simp only[hC,List.getElem_map]
  simp(disch:=omega) only[↓pQ,pS,↓reduceIte,ak,ap,aq,au,av,aw,ax,ay,az,yp,yq,yr,]
  refine(rq 6 (λi c=>[.l (c.map aV),ii (i+1)]) (λc i=>c++(jB (cS.filterMap λa=>cZ (aD s a fr) ((i:Int)+1))).toList) (λc=>some [T.l (c.map aV)]) [] (λi c=>c.length<=i) rfl (ek (by omega)) (by simp) ?_ ?_).trans ?_
  ·intro i c hi hc
   refine⟨by cases jB (cS.filterMap λa=>cZ (aD s a fr) ((i:Int)+1))<;>simp<;>omega,λq'=>?_⟩
   have dM:(i:Int)+1<=6:=by omega
   simp(disch:=omega) only[↓pQ,pS,↓reduceIte,ak,ap,aq,au,av,aw,ax,ay,az,yp,yq,yr,dM]
   have hfm:∀(l:List Int) (o:Option Way),l.foldl (λo a=>match cZ (aD s a fr) ((i:Int)+1)with|none=>o|some w=>nP o w) o=(l.filterMap λa=>cZ (aD s a fr) ((i:Int)+1)).foldl nP o:=by
    intro l
    induction l with
    |nil=>intro o;rfl
    |cons a l ih=>
     intro o
     rw[List.foldl_cons,List.filterMap_cons]
     cases cZ (aD s a fr) ((i:Int)+1)with
     |none=>exact ih o
     |some w=>exact ih _
   refine(kC cS (λj o=>MQ o j) (λo a=>match cZ (aD s a fr) ((i:Int)+1)with|none=>o|some w=>nP o w) (λo=>q' [T.l ((c++o.toList).map aV),ii ((i:Int)+1+1)]) none (λ_ o=>∀b,o=some b->fv b.aH) rfl (ek ha) (by simp) ?_ ?_).trans (by rw[hfm];rfl)
   ·intro j o hj ho
    obtain⟨w1,w2,w3⟩:=hW (gt cS j)
    have hlC:(j:Int)<C.length:=by omega
    have hT:=Fm (aD s (gt cS j) fr) ((i:Int)+1) (by omega) (λw hw=>by have:=rE (w3 w hw).2.1;omega)
    constructor
    ·intro b hb
     cases hw:cZ (aD s (gt cS j) fr) ((i:Int)+1)with
     |none=>rw[hw]at hb;exact ho b hb
     |some w=>
      rw[hw]at hb
      have hh:=(w3 w (wq hw).1).2.1
      cases o with
      |none=>simp only[nP]at hb;cases hb;exact hh
      |some b0=>simp only[nP]at hb;cases hb;exact MC (ho b0 rfl) hh
    ·intro q2
     unfold cZ
     by_cases hp:ej (aD s (gt cS j) fr) ((i:Int)+1)<0
     ·rw[if_pos hp]at hT
      cases o with
      |none=>simp only[MQ];simp(disch:=omega) only[↓pQ,pS,↓reduceIte,ak,ap,aq,au,av,aw,ax,ay,az,yp,yq,yr,hj,OB,MR j hj,hT,hp,dI]
      |some b=>simp only[MQ];simp(disch:=omega) only[↓pQ,pS,↓reduceIte,ak,ap,aq,au,av,aw,ax,ay,az,yp,yq,yr,hj,OB,MR j hj,hT,hp,dI]
     ·rw[if_neg hp]at hT
      have hm:=w3 _ (j_ (l:=aD s (gt cS j) fr) (n:=ej (aD s (gt cS j) fr) ((i:Int)+1)) (by omega) (Zk _ _))
      have m5:=rE hm.2.1
      simp only[aV,List.cons_append,List.nil_append]at hT
      cases o with
      |none=>simp only[MQ];simp(disch:=omega) only[↓pQ,pS,↓reduceIte,ak,ap,aq,au,av,aw,ax,ay,az,yp,yq,yr,hj,OB,MR j hj,hT,hp,dI];rfl
      |some b=>
       have tT:=rE (ho b rfl)
       simp only[MQ]
       simp(disch:=omega) only[↓pQ,pS,↓reduceIte,ak,ap,aq,au,av,aw,ax,ay,az,yp,yq,yr,hj,OB,MR j hj,hT,hp,dI,Zc _ _ _ _ _ _ (show b.aH.length<=1048576 by omega) (show(gt (aD s (gt cS j) fr) (ej (aD s (gt cS j) fr) ((i:Int)+1))).aH.length<=1048576 by omega),aV]
       rfl
   ·intro o q2 ho
    cases o with
    |none=>simp only[MQ];simp(disch:=omega) only[↓pQ,pS,↓reduceIte,ak,ap,aq,au,av,aw,ax,ay,az,yp,yq,yr,dI];simp
    |some b=>simp only[MQ];simp(disch:=omega) only[↓pQ,pS,↓reduceIte,ak,ap,aq,au,av,aw,ax,ay,az,yp,yq,yr,];simp
  ·intro c q' hc
   simp(disch:=omega) only[↓pQ,pS,↓reduceIte,ak,ap,aq,au,av,aw,ax,ay,az,yp,yq,yr,]
  ·rw[Zg (λi:Nat=>(jB (cS.filterMap λa=>cZ (aD s a fr) ((i:Int)+1))).toList),List.nil_append]
   congr 3
   unfold within cp
   rw[Bc,List.filterMap_map,FF]
   refine congrArg (λf=>List.map aV (List.filterMap f (List.range 6))) (funext λi=>?_)
   show _=jB _
   refine Ze (v:=(i:Int)+1) (λx hx=>?_) λx=>?_
   ·obtain⟨a,_,hx⟩:=List.mem_filterMap.1 hx
    have:=wq hx
    exact⟨this.2,((hW a).2.2 x this.1).2.1⟩
   ·rw[List.mem_filterMap,List.mem_filter]
    unfold pD
    rw[List.mem_flatMap]
    constructor
    ·rintro⟨a,uj,hx⟩
     have:=wq hx
     exact⟨⟨a,uj,this.1⟩,by simpa using this.2⟩
    ·rintro⟨⟨a,uj,hx⟩,e⟩
     exact⟨a,uj,(ap7 (hW a).1).2 ⟨hx,by simpa using e⟩⟩
theorem Zm{s:List ah}(hs:eJ s=true){x:ah}(hx:x∈s)(h:x.kind=2):(1<=x.key∧x.key<=6)∧0<=x.cost∧x.cost<=60000:=by
 have:=yH hs hx
 unfold fN at this
 rw[if_neg (by omega),if_pos h]at this
 simp only[bA,bC]at this
 exact⟨this.2.1.1.1.2,this.2.1.2⟩
theorem ap8{s:List ah}(hs:eJ s=true){x:ah}(hx:x∈s):0<=x.cost∧x.cost<=60000:=by
 have:=yH hs hx
 unfold fN at this
 grind[bC]
theorem FG{s:List ah}{a fr v:Int}{w:Way}(h:cZ (aD s a fr) v=some w):w.to=v∧fv w.aH∧0<=w.cost∧w.cost<=6000∧eJ s=true:=by
 have h1:=wq h
 have h2:=fO.2.2 w h1.1
 refine⟨h1.2,h2.2.1,h2.2.2.1,h2.2.2.2,?_⟩
 cases e:eJ s with
 |true=>rfl
 |false=>
  have:aD s a fr=[]:=by unfold aD;rw[if_neg (by rw[e];simp)]
  rw[this]at h1;cases h1.1
def gS(s:List ah)(A:List Int)(z:Bool)(fr:Int)(x:ah):Option Way:=
 if x.kind=2∧x.cost<60000∧x.owner≠fr∧A.contains x.ae=true∧(z=true->x.ae=0)∧ej (within s A fr) x.key<0 then
  match cZ (aD s x.ae fr) x.owner with
  |none=>none
  |some w=>if x.cost+w.cost<60000 then some ⟨x.key,x.cost+w.cost,w.aH⟩else none
 else none
theorem OC{s:List ah}{A:List Int}{z:Bool}{fr:Int}{x:ah}{w:Way}(h:gS s A z fr x=some w):(x.kind=2∧x.cost<60000∧x.owner≠fr∧A.contains x.ae=true∧(z=true->x.ae=0)∧ej (within s A fr) x.key<0)∧∃y,cZ (aD s x.ae fr) x.owner=some y∧x.cost+y.cost<60000∧w=⟨x.key,x.cost+y.cost,y.aH⟩:=by
 unfold gS at h
 split at h
 ·rename_i hc
  refine⟨hc,?_⟩
  split at h
  ·cases h
  ·rename_i y hy
   split at h
   ·rename_i hl;cases h;exact⟨y,hy,hl,rfl⟩
   ·cases h
 ·cases h
theorem Zn{s:List ah}{A:List Int}{z:Bool}{fr:Int}{x:ah}(hx:x∈s){w:Way}(h:gS s A z fr x=some w):(1<=w.to∧w.to<=6)∧fv w.aH∧0<=w.cost∧w.cost<60000:=by
 obtain⟨h1,y,h2,h3,rfl⟩:=OC h
 have h4:=FG h2
 have h5:=Zm h4.2.2.2.2 hx h1.1
 exact⟨h5.1,h4.2.1,by show 0<=x.cost+y.cost;omega,h3⟩
def Cd(s:List ah)(A:List Int)(z:Bool)(fr:Int):List Way:=s.filterMap (gS s A z fr)
theorem Zo{s:List ah}{A:List Int}{z:Bool}{fr:Int}:∀w∈Cd s A z fr,(1<=w.to∧w.to<=6)∧fv w.aH∧0<=w.cost∧w.cost<60000:=by
 intro w hw
 obtain⟨x,hx,h⟩:=List.mem_filterMap.1 hw
 exact Zn hx h
def beyond(s:List ah)(A:List Int)(z:Bool)(fr:Int):List Way:=cp (Cd s A z fr)
theorem MS{s:List ah}{A:List Int}{fr:Int}:∀w∈within s A fr,w.aH.length<=1048576:=by
 intro w hw
 have:=rE (Oz (λx hx=>(xO x hx).2.1) hw).1
 omega
theorem FH{s:List ah}{A:List Int}{fr:Int}:(within s A fr).length<=6:=Bg _
theorem MT{s:List ah}{a fr:Int}:∀w∈aD s a fr,w.aH.length<=1048576:=by
 intro w hw
 have:=rE (fO.2.2 w hw).2.1
 omega
theorem MU{s:List ah}{a fr:Int}:(aD s a fr).length<=7:=fO.2.1
theorem ap9(s:List ah)(A:List Int)(z:Bool)(fr:Int)(h:s.length<=1048576)(hn:bI s)(ha:A.length<=1048576):W5 [.l (s.map aC),.l (A.map aG),bb z,ii fr]=some [.l ((beyond s A z fr).map aV)]:=by
 rw[aoP];simp(disch:=omega) only[↓pQ,pS,↓reduceIte,ak,ap,aq,au,av,aw,ax,ay,az,nM,nN,ol,jI_,Zh _ _ _ h hn ha]
 refine(kC s (λj C=>[.l ((cp C).map aV),ii j]) (λC x=>C++(gS s A z fr x).toList) (λC=>some [T.l ((cp C).map aV)]) [] (λ_ C=>∀x∈C,fv x.aH) rfl (ek h) (by simp) ?_ ?_).trans (by rw[Zg,List.nil_append,FF];rfl)
 ·intro j C hj hC
  have hm:=j_ (l:=s) (n:=(j:Int)) (by omega) hj
  have jx:gS s A z fr (gt s j)=none->cp (C++(gS s A z fr (gt s j)).toList)=cp C:=by intro e;rw[e];simp
  refine⟨λx hx=>(List.mem_append.1 hx).elim (hC x) λhx=>?_,λq=>?_⟩
  ·rw[Option.mem_toList]at hx
   exact(Zn hm hx).2.1
  by_cases k1:(gt s j).kind=2
  rotate_left
  ·rw[jx (by unfold gS;rw[if_neg (λh=>k1 h.1)])]
   simp(disch:=omega) only[↓pQ,pS,↓reduceIte,ak,ap,aq,au,av,aw,ax,ay,az,nM,nN,ol,dI,hj,k1]
  by_cases k2:(gt s j).cost<60000
  rotate_left
  ·rw[jx (by unfold gS;rw[if_neg (λh=>k2 h.2.1)])]
   simp(disch:=omega) only[↓pQ,pS,↓reduceIte,ak,ap,aq,au,av,aw,ax,ay,az,nM,nN,ol,dI,hj,k1,show(gt s j).cost>=60000 by omega]
  by_cases k3:(gt s j).owner=fr
  ·rw[jx (by unfold gS;rw[if_neg (λh=>h.2.2.1 k3)])]
   simp(disch:=omega) only[↓pQ,pS,↓reduceIte,ak,ap,aq,au,av,aw,ax,ay,az,nM,nN,ol,dI,hj,k1,show¬(gt s j).cost>=60000 by omega,k3]
  by_cases k4:A.contains (gt s j).ae=true
  rotate_left
  ·have k4':A.contains (gt s j).ae=false:=by simpa using k4
   rw[jx (by unfold gS;rw[if_neg (λh=>k4 h.2.2.2.1)])]
   simp(disch:=omega) only[↓pQ,pS,↓reduceIte,ak,ap,aq,au,av,aw,ax,ay,az,nM,nN,ol,dI,hj,k1,show¬(gt s j).cost>=60000 by omega,k3,wj _ _ ha,k4']
  by_cases k5:z=true->(gt s j).ae=0
  rotate_left
  ·have k5':z=true∧(gt s j).ae≠0:=by simpa using k5
   rw[jx (by unfold gS;rw[if_neg (λh=>k5 h.2.2.2.2.1)])]
   obtain⟨rfl,k6⟩:=k5'
   simp(disch:=omega) only[↓pQ,pS,↓reduceIte,ak,ap,aq,au,av,aw,ax,ay,az,nM,nN,ol,dI,hj,k1,show¬(gt s j).cost>=60000 by omega,k3,wj _ _ ha,k4,k6]
  have hW:=Ml (within s A fr) (gt s j).key (by have:=FH (s:=s) (A:=A) (fr:=fr);omega) MS
  have hV:=Ml (aD s (gt s j).ae fr) (gt s j).owner (by have:=MU (s:=s) (a:=(gt s j).ae) (fr:=fr);omega) MT
  have hI:=ME s (gt s j).ae fr h hn
  by_cases k6:ej (within s A fr) (gt s j).key<0
  rotate_left
  ·rw[jx (by unfold gS;rw[if_neg (λh=>k6 h.2.2.2.2.2)])]
   rw[if_neg k6]at hW
   simp only[aV,List.cons_append,List.nil_append]at hW
   by_cases k7:ej (aD s (gt s j).ae fr) (gt s j).owner<0
   ·rw[if_pos k7]at hV
    cases z with
    |true=>rw[k5 rfl]at hV hI k4;simp(disch:=omega) only[↓pQ,pS,↓reduceIte,ak,ap,aq,au,av,aw,ax,ay,az,nM,nN,ol,dI,hj,k1,show¬(gt s j).cost>=60000 by omega,k3,wj _ _ ha,k4,k5 rfl,hW,hV,hI]
    |false=>simp(disch:=omega) only[↓pQ,pS,↓reduceIte,ak,ap,aq,au,av,aw,ax,ay,az,nM,nN,ol,dI,hj,k1,show¬(gt s j).cost>=60000 by omega,k3,wj _ _ ha,k4,hW,hV,hI]
   ·rw[if_neg k7]at hV
    simp only[aV,List.cons_append,List.nil_append]at hV
    cases z with
    |true=>rw[k5 rfl]at hV hI k4;simp(disch:=omega) only[↓pQ,pS,↓reduceIte,ak,ap,aq,au,av,aw,ax,ay,az,nM,nN,ol,dI,hj,k1,show¬(gt s j).cost>=60000 by omega,k3,wj _ _ ha,k4,k5 rfl,hW,hV,hI]
    |false=>simp(disch:=omega) only[↓pQ,pS,↓reduceIte,ak,ap,aq,au,av,aw,ax,ay,az,nM,nN,ol,dI,hj,k1,show¬(gt s j).cost>=60000 by omega,k3,wj _ _ ha,k4,hW,hV,hI]
  rw[if_pos k6]at hW
  by_cases k7:ej (aD s (gt s j).ae fr) (gt s j).owner<0
  ·rw[jx (by unfold gS cZ;rw[if_pos ⟨k1,k2,k3,k4,k5,k6⟩,if_pos k7])]
   rw[if_pos k7]at hV
   cases z with
   |true=>rw[k5 rfl]at hV hI k4;simp(disch:=omega) only[↓pQ,pS,↓reduceIte,ak,ap,aq,au,av,aw,ax,ay,az,nM,nN,ol,dI,hj,k1,show¬(gt s j).cost>=60000 by omega,k3,wj _ _ ha,k4,k5 rfl,hW,hV,hI]
   |false=>simp(disch:=omega) only[↓pQ,pS,↓reduceIte,ak,ap,aq,au,av,aw,ax,ay,az,nM,nN,ol,dI,hj,k1,show¬(gt s j).cost>=60000 by omega,k3,wj _ _ ha,k4,hW,hV,hI]
  have hO:cZ (aD s (gt s j).ae fr) (gt s j).owner=some (gt (aD s (gt s j).ae fr) (ej (aD s (gt s j).ae fr) (gt s j).owner)):=by unfold cZ;rw[if_neg k7]
  rw[if_neg k7]at hV
  generalize gt (aD s (gt s j).ae fr) (ej (aD s (gt s j).ae fr) (gt s j).owner)=w at hO hV
  have hw:=FG hO
  have hr:=Zm hw.2.2.2.2 hm k1
  simp only[aV,List.cons_append,List.nil_append]at hV
  by_cases k8:(gt s j).cost+w.cost<60000
  rotate_left
  ·rw[jx (by unfold gS;rw[if_pos ⟨k1,k2,k3,k4,k5,k6⟩,hO];simp only[];rw[if_neg k8])]
   cases z with
   |true=>rw[k5 rfl]at hV hI k4;simp(disch:=omega) only[↓pQ,pS,↓reduceIte,ak,ap,aq,au,av,aw,ax,ay,az,nM,nN,ol,dI,hj,k1,show¬(gt s j).cost>=60000 by omega,k3,wj _ _ ha,k4,k5 rfl,hW,hV,hI,show(gt s j).cost+w.cost>=60000 by omega]
   |false=>simp(disch:=omega) only[↓pQ,pS,↓reduceIte,ak,ap,aq,au,av,aw,ax,ay,az,nM,nN,ol,dI,hj,k1,show¬(gt s j).cost>=60000 by omega,k3,wj _ _ ha,k4,hW,hV,hI,show(gt s j).cost+w.cost>=60000 by omega]
  have hB:gS s A z fr (gt s j)=some ⟨(gt s j).key,(gt s j).cost+w.cost,w.aH⟩:=by unfold gS;rw[if_pos ⟨k1,k2,k3,k4,k5,k6⟩,hO];simp only[];rw[if_pos k8]
  rw[hB,Option.toList_some,<-Zf (w:=⟨(gt s j).key,(gt s j).cost+w.cost,w.aH⟩) hC hr.1 hw.2.1]
  cases z with
  |true=>
   rw[k5 rfl]at hV hI k4;simp(disch:=omega) only[↓pQ,pS,↓reduceIte,ak,ap,aq,au,av,aw,ax,ay,az,nM,nN,ol,dI,hj,k1,show¬(gt s j).cost>=60000 by omega,k3,wj _ _ ha,k4,k5 rfl,hW,hV,hI,show¬(gt s j).cost+w.cost>=60000 by omega]
   exact ap4 (cp C) ⟨(gt s j).key,(gt s j).cost+w.cost,w.aH⟩ j q (Bf C hC) (Bg C) (λx hx=>(Oz hC hx).1) hw.2.1 (by omega)
  |false=>
   simp(disch:=omega) only[↓pQ,pS,↓reduceIte,ak,ap,aq,au,av,aw,ax,ay,az,nM,nN,ol,dI,hj,k1,show¬(gt s j).cost>=60000 by omega,k3,wj _ _ ha,k4,hW,hV,hI,show¬(gt s j).cost+w.cost>=60000 by omega]
   exact ap3 (cp C) ⟨(gt s j).key,(gt s j).cost+w.cost,w.aH⟩ j q (Bf C hC) (Bg C) (λx hx=>(Oz hC hx).1) hw.2.1 (by omega)
 ·intro C q hC
  simp(disch:=omega) only[↓pQ,pS,↓reduceIte,ak,ap,aq,au,av,aw,ax,ay,az,nM,nN,ol,]
def wz:Way:=⟨0,0,[]⟩
def oW(o:Option Way):Way:=o.getD wz
theorem Zp(w:Way):oW (some w)=w:=rfl
def kE(W:List Way)(ae fr to:Int)(x:ah):Option Way:=
 if x.kind=2∧x.ae=ae∧x.key=to∧x.owner≠fr∧x.cost<60000 then
  match cZ W x.owner with
  |none=>none
  |some w=>if w.cost+x.cost<60000 then some ⟨to,w.cost+x.cost,w.aH⟩else none
 else none
theorem MV{W:List Way}{ae fr to:Int}{x:ah}(hW:∀w∈W,fv w.aH){w:Way}(h:kE W ae fr to x=some w):w.to=to∧fv w.aH:=by
 unfold kE at h
 split at h
 ·split at h
  ·cases h
  ·rename_i y hy
   split at h
   ·cases h;exact⟨rfl,hW y (wq hy).1⟩
   ·cases h
 ·cases h
def vr(o:Option Way)(l:List Way):Option Way:=l.foldl nP o
theorem Zq{l:List Way}{o:Option Way}(ho:∀b,o=some b->fv b.aH)(hl:∀w∈l,fv w.aH):∀b,vr o l=some b->fv b.aH:=by
 induction l generalizing o with
 |nil=>exact ho
 |cons a l ih=>
  refine ih (o:=nP o a) (λb hb=>?_) λw hw=>hl w (.tail _ hw)
  cases o with
  |none=>simp only[nP]at hb;cases hb;exact hl _ (.head _)
  |some b0=>simp only[nP]at hb;cases hb;exact MC (ho b0 rfl) (hl _ (.head _))
theorem ap_{α:Type}(f:α->Option Way)(l:List α)(o:Option Way):l.foldl (λo x=>match f x with|none=>o|some w=>nP o w) o=vr o (l.filterMap f):=by
 induction l generalizing o with
 |nil=>rfl
 |cons a l ih=>
  rw[List.foldl_cons,List.filterMap_cons]
  cases f a with
  |none=>exact ih o
  |some w=>exact ih _
theorem ap'(s:List ah)(W:List Way)(ae fr to:Int)(o:Option Way)(h:s.length<=1048576)(hn:bI s)(hs:eJ s=true)(Za:W.length<=7)(hW:∀w∈W,fv w.aH∧0<=w.cost∧w.cost<=6000)(ho:∀b,o=some b->fv b.aH):
  U9 [.l (s.map aC),.l (W.map aV),ii ae,ii fr,ii to,ii (oW o).to,ii (oW o).cost,.l ((oW o).aH.map aG),bb o.isSome]=(λo':Option Way=>some [ii (oW o').to,ii (oW o').cost,.l ((oW o').aH.map aG),bb o'.isSome]) (vr o (s.filterMap (kE W ae fr to))):=by
 rw[anm];simp(disch:=omega) only[↓pQ,pS,↓reduceIte,ak,ap,aq,au,av,aw,ax,ay,az,yu,Lh]
 refine(kC s (λj o=>[bb o.isSome,ii j,ii (oW o).to,ii (oW o).cost,.l ((oW o).aH.map aG)]) (λo x=>match kE W ae fr to x with|none=>o|some w=>nP o w) (λo':Option Way=>some [ii (oW o').to,ii (oW o').cost,.l ((oW o').aH.map aG),bb o'.isSome]) o (λ_ o=>∀b,o=some b->fv b.aH) rfl (ek h) ho ?_ ?_).trans (by rw[ap_])
 ·intro j o hj ho
  have hm:=j_ (l:=s) (n:=(j:Int)) (by omega) hj
  have hc:=ap8 hs hm
  constructor
  ·intro b hb
   cases e:kE W ae fr to (gt s j)with
   |none=>rw[e]at hb;exact ho b hb
   |some w=>
    rw[e]at hb
    exact Zq (l:=[w]) ho (by intro y hy;rw[List.mem_singleton]at hy;subst hy;exact(MV (λw hw=>(hW w hw).1) e).2) b hb
  intro q
  have hT:=Fm W (gt s j).owner (by omega) (λw hw=>by have:=rE (hW w hw).1;omega)
  by_cases k1:(gt s j).kind=2∧(gt s j).ae=ae∧(gt s j).key=to∧(gt s j).owner≠fr∧(gt s j).cost<60000
  rotate_left
  ·have hr:kE W ae fr to (gt s j)=none:=by unfold kE;rw[if_neg k1]
   rw[hr]
   by_cases a1:(gt s j).kind=2
   ·by_cases a2:(gt s j).ae=ae
    ·by_cases a3:(gt s j).key=to
     ·by_cases a4:(gt s j).owner=fr
      ·simp(disch:=omega) only[↓pQ,pS,↓reduceIte,ak,ap,aq,au,av,aw,ax,ay,az,yu,hj,a1,a2,a3,a4]
      ·have a5:(gt s j).cost>=60000:=by
        rcases Int.lt_or_le (gt s j).cost 60000 with h|h
        ·exact absurd ⟨a1,a2,a3,a4,h⟩ k1
        ·exact h
       simp(disch:=omega) only[↓pQ,pS,↓reduceIte,ak,ap,aq,au,av,aw,ax,ay,az,yu,hj,a1,a2,a3,a4,a5]
     ·simp(disch:=omega) only[↓pQ,pS,↓reduceIte,ak,ap,aq,au,av,aw,ax,ay,az,yu,hj,a1,a2,a3]
    ·simp(disch:=omega) only[↓pQ,pS,↓reduceIte,ak,ap,aq,au,av,aw,ax,ay,az,yu,hj,a1,a2]
   ·simp(disch:=omega) only[↓pQ,pS,↓reduceIte,ak,ap,aq,au,av,aw,ax,ay,az,yu,hj,a1]
  obtain⟨a1,a2,a3,a4,a5⟩:=k1
  have a5':¬(gt s j).cost>=60000:=by omega
  by_cases hp:ej W (gt s j).owner<0
  ·have hr:kE W ae fr to (gt s j)=none:=by unfold kE cZ;rw[if_pos ⟨a1,a2,a3,a4,a5⟩,if_pos hp]
   rw[hr]
   rw[if_pos hp]at hT
   simp(disch:=omega) only[↓pQ,pS,↓reduceIte,ak,ap,aq,au,av,aw,ax,ay,az,yu,hj,a1,a2,a3,a4,a5',hT,dI]
  rw[if_neg hp]at hT
  have hO:cZ W (gt s j).owner=some (gt W (ej W (gt s j).owner)):=by unfold cZ;rw[if_neg hp]
  generalize gt W (ej W (gt s j).owner)=w at hO hT
  have hw:=hW w (wq hO).1
  have m5:=rE hw.1
  simp only[aV,List.cons_append,List.nil_append]at hT
  by_cases hq:w.cost+(gt s j).cost<60000
  ·have hr:kE W ae fr to (gt s j)=some ⟨to,w.cost+(gt s j).cost,w.aH⟩:=by unfold kE;rw[if_pos ⟨a1,a2,a3,a4,a5⟩,hO];simp only[];rw[if_pos hq]
   rw[hr]
   cases o with
   |none=>simp(disch:=omega) only[↓pQ,pS,↓reduceIte,ak,ap,aq,au,av,aw,ax,ay,az,yu,hj,a1,a2,a3,a4,a5',hT,show¬w.cost+(gt s j).cost>=60000 by omega,Option.isSome_none,dI];rfl
   |some b=>
    have tT:=rE (ho b rfl)
    simp(disch:=omega) only[↓pQ,pS,↓reduceIte,ak,ap,aq,au,av,aw,ax,ay,az,yu,hj,a1,a2,a3,a4,a5',hT,show¬w.cost+(gt s j).cost>=60000 by omega,Option.isSome_some,Zp,Zc _ _ _ _ _ _ (show b.aH.length<=1048576 by omega) (show w.aH.length<=1048576 by omega),aV];rfl
  ·have hr:kE W ae fr to (gt s j)=none:=by unfold kE;rw[if_pos ⟨a1,a2,a3,a4,a5⟩,hO];simp only[];rw[if_neg hq]
   rw[hr]
   simp(disch:=omega) only[↓pQ,pS,↓reduceIte,ak,ap,aq,au,av,aw,ax,ay,az,yu,hj,a1,a2,a3,a4,a5',hT,show w.cost+(gt s j).cost>=60000 by omega]
 ·intro o q ho
  simp(disch:=omega) only[↓pQ,pS,↓reduceIte,ak,ap,aq,au,av,aw,ax,ay,az,yu,]
def vt(s:List ah)(A:List Int)(z:Bool)(fr to:Int):List Way:=(A.filter λa=>!z||a==0).flatMap λa=>s.filterMap (kE (aD s a fr) a fr to)
theorem aqa{α:Type}(p:α->Bool)(f:α->List Way)(l:List α)(o:Option Way):l.foldl (λo a=>if p a=true then vr o (f a)else o) o=vr o ((l.filter p).flatMap f):=by
 induction l generalizing o with
 |nil=>rfl
 |cons a l ih=>
  rw[List.foldl_cons,ih,List.filter_cons]
  cases p a with
  |false=>rfl
  |true=>simp[vr]
theorem aqb{s:List ah}{A:List Int}{z:Bool}{fr to:Int}:∀w∈vt s A z fr to,w.to=to∧fv w.aH:=by
 intro w hw
 unfold vt at hw
 obtain⟨a,_,h⟩:=List.mem_flatMap.1 hw
 obtain⟨x,hx,h⟩:=List.mem_filterMap.1 h
 exact MV (λy hy=>(fO.2.2 y hy).2.1) h
theorem aqc{s:List ah}{A:List Int}{z:Bool}{fr to:Int}(ht:ej (within s A fr) to<0)(w:Way):w∈vt s A z fr to↔w∈(Cd s A z fr).filter λw=>w.to==to:=by
 unfold vt Cd
 rw[List.mem_flatMap,List.mem_filter,List.mem_filterMap]
 constructor
 ·rintro⟨a,ha,h⟩
  obtain⟨x,hx,h⟩:=List.mem_filterMap.1 h
  have ha:=List.mem_filter.1 ha
  unfold kE at h
  split at h
  ·rename_i hc
   obtain⟨c1,c2,c3,c4,c5⟩:=hc
   subst c2 c3
   split at h
   ·cases h
   ·rename_i y hy
    split at h
    ·rename_i hl
     cases h
     refine⟨⟨x,hx,?_⟩,by simp⟩
     unfold gS
     rw[if_pos ⟨c1,c5,c4,List.contains_iff_mem.2 ha.1,λhz=>by have:=ha.2;rw[hz]at this;simpa using this,ht⟩,hy]
     simp only[]
     rw[if_pos (by omega),Int.add_comm]
    ·cases h
  ·cases h
 ·rintro⟨⟨x,hx,h⟩,m6⟩
  obtain⟨⟨c1,c2,c3,c4,c5,c6⟩,y,hy,hl,rfl⟩:=OC h
  have m6:x.key=to:=by simpa using m6
  refine⟨x.ae,List.mem_filter.2 ⟨List.contains_iff_mem.1 c4,?_⟩,List.mem_filterMap.2 ⟨x,hx,?_⟩⟩
  ·cases z with
   |false=>rfl
   |true=>simp[c5 rfl]
  ·unfold kE
   rw[if_pos ⟨c1,rfl,m6,c3,c2⟩,hy]
   simp only[]
   rw[if_pos (by omega),Int.add_comm,m6]
theorem aqd{s:List ah}{A:List Int}{z:Bool}{fr to:Int}(ht:¬ej (within s A fr) to<0):(Cd s A z fr).filter (λw=>w.to==to)=[]:=by
 rw[List.filter_eq_nil_iff]
 intro w hw
 obtain⟨x,hx,h⟩:=List.mem_filterMap.1 hw
 obtain⟨hc,y,_,_,rfl⟩:=OC h
 intro e
 have e:x.key=to:=by simpa using e
 subst e
 exact ht hc.2.2.2.2.2
theorem aqe(s:List ah)(A:List Int)(z:Bool)(fr:Int)(h:s.length<=1048576)(hn:bI s)(ha:A.length<=1048576):Va [.l (s.map aC),.l (A.map aG),bb z,ii fr]=some [.l ((beyond s A z fr).map aV)]:=by
 have hW:=λa=>fO (s:=s) (ar:=a) (fr:=fr)
 rw[anp];simp(disch:=omega) only[↓pQ,pS,↓reduceIte,ak,ap,aq,au,av,aw,ax,ay,az,vX,vY,vZ,jL_,Zl _ _ _ h hn ha,Fb _ h hn]
 cases hs:eJ s with
 |false=>
  have:Cd s A z fr=[]:=by
   unfold Cd
   rw[List.filterMap_eq_nil_iff]
   intro x hx
   cases e:gS s A z fr x with
   |none=>rfl
   |some w=>
    obtain⟨_,y,hy,_⟩:=OC e
    have:=(FG hy).2.2.2.2
    rw[hs]at this;cases this
  simp(disch:=omega) only[↓pQ,pS,↓reduceIte,ak,ap,aq,au,av,aw,ax,ay,az,vX,vY,vZ,dI]
  unfold beyond
  rw[this]
  rfl
 |true=>
 simp(disch:=omega) only[↓pQ,pS,↓reduceIte,ak,ap,aq,au,av,aw,ax,ay,az,vX,vY,vZ,]
 refine kC A (λj C=>[.l (C.map vq),ii j]) (λC a=>C++[aD s a fr]) (λ_=>some [T.l ((beyond s A z fr).map aV)]) [] (λj C=>C=(A.take j).map (λa=>aD s a fr)) rfl (ek ha) rfl ?_ ?_
 ·intro j C hj hC
  have hl:C.length<=j:=by rw[hC];simp;omega
  refine⟨by rw[List.take_add_one,hC,List.map_append,List.getElem?_eq_getElem (by omega),eS (by omega)];rfl,λq=>?_⟩
  simp(disch:=omega) only[↓pQ,pS,↓reduceIte,ak,ap,aq,au,av,aw,ax,ay,az,vX,vY,vZ,hj,MK _ _ _ h hn,Zi,Zj]
 ·intro C q hC
  have hC:C=A.map (λa=>aD s a fr):=by rw[hC,List.take_length]
  have hCl:C.length=A.length:=by rw[hC,List.length_map]
  have MR:∀j:Nat,(j:Int)<A.length->gt C (j:Int)=aD s (gt A j) fr:=by
   intro j hj
   rw[eS (by omega),eS (by omega)]
   simp only[hC,List.getElem_map]
  simp(disch:=omega) only[↓pQ,pS,↓reduceIte,ak,ap,aq,au,av,aw,ax,ay,az,vX,vY,vZ,]
  refine(rq 6 (λi c=>[.l (c.map aV),ii (i+1)]) (λc i=>c++(if ej (within s A fr) ((i:Int)+1)<0 then jB (vt s A z fr ((i:Int)+1))else none).toList) (λc=>some [T.l (c.map aV)]) [] (λi c=>c.length<=i) rfl (ek (by omega)) (by simp) ?_ ?_).trans ?_
  ·intro i c hi hc
   refine⟨by cases(if ej (within s A fr) ((i:Int)+1)<0 then jB (vt s A z fr ((i:Int)+1))else none)<;>simp<;>omega,λq'=>?_⟩
   have dM:(i:Int)+1<=6:=by omega
   have hT:=Fm (within s A fr) ((i:Int)+1) (by have:=FH (s:=s) (A:=A) (fr:=fr);omega) MS
   by_cases hp:ej (within s A fr) ((i:Int)+1)<0
   rotate_left
   ·rw[if_neg hp]at hT⊢
    simp only[aV,List.cons_append,List.nil_append]at hT
    simp(disch:=omega) only[↓pQ,pS,↓reduceIte,ak,ap,aq,au,av,aw,ax,ay,az,vX,vY,vZ,dM,hT,Option.toList_none,List.append_nil]
   rw[if_pos hp]at hT⊢
   simp(disch:=omega) only[↓pQ,pS,↓reduceIte,ak,ap,aq,au,av,aw,ax,ay,az,vX,vY,vZ,dM,hT,dI]
   refine(kC A (λj o=>[bb o.isSome,ii j,ii (oW o).to,ii (oW o).cost,.l ((oW o).aH.map aG)]) (λo a=>if(!z||a==0)=true then vr o (s.filterMap (kE (aD s a fr) a fr ((i:Int)+1)))else o) (λo=>q' [T.l ((c++o.toList).map aV),ii ((i:Int)+1+1)]) none (λ_ o=>∀b,o=some b->fv b.aH) rfl (ek ha) (by simp) ?_ ?_).trans (by rw[aqa];rfl)
   ·intro j o hj ho
    obtain⟨w1,w2,w3⟩:=hW (gt A j)
    have hlC:(j:Int)<C.length:=by omega
    have hB:=ap' s (aD s (gt A j) fr) (gt A j) fr ((i:Int)+1) o h hn hs w2 (λw hw=>(w3 w hw).2) ho
    have dQ:=Zq (o:=o) (l:=s.filterMap (kE (aD s (gt A j) fr) (gt A j) fr ((i:Int)+1))) ho (λw hw=>by
     obtain⟨x,_,e⟩:=List.mem_filterMap.1 hw
     exact(MV (λw hw=>(w3 w hw).2.1) e).2)
    cases z with
    |false=>
     refine⟨dQ,λq2=>?_⟩
     simp(disch:=omega) only[↓pQ,pS,↓reduceIte,ak,ap,aq,au,av,aw,ax,ay,az,vX,vY,vZ,hj,OB,MR j hj,hB,dI,Bool.not_false,Bool.true_or]
    |true=>
     by_cases h0:gt A j=0
     ·rw[h0]at hB dQ
      refine⟨by rw[h0];exact dQ,λq2=>?_⟩
      have F3:=MR j hj
      rw[h0]at F3
      simp(disch:=omega) only[↓pQ,pS,↓reduceIte,ak,ap,aq,au,av,aw,ax,ay,az,vX,vY,vZ,hj,OB,F3,h0,hB,beq_self_eq_true,Bool.or_true]
     ·have dj:(gt A j==0)=false:=by simpa using h0
      rw[dj]
      refine⟨ho,λq2=>?_⟩
      simp(disch:=omega) only[↓pQ,pS,↓reduceIte,ak,ap,aq,au,av,aw,ax,ay,az,vX,vY,vZ,hj,h0,Bool.not_true,Bool.or_false,dI]
   ·intro o q2 ho
    cases o with
    |none=>simp(disch:=omega) only[↓pQ,pS,↓reduceIte,ak,ap,aq,au,av,aw,ax,ay,az,vX,vY,vZ,dI,Option.isSome_none];simp
    |some b=>simp(disch:=omega) only[↓pQ,pS,↓reduceIte,ak,ap,aq,au,av,aw,ax,ay,az,vX,vY,vZ,Option.isSome_some,Zp];simp
  ·intro c q' hc
   simp(disch:=omega) only[↓pQ,pS,↓reduceIte,ak,ap,aq,au,av,aw,ax,ay,az,vX,vY,vZ,]
  ·rw[Zg (λi:Nat=>(if ej (within s A fr) ((i:Int)+1)<0 then jB (vt s A z fr ((i:Int)+1))else none).toList),List.nil_append]
   congr 3
   unfold beyond cp
   rw[Bc,List.filterMap_map,FF]
   refine congrArg (λf=>List.map aV (List.filterMap f (List.range 6))) (funext λi=>?_)
   show _=jB _
   by_cases hp:ej (within s A fr) ((i:Int)+1)<0
   ·rw[if_pos hp]
    exact Ze (v:=(i:Int)+1) aqb (aqc hp)
   ·rw[if_neg hp,aqd hp]
    rfl
theorem Bh(l:List Way)(v:Int):cZ l v=l.find? λw=>w.to==v:=by
 cases h:l.find? (λw=>w.to==v)with
 |none=>
  cases h':cZ l v with
  |none=>rfl
  |some w=>
   have:=wq h'
   have h2:=List.find?_eq_none.1 h w this.1
   simp[this.2]at h2
 |some w=>
  unfold cZ ej
  have h0:0<=eF (λw:Way=>w.to==v) l:=by
   rcases Int.lt_or_le (eF (λw:Way=>w.to==v) l) 0 with h1|h1
   ·have:=(BW _ _).1 h1 w (List.mem_of_find?_eq_some h)
    have h2:=List.find?_some h
    rw[this]at h2;cases h2
   ·exact h1
  rw[if_neg (by omega)]
  unfold eF at h0⊢
  cases h':l.findIdx? (λw:Way=>w.to==v)with
  |none=>rw[h']at h0;exact absurd h0 (by decide)
  |some i=>
   obtain⟨h1,h2,h3⟩:=List.findIdx?_eq_some_iff_getElem.1 h'
   show some (gt l (i:Int))=some w
   rw[eS h1]
   obtain⟨e,as',bs,e1,e2⟩:=List.find?_eq_some_iff_append.1 h
   subst e1
   congr 1
   rcases Nat.lt_trichotomy i as'.length with h4|h4|h4
   ·have h5:=e2 as'[i] (List.getElem_mem h4)
    rw[List.getElem_append_left h4]at h2
    rw[h2]at h5;cases h5
   ·subst h4;simp
   ·have h5:=h3 as'.length h4
    simp at h5 e
    exact absurd e h5
theorem Zr(a b:List Way)(v:Int):cZ (a++b) v=(cZ a v).or (cZ b v):=by
 rw[Bh,Bh,Bh,List.find?_append]
def wu(W:List Way):Prop:=W.length<=1000∧∀w∈W,fv w.aH∧0<=w.cost∧w.cost<=100000
theorem wu.app{a b:List Way}(ha:a.length<=100)(hb:b.length<=100)(h:wu a)(h':wu b):wu (a++b):=
 ⟨by simp;omega,λw hw=>(List.mem_append.1 hw).elim (h.2 w) (h'.2 w)⟩
def upto(n:Nat):List Int:=(List.range n).map λi:Nat=>(i:Int)+1
theorem aqg{n:Nat}{x:Int}:x∈upto n↔1<=x∧x<=n:=by
 unfold upto
 rw[List.mem_map]
 constructor
 ·rintro⟨i,hi,rfl⟩
  have:=List.mem_range.1 hi
  omega
 ·intro h
  exact⟨(x-1).toNat,List.mem_range.2 (by omega),by omega⟩
theorem aqh(n:Nat):(upto n).Pairwise (· < ·):=by
 unfold upto
 rw[List.pairwise_map]
 exact List.pairwise_lt_range.imp λ{a b} h=>by omega
theorem aqi{n:Nat}{l:List Int}(h:l.Pairwise (· < ·))(hm:∀x∈l,1<=x∧x<=n):l=(upto n).filter λx=>l.contains x:=
 GZ h ((aqh n).filter _) λx=>by
  rw[List.mem_filter,aqg,List.contains_iff_mem]
  exact⟨λhx=>⟨hm x hx,hx⟩,λhx=>hx.2⟩
theorem MW{n:Nat}{l:List Int}(h:l.Pairwise (· < ·))(hm:∀x∈l,1<=x∧x<=n):l.length<=n:=by
 rw[aqi h hm]
 refine Nat.le_trans (List.length_filter_le _ _) ?_
 unfold upto
 simp
theorem Zs{c:List Int}(h:c.Pairwise (· < ·))(hl:c.length<=1000)(n:Int){F:af->af}{s:af}{st:List T}(cf:st=[ii 0])
  (h1:∀(k:Nat) (w:af),(k:Int)<c.length->gt c (k:Int)<n->F w [ii k]=w [ii ((k:Int)+1)])
  (h2:∀(k:Nat) (w:af),(k:Int)<c.length->gt c (k:Int)=n->F w [ii k]=s [.l (c.map aG)])
  (h3:∀(k:Nat) (w:af),(k:Int)<c.length->¬gt c (k:Int)<n->gt c (k:Int)≠n->F w [ii k]=s [.l ((c.take k++([n]++c.drop k)).map aG)])
  (h4:∀(k:Nat) (w:af),¬(k:Int)<c.length->k<=c.length->F w [ii k]=s [.l ((c.take k++([n]++c.drop k)).map aG)]):
  iter F rounds st=s [.l ((hX c n).map aG)]:=by
 have hle:=Fo c n
 obtain⟨c1,c2,c3⟩:=Oq h n
 refine yG (λk=>[ii k]) (eA c n) cf (ek (by omega)) ?_ ?_
 ·intro k hk w
  exact h1 k w (by omega) (by rw[eS (by omega)];exact(c3 k (by omega)).2 (by omega))
 ·intro w
  by_cases a_:eA c n<c.length
  ·have cJ:¬(gt c ((eA c n:Nat):Int)<n):=by rw[eS a_];intro rY;have:=(c3 _ a_).1 rY;omega
   have iz:=Mp h a_
   by_cases jI:n∈c
   ·rw[Mo h jI]
    exact h2 _ w (by omega) (iz.2 jI)
   ·rw[Ot h jI]
    exact h3 _ w (by omega) cJ (λe=>jI (iz.1 e))
  ·rw[Ot h (Mq h a_)]
   exact h4 _ w (by omega) hle
theorem aqj{c:List Int}(h:c.Pairwise (· < ·))(hl:c.length<=1000)(n:Int)(q:af):
  iter (tC vj (.l (c.map aG)) (ii n) q) rounds [ii 0]=q [.l ((hX c n).map aG)]:=by
 refine Zs h hl n rfl ?_ ?_ ?_ ?_
 ·intro k w fI cJ
  simp(disch:=omega) only[↓pQ,pS,↓reduceIte,ak,ap,aq,au,av,aw,ax,ay,az,tC,tD,ue,fI,cJ]
 ·intro k w fI cJ
  have iz:¬n<n:=by omega
  simp(disch:=omega) only[↓pQ,pS,↓reduceIte,ak,ap,aq,au,av,aw,ax,ay,az,tC,tD,ue,fI,cJ,iz]
 ·intro k w fI cJ iz
  simp(disch:=omega) only[↓pQ,pS,↓reduceIte,ak,ap,aq,au,av,aw,ax,ay,az,tC,tD,ue,fI,cJ,iz,sm _ (show(c.take k).length<=1048576 by simp;omega)]
  rw[Ee (by simp;omega),eK,yl (by simp;omega),eK,List.append_assoc]
 ·intro k w fI cJ
  simp(disch:=omega) only[↓pQ,pS,↓reduceIte,ak,ap,aq,au,av,aw,ax,ay,az,tC,tD,ue,fI,sm _ (show(c.take k).length<=1048576 by simp;omega)]
  rw[Ee (by simp;omega),eK,yl (by simp;omega),eK,List.append_assoc]
theorem aqk{c:List Int}(h:c.Pairwise (· < ·))(hl:c.length<=1000)(n:Int)(q:af):
  iter (tD vj (.l (c.map aG)) (ii n) q) rounds [ii 0]=q [.l ((hX c n).map aG)]:=by
 refine Zs h hl n rfl ?_ ?_ ?_ ?_
 ·intro k w fI cJ
  simp(disch:=omega) only[↓pQ,pS,↓reduceIte,ak,ap,aq,au,av,aw,ax,ay,az,tC,tD,ue,fI,cJ]
 ·intro k w fI cJ
  have iz:¬n<n:=by omega
  simp(disch:=omega) only[↓pQ,pS,↓reduceIte,ak,ap,aq,au,av,aw,ax,ay,az,tC,tD,ue,fI,cJ,iz]
 ·intro k w fI cJ iz
  simp(disch:=omega) only[↓pQ,pS,↓reduceIte,ak,ap,aq,au,av,aw,ax,ay,az,tC,tD,ue,fI,cJ,iz,sm _ (show(c.take k).length<=1048576 by simp;omega)]
  rw[Ee (by simp;omega),eK,yl (by simp;omega),eK,List.append_assoc]
 ·intro k w fI cJ
  simp(disch:=omega) only[↓pQ,pS,↓reduceIte,ak,ap,aq,au,av,aw,ax,ay,az,tC,tD,ue,fI,sm _ (show(c.take k).length<=1048576 by simp;omega)]
  rw[Ee (by simp;omega),eK,yl (by simp;omega),eK,List.append_assoc]
theorem aql{s:List ah}{ar fr:Int}{w:Way}(hw:w∈aD s ar fr):∃v∈aD s ar fr,v.to=fr:=by
 unfold aD at hw⊢
 by_cases hc:eJ s=true∧jr fr 1 6=true∧0<=iv s ar fr
 ·rw[if_pos hc]at hw⊢
  obtain⟨D,hI⟩:=MO hc.1 ar fr 6 (W0 fr) [] (hY.start (bC.1 hc.2.1))
  have hl:=hI.ok.len
  obtain⟨h1,h2⟩:=List.mem_filter.1 hw
  have h2:w.to≠0:=by simpa using h2
  obtain⟨i,hi,rfl⟩:=List.mem_iff_getElem.1 h1
  have m6:=hI.ok.to (i:Int) (by omega) (by omega)
  rw[eS hi]at m6
  have m6:=m6.resolve_left h2
  rcases hI.first with⟨_,hf⟩|hf
  ·have PM:=hI.fr6
   have:=hf (i:Int) (by omega) (by omega) (by rw[eS hi];exact h2)
   exact⟨_,hw,by rw[m6,this]⟩
  ·have h3:=hI.mem fr hf
   have h4:=hI.fr6
   have h5:=(hI.ok.to fr (by omega) (by omega)).resolve_left h3.2
   refine⟨_,List.mem_filter.2 ⟨j_ (n:=fr) (by omega) (by omega),?_⟩,h5⟩
   simpa using h3.2
 ·rw[if_neg hc]at hw;cases hw
theorem aqm{l:List Way}{w:Way}(h:w∈l):¬ej l w.to<0:=by
 intro hc
 have:=(BW _ _).1 hc w h
 simp at this
theorem aqn{s:List ah}{A:List Int}{fr:Int}{v:Way}(h:v∈pD s A fr):¬ej (within s A fr) v.to<0:=by
 rcases G8 (v:=v.to) _ ((pD s A fr).filter λw=>w.to==v.to) rfl (λy hy=>by have:=List.mem_filter.1 hy;exact⟨by simpa using this.2,(xO y this.1).2.1⟩)with⟨e,_⟩|⟨b,e,hb,_⟩
 ·have:v∈(pD s A fr).filter λw=>w.to==v.to:=List.mem_filter.2 ⟨h,by simp⟩
  rw[e]at this;cases this
 ·have hm:b∈within s A fr:=(FC (λx hx=>(xO x hx).2.1)).2 ⟨by rw[hb];exact(xO v h).1,by rw[hb];exact e⟩
  rw[<-hb]
  exact aqm hm
theorem MX{s:List ah}{A:List Int}{z:Bool}{fr:Int}{w:Way}(h:w∈beyond s A z fr):(1<=w.to∧w.to<=6)∧fv w.aH∧(0<=w.cost∧w.cost<60000)∧w.to≠fr∧ej (within s A fr) w.to<0:=by
 have h1:=Oz (λx hx=>(Zo x hx).2.1) h
 obtain⟨hh,y,hy,e1,e2⟩:=h1
 have h2:=Zo y hy
 obtain⟨x,hx,h3⟩:=List.mem_filterMap.1 hy
 obtain⟨h4,y',h5,h6,h7⟩:=OC h3
 have hk:x.key=w.to:=by rw[<-e1,h7]
 refine⟨by rw[<-e1];exact h2.1,hh,by rw[<-e2];exact h2.2.2,?_,by rw[<-hk];exact h4.2.2.2.2.2⟩
 intro e
 obtain⟨v,hv,ev⟩:=aql (wq h5).1
 have hc:v∈pD s A fr:=List.mem_flatMap.2 ⟨x.ae,List.contains_iff_mem.1 h4.2.2.2.1,hv⟩
 have h8:=aqn hc
 have he:v.to=x.key:=by omega
 rw[he]at h8
 exact h8 h4.2.2.2.2.2
theorem Zt{s:List ah}{A:List Int}{fr:Int}{w:Way}(h:w∈within s A fr):(1<=w.to∧w.to<=6)∧fv w.aH∧(0<=w.cost∧w.cost<=6000):=by
 obtain⟨hh,y,hy,e1,e2⟩:=Oz (λx hx=>(xO x hx).2.1) h
 have:=xO y hy
 exact⟨by rw[<-e1];exact this.1,hh,by rw[<-e2];exact this.2.2⟩
theorem Zu{s:List ah}{A:List Int}{z:Bool}{fr:Int}:(beyond s A z fr).length<=6:=Bg _
theorem G9{n:Int}{ls:List br}(h:eI (nO n) ml ls=true){l:br}(hl:l∈ls):(1<=n∧n<=6)∧(1<=l.a∧l.a<=n)∧(1<=l.b∧l.b<=n)∧l.a<l.b∧(1<=l.cost∧l.cost<=1000)∧0<=l.ae∧l.ae<=2:=by
 obtain⟨i,hi,rfl⟩:=List.mem_iff_getElem.1 hl
 have:=cq.1 h i hi
 rw[eS hi]at this
 simp only[bA,nO,bC,decide_eq_true_eq]at this
 omega
def three:List Int:=[0,1,2]
theorem nQ{x:Int}:x∈three↔0<=x∧x<=2:=by simp[three];omega
theorem nR:three.Pairwise (· < ·):=by unfold three;simp
def rH(node a:Int)(l:br):Bool:=l.ae==a&&(l.a==node||l.b==node)
def lj(ls:List br)(node:Int):List Int:=three.filter λa=>ls.any (rH node a)
theorem MY(ls:List br)(node:Int):(lj ls node).length<=3:=List.length_filter_le _ _
theorem aqo(node:Int)(ls:List br)(c:List Int)(hc:c.Pairwise (· < ·)):let K:=ls.foldl (λc x=>if x.a=node∨x.b=node then hX c x.ae else c) c;K.Pairwise (· < ·)∧∀k,k∈K↔k∈c∨∃x∈ls,(x.a=node∨x.b=node)∧x.ae=k:=by
 induction ls generalizing c with
 |nil=>exact⟨hc,by simp⟩
 |cons x s ih=>
  rw[List.foldl_cons]
  by_cases h:x.a=node∨x.b=node
  ·rw[if_pos h]
   obtain⟨h1,h2⟩:=ih _ (Mm hc x.ae)
   refine⟨h1,λk=>?_⟩
   rw[h2,jA]
   simp only[List.mem_cons]
   constructor
   ·rintro((e|e)|⟨y,hy,e⟩)
    ·exact .inr ⟨x,.inl rfl,h,e.symm⟩
    ·exact .inl e
    ·exact .inr ⟨y,.inr hy,e⟩
   ·rintro(e|⟨y,rfl|hy,e⟩)
    ·exact .inl (.inr e)
    ·exact .inl (.inl e.2.symm)
    ·exact .inr ⟨y,hy,e⟩
  ·rw[if_neg h]
   obtain⟨h1,h2⟩:=ih _ hc
   refine⟨h1,λk=>?_⟩
   rw[h2]
   simp only[List.mem_cons]
   constructor
   ·rintro(e|⟨y,hy,e⟩)
    ·exact .inl e
    ·exact .inr ⟨y,.inr hy,e⟩
   ·rintro(e|⟨y,rfl|hy,e⟩)
    ·exact .inl e
    ·exact absurd e.1 h
    ·exact .inr ⟨y,hy,e⟩
theorem aqp{n:Int}{ls:List br}(h:eI (nO n) ml ls=true)(node:Int):ls.foldl (λc x=>if x.a=node∨x.b=node then hX c x.ae else c) []=lj ls node:=by
 obtain⟨h1,h2⟩:=aqo node ls [] .nil
 refine GZ h1 (nR.filter _) λk=>?_
 unfold lj
 rw[h2,List.mem_filter,nQ,List.any_eq_true]
 constructor
 ·rintro(e|⟨x,hx,e,rfl⟩)
  ·cases e
  ·have:=G9 h hx
   refine⟨by omega,x,hx,?_⟩
   unfold rH
   rcases e with e|e<;>simp[e]
 ·rintro⟨_,x,hx,e⟩
  unfold rH at e
  simp only[bA,Bool.or_eq_true,beq_iff_eq]at e
  exact .inr ⟨x,hx,e.2,e.1⟩
theorem FI(t0 t2:T)(ls:List br)(node n:Int)(h:eI (nO n) ml ls=true)(hl:ls.length<=12):ED [t0,.l (ls.map df),t2,ii node]=some [.l ((lj ls node).map aG)]:=by
 rw[aoh];simp(disch:=omega) only[↓pQ,pS,↓reduceIte,ak,ap,aq,au,av,aw,ax,ay,az,tC,tD,ue,LF]
 refine(kC ls (λj c=>[.l (c.map aG),ii j]) (λc x=>if x.a=node∨x.b=node then hX c x.ae else c) (λc=>some [T.l (c.map aG)]) [] (λj c=>c.Pairwise (· < ·)∧∀x∈c,0<=x∧x<=2) rfl (ek (by omega)) ⟨.nil,by simp⟩ ?_ ?_).trans (by rw[aqp h])
 ·rintro j c hj ⟨c1,c2⟩
  have hm:=G9 h (j_ (l:=ls) (n:=(j:Int)) (by omega) hj)
  have hc3:c.length<=3:=by
   have e:c=three.filter λx=>c.contains x:=GZ c1 (nR.filter _) λx=>by
    rw[List.mem_filter,nQ,List.contains_iff_mem]
    exact⟨λhx=>⟨c2 x hx,hx⟩,λhx=>hx.2⟩
   rw[e];exact List.length_filter_le _ _
  by_cases k1:(gt ls j).a=node
  ·rw[if_pos (.inl k1)]
   refine⟨⟨Mm c1 _,λx hx=>by rcases jA.1 hx with rfl|hx;omega;exact c2 x hx⟩,λq=>?_⟩
   simp(disch:=omega) only[↓pQ,pS,↓reduceIte,ak,ap,aq,au,av,aw,ax,ay,az,tC,tD,ue,hj,k1]
   refine(aqk c1 (by omega) _ _).trans ?_
   simp(disch:=omega) only[↓pQ,pS,↓reduceIte,ak,ap,aq,au,av,aw,ax,ay,az,tC,tD,ue,]
  ·by_cases k2:(gt ls j).b=node
   ·rw[if_pos (.inr k2)]
    refine⟨⟨Mm c1 _,λx hx=>by rcases jA.1 hx with rfl|hx;omega;exact c2 x hx⟩,λq=>?_⟩
    simp(disch:=omega) only[↓pQ,pS,↓reduceIte,ak,ap,aq,au,av,aw,ax,ay,az,tC,tD,ue,hj,k1,k2]
    refine(aqj c1 (by omega) _ _).trans ?_
    simp(disch:=omega) only[↓pQ,pS,↓reduceIte,ak,ap,aq,au,av,aw,ax,ay,az,tC,tD,ue,]
   ·rw[if_neg (by omega)]
    refine⟨⟨c1,c2⟩,λq=>?_⟩
    simp(disch:=omega) only[↓pQ,pS,↓reduceIte,ak,ap,aq,au,av,aw,ax,ay,az,tC,tD,ue,hj,k1,k2]
 ·rintro c q hc
  simp(disch:=omega) only[↓pQ,pS,↓reduceIte,ak,ap,aq,au,av,aw,ax,ay,az,tC,tD,ue,]
def xP(ls:List br)(node a:Int):List Int:=vo.filter λv=>decide (mR ls node v a>0)
theorem Zv(t0 t2:T)(ls:List br)(node a:Int)(hl:ls.length<=12):Uk [t0,.l (ls.map df),t2,ii node,ii a]=some [.l ((xP ls node a).map aG)]:=by
 rw[amK];simp(disch:=omega) only[↓pQ,pS,↓reduceIte,ak,ap,aq,au,av,aw,ax,ay,az,X6,KW]
 refine(rq 6 (λi c=>[.l (c.map aG),ii (i+1)]) (λc i=>if decide (mR ls node ((i:Int)+1) a>0)=true then c++[(i:Int)+1]else c) (λc=>some [T.l (c.map aG)]) [] (λi c=>c.length<=i) rfl (ek (by omega)) (by simp) ?_ ?_).trans ?_
 ·intro i c hi hc
  have dM:(i:Int)+1<=6:=by omega
  refine⟨by split;(· simp;omega);(· omega),λq=>?_⟩
  by_cases k:mR ls node ((i:Int)+1) a>0
  ·simp(disch:=omega) only[↓pQ,pS,↓reduceIte,ak,ap,aq,au,av,aw,ax,ay,az,X6,dM,Om _ _ _ _ _ _ (show ls.length<=1048576 by omega),k,decide_true]
  ·simp(disch:=omega) only[↓pQ,pS,↓reduceIte,ak,ap,aq,au,av,aw,ax,ay,az,X6,dM,Om _ _ _ _ _ _ (show ls.length<=1048576 by omega),k,decide_false,dI]
 ·intro c q hc
  simp(disch:=omega) only[↓pQ,pS,↓reduceIte,ak,ap,aq,au,av,aw,ax,ay,az,X6,]
 ·unfold xP
  rw[JI (λi:Nat=>decide (mR ls node ((i:Int)+1) a>0)) (λi:Nat=>(i:Int)+1),Bc,List.filter_map]
  rfl
theorem aqq{n:Int}{ls:List br}(h:eI (nO n) ml ls=true)(node a:Int):(xP ls node a).length>0↔ls.any (rH node a)=true:=by
 unfold xP
 rw[show((vo.filter λv=>decide (mR ls node v a>0)).length>0)↔∃v∈vo,mR ls node v a>0 by
  rw[gt_iff_lt,List.length_pos_iff_exists_mem]
  constructor
  ·rintro⟨v,hv⟩
   have:=List.mem_filter.1 hv
   exact⟨v,this.1,by simpa using this.2⟩
  ·rintro⟨v,hv,e⟩
   exact⟨v,List.mem_filter.2 ⟨hv,by simpa using e⟩⟩,List.any_eq_true]
 have key:∀v,mR ls node v a>0↔∃x∈ls,iu node v a x=true:=by
  intro v
  have hz:=L8 h node v a
  constructor
  ·intro hc
   have h0:0<=eF (iu node v a) ls:=by
    rcases Int.lt_or_le (eF (iu node v a) ls) 0 with h1|h1
    ·have:=hz.2 h1;omega
    ·exact h1
   exact⟨_,j_ h0 (tv _ _),t_ _ _ h0⟩
  ·rintro⟨x,hx,e⟩
   have h0:¬eF (iu node v a) ls<0:=λhc=>by
    have:=(BW _ _).1 hc x hx
    rw[e]at this;cases this
   have h1:=G9 h (j_ (l:=ls) (n:=eF (iu node v a) ls) (by omega) (tv _ _))
   unfold mR
   rw[if_neg h0]
   omega
 constructor
 ·rintro⟨v,hv,hc⟩
  obtain⟨x,hx,e⟩:=(key v).1 hc
  refine⟨x,hx,?_⟩
  unfold iu at e
  unfold rH
  simp only[bA,Bool.or_eq_true,beq_iff_eq]at e⊢
  rcases e with⟨e1,e2|e2⟩
  ·exact⟨e1,.inl e2.1⟩
  ·exact⟨e1,.inr e2.2⟩
 ·rintro⟨x,hx,e⟩
  have hl:=G9 h hx
  unfold rH at e
  simp only[bA,Bool.or_eq_true,beq_iff_eq]at e
  rcases e with⟨e1,e2|e2⟩
  ·exact⟨x.b,iZ.2 (by omega),(key _).2 ⟨x,hx,by unfold iu;simp[e1,e2]⟩⟩
  ·exact⟨x.a,iZ.2 (by omega),(key _).2 ⟨x,hx,by unfold iu;simp[e1,e2]⟩⟩
theorem Zw(t0 t2:T)(ls:List br)(node n:Int)(h:eI (nO n) ml ls=true)(hl:ls.length<=12):JR [t0,.l (ls.map df),t2,ii node]=some [.l ((lj ls node).map aG)]:=by
 rw[amM];simp(disch:=omega) only[↓pQ,pS,↓reduceIte,ak,ap,aq,au,av,aw,ax,ay,az,X7,KX]
 refine(rq 3 (λi c=>[.l (c.map aG),ii i]) (λc i=>if ls.any (rH node (i:Int))=true then c++[(i:Int)]else c) (λc=>some [T.l (c.map aG)]) [] (λi c=>c.length<=i) rfl (ek (by omega)) (by simp) ?_ ?_).trans ?_
 ·intro i c hi hc
  have dM:(i:Int)<=2:=by omega
  refine⟨by split;(· simp;omega);(· omega),λq=>?_⟩
  have hn:=aqq h node (i:Int)
  by_cases k:ls.any (rH node (i:Int))=true
  ·have h1:((xP ls node (i:Int)).length:Int)>0:=by have:=hn.2 k;omega
   simp(disch:=omega) only[↓pQ,pS,↓reduceIte,ak,ap,aq,au,av,aw,ax,ay,az,X7,dM,Zv _ _ _ _ _ hl,k,h1]
  ·have h1:¬((xP ls node (i:Int)).length:Int)>0:=by
    intro hc
    exact k (hn.1 (by omega))
   simp(disch:=omega) only[↓pQ,pS,↓reduceIte,ak,ap,aq,au,av,aw,ax,ay,az,X7,dM,Zv _ _ _ _ _ hl,k,h1,dI]
 ·intro c q hc
  simp(disch:=omega) only[↓pQ,pS,↓reduceIte,ak,ap,aq,au,av,aw,ax,ay,az,X7,]
 ·unfold lj
  rw[JI (λi:Nat=>ls.any (rH node (i:Int))) (λi:Nat=>(i:Int)),show three=(List.range 3).map (λi:Nat=>(i:Int)) from rfl,List.filter_map]
  rfl
def Cf(ls:List br)(node:Int):Bool:=(lj ls node).contains 0&&decide ((lj ls node).length>1)
theorem Zx(t0 t2:T)(ls:List br)(node n:Int)(h:eI (nO n) ml ls=true)(hl:ls.length<=12):Wz [t0,.l (ls.map df),t2,ii node]=some [bb (Cf ls node)]:=by
 have G_:=MY ls node
 rw[aot];simp(disch:=omega) only[↓pQ,pS,↓reduceIte,ak,ap,aq,au,av,aw,ax,ay,az,LO,FI _ _ _ _ _ h hl,wj _ _ (show(lj ls node).length<=1048576 by omega)]
 unfold Cf
 cases(lj ls node).contains 0 with
 |true=>simp(disch:=omega) only[↓pQ,pS,↓reduceIte,ak,ap,aq,au,av,aw,ax,ay,az,];simp;omega
 |false=>simp(disch:=omega) only[↓pQ,pS,↓reduceIte,ak,ap,aq,au,av,aw,ax,ay,az,dI];simp
theorem Zy(t0 t2:T)(ls:List br)(node n:Int)(h:eI (nO n) ml ls=true)(hl:ls.length<=12):Ut [t0,.l (ls.map df),t2,ii node]=some [bb (Cf ls node)]:=by
 have G_:=MY ls node
 rw[amQ];simp(disch:=omega) only[↓pQ,pS,↓reduceIte,ak,ap,aq,au,av,aw,ax,ay,az,KZ,Zw _ _ _ _ _ h hl]
 unfold Cf
 by_cases k:((lj ls node).length:Int)>1
 ·have k':(lj ls node).length>1:=by omega
  have h0:∀(p:Int->Bool),(three.filter p).length>1->(three.filter p).contains 0=decide (gt (three.filter p) 0=0):=by
   intro p hp
   unfold three at hp⊢
   simp only[List.filter_cons,List.filter_nil]at hp⊢
   revert hp
   cases p 0<;>cases p 1<;>cases p 2<;>first|(intro _;rfl)|(intro h;exact absurd h (by decide))
  rw[show(lj ls node).contains 0=decide (gt (lj ls node) 0=0) from h0 _ k']
  simp(disch:=omega) only[↓pQ,pS,↓reduceIte,ak,ap,aq,au,av,aw,ax,ay,az,k,k',decide_true,Bool.and_true]
  rfl
 ·have k':¬(lj ls node).length>1:=by omega
  simp(disch:=omega) only[↓pQ,pS,↓reduceIte,ak,ap,aq,au,av,aw,ax,ay,az,k,k',decide_false,Bool.and_false]
def pE(ae fr:Int)(w:Way):ah:=⟨ae,2,fr,w.to,0,[],w.cost,false⟩
def tH(here:List Way)(fr:Int)(k:Int):Bool:=decide (ej here k<0)&&decide (k≠fr)
def xQ(here:List Way)(ae fr:Int)(W:List Way)(k:Int):Option ah:=if tH here fr k=true then(cZ W k).map (pE ae fr)else none
def kg(here:List Way)(ae fr:Int)(W:List Way):List ah:=vo.filterMap (xQ here ae fr W)
theorem OD{here:List Way}{ae fr:Int}{W:List Way}{k:Int}{r:ah}(h:xQ here ae fr W k=some r):r.key=k∧r.ae=ae∧r.kind=2∧r.owner=fr∧r.bd=[]∧r.seq=0∧r.fT=false∧tH here fr k=true∧∃w,cZ W k=some w∧r=pE ae fr w:=by
 unfold xQ at h
 split at h
 ·rename_i hc
  obtain⟨w,hw,e⟩:=Option.map_eq_some_iff.1 h
  subst e
  exact⟨(wq hw).2,rfl,rfl,rfl,rfl,rfl,rfl,hc,w,hw,rfl⟩
 ·cases h
theorem iF{here:List Way}{ae fr:Int}{W:List Way}{r:ah}:r∈kg here ae fr W↔(1<=r.key∧r.key<=6)∧xQ here ae fr W r.key=some r:=by
 unfold kg
 rw[List.mem_filterMap]
 constructor
 ·rintro⟨k,hk,h⟩
  have:=(OD h).1
  subst this
  exact⟨iZ.1 hk,h⟩
 ·rintro⟨h1,h2⟩
  exact⟨r.key,iZ.2 h1,h2⟩
theorem Zz(here:List Way)(ae fr:Int)(W:List Way):(kg here ae fr W).Pairwise λa b=>a.key<b.key:=by
 unfold kg
 rw[List.pairwise_filterMap]
 refine rD.imp λ{a b} lT x hx y hy=>?_
 rw[(OD hx).1,(OD hy).1]
 exact lT
theorem MZ(here:List Way)(ae fr:Int)(W:List Way):(kg here ae fr W).length<=6:=List.length_filterMap_le _ _
theorem M0{here:List Way}{ae fr:Int}{W:List Way}{r:ah}(h:r∈kg here ae fr W):r.ae=ae∧r.kind=2∧r.owner=fr∧r.bd=[]:=by
 have:=OD (iF.1 h).2
 exact⟨this.2.1,this.2.2.1,this.2.2.2.1,this.2.2.2.2.1⟩
theorem M1(here:List Way)(ae fr:Int)(W:List Way):iT (kg here ae fr W):=by
 unfold iT
 refine(Zz here ae fr W).imp_of_mem λ{a b} ha hb lT=>?_
 have h1:=M0 ha
 have h2:=M0 hb
 rw[oL]
 omega
theorem ZA(here:List Way)(ae fr:Int)(W:List Way):bI (kg here ae fr W):=λr hr=>by
 rw[(M0 hr).2.2.2];simp
theorem FJ(W:List Way)(w:Way)(k:Int):cZ (W++[w]) k=(cZ W k).or (if w.to=k then some w else none):=by
 rw[Zr]
 congr 1
 rw[Bh]
 simp only[List.find?_cons,List.find?_nil]
 by_cases h:w.to=k
 ·simp[h]
 ·have:(w.to==k)=false:=by simpa using h
  rw[this,if_neg h]
theorem OE{here:List Way}{ae fr:Int}{W:List Way}{w:Way}(h:tH here fr w.to=false∨(cZ W w.to).isSome=true):kg here ae fr (W++[w])=kg here ae fr W:=by
 unfold kg
 refine congrArg (λf=>List.filterMap f vo) (funext λk=>?_)
 unfold xQ
 by_cases hk:tH here fr k=true
 ·rw[if_pos hk,if_pos hk,FJ]
  by_cases e:w.to=k
  ·subst e
   rcases h with h|h
   ·rw[h]at hk;cases hk
   ·rw[Option.or_of_isSome h]
  ·rw[if_neg e,Option.or_none]
 ·rw[if_neg hk,if_neg hk]
theorem ZB{here:List Way}{ae fr:Int}{W:List Way}{w:Way}(hw:1<=w.to∧w.to<=6)(h1:tH here fr w.to=true)(h2:cZ W w.to=none):kg here ae fr (W++[w])=dg (kg here ae fr W) (pE ae fr w):=by
 have hs:=GY (M1 here ae fr W) (pE ae fr w)
 refine MM ah.key (Zz _ _ _ _) ?_ λr=>?_
 ·refine hs.imp_of_mem λ{a b} ha hb lT=>?_
  have hm:∀x,x∈dg (kg here ae fr W) (pE ae fr w)->x.ae=ae∧x.kind=2∧x.owner=fr:=by
   intro x hx
   rcases xJ hx with rfl|hx
   ·exact⟨rfl,rfl,rfl⟩
   ·have:=M0 hx;exact⟨this.1,this.2.1,this.2.2.1⟩
  have h1:=hm a ha
  have h2:=hm b hb
  rw[oL]at lT
  omega
 ·have hp:r∈dg (kg here ae fr W) (pE ae fr w)↔r=pE ae fr w∨(r∈kg here ae fr W∧r.key≠w.to):=by
   unfold dg
   simp only[List.mem_append,List.mem_filter,List.mem_singleton]
   constructor
   ·rintro(⟨h,q⟩|h|⟨h,q⟩)
    ·have hx:=M0 h
     rw[oL]at q
     simp only[pE]at q
     exact .inr ⟨h,by omega⟩
    ·exact .inl h
    ·have hx:=M0 h
     rw[oL]at q
     simp only[pE]at q
     exact .inr ⟨h,by omega⟩
   ·rintro(h|⟨h,q⟩)
    ·exact .inr (.inl h)
    ·have hx:=M0 h
     rcases Int.lt_or_gt_of_ne q with q|q
     ·exact .inl ⟨h,by rw[oL];simp only[pE];omega⟩
     ·exact .inr (.inr ⟨h,by rw[oL];simp only[pE];omega⟩)
  rw[hp,iF,iF]
  unfold xQ
  constructor
  ·rintro⟨hk,h⟩
   split at h
   ·rename_i hc
    rw[FJ]at h
    by_cases e:w.to=r.key
    ·rw[if_pos e,<-e,h2,Option.none_or]at h
     simp only[Option.map_some,bc]at h
     exact .inl h.symm
    ·rw[if_neg e,Option.or_none]at h
     exact .inr ⟨⟨hk,by rw[if_pos hc];exact h⟩,λe'=>e e'.symm⟩
   ·cases h
  ·rintro(rfl|⟨⟨hk,h⟩,dj⟩)
   ·refine⟨hw,?_⟩
    show(if tH here fr w.to=true then _ else none)=_
    rw[if_pos h1]
    show(cZ (W++[w]) w.to).map _=_
    rw[FJ,h2,if_pos rfl]
    rfl
   ·refine⟨hk,?_⟩
    have e1:cZ (W++[w]) r.key=cZ W r.key:=by rw[FJ,if_neg (λe:w.to=r.key=>dj e.symm),Option.or_none]
    rw[e1]
    exact h
def ZC(A:List Int)(ae:Int):List Int:=A.filter λa=>!(a==ae)
def FK(s:List ah)(A:List Int)(fr ae:Int):List Way:=within s (ZC A ae) fr++if ae=0 then []else beyond s A true fr
def cu(s:List ah)(A:List Int)(fr ae:Int):List ah:=kg (aD s ae fr) ae fr (FK s A fr ae)
theorem ZD(here:List Way)(ae fr:Int):kg here ae fr []=[]:=by
 unfold kg
 rw[List.filterMap_eq_nil_iff]
 intro k _
 unfold xQ
 have:cZ [] k=none:=rfl
 rw[this]
 split<;>rfl
theorem aqr(W:List Way)(k:Int):(cZ W k).isSome=true↔¬ej W k<0:=by
 unfold cZ
 split<;>simp_all
theorem ZE{here:List Way}{ae fr:Int}{W:List Way}{w:Way}(hw:1<=w.to∧w.to<=6)(h1:tH here fr w.to=true):bL (kg here ae fr W) (pE ae fr w)<0↔cZ W w.to=none:=by
 unfold bL
 rw[BW]
 constructor
 ·intro h
  cases e:cZ W w.to with
  |none=>rfl
  |some v=>
   have hv:=(wq e).2
   have hm:pE ae fr v∈kg here ae fr W:=iF.2 ⟨by show 1<=v.to∧v.to<=6;omega,by
    show xQ here ae fr W v.to=_
    unfold xQ
    rw[hv,if_pos h1,e];rfl⟩
   have:=h _ hm
   simp[dX,pE,hv]at this
 ·intro h x hx
  have h2:=iF.1 hx
  obtain⟨h3,_,_,_,_,_,_,_,v,h4,h5⟩:=OD h2.2
  cases hs:dX x (pE ae fr w)with
  |false=>rfl
  |true=>
   have:x.key=w.to:=by simp only[dX,bA,decide_eq_true_eq]at hs;exact hs.2.2.2
   rw[this,h]at h4;cases h4
theorem aqs(s:List ah)(A:List Int)(fr ae:Int)(h:s.length<=1048576)(hn:bI s)(ha:A.length<=1048576):W8 [.l (s.map aC),.l (A.map aG),ii fr,ii ae]=some [.l ((cu s A fr ae).map aC)]:=by
 rw[aoR];simp(disch:=omega) only[↓pQ,pS,↓reduceIte,ak,ap,aq,au,av,aw,ax,ay,az,uf,ug,uh,LY]
 refine(kC A (λj c=>[.l (c.map aG),ii j]) (λc a=>if(!(a==ae))=true then c++[a]else c) (λc=>if c.length<=1048576 then some [T.l ((kg (aD s ae fr) ae fr (within s c fr++if ae=0 then []else beyond s A true fr)).map aC)]else none) [] (λj c=>c.length<=j) rfl (ek ha) (by simp) ?_ ?_).trans ?_
 ·intro j c hj hc
  refine⟨by split;(· simp;omega);(· omega),λq=>?_⟩
  by_cases k:gt A j=ae
  ·have:(!(gt A j==ae))=false:=by simpa using k
   rw[this]
   simp(disch:=omega) only[↓pQ,pS,↓reduceIte,ak,ap,aq,au,av,aw,ax,ay,az,uf,ug,uh,hj,k,dI]
  ·have:(!(gt A j==ae))=true:=by simpa using k
   rw[this]
   simp(disch:=omega) only[↓pQ,pS,↓reduceIte,ak,ap,aq,au,av,aw,ax,ay,az,uf,ug,uh,hj,k]
 ·intro c q hc
  rw[if_pos (by omega)]
  have hH:=ME s ae fr h hn
  have Za:=FH (s:=s) (A:=c) (fr:=fr)
  have hBl:=Zu (s:=s) (A:=A) (z:=true) (fr:=fr)
  have hT:=λk:Int=>Ml (aD s ae fr) k (by have:=MU (s:=s) (a:=ae) (fr:=fr);omega) MT
  simp(disch:=omega) only[↓pQ,pS,↓reduceIte,ak,ap,aq,au,av,aw,ax,ay,az,uf,ug,uh,hH,Zh s c fr h hn (by omega)]
  refine(kC (within s c fr) (λj P=>[ii j,.l ((kg (aD s ae fr) ae fr P).map aC),.l ((within s c fr).map aV)]) (λP w=>P++[w]) (λP=>some [T.l ((kg (aD s ae fr) ae fr (P++if ae=0 then []else beyond s A true fr)).map aC)]) [] (λ_ _=>True) (by rw[ZD];rfl) (ek (by omega)) trivial ?_ ?_).trans (by rw[MP,List.nil_append])
  ·intro j P hj _
   refine⟨trivial,λq=>?_⟩
   have hm:=(Zt (j_ (l:=within s c fr) (n:=(j:Int)) (by omega) hj)).1
   generalize hw:gt (within s c fr) (j:Int)=w at hm
   have hTl:=MZ (aD s ae fr) ae fr P
   have hk:=Mh (kg (aD s ae fr) ae fr P) ae 2 fr w.to (ii 0) (.l []) (ii w.cost) (bb false) (by omega)
   rw[show eF (λx=>dX x ⟨ae,2,fr,w.to,0,[],0,false⟩) (kg (aD s ae fr) ae fr P)=bL (kg (aD s ae fr) ae fr P) (pE ae fr w) from rfl]at hk
   have hp:=Fi (kg (aD s ae fr) ae fr P) ae 2 fr w.to 0 [] w.cost false (by omega) (ZA _ _ _ _) (M1 _ _ _ _) (by simp)
   rw[show(⟨ae,2,fr,w.to,0,[],w.cost,false⟩:ah)=pE ae fr w from rfl]at hp
   rw[List.map_nil]at hp
   have hT:=hT w.to
   by_cases k1:ej (aD s ae fr) w.to<0
   ·rw[if_pos k1]at hT
    by_cases k2:w.to=fr
    ·rw[OE (.inl (by unfold tH;simp[k2]))]
     rw[k2]at hT
     simp(disch:=omega) only[↓pQ,pS,↓reduceIte,ak,ap,aq,au,av,aw,ax,ay,az,uf,ug,uh,hj,hw,hT,k2,dI]
    ·have ht:tH (aD s ae fr) fr w.to=true:=by unfold tH;simp[k1,k2]
     have jf:=ZE (ae:=ae) (W:=P) hm ht
     cases ho:cZ P w.to with
     |none=>
      rw[ZB hm ht ho]
      have jf:=jf.2 ho
      simp(disch:=omega) only[↓pQ,pS,↓reduceIte,ak,ap,aq,au,av,aw,ax,ay,az,uf,ug,uh,hj,hw,hT,k2,dI,hk,jf,hp]
     |some v=>
      rw[OE (.inr (by rw[ho];rfl))]
      have jf:¬bL (kg (aD s ae fr) ae fr P) (pE ae fr w)<0:=λh=>by rw[jf.1 h]at ho;cases ho
      simp(disch:=omega) only[↓pQ,pS,↓reduceIte,ak,ap,aq,au,av,aw,ax,ay,az,uf,ug,uh,hj,hw,hT,k2,dI,hk,jf]
   ·rw[if_neg k1]at hT
    simp only[aV,List.cons_append,List.nil_append]at hT
    rw[OE (.inl (by unfold tH;simp[k1]))]
    simp(disch:=omega) only[↓pQ,pS,↓reduceIte,ak,ap,aq,au,av,aw,ax,ay,az,uf,ug,uh,hj,hw,hT]
  ·intro P q _
   by_cases k0:ae=0
   ·rw[if_pos k0,List.append_nil]
    simp(disch:=omega) only[↓pQ,pS,↓reduceIte,ak,ap,aq,au,av,aw,ax,ay,az,uf,ug,uh,k0]
   ·rw[if_neg k0]
    simp(disch:=omega) only[↓pQ,pS,↓reduceIte,ak,ap,aq,au,av,aw,ax,ay,az,uf,ug,uh,k0,ap9 s A true fr h hn ha]
    refine(kC (beyond s A true fr) (λj P=>[ii j,.l ((kg (aD s ae fr) ae fr P).map aC),.l ((beyond s A true fr).map aV)]) (λP w=>P++[w]) (λP=>some [T.l ((kg (aD s ae fr) ae fr P).map aC)]) P (λ_ _=>True) rfl (ek (by omega)) trivial ?_ ?_).trans (by rw[MP])
    ·intro j P hj _
     refine⟨trivial,λq=>?_⟩
     have hm:=(MX (j_ (l:=beyond s A true fr) (n:=(j:Int)) (by omega) hj)).1
     generalize hw:gt (beyond s A true fr) (j:Int)=w at hm
     have hTl:=MZ (aD s ae fr) ae fr P
     have hk:=Mh (kg (aD s ae fr) ae fr P) ae 2 fr w.to (ii 0) (.l []) (ii w.cost) (bb false) (by omega)
     rw[show eF (λx=>dX x ⟨ae,2,fr,w.to,0,[],0,false⟩) (kg (aD s ae fr) ae fr P)=bL (kg (aD s ae fr) ae fr P) (pE ae fr w) from rfl]at hk
     have hp:=Fi (kg (aD s ae fr) ae fr P) ae 2 fr w.to 0 [] w.cost false (by omega) (ZA _ _ _ _) (M1 _ _ _ _) (by simp)
     rw[show(⟨ae,2,fr,w.to,0,[],w.cost,false⟩:ah)=pE ae fr w from rfl]at hp
     rw[List.map_nil]at hp
     have hT:=hT w.to
     by_cases k1:ej (aD s ae fr) w.to<0
     ·rw[if_pos k1]at hT
      by_cases k2:w.to=fr
      ·rw[OE (.inl (by unfold tH;simp[k2]))]
       rw[k2]at hT
       simp(disch:=omega) only[↓pQ,pS,↓reduceIte,ak,ap,aq,au,av,aw,ax,ay,az,uf,ug,uh,hj,hw,hT,k2,dI]
      ·have ht:tH (aD s ae fr) fr w.to=true:=by unfold tH;simp[k1,k2]
       have jf:=ZE (ae:=ae) (W:=P) hm ht
       cases ho:cZ P w.to with
       |none=>
        rw[ZB hm ht ho]
        have jf:=jf.2 ho
        simp(disch:=omega) only[↓pQ,pS,↓reduceIte,ak,ap,aq,au,av,aw,ax,ay,az,uf,ug,uh,hj,hw,hT,k2,dI,hk,jf,hp]
       |some v=>
        rw[OE (.inr (by rw[ho];rfl))]
        have jf:¬bL (kg (aD s ae fr) ae fr P) (pE ae fr w)<0:=λh=>by rw[jf.1 h]at ho;cases ho
        simp(disch:=omega) only[↓pQ,pS,↓reduceIte,ak,ap,aq,au,av,aw,ax,ay,az,uf,ug,uh,hj,hw,hT,k2,dI,hk,jf]
     ·rw[if_neg k1]at hT
      simp only[aV,List.cons_append,List.nil_append]at hT
      rw[OE (.inl (by unfold tH;simp[k1]))]
      simp(disch:=omega) only[↓pQ,pS,↓reduceIte,ak,ap,aq,au,av,aw,ax,ay,az,uf,ug,uh,hj,hw,hT]
    ·intro P q _
     simp(disch:=omega) only[↓pQ,pS,↓reduceIte,ak,ap,aq,au,av,aw,ax,ay,az,uf,ug,uh,]
 ·rw[TB,List.nil_append,if_pos (by have:=List.length_filter_le (λa=>!(a==ae)) A;omega)]
  rfl
theorem aqt{s:List ah}(hs:eJ s=false)(A:List Int)(fr ae:Int):cu s A fr ae=[]:=by
 have hw:∀a,aD s a fr=[]:=λa=>by unfold aD;rw[if_neg (by rw[hs];simp)]
 have h1:∀A,pD s A fr=[]:=λA=>by unfold pD;rw[List.flatMap_eq_nil_iff];intro a _;exact hw a
 have h2:∀A,within s A fr=[]:=λA=>by unfold within;rw[h1];rfl
 have h3:beyond s A true fr=[]:=by
  unfold beyond
  have:Cd s A true fr=[]:=by
   unfold Cd
   rw[List.filterMap_eq_nil_iff]
   intro x hx
   cases e:gS s A true fr x with
   |none=>rfl
   |some w=>
    obtain⟨_,y,hy,_⟩:=OC e
    have:=(FG hy).2.2.2.2
    rw[hs]at this;cases this
  rw[this];rfl
 unfold cu FK
 rw[h2,h3]
 have:(if ae=0 then([]:List Way)else [])=[]:=by split<;>rfl
 rw[this]
 exact ZD _ _ _
theorem M2{W:List Way}(hl:W.length<=1048576)(hW:∀w∈W,w.aH.length<=1048576)(k:Int):ym [.l (W.map aV),ii k]=some (match cZ W k with|none=>[ii 0,ii 0,.l [],bb false]|some w=>aV w++[bb true]):=by
 rw[Fm W k hl hW]
 unfold cZ
 split<;>rfl
theorem aqu(s:List ah)(A:List Int)(fr ae:Int)(h:s.length<=1048576)(hn:bI s)(ha:A.length<=1048576):Vd [.l (s.map aC),.l (A.map aG),ii fr,ii ae]=some [.l ((cu s A fr ae).map aC)]:=by
 rw[anr];simp(disch:=omega) only[↓pQ,pS,↓reduceIte,ak,ap,aq,au,av,aw,ax,ay,az,v_,wb,Li,Fb _ h hn]
 cases hs:eJ s with
 |false=>rw[aqt hs];simp(disch:=omega) only[↓pQ,pS,↓reduceIte,ak,ap,aq,au,av,aw,ax,ay,az,v_,wb,dI];rfl
 |true=>
 simp(disch:=omega) only[↓pQ,pS,↓reduceIte,ak,ap,aq,au,av,aw,ax,ay,az,v_,wb,]
 refine(kC A (λj c=>[.l (c.map aG),ii j]) (λc a=>if(!(a==ae))=true then c++[a]else c) (λc=>if c.length<=1048576 then some [T.l ((kg (aD s ae fr) ae fr (within s c fr++if ae=0 then []else beyond s A true fr)).map aC)]else none) [] (λj c=>c.length<=j) rfl (ek ha) (by simp) ?_ ?_).trans ?_
 ·intro j c hj hc
  refine⟨by split;(· simp;omega);(· omega),λq=>?_⟩
  by_cases k:gt A j=ae
  ·have:(!(gt A j==ae))=false:=by simpa using k
   rw[this]
   simp(disch:=omega) only[↓pQ,pS,↓reduceIte,ak,ap,aq,au,av,aw,ax,ay,az,v_,wb,hj,k,dI]
  ·have:(!(gt A j==ae))=true:=by simpa using k
   rw[this]
   simp(disch:=omega) only[↓pQ,pS,↓reduceIte,ak,ap,aq,au,av,aw,ax,ay,az,v_,wb,hj,k]
 ·intro c q hc
  rw[if_pos (by omega)]
  have Za:=FH (s:=s) (A:=c) (fr:=fr)
  have hBl:=Zu (s:=s) (A:=A) (z:=true) (fr:=fr)
  have hT:=λk:Int=>M2 (W:=aD s ae fr) (by have:=MU (s:=s) (a:=ae) (fr:=fr);omega) MT k
  have hU:=λk:Int=>M2 (W:=within s c fr) (by omega) MS k
  have hV:=λk:Int=>M2 (W:=beyond s A true fr) (by omega) (λw hw=>by have:=rE (MX hw).2.1;omega) k
  simp(disch:=omega) only[↓pQ,pS,↓reduceIte,ak,ap,aq,au,av,aw,ax,ay,az,v_,wb,MK s ae fr h hn,Zl s c fr h hn (by omega),aqe s A true fr h hn ha]
  refine(rq 6 (λi D=>[.l (D.map aC),ii (i+1)]) (λD i=>D++(xQ (aD s ae fr) ae fr (within s c fr++if ae=0 then []else beyond s A true fr) ((i:Int)+1)).toList) (λD=>some [T.l (D.map aC)]) [] (λi D=>D.length<=i) rfl (ek (by omega)) (by simp) ?_ ?_).trans ?_
  ·intro i D hi hD
   have dM:(i:Int)+1<=6:=by omega
   have hT:=hT ((i:Int)+1)
   have hU:=hU ((i:Int)+1)
   have hV:=hV ((i:Int)+1)
   refine⟨by cases xQ (aD s ae fr) ae fr (within s c fr++if ae=0 then []else beyond s A true fr) ((i:Int)+1)<;>simp<;>omega,λq=>?_⟩
   have oD:∀c:Int,Prim.ev (.lit 8 [true,true,true,true,true,false,true,true]) [ii ae,ii 2,ii fr,ii ((i:Int)+1),ii 0,.l [],ii c,bb false]=some (.l ([(⟨ae,2,fr,(i:Int)+1,0,[],c,false⟩:ah)].map aC)):=λc=>JA ae 2 fr ((i:Int)+1) 0 [] c false
   unfold xQ tH
   have hz:(cZ (aD s ae fr) ((i:Int)+1)).isSome=true↔¬ej (aD s ae fr) ((i:Int)+1)<0:=aqr _ _
   cases hh:cZ (aD s ae fr) ((i:Int)+1)with
   |some w=>
    rw[hh]at hT hz
    have k1:¬ej (aD s ae fr) ((i:Int)+1)<0:=hz.1 rfl
    simp only[aV,List.cons_append,List.nil_append]at hT
    rw[if_neg (by simp[k1])]
    simp(disch:=omega) only[↓pQ,pS,↓reduceIte,ak,ap,aq,au,av,aw,ax,ay,az,v_,wb,dM,hT,Option.toList_none,List.append_nil]
   |none=>
    rw[hh]at hT hz
    have k1:ej (aD s ae fr) ((i:Int)+1)<0:=by
     rcases Int.lt_or_le (ej (aD s ae fr) ((i:Int)+1)) 0 with h|h
     ·exact h
     ·have:=hz.2 (by omega);cases this
    simp only[]at hT
    by_cases k2:(i:Int)+1=fr
    ·rw[if_neg (by simp[k2])]
     subst k2
     simp(disch:=omega) only[↓pQ,pS,↓reduceIte,ak,ap,aq,au,av,aw,ax,ay,az,v_,wb,dM,hT,eq_self,Option.toList_none,List.append_nil,dI]
    rw[if_pos (by simp[k1,k2]),Zr]
    cases hu:cZ (within s c fr) ((i:Int)+1)with
    |some w=>
     rw[hu]at hU
     have SD:=(wq hu).2
     simp only[aV,List.cons_append,List.nil_append]at hU
     rw[Option.some_or]
     simp only[Option.map_some,Option.toList_some,pE,SD]
     simp(disch:=omega) only[↓pQ,pS,↓reduceIte,ak,ap,aq,au,av,aw,ax,ay,az,v_,wb,dM,hT,hU,k2,dI,oD]
    |none=>
     rw[hu]at hU
     simp only[]at hU
     rw[Option.none_or]
     by_cases k3:ae=0
     ·rw[if_pos k3]
      subst k3
      rw[show cZ [] ((i:Int)+1)=none from rfl]
      simp(disch:=omega) only[↓pQ,pS,↓reduceIte,ak,ap,aq,au,av,aw,ax,ay,az,v_,wb,dM,hT,hU,k2,eq_self,dI,Option.map_none,Option.toList_none,List.append_nil]
     ·rw[if_neg k3]
      cases hv:cZ (beyond s A true fr) ((i:Int)+1)with
      |none=>
       rw[hv]at hV
       simp only[]at hV
       simp(disch:=omega) only[↓pQ,pS,↓reduceIte,ak,ap,aq,au,av,aw,ax,ay,az,v_,wb,dM,hT,hU,hV,k2,k3,dI,Option.map_none,Option.toList_none,List.append_nil]
      |some w=>
       rw[hv]at hV
       have SD:=(wq hv).2
       simp only[aV,List.cons_append,List.nil_append]at hV
       simp only[Option.map_some,Option.toList_some,pE,SD]
       simp(disch:=omega) only[↓pQ,pS,↓reduceIte,ak,ap,aq,au,av,aw,ax,ay,az,v_,wb,dM,hT,hU,hV,k2,k3,dI,oD]
  ·intro D q hD
   simp(disch:=omega) only[↓pQ,pS,↓reduceIte,ak,ap,aq,au,av,aw,ax,ay,az,v_,wb,]
  ·rw[Zg (λi:Nat=>(xQ (aD s ae fr) ae fr (within s c fr++if ae=0 then []else beyond s A true fr) ((i:Int)+1)).toList),List.nil_append,FF]
   unfold kg
   rw[Bc,List.filterMap_map]
   rfl
 ·rw[TB,List.nil_append,if_pos (by have:=List.length_filter_le (λa=>!(a==ae)) A;omega)]
  rfl
theorem aqv{α:Type} [Inhabited α]{ok:α->Bool}{lt:α->α->Bool}(tr:∀a b c,lt a b=true->lt b c=true->lt a c=true){l:List α}(h:eI ok lt l=true):l.Pairwise λa b=>lt a b=true:=by
 have h:=cq.1 h
 rw[List.pairwise_iff_getElem]
 have step:∀i,(hi:i+1<l.length)->lt l[i] l[i+1]=true:=by
  intro i hi
  have:=h (i+1) hi
  simp only[bA,Bool.or_eq_true,Bool.not_eq_true',decide_eq_false_iff_not]at this
  have h2:=this.2.resolve_left (by omega)
  rwa[show(((i+1:Nat):Int)-1)=(i:Int) by omega,eS (by omega),eS hi]at h2
 intro i j hi hj vn
 obtain⟨d,rfl⟩:∃d,j=i+1+d:=⟨j-i-1,by omega⟩
 clear vn
 induction d with
 |zero=>exact step i (by omega)
 |succ d ih=>exact tr _ _ _ (ih (by omega)) (step (i+1+d) (by omega))
theorem Bi{α:Type} [Inhabited α]{ok:α->Bool}{lt:α->α->Bool}{l:List α}(h1:∀x∈l,ok x=true)(h2:l.Pairwise λa b=>lt a b=true):eI ok lt l=true:=by
 unfold eI
 rw[cq]
 intro i hi
 rw[eS hi]
 simp only[bA,Bool.or_eq_true,Bool.not_eq_true',decide_eq_false_iff_not]
 refine⟨h1 _ (List.getElem_mem hi),?_⟩
 rcases Nat.eq_zero_or_pos i with h0|h0
 ·exact .inl (by omega)
 ·right
  rw[show((i:Int)-1)=((i-1:Nat):Int) by omega,eS (by omega)]
  exact List.pairwise_iff_getElem.1 h2 (i-1) i (by omega) hi (by omega)
theorem nS{a b ar:Int}{l:br}:iu a b ar l=true↔l.ae=ar∧(l.a=a∧l.b=b∨l.a=b∧l.b=a):=by
 unfold iu
 simp only[bA,Bool.or_eq_true,beq_iff_eq]
theorem M3{α:Type} [Inhabited α]{p:α->Bool}{l:List α}{x:α}(hx:x∈l)(h:p x=true):0<=eF p l:=by
 rcases Int.lt_or_le (eF p l) 0 with h1|h1
 ·have:=(BW _ _).1 h1 x hx
  rw[h]at this;cases this
 ·exact h1
def ZF(ls:List br)(L:List Bool)(a b ar:Int):Int:=
 if eF (iu a b ar) ls<0 then 0 else if gt L (eF (iu a b ar) ls)=true then(gt ls (eF (iu a b ar) ls)).cost else 0
def aqw(ls:List br)(L U:List Bool)(node a:Int):List cn:=(vo.filter λv=>decide (ZF ls L node v a>0)&&gt U (v-1)).map λv=>⟨v,ZF ls L node v a⟩
theorem aqx{o:Int}{l:List cn}(h1:∀x∈l,(1<=x.to∧x.to<=6)∧x.to≠o∧1<=x.cost∧x.cost<=1000)(h2:l.Pairwise λa b=>a.to<b.to):vm o l=true:=by
 unfold vm
 rw[cq]
 intro i hi
 have h3:=h1 _ (List.getElem_mem hi)
 rw[eS hi]
 simp only[bA,Bool.or_eq_true,Bool.not_eq_true',decide_eq_false_iff_not,bC,decide_eq_true_eq]
 refine⟨⟨⟨h3.1,h3.2.1⟩,h3.2.2⟩,?_⟩
 rcases Nat.eq_zero_or_pos i with h0|h0
 ·exact .inl (by omega)
 ·right
  rw[show((i:Int)-1)=((i-1:Nat):Int) by omega,eS (by omega)]
  exact List.pairwise_iff_getElem.1 h2 (i-1) i (by omega) hi (by omega)
def qG(r:ah):Bool:=r.kind==3
def oN(k:Nat)(s:List ah):Prop:=iT s∧(∀r∈s,fN r=true)∧(s.filter qG).length<=k
theorem aqy{o:Int}{l:List cn}(h:vm o l=true):l.length<=6:=by
 rw[<-List.length_map (f:=cn.to)]
 refine MW (n:=6) ?_ ?_
 ·rw[List.pairwise_map]
  exact Y5 h
 ·intro x hx
  obtain⟨y,hy,rfl⟩:=List.mem_map.1 hx
  exact(Ou h hy).1
theorem M4{r:ah}(h:fN r=true):r.bd.length<=6:=by
 unfold fN at h
 simp only[bA]at h
 have h:=h.2
 split at h
 ·simp only[bA]at h
  exact aqy h.1.1.2
 ·split at h
  ·simp only[bA,decide_eq_true_eq]at h
   omega
  ·split at h
   ·simp only[bA,decide_eq_true_eq]at h
    omega
   ·cases h
theorem FL{r:ah}(h:fN r=true):(1<=r.owner∧r.owner<=6)∧(r.kind=1∧r.key=0∧0<=r.ae∧r.ae<=2∨r.kind=2∧(1<=r.key∧r.key<=6)∧0<=r.ae∧r.ae<=2∨r.kind=3):=by
 unfold fN at h
 simp only[bA,bC]at h
 refine⟨h.1.1,?_⟩
 have h:=h.2
 split at h
 ·simp only[bA,bC,decide_eq_true_eq]at h
  omega
 ·split at h
  ·simp only[bA,bC,decide_eq_true_eq]at h
   omega
  ·split at h
   ·omega
   ·cases h
theorem oN.bd{k:Nat}{s:List ah}(h:oN k s):bI s:=λr hr=>by
 have:=M4 (h.2.1 r hr);omega
theorem aqz(s:List ah)(h:∀r∈s,r.kind=1∨r.kind=2∨r.kind=3):s.length=(s.filter λr=>r.kind==1).length+(s.filter λr=>r.kind==2).length+(s.filter qG).length:=by
 induction s with
 |nil=>rfl
 |cons x s ih=>
  have ih:=ih λr hr=>h r (.tail _ hr)
  have hx:=h x (.head _)
  simp only[List.filter_cons,List.length_cons,qG]
  rw[ih]
  rcases hx with hx|hx|hx<;>simp[hx,qG]<;>omega
theorem oN.len{k:Nat}{s:List ah}(h:oN k s):s.length<=126+k:=by
 obtain⟨h1,h2,h3⟩:=h
 have hk:=λr hr=>FL (h2 r hr)
 rw[aqz s λr hr=>by have:=hk r hr;omega]
 have a1:(s.filter λr=>r.kind==1).length<=18:=by
  rw[<-List.length_map (f:=λr:ah=>r.ae*6+r.owner)]
  refine MW (n:=18) ?_ ?_
  ·rw[List.pairwise_map]
   refine(h1.filter _).imp_of_mem λ{a b} ha hb lT=>?_
   obtain⟨ha1,ha2⟩:=List.mem_filter.1 ha
   obtain⟨lI,nh⟩:=List.mem_filter.1 hb
   simp only[beq_iff_eq]at ha2 nh
   have:=hk a ha1
   have:=hk b lI
   rw[oL]at lT
   omega
  ·intro x hx
   obtain⟨r,hr,rfl⟩:=List.mem_map.1 hx
   obtain⟨nY,pY⟩:=List.mem_filter.1 hr
   simp only[beq_iff_eq]at pY
   have:=hk r nY
   omega
 have a2:(s.filter λr=>r.kind==2).length<=108:=by
  rw[<-List.length_map (f:=λr:ah=>(r.ae*6+r.owner-1)*6+r.key)]
  refine MW (n:=108) ?_ ?_
  ·rw[List.pairwise_map]
   refine(h1.filter _).imp_of_mem λ{a b} ha hb lT=>?_
   obtain⟨ha1,ha2⟩:=List.mem_filter.1 ha
   obtain⟨lI,nh⟩:=List.mem_filter.1 hb
   simp only[beq_iff_eq]at ha2 nh
   have:=hk a ha1
   have:=hk b lI
   rw[oL]at lT
   omega
  ·intro x hx
   obtain⟨r,hr,rfl⟩:=List.mem_map.1 hx
   obtain⟨nY,pY⟩:=List.mem_filter.1 hr
   simp only[beq_iff_eq]at pY
   have:=hk r nY
   omega
 omega
theorem oN.ok{k:Nat}{s:List ah}(h:oN k s)(hk:k<=24):eJ s=true:=by
 have:=h.len
 unfold eJ
 rw[bA,decide_eq_true_eq]
 exact⟨by omega,Bi h.2.1 h.1⟩
theorem ZG(s:List ah)(r:ah)(p:ah->Bool):((dg s r).filter p).length<=(s.filter p).length+(if p r=true then 1 else 0):=by
 have h1:((s.filter λx=>eT x r).filter p).length+((s.filter λx=>eT r x).filter p).length<=(s.filter p).length:=by
  induction s with
  |nil=>simp
  |cons x s ih=>
   simp only[List.filter_cons]
   cases h:eT x r with
   |true=>
    rw[A5 h]
    cases hp:p x<;>simp[hp]<;>simp at ih<;>omega
   |false=>cases h':eT r x<;>cases hp:p x<;>simp[hp]<;>simp at ih<;>omega
 have h2:([r].filter p).length=if p r=true then 1 else 0:=by
  rw[List.filter_cons]
  split<;>rfl
 unfold dg
 rw[List.filter_append,List.filter_append,List.length_append,List.length_append,h2]
 omega
theorem oN.put{k:Nat}{s:List ah}(h:oN k s){r:ah}(hr:fN r=true):oN (k+if r.kind=3 then 1 else 0) (dg s r):=by
 refine⟨GY h.1 r,λx hx=>?_,?_⟩
 ·rcases xJ hx with rfl|hx
  ·exact hr
  ·exact h.2.1 x hx
 ·have h1:=ZG s r qG
  have h2:=h.2.2
  have h3:(qG r=true)=(r.kind=3):=by unfold qG;simp
  simp only[h3]at h1
  omega
theorem oN.aqC{k:Nat}{s:List ah}(h:oN k s){r:ah}(hr:fN r=true)(h3:r.kind≠3):oN k (dg s r):=by
 have:=h.put hr
 rwa[if_neg h3]at this
theorem oN.filter{k:Nat}{s:List ah}(h:oN k s)(p:ah->Bool):oN k (s.filter p):=by
 refine⟨h.1.filter _,λx hx=>h.2.1 x (List.mem_filter.1 hx).1,?_⟩
 rw[List.filter_filter]
 refine Nat.le_trans ?_ h.2.2
 rw[<-List.countP_eq_length_filter,<-List.countP_eq_length_filter]
 exact List.countP_mono_left λx _ hx=>(bA _ _▸hx).1
theorem oN.nil:oN 0 []:=⟨.nil,by simp,by simp⟩
theorem oN.mono{k k':Nat}{s:List ah}(h:oN k s)(hk:k<=k'):oN k' s:=⟨h.1,h.2.1,Nat.le_trans h.2.2 hk⟩
theorem aqD{α β σ:Type} [Inhabited α]{F:(σ->Option β)->σ->Option β}{R:Nat}{x:σ}(l:List α)(st:Nat->List α->σ)(p:α->Bool){out:Option β}(hx:x=st 0 [])(hR:l.length<R)
  (step:∀(i:Nat) c,(i:Int)<(l.length:Int)->c.length<=i->∀s,F s (st i c)=s (st (i+1) (if p (gt l i)=true then c++[gt l i]else c)))(fin:∀s,F s (st l.length (l.filter p))=out):
  iter F R x=out:=by
 refine kC l st (λc a=>if p a=true then c++[a]else c) (λ_=>out) [] (λi c=>c=(l.take i).filter p) hx hR rfl ?_ ?_
 ·intro i c hi hc
  have dM:i<l.length:=by omega
  refine⟨?_,λs=>step i c hi (by rw[hc];refine Nat.le_trans (List.length_filter_le _ _) ?_;simp;omega) s⟩
  rw[hc,List.take_add_one,List.filter_append,List.getElem?_eq_getElem dM,eS dM]
  cases hp:p l[i]<;>simp[hp]
 ·intro c s hc
  rw[hc,List.take_length]
  exact fin s
def gJ(r:ah):ah:={r with seq:=1}
def eU(f:ah->ah)(s l:List ah):List ah:=l.foldl (λc r=>dg c (f r)) s
def aqE(v:Int)(r:ah):Bool:=!(r.kind==2&&r.owner==v)
def aqF(s:List ah)(A:List Int)(v:Int):List ah:=eU gJ (s.filter (aqE v)) (A.flatMap λa=>cu s A v a)
theorem ZH(s:List ah)(A:List Int)(fr ae:Int):(cu s A fr ae).length<=6:=MZ _ _ _ _
theorem aqG{W:List Way}{k:Int}{w:Way}(h:cZ W k=some w):w∈W:=by
 rw[Bh]at h
 exact List.mem_of_find?_eq_some h
theorem M5{s:List ah}{A:List Int}{fr ae:Int}{r:ah}(h:r∈cu s A fr ae):r.ae=ae∧r.kind=2∧r.owner=fr∧(1<=r.key∧r.key<=6)∧r.bd=[]∧r.seq=0∧(0<=r.cost∧r.cost<=60000)∧r.fT=false∧r.key≠fr:=by
 unfold cu at h
 obtain⟨h1,h2⟩:=iF.1 h
 obtain⟨_,h3,h4,h5,h6,h7,h8,h9,w,hw,rfl⟩:=OD h2
 refine⟨h3,h4,h5,h1,h6,h7,?_,h8,?_⟩
 ·have hm:=aqG hw
  unfold FK at hm
  rcases List.mem_append.1 hm with hm|hm
  ·have:=(Zt hm).2.2
   show 0<=w.cost∧w.cost<=60000
   omega
  ·split at hm
   ·cases hm
   ·have:=(MX hm).2.2.1
    show 0<=w.cost∧w.cost<=60000
    omega
 ·unfold tH at h9
  simp only[bA,decide_eq_true_eq]at h9
  exact h9.2
theorem aqH{s:List ah}{A:List Int}{fr ae:Int}(hf:1<=fr∧fr<=6)(ha:0<=ae∧ae<=2){r:ah}(h:r∈cu s A fr ae):fN (gJ r)=true∧(gJ r).kind≠3:=by
 obtain⟨h1,h2,h3,h4,h5,h6,h7,h8,_⟩:=M5 h
 refine⟨?_,by show r.kind≠3;omega⟩
 unfold fN
 simp only[gJ,h1,h2,h3,h5,h8,List.length_nil,bA,bC]
 refine⟨⟨hf,by omega⟩,?_⟩
 simp[bC,ha,h4,h7]
theorem oN.mT{k:Nat}{f:ah->ah}{l:List ah}(hl:∀r∈l,fN (f r)=true∧(f r).kind≠3):∀{s:List ah},oN k s->oN k (eU f s l):=by
 unfold eU
 induction l with
 |nil=>intro s h;exact h
 |cons x l ih=>
  intro s h
  rw[List.foldl_cons]
  exact ih (λr hr=>hl r (.tail _ hr)) (h.aqC (hl x (.head _)).1 (hl x (.head _)).2)
theorem ZI{ls:List br}{v a:Int}(h:a∈lj ls v):0<=a∧a<=2:=nQ.1 (List.mem_filter.1 h).1
theorem aqI(f:ah->ah)(A:List Int)(g:Int->List ah):∀s,A.foldl (λc a=>eU f c (g a)) s=eU f s (A.flatMap g):=by
 induction A with
 |nil=>intro s;rfl
 |cons x A ih=>
  intro s
  rw[List.foldl_cons,ih]
  unfold eU
  rw[List.flatMap_cons,List.foldl_append]
def gT(r:ah):ah:=if r.seq=0 then {r with seq:=1}else r
theorem ZJ(s l:List ah)(h:s.length+l.length<=1048570)(hs:bI s)(hn:bI l):JT [.l (s.map aC),.l (l.map aC)]=some [.l ((eU gT s l).map aC)]:=by
 rw[amU];simp(disch:=omega) only[↓pQ,pS,↓reduceIte,ak,ap,aq,au,av,aw,ax,ay,az,X9,K3]
 refine kC l (λi c=>[.l (c.map aC),ii i]) (λc r=>dg c (gT r)) (λc=>some [T.l (c.map aC)]) s (λi c=>c.length<=s.length+i∧bI c) rfl (ek (by omega)) ⟨by simp,hs⟩ ?_ ?_
 ·rintro i c hi ⟨h1,h2⟩
  have na:=hn.gt (n:=i) (by omega) hi
  have hz:(gT (gt l (i:Int))).bd.length<=1048576:=by unfold gT;split<;>exact na
  refine⟨⟨by have:=Fh c (gT (gt l (i:Int)));omega,YQ h2 hz⟩,λq=>?_⟩
  have hp:=λz=>Fj c (gt l (i:Int)).ae (gt l (i:Int)).kind (gt l (i:Int)).owner (gt l (i:Int)).key z (gt l (i:Int)).bd (gt l (i:Int)).cost (gt l (i:Int)).fT (by omega) h2 na
  by_cases k:(gt l (i:Int)).seq=0
  ·have e:gT (gt l (i:Int))={gt l (i:Int)with seq:=1}:=by unfold gT;rw[if_pos k]
   rw[e]
   simp(disch:=omega) only[↓pQ,pS,↓reduceIte,ak,ap,aq,au,av,aw,ax,ay,az,X9,hi,k,hp]
  ·have e:gT (gt l (i:Int))=gt l (i:Int):=by unfold gT;rw[if_neg k]
   rw[e]
   simp(disch:=omega) only[↓pQ,pS,↓reduceIte,ak,ap,aq,au,av,aw,ax,ay,az,X9,hi,k,hp]
 ·rintro c q hc
  simp(disch:=omega) only[↓pQ,pS,↓reduceIte,ak,ap,aq,au,av,aw,ax,ay,az,X9,]
theorem aqJ{f g:ah->ah}{l:List ah}(h:∀r∈l,f r=g r):∀s,eU f s l=eU g s l:=by
 unfold eU
 induction l with
 |nil=>intro s;rfl
 |cons x l ih=>
  intro s
  rw[List.foldl_cons,List.foldl_cons,h x (.head _)]
  exact ih (λr hr=>h r (.tail _ hr)) _
theorem M6(A:List Int)(g:Int->List ah)(hg:∀a,(g a).length<=6):(A.flatMap g).length<=6*A.length:=by
 induction A with
 |nil=>simp
 |cons x A ih=>
  have:=hg x
  rw[List.flatMap_cons,List.length_append,List.length_cons]
  omega
def aqK(ls:List br)(L U:List Bool)(v a:Int):ah:=⟨a,1,v,0,1,aqw ls L U v a,0,false⟩
def aqL(t:bO):ah:=⟨9,3,t.owner,t.key,1,[],t.cost,t.fT⟩
theorem aqM{n:Int}{ts:List bO}(h:eI (wi n) rB ts=true){t:bO}(ht:t∈ts):(1<=t.owner∧t.owner<=n)∧(1<=t.key∧t.key<=9)∧(1<=t.cost∧t.cost<=1000):=by
 obtain⟨i,hi,rfl⟩:=List.mem_iff_getElem.1 ht
 have:=cq.1 h i hi
 rw[eS hi]at this
 simp only[bA,wi,bC]at this
 omega
def aqN(ls:List br)(L U:List Bool)(c:List ah)(i:Nat):List ah:=
 if gt U ((i:Int)+1-1)=true then(lj ls ((i:Int)+1)).foldl (λc a=>dg c (aqK ls L U ((i:Int)+1) a)) c else c
def aqO(U:List Bool)(c:List ah)(t:bO):List ah:=if gt U (t.owner-1)=true then dg c (aqL t)else c
def aqP(ls:List br)(U:List Bool)(c:List ah)(i:Nat):List ah:=
 if gt U ((i:Int)+1-1)=true then(if Cf ls ((i:Int)+1)=true then aqF c (lj ls ((i:Int)+1)) ((i:Int)+1)else c)else c
def aqQ(n:Int)(ls:List br)(U:List Bool)(c:List ah)(_:Nat):List ah:=(List.range n.toNat).foldl (aqP ls U) c
def az8(x:Net)(L U:List Bool):List ah:=(List.range 3).foldl (aqQ x.n x.ai U) (x.aB.foldl (aqO U) ((List.range x.n.toNat).foldl (aqN x.ai L U) []))
theorem ul{x:Net}(h:rC x=true):(1<=x.n∧x.n<=6)∧x.ai.length<=12∧x.aB.length<=4∧eI (nO x.n) ml x.ai=true∧eI (wi x.n) rB x.aB=true:=by
 unfold rC at h
 simp only[bA,decide_eq_true_eq,bC]at h
 exact⟨h.1.1.1.1,h.1.1.1.2,h.1.1.2,h.1.2,h.2⟩
section
variable {n:Int} {ls:List br} {L U:List Bool} (h:eI (nO n) ml ls=true) (hn:n<=6)
include h hn
end
theorem aqR{s s':List ah}{ar:Int}(h:∀u v,dx s ar u v=dx s' ar u v)(fr a:Int):mm s ar fr a=mm s' ar fr a:=by
 funext W i
 unfold mm
 rw[h]
theorem ZK{s s':List ah}{ar:Int}(h:∀u v,dx s ar u v=dx s' ar u v)(fr:Int):∀k W D,sq s ar fr k W D=sq s' ar fr k W D
 |0,_,_=>rfl
 |k+1,W,D=>by
  unfold sq
  have e:oM s ar fr (dP W D) W=oM s' ar fr (dP W D) W:=by unfold oM;rw[aqR h]
  rw[e,ZK h fr k]
theorem aqS{s s':List ah}{ar fr:Int}(h:∀u v,dx s ar u v=dx s' ar u v)(hs:eJ s=eJ s')(hn:0<=iv s ar fr↔0<=iv s' ar fr):aD s ar fr=aD s' ar fr:=by
 unfold aD
 rw[hs,ZK h]
 by_cases h0:0<=iv s ar fr
 ·have:=hn.1 h0
  simp[h0,this]
 ·have:¬0<=iv s' ar fr:=λhc=>h0 (hn.2 hc)
  simp[h0,this]
theorem aqT{s:List ah}(hs:iT s){r:ah}(hr:r∈s){ar v:Int}(h:dX r ⟨ar,1,v,0,0,[],0,false⟩=true):0<=iv s ar v∧gt s (iv s ar v)=r:=by
 have h0:0<=iv s ar v:=M3 hr h
 refine⟨h0,?_⟩
 have h1:=G5 s ar v
 have h2:dX (gt s (iv s ar v)) ⟨ar,1,v,0,0,[],0,false⟩=true:=t_ _ _ h0
 have hm:=j_ (l:=s) (n:=iv s ar v) h0 h1
 generalize gt s (iv s ar v)=x at h2 hm
 rw[sameKey_iff]at h h2
 obtain⟨i,hi,rfl⟩:=List.mem_iff_getElem.1 hr
 obtain⟨j,hj,rfl⟩:=List.mem_iff_getElem.1 hm
 rcases Nat.lt_trichotomy i j with vn|vn|vn
 ·have:=List.pairwise_iff_getElem.1 hs i j hi hj vn
  rw[oL]at this
  simp only at h h2
  omega
 ·subst vn;rfl
 ·have:=List.pairwise_iff_getElem.1 hs j i hj hi vn
  rw[oL]at this
  simp only at h h2
  omega
structure Bj (A:List Int) (s s':List ah):Prop where
 so:iT s
 sub:∀r∈s',r∈s
 so':iT s'
 aU:∀r∈s,r∉s'->r.kind=1∧A.contains r.ae=false
theorem Bj.node{A:List Int}{s s':List ah}(h:Bj A s s'){ar:Int}(ha:A.contains ar=true)(v:Int):(0<=iv s ar v↔0<=iv s' ar v)∧qE s ar v=qE s' ar v:=by
 by_cases h0:0<=iv s' ar v
 ·have hm:=j_ (l:=s') (n:=iv s' ar v) h0 (G5 s' ar v)
  obtain⟨h1,h2⟩:=aqT h.so (h.sub _ hm) (t_ _ _ h0)
  refine⟨⟨λ_=>h0,λ_=>h1⟩,?_⟩
  unfold qE
  rw[if_neg (by omega),if_neg (by omega),h2]
 ·have h1:¬0<=iv s ar v:=by
   intro hc
   have hm:=j_ (l:=s) (n:=iv s ar v) hc (G5 s ar v)
   have hk:dX (gt s (iv s ar v)) ⟨ar,1,v,0,0,[],0,false⟩=true:=t_ _ _ hc
   by_cases jI:gt s (iv s ar v)∈s'
   ·exact h0 (M3 jI hk)
   ·have:=(h.aU _ hm jI).2
    rw[sameKey_iff]at hk
    simp only at hk
    rw[hk.1,ha]at this
    cases this
  refine⟨⟨λhc=>absurd hc h1,λhc=>absurd hc h0⟩,?_⟩
  unfold qE
  rw[if_pos (by omega),if_pos (by omega)]
theorem Bj.aD{A:List Int}{s s':List ah}(h:Bj A s s')(hs:eJ s=eJ s'){ar:Int}(ha:A.contains ar=true)(fr:Int):Go.Proofs.YtjimmglpkndemaaGreatC.aD s ar fr=Go.Proofs.YtjimmglpkndemaaGreatC.aD s' ar fr:=by
 refine aqS (λu v=>?_) hs (h.node ha fr).1
 unfold dx qd
 rw[(h.node ha u).2,(h.node ha v).2]
theorem ZL{α β:Type}{l:List α}{f g:α->List β}(h:∀a∈l,f a=g a):l.flatMap f=l.flatMap g:=by
 induction l with
 |nil=>rfl
 |cons x l ih=>rw[List.flatMap_cons,List.flatMap_cons,h x (.head _),ih λa ha=>h a (.tail _ ha)]
theorem aqV{α β:Type}{l:List α}{f g:α->Option β}(h:∀a∈l,f a=g a):l.filterMap f=l.filterMap g:=by
 induction l with
 |nil=>rfl
 |cons x l ih=>rw[List.filterMap_cons,List.filterMap_cons,h x (.head _),ih λa ha=>h a (.tail _ ha)]
theorem Bj.within{A:List Int}{s s':List ah}(h:Bj A s s')(hs:eJ s=eJ s'){B:List Int}(hB:∀a∈B,A.contains a=true)(fr:Int):Go.Proofs.YtjimmglpkndemaaGreatC.within s B fr=Go.Proofs.YtjimmglpkndemaaGreatC.within s' B fr:=by
 unfold Go.Proofs.YtjimmglpkndemaaGreatC.within pD
 rw[ZL λa ha=>h.aD hs (hB a ha) fr]
theorem aqW{s s':List ah}(h:iT s)(h':iT s')(jd:∀r∈s',r∈s):s'=s.filter λr=>@decide (r∈s') (Classical.propDecidable _):=by
 have key:∀{a b:List ah},iT a->iT b->(∀x,x∈a↔x∈b)->a=b:=by
  intro a
  induction a with
  |nil=>
   intro b _ _ hm
   cases b with
   |nil=>rfl
   |cons y b=>exact absurd ((hm y).2 (.head _)) (by simp)
  |cons x a ih=>
   intro b ha hb hm
   cases b with
   |nil=>exact absurd ((hm x).1 (.head _)) (by simp)
   |cons y b=>
    have pa:=List.pairwise_cons.1 ha
    have pb:=List.pairwise_cons.1 hb
    have e:x=y:=by
     rcases List.mem_cons.1 ((hm x).1 (.head _))with e|hx
     ·exact e
     ·rcases List.mem_cons.1 ((hm y).2 (.head _))with e|hy
      ·exact e.symm
      ·have h1:=pb.1 x hx
       have h2:=pa.1 y hy
       rw[A5 h1]at h2;cases h2
    subst e
    congr 1
    refine ih pa.2 pb.2 λz=>⟨λhz=>?_,λhz=>?_⟩
    ·rcases List.mem_cons.1 ((hm z).1 (.tail _ hz))with e|P1
     ·have:=pa.1 z hz
      rw[e,Ff]at this;cases this
     ·exact P1
    ·rcases List.mem_cons.1 ((hm z).2 (.tail _ hz))with e|P1
     ·have:=pb.1 z hz
      rw[e,Ff]at this;cases this
     ·exact P1
 refine key h' (h.filter _) λr=>?_
 rw[List.mem_filter,@decide_eq_true_eq _ (Classical.propDecidable _)]
 exact⟨λhr=>⟨jd r hr,hr⟩,λhr=>hr.2⟩
theorem Bj.beyond{A:List Int}{s s':List ah}(h:Bj A s s')(hs:eJ s=eJ s')(z:Bool)(fr:Int):Go.Proofs.YtjimmglpkndemaaGreatC.beyond s A z fr=Go.Proofs.YtjimmglpkndemaaGreatC.beyond s' A z fr:=by
 have hw:=h.within hs (B:=A) (λa ha=>List.contains_iff_mem.2 ha) fr
 have e1:∀x,gS s A z fr x=gS s' A z fr x:=by
  intro x
  unfold gS
  rw[hw]
  by_cases hc:x.kind=2∧x.cost<60000∧x.owner≠fr∧A.contains x.ae=true∧(z=true->x.ae=0)∧ej (Go.Proofs.YtjimmglpkndemaaGreatC.within s' A fr) x.key<0
  ·rw[if_pos hc,if_pos hc,h.aD hs hc.2.2.2.1]
  ·rw[if_neg hc,if_neg hc]
 unfold Go.Proofs.YtjimmglpkndemaaGreatC.beyond Cd
 rw[show gS s A z fr=gS s' A z fr from funext e1]
 congr 1
 rw[aqW h.so h.so' h.sub,List.filterMap_filter]
 refine aqV λx hx=>?_
 by_cases jI:x∈s'
 ·rw[if_pos (by rw[@decide_eq_true_eq _ (Classical.propDecidable _)];exact jI)]
 ·rw[if_neg (by rw[@decide_eq_true_eq _ (Classical.propDecidable _)];exact jI)]
  unfold gS
  rw[if_neg λhc=>by have:=(h.aU x hx jI).1;omega]
theorem Bj.cu{A:List Int}{s s':List ah}(h:Bj A s s')(hs:eJ s=eJ s'){ae:Int}(ha:A.contains ae=true)(fr:Int):Go.Proofs.YtjimmglpkndemaaGreatC.cu s A fr ae=Go.Proofs.YtjimmglpkndemaaGreatC.cu s' A fr ae:=by
 unfold Go.Proofs.YtjimmglpkndemaaGreatC.cu FK
 rw[h.aD hs ha,h.beyond hs,h.within (B:=ZC A ae) hs λa ha=>List.contains_iff_mem.2 (List.mem_filter.1 ha).1]
theorem qg{x:Self}(h:l8 x=true):rC x.net=true∧(1<=x.id∧x.id<=x.net.n)∧(0<=x.aQ∧x.aQ<=90)∧x.heard.length%2=0∧xI (λv a=>decide (0<=eF (iu x.id v a) x.net.ai)) x.heard=true∧eJ x.store=true:=by
 unfold l8 at h
 simp only[bA,bC,decide_eq_true_eq]at h
 exact⟨h.1,h.2.1,h.2.2.1,h.2.2.2.1.1,h.2.2.2.1.2,h.2.2.2.2⟩
def xR(ls:List br)(id:Int)(hd:List Int)(a:Int):List cn:=
 ((List.range (hd.length/2)).filter λk:Nat=>decide (gt hd (2*(k:Int)+1)=a)).map λk:Nat=>⟨gt hd (2*(k:Int)),mR ls id (gt hd (2*(k:Int))) a⟩
def um(ls:List br)(id:Int)(hd:List Int)(a:Int):ah:=⟨a,1,id,0,0,xR ls id hd a,0,false⟩
def eV(x:Self):List ah:=(lj x.net.ai x.id).map (um x.net.ai x.id x.heard)
def M7(id:Int)(r:ah):Bool:=!(r.kind==1&&r.owner==id)
def pF(s:List ah)(id:Int)(l:List ah):List ah:=eU gJ (s.filter (M7 id)) l
def pG(id:Int)(t:bO):ah:=⟨9,3,id,t.key,0,[],t.cost,t.fT⟩
def FM(x:Self):List ah:=(x.net.aB.filter λt=>t.owner==x.id).map (pG x.id)
def nT(x:Self)(S:List ah):List ah:=if Cf x.net.ai x.id=true then(lj x.net.ai x.id).flatMap λa=>cu S (lj x.net.ai x.id) x.id a else []
def same(r:ah):ah:=r
def lA(x:Self)(S:List ah):List ah:=eU same [] (eV x++nT x S++FM x)
theorem ZM(f:ah->ah)(s a b:List ah):eU f s (a++b)=eU f (eU f s a) b:=by
 unfold eU;rw[List.foldl_append]
theorem FN(x:Self):(eV x).length<=3:=by unfold eV;rw[List.length_map];exact MY _ _
theorem aqX(x:Self)(S:List ah):(nT x S).length<=18:=by
 unfold nT
 split
 ·have:=M6 (lj x.net.ai x.id) (λa=>cu S (lj x.net.ai x.id) x.id a) λa=>ZH _ _ _ _
  have:=MY x.net.ai x.id
  omega
 ·simp
theorem ZN(x:Self):(FM x).length<=x.net.aB.length:=by unfold FM;rw[List.length_map];exact List.length_filter_le _ _
theorem aqY(ls:List br)(id:Int)(hd:List Int)(a:Int):(xR ls id hd a).length<=hd.length:=by
 unfold xR
 rw[List.length_map]
 refine Nat.le_trans (List.length_filter_le _ _) ?_
 rw[List.length_range];omega
structure Fit (k:Nat) (s:List ah):Prop where
 so:iT s
 bd:bI s
 len:s.length<=k
theorem Fit.nil:Fit 0 []:=⟨.nil,λr hr=>(by cases hr),Nat.le_refl _⟩
theorem Fit.mono{k k':Nat}{s:List ah}(h:Fit k s)(hk:k<=k'):Fit k' s:=⟨h.so,h.bd,Nat.le_trans h.len hk⟩
theorem Fit.put{k:Nat}{s:List ah}(h:Fit k s){r:ah}(hr:r.bd.length<=1048576):Fit (k+1) (dg s r):=⟨GY h.so r,YQ h.bd hr,aps (by have:=h.len;omega)⟩
theorem Fit.mT{f:ah->ah}{l:List ah}(hl:∀r∈l,(f r).bd.length<=1048576):∀{k:Nat} {s:List ah},Fit k s->Fit (k+l.length) (eU f s l):=by
 unfold eU
 induction l with
 |nil=>intro k s h;exact h
 |cons x l ih=>
  intro k s h
  rw[List.foldl_cons,List.length_cons]
  exact(ih (λr hr=>hl r (.tail _ hr)) (h.put (hl x (.head _)))).mono (by omega)
theorem Fit.filter{k:Nat}{s:List ah}(h:Fit k s)(p:ah->Bool):Fit k (s.filter p):=⟨h.so.filter _,λr hr=>h.bd r (List.mem_filter.1 hr).1,Nat.le_trans (List.length_filter_le _ _) h.len⟩
theorem ZO(ls:List br)(id:Int)(hd:List Int)(a:Int):
  (List.range (hd.length/2)).foldl (λ(d:List cn) (k:Nat)=>if decide (gt hd (2*(k:Int)+1)=a)=true then d++[(⟨gt hd (2*(k:Int)),mR ls id (gt hd (2*(k:Int))) a⟩:cn)]else d) []=xR ls id hd a:=by
 rw[JI (λk:Nat=>decide (gt hd (2*(k:Int)+1)=a)) (λk:Nat=>(⟨gt hd (2*(k:Int)),mR ls id (gt hd (2*(k:Int))) a⟩:cn)),List.nil_append]
 rfl
theorem aqZ(id aQ n:Int)(ls:List br)(ts t6:T)(hd:List Int)(hA:eI (nO n) ml ls=true)(hl:ls.length<=12)(h1:hd.length%2=0)(h2:hd.length<=1048576):
  AG [ii id,ii aQ,ii n,.l (ls.map df),ts,.l (hd.map aG),t6]=some [.l (((lj ls id).map (um ls id hd)).map aC)]:=by
 have G_:=MY ls id
 rw[aol];simp(disch:=omega) only[↓pQ,pS,↓reduceIte,ak,ap,aq,au,av,aw,ax,ay,az,LH,LI,LJ,FI _ _ _ _ _ hA hl]
 generalize lj ls id=A at G_
 refine(kC A (λj c=>[.l (c.map aC),ii j]) (λc a=>c++[um ls id hd a]) (λc=>some [T.l (c.map aC)]) [] (λj c=>c.length<=j) rfl (ek (by omega)) (by simp) ?_ ?_).trans (by rw[foldl_map,List.nil_append])
 ·intro j c hj hc
  refine⟨by simp;omega,λq=>?_⟩
  simp(disch:=omega) only[↓pQ,pS,↓reduceIte,ak,ap,aq,au,av,aw,ax,ay,az,LH,LI,hj]
  unfold um
  rw[<-ZO]
  refine rq (hd.length/2) (λk d=>[ii (2*k),.l (d.map fk)]) (λ(d:List cn) (k:Nat)=>if decide (gt hd (2*(k:Int)+1)=gt A (j:Int))=true then d++[(⟨gt hd (2*(k:Int)),mR ls id (gt hd (2*(k:Int))) (gt A (j:Int))⟩:cn)]else d) (λd=>q [.l ((c++[(⟨gt A (j:Int),1,id,0,0,d,0,false⟩:ah)]).map aC),ii ((j:Int)+1)]) [] (λk d=>d.length<=k) rfl (ek (by omega)) (by simp) ?_ ?_
  ·intro k d hk jk
   refine⟨by split;(· simp;omega);(· omega),λs=>?_⟩
   have a_:2*(k:Int)<hd.length:=by omega
   have mG:2*(k:Int)+1<hd.length:=by omega
   by_cases e:gt hd (2*(k:Int)+1)=gt A (j:Int)
   ·simp(disch:=omega) only[↓pQ,pS,↓reduceIte,ak,ap,aq,au,av,aw,ax,ay,az,LH,LI,a_,mG,e,apc _ _ _ _ _ _ (show ls.length<=1048576 by omega),decide_true,Int.mul_add]
   ·simp(disch:=omega) only[↓pQ,pS,↓reduceIte,ak,ap,aq,au,av,aw,ax,ay,az,LH,LI,a_,mG,e,decide_false,dI,Int.mul_add]
  ·intro d s jk
   have a_:¬(2*((hd.length/2:Nat):Int)<hd.length):=by omega
   simp(disch:=omega) only[↓pQ,pS,↓reduceIte,ak,ap,aq,au,av,aw,ax,ay,az,LH,LI,a_]
 ·intro c q hc
  simp(disch:=omega) only[↓pQ,pS,↓reduceIte,ak,ap,aq,au,av,aw,ax,ay,az,LH,LI,]
theorem aq0(id aQ n:Int)(ls:List br)(ts t6:T)(hd:List Int)(a:Int)(hl:ls.length<=12)(h1:hd.length%2=0)(h2:hd.length<=1048576):
  Uq [ii id,ii aQ,ii n,.l (ls.map df),ts,.l (hd.map aG),t6,ii a]=some (aC (um ls id hd a)):=by
 rw[amO];simp(disch:=omega) only[↓pQ,pS,↓reduceIte,ak,ap,aq,au,av,aw,ax,ay,az,X8,KY]
 unfold um
 rw[<-ZO]
 refine rq (hd.length/2) (λk d=>[ii (2*k),.l (d.map fk)]) (λ(d:List cn) (k:Nat)=>if decide (gt hd (2*(k:Int)+1)=a)=true then d++[(⟨gt hd (2*(k:Int)),mR ls id (gt hd (2*(k:Int))) a⟩:cn)]else d) (λd=>some (aC (⟨a,1,id,0,0,d,0,false⟩:ah))) [] (λk d=>d.length<=k) rfl (ek (by omega)) (by simp) ?_ ?_
 ·intro k d hk jk
  refine⟨by split;(· simp;omega);(· omega),λs=>?_⟩
  have a_:2*(k:Int)<hd.length:=by omega
  have mG:2*(k:Int)+1<hd.length:=by omega
  by_cases e:gt hd (2*(k:Int)+1)=a
  ·simp(disch:=omega) only[↓pQ,pS,↓reduceIte,ak,ap,aq,au,av,aw,ax,ay,az,X8,a_,mG,e,Om _ _ _ _ _ _ (show ls.length<=1048576 by omega),decide_true,Int.mul_add]
  ·simp(disch:=omega) only[↓pQ,pS,↓reduceIte,ak,ap,aq,au,av,aw,ax,ay,az,X8,a_,mG,e,decide_false,dI,Int.mul_add]
 ·intro d s jk
  have a_:¬(2*((hd.length/2:Nat):Int)<hd.length):=by omega
  simp(disch:=omega) only[↓pQ,pS,↓reduceIte,ak,ap,aq,au,av,aw,ax,ay,az,X8,a_]
  rfl
theorem aq1(s:List ah)(id:Int)(l:List ah){k:Nat}(hs:Fit k s)(hk:k+l.length<=1048570)(hn:bI l):
  AJ [.l (s.map aC),ii id,.l (l.map aC)]=some [.l ((pF s id l).map aC)]:=by
 have ye:=hs.len
 rw[aov];simp(disch:=omega) only[↓pQ,pS,↓reduceIte,ak,ap,aq,au,av,aw,ax,ay,az,Oi,Oj,LP]
 refine aqD s (λi c=>[.l (c.map aC),ii i]) (M7 id) rfl (ek (by omega)) ?_ ?_
 ·intro i c hi hc q
  have:=hs.bd.gt (n:=i) (by omega) hi
  unfold M7
  simp(disch:=omega) only[↓pQ,pS,↓reduceIte,ak,ap,aq,au,av,aw,ax,ay,az,Oi,Oj,hi]
  by_cases k1:(gt s (i:Int)).kind=1
  ·by_cases k2:(gt s (i:Int)).owner=id
   ·simp[k1,k2]
   ·simp[k1,k2]
  ·simp[k1]
 ·intro q
  simp(disch:=omega) only[↓pQ,pS,↓reduceIte,ak,ap,aq,au,av,aw,ax,ay,az,Oi,Oj,]
  refine kC l (λi c=>[.l (c.map aC),ii i]) (λc r=>dg c (gJ r)) (λc=>some [T.l (c.map aC)]) (s.filter (M7 id)) (λi c=>Fit (k+i) c) rfl (ek (by omega)) (hs.filter _) ?_ ?_
  ·intro i d hi hd
   have na:=hn.gt (n:=i) (by omega) hi
   refine⟨hd.put na,λq=>?_⟩
   have C6:=hd.len
   have hp:=Fi d (gt l (i:Int)).ae (gt l (i:Int)).kind (gt l (i:Int)).owner (gt l (i:Int)).key 1 (gt l (i:Int)).bd (gt l (i:Int)).cost (gt l (i:Int)).fT (by omega) hd.bd hd.so na
   simp(disch:=omega) only[↓pQ,pS,↓reduceIte,ak,ap,aq,au,av,aw,ax,ay,az,Oi,Oj,hi,hp]
   rfl
  ·intro d q' hd
   simp(disch:=omega) only[↓pQ,pS,↓reduceIte,ak,ap,aq,au,av,aw,ax,ay,az,Oi,Oj,]
theorem aq2(id:Int)(ts:List bO):∀c:List ah,ts.foldl (λc t=>if t.owner=id then dg c (pG id t)else c) c=eU same c ((ts.filter λt=>t.owner==id).map (pG id)):=by
 induction ts with
 |nil=>intro c;rfl
 |cons t ts ih=>
  intro c
  rw[List.foldl_cons,ih]
  by_cases h:t.owner=id
  ·rw[if_pos h,List.filter_cons,if_pos (by simpa using h)]
   rfl
  ·rw[if_neg h,List.filter_cons,if_neg (by simpa using h)]
theorem ZP(id:Int)(ts:List bO)(h:ts.length<=4)(c:List ah){k:Nat}(hc:Fit k c)(hk:k<=1000):
  iter (xH vU (ii id) (.l (ts.map dH)) (ii ts.length)) rounds [.l (c.map aC),ii 0]=some [.l ((eU same c ((ts.filter λt=>t.owner==id).map (pG id))).map aC)]:=by
 rw[<-aq2]
 refine kC ts (λi c=>[.l (c.map aC),ii i]) (λc t=>if t.owner=id then dg c (pG id t)else c) (λc=>some [T.l (c.map aC)]) c (λi c=>Fit (k+i) c) rfl (ek (by omega)) hc ?_ ?_
 ·intro i d hi hd
  have C6:=hd.len
  by_cases e:(gt ts (i:Int)).owner=id
  ·rw[if_pos e]
   refine⟨hd.put (by simp[pG]),λq=>?_⟩
   have hp:=Fi d 9 3 id (gt ts (i:Int)).key 0 [] (gt ts (i:Int)).cost (gt ts (i:Int)).fT (by omega) hd.bd hd.so (by simp)
   rw[List.map_nil]at hp
   simp(disch:=omega) only[↓pQ,pS,↓reduceIte,ak,ap,aq,au,av,aw,ax,ay,az,yB,yC,xH,yD,hi,e,hp]
   rfl
  ·rw[if_neg e]
   refine⟨hd.mono (by omega),λq=>?_⟩
   simp(disch:=omega) only[↓pQ,pS,↓reduceIte,ak,ap,aq,au,av,aw,ax,ay,az,yB,yC,xH,yD,hi,e]
 ·intro d q hd
  simp(disch:=omega) only[↓pQ,pS,↓reduceIte,ak,ap,aq,au,av,aw,ax,ay,az,yB,yC,xH,yD,]
theorem FO{x:Self}(h:x.heard.length<=1048576):bI (eV x):=λr hr=>by
 obtain⟨a,_,rfl⟩:=List.mem_map.1 hr
 exact Nat.le_trans (aqY _ _ _ _) h
theorem M8(s:List ah)(A:List Int)(fr ae:Int):bI (cu s A fr ae):=λr hr=>by
 rw[(M5 hr).2.2.2.2.1];simp
theorem aq3{s:List ah}{id:Int}{l:List ah}{k:Nat}(hs:Fit k s)(hn:bI l):Fit (k+l.length) (pF s id l):=Fit.mT (f:=gJ) (λr hr=>hn r hr) (hs.filter _)
theorem ZQ{s:List ah}(h:eJ s=true)(hn:bI s):Fit 150 s:=⟨Fg h,hn,by unfold eJ at h;simp only[bA,decide_eq_true_eq]at h;exact h.1⟩
theorem aq4(id aQ n:Int)(ls:List br)(ts:List bO)(hd:List Int)(st:List ah)(h1:ls.length<=1048576)(h2:ts.length<=1048576)(h3:hd.length<=1048576)(h4:st.length<=1048576)(h5:bI st)(hk:l8 ⟨id,aQ,⟨n,ls,ts⟩,hd,st⟩=true):
  NZ [ii id,ii aQ,ii n,.l (ls.map df),.l (ts.map dH),.l (hd.map aG),.l (st.map aC)]=some [.l ((lA ⟨id,aQ,⟨n,ls,ts⟩,hd,st⟩ (pF st id (eV ⟨id,aQ,⟨n,ls,ts⟩,hd,st⟩))).map aC)]:=by
 obtain⟨hN,ie,kH,jl,uS,cf⟩:=qg hk
 obtain⟨n1,hl,ht,hA,hT⟩:=ul hN
 simp only at ie kH jl uS cf n1 hl ht hA hT
 have tQ:=ZQ cf h5
 have ZR:=FN ⟨id,aQ,⟨n,ls,ts⟩,hd,st⟩
 have Bk:=FO (x:=⟨id,aQ,⟨n,ls,ts⟩,hd,st⟩) h3
 have hO:=aqZ id aQ n ls (.l (ts.map dH)) (.l (st.map aC)) hd hA hl jl h3
 rw[show(lj ls id).map (um ls id hd)=eV ⟨id,aQ,⟨n,ls,ts⟩,hd,st⟩ from rfl]at hO
 unfold lA nT FM
 simp only
 generalize eV ⟨id,aQ,⟨n,ls,ts⟩,hd,st⟩=O at ZR Bk hO
 have hB:=aq1 st id O tQ (by omega) Bk
 have M9:=aq3 (id:=id) tQ Bk
 generalize pF st id O=S at hB M9
 have hSl:=M9.len
 rw[aoT];simp(disch:=omega) only[↓pQ,pS,↓reduceIte,ak,ap,aq,au,av,aw,ax,ay,az,yB,yC,xH,yD,LZ,Mc _ _ _ _ _ _ _ h1 h2 h3 h4 h5,hk,hO]
 rw[ZM,ZM]
 refine kC O (λi c=>[.l (c.map aC),ii i,.l (O.map aC)]) (λc r=>dg c (same r)) (λc=>some [T.l ((eU same (eU same c (if Cf ls id=true then(lj ls id).flatMap λa=>cu S (lj ls id) id a else [])) ((ts.filter λt=>t.owner==id).map (pG id))).map aC)]) [] (λi c=>Fit i c) rfl (ek (by omega)) Fit.nil ?_ ?_
 ·intro i d hi jk
  have na:=Bk.gt (n:=i) (by omega) hi
  refine⟨jk.put na,λq=>?_⟩
  have C6:=jk.len
  have hp:=Fi d (gt O (i:Int)).ae (gt O (i:Int)).kind (gt O (i:Int)).owner (gt O (i:Int)).key (gt O (i:Int)).seq (gt O (i:Int)).bd (gt O (i:Int)).cost (gt O (i:Int)).fT (by omega) jk.bd jk.so na
  simp(disch:=omega) only[↓pQ,pS,↓reduceIte,ak,ap,aq,au,av,aw,ax,ay,az,yB,yC,xH,yD,hi,hp]
  rfl
 ·intro c q hc
  have G_:=MY ls id
  cases hb:Cf ls id with
  |false=>
   simp(disch:=omega) only[↓pQ,pS,↓reduceIte,ak,ap,aq,au,av,aw,ax,ay,az,yB,yC,xH,yD,FI _ _ _ _ _ hA hl,Zx _ _ _ _ _ hA hl,hb,dI]
   exact ZP id ts ht c hc (by omega)
  |true=>
   simp only[if_true]
   simp(disch:=omega) only[↓pQ,pS,↓reduceIte,ak,ap,aq,au,av,aw,ax,ay,az,yB,yC,xH,yD,FI _ _ _ _ _ hA hl,Zx _ _ _ _ _ hA hl,hb,hB]
   generalize lj ls id=A at G_
   rw[<-aqI]
   refine kC A (λj c=>[.l (c.map aC),ii j]) (λc a=>eU same c (cu S A id a)) (λc=>some [T.l ((eU same c ((ts.filter λt=>t.owner==id).map (pG id))).map aC)]) c (λj c=>Fit (3+6*j) c) rfl (ek (by omega)) (hc.mono (by omega)) ?_ ?_
   ·intro j c hj hc
    have yf:=ZH S A id (gt A (j:Int))
    have vS:=M8 S A id (gt A (j:Int))
    refine⟨(hc.mT (f:=same) λr hr=>vS r hr).mono (by omega),λq=>?_⟩
    simp(disch:=omega) only[↓pQ,pS,↓reduceIte,ak,ap,aq,au,av,aw,ax,ay,az,yB,yC,xH,yD,hj,aqs S A id _ (show S.length<=1048576 by omega) M9.bd (show A.length<=1048576 by omega)]
    generalize cu S A id (gt A (j:Int))=B at yf vS
    refine kC B (λi c=>[.l (c.map aC),ii i,.l (B.map aC)]) (λc r=>dg c (same r)) (λc=>q [.l (c.map aC),ii ((j:Int)+1)]) c (λi c=>Fit (3+6*j+i) c) rfl (ek (by omega)) hc ?_ ?_
    ·intro i d hi jk
     have na:=vS.gt (n:=i) (by omega) hi
     refine⟨jk.put na,λq=>?_⟩
     have C6:=jk.len
     have hp:=Fi d (gt B (i:Int)).ae (gt B (i:Int)).kind (gt B (i:Int)).owner (gt B (i:Int)).key (gt B (i:Int)).seq (gt B (i:Int)).bd (gt B (i:Int)).cost (gt B (i:Int)).fT (by omega) jk.bd jk.so na
     simp(disch:=omega) only[↓pQ,pS,↓reduceIte,ak,ap,aq,au,av,aw,ax,ay,az,yB,yC,xH,yD,hi,hp]
     rfl
    ·intro d q' jk
     simp(disch:=omega) only[↓pQ,pS,↓reduceIte,ak,ap,aq,au,av,aw,ax,ay,az,yB,yC,xH,yD,]
   ·intro c q hc
    simp(disch:=omega) only[↓pQ,pS,↓reduceIte,ak,ap,aq,au,av,aw,ax,ay,az,yB,yC,xH,yD,]
    exact ZP id ts ht c hc (by omega)
def wv(x:Self):List ah:=eU gT x.store (eV x)
theorem aq5(r:ah):(gT r).bd=r.bd:=by unfold gT;split<;>rfl
theorem aq6{x:Self}{k:Nat}(h:Fit k x.store)(hh:x.heard.length<=1048576):Fit (k+3) (wv x):=by
 have:=FN x
 exact(Fit.mT (f:=gT) (λr hr=>by rw[aq5];exact FO hh r hr) h).mono (by omega)
theorem aq7(a k o y s c:Int)(f:Bool):Prim.ev (.lit 8 [true,true,true,true,true,false,true,true]) [ii a,ii k,ii o,ii y,ii s,.l [],ii c,bb f]=some (.l ([(⟨a,k,o,y,s,[],c,f⟩:ah)].map aC)):=n6 (by decide) rfl rfl
theorem aq8(id aQ n:Int)(ls:List br)(ts:List bO)(hd:List Int)(st:List ah)(h1:ls.length<=1048576)(h2:ts.length<=1048576)(h3:hd.length<=1048576)(h4:st.length<=1048576)(h5:bI st)(hk:l8 ⟨id,aQ,⟨n,ls,ts⟩,hd,st⟩=true):
  Vg [ii id,ii aQ,ii n,.l (ls.map df),.l (ts.map dH),.l (hd.map aG),.l (st.map aC)]=some [.l ((lA ⟨id,aQ,⟨n,ls,ts⟩,hd,st⟩ (wv ⟨id,aQ,⟨n,ls,ts⟩,hd,st⟩)).map aC)]:=by
 obtain⟨hN,ie,kH,jl,uS,cf⟩:=qg hk
 obtain⟨n1,hl,ht,hA,hT⟩:=ul hN
 simp only at ie kH jl uS cf n1 hl ht hA hT
 have tQ:=ZQ cf h5
 have ZR:=FN ⟨id,aQ,⟨n,ls,ts⟩,hd,st⟩
 have Bk:=FO (x:=⟨id,aQ,⟨n,ls,ts⟩,hd,st⟩) h3
 have M9:=aq6 (x:=⟨id,aQ,⟨n,ls,ts⟩,hd,st⟩) tQ h3
 have ye:=tQ.len
 have hW:=ZJ st (eV ⟨id,aQ,⟨n,ls,ts⟩,hd,st⟩) (by omega) h5 Bk
 rw[show eU gT st (eV ⟨id,aQ,⟨n,ls,ts⟩,hd,st⟩)=wv ⟨id,aQ,⟨n,ls,ts⟩,hd,st⟩ from rfl]at hW
 generalize wv ⟨id,aQ,⟨n,ls,ts⟩,hd,st⟩=S at hW M9
 have hSl:=M9.len
 have G_:=MY ls id
 rw[ant];simp(disch:=omega) only[↓pQ,pS,↓reduceIte,ak,ap,aq,au,av,aw,ax,ay,az,yv,yw,xG,yx,Lj,Md _ _ _ _ _ _ _ h1 h2 h3 h4 h5,hk,Zw _ _ _ _ _ hA hl]
 have hT2:∀(c:List ah),c.length<=100->bI c->iter (xG rounds BZ B0 (ii id) (.l (ts.map dH)) (.l [])) rounds [.l (c.map aC),ii 0]=some [.l ((eU same [] (c++(ts.filter λt=>t.owner==id).map (pG id))).map aC)]:=by
  intro c hc hcn
  have e:(ts.filter λt=>t.owner==id).map (pG id)=ts.foldl (λc t=>if(t.owner==id)=true then c++[pG id t]else c) []:=by
   rw[JI (λt:bO=>t.owner==id) (pG id),List.nil_append]
  have e2:c++(ts.filter λt=>t.owner==id).map (pG id)=ts.foldl (λc t=>if(t.owner==id)=true then c++[pG id t]else c) c:=by
   rw[JI (λt:bO=>t.owner==id) (pG id)]
  rw[e2]
  refine kC ts (λi c=>[.l (c.map aC),ii i]) (λc t=>if(t.owner==id)=true then c++[pG id t]else c) (λc=>some [T.l ((eU same [] c).map aC)]) c (λi c=>c.length<=100+i∧bI c) rfl (ek (by omega)) ⟨by omega,hcn⟩ ?_ ?_
  ·rintro i d hi ⟨fi,ov⟩
   by_cases k:(gt ts (i:Int)).owner=id
   ·have e:((gt ts (i:Int)).owner==id)=true:=by simpa using k
    rw[if_pos e]
    refine⟨⟨by simp;omega,λr hr=>?_⟩,λq=>?_⟩
    ·rcases List.mem_append.1 hr with hr|hr
     ·exact ov r hr
     ·rw[List.mem_singleton]at hr;subst hr;simp[pG]
    ·unfold pG
     simp(disch:=omega) only[↓pQ,pS,↓reduceIte,ak,ap,aq,au,av,aw,ax,ay,az,yv,yw,xG,yx,hi,k,aq7]
   ·have e:¬((gt ts (i:Int)).owner==id)=true:=by simpa using k
    rw[if_neg e]
    refine⟨⟨by omega,ov⟩,λq=>?_⟩
    simp(disch:=omega) only[↓pQ,pS,↓reduceIte,ak,ap,aq,au,av,aw,ax,ay,az,yv,yw,xG,yx,hi,k]
  ·rintro d q ⟨fi,ov⟩
   simp(disch:=omega) only[↓pQ,pS,↓reduceIte,ak,ap,aq,au,av,aw,ax,ay,az,yv,yw,xG,yx,]
   refine kC d (λi c=>[.l (c.map aC),ii i]) (λc r=>dg c (same r)) (λc=>some [T.l (c.map aC)]) [] (λi c=>Fit i c) rfl (ek (by omega)) Fit.nil ?_ ?_
   ·intro i c hi hc
    have na:=ov.gt (n:=i) (by omega) hi
    refine⟨hc.put na,λq=>?_⟩
    have mI:=hc.len
    have hp:=Fj c (gt d (i:Int)).ae (gt d (i:Int)).kind (gt d (i:Int)).owner (gt d (i:Int)).key (gt d (i:Int)).seq (gt d (i:Int)).bd (gt d (i:Int)).cost (gt d (i:Int)).fT (by omega) hc.bd na
    simp(disch:=omega) only[↓pQ,pS,↓reduceIte,ak,ap,aq,au,av,aw,ax,ay,az,yv,yw,xG,yx,hi,hp]
    rfl
   ·intro c q hc
    have mI:=hc.len
    simp(disch:=omega) only[↓pQ,pS,↓reduceIte,ak,ap,aq,au,av,aw,ax,ay,az,yv,yw,xG,yx,On c (by omega) hc.bd]
 have hO:eV ⟨id,aQ,⟨n,ls,ts⟩,hd,st⟩=(lj ls id).map (um ls id hd):=rfl
 unfold lA nT FM
 simp only
 rw[hO]at ZR Bk hW⊢
 generalize lj ls id=A at G_ ZR Bk hW
 refine kC A (λj c=>[.l (c.map aC),ii j]) (λc a=>c++[um ls id hd a]) (λ_=>some [T.l ((eU same [] (A.map (um ls id hd)++(if Cf ls id=true then A.flatMap λa=>cu S A id a else [])++(ts.filter λt=>t.owner==id).map (pG id))).map aC)]) [] (λj c=>c=(A.take j).map (um ls id hd)) rfl (ek (by omega)) rfl ?_ ?_
 ·intro j c hj hc
  have pM:j<A.length:=by omega
  refine⟨by rw[hc,List.take_add_one,List.map_append,List.getElem?_eq_getElem pM,eS pM];simp,λq=>?_⟩
  have mI:c.length<=j:=by rw[hc,List.length_map];simp;omega
  have hN:=aq0 id aQ n ls (.l (ts.map dH)) (.l (st.map aC)) hd (gt A (j:Int)) hl jl h3
  simp only[aC]at hN
  simp(disch:=omega) only[↓pQ,pS,↓reduceIte,ak,ap,aq,au,av,aw,ax,ay,az,yv,yw,xG,yx,hj,hN]
 ·intro c q hc
  rw[List.take_length]at hc
  rw[<-hc]at ZR Bk hW⊢
  cases hb:Cf ls id with
  |false=>
   simp(disch:=omega) only[↓pQ,pS,↓reduceIte,ak,ap,aq,au,av,aw,ax,ay,az,yv,yw,xG,yx,Zy _ _ _ _ _ hA hl,hb,dI]
   rw[List.append_nil]
   exact hT2 c (by omega) Bk
  |true=>
   simp only[if_true]
   simp(disch:=omega) only[↓pQ,pS,↓reduceIte,ak,ap,aq,au,av,aw,ax,ay,az,yv,yw,xG,yx,Zy _ _ _ _ _ hA hl,hb,hW]
   refine kC A (λj d=>[.l (d.map aC),ii j]) (λd a=>d++cu S A id a) (λ_=>some [T.l ((eU same [] (c++(A.flatMap λa=>cu S A id a)++(ts.filter λt=>t.owner==id).map (pG id))).map aC)]) c (λj d=>d=c++(A.take j).flatMap λa=>cu S A id a) rfl (ek (by omega)) (by simp) ?_ ?_
   ·intro j d hj jk
    have pM:j<A.length:=by omega
    refine⟨by rw[jk,List.take_add_one,List.flatMap_append,List.getElem?_eq_getElem pM,eS pM];simp,λq=>?_⟩
    have yf:=ZH S A id (gt A (j:Int))
    have C6:d.length<=30:=by
     rw[jk,List.length_append]
     have:=M6 (A.take j) (λa=>cu S A id a) λa=>ZH S A id a
     have:(A.take j).length<=A.length:=by simp;omega
     omega
    simp(disch:=omega) only[↓pQ,pS,↓reduceIte,ak,ap,aq,au,av,aw,ax,ay,az,yv,yw,xG,yx,hj,aqu S A id _ (show S.length<=1048576 by omega) M9.bd (show A.length<=1048576 by omega)]
   ·intro d q jk
    rw[List.take_length]at jk
    have C6:d.length<=30:=by
     rw[jk,List.length_append]
     have:=M6 A (λa=>cu S A id a) λa=>ZH S A id a
     omega
    have m4:bI d:=λr hr=>by
     rw[jk]at hr
     rcases List.mem_append.1 hr with hr|hr
     ·exact Bk r hr
     ·obtain⟨a,_,hr⟩:=List.mem_flatMap.1 hr
      exact M8 _ _ _ _ r hr
    rw[<-jk]
    simp(disch:=omega) only[↓pQ,pS,↓reduceIte,ak,ap,aq,au,av,aw,ax,ay,az,yv,yw,xG,yx,]
    exact hT2 d (by omega) m4
theorem Ha{a b:ah}(h:dX a b=true):dX b a=true:=by rw[sameKey_iff]at *;omega
theorem xS{a b c:ah}(h:dX a b=true)(h':dX b c=true):dX a c=true:=by rw[sameKey_iff]at *;omega
theorem OG(a:ah):dX a a=true:=by rw[sameKey_iff];omega
theorem iw{s:List ah}{r x:ah}:x∈dg s r↔x=r∨(x∈s∧dX x r=false):=by
 unfold dg
 simp only[List.mem_append,List.mem_filter,List.mem_singleton]
 constructor
 ·rintro(⟨h,q⟩|h|⟨h,q⟩)
  ·exact .inr ⟨h,YN q⟩
  ·exact .inl h
  ·refine .inr ⟨h,?_⟩
   cases hc:dX x r with
   |false=>rfl
   |true=>have:=Ha hc;rw[YN q]at this;cases this
 ·rintro(h|⟨h,q⟩)
  ·exact .inr (.inl h)
  ·cases hl:eT x r with
   |true=>exact .inl ⟨h,rfl⟩
   |false=>exact .inr (.inr ⟨h,YO hl q⟩)
def b9(s:List ah)(r:ah):Prop:=∃x∈s,dX r x=true
theorem b9.put{s:List ah}{y:ah}(h:b9 s y)(r:ah):b9 (dg s r) y:=by
 obtain⟨x,hx,hk⟩:=h
 cases hc:dX x r with
 |true=>exact⟨r,iw.2 (.inl rfl),xS hk hc⟩
 |false=>exact⟨x,iw.2 (.inr ⟨hx,hc⟩),hk⟩
theorem b9.new{s:List ah}{y r:ah}(h:dX y r=true):b9 (dg s r) y:=⟨r,iw.2 (.inl rfl),h⟩
theorem b9.mT{f:ah->ah}{y:ah}:∀{l s:List ah},b9 s y->b9 (eU f s l) y
 | [],_,h=>h
 |x::l,s,h=>b9.mT (l:=l) (h.put (f x))
theorem b9.mU{f:ah->ah}{y z:ah}(hz:dX y (f z)=true):∀{l s:List ah},z∈l->b9 (eU f s l) y
 |x::l,s,h=>by
  rcases List.mem_cons.1 h with rfl|h
  ·exact b9.mT (l:=l) (b9.new hz)
  ·exact b9.mU hz (l:=l) h
theorem u4_:∀{s t:List ah},iT s->iT t->(∀r∈s,b9 t r)->s.length<=t.length
 | [],t,_,_,_=>by simp
 |x::s,t,hs,ht,h=>by
  have ps:=List.pairwise_cons.1 hs
  obtain⟨y,hy,hk⟩:=h x (.head _)
  obtain⟨t1,t2,rfl⟩:=List.append_of_mem hy
  have pt:=List.pairwise_append.1 ht
  have pt2:=List.pairwise_cons.1 pt.2.1
  have ih:=u4_ (s:=s) (t:=t2) ps.2 pt2.2 λr hr=>by
   obtain⟨z,hz,OH⟩:=h r (.tail _ hr)
   have a_:eT y z=true:=by
    have h1:=ps.1 r hr
    rw[oL]at*
    rw[sameKey_iff]at hk OH
    omega
   rcases List.mem_append.1 hz with hz|hz
   ·have h2:=pt.2.2 z hz y (.head _)
    rw[A5 a_]at h2;cases h2
   ·rcases List.mem_cons.1 hz with e|hz
    ·subst e
     rw[Ff]at a_;cases a_
    ·exact⟨z,hz,OH⟩
  simp only[List.length_append,List.length_cons]
  omega
theorem Hb{f:ah->ah}{r:ah}:∀{l s:List ah},l.Pairwise (λa b=>dX (f a) (f b)=false)->(r∈eU f s l↔(∃o∈l,r=f o)∨(r∈s∧∀o∈l,dX r (f o)=false))
 | [],s,_=>by simp[eU]
 |x::l,s,h=>by
  have hp:=List.pairwise_cons.1 h
  rw[show eU f s (x::l)=eU f (dg s (f x)) l from rfl,Hb hp.2,iw]
  constructor
  ·rintro(⟨o,ho,e⟩|⟨e|⟨h1,h2⟩,h3⟩)
   ·exact .inl ⟨o,.tail _ ho,e⟩
   ·exact .inl ⟨x,.head _,e⟩
   ·refine .inr ⟨h1,λo ho=>?_⟩
    rcases List.mem_cons.1 ho with rfl|ho
    ·exact h2
    ·exact h3 o ho
  ·rintro(⟨o,ho,e⟩|⟨h1,h2⟩)
   ·rcases List.mem_cons.1 ho with rfl|ho
    ·exact .inr ⟨.inl e,λo' Gg=>by rw[e];exact hp.1 o' Gg⟩
    ·exact .inl ⟨o,ho,e⟩
   ·exact .inr ⟨.inr ⟨h1,h2 x (.head _)⟩,λo ho=>h2 o (.tail _ ho)⟩
def qh(s:List ah)(r:ah):Int:=if bL s r<0 then 0 else(gt s (bL s r)).seq
def tI(x:Self)(r:ah):Int:=if 1000*x.aQ+1>qh x.store r+1 then 1000*x.aQ+1 else qh x.store r+1
def pH(s:List ah)(r:ah):Bool:=decide (bL s r<0)|| !yE (gt s (bL s r)) r
def M_(x:Self)(r:ah):ah:={r with seq:=tI x r}
def pI(x:Self)(c:List ah)(r:ah):List ah:=if pH x.store r=true then dg c (M_ x r)else c
def fy(r:ah):ah:=if r.kind=1 then {r with bd:=[]}else {r with bd:=[],cost:=60000}
def qi(x:Self)(W:List ah)(r:ah):Bool:=(r.owner==x.id)&&(decide (bL W r<0)&& !yE (fy r) r)
def vu(x:Self)(r:ah):ah:={fy r with seq:=tI x r}
def rI(x:Self)(W:List ah)(c:List ah)(r:ah):List ah:=if qi x W r=true then dg c (vu x r)else c
def om(x:Self)(W:List ah):List ah:=x.store.foldl (rI x W) (W.foldl (pI x) [])
def vw(x:Self)(W:List ah):Self×List ah:=
 if(om x W).all (λr=>decide (r.seq<=100000))=true∧(eU same x.store (om x W)).length<=150 then({x with store:=eU same x.store (om x W)},om x W)else(x,[])
theorem kO_{α:Type}{y:ah}{g:List ah->α->List ah}(hg:∀c a,b9 c y->b9 (g c a) y):∀{l:List α} {c:List ah},b9 c y->b9 (l.foldl g c) y
 | [],_,h=>h
 |a::l,c,h=>kO_ hg (l:=l) (hg c a h)
theorem aq_{x:Self}{y:ah}(c:List ah)(r:ah)(h:b9 c y):b9 (pI x c r) y:=by
 unfold pI;split
 ·exact h.put _
 ·exact h
theorem aq'{x:Self}{W:List ah}{y:ah}(c:List ah)(r:ah)(h:b9 c y):b9 (rI x W c r) y:=by
 unfold rI;split
 ·exact h.put _
 ·exact h
theorem ZS{x:Self}{w:ah}(hw:pH x.store w=true):∀{l c:List ah},w∈l->b9 (l.foldl (pI x) c) w
 |a::l,c,h=>by
  rcases List.mem_cons.1 h with rfl|h
  ·rw[List.foldl_cons]
   refine kO_ aq_ ?_
   unfold pI
   rw[if_pos hw]
   exact b9.new (by rw[sameKey_iff];exact⟨rfl,rfl,rfl,rfl⟩)
  ·exact ZS hw (l:=l) h
theorem ara{s:List ah}{r:ah}(h:¬bL s r<0):b9 s r:=by
 unfold bL at h
 have h0:0<=eF (λx=>dX x r) s:=by omega
 exact⟨_,j_ (l:=s) h0 (tv _ _),Ha (t_ (λx=>dX x r) s h0)⟩
theorem ZT(x:Self)(W:List ah){y:ah}(h:b9 x.store y∨b9 W y):b9 (eU same x.store (om x W)) y:=by
 rcases h with h|⟨w,hw,hk⟩
 ·exact h.mT
 ·by_cases hn:pH x.store w=true
  ·obtain⟨z,hz,OH⟩:b9 (om x W) w:=kO_ aq' (ZS hn hw)
   exact b9.mU (z:=z) (xS hk OH) hz
  ·unfold pH at hn
   simp only[Bool.or_eq_true,decide_eq_true_eq,not_or]at hn
   obtain⟨z,hz,OH⟩:=ara hn.1
   exact b9.mT ⟨z,hz,xS hk OH⟩
theorem FP(x:Self){f:ah->ah}(hf:∀r,dX (f r) r=true):(eV x).Pairwise λa b=>dX (f a) (f b)=false:=by
 unfold eV
 rw[List.pairwise_map]
 have h:(lj x.net.ai x.id).Pairwise (· < ·):=nR.filter _
 refine h.imp λ{a b} lT=>?_
 cases hc:dX (f (um x.net.ai x.id x.heard a)) (f (um x.net.ai x.id x.heard b))with
 |false=>rfl
 |true=>
  have:=xS (xS (Ha (hf _)) hc) (hf _)
  rw[sameKey_iff]at this
  have e:a=b:=this.1
  omega
theorem xT{x:Self}{o:ah}(ho:o∈eV x):gT o=gJ o∧o.kind=1∧o.owner=x.id∧o.key=0∧(lj x.net.ai x.id).contains o.ae=true:=by
 obtain⟨a,ha,rfl⟩:=List.mem_map.1 ho
 exact⟨rfl,rfl,rfl,rfl,List.contains_iff_mem.2 ha⟩
theorem arb{x:Self}(h:l8 x=true)(a:Int):vm x.id (xR x.net.ai x.id x.heard a)=true:=by
 obtain⟨hN,ie,kH,jl,uS,cf⟩:=qg h
 obtain⟨n1,hl,ht,hA,hT⟩:=ul hN
 have hk:=λk hk=>cq.1 uS k hk
 unfold xR
 refine aqx ?_ ?_
 ·intro y hy
  obtain⟨k,fI,rfl⟩:=List.mem_map.1 hy
  obtain⟨cJ,iz⟩:=List.mem_filter.1 fI
  rw[List.mem_range]at cJ
  rw[decide_eq_true_eq]at iz
  have h1:=hk k cJ
  simp only[bA,decide_eq_true_eq]at h1
  rw[iz]at h1
  have h2:=t_ _ _ h1.1
  have hm:=j_ (l:=x.net.ai) (n:=eF (iu x.id (gt x.heard (2*(k:Int))) a) x.net.ai) h1.1 (tv _ _)
  have h3:=G9 hA hm
  have h4:mR x.net.ai x.id (gt x.heard (2*(k:Int))) a=(gt x.net.ai (eF (iu x.id (gt x.heard (2*(k:Int))) a) x.net.ai)).cost:=by unfold mR;rw[if_neg (by omega)]
  rw[nS]at h2
  simp only
  rw[h4]
  omega
 ·rw[List.pairwise_map]
  have jx:∀k,k+1<x.heard.length/2->gt x.heard (2*(k:Int))*4+gt x.heard (2*(k:Int)+1)<gt x.heard (2*((k+1:Nat):Int))*4+gt x.heard (2*((k+1:Nat):Int)+1):=by
   intro k lp
   have h1:=hk (k+1) lp
   have h0:=hk k (by omega)
   simp only[bA,Bool.or_eq_true,decide_eq_true_eq,Bool.not_eq_true',decide_eq_false_iff_not]at h1 h0
   have b1:=G9 hA (j_ (l:=x.net.ai) h1.1 (tv _ _))
   have c1:=nS.1 (t_ _ _ h1.1)
   have b0:=G9 hA (j_ (l:=x.net.ai) h0.1 (tv _ _))
   have c0:=nS.1 (t_ _ _ h0.1)
   have h2:=h1.2.resolve_left (by omega)
   rw[show(2:Int)*((k+1:Nat):Int)-2=2*(k:Int) by omega,show(2:Int)*((k+1:Nat):Int)-1=2*(k:Int)+1 by omega]at h2
   omega
  have ta:∀d k,k+1+d<x.heard.length/2->gt x.heard (2*(k:Int))*4+gt x.heard (2*(k:Int)+1)<gt x.heard (2*((k+1+d:Nat):Int))*4+gt x.heard (2*((k+1+d:Nat):Int)+1):=by
   intro d
   induction d with
   |zero=>intro k lp;exact jx k lp
   |succ d ih=>intro k lp;exact Int.lt_trans (ih k (by omega)) (jx (k+1+d) lp)
  refine(List.pairwise_lt_range.filter _).imp_of_mem λ{i j} hi hj vn=>?_
  obtain⟨rU,nl⟩:=List.mem_filter.1 hi
  obtain⟨hj1,wT⟩:=List.mem_filter.1 hj
  rw[List.mem_range]at rU hj1
  rw[decide_eq_true_eq]at nl wT
  have:=ta (j-i-1) i (by omega)
  rw[show i+1+(j-i-1)=j by omega,nl,wT]at this
  show gt x.heard (2*(i:Int))<gt x.heard (2*(j:Int))
  omega
theorem ZU{x:Self}(h:l8 x=true){o:ah}(ho:o∈eV x):fN (gT o)=true:=by
 have ie:=(qg h).2.1
 have hN:=(ul (qg h).1).1
 obtain⟨a,ha,rfl⟩:=List.mem_map.1 ho
 have h2:=ZI ha
 have h3:=arb h a
 unfold fN
 simp only[um,gT,if_true,bA,bC]
 refine⟨⟨by omega,by omega⟩,?_⟩
 simp[bC,h2,h3]
theorem Bl(r:ah):dX (gT r) r=true:=by
 rw[sameKey_iff]
 unfold gT
 split<;>exact⟨rfl,rfl,rfl,rfl⟩
theorem arc(r:ah):dX (gJ r) r=true:=by rw[sameKey_iff];exact⟨rfl,rfl,rfl,rfl⟩
theorem ard{x:Self}(h:l8 x=true):Bj (lj x.net.ai x.id) (wv x) (pF x.store x.id (eV x)):=by
 have cf:=(qg h).2.2.2.2.2
 have vx:=Fg cf
 have p1:iT (wv x):=by
  unfold wv eU
  have:∀(l s:List ah),iT s->iT (l.foldl (λc r=>dg c (gT r)) s):=by
   intro l;induction l with
   |nil=>intro s h;exact h
   |cons a l ih=>intro s h;exact ih _ (GY h _)
  exact this _ _ vx
 have p2:iT (pF x.store x.id (eV x)):=by
  unfold pF eU
  have:∀(l s:List ah),iT s->iT (l.foldl (λc r=>dg c (gJ r)) s):=by
   intro l;induction l with
   |nil=>intro s h;exact h
   |cons a l ih=>intro s h;exact ih _ (GY h _)
  exact this _ _ (vx.filter _)
 have m1:=λr=>Hb (f:=gT) (r:=r) (s:=x.store) (FP x Bl)
 have m2:=λr=>Hb (f:=gJ) (r:=r) (s:=x.store.filter (M7 x.id)) (FP x arc)
 refine⟨p1,λr hr=>?_,p2,λr hr hn=>?_⟩
 ·rcases(m2 r).1 hr with⟨o,ho,e⟩|⟨h1,h2⟩
  ·exact(m1 r).2 (.inl ⟨o,ho,by rw[e,(xT ho).1]⟩)
  ·exact(m1 r).2 (.inr ⟨(List.mem_filter.1 h1).1,λo ho=>by rw[(xT ho).1];exact h2 o ho⟩)
 ·rcases(m1 r).1 hr with⟨o,ho,e⟩|⟨h1,h2⟩
  ·exact absurd ((m2 r).2 (.inl ⟨o,ho,by rw[e,(xT ho).1]⟩)) hn
  ·have hm:¬M7 x.id r=true:=λhm=>hn ((m2 r).2 (.inr ⟨List.mem_filter.2 ⟨h1,hm⟩,λo ho=>by rw[<-(xT ho).1];exact h2 o ho⟩))
   have hm:r.kind=1∧r.owner=x.id:=by
    unfold M7 at hm
    simpa using hm
   refine⟨hm.1,?_⟩
   cases hc:(lj x.net.ai x.id).contains r.ae with
   |false=>rfl
   |true=>
    have ha:=List.contains_iff_mem.1 hc
    have h3:=h2 (um x.net.ai x.id x.heard r.ae) (List.mem_map.2 ⟨_,ha,rfl⟩)
    have hk:=FL (yH cf h1)
    have:dX r (gT (um x.net.ai x.id x.heard r.ae))=true:=by
     refine xS ?_ (Ha (Bl _))
     rw[sameKey_iff]
     exact⟨rfl,hm.1,hm.2,by show r.key=0;omega⟩
    rw[this]at h3;cases h3
theorem arf{x:Self}{S:List ah}{o:ah}(ho:o∈eV x):b9 (lA x S) o:=
 b9.mU (z:=o) (OG o) (List.mem_append.2 (.inl (List.mem_append.2 (.inl ho))))
theorem arh{x:Self}(h:l8 x=true):vw x (lA x (wv x))=vw x (lA x (pF x.store x.id (eV x))):=by
 have hc:=ard h
 have cf:=(qg h).2.2.2.2.2
 have vx:=Fg cf
 by_cases hlen:(wv x).length<=150
 ·have hr:∀r∈wv x,fN r=true:=by
   intro r hr
   rcases(Hb (f:=gT) (r:=r) (s:=x.store) (FP x Bl)).1 hr with⟨o,ho,e⟩|⟨h1,_⟩
   ·rw[e];exact ZU h ho
   ·exact yH cf h1
  have h1:eJ (wv x)=true:=by unfold eJ;rw[bA,decide_eq_true_eq];exact⟨hlen,Bi hr hc.so⟩
  have h2:eJ (pF x.store x.id (eV x))=true:=by
   unfold eJ;rw[bA,decide_eq_true_eq]
   exact⟨Nat.le_trans (u4_ hc.so' hc.so λr hr=>⟨r,hc.sub r hr,OG r⟩) hlen,Bi (λr jc=>hr r (hc.sub r jc)) hc.so'⟩
  have e:nT x (wv x)=nT x (pF x.store x.id (eV x)):=by
   unfold nT
   rw[ZL λa ha=>hc.cu (h1.trans h2.symm) (List.contains_iff_mem.2 ha) x.id]
  unfold lA
  rw[e]
 ·have big:∀S,vw x (lA x S)=(x,[]):=by
   intro S
   unfold vw
   rw[if_neg]
   rintro⟨_,h2⟩
   have hsT:iT (eU same x.store (om x (lA x S))):=by
    unfold eU
    have:∀(l s:List ah),iT s->iT (l.foldl (λc r=>dg c (same r)) s):=by
     intro l;induction l with
     |nil=>intro s h;exact h
     |cons a l ih=>intro s h;exact ih _ (GY h _)
    exact this _ _ vx
   have:=u4_ hc.so hsT λr hr=>by
    rcases(Hb (f:=gT) (r:=r) (s:=x.store) (FP x Bl)).1 hr with⟨o,ho,e⟩|⟨h1,_⟩
    ·obtain⟨z,hz,hk⟩:=ZT x (lA x S) (y:=o) (.inr (arf ho))
     exact⟨z,hz,by rw[e];exact xS (Bl o) hk⟩
    ·exact ZT x (lA x S) (.inl ⟨r,h1,OG r⟩)
   omega
  rw[big,big]
theorem xU(s:List ah)(r:ah):bL s r<s.length:=tv _ _
theorem ZV{r:ah}(h:fN r=true):1<=r.seq∧r.seq<=100000:=by
 unfold fN at h
 simp only[bA,bC]at h
 exact h.1.2
theorem FQ{s:List ah}(h:eJ s=true)(r:ah):0<=qh s r∧qh s r<=100000:=by
 unfold qh
 split
 ·omega
 ·have:=ZV (yH h (j_ (l:=s) (n:=bL s r) (by omega) (xU s r)))
  omega
theorem FR{x:Self}(h:eJ x.store=true)(hb:0<=x.aQ∧x.aQ<=90)(r:ah):1<=tI x r∧tI x r<=100001:=by
 have:=FQ h r
 unfold tI
 split<;>omega
theorem ari(t0 t2 t3 t4 t5 u4 u5 u6 u7:T)(x:Self)(r:ah)(h:eJ x.store=true)(hb:0<=x.aQ∧x.aQ<=90)(hl:x.store.length<=1048576):
  AM [t0,ii x.aQ,t2,t3,t4,t5,.l (x.store.map aC),ii r.ae,ii r.kind,ii r.owner,ii r.key,u4,u5,u6,u7]=some [ii (tI x r)]:=by
 have hk:=Mh x.store r.ae r.kind r.owner r.key u4 u5 u6 u7 hl
 rw[A4]at hk
 have ho:=FQ h r
 rw[aoX]
 unfold tI
 unfold qh at ho⊢
 have a_:=xU x.store r
 by_cases h0:bL x.store r<0
 ·have h1:¬bL x.store r>=0:=by omega
  rw[if_pos h0]at ho⊢
  simp(disch:=omega) only[↓pQ,pS,↓reduceIte,ak,ap,aq,au,av,aw,ax,ay,az,E8,hk,h1]
 ·have h1:bL x.store r>=0:=by omega
  have h2:0<=bL x.store r:=by omega
  rw[if_neg h0]at ho⊢
  simp(disch:=omega) only[↓pQ,pS,↓reduceIte,ak,ap,aq,au,av,aw,ax,ay,az,E8,hk,h1,h2,a_]
theorem ZW(t0 t2 t3 t4 t5 t6:T)(x:Self)(r:ah)(h:eJ x.store=true)(hb:0<=x.aQ∧x.aQ<=90):
  Vo [t0,ii x.aQ,t2,t3,t4,t5,t6,ii (qh x.store r)]=some [ii (tI x r)]:=by
 have ho:=FQ h r
 rw[anA]
 unfold tI
 by_cases h1:qh x.store r<1000*x.aQ
 ·have h2:1000*x.aQ+1>qh x.store r+1:=by omega
  rw[if_pos h2]
  simp(disch:=omega) only[↓pQ,pS,↓reduceIte,ak,ap,aq,au,av,aw,ax,ay,az,E5,h1]
 ·have h2:¬1000*x.aQ+1>qh x.store r+1:=by omega
  rw[if_neg h2]
  simp(disch:=omega) only[↓pQ,pS,↓reduceIte,ak,ap,aq,au,av,aw,ax,ay,az,E5,h1]
theorem arj(r:ah)(t:T):AO [ii r.ae,ii r.kind,ii r.owner,ii r.key,ii r.seq,t,ii r.cost,bb r.fT]=some (aC (fy r)):=by
 rw[aoZ]
 unfold fy
 by_cases h:r.kind=1
 ·rw[if_pos h]
  simp(disch:=omega) only[↓pQ,pS,↓reduceIte,ak,ap,aq,au,av,aw,ax,ay,az,E9,h]
  rfl
 ·rw[if_neg h]
  simp(disch:=omega) only[↓pQ,pS,↓reduceIte,ak,ap,aq,au,av,aw,ax,ay,az,E9,h]
  rfl
theorem ark(r:ah)(h:r.kind≠1->r.bd=[]):Vr [ii r.ae,ii r.kind,ii r.owner,ii r.key,ii r.seq,.l (r.bd.map fk),ii r.cost,bb r.fT]=some (aC (fy r)):=by
 rw[anC]
 unfold fy
 by_cases hk:r.kind=1
 ·rw[if_pos hk]
  simp(disch:=omega) only[↓pQ,pS,↓reduceIte,ak,ap,aq,au,av,aw,ax,ay,az,k7_,hk]
  rfl
 ·rw[if_neg hk]
  simp(disch:=omega) only[↓pQ,pS,↓reduceIte,ak,ap,aq,au,av,aw,ax,ay,az,k7_,hk]
  rw[h hk]
  rfl
theorem arl{r:ah}(h:fN r=true):r.kind≠1->r.bd=[]:=by
 intro hk
 unfold fN at h
 simp only[bA]at h
 have h:=h.2
 rw[if_neg hk]at h
 split at h
 ·simp only[bA,decide_eq_true_eq]at h
  exact List.eq_nil_of_length_eq_zero (by omega)
 ·split at h
  ·simp only[bA,decide_eq_true_eq]at h
   exact List.eq_nil_of_length_eq_zero (by omega)
  ·cases h
theorem OI(r:ah):(fy r).bd=[]:=by unfold fy;split<;>rfl
theorem ZX{x:Self}{k:Nat}{c:List ah}(h:Fit k c){r:ah}(hr:r.bd.length<=1048576):Fit (k+1) (pI x c r):=by
 unfold pI
 split
 ·exact h.put hr
 ·exact h.mono (by omega)
theorem ZY{x:Self}{W:List ah}{k:Nat}{c:List ah}(h:Fit k c)(r:ah):Fit (k+1) (rI x W c r):=by
 unfold rI
 split
 ·exact h.put (by show(fy r).bd.length<=_;rw[OI];simp)
 ·exact h.mono (by omega)
section
variable (x:Self) (W:List ah) (t2 t3 t4:T)
theorem arm(h:eJ x.store=true)(hb:0<=x.aQ∧x.aQ<=90)(hs:bI x.store)(hW:W.length<=25)(hn:bI W)(th:T)
  (hw:NZ [ii x.id,ii x.aQ,t2,t3,t4,th,.l (x.store.map aC)]=some [.l (W.map aC)]):
  AP [ii x.id,ii x.aQ,t2,t3,t4,th,.l (x.store.map aC)]=some [.l ((om x W).map aC)]:=by
 have hf:=ZQ h hs
 have sK:=hf.len
 have hq:=λr:ah=>λu4 u5 u6 u7=>ari (ii x.id) t2 t3 t4 th u4 u5 u6 u7 x r h hb (by omega)
 rw[ao1];simp(disch:=omega) only[↓pQ,pS,↓reduceIte,ak,ap,aq,au,av,aw,ax,ay,az,A0,A1,L1,hw]
 refine kC W (λi c=>[.l (c.map aC),ii i,.l (W.map aC)]) (pI x) (λc=>some [T.l ((x.store.foldl (rI x W) c).map aC)]) [] (λi c=>Fit i c) rfl (ek (by omega)) Fit.nil ?_ ?_
 ·intro i c hi hc
  have na:=hn.gt (n:=i) (by omega) hi
  refine⟨ZX hc na,λq=>?_⟩
  have mI:=hc.len
  have hk:=Mh x.store (gt W (i:Int)).ae (gt W (i:Int)).kind (gt W (i:Int)).owner (gt W (i:Int)).key (ii (gt W (i:Int)).seq) (.l ((gt W (i:Int)).bd.map fk)) (ii (gt W (i:Int)).cost) (bb (gt W (i:Int)).fT) (by omega)
  rw[A4]at hk
  have hq:=hq (gt W (i:Int)) (ii (gt W (i:Int)).seq) (.l ((gt W (i:Int)).bd.map fk)) (ii (gt W (i:Int)).cost) (bb (gt W (i:Int)).fT)
  have hp:=Fi c (gt W (i:Int)).ae (gt W (i:Int)).kind (gt W (i:Int)).owner (gt W (i:Int)).key (tI x (gt W (i:Int))) (gt W (i:Int)).bd (gt W (i:Int)).cost (gt W (i:Int)).fT (by omega) hc.bd hc.so na
  have a_:=xU x.store (gt W (i:Int))
  unfold pI pH
  by_cases h0:bL x.store (gt W (i:Int))<0
  ·simp(disch:=omega) only[↓pQ,pS,↓reduceIte,ak,ap,aq,au,av,aw,ax,ay,az,A0,A1,hi,hk,h0,hq,hp,decide_true,Bool.true_or]
   rfl
  ·have h1:0<=bL x.store (gt W (i:Int)):=by omega
   have oI:=YF (gt x.store (bL x.store (gt W (i:Int)))).ae (gt x.store (bL x.store (gt W (i:Int)))).kind (gt x.store (bL x.store (gt W (i:Int)))).owner (gt x.store (bL x.store (gt W (i:Int)))).key (gt x.store (bL x.store (gt W (i:Int)))).seq (gt x.store (bL x.store (gt W (i:Int)))).bd (gt x.store (bL x.store (gt W (i:Int)))).cost (gt x.store (bL x.store (gt W (i:Int)))).fT (gt W (i:Int)).ae (gt W (i:Int)).kind (gt W (i:Int)).owner (gt W (i:Int)).key (gt W (i:Int)).seq (gt W (i:Int)).bd (gt W (i:Int)).cost (gt W (i:Int)).fT (hs.gt h1 a_)
   rw[show(⟨(gt x.store (bL x.store (gt W (i:Int)))).ae,(gt x.store (bL x.store (gt W (i:Int)))).kind,(gt x.store (bL x.store (gt W (i:Int)))).owner,(gt x.store (bL x.store (gt W (i:Int)))).key,(gt x.store (bL x.store (gt W (i:Int)))).seq,(gt x.store (bL x.store (gt W (i:Int)))).bd,(gt x.store (bL x.store (gt W (i:Int)))).cost,(gt x.store (bL x.store (gt W (i:Int)))).fT⟩:ah)=gt x.store (bL x.store (gt W (i:Int))) from rfl,show(⟨(gt W (i:Int)).ae,(gt W (i:Int)).kind,(gt W (i:Int)).owner,(gt W (i:Int)).key,(gt W (i:Int)).seq,(gt W (i:Int)).bd,(gt W (i:Int)).cost,(gt W (i:Int)).fT⟩:ah)=gt W (i:Int) from rfl]at oI
   cases jm:yE (gt x.store (bL x.store (gt W (i:Int)))) (gt W (i:Int))with
   |true=>
    rw[jm]at oI
    simp(disch:=omega) only[↓pQ,pS,↓reduceIte,ak,ap,aq,au,av,aw,ax,ay,az,A0,A1,hi,hk,h0,h1,a_,oI,decide_false,Bool.false_or,Bool.not_true,dI]
   |false=>
    rw[jm]at oI
    simp(disch:=omega) only[↓pQ,pS,↓reduceIte,ak,ap,aq,au,av,aw,ax,ay,az,A0,A1,hi,hk,h0,h1,a_,oI,hq,hp,decide_false,Bool.false_or,Bool.not_false,dI]
    rfl
 ·intro c q hc
  simp(disch:=omega) only[↓pQ,pS,↓reduceIte,ak,ap,aq,au,av,aw,ax,ay,az,A0,A1,]
  refine kC x.store (λi c=>[.l (c.map aC),ii i]) (rI x W) (λc=>some [T.l (c.map aC)]) c (λi c=>Fit (25+i) c) rfl (ek (by omega)) (hc.mono (by omega)) ?_ ?_
  ·intro i c hi hc
   refine⟨ZY hc _,λq=>?_⟩
   have mI:=hc.len
   generalize hr:gt x.store (i:Int)=r
   have hk:=Mh W r.ae r.kind r.owner r.key (ii r.seq) (.l (r.bd.map fk)) (ii r.cost) (bb r.fT) (by omega)
   rw[A4]at hk
   have hq:=hq r (ii r.seq) (.l (r.bd.map fk)) (ii r.cost) (bb r.fT)
   have hg:=arj r (.l (r.bd.map fk))
   have oI:=YF (fy r).ae (fy r).kind (fy r).owner (fy r).key (fy r).seq (fy r).bd (fy r).cost (fy r).fT r.ae r.kind r.owner r.key r.seq r.bd r.cost r.fT (by rw[OI];simp)
   have hp:=Fi c (fy r).ae (fy r).kind (fy r).owner (fy r).key (tI x r) (fy r).bd (fy r).cost (fy r).fT (by omega) hc.bd hc.so (by rw[OI];simp)
   rw[show(⟨(fy r).ae,(fy r).kind,(fy r).owner,(fy r).key,(fy r).seq,(fy r).bd,(fy r).cost,(fy r).fT⟩:ah)=fy r from rfl,show(⟨r.ae,r.kind,r.owner,r.key,r.seq,r.bd,r.cost,r.fT⟩:ah)=r from rfl]at oI
   unfold rI qi
   simp only[aC]at hg
   by_cases h0:r.owner=x.id
   ·rw[h0]at hk hq hg oI
    by_cases h1:bL W r<0
    ·have h2:¬bL W r>=0:=by omega
     cases jm:yE (fy r) r with
     |true=>
      rw[jm]at oI
      simp(disch:=omega) only[↓pQ,pS,↓reduceIte,ak,ap,aq,au,av,aw,ax,ay,az,A0,A1,hi,hr,h0,hk,h1,h2,hg,oI,Bool.not_true,Bool.and_false,dI]
     |false=>
      have e0:(r.owner==x.id)=true:=by simpa using h0
      rw[jm]at oI
      simp(disch:=omega) only[↓pQ,pS,↓reduceIte,ak,ap,aq,au,av,aw,ax,ay,az,A0,A1,hi,hr,h0,hk,h1,h2,hg,oI,hq,hp,Bool.not_false,Bool.and_true,beq_self_eq_true,decide_true]
      rfl
    ·have h2:bL W r>=0:=by omega
     simp(disch:=omega) only[↓pQ,pS,↓reduceIte,ak,ap,aq,au,av,aw,ax,ay,az,A0,A1,hi,hr,h0,hk,h1,h2,decide_false,Bool.false_and,Bool.and_false,dI]
   ·have e0:(r.owner==x.id)=false:=by simpa using h0
    simp(disch:=omega) only[↓pQ,pS,↓reduceIte,ak,ap,aq,au,av,aw,ax,ay,az,A0,A1,hi,hr,h0,e0,Bool.false_and,dI]
  ·intro c q hc
   simp(disch:=omega) only[↓pQ,pS,↓reduceIte,ak,ap,aq,au,av,aw,ax,ay,az,A0,A1,]
end
theorem arn{α γ:Type} [Inhabited α](l:List α)(p:α->Bool)(g:γ->α->γ)(c:γ):
  JJ (λi _=>p (gt l (i:Int))) (λc i=>g c (gt l (i:Int))) l.length c=if l.all p=true then some (l.foldl g c)else none:=by
 have key:∀(m:List α) (o:γ),m.foldl (λ(o:Option γ) a=>o.bind λc=>if p a=true then some (g c a)else none) (some o)=if m.all p=true then some (m.foldl g o)else none:=by
  intro m
  induction m with
  |nil=>intro o;simp
  |cons a m ih=>
   intro o
   rw[List.foldl_cons,Option.bind_some]
   cases hp:p a with
   |true=>rw[if_pos rfl,ih];simp[hp]
   |false=>
    rw[if_neg (by decide)]
    have:∀m:List α,m.foldl (λ(o:Option γ) a=>o.bind λc=>if p a=true then some (g c a)else none) none=none:=by
     intro m;induction m with
     |nil=>rfl
     |cons a m ih=>exact ih
    rw[this];simp[hp]
 have e:l=(List.range l.length).map λi:Nat=>gt l (i:Int):=by
  refine List.ext_getElem (by simp) λi h1 h2=>?_
  rw[List.getElem_map,List.getElem_range,eS h1]
 rw[<-key]
 conv=>rhs;rw[e]
 rw[List.foldl_map]
 rfl
theorem aro(x:Self)(h1:x.net.ai.length<=1048576)(h2:x.net.aB.length<=1048576)(h3:x.heard.length<=1048576)(h4:x.store.length<=1048576)(h5:bI x.store):
  Wi [ii x.id,ii x.aQ,ii x.net.n,.l (x.net.ai.map df),.l (x.net.aB.map dH),.l (x.heard.map aG),.l (x.store.map aC)]=some (h_ x):=by
 have hN:AE [ii x.net.n,.l (x.net.ai.map df),.l (x.net.aB.map dH)]=some [ii x.net.n,.l (x.net.ai.map df),.l (x.net.aB.map dH)]:=by
  rw[Lu];simp(disch:=omega) only[↓pQ,pS,↓reduceIte,ak,ap,aq,au,av,aw,ax,ay,az,Yi]
 rw[aof];simp(disch:=omega) only[↓pQ,pS,↓reduceIte,ak,ap,aq,au,av,aw,ax,ay,az,LD,hN,sm _ h3,GX _ h4 h5]
 rfl
theorem arp(x:Self)(h1:x.net.ai.length<=1048576)(h2:x.net.aB.length<=1048576)(h3:x.heard.length<=1048576)(h4:x.store.length<=1048576)(h5:bI x.store):
  GF [ii x.id,ii x.aQ,ii x.net.n,.l (x.net.ai.map df),.l (x.net.aB.map dH),.l (x.heard.map aG),.l (x.store.map aC)]=some (h_ x):=by
 rw[X5];simp(disch:=omega) only[↓pQ,pS,↓reduceIte,ak,ap,aq,au,av,aw,ax,ay,az,E3,On _ h4 h5]
 rfl
theorem arq(s:List ah)(r:ah)(u4 u5 u6 u7:T)(h:s.length<=1048576)(hn:bI s):
  AA [.l (s.map aC),ii r.ae,ii r.kind,ii r.owner,ii r.key,u4,u5,u6,u7]=if bL s r<0 then some [ii 0,ii 0,ii 0,ii 0,ii 0,.l [],ii 0,bb false,bb false]else some (aC (gt s (bL s r))++[bb true]):=by
 have hk:=Mi s r.ae r.kind r.owner r.key u4 u5 u6 u7 h
 rw[A4]at hk
 have a_:=xU s r
 rw[anv]
 by_cases h0:bL s r<0
 ·rw[if_pos h0]
  simp(disch:=omega) only[↓pQ,pS,↓reduceIte,ak,ap,aq,au,av,aw,ax,ay,az,E4,hk,h0]
 ·rw[if_neg h0]
  have h1:0<=bL s r:=by omega
  have na:=hn.gt h1 a_
  simp(disch:=omega) only[↓pQ,pS,↓reduceIte,ak,ap,aq,au,av,aw,ax,ay,az,E4,hk,h0,h1,a_,Fc]
  rfl
theorem Na{x:Self}(S:List ah)(ht:x.net.aB.length<=4)(hh:x.heard.length<=1048576):Fit 25 (lA x S):=by
 have h1:=FN x
 have h2:=aqX x S
 have h3:=ZN x
 refine(Fit.mT (f:=same) (l:=eV x++nT x S++FM x) (λr hr=>?_) Fit.nil).mono ?_
 ·show r.bd.length<=_
  rcases List.mem_append.1 hr with hr|hr
  ·rcases List.mem_append.1 hr with hr|hr
   ·exact FO hh r hr
   ·unfold nT at hr
    split at hr
    ·obtain⟨a,_,hr⟩:=List.mem_flatMap.1 hr
     exact M8 _ _ _ _ r hr
    ·cases hr
  ·obtain⟨t,_,rfl⟩:=List.mem_map.1 hr
   simp[pG]
 ·simp only[List.length_append];omega
theorem ZZ{x:Self}{W:List ah}(hW:Fit 25 W)(hs:x.store.length<=150):Fit 175 (om x W):=by
 have h1:∀(l c:List ah) k,(∀r∈l,r.bd.length<=1048576)->Fit k c->Fit (k+l.length) (l.foldl (pI x) c):=by
  intro l
  induction l with
  |nil=>intro c k _ h;exact h
  |cons a l ih=>intro c k hl h;rw[List.foldl_cons,List.length_cons];exact(ih _ _ (λr hr=>hl r (.tail _ hr)) (ZX h (hl a (.head _)))).mono (by omega)
 have h2:∀(l c:List ah) k,Fit k c->Fit (k+l.length) (l.foldl (rI x W) c):=by
  intro l
  induction l with
  |nil=>intro c k h;exact h
  |cons a l ih=>intro c k h;rw[List.foldl_cons,List.length_cons];exact(ih _ _ (ZY h a)).mono (by omega)
 have hl:=hW.len
 exact(h2 _ _ _ (h1 W [] 0 hW.bd Fit.nil)).mono (by omega)
theorem ars{x:Self}(h:eJ x.store=true)(hb:0<=x.aQ∧x.aQ<=90)(W:List ah):∀r∈om x W,1<=r.seq:=by
 have hp:∀(c:List ah) (r:ah),1<=r.seq->(∀y∈c,1<=y.seq)->∀y∈dg c r,1<=y.seq:=by
  intro c r h1 h2 y hy
  rcases xJ hy with rfl|hy
  ·exact h1
  ·exact h2 y hy
 have h1:∀(l c:List ah),(∀y∈c,1<=y.seq)->∀y∈l.foldl (pI x) c,1<=y.seq:=by
  intro l
  induction l with
  |nil=>intro c h;exact h
  |cons a l ih=>
   intro c hc
   rw[List.foldl_cons]
   refine ih _ ?_
   unfold pI
   split
   ·exact hp _ _ (FR h hb a).1 hc
   ·exact hc
 have h2:∀(l c:List ah),(∀y∈c,1<=y.seq)->∀y∈l.foldl (rI x W) c,1<=y.seq:=by
  intro l
  induction l with
  |nil=>intro c h;exact h
  |cons a l ih=>
   intro c hc
   rw[List.foldl_cons]
   refine ih _ ?_
   unfold rI
   split
   ·exact hp _ _ (FR h hb a).1 hc
   ·exact hc
 exact h2 _ _ (h1 _ _ (by simp))
def jG(x:Self):Self×List ah:=if l8 x=true then vw x (lA x (pF x.store x.id (eV x)))else(x,[])
theorem art(x:Self)(h1:x.net.ai.length<=1048576)(h2:x.net.aB.length<=1048576)(h3:x.heard.length<=1048576)(h4:x.store.length<=1048576)(h5:bI x.store):
  AQ [ii x.id,ii x.aQ,ii x.net.n,.l (x.net.ai.map df),.l (x.net.aB.map dH),.l (x.heard.map aG),.l (x.store.map aC)]=some (h_ (jG x).1++[.l ((jG x).2.map aC)]):=by
 have hS:=Mc x.id x.aQ x.net.n x.net.ai x.net.aB x.heard x.store h1 h2 h3 h4 h5
 rw[show(⟨x.id,x.aQ,⟨x.net.n,x.net.ai,x.net.aB⟩,x.heard,x.store⟩:Self)=x from rfl]at hS
 have hC:=aro x h1 h2 h3 h4 h5
 simp only[h_]at hC
 cases hk:l8 x with
 |false=>
  rw[hk]at hS
  rw[show jG x=(x,[]) from by unfold jG;rw[if_neg (by rw[hk];decide)]]
  rw[Yk];simp(disch:=omega) only[↓pQ,pS,↓reduceIte,ak,ap,aq,au,av,aw,ax,ay,az,L2,E_,hS,hC,dI]
  rfl
 |true=>
  rw[hk]at hS
  rw[show jG x=vw x (lA x (pF x.store x.id (eV x))) from by unfold jG;rw[if_pos hk]]
  obtain⟨hN,ie,kH,jl,uS,cf⟩:=qg hk
  obtain⟨n1,hl,ht,hA,hT⟩:=ul hN
  have hW:=aq4 x.id x.aQ x.net.n x.net.ai x.net.aB x.heard x.store h1 h2 h3 h4 h5 hk
  rw[show(⟨x.id,x.aQ,⟨x.net.n,x.net.ai,x.net.aB⟩,x.heard,x.store⟩:Self)=x from rfl]at hW
  have Hc:=Na (x:=x) (pF x.store x.id (eV x)) ht h3
  generalize lA x (pF x.store x.id (eV x))=W at hW Hc
  have hf:=ZQ cf h5
  have hF:=arm x W _ _ _ cf kH h5 Hc.len Hc.bd _ hW
  have hlf:=ZZ (x:=x) Hc hf.len
  unfold vw
  generalize om x W=l at hF hlf
  have hll:=hlf.len
  rw[Yk];simp(disch:=omega) only[↓pQ,pS,↓reduceIte,ak,ap,aq,au,av,aw,ax,ay,az,L2,E_,hS,hC,hF,GX _ h4 h5]
  refine(ajU l.length (λi c=>[.l [],.l (c.map aC),ii i]) (λi _=>decide ((gt l (i:Int)).seq<=100000)) (λc i=>dg c (same (gt l (i:Int)))) (λc=>some (if c.length<=150 then h_ {x with store:=c}++[.l (l.map aC)]else h_ x++[.l []])) (g_:=some (h_ x++[.l []])) x.store (λi c=>Fit (150+i) c) rfl (ek (by omega)) hf ?_ ?_).trans ?_
  ·intro i c hi hc
   have na:=hlf.bd.gt (n:=i) (by omega) hi
   refine⟨λ_=>hc.put na,λq=>?_⟩
   have mI:=hc.len
   have hp:=Fi c (gt l (i:Int)).ae (gt l (i:Int)).kind (gt l (i:Int)).owner (gt l (i:Int)).key (gt l (i:Int)).seq (gt l (i:Int)).bd (gt l (i:Int)).cost (gt l (i:Int)).fT (by omega) hc.bd hc.so na
   by_cases hq:(gt l (i:Int)).seq<=100000
   ·have rJ:¬(gt l (i:Int)).seq>100000:=by omega
    simp(disch:=omega) only[↓pQ,pS,↓reduceIte,ak,ap,aq,au,av,aw,ax,ay,az,L2,hi,hq,rJ,hp,decide_true]
    rfl
   ·have rJ:(gt l (i:Int)).seq>100000:=by omega
    simp(disch:=omega) only[↓pQ,pS,↓reduceIte,ak,ap,aq,au,av,aw,ax,ay,az,L2,hi,hq,rJ,decide_false,dI]
    rfl
  ·intro c q hc
   by_cases hq:c.length<=150
   ·have rJ:¬(c.length:Int)>150:=by omega
    rw[if_pos hq]
    simp(disch:=omega) only[↓pQ,pS,↓reduceIte,ak,ap,aq,au,av,aw,ax,ay,az,L2,rJ]
    rfl
   ·have rJ:(c.length:Int)>150:=by omega
    rw[if_neg hq]
    simp(disch:=omega) only[↓pQ,pS,↓reduceIte,ak,ap,aq,au,av,aw,ax,ay,az,L2,rJ]
    rfl
  ·rw[arn l (λr=>decide (r.seq<=100000)) (λc r=>dg c (same r))]
   cases G_:l.all λr=>decide (r.seq<=100000)with
   |false=>
    rw[if_neg (by decide),if_neg (by rintro⟨h,_⟩;cases h)]
    rfl
   |true=>
    rw[if_pos rfl]
    show some (if(eU same x.store l).length<=150 then _ else _)=_
    by_cases hq:(eU same x.store l).length<=150
    ·rw[if_pos hq,if_pos ⟨rfl,hq⟩]
     rfl
    ·rw[if_neg hq,if_neg λh=>hq h.2]
     rfl
end Go.Proofs.YtjimmglpkndemaaGreatC
